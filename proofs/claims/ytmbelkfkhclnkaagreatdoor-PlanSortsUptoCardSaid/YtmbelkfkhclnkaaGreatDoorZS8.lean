/- Declarations that the closing texts need, part 8: joined by tools/slim.py. -/
import Derived.Test.YtmbelkfkhclnkaaGreatDoorZS7
import Derived.Lib.LazyBuf
set_option linter.unusedVariables false
set_option linter.unusedSimpArgs false
namespace Go.AM
open Go.RowKit
theorem BU {P:Program} {id:Nat} {d1 d2:Nat} {x:Operand} {t u e ty1 ty2:TypeId} {p1 p2:String} {af1 af2:Array Edge} {y:Code} {fr:List V} {H:List Obj} {Q:Exit->List V->List Obj->Prop} {cl:Bool} {xs:List PV}
  (hu:P.underlying t=some (.slice e)) (hx:ev fr x= .p (.list cl xs)) (hd:d1<fr.length)
  (k: ∀b,(b=true->xs= [])->AWP P y (pt (pt fr d1 (.p (.list cl xs))) d2 (.p (.bool b))) H Q) :
  AWP P (.seq ((Code.region id (List.toArray [⟨some d1,.move x,ty1,p1,af1,none⟩,⟨some d2,.binOp .eql t (.tmp d1) (.const (.slice none 0 0)) u,ty2,p2,af2,none⟩]) false)) y) fr H Q:=by
 refine Z0 fun F ι a w hr hf=>wp_region_list ?_;have hv:=hf.ev x;rw [hx] at hv;have f1:=hf.put (some d1) hv
 have hsz:d1<a.tmps.size:=by have:=hf.1;omega
 have hev:(a.put (some d1) (a.eval x)).eval (.tmp d1)=a.eval x:=by
  simp_all [Act.eval,Act.put]
 have hw1:Region.wanted (⟨some d1,.move x,ty1,p1,af1,none⟩:Oper) (yielded (List.toArray [⟨some d1,.move x,ty1,p1,af1,none⟩,⟨some d2,.binOp .eql t (.tmp d1) (.const (.slice none 0 0)) u,ty2,p2,af2,none⟩]) a.tmps)=true:=rfl;simp only [wpList];rw [if_pos hw1];refine .inl ?_;unfold Oper.wp
 have e1:(execOp a.eval ⟨some d1,.move x,ty1,p1,af1,none⟩).run P w= .ok (.value (a.eval x)) w:=by simp [execOp]
 rw [e1,Oper.upon_value];have hw2: ∀q,Region.wanted (⟨some d2,.binOp .eql t (.tmp d1) (.const (.slice none 0 0)) u,ty2,p2,af2,none⟩:Oper) q=true:=fun _=>rfl;rw [if_pos (hw2 _)];refine .inl ?_
 show Oper.upon P _ (a.put (some d1) (a.eval x)) _ _ ((execOp (a.put (some d1) (a.eval x)).eval _).run P w)
 cases hv with | p _ _ hv =>
 obtain ⟨ad,l,c,ha,hnil⟩: ∃ad l c,a.eval x= .slice ad l c/\(ad=none->xs= []):=by
  generalize a.eval x=v at hv
  cases hv with
  | nils=>simp
  | emp _ ad cap _ _ _=>simp
  | list _ _ b off cap S u=>simp
 have e2:(execOp (a.put (some d1) (a.eval x)).eval ⟨some d2,.binOp .eql t (.tmp d1) (.const (.slice none 0 0)) u,ty2,p2,af2,none⟩).run P w= .ok (.value (.bool ad.isNone)) w:=by
  have e3:(a.put (some d1) (a.eval x)).eval (.const (.slice none 0 0))= .slice none 0 0:=rfl
  simp_all [execOp,eqGuard_at_slice,Go.run_eql_slice_nil]
 rw [e2,Oper.upon_value];have f2:=f1.put (some d2) (x:= .p (.bool ad.isNone)) (v:= .bool ad.isNone) (.p _ _ (.bool _));exact ⟨_,H,ι,k ad.isNone (fun h=>hnil (by simp_all)),Good.refl hr,f2⟩
@[go_sem ↓] theorem bJ {P ds o l m fr H K} :Xm P ds (List.append (o::l) m) fr H K=Xm P ds (o::List.append l m) fr H K:=rfl
@[go_sem ↓] theorem bL {P ds m fr H K} :Xm P ds (List.append [] m) fr H K=Xm P ds m fr H K:=rfl
@[go_sem] theorem cU {α:Type} {x:α} {l m} :List.append (x::l) m=x::List.append l m:=rfl
@[go_sem] theorem nC {α:Type} {m:List α} :List.append [] m=m:=rfl
theorem XH {P:Program} {ops:Array Oper} {Q:Exit->Act->World->Prop} {r:List Oper} : ∀(l:List Oper) (fr:List V) (H:List Obj) (K:List V->List Obj->Prop),Xm P (ops.toList.map (·.dst)) l fr H K ->
  ∀F ι a w,Rel F H ι w->Fr F H ι w fr a ->
   (∀fr' H' ι' a' w',K fr' H'->Good F H ι w H' ι' w'->Fr F H' ι' w' fr' a'->wpList P ops Q r a' w')->wpList P ops Q (l++r) a w
 | [],fr,H,K,h,F,ι,a,w,hr,hf,hq=>hq fr H ι a w h (Good.refl hr) hf
 | o::l,fr,H,K,h,F,ι,a,w,hr,hf,hq=>by
  have step: ∀ {fr:List V} {a:Act},Fr F H ι w fr a->Zo P o fr H (fun x H'=>Xm P (ops.toList.map (·.dst)) l (W0 fr o.dst x) H' K)->o.wp P a w (wpList P ops Q (l++r)) Q:=fun hf h =>
   VJ h hr hf fun x H' ι' v w' hk g q=>XH l _ H' K hk F ι' _ w' g.rel ((g.fr hf).put o.dst q)
    fun fr' H2 ι2 a' w2 k2 g2 f2=>hq fr' H2 ι2 a' w2 k2 (g.trans g2) f2
  simp only [Xm] at h;simp only [List.cons_append,wpList]
  split at h
  ·rename_i hg
   have hw:Region.wanted o (yielded ops a.tmps)=true:=by simp [Region.wanted,hg]
   rw [if_pos hw];exact .inl (step hf h)
  ·rename_i j b hg;unfold ZT at h
   split at h
   rotate_left
   ·rename_i hc;have hy:=Ye hf hc
    have hw: ¬(Region.wanted o (yielded ops a.tmps)=true):=by simp [Region.wanted,hg,hy]
    rw [if_neg hw];exact XH l _ H K h F ι _ w hr (hf.put o.dst Yp) hq
   ·exact h.elim
   rename_i c hc;have hy:=Y9 hf hc
   by_cases hcb:c=b
   ·have hw:Region.wanted o (yielded ops a.tmps)=true:=by simp [Region.wanted,hg,hy,hcb]
    rw [if_pos hw];exact .inl (step hf (h.1 hcb))
   ·have hw: ¬(Region.wanted o (yielded ops a.tmps)=true):=by simp [Region.wanted,hg,hy,hcb]
    rw [if_neg hw];exact XH l _ H K (h.2 hcb) F ι _ w hr (hf.put o.dst Yp) hq
theorem RV.refB {F H ι w x v} (h:RV F H ι w x v):refB H.length x=true:=by
 have lt: ∀ {o:Nat} {ob:Obj},H[o]? =some ob->o<H.length:=fun h=>(List.getElem?_eq_some_iff.1 h).1
 have all: ∀(l:List V),(∀(j:Nat) (c:V),l[j]? =some c->AM.refB H.length c=true)->ZE H.length l=true:=fun l=>by
  induction l with
  | nil=>intro _;rfl
  | cons x l ih=>intro h;simp only [ZE,Bool.and_eq_true];exact ⟨h 0 x rfl,ih fun j c hj=>h (j+1) c (by simpa using hj)⟩
 induction h with
 | p=>rfl
 | agg cs a hs _ ih=>exact all cs ih
 | fn f cs ds a e hs ht _ _ ih1 ih2=>simp only [AM.refB,Bool.and_eq_true];exact ⟨all cs ih1,all ds ih2⟩
 | tup cs a hs _ ih=>exact all cs ih
 | ptr o off b cs h hH=>simp [AM.refB,lt hH]
 | ep o i j tot b S xs h hH ht=>simp [AM.refB,lt hH]
 | slNil o S a h hH=>simp [AM.refB,lt hH]
 | sl o off len tot b S cap t xs c h hH=>simp [AM.refB,lt hH]
 | lp=>rfl
 | mp o b es h hH=>simp [AM.refB,lt hH]
 | mpD o v h=>simp [AM.refB,lt h]
 | bp o b T E r bs h hH=>simp [AM.refB,lt hH]
 | bpD o v h=>simp [AM.refB,lt h]
 | err=>rfl
 | junk=>rfl
 | ptrD o off v h=>simp [AM.refB,lt h]
 | epD o i j tot v h=>simp [AM.refB,lt h]
 | slD o off len tot v h=>simp [AM.refB,lt h]
 | epS o i j tot v S xs h hne=>simp [AM.refB,lt h]
 | slS o off len tot v S xs h hne=>simp [AM.refB,lt h]
 | slC o tot b cap cs h hH hl hm=>simp [AM.refB,lt hH]
theorem Rel.refH {F H ι w} (h:Rel F H ι w):refH H.length H=true:=by
 rw [AM.refH,List.all_eq_true];intro ob hm;obtain ⟨o,ho⟩:=List.mem_iff_getElem?.1 hm
 cases ob with
 | cells cs =>
  obtain ⟨b,c,t,_,_,_,h4⟩:=h.cel o cs ho
  have: ∀(l:List V),(∀x∈l,refB H.length x=true)->ZE H.length l=true:=fun l=>by
   induction l with
   | nil=>intro _;rfl
   | cons x l ih=>simp_all [ZE]
  exact this cs fun x hx=>by
   obtain ⟨j,hj⟩:=List.mem_iff_getElem?.1 hx;exact (h4 j x hj).refB
 | elems=>rfl
 | map=>rfl
 | bld T E r bs=>simpa using (List.getElem?_eq_some_iff.1 (h.bldr o T E r bs ho).2.1).1
 | dead=>rfl
def Va (o:Oper):Oper:= { o with op:= .move (.tmp 1000000) }
def Wv : Nat->List Oper->List Oper
 | _,[]=> []
 | 0,o::l=>Va o::l
 | m+1,o::l=>o::Wv m l
theorem VB : ∀(m:Nat) (l:List Oper) (i:Nat),(Wv m l)[i]? =if i=m then (l[i]?).map Va else l[i]?
 | m,[],i=>by grind [Wv]
 | 0,o::l,0=>by simp [Wv]
 | 0,o::l,i+1=>by simp [Wv]
 | m+1,o::l,0=>by simp [Wv]
 | m+1,o::l,i+1=>by simp [Wv,VB m l i]
theorem Ct : ∀(m:Nat) (l:List Oper),(Wv m l).map (·.dst)=l.map (·.dst)
 | m,[]=>by grind [Wv]
 | 0,o::l=>by rfl
 | m+1,o::l=>by simp [Wv,Ct m l]
theorem Cu : ∀(m:Nat) (l:List Oper),(Wv m l).length=l.length
 | m,[]=>by grind [Wv]
 | 0,o::l=>by simp [Wv]
 | m+1,o::l=>by simp [Wv,Cu m l]
theorem DI : ∀ {fr:List V} {t:Nat},fr.length<=t->gt fr t= .junk
 | [],_,_=>rfl
 | _::_,0,h=>by simp at h
 | _::l,t+1,h=>by simp only [gt];exact DI (by simpa using h)
@[go_sem] theorem dA {o:Oper} {l} :Wv 0 (o::l)=Va o::l:=rfl
@[go_sem] theorem cZ {o:Oper} {l m} :Wv (m+1) (o::l)=o::Wv m l:=rfl
@[go_sem] theorem nN {d op t ps af g} :Va ⟨d,op,t,ps,af,g⟩=⟨d,.move (.tmp 1000000),t,ps,af,g⟩:=rfl
theorem N2 {fr:List V} {d:Option Nat} {x:V} :(W0 fr d x).length=fr.length:=by cases d<;>simp [W0,YG]
theorem N1 {fr:List V} {d:Option Nat} {v x:V} {t:Nat} (h:(W0 fr d v)[t]? =some x):(d=some t/\x=v/\t<fr.length)\/(d≠some t/\fr[t]? =some x):=by
 cases d with
 | none=>exact .inr ⟨Zb,h⟩
 | some d =>
  simp only [W0,YG] at h
  grind
theorem Jx {ds:List (Option Nat)} {vals:List V} {n:Nat} (hap:WU ds n=true) (hn:n<=ds.length) (hv:vals.length=n) {R:List Nat} {ls:List Nat} (hls: ∀j∈ls,j<n) {fr:List V} (hR: ∀t∈R,∀j,j<n->ds[j]? =some (some t)->j∈ls) :
  W6 R (Zx ds vals ls (ZD (ds.take n) fr)) (Zx ds vals (List.range n) (ZD (ds.take n) fr)):=fun t ht=>by
 apply K8
 by_cases hex: ∃j,j<n/\ds[j]? =some (some t)
 ·grind [UX,Xk]
 grind [Vw]
def YN : List Nat->List Oper->List Oper
 | [],l=>l
 | m::ms,l=>YN ms (Wv m l)
theorem J1 : ∀(ms:List Nat) (l:List Oper),(YN ms l).map (·.dst)=l.map (·.dst)
 | [],_=>rfl
 | m::ms,l=>by rw [YN,J1 ms,Ct]
theorem J2 : ∀(ms:List Nat) (l:List Oper),(YN ms l).length=l.length
 | [],_=>rfl
 | m::ms,l=>by rw [YN,J2 ms,Cu]
theorem U2 : ∀(ms:List Nat) (l:List Oper) (i:Nat),i ∉ ms->(YN ms l)[i]? =l[i]?
 | [],_,_,_=>rfl
 | m::ms,l,i,h=>by
  simp at h;rw [YN,U2 ms _ i h.2,VB,if_neg h.1]
theorem Jh : ∀(ms:List Nat) (l:List Oper) (i:Nat) (o:Oper),i∈ms->l[i]? =some o->(YN ms l)[i]? =some (Va o)
 | [],_,_,_,h,_=>by cases h
 | m::ms,l,i,o,h,ho=>by
  rw [YN]
  by_cases hi:i∈ms
  ·by_cases e:i=m
   ·subst e;have:=Jh ms (Wv i l) i (Va o) hi (by rw [VB,if_pos rfl,ho];rfl);rw [this];rfl
   ·exact Jh ms (Wv m l) i o hi (by rw [VB,if_neg e];exact ho)
  ·have e:i=m:=by
    grind
   subst e;rw [U2 ms _ _ hi,VB,if_pos rfl,ho];rfl
def ZK : List Oper->Nat->Oper
 | [],_=>default
 | o::_,0=>o
 | _::l,n+1=>ZK l n
theorem U1 : ∀(l:List Oper) (n:Nat),ZK l n=l.getD n default
 | [],n=>by simp [ZK]
 | o::l,0=>rfl
 | o::l,n+1=>by simp [ZK,U1 l n]
@[go_sem] theorem cW {o:Oper} {l} :ZK (o::l) 0=o:=rfl
@[go_sem] theorem cV {o:Oper} {l n} :ZK (o::l) (n+1)=ZK l n:=rfl
@[go_sem] theorem nO {l:List Oper} :YN [] l=l:=rfl
@[go_sem] theorem dB {m ms} {l:List Oper} :YN (m::ms) l=YN ms (Wv m l):=rfl
@[go_sem] theorem pY {H:List Obj} {n cs cs'} :Kz H n (.tup cs) (.tup cs')=(cs'=cs/\ZE n cs=true):=by simp [Kz,Mp,refB]
def eII (p:Int×Int):PV×PV:=(.int .i64 p.1,.int .i64 p.2)
def I0 (P:Program) (t:TypeId):Option (TypeDesc×Option PV):=match P.underlying t with
 | some (.map kt et)=>(P.underlying kt).map fun d=>(d,Wz P et)
 | _=>none
def Ak (l:List (Int×Int)) (k:Int):Option Nat:=l.findIdx? fun p=>decide (k=p.1)
def Vy (l:List (Int×Int)) (k:Int):Int:=match Ak l k with | some i=>((l[i]?).map (·.2)).getD 0 | none=>0
theorem QE (k:Int): ∀(l:List (Int×Int)) (n:Nat),Vx (.int .i64 k) (l.map eII) n=(Ak l k).map fun i=>(n+i,.int .i64 (((l[i]?).map (·.2)).getD 0))
 | [],n=>by rfl
 | p::l,n=>by
  have ih:=QE k l (n+1);simp only [List.map_cons,Vx,eII,Hd]
  by_cases h:k=p.1
  ·simp [h,Ak,List.findIdx?_cons]
  ·simp only [h,decide_false,Bool.false_eq_true,if_false];rw [ih];simp only [Ak,List.findIdx?_cons,h,decide_false,Bool.false_eq_true,if_false]
   cases l.findIdx? (fun p=>decide (k=p.1)) with
   | none=>rfl
   | some i=>simp;omega
theorem Cq {P t d z} (h:I0 P t=some (d,z)): ∃kt et,P.underlying t=some (.map kt et)/\P.underlying kt=some d/\Wz P et=z:=by
 unfold I0 at h
 split at h
 ·rename_i kt et hu;simp only [Option.map_eq_some_iff,Prod.mk.injEq] at h
  grind
 ·cases h
theorem Ag {P:Program} {H:List Obj} {kt:TypeId} {o:Nat} {l:List (Int×Int)} {k:Int} (hd:P.underlying kt=some (.int .i64)) (hH:oat H o= .map (l.map eII)):JX P H kt (.int .i64 k) o=some (l.map eII):=by
 simp [JX,hH,mkey,hd,eII,kpair]
theorem JZ {l:List (Int×Int)} {k:Int} {i:Nat} (h:Ak l k=some i): ∃v,l[i]? =some (k,v)/\Vy l k=v:=by
 grind [Ak,List.findIdx?_eq_some_iff_getElem,Vy]
section
variable {P : Program} {H : List Obj} {t : TypeId} {o : Nat} {l : List (Int × Int)} {k : Int} {K : V -> List Obj -> Prop}
theorem Cn (hT:I0 P t=some (.int .i64,some (.int .i64 0))) (hH:oat H o= .map (l.map eII)) (h:K (.p (.int .i64 (Vy l k))) H):Q7 (KP P H t (.mp o) (.p (.int .i64 k)) false) K:=by
 obtain ⟨kt,et,h1,h2,h3⟩:=Cq hT;simp only [KP,h1,Ag h2 hH,Option.bind_some,QE,h3]
 grind [Vy,Q7]
theorem DR {i:Nat} {v:Int} (hH:oat H o= .map (l.map eII)) (hm:Ak l k=some i) (h:(∀q,Vy (l.set i (k,v)) q=if q=k then v else Vy l q)->K .junk (H.set o (.map ((l.set i (k,v)).map eII)))):Q7 (VM H (.mp o) (.p (.int .i64 (i:Nat))) (.p (.int .i64 v))) K:=by
 obtain ⟨u,q1,q2⟩:=JZ hm;have hil:=(List.getElem?_eq_some_iff.1 q1).1
 have e1:(l.map eII)[i]? =some (eII (k,u)):=by grind
 simp only [VM,hH,Int.natCast_nonneg,if_true,Int.toNat_natCast,e1,Q7]
 have e2:(l.map eII).set i ((eII (k,u)).1,.int .i64 v)=(l.set i (k,v)).map eII:=by rw [List.map_set];rfl
 rw [e2];refine h fun q=> ?_
 have hkeys: ∀j:Nat,((l.set i (k,v))[j]?).map Prod.fst=(l[j]?).map Prod.fst:=fun j=>by
  grind
 have hmix: ∀q,Ak (l.set i (k,v)) q=Ak l q:=fun q=>by
  have key: ∀(a b:List (Int×Int)),a.map Prod.fst=b.map Prod.fst->Ak a q=Ak b q:=fun a b hab=>by
   have e: ∀c:List (Int×Int),Ak c q=(c.map Prod.fst).findIdx? fun z=>decide (q=z):=fun c=>by
    rw [List.findIdx?_map];rfl
   grind
  refine key _ _ (List.ext_getElem? fun j=> ?_)
  grind
 unfold Vy;rw [hmix]
 by_cases hq:q=k
 ·grind
 ·rw [if_neg hq]
  grind [JZ]
end
def D2 (l:List Oper):List (Nat×V)->List V->List V
 | [],fr=>fr
 | (m,y)::dn,fr=>W0 (D2 l dn fr) (ZK l m).dst y
theorem U9 (l:List Oper): ∀(dn:List (Nat×V)) (fr:List V),(D2 l dn fr).length=fr.length
 | [],_=>rfl
 | (m,y)::dn,fr=>by rw [D2,N2,U9 l dn fr]
theorem Bh (l:List Oper) {x:V} {t:Nat} : ∀(dn:List (Nat×V)) (fr:List V),(D2 l dn fr)[t]? =some x->(∃p,p∈dn/\(ZK l p.1).dst=some t/\x=p.2/\t<fr.length)\/fr[t]? =some x
 | [],_,h=> .inr h
 | (m,y)::dn,fr,h=>by
  rcases N1 h with ⟨h1,h2,h3⟩ | ⟨_,h2⟩
  ·exact .inl ⟨(m,y),Zb,h1,h2,by rw [U9] at h3;exact h3⟩
  ·rcases Bh l dn fr h2 with ⟨p,h3,h4⟩ | h3
   ·exact .inl ⟨p,by simp [h3],h4⟩
   ·exact .inr h3
theorem QI (l:List Oper) {R:List Nat} {f1 f2:List V} (hl:f1.length=f2.length) (h:W6 R f1 f2): ∀dn,W6 R (D2 l dn f1) (D2 l dn f2)
 | []=>h
 | (m,y)::dn=>fun t ht=>by
  have ih:=QI l hl h dn t ht
  have hl2:(D2 l dn f1).length=(D2 l dn f2).length:=by grind [U9]
  simp only [D2]
  cases (ZK l m).dst with
  | none=>exact ih
  | some d =>
   grind [W0,YG,Cg]
def Ww (l:List Oper) (rem:List Nat):List Nat:=rem.filter fun m=>rem.all fun m'=> !(Zz m (ZK l m)).contains m'
def W9 (P:Program) (H:List Obj) (l:List Oper):Nat->List Nat->List V->List Obj->(List V->List Obj->Prop)->Prop
 | 0,_,fr,L,K=>K fr L
 | n+1,rem,fr,L,K=> ∀m∈Ww l rem,∃y L',Zo P (ZK l m) fr (H++L) (fun x H'=>x=y/\H'=H++L')/\W9 P H l n (rem.erase m) (W0 fr (ZK l m).dst y) L' K
def gM (P:Program) (F:Nat->Prop) (H:List Obj) (l:List Oper) (ms:List Nat) (bs:List V) (K:List V->List Obj->Prop) (ds:List (Option Nat)) (fr vals:List V) (n:Nat) (ι0:List (Option Nat)) (w0:World) (listed:Array Bool) (a:Act) (w:World):Prop :=
 ∃(rem:List Nat) (dn:List (Nat×V)) (L:List Obj),rem.Nodup/\(∀m∈rem,m∈ms)/\(∀m∈ms,listed.getD m false=decide (m ∉ rem))/\(∀p∈dn,p.1∈ms/\p.1 ∉ rem)/\W9 P H l rem.length rem (D2 l dn bs) L K /\
  ∃ι ιL,ι.length=H.length/\Mid (Own F ιL) H ds fr vals n listed ι a w/\Good F H ι0 w0 (H++L) (ι++ιL) w /\
   ∀p∈dn,∀d,(ZK l p.1).dst=some d->d<fr.length->RV F (H++L) (ι++ιL) w p.2 (a.tmps.getD d undef)
theorem De {P:Program} {ops:Array Oper} {Q:Exit->Act->World->Prop} {F H fr vals} {n:Nat} {l:List Oper} {ms:List Nat} {K:List V->List Obj->Prop} (hol:ops.toList=l) (hB:YF ops n=true) (hvl:vals.length=n)
  (hms: ∀m∈ms,m<n/\ops[m]? =some (ZK l m)/\(ZK l m).guard=none/\vals[m]? =some .junk)
  (hrd: ∀m∈ms,∀t∈Wb (ZK l m).op,∀j,j<n->(ops.toList.map (·.dst))[j]? =some (some t)->j∈Zz m (ZK l m))
  (hok: ∀(i:Nat) (o:Oper),i<n->i ∉ ms->ops[i]? =some o->By P (ops.toList.map (·.dst)) (ZD ((ops.toList.map (·.dst)).take n) fr) H vals i o) {ι0 w0}
  (ht: ∀fr' L ι a w,K fr' L->Good F H ι0 w0 (H++L) ι w->Fr F (H++L) ι w fr' a->wpList P ops Q (ops.toList.drop n) a w) :
  ∀(u:Nat) (listed:Array Bool) (a:Act) (w:World),HeadInv .any ops n listed->((List.range n).filter fun i=> !listed.getD i false).length=u ->
   gM P F H l ms (Zx (ops.toList.map (·.dst)) vals (List.range n) (ZD ((ops.toList.map (·.dst)).take n) fr)) K (ops.toList.map (·.dst)) fr vals n ι0 w0 listed a w->wpAny P .any ops Q (u+(ops.size-n)) listed a w:=by
 simp only [YF,Bool.and_eq_true,decide_eq_true_eq,Bool.or_eq_true] at hB;obtain ⟨⟨⟨⟨hn,hsc⟩,hea⟩,hap⟩,hseq⟩:=hB
 have hdl:n<=(ops.toList.map (·.dst)).length:=by grind
 -- the frame at late operations done, azs far azs is listed
 have frAt: ∀ {dn:List (Nat×V)} {L:List Obj} {listed:Array Bool} {ι ιL:List (Option Nat)} {a:Act} {w:World} (ls:List Nat),(∀j∈ls,j<n/\listed.getD j false=true)->Mid (Own F ιL) H (ops.toList.map (·.dst)) fr vals n listed ι a w ->
   (∀p∈dn,∀d,(ZK l p.1).dst=some d->d<fr.length->RV F (H++L) (ι++ιL) w p.2 (a.tmps.getD d undef)) ->
   Fr F (H++L) (ι++ιL) w (D2 l dn (Zx (ops.toList.map (·.dst)) vals ls (ZD ((ops.toList.map (·.dst)).take n) fr))) a:=fun {dn L listed ι ιL a w} ls hls mid slot=>by
  obtain ⟨f1,f2,f3⟩:=mid.fr ls hls;refine ⟨by rw [U9];exact f1,f2,fun t x hx=> ?_⟩;rcases Bh l dn _ hx with ⟨p,h1,h2,rfl,h4⟩ | h1
  ·grind [Xk,Xv]
  ·exact (f3 t x h1).widen
 intro u
 induction u with
 | zero =>
  intro listed a w inv hm mid
  have Z7: ∀i,i<n->listed.getD i false=true:=fun i hi=>by
   have h0:=List.eq_nil_of_length_eq_zero hm
   have:i ∉ (List.range n).filter fun i=> !listed.getD i false:=by rw [h0];simp
   grind
  have hl:listed=Array.replicate n true++Array.replicate (ops.size-n) false:=by
   refine Array.ext (by simp [inv.size];omega) fun i h1 h2=> ?_
   by_cases hi:i<n
   ·have:=Z7 i hi;rw [Array.getElem_append_left (by grind)];simp [h1] at this;simp [this]
   ·have:=inv.tail i Za (by grind);rw [Array.getElem_append_right (by simp;omega)];simp [h1] at this;simp [this]
  obtain ⟨rem,dn,L,hnd,hrm,hst,hdn,hlt,ι,ιL,hιl,mid,gd,slot⟩:=mid
  have hs:rem= []:=by
   cases rem with
   | nil=>rfl
   | cons m r =>
    have h1:=hst m (hrm m Zb)
    grind
  subst hs;have hw:=ht _ L (ι++ιL) a w hlt gd (frAt (List.range n) (fun j hj=>⟨List.mem_range.1 hj,Z7 j (List.mem_range.1 hj)⟩) mid slot);have:=wpAny_of_seq (md:= .any) (Q':=Q) (ops.toList.drop n) n listed a w (fun j=>Zb) (by grind) hw
  grind
 | succ u ih =>
  intro listed a w inv hm mid
  have hun: ∃i,i<n/\listed.getD i false=false:=by
   cases hf:(List.range n).filter fun i=> !listed.getD i false with
   | nil=>grind
   | cons i l =>
    have:i∈(List.range n).filter fun i=> !listed.getD i false:=by rw [hf];simp
    grind
  have hsz: ∀ {i},i<n->i<listed.size:=fun h=>by rw [inv.size];omega
  have hready:Region.ready .any ops listed≠ []:=by
   obtain ⟨i,hi,hu⟩:=hun
   have: ∃i,i<n/\listed.getD i false=false/\ ∀j,j<i->listed.getD j false=true:=by
    induction i using Nat.strongRecOn with
    | _ i ihh =>
     by_cases hex: ∃j,j<i/\listed.getD j false=false
     ·obtain ⟨j,hj,hju⟩:=hex;exact ihh j hj Za hju
     grind
   obtain ⟨i,hi,hu,hmin⟩:=this;intro h0
   have:i∈Region.ready .any ops listed:=by
    have hlt:i<ops.size:=Za
    refine mem_ready.2 ⟨getD_in (hsz hi) hu,ops[i],by simp [hlt],fun e he hb=> ?_⟩;have h1:=List.all_eq_true.1 hea i (List.mem_range.2 hi)
    grind [Array.all_eq_true_iff_forall_mem]
   grind
  rw [show u+1+(ops.size-n)=(u+(ops.size-n))+1 by omega];refine ⟨fun h0=>absurd h0 hready,fun i hi=> ?_⟩
  have hin:i<n:=by
   rcases hsc with h | ⟨hs,hc⟩
   ·obtain ⟨_,o,ho,_⟩:=mem_ready.1 hi
    grind
   ·rcases Nat.lt_or_ge i n with h | h
    ·exact h
    ·obtain ⟨k,hk,hu⟩:=hun
     by_cases hne:n<ops.size
     ·exact absurd hi (tail_waits hs hc hne inv _ k rfl hk (getD_in (hsz hk) hu) i h)
     grind [mem_ready]
  obtain ⟨hiu,o,ho,Z7⟩:=mem_ready.1 hi
  have hds:(ops.toList.map (·.dst))[i]? =some o.dst:=by simp [ho]
  have hdeps: ∀j∈Zz i o,j<n/\listed.getD j false=true:=fun j hj=>by
   refine ⟨by have:=X0 j hj;omega,?_⟩;simp [Zz] at hj
   grind
  have hcount:((List.range n).filter fun k=> !(listed.setIfInBounds i true).getD k false).length=u:=by
   have e:((List.range n).filter fun k=> !(listed.setIfInBounds i true).getD k false)=((List.range n).filter fun k=> !listed.getD k false).filter (fun k=>k≠i):=by
    rw [List.filter_filter];refine List.filter_congr fun k hk=> ?_
    by_cases hki:k=i
    ·subst hki;simp [hsz hin]
    ·rw [getD_set_ne false (fun h=>hki h.symm)];simp [hki]
   rw [e]
   have hmem:i∈(List.range n).filter fun k=> !listed.getD k false:=by
    grind
   have hnd:((List.range n).filter fun k=> !listed.getD k false).Nodup:=List.nodup_range.filter _;have:=List.Nodup.erase_eq_filter hnd i
   grind
  have next: ∀v w',gM P F H l ms (Zx (ops.toList.map (·.dst)) vals (List.range n) (ZD ((ops.toList.map (·.dst)).take n) fr)) K (ops.toList.map (·.dst)) fr vals n ι0 w0 (listed.setIfInBounds i true) (a.put o.dst v) w'->wpAny P .any ops Q (u+(ops.size-n)) (listed.setIfInBounds i true) (a.put o.dst v) w':=fun v w' h =>
   ih _ _ w' (inv.set hi hin) hcount h
  have hiu2:listed.getD i false=false:=getD_both hiu;obtain ⟨rem,dn,L,hnd,hrm,hst,hdn,hlt,ι,ιL,hιl,mid,gd,slot⟩:=mid
  -- a slot that this operation does not write
  have hoth: ∀ {e:Nat} {v:Value},o.dst≠some e->((a.put o.dst v).tmps).getD e undef=a.tmps.getD e undef:=fun {e v} hne=>by
   cases hdst:o.dst with
   | none=>rfl
   | some d =>
    have hne2:d≠e:=fun h=>hne (by rw [hdst,h]);simp [Act.put,Array.getD_eq_getD_getElem?,Array.getElem?_setIfInBounds_ne hne2]
  have hapart: ∀ {j e:Nat},j<n->j≠i->(ops.toList.map (·.dst))[j]? =some (some e)->o.dst≠some e:=fun {j e} hj hji hd h=>by
   have:=List.all_eq_true.1 (List.all_eq_true.1 hap i (List.mem_range.2 hin)) j (List.mem_range.2 hj)
   grind
  have hdm: ∀m∈ms,(ops.toList.map (·.dst))[m]? =some (ZK l m).dst:=fun m hm=>by
   grind
  unfold wpOp;simp only [ho]
  by_cases him:i∈ms
  ·-- a late one
   obtain ⟨_,hom,hgm,hvm⟩:=hms i him;rw [hom] at ho;simp at ho;subst ho
   have hir:i∈rem:=by
    grind
   have hrl:i∈Ww l rem:=by
    rw [Ww,List.mem_filter]
    grind
   obtain ⟨k,hk⟩: ∃k,rem.length=k+1:=⟨rem.length-1,by grind⟩;rw [hk] at hlt;obtain ⟨y,L',hstep,hlt'⟩:=hlt i hrl
   let ls:=(List.range n).filter fun j=>listed.getD j false
   have hls: ∀j∈ls,j<n/\listed.getD j false=true:=fun j hj=>by grind
   have hfr:=frAt (dn:=dn) (L:=L) ls hls mid slot
   have hag:W6 (Wb (ZK l i).op) (Zx (ops.toList.map (·.dst)) vals ls (ZD ((ops.toList.map (·.dst)).take n) fr)) (Zx (ops.toList.map (·.dst)) vals (List.range n) (ZD ((ops.toList.map (·.dst)).take n) fr)) :=
    Jx hap hdl hvl (fun j hj=>(hls j hj).1) fun t ht j hj hd=>by
     have:=hdeps j (hrd i him t ht j hj hd);simpa [ls] using this
   have hl:=(Vk (QI l (by simp [Xk]) hag dn)).2 hstep
   have hw:Region.wanted (ZK l i) (yielded ops a.tmps)=true:=by simp [Region.wanted,hgm]
   rw [if_pos hw];refine .inl (VJ hl gd.rel hfr fun x H' ι' v w' hk g r=> ?_);obtain ⟨hx,rfl⟩:=hk;subst hx
   obtain ⟨ι1,ιL',rfl,hl1⟩: ∃ι1 ιL',ι'=ι1++ιL'/\ι1.length=H.length:=⟨ι'.take H.length,ι'.drop H.length,(List.take_append_drop _ _).symm,by
    have:=g.rel.len;rw [List.length_append] at this
    simp;omega⟩
   have trans: ∀ {x:V} {v:Value},RV (Own F ιL) H ι w x v->RV (Own F ιL') H ι1 w' x v:=fun {x v} h=>(g.rv h.widen).narrow hl1 h.refB
   have Zx: ∀m∈ms,(listed.setIfInBounds i true).getD m false=decide (m ∉ rem.erase i):=fun m hm=>by
    by_cases e:m=i
    ·subst e;simp [hsz hin,hnd.not_mem_erase]
    ·rw [getD_set_ne false (fun h=>e h.symm),hst m hm]
     grind
   have hpi: ∀p∈dn,p.1≠i:=fun p hp e=>(hdn p hp).2 (e ▸ hir);refine next v w' ⟨rem.erase i,(i,x)::dn,L',hnd.erase i,fun m hm=>hrm m (List.mem_of_mem_erase hm),Zx,fun p hp=> ?_,?_,ι1,ιL',hl1,⟨g.rel.front hl1 mid.rel.refH,?_,?_,fun t z ht' hnt=> ?_,fun j e z hj hlj hd hz hlt=> ?_⟩,gd.trans g,fun p hp d hd hlt=> ?_⟩
   ·rcases List.mem_cons.1 hp with rfl | hp
    ·grind
    grind
   ·have:(rem.erase i).length=k:=by grind
    rw [this];exact hlt'
   ·cases (ZK l i).dst<;>simp [Act.put,mid.size]
   ·cases (ZK l i).dst<;>exact mid.defers
   ·rw [hoth (fun e=>hnt (by
     rw [List.mem_iff_getElem?]
     exact ⟨i,by grind⟩))]
    exact trans (mid.old t z ht' hnt)
   ·by_cases hij:j=i
    ·subst hij;rw [hvm] at hz;simp at hz;subst hz;exact .junk _
    ·have hl':listed.getD j false=true:=by rwa [getD_set_ne false (fun h=>hij h.symm)] at hlj
     rw [hoth (hapart hj hij hd)];exact trans (mid.new j e z hj hl' hd hz hlt)
   ·rcases List.mem_cons.1 hp with rfl | hp
    ·simp only at hd;rw [hd]
     have:d<a.tmps.size:=by rw [mid.size];exact hlt
     have e2:((a.put (some d) v).tmps).getD d undef=v:=by simp [Act.put,Array.getD,this]
     grind
    ·have hpm:=(hdn p hp).1;rw [hoth (hapart (hms _ hpm).1 (hpi p hp) (by grind))];exact g.rv (slot p hp d hd hlt)
  ·-- another
   obtain ⟨z,hz,hok'⟩:=hok i o hin him ho;have hfr:=mid.fr _ hdeps
   have next': ∀ι' v w',Good (Own F ιL) H ι w H ι' w'->RV (Own F ιL) H ι' w' z v->wpAny P .any ops Q (u+(ops.size-n)) (listed.setIfInBounds i true) (a.put o.dst v) w':=fun ι' v w' g r=>by
    have g2:=Good.front hιl gd.rel g rfl;refine next v w' ⟨rem,dn,L,hnd,hrm,fun m hm=> ?_,hdn,hlt,ι',ιL,g.rel.len,mid.put hap g hin hds hz r,gd.trans g2,fun p hp d hd hlt=> ?_⟩
    ·rw [getD_set_ne false (fun (e:i=m)=>him (e ▸ hm))];grind
    ·have hpm:=(hdn p hp).1;rw [hoth (hapart (hms _ hpm).1 (fun h=>him (h ▸ hpm)) (by grind))];exact g2.rv (slot p hp d hd hlt)
   have run:Zs P o (Zx (ops.toList.map (·.dst)) vals (Zz i o) (ZD ((ops.toList.map (·.dst)).take n) fr)) H (fun x H'=>x=z/\H'=H)->o.wp P a w (wpAny P .any ops Q (u+(ops.size-n)) (listed.setIfInBounds i true)) Q:=fun h =>
    QQ h mid.rel hfr fun x H' ι' v w' hk g r=>by
     grind
   split at hok'
   ·rename_i hg
    have hw:Region.wanted o (yielded ops a.tmps)=true:=by simp [Region.wanted,hg]
    grind
   ·rename_i j b hg;rcases hok' with ⟨c,hc,h1,h2⟩ | ⟨hc,hyt⟩
    rotate_left
    ·have hyl:=Ye hfr hc
     have hw: ¬(Region.wanted o (yielded ops a.tmps)=true):=by grind [Region.wanted]
     rw [if_neg hw];exact next' ι undef w (Good.refl mid.rel) (by grind [Yp])
    have hyl:=Y9 hfr hc
    by_cases hcb:c=b
    ·have hw:Region.wanted o (yielded ops a.tmps)=true:=by grind [Region.wanted]
     grind
    ·have hw: ¬(Region.wanted o (yielded ops a.tmps)=true):=by grind [Region.wanted]
     rw [if_neg hw];exact next' ι undef w (Good.refl mid.rel) (by grind [Yp])
def A2 (l : List Oper) (n : Nat) (ms : List Nat) : Bool :=
  (ms.all fun m => decide (m < n) && decide (m < l.length) && ((ZK l m).guard.isNone && (Wb (ZK l m).op).all fun t => (List.range n).all fun j => match (l.map (·.dst))[j]? with
        | some (some d) => decide (d ≠ t) || (Zz m (ZK l m)).contains j
        | _ => true)) && decide ms.Nodup
theorem Y1 (ms:List Nat) {P:Program} {id:Nat} {l:List Oper} {fr:List V} {H:List Obj} {Q:Exit->List V->List Obj->Prop} {t} (n:Nat) (hm:P.follows .mixedOrders=true) (hB:YF (List.toArray l) n=true) (hR:Uz (List.toArray (YN ms l)) n=true) (hL:A2 l n ms=true) (hfl:fr.length<=1000000)
  (h:hs P (l.map (·.dst)) H (Zp (fun fr'=>W9 P H l ms.length ms (Fa fr') [] (Zp (fun fr2 L=>Xm P (l.map (·.dst)) (l.drop n) fr2 (H++L) (Zp (Q .normal) ⟨⟩)) ⟨⟩)) ⟨⟩) ((YN ms l).take n) (Fa fr)) :
  AWP P (.region id (Zp (List.toArray l) t) true) fr H Q:=fun F ι a w hr hf=>by
 refine wp_region_any hm ?_;have hB':=hB;simp only [YF,Bool.and_eq_true,decide_eq_true_eq] at hB';obtain ⟨⟨⟨⟨hn,_⟩,_⟩,hap⟩,_⟩:=hB'
 have hn2:n<=l.length:=Za
 simp only [A2,Bool.and_eq_true,List.all_eq_true,decide_eq_true_eq] at hL;obtain ⟨hL1,hL3⟩:=hL;have hds:(YN ms l).map (·.dst)=l.map (·.dst):=J1 ms l;have hh:=E8 (P:=P) (H:=H) (ops:=List.toArray (YN ms l)) (n:=n) (fr:=fr) (K:=fun fr'=>W9 P H l ms.length ms fr' [] (fun fr2 L=>Xm P (l.map (·.dst)) (l.drop n) fr2 (H++L) (Q .normal))) (by grind [J2]) (by grind) hR _ 0 [] (Nat.zero_le _) rfl (by simp;rfl) (by simp_all [Zx,Zp,Fa]);obtain ⟨ys,h1,⟨h2a,h2b⟩,h3⟩:=UV _ 0 [] rfl hh;simp only [List.nil_append,hds] at h2a h2b h3;have hlen:ys.length=n:=h2a
 have g0:=Good.drew hr;have hf0:=g0.fr hf;have hget: ∀k,k<n->((YN ms l).take n)[k]? =(YN ms l)[k]? :=fun k hk=>List.getElem?_take_of_lt hk;have hjl:(ZD ((l.map (·.dst)).take n) fr).length=fr.length:=Xv _ _
 have hlat: ∀m∈ms,m<n/\l[m]? =some (ZK l m)/\(ZK l m).guard=none:=fun m hm=>by
  obtain ⟨⟨h4,h5⟩,h6,_⟩:=hL1 m hm;exact ⟨h4,by grind [U1],by simpa using h6⟩
 have hvm: ∀m∈ms,ys[m]? =some .junk:=fun m hm=>by
  obtain ⟨q1,q2,q3⟩:=hlat m hm;obtain ⟨z,hy,hk⟩:=h3 m (Va (ZK l m)) (by grind [Jh]);rw [Nat.zero_add] at hy;have e1:(Va (ZK l m)).guard=none:=q3;rw [e1] at hk;simp only [Va,Zs,Zo,Xc,X6,FW,ZG] at hk
  have hk2:gt (Zx (l.map (·.dst)) ys (Zz (0+m) { ZK l m with op:= .move (.tmp 1000000) }) (ZD ((l.map (·.dst)).take n) fr)) 1000000=z:=by grind [ev]
  grind [DI,Xk]
 have hfin:Zx (l.map (·.dst)) ys (List.range n) (ZD ((l.map (·.dst)).take n) fr)=Zx (l.map (·.dst)) ys (List.range n) fr:=JP hap (by grind) hlen
 have:=De (Q:=fun e a' w'=> ∃fr' H' ι',Q e fr' H'/\Good F H ι w H' ι' w'/\Fr F H' ι' w' fr' a') (F:=F) (fr:=fr) (vals:=ys) (P:=P) (H:=H) (l:=l) (ms:=ms) (K:=fun fr2 L=>Xm P (l.map (·.dst)) (l.drop n) fr2 (H++L) (Q .normal)) (ops:=List.toArray l) (ι0:=ι) (w0:= { w with drawn:=w.drawn+1 }) rfl hB hlen
  (fun m hm=>⟨(hlat m hm).1,by grind,(hlat m hm).2.2,hvm m hm⟩)
  (fun m hm t ht j hj hd=>by
   obtain ⟨_,_,h5⟩:=hL1 m hm;have h6:=h5 t ht j (List.mem_range.2 hj);simp only at hd;rw [hd] at h6
   grind)
  (fun i o hi him ho=>by
   have:=h3 i o (by
    grind [U2])
   grind)
  (fun fr2 L ι1 a1 w1 k1 g1 f1=>Z6 (P:=P) (ops:=List.toArray l) _ _ (H++L) _ k1 F ι1 a1 w1 g1.rel f1 fun fr' H' ι' a' w' k g f=>⟨fr',H',ι',k,g0.trans (g1.trans g),f⟩)
  n (Array.replicate l.length false) a { w with drawn:=w.drawn+1 }
  ⟨Zb,fun j oj _ hl=>(by grind [getD_replicate_false]),fun t _ ht=>getD_in (by grind) (getD_replicate_false _ _)⟩
  (by
   grind [List.filter_eq_self,getD_replicate_false])
  ⟨ms,[],[],hL3,fun m hm=>hm,fun m hm=>by grind [getD_replicate_false],fun p hp=>(by cases hp),by
    grind [D2],ι,[],hr.len,by
   have g1:Rel F (H++ []) (ι++ []) { w with drawn:=w.drawn+1 } :=by simpa using g0.rel
   have r1:=g1.front hr.len hr.refH
   exact ⟨r1,hf0.1,hf0.2.1,fun t x ht _=>RV.narrow (L:= []) hr.len (by simpa using hf0.2.2 t x ht) (hf0.2.2 t x ht).refB,fun j d x _ hl=>by grind [getD_replicate_false]⟩,
   by simpa using Good.refl g0.rel,fun p hp=>(by cases hp)⟩
 grind [Zp]
theorem YM {P H l rem fr L K} (h:K fr L):W9 P H l 0 rem fr L K:=h
theorem Fj {P H l n rem fr L K} (rs:List Nat) (hr:Ww l rem=rs) (h: ∀m∈rs,∃y L',Zo P (ZK l m) fr (H++L) (fun x H'=>x=y/\H'=H++L')/\W9 P H l n (rem.erase m) (W0 fr (ZK l m).dst y) L' K):W9 P H l (n+1) rem fr L K:=fun m hm=>h m (hr ▸ hm)
theorem Z8 {P H l n rem fr L K} (m:Nat) (y:V) (L':List Obj) (hr:Ww l rem= [m]) (h:Zo P (ZK l m) fr (H++L) (fun x H'=>x=y/\H'=H++L')) (k:W9 P H l n (rem.erase m) (W0 fr (ZK l m).dst y) L' K):W9 P H l (n+1) rem fr L K :=
 Fj [m] hr fun m' hm'=>by
  grind
theorem VU {P H l n rem fr L K} (m m2:Nat) (y:V) (L':List Obj) (y2:V) (L2:List Obj) (hr:Ww l rem= [m,m2]) (h:Zo P (ZK l m) fr (H++L) (fun x H'=>x=y/\H'=H++L')) (h2:Zo P (ZK l m2) fr (H++L) (fun x H'=>x=y2/\H'=H++L2))
  (k:W9 P H l n (rem.erase m) (W0 fr (ZK l m).dst y) L' K) (k2:W9 P H l n (rem.erase m2) (W0 fr (ZK l m2).dst y2) L2 K):W9 P H l (n+1) rem fr L K :=
 Fj [m,m2] hr fun m' hm'=>by
  grind
end Go.AM
