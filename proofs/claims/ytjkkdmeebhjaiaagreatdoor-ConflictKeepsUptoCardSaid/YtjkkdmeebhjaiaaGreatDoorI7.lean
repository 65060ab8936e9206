/- Declarations that the closing texts need, part 7: joined by tools/slim.py. -/
import Derived.Test.YtjkkdmeebhjaiaaGreatDoorI6
import Derived.Lib.LazyBuf
set_option linter.unusedVariables false
set_option linter.unusedSimpArgs false
namespace Go.AM
open Go.RowKit
theorem DP {P:Program} {id:Nat} {d1 d2:Nat} {x:Operand} {t u e ty1 ty2:TypeId} {p1 p2:String} {af1 af2:Array Edge} {y:Code} {fr:List V} {H:List Obj} {Q:Exit->List V->List Obj->Prop} {cl:Bool} {xs:List PV}
  (hu:P.underlying t=some (.slice e)) (hx:ev fr x= .p (.list cl xs)) (hd:d1<fr.length)
  (k: ∀b,(b=true->xs= [])->AWP P y (pt (pt fr d1 (.p (.list cl xs))) d2 (.p (.bool b))) H Q) :
  AWP P (.seq ((Code.region id (List.toArray [⟨some d1,.move x,ty1,p1,af1,none⟩,⟨some d2,.binOp .eql t (.tmp d1) (.const (.slice none 0 0)) u,ty2,p2,af2,none⟩]) false)) y) fr H Q:=by
 refine Wj fun F ι a w hr hf=>wp_region_list ?_;have hv:=hf.ev x;rw [hx] at hv;have f1:=hf.put (some d1) hv
 have hsz:d1<a.tmps.size:=by have:=hf.1;omega
 have hev:(a.put (some d1) (a.eval x)).eval (.tmp d1)=a.eval x:=by
  simp_all [Act.eval,Act.put]
 have hw1:Region.wanted (⟨some d1,.move x,ty1,p1,af1,none⟩:Oper) (yielded (List.toArray [⟨some d1,.move x,ty1,p1,af1,none⟩,⟨some d2,.binOp .eql t (.tmp d1) (.const (.slice none 0 0)) u,ty2,p2,af2,none⟩]) a.tmps)=true:=rfl;simp only [wpList];rw [if_pos hw1];refine .inl ?_;unfold Oper.wp
 have e1:(execOp a.eval ⟨some d1,.move x,ty1,p1,af1,none⟩).run P w= .ok (.value (a.eval x)) w:=by simp [execOp]
 rw [e1,Oper.upon_value];have hw2: ∀q,Region.wanted (⟨some d2,.binOp .eql t (.tmp d1) (.const (.slice none 0 0)) u,ty2,p2,af2,none⟩:Oper) q=true:=fun _=>rfl;rw [if_pos (hw2 _)];refine .inl ?_
 show Oper.upon P _ (a.put (some d1) (a.eval x)) _ _ ((execOp (a.put (some d1) (a.eval x)).eval _).run P w)
 cases hv with | p _ _ hv =>
 obtain ⟨ad,l,c,ha,hnil⟩: ∃ad l c,a.eval x= .slice ad l c/\(ad=none->xs= []):=by
  generalize a.eval x=v at hv
  cases hv with
  | nils=>simp
  | emp _ ad cap _ _ _=>simp
  | list _ _ b off cap S u=>simp
 have e2:(execOp (a.put (some d1) (a.eval x)).eval ⟨some d2,.binOp .eql t (.tmp d1) (.const (.slice none 0 0)) u,ty2,p2,af2,none⟩).run P w= .ok (.value (.bool ad.isNone)) w:=by
  have e3:(a.put (some d1) (a.eval x)).eval (.const (.slice none 0 0))= .slice none 0 0:=rfl
  simp_all [execOp,eqGuard_at_slice,Go.run_eql_slice_nil]
 rw [e2,Oper.upon_value];have f2:=f1.put (some d2) (x:= .p (.bool ad.isNone)) (v:= .bool ad.isNone) (.p _ _ (.bool _));exact ⟨_,H,ι,k ad.isNone (fun h=>hnil (by simp_all)),Good.refl hr,f2⟩
@[go_sem ↓] theorem Zaz {P ds o l m fr H K} :Yv P ds (List.append (o::l) m) fr H K=Yv P ds (o::List.append l m) fr H K:=rfl
@[go_sem ↓] theorem ZaB {P ds m fr H K} :Yv P ds (List.append [] m) fr H K=Yv P ds m fr H K:=rfl
@[go_sem] theorem Zbf {α:Type} {x:α} {l m} :List.append (x::l) m=x::List.append l m:=rfl
@[go_sem] theorem Zfb {α:Type} {m:List α} :List.append [] m=m:=rfl
theorem Wi {P:Program} {ops:Array Oper} {Q:Exit->Act->World->Prop} {r:List Oper} : ∀(l:List Oper) (fr:List V) (H:List Obj) (K:List V->List Obj->Prop),Yv P (ops.toList.map (·.dst)) l fr H K ->
  ∀F ι a w,Rel F H ι w->Fr F H ι w fr a ->
   (∀fr' H' ι' a' w',K fr' H'->Good F H ι w H' ι' w'->Fr F H' ι' w' fr' a'->wpList P ops Q r a' w')->wpList P ops Q (l++r) a w
 | [],fr,H,K,h,F,ι,a,w,hr,hf,hq=>hq fr H ι a w h (Good.refl hr) hf
 | o::l,fr,H,K,h,F,ι,a,w,hr,hf,hq=>by
  have step: ∀ {fr:List V} {a:Act},Fr F H ι w fr a->Zv P o fr H (fun x H'=>Yv P (ops.toList.map (·.dst)) l (Uy fr o.dst x) H' K)->o.wp P a w (wpList P ops Q (l++r)) Q:=fun hf h =>
   QH h hr hf fun x H' ι' v w' hk g q=>Wi l _ H' K hk F ι' _ w' g.rel ((g.fr hf).put o.dst q)
    fun fr' H2 ι2 a' w2 k2 g2 f2=>hq fr' H2 ι2 a' w2 k2 (g.trans g2) f2
  simp only [Yv] at h;simp only [ZP,wpList]
  split at h
  ·rename_i hg
   have hw:Region.wanted o (yielded ops a.tmps)=true:=by simp [Region.wanted,hg]
   rw [if_pos hw];exact .inl (step hf h)
  ·rename_i j b hg;unfold Xv at h
   split at h
   rotate_left
   ·rename_i hc;have hy:=Wo hf hc
    have hw: ¬(Region.wanted o (yielded ops a.tmps)=true):=by simp [Region.wanted,hg,hy]
    rw [if_neg hw];exact Wi l _ H K h F ι _ w hr (hf.put o.dst Wx) hq
   ·exact h.elim
   rename_i c hc;have hy:=Vq hf hc
   by_cases hcb:c=b
   ·have hw:Region.wanted o (yielded ops a.tmps)=true:=by simp [Region.wanted,hg,hy,hcb]
    rw [if_pos hw];exact .inl (step hf (h.1 hcb))
   ·have hw: ¬(Region.wanted o (yielded ops a.tmps)=true):=by simp [Region.wanted,hg,hy,hcb]
    rw [if_neg hw];exact Wi l _ H K (h.2 hcb) F ι _ w hr (hf.put o.dst Wx) hq
theorem jG (n:Nat) {P:Program} {id:Nat} {l:List Oper} {o:Oper} {fr:List V} {H:List Obj} {Q:Exit->List V->List Obj->Prop} (ho:l=l.take n++o::l.drop (n+1)) (hg:o.guard=none)
  (h:Yv P (l.map (·.dst)) (l.take n) fr H fun fr' H'=> ∃y,PureOp P o fr' H' y/\Yv P (l.map (·.dst)) (l.drop (n+1)) (Uy fr' o.dst y) H' (Q .normal)):AWP P (.region id (List.toArray l) false) fr H Q:=by
 intro F ι a w hr hf;refine wp_region_list ?_;have key:=Wi (P:=P) (ops:=List.toArray l) (Q:=fun e a' w'=> ∃fr' H' ι',Q e fr' H'/\Good F H ι w H' ι' w'/\Fr F H' ι' w' fr' a') (r:=o::l.drop (n+1)) (l.take n) fr H _ (by simpa using h) F ι a w hr hf ?_
 ·grind
 ·rintro fr' H' ι' a' w' ⟨y,hp,hk⟩ g f;obtain ⟨v,hv,hrv⟩:=hp F ι' a' w' g.rel f;simp only [wpList]
  have hw:Region.wanted o (yielded (List.toArray l) a'.tmps)=true:=by simp [Region.wanted,hg]
  rw [if_pos hw];refine .inl ?_;unfold Oper.wp;rw [hv,Oper.upon_value];exact XM (P:=P) (ops:=List.toArray l) _ _ H' _ Za F ι' _ w' g.rel (f.put o.dst hrv) fun fr2 H2 ι2 a2 w2 k2 g2 f2=>⟨fr2,H2,ι2,k2,g.trans g2,f2⟩
theorem P4 {P:Program} {x:Code} {fr:List V} {H:List Obj} {Q:Exit->List V->List Obj->Prop} {I:Type} (ks:List Nat) (sets:I->List (Nat×V)) (hs:I->List Obj) (R:I->Prop)
  (h:AWP P x fr H (UT (fun fr' H'=> ∃i,R i/\Weak H.length fr' H' (Ju (sets i) (Wa 0 ks fr)) (hs i)) Q)) (k: ∀i,R i->Q .normal (Ju (sets i) (Wa 0 ks fr)) (hs i)):AWP P x fr H Q :=
 fun F ι a w hr hf=>by
 refine wp_mono (h F ι a w hr hf) ?_;rintro e a' w' ⟨fr',H',ι',q,g,f⟩
 cases e with
 | normal =>
  obtain ⟨i,hi,hw⟩:=q;obtain ⟨ι2,r2,f2,g2⟩:=hw F ι' a' w' g.rel f
  grind
 | exit id=>exact ⟨fr',H',ι',q,g,f⟩
 | goto l=>exact ⟨fr',H',ι',q,g,f⟩
 | ret=>exact ⟨fr',H',ι',q,g,f⟩
 | panic ch=>exact ⟨fr',H',ι',q,g,f⟩
 | outgrown=>exact ⟨fr',H',ι',q,g,f⟩
theorem Sl {P:Program} {o:Oper} {fr:List V} {H:List Obj} {a b c d:Operand} {us:Array TypeId} {k:IntKind} {va vb vc vd:Int} (h:o.op= .call { callee:= .builtin .max,args:= #[a,b,c,d],argTypes:=us })
  (ha:ev fr a= .p (.int k va)) (hb:ev fr b= .p (.int k vb)) (hc:ev fr c= .p (.int k vc)) (hd:ev fr d= .p (.int k vd)):PureOp P o fr H (.p (.int k (max (max (max va vb) vc) vd))):=fun F ι act w _ hf=>by
 have h1:=hf.ev a;have h2:=hf.ev b;have h3:=hf.ev c;have h4:=hf.ev d;rw [ha] at h1;rw [hb] at h2;rw [hc] at h3;rw [hd] at h4
 cases h1 with | p _ _ h1=>cases h2 with | p _ _ h2=>cases h3 with | p _ _ h3=>cases h4 with | p _ _ h4 =>
 have m2: ∀x y:Int,(if x<y then y else x)=max x y:=fun x y=>Za
 exact ⟨.int k (max (max (max va vb) vc) vd),by simp [execOp,h,resolve,invoke,builtin,Builtin.max_,h1.int_inv,h2.int_inv,h3.int_inv,h4.int_inv,Builtin.max2,m2],.p _ _ (.int _ _)⟩
theorem RV.refB {F H ι w x v} (h:RV F H ι w x v):refB H.length x=true:=by
 have lt: ∀ {o:Nat} {ob:Obj},H[o]? =some ob->o<H.length:=fun h=>(ZE.1 h).1
 have all: ∀(l:List V),(∀(j:Nat) (c:V),l[j]? =some c->AM.refB H.length c=true)->Xk H.length l=true:=fun l=>by
  induction l with
  | nil=>intro _;rfl
  | cons x l ih=>intro h;simp only [Xk,Zs];exact ⟨h 0 x rfl,ih fun j c hj=>h (j+1) c (by grind)⟩
 induction h with
 | p=>rfl
 | agg cs a hs _ ih=>exact all cs ih
 | fn f cs ds a e hs ht _ _ ih1 ih2=>simp only [AM.refB,Zs];grind
 | tup cs a hs _ ih=>exact all cs ih
 | ptr o off b cs h hH=>simp [AM.refB,lt hH]
 | ep o i j tot b S xs h hH ht=>simp [AM.refB,lt hH]
 | slNil o S a h hH=>simp [AM.refB,lt hH]
 | sl o off len tot b S cap t xs c h hH=>simp [AM.refB,lt hH]
 | lp=>rfl
 | mp o b es h hH=>simp [AM.refB,lt hH]
 | mpD o v h=>simp [AM.refB,lt h]
 | bp o b T E r bs h hH=>simp [AM.refB,lt hH]
 | bpD o v h=>simp [AM.refB,lt h]
 | junk=>rfl
 | ptrD o off v h=>simp [AM.refB,lt h]
 | epD o i j tot v h=>simp [AM.refB,lt h]
 | slD o off len tot v h=>simp [AM.refB,lt h]
 | epS o i j tot v S xs h hne=>simp [AM.refB,lt h]
 | slS o off len tot v S xs h hne=>simp [AM.refB,lt h]
 | slC o tot b cap cs h hH hl hm=>simp [AM.refB,lt hH]
theorem Rel.refH {F H ι w} (h:Rel F H ι w):refH H.length H=true:=by
 rw [AM.refH,ZH];intro ob hm;obtain ⟨o,ho⟩:=Xa.1 hm
 cases ob with
 | cells cs =>
  obtain ⟨b,c,t,_,_,_,h4⟩:=h.cel o cs ho
  have: ∀(l:List V),(∀x∈l,refB H.length x=true)->Xk H.length l=true:=fun l=>by
   induction l with
   | nil=>intro _;rfl
   | cons x l ih=>simp_all [Xk]
  exact this cs fun x hx=>by
   obtain ⟨j,hj⟩:=Xa.1 hx;exact (h4 j x hj).refB
 | elems=>rfl
 | map=>rfl
 | bld T E r bs=>simpa using (ZE.1 (h.bldr o T E r bs ho).2.1).1
 | dead=>rfl
def Js (o:Oper):Oper:= { o with op:= .move (.tmp 1000000) }
def Qf : Nat->List Oper->List Oper
 | _,[]=> []
 | 0,o::l=>Js o::l
 | m+1,o::l=>o::Qf m l
theorem JR : ∀(m:Nat) (l:List Oper) (i:Nat),(Qf m l)[i]? =if i=m then (l[i]?).map Js else l[i]?
 | m,[],i=>by grind [Qf]
 | 0,o::l,0=>by simp [Qf]
 | 0,o::l,i+1=>by simp [Qf]
 | m+1,o::l,0=>by simp [Qf]
 | m+1,o::l,i+1=>by simp [Qf,JR m l i]
theorem Lr : ∀(m:Nat) (l:List Oper),(Qf m l).map (·.dst)=l.map (·.dst)
 | m,[]=>by grind [Qf]
 | 0,o::l=>by rfl
 | m+1,o::l=>by simp [Qf,Lr m l]
theorem Ls : ∀(m:Nat) (l:List Oper),(Qf m l).length=l.length
 | m,[]=>by grind [Qf]
 | 0,o::l=>by simp [Qf]
 | m+1,o::l=>by simp [Qf,Ls m l]
theorem M5 : ∀ {fr:List V} {t:Nat},fr.length<=t->gt fr t= .junk
 | [],_,_=>rfl
 | _::_,0,h=>by simp at h
 | _::l,t+1,h=>by simp only [gt];exact M5 (by simpa using h)
@[go_sem] theorem Zbl {o:Oper} {l} :Qf 0 (o::l)=Js o::l:=rfl
@[go_sem] theorem Zbk {o:Oper} {l m} :Qf (m+1) (o::l)=o::Qf m l:=rfl
@[go_sem] theorem Zfl {d op t ps af g} :Js ⟨d,op,t,ps,af,g⟩=⟨d,.move (.tmp 1000000),t,ps,af,g⟩:=rfl
theorem mT {fr:List V} {d:Option Nat} {x:V} :(Uy fr d x).length=fr.length:=by cases d<;>simp [Uy,VV]
theorem mS {fr:List V} {d:Option Nat} {v x:V} {t:Nat} (h:(Uy fr d v)[t]? =some x):(d=some t/\x=v/\t<fr.length)\/(d≠some t/\fr[t]? =some x):=by
 cases d with
 | none=>exact .inr ⟨Zb,h⟩
 | some d =>
  simp only [Uy,VV] at h
  grind
theorem K9 {ds:List (Option Nat)} {vals:List V} {n:Nat} (hap:QN ds n=true) (hn:n<=ds.length) (hv:vals.length=n) {R:List Nat} {ls:List Nat} (hls: ∀j∈ls,j<n) {fr:List V} (hR: ∀t∈R,∀j,j<n->ds[j]? =some (some t)->j∈ls) :
  UJ R (ZJ ds vals ls (Z3 (ds.take n) fr)) (ZJ ds vals (List.range n) (Z3 (ds.take n) fr)):=fun t ht=>by
 apply F0
 by_cases hex: ∃j,j<n/\ds[j]? =some (some t)
 ·grind [AV,YA]
 grind [JH]
def V6 : List Nat->List Oper->List Oper
 | [],l=>l
 | m::ms,l=>V6 ms (Qf m l)
theorem Ev : ∀(ms:List Nat) (l:List Oper),(V6 ms l).map (·.dst)=l.map (·.dst)
 | [],_=>rfl
 | m::ms,l=>by rw [V6,Ev ms,Lr]
theorem Ew : ∀(ms:List Nat) (l:List Oper),(V6 ms l).length=l.length
 | [],_=>rfl
 | m::ms,l=>by rw [V6,Ew ms,Ls]
theorem Bn : ∀(ms:List Nat) (l:List Oper) (i:Nat),i ∉ ms->(V6 ms l)[i]? =l[i]?
 | [],_,_,_=>rfl
 | m::ms,l,i,h=>by
  simp at h;rw [V6,Bn ms _ i h.2,JR,if_neg h.1]
theorem Do : ∀(ms:List Nat) (l:List Oper) (i:Nat) (o:Oper),i∈ms->l[i]? =some o->(V6 ms l)[i]? =some (Js o)
 | [],_,_,_,h,_=>by cases h
 | m::ms,l,i,o,h,ho=>by
  rw [V6]
  by_cases hi:i∈ms
  ·by_cases e:i=m
   ·subst e;have:=Do ms (Qf i l) i (Js o) hi (by rw [JR,if_pos rfl,ho];rfl);rw [this];rfl
   ·exact Do ms (Qf m l) i o hi (by rw [JR,if_neg e];exact ho)
  ·have e:i=m:=by
    grind
   subst e;rw [Bn ms _ _ hi,JR,if_pos rfl,ho];rfl
def Z6 : List Oper->Nat->Oper
 | [],_=>default
 | o::_,0=>o
 | _::l,n+1=>Z6 l n
theorem A2 : ∀(l:List Oper) (n:Nat),Z6 l n=l.getD n default
 | [],n=>by simp [Z6]
 | o::l,0=>rfl
 | o::l,n+1=>by simp [Z6,A2 l n]
@[go_sem] theorem Zbh {o:Oper} {l} :Z6 (o::l) 0=o:=rfl
@[go_sem] theorem Zbg {o:Oper} {l n} :Z6 (o::l) (n+1)=Z6 l n:=rfl
@[go_sem] theorem Zfm {l:List Oper} :V6 [] l=l:=rfl
@[go_sem] theorem Zbm {m ms} {l:List Oper} :V6 (m::ms) l=V6 ms (Qf m l):=rfl
theorem FO {P:Program} {H:List Obj} {f azs} {a b:PV} {B:V->Prop} {t} (h:ACalls P f azs [] fun x H'=>x= .tup [.p a,.p b]/\H'= []) (k:B (.tup [.p a,.p b])) (ha:Xk 0 azs=true:=by rfl) :
  SR (fun y=>ACalls P f azs H (Zq (Zq (fun x H'=>x=y/\H'=H) ⟨⟩) ⟨⟩)) (Zq B t) :=
 ⟨.tup [.p a,.p b],(h.behind ha H).mono fun x H' hq=>by
  obtain ⟨y,H1,⟨rfl,rfl⟩,rfl,rfl⟩:=hq
  simp [shV,shVs,Zq],k⟩
@[go_sem] theorem ZgK {H:List Obj} {n cs cs'} :CI H n (.tup cs) (.tup cs')=(cs'=cs/\Xk n cs=true):=by simp [CI,SS,refB]
def eII (p:Int×Int):PV×PV:=(.int .i64 p.1,.int .i64 p.2)
def cC (P:Program) (t:TypeId):Option (TypeDesc×Option PV):=match P.underlying t with
 | some (.map kt et)=>(P.underlying kt).map fun d=>(d,zval P et)
 | _=>none
def Ge (l:List (Int×Int)) (k:Int):Option Nat:=l.findIdx? fun p=>decide (k=p.1)
def JN (l:List (Int×Int)) (k:Int):Int:=match Ge l k with | some i=>((l[i]?).map (·.2)).getD 0 | none=>0
theorem Cg (k:Int): ∀(l:List (Int×Int)) (n:Nat),UQ (.int .i64 k) (l.map eII) n=(Ge l k).map fun i=>(n+i,.int .i64 (((l[i]?).map (·.2)).getD 0))
 | [],n=>by rfl
 | p::l,n=>by
  have ih:=Cg k l (n+1);simp only [Zt,UQ,eII,keq]
  by_cases h:k=p.1
  ·simp [h,Ge,List.findIdx?_cons]
  ·simp only [h,Q6,JK,Ys];rw [ih];simp only [Ge,List.findIdx?_cons,h,Q6,JK,Ys]
   cases l.findIdx? (fun p=>decide (k=p.1)) with
   | none=>rfl
   | some i=>simp;omega
theorem Lm {P t d z} (h:cC P t=some (d,z)): ∃kt et,P.underlying t=some (.map kt et)/\P.underlying kt=some d/\zval P et=z:=by
 unfold cC at h
 split at h
 ·rename_i kt et hu;simp only [ZI,Ko] at h
  grind
 ·cases h
theorem F9 {P:Program} {H:List Obj} {kt:TypeId} {o:Nat} {l:List (Int×Int)} {k:Int} (hd:P.underlying kt=some (.int .i64)) (hH:oat H o= .map (l.map eII)):Bf P H kt (.int .i64 k) o=some (l.map eII):=by
 simp [Bf,hH,mkey,hd,eII,kpair]
theorem Es {l:List (Int×Int)} {k:Int} {i:Nat} (h:Ge l k=some i): ∃v,l[i]? =some (k,v)/\JN l k=v:=by
 grind [Ge,Un,JN]
section
variable {P : Program} {H : List Obj} {t : TypeId} {o : Nat} {l : List (Int × Int)} {k : Int} {K : V -> List Obj -> Prop}
theorem Lk (hT:cC P t=some (.int .i64,some (.int .i64 0))) (hH:oat H o= .map (l.map eII)) (h:K (.p (.int .i64 (JN l k))) H):KX (AC P H t (.mp o) (.p (.int .i64 k)) false) K:=by
 obtain ⟨kt,et,h1,h2,h3⟩:=Lm hT;simp only [AC,h1,F9 h2 hH,Kk,Cg,h3]
 grind [JN,KX]
theorem Nh {i:Nat} {v:Int} (hH:oat H o= .map (l.map eII)) (hm:Ge l k=some i) (h:(∀q,JN (l.set i (k,v)) q=if q=k then v else JN l q)->K .junk (H.set o (.map ((l.set i (k,v)).map eII)))):KX (J6 H (.mp o) (.p (.int .i64 (i:Nat))) (.p (.int .i64 v))) K:=by
 obtain ⟨u,q1,q2⟩:=Es hm;have hil:=(ZE.1 q1).1
 have e1:(l.map eII)[i]? =some (eII (k,u)):=by grind
 simp only [J6,hH,Int.natCast_nonneg,if_true,Xn,e1,KX]
 have e2:(l.map eII).set i ((eII (k,u)).1,.int .i64 v)=(l.set i (k,v)).map eII:=by rw [UN];rfl
 rw [e2];refine h fun q=> ?_
 have hkeys: ∀j:Nat,((l.set i (k,v))[j]?).map Prod.fst=(l[j]?).map Prod.fst:=fun j=>by
  grind
 have hmix: ∀q,Ge (l.set i (k,v)) q=Ge l q:=fun q=>by
  have key: ∀(a b:List (Int×Int)),a.map Prod.fst=b.map Prod.fst->Ge a q=Ge b q:=fun a b hab=>by
   have e: ∀c:List (Int×Int),Ge c q=(c.map Prod.fst).findIdx? fun z=>decide (q=z):=fun c=>by
    rw [List.findIdx?_map];rfl
   grind
  refine key _ _ (Q1 fun j=> ?_)
  grind
 unfold JN;rw [hmix]
 by_cases hq:q=k
 ·grind
 ·rw [if_neg hq]
  grind [Es]
end
end Go.AM
