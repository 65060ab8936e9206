/- Declarations that the closing texts need, part 7: joined by tools/slim.py. -/
import Derived.Test.YtenjikkmmibffaaGreatDoorH6
import Derived.Lib.LazyBuf
set_option linter.unusedVariables false
set_option linter.unusedSimpArgs false
namespace Go.AM
open Go.RowKit
theorem FS {P:Program} {id:Nat} {d1 d2:Nat} {x:Operand} {t u e ty1 ty2:TypeId} {p1 p2:String} {af1 af2:Array Edge} {y:Code} {fr:List V} {H:List Obj} {Q:Exit->List V->List Obj->Prop} {cl:Bool} {xs:List PV}
  (hu:P.underlying t=some (.slice e)) (hx:ev fr x= .p (.list cl xs)) (hd:d1<fr.length)
  (k: ∀b,(b=true->xs= [])->AWP P y (pt (pt fr d1 (.p (.list cl xs))) d2 (.p (.bool b))) H Q) :
  AWP P (.seq ((Code.region id (List.toArray [⟨some d1,.move x,ty1,p1,af1,none⟩,⟨some d2,.binOp .eql t (.tmp d1) (.const (.slice none 0 0)) u,ty2,p2,af2,none⟩]) false)) y) fr H Q:=by
 refine Wa fun F ι a w hr hf=>wp_region_list ?_;have hv:=hf.ev x;rw [hx] at hv;have f1:=hf.put (some d1) hv
 have hsz:d1<a.tmps.size:=by have:=hf.1;omega
 have hev:(a.put (some d1) (a.eval x)).eval (.tmp d1)=a.eval x:=by
  simp_all [Act.eval,Act.put]
 have hw1:Region.wanted (⟨some d1,.move x,ty1,p1,af1,none⟩:Oper) (yielded (List.toArray [⟨some d1,.move x,ty1,p1,af1,none⟩,⟨some d2,.binOp .eql t (.tmp d1) (.const (.slice none 0 0)) u,ty2,p2,af2,none⟩]) a.tmps)=true:=rfl;simp only [wpList];rw [if_pos hw1];refine .inl ?_;unfold Oper.wp
 have e1:(execOp a.eval ⟨some d1,.move x,ty1,p1,af1,none⟩).run P w= .ok (.value (a.eval x)) w:=by simp [execOp]
 rw [e1,Oper.upon_value];have hw2: ∀q,Region.wanted (⟨some d2,.binOp .eql t (.tmp d1) (.const (.slice none 0 0)) u,ty2,p2,af2,none⟩:Oper) q=true:=fun _=>rfl;rw [if_pos (hw2 _)];refine .inl ?_
 show Oper.upon P _ (a.put (some d1) (a.eval x)) _ _ ((execOp (a.put (some d1) (a.eval x)).eval _).run P w)
 cases hv with | p _ _ hv =>
 obtain ⟨ad,l,c,ha,hnil⟩: ∃ad l c,a.eval x= .slice ad l c/\(ad=none->xs= []):=by
  generalize a.eval x=v at hv
  cases hv with
  | nils=>simp
  | emp _ ad cap _ _ _=>simp
  | list _ _ b off cap S u=>simp
 have e2:(execOp (a.put (some d1) (a.eval x)).eval ⟨some d2,.binOp .eql t (.tmp d1) (.const (.slice none 0 0)) u,ty2,p2,af2,none⟩).run P w= .ok (.value (.bool ad.isNone)) w:=by
  have e3:(a.put (some d1) (a.eval x)).eval (.const (.slice none 0 0))= .slice none 0 0:=rfl
  simp_all [execOp,eqGuard_at_slice,Go.run_eql_slice_nil]
 rw [e2,Oper.upon_value];have f2:=f1.put (some d2) (x:= .p (.bool ad.isNone)) (v:= .bool ad.isNone) (.p _ _ (.bool _));exact ⟨_,H,ι,k ad.isNone (fun h=>hnil (by simp_all)),Good.refl hr,f2⟩
@[go_sem ↓] theorem Zfl {P ds o l m fr H K} :YS P ds (List.append (o::l) m) fr H K=YS P ds (o::List.append l m) fr H K:=rfl
@[go_sem ↓] theorem Zfn {P ds m fr H K} :YS P ds (List.append [] m) fr H K=YS P ds m fr H K:=rfl
@[go_sem] theorem Zf1 {α:Type} {x:α} {l m} :List.append (x::l) m=x::List.append l m:=rfl
@[go_sem] theorem Zko {α:Type} {m:List α} :List.append [] m=m:=rfl
theorem VB {P:Program} {ops:Array Oper} {Q:Exit->Act->World->Prop} {r:List Oper} : ∀(l:List Oper) (fr:List V) (H:List Obj) (K:List V->List Obj->Prop),YS P (ops.toList.map (·.dst)) l fr H K ->
  ∀F ι a w,Rel F H ι w->Fr F H ι w fr a ->
   (∀fr' H' ι' a' w',K fr' H'->Good F H ι w H' ι' w'->Fr F H' ι' w' fr' a'->wpList P ops Q r a' w')->wpList P ops Q (l++r) a w
 | [],fr,H,K,h,F,ι,a,w,hr,hf,hq=>hq fr H ι a w h (Good.refl hr) hf
 | o::l,fr,H,K,h,F,ι,a,w,hr,hf,hq=>by
  have step: ∀ {fr:List V} {a:Act},Fr F H ι w fr a->Zy P o fr H (fun x H'=>YS P (ops.toList.map (·.dst)) l (UQ fr o.dst x) H' K)->o.wp P a w (wpList P ops Q (l++r)) Q:=fun hf h =>
   QH h hr hf fun x H' ι' v w' hk g q=>VB l _ H' K hk F ι' _ w' g.rel ((g.fr hf).put o.dst q)
    fun fr' H2 ι2 a' w2 k2 g2 f2=>hq fr' H2 ι2 a' w2 k2 (g.trans g2) f2
  simp only [YS] at h;simp only [ZO,wpList]
  split at h
  ·rename_i hg
   have hw:Region.wanted o (yielded ops a.tmps)=true:=by simp [Region.wanted,hg]
   rw [if_pos hw];exact .inl (step hf h)
  ·rename_i j b hg;unfold XU at h
   split at h
   rotate_left
   ·rename_i hc;have hy:=Wl hf hc
    have hw: ¬(Region.wanted o (yielded ops a.tmps)=true):=by simp [Region.wanted,hg,hy]
    rw [if_neg hw];exact VB l _ H K h F ι _ w hr (hf.put o.dst WE) hq
   ·exact h.elim
   rename_i c hc;have hy:=Vv hf hc
   by_cases hcb:c=b
   ·have hw:Region.wanted o (yielded ops a.tmps)=true:=by simp [Region.wanted,hg,hy,hcb]
    rw [if_pos hw];exact .inl (step hf (h.1 hcb))
   ·have hw: ¬(Region.wanted o (yielded ops a.tmps)=true):=by simp [Region.wanted,hg,hy,hcb]
    rw [if_neg hw];exact VB l _ H K (h.2 hcb) F ι _ w hr (hf.put o.dst WE) hq
theorem aL {P:Program} {x:Code} {fr:List V} {H:List Obj} {Q:Exit->List V->List Obj->Prop} {I:Type} (ks:List Nat) (sets:I->List (Nat×V)) (hs:I->List Obj) (R:I->Prop)
  (h:AWP P x fr H (Q5 (fun fr' H'=> ∃i,R i/\Weak H.length fr' H' (KM (sets i) (WK 0 ks fr)) (hs i)) Q)) (k: ∀i,R i->Q .normal (KM (sets i) (WK 0 ks fr)) (hs i)):AWP P x fr H Q :=
 fun F ι a w hr hf=>by
 refine wp_mono (h F ι a w hr hf) ?_;rintro e a' w' ⟨fr',H',ι',q,g,f⟩
 cases e with
 | normal =>
  obtain ⟨i,hi,hw⟩:=q;obtain ⟨ι2,r2,f2,g2⟩:=hw F ι' a' w' g.rel f
  grind
 | exit id=>exact ⟨fr',H',ι',q,g,f⟩
 | goto l=>exact ⟨fr',H',ι',q,g,f⟩
 | ret=>exact ⟨fr',H',ι',q,g,f⟩
 | panic ch=>exact ⟨fr',H',ι',q,g,f⟩
 | outgrown=>exact ⟨fr',H',ι',q,g,f⟩
theorem RV.refB {F H ι w x v} (h:RV F H ι w x v):refB H.length x=true:=by
 have lt: ∀ {o:Nat} {ob:Obj},H[o]? =some ob->o<H.length:=fun h=>(ZT.1 h).1
 have all: ∀(l:List V),(∀(j:Nat) (c:V),l[j]? =some c->AM.refB H.length c=true)->Xv H.length l=true:=fun l=>by
  induction l with
  | nil=>intro _;rfl
  | cons x l ih=>intro h;simp only [Xv,ZE];exact ⟨h 0 x rfl,ih fun j c hj=>h (j+1) c (by simpa using hj)⟩
 induction h with
 | p=>rfl
 | agg cs a hs _ ih=>exact all cs ih
 | fn f cs ds a e hs ht _ _ ih1 ih2=>simp only [AM.refB,ZE];exact ⟨all cs ih1,all ds ih2⟩
 | tup cs a hs _ ih=>exact all cs ih
 | ptr o off b cs h hH=>simp [AM.refB,lt hH]
 | ep o i j tot b S xs h hH ht=>simp [AM.refB,lt hH]
 | slNil o S a h hH=>simp [AM.refB,lt hH]
 | sl o off len tot b S cap t xs c h hH=>simp [AM.refB,lt hH]
 | lp=>rfl
 | mp o b es h hH=>simp [AM.refB,lt hH]
 | mpD o v h=>simp [AM.refB,lt h]
 | bp o b T E r bs h hH=>simp [AM.refB,lt hH]
 | bpD o v h=>simp [AM.refB,lt h]
 | err=>rfl
 | junk=>rfl
 | ptrD o off v h=>simp [AM.refB,lt h]
 | epD o i j tot v h=>simp [AM.refB,lt h]
 | slD o off len tot v h=>simp [AM.refB,lt h]
 | epS o i j tot v S xs h hne=>simp [AM.refB,lt h]
 | slS o off len tot v S xs h hne=>simp [AM.refB,lt h]
 | slC o tot b cap cs h hH hl hm=>simp [AM.refB,lt hH]
theorem Rel.refH {F H ι w} (h:Rel F H ι w):refH H.length H=true:=by
 rw [AM.refH,Zx];intro ob hm;obtain ⟨o,ho⟩:=Xf.1 hm
 cases ob with
 | cells cs =>
  obtain ⟨b,c,t,_,_,_,h4⟩:=h.cel o cs ho
  have: ∀(l:List V),(∀x∈l,refB H.length x=true)->Xv H.length l=true:=fun l=>by
   induction l with
   | nil=>intro _;rfl
   | cons x l ih=>simp_all [Xv]
  exact this cs fun x hx=>by
   obtain ⟨j,hj⟩:=Xf.1 hx;exact (h4 j x hj).refB
 | elems=>rfl
 | map=>rfl
 | bld T E r bs=>simpa using (ZT.1 (h.bldr o T E r bs ho).2.1).1
 | dead=>rfl
def ZhJ (F:Nat->Prop) (H L:List Obj) (ym:V) (dm:Option Nat) (m:Nat) (ds:List (Option Nat)) (fr vals:List V) (n:Nat) (ι0:List (Option Nat)) (w0:World) (listed:Array Bool) (a:Act) (w:World):Prop :=
 (listed.getD m false=false/\ ∃ι,Mid F H ds fr vals n listed ι a w/\Good F H ι0 w0 H ι w) \/
 (listed.getD m false=true/\ ∃ι ιL,ι.length=H.length/\Mid (Own F ιL) H ds fr vals n listed ι a w/\Good F H ι0 w0 (H++L) (ι++ιL) w/\ ∀d,dm=some d->d<fr.length->RV F (H++L) (ι++ιL) w ym (a.tmps.getD d undef))
theorem Pf {P:Program} {ops:Array Oper} {Q:Exit->Act->World->Prop} {F H fr vals} {n m:Nat} {L:List Obj} {ym:V} {om:Oper} (hB:Ve ops n=true) (hvl:vals.length=n) (hmn:m<n) (hom:ops[m]? =some om)
  (hok: ∀(i:Nat) (o:Oper),i<n->i≠m->ops[i]? =some o->FE P (ops.toList.map (·.dst)) (Z5 ((ops.toList.map (·.dst)).take n) fr) H vals i o) (hvm:vals[m]? =some .junk) (hgm:om.guard=none)
  (hlate:Zy P om (ZS (ops.toList.map (·.dst)) vals (ZQ m om) (Z5 ((ops.toList.map (·.dst)).take n) fr)) H (fun x H'=>x=ym/\H'=H++L)) {ι0 w0}
  (ht: ∀ι a w,Good F H ι0 w0 (H++L) ι w->Fr F (H++L) ι w (UQ (ZS (ops.toList.map (·.dst)) vals (List.range n) (Z5 ((ops.toList.map (·.dst)).take n) fr)) om.dst ym) a->wpList P ops Q (ops.toList.drop n) a w) :
  ∀(q:Nat) (listed:Array Bool) (a:Act) (w:World),HeadInv .any ops n listed->((List.range n).filter fun i=> !listed.getD i false).length=q ->
   ZhJ F H L ym om.dst m (ops.toList.map (·.dst)) fr vals n ι0 w0 listed a w->wpAny P .any ops Q (q+(ops.size-n)) listed a w:=by
 simp only [Ve,ZE,Zs,W8] at hB;obtain ⟨⟨⟨⟨hn,hsc⟩,hea⟩,hap⟩,hseq⟩:=hB
 have hdm:(ops.toList.map (·.dst))[m]? =some om.dst:=by simp [hom]
 intro q
 induction q with
 | zero =>
  intro listed a w inv hm mid
  have hall: ∀i,i<n->listed.getD i false=true:=fun i hi=>by
   simp_all
  have hl:listed=Array.replicate n true++Array.replicate (ops.size-n) false:=by
   refine Array.ext (by simp [inv.size];omega) fun i h1 h2=> ?_
   by_cases hi:i<n
   ·have:=hall i hi
    simp_all
   ·have:=inv.tail i Za (by grind)
    simp_all
  rcases mid with ⟨h0,_⟩ | ⟨_,ι,ιL,hιl,mid,gd,slot⟩
  ·grind
  have hfr:=mid.fr (List.range n) fun j hj=>⟨Zz.1 hj,hall j (Zz.1 hj)⟩
  have hw:=ht (ι++ιL) a w gd (by
   obtain ⟨f1,f2,f3⟩:=hfr
   cases hd:om.dst with
   | none=>exact ⟨f1,f2,fun t x hx=>(f3 t x hx).widen⟩
   | some d =>
    refine ⟨by grind [UQ,V6],f2,fun t x hx=> ?_⟩;simp only [UQ,V6] at hx;rw [Jm] at hx
    split at hx
    ·grind [Yy,YK]
    ·exact (f3 t x hx).widen)
  have:=wpAny_of_seq (md:= .any) (Q':=Q) (ops.toList.drop n) n listed a w (fun j=>Zb) (by grind) hw
  grind
 | succ q ih =>
  intro listed a w inv hm mid
  have hun: ∃i,i<n/\listed.getD i false=false:=by
   cases hf:(List.range n).filter fun i=> !listed.getD i false with
   | nil=>grind
   | cons i l =>
    have:i∈(List.range n).filter fun i=> !listed.getD i false:=by rw [hf];simp
    grind
  have hsz: ∀ {i},i<n->i<listed.size:=fun h=>by rw [inv.size];omega
  have hready:Region.ready .any ops listed≠ []:=by
   obtain ⟨i,hi,hu⟩:=hun
   have: ∃i,i<n/\listed.getD i false=false/\ ∀j,j<i->listed.getD j false=true:=by
    induction i using Nat.strongRecOn with
    | _ i ihh =>
     by_cases hex: ∃j,j<i/\listed.getD j false=false
     ·obtain ⟨j,hj,hju⟩:=hex;exact ihh j hj Za hju
     grind
   obtain ⟨i,hi,hu,hmin⟩:=this;intro h0
   have:i∈Region.ready .any ops listed:=by
    have hlt:i<ops.size:=Za
    refine mem_ready.2 ⟨getD_in (hsz hi) hu,ops[i],by simp [hlt],fun e he hb=> ?_⟩;have h1:=Zx.1 hea i (Zz.2 hi)
    grind [E7]
   grind
  rw [show q+1+(ops.size-n)=(q+(ops.size-n))+1 by omega];refine ⟨fun h0=>absurd h0 hready,fun i hi=> ?_⟩
  have hin:i<n:=by
   rcases hsc with h | ⟨hs,hc⟩
   ·grind [mem_ready]
   ·rcases WM i n with h | h
    ·exact h
    ·obtain ⟨k,hk,hu⟩:=hun
     by_cases hne:n<ops.size
     ·exact absurd hi (tail_waits hs hc hne inv _ k rfl hk (getD_in (hsz hk) hu) i h)
     grind [mem_ready]
  obtain ⟨hiu,o,ho,hall⟩:=mem_ready.1 hi
  have hds:(ops.toList.map (·.dst))[i]? =some o.dst:=by simp [ho]
  have hdeps: ∀j∈ZQ i o,j<n/\listed.getD j false=true:=fun j hj=>by
   refine ⟨by have:=Ws j hj;omega,?_⟩;simp [ZQ] at hj
   grind
  have hcount:((List.range n).filter fun k=> !(listed.setIfInBounds i true).getD k false).length=q:=by
   have e:((List.range n).filter fun k=> !(listed.setIfInBounds i true).getD k false)=((List.range n).filter fun k=> !listed.getD k false).filter (fun k=>k≠i):=by
    rw [List.filter_filter];refine QR fun k hk=> ?_
    by_cases hki:k=i
    ·simp_all
    ·rw [getD_set_ne false (fun h=>hki h.symm)];simp [hki]
   rw [e]
   have hmem:i∈(List.range n).filter fun k=> !listed.getD k false:=by
    grind
   have hnd:((List.range n).filter fun k=> !listed.getD k false).Nodup:=List.nodup_range.filter _;have:=Fa hnd i
   grind
  have next: ∀v w',ZhJ F H L ym om.dst m (ops.toList.map (·.dst)) fr vals n ι0 w0 (listed.setIfInBounds i true) (a.put o.dst v) w'->wpAny P .any ops Q (q+(ops.size-n)) (listed.setIfInBounds i true) (a.put o.dst v) w':=fun v w' h =>
   ih _ _ w' (inv.set hi hin) hcount h
  have hiu2:listed.getD i false=false:=getD_both hiu;unfold wpOp;simp only [ho]
  by_cases him:i=m
  ·-- the late one
   subst him;rw [hom] at ho;simp at ho;subst ho;rcases mid with ⟨h0,ι,mid,gd⟩ | ⟨h0,_⟩
   rotate_left
   ·grind
   have hfr:=mid.fr _ hdeps
   have hw:Region.wanted om (yielded ops a.tmps)=true:=by simp [Region.wanted,hgm]
   rw [if_pos hw];refine .inl (QH hlate mid.rel hfr fun x H' ι' v w' hk g r=> ?_);obtain ⟨rfl,rfl⟩:=hk
   obtain ⟨ι1,ιL,rfl,hl1⟩: ∃ι1 ιL,ι'=ι1++ιL/\ι1.length=H.length:=⟨ι'.take H.length,ι'.drop H.length,(List.take_append_drop _ _).symm,by
    have:=g.rel.len
    simp_all⟩
   refine next v w' (.inr ⟨by simp [hsz hin],ι1,ιL,hl1,⟨g.rel.front hl1 mid.rel.refH,?_,?_,fun t y ht' hnt=> ?_,fun j e y hj hlj hd hy hlt=> ?_⟩,gd.trans g,fun d hd hlt=> ?_⟩)
   ·cases om.dst<;>simp [Act.put,mid.size]
   ·cases om.dst<;>exact mid.defers
   ·have h1:=mid.old t y ht' hnt;have h2:=(g.rv h1).narrow hl1 h1.refB
    cases hdst:om.dst with
    | none=>exact h2
    | some d =>
     have hne:d≠t:=fun h=>hnt (by
      subst h;rw [Xf]
      exact ⟨i,by grind⟩)
     simp_all [Act.put]
   ·by_cases hij:j=i
    ·subst hij;rw [hvm] at hy;simp at hy;subst hy;exact .junk _
    ·have hl':listed.getD j false=true:=by rwa [getD_set_ne false (fun h=>hij h.symm)] at hlj
     have h1:=mid.new j e y hj hl' hd hy hlt;have h2:=(g.rv h1).narrow hl1 h1.refB
     cases hdst:om.dst with
     | none=>exact h2
     | some d =>
      have hne:d≠e:=fun h=>by
       subst h;have:=Zx.1 (Zx.1 hap i (Zz.2 hin)) j (Zz.2 hj)
       grind
      have e':((a.put (some d) v).tmps).getD e undef=a.tmps.getD e undef:=by
       simp [Act.put,XK,DS hne]
      grind
   ·rw [hd]
    have:d<a.tmps.size:=by rw [mid.size];exact hlt
    simp_all [Act.put]
  ·-- another
   obtain ⟨y,hy,hok'⟩:=hok i o hin him ho
   have main: ∀(F':Nat->Prop) (ι:List (Option Nat)),Mid F' H (ops.toList.map (·.dst)) fr vals n listed ι a w ->
     (∀ι' v w',Good F' H ι w H ι' w'->RV F' H ι' w' y v->wpAny P .any ops Q (q+(ops.size-n)) (listed.setIfInBounds i true) (a.put o.dst v) w') ->
     if Region.wanted o (yielded ops a.tmps)=true then o.wp P a w (wpAny P .any ops Q (q+(ops.size-n)) (listed.setIfInBounds i true)) Q\/(o.asks P a w/\LetsOut Q) else wpAny P .any ops Q (q+(ops.size-n)) (listed.setIfInBounds i true) (a.put o.dst undef) w:=fun F' ι mid' next'=>by
    have hfr:=mid'.fr _ hdeps
    have run:ZH P o (ZS (ops.toList.map (·.dst)) vals (ZQ i o) (Z5 ((ops.toList.map (·.dst)).take n) fr)) H (fun x H'=>x=y/\H'=H)->o.wp P a w (wpAny P .any ops Q (q+(ops.size-n)) (listed.setIfInBounds i true)) Q:=fun h =>
     Bh h mid'.rel hfr fun x H' ι' v w' hk g r=>by
      grind
    split at hok'
    ·simp_all [Region.wanted]
    ·rename_i j b hg;rcases hok' with ⟨c,hc,h1,h2⟩ | ⟨hc,hyt⟩
     rotate_left
     ·have hyl:=Wl hfr hc
      have hw: ¬(Region.wanted o (yielded ops a.tmps)=true):=by grind [Region.wanted]
      rw [if_neg hw];exact next' ι undef w (Good.refl mid'.rel) (by grind [WE])
     have hyl:=Vv hfr hc
     by_cases hcb:c=b
     ·have hw:Region.wanted o (yielded ops a.tmps)=true:=by grind [Region.wanted]
      grind
     ·have hw: ¬(Region.wanted o (yielded ops a.tmps)=true):=by grind [Region.wanted]
      rw [if_neg hw];exact next' ι undef w (Good.refl mid'.rel) (by grind [WE])
   have hkeep: ∀c,listed.getD m false=c->(listed.setIfInBounds i true).getD m false=c:=fun c h=>by rw [getD_set_ne false him];exact h
   rcases mid with ⟨h0,ι,mid,gd⟩ | ⟨h0,ι,ιL,hιl,mid,gd,slot⟩
   ·exact main F ι mid fun ι' v w' g r=>next v w' (.inl ⟨hkeep _ h0,ι',mid.put hap g hin hds hy r,gd.trans g⟩)
   ·refine main (Own F ιL) ι mid fun ι' v w' g r=>next v w' (.inr ⟨hkeep _ h0,ι',ιL,?_,mid.put hap g hin hds hy r,?_,fun d hd hlt=> ?_⟩)
    ·exact g.rel.len
    ·exact gd.trans (Good.front hιl gd.rel g rfl)
    ·have g2:=Good.front hιl gd.rel g rfl;have h1:=g2.rv (slot d hd hlt)
     cases hdst:o.dst with
     | none=>exact h1
     | some e =>
      have hne:e≠d:=fun h=>by
       subst h;have:=Zx.1 (Zx.1 hap i (Zz.2 hin)) m (Zz.2 hmn)
       grind
      have e':((a.put (some e) v).tmps).getD d undef=a.tmps.getD d undef:=by
       simp [Act.put,XK,DS hne]
      grind
def Qy (o:Oper):Oper:= { o with op:= .move (.tmp 1000000) }
def Uh : Nat->List Oper->List Oper
 | _,[]=> []
 | 0,o::l=>Qy o::l
 | m+1,o::l=>o::Uh m l
theorem Qz : ∀(m:Nat) (l:List Oper) (i:Nat),(Uh m l)[i]? =if i=m then (l[i]?).map Qy else l[i]?
 | m,[],i=>by grind [Uh]
 | 0,o::l,0=>by simp [Uh]
 | 0,o::l,i+1=>by simp [Uh]
 | m+1,o::l,0=>by simp [Uh]
 | m+1,o::l,i+1=>by simp [Uh,Qz m l i]
theorem Gv : ∀(m:Nat) (l:List Oper),(Uh m l).map (·.dst)=l.map (·.dst)
 | m,[]=>by grind [Uh]
 | 0,o::l=>by rfl
 | m+1,o::l=>by simp [Uh,Gv m l]
theorem Gw : ∀(m:Nat) (l:List Oper),(Uh m l).length=l.length
 | m,[]=>by grind [Uh]
 | 0,o::l=>by simp [Uh]
 | m+1,o::l=>by simp [Uh,Gw m l]
theorem LS : ∀ {fr:List V} {t:Nat},fr.length<=t->gt fr t= .junk
 | [],_,_=>rfl
 | _::_,0,h=>by simp at h
 | _::l,t+1,h=>by simp only [gt];exact LS (by simpa using h)
theorem Py (m:Nat) {P:Program} {id:Nat} {l:List Oper} {fr:List V} {H:List Obj} {Q:Exit->List V->List Obj->Prop} {t} (n:Nat) (om:Oper) (L:List Obj) (ym:V) (hm:P.follows .mixedOrders=true) (hB:Ve (List.toArray l) n=true) (hR:Ag (List.toArray (Uh m l)) n=true) (hmn:m<n) (hom:l[m]? =some om) (hg:om.guard=none) (hfl:fr.length<=1000000)
  (hlate: ∀fr',Zy P om fr' H (fun x H'=>x=ym/\H'=H++L))
  (h:hs P (l.map (·.dst)) H (Zu (fun fr'=>YS P (l.map (·.dst)) (l.drop n) (UQ (LW fr') om.dst ym) (H++L) (Zu (Q .normal) ⟨⟩)) ⟨⟩) ((Uh m l).take n) (LW fr)) :
  AWP P (.region id (Zu (List.toArray l) t) true) fr H Q:=fun F ι a w hr hf=>by
 refine wp_region_any hm ?_;have hB':=hB;simp only [Ve,ZE,Zs] at hB';obtain ⟨⟨⟨⟨hn,_⟩,_⟩,hap⟩,_⟩:=hB'
 have hn2:n<=l.length:=Za
 have hds:(Uh m l).map (·.dst)=l.map (·.dst):=Gv m l;have hh:=NQ (P:=P) (H:=H) (ops:=List.toArray (Uh m l)) (n:=n) (fr:=fr) (K:=fun fr'=>YS P (l.map (·.dst)) (l.drop n) (UQ fr' om.dst ym) (H++L) (Q .normal)) (by grind [Gw]) (by grind) hR _ 0 [] (Kh _) rfl (by simp;rfl) (by simp_all [ZS,Zu,LW]);obtain ⟨ys,h1,⟨h2a,h2b⟩,h3⟩:=K0 _ 0 [] rfl hh;simp only [ZD,hds] at h2a h2b h3;have hlen:ys.length=n:=h2a;have g0:=Good.drew hr;have hf0:=g0.fr hf;have hget: ∀k,k<n->((Uh m l).take n)[k]? =(Uh m l)[k]? :=fun k hk=>Km hk
 have hjl:(Z5 ((l.map (·.dst)).take n) fr).length=fr.length:=YK _ _
 have hvm:ys[m]? =some .junk:=by
  obtain ⟨y,hy,hk⟩:=h3 m (Qy om) (by rw [hget m hmn,Qz,if_pos rfl,hom];rfl);rw [Xt] at hy;have e1:(Qy om).guard=none:=hg;rw [e1] at hk;simp only [Qy,ZH,Zy,Yh,Wc,MP,Xc] at hk
  grind [ev,LS,Yy]
 have:=Pf (Q:=fun e a' w'=> ∃fr' H' ι',Q e fr' H'/\Good F H ι w H' ι' w'/\Fr F H' ι' w' fr' a') (F:=F) (fr:=fr) (vals:=ys) (P:=P) (H:=H) (L:=L) (ym:=ym) (om:=om) (m:=m) (ops:=List.toArray l) (ι0:=ι) (w0:= { w with drawn:=w.drawn+1 }) hB hlen hmn (by grind)
  (fun i o hi him ho=>by
   have:=h3 i o (by rw [hget i hi,Qz,if_neg him];grind)
   grind) hvm hg (hlate _)
  (fun ι1 a1 w1 g1 f1=>Yg (P:=P) (ops:=List.toArray l) _ _ (H++L) _ (by
   grind [CD]) F ι1 a1 w1 g1.rel f1 fun fr' H' ι' a' w' k g f=>⟨fr',H',ι',k,g0.trans (g1.trans g),f⟩)
  n (Array.replicate l.length false) a { w with drawn:=w.drawn+1 }
  ⟨Zb,fun j oj _ hl=>(by grind [getD_replicate_false]),fun t _ ht=>getD_in (by grind) (getD_replicate_false _ _)⟩
  (by
   grind [List.filter_eq_self,getD_replicate_false])
  (.inl ⟨getD_replicate_false _ _,ι,⟨g0.rel,hf0.1,hf0.2.1,fun t x ht _=>hf0.2.2 t x ht,fun j d x _ hl=>by grind [getD_replicate_false]⟩,Good.refl g0.rel⟩)
 grind [Zu]
@[go_sem] theorem Zf7 {o:Oper} {l} :Uh 0 (o::l)=Qy o::l:=rfl
@[go_sem] theorem Zf6 {o:Oper} {l m} :Uh (m+1) (o::l)=o::Uh m l:=rfl
@[go_sem] theorem ZkA {d op t ps af g} :Qy ⟨d,op,t,ps,af,g⟩=⟨d,.move (.tmp 1000000),t,ps,af,g⟩:=rfl
theorem wC {fr:List V} {d:Option Nat} {x:V} :(UQ fr d x).length=fr.length:=by cases d<;>simp [UQ,V6]
theorem wB {fr:List V} {d:Option Nat} {v x:V} {t:Nat} (h:(UQ fr d v)[t]? =some x):(d=some t/\x=v/\t<fr.length)\/(d≠some t/\fr[t]? =some x):=by
 cases d with
 | none=>exact .inr ⟨Zb,h⟩
 | some d =>
  simp only [UQ,V6] at h
  grind
theorem BE {ds:List (Option Nat)} {vals:List V} {n:Nat} (hap:JX ds n=true) (hn:n<=ds.length) (hv:vals.length=n) {R:List Nat} {ls:List Nat} (hls: ∀j∈ls,j<n) {fr:List V} (hR: ∀t∈R,∀j,j<n->ds[j]? =some (some t)->j∈ls) :
  QL R (ZS ds vals ls (Z5 (ds.take n) fr)) (ZS ds vals (List.range n) (Z5 (ds.take n) fr)):=fun t ht=>by
 apply Ig
 by_cases hex: ∃j,j<n/\ds[j]? =some (some t)
 ·grind [CE,Yy]
 grind [K1]
def U8 : List Nat->List Oper->List Oper
 | [],l=>l
 | m::ms,l=>U8 ms (Uh m l)
theorem Gx : ∀(ms:List Nat) (l:List Oper),(U8 ms l).map (·.dst)=l.map (·.dst)
 | [],_=>rfl
 | m::ms,l=>by rw [U8,Gx ms,Gv]
theorem Gy : ∀(ms:List Nat) (l:List Oper),(U8 ms l).length=l.length
 | [],_=>rfl
 | m::ms,l=>by rw [U8,Gy ms,Gw]
theorem C1 : ∀(ms:List Nat) (l:List Oper) (i:Nat),i ∉ ms->(U8 ms l)[i]? =l[i]?
 | [],_,_,_=>rfl
 | m::ms,l,i,h=>by
  simp at h;rw [U8,C1 ms _ i h.2,Qz,if_neg h.1]
theorem Fk : ∀(ms:List Nat) (l:List Oper) (i:Nat) (o:Oper),i∈ms->l[i]? =some o->(U8 ms l)[i]? =some (Qy o)
 | [],_,_,_,h,_=>by cases h
 | m::ms,l,i,o,h,ho=>by
  rw [U8]
  by_cases hi:i∈ms
  ·by_cases e:i=m
   ·subst e;have:=Fk ms (Uh i l) i (Qy o) hi (by rw [Qz,if_pos rfl,ho];rfl);rw [this];rfl
   ·exact Fk ms (Uh m l) i o hi (by rw [Qz,if_neg e];exact ho)
  ·have e:i=m:=by
    grind
   subst e;rw [C1 ms _ _ hi,Qz,if_pos rfl,ho];rfl
def KB (l:List Oper) (n:Nat) (ms:List Nat):Bool :=
 (ms.all fun m=>decide (m<n)&&match l[m]? with
  | some o=>o.guard.isNone&&(U9 o.op).all fun t=>(List.range n).all fun j=>match (l.map (·.dst))[j]? with
    | some (some d)=>decide (d≠t)||(ZQ m o).contains j
    | _=>true
  | none=>false)&&((List.range (ms.length-1)).all fun s=>match ms[s]?,ms[s+1]? with
   | some a,some b=>match l[b]? with | some o=>(ZQ b o).contains a | none=>false
   | _,_=>false)&&(List.range ms.length).all fun s=>(List.range ms.length).all fun t=>decide (s=t)||decide (ms[s]? ≠ms[t]?)
def Xb : List Oper->Nat->Oper
 | [],_=>default
 | o::_,0=>o
 | _::l,n+1=>Xb l n
theorem CJ : ∀(l:List Oper) (n:Nat),Xb l n=l.getD n default
 | [],n=>by simp [Xb]
 | o::l,0=>rfl
 | o::l,n+1=>by simp [Xb,CJ l n]
@[go_sem] theorem Zf3 {o:Oper} {l} :Xb (o::l) 0=o:=rfl
@[go_sem] theorem Zf2 {o:Oper} {l n} :Xb (o::l) (n+1)=Xb l n:=rfl
@[go_sem] theorem ZkB {l:List Oper} :U8 [] l=l:=rfl
@[go_sem] theorem Zf8 {m ms} {l:List Oper} :U8 (m::ms) l=U8 ms (Uh m l):=rfl
theorem JE {P:Program} {H:List Obj} {f azs} {a b:PV} {B:V->Prop} {t} (h:ACalls P f azs [] fun x H'=>x= .tup [.p a,.p b]/\H'= []) (k:B (.tup [.p a,.p b])) (ha:Xv 0 azs=true:=by rfl) :
  bL (fun y=>ACalls P f azs H (Zu (Zu (fun x H'=>x=y/\H'=H) ⟨⟩) ⟨⟩)) (Zu B t) :=
 ⟨.tup [.p a,.p b],(h.behind ha H).mono fun x H' hq=>by
  obtain ⟨y,H1,⟨rfl,rfl⟩,rfl,rfl⟩:=hq
  simp [shV,shVs,Zu],k⟩
@[go_sem] theorem Zl8 {H:List Obj} {n cs cs'} :Ep H n (.tup cs) (.tup cs')=(cs'=cs/\Xv n cs=true):=by simp [Ep,fP,refB]
def eII (p:Int×Int):PV×PV:=(.int .i64 p.1,.int .i64 p.2)
def mP (P:Program) (t:TypeId):Option (TypeDesc×Option PV):=match P.underlying t with
 | some (.map kt et)=>(P.underlying kt).map fun d=>(d,zval P et)
 | _=>none
def Iw (l:List (Int×Int)) (k:Int):Option Nat:=l.findIdx? fun p=>decide (k=p.1)
def K7 (l:List (Int×Int)) (k:Int):Int:=match Iw l k with | some i=>((l[i]?).map (·.2)).getD 0 | none=>0
theorem DV (k:Int): ∀(l:List (Int×Int)) (n:Nat),Q0 (.int .i64 k) (l.map eII) n=(Iw l k).map fun i=>(n+i,.int .i64 (((l[i]?).map (·.2)).getD 0))
 | [],n=>by rfl
 | p::l,n=>by
  have ih:=DV k l (n+1);simp only [Zr,Q0,eII,keq]
  by_cases h:k=p.1
  ·simp [h,Iw,List.findIdx?_cons]
  ·simp only [h,Kg,Y1,YH];rw [ih];simp only [Iw,List.findIdx?_cons,h,Kg,Y1,YH]
   cases l.findIdx? (fun p=>decide (k=p.1)) with
   | none=>rfl
   | some i=>simp;omega
theorem N4 {P t d z} (h:mP P t=some (d,z)): ∃kt et,P.underlying t=some (.map kt et)/\P.underlying kt=some d/\zval P et=z:=by
 unfold mP at h
 split at h
 ·rename_i kt et hu;simp only [ZV,AU] at h
  grind
 ·cases h
theorem Ip {P:Program} {H:List Obj} {kt:TypeId} {o:Nat} {l:List (Int×Int)} {k:Int} (hd:P.underlying kt=some (.int .i64)) (hH:oat H o= .map (l.map eII)):CZ P H kt (.int .i64 k) o=some (l.map eII):=by
 simp [CZ,hH,mkey,hd,eII,kpair]
theorem Gs {l:List (Int×Int)} {k:Int} {i:Nat} (h:Iw l k=some i): ∃v,l[i]? =some (k,v)/\K7 l k=v:=by
 grind [Iw,UK,K7]
section
variable {P : Program} {H : List Obj} {t : TypeId} {o : Nat} {l : List (Int × Int)} {k : Int} {K : V -> List Obj -> Prop}
theorem N1 (hT:mP P t=some (.int .i64,some (.int .i64 0))) (hH:oat H o= .map (l.map eII)) (h:K (.p (.int .i64 (K7 l k))) H):Bu (Ck P H t (.mp o) (.p (.int .i64 k)) false) K:=by
 obtain ⟨kt,et,h1,h2,h3⟩:=N4 hT;simp only [Ck,h1,Ip h2 hH,AR,DV,h3]
 grind [K7,Bu]
theorem Rl {i:Nat} {v:Int} (hH:oat H o= .map (l.map eII)) (hm:Iw l k=some i) (h:(∀q,K7 (l.set i (k,v)) q=if q=k then v else K7 l q)->K .junk (H.set o (.map ((l.set i (k,v)).map eII)))):Bu (Ay H (.mp o) (.p (.int .i64 (i:Nat))) (.p (.int .i64 v))) K:=by
 obtain ⟨u,q1,q2⟩:=Gs hm;have hil:=(ZT.1 q1).1
 have e1:(l.map eII)[i]? =some (eII (k,u)):=by grind
 simp only [Ay,hH,Int.natCast_nonneg,if_true,XY,e1,Bu]
 have e2:(l.map eII).set i ((eII (k,u)).1,.int .i64 v)=(l.set i (k,v)).map eII:=by rw [U6];rfl
 rw [e2];refine h fun q=> ?_
 have hkeys: ∀j:Nat,((l.set i (k,v))[j]?).map Prod.fst=(l[j]?).map Prod.fst:=fun j=>by
  grind
 have hmix: ∀q,Iw (l.set i (k,v)) q=Iw l q:=fun q=>by
  have key: ∀(a b:List (Int×Int)),a.map Prod.fst=b.map Prod.fst->Iw a q=Iw b q:=fun a b hab=>by
   have e: ∀c:List (Int×Int),Iw c q=(c.map Prod.fst).findIdx? fun z=>decide (q=z):=fun c=>by
    rw [List.findIdx?_map];rfl
   grind
  refine key _ _ (Kb fun j=> ?_)
  grind
 unfold K7;rw [hmix]
 by_cases hq:q=k
 ·grind
 ·rw [if_neg hq]
  grind [Gs]
end
end Go.AM
