/- Declarations that the closing texts need, part 7: joined by tools/slim.py. -/
import Derived.Test.YtmbelkfkhclnkaaGreatDoorYM6
import Derived.Lib.LazyBuf
set_option linter.unusedVariables false
set_option linter.unusedSimpArgs false
namespace Go.AM
open Go.RowKit
@[go_sem ↓] theorem RR {P ds o l m fr H K} :Z0 P ds (List.append (o::l) m) fr H K=Z0 P ds (o::List.append l m) fr H K:=rfl
@[go_sem ↓] theorem RT {P ds m fr H K} :Z0 P ds (List.append [] m) fr H K=Z0 P ds m fr H K:=rfl
@[go_sem] theorem Sr {α:Type} {x:α} {l m} :List.append (x::l) m=x::List.append l m:=rfl
@[go_sem] theorem dG {α:Type} {m:List α} :List.append [] m=m:=rfl
theorem Z5 {P:Program} {ops:Array Oper} {Q:Exit->Act->World->Prop} {r:List Oper} : ∀(l:List Oper) (fr:List V) (H:List Obj) (K:List V->List Obj->Prop),Z0 P (ops.toList.map (·.dst)) l fr H K ->
  ∀F ι a w,Rel F H ι w->Fr F H ι w fr a ->
   (∀fr' H' ι' a' w',K fr' H'->Good F H ι w H' ι' w'->Fr F H' ι' w' fr' a'->wpList P ops Q r a' w')->wpList P ops Q (l++r) a w
 | [],fr,H,K,h,F,ι,a,w,hr,hf,hq=>hq fr H ι a w h (Good.refl hr) hf
 | o::l,fr,H,K,h,F,ι,a,w,hr,hf,hq=>by
  have step: ∀ {fr:List V} {a:Act},Fr F H ι w fr a->Zm P o fr H (fun x H'=>Z0 P (ops.toList.map (·.dst)) l (YR fr o.dst x) H' K)->o.wp P a w (wpList P ops Q (l++r)) Q:=fun hf h =>
   WX h hr hf fun x H' ι' v w' hk g q=>Z5 l _ H' K hk F ι' _ w' g.rel ((g.fr hf).put o.dst q)
    fun fr' H2 ι2 a' w2 k2 g2 f2=>hq fr' H2 ι2 a' w2 k2 (g.trans g2) f2
  simp only [Z0] at h;simp only [List.cons_append,wpList]
  split at h
  ·rename_i hg
   have hw:Region.wanted o (yielded ops a.tmps)=true:=by simp [Region.wanted,hg]
   rw [if_pos hw];exact .inl (step hf h)
  ·rename_i j b hg;unfold ZF at h
   split at h
   rotate_left
   ·rename_i hc;have hy:=XR hf hc
    have hw: ¬(Region.wanted o (yielded ops a.tmps)=true):=by simp [Region.wanted,hg,hy]
    rw [if_neg hw];exact Z5 l _ H K h F ι _ w hr (hf.put o.dst X2) hq
   ·exact h.elim
   rename_i c hc;have hy:=YD hf hc
   by_cases hcb:c=b
   ·have hw:Region.wanted o (yielded ops a.tmps)=true:=by simp [Region.wanted,hg,hy,hcb]
    rw [if_pos hw];exact .inl (step hf (h.1 hcb))
   ·have hw: ¬(Region.wanted o (yielded ops a.tmps)=true):=by simp [Region.wanted,hg,hy,hcb]
    rw [if_neg hw];exact Z5 l _ H K (h.2 hcb) F ι _ w hr (hf.put o.dst X2) hq
theorem RV.refB {F H ι w x v} (h:RV F H ι w x v):refB H.length x=true:=by
 have lt: ∀ {o:Nat} {ob:Obj},H[o]? =some ob->o<H.length:=fun h=>(List.getElem?_eq_some_iff.1 h).1
 have all: ∀(l:List V),(∀(j:Nat) (c:V),l[j]? =some c->AM.refB H.length c=true)->Zy H.length l=true:=fun l=>by
  induction l with
  | nil=>intro _;rfl
  | cons x l ih=>intro h;simp only [Zy,Bool.and_eq_true];exact ⟨h 0 x rfl,ih fun j c hj=>h (j+1) c (by simpa using hj)⟩
 induction h with
 | p=>rfl
 | agg cs a hs _ ih=>exact all cs ih
 | fn f cs ds a e hs ht _ _ ih1 ih2=>simp only [AM.refB,Bool.and_eq_true];exact ⟨all cs ih1,all ds ih2⟩
 | tup cs a hs _ ih=>exact all cs ih
 | ptr o off b cs h hH=>simp [AM.refB,lt hH]
 | ep o i j tot b S xs h hH ht=>simp [AM.refB,lt hH]
 | slNil o S a h hH=>simp [AM.refB,lt hH]
 | sl o off len tot b S cap t xs c h hH=>simp [AM.refB,lt hH]
 | lp=>rfl
 | mp o b es h hH=>simp [AM.refB,lt hH]
 | mpD o v h=>simp [AM.refB,lt h]
 | bp o b T E r bs h hH=>simp [AM.refB,lt hH]
 | bpD o v h=>simp [AM.refB,lt h]
 | err=>rfl
 | junk=>rfl
 | ptrD o off v h=>simp [AM.refB,lt h]
 | epD o i j tot v h=>simp [AM.refB,lt h]
 | slD o off len tot v h=>simp [AM.refB,lt h]
 | epS o i j tot v S xs h hne=>simp [AM.refB,lt h]
 | slS o off len tot v S xs h hne=>simp [AM.refB,lt h]
 | slC o tot b cap cs h hH hl hm=>simp [AM.refB,lt hH]
theorem Rel.refH {F H ι w} (h:Rel F H ι w):refH H.length H=true:=by
 rw [AM.refH,List.all_eq_true];intro ob hm;obtain ⟨o,ho⟩:=List.mem_iff_getElem?.1 hm
 cases ob with
 | cells cs =>
  obtain ⟨b,c,t,_,_,_,h4⟩:=h.cel o cs ho
  have: ∀(l:List V),(∀x∈l,refB H.length x=true)->Zy H.length l=true:=fun l=>by
   induction l with
   | nil=>intro _;rfl
   | cons x l ih=>simp_all [Zy]
  exact this cs fun x hx=>by
   obtain ⟨j,hj⟩:=List.mem_iff_getElem?.1 hx;exact (h4 j x hj).refB
 | elems=>rfl
 | map=>rfl
 | bld T E r bs=>simpa using (List.getElem?_eq_some_iff.1 (h.bldr o T E r bs ho).2.1).1
 | dead=>rfl
def Wt (o:Oper):Oper:= { o with op:= .move (.tmp 1000000) }
def YO : Nat->List Oper->List Oper
 | _,[]=> []
 | 0,o::l=>Wt o::l
 | m+1,o::l=>o::YO m l
theorem WT : ∀(m:Nat) (l:List Oper) (i:Nat),(YO m l)[i]? =if i=m then (l[i]?).map Wt else l[i]?
 | m,[],i=>by grind [YO]
 | 0,o::l,0=>by simp [YO]
 | 0,o::l,i+1=>by simp [YO]
 | m+1,o::l,0=>by simp [YO]
 | m+1,o::l,i+1=>by simp [YO,WT m l i]
theorem AL : ∀(m:Nat) (l:List Oper),(YO m l).map (·.dst)=l.map (·.dst)
 | m,[]=>by grind [YO]
 | 0,o::l=>by rfl
 | m+1,o::l=>by simp [YO,AL m l]
theorem AN : ∀(m:Nat) (l:List Oper),(YO m l).length=l.length
 | m,[]=>by grind [YO]
 | 0,o::l=>by simp [YO]
 | m+1,o::l=>by simp [YO,AN m l]
theorem B3 : ∀ {fr:List V} {t:Nat},fr.length<=t->gt fr t= .junk
 | [],_,_=>rfl
 | _::_,0,h=>by simp at h
 | _::l,t+1,h=>by simp only [gt];exact B3 (by simpa using h)
@[go_sem] theorem Sy {o:Oper} {l} :YO 0 (o::l)=Wt o::l:=rfl
@[go_sem] theorem Sx {o:Oper} {l m} :YO (m+1) (o::l)=o::YO m l:=rfl
@[go_sem] theorem dN {d op t ps af g} :Wt ⟨d,op,t,ps,af,g⟩=⟨d,.move (.tmp 1000000),t,ps,af,g⟩:=rfl
def AY (om:Nat->Oper) (y:Nat->V):Nat->List V->List V
 | 0,fr=>fr
 | s+1,fr=>YR (AY om y s fr) (om s).dst (y s)
theorem DH {fr:List V} {d:Option Nat} {x:V} :(YR fr d x).length=fr.length:=by cases d<;>simp [YR,X6]
theorem U2 (om y): ∀(s:Nat) (fr:List V),(AY om y s fr).length=fr.length
 | 0,_=>rfl
 | s+1,fr=>by rw [AY,DH,U2 om y s fr]
theorem DG {fr:List V} {d:Option Nat} {v x:V} {t:Nat} (h:(YR fr d v)[t]? =some x):(d=some t/\x=v/\t<fr.length)\/(d≠some t/\fr[t]? =some x):=by
 cases d with
 | none=>exact .inr ⟨Zb,h⟩
 | some d =>
  simp only [YR,X6] at h
  grind
theorem DJ (om y) {x:V} {t:Nat} : ∀(s:Nat) (fr:List V),(AY om y s fr)[t]? =some x->(∃k,k<s/\(om k).dst=some t/\x=y k/\t<fr.length)\/fr[t]? =some x
 | 0,_,h=> .inr h
 | s+1,fr,h=>by
  rcases DG h with ⟨h1,h2,h3⟩ | ⟨_,h2⟩
  ·exact .inl ⟨s,Za,h1,h2,by rw [U2] at h3;exact h3⟩
  ·rcases DJ om y s fr h2 with ⟨k,h3,h4⟩ | h3
   ·exact .inl ⟨k,Za,h4⟩
   ·exact .inr h3
theorem JQ (om y) {R:List Nat} {f1 f2:List V} (hl:f1.length=f2.length) (h:YG R f1 f2): ∀s,YG R (AY om y s f1) (AY om y s f2)
 | 0=>h
 | s+1=>fun t ht=>by
  have ih:=JQ om y hl h s t ht
  have hl2:(AY om y s f1).length=(AY om y s f2).length:=by grind [U2]
  simp only [AY]
  cases (om s).dst with
  | none=>exact ih
  | some d =>
   grind [YR,X6,Jx]
def TO (F:Nat->Prop) (H:List Obj) (Ls:Nat->List Obj) (y:Nat->V) (om:Nat->Oper) (m:Nat->Nat) (q:Nat) (ds:List (Option Nat)) (fr vals:List V) (n:Nat) (ι0:List (Option Nat)) (w0:World) (listed:Array Bool) (a:Act) (w:World):Prop :=
 ∃s,s<=q/\(∀t,t<q->listed.getD (m t) false=decide (t<s))/\ ∃ι ιL,ι.length=H.length/\Mid (Own F ιL) H ds fr vals n listed ι a w/\Good F H ι0 w0 (H++Ls s) (ι++ιL) w /\
  ∀t,t<s-> ∀d,(om t).dst=some d->d<fr.length->RV F (H++Ls s) (ι++ιL) w (y t) (a.tmps.getD d undef)
theorem Qi {ds:List (Option Nat)} {vals:List V} {n:Nat} (hap:Y9 ds n=true) (hn:n<=ds.length) (hv:vals.length=n) {R:List Nat} {ls:List Nat} (hls: ∀j∈ls,j<n) {fr:List V} (hR: ∀t∈R,∀j,j<n->ds[j]? =some (some t)->j∈ls) :
  YG R (Zs ds vals ls (Zw (ds.take n) fr)) (Zs ds vals (List.range n) (Zw (ds.take n) fr)):=fun t ht=>by
 apply Jy
 by_cases hex: ∃j,j<n/\ds[j]? =some (some t)
 ·grind [VH,Z1]
 grind [WL]
theorem Bu {P:Program} {ops:Array Oper} {Q:Exit->Act->World->Prop} {F H fr vals} {n q:Nat} {Ls:Nat->List Obj} {y:Nat->V} {om:Nat->Oper} {m:Nat->Nat} (hB:Yh ops n=true) (hvl:vals.length=n)
  (hms: ∀s,s<q->m s<n/\ops[m s]? =some (om s)/\(om s).guard=none/\vals[m s]? =some .junk) (hinj: ∀s t,s<q->t<q->m s=m t->s=t) (hch: ∀s,s+1<q->m s∈Zv (m (s+1)) (om (s+1)))
  (hrd: ∀s,s<q-> ∀t∈YA (om s).op,∀j,j<n->(ops.toList.map (·.dst))[j]? =some (some t)->j∈Zv (m s) (om s))
  (hlate: ∀s,s<q->Zm P (om s) (AY om y s (Zs (ops.toList.map (·.dst)) vals (List.range n) (Zw ((ops.toList.map (·.dst)).take n) fr))) (H++Ls s) (fun x H'=>x=y s/\H'=H++Ls (s+1)))
  (hok: ∀(i:Nat) (o:Oper),i<n->(∀s,s<q->i≠m s)->ops[i]? =some o->Fq P (ops.toList.map (·.dst)) (Zw ((ops.toList.map (·.dst)).take n) fr) H vals i o) {ι0 w0}
  (ht: ∀ι a w,Good F H ι0 w0 (H++Ls q) ι w->Fr F (H++Ls q) ι w (AY om y q (Zs (ops.toList.map (·.dst)) vals (List.range n) (Zw ((ops.toList.map (·.dst)).take n) fr))) a->wpList P ops Q (ops.toList.drop n) a w) :
  ∀(u:Nat) (listed:Array Bool) (a:Act) (w:World),HeadInv .any ops n listed->((List.range n).filter fun i=> !listed.getD i false).length=u ->
   TO F H Ls y om m q (ops.toList.map (·.dst)) fr vals n ι0 w0 listed a w->wpAny P .any ops Q (u+(ops.size-n)) listed a w:=by
 simp only [Yh,Bool.and_eq_true,decide_eq_true_eq,Bool.or_eq_true] at hB;obtain ⟨⟨⟨⟨hn,hsc⟩,hea⟩,hap⟩,hseq⟩:=hB
 have hdl:n<=(ops.toList.map (·.dst)).length:=by grind
 -- the frame at s late operations done, azs far azs is listed
 have frAt: ∀ {s:Nat} {listed:Array Bool} {ι ιL:List (Option Nat)} {a:Act} {w:World} (ls:List Nat),(∀j∈ls,j<n/\listed.getD j false=true)->Mid (Own F ιL) H (ops.toList.map (·.dst)) fr vals n listed ι a w ->
   (∀t,t<s-> ∀d,(om t).dst=some d->d<fr.length->RV F (H++Ls s) (ι++ιL) w (y t) (a.tmps.getD d undef)) ->
   Fr F (H++Ls s) (ι++ιL) w (AY om y s (Zs (ops.toList.map (·.dst)) vals ls (Zw ((ops.toList.map (·.dst)).take n) fr))) a:=fun {s listed ι ιL a w} ls hls mid slot=>by
  obtain ⟨f1,f2,f3⟩:=mid.fr ls hls;refine ⟨by rw [U2];exact f1,f2,fun t x hx=> ?_⟩;rcases DJ om y s _ hx with ⟨k,h1,h2,rfl,h4⟩ | h1
  ·grind [Z1,Xd]
  ·exact (f3 t x h1).widen
 intro u
 induction u with
 | zero =>
  intro listed a w inv hm mid
  have Xe: ∀i,i<n->listed.getD i false=true:=fun i hi=>by
   have h0:=List.eq_nil_of_length_eq_zero hm
   have:i ∉ (List.range n).filter fun i=> !listed.getD i false:=by rw [h0];simp
   grind
  have hl:listed=Array.replicate n true++Array.replicate (ops.size-n) false:=by
   refine Array.ext (by simp [inv.size];omega) fun i h1 h2=> ?_
   by_cases hi:i<n
   ·have:=Xe i hi;rw [Array.getElem_append_left (by grind)];simp [h1] at this;simp [this]
   ·have:=inv.tail i Za (by grind);rw [Array.getElem_append_right (by simp;omega)];simp [h1] at this;simp [this]
  obtain ⟨s,hsq,hst,ι,ιL,hιl,mid,gd,slot⟩:=mid
  have hs:s=q:=by
   rcases Nat.lt_or_ge s q with h | h
   ·grind
   ·omega
  subst hs;have hw:=ht (ι++ιL) a w gd (frAt (List.range n) (fun j hj=>⟨List.mem_range.1 hj,Xe j (List.mem_range.1 hj)⟩) mid slot);have:=wpAny_of_seq (md:= .any) (Q':=Q) (ops.toList.drop n) n listed a w (fun j=>Zb) (by grind) hw
  grind
 | succ u ih =>
  intro listed a w inv hm mid
  have hun: ∃i,i<n/\listed.getD i false=false:=by
   cases hf:(List.range n).filter fun i=> !listed.getD i false with
   | nil=>grind
   | cons i l =>
    have:i∈(List.range n).filter fun i=> !listed.getD i false:=by rw [hf];simp
    grind
  have hsz: ∀ {i},i<n->i<listed.size:=fun h=>by rw [inv.size];omega
  have hready:Region.ready .any ops listed≠ []:=by
   obtain ⟨i,hi,hu⟩:=hun
   have: ∃i,i<n/\listed.getD i false=false/\ ∀j,j<i->listed.getD j false=true:=by
    induction i using Nat.strongRecOn with
    | _ i ihh =>
     by_cases hex: ∃j,j<i/\listed.getD j false=false
     ·obtain ⟨j,hj,hju⟩:=hex;exact ihh j hj Za hju
     grind
   obtain ⟨i,hi,hu,hmin⟩:=this;intro h0
   have:i∈Region.ready .any ops listed:=by
    have hlt:i<ops.size:=Za
    refine mem_ready.2 ⟨getD_in (hsz hi) hu,ops[i],by simp [hlt],fun e he hb=> ?_⟩;have h1:=List.all_eq_true.1 hea i (List.mem_range.2 hi)
    grind [Array.all_eq_true_iff_forall_mem]
   grind
  rw [show u+1+(ops.size-n)=(u+(ops.size-n))+1 by omega];refine ⟨fun h0=>absurd h0 hready,fun i hi=> ?_⟩
  have hin:i<n:=by
   rcases hsc with h | ⟨hs,hc⟩
   ·grind [mem_ready]
   ·rcases Nat.lt_or_ge i n with h | h
    ·exact h
    ·obtain ⟨k,hk,hu⟩:=hun
     by_cases hne:n<ops.size
     ·exact absurd hi (tail_waits hs hc hne inv _ k rfl hk (getD_in (hsz hk) hu) i h)
     grind [mem_ready]
  obtain ⟨hiu,o,ho,Xe⟩:=mem_ready.1 hi
  have hds:(ops.toList.map (·.dst))[i]? =some o.dst:=by simp [ho]
  have hdeps: ∀j∈Zv i o,j<n/\listed.getD j false=true:=fun j hj=>by
   refine ⟨by have:=XY j hj;omega,?_⟩;simp [Zv] at hj
   grind
  have hcount:((List.range n).filter fun k=> !(listed.setIfInBounds i true).getD k false).length=u:=by
   have e:((List.range n).filter fun k=> !(listed.setIfInBounds i true).getD k false)=((List.range n).filter fun k=> !listed.getD k false).filter (fun k=>k≠i):=by
    rw [List.filter_filter];refine List.filter_congr fun k hk=> ?_
    by_cases hki:k=i
    ·subst hki;simp [hsz hin]
    ·rw [getD_set_ne false (fun h=>hki h.symm)];simp [hki]
   rw [e]
   have hmem:i∈(List.range n).filter fun k=> !listed.getD k false:=by
    grind
   have hnd:((List.range n).filter fun k=> !listed.getD k false).Nodup:=List.nodup_range.filter _;have:=List.Nodup.erase_eq_filter hnd i
   grind
  have next: ∀v w',TO F H Ls y om m q (ops.toList.map (·.dst)) fr vals n ι0 w0 (listed.setIfInBounds i true) (a.put o.dst v) w'->wpAny P .any ops Q (u+(ops.size-n)) (listed.setIfInBounds i true) (a.put o.dst v) w':=fun v w' h =>
   ih _ _ w' (inv.set hi hin) hcount h
  have hiu2:listed.getD i false=false:=getD_both hiu;obtain ⟨s,hsq,hst,ι,ιL,hιl,mid,gd,slot⟩:=mid
  -- a slot that this operation does not write
  have hoth: ∀ {e:Nat} {v:Value},o.dst≠some e->((a.put o.dst v).tmps).getD e undef=a.tmps.getD e undef:=fun {e v} hne=>by
   cases hdst:o.dst with
   | none=>rfl
   | some d =>
    have hne2:d≠e:=fun h=>hne (by rw [hdst,h]);simp [Act.put,Array.getD_eq_getD_getElem?,Array.getElem?_setIfInBounds_ne hne2]
  have hapart: ∀ {j e:Nat},j<n->j≠i->(ops.toList.map (·.dst))[j]? =some (some e)->o.dst≠some e:=fun {j e} hj hji hd h=>by
   have:=List.all_eq_true.1 (List.all_eq_true.1 hap i (List.mem_range.2 hin)) j (List.mem_range.2 hj)
   grind
  have hdm: ∀t,t<q->(ops.toList.map (·.dst))[m t]? =some (om t).dst:=fun t ht=>by
   have:=(hms t ht).2.1;simp [this]
  unfold wpOp;simp only [ho]
  by_cases him: ∃s',s'<q/\i=m s'
  ·-- a late one
   obtain ⟨s',hs'q,rfl⟩:=him
   have hss:s'=s:=by
    have h1:=hst s' hs'q;rw [hiu2] at h1
    have h2: ¬s'<s:=by grind
    rcases Nat.lt_or_ge s s' with h | h
    ·obtain ⟨k,rfl⟩: ∃k,s'=k+1:=⟨s'-1,Za⟩;have h3:=hch k hs'q
     have e:om (k+1)=o:=by grind
     grind
    ·omega
   subst hss;obtain ⟨_,hom,hgm,hvm⟩:=hms s' hs'q;rw [hom] at ho;simp at ho;subst ho
   let ls:=(List.range n).filter fun j=>listed.getD j false
   have hls: ∀j∈ls,j<n/\listed.getD j false=true:=fun j hj=>by simpa [ls] using hj
   have hfr:=frAt (s:=s') ls hls mid slot
   have hag:YG (YA (om s').op) (Zs (ops.toList.map (·.dst)) vals ls (Zw ((ops.toList.map (·.dst)).take n) fr)) (Zs (ops.toList.map (·.dst)) vals (List.range n) (Zw ((ops.toList.map (·.dst)).take n) fr)) :=
    Qi hap hdl hvl (fun j hj=>(hls j hj).1) fun t ht j hj hd=>by
     have:=hdeps j (hrd s' hs'q t ht j hj hd);simpa [ls] using this
   have hl:=(WH (JQ om y (by simp [Z1]) hag s')).2 (hlate s' hs'q)
   have hw:Region.wanted (om s') (yielded ops a.tmps)=true:=by simp [Region.wanted,hgm]
   rw [if_pos hw];refine .inl (WX hl gd.rel hfr fun x H' ι' v w' hk g r=> ?_);obtain ⟨rfl,rfl⟩:=hk
   obtain ⟨ι1,ιL',rfl,hl1⟩: ∃ι1 ιL',ι'=ι1++ιL'/\ι1.length=H.length:=⟨ι'.take H.length,ι'.drop H.length,(List.take_append_drop _ _).symm,by
    have:=g.rel.len;rw [List.length_append] at this
    simp;omega⟩
   have trans: ∀ {x:V} {v:Value},RV (Own F ιL) H ι w x v->RV (Own F ιL') H ι1 w' x v:=fun {x v} h=>(g.rv h.widen).narrow hl1 h.refB
   have Zs: ∀t,t<q->(listed.setIfInBounds (m s') true).getD (m t) false=decide (t<s'+1):=fun t ht=>by
    by_cases e:t=s'
    ·subst e;simp [hsz hin]
    ·rw [getD_set_ne false (fun h=>e (hinj _ _ ht hs'q h.symm)),hst t ht];exact decide_eq_decide.2 Za
   refine next v w' ⟨s'+1,Za,Zs,ι1,ιL',hl1,⟨g.rel.front hl1 mid.rel.refH,?_,?_,fun t z ht' hnt=> ?_,fun j e z hj hlj hd hz hlt=> ?_⟩,gd.trans g,fun t ht' d hd hlt=> ?_⟩
   ·cases (om s').dst<;>simp [Act.put,mid.size]
   ·cases (om s').dst<;>exact mid.defers
   ·rw [hoth (fun e=>hnt (by
     rw [List.mem_iff_getElem?]
     exact ⟨m s',by rw [List.getElem?_take_of_lt hin,hds,e]⟩))]
    exact trans (mid.old t z ht' hnt)
   ·by_cases hij:j=m s'
    ·subst hij;rw [hvm] at hz;simp at hz;subst hz;exact .junk _
    ·have hl':listed.getD j false=true:=by rwa [getD_set_ne false (fun h=>hij h.symm)] at hlj
     rw [hoth (hapart hj hij hd)];exact trans (mid.new j e z hj hl' hd hz hlt)
   ·by_cases e:t=s'
    ·subst e;rw [hd]
     have:d<a.tmps.size:=by rw [mid.size];exact hlt
     have e2:((a.put (some d) v).tmps).getD d undef=v:=by simp [Act.put,Array.getD,this]
     grind
    ·have ht2:t<s':=Za
     have hne:m t≠m s':=fun h=>e (hinj _ _ Za hs'q h);rw [hoth (hapart (hms t Za).1 hne (by rw [hdm t Za,hd]))];exact g.rv (slot t ht2 d hd hlt)
  ·-- another
   have him2: ∀s',s'<q->i≠m s':=fun s' h e=>him ⟨s',h,e⟩;obtain ⟨z,hz,hok'⟩:=hok i o hin him2 ho;have hfr:=mid.fr _ hdeps
   have next': ∀ι' v w',Good (Own F ιL) H ι w H ι' w'->RV (Own F ιL) H ι' w' z v->wpAny P .any ops Q (u+(ops.size-n)) (listed.setIfInBounds i true) (a.put o.dst v) w':=fun ι' v w' g r=>by
    have g2:=Good.front hιl gd.rel g rfl;refine next v w' ⟨s,hsq,fun t ht=> ?_,ι',ιL,g.rel.len,mid.put hap g hin hds hz r,gd.trans g2,fun t ht d hd hlt=> ?_⟩
    ·rw [getD_set_ne false (him2 t ht)];exact hst t ht
    ·rw [hoth (hapart (hms t Za).1 (fun h=>him2 t Za h.symm) (by rw [hdm t Za,hd]))];exact g2.rv (slot t ht d hd hlt)
   have run:Zq P o (Zs (ops.toList.map (·.dst)) vals (Zv i o) (Zw ((ops.toList.map (·.dst)).take n) fr)) H (fun x H'=>x=z/\H'=H)->o.wp P a w (wpAny P .any ops Q (u+(ops.size-n)) (listed.setIfInBounds i true)) Q:=fun h =>
    Uz h mid.rel hfr fun x H' ι' v w' hk g r=>by
     grind
   split at hok'
   ·rename_i hg
    have hw:Region.wanted o (yielded ops a.tmps)=true:=by simp [Region.wanted,hg]
    grind
   ·rename_i j b hg;rcases hok' with ⟨c,hc,h1,h2⟩ | ⟨hc,hyt⟩
    rotate_left
    ·have hyl:=XR hfr hc
     have hw: ¬(Region.wanted o (yielded ops a.tmps)=true):=by simp [Region.wanted,hg,hyl]
     rw [if_neg hw];exact next' ι undef w (Good.refl mid.rel) (by grind [X2])
    have hyl:=YD hfr hc
    by_cases hcb:c=b
    ·have hw:Region.wanted o (yielded ops a.tmps)=true:=by simp [Region.wanted,hg,hyl,hcb]
     grind
    ·have hw: ¬(Region.wanted o (yielded ops a.tmps)=true):=by simp [Region.wanted,hg,hyl,hcb]
     rw [if_neg hw];exact next' ι undef w (Good.refl mid.rel) (by grind [X2])
def Qy (P:Program) (H:List Obj):List Oper->List V->List Obj->(List V->List Obj->Prop)->Prop
 | [],fr,L,K=>K fr L
 | o::r,fr,L,K=> ∃y L',Zm P o fr (H++L) (fun x H'=>x=y/\H'=H++L')/\Qy P H r (YR fr o.dst y) L' K
def Yl : List Nat->List Oper->List Oper
 | [],l=>l
 | m::ms,l=>Yl ms (YO m l)
theorem QG : ∀(ms:List Nat) (l:List Oper),(Yl ms l).map (·.dst)=l.map (·.dst)
 | [],_=>rfl
 | m::ms,l=>by rw [Yl,QG ms,AL]
theorem QH : ∀(ms:List Nat) (l:List Oper),(Yl ms l).length=l.length
 | [],_=>rfl
 | m::ms,l=>by rw [Yl,QH ms,AN]
theorem VU : ∀(ms:List Nat) (l:List Oper) (i:Nat),i ∉ ms->(Yl ms l)[i]? =l[i]?
 | [],_,_,_=>rfl
 | m::ms,l,i,h=>by
  simp at h;rw [Yl,VU ms _ i h.2,WT,if_neg h.1]
theorem UY : ∀(ms:List Nat) (l:List Oper) (i:Nat) (o:Oper),i∈ms->l[i]? =some o->(Yl ms l)[i]? =some (Wt o)
 | [],_,_,_,h,_=>by cases h
 | m::ms,l,i,o,h,ho=>by
  rw [Yl]
  by_cases hi:i∈ms
  ·by_cases e:i=m
   ·subst e;have:=UY ms (YO i l) i (Wt o) hi (by rw [WT,if_pos rfl,ho];rfl);rw [this];rfl
   ·exact UY ms (YO m l) i o hi (by rw [WT,if_neg e];exact ho)
  ·have e:i=m:=by
    grind
   subst e;rw [VU ms _ _ hi,WT,if_pos rfl,ho];rfl
def GE (l:List Oper) (n:Nat) (ms:List Nat):Bool :=
 (ms.all fun m=>decide (m<n)&&match l[m]? with
  | some o=>o.guard.isNone&&(YA o.op).all fun t=>(List.range n).all fun j=>match (l.map (·.dst))[j]? with
    | some (some d)=>decide (d≠t)||(Zv m o).contains j
    | _=>true
  | none=>false)&&((List.range (ms.length-1)).all fun s=>match ms[s]?,ms[s+1]? with
   | some a,some b=>match l[b]? with | some o=>(Zv b o).contains a | none=>false
   | _,_=>false)&&(List.range ms.length).all fun s=>(List.range ms.length).all fun t=>decide (s=t)||decide (ms[s]? ≠ms[t]?)
theorem UG {P H} : ∀(os:List Oper) (fr:List V) (L:List Obj) (K:List V->List Obj->Prop),Qy P H os fr L K ->
  ∃(y:Nat->V) (Ls:Nat->List Obj),Ls 0=L/\(∀s,s<os.length->Zm P (os.getD s default) (AY (fun s=>os.getD s default) y s fr) (H++Ls s) (fun x H'=>x=y s/\H'=H++Ls (s+1)))/\K (AY (fun s=>os.getD s default) y os.length fr) (Ls os.length)
 | [],fr,L,K,h=>⟨fun _=> .junk,fun _=>L,rfl,fun s hs=>by simp at hs,h⟩
 | o::r,fr,L,K,⟨y0,L',h1,h2⟩=>by
  obtain ⟨y,Ls,e0,e1,e2⟩:=UG r _ L' K h2
  have hp: ∀s (f:List V),AY (fun s=>(o::r).getD s default) (fun s=>match s with | 0=>y0 | s+1=>y s) (s+1) f=AY (fun s=>r.getD s default) y s (YR f o.dst y0):=fun s=>by
   induction s with
   | zero=>intro f;rfl
   | succ s ih=>grind [AY]
  refine ⟨fun s=>match s with | 0=>y0 | s+1=>y s,fun s=>match s with | 0=>L | s+1=>Ls s,rfl,fun s hs=> ?_,?_⟩
  ·cases s with
   | zero=>simp only [e0];exact h1
   | succ s =>
    grind
  grind
def ZY : List Oper->Nat->Oper
 | [],_=>default
 | o::_,0=>o
 | _::l,n+1=>ZY l n
theorem Kz : ∀(l:List Oper) (n:Nat),ZY l n=l.getD n default
 | [],n=>by simp [ZY]
 | o::l,0=>rfl
 | o::l,n+1=>by simp [ZY,Kz l n]
theorem BI (ms:List Nat) {P:Program} {id:Nat} {l:List Oper} {fr:List V} {H:List Obj} {Q:Exit->List V->List Obj->Prop} {t} (n:Nat) (hm:P.follows .mixedOrders=true) (hB:Yh (List.toArray l) n=true) (hR:Vt (List.toArray (Yl ms l)) n=true) (hL:GE l n ms=true) (hfl:fr.length<=1000000)
  (h:hs P (l.map (·.dst)) H (Zn (fun fr'=>Qy P H (ms.map fun m=>ZY l m) (Dm fr') [] (Zn (fun fr2 L=>Z0 P (l.map (·.dst)) (l.drop n) fr2 (H++L) (Zn (Q .normal) ⟨⟩)) ⟨⟩)) ⟨⟩) ((Yl ms l).take n) (Dm fr)) :
  AWP P (.region id (Zn (List.toArray l) t) true) fr H Q:=fun F ι a w hr hf=>by
 refine wp_region_any hm ?_;have hmap:(ms.map fun m=>ZY l m)=ms.map fun m=>l.getD m default:=List.map_congr_left fun m _=>Kz l m;rw [hmap] at h;have hB':=hB;simp only [Yh,Bool.and_eq_true,decide_eq_true_eq] at hB';obtain ⟨⟨⟨⟨hn,_⟩,_⟩,hap⟩,_⟩:=hB'
 have hn2:n<=l.length:=Za
 simp only [GE,Bool.and_eq_true,List.all_eq_true,decide_eq_true_eq,List.mem_range,Bool.or_eq_true] at hL;obtain ⟨⟨hL1,hL2⟩,hL3⟩:=hL;have hds:(Yl ms l).map (·.dst)=l.map (·.dst):=QG ms l;have hh:=Dl (P:=P) (H:=H) (ops:=List.toArray (Yl ms l)) (n:=n) (fr:=fr) (K:=fun fr'=>Qy P H (ms.map fun m=>l.getD m default) fr' [] (fun fr2 L=>Z0 P (l.map (·.dst)) (l.drop n) fr2 (H++L) (Q .normal))) (by grind [QH]) (by grind) hR _ 0 [] (Nat.zero_le _) rfl (by simp;rfl) (by simpa [hds,Zs,Zn,Dm] using h);obtain ⟨ys,h1,⟨h2a,h2b⟩,h3⟩:=VG _ 0 [] rfl hh
 simp only [List.nil_append,hds] at h2a h2b h3;have hlen:ys.length=n:=h2a;have g0:=Good.drew hr;have hf0:=g0.fr hf;have hget: ∀k,k<n->((Yl ms l).take n)[k]? =(Yl ms l)[k]? :=fun k hk=>List.getElem?_take_of_lt hk;have hjl:(Zw ((l.map (·.dst)).take n) fr).length=fr.length:=Xd _ _;obtain ⟨y,Ls,e0,e1,e2⟩:=UG _ _ _ _ h2b;rw [List.length_map] at e1 e2
 let om:Nat->Oper:=fun s=>(ms.map fun m=>l.getD m default).getD s default
 let m:Nat->Nat:=fun s=>ms.getD s 0
 have hmm: ∀s,s<ms.length->m s∈ms/\ms[s]? =some (m s):=fun s hs=>by
  grind
 have homl: ∀s,s<ms.length->om s=l.getD (m s) default:=fun s hs=>by grind
 have hlat: ∀s,s<ms.length->m s<n/\l[m s]? =some (om s)/\(om s).guard=none:=fun s hs=>by
  obtain ⟨h4,h5⟩:=hL1 _ (hmm s hs).1
  have hlt:m s<l.length:=Za
  have e:l[m s]? =some (om s):=by grind
  rw [e] at h5;simp only [Bool.and_eq_true,Option.isNone_iff_eq_none] at h5
  grind
 have hvm: ∀s,s<ms.length->ys[m s]? =some .junk:=fun s hs=>by
  obtain ⟨q1,q2,q3⟩:=hlat s hs;obtain ⟨z,hy,hk⟩:=h3 (m s) (Wt (om s)) (by grind [UY]);rw [Nat.zero_add] at hy;have e1:(Wt (om s)).guard=none:=q3;rw [e1] at hk;simp only [Wt,Zq,Zm,Xh,Wa,Mp,ZA] at hk
  grind [ev,B3,Z1]
 have hfin:Zs (l.map (·.dst)) ys (List.range n) (Zw ((l.map (·.dst)).take n) fr)=Zs (l.map (·.dst)) ys (List.range n) fr:=Qv hap (by grind) hlen
 have:=Bu (Q:=fun e a' w'=> ∃fr' H' ι',Q e fr' H'/\Good F H ι w H' ι' w'/\Fr F H' ι' w' fr' a') (F:=F) (fr:=fr) (vals:=ys) (P:=P) (H:=H) (Ls:=Ls) (y:=y) (om:=om) (m:=m) (q:=ms.length) (ops:=List.toArray l) (ι0:=ι) (w0:= { w with drawn:=w.drawn+1 }) hB hlen
  (fun s hs=>⟨(hlat s hs).1,by grind,(hlat s hs).2.2,hvm s hs⟩)
  (fun s t hs ht e=>by
   grind)
  (fun s hs=>by
   have h4:=hL2 s Za;rw [(hmm s Za).2,(hmm (s+1) hs).2] at h4;simp only at h4;rw [(hlat (s+1) hs).2.1] at h4
   grind)
  (fun s hs t ht j hj hd=>by
   obtain ⟨_,h5⟩:=hL1 _ (hmm s hs).1;rw [(hlat s hs).2.1] at h5;simp only [Bool.and_eq_true,List.all_eq_true,List.mem_range] at h5;have h6:=h5.2 t ht j hj;simp only at hd;rw [hd] at h6
   grind)
  (fun s hs=>by
   grind)
  (fun i o hi him ho=>by
   have:=h3 i o (by
    rw [hget i hi,VU]
    ·grind
    ·intro hm';obtain ⟨s,hs,e⟩:=List.mem_iff_getElem.1 hm'
     grind)
   grind)
  (fun ι1 a1 w1 g1 f1=>ZM (P:=P) (ops:=List.toArray l) _ _ (H++Ls ms.length) _ (by
   grind) F ι1 a1 w1 g1.rel f1 fun fr' H' ι' a' w' k g f=>⟨fr',H',ι',k,g0.trans (g1.trans g),f⟩)
  n (Array.replicate l.length false) a { w with drawn:=w.drawn+1 }
  ⟨Zb,fun j oj _ hl=>(by grind [getD_replicate_false]),fun t _ ht=>getD_in (by grind) (getD_replicate_false _ _)⟩
  (by
   rw [List.filter_eq_self.2 (fun i _=>by rw [getD_replicate_false];rfl)]
   simp)
  ⟨0,Nat.zero_le _,fun t _=>by rw [getD_replicate_false];simp,ι,[],hr.len,by
   have g1:Rel F (H++ []) (ι++ []) { w with drawn:=w.drawn+1 } :=by simpa using g0.rel
   have r1:=g1.front hr.len hr.refH
   exact ⟨r1,hf0.1,hf0.2.1,fun t x ht _=>RV.narrow (L:= []) hr.len (by simpa using hf0.2.2 t x ht) (hf0.2.2 t x ht).refB,fun j d x _ hl=>by grind [getD_replicate_false]⟩,
   by rw [e0];simpa using Good.refl g0.rel,fun t ht=>Za⟩
 simp only [List.size_toArray] at this;simp only [Zn,List.size_toArray];rwa [show n+(l.length-n)=l.length by omega] at this
@[go_sem] theorem Su {o:Oper} {l} :ZY (o::l) 0=o:=rfl
@[go_sem] theorem St {o:Oper} {l n} :ZY (o::l) (n+1)=ZY l n:=rfl
@[go_sem] theorem dO {l:List Oper} :Yl [] l=l:=rfl
@[go_sem] theorem Sz {m ms} {l:List Oper} :Yl (m::ms) l=Yl ms (YO m l):=rfl
@[go_sem] theorem Ss {P H fr L K} :Qy P H [] fr L K=K fr L:=rfl
theorem B7 {P H o r fr L K} (y:V) (L':List Obj) (h:Zm P o fr (H++L) (fun x H'=>x=y/\H'=H++L')) (k:Qy P H r (YR fr o.dst y) L' K):Qy P H (o::r) fr L K:=⟨y,L',h,k⟩
def Fp (l:List Oper):List (Nat×V)->List V->List V
 | [],fr=>fr
 | (m,y)::dn,fr=>YR (Fp l dn fr) (ZY l m).dst y
theorem U1 (l:List Oper): ∀(dn:List (Nat×V)) (fr:List V),(Fp l dn fr).length=fr.length
 | [],_=>rfl
 | (m,y)::dn,fr=>by rw [Fp,DH,U1 l dn fr]
theorem DI (l:List Oper) {x:V} {t:Nat} : ∀(dn:List (Nat×V)) (fr:List V),(Fp l dn fr)[t]? =some x->(∃p,p∈dn/\(ZY l p.1).dst=some t/\x=p.2/\t<fr.length)\/fr[t]? =some x
 | [],_,h=> .inr h
 | (m,y)::dn,fr,h=>by
  rcases DG h with ⟨h1,h2,h3⟩ | ⟨_,h2⟩
  ·exact .inl ⟨(m,y),Zb,h1,h2,by rw [U1] at h3;exact h3⟩
  ·rcases DI l dn fr h2 with ⟨p,h3,h4⟩ | h3
   ·exact .inl ⟨p,by simp [h3],h4⟩
   ·exact .inr h3
theorem JO (l:List Oper) {R:List Nat} {f1 f2:List V} (hl:f1.length=f2.length) (h:YG R f1 f2): ∀dn,YG R (Fp l dn f1) (Fp l dn f2)
 | []=>h
 | (m,y)::dn=>fun t ht=>by
  have ih:=JO l hl h dn t ht
  have hl2:(Fp l dn f1).length=(Fp l dn f2).length:=by grind [U1]
  simp only [Fp]
  cases (ZY l m).dst with
  | none=>exact ih
  | some d =>
   grind [YR,X6,Jx]
def Ut (l:List Oper) (rem:List Nat):List Nat:=rem.filter fun m=>rem.all fun m'=> !(Zv m (ZY l m)).contains m'
def Wr (P:Program) (H:List Obj) (l:List Oper):Nat->List Nat->List V->List Obj->(List V->List Obj->Prop)->Prop
 | 0,_,fr,L,K=>K fr L
 | n+1,rem,fr,L,K=> ∀m∈Ut l rem,∃y L',Zm P (ZY l m) fr (H++L) (fun x H'=>x=y/\H'=H++L')/\Wr P H l n (rem.erase m) (YR fr (ZY l m).dst y) L' K
def TP (P:Program) (F:Nat->Prop) (H:List Obj) (l:List Oper) (ms:List Nat) (bs:List V) (K:List V->List Obj->Prop) (ds:List (Option Nat)) (fr vals:List V) (n:Nat) (ι0:List (Option Nat)) (w0:World) (listed:Array Bool) (a:Act) (w:World):Prop :=
 ∃(rem:List Nat) (dn:List (Nat×V)) (L:List Obj),rem.Nodup/\(∀m∈rem,m∈ms)/\(∀m∈ms,listed.getD m false=decide (m ∉ rem))/\(∀p∈dn,p.1∈ms/\p.1 ∉ rem)/\Wr P H l rem.length rem (Fp l dn bs) L K /\
  ∃ι ιL,ι.length=H.length/\Mid (Own F ιL) H ds fr vals n listed ι a w/\Good F H ι0 w0 (H++L) (ι++ιL) w /\
   ∀p∈dn,∀d,(ZY l p.1).dst=some d->d<fr.length->RV F (H++L) (ι++ιL) w p.2 (a.tmps.getD d undef)
theorem Bv {P:Program} {ops:Array Oper} {Q:Exit->Act->World->Prop} {F H fr vals} {n:Nat} {l:List Oper} {ms:List Nat} {K:List V->List Obj->Prop} (hol:ops.toList=l) (hB:Yh ops n=true) (hvl:vals.length=n)
  (hms: ∀m∈ms,m<n/\ops[m]? =some (ZY l m)/\(ZY l m).guard=none/\vals[m]? =some .junk)
  (hrd: ∀m∈ms,∀t∈YA (ZY l m).op,∀j,j<n->(ops.toList.map (·.dst))[j]? =some (some t)->j∈Zv m (ZY l m))
  (hok: ∀(i:Nat) (o:Oper),i<n->i ∉ ms->ops[i]? =some o->Fq P (ops.toList.map (·.dst)) (Zw ((ops.toList.map (·.dst)).take n) fr) H vals i o) {ι0 w0}
  (ht: ∀fr' L ι a w,K fr' L->Good F H ι0 w0 (H++L) ι w->Fr F (H++L) ι w fr' a->wpList P ops Q (ops.toList.drop n) a w) :
  ∀(u:Nat) (listed:Array Bool) (a:Act) (w:World),HeadInv .any ops n listed->((List.range n).filter fun i=> !listed.getD i false).length=u ->
   TP P F H l ms (Zs (ops.toList.map (·.dst)) vals (List.range n) (Zw ((ops.toList.map (·.dst)).take n) fr)) K (ops.toList.map (·.dst)) fr vals n ι0 w0 listed a w->wpAny P .any ops Q (u+(ops.size-n)) listed a w:=by
 simp only [Yh,Bool.and_eq_true,decide_eq_true_eq,Bool.or_eq_true] at hB;obtain ⟨⟨⟨⟨hn,hsc⟩,hea⟩,hap⟩,hseq⟩:=hB
 have hdl:n<=(ops.toList.map (·.dst)).length:=by grind
 -- the frame at late operations done, azs far azs is listed
 have frAt: ∀ {dn:List (Nat×V)} {L:List Obj} {listed:Array Bool} {ι ιL:List (Option Nat)} {a:Act} {w:World} (ls:List Nat),(∀j∈ls,j<n/\listed.getD j false=true)->Mid (Own F ιL) H (ops.toList.map (·.dst)) fr vals n listed ι a w ->
   (∀p∈dn,∀d,(ZY l p.1).dst=some d->d<fr.length->RV F (H++L) (ι++ιL) w p.2 (a.tmps.getD d undef)) ->
   Fr F (H++L) (ι++ιL) w (Fp l dn (Zs (ops.toList.map (·.dst)) vals ls (Zw ((ops.toList.map (·.dst)).take n) fr))) a:=fun {dn L listed ι ιL a w} ls hls mid slot=>by
  obtain ⟨f1,f2,f3⟩:=mid.fr ls hls;refine ⟨by rw [U1];exact f1,f2,fun t x hx=> ?_⟩;rcases DI l dn _ hx with ⟨p,h1,h2,rfl,h4⟩ | h1
  ·grind [Z1,Xd]
  ·exact (f3 t x h1).widen
 intro u
 induction u with
 | zero =>
  intro listed a w inv hm mid
  have Xe: ∀i,i<n->listed.getD i false=true:=fun i hi=>by
   have h0:=List.eq_nil_of_length_eq_zero hm
   have:i ∉ (List.range n).filter fun i=> !listed.getD i false:=by rw [h0];simp
   grind
  have hl:listed=Array.replicate n true++Array.replicate (ops.size-n) false:=by
   refine Array.ext (by simp [inv.size];omega) fun i h1 h2=> ?_
   by_cases hi:i<n
   ·have:=Xe i hi;rw [Array.getElem_append_left (by grind)];simp [h1] at this;simp [this]
   ·have:=inv.tail i Za (by grind);rw [Array.getElem_append_right (by simp;omega)];simp [h1] at this;simp [this]
  obtain ⟨rem,dn,L,hnd,hrm,hst,hdn,hlt,ι,ιL,hιl,mid,gd,slot⟩:=mid
  have hs:rem= []:=by
   cases rem with
   | nil=>rfl
   | cons m r =>
    have h1:=hst m (hrm m Zb)
    grind
  subst hs;have hw:=ht _ L (ι++ιL) a w hlt gd (frAt (List.range n) (fun j hj=>⟨List.mem_range.1 hj,Xe j (List.mem_range.1 hj)⟩) mid slot);have:=wpAny_of_seq (md:= .any) (Q':=Q) (ops.toList.drop n) n listed a w (fun j=>Zb) (by grind) hw
  grind
 | succ u ih =>
  intro listed a w inv hm mid
  have hun: ∃i,i<n/\listed.getD i false=false:=by
   cases hf:(List.range n).filter fun i=> !listed.getD i false with
   | nil=>grind
   | cons i l =>
    have:i∈(List.range n).filter fun i=> !listed.getD i false:=by rw [hf];simp
    grind
  have hsz: ∀ {i},i<n->i<listed.size:=fun h=>by rw [inv.size];omega
  have hready:Region.ready .any ops listed≠ []:=by
   obtain ⟨i,hi,hu⟩:=hun
   have: ∃i,i<n/\listed.getD i false=false/\ ∀j,j<i->listed.getD j false=true:=by
    induction i using Nat.strongRecOn with
    | _ i ihh =>
     by_cases hex: ∃j,j<i/\listed.getD j false=false
     ·obtain ⟨j,hj,hju⟩:=hex;exact ihh j hj Za hju
     grind
   obtain ⟨i,hi,hu,hmin⟩:=this;intro h0
   have:i∈Region.ready .any ops listed:=by
    have hlt:i<ops.size:=Za
    refine mem_ready.2 ⟨getD_in (hsz hi) hu,ops[i],by simp [hlt],fun e he hb=> ?_⟩;have h1:=List.all_eq_true.1 hea i (List.mem_range.2 hi)
    grind [Array.all_eq_true_iff_forall_mem]
   grind
  rw [show u+1+(ops.size-n)=(u+(ops.size-n))+1 by omega];refine ⟨fun h0=>absurd h0 hready,fun i hi=> ?_⟩
  have hin:i<n:=by
   rcases hsc with h | ⟨hs,hc⟩
   ·obtain ⟨_,o,ho,_⟩:=mem_ready.1 hi
    grind
   ·rcases Nat.lt_or_ge i n with h | h
    ·exact h
    ·obtain ⟨k,hk,hu⟩:=hun
     by_cases hne:n<ops.size
     ·exact absurd hi (tail_waits hs hc hne inv _ k rfl hk (getD_in (hsz hk) hu) i h)
     grind [mem_ready]
  obtain ⟨hiu,o,ho,Xe⟩:=mem_ready.1 hi
  have hds:(ops.toList.map (·.dst))[i]? =some o.dst:=by simp [ho]
  have hdeps: ∀j∈Zv i o,j<n/\listed.getD j false=true:=fun j hj=>by
   refine ⟨by have:=XY j hj;omega,?_⟩;simp [Zv] at hj
   grind
  have hcount:((List.range n).filter fun k=> !(listed.setIfInBounds i true).getD k false).length=u:=by
   have e:((List.range n).filter fun k=> !(listed.setIfInBounds i true).getD k false)=((List.range n).filter fun k=> !listed.getD k false).filter (fun k=>k≠i):=by
    rw [List.filter_filter];refine List.filter_congr fun k hk=> ?_
    by_cases hki:k=i
    ·subst hki;simp [hsz hin]
    ·rw [getD_set_ne false (fun h=>hki h.symm)];simp [hki]
   rw [e]
   have hmem:i∈(List.range n).filter fun k=> !listed.getD k false:=by
    grind
   have hnd:((List.range n).filter fun k=> !listed.getD k false).Nodup:=List.nodup_range.filter _;have:=List.Nodup.erase_eq_filter hnd i
   grind
  have next: ∀v w',TP P F H l ms (Zs (ops.toList.map (·.dst)) vals (List.range n) (Zw ((ops.toList.map (·.dst)).take n) fr)) K (ops.toList.map (·.dst)) fr vals n ι0 w0 (listed.setIfInBounds i true) (a.put o.dst v) w'->wpAny P .any ops Q (u+(ops.size-n)) (listed.setIfInBounds i true) (a.put o.dst v) w':=fun v w' h =>
   ih _ _ w' (inv.set hi hin) hcount h
  have hiu2:listed.getD i false=false:=getD_both hiu;obtain ⟨rem,dn,L,hnd,hrm,hst,hdn,hlt,ι,ιL,hιl,mid,gd,slot⟩:=mid
  -- a slot that this operation does not write
  have hoth: ∀ {e:Nat} {v:Value},o.dst≠some e->((a.put o.dst v).tmps).getD e undef=a.tmps.getD e undef:=fun {e v} hne=>by
   cases hdst:o.dst with
   | none=>rfl
   | some d =>
    have hne2:d≠e:=fun h=>hne (by rw [hdst,h]);simp [Act.put,Array.getD_eq_getD_getElem?,Array.getElem?_setIfInBounds_ne hne2]
  have hapart: ∀ {j e:Nat},j<n->j≠i->(ops.toList.map (·.dst))[j]? =some (some e)->o.dst≠some e:=fun {j e} hj hji hd h=>by
   have:=List.all_eq_true.1 (List.all_eq_true.1 hap i (List.mem_range.2 hin)) j (List.mem_range.2 hj)
   grind
  have hdm: ∀m∈ms,(ops.toList.map (·.dst))[m]? =some (ZY l m).dst:=fun m hm=>by
   grind
  unfold wpOp;simp only [ho]
  by_cases him:i∈ms
  ·-- a late one
   obtain ⟨_,hom,hgm,hvm⟩:=hms i him;rw [hom] at ho;simp at ho;subst ho
   have hir:i∈rem:=by
    grind
   have hrl:i∈Ut l rem:=by
    rw [Ut,List.mem_filter]
    grind
   obtain ⟨k,hk⟩: ∃k,rem.length=k+1:=⟨rem.length-1,by grind⟩;rw [hk] at hlt;obtain ⟨y,L',hstep,hlt'⟩:=hlt i hrl
   let ls:=(List.range n).filter fun j=>listed.getD j false
   have hls: ∀j∈ls,j<n/\listed.getD j false=true:=fun j hj=>by grind
   have hfr:=frAt (dn:=dn) (L:=L) ls hls mid slot
   have hag:YG (YA (ZY l i).op) (Zs (ops.toList.map (·.dst)) vals ls (Zw ((ops.toList.map (·.dst)).take n) fr)) (Zs (ops.toList.map (·.dst)) vals (List.range n) (Zw ((ops.toList.map (·.dst)).take n) fr)) :=
    Qi hap hdl hvl (fun j hj=>(hls j hj).1) fun t ht j hj hd=>by
     have:=hdeps j (hrd i him t ht j hj hd);simpa [ls] using this
   have hl:=(WH (JO l (by simp [Z1]) hag dn)).2 hstep
   have hw:Region.wanted (ZY l i) (yielded ops a.tmps)=true:=by simp [Region.wanted,hgm]
   rw [if_pos hw];refine .inl (WX hl gd.rel hfr fun x H' ι' v w' hk g r=> ?_);obtain ⟨hx,rfl⟩:=hk;subst hx
   obtain ⟨ι1,ιL',rfl,hl1⟩: ∃ι1 ιL',ι'=ι1++ιL'/\ι1.length=H.length:=⟨ι'.take H.length,ι'.drop H.length,(List.take_append_drop _ _).symm,by
    have:=g.rel.len;rw [List.length_append] at this
    simp;omega⟩
   have trans: ∀ {x:V} {v:Value},RV (Own F ιL) H ι w x v->RV (Own F ιL') H ι1 w' x v:=fun {x v} h=>(g.rv h.widen).narrow hl1 h.refB
   have Zs: ∀m∈ms,(listed.setIfInBounds i true).getD m false=decide (m ∉ rem.erase i):=fun m hm=>by
    by_cases e:m=i
    ·subst e;simp [hsz hin,hnd.not_mem_erase]
    ·rw [getD_set_ne false (fun h=>e h.symm),hst m hm]
     grind
   have hpi: ∀p∈dn,p.1≠i:=fun p hp e=>(hdn p hp).2 (e ▸ hir);refine next v w' ⟨rem.erase i,(i,x)::dn,L',hnd.erase i,fun m hm=>hrm m (List.mem_of_mem_erase hm),Zs,fun p hp=> ?_,?_,ι1,ιL',hl1,⟨g.rel.front hl1 mid.rel.refH,?_,?_,fun t z ht' hnt=> ?_,fun j e z hj hlj hd hz hlt=> ?_⟩,gd.trans g,fun p hp d hd hlt=> ?_⟩
   ·rcases List.mem_cons.1 hp with rfl | hp
    ·grind
    grind
   ·have:(rem.erase i).length=k:=by grind
    rw [this];exact hlt'
   ·cases (ZY l i).dst<;>simp [Act.put,mid.size]
   ·cases (ZY l i).dst<;>exact mid.defers
   ·rw [hoth (fun e=>hnt (by
     rw [List.mem_iff_getElem?]
     exact ⟨i,by grind⟩))]
    exact trans (mid.old t z ht' hnt)
   ·by_cases hij:j=i
    ·subst hij;rw [hvm] at hz;simp at hz;subst hz;exact .junk _
    ·have hl':listed.getD j false=true:=by rwa [getD_set_ne false (fun h=>hij h.symm)] at hlj
     rw [hoth (hapart hj hij hd)];exact trans (mid.new j e z hj hl' hd hz hlt)
   ·rcases List.mem_cons.1 hp with rfl | hp
    ·simp only at hd;rw [hd]
     have:d<a.tmps.size:=by rw [mid.size];exact hlt
     have e2:((a.put (some d) v).tmps).getD d undef=v:=by simp [Act.put,Array.getD,this]
     grind
    ·have hpm:=(hdn p hp).1;rw [hoth (hapart (hms _ hpm).1 (hpi p hp) (by grind))];exact g.rv (slot p hp d hd hlt)
  ·-- another
   obtain ⟨z,hz,hok'⟩:=hok i o hin him ho;have hfr:=mid.fr _ hdeps
   have next': ∀ι' v w',Good (Own F ιL) H ι w H ι' w'->RV (Own F ιL) H ι' w' z v->wpAny P .any ops Q (u+(ops.size-n)) (listed.setIfInBounds i true) (a.put o.dst v) w':=fun ι' v w' g r=>by
    have g2:=Good.front hιl gd.rel g rfl;refine next v w' ⟨rem,dn,L,hnd,hrm,fun m hm=> ?_,hdn,hlt,ι',ιL,g.rel.len,mid.put hap g hin hds hz r,gd.trans g2,fun p hp d hd hlt=> ?_⟩
    ·rw [getD_set_ne false (fun (e:i=m)=>him (e ▸ hm))];grind
    ·have hpm:=(hdn p hp).1;rw [hoth (hapart (hms _ hpm).1 (fun h=>him (h ▸ hpm)) (by grind))];exact g2.rv (slot p hp d hd hlt)
   have run:Zq P o (Zs (ops.toList.map (·.dst)) vals (Zv i o) (Zw ((ops.toList.map (·.dst)).take n) fr)) H (fun x H'=>x=z/\H'=H)->o.wp P a w (wpAny P .any ops Q (u+(ops.size-n)) (listed.setIfInBounds i true)) Q:=fun h =>
    Uz h mid.rel hfr fun x H' ι' v w' hk g r=>by
     grind
   split at hok'
   ·rename_i hg
    have hw:Region.wanted o (yielded ops a.tmps)=true:=by simp [Region.wanted,hg]
    grind
   ·rename_i j b hg;rcases hok' with ⟨c,hc,h1,h2⟩ | ⟨hc,hyt⟩
    rotate_left
    ·have hyl:=XR hfr hc
     have hw: ¬(Region.wanted o (yielded ops a.tmps)=true):=by grind [Region.wanted]
     rw [if_neg hw];exact next' ι undef w (Good.refl mid.rel) (by grind [X2])
    have hyl:=YD hfr hc
    by_cases hcb:c=b
    ·have hw:Region.wanted o (yielded ops a.tmps)=true:=by grind [Region.wanted]
     grind
    ·have hw: ¬(Region.wanted o (yielded ops a.tmps)=true):=by grind [Region.wanted]
     rw [if_neg hw];exact next' ι undef w (Good.refl mid.rel) (by grind [X2])
def GF (l : List Oper) (n : Nat) (ms : List Nat) : Bool :=
  (ms.all fun m => decide (m < n) && decide (m < l.length) && ((ZY l m).guard.isNone && (YA (ZY l m).op).all fun t => (List.range n).all fun j => match (l.map (·.dst))[j]? with
        | some (some d) => decide (d ≠ t) || (Zv m (ZY l m)).contains j
        | _ => true)) && decide ms.Nodup
theorem Qg (ms:List Nat) {P:Program} {id:Nat} {l:List Oper} {fr:List V} {H:List Obj} {Q:Exit->List V->List Obj->Prop} {t} (n:Nat) (hm:P.follows .mixedOrders=true) (hB:Yh (List.toArray l) n=true) (hR:Vt (List.toArray (Yl ms l)) n=true) (hL:GF l n ms=true) (hfl:fr.length<=1000000)
  (h:hs P (l.map (·.dst)) H (Zn (fun fr'=>Wr P H l ms.length ms (Dm fr') [] (Zn (fun fr2 L=>Z0 P (l.map (·.dst)) (l.drop n) fr2 (H++L) (Zn (Q .normal) ⟨⟩)) ⟨⟩)) ⟨⟩) ((Yl ms l).take n) (Dm fr)) :
  AWP P (.region id (Zn (List.toArray l) t) true) fr H Q:=fun F ι a w hr hf=>by
 refine wp_region_any hm ?_;have hB':=hB;simp only [Yh,Bool.and_eq_true,decide_eq_true_eq] at hB';obtain ⟨⟨⟨⟨hn,_⟩,_⟩,hap⟩,_⟩:=hB'
 have hn2:n<=l.length:=Za
 simp only [GF,Bool.and_eq_true,List.all_eq_true,decide_eq_true_eq] at hL;obtain ⟨hL1,hL3⟩:=hL;have hds:(Yl ms l).map (·.dst)=l.map (·.dst):=QG ms l;have hh:=Dl (P:=P) (H:=H) (ops:=List.toArray (Yl ms l)) (n:=n) (fr:=fr) (K:=fun fr'=>Wr P H l ms.length ms fr' [] (fun fr2 L=>Z0 P (l.map (·.dst)) (l.drop n) fr2 (H++L) (Q .normal))) (by grind [QH]) (by grind) hR _ 0 [] (Nat.zero_le _) rfl (by simp;rfl) (by simp_all [Zs,Zn,Dm]);obtain ⟨ys,h1,⟨h2a,h2b⟩,h3⟩:=VG _ 0 [] rfl hh;simp only [List.nil_append,hds] at h2a h2b h3;have hlen:ys.length=n:=h2a
 have g0:=Good.drew hr;have hf0:=g0.fr hf;have hget: ∀k,k<n->((Yl ms l).take n)[k]? =(Yl ms l)[k]? :=fun k hk=>List.getElem?_take_of_lt hk;have hjl:(Zw ((l.map (·.dst)).take n) fr).length=fr.length:=Xd _ _
 have hlat: ∀m∈ms,m<n/\l[m]? =some (ZY l m)/\(ZY l m).guard=none:=fun m hm=>by
  obtain ⟨⟨h4,h5⟩,h6,_⟩:=hL1 m hm;exact ⟨h4,by grind [Kz],by simpa using h6⟩
 have hvm: ∀m∈ms,ys[m]? =some .junk:=fun m hm=>by
  obtain ⟨q1,q2,q3⟩:=hlat m hm;obtain ⟨z,hy,hk⟩:=h3 m (Wt (ZY l m)) (by grind [UY]);rw [Nat.zero_add] at hy;have e1:(Wt (ZY l m)).guard=none:=q3;rw [e1] at hk;simp only [Wt,Zq,Zm,Xh,Wa,Mp,ZA] at hk
  have hk2:gt (Zs (l.map (·.dst)) ys (Zv (0+m) { ZY l m with op:= .move (.tmp 1000000) }) (Zw ((l.map (·.dst)).take n) fr)) 1000000=z:=by grind [ev]
  grind [B3,Z1]
 have hfin:Zs (l.map (·.dst)) ys (List.range n) (Zw ((l.map (·.dst)).take n) fr)=Zs (l.map (·.dst)) ys (List.range n) fr:=Qv hap (by grind) hlen
 have:=Bv (Q:=fun e a' w'=> ∃fr' H' ι',Q e fr' H'/\Good F H ι w H' ι' w'/\Fr F H' ι' w' fr' a') (F:=F) (fr:=fr) (vals:=ys) (P:=P) (H:=H) (l:=l) (ms:=ms) (K:=fun fr2 L=>Z0 P (l.map (·.dst)) (l.drop n) fr2 (H++L) (Q .normal)) (ops:=List.toArray l) (ι0:=ι) (w0:= { w with drawn:=w.drawn+1 }) rfl hB hlen
  (fun m hm=>⟨(hlat m hm).1,by grind,(hlat m hm).2.2,hvm m hm⟩)
  (fun m hm t ht j hj hd=>by
   obtain ⟨_,_,h5⟩:=hL1 m hm;have h6:=h5 t ht j (List.mem_range.2 hj);simp only at hd;rw [hd] at h6
   grind)
  (fun i o hi him ho=>by
   have:=h3 i o (by
    grind [VU])
   grind)
  (fun fr2 L ι1 a1 w1 k1 g1 f1=>ZM (P:=P) (ops:=List.toArray l) _ _ (H++L) _ k1 F ι1 a1 w1 g1.rel f1 fun fr' H' ι' a' w' k g f=>⟨fr',H',ι',k,g0.trans (g1.trans g),f⟩)
  n (Array.replicate l.length false) a { w with drawn:=w.drawn+1 }
  ⟨Zb,fun j oj _ hl=>(by grind [getD_replicate_false]),fun t _ ht=>getD_in (by grind) (getD_replicate_false _ _)⟩
  (by
   grind [List.filter_eq_self,getD_replicate_false])
  ⟨ms,[],[],hL3,fun m hm=>hm,fun m hm=>by grind [getD_replicate_false],fun p hp=>(by cases hp),by
    grind [Fp],ι,[],hr.len,by
   have g1:Rel F (H++ []) (ι++ []) { w with drawn:=w.drawn+1 } :=by simpa using g0.rel
   have r1:=g1.front hr.len hr.refH
   exact ⟨r1,hf0.1,hf0.2.1,fun t x ht _=>RV.narrow (L:= []) hr.len (by simpa using hf0.2.2 t x ht) (hf0.2.2 t x ht).refB,fun j d x _ hl=>by grind [getD_replicate_false]⟩,
   by simpa using Good.refl g0.rel,fun p hp=>(by cases hp)⟩
 grind [Zn]
theorem Kv {P H l rem fr L K} (h:K fr L):Wr P H l 0 rem fr L K:=h
theorem Ds {P H l n rem fr L K} (rs:List Nat) (hr:Ut l rem=rs) (h: ∀m∈rs,∃y L',Zm P (ZY l m) fr (H++L) (fun x H'=>x=y/\H'=H++L')/\Wr P H l n (rem.erase m) (YR fr (ZY l m).dst y) L' K):Wr P H l (n+1) rem fr L K:=fun m hm=>h m (hr ▸ hm)
theorem Y0 {P H l n rem fr L K} (m:Nat) (y:V) (L':List Obj) (hr:Ut l rem= [m]) (h:Zm P (ZY l m) fr (H++L) (fun x H'=>x=y/\H'=H++L')) (k:Wr P H l n (rem.erase m) (YR fr (ZY l m).dst y) L' K):Wr P H l (n+1) rem fr L K :=
 Ds [m] hr fun m' hm'=>by
  grind
theorem EF {P H l n rem fr L K} (m m2:Nat) (y:V) (L':List Obj) (y2:V) (L2:List Obj) (hr:Ut l rem= [m,m2]) (h:Zm P (ZY l m) fr (H++L) (fun x H'=>x=y/\H'=H++L')) (h2:Zm P (ZY l m2) fr (H++L) (fun x H'=>x=y2/\H'=H++L2))
  (k:Wr P H l n (rem.erase m) (YR fr (ZY l m).dst y) L' K) (k2:Wr P H l n (rem.erase m2) (YR fr (ZY l m2).dst y2) L2 K):Wr P H l (n+1) rem fr L K :=
 Ds [m,m2] hr fun m' hm'=>by
  grind
@[go_sem] theorem gU {H:List Obj} {n cs cs'} :Q5 H n (.tup cs) (.tup cs')=(cs'=cs/\Zy n cs=true):=by simp [Q5,HY,refB]
def eII (p:Int×Int):PV×PV:=(.int .i64 p.1,.int .i64 p.2)
def GO (P:Program) (t:TypeId):Option (TypeDesc×Option PV):=match P.underlying t with
 | some (.map kt et)=>(P.underlying kt).map fun d=>(d,YQ P et)
 | _=>none
def JK (l:List (Int×Int)) (k:Int):Option Nat:=l.findIdx? fun p=>decide (k=p.1)
def WR (l:List (Int×Int)) (k:Int):Int:=match JK l k with | some i=>((l[i]?).map (·.2)).getD 0 | none=>0
theorem Up (k:Int): ∀(l:List (Int×Int)) (n:Nat),WQ (.int .i64 k) (l.map eII) n=(JK l k).map fun i=>(n+i,.int .i64 (((l[i]?).map (·.2)).getD 0))
 | [],n=>by rfl
 | p::l,n=>by
  have ih:=Up k l (n+1);simp only [List.map_cons,WQ,eII,Fm]
  by_cases h:k=p.1
  ·simp [h,JK,List.findIdx?_cons]
  ·simp only [h,decide_false,Bool.false_eq_true,if_false];rw [ih];simp only [JK,List.findIdx?_cons,h,decide_false,Bool.false_eq_true,if_false]
   cases l.findIdx? (fun p=>decide (k=p.1)) with
   | none=>rfl
   | some i=>simp;omega
theorem AH {P t d z} (h:GO P t=some (d,z)): ∃kt et,P.underlying t=some (.map kt et)/\P.underlying kt=some d/\YQ P et=z:=by
 unfold GO at h
 split at h
 ·rename_i kt et hu;simp only [Option.map_eq_some_iff,Prod.mk.injEq] at h
  grind
 ·cases h
theorem JG {P:Program} {H:List Obj} {kt:TypeId} {o:Nat} {l:List (Int×Int)} {k:Int} (hd:P.underlying kt=some (.int .i64)) (hH:Xv H o= .map (l.map eII)):QC P H kt (.int .i64 k) o=some (l.map eII):=by
 simp [QC,hH,mkey,hd,eII,kpair]
theorem QE {l:List (Int×Int)} {k:Int} {i:Nat} (h:JK l k=some i): ∃v,l[i]? =some (k,v)/\WR l k=v:=by
 grind [JK,List.findIdx?_eq_some_iff_getElem,WR]
section
variable {P : Program} {H : List Obj} {t : TypeId} {o : Nat} {l : List (Int × Int)} {k : Int} {K : V -> List Obj -> Prop}
theorem AD (hT:GO P t=some (.int .i64,some (.int .i64 0))) (hH:Xv H o= .map (l.map eII)) (h:K (.p (.int .i64 (WR l k))) H):QF (Jm P H t (.mp o) (.p (.int .i64 k)) false) K:=by
 obtain ⟨kt,et,h1,h2,h3⟩:=AH hT;simp only [Jm,h1,JG h2 hH,Option.bind_some,Up,h3]
 grind [WR,QF]
theorem Cc {i:Nat} {v:Int} (hH:Xv H o= .map (l.map eII)) (hm:JK l k=some i) (h:(∀q,WR (l.set i (k,v)) q=if q=k then v else WR l q)->K .junk (H.set o (.map ((l.set i (k,v)).map eII)))):QF (W0 H (.mp o) (.p (.int .i64 (i:Nat))) (.p (.int .i64 v))) K:=by
 obtain ⟨u,q1,q2⟩:=QE hm;have hil:=(List.getElem?_eq_some_iff.1 q1).1
 have e1:(l.map eII)[i]? =some (eII (k,u)):=by grind
 simp only [W0,hH,Int.natCast_nonneg,if_true,Int.toNat_natCast,e1,QF]
 have e2:(l.map eII).set i ((eII (k,u)).1,.int .i64 v)=(l.set i (k,v)).map eII:=by rw [List.map_set];rfl
 rw [e2];refine h fun q=> ?_
 have hkeys: ∀j:Nat,((l.set i (k,v))[j]?).map Prod.fst=(l[j]?).map Prod.fst:=fun j=>by
  grind
 have hmix: ∀q,JK (l.set i (k,v)) q=JK l q:=fun q=>by
  have key: ∀(a b:List (Int×Int)),a.map Prod.fst=b.map Prod.fst->JK a q=JK b q:=fun a b hab=>by
   have e: ∀c:List (Int×Int),JK c q=(c.map Prod.fst).findIdx? fun z=>decide (q=z):=fun c=>by
    rw [List.findIdx?_map];rfl
   grind
  refine key _ _ (List.ext_getElem? fun j=> ?_)
  grind
 unfold WR;rw [hmix]
 by_cases hq:q=k
 ·grind
 ·rw [if_neg hq]
  grind [QE]
end
theorem Ki (n:Nat) {P:Program} {id:Nat} {l:List Oper} {fr:List V} {H:List Obj} {Q:Exit->List V->List Obj->Prop}
  (h:Z0 P (l.map (·.dst)) (l.take n) fr H fun fr' H'=> ∃fr2 H2,Weak H.length fr' H' fr2 H2/\Z0 P (l.map (·.dst)) (l.drop n) fr2 H2 (Q .normal)):AWP P (.region id (List.toArray l) false) fr H Q:=by
 intro F ι a w hr hf;refine wp_region_list ?_;have key:=Z5 (P:=P) (ops:=List.toArray l) (Q:=fun e a' w'=> ∃fr' H' ι',Q e fr' H'/\Good F H ι w H' ι' w'/\Fr F H' ι' w' fr' a') (r:=l.drop n) (l.take n) fr H _ (by simpa using h) F ι a w hr hf ?_
 ·simp_all
 ·rintro fr' H' ι' a' w' ⟨fr2,H2,hw,hk⟩ g f;obtain ⟨ι2,r2,f2,g2⟩:=hw F ι' a' w' g.rel f;exact ZM (P:=P) (ops:=List.toArray l) _ _ H2 _ Za F ι2 _ w' r2 f2 fun fr3 H3 ι3 a3 w3 k3 g3 f3=>⟨fr3,H3,ι3,k3,(g2 H ι w (Nat.le_refl _) g).trans g3,f3⟩
end Go.AM
