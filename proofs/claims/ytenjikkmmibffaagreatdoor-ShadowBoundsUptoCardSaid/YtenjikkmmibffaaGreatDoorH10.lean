/- Declarations that the closing texts need, part 10: joined by tools/slim.py. -/
import Derived.Test.YtenjikkmmibffaaGreatDoorH9
import Derived.Lib.Builder
set_option linter.unusedVariables false
set_option linter.unusedSimpArgs false
namespace Go.AM
open Go.RowKit
@[go_sem ↓] theorem Zjb {c:Code} {t} :NP (Zu c t)=NP c:=Zl rfl rfl
structure KeyE (P:Program) (t:TypeId) {α:Type} [DecidableEq α] (ek:α->PV) (R:α->Prop):Prop where
 typ: ∃kt et,P.underlying t=some (.map kt et)/\zval P et=some (.int .i64 0)/\(∀a,R a->mkey P kt (ek a)=true)/\ ∀a b,R a->R b->kpair P kt (ek a) (ek b)=true
 eq: ∀a b,R a->R b->keq (ek a) (ek b)=decide (a=b)
section
variable {P : Program} {t : TypeId} {α : Type} [DecidableEq α] {ek : α -> PV} {R : α -> Prop}
def Nx (ek:α->PV) (p:α×Int):PV×PV:=(ek p.1,.int .i64 p.2)
def mq (l:List (α×Int)) (k:α):Option Int:=(l.find? fun p=>decide (k=p.1)).map (·.2)
theorem DW (h: ∀a b,R a->R b->keq (ek a) (ek b)=decide (a=b)) {k:α} (hk:R k): ∀(l:List (α×Int)) (n:Nat),(∀p∈l,R p.1)->Q0 (ek k) (l.map (Nx ek)) n=(l.findIdx? fun p=>decide (k=p.1)).map fun i=>(n+i,.int .i64 ((mq l k).getD 0))
 | [],n,_=>by simp [Q0]
 | p::l,n,hl=>by
  have ih:=DW h hk l (n+1) fun q hq=>hl q (XL _ hq);simp only [Zr,Q0,Nx,h _ _ hk (hl p Zb)]
  by_cases e:k=p.1
  ·grind [mq]
  ·simp only [e,Kg,Y1,YH];rw [ih];simp only [mq,List.find?_cons,List.findIdx?_cons,e,Kg,Y1,YH]
   cases l.findIdx? (fun p=>decide (k=p.1)) with
   | none=>rfl
   | some i=>simp;omega
theorem Tj {l:List (α×Int)} {k:α} :mq l k=none↔l.findIdx? (fun p=>decide (k=p.1))=none:=by
 simp_all [mq]
theorem ZdY {l:List (α×Int)} {k:α} {v:Int} (h:mq l k=some v):(k,v)∈l:=by
 grind [mq,ZV]
theorem Iq (h:KeyE P t ek R) {kt et:TypeId} (hu:P.underlying t=some (.map kt et)) {H:List Obj} {o:Nat} {l:List (α×Int)} (hl: ∀p∈l,R p.1) {k:α} (hk:R k) (hH:oat H o= .map (l.map (Nx ek))):CZ P H kt (ek k) o=some (l.map (Nx ek)):=by
 obtain ⟨kt',et',h1,_,h2,h3⟩:=h.typ;rw [hu] at h1;simp only [Qr,TypeDesc.map.injEq] at h1;obtain ⟨rfl,rfl⟩:=h1
 have ha:((l.map (Nx ek)).all fun e=>mkey P kt e.1&&kpair P kt (ek k) e.1)=true:=by
  rw [Zx];intro e he;obtain ⟨p,hp,rfl⟩:=Xn.1 he
  grind [Nx]
 simp_all [CZ]
variable {H : List Obj} {o : Nat} {l : List (α × Int)} {k : α} {K : V -> List Obj -> Prop}
theorem HN (h:KeyE P t ek R) (hl: ∀p∈l,R p.1) (hR:R k) (hH:oat H o= .map (l.map (Nx ek))):Ck P H t (.mp o) (.p (ek k)) true=some (.tup [.p (.int .i64 ((mq l k).getD 0)),.p (.bool (mq l k).isSome)],H):=by
 obtain ⟨kt,et,h1,h2,_⟩:=h.typ;simp only [Ck,h1,Iq h h1 hl hR hH,AR,DW h.eq hR l 0 hl,h2,if_true]
 cases hm:l.findIdx? (fun p=>decide (k=p.1)) with
 | none=>simp [Tj.2 hm]
 | some i =>
  grind [mq,Tj]
theorem mN (h:KeyE P t ek R) (hl: ∀p∈l,R p.1) (hR:R k) (hH:oat H o= .map (l.map (Nx ek))) (hk:K (.tup [.p (.int .i64 ((mq l k).getD 0)),.p (.bool (mq l k).isSome)]) H):Bu (Ck P H t (.mp o) (.p (ek k)) true) K:=by
 grind [HN,Bu]
theorem Mn (h:KeyE P t ek R) (hl: ∀p∈l,R p.1) (hR:R k) {v:Int} (hH:oat H o= .map (l.map (Nx ek))) (hk: ∀l':List (α×Int),(∀q,mq l' q=if q=k then some v else mq l q)->(∀p∈l',p∈l\/p=(k,v))->K .junk (H.set o (.map (l'.map (Nx ek))))):Bu (Es P H t (.mp o) (.p (ek k)) (.p (.int .i64 v))) K:=by
 obtain ⟨kt,et,h1,h2,_⟩:=h.typ;simp only [Es,h1,Iq h h1 hl hR hH,AS,mV,DW h.eq hR l 0 hl]
 cases hm:l.findIdx? (fun p=>decide (k=p.1)) with
 | none =>
  have:=hk (l++ [(k,v)]) (fun q=>by
   unfold mq
   grind) (fun p hp=>by
     grind)
  grind [Bu,Nx]
 | some i =>
  obtain ⟨hi,hp,hno⟩:=UK.1 hm
  have:=hk (l.set i (k,v)) (fun q=>by
   unfold mq
   have hki:k=(l[i]).1:=by grind
   have hsp:l.take i++l[i]::l.drop (i+1)=l:=Zb
   have ZS:l.set i (k,v)=l.take i++(k,v)::l.drop (i+1):=by rw [List.set_eq_take_append_cons_drop,if_pos hi]
   by_cases e:q=k
   ·subst e
    have hn:(l.take i).find? (fun p=>decide (q=p.1))=none:=by
     rw [AN];intro p hp2;obtain ⟨j,hj,rfl⟩:=ZN.1 hp2
     grind
    grind
   grind) (fun p hp2=>by
     grind)
  simp_all [Bu,Nx]
end
@[go_sem ↓] theorem qU {P:Program} {fr:List V} {H:List Obj} {k:V->List Obj->Prop} {d:Option Nat} {u t:TypeId} {x y:Operand} {ok:Bool} {ps:String} {af:Array Edge} {g:Option (Nat×Bool)} :ZH P ⟨d,.lookup u x y ok,t,ps,af,g⟩ fr H k=Zy P ⟨d,.lookup u x y ok,t,ps,af,g⟩ fr H k:=rfl
theorem kD {A:Option (V×List Obj)} {H:List Obj} {z:V} {B:V->Prop} {t} (h:A=some (z,H)) (k:B z):bL (fun y=>Bu A (Zu (Zu (fun x H'=>x=y/\H'=H) ⟨⟩) ⟨⟩)) (Zu B t):=by
 subst h;exact ⟨z,by simp [Bu,Zu],k⟩
theorem JP {n:Nat} {x:Obj} (h:shO n x= .dead):x= .dead:=by cases x<;>simp [shO] at h;rfl
theorem Eg {n:Nat} {x:Obj} {cs:List V} (h:shO n x= .cells cs): ∃c0,x= .cells c0/\cs=shVs n c0:=by cases x<;>simp [shO] at h;grind
theorem Qi {n:Nat} {x:Obj} {S:Nat} {xs:List PV} (h:shO n x= .elems S xs):x= .elems S xs:=by cases x<;>simp [shO] at h;grind
theorem TI {n:Nat} {x:Obj} {es} (h:shO n x= .map es):x= .map es:=by cases x<;>simp [shO] at h;subst h;rfl
theorem TH {n:Nat} {x:Obj} {T E r bs} (h:shO n x= .bld T E r bs): ∃r0,x= .bld T E r0 bs/\r=n+r0:=by cases x<;>simp [shO] at h;simp_all
section
variable {F : Nat -> Prop} {R H0 : List Obj} {ιR ι0 : List (Option Nat)} {w : World}
theorem BF (hl:ιR.length=R.length) {o:Nat} :(ιR++ι0)[R.length+o]? =ι0[o]? :=by grind
theorem Cp {o:Nat} {x:Obj} (h:(R++H0.map (shO R.length))[R.length+o]? =some x): ∃y,H0[o]? =some y/\x=shO R.length y:=by
 grind
theorem Bo {o:Nat} {y:Obj} (h:H0[o]? =some y):(R++H0.map (shO R.length))[R.length+o]? =some (shO R.length y):=by
 grind
theorem RV.unsh (hl:ιR.length=R.length): ∀ {x:V} {v:Value},RV F (R++H0.map (shO R.length)) (ιR++ι0) w (shV R.length x) v->RV (Own F ιR) H0 ι0 w x v
 | .p x,v,h=>by
  cases h with | p _ _ h=>exact .p _ _ (by rw [Wh];exact h)
 | .agg cs,v,h=>by
  simp only [shV] at h
  cases h with | agg _ a hs hr =>
  refine .agg cs a (by simpa [X3] using hs) fun j c hj=> ?_;have:=Ff (XG hj);exact RV.unsh hl (hr j (shV R.length c) (by rw [X3];simp [hj]))
 | .fn f cs ds,v,h=>by
  simp only [shV] at h
  cases h with | fn _ _ _ a e hs ht h1 h2 =>
  refine .fn f cs ds a e (by simpa [X3] using hs) (by simpa [X3] using ht) (fun j c hj=> ?_) (fun j c hj=> ?_)
  ·have:=Ff (XG hj);exact RV.unsh hl (h1 j (shV R.length c) (by rw [X3];simp [hj]))
  ·have:=Ff (XG hj);exact RV.unsh hl (h2 j (shV R.length c) (by rw [X3];simp [hj]))
 | .tup cs,v,h=>by
  simp only [shV] at h
  cases h with | tup _ a hs hr =>
  refine .tup cs a (by simpa [X3] using hs) fun j c hj=> ?_;have:=Ff (XG hj);exact RV.unsh hl (hr j (shV R.length c) (by rw [X3];simp [hj]))
 | .ptr o off,v,h=>by
  simp only [shV] at h
  cases h with
  | ptr _ _ b cs h hH =>
   obtain ⟨y,h1,h2⟩:=Cp hH;obtain ⟨c0,rfl,_⟩:=Eg h2.symm;exact .ptr _ _ b c0 (by rw [<- BF hl];exact h) h1
  | ptrD _ _ _ h =>
   obtain ⟨y,h1,h2⟩:=Cp h;rw [JP h2.symm] at h1;exact .ptrD _ _ _ h1
 | .ep o i j tot,v,h=>by
  simp only [shV] at h
  cases h with
  | ep _ _ _ _ b S xs h hH ht =>
   obtain ⟨y,h1,h2⟩:=Cp hH;rw [Qi h2.symm] at h1;exact .ep _ _ _ _ b S xs (by rw [<- BF hl];exact h) h1 ht
  | epD _ _ _ _ _ h =>
   obtain ⟨y,h1,h2⟩:=Cp h;rw [JP h2.symm] at h1;exact .epD _ _ _ _ _ h1
  | epS _ _ _ _ _ S xs h hne =>
   obtain ⟨y,h1,h2⟩:=Cp h;rw [Qi h2.symm] at h1;exact .epS _ _ _ _ _ S xs h1 hne
 | .sl o off len tot,v,h=>by
  simp only [shV] at h;generalize ho:R.length+o=o' at h
  cases h with
  | slNil _ S a h hH =>
   subst ho;obtain ⟨y,h1,h2⟩:=Cp hH;rw [Qi h2.symm] at h1;exact .slNil _ S a (by rw [<- BF hl];exact h) h1
  | sl _ _ _ _ b S cap t xs c h hH ht hw hcap hl' hlen hm =>
   subst ho;obtain ⟨y,h1,h2⟩:=Cp hH;rw [Qi h2.symm] at h1;exact .sl _ _ _ _ b S cap t xs c (by rw [<- BF hl];exact h) h1 ht hw hcap hl' hlen hm
  | slD _ _ _ _ _ h =>
   subst ho;obtain ⟨y,h1,h2⟩:=Cp h;rw [JP h2.symm] at h1;exact .slD _ _ _ _ _ h1
  | slS _ _ _ _ _ S xs h hne =>
   subst ho;obtain ⟨y,h1,h2⟩:=Cp h;rw [Qi h2.symm] at h1;exact .slS _ _ _ _ _ S xs h1 hne
  | slC _ _ b cap cs h hH hl' hm =>
   subst ho;obtain ⟨y,h1,h2⟩:=Cp hH;obtain ⟨c0,rfl,_⟩:=Eg h2.symm;exact .slC _ _ b cap c0 (by rw [<- BF hl];exact h) h1 hl' hm
 | .lp x j,v,h=>by
  simp only [shV] at h
  cases h with | lp _ _ b off u hX hb hu hq=>exact .lp x j b off u (by rw [Wh];exact hX) hb hu (fun j c hj=>by rw [Wh];exact hq j c hj)
 | .mp o,v,h=>by
  simp only [shV] at h
  cases h with
  | mp _ b es h hH =>
   obtain ⟨y,h1,h2⟩:=Cp hH;rw [TI h2.symm] at h1;exact .mp _ b es (by rw [<- BF hl];exact h) h1
  | mpD _ _ h =>
   obtain ⟨y,h1,h2⟩:=Cp h;rw [JP h2.symm] at h1;exact .mpD _ _ h1
 | .bp o,v,h=>by
  simp only [shV] at h
  cases h with
  | bp _ b T E r bs h hH =>
   obtain ⟨y,h1,h2⟩:=Cp hH;obtain ⟨r0,rfl,_⟩:=TH h2.symm;exact .bp _ b T E r0 bs (by rw [<- BF hl];exact h) h1
  | bpD _ _ h =>
   obtain ⟨y,h1,h2⟩:=Cp h;rw [JP h2.symm] at h1;exact .bpD _ _ h1
 | .err,v,h=>by
  simp only [shV] at h
  cases h with | err t p=>exact .err t p
 | .junk,v,_=> .junk v
theorem Rel.back (hl:ιR.length=R.length) (hr:Rel F (R++H0.map (shO R.length)) (ιR++ι0) w):Rel (Own F ιR) H0 ι0 w:=by
 have hlen:ι0.length=H0.length:=by have:=hr.len;grind
 have gL: ∀ {i:Nat} {b:Nat},ιR[i]? =some (some b)->(ιR++ι0)[i]? =some (some b):=fun h=>by grind
 refine ⟨⟨hlen,fun b hb=> ?_,fun i j b hi hj=> ?_,fun i b hi=> ?_,fun o cs ho=> ?_,fun o S xs ho=> ?_,fun o es ho=> ?_,fun o T E r bs ho=> ?_⟩,hr.env.le fun b hb=>by simp_all [Wh]⟩
 ·rcases hb with hb | hb
  ·exact hr.fin b hb
  ·obtain ⟨i,hi⟩:=Xf.1 hb;exact (hr.avo i b (gL hi)).2
 ·have:=hr.inj (R.length+i) (R.length+j) b (by grind) (by grind);omega
 ·obtain ⟨a1,a2⟩:=hr.avo (R.length+i) b (by grind);refine ⟨fun h=> ?_,a2⟩;rcases h with h | h
  ·exact a1 h
  ·obtain ⟨j,hj⟩:=Xf.1 h;have:=hr.inj (R.length+i) j b (by grind) (gL hj)
   grind
 ·obtain ⟨b,c,t,e1,e2,e3,e4⟩:=hr.cel (R.length+o) (shVs R.length cs) (Bo ho);exact ⟨b,c,t,by grind,e2,by grind [X3],fun j x hj=>RV.unsh hl (e4 j (shV R.length x) (by grind [X3]))⟩
 ·rcases hr.elm (R.length+o) S xs (Bo ho) with ⟨e1,e2⟩ | ⟨b,c,t,cap,e1,e2,e3,e4,e5,e6,e7⟩
  ·grind
  ·exact .inr ⟨b,c,t,cap,by grind,e2,e3,e4,e5,e6,fun i x j y hi hj=>by grind [Wh]⟩
 ·obtain ⟨b,a',k,e1,e2,e3⟩:=hr.mpr (R.length+o) es (Bo ho)
  grind [Wh]
 ·obtain ⟨d0,d,b,go,e1,e2,e3⟩:=hr.bldr (R.length+o) T E (R.length+r) bs (Bo ho)
  grind [JP]
def iO (R:List Obj):Bool:=R.all fun o=>match o with | .bld _ _ r _=>decide (r<R.length) | _=>true
theorem aR {R:List Obj} (h:iO R=true) {o T E r:Nat} {bs:List UInt8} (ho:R[o]? =some (.bld T E r bs)):r<R.length:=by
 have:=Zx.1 h _ (XG ho)
 grind
theorem Good.back (hb0:iO R=true) (hl:ιR.length=R.length) (hr:Rel F (R++H0.map (shO R.length)) (ιR++ι0) w) {H1:List Obj} {ι1:List (Option Nat)} {w':World} (g:Good (Own F ιR) H0 ι0 w H1 ι1 w'):Good F (R++H0.map (shO R.length)) (ιR++ι0) w (R++H1.map (shO R.length)) (ιR++ι1) w':=by
 have hl1:=g.rel.len
 have hl0:ι0.length=H0.length:=by have:=hr.len;grind
 have gL: ∀ {i:Nat} {q:Option Nat} (κ:List (Option Nat)),ιR[i]? =some q->(ιR++κ)[i]? =some q:=fun κ h=>by grind
 have disj: ∀ {b:Nat},some b∈ιR->some b ∉ ι0:=fun {b} hb h=>by
  obtain ⟨i,hi⟩:=Xf.1 hb;obtain ⟨j,hj⟩:=Xf.1 h;have hil:=(ZT.1 hi).1;have:=hr.inj i (R.length+j) b (gL _ hi) (by grind);omega
 have oldR: ∀ {j b:Nat},ιR[j]? =some (some b)->b<w.heap.size/\w'.heap[b]? =w.heap[b]? :=fun {j b} h=>by
  have h1:=(hr.avo j b (gL _ h)).2;exact ⟨h1,g.keep b h1 (disj (XG h))⟩
 have hKeeps:Keeps (Own F (ιR++ι0)) w (Own F (ιR++ι1)) w':=fun b hb hs=>by
  have h0:some b ∉ ι0:=fun h=>hb (.inr (by simp [h]));refine ⟨fun h=> ?_,by have:=g.size;omega,g.keep b hs h0⟩;rcases h with h | h
  ·exact hb (.inl h)
  ·rcases Xj.1 h with h | h
   ·exact hb (.inr (by simp [h]))
   ·exact g.own b hs h0 h
 have split: ∀ {κ:List Obj} {o:Nat} {x:Obj},(R++κ.map (shO R.length))[o]? =some x->(o<R.length/\R[o]? =some x)\/ ∃j y,o=R.length+j/\κ[j]? =some y/\x=shO R.length y:=fun {κ o x} h=>by
  grind
 have gR: ∀ {o:Nat} {x:Obj} (κ:List Obj),R[o]? =some x->(R++κ)[o]? =some x:=fun κ h=>by grind
 have gi: ∀ {o:Nat} (κ:List (Option Nat)),o<R.length->(ιR++κ)[o]? =ιR[o]? :=fun κ h=>YZ Za
 have hHX:HX (R++H0.map (shO R.length)) (ιR++ι0) w (R++H1.map (shO R.length)) (ιR++ι1) w':=fun o ob ho=>by
  rcases split ho with ⟨hlt,h0⟩ | ⟨j,y,rfl,hj,rfl⟩
  ·grind
  ·have e2:(ιR++ι0)[R.length+j]? =ι0[j]? :=BF hl;have e3:(ιR++ι1)[R.length+j]? =ι1[j]? :=BF hl;rcases g.hx j y hj with h | h
   ·exact .inl (Bo h)
   ·right
    cases y with
    | dead=>exact h.elim
    | cells cs=>exact ⟨by obtain ⟨cs',h⟩:=h.1;exact ⟨_,Bo h⟩,by grind⟩
    | map es=>exact ⟨by obtain ⟨cs',h⟩:=h.1;exact ⟨_,Bo h⟩,by grind⟩
    | bld T E r bs=>exact ⟨by obtain ⟨cs',h⟩:=h.1;exact ⟨_,Bo h⟩,by grind⟩
    | elems S xs =>
     obtain ⟨xs',h1,h2⟩:=h;exact ⟨xs',Bo h1,by grind⟩
 have old: ∀ {i b:Nat},(ιR++ι1)[i]? =some (some b)->(i<R.length/\ιR[i]? =some (some b))\/ ∃j,i=R.length+j/\ι1[j]? =some (some b):=fun {i b} h=>by
  grind
 refine Good.up hr.env ⟨⟨by simp;omega,fun b hb=>by have:=hr.fin b hb;have:=g.size;omega,fun i j b hi hj=> ?_,fun i b hi=> ?_,fun o cs ho=> ?_,fun o S xs ho=> ?_,fun o es ho=> ?_,fun o T E r bs ho=> ?_⟩,g.os,g.tape,g.output,fun b c t h=>(g.shape b c t h).imp (fun h=>⟨List.mem_append_right _ h.1,fun h3=>(Xj.1 h3).elim (fun h4=>disj h4 h.1) h.2⟩) id,g.size,fun b hb ho=>g.keep b hb fun h=>ho (by simp [h]),fun b hb ho h=> ?_,hHX⟩
 ·rcases old hi with ⟨h1,h2⟩ | ⟨i1,rfl,h2⟩<;>rcases old hj with ⟨k1,k2⟩ | ⟨j1,rfl,k2⟩
  ·exact hr.inj i j b (gL _ h2) (gL _ k2)
  ·exact absurd (.inr (XG h2)) (g.rel.avo j1 b k2).1
  ·exact absurd (.inr (XG k2)) (g.rel.avo i1 b h2).1
  ·rw [g.rel.inj i1 j1 b h2 k2]
 ·rcases old hi with ⟨h1,h2⟩ | ⟨i1,rfl,h2⟩
  ·obtain ⟨a1,a2⟩:=hr.avo i b (gL _ h2)
   grind
  ·obtain ⟨a1,a2⟩:=g.rel.avo i1 b h2;exact ⟨fun h=>a1 (.inl h),a2⟩
 ·rcases split ho with ⟨h1,h2⟩ | ⟨j,y,rfl,h2,h3⟩
  ·obtain ⟨b,c,t,e1,e2,e3,e4⟩:=hr.cel o cs (gR _ h2);rw [gi _ h1] at e1;exact ⟨b,c,t,gL _ e1,by grind,e3,fun j x hj=>(e4 j x hj).ext hKeeps hHX⟩
  ·obtain ⟨c0,rfl,rfl⟩:=Eg h3.symm;obtain ⟨b,c,t,e1,e2,e3,e4⟩:=g.rel.cel j c0 h2;refine ⟨b,c,t,by grind [BF],e2,by simp [X3,e3],fun q x hq=> ?_⟩;rw [X3] at hq;simp only [Xs,ZV] at hq;obtain ⟨x',h4,rfl⟩:=hq;exact (e4 q x' h4).sh hl
 ·rcases split ho with ⟨h1,h2⟩ | ⟨j,y,rfl,h2,h3⟩
  ·rcases hr.elm o S xs (gR _ h2) with ⟨e1,e2⟩ | ⟨b,c,t,cap,e1,e2,e3,e4,e5,e6,e7⟩
   ·grind
   ·rw [gi _ h1] at e1;exact .inr ⟨b,c,t,cap,gL _ e1,by grind,e3,e4,e5,e6,fun i x j y hi hj=>(e7 i x j y hi hj).ext hKeeps⟩
  ·rw [Qi h3.symm] at h2;rcases g.rel.elm j S xs h2 with ⟨e1,e2⟩ | ⟨b,c,t,cap,e1,e2,e3,e4,e5,e6,e7⟩
   ·grind [BF]
   ·exact .inr ⟨b,c,t,cap,by grind [BF],e2,e3,e4,e5,e6,fun i x j y hi hj=>by grind [Wh]⟩
 ·rcases split ho with ⟨h1,h2⟩ | ⟨j,y,rfl,h2,h3⟩
  ·obtain ⟨b,a',k,e1,e2,e3⟩:=hr.mpr o es (gR _ h2);rw [gi _ h1] at e1;exact ⟨b,a',k,gL _ e1,by grind,e3.ext hKeeps⟩
  ·rw [TI h3.symm] at h2;obtain ⟨b,a',k,e1,e2,e3⟩:=g.rel.mpr j es h2
   grind [Wh,BF]
 ·rcases split ho with ⟨h1,h2⟩ | ⟨j,y,rfl,h2,h3⟩
  ·obtain ⟨d0,d,b,go,e1,e2,e3⟩:=hr.bldr o T E r bs (gR _ h2);rw [gi _ h1] at e1;have hrl:=aR hb0 h2;have ho':=(oldR e1).2
   have d':R[r]? =some .dead:=by grind
   rw [gi _ hrl] at e2;exact ⟨d0,gR _ d',b,go,gL _ e1,gL _ e2,e3.ext ho' fun q hq=>(oldR (by rw [e2,hq])).2⟩
  ·obtain ⟨r0,rfl,rfl⟩:=TH h3.symm;obtain ⟨d0,d,b,go,e1,e2,e3⟩:=g.rel.bldr j T E r0 bs h2;exact ⟨Za,Bo d,b,go,by grind [BF],by grind [BF],e3⟩
 ·rcases Xj.1 h with h | h
  ·grind
  ·exact g.own b hb (fun h=>ho (by simp [h])) h
end
theorem ACalls.back {P g} {args:List V} {H0:List Obj} {Q:V->List Obj->Prop} (h:ACalls P g args H0 Q) (R:List Obj) (hb:iO R=true) :
  ACalls P g (shVs R.length args) (R++H0.map (shO R.length)) fun x H'=> ∃y H1,Q y H1/\x=shV R.length y/\H'=R++H1.map (shO R.length):=by
 refine ⟨h.1,fun F ι w vs hr hv=> ?_⟩;have hlen:=hr.len;simp at hlen;obtain ⟨ιR,ι0,rfl,hl⟩: ∃ιR ι0,ι=ιR++ι0/\ιR.length=R.length:=⟨ι.take R.length,ι.drop R.length,Zb,by simp;omega⟩;refine (h.2 _ _ _ _ (hr.back hl) ⟨by have:=hv.1;grind [X3],fun j c hj=>RV.unsh hl (hv.2 j (shV R.length c) (by grind [X3]))⟩).mono ?_;rintro e w' ⟨x,H1,ι1,v,rfl,q,gd,rv⟩;exact ⟨_,_,_,v,rfl,⟨x,H1,q,rfl,rfl⟩,gd.back hb hl hr,rv.sh hl⟩
theorem cZ {P:Program} {o:Oper} {fr:List V} {H:List Obj} (t e:TypeId) (x y:Operand) (n by':Nat) (z:PV) (h:o.op= .makeSlice t x y) (hu:P.underlying t=some (.slice e)) (hs:Y8 P e=some 1) (hzv:zval P e=some z) (hb:(P.info? e).map (·.bytes)=some by') (hz1:z.one=true)
  (hby:by'*n<=281474976710656) (hn2:n<=281474976710656) (hX:ev fr x= .p (.int .i64 n)) (hY:ev fr y= .p (.int .i64 n)):OpS P o fr H (.sl H.length 0 n n) (H++ [.cells (List.replicate n (.p z))]):=fun F ι a w hr hf=>by
 have hx:=hf.ev x;have hy:=hf.ev y;rw [hX] at hx;rw [hY] at hy
 cases hx with | p _ _ hx=>cases hy with | p _ _ hy =>
 obtain ⟨zz,hzz⟩: ∃zz,((P.info? e).bind (·.zero))=some zz:=by
  grind [zval,Ww]
 have hrz:RP (Own F ι) w z zz:=Dk hzz hzv;have hcl:z.cells= [z]:=PV.cells_one hz1;obtain ⟨z1,z2⟩:=Qc hrz (by grind);rw [hcl] at z1 z2;simp only [ZC,ZG,Xt] at z1;simp only [Ww] at hzz;obtain ⟨ie,hie,hzz⟩:=hzz;simp [hie] at hb
 let arr:Array Value:=(Array.range n).map (zz.cells[· %zz.cells.size]!)
 have harr: ∀q,q<n->arr.getD q undef=zz.cells.getD 0 undef:=fun q hq=>by
  simp [arr,XK,hq,z1,Nat.mod_one]
 have hsz:arr.size=n:=by simp [arr]
 have g:=Qg (H:=H) hr (Pushed.alloc w arr e) (.cells (List.replicate n (.p z))) ⟨by simp [arr],fun j q hq=>by
   rw [List.getElem?_replicate] at hq;split at hq
   ·rename_i hj;simp at hq;subst hq;rw [harr j hj];exact .p _ _ (z2 0 z rfl)
   ·cases hq⟩
 refine ⟨_,.slice (some ⟨w.heap.size,0,none⟩) n n,_,_,?_,.inl rfl,g,?_⟩
 ·have hw:IntKind.i64.wrap (n:Int)=n:=IntWalk.i64_in _ Za
  have h1: ¬((n:Int)<0):=Za
  have h2: ¬(281474976710656<((ie.bytes:Int)*(n:Int))):=by
   grind
  by_cases h0:n=0
  ·subst h0
   have e9:Array.range 0= #[]:=by rfl
   simp [execOp,h,hx.int_inv,hy.int_inv,Instr.makeSlice,asInt,asIntOf,run_underlying hu,typeInfo,hie,show IntKind.i64.wrap 0=0 from rfl,Yb hs,newRow,e9,arr]
  ·simp [execOp,h,hx.int_inv,hy.int_inv,Instr.makeSlice,asInt,asIntOf,run_underlying hu,typeInfo,hie,hw,h1,h2,Yb hs,h0,zeroValue,hzz,newRow,arr]
 ·exact RV.slC (F:=F) (w:=w.alloc (.cells arr e)) (H:=H++ [.cells (List.replicate n (.p z))]) (ι:=ι++ [some w.heap.size]) H.length n w.heap.size n (List.replicate n (.p z)) (by rw [<- hr.len];simp) Zb (Zw _) (by unfold maxLen;omega)
theorem Weak.fzC {n0 fr H} (o:Nat) {ys:List PV} (ho:H[o]? =some (.cells (ys.map .p))) (h1: ∀y∈ys,y.one=true):Weak n0 fr H (fr.map (Hy o ys)) (bS o ys H):=fun F ι a w hr hf=>by
 have hol:=(ZT.1 ho).1;have hlen:=hr.len
 have gne: ∀ {i:Nat},i≠o->(bS o ys H)[i]? =(H[i]?).map (SN o ys):=fun {i} hi=>by
  rw [bS,WL (fun h=>hi h.symm),Xs]
 have geq:(bS o ys H)[o]? =some .dead:=by grind [bS]
 have ine: ∀ {i:Nat},i≠o->(ι.set o none)[i]? =ι[i]? :=fun {i} hi=>WL (fun h=>hi h.symm)
 have ieq:(ι.set o none)[o]? =some none:=by grind
 have hsub: ∀ {i b:Nat},(ι.set o none)[i]? =some (some b)->i≠o/\ι[i]? =some (some b):=fun {i b} hi=>by
  grind
 have hown: ∀b,Own F (ι.set o none) b->Own F ι b:=fun b hb=>by
  rcases hb with hb | hb
  ·exact .inl hb
  ·obtain ⟨i,hi⟩:=Xf.1 hb;exact .inr (XG (hsub hi).2)
 have hX:Keeps (Own F ι) w (Own F (ι.set o none)) w:=fun b hb hs=>⟨fun h=>hb (hown b h),hs,rfl⟩
 have hHX:HX H ι w (bS o ys H) (ι.set o none) w:=fun i ob hi=>by
  by_cases h:i=o
  ·grind
  ·have e:(bS o ys H)[i]? =some (SN o ys ob):=by grind
   cases ob with
   | dead=>exact .inl e
   | cells cs=>exact .inr ⟨⟨_,e⟩,ine h⟩
   | map es=>exact .inr ⟨⟨_,e⟩,ine h⟩
   | bld T E r bs=>exact .inr ⟨⟨_,e⟩,ine h⟩
   | elems S xs=>exact .inr ⟨_,e,.inr ⟨rfl,ine h,fun b c t _ hc=>⟨c,hc,rfl⟩⟩⟩
 have hval: ∀ {x v},RV F H ι w x v->RV F (bS o ys H) (ι.set o none) w (Hy o ys x) v:=fun {x v} hv=>by
  unfold Hy
  split
  ·rename_i o' off len tot
   split
   ·rename_i hc;obtain ⟨rfl,e1,e2⟩:=hc;obtain ⟨b0,c0,t0,f1,f2,f3,f4⟩:=hr.cel o' _ ho
    have hgo: ∀ {off len cap:Nat},off=0->len=tot->len<=cap->cap<=maxLen->RP (Own F (ι.set o' none)) w (.list false ((ys.take (off+len)).drop off)) (.slice (some ⟨b0,0,none⟩) len cap):=fun {off len cap} q1 q2 q3 q4=>by
     subst q1;subst q2;subst e1;simp only [Xt,X5,Fi];refine .list false ys b0 0 cap 1 (fun i j=>c0.getD (i+j) undef) (fun h=> ?_) (hr.avo _ _ f1).2 q3 q4 (fun h=>by cases h) (fun i x hi=>by rw [PV.cells_one (h1 x (XG hi))];rfl) (fun i x j c hi hj=> ?_) fun i x j c hi hj=> ?_
     ·rcases h with h | h
      ·exact (hr.avo _ _ f1).1 h
      ·obtain ⟨i,hi⟩:=Xf.1 h;obtain ⟨h3,h4⟩:=hsub hi;exact h3 (hr.inj _ _ _ h4 f1)
     ·rw [PV.cells_one (h1 x (XG hi))] at hj
      have hj0:j=0:=by grind
      subst hj0;have hil:=(ZT.1 hi).1
      have hs2:i<c0.size:=by grind
      simp [World.cell?,f2,Array.getD,hs2]
     ·rw [PV.cells_one (h1 x (XG hi))] at hj
      have hj0:j=0:=by grind
      subst hj0;simp at hj;subst hj;have:=f4 i (.p x) (by simp [hi])
      cases this with | p _ _ this=>exact this.ext hX
    cases hv with
    | slNil _ S a h2 hH=>grind
    | sl _ _ _ _ b S cap t xs c h2 hH=>grind
    | slD _ _ _ _ _ hd=>grind
    | slS _ _ _ _ _ S2 xs2 hd=>grind
    | slC _ _ b cap cs h2 hH hl hm =>
     rw [f1] at h2;simp at h2;subst h2;exact .p _ _ (hgo rfl rfl hl hm)
   ·exact hv.ext hX hHX
  ·exact hv.ext hX hHX
 have hrel:Rel F (bS o ys H) (ι.set o none) w:=by
  refine ⟨⟨by simp [bS,hlen],hr.fin,fun i j b hi hj=>hr.inj i j b (hsub hi).2 (hsub hj).2,fun i b hi=>hr.avo i b (hsub hi).2,fun i cs hi=> ?_,fun i S' zs hi=> ?_,fun i es hi=> ?_,?_⟩,hr.env.le fun b hb=>hb.imp id fun h=>by grind⟩
  ·by_cases h:i=o
   ·grind
   ·rw [gne h] at hi;obtain ⟨ob,h1,h2⟩:=ZV.1 hi
    cases ob<;>simp only [SN] at h2<;>try cases h2
    rename_i cs0;obtain ⟨b,c,t,e1,e2,e3,e4⟩:=hr.cel i cs0 h1;refine ⟨b,c,t,by grind,e2,by grind,fun j x hj=> ?_⟩
    grind
  ·by_cases h:i=o
   ·grind
   ·rw [gne h] at hi;obtain ⟨ob,h1,h2⟩:=ZV.1 hi
    cases ob<;>simp only [SN] at h2<;>try cases h2
    rcases hr.elm i _ _ h1 with ⟨e1,e2⟩ | ⟨b,c,t,cap,e1,e2,e3,e4,e5,e6,e7⟩
    ·grind
    ·exact .inr ⟨b,c,t,cap,by grind,e2,e3,e4,e5,e6,fun i x j y hi hj=>(e7 i x j y hi hj).ext hX⟩
  ·by_cases h:i=o
   ·grind
   ·rw [gne h] at hi;obtain ⟨ob,h1,h2⟩:=ZV.1 hi
    cases ob<;>simp only [SN] at h2<;>try cases h2
    obtain ⟨b,a',k,e1,e2,e3⟩:=hr.mpr i _ h1;exact ⟨b,a',k,by grind,e2,e3.ext hX⟩
  ·refine Vj hr (fun i T E r bs hi=> ?_) fun i ob hi hs=> ?_
   ·by_cases h:i=o
    ·grind
    ·rw [gne h] at hi;obtain ⟨ob,h1,h2⟩:=ZV.1 hi
     cases ob<;>simp only [SN] at h2<;>try cases h2
     exact h1
   ·have h:i≠o:=fun e=>by subst e;rw [ho] at hi;simp at hi;subst hi;cases hs
    refine ⟨?_,ine h,fun _ _=>rfl⟩;rw [gne h,hi]
    cases ob<;>first | rfl | cases hs
 have hg:Good F H ι w (bS o ys H) (ι.set o none) w:=⟨hrel,rfl,Tp.rfl,rfl,fun _ c _ h=> .inr ⟨c,h,rfl⟩,Zw _,fun _ _ _=>rfl,fun b hb hno h=>by
  grind,hHX⟩
 refine ⟨ι.set o none,hrel,⟨by simpa using hf.1,hf.2.1,fun i x hi=> ?_⟩,fun H0 ι0 w0 _ g=>g.trans hg⟩;rw [Xs] at hi;obtain ⟨y,h5,rfl⟩:=ZV.1 hi;exact hval (hf.2.2 i y h5)
end Go.AM
namespace Go.Proofs.YtenjikkmmibffaaGreatDoor.K
open Go Go.AM Go.Proofs
set_option maxRecDepth 60000
set_option maxHeartbeats 8000000
theorem Yx : lQ 1= .lp (.agg (tabB.map (.int .u8))) 0:=rfl
theorem Vn {s:Option (Option Nat×Nat)} {H:List AM.Obj} {x:V} {E k:Int} {K:V->Prop} (h:E=k) (hk:BU (U2 s H x (.p (.int .u64 k))) K):BU (U2 s H x (.p (.int .u64 E))) K:=h ▸ hk
def Bf (n:Nat):Int:=if n%2=1 then 0 else if n%4=2 then 1 else if n%8=4 then 2 else 3
theorem QF {P Q:Prop} (h:Q) (e:Q->P:=by intro h;simp (disch:=omega) only [tabB,go_sem,seval];exact h):P:=e h
theorem ZeB (n:Nat) (h0:0<n) (h:n<16):PC 211 [.p (.int .u64 n)] (.int .i64 (Bf n)):=by
 have hc:n=1\/n=2\/n=3\/n=4\/n=5\/n=6\/n=7\/n=8\/n=9\/n=10\/n=11\/n=12\/n=13\/n=14\/n=15:=Za
 rcases hc with rfl | rfl | rfl | rfl | rfl | rfl | rfl | rfl | rfl | rfl | rfl | rfl | rfl | rfl | rfl
 ·refine Ze Tryz.func211 rfl Vo ?_;simp (disch:=omega) only [Tryz.f211,Yx,go_sem,seval];refine Vn (k:=0) (by decide+kernel) (QF ?_)
  try rfl
 ·refine Ze Tryz.func211 rfl Vo ?_;simp (disch:=omega) only [Tryz.f211,Yx,go_sem,seval];refine Vn (k:=1) (by decide+kernel) (QF ?_)
  try rfl
 ·refine Ze Tryz.func211 rfl Vo ?_;simp (disch:=omega) only [Tryz.f211,Yx,go_sem,seval];refine Vn (k:=0) (by decide+kernel) (QF ?_)
  try rfl
 ·refine Ze Tryz.func211 rfl Vo ?_;simp (disch:=omega) only [Tryz.f211,Yx,go_sem,seval];refine Vn (k:=3) (by decide+kernel) (QF ?_)
  try rfl
 ·refine Ze Tryz.func211 rfl Vo ?_;simp (disch:=omega) only [Tryz.f211,Yx,go_sem,seval];refine Vn (k:=0) (by decide+kernel) (QF ?_)
  try rfl
 ·refine Ze Tryz.func211 rfl Vo ?_;simp (disch:=omega) only [Tryz.f211,Yx,go_sem,seval];refine Vn (k:=1) (by decide+kernel) (QF ?_)
  try rfl
 ·refine Ze Tryz.func211 rfl Vo ?_;simp (disch:=omega) only [Tryz.f211,Yx,go_sem,seval];refine Vn (k:=0) (by decide+kernel) (QF ?_)
  try rfl
 ·refine Ze Tryz.func211 rfl Vo ?_;simp (disch:=omega) only [Tryz.f211,Yx,go_sem,seval];refine Vn (k:=7) (by decide+kernel) (QF ?_)
  try rfl
 ·refine Ze Tryz.func211 rfl Vo ?_;simp (disch:=omega) only [Tryz.f211,Yx,go_sem,seval];refine Vn (k:=0) (by decide+kernel) (QF ?_)
  try rfl
 ·refine Ze Tryz.func211 rfl Vo ?_;simp (disch:=omega) only [Tryz.f211,Yx,go_sem,seval];refine Vn (k:=1) (by decide+kernel) (QF ?_)
  try rfl
 ·refine Ze Tryz.func211 rfl Vo ?_;simp (disch:=omega) only [Tryz.f211,Yx,go_sem,seval];refine Vn (k:=0) (by decide+kernel) (QF ?_)
  try rfl
 ·refine Ze Tryz.func211 rfl Vo ?_;simp (disch:=omega) only [Tryz.f211,Yx,go_sem,seval];refine Vn (k:=3) (by decide+kernel) (QF ?_)
  try rfl
 ·refine Ze Tryz.func211 rfl Vo ?_;simp (disch:=omega) only [Tryz.f211,Yx,go_sem,seval];refine Vn (k:=0) (by decide+kernel) (QF ?_)
  try rfl
 ·refine Ze Tryz.func211 rfl Vo ?_;simp (disch:=omega) only [Tryz.f211,Yx,go_sem,seval];refine Vn (k:=1) (by decide+kernel) (QF ?_)
  try rfl
 ·refine Ze Tryz.func211 rfl Vo ?_;simp (disch:=omega) only [Tryz.f211,Yx,go_sem,seval];refine Vn (k:=0) (by decide+kernel) (QF ?_)
  try rfl
end Go.Proofs.YtenjikkmmibffaaGreatDoor.K
