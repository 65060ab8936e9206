/- Declarations that the closing texts need, part 12: joined by tools/slim.py. -/
import Derived.Test.YtmbelkfkhclnkaaGreatDoorZS11
import Derived.Lib.Builder
set_option linter.unusedVariables false
set_option linter.unusedSimpArgs false
namespace Go.AM
open Go.RowKit
@[go_sem ↓] theorem kO {c:Code} {t} :Cj (Zp c t)=Cj c:=Eq.trans rfl rfl
structure Grew (w w':World) (go go':Option Nat):Prop where
 os:w'.os=w.os
 tape:Tp w w'
 output:w'.output=w.output
 size:w.heap.size<=w'.heap.size
 old: ∀k,k<w.heap.size->some k≠go->w'.heap[k]? =w.heap[k]?
 new: ∀g,go'=some g->g<w'.heap.size/\(go=some g\/w.heap.size<=g)
 shape: ∀g c t,go=some g->w.heap[g]? =some (.cells c t (0,0))-> ∃c',w'.heap[g]? =some (.cells c' t (0,0))/\c'.size=c.size
theorem Grew.drewAlloc {w:World} {go:Option Nat} {ob:Go.Obj} :Grew w (w.drew.alloc ob) go (some w.heap.size):=by
 have old: ∀k,k<w.heap.size->(w.drew.alloc ob).heap[k]? =w.heap[k]? :=fun k hk=>by
  show (w.heap.push ob)[k]? =_
  grind
 have sz:(w.drew.alloc ob).heap.size=w.heap.size+1:=Zb
 refine ⟨rfl,Tp.of rfl (Nat.le_succ _),rfl,Za,fun k hk _=>old k hk,fun g hg=> ?_,fun g c t _ h=>⟨c,?_,rfl⟩⟩
 ·grind
 grind
theorem CN {P:Program} {w:World} {t t2 ty e:TypeId} {i:TypeInfo} {X:Nat->Prop} {sv:Value} (ht:P.underlying t=some (.slice e)) (hi:P.info? e=some i) (hz:i.zero=some (.int .u8 0)) (hs1:i.size=1) (hby:i.bytes=1)
  {v:Value} {n:Nat} {xs:List Value} (hown:w.ownsRow 0 e 1 v n xs) (s:List UInt8) (hs:s≠ []) (hsrc:Src P X w t2 sv 1 (s.map fun b=>PV.int .u8 b.toNat) (s.map fun b=>Value.int .u8 b.toNat)) (hb:n+s.length<=140737488355328) :
  ∃v' w',(Builtin.append_ #[t,t2] ty #[v,sv]).run P w= .ok v' w'/\w'.ownsRow 0 e 1 v' (n+s.length) (xs++s.map fun x=> .int .u8 x.toNat)/\Grew w w' v.ownBlock v'.ownBlock:=by
 have hsl:0<s.length:=List.length_pos_iff.2 hs
 have htsz:XA P e=some 1:=by simp [XA,hi,hs1]
 have h1: ∀v∈s.map (fun b=>Value.int .u8 b.toNat),v.oneCell'=true:=fun v hv=>by simp at hv;obtain ⟨a,_,rfl⟩:=hv;rfl
 obtain ⟨hxl,hown⟩:=hown
 have fresh: ∀ {a:Option Addr} {cap:Nat},cap<n+s.length->(∀w':World,w'.heap=w.heap->(Builtin.firstCells 1 n (.slice a n cap)).run P w'= .ok xs.toArray w') ->
   ∃v' w',(Builtin.append_ #[t,t2] ty #[.slice a n cap,sv]).run P w= .ok v' w'/\w'.ownsRow 0 e 1 v' (n+s.length) (xs++s.map fun x=> .int .u8 x.toNat)/\Grew w w' (Value.slice a n cap).ownBlock v'.ownBlock:=fun {a cap} hc hf=>by
  have hrun:=Yc (ty:=ty) ht htsz hsrc hi hz (a:=a) (n:=n) (cap:=cap) (olds:=xs) hxl hf (by simpa using hc) (by simp;omega) (by rw [hby];decide) (by rw [hby];simpa using hb);simp only [List.length_map] at hrun;refine ⟨_,_,hrun,⟨by simp;omega,.inr ⟨w.heap.size,grownCap w (n+s.length) cap e,_,rfl,Nat.zero_le _,(Pushed.drewAlloc w _ e).new,grownCap_ge w (n+s.length) cap e,grownCap_le_maxLen w (n+s.length) cap e (by unfold maxLen;omega),?_,?_⟩⟩,Grew.drewAlloc⟩
  ·have:=grownCap_ge w (n+s.length) cap e;have hz1:(Value.int .u8 0).cells.size=1:=rfl;simp only [Array.size_append,List.size_toArray,size_zeroCells,hxl,hz1,List.length_map];omega
  ·simp only [Array.toList_append];rw [List.take_append_of_le_length (by simp;omega),List.take_of_length_le (by simp;omega)]
 rcases hown with ⟨rfl,rfl⟩ | ⟨g,cap,cur,rfl,_,hg,hnc,hcm,hcs,htk⟩
 ·have hx0:xs= []:=List.eq_nil_of_length_eq_zero Za;subst hx0;exact fresh Za (fun w' _=>by simp [Builtin.firstCells,loadCells,loadCellsFrom])
 ·by_cases hroom:n+s.length<=cap
  ·have hrun:=Ul (ty:=ty) ht htsz hsrc (n:=n) (cap:=cap) hg (by simpa using hroom) (by simp;omega) h1;simp only [List.length_map] at hrun;have hlt:g<w.heap.size:=(Array.getElem?_eq_some_iff.1 hg).1;have hT:=Turned.setRow (c:=((cur.toList.take (n*1)++s.map (fun b=>Value.int .u8 b.toNat)++cur.toList.drop (n*1+s.length))).toArray) hg
   have hsz2:((cur.toList.take (n*1)++s.map (fun b=>Value.int .u8 b.toNat)++cur.toList.drop (n*1+s.length))).toArray.size=cur.size:=by
    simp;omega
   refine ⟨_,_,hrun,⟨by simp;omega,.inr ⟨g,cap,_,rfl,Nat.zero_le _,hT.at',hroom,hcm,by rw [hsz2];exact hcs,?_⟩⟩,⟨rfl,Tp.rfl,rfl,by rw [hT.size];exact Nat.le_refl _,fun k _ hk=>hT.other k (fun h=>hk (by rw [h];rfl)),fun g' hg'=> ?_,fun g' c' t' hg' hc'=> ?_⟩⟩
   ·rw [htk];rw [List.take_append_of_le_length (by simp;omega),List.take_of_length_le (by simp;omega)]
   ·simp [Value.ownBlock] at hg';subst hg';exact ⟨by rw [hT.size];exact hlt,.inl rfl⟩
   ·simp [Value.ownBlock] at hg';subst hg';rw [hg] at hc';simp at hc';obtain ⟨rfl,rfl⟩:=hc';exact ⟨_,hT.at',hsz2⟩
  ·exact fresh Za (fun w' hw=>WH (w:=w) hxl (fun j u hj=>by
    rw [<- htk] at hj;have hjl:=(List.getElem?_eq_some_iff.1 hj).1;simp at hjl;rw [List.getElem?_take_of_lt Za] at hj;rw [Addr.add_lit]
    simpa [World.cell?,hg] using hj) w' hw)
theorem LP {P:Program} {w:World} {t t2 ty e:TypeId} {i:TypeInfo} (ht:P.underlying t=some (.slice e)) (hu:P.underlying t2=some .string) (hi:P.info? e=some i) (hz:i.zero=some (.int .u8 0)) (hs1:i.size=1) (hby:i.bytes=1)
  {v:Value} {n:Nat} {xs:List Value} (hown:w.ownsRow 0 e 1 v n xs) (s:List UInt8) (hs:s≠ []) (hb:n+s.length<=140737488355328) :
  ∃v' w',(Builtin.append_ #[t,t2] ty #[v,.string ⟨s.toArray⟩]).run P w= .ok v' w'/\w'.ownsRow 0 e 1 v' (n+s.length) (xs++s.map fun x=> .int .u8 x.toNat)/\Grew w w' v.ownBlock v'.ownBlock:=by
 have hsz:(⟨s.toArray⟩:ByteArray).size=s.length:=by show s.toArray.size=_;simp
 have hsl:0<s.length:=List.length_pos_iff.2 hs
 have htsz:XA P e=some 1:=by simp [XA,hi,hs1]
 have hsrc:Src P (fun _=>False) w t2 (.string ⟨s.toArray⟩) 1 (s.map fun b=>PV.int .u8 b.toNat) (s.map fun b=>Value.int .u8 b.toNat):=by
  refine ⟨Zb,.inl hu,fun w'=>by simp [Builtin.lenOf,hsz],fun w' _=> ?_,fun i y j c hi hj=> ?_⟩
  ·have e:(⟨s.toArray⟩:ByteArray).extract 0 s.length=⟨s.toArray⟩:=by
    rw [Ue s 0 s.length Za (Nat.le_refl _)];simp
   simp [Builtin.firstCells,e]
  ·simp only [List.getElem?_map,Option.map_eq_some_iff] at hi;obtain ⟨b,hb,rfl⟩:=hi
   cases j with
   | zero =>
    simp [PV.cells] at hj;subst hj;simp [List.getD,hb];exact .int _ _
   | succ j=>simp [PV.cells] at hj
 exact CN ht hi hz hs1 hby hown s hs hsrc hb
theorem Df {P:Program} {w:World} {ops:Array Oper} {rest:List Oper} {o:Oper} {a:Act} {Q:Exit->Act->World->Prop} (hgd:o.guard=none) (sl x:Operand) (t u:TypeId)
  (ho:o.op= .call { callee:= .builtin .append,args:= #[sl,x],argTypes:= #[t,u] }) (e:TypeId) (i:TypeInfo) (ht:P.underlying t=some (.slice e)) (hu:P.underlying u=some .string) (hi:P.info? e=some i) (hz:i.zero=some (.int .u8 0)) (hs1:i.size=1) (hby:i.bytes=1)
  (v:Value) (n:Nat) (xs:List Value) (hs:a.eval sl=v) (hown:w.ownsRow 0 e 1 v n xs) (s:List UInt8) (hs0:s≠ []) (hx:a.eval x= .string ⟨s.toArray⟩) (hb:n+s.length<=140737488355328)
  (h: ∀v' w',w'.ownsRow 0 e 1 v' (n+s.length) (xs++s.map fun x=> .int .u8 x.toNat)->Grew w w' v.ownBlock v'.ownBlock->wpList P ops Q rest (a.put o.dst v') w'):wpList P ops Q (o::rest) a w:=by
 refine wpList_plain hgd fun K hK=> ?_;obtain ⟨v',w',hr,h2,h3⟩:=LP (P:=P) (ty:=o.type) ht hu hi hz hs1 hby hown s hs0 hb;unfold Oper.wp execOp;simp only [ho,resolve,invoke,builtin,Sem.run_bind,Sem.run_pure,Result.andThen_ok,List.map_toArray,List.map_cons,List.map_nil,hs,hx,hr];exact hK _ _ (h v' w' h2 h3)
section
variable {F : Nat -> Prop} {H : List Obj} {ι : List (Option Nat)} {w w' : World}
theorem AZ (hr:Rel F H ι w) {T:TypeId} (E:TypeId) (hp:Pushed w w' #[.pointer none,.slice none 0 0] T):Good F H ι w (H++ [.bld T E (H.length+1) [],.dead]) (ι++ [some w.heap.size,none]) w':=by
 have hlen:=hr.len;have hold: ∀i b,ι[i]? =some (some b)->b<w.heap.size:=fun i b h=>(hr.avo i b h).2;have gH: ∀ {i:Nat},i<H.length->(H++ [.bld T E (H.length+1) [],.dead])[i]? =H[i]? :=fun h=>List.getElem?_append_left h;have gi: ∀ {i:Nat},i<H.length->(ι++ [some w.heap.size,none])[i]? =ι[i]? :=fun h=>List.getElem?_append_left Za
 have old: ∀ {i:Nat} {x:Obj},(H++ [.bld T E (H.length+1) [],.dead])[i]? =some x->(i<H.length/\H[i]? =some x)\/(i=H.length/\x= .bld T E (H.length+1) [])\/(i=H.length+1/\x= .dead):=fun {i x} h=>by
  grind
 have oldi: ∀ {i b:Nat},(ι++ [some w.heap.size,none])[i]? =some (some b)->(i<H.length/\ι[i]? =some (some b))\/(i=H.length/\b=w.heap.size):=fun {i b} h=>by
  grind
 have e1:(ι++ [some w.heap.size,none])[H.length]? =some (some w.heap.size):=by grind
 have e2:(ι++ [some w.heap.size,none])[H.length+1]? =some none:=by grind
 have hkeep:Keeps (Own F ι) w (Own F (ι++ [some w.heap.size,none])) w':=fun b hb hs=>by
  refine ⟨?_,by rw [hp.size];omega,hp.old hs⟩;rintro (h | h)
  ·exact hb (.inl h)
  ·simp at h;rcases h with h | h
   ·exact hb (.inr h)
   ·omega
 have hx:HX H ι w (H++ [.bld T E (H.length+1) [],.dead]) (ι++ [some w.heap.size,none]) w':=fun o x ho=>by
  have hlt:o<H.length:=(List.getElem?_eq_some_iff.1 ho).1;have e1:=(gH hlt).trans ho
  cases x with
  | dead=>exact .inl e1
  | cells cs=>grind
  | map es=>grind
  | bld=>grind
  | elems S xs=>exact .inr ⟨_,e1,.inr ⟨rfl,gi hlt,fun b c t hb hc=>⟨c,by rw [hp.old (hold _ _ hb)];exact hc,rfl⟩⟩⟩
 refine Good.up hr.env ⟨⟨by simp [hlen],fun b hb=>by rw [hp.size];have:=hr.fin b hb;omega,fun i j b hi hj=> ?_,fun i b hi=> ?_,fun o cs ho=> ?_,fun o S xs ho=> ?_,fun o es ho=> ?_,fun o T2 E2 r bs ho=> ?_⟩,hp.os,hp.tape,hp.output,fun b c0 t0 h0=> .inr ⟨c0,by rw [hp.old (Array.getElem?_eq_some_iff.1 h0).1];exact h0,rfl⟩,by rw [hp.size];omega,fun b hb _=>hp.old hb,fun b hb ho h=> ?_,hx⟩
 ·rcases oldi hi with ⟨_,hi⟩ | ⟨hi,e⟩<;>rcases oldi hj with ⟨_,hj⟩ | ⟨hj,e'⟩
  ·exact hr.inj i j b hi hj
  ·grind
  ·grind
  ·omega
 ·rcases oldi hi with ⟨_,hi⟩ | ⟨hi,rfl⟩
  ·have:=hr.avo i b hi;exact ⟨this.1,by rw [hp.size];omega⟩
  ·exact ⟨fun h=>by have:=hr.fin _ h;omega,by rw [hp.size];omega⟩
 ·rcases old ho with ⟨hlt,ho⟩ | ⟨_,e⟩ | ⟨_,e⟩
  ·obtain ⟨b,c',t',h1,h2,h3,h4⟩:=hr.cel o cs ho;exact ⟨b,c',t',by grind,by rw [hp.old (hold _ _ h1)];exact h2,h3,fun j x hj=>(h4 j x hj).ext hkeep hx⟩
  ·cases e
  ·cases e
 ·rcases old ho with ⟨hlt,ho⟩ | ⟨_,e⟩ | ⟨_,e⟩
  ·rcases hr.elm o S xs ho with ⟨h1,h2⟩ | ⟨b,c',t',cap,h1,h2,h3,h4,h5,h6,h7⟩
   ·grind
   ·exact .inr ⟨b,c',t',cap,by grind,by rw [hp.old (hold _ _ h1)];exact h2,h3,h4,h5,h6,fun i x j y hi hj=>(h7 i x j y hi hj).ext hkeep⟩
  ·cases e
  ·cases e
 ·rcases old ho with ⟨hlt,ho⟩ | ⟨_,e⟩ | ⟨_,e⟩
  ·obtain ⟨b,a',k,h1,h2,h3⟩:=hr.mpr o es ho;exact ⟨b,a',k,by grind,by rw [hp.old (hold _ _ h1)];exact h2,h3.ext hkeep⟩
  ·cases e
  ·cases e
 ·rcases old ho with ⟨hlt,ho⟩ | ⟨rfl,e⟩ | ⟨_,e⟩
  ·obtain ⟨d0,d,b,go,h1,h2,h3⟩:=hr.bldr o T2 E2 r bs ho;have hrl:=(List.getElem?_eq_some_iff.1 d).1;exact ⟨d0,(gH hrl).trans d,b,go,(gi hlt).trans h1,(gi hrl).trans h2,h3.ext (hp.old (hold _ _ h1)) fun g hg=>hp.old (hold r g (by rw [h2,hg]))⟩
  ·simp at e;obtain ⟨rfl,rfl,rfl,rfl⟩:=e;refine ⟨rfl,Zb,w.heap.size,none,e1,e2,_,_,hp.new,.inl rfl,rfl,rfl,.inl ⟨rfl,rfl⟩⟩
  ·cases e
 grind
theorem QW (hr:Rel F H ι w) {o T E r b:Nat} {go go':Option Nat} {bs:List UInt8} {ob':Obj} (hH:H[o]? =some (.bld T E r bs)) (hb:ι[o]? =some (some b)) (hg:ι[r]? =some go)
  (hos:w'.os=w.os) (htape:Tp w w') (hout:w'.output=w.output) (hsz:w.heap.size<=w'.heap.size) (hold: ∀k,k<w.heap.size->k≠b->some k≠go->w'.heap[k]? =w.heap[k]?)
  (hnew: ∀g,go'=some g->g<w'.heap.size/\(go=some g\/w.heap.size<=g))
  (hshape: ∀g c t,some g=go\/g=b->w.heap[g]? =some (.cells c t (0,0))->(some g=go/\go'≠go)\/ ∃c',w'.heap[g]? =some (.cells c' t (0,0))/\c'.size=c.size) (hob:ob'= .dead\/ ∃bs',ob'= .bld T E r bs'/\BRep w' T E b go' bs') :
  Good F H ι w (H.set o ob') (ι.set r go') w':=by
 obtain ⟨hor,hrd,b0,go0,q1,q2,_⟩:=hr.bldr o T E r bs hH
 have hb0:b0=b:=by grind
 subst hb0
 have hg0:go0=go:=by grind
 subst hg0;have hlen:=hr.len;have hol:=(List.getElem?_eq_some_iff.1 hH).1;have hrl:=(List.getElem?_eq_some_iff.1 hrd).1;have lt: ∀i k,ι[i]? =some (some k)->k<w.heap.size:=fun i k h=>(hr.avo i k h).2;have gH: ∀ {i:Nat},i≠o->(H.set o ob')[i]? =H[i]? :=fun h=>List.getElem?_set_ne (Ne.symm h)
 have gHo:(H.set o ob')[o]? =some ob':=by simp [hol]
 have gi: ∀ {i:Nat},i≠r->(ι.set r go')[i]? =ι[i]? :=fun h=>List.getElem?_set_ne (Ne.symm h)
 have gir:(ι.set r go')[r]? =some go':=by grind
 have neb: ∀ {i k:Nat},i≠o->ι[i]? =some (some k)->k≠b0:=fun {i k} hi h e=>hi (hr.inj i o k h (by grind));have neg: ∀ {i k:Nat},i≠r->ι[i]? =some (some k)->some k≠go0:=fun {i k} hi h e=>hi (hr.inj i r k h (by grind));have oth: ∀ {i k:Nat},i≠o->i≠r->ι[i]? =some (some k)->w'.heap[k]? =w.heap[k]? :=fun {i k} h1 h2 h=>hold k (lt i k h) (neb h1 h) (neg h2 h)
 have mem: ∀k,k<w.heap.size->some k ∉ ι->some k ∉ ι.set r go':=fun k hk hn hm=>by
  grind
 have kept: ∀k,k<w.heap.size->some k ∉ ι->w'.heap[k]? =w.heap[k]? :=fun k hk hn=>hold k hk (fun e=>hn (by grind)) (fun e=>hn (by grind))
 have hkeep:Keeps (Own F ι) w (Own F (ι.set r go')) w':=fun k hk hs=>by
  have h1:some k ∉ ι:=fun h=>hk (.inr h);exact ⟨fun h=>h.elim (fun h=>hk (.inl h)) (mem k hs h1),Za,kept k hs h1⟩
 have hx:HX H ι w (H.set o ob') (ι.set r go') w':=fun i x hi=>by
  by_cases hio:i=o
  ·grind
  ·have e1:=(gH hio).trans hi;have hir:x≠ .dead->i≠r:=fun h e=>h (by grind)
   cases x with
   | dead=>exact .inl e1
   | cells cs=>grind
   | map es=>grind
   | bld=>grind
   | elems S xs=>grind
 have F0: ∀ {g:Nat},go'=some g-> ¬F g:=fun {g} h hF=>by
  rcases (hnew g h).2 with h1 | h1
  ·exact (hr.avo r g (by rw [hg,h1])).1 hF
  ·have:=hr.fin g hF;omega
 have new: ∀ {i g:Nat},i≠r->ι[i]? =some (some g)->go'≠some g:=fun {i g} hi h e=>by
  grind
 refine Good.up hr.env ⟨⟨by simp [hlen],fun k hk=>by have:=hr.fin k hk;omega,fun i j k hi hj=> ?_,fun i k hi=> ?_,fun i cs hi=> ?_,fun i S xs hi=> ?_,fun i es hi=> ?_,fun i T2 E2 r2 bs2 hi=> ?_⟩,hos,htape,hout,fun k c t hc=> ?_,hsz,kept,fun k hk hn=>mem k hk hn,hx⟩
 ·by_cases h1:i=r<;>by_cases h2:j=r
  ·omega
  ·grind
  ·grind
  ·rw [gi h1] at hi;rw [gi h2] at hj;exact hr.inj i j k hi hj
 ·by_cases h1:i=r
  ·grind
  ·rw [gi h1] at hi;have:=hr.avo i k hi;grind
 ·have hio:i≠o:=fun e=>by grind
  rw [gH hio] at hi
  have hir:i≠r:=fun e=>by grind
  obtain ⟨k,c,t,h1,h2,h3,h4⟩:=hr.cel i cs hi;exact ⟨k,c,t,(gi hir).trans h1,(oth hio hir h1).trans h2,h3,fun j x hj=>(h4 j x hj).ext hkeep hx⟩
 ·have hio:i≠o:=fun e=>by grind
  rw [gH hio] at hi
  have hir:i≠r:=fun e=>by grind
  rcases hr.elm i S xs hi with ⟨h1,h2⟩ | ⟨k,c,t,cap,h1,h2,h3,h4,h5,h6,h7⟩
  ·grind
  ·exact .inr ⟨k,c,t,cap,(gi hir).trans h1,(oth hio hir h1).trans h2,h3,h4,h5,h6,fun i x j y hi hj=>(h7 i x j y hi hj).ext hkeep⟩
 ·have hio:i≠o:=fun e=>by grind
  rw [gH hio] at hi
  have hir:i≠r:=fun e=>by grind
  obtain ⟨k,a',q,h1,h2,h3⟩:=hr.mpr i es hi;exact ⟨k,a',q,(gi hir).trans h1,(oth hio hir h1).trans h2,h3.ext hkeep⟩
 ·by_cases hio:i=o
  ·grind
  ·rw [gH hio] at hi;obtain ⟨d0,d,k,gk,h1,h2,h3⟩:=hr.bldr i T2 E2 r2 bs2 hi
   have hir:i≠r:=fun e=>by grind
   have hro:r2≠o:=fun e=>by grind
   by_cases hrr:r2=r
   ·omega
   ·exact ⟨d0,(gH hro).trans d,k,gk,(gi hir).trans h1,(gi hrr).trans h2,h3.ext (oth hio hir h1) fun g hg2=>oth hro hrr (by rw [h2,hg2])⟩
 ·by_cases h1:some k=go0\/k=b0
  ·rcases hshape k c t h1 hc with ⟨h2,h3⟩ | h2
   ·refine .inl ⟨by grind,fun hm=> ?_⟩;obtain ⟨i,hi⟩:=List.mem_iff_getElem?.1 hm
    grind
   grind
  grind
theorem K7 {w1 w2:World} (hr:Rel F H ι w) {o T E r b:Nat} {p v v':Value} {bs bs':List UInt8} (hH:H[o]? =some (.bld T E r bs)) (hb:ι[o]? =some (some b)) (hg:ι[r]? =some v.ownBlock) (hbk:w.heap[b]? =some (.cells #[p,v] T (0,0)))
  (hT:Turned w w1 b #[.pointer (some ⟨b,0,none⟩),v] T) (hG:Grew w1 w2 v.ownBlock v'.ownBlock) (ho:w2.ownsRow 0 E 1 v' bs'.length (bs'.map fun x=> .int .u8 x.toNat)) (hne:v.ownBlock≠some b) :
  Good F H ι w (H.set o (.bld T E r bs')) (ι.set r v'.ownBlock) (w2.setCell ⟨b,1,none⟩ v'):=by
 have hblt:b<w.heap.size:=(Array.getElem?_eq_some_iff.1 hbk).1;have hs1:=hT.size
 have hb2:w2.heap[b]? =some (.cells #[.pointer (some ⟨b,0,none⟩),v] T (0,0)):=by rw [hG.old b Za (fun e=>hne e.symm)];exact hT.at'
 have hsz:(w2.setCell ⟨b,1,none⟩ v').heap.size=w2.heap.size:=Zb
 have hbw:(w2.setCell ⟨b,1,none⟩ v').heap[b]? =some (.cells #[.pointer (some ⟨b,0,none⟩),v'] T (0,0)):=by grind [World.setCell]
 have hko: ∀k,k≠b->(w2.setCell ⟨b,1,none⟩ v').heap[k]? =w2.heap[k]? :=fun k hk=>Below.heap_setCell _ _ _ _ (fun e=>hk (by simpa using e))
 have hnb: ∀g,v'.ownBlock=some g->g≠b:=fun g h e=>by
  rcases (hG.new g h).2 with h1 | h1
  ·grind
  ·omega
 have hgs:=hG.size;refine QW hr hH hb hg (hG.os.trans hT.os) (hG.tape.trans hT.tape) (hG.output.trans hT.output) Za (fun k hk h1 h2=> ?_) (fun g h=> ?_) (fun g c t h hc=> ?_) (.inr ⟨bs',rfl,_,v',hbw,.inr rfl,rfl,?_⟩)
 ·rw [hko k h1,hG.old k Za h2,hT.other k h1]
 ·obtain ⟨h1,h2⟩:=hG.new g h
  grind
 ·by_cases hgb:g=b
  ·grind
  ·have h1:v.ownBlock=some g:=(h.resolve_right hgb).symm;obtain ⟨c',h2,h3⟩:=hG.shape g c t h1 (by rw [hT.other g hgb];exact hc)
   grind
 ·rcases ho with ⟨o1,o2 | ⟨g,cap,cur,o2,o3,o4,o5⟩⟩
  ·exact ⟨o1,.inl o2⟩
  ·exact ⟨o1,.inr ⟨g,cap,cur,o2,o3,by rw [hko g (hnb g (by rw [o2];rfl))];exact o4,o5⟩⟩
theorem Cf (hr:Rel F H ι w) {o T E r b:Nat} {go:Option Nat} {bs:List UInt8} (hH:H[o]? =some (.bld T E r bs)) (hb:ι[o]? =some (some b)) (hg:ι[r]? =some go)
  (hos:w'.os=w.os) (htape:Tp w w') (hout:w'.output=w.output) (hsz:w.heap.size<=w'.heap.size) (hold: ∀k,k<w.heap.size->some k≠go->w'.heap[k]? =w.heap[k]?) :
  Good F H ι w (H.set o .dead) (ι.set r none) w':=by
 have hor:=(hr.bldr o T E r bs hH).1
 have hne:go≠some b:=fun e=>by have:=hr.inj o r b hb (by rw [hg,e]);omega
 refine QW hr hH hb hg hos htape hout hsz (fun k hk _ h=>hold k hk h) (fun g h=>by cases h) (fun g c t h hc=> ?_) (.inl rfl)
 grind
theorem Fs {P:Program} {o:Oper} {fr:List V} {H:List Obj} (T E:TypeId) (h:o.op= .alloc T) (hz:((P.info? T).bind (·.zero)).map (·.cells)=some #[.pointer none,.slice none 0 0]):OpS P o fr H (.bp H.length) (H++ [.bld T E (H.length+1) [],.dead]):=fun F ι a w hr hf=>by
 simp only [Option.map_eq_some_iff,Option.bind_eq_some_iff] at hz;obtain ⟨z,⟨i,hi,hz⟩,hc⟩:=hz;have g:=AZ hr E (Pushed.alloc w #[.pointer none,.slice none 0 0] T);refine ⟨_,.pointer (some ⟨w.heap.size,0,none⟩),_,_,?_,.inl rfl,g,.bp _ w.heap.size T E (H.length+1) [] (by rw [<- hr.len];simp) Zb⟩
 simp_all [execOp,Instr.alloc,zeroValue,typeInfo,newVar,newRow]
end
@[go_sem ↓] theorem Ml {P:Program} {fr:List V} {H:List Obj} {k:V->List Obj->Prop} {d:Option Nat} {u t:TypeId} {x y:Operand} {ok:Bool} {ps:String} {af:Array Edge} {g:Option (Nat×Bool)} :Zs P ⟨d,.lookup u x y ok,t,ps,af,g⟩ fr H k=Zo P ⟨d,.lookup u x y ok,t,ps,af,g⟩ fr H k:=rfl
theorem WM {n:Nat} {x:Obj} (h:WA n x= .dead):x= .dead:=by cases x<;>simp [WA] at h;rfl
theorem QL {n:Nat} {x:Obj} {cs:List V} (h:WA n x= .cells cs): ∃c0,x= .cells c0/\cs=Wf n c0:=by cases x<;>simp [WA] at h;grind
theorem YW {n:Nat} {x:Obj} {S:Nat} {xs:List PV} (h:WA n x= .elems S xs):x= .elems S xs:=by cases x<;>simp [WA] at h;grind
theorem FB {n:Nat} {x:Obj} {es} (h:WA n x= .map es):x= .map es:=by cases x<;>simp [WA] at h;subst h;rfl
theorem FA {n:Nat} {x:Obj} {T E r bs} (h:WA n x= .bld T E r bs): ∃r0,x= .bld T E r0 bs/\r=n+r0:=by cases x<;>simp [WA] at h;simp_all
section
variable {F : Nat -> Prop} {R H0 : List Obj} {ιR ι0 : List (Option Nat)} {w : World}
theorem Uu (hl:ιR.length=R.length) {o:Nat} :(ιR++ι0)[R.length+o]? =ι0[o]? :=by grind
theorem UO {o:Nat} {x:Obj} (h:(R++H0.map (WA R.length))[R.length+o]? =some x): ∃y,H0[o]? =some y/\x=WA R.length y:=by
 grind
theorem Ud {o:Nat} {y:Obj} (h:H0[o]? =some y):(R++H0.map (WA R.length))[R.length+o]? =some (WA R.length y):=by
 grind
theorem RV.unsh (hl:ιR.length=R.length): ∀ {x:V} {v:Value},RV F (R++H0.map (WA R.length)) (ιR++ι0) w (Vb R.length x) v->RV (Own F ιR) H0 ι0 w x v
 | .p x,v,h=>by
  cases h with | p _ _ h=>exact .p _ _ (by rw [Xo];exact h)
 | .agg cs,v,h=>by
  simp only [Vb] at h
  cases h with | agg _ a hs hr =>
  refine .agg cs a (by simpa [ZS] using hs) fun j c hj=> ?_;have:=List.sizeOf_lt_of_mem (List.mem_of_getElem? hj);exact RV.unsh hl (hr j (Vb R.length c) (by rw [ZS];simp [hj]))
 | .fn f cs ds,v,h=>by
  simp only [Vb] at h
  cases h with | fn _ _ _ a e hs ht h1 h2 =>
  refine .fn f cs ds a e (by simpa [ZS] using hs) (by simpa [ZS] using ht) (fun j c hj=> ?_) (fun j c hj=> ?_)
  ·have:=List.sizeOf_lt_of_mem (List.mem_of_getElem? hj);exact RV.unsh hl (h1 j (Vb R.length c) (by rw [ZS];simp [hj]))
  ·have:=List.sizeOf_lt_of_mem (List.mem_of_getElem? hj);exact RV.unsh hl (h2 j (Vb R.length c) (by rw [ZS];simp [hj]))
 | .tup cs,v,h=>by
  simp only [Vb] at h
  cases h with | tup _ a hs hr =>
  refine .tup cs a (by simpa [ZS] using hs) fun j c hj=> ?_;have:=List.sizeOf_lt_of_mem (List.mem_of_getElem? hj);exact RV.unsh hl (hr j (Vb R.length c) (by rw [ZS];simp [hj]))
 | .ptr o off,v,h=>by
  simp only [Vb] at h
  cases h with
  | ptr _ _ b cs h hH =>
   obtain ⟨y,h1,h2⟩:=UO hH;obtain ⟨c0,rfl,_⟩:=QL h2.symm;exact .ptr _ _ b c0 (by rw [<- Uu hl];exact h) h1
  | ptrD _ _ _ h =>
   obtain ⟨y,h1,h2⟩:=UO h;rw [WM h2.symm] at h1;exact .ptrD _ _ _ h1
 | .ep o i j tot,v,h=>by
  simp only [Vb] at h
  cases h with
  | ep _ _ _ _ b S xs h hH ht =>
   obtain ⟨y,h1,h2⟩:=UO hH;rw [YW h2.symm] at h1;exact .ep _ _ _ _ b S xs (by rw [<- Uu hl];exact h) h1 ht
  | epD _ _ _ _ _ h =>
   obtain ⟨y,h1,h2⟩:=UO h;rw [WM h2.symm] at h1;exact .epD _ _ _ _ _ h1
  | epS _ _ _ _ _ S xs h hne =>
   obtain ⟨y,h1,h2⟩:=UO h;rw [YW h2.symm] at h1;exact .epS _ _ _ _ _ S xs h1 hne
 | .sl o off len tot,v,h=>by
  simp only [Vb] at h;generalize ho:R.length+o=o' at h
  cases h with
  | slNil _ S a h hH =>
   subst ho;obtain ⟨y,h1,h2⟩:=UO hH;rw [YW h2.symm] at h1;exact .slNil _ S a (by rw [<- Uu hl];exact h) h1
  | sl _ _ _ _ b S cap t xs c h hH ht hw hcap hl' hlen hm =>
   subst ho;obtain ⟨y,h1,h2⟩:=UO hH;rw [YW h2.symm] at h1;exact .sl _ _ _ _ b S cap t xs c (by rw [<- Uu hl];exact h) h1 ht hw hcap hl' hlen hm
  | slD _ _ _ _ _ h =>
   subst ho;obtain ⟨y,h1,h2⟩:=UO h;rw [WM h2.symm] at h1;exact .slD _ _ _ _ _ h1
  | slS _ _ _ _ _ S xs h hne =>
   subst ho;obtain ⟨y,h1,h2⟩:=UO h;rw [YW h2.symm] at h1;exact .slS _ _ _ _ _ S xs h1 hne
  | slC _ _ b cap cs h hH hl' hm =>
   subst ho;obtain ⟨y,h1,h2⟩:=UO hH;obtain ⟨c0,rfl,_⟩:=QL h2.symm;exact .slC _ _ b cap c0 (by rw [<- Uu hl];exact h) h1 hl' hm
 | .lp x j,v,h=>by
  simp only [Vb] at h
  cases h with | lp _ _ b off u hX hb hu hq=>exact .lp x j b off u (by rw [Xo];exact hX) hb hu (fun j c hj=>by rw [Xo];exact hq j c hj)
 | .mp o,v,h=>by
  simp only [Vb] at h
  cases h with
  | mp _ b es h hH =>
   obtain ⟨y,h1,h2⟩:=UO hH;rw [FB h2.symm] at h1;exact .mp _ b es (by rw [<- Uu hl];exact h) h1
  | mpD _ _ h =>
   obtain ⟨y,h1,h2⟩:=UO h;rw [WM h2.symm] at h1;exact .mpD _ _ h1
 | .bp o,v,h=>by
  simp only [Vb] at h
  cases h with
  | bp _ b T E r bs h hH =>
   obtain ⟨y,h1,h2⟩:=UO hH;obtain ⟨r0,rfl,_⟩:=FA h2.symm;exact .bp _ b T E r0 bs (by rw [<- Uu hl];exact h) h1
  | bpD _ _ h =>
   obtain ⟨y,h1,h2⟩:=UO h;rw [WM h2.symm] at h1;exact .bpD _ _ h1
 | .err,v,h=>by
  simp only [Vb] at h
  cases h with | err t p=>exact .err t p
 | .junk,v,_=> .junk v
theorem Rel.back (hl:ιR.length=R.length) (hr:Rel F (R++H0.map (WA R.length)) (ιR++ι0) w):Rel (Own F ιR) H0 ι0 w:=by
 have hlen:ι0.length=H0.length:=by have:=hr.len;grind
 have gL: ∀ {i:Nat} {b:Nat},ιR[i]? =some (some b)->(ιR++ι0)[i]? =some (some b):=fun h=>by grind
 refine ⟨⟨hlen,fun b hb=> ?_,fun i j b hi hj=> ?_,fun i b hi=> ?_,fun o cs ho=> ?_,fun o S xs ho=> ?_,fun o es ho=> ?_,fun o T E r bs ho=> ?_⟩,hr.env.le fun b hb=>by simp_all [Xo]⟩
 ·rcases hb with hb | hb
  ·exact hr.fin b hb
  ·obtain ⟨i,hi⟩:=List.mem_iff_getElem?.1 hb;exact (hr.avo i b (gL hi)).2
 ·have:=hr.inj (R.length+i) (R.length+j) b (by grind) (by grind);omega
 ·obtain ⟨a1,a2⟩:=hr.avo (R.length+i) b (by grind);refine ⟨fun h=> ?_,a2⟩;rcases h with h | h
  ·exact a1 h
  ·obtain ⟨j,hj⟩:=List.mem_iff_getElem?.1 h;have:=hr.inj (R.length+i) j b (by grind) (gL hj)
   grind
 ·obtain ⟨b,c,t,e1,e2,e3,e4⟩:=hr.cel (R.length+o) (Wf R.length cs) (Ud ho);exact ⟨b,c,t,by grind,e2,by grind [ZS],fun j x hj=>RV.unsh hl (e4 j (Vb R.length x) (by grind [ZS]))⟩
 ·rcases hr.elm (R.length+o) S xs (Ud ho) with ⟨e1,e2⟩ | ⟨b,c,t,cap,e1,e2,e3,e4,e5,e6,e7⟩
  ·grind
  ·exact .inr ⟨b,c,t,cap,by grind,e2,e3,e4,e5,e6,fun i x j y hi hj=>by grind [Xo]⟩
 ·obtain ⟨b,a',k,e1,e2,e3⟩:=hr.mpr (R.length+o) es (Ud ho)
  grind [Xo]
 ·obtain ⟨d0,d,b,go,e1,e2,e3⟩:=hr.bldr (R.length+o) T E (R.length+r) bs (Ud ho)
  grind [WM]
def HH (R:List Obj):Bool:=R.all fun o=>match o with | .bld _ _ r _=>decide (r<R.length) | _=>true
theorem Gc {R:List Obj} (h:HH R=true) {o T E r:Nat} {bs:List UInt8} (ho:R[o]? =some (.bld T E r bs)):r<R.length:=by
 have:=List.all_eq_true.1 h _ (List.mem_of_getElem? ho)
 grind
theorem Good.back (hb0:HH R=true) (hl:ιR.length=R.length) (hr:Rel F (R++H0.map (WA R.length)) (ιR++ι0) w) {H1:List Obj} {ι1:List (Option Nat)} {w':World} (g:Good (Own F ιR) H0 ι0 w H1 ι1 w'):Good F (R++H0.map (WA R.length)) (ιR++ι0) w (R++H1.map (WA R.length)) (ιR++ι1) w':=by
 have hl1:=g.rel.len
 have hl0:ι0.length=H0.length:=by have:=hr.len;grind
 have gL: ∀ {i:Nat} {q:Option Nat} (κ:List (Option Nat)),ιR[i]? =some q->(ιR++κ)[i]? =some q:=fun κ h=>by grind
 have disj: ∀ {b:Nat},some b∈ιR->some b ∉ ι0:=fun {b} hb h=>by
  obtain ⟨i,hi⟩:=List.mem_iff_getElem?.1 hb;obtain ⟨j,hj⟩:=List.mem_iff_getElem?.1 h;have hil:=(List.getElem?_eq_some_iff.1 hi).1;have:=hr.inj i (R.length+j) b (gL _ hi) (by grind);omega
 have oldR: ∀ {j b:Nat},ιR[j]? =some (some b)->b<w.heap.size/\w'.heap[b]? =w.heap[b]? :=fun {j b} h=>by
  have h1:=(hr.avo j b (gL _ h)).2;exact ⟨h1,g.keep b h1 (disj (List.mem_of_getElem? h))⟩
 have hKeeps:Keeps (Own F (ιR++ι0)) w (Own F (ιR++ι1)) w':=fun b hb hs=>by
  have h0:some b ∉ ι0:=fun h=>hb (.inr (by simp [h]));refine ⟨fun h=> ?_,by have:=g.size;omega,g.keep b hs h0⟩;rcases h with h | h
  ·exact hb (.inl h)
  ·rcases List.mem_append.1 h with h | h
   ·exact hb (.inr (by simp [h]))
   ·exact g.own b hs h0 h
 have split: ∀ {κ:List Obj} {o:Nat} {x:Obj},(R++κ.map (WA R.length))[o]? =some x->(o<R.length/\R[o]? =some x)\/ ∃j y,o=R.length+j/\κ[j]? =some y/\x=WA R.length y:=fun {κ o x} h=>by
  grind
 have gR: ∀ {o:Nat} {x:Obj} (κ:List Obj),R[o]? =some x->(R++κ)[o]? =some x:=fun κ h=>by grind
 have gi: ∀ {o:Nat} (κ:List (Option Nat)),o<R.length->(ιR++κ)[o]? =ιR[o]? :=fun κ h=>List.getElem?_append_left Za
 have hHX:HX (R++H0.map (WA R.length)) (ιR++ι0) w (R++H1.map (WA R.length)) (ιR++ι1) w':=fun o ob ho=>by
  rcases split ho with ⟨hlt,h0⟩ | ⟨j,y,rfl,hj,rfl⟩
  ·grind
  ·have e2:(ιR++ι0)[R.length+j]? =ι0[j]? :=Uu hl;have e3:(ιR++ι1)[R.length+j]? =ι1[j]? :=Uu hl;rcases g.hx j y hj with h | h
   ·exact .inl (Ud h)
   ·right
    cases y with
    | dead=>exact h.elim
    | cells cs=>exact ⟨by obtain ⟨cs',h⟩:=h.1;exact ⟨_,Ud h⟩,by grind⟩
    | map es=>exact ⟨by obtain ⟨cs',h⟩:=h.1;exact ⟨_,Ud h⟩,by grind⟩
    | bld T E r bs=>exact ⟨by obtain ⟨cs',h⟩:=h.1;exact ⟨_,Ud h⟩,by grind⟩
    | elems S xs =>
     obtain ⟨xs',h1,h2⟩:=h;exact ⟨xs',Ud h1,by grind⟩
 have old: ∀ {i b:Nat},(ιR++ι1)[i]? =some (some b)->(i<R.length/\ιR[i]? =some (some b))\/ ∃j,i=R.length+j/\ι1[j]? =some (some b):=fun {i b} h=>by
  grind
 refine Good.up hr.env ⟨⟨by simp;omega,fun b hb=>by have:=hr.fin b hb;have:=g.size;omega,fun i j b hi hj=> ?_,fun i b hi=> ?_,fun o cs ho=> ?_,fun o S xs ho=> ?_,fun o es ho=> ?_,fun o T E r bs ho=> ?_⟩,g.os,g.tape,g.output,fun b c t h=>(g.shape b c t h).imp (fun h=>⟨List.mem_append_right _ h.1,fun h3=>(List.mem_append.1 h3).elim (fun h4=>disj h4 h.1) h.2⟩) id,g.size,fun b hb ho=>g.keep b hb fun h=>ho (by simp [h]),fun b hb ho h=> ?_,hHX⟩
 ·rcases old hi with ⟨h1,h2⟩ | ⟨i1,rfl,h2⟩<;>rcases old hj with ⟨k1,k2⟩ | ⟨j1,rfl,k2⟩
  ·exact hr.inj i j b (gL _ h2) (gL _ k2)
  ·exact absurd (.inr (List.mem_of_getElem? h2)) (g.rel.avo j1 b k2).1
  ·exact absurd (.inr (List.mem_of_getElem? k2)) (g.rel.avo i1 b h2).1
  ·rw [g.rel.inj i1 j1 b h2 k2]
 ·rcases old hi with ⟨h1,h2⟩ | ⟨i1,rfl,h2⟩
  ·obtain ⟨a1,a2⟩:=hr.avo i b (gL _ h2)
   grind
  ·obtain ⟨a1,a2⟩:=g.rel.avo i1 b h2;exact ⟨fun h=>a1 (.inl h),a2⟩
 ·rcases split ho with ⟨h1,h2⟩ | ⟨j,y,rfl,h2,h3⟩
  ·obtain ⟨b,c,t,e1,e2,e3,e4⟩:=hr.cel o cs (gR _ h2);rw [gi _ h1] at e1;exact ⟨b,c,t,gL _ e1,by grind,e3,fun j x hj=>(e4 j x hj).ext hKeeps hHX⟩
  ·obtain ⟨c0,rfl,rfl⟩:=QL h3.symm;obtain ⟨b,c,t,e1,e2,e3,e4⟩:=g.rel.cel j c0 h2;refine ⟨b,c,t,by grind [Uu],e2,by simp [ZS,e3],fun q x hq=> ?_⟩;rw [ZS] at hq;simp only [List.getElem?_map,Option.map_eq_some_iff] at hq;obtain ⟨x',h4,rfl⟩:=hq;exact (e4 q x' h4).sh hl
 ·rcases split ho with ⟨h1,h2⟩ | ⟨j,y,rfl,h2,h3⟩
  ·rcases hr.elm o S xs (gR _ h2) with ⟨e1,e2⟩ | ⟨b,c,t,cap,e1,e2,e3,e4,e5,e6,e7⟩
   ·grind
   ·rw [gi _ h1] at e1;exact .inr ⟨b,c,t,cap,gL _ e1,by grind,e3,e4,e5,e6,fun i x j y hi hj=>(e7 i x j y hi hj).ext hKeeps⟩
  ·rw [YW h3.symm] at h2;rcases g.rel.elm j S xs h2 with ⟨e1,e2⟩ | ⟨b,c,t,cap,e1,e2,e3,e4,e5,e6,e7⟩
   ·grind [Uu]
   ·exact .inr ⟨b,c,t,cap,by grind [Uu],e2,e3,e4,e5,e6,fun i x j y hi hj=>by grind [Xo]⟩
 ·rcases split ho with ⟨h1,h2⟩ | ⟨j,y,rfl,h2,h3⟩
  ·obtain ⟨b,a',k,e1,e2,e3⟩:=hr.mpr o es (gR _ h2);rw [gi _ h1] at e1;exact ⟨b,a',k,gL _ e1,by grind,e3.ext hKeeps⟩
  ·rw [FB h3.symm] at h2;obtain ⟨b,a',k,e1,e2,e3⟩:=g.rel.mpr j es h2
   grind [Xo,Uu]
 ·rcases split ho with ⟨h1,h2⟩ | ⟨j,y,rfl,h2,h3⟩
  ·obtain ⟨d0,d,b,go,e1,e2,e3⟩:=hr.bldr o T E r bs (gR _ h2);rw [gi _ h1] at e1;have hrl:=Gc hb0 h2;have ho':=(oldR e1).2
   have d':R[r]? =some .dead:=by grind
   rw [gi _ hrl] at e2;exact ⟨d0,gR _ d',b,go,gL _ e1,gL _ e2,e3.ext ho' fun q hq=>(oldR (by rw [e2,hq])).2⟩
  ·obtain ⟨r0,rfl,rfl⟩:=FA h3.symm;obtain ⟨d0,d,b,go,e1,e2,e3⟩:=g.rel.bldr j T E r0 bs h2;exact ⟨Za,Ud d,b,go,by grind [Uu],by grind [Uu],e3⟩
 ·rcases List.mem_append.1 h with h | h
  ·grind
  ·exact g.own b hb (fun h=>ho (by simp [h])) h
end
theorem ACalls.back {P g} {args:List V} {H0:List Obj} {Q:V->List Obj->Prop} (h:ACalls P g args H0 Q) (R:List Obj) (hb:HH R=true) :
  ACalls P g (Wf R.length args) (R++H0.map (WA R.length)) fun x H'=> ∃y H1,Q y H1/\x=Vb R.length y/\H'=R++H1.map (WA R.length):=by
 refine ⟨h.1,fun F ι w vs hr hv=> ?_⟩;have hlen:=hr.len;simp at hlen;obtain ⟨ιR,ι0,rfl,hl⟩: ∃ιR ι0,ι=ιR++ι0/\ιR.length=R.length:=⟨ι.take R.length,ι.drop R.length,Zb,by simp;omega⟩;refine (h.2 _ _ _ _ (hr.back hl) ⟨by have:=hv.1;grind [ZS],fun j c hj=>RV.unsh hl (hv.2 j (Vb R.length c) (by grind [ZS]))⟩).mono ?_;rintro e w' ⟨x,H1,ι1,v,rfl,q,gd,rv⟩;exact ⟨_,_,_,v,rfl,⟨x,H1,q,rfl,rfl⟩,gd.back hb hl hr,rv.sh hl⟩
end Go.AM
