/- Declarations that the closing texts need, part 11: joined by tools/slim.py. -/
import Derived.Test.YtmbelkfkhclnkaaGreatDoorYM10
import Derived.Lib.Builder
set_option linter.unusedVariables false
set_option linter.unusedSimpArgs false
namespace Go.AM
open Go.RowKit
@[go_sem ↓] theorem bS {c:Code} {t} :Ax (Zn c t)=Ax c:=Eq.trans rfl rfl
structure Grew (w w':World) (go go':Option Nat):Prop where
 os:w'.os=w.os
 tape:Tp w w'
 output:w'.output=w.output
 size:w.heap.size<=w'.heap.size
 old: ∀k,k<w.heap.size->some k≠go->w'.heap[k]? =w.heap[k]?
 new: ∀g,go'=some g->g<w'.heap.size/\(go=some g\/w.heap.size<=g)
 shape: ∀g c t,go=some g->w.heap[g]? =some (.cells c t (0,0))-> ∃c',w'.heap[g]? =some (.cells c' t (0,0))/\c'.size=c.size
theorem Grew.drewAlloc {w:World} {go:Option Nat} {ob:Go.Obj} :Grew w (w.drew.alloc ob) go (some w.heap.size):=by
 have old: ∀k,k<w.heap.size->(w.drew.alloc ob).heap[k]? =w.heap[k]? :=fun k hk=>by
  show (w.heap.push ob)[k]? =_
  grind
 have sz:(w.drew.alloc ob).heap.size=w.heap.size+1:=Zb
 refine ⟨rfl,Tp.of rfl (Nat.le_succ _),rfl,Za,fun k hk _=>old k hk,fun g hg=> ?_,fun g c t _ h=>⟨c,?_,rfl⟩⟩
 ·grind
 grind
theorem A5 {P:Program} {w:World} {t t2 ty e:TypeId} {i:TypeInfo} {X:Nat->Prop} {sv:Value} (ht:P.underlying t=some (.slice e)) (hi:P.info? e=some i) (hz:i.zero=some (.int .u8 0)) (hs1:i.size=1) (hby:i.bytes=1)
  {v:Value} {n:Nat} {xs:List Value} (hown:w.ownsRow 0 e 1 v n xs) (s:List UInt8) (hs:s≠ []) (hsrc:Src P X w t2 sv 1 (s.map fun b=>PV.int .u8 b.toNat) (s.map fun b=>Value.int .u8 b.toNat)) (hb:n+s.length<=140737488355328) :
  ∃v' w',(Builtin.append_ #[t,t2] ty #[v,sv]).run P w= .ok v' w'/\w'.ownsRow 0 e 1 v' (n+s.length) (xs++s.map fun x=> .int .u8 x.toNat)/\Grew w w' v.ownBlock v'.ownBlock:=by
 have hsl:0<s.length:=List.length_pos_iff.2 hs
 have htsz:Xk P e=some 1:=by simp [Xk,hi,hs1]
 have h1: ∀v∈s.map (fun b=>Value.int .u8 b.toNat),v.oneCell'=true:=fun v hv=>by simp at hv;obtain ⟨a,_,rfl⟩:=hv;rfl
 obtain ⟨hxl,hown⟩:=hown
 have fresh: ∀ {a:Option Addr} {cap:Nat},cap<n+s.length->(∀w':World,w'.heap=w.heap->(Builtin.firstCells 1 n (.slice a n cap)).run P w'= .ok xs.toArray w') ->
   ∃v' w',(Builtin.append_ #[t,t2] ty #[.slice a n cap,sv]).run P w= .ok v' w'/\w'.ownsRow 0 e 1 v' (n+s.length) (xs++s.map fun x=> .int .u8 x.toNat)/\Grew w w' (Value.slice a n cap).ownBlock v'.ownBlock:=fun {a cap} hc hf=>by
  have hrun:=XQ (ty:=ty) ht htsz hsrc hi hz (a:=a) (n:=n) (cap:=cap) (olds:=xs) hxl hf (by simpa using hc) (by simp;omega) (by rw [hby];decide) (by rw [hby];simpa using hb);simp only [List.length_map] at hrun;refine ⟨_,_,hrun,⟨by simp;omega,.inr ⟨w.heap.size,grownCap w (n+s.length) cap e,_,rfl,Nat.zero_le _,(Pushed.drewAlloc w _ e).new,grownCap_ge w (n+s.length) cap e,grownCap_le_maxLen w (n+s.length) cap e (by unfold maxLen;omega),?_,?_⟩⟩,Grew.drewAlloc⟩
  ·have:=grownCap_ge w (n+s.length) cap e;have hz1:(Value.int .u8 0).cells.size=1:=rfl;simp only [Array.size_append,List.size_toArray,size_zeroCells,hxl,hz1,List.length_map];omega
  ·simp only [Array.toList_append];rw [List.take_append_of_le_length (by simp;omega),List.take_of_length_le (by simp;omega)]
 rcases hown with ⟨rfl,rfl⟩ | ⟨g,cap,cur,rfl,_,hg,hnc,hcm,hcs,htk⟩
 ·have hx0:xs= []:=List.eq_nil_of_length_eq_zero Za;subst hx0;exact fresh Za (fun w' _=>by simp [Builtin.firstCells,loadCells,loadCellsFrom])
 ·by_cases hroom:n+s.length<=cap
  ·have hrun:=Vj (ty:=ty) ht htsz hsrc (n:=n) (cap:=cap) hg (by simpa using hroom) (by simp;omega) h1;simp only [List.length_map] at hrun;have hlt:g<w.heap.size:=(Array.getElem?_eq_some_iff.1 hg).1;have hT:=Turned.setRow (c:=((cur.toList.take (n*1)++s.map (fun b=>Value.int .u8 b.toNat)++cur.toList.drop (n*1+s.length))).toArray) hg
   have hsz2:((cur.toList.take (n*1)++s.map (fun b=>Value.int .u8 b.toNat)++cur.toList.drop (n*1+s.length))).toArray.size=cur.size:=by
    simp;omega
   refine ⟨_,_,hrun,⟨by simp;omega,.inr ⟨g,cap,_,rfl,Nat.zero_le _,hT.at',hroom,hcm,by rw [hsz2];exact hcs,?_⟩⟩,⟨rfl,Tp.rfl,rfl,by rw [hT.size];exact Nat.le_refl _,fun k _ hk=>hT.other k (fun h=>hk (by rw [h];rfl)),fun g' hg'=> ?_,fun g' c' t' hg' hc'=> ?_⟩⟩
   ·rw [htk];rw [List.take_append_of_le_length (by simp;omega),List.take_of_length_le (by simp;omega)]
   ·simp [Value.ownBlock] at hg';subst hg';exact ⟨by rw [hT.size];exact hlt,.inl rfl⟩
   ·simp [Value.ownBlock] at hg';subst hg';rw [hg] at hc';simp at hc';obtain ⟨rfl,rfl⟩:=hc';exact ⟨_,hT.at',hsz2⟩
  ·exact fresh Za (fun w' hw=>YX (w:=w) hxl (fun j u hj=>by
    rw [<- htk] at hj;have hjl:=(List.getElem?_eq_some_iff.1 hj).1;simp at hjl;rw [List.getElem?_take_of_lt Za] at hj;rw [Addr.add_lit]
    simpa [World.cell?,hg] using hj) w' hw)
theorem Hx {P:Program} {w:World} {t t2 ty e:TypeId} {i:TypeInfo} (ht:P.underlying t=some (.slice e)) (hu:P.underlying t2=some .string) (hi:P.info? e=some i) (hz:i.zero=some (.int .u8 0)) (hs1:i.size=1) (hby:i.bytes=1)
  {v:Value} {n:Nat} {xs:List Value} (hown:w.ownsRow 0 e 1 v n xs) (s:List UInt8) (hs:s≠ []) (hb:n+s.length<=140737488355328) :
  ∃v' w',(Builtin.append_ #[t,t2] ty #[v,.string ⟨s.toArray⟩]).run P w= .ok v' w'/\w'.ownsRow 0 e 1 v' (n+s.length) (xs++s.map fun x=> .int .u8 x.toNat)/\Grew w w' v.ownBlock v'.ownBlock:=by
 have hsz:(⟨s.toArray⟩:ByteArray).size=s.length:=by show s.toArray.size=_;simp
 have hsl:0<s.length:=List.length_pos_iff.2 hs
 have htsz:Xk P e=some 1:=by simp [Xk,hi,hs1]
 have hsrc:Src P (fun _=>False) w t2 (.string ⟨s.toArray⟩) 1 (s.map fun b=>PV.int .u8 b.toNat) (s.map fun b=>Value.int .u8 b.toNat):=by
  refine ⟨Zb,.inl hu,fun w'=>by simp [Builtin.lenOf,hsz],fun w' _=> ?_,fun i y j c hi hj=> ?_⟩
  ·have e:(⟨s.toArray⟩:ByteArray).extract 0 s.length=⟨s.toArray⟩:=by
    rw [Vh s 0 s.length Za (Nat.le_refl _)];simp
   simp [Builtin.firstCells,e]
  ·simp only [List.getElem?_map,Option.map_eq_some_iff] at hi;obtain ⟨b,hb,rfl⟩:=hi
   cases j with
   | zero =>
    simp [PV.cells] at hj;subst hj;simp [List.getD,hb];exact .int _ _
   | succ j=>simp [PV.cells] at hj
 exact A5 ht hi hz hs1 hby hown s hs hsrc hb
theorem Bw {P:Program} {w:World} {ops:Array Oper} {rest:List Oper} {o:Oper} {a:Act} {Q:Exit->Act->World->Prop} (hgd:o.guard=none) (sl x:Operand) (t u:TypeId)
  (ho:o.op= .call { callee:= .builtin .append,args:= #[sl,x],argTypes:= #[t,u] }) (e:TypeId) (i:TypeInfo) (ht:P.underlying t=some (.slice e)) (hu:P.underlying u=some .string) (hi:P.info? e=some i) (hz:i.zero=some (.int .u8 0)) (hs1:i.size=1) (hby:i.bytes=1)
  (v:Value) (n:Nat) (xs:List Value) (hs:a.eval sl=v) (hown:w.ownsRow 0 e 1 v n xs) (s:List UInt8) (hs0:s≠ []) (hx:a.eval x= .string ⟨s.toArray⟩) (hb:n+s.length<=140737488355328)
  (h: ∀v' w',w'.ownsRow 0 e 1 v' (n+s.length) (xs++s.map fun x=> .int .u8 x.toNat)->Grew w w' v.ownBlock v'.ownBlock->wpList P ops Q rest (a.put o.dst v') w'):wpList P ops Q (o::rest) a w:=by
 refine wpList_plain hgd fun K hK=> ?_;obtain ⟨v',w',hr,h2,h3⟩:=Hx (P:=P) (ty:=o.type) ht hu hi hz hs1 hby hown s hs0 hb;unfold Oper.wp execOp;simp only [ho,resolve,invoke,builtin,Sem.run_bind,Sem.run_pure,Result.andThen_ok,List.map_toArray,List.map_cons,List.map_nil,hs,hx,hr];exact hK _ _ (h v' w' h2 h3)
section
variable {F : Nat -> Prop} {H : List Obj} {ι : List (Option Nat)} {w w' : World}
theorem Ks (hr:Rel F H ι w) {T:TypeId} (E:TypeId) (hp:Pushed w w' #[.pointer none,.slice none 0 0] T):Good F H ι w (H++ [.bld T E (H.length+1) [],.dead]) (ι++ [some w.heap.size,none]) w':=by
 have hlen:=hr.len;have hold: ∀i b,ι[i]? =some (some b)->b<w.heap.size:=fun i b h=>(hr.avo i b h).2;have gH: ∀ {i:Nat},i<H.length->(H++ [.bld T E (H.length+1) [],.dead])[i]? =H[i]? :=fun h=>List.getElem?_append_left h;have gi: ∀ {i:Nat},i<H.length->(ι++ [some w.heap.size,none])[i]? =ι[i]? :=fun h=>List.getElem?_append_left Za
 have old: ∀ {i:Nat} {x:Obj},(H++ [.bld T E (H.length+1) [],.dead])[i]? =some x->(i<H.length/\H[i]? =some x)\/(i=H.length/\x= .bld T E (H.length+1) [])\/(i=H.length+1/\x= .dead):=fun {i x} h=>by
  grind
 have oldi: ∀ {i b:Nat},(ι++ [some w.heap.size,none])[i]? =some (some b)->(i<H.length/\ι[i]? =some (some b))\/(i=H.length/\b=w.heap.size):=fun {i b} h=>by
  grind
 have e1:(ι++ [some w.heap.size,none])[H.length]? =some (some w.heap.size):=by grind
 have e2:(ι++ [some w.heap.size,none])[H.length+1]? =some none:=by grind
 have hkeep:Keeps (Own F ι) w (Own F (ι++ [some w.heap.size,none])) w':=fun b hb hs=>by
  refine ⟨?_,by rw [hp.size];omega,hp.old hs⟩;rintro (h | h)
  ·exact hb (.inl h)
  ·simp at h;rcases h with h | h
   ·exact hb (.inr h)
   ·omega
 have hx:HX H ι w (H++ [.bld T E (H.length+1) [],.dead]) (ι++ [some w.heap.size,none]) w':=fun o x ho=>by
  have hlt:o<H.length:=(List.getElem?_eq_some_iff.1 ho).1;have e1:=(gH hlt).trans ho
  cases x with
  | dead=>exact .inl e1
  | cells cs=>grind
  | map es=>grind
  | bld=>grind
  | elems S xs=>exact .inr ⟨_,e1,.inr ⟨rfl,gi hlt,fun b c t hb hc=>⟨c,by rw [hp.old (hold _ _ hb)];exact hc,rfl⟩⟩⟩
 refine Good.up hr.env ⟨⟨by simp [hlen],fun b hb=>by rw [hp.size];have:=hr.fin b hb;omega,fun i j b hi hj=> ?_,fun i b hi=> ?_,fun o cs ho=> ?_,fun o S xs ho=> ?_,fun o es ho=> ?_,fun o T2 E2 r bs ho=> ?_⟩,hp.os,hp.tape,hp.output,fun b c0 t0 h0=> .inr ⟨c0,by rw [hp.old (Array.getElem?_eq_some_iff.1 h0).1];exact h0,rfl⟩,by rw [hp.size];omega,fun b hb _=>hp.old hb,fun b hb ho h=> ?_,hx⟩
 ·rcases oldi hi with ⟨_,hi⟩ | ⟨hi,e⟩<;>rcases oldi hj with ⟨_,hj⟩ | ⟨hj,e'⟩
  ·exact hr.inj i j b hi hj
  ·grind
  ·grind
  ·omega
 ·rcases oldi hi with ⟨_,hi⟩ | ⟨hi,rfl⟩
  ·have:=hr.avo i b hi;exact ⟨this.1,by rw [hp.size];omega⟩
  ·exact ⟨fun h=>by have:=hr.fin _ h;omega,by rw [hp.size];omega⟩
 ·rcases old ho with ⟨hlt,ho⟩ | ⟨_,e⟩ | ⟨_,e⟩
  ·obtain ⟨b,c',t',h1,h2,h3,h4⟩:=hr.cel o cs ho;exact ⟨b,c',t',by grind,by rw [hp.old (hold _ _ h1)];exact h2,h3,fun j x hj=>(h4 j x hj).ext hkeep hx⟩
  ·cases e
  ·cases e
 ·rcases old ho with ⟨hlt,ho⟩ | ⟨_,e⟩ | ⟨_,e⟩
  ·rcases hr.elm o S xs ho with ⟨h1,h2⟩ | ⟨b,c',t',cap,h1,h2,h3,h4,h5,h6,h7⟩
   ·grind
   ·exact .inr ⟨b,c',t',cap,by grind,by rw [hp.old (hold _ _ h1)];exact h2,h3,h4,h5,h6,fun i x j y hi hj=>(h7 i x j y hi hj).ext hkeep⟩
  ·cases e
  ·cases e
 ·rcases old ho with ⟨hlt,ho⟩ | ⟨_,e⟩ | ⟨_,e⟩
  ·obtain ⟨b,a',k,h1,h2,h3⟩:=hr.mpr o es ho;exact ⟨b,a',k,by grind,by rw [hp.old (hold _ _ h1)];exact h2,h3.ext hkeep⟩
  ·cases e
  ·cases e
 ·rcases old ho with ⟨hlt,ho⟩ | ⟨rfl,e⟩ | ⟨_,e⟩
  ·obtain ⟨d0,d,b,go,h1,h2,h3⟩:=hr.bldr o T2 E2 r bs ho;have hrl:=(List.getElem?_eq_some_iff.1 d).1;exact ⟨d0,(gH hrl).trans d,b,go,(gi hlt).trans h1,(gi hrl).trans h2,h3.ext (hp.old (hold _ _ h1)) fun g hg=>hp.old (hold r g (by rw [h2,hg]))⟩
  ·simp at e;obtain ⟨rfl,rfl,rfl,rfl⟩:=e;refine ⟨rfl,Zb,w.heap.size,none,e1,e2,_,_,hp.new,.inl rfl,rfl,rfl,.inl ⟨rfl,rfl⟩⟩
  ·cases e
 grind
theorem UD (hr:Rel F H ι w) {o T E r b:Nat} {go go':Option Nat} {bs:List UInt8} {ob':Obj} (hH:H[o]? =some (.bld T E r bs)) (hb:ι[o]? =some (some b)) (hg:ι[r]? =some go)
  (hos:w'.os=w.os) (htape:Tp w w') (hout:w'.output=w.output) (hsz:w.heap.size<=w'.heap.size) (hold: ∀k,k<w.heap.size->k≠b->some k≠go->w'.heap[k]? =w.heap[k]?)
  (hnew: ∀g,go'=some g->g<w'.heap.size/\(go=some g\/w.heap.size<=g))
  (hshape: ∀g c t,some g=go\/g=b->w.heap[g]? =some (.cells c t (0,0))->(some g=go/\go'≠go)\/ ∃c',w'.heap[g]? =some (.cells c' t (0,0))/\c'.size=c.size) (hob:ob'= .dead\/ ∃bs',ob'= .bld T E r bs'/\BRep w' T E b go' bs') :
  Good F H ι w (H.set o ob') (ι.set r go') w':=by
 obtain ⟨hor,hrd,b0,go0,q1,q2,_⟩:=hr.bldr o T E r bs hH
 have hb0:b0=b:=by grind
 subst hb0
 have hg0:go0=go:=by grind
 subst hg0;have hlen:=hr.len;have hol:=(List.getElem?_eq_some_iff.1 hH).1;have hrl:=(List.getElem?_eq_some_iff.1 hrd).1;have lt: ∀i k,ι[i]? =some (some k)->k<w.heap.size:=fun i k h=>(hr.avo i k h).2;have gH: ∀ {i:Nat},i≠o->(H.set o ob')[i]? =H[i]? :=fun h=>List.getElem?_set_ne (Ne.symm h)
 have gHo:(H.set o ob')[o]? =some ob':=by simp [hol]
 have gi: ∀ {i:Nat},i≠r->(ι.set r go')[i]? =ι[i]? :=fun h=>List.getElem?_set_ne (Ne.symm h)
 have gir:(ι.set r go')[r]? =some go':=by grind
 have neb: ∀ {i k:Nat},i≠o->ι[i]? =some (some k)->k≠b0:=fun {i k} hi h e=>hi (hr.inj i o k h (by grind));have neg: ∀ {i k:Nat},i≠r->ι[i]? =some (some k)->some k≠go0:=fun {i k} hi h e=>hi (hr.inj i r k h (by grind));have oth: ∀ {i k:Nat},i≠o->i≠r->ι[i]? =some (some k)->w'.heap[k]? =w.heap[k]? :=fun {i k} h1 h2 h=>hold k (lt i k h) (neb h1 h) (neg h2 h)
 have mem: ∀k,k<w.heap.size->some k ∉ ι->some k ∉ ι.set r go':=fun k hk hn hm=>by
  grind
 have kept: ∀k,k<w.heap.size->some k ∉ ι->w'.heap[k]? =w.heap[k]? :=fun k hk hn=>hold k hk (fun e=>hn (by grind)) (fun e=>hn (by grind))
 have hkeep:Keeps (Own F ι) w (Own F (ι.set r go')) w':=fun k hk hs=>by
  have h1:some k ∉ ι:=fun h=>hk (.inr h);exact ⟨fun h=>h.elim (fun h=>hk (.inl h)) (mem k hs h1),Za,kept k hs h1⟩
 have hx:HX H ι w (H.set o ob') (ι.set r go') w':=fun i x hi=>by
  by_cases hio:i=o
  ·grind
  ·have e1:=(gH hio).trans hi;have hir:x≠ .dead->i≠r:=fun h e=>h (by grind)
   cases x with
   | dead=>exact .inl e1
   | cells cs=>grind
   | map es=>grind
   | bld=>grind
   | elems S xs=>grind
 have F0: ∀ {g:Nat},go'=some g-> ¬F g:=fun {g} h hF=>by
  rcases (hnew g h).2 with h1 | h1
  ·exact (hr.avo r g (by rw [hg,h1])).1 hF
  ·have:=hr.fin g hF;omega
 have new: ∀ {i g:Nat},i≠r->ι[i]? =some (some g)->go'≠some g:=fun {i g} hi h e=>by
  grind
 refine Good.up hr.env ⟨⟨by simp [hlen],fun k hk=>by have:=hr.fin k hk;omega,fun i j k hi hj=> ?_,fun i k hi=> ?_,fun i cs hi=> ?_,fun i S xs hi=> ?_,fun i es hi=> ?_,fun i T2 E2 r2 bs2 hi=> ?_⟩,hos,htape,hout,fun k c t hc=> ?_,hsz,kept,fun k hk hn=>mem k hk hn,hx⟩
 ·by_cases h1:i=r<;>by_cases h2:j=r
  ·omega
  ·grind
  ·grind
  ·rw [gi h1] at hi;rw [gi h2] at hj;exact hr.inj i j k hi hj
 ·by_cases h1:i=r
  ·grind
  ·rw [gi h1] at hi;have:=hr.avo i k hi;grind
 ·have hio:i≠o:=fun e=>by grind
  rw [gH hio] at hi
  have hir:i≠r:=fun e=>by grind
  obtain ⟨k,c,t,h1,h2,h3,h4⟩:=hr.cel i cs hi;exact ⟨k,c,t,(gi hir).trans h1,(oth hio hir h1).trans h2,h3,fun j x hj=>(h4 j x hj).ext hkeep hx⟩
 ·have hio:i≠o:=fun e=>by grind
  rw [gH hio] at hi
  have hir:i≠r:=fun e=>by grind
  rcases hr.elm i S xs hi with ⟨h1,h2⟩ | ⟨k,c,t,cap,h1,h2,h3,h4,h5,h6,h7⟩
  ·grind
  ·exact .inr ⟨k,c,t,cap,(gi hir).trans h1,(oth hio hir h1).trans h2,h3,h4,h5,h6,fun i x j y hi hj=>(h7 i x j y hi hj).ext hkeep⟩
 ·have hio:i≠o:=fun e=>by grind
  rw [gH hio] at hi
  have hir:i≠r:=fun e=>by grind
  obtain ⟨k,a',q,h1,h2,h3⟩:=hr.mpr i es hi;exact ⟨k,a',q,(gi hir).trans h1,(oth hio hir h1).trans h2,h3.ext hkeep⟩
 ·by_cases hio:i=o
  ·grind
  ·rw [gH hio] at hi;obtain ⟨d0,d,k,gk,h1,h2,h3⟩:=hr.bldr i T2 E2 r2 bs2 hi
   have hir:i≠r:=fun e=>by grind
   have hro:r2≠o:=fun e=>by grind
   by_cases hrr:r2=r
   ·omega
   ·exact ⟨d0,(gH hro).trans d,k,gk,(gi hir).trans h1,(gi hrr).trans h2,h3.ext (oth hio hir h1) fun g hg2=>oth hro hrr (by rw [h2,hg2])⟩
 ·by_cases h1:some k=go0\/k=b0
  ·rcases hshape k c t h1 hc with ⟨h2,h3⟩ | h2
   ·refine .inl ⟨by grind,fun hm=> ?_⟩;obtain ⟨i,hi⟩:=List.mem_iff_getElem?.1 hm
    grind
   grind
  grind
theorem Jw {w1 w2:World} (hr:Rel F H ι w) {o T E r b:Nat} {p v v':Value} {bs bs':List UInt8} (hH:H[o]? =some (.bld T E r bs)) (hb:ι[o]? =some (some b)) (hg:ι[r]? =some v.ownBlock) (hbk:w.heap[b]? =some (.cells #[p,v] T (0,0)))
  (hT:Turned w w1 b #[.pointer (some ⟨b,0,none⟩),v] T) (hG:Grew w1 w2 v.ownBlock v'.ownBlock) (ho:w2.ownsRow 0 E 1 v' bs'.length (bs'.map fun x=> .int .u8 x.toNat)) (hne:v.ownBlock≠some b) :
  Good F H ι w (H.set o (.bld T E r bs')) (ι.set r v'.ownBlock) (w2.setCell ⟨b,1,none⟩ v'):=by
 have hblt:b<w.heap.size:=(Array.getElem?_eq_some_iff.1 hbk).1;have hs1:=hT.size
 have hb2:w2.heap[b]? =some (.cells #[.pointer (some ⟨b,0,none⟩),v] T (0,0)):=by rw [hG.old b Za (fun e=>hne e.symm)];exact hT.at'
 have hsz:(w2.setCell ⟨b,1,none⟩ v').heap.size=w2.heap.size:=Zb
 have hbw:(w2.setCell ⟨b,1,none⟩ v').heap[b]? =some (.cells #[.pointer (some ⟨b,0,none⟩),v'] T (0,0)):=by grind [World.setCell]
 have hko: ∀k,k≠b->(w2.setCell ⟨b,1,none⟩ v').heap[k]? =w2.heap[k]? :=fun k hk=>Below.heap_setCell _ _ _ _ (fun e=>hk (by simpa using e))
 have hnb: ∀g,v'.ownBlock=some g->g≠b:=fun g h e=>by
  rcases (hG.new g h).2 with h1 | h1
  ·grind
  ·omega
 have hgs:=hG.size;refine UD hr hH hb hg (hG.os.trans hT.os) (hG.tape.trans hT.tape) (hG.output.trans hT.output) Za (fun k hk h1 h2=> ?_) (fun g h=> ?_) (fun g c t h hc=> ?_) (.inr ⟨bs',rfl,_,v',hbw,.inr rfl,rfl,?_⟩)
 ·rw [hko k h1,hG.old k Za h2,hT.other k h1]
 ·obtain ⟨h1,h2⟩:=hG.new g h
  grind
 ·by_cases hgb:g=b
  ·grind
  ·have h1:v.ownBlock=some g:=(h.resolve_right hgb).symm;obtain ⟨c',h2,h3⟩:=hG.shape g c t h1 (by rw [hT.other g hgb];exact hc)
   grind
 ·rcases ho with ⟨o1,o2 | ⟨g,cap,cur,o2,o3,o4,o5⟩⟩
  ·exact ⟨o1,.inl o2⟩
  ·exact ⟨o1,.inr ⟨g,cap,cur,o2,o3,by rw [hko g (hnb g (by rw [o2];rfl))];exact o4,o5⟩⟩
theorem UC (hr:Rel F H ι w) {o T E r b:Nat} {go:Option Nat} {bs:List UInt8} (hH:H[o]? =some (.bld T E r bs)) (hb:ι[o]? =some (some b)) (hg:ι[r]? =some go)
  (hos:w'.os=w.os) (htape:Tp w w') (hout:w'.output=w.output) (hsz:w.heap.size<=w'.heap.size) (hold: ∀k,k<w.heap.size->some k≠go->w'.heap[k]? =w.heap[k]?) :
  Good F H ι w (H.set o .dead) (ι.set r none) w':=by
 have hor:=(hr.bldr o T E r bs hH).1
 have hne:go≠some b:=fun e=>by have:=hr.inj o r b hb (by rw [hg,e]);omega
 refine UD hr hH hb hg hos htape hout hsz (fun k hk _ h=>hold k hk h) (fun g h=>by cases h) (fun g c t h hc=> ?_) (.inl rfl)
 grind
theorem DA {P:Program} {o:Oper} {fr:List V} {H:List Obj} (T E:TypeId) (h:o.op= .alloc T) (hz:((P.info? T).bind (·.zero)).map (·.cells)=some #[.pointer none,.slice none 0 0]):OpS P o fr H (.bp H.length) (H++ [.bld T E (H.length+1) [],.dead]):=fun F ι a w hr hf=>by
 simp only [Option.map_eq_some_iff,Option.bind_eq_some_iff] at hz;obtain ⟨z,⟨i,hi,hz⟩,hc⟩:=hz;have g:=Ks hr E (Pushed.alloc w #[.pointer none,.slice none 0 0] T);refine ⟨_,.pointer (some ⟨w.heap.size,0,none⟩),_,_,?_,.inl rfl,g,.bp _ w.heap.size T E (H.length+1) [] (by rw [<- hr.len];simp) Zb⟩
 simp_all [execOp,Instr.alloc,zeroValue,typeInfo,newVar,newRow]
end
end Go.AM
