/- Declarations that the closing texts need, part 3: joined by tools/slim.py. -/
import Derived.Test.YtmbelkfkhclnkaaGreatDoorZS2
import Derived.ChangeKeysEq
set_option linter.unusedVariables false
set_option linter.unusedSimpArgs false
namespace Go.AM
open Go.RowKit
inductive PV where
 | int (k:IntKind) (n:Int)
 | bool (b:Bool)
 | str (s:List UInt8)
 | list (cl:Bool) (xs:List PV)
 | agg (cs:List PV)
 | nilp
 | nili
 | nilf
 | nilm
 | fn (f:FuncId)
 deriving Inhabited
inductive V where
 | p (x:PV)
 | agg (cs:List V)
 | fn (f:Fn) (first caps:List V)
 | ptr (o off:Nat)
 | ep (o i j tot:Nat)
 | sl (o off len tot:Nat)
 | lp (x:PV) (j:Nat)
 | tup (vs:List V)
 | mp (o:Nat)
 | bp (o:Nat)
 | err
 | junk
 deriving Inhabited
inductive Obj where
 | cells (cs:List V)
 | elems (S:Nat) (xs:List PV)
 | map (es:List (PV×PV))
 | bld (T E r:Nat) (bs:List UInt8)
 | dead
 deriving Inhabited
def PV.cells : PV->List PV
 | .agg cs=>cs
 | x=> [x]
inductive RP (X:Nat->Prop) (w:World):PV->Value->Prop where
 | int (k n):RP X w (.int k n) (.int k n)
 | bool (b):RP X w (.bool b) (.bool b)
 | str (s:List UInt8):RP X w (.str s) (.string ⟨s.toArray⟩)
 | nilp:RP X w .nilp (.pointer none)
 | nili:RP X w .nili .nilIface
 | nilf:RP X w .nilf .nilFunc
 | nilm:RP X w .nilm (.map none)
 | fn (f):RP X w (.fn f) (.func (.func f) #[] #[])
 | nils (cl):RP X w (.list cl []) (.slice none 0 0)
 | emp (cl a cap) (hc:cl=true->cap=0) (hm:cap<=maxLen) (ha:0<cap-> ∀x,a=some x->x.spot=none):RP X w (.list cl []) (.slice a 0 cap)
 | list (cl:Bool) (xs:List PV) (b off cap S:Nat) (u:Nat->Nat->Value) (hX: ¬X b) (hb:b<w.heap.size) (hc:xs.length<=cap) (hm:cap<=maxLen) (hcl:cl=true->cap=xs.length)
   (hS: ∀(i:Nat) (x:PV),xs[i]? =some x->x.cells.length=S)
   (hu: ∀(i:Nat) (x:PV) (j:Nat) (c:PV),xs[i]? =some x->x.cells[j]? =some c->w.cell? ⟨b,off+i*S+j,none⟩=some (u i j))
   (hr: ∀(i:Nat) (x:PV) (j:Nat) (c:PV),xs[i]? =some x->x.cells[j]? =some c->RP X w c (u i j)) :
   RP X w (.list cl xs) (.slice (some ⟨b,off,none⟩) xs.length cap)
 | agg (cs:List PV) (a:Array Value) (hs:a.size=cs.length) (hr: ∀(j:Nat) (c:PV),cs[j]? =some c->RP X w c (a.getD j undef)):RP X w (.agg cs) (.agg a)
def Keeps (X:Nat->Prop) (w:World) (X':Nat->Prop) (w':World):Prop :=
 ∀b,¬X b->b<w.heap.size-> ¬X' b/\b<w'.heap.size/\w'.heap[b]? =w.heap[b]?
theorem Keeps.refl (X w):Keeps X w X w:=fun _ h1 h2=>⟨h1,h2,rfl⟩
theorem RP.ext {X w X' w'} (hk:Keeps X w X' w') {x v} (h:RP X w x v):RP X' w' x v:=by
 induction h with
 | int k n=>exact .int k n
 | bool b=>exact .bool b
 | str s=>exact .str s
 | nilp=>exact .nilp
 | nili=>exact .nili
 | nilf=>exact .nilf
 | nilm=>exact .nilm
 | fn f=>exact .fn f
 | nils cl=>exact .nils cl
 | emp cl a cap hc hm ha=>exact .emp cl a cap hc hm ha
 | list cl xs b off cap S u hX hb hc hm hcl hS hu _ ih =>
  obtain ⟨h1,h2,h3⟩:=hk b hX hb;exact .list cl xs b off cap S u h1 h2 hc hm hcl hS (fun i x j c hi hj=>by grind [World.cell?_of_block]) ih
 | agg cs a hs _ ih=>exact .agg cs a hs ih
theorem RP.int_inv {X w k n v} (h:RP X w (.int k n) v):v= .int k n:=by cases h;rfl
theorem RP.bool_inv {X w b v} (h:RP X w (.bool b) v):v= .bool b:=by cases h;rfl
theorem RP.str_inv {X w s v} (h:RP X w (.str s) v):v= .string ⟨s.toArray⟩:=by cases h;rfl
theorem RP.agg_inv {X w cs v} (h:RP X w (.agg cs) v): ∃a:Array Value,v= .agg a/\a.size=cs.length/\ ∀(j:Nat) (c:PV),cs[j]? =some c->RP X w c (a.getD j undef):=by
 cases h with | agg _ a hs hr=>grind
def PV.one : PV->Bool
 | .agg _=>false
 | _=>true
theorem PV.cells_one {x:PV} (h:x.one=true):x.cells= [x]:=by cases x<;>simp_all [PV.one,PV.cells]
theorem RP.oneCell {X w x v} (h:RP X w x v) (h1:x.one=true):v.oneCell'=true:=by
 cases h<;>simp_all [PV.one,Value.oneCell']
end Go.AM
namespace Go.AM
open Go.RowKit
def Own (F:Nat->Prop) (ι:List (Option Nat)) (b:Nat):Prop:=F b\/some b∈ι
inductive RV (F:Nat->Prop) (H:List Obj) (ι:List (Option Nat)) (w:World):V->Value->Prop where
 | p (x v) (h:RP (Own F ι) w x v):RV F H ι w (.p x) v
 | agg (cs:List V) (a:Array Value) (hs:a.size=cs.length) (hr: ∀(j:Nat) (c:V),cs[j]? =some c->RV F H ι w c (a.getD j undef)):RV F H ι w (.agg cs) (.agg a)
 | fn (f) (cs ds:List V) (a e:Array Value) (hs:a.size=cs.length) (ht:e.size=ds.length) (hr: ∀(j:Nat) (c:V),cs[j]? =some c->RV F H ι w c (a.getD j undef))
   (hq: ∀(j:Nat) (c:V),ds[j]? =some c->RV F H ι w c (e.getD j undef)):RV F H ι w (.fn f cs ds) (.func f a e)
 | tup (cs:List V) (a:Array Value) (hs:a.size=cs.length) (hr: ∀(j:Nat) (c:V),cs[j]? =some c->RV F H ι w c (a.getD j undef)):RV F H ι w (.tup cs) (.tuple a)
 | ptr (o off b cs) (h:ι[o]? =some (some b)) (hH:H[o]? =some (.cells cs)):RV F H ι w (.ptr o off) (.pointer (some ⟨b,off,none⟩))
 | ep (o i j tot b S) (xs:List PV) (h:ι[o]? =some (some b)) (hH:H[o]? =some (.elems S xs)) (ht:xs.length=tot):RV F H ι w (.ep o i j tot) (.pointer (some ⟨b,i*S+j,none⟩))
 | slNil (o S a) (h:ι[o]? =some none) (hH:H[o]? =some (.elems S [])):RV F H ι w (.sl o 0 0 0) (.slice a 0 0)
 | sl (o off len tot b S cap t) (xs:List PV) (c:Array Value) (h:ι[o]? =some (some b)) (hH:H[o]? =some (.elems S xs)) (ht:xs.length=tot) (hw:w.heap[b]? =some (.cells c t (0,0)))
   (hcap:c.size=(off+cap)*S) (hl:len<=cap) (hlen:off+len<=tot) (hm:off+cap<=maxLen):RV F H ι w (.sl o off len tot) (.slice (some ⟨b,off*S,none⟩) len cap)
 | lp (x j b off) (u:Nat->Value) (hX: ¬Own F ι b) (hb:b<w.heap.size) (hu: ∀(j:Nat) (c:PV),x.cells[j]? =some c->w.cell? ⟨b,off+j,none⟩=some (u j))
   (hr: ∀(j:Nat) (c:PV),x.cells[j]? =some c->RP (Own F ι) w c (u j)):RV F H ι w (.lp x j) (.pointer (some ⟨b,off+j,none⟩))
 | mp (o b es) (h:ι[o]? =some (some b)) (hH:H[o]? =some (.map es)):RV F H ι w (.mp o) (.map (some b))
 | bp (o b T E r bs) (h:ι[o]? =some (some b)) (hH:H[o]? =some (.bld T E r bs)):RV F H ι w (.bp o) (.pointer (some ⟨b,0,none⟩))
 | bpD (o v) (h:H[o]? =some .dead):RV F H ι w (.bp o) v
 | err (t p):RV F H ι w .err (.iface t p)
 | junk (v):RV F H ι w .junk v
 | mpD (o v) (h:H[o]? =some .dead):RV F H ι w (.mp o) v
 | ptrD (o off v) (h:H[o]? =some .dead):RV F H ι w (.ptr o off) v
 | epD (o i j tot v) (h:H[o]? =some .dead):RV F H ι w (.ep o i j tot) v
 | slD (o off len tot v) (h:H[o]? =some .dead):RV F H ι w (.sl o off len tot) v
 | epS (o i j tot v S) (xs:List PV) (h:H[o]? =some (.elems S xs)) (hne:tot<xs.length):RV F H ι w (.ep o i j tot) v
 | slS (o off len tot v S) (xs:List PV) (h:H[o]? =some (.elems S xs)) (hne:tot<xs.length):RV F H ι w (.sl o off len tot) v
 | slC (o tot b cap) (cs:List V) (h:ι[o]? =some (some b)) (hH:H[o]? =some (.cells cs)) (hl:tot<=cap) (hm:cap<=maxLen):RV F H ι w (.sl o 0 tot tot) (.slice (some ⟨b,0,none⟩) tot cap)
def HX (H:List Obj) (ι:List (Option Nat)) (w:World) (H':List Obj) (ι':List (Option Nat)) (w':World):Prop :=
 ∀(o:Nat) (ob:Obj),H[o]? =some ob->H'[o]? =some .dead\/match ob with
  | .dead=>False
  | .cells _=>(∃cs',H'[o]? =some (.cells cs'))/\ι'[o]? =ι[o]?
  | .map _=>(∃es',H'[o]? =some (.map es'))/\ι'[o]? =ι[o]?
  | .bld T E r _=>(∃bs',H'[o]? =some (.bld T E r bs'))/\ι'[o]? =ι[o]?
  | .elems S xs=> ∃xs',H'[o]? =some (.elems S xs')/\(xs.length<xs'.length\/(xs'.length=xs.length/\ι'[o]? =ι[o]? /\
    ∀b c t,ι[o]? =some (some b)->w.heap[b]? =some (.cells c t (0,0))-> ∃c',w'.heap[b]? =some (.cells c' t (0,0))/\c'.size=c.size))
theorem HX.refl (H ι w):HX H ι w H ι w:=fun o ob h=>by
 grind
theorem HX.trans {H ι w H' ι' w' H'' ι'' w''} (h:HX H ι w H' ι' w') (k:HX H' ι' w' H'' ι'' w''):HX H ι w H'' ι'' w'':=fun o ob hob=>by
 rcases h o ob hob with h1 | h1
 ·rcases k o _ h1 with k1 | k1
  ·exact .inl k1
  grind
 ·cases ob with
  | dead=>exact h1.elim
  | cells cs =>
   obtain ⟨⟨cs',e⟩,e2⟩:=h1;rcases k o _ e with k1 | k1
   ·exact .inl k1
   grind
  | map es =>
   obtain ⟨⟨cs',e⟩,e2⟩:=h1;rcases k o _ e with k1 | k1
   ·exact .inl k1
   grind
  | bld T E r bs =>
   obtain ⟨⟨cs',e⟩,e2⟩:=h1;rcases k o _ e with k1 | k1
   ·exact .inl k1
   grind
  | elems S xs =>
   obtain ⟨xs',e,h2⟩:=h1;rcases k o _ e with k1 | ⟨xs'',e3,k2⟩
   ·exact .inl k1
   grind
theorem RV.ext {F H ι w H' ι' w'} (hk:Keeps (Own F ι) w (Own F ι') w') (hx:HX H ι w H' ι' w') {x v} (h:RV F H ι w x v):RV F H' ι' w' x v:=by
 induction h with
 | p x v h=>exact .p x v (h.ext hk)
 | agg cs a hs _ ih=>exact .agg cs a hs ih
 | fn f cs ds a e hs ht _ _ ih1 ih2=>exact .fn f cs ds a e hs ht ih1 ih2
 | tup cs a hs _ ih=>exact .tup cs a hs ih
 | ptr o off b cs h hH =>
  rcases hx o _ hH with h1 | ⟨⟨cs',e⟩,e2⟩
  ·exact .ptrD _ _ _ h1
  ·exact .ptr _ _ b cs' (e2.trans h) e
 | ep o i j tot b S xs h hH ht =>
  rcases hx o _ hH with h1 | ⟨xs',e,h2⟩
  ·exact .epD _ _ _ _ _ h1
  ·rcases h2 with h2 | ⟨h2,h3,_⟩
   ·exact .epS _ _ _ _ _ S xs' e Za
   ·exact .ep _ _ _ _ b S xs' (h3.trans h) e Za
 | slNil o S a h hH =>
  rcases hx o _ hH with h1 | ⟨xs',e,h2⟩
  ·exact .slD _ _ _ _ _ h1
  ·rcases h2 with h2 | ⟨h2,h3,_⟩
   ·exact .slS _ _ _ _ _ S xs' e h2
   ·have:xs'= []:=List.eq_nil_of_length_eq_zero h2;subst this;exact .slNil _ S a (h3.trans h) e
 | sl o off len tot b S cap t xs c h hH ht hw hcap hl hlen hm =>
  rcases hx o _ hH with h1 | ⟨xs',e,h2⟩
  ·exact .slD _ _ _ _ _ h1
  ·rcases h2 with h2 | ⟨h2,h3,h4⟩
   ·exact .slS _ _ _ _ _ S xs' e Za
   ·obtain ⟨c',e5,e6⟩:=h4 b c t h hw;exact .sl _ _ _ _ b S cap t xs' c' (h3.trans h) e Za e5 Za hl hlen hm
 | lp x j b off u hX hb hu hr =>
  obtain ⟨h1,h2,h3⟩:=hk b hX hb;exact .lp x j b off u h1 h2 (fun j c hj=>by rw [World.cell?_of_block (w:=w) h3];exact hu j c hj) (fun j c hj=>(hr j c hj).ext hk)
 | mp o b es h hH =>
  rcases hx o _ hH with h1 | ⟨⟨es',e⟩,e2⟩
  ·exact .mpD _ _ h1
  ·exact .mp _ b es' (e2.trans h) e
 | mpD o v h=>exact .mpD _ _ ((hx o _ h).resolve_right id)
 | bp o b T E r bs h hH =>
  rcases hx o _ hH with h1 | ⟨⟨bs',e⟩,e2⟩
  ·exact .bpD _ _ h1
  ·exact .bp _ b T E r bs' (e2.trans h) e
 | bpD o v h=>exact .bpD _ _ ((hx o _ h).resolve_right id)
 | err t p=>exact .err t p
 | junk v=>exact .junk v
 | ptrD o off v h=>exact .ptrD _ _ _ ((hx o _ h).resolve_right id)
 | epD o i j tot v h=>exact .epD _ _ _ _ _ ((hx o _ h).resolve_right id)
 | slD o off len tot v h=>exact .slD _ _ _ _ _ ((hx o _ h).resolve_right id)
 | epS o i j tot v S xs h hne =>
  rcases hx o _ h with h1 | ⟨xs',e,h2⟩
  ·exact .epD _ _ _ _ _ h1
  ·exact .epS _ _ _ _ _ S xs' e (by rcases h2 with h2 | ⟨h2,_⟩<;>omega)
 | slS o off len tot v S xs h hne =>
  rcases hx o _ h with h1 | ⟨xs',e,h2⟩
  ·exact .slD _ _ _ _ _ h1
  ·exact .slS _ _ _ _ _ S xs' e (by rcases h2 with h2 | ⟨h2,_⟩<;>omega)
 | slC o tot b cap cs h hH hl hm =>
  rcases hx o _ hH with h1 | ⟨⟨cs',e⟩,e2⟩
  ·exact .slD _ _ _ _ _ h1
  ·exact .slC _ _ b cap cs' (e2.trans h) e hl hm
def MRep (X:Nat->Prop) (w:World) (es:List (PV×PV)) (a:Array MapEntry) (n:Nat):Prop :=
 (a.size=es.length/\n=es.length)/\ ∀(i:Nat) (k x:PV),es[i]? =some (k,x)-> ∃e,a[i]? =some e/\e.born=i/\RP X w k e.key/\RP X w x e.val
theorem MRep.ext {X w X' w'} (hk:Keeps X w X' w') {es a n} (h:MRep X w es a n):MRep X' w' es a n :=
 ⟨h.1,fun i k x hi=>by obtain ⟨e,h1,h0,h2,h3⟩:=h.2 i k x hi;exact ⟨e,h1,h0,h2.ext hk,h3.ext hk⟩⟩
def BRep (w:World) (T E b:Nat) (go:Option Nat) (bs:List UInt8):Prop :=
 ∃p v,w.heap[b]? =some (.cells #[p,v] T (0,0))/\(p= .pointer none\/p= .pointer (some ⟨b,0,none⟩))/\v.ownBlock=go/\w.ownsRow 0 E 1 v bs.length (bs.map fun x=> .int .u8 x.toNat)
theorem BRep.ext {w w':World} {T E b go bs} (h:BRep w T E b go bs) (h1:w'.heap[b]? =w.heap[b]?) (h2: ∀g,go=some g->w'.heap[g]? =w.heap[g]?):BRep w' T E b go bs:=by
 obtain ⟨p,v,e1,e2,e3,e4,e5⟩:=h;refine ⟨p,v,by grind,e2,e3,e4,?_⟩;rcases e5 with e5 | ⟨g,cap,cur,q1,q2,q3,q4⟩
 ·exact .inl e5
 ·exact .inr ⟨g,cap,cur,q1,q2,by rw [h2 g (by rw [<- e3,q1];rfl)];exact q3,q4⟩
def Obj.still : Obj->Bool
 | .bld _ _ _ _=>true
 | .dead=>true
 | _=>false
def Env (F:Nat->Prop) (ι:List (Option Nat)) (w:World):Prop :=
 (∀p∈TN,¬Own F ι p.1/\p.1<w.heap.size/\ ∃t fz,w.heap[p.1]? =some (.cells p.2 t fz)) /\
 ∀g∈Rw,¬Own F ι g/\g<w.heap.size/\ ∃tp p t fz,w.heap[g]? =some (.cells #[.iface tp p] t fz)
theorem Env.of {F ι w ι' w'} (h:Env F ι w) (hs:w.heap.size<=w'.heap.size) (hk: ∀b,b<w.heap.size->some b ∉ ι->w'.heap[b]? =w.heap[b]?) (ho: ∀b,b<w.heap.size->some b ∉ ι->some b ∉ ι'):Env F ι' w':=⟨fun p hp=>by
 obtain ⟨h1,h2,t,fz,h3⟩:=h.1 p hp;have h4:some p.1 ∉ ι:=fun h=>h1 (.inr h)
 exact ⟨fun h=>h.elim (fun h=>h1 (.inl h)) (ho _ h2 h4),Za,t,fz,by rw [hk _ h2 h4];exact h3⟩,fun p hp=>by
 obtain ⟨h1,h2,tp,q,t,fz,h3⟩:=h.2 p hp;have h4:some p ∉ ι:=fun h=>h1 (.inr h)
 exact ⟨fun h=>h.elim (fun h=>h1 (.inl h)) (ho _ h2 h4),Za,tp,q,t,fz,by rw [hk _ h2 h4];exact h3⟩⟩
theorem Env.le {F ι w F' ι'} (h:Env F ι w) (ho: ∀b,Own F' ι' b->Own F ι b):Env F' ι' w:=⟨fun p hp=>by
 obtain ⟨h1,h2⟩:=h.1 p hp
 exact ⟨fun h=>h1 (ho _ h),h2⟩,fun p hp=>by
 obtain ⟨h1,h2⟩:=h.2 p hp
 exact ⟨fun h=>h1 (ho _ h),h2⟩⟩
theorem Env.fresh {F ι w} (h:Env F ι w):Env (Own F ι) [] w:=h.le fun b hb=>hb.elim id fun h=>by simp at h
theorem Env.noth {F ι w} (h:Env F ι w):Env (fun _=>False) [] w:=h.le fun b hb=>hb.elim False.elim fun h=>by simp at h
structure Rel0 (F:Nat->Prop) (H:List Obj) (ι:List (Option Nat)) (w:World):Prop where
 len:ι.length=H.length
 fin: ∀b,F b->b<w.heap.size
 inj: ∀(i j b:Nat),ι[i]? =some (some b)->ι[j]? =some (some b)->i=j
 avo: ∀(i b:Nat),ι[i]? =some (some b)-> ¬F b/\b<w.heap.size
 cel: ∀(o:Nat) (cs:List V),H[o]? =some (.cells cs)-> ∃b c t,ι[o]? =some (some b)/\w.heap[b]? =some (.cells c t (0,0))/\c.size=cs.length /\
  ∀(j:Nat) (x:V),cs[j]? =some x->RV F H ι w x (c.getD j undef)
 elm: ∀(o S:Nat) (xs:List PV),H[o]? =some (.elems S xs)->(ι[o]? =some none/\xs= [])\/ ∃b c t cap,ι[o]? =some (some b)/\w.heap[b]? =some (.cells c t (0,0)) /\
  c.size=cap*S/\xs.length<=cap/\cap<=maxLen/\(∀(i:Nat) (x:PV),xs[i]? =some x->x.cells.length=S) /\
  ∀(i:Nat) (x:PV) (j:Nat) (y:PV),xs[i]? =some x->x.cells[j]? =some y->RP (Own F ι) w y (c.getD (i*S+j) undef)
 mpr: ∀(o:Nat) (es:List (PV×PV)),H[o]? =some (.map es)-> ∃b a k,ι[o]? =some (some b)/\w.heap[b]? =some (.map a k)/\MRep (Own F ι) w es a k
 bldr: ∀(o T E r:Nat) (bs:List UInt8),H[o]? =some (.bld T E r bs)->r=o+1/\H[r]? =some .dead/\ ∃b go,ι[o]? =some (some b)/\ι[r]? =some go/\BRep w T E b go bs
structure Rel (F:Nat->Prop) (H:List Obj) (ι:List (Option Nat)) (w:World):Prop extends Rel0 F H ι w where
 env:Env F ι w
theorem Yn {F:Nat->Prop} {H:List Obj} {ι:List (Option Nat)} {w:World} (hr:Rel F H ι w) {H':List Obj} {ι':List (Option Nat)} {w':World}
  (h1: ∀(o T E r:Nat) (bs:List UInt8),H'[o]? =some (.bld T E r bs)->H[o]? =some (.bld T E r bs))
  (h2: ∀(i:Nat) (ob:Obj),H[i]? =some ob->ob.still=true->H'[i]? =H[i]? /\ι'[i]? =ι[i]? /\ ∀b,ι[i]? =some (some b)->w'.heap[b]? =w.heap[b]?) :
  ∀(o T E r:Nat) (bs:List UInt8),H'[o]? =some (.bld T E r bs)->r=o+1/\H'[r]? =some .dead/\ ∃b go,ι'[o]? =some (some b)/\ι'[r]? =some go/\BRep w' T E b go bs:=fun o T E r bs ho=>by
 obtain ⟨q0,q1,b,go,q2,q3,q4⟩:=hr.bldr o T E r bs (h1 o T E r bs ho);obtain ⟨_,a2,a3⟩:=h2 o _ (h1 o T E r bs ho) rfl;obtain ⟨b1,b2,b3⟩:=h2 r _ q1 rfl;exact ⟨q0,by grind,b,go,by grind,by grind,q4.ext (a3 b q2) fun g hg=>b3 g (by rw [q3,hg])⟩
def Tp (w w':World):Prop:=w'.tape=w.tape/\(w.drawn<=w'.drawn\/uA)
theorem Tp.rfl {w:World} :Tp w w:=⟨by rfl,.inl (Nat.le_refl _)⟩
theorem Tp.of {w w':World} (h:w'.tape=w.tape) (h2:w.drawn<=w'.drawn):Tp w w':=⟨h,.inl h2⟩
theorem Tp.trans {a b c:World} (h:Tp b c) (k:Tp a b):Tp a c:=⟨h.1.trans k.1,by
 rcases h.2 with h2 | h2
 ·rcases k.2 with k2 | k2
  ·omega
  grind
 grind⟩
structure Good0 (F:Nat->Prop) (H:List Obj) (ι:List (Option Nat)) (w:World) (H':List Obj) (ι':List (Option Nat)) (w':World):Prop where
 rel:Rel0 F H' ι' w'
 os:w'.os=w.os
 tape:Tp w w'
 output:w'.output=w.output
 shape: ∀(b:Nat) (c:Array Value) (t:TypeId),w.heap[b]? =some (.cells c t (0,0))->(some b∈ι/\some b ∉ ι')\/ ∃c',w'.heap[b]? =some (.cells c' t (0,0))/\c'.size=c.size
 size:w.heap.size<=w'.heap.size
 keep: ∀b,b<w.heap.size->some b ∉ ι->w'.heap[b]? =w.heap[b]?
 own: ∀b,b<w.heap.size->some b ∉ ι->some b ∉ ι'
 hx:HX H ι w H' ι' w'
structure Good (F:Nat->Prop) (H:List Obj) (ι:List (Option Nat)) (w:World) (H':List Obj) (ι':List (Option Nat)) (w':World):Prop where
 rel:Rel F H' ι' w'
 os:w'.os=w.os
 tape:Tp w w'
 output:w'.output=w.output
 shape: ∀(b:Nat) (c:Array Value) (t:TypeId),w.heap[b]? =some (.cells c t (0,0))->(some b∈ι/\some b ∉ ι')\/ ∃c',w'.heap[b]? =some (.cells c' t (0,0))/\c'.size=c.size
 size:w.heap.size<=w'.heap.size
 keep: ∀b,b<w.heap.size->some b ∉ ι->w'.heap[b]? =w.heap[b]?
 own: ∀b,b<w.heap.size->some b ∉ ι->some b ∉ ι'
 hx:HX H ι w H' ι' w'
theorem Good.up {F H ι w H' ι' w'} (he:Env F ι w) (g:Good0 F H ι w H' ι' w'):Good F H ι w H' ι' w' :=
 ⟨⟨g.rel,he.of g.size g.keep g.own⟩,g.os,g.tape,g.output,g.shape,g.size,g.keep,g.own,g.hx⟩
theorem Good.refl {F H ι w} (h:Rel F H ι w):Good F H ι w H ι w:=⟨h,rfl,Tp.rfl,rfl,fun _ c _ h=> .inr ⟨c,h,rfl⟩,Nat.le_refl _,fun _ _ _=>rfl,fun _ _ h=>h,HX.refl _ _ _⟩
theorem Good.trans {F H ι w H' ι' w' H'' ι'' w''} (h:Good F H ι w H' ι' w') (k:Good F H' ι' w' H'' ι'' w''):Good F H ι w H'' ι'' w'' :=
 ⟨k.rel,k.os.trans h.os,k.tape.trans h.tape,k.output.trans h.output,fun b c t h0=>by
   have hb:=(Array.getElem?_eq_some_iff.1 h0).1;rcases h.shape b c t h0 with ⟨a1,a2⟩ | ⟨c1,h1,e1⟩
   ·exact .inl ⟨a1,k.own b (by have:=h.size;omega) a2⟩
   rcases k.shape b c1 t h1 with ⟨a1,a2⟩ | ⟨c2,h2,e2⟩
   ·by_cases a3:some b∈ι
    ·grind
    ·exact absurd a1 (h.own b hb a3)
   grind,Nat.le_trans h.size k.size,
  fun b hb ho=>(k.keep b (by have:=h.size;omega) (h.own b hb ho)).trans (h.keep b hb ho),fun b hb ho=>k.own b (by have:=h.size;omega) (h.own b hb ho),h.hx.trans k.hx⟩
theorem Good.keeps {F H ι w H' ι' w'} (h:Good F H ι w H' ι' w'):Keeps (Own F ι) w (Own F ι') w':=fun b hb hs=>by
 have h1:some b ∉ ι:=fun h=>hb (.inr h);refine ⟨?_,by have:=h.size;omega,h.keep b hs h1⟩;rintro (h2 | h2)
 ·exact hb (.inl h2)
 ·exact h.own b hs h1 h2
theorem Good.rv {F H ι w H' ι' w'} (h:Good F H ι w H' ι' w') {x v} (hv:RV F H ι w x v):RV F H' ι' w' x v:=hv.ext h.keeps h.hx
def Fr (F:Nat->Prop) (H:List Obj) (ι:List (Option Nat)) (w:World) (fr:List V) (a:Act):Prop :=
 a.tmps.size=fr.length/\a.defers= []/\ ∀(i:Nat) (x:V),fr[i]? =some x->RV F H ι w x (a.tmps.getD i undef)
theorem Good.fr {F H ι w H' ι' w' fr a} (h:Good F H ι w H' ι' w') (hf:Fr F H ι w fr a):Fr F H' ι' w' fr a :=
 ⟨hf.1,hf.2.1,fun i x hi=>h.rv (hf.2.2 i x hi)⟩
def gt : List V->Nat->V
 | [],_=> .junk
 | x::_,0=>x
 | _::l,n+1=>gt l n
def pt : List V->Nat->V->List V
 | [],_,_=> []
 | _::l,0,v=>v::l
 | x::l,n+1,v=>x::pt l n v
theorem Cg : ∀(l:List V) (n:Nat),gt l n=(l[n]?).getD .junk
 | [],n=>by simp [gt]
 | x::l,0=>by simp [gt]
 | x::l,n+1=>by simp [gt,Cg l n]
theorem YG : ∀(l:List V) (n:Nat) (v:V),pt l n v=l.set n v
 | [],n,v=>by simp [pt]
 | x::l,0,v=>by simp [pt]
 | x::l,n+1,v=>by simp [pt,YG l n]
theorem Fr.get {F H ι w fr a} (h:Fr F H ι w fr a) (n:Nat):RV F H ι w (gt fr n) (a.tmps.getD n undef):=by
 rw [Cg]
 cases hn:fr[n]? with
 | none=>exact .junk _
 | some x=>exact h.2.2 n x hn
def W0 (fr:List V) (d:Option Nat) (v:V):List V:=match d with | some n=>pt fr n v | none=>fr
theorem Fr.put {F H ι w fr a} (h:Fr F H ι w fr a) (d:Option Tmp) {x:V} {v:Value} (hv:RV F H ι w x v):Fr F H ι w (W0 fr d x) (a.put d v):=by
 cases d with
 | none=>exact h
 | some n =>
  refine ⟨by simp [Act.put,W0,YG,h.1],h.2.1,fun i y hi=> ?_⟩;simp only [W0,YG,List.getElem?_set] at hi;simp only [Act.put]
  by_cases hni:n=i
  ·subst hni
   by_cases hl:n<fr.length
   ·simp [hl] at hi;subst hi;have h1:a.tmps.size=fr.length:=h.1
    simp_all
   grind
  ·simp [hni] at hi;have:=h.2.2 i y hi
   simp_all
end Go.AM
namespace Go.AM
open Go.RowKit
def qT : Value->Option PV
 | .int k n=>some (.int k n)
 | .bool b=>some (.bool b)
 | .string s=>some (.str s.data.toList)
 | .slice none 0 0=>some (.list true [])
 | .pointer none=>some .nilp
 | .nilIface=>some .nili
 | .nilFunc=>some .nilf
 | .map none=>some .nilm
 | _=>none
def Rs : List Value->Option (List PV)
 | []=>some []
 | v::r=>match qT v,Rs r with | some x,some xs=>some (x::xs) | _,_=>none
def cv : Value->V
 | .agg cs=>match Rs cs.toList with | some xs=> .p (.agg xs) | none=> .junk
 | v=>match qT v with | some x=> .p x | none=> .junk
def ev (fr:List V):Operand->V
 | .tmp t=>gt fr t
 | .const v=>cv v
 | .func f=> .fn (.func f) [] []
 | .global _=> .junk
theorem LK {X w v x} (h:qT v=some x):RP X w x v:=by
 unfold qT at h
 split at h<;>simp at h<;>subst h
 ·exact .int _ _
 ·exact .bool _
 ·exact .str _
 ·exact .nils _
 ·exact .nilp
 ·exact .nili
 ·exact .nilf
 ·exact .nilm
theorem Bk {X w} : ∀(l:List Value) (xs:List PV),Rs l=some xs->l.length=xs.length/\ ∀(j:Nat) (c:PV),xs[j]? =some c->RP X w c (l.getD j undef)
 | [],xs,h=>by grind [Rs]
 | v::r,xs,h=>by
  simp only [Rs] at h
  split at h
  ·rename_i x xs' h1 h2;simp at h;subst h;obtain ⟨i1,i2⟩:=Bk r xs' h2;refine ⟨by simp [i1],fun j c hj=> ?_⟩
   cases j with
   | zero=>simp at hj;subst hj;simpa using LK h1
   | succ j=>simp at hj;simpa using i2 j c hj
  ·cases h
theorem Pc {F H ι w} (v:Value):RV F H ι w (cv v) v:=by
 unfold cv
 split
 ·rename_i cs
  split
  ·rename_i xs h;obtain ⟨i1,i2⟩:=Bk (X:=Own F ι) (w:=w) _ _ h;refine .p _ _ (.agg _ _ Za (fun j c hj=> ?_))
   simp_all
  ·exact .junk _
 ·split
  ·rename_i x h;exact .p _ _ (LK h)
  ·exact .junk _
theorem Fr.ev {F H ι w fr a} (h:Fr F H ι w fr a) (x:Operand):RV F H ι w (AM.ev fr x) (a.eval x):=by
 cases x with
 | tmp t=>exact h.get t
 | const v=>exact Pc v
 | func f=>exact .fn _ [] [] #[] #[] rfl rfl Zb Zb
 | global g=>exact .junk _
def RC (g:Nat):V:=match tabs.find? fun p=>decide (p.1=g) with
 | some p=> .lp (.agg (p.2.2.map (.int p.2.1))) 0
 | none=> .junk
def evx (fr:List V):Operand->V
 | .global g=>RC g
 | x=>ev fr x
theorem Ru {F H ι w} (h:Env F ι w) (g:Nat):RV F H ι w (RC g) (.pointer (some ⟨g,0,none⟩)):=by
 unfold RC
 split
 ·rename_i p hp;have hm:=List.mem_of_find?_eq_some hp
  have hg:p.1=g:=by simpa using List.find?_some hp
  obtain ⟨h1,h2,t,fz,h3⟩:=h.1 (p.1,(p.2.2.map (Value.int p.2.1)).toArray) (List.mem_map.2 ⟨p,hm,rfl⟩);rw [hg] at h1 h2 h3
  have key: ∀(j:Nat) (c:PV),(PV.agg (p.2.2.map (.int p.2.1))).cells[j]? =some c-> ∃n,p.2.2[j]? =some n/\c= .int p.2.1 n:=fun j c hj=>by
   simp only [PV.cells,List.getElem?_map,Option.map_eq_some_iff] at hj;obtain ⟨n,e1,e2⟩:=hj;exact ⟨n,e1,e2.symm⟩
  refine .lp _ 0 g 0 (fun j=> .int p.2.1 (p.2.2.getD j 0)) h1 h2 (fun j c hj=> ?_) (fun j c hj=> ?_)
  ·obtain ⟨n,e1,rfl⟩:=key j c hj;simp only [World.cell?,Nat.zero_add,h3];simp [e1]
  ·obtain ⟨n,e1,rfl⟩:=key j c hj;simp only [List.getD_eq_getElem?_getD,e1,Option.getD_some];exact .int _ _
 ·exact .junk _
theorem Fr.evx {F H ι w fr a} (h:Fr F H ι w fr a) (he:Env F ι w) (x:Operand):RV F H ι w (AM.evx fr x) (a.eval x):=by
 cases x with
 | tmp t=>exact h.ev (.tmp t)
 | const v=>exact h.ev (.const v)
 | func f=>exact h.ev (.func f)
 | global g=>exact Ru he g
def PureOp (P:Program) (o:Oper) (fr:List V) (H:List Obj) (x:V):Prop :=
 ∀F ι a w,Rel F H ι w->Fr F H ι w fr a-> ∃v,(execOp a.eval o).run P w= .ok (.value v) w/\RV F H ι w x v
theorem Ap {P o fr H} (x:Operand) (h:o.op= .move x\/o.op= .assign x):PureOp P o fr H (ev fr x):=fun F ι a w _ hf =>
 ⟨a.eval x,by rcases h with h | h<;>simp [execOp,h],hf.ev x⟩
def yT : V->V->V->V
 | .p (.bool b),x,y=>if b then x else y
 | _,_,_=> .junk
def PF : V->Option Bool
 | .p (.bool b)=>some b
 | _=>none
theorem ME {F H ι w x v b} (h:PF x=some b) (hv:RV F H ι w x v):v= .bool b:=by
 unfold PF at h
 split at h
 ·simp at h;subst h;cases hv with | p _ _ h=>exact h.bool_inv
 ·cases h
theorem GS {P o fr H} (c x y:Operand) (b:Bool) (h:o.op= .pick c x y) (hc:PF (ev fr c)=some b):PureOp P o fr H (if b then ev fr x else ev fr y):=fun F ι a w _ hf=>by
 have e:=ME hc (hf.ev c);refine ⟨if b then a.eval x else a.eval y,?_,?_⟩
 ·simp [execOp,h,e,asBool]
 ·cases b
  ·exact hf.ev y
  ·exact hf.ev x
def asI : V->Option (IntKind×Int)
 | .p (.int k n)=>some (k,n)
 | _=>none
end Go.AM
namespace Go.AM
open Go.RowKit
def XA (P:Program) (t:TypeId):Option Nat:=(P.info? t).map (·.size)
def Z4 (P:Program) (t:TypeId):Option Bool:=(P.underlying t).map fun | .struct _ | .array _ _=>true | _=>false
theorem ZR {P w t n} (h:XA P t=some n):(sizeOf t).run P w= .ok n w:=by
 unfold XA at h
 cases hi:P.info? t with
 | none=>grind
 | some i=>simp_all [sizeOf,typeInfo]
theorem Qf {P w t b} (h:Z4 P t=some b):(isAgg t).run P w= .ok b w:=by
 unfold Z4 at h
 cases hi:P.underlying t with
 | none=>grind
 | some d =>
  simp [hi] at h;simp only [isAgg,Sem.run_bind,run_underlying hi,Result.andThen_ok]
  cases d<;>simp_all
def Wt (op:BinOp) (k:IntKind) (a b:Int):Option PV :=
 match op with
 | .add=>some (.int k (k.wrap (a+b)))
 | .sub=>some (.int k (k.wrap (a-b)))
 | .mul=>some (.int k (k.wrap (a*b)))
 | .quo=>if b=0 then none else some (.int k (k.wrap (a.tdiv b)))
 | .rem=>if b=0 then none else some (.int k (a.tmod b))
 | .and=>some (.int k (k.wrap ((BitVec.ofInt k.bits a&&&BitVec.ofInt k.bits b).toNat:Int)))
 | .or=>some (.int k (k.wrap ((BitVec.ofInt k.bits a|||BitVec.ofInt k.bits b).toNat:Int)))
 | .xor=>some (.int k (k.wrap ((BitVec.ofInt k.bits a ^^^ BitVec.ofInt k.bits b).toNat:Int)))
 | .andNot=>some (.int k (k.wrap ((BitVec.ofInt k.bits a&&& ~~~(BitVec.ofInt k.bits b)).toNat:Int)))
 | .eql=>some (.bool (decide (a=b)))
 | .neq=>some (.bool (!decide (a=b)))
 | .lss=>some (.bool (decide (a<b)))
 | .leq=>some (.bool (decide (a<=b)))
 | .gtr=>some (.bool (decide (b<a)))
 | .geq=>some (.bool (decide (b<=a)))
 | .shl=>if b<0 then none else some (.int k (k.wrap (a*2^(min b.toNat k.bits))))
 | .shr=>if b<0 then none else some (.int k (a.fdiv (2^(min b.toNat k.bits))))
theorem LQ {X P w op k a b x} (t:TypeId) (h:Wt op k a b=some x): ∃v,(binOp op t (.int k a) (.int k b)).run P w= .ok v w/\RP X w x v:=by
 unfold Wt at h
 cases op<;>simp only [Option.some.injEq] at h
 case quo =>
  split at h
  ·cases h
  ·rename_i hb;simp at h;subst h;exact ⟨_,by simp [binOp,Op.intDiv,hb],.int _ _⟩
 case rem =>
  split at h
  ·cases h
  ·rename_i hb;simp at h;subst h;exact ⟨_,by simp [binOp,Op.intDiv,hb],.int _ _⟩
 case shl =>
  split at h
  ·cases h
  ·rename_i hb;simp at h;subst h;exact ⟨_,by simp [binOp,Op.shift,hb],.int _ _⟩
 case shr =>
  split at h
  ·cases h
  ·rename_i hb;simp at h;subst h;exact ⟨_,by simp [binOp,Op.shift,hb],.int _ _⟩
 case eql=>subst h;exact ⟨.bool (decide (a=b)),by rw [binOp_eql];rfl,.bool _⟩
 case neq=>subst h;exact ⟨.bool (!decide (a=b)),by rw [binOp_neq];rfl,.bool _⟩
 case lss=>subst h;exact ⟨_,by rw [binOp_lss];rfl,.bool _⟩
 case leq=>subst h;exact ⟨_,by rw [binOp_leq];rfl,.bool _⟩
 case gtr=>subst h;exact ⟨_,by rw [binOp_gtr];rfl,.bool _⟩
 case geq=>subst h;exact ⟨_,by rw [binOp_geq];rfl,.bool _⟩
 all_goals subst h;exact ⟨_,by simp [binOp,Op.intArith,Op.intBits],.int _ _⟩
theorem Ef {X P w op k k' a b x} (t:TypeId) (ho:op= .shl\/op= .shr) (h:Wt op k a b=some x): ∃v,(binOp op t (.int k a) (.int k' b)).run P w= .ok v w/\RP X w x v:=by
 unfold Wt at h;rcases ho with rfl | rfl<;>simp only at h<;>split at h
 ·cases h
 ·rename_i hb;simp at h;subst h;exact ⟨_,by simp [binOp,Op.shift,hb],.int _ _⟩
 ·cases h
 ·rename_i hb;simp at h;subst h;exact ⟨_,by simp [binOp,Op.shift,hb],.int _ _⟩
def Bm (op:BinOp) (a b:List UInt8):Option PV :=
 match op with
 | .add=>if a.length+b.length<=9223372036854775807 then some (.str (a++b)) else none
 | .eql=>some (.bool (decide (a=b)))
 | .neq=>some (.bool (!decide (a=b)))
 | .lss=>some (.bool (Op.bytesLess a b))
 | .leq=>some (.bool (Op.bytesLess a b||decide (a=b)))
 | .gtr=>some (.bool (!(Op.bytesLess a b||decide (a=b))))
 | .geq=>some (.bool (!(Op.bytesLess a b)))
 | _=>none
theorem AR (a b:List UInt8):(⟨a.toArray⟩:ByteArray)++⟨b.toArray⟩=⟨(a++b).toArray⟩:=by
 rfl
theorem LS {X P w op a b x} (t:TypeId) (h:Bm op a b=some x): ∃v,(binOp op t (.string ⟨a.toArray⟩) (.string ⟨b.toArray⟩)).run P w= .ok v w/\RP X w x v:=by
 unfold Bm at h
 have e: ∀l:List UInt8,(⟨l.toArray⟩:ByteArray).toList=l:=fun l=>Zb
 have e2:(a==b)=decide (a=b):=by grind
 cases op<;>simp only [Option.some.injEq] at h
 case add =>
  split at h
  ·rename_i hl;simp at h;subst h;refine ⟨_,?_,.str _⟩;rw [binOp_string_add]
   have e3: ¬((((⟨a.toArray⟩:ByteArray).size+(⟨b.toArray⟩:ByteArray).size:Nat):Int)>IntKind.i64.max):=by
    have:IntKind.i64.max=9223372036854775807:=by decide
    rw [this]
    show ¬(((a.toArray.size+b.toArray.size:Nat):Int)>_)
    simp;omega
   simp_all [Op.stringOp,AR]
  ·cases h
 case eql=>subst h;refine ⟨_,?_,.bool _⟩;simp_all [binOp_string_eql]
 case neq=>subst h;refine ⟨_,?_,.bool _⟩;simp_all [binOp_string_neq]
 case lss=>subst h;refine ⟨_,?_,.bool _⟩;simp [binOp_string_lss]
 case leq=>subst h;refine ⟨_,?_,.bool _⟩;simp_all [binOp,Op.stringOp]
 case gtr=>subst h;refine ⟨_,?_,.bool _⟩;simp_all [binOp,Op.stringOp]
 case geq=>subst h;refine ⟨_,?_,.bool _⟩;simp_all [binOp,Op.stringOp]
 all_goals cases h
def apart (P:Program) (t:TypeId) (cs:List PV) (off:Nat):Option PV :=
 match Z4 P t,XA P t with
 | some true,some n=>if off+n<=cs.length then some (.agg ((cs.drop off).take n)) else none
 | some false,_=>cs[off]?
 | _,_=>none
theorem X1 {X P w t cs off x a} (h:apart P t cs off=some x) (hs:a.size=cs.length) (hr: ∀(j:Nat) (c:PV),cs[j]? =some c->RP X w c (a.getD j undef)) :
  ∃v,(part t a off).run P w= .ok v w/\RP X w x v:=by
 unfold apart at h
 split at h
 ·rename_i n h1 h2
  split at h
  ·rename_i hle;simp at h;subst h;refine ⟨.agg (a.extract off (off+n)),by simp [part,Qf h1,ZR h2],.agg _ _ (by grind) (fun j c hj=> ?_)⟩;rw [List.getElem?_take] at hj
   split at hj
   ·rename_i hjn;rw [List.getElem?_drop] at hj;have:=hr _ _ hj
    have e:(a.extract off (off+n)).getD j undef=a.getD (off+j) undef:=by
     simp only [Array.getD_eq_getD_getElem?,Array.getElem?_extract]
     grind
    rwa [e]
   ·cases hj
  ·cases h
 ·rename_i h1;have:=hr _ _ h
  have hlt:off<a.size:=by grind
  refine ⟨a.getD off undef,?_,this⟩
  simp_all [part,Qf]
 ·cases h
def UJ (f:TypeId->PV->PV->Option Bool) (P:Program):List Field->List PV->List PV->Option Bool
 | [],_,_=>some true
 | g::r,a,b =>
  if g.name = "_" then UJ f P r a b
  else match apart P g.type a g.offset,apart P g.type b g.offset with
   | some x,some y=>match f g.type x y,UJ f P r a b with
    | some p,some q=>some (p&&q)
    | _,_=>none
   | _,_=>none
def FT (f:PV->PV->Option Bool) (P:Program) (e:TypeId) (n:Nat):Nat->Nat->List PV->List PV->Option Bool
 | 0,_,_,_=>some true
 | k+1,i,a,b=>match apart P e a (i*n),apart P e b (i*n) with
   | some x,some y=>match f x y,FT f P e n k (i+1) a b with
    | some p,some q=>some (p&&q)
    | _,_=>none
   | _,_=>none
def Wn (P:Program):Nat->TypeId->PV->PV->Option Bool
 | 0,_,_,_=>none
 | d+1,t,x,y =>
  match P.underlying t,x,y with
  | some .bool,.bool a,.bool b=>some (a==b)
  | some (.int _),.int k a,.int k' b=>if k=k' then some (decide (a=b)) else none
  | some .string,.str a,.str b=>some (decide (a=b))
  | some (.struct fs),.agg a,.agg b=>if P.stoodInHeld t then none else UJ (Wn P d) P fs.toList a b
  | some (.array n e),.agg a,.agg b=>match XA P e with | some m=>FT (Wn P d e) P e m n 0 a b | none=>none
  | _,_,_=>none
end Go.AM
namespace Go.AM
open Go.RowKit
theorem B0 {P t m} (h:XA P t=some m):P.cellsOf t=m:=by
 grind [XA,Program.cellsOf]
def qG (P:Program) (d:Nat) (t:TypeId) (x y:PV) (r:Bool):Prop :=
 ∀X w u v,RP X w x u->RP X w y v->(Op.equalIn d t u v).run P w= .ok r w
theorem Kf {P:Program} {D:Nat} (f:TypeId->PV->PV->Option Bool) (hf: ∀t x y r,f t x y=some r->qG P D t x y r) {X w} {a b:List PV} {u v:Array Value}
  (hu:u.size=a.length) (hu2: ∀(j:Nat) (c:PV),a[j]? =some c->RP X w c (u.getD j undef)) (hv:v.size=b.length) (hv2: ∀(j:Nat) (c:PV),b[j]? =some c->RP X w c (v.getD j undef)) :
  ∀(fs:List Field) (r:Bool),UJ f P fs a b=some r->(Op.eqFields D u v fs).run P w= .ok r w
 | [],r,h=>by simp_all [UJ,Op.eqFields]
 | g::fs,r,h=>by
  simp only [UJ] at h
  split at h
  ·rename_i hn;simp only [Op.eqFields,hn,ne_eq,not_true_eq_false,if_false];exact Kf f hf hu hu2 hv hv2 fs r h
  ·rename_i hn
   split at h
   ·rename_i x y hx hy
    split at h
    ·rename_i p q hp hq;simp at h;subst h;obtain ⟨x',e1,r1⟩:=X1 hx hu hu2;obtain ⟨y',e2,r2⟩:=X1 hy hv hv2;have e3:=hf _ _ _ _ hp X w x' y' r1 r2;have ih:=Kf f hf hu hu2 hv hv2 fs q hq;simp only [Op.eqFields,hn,ne_eq,not_false_eq_true,if_true,Sem.run_bind,e1,e2,e3,Result.andThen_ok]
     cases p<;>simp [ih]
    ·cases h
   ·cases h
theorem CL {P:Program} {D:Nat} {e:TypeId} {n:Nat} (hn:P.cellsOf e=n) (f:PV->PV->Option Bool) (hf: ∀x y r,f x y=some r->qG P D e x y r) {X w} {a b:List PV} {u v:Array Value}
  (hu:u.size=a.length) (hu2: ∀(j:Nat) (c:PV),a[j]? =some c->RP X w c (u.getD j undef)) (hv:v.size=b.length) (hv2: ∀(j:Nat) (c:PV),b[j]? =some c->RP X w c (v.getD j undef)) :
  ∀(k i:Nat) (r:Bool),FT f P e n k i a b=some r->(Op.eqItems D e (P.cellsOf e) u v (List.range' i k)).run P w= .ok r w
 | 0,i,r,h=>by simp_all [FT,Op.eqItems]
 | k+1,i,r,h=>by
  simp only [FT] at h
  split at h
  ·rename_i x y hx hy
   split at h
   ·rename_i p q hp hq;simp at h;subst h;obtain ⟨x',e1,r1⟩:=X1 hx hu hu2;obtain ⟨y',e2,r2⟩:=X1 hy hv hv2;have e3:=hf _ _ _ hp X w x' y' r1 r2;have ih:=CL hn f hf hu hu2 hv hv2 k (i+1) q hq;rw [hn] at ih ⊢;simp only [List.range'_succ,Op.eqItems,Sem.run_bind,e1,e2,e3,Result.andThen_ok]
    cases p<;>simp [ih]
   ·cases h
  ·cases h
theorem Qd {P:Program} : ∀(d:Nat) (t:TypeId) (x y:PV) (r:Bool),Wn P d t x y=some r-> ∀D,d<=D->qG P D t x y r
 | 0,_,_,_,_,h,_,_=>by simp [Wn] at h
 | d+1,t,x,y,r,h,D,hD=>by
  obtain ⟨D,rfl⟩: ∃e,D=e+1:=⟨D-1,Za⟩;have ih: ∀t x y r,Wn P d t x y=some r->qG P D t x y r:=fun t x y r h=>Qd d t x y r h D Za;unfold Wn at h;intro X w u v hu hv
  split at h
  ·rename_i hd;simp at h;subst h;rw [hu.bool_inv,hv.bool_inv]
   grind [run_equalIn_bool]
  ·rename_i k k1 a k2 b hd
   split at h
   ·rename_i hk;simp at h;subst h;subst hk;rw [hu.int_inv,hv.int_inv]
    grind [run_equalIn_int]
   ·cases h
  ·rename_i a b hd;simp at h;subst h;rw [hu.str_inv,hv.str_inv,run_equalIn_string w D t _ _ hd,ByteArray.toList_eq,ByteArray.toList_eq]
   grind
  ·rename_i fs a b hd
   split at h
   ·cases h
   ·rename_i hp
    cases hu with | agg _ u hs1 hr1 =>
    cases hv with | agg _ v hs2 hr2 =>
    have hfs:P.fieldsOf t=fs:=by simp [Program.fieldsOf,hd]
    rw [run_equalIn_struct w D t u v (by grind) (by grind),hfs];exact Kf (Wn P d) ih hs1 hr1 hs2 hr2 _ _ h
  ·rename_i n e a b hd
   split at h
   ·rename_i m hm
    cases hu with | agg _ u hs1 hr1 =>
    cases hv with | agg _ v hs2 hr2 =>
    have hi: ∃i,P.info? e=some i:=by
     unfold XA at hm;cases hi:P.info? e with
     | none=>grind
     | some i=>simp
    obtain ⟨i,hi⟩:=hi;rw [run_equalIn_array w D u v hd hi,List.range_eq_range'];exact CL (B0 hm) (Wn P d e) (ih e) hs1 hr1 hs2 hr2 n 0 r h
   ·cases h
  ·cases h
def Xf (P:Program) (op:BinOp) (t:TypeId) (x y:V):Option PV :=
 match x,y with
 | .p (.int k a),.p (.int k' b)=>if k=k'\/op= .shl\/op= .shr then Wt op k a b else none
 | .p (.str a),.p (.str b)=>Bm op a b
 | .p (.bool a),.p (.bool b)=>match op,P.underlying t with
  | .eql,some .bool=>some (.bool (a==b))
  | .neq,some .bool=>some (.bool (!(a==b)))
  | _,_=>none
 | .p (.agg a),.p (.agg b)=>if P.eqGuardType P.depth t then none else match op with
  | .eql=>(Wn P 9 t (.agg a) (.agg b)).map .bool
  | .neq=>(Wn P 9 t (.agg a) (.agg b)).map (fun r=> .bool (!r))
  | _=>none
 | _,_=>none
theorem LC {P:Program} {o:Oper} {fr:List V} {H:List Obj} (op:BinOp) (t:TypeId) (x y:Operand) (u:TypeId) (z:PV) (h:o.op= .binOp op t x y u) (hz:Xf P op t (ev fr x) (ev fr y)=some z) :
  PureOp P o fr H (.p z):=fun F ι a w _ hf=>by
 have hx:=hf.ev x;have hy:=hf.ev y;unfold Xf at hz
 suffices hh: ∃v,(do eqGuard op t x y (a.eval x) (a.eval y);binOp op t (a.eval x) (a.eval y)).run P w= .ok v w/\RP (Own F ι) w z v by
  obtain ⟨v,e,r⟩:=hh;refine ⟨v,?_,.p _ _ r⟩
  grind [execOp,Sem.run_bind,Result.andThen_ok,Sem.run_pure]
 generalize ev fr x=X at hx hz;generalize ev fr y=Y at hy hz
 split at hz
 ·rename_i k a' k' b'
  cases hx with | p _ _ hx=>cases hy with | p _ _ hy =>
  rw [hx.int_inv,hy.int_inv];simp only [eqGuard_at_int,Sem.run_bind,Sem.run_pure,Result.andThen_ok]
  split at hz
  ·rename_i hk
   by_cases hkk:k=k'
   ·simp_all [LQ]
   simp_all [Ef]
  ·cases hz
 ·cases hx with | p _ _ hx=>cases hy with | p _ _ hy =>
  rw [hx.str_inv,hy.str_inv]
  simp_all [eqGuard_at_string,LS]
 ·rename_i a' b'
  cases hx with | p _ _ hx=>cases hy with | p _ _ hy =>
  rw [hx.bool_inv,hy.bool_inv];simp only [eqGuard_at_bool,Sem.run_bind,Sem.run_pure,Result.andThen_ok]
  split at hz
  ·rename_i hd;simp at hz;subst hz;exact ⟨_,by simp_all [binOp,run_equal_bool],.bool _⟩
  ·rename_i hd;simp at hz;subst hz;exact ⟨_,by simp_all [binOp,run_equal_bool],.bool _⟩
  ·cases hz
 ·rename_i a' b'
  cases hx with | p _ _ hx=>cases hy with | p _ _ hy =>
  obtain ⟨u,eu,hs1,hr1⟩:=hx.agg_inv;obtain ⟨v,ev,hs2,hr2⟩:=hy.agg_inv;rw [eu,ev]
  split at hz
  ·cases hz
  ·rename_i hg
   have hg':P.eqGuardType P.depth t=false:=by grind
   simp only [Sem.run_bind,run_eqGuard_agg w op t x y u v hg',Result.andThen_ok]
   split at hz
   ·simp only [Option.map_eq_some_iff] at hz;obtain ⟨r,hr,rfl⟩:=hz;have:=Qd 9 t _ _ r hr 10000 Za (Own F ι) w _ _ (.agg _ u hs1 hr1) (.agg _ v hs2 hr2);exact ⟨.bool r,by rw [run_eql_struct,this];rfl,.bool _⟩
   ·simp only [Option.map_eq_some_iff] at hz;obtain ⟨r,hr,rfl⟩:=hz;have:=Qd 9 t _ _ r hr 10000 Za (Own F ι) w _ _ (.agg _ u hs1 hr1) (.agg _ v hs2 hr2);exact ⟨.bool (!r),by rw [run_neq_struct,this];rfl,.bool _⟩
   ·cases hz
 ·cases hz
def bZ (op:UnOp) (x:V):Option PV :=
 match op,x with
 | .neg,.p (.int k n)=>some (.int k (k.wrap (0-n)))
 | .not,.p (.bool b)=>some (.bool (!b))
 | _,_=>none
theorem N3 {P:Program} {o:Oper} {fr:List V} {H:List Obj} (op:UnOp) (t:TypeId) (x:Operand) (z:PV) (h:o.op= .unOp op t x) (hz:bZ op (ev fr x)=some z) :
  PureOp P o fr H (.p z):=fun F ι a w _ hf=>by
 have hx:=hf.ev x;generalize ev fr x=X at hx hz;unfold bZ at hz
 split at hz
 ·simp at hz;subst hz
  cases hx with | p _ _ hx =>
  exact ⟨_,by simp [execOp,h,hx.int_inv,Op.unary,Op.intArith],.p _ _ (.int _ _)⟩
 ·simp at hz;subst hz
  cases hx with | p _ _ hx =>
  exact ⟨_,by simp [execOp,h,hx.bool_inv,Op.unary],.p _ _ (.bool _)⟩
 ·cases hz
end Go.AM
namespace Go.AM
open Go.RowKit
def oat : List Obj->Nat->Obj
 | [],_=> .dead
 | x::_,0=>x
 | _::l,n+1=>oat l n
theorem DT : ∀(l:List Obj) (n:Nat),oat l n=(l[n]?).getD .dead
 | [],n=>by simp [oat]
 | x::l,0=>by simp [oat]
 | x::l,n+1=>by simp [oat,DT l n]
theorem ZI {H n o} (h:oat H n=o) (ho:o≠ .dead):H[n]? =some o:=by
 grind [DT]
def YK (xs:List PV) (i:Nat):PV:=xs.getD i .nilp
theorem WE {xs:List PV} {i:Nat} (h:i<xs.length):xs[i]? =some (YK xs i):=by simp [YK,h]
def YY (H:List Obj):V->Nat->Option (List V)
 | .lp x j,n=>if j+n<=x.cells.length then some (((x.cells.drop j).take n).map .p) else none
 | .ptr o off,n=>match oat H o with
  | .cells cs=>if off+n<=cs.length then some ((cs.drop off).take n) else none
  | _=>none
 | .ep o i j tot,n=>match oat H o with
  | .elems S xs=>if xs.length=tot/\i<xs.length/\j+n<=(YK xs i).cells.length then some ((((YK xs i).cells.drop j).take n).map .p) else none
  | _=>none
 | _,_=>none
theorem Vo {α:Type} {l:List α} {a n j:Nat} {c:α} (h:((l.drop a).take n)[j]? =some c):j<n/\l[a+j]? =some c:=by
 grind
theorem Ao {F H ι w x v n cs} (h:YY H x n=some cs) (hr:Rel F H ι w) (hv:RV F H ι w x v) :
  cs.length=n/\ ∃b off,v= .pointer (some ⟨b,off,none⟩)/\ ∃us:List Value,us.length=n/\(∀(j:Nat) (u:Value),us[j]? =some u->w.cell? ⟨b,off+j,none⟩=some u) /\
   ∀(j:Nat) (c:V),cs[j]? =some c->RV F H ι w c (us.getD j undef):=by
 unfold YY at h
 split at h
 ·rename_i x j
  split at h
  ·rename_i hle;obtain rfl:=Option.some.inj h
   cases hv with
   | lp _ _ b off u hX hb hu hq =>
    refine ⟨by simp;omega,b,off+j,rfl,(List.range n).map (fun k=>u (j+k)),Zb,fun k y hk=> ?_,fun k c hk=> ?_⟩
    ·simp only [List.getElem?_map,Option.map_eq_some_iff] at hk;obtain ⟨k',hk',rfl⟩:=hk
     have hkn:k<n:=by grind
     have:k'=k:=by grind
     subst this
     have hlt:j+k'<x.cells.length:=Za
     simp_all [Nat.add_assoc]
    ·simp only [List.getElem?_map,Option.map_eq_some_iff] at hk;obtain ⟨c',hc',rfl⟩:=hk;obtain ⟨hkn,hc⟩:=Vo hc';have:=hq _ _ hc
     have e:((List.range n).map (fun k=>u (j+k))).getD k undef=u (j+k):=by grind
     rw [e];exact .p _ _ this
  ·cases h
 ·rename_i o off
  split at h
  ·rename_i cs' ho
   split at h
   ·rename_i hle;obtain rfl:=Option.some.inj h;have hH:=ZI ho Zb;obtain ⟨b,c,t,h1,h2,h3,h4⟩:=hr.cel o cs' hH
    cases hv with
    | ptr _ _ b' _ hb' _ =>
     have:b'=b:=by grind
     subst this;refine ⟨by simp;omega,b',off,rfl,(List.range n).map (fun k=>c.getD (off+k) undef),Zb,fun k y hk=> ?_,fun k y hk=> ?_⟩
     ·simp only [List.getElem?_map,Option.map_eq_some_iff] at hk;obtain ⟨k',hk',rfl⟩:=hk
      have hkn:k<n:=by grind
      have:k'=k:=by grind
      subst this
      have hlt:off+k'<c.size:=Za
      simp_all [World.cell?]
     grind
    | ptrD _ _ _ hd=>grind
   ·cases h
  ·cases h
 ·rename_i o i j tot
  split at h
  ·rename_i S xs ho
   split at h
   ·rename_i hle;obtain ⟨ht,hi,hjn⟩:=hle;obtain rfl:=Option.some.inj h;have hH:=ZI ho Zb;rcases hr.elm o S xs hH with ⟨_,rfl⟩ | ⟨b,c,t,cap,h1,h2,h3,h4,h5,h6,h7⟩
    ·simp at hi
    ·cases hv with
     | ep _ _ _ _ b' S' xs' hb' hH' _ =>
      have:b'=b:=by grind
      subst this;have hx:=WE hi
      have:S'=S:=by grind
      subst this;have hS:=h6 i _ hx
      have hcap:(i+1)*S'<=c.size:=by rw [h3];exact Nat.mul_le_mul_right _ Za
      rw [Nat.add_mul,Nat.one_mul] at hcap;refine ⟨by simp;omega,b',i*S'+j,rfl,(List.range n).map (fun k=>c.getD (i*S'+(j+k)) undef),Zb,fun k y hk=> ?_,fun k y hk=> ?_⟩
      ·simp only [List.getElem?_map,Option.map_eq_some_iff] at hk;obtain ⟨k',hk',rfl⟩:=hk
       have hkn:k<n:=by grind
       have:k'=k:=by grind
       subst this
       have hlt:i*S'+(j+k')<c.size:=Za
       simp_all [Nat.add_assoc,World.cell?]
      ·simp only [List.getElem?_map,Option.map_eq_some_iff] at hk;obtain ⟨c',hc',rfl⟩:=hk;obtain ⟨hkn,hc⟩:=Vo hc';have:=h7 i _ _ _ hx hc
       have e:((List.range n).map (fun k=>c.getD (i*S'+(j+k)) undef)).getD k undef=c.getD (i*S'+(j+k)) undef:=by simp_all
       rw [e];exact .p _ _ this
     | epD _ _ _ _ _ hd=>grind
     | epS _ _ _ _ _ S' xs' hd hne=>grind
   ·cases h
  ·cases h
 ·cases h
def Wo : List V->Option (List PV)
 | []=>some []
 | .p x::r=>(Wo r).map (x:: ·)
 | _=>none
def mkA (cs:List V):V:=match Wo cs with | some ps=> .p (.agg ps) | none=> .agg cs
theorem Qt : ∀(cs:List V) (ps:List PV),Wo cs=some ps->cs=ps.map .p
 | [],ps,h=>by simp [Wo] at h;subst h;rfl
 | .p x::r,ps,h=>by
  simp [Wo] at h;obtain ⟨qs,hq,rfl⟩:=h;rw [Qt r qs hq];rfl
 | .agg _::_,_,h=>by simp [Wo] at h
 | .fn _ _ _::_,_,h=>by simp [Wo] at h
 | .ptr _ _::_,_,h=>by simp [Wo] at h
 | .ep _ _ _ _::_,_,h=>by simp [Wo] at h
 | .sl _ _ _ _::_,_,h=>by simp [Wo] at h
 | .lp _ _::_,_,h=>by simp [Wo] at h
 | .tup _::_,_,h=>by simp [Wo] at h
 | .err::_,_,h=>by simp [Wo] at h
 | .junk::_,_,h=>by simp [Wo] at h
theorem LU {F H ι w} {cs:List V} {a:Array Value} (hs:a.size=cs.length) (hr: ∀(j:Nat) (c:V),cs[j]? =some c->RV F H ι w c (a.getD j undef)):RV F H ι w (mkA cs) (.agg a):=by
 unfold mkA
 split
 ·rename_i ps h;have e:=Qt _ _ h;subst e;refine .p _ _ (.agg _ _ (by grind) (fun j c hj=> ?_));have:=hr j (.p c) (by simp [hj])
  cases this with | p _ _ h=>exact h
 ·exact .agg _ _ hs hr
def UL (P:Program) (H:List Obj) (t:TypeId) (x:V):Option V :=
 match Z4 P t,XA P t with
 | some true,some n=>(YY H x n).map mkA
 | some false,_=>match YY H x 1 with
  | some (c::_)=>some c
  | _=>none
 | _,_=>none
theorem Ar {P F H ι w t x v y} (h:UL P H t x=some y) (hr:Rel F H ι w) (hv:RV F H ι w x v): ∃u,(Instr.loadAt t v).run P w= .ok u w/\RV F H ι w y u:=by
 unfold UL at h
 split at h
 ·rename_i n h1 h2;simp only [Option.map_eq_some_iff] at h;obtain ⟨cs,hc,rfl⟩:=h;obtain ⟨e0,b,off,rfl,us,e1,e2,e3⟩:=Ao hc hr hv;have hl:=run_loadCells_list (P:=P) w ⟨b,off,none⟩ us (fun j u hj=>by grind [Addr.add_lit])
  simp_all [LU,Instr.loadAt,Instr.sureAddr,loadVar,Qf,ZR]
 ·rename_i h1
  split at h
  ·rename_i c r hc;simp at h;subst h;obtain ⟨e0,b,off,rfl,us,e1,e2,e3⟩:=Ao hc hr hv
   match us,e1 with
   | [u],_ =>
    have hc:=e2 0 u Zb;refine ⟨u,?_,by simpa using e3 0 c Zb⟩
    simp_all [Instr.loadAt,Instr.sureAddr,loadVar,Qf]
  ·cases h
 ·cases h
theorem GR {P:Program} {o:Oper} {fr:List V} {H:List Obj} (t:TypeId) (x:Operand) (y:V) (h:o.op= .load t x) (hz:UL P H t (ev fr x)=some y):PureOp P o fr H y:=fun F ι a w hr hf=>by
 obtain ⟨u,e,r⟩:=Ar hz hr (hf.ev x)
 simp_all [execOp]
def YC (H:List Obj):V->Bool
 | .lp _ _=>true
 | .ptr o _=>match oat H o with | .cells _=>true | _=>false
 | .ep o _ _ tot=>match oat H o with | .elems _ xs=>decide (xs.length=tot) | _=>false
 | _=>false
def UM (n:Nat):V->V
 | .lp x j=> .lp x (j+n)
 | .ptr o off=> .ptr o (off+n)
 | .ep o i j tot=> .ep o i (j+n) tot
 | x=>x
theorem Yi {F H ι w x v} (h:YC H x=true) (hv:RV F H ι w x v): ∃b off,v= .pointer (some ⟨b,off,none⟩)/\ ∀n,RV F H ι w (UM n x) (.pointer (some ⟨b,off+n,none⟩)):=by
 unfold YC at h
 split at h
 ·rename_i x j
  cases hv with
  | lp _ _ b off u hX hb hu hq=>exact ⟨b,off+j,rfl,fun n=>by rw [Nat.add_assoc];exact .lp _ _ b off u hX hb hu hq⟩
 ·rename_i o off
  split at h
  ·rename_i cs ho;have hH:=ZI ho Zb
   cases hv with
   | ptr _ _ b _ hb _=>exact ⟨b,off,rfl,fun n=> .ptr _ _ b _ hb hH⟩
   | ptrD _ _ _ hd=>grind
  ·cases h
 ·rename_i o i j tot
  split at h
  ·rename_i S xs ho;have hH:=ZI ho Zb;simp at h
   cases hv with
   | ep _ _ _ _ b S' xs' hb hH' ht=>exact ⟨b,i*S'+j,rfl,fun n=>by rw [Nat.add_assoc];exact .ep _ _ _ _ b S' xs' hb hH' ht⟩
   | epD _ _ _ _ _ hd=>grind
   | epS _ _ _ _ _ S' xs' hd hne=>grind
  ·cases h
 ·cases h
def ZC (P:Program) (s:TypeId) (f:Nat):Option Nat :=
 match P.underlying s with
 | some (.struct fs)=>match fs[f]? with
  | some g=>match XA P g.type with
   | some (_+1)=>some g.offset
   | _=>none
  | none=>none
 | _=>none
def Jp (P:Program) (H:List Obj) (s:TypeId) (f:Nat) (x:V):Option V :=
 match ZC P s f with
 | some n=>if YC H x then some (UM n x) else none
 | none=>none
theorem D7 {P:Program} {o:Oper} {fr:List V} {H:List Obj} (s:TypeId) (x:Operand) (f:Nat) (y:V) (h:o.op= .fieldAddr s x f) (hz:Jp P H s f (ev fr x)=some y):PureOp P o fr H y:=fun F ι a w hr hf=>by
 have hx:=hf.ev x;unfold Jp at hz
 split at hz
 ·rename_i n hn
  split at hz
  ·rename_i ha;simp at hz;subst hz;obtain ⟨b,off,e,hm⟩:=Yi ha hx;refine ⟨_,?_,hm n⟩;unfold ZC at hn
   split at hn
   ·rename_i fs hu
    split at hn
    ·rename_i g hg
     split at hn
     ·simp_all [execOp,Instr.fieldAt,run_underlying,Instr.sureAddr,fieldPlace,ZR,Addr.add_lit]
     ·cases hn
    ·cases hn
   ·cases hn
  ·cases hz
 ·cases hz
def XO (P:Program) (t:TypeId):Option (Option Nat×Nat) :=
 match P.underlying t with
 | some (.slice e)=>(XA P e).map fun n=>(none,n)
 | some (.array k e)=>(XA P e).map fun n=>(some k,n)
 | _=>none
def Jr (P:Program) (H:List Obj) (t:TypeId) (x i:V):Option V :=
 match XO P t,i with
 | some (none,S),.p (.int _ n)=>match x with
  | .p (.list _ xs)=>if 0<=n/\n<xs.length then (if (YK xs n.toNat).cells.length=S then some (.lp (YK xs n.toNat) 0) else none) else none
  | .sl o off len tot=>match oat H o with
   | .elems S' xs=>if xs.length=tot/\S'=S then (if 0<=n/\n<len then some (.ep o (off+n.toNat) 0 tot) else none) else none
   | .cells _=>if S=1/\off=0/\len=tot/\0<=n/\n<len then some (.ptr o n.toNat) else none
   | _=>none
  | _=>none
 | some (some k,S),.p (.int _ n)=>if 0<=n/\n<k then (if YC H x then some (UM (n.toNat*S) x) else none) else none
 | _,_=>none
theorem RV.sl_inv {F H ι w o off len tot v S xs} (h:RV F H ι w (.sl o off len tot) v) (hH:H[o]? =some (.elems S xs)) (ht:xs.length=tot) (hp:0<len) :
  ∃b cap c t,ι[o]? =some (some b)/\v= .slice (some ⟨b,off*S,none⟩) len cap/\w.heap[b]? =some (.cells c t (0,0))/\c.size=(off+cap)*S/\len<=cap/\off+len<=tot/\off+cap<=maxLen:=by
 cases h with
 | slNil=>omega
 | sl _ _ _ _ b S2 cap t2 xs2 c hb hH2 ht2 hw hcap hl hlen hm =>
  grind
 | slD _ _ _ _ _ hd=>grind
 | slS _ _ _ _ _ S2 xs2 hd hne=>grind
 | slC _ _ _ _ _ _ hd=>grind
theorem TX {F H ι w cl xs v i} (hv:RP (Own F ι) w (.list cl xs) v) (hi:i<xs.length) :
  ∃b off cap S,v= .slice (some ⟨b,off,none⟩) xs.length cap/\(YK xs i).cells.length=S/\RV F H ι w (.lp (YK xs i) 0) (.pointer (some ⟨b,off+i*S,none⟩)):=by
 cases hv with
 | nils=>simp at hi
 | emp=>simp at hi
 | list _ _ b off cap S u hX hb hc hm hcl hS hu hq =>
  have hx:=WE hi;exact ⟨b,off,cap,S,rfl,hS i _ hx,.lp _ 0 b (off+i*S) (u i) hX hb (fun j c hj=>hu i _ j c hx hj) (fun j c hj=>hq i _ j c hx hj)⟩
theorem D8 {P:Program} {o:Oper} {fr:List V} {H:List Obj} (t:TypeId) (x i:Operand) (y:V) (h:o.op= .indexAddr t x i) (hz:Jr P H t (evx fr x) (ev fr i)=some y):PureOp P o fr H y:=fun F ι a w hr hf=>by
 have hx:=hf.evx hr.env x;have hi:=hf.ev i;generalize evx fr x=X at hx hz;generalize ev fr i=I at hi hz;unfold Jr at hz
 split at hz
 ·rename_i S k n ht
  cases hi with | p _ _ hi =>
  have ei:=hi.int_inv;unfold XO at ht
  split at ht
  rotate_left
  ·simp at ht
  ·cases ht
  rename_i e hu;simp at ht
  split at hz
  ·rename_i cl xs
   split at hz
   ·rename_i hn
    split at hz
    ·rename_i hS;simp at hz;subst hz
     cases hx with | p _ _ hx =>
     have hlt:n.toNat<xs.length:=Za
     obtain ⟨b,off,cap,S',e1,e2,e3⟩:=TX (H:=H) hx hlt
     have:S'=S:=Za
     subst this;refine ⟨_,?_,e3⟩;simp [execOp,h,ei,e1,Instr.indexAt,asIntOf,run_underlying hu,hn,ZR ht,Addr.add_lit]
    ·cases hz
   ·cases hz
  ·rename_i o' off len tot
   split at hz
   ·rename_i S' xs ho;have hH:=ZI ho Zb
    split at hz
    ·rename_i hc
     split at hz
     ·rename_i hn;simp at hz;subst hz;obtain ⟨hc1,hc2⟩:=hc;obtain ⟨b,cap,c,t2,hb,e1,_⟩:=hx.sl_inv hH hc1 Za;subst hc2;refine ⟨_,?_,.ep _ _ _ _ b S' xs hb hH hc1⟩;simp only [Nat.add_zero,Nat.add_mul];simp [execOp,h,ei,e1,Instr.indexAt,asIntOf,run_underlying hu,hn,ZR ht,Addr.add_lit]
     ·cases hz
    ·cases hz
   ·rename_i cs ho;have hH:=ZI ho Zb
    split at hz
    ·rename_i hc;obtain ⟨hS,h0,hl,hn⟩:=hc;simp at hz;subst hz;subst hl;subst h0;subst hS
     have: ∃b cap cs',ι[o']? =some (some b)/\H[o']? =some (.cells cs')/\a.eval x=Value.slice (some ⟨b,0,none⟩) len cap:=by
      generalize a.eval x=vv at hx
      cases hx with
      | slNil=>omega
      | sl _ _ _ _ b S cap t xs c h1 h2=>grind
      | slD _ _ _ _ _ hd=>grind
      | slS _ _ _ _ _ S2 xs2 hd=>grind
      | slC _ _ b cap cs h1 h2=>grind
     obtain ⟨b,cap,cs',h1,h2,e1⟩:=this;refine ⟨_,?_,.ptr _ _ b cs' h1 h2⟩;simp [execOp,h,ei,e1,Instr.indexAt,asIntOf,run_underlying hu,hn,ZR ht,Addr.add_lit]
    ·cases hz
   ·cases hz
  ·cases hz
 ·rename_i k S kk n ht
  cases hi with | p _ _ hi =>
  have ei:=hi.int_inv;unfold XO at ht
  split at ht
  ·simp at ht
  ·rename_i k' e hu;simp at ht;obtain ⟨hs,rfl⟩:=ht
   split at hz
   ·rename_i hn
    split at hz
    ·rename_i ha;simp at hz;subst hz;obtain ⟨b,off,e,hm⟩:=Yi ha hx;refine ⟨_,?_,hm _⟩;simp [execOp,h,ei,e,Instr.indexAt,asIntOf,run_underlying hu,hn,ZR hs,Addr.add_lit,Instr.sureAddr]
    ·cases hz
   ·cases hz
  ·cases ht
 ·cases hz
end Go.AM
namespace Go.AM
open Go.RowKit
theorem RP.list_len {X w cl xs v} (h:RP X w (.list cl xs) v): ∃a cap,v= .slice a xs.length cap/\xs.length<=maxLen:=by
 cases h with
 | nils=>simp
 | emp _ a cap=>simp
 | list _ _ b off cap S u hX hb hc hm=>grind
def Hp (P:Program) (H:List Obj) (t:TypeId) (x:V):Option PV :=
 match P.underlying t,x with
 | some (.slice _),.p (.list _ xs)=>some (.int .i64 xs.length)
 | some (.slice _),.sl o _ len tot=>match oat H o with
  | .elems _ xs=>if xs.length=tot then some (.int .i64 len) else none
  | _=>none
 | some .string,.p (.str s)=>some (.int .i64 s.length)
 | some (.array n _),_=>some (.int .i64 n)
 | _,_=>none
theorem LO {P F H ι w t ty x v z} (h:Hp P H t x=some z) (hv:RV F H ι w x v): ∃u,(Builtin.len_ #[t] ty #[v]).run P w= .ok u w/\RP (Own F ι) w z u:=by
 unfold Hp at h
 split at h
 ·rename_i e cl xs hu;simp at h;subst h
  cases hv with | p _ _ hv =>
  obtain ⟨a,cap,rfl,_⟩:=hv.list_len;exact ⟨_,by simp [Builtin.len_,run_underlying hu,goInt],.int _ _⟩
 ·rename_i e o off len tot hu
  split at h
  ·rename_i S xs ho;have hH:=ZI ho Zb
   split at h
   ·rename_i ht;simp at h;subst h;refine ⟨_,?_,.int _ _⟩
    cases hv with
    | slNil=>simp [Builtin.len_,run_underlying hu,goInt]
    | sl=>simp [Builtin.len_,run_underlying hu,goInt]
    | slD _ _ _ _ _ hd=>grind
    | slS _ _ _ _ _ S2 xs2 hd hne=>grind
    | slC _ _ _ _ _ _ hd=>grind
   ·cases h
  ·cases h
 ·rename_i s hu;simp at h;subst h
  cases hv with | p _ _ hv =>
  rw [hv.str_inv];refine ⟨_,?_,.int _ _⟩;simp only [Builtin.len_,Sem.run_bind,List.getElem?_toArray,List.getElem?_cons_zero];simp [run_underlying hu,goInt]
  rfl
 ·rename_i n e hu;simp at h;subst h;exact ⟨_,by simp [Builtin.len_,run_underlying hu,goInt],.int _ _⟩
 ·cases h
def Dm (lo:Bool):List V->Option PV
 | [.p (.int k a),.p (.int _ b)]=>some (.int k (if lo then (if b<a then b else a) else (if a<b then b else a)))
 | _=>none
def Js (S:Nat):List PV->Bool
 | []=>true
 | x::_=>x.cells.length==S
def VO (P:Program) (t:TypeId) (cl:Bool) (xs:List PV) (lo hi:Int) (mx:Option Int):Option PV :=
 match XO P t with
 | some (none,S)=>if Js S xs=true/\0<=lo/\lo<=hi/\hi<=xs.length then
   match mx with
   | none=>some (.list (cl&&decide (hi=xs.length)) ((xs.take hi.toNat).drop lo.toNat))
   | some m=>if m=hi then some (.list true ((xs.take hi.toNat).drop lo.toNat)) else none
  else none
 | _=>none
def VK (d:Nat) (x:Option Value) (n:Nat):Prop:=(x=none/\n=d)\/ ∃k,x=some (.int k n)
theorem Eg {P:Program} {w} (k:IntKind) (n y:Nat) (code:BoundsCode) (h:n<=y):(Instr.sliceBound (.int k n) y code).run P w= .ok n w:=by
 grind [run_sliceBound]
theorem Kg {P:Program} {w} {lo hi:Option Value} {l h n m:Nat} (b:Bool) (hl:VK 0 lo l) (hh:VK n hi h) (h1:l<=h) (h2:h<=m) :
  (Instr.sliceBounds b n m lo hi none).run P w= .ok (l,h,m) w:=by
 rcases hl with ⟨e1,rfl⟩ | ⟨kl,e1⟩<;>rcases hh with ⟨e2,rfl⟩ | ⟨kh,e2⟩<;>subst e1<;>subst e2<;>simp [Instr.sliceBounds,Eg,h1,h2]
theorem CM {P:Program} {w} {lo:Option Value} {l h n m c:Nat} (b:Bool) (k k':IntKind) (hl:VK 0 lo l) (h1:l<=h) (h2:h<=m) (h3:m<=c) :
  (Instr.sliceBounds b n c lo (some (.int k h)) (some (.int k' m))).run P w= .ok (l,h,m) w:=by
 rcases hl with ⟨e1,e⟩ | ⟨kl,e1⟩
 ·simp_all [Instr.sliceBounds,Eg]
 simp_all [Instr.sliceBounds,Eg]
theorem UD {P:Program} {w t e S a len cap} {lo hi:Option Value} {l h:Nat} (mx:Option Value) {m:Nat} (hu:P.underlying t=some (.slice e)) (hs:XA P e=some S)
  (hl:VK 0 lo l) (hh:(mx=none/\VK len hi h/\m=cap)\/(∃k k',hi=some (.int k h)/\mx=some (.int k' m))) (h1:l<=h) (h2:h<=m) (h3:m<=cap) :
  (Instr.sliceAt t (.slice a len cap) lo hi mx).run P w= .ok (.slice (if m=l then a else a.map (·.add (l*S))) (h-l) (m-l)) w:=by
 have key:(Instr.sliceBounds true len cap lo hi mx).run P w= .ok (l,h,m) w:=by
  rcases hh with ⟨rfl,hh,rfl⟩ | ⟨k,k',rfl,rfl⟩
  ·grind [Kg]
  grind [CM]
 simp [Instr.sliceAt,run_underlying hu,Instr.slice,key,ZR hs]
theorem RP.list_cap {X w cl xs a n cap} (h:RP X w (.list cl xs) (.slice a n cap)):xs.length<=cap/\(cl=true->cap=xs.length):=by
 cases h with
 | nils=>simp
 | emp _ _ _ hc=>grind
 | list _ _ b off _ S u hX hb hc hm hcl=>grind
theorem RP.drop_take {X w cl cl' xs v a cap} (h:RP X w (.list cl xs) v) (hv:v= .slice a xs.length cap) (l h' m S:Nat) (hS:Js S xs=true) (h1:l<=h') (h2:h'<=xs.length) (h3:h'<=m) (h4:m<=cap) (hcl:cl'=true->m=h') :
  RP X w (.list cl' ((xs.take h').drop l)) (.slice (if m=l then a else a.map (·.add (l*S))) (h'-l) (m-l)):=by
 have hlen:((xs.take h').drop l).length=h'-l:=by simp;omega
 by_cases h0:h'=l
 ·subst h0;have e:(xs.take h').drop h'= []:=List.eq_nil_of_length_eq_zero Za;rw [e,Nat.sub_self]
  have hm':cap<=maxLen/\(0<cap-> ∀x,a=some x->x.spot=none):=by
   cases h with
   | nils=>grind
   | emp _ a' cap' hc hm ha=>grind
   | list _ _ b off cap' S' u hX hb hc hm=>grind
  refine .emp _ _ _ (fun h=>by grind) Za (fun h0 x hx=> ?_)
  split at hx
  ·omega
  ·simp at hx;obtain ⟨y,hy,rfl⟩:=hx
   grind [Addr.add]
 ·cases h with
  | nils=>grind
  | emp=>grind
  | list _ _ b off cap' S' u hX hb hc hm hc2 hS' hu hr =>
   simp at hv;obtain ⟨rfl,rfl⟩:=hv
   have hne:0<xs.length:=Za
   have:S'=S:=by
    cases xs with
    | nil=>simp at hne
    | cons x r =>
     have:=hS' 0 x Zb
     grind [Js]
   subst this;rw [if_neg Za]
   have:=RP.list (X:=X) (w:=w) cl' ((xs.take h').drop l) b (off+l*S') (m-l) S' (fun i j=>u (l+i) j) hX hb Za Za (fun h=>by grind)
    (fun i x hx=>by
     grind)
    (fun i x j c hx hj=>by
     grind)
    (fun i x j c hx hj=>by
     grind)
   grind [Addr.add_lit]
def Bz (d:Int) (fr:List V) (x:Option Operand):Option Int :=
 match x with
 | none=>some d
 | some x=>match ev fr x with | .p (.int _ n)=>some n | _=>none
theorem AC {F H ι w fr a d x n} (h:Bz d fr x=some n) (hf:Fr F H ι w fr a):(x=none/\n=d)\/ ∃k,x.map a.eval=some (.int k n):=by
 unfold Bz at h
 split at h
 ·grind
 ·rename_i x;have hx:=hf.ev x
  split at h
  ·rename_i k n' e;simp at h;subst h;rw [e] at hx
   cases hx with | p _ _ hx=>exact .inr ⟨k,by simp [hx.int_inv]⟩
  ·cases h
theorem Yh {F H ι w fr a x n} {d:Nat} (h:Bz d fr x=some n) (hn:0<=n) (hf:Fr F H ι w fr a):VK d (x.map a.eval) n.toNat:=by
 rcases AC h hf with ⟨rfl,rfl⟩ | ⟨k,e⟩
 ·exact .inl ⟨rfl,Zb⟩
 ·exact .inr ⟨k,by grind⟩
def XB (P:Program) (H:List Obj) (t:TypeId) (fr:List V) (x:V) (lo hi mx:Option Operand):Option V :=
 match x with
 | .p (.list cl xs)=>match Bz 0 fr lo,Bz xs.length fr hi with
  | some l,some h=>match mx with
   | none=>(VO P t cl xs l h none).map .p
   | some _=>match hi,Bz 0 fr mx with
    | some _,some m=>(VO P t cl xs l h (some m)).map .p
    | _,_=>none
  | _,_=>none
 | .sl o off len tot=>match mx,XO P t,oat H o,Bz 0 fr lo,Bz len fr hi with
  | none,some (none,S),.elems S' xs,some l,some h=>if S'=S/\xs.length=tot/\0<=l/\l<h/\h<=len then some (.sl o (off+l.toNat) (h.toNat-l.toNat) tot) else none
  | _,_,_,_,_=>none
 | .p (.str s)=>match mx,P.underlying t,Bz 0 fr lo,Bz s.length fr hi with
  | none,some .string,some l,some h=>if 0<=l/\l<=h/\h<=s.length then some (.p (.str ((s.take h.toNat).drop l.toNat))) else none
  | _,_,_,_=>none
 | _=>none
theorem W3 {P t S} (h:XO P t=some (none,S)): ∃e,P.underlying t=some (.slice e)/\XA P e=some S:=by
 unfold XO at h
 split at h
 ·simp_all
 ·simp at h
 ·cases h
theorem Ue (s:List UInt8) (l h:Nat) (h1:l<=h) (h2:h<=s.length):(⟨s.toArray⟩:ByteArray).extract l h=⟨((s.take h).drop l).toArray⟩:=by
 apply ByteArray.ext
 grind [ByteArray.data_extract,List.drop_take]
theorem D9 {P:Program} {o:Oper} {fr:List V} {H:List Obj} (t:TypeId) (x:Operand) (lo hi mx:Option Operand) (y:V) (h:o.op= .slice t x lo hi mx) (hz:XB P H t fr (ev fr x) lo hi mx=some y):PureOp P o fr H y:=fun F ι a w hr hf=>by
 have hx:=hf.ev x
 suffices hh: ∃v,(Instr.sliceAt t (a.eval x) (lo.map a.eval) (hi.map a.eval) (mx.map a.eval)).run P w= .ok v w/\RV F H ι w y v by
  obtain ⟨v,e,r⟩:=hh
  simp_all [execOp]
 generalize ev fr x=X at hx hz;unfold XB at hz
 split at hz
 ·rename_i cl xs
  cases hx with | p _ _ hx =>
  obtain ⟨ad,cap,ev',hm⟩:=hx.list_len
  split at hz
  rotate_left
  ·cases hz
  rename_i l hh hl hhi
  split at hz
  ·simp only [Option.map_eq_some_iff] at hz;obtain ⟨z,hz,rfl⟩:=hz;unfold VO at hz
   split at hz
   rotate_left
   ·cases hz
   rename_i S ht;obtain ⟨e,hu,hs⟩:=W3 ht
   split at hz
   rotate_left
   ·cases hz
   rename_i hc;obtain ⟨hS,h1,h2,h3⟩:=hc;simp at hz;subst hz;rw [ev'] at hx;have hcap:=hx.list_cap;have hb1:=Yh (d:=0) (by simpa using hl) h1 hf;have hb2:=Yh hhi Za hf;refine ⟨_,?_,.p _ _ (hx.drop_take rfl l.toNat hh.toNat cap S hS Za Za Za (Nat.le_refl _) (fun hcl=> ?_))⟩
   ·rw [ev'];exact UD _ hu hs hb1 (.inl ⟨rfl,hb2,rfl⟩) Za Za (Nat.le_refl _)
   grind
  ·split at hz
   rotate_left
   ·cases hz
   rename_i hio m hmx;simp only [Option.map_eq_some_iff] at hz;obtain ⟨z,hz,rfl⟩:=hz;unfold VO at hz
   split at hz
   rotate_left
   ·cases hz
   rename_i S ht;obtain ⟨e,hu,hs⟩:=W3 ht
   split at hz
   rotate_left
   ·cases hz
   rename_i hc;obtain ⟨hS,h1,h2,h3⟩:=hc;simp only at hz
   split at hz
   rotate_left
   ·cases hz
   rename_i hmh;subst hmh;simp at hz;subst hz;rw [ev'] at hx;have hcap:=hx.list_cap.1;have hb1:=Yh (d:=0) (by simpa using hl) h1 hf;rcases AC hhi hf with ⟨e1,_⟩ | ⟨k,e1⟩
   ·cases e1
   rcases AC hmx hf with ⟨e2,_⟩ | ⟨k',e2⟩
   ·cases e2
   refine ⟨_,?_,.p _ _ (hx.drop_take (cl':=true) rfl l.toNat m.toNat m.toNat S hS Za Za (Nat.le_refl _) Za (fun _=>rfl))⟩;rw [ev'];refine UD _ hu hs hb1 (.inr ⟨k,k',?_,?_⟩) Za (Nat.le_refl _) Za
   ·grind
   grind
 ·rename_i o' off len tot
  split at hz
  rotate_left
  ·cases hz
  rename_i S S' xs l hh ht ho hl hhi;have hH:=ZI ho Zb;obtain ⟨e,hu,hs⟩:=W3 ht
  split at hz
  rotate_left
  ·cases hz
  rename_i hc;obtain ⟨rfl,h1,h2,h3,h4⟩:=hc;simp at hz;subst hz;obtain ⟨b,cap,c,t2,e1,e2,e3,e4,e5,e6,e7⟩:=hx.sl_inv hH h1 Za;have hb1:=Yh (d:=0) (by simpa using hl) h2 hf;have hb2:=Yh hhi Za hf;refine ⟨_,by rw [e2];exact UD _ hu hs hb1 (.inl ⟨rfl,hb2,rfl⟩) Za Za (Nat.le_refl _),?_⟩;rw [if_neg Za];have:=RV.sl (F:=F) (H:=H) (ι:=ι) (w:=w) o' (off+l.toNat) (hh.toNat-l.toNat) tot b S' (cap-l.toNat) t2 xs c e1 hH h1 e3 (by grind) Za Za Za
  grind [Addr.add_lit]
 ·rename_i s
  cases hx with | p _ _ hx =>
  split at hz
  rotate_left
  ·cases hz
  rename_i l hh hu hl hhi
  split at hz
  rotate_left
  ·cases hz
  rename_i hc;obtain ⟨h1,h2,h3⟩:=hc;simp at hz;subst hz;have hb1:=Yh (d:=0) (by simpa using hl) h1 hf;have hb2:=Yh hhi Za hf;rw [hx.str_inv]
  have hsz:(⟨s.toArray⟩:ByteArray).size=s.length:=by rfl
  have key:(Instr.sliceBounds false s.length s.length (lo.map a.eval) (hi.map a.eval) none).run P w= .ok (l.toNat,hh.toNat,s.length) w:=by
   grind [Kg]
  refine ⟨.string ((⟨s.toArray⟩:ByteArray).extract l.toNat hh.toNat),?_,.p _ _ ?_⟩
  ·simp_all [Instr.sliceAt,run_underlying,Instr.slice]
  ·rw [Ue _ _ _ Za Za];exact .str _
 ·cases hz
end Go.AM
namespace Go.AM
open Go.RowKit
def BH (P:Program) (t:TypeId) (x i:V):Option V :=
 match P.underlying t,x,i with
 | some .string,.p (.str s),.p (.int _ n)=>if 0<=n then (s[n.toNat]?).map fun b=> .p (.int .u8 b.toNat) else none
 | some (.array k e),.p (.agg cs),.p (.int _ n)=>if 0<=n/\n<k then (match XA P e with | some m=>(apart P e cs (n.toNat*m)).map .p | none=>none) else none
 | _,_,_=>none
theorem GQ {P:Program} {o:Oper} {fr:List V} {H:List Obj} (t:TypeId) (x i:Operand) (y:V) (h:o.op= .index t x i) (hz:BH P t (ev fr x) (ev fr i)=some y):PureOp P o fr H y:=fun F ι a w _ hf=>by
 have hx:=hf.ev x;have hi:=hf.ev i;generalize ev fr x=X at hx hz;generalize ev fr i=I at hi hz;unfold BH at hz
 split at hz
 ·rename_i s k n hu
  cases hx with | p _ _ hx=>cases hi with | p _ _ hi =>
  split at hz
  ·rename_i hn;simp only [Option.map_eq_some_iff] at hz;obtain ⟨b,hb,rfl⟩:=hz
   have hb':(⟨s.toArray⟩:ByteArray)[n.toNat]? =some b:=by
    have hlt:=(List.getElem?_eq_some_iff.1 hb).1
    have:n.toNat<(⟨s.toArray⟩:ByteArray).size:=by show _<s.toArray.size;omega
    have e:=(List.getElem?_eq_some_iff.1 hb).2;rw [getElem?_pos (⟨s.toArray⟩:ByteArray) n.toNat this]
    show some ((s.toArray)[n.toNat])=some b
    simp [e]
   refine ⟨.int .u8 b.toNat,?_,.p _ _ (.int _ _)⟩;simp [execOp,h,hx.str_inv,hi.int_inv,Instr.index,asIntOf,run_underlying hu,hn,hb']
  ·cases hz
 ·rename_i k e cs kk n hu
  cases hx with | p _ _ hx=>cases hi with | p _ _ hi =>
  split at hz
  ·rename_i hn
   split at hz
   ·rename_i m hm;simp only [Option.map_eq_some_iff] at hz;obtain ⟨z,hz,rfl⟩:=hz;obtain ⟨u,eu,hs1,hr1⟩:=hx.agg_inv;obtain ⟨v,e1,e2⟩:=X1 (P:=P) hz hs1 hr1;refine ⟨v,?_,.p _ _ e2⟩;simp [execOp,h,eu,hi.int_inv,Instr.index,asIntOf,run_underlying hu,hn,ZR hm,e1]
   ·cases hz
  ·cases hz
 ·cases hz
theorem Bi {P:Program} {o:Oper} {fr:List V} {H:List Obj} (x:Operand) (i:Nat) (vs:List V) (y:V) (h:o.op= .extract x i) (hx0:ev fr x= .tup vs) (hz:vs[i]? =some y):PureOp P o fr H y:=fun F ι a w _ hf=>by
 have hx:=hf.ev x;rw [hx0] at hx;generalize ha:a.eval x=v at hx
 cases hx with
 | tup _ ar hs hr =>
  have:=hr i y hz
  have hlt:i<ar.size:=by grind
  refine ⟨ar.getD i undef,?_,this⟩
  simp_all [execOp,Instr.extract]
def BC (P:Program) (s t:TypeId) (x:V):Option PV :=
 match P.underlying s,P.underlying t,x with
 | some _,some (.int k),.p (.int _ n)=>some (.int k (k.wrap n))
 | some (.int _),some .string,.p (.int _ n)=>if 0<=n/\n<128 then some (.str [UInt8.ofNat n.toNat]) else none
 | some .string,some .string,.p (.str b)=>some (.str b)
 | _,_,_=>none
theorem GN {P:Program} {o:Oper} {fr:List V} {H:List Obj} (s t:TypeId) (x:Operand) (y:PV) (h:o.op= .convert s t x) (hz:BC P s t (ev fr x)=some y):PureOp P o fr H (.p y):=fun F ι a w _ hf=>by
 have hx:=hf.ev x;generalize ev fr x=X at hx hz;unfold BC at hz
 split at hz
 ·rename_i d k k' n h1 h2
  cases hx with | p _ _ hx =>
  simp at hz;subst hz;refine ⟨_,?_,.p _ _ (.int _ _)⟩;simp [execOp,h,hx.int_inv,convert,run_underlying h1,run_underlying h2,Conv.intToInt]
 ·rename_i d k n h1 h2
  cases hx with | p _ _ hx =>
  split at hz
  ·rename_i hn;simp at hz;subst hz;refine ⟨.string ⟨[UInt8.ofNat n.toNat].toArray⟩,?_,.p _ _ (.str _)⟩
   have e:Utf8.encode n=⟨[UInt8.ofNat n.toNat].toArray⟩:=by
    have hv:Utf8.valid n=true:=by simp [Utf8.valid];omega
    simp_all [Utf8.encode]
   simp [execOp,h,hx.int_inv,convert,run_underlying h1,run_underlying h2,Conv.intToString,e]
  ·cases hz
 ·rename_i b h1 h2
  cases hx with | p _ _ hx =>
  simp at hz;subst hz;refine ⟨_,?_,.p _ _ (.str _)⟩;simp [execOp,h,hx.str_inv,convert,run_underlying h1,run_underlying h2]
 ·cases hz
theorem GP {P:Program} {o:Oper} {fr:List V} {H:List Obj} (f:Fn) (cs ds:Array Operand) (h:o.op= .makeFunc f cs ds):PureOp P o fr H (.fn f (cs.toList.map (ev fr)) (ds.toList.map (ev fr))):=fun F ι a w _ hf=>by
 refine ⟨.func f (cs.map a.eval) (ds.map a.eval),by simp [execOp,h,Instr.makeFunc],.fn _ _ _ _ _ Zb Zb (fun j c hj=> ?_) (fun j c hj=> ?_)⟩
 ·simp only [List.getElem?_map,Option.map_eq_some_iff] at hj;obtain ⟨x,hx,rfl⟩:=hj;have hlt:=(List.getElem?_eq_some_iff.1 hx).1
  have e:(cs.map a.eval).getD j undef=a.eval x:=by
   simp_all
  rw [e];exact hf.ev x
 ·simp only [List.getElem?_map,Option.map_eq_some_iff] at hj;obtain ⟨x,hx,rfl⟩:=hj;have hlt:=(List.getElem?_eq_some_iff.1 hx).1
  have e:(ds.map a.eval).getD j undef=a.eval x:=by
   simp_all
  rw [e];exact hf.ev x
def Tt : V->Bool
 | .fn (.func _) _ _=>true
 | _=>false
theorem KK {P:Program} {o:Oper} {fr:List V} {H:List Obj} (x:Operand) (h:o.op= .nilCheck x) (hz:YC H (ev fr x)=true\/Tt (ev fr x)=true):PureOp P o fr H (ev fr x):=fun F ι a w _ hf=>by
 have hx:=hf.ev x;generalize ev fr x=X at hx hz;rcases hz with hz | hz
 ·obtain ⟨b,off,e,_⟩:=Yi hz hx
  simp_all [execOp]
 ·unfold Tt at hz
  split at hz
  ·generalize ha:a.eval x=v at hx
   cases hx with
   | fn _ _ _ a1 a2=>exact ⟨_,by simp [execOp,h,ha],.fn _ _ _ a1 a2 ‹_› ‹_› ‹_› ‹_›⟩
  ·cases hz
def Hm (P:Program) (t:TypeId) (f:Nat) (x:V):Option PV :=
 match P.underlying t,x with
 | some (.struct fs),.p (.agg cs)=>match fs[f]? with
  | some g=>apart P g.type cs g.offset
  | none=>none
 | _,_=>none
theorem GO {P:Program} {o:Oper} {fr:List V} {H:List Obj} (t:TypeId) (x:Operand) (f:Nat) (y:PV) (h:o.op= .field t x f) (hz:Hm P t f (ev fr x)=some y):PureOp P o fr H (.p y):=fun F ι a w _ hf=>by
 have hx:=hf.ev x;generalize ev fr x=X at hx hz;unfold Hm at hz
 split at hz
 ·rename_i fs cs hu
  cases hx with | p _ _ hx =>
  split at hz
  ·rename_i g hg;obtain ⟨u,eu,hs1,hr1⟩:=hx.agg_inv;obtain ⟨v,e1,e2⟩:=X1 (P:=P) hz hs1 hr1;refine ⟨v,?_,.p _ _ e2⟩
   simp_all [execOp,Instr.field,run_underlying,asAgg]
  ·cases hz
 ·cases hz
def Dh (P:Program) (H:List Obj) (b:Builtin) (ts:Array TypeId) (vs:List V):Option PV :=
 match b,ts.toList,vs with
 | .len,[t],[x]=>Hp P H t x
 | .max,_,vs=>Dm false vs
 | .min,_,vs=>Dm true vs
 | _,_,_=>none
theorem D5 {P:Program} {o:Oper} {fr:List V} {H:List Obj} (b:Builtin) (azs:Array Operand) (ts:Array TypeId) (y:PV) (h:o.op= .call { callee:= .builtin b,args:=azs,argTypes:=ts })
  (hz:Dh P H b ts (azs.toList.map (ev fr))=some y):PureOp P o fr H (.p y):=fun F ι a w _ hf=>by
 obtain ⟨azs⟩:=azs;obtain ⟨ts⟩:=ts;unfold Dh at hz;simp only at hz
 split at hz
 ·rename_i t x e2
  match azs,e2 with
  | [x0],e2 =>
   simp at e2;subst e2;obtain ⟨u,e3,e4⟩:=LO (ty:=o.type) hz (hf.ev x0);exact ⟨u,by simp [execOp,h,resolve,invoke,builtin,e3],.p _ _ e4⟩
 ·unfold Dm at hz
  split at hz
  ·rename_i k x k' y' e2
   obtain ⟨x0,y0,rfl⟩: ∃x0 y0,azs= [x0,y0]:=by
    cases azs with
    | nil=>simp at e2
    | cons x0 r=>cases r with
     | nil=>simp at e2
     | cons y0 r=>simp_all
   ·simp at e2;have hx:=hf.ev x0;have hy:=hf.ev y0;rw [e2.1] at hx;rw [e2.2] at hy
    cases hx with | p _ _ hx=>cases hy with | p _ _ hy =>
    simp at hz;subst hz;exact ⟨_,by simp [execOp,h,resolve,invoke,builtin,Builtin.max_,hx.int_inv,hy.int_inv,Builtin.max2],.p _ _ (.int _ _)⟩
  ·cases hz
 ·unfold Dm at hz
  split at hz
  ·rename_i k x k' y' e2
   obtain ⟨x0,y0,rfl⟩: ∃x0 y0,azs= [x0,y0]:=by
    cases azs with
    | nil=>simp at e2
    | cons x0 r=>cases r with
     | nil=>simp at e2
     | cons y0 r=>simp_all
   ·simp at e2;have hx:=hf.ev x0;have hy:=hf.ev y0;rw [e2.1] at hx;rw [e2.2] at hy
    cases hx with | p _ _ hx=>cases hy with | p _ _ hy =>
    simp at hz;subst hz;exact ⟨_,by simp [execOp,h,resolve,invoke,builtin,Builtin.min_,hx.int_inv,hy.int_inv,Builtin.min2],.p _ _ (.int _ _)⟩
  ·cases hz
 ·cases hz
def Xc (P:Program) (op:Op) (fr:List V) (H:List Obj):Option V :=
 match op with
 | .move x=>some (ev fr x)
 | .assign x=>some (ev fr x)
 | .pick c x y=>match PF (ev fr c) with
  | some b=>some (if b then ev fr x else ev fr y)
  | none=>none
 | .load t x=>UL P H t (ev fr x)
 | .nilCheck x=>if YC H (ev fr x)||Tt (ev fr x) then some (ev fr x) else none
 | .binOp op t x y _=>(Xf P op t (ev fr x) (ev fr y)).map .p
 | .unOp op _ x=>(bZ op (ev fr x)).map .p
 | .convert s t x=>(BC P s t (ev fr x)).map .p
 | .makeFunc f cs ds=>some (.fn f (cs.toList.map (ev fr)) (ds.toList.map (ev fr)))
 | .slice t x lo hi mx=>XB P H t fr (ev fr x) lo hi mx
 | .fieldAddr s x f=>Jp P H s f (ev fr x)
 | .field t x f=>(Hm P t f (ev fr x)).map .p
 | .indexAddr t x i=>Jr P H t (evx fr x) (ev fr i)
 | .index t x i=>BH P t (ev fr x) (ev fr i)
 | .extract x i=>match ev fr x with
  | .tup vs=>vs[i]?
  | _=>none
 | .call { callee:= .builtin b,args:=azs,argTypes:=ts } =>(Dh P H b ts (azs.toList.map (ev fr))).map .p
 | _=>none
theorem BL {P:Program} {o:Oper} {fr:List V} {H:List Obj} {y:V} (hz:Xc P o.op fr H=some y):PureOp P o fr H y:=by
 unfold Xc at hz
 split at hz
 ·grind [Ap]
 ·grind [Ap]
 ·grind [GS]
 ·grind [GR]
 ·grind [KK]
 ·rename_i op t x y' u h;simp only [Option.map_eq_some_iff] at hz;obtain ⟨z,hz,rfl⟩:=hz
  grind [LC]
 ·rename_i op t x h;simp only [Option.map_eq_some_iff] at hz;obtain ⟨z,hz,rfl⟩:=hz
  grind [N3]
 ·rename_i s t x h;simp only [Option.map_eq_some_iff] at hz;obtain ⟨z,hz,rfl⟩:=hz
  grind [GN]
 ·grind [GP]
 ·grind [D9]
 ·grind [D7]
 ·rename_i t x f h;simp only [Option.map_eq_some_iff] at hz;obtain ⟨z,hz,rfl⟩:=hz
  grind [GO]
 ·grind [D8]
 ·grind [GQ]
 ·grind [Bi]
 ·rename_i b azs ts h;simp only [Option.map_eq_some_iff] at hz;obtain ⟨z,hz,rfl⟩:=hz
  grind [D5]
 ·cases hz
end Go.AM
namespace Go.AM
open Go.RowKit
structure Pushed (w w':World) (c:Array Value) (t:TypeId):Prop where
 os:w'.os=w.os
 tape:Tp w w'
 output:w'.output=w.output
 drawn:w.drawn<=w'.drawn
 heap:w'.heap=w.heap.push (.cells c t (0,0))
theorem Pushed.alloc (w:World) (c:Array Value) (t:TypeId):Pushed w (w.alloc (.cells c t)) c t:=⟨rfl,Tp.rfl,rfl,Nat.le_refl _,rfl⟩
theorem Pushed.drewAlloc (w:World) (c:Array Value) (t:TypeId):Pushed w (w.drew.alloc (.cells c t)) c t:=⟨rfl,Tp.of rfl (Nat.le_succ _),rfl,Nat.le_succ _,rfl⟩
theorem Pushed.old {w w' c t} (h:Pushed w w' c t) {b:Nat} (hb:b<w.heap.size):w'.heap[b]? =w.heap[b]? :=by
 rw [h.heap,Array.getElem?_push,if_neg Za]
theorem Pushed.new {w w' c t} (h:Pushed w w' c t):w'.heap[w.heap.size]? =some (.cells c t (0,0)):=by
 rw [h.heap];simp
theorem Pushed.size {w w' c t} (h:Pushed w w' c t):w'.heap.size=w.heap.size+1:=by rw [h.heap];simp
theorem Y0 {α:Type} {l:List α} {x:α} {i:Nat} (h:i<l.length):(l++ [x])[i]? =l[i]? :=by
 grind
theorem Hv {α:Type} (l:List α) (x:α):(l++ [x])[l.length]? =some x:=Zb
theorem Zm {α:Type} {l:List α} {x y:α} {i:Nat} (h:(l++ [x])[i]? =some y):(i<l.length/\l[i]? =some y)\/(i=l.length/\x=y):=by
 grind
section
variable {F : Nat -> Prop} {H : List Obj} {ι : List (Option Nat)} {w w' : World} {c : Array Value} {t : TypeId}
theorem YU (hr:Rel F H ι w) (hp:Pushed w w' c t) (ob:Obj)
  (hob:match ob with
   | .cells cs=>c.size=cs.length/\ ∀(j:Nat) (x:V),cs[j]? =some x->RV F H ι w x (c.getD j undef)
   | .elems S xs=> ∃cap,c.size=cap*S/\xs.length<=cap/\cap<=maxLen/\(∀(i:Nat) (x:PV),xs[i]? =some x->x.cells.length=S) /\
     ∀(i:Nat) (x:PV) (j:Nat) (y:PV),xs[i]? =some x->x.cells[j]? =some y->RP (Own F ι) w y (c.getD (i*S+j) undef)
   | .map _=>False
   | .bld _ _ _ _=>False
   | .dead=>True) :
  Good F H ι w (H++ [ob]) (ι++ [some w.heap.size]) w':=by
 have hlen:=hr.len;have hold: ∀i b,ι[i]? =some (some b)->b<w.heap.size:=fun i b h=>(hr.avo i b h).2
 have hmem: ∀b,some b∈ι->b<w.heap.size:=fun b h=>by grind [List.mem_iff_getElem?]
 have hkeep:Keeps (Own F ι) w (Own F (ι++ [some w.heap.size])) w':=fun b hb hs=>by
  refine ⟨?_,by rw [hp.size];omega,hp.old hs⟩;rintro (h | h)
  ·exact hb (.inl h)
  ·simp at h;rcases h with h | h
   ·exact hb (.inr h)
   ·omega
 have hx:HX H ι w (H++ [ob]) (ι++ [some w.heap.size]) w':=fun o x ho=>by
  have hlt:o<H.length:=(List.getElem?_eq_some_iff.1 ho).1
  have e1:(H++ [ob])[o]? =some x:=by grind
  have e2:(ι++ [some w.heap.size])[o]? =ι[o]? :=Y0 Za
  cases x with
  | dead=>exact .inl e1
  | cells cs=>grind
  | map es=>grind
  | bld T E r bs=>grind
  | elems S xs=>exact .inr ⟨_,e1,.inr ⟨rfl,e2,fun b c t hb hc=>⟨c,by rw [hp.old (hold _ _ hb)];exact hc,rfl⟩⟩⟩
 have hrv: ∀ {x v},RV F H ι w x v->RV F (H++ [ob]) (ι++ [some w.heap.size]) w' x v:=fun h=>h.ext hkeep hx;refine Good.up hr.env ⟨⟨by simp [hlen],fun b hb=>by rw [hp.size];have:=hr.fin b hb;omega,?_,?_,?_,?_,?_,?_⟩,hp.os,hp.tape,hp.output,fun b c0 t0 h0=> .inr ⟨c0,by rw [hp.old (Array.getElem?_eq_some_iff.1 h0).1];exact h0,rfl⟩,by rw [hp.size];omega,fun b hb _=>hp.old hb,?_,hx⟩
 ·intro i j b hi hj;rcases Zm hi with ⟨_,hi⟩ | ⟨hi,e⟩<;>rcases Zm hj with ⟨_,hj⟩ | ⟨hj,e'⟩
  ·exact hr.inj i j b hi hj
  ·grind
  ·grind
  ·omega
 ·intro i b hi;rcases Zm hi with ⟨_,hi⟩ | ⟨hi,e⟩
  ·have:=hr.avo i b hi;exact ⟨this.1,by rw [hp.size];omega⟩
  ·simp at e;subst e;exact ⟨fun h=>by have:=hr.fin _ h;omega,by rw [hp.size];omega⟩
 ·intro o cs ho;rcases Zm ho with ⟨hlt,ho⟩ | ⟨hlt,e⟩
  ·obtain ⟨b,c',t',h1,h2,h3,h4⟩:=hr.cel o cs ho;exact ⟨b,c',t',by grind,by rw [hp.old (hold _ _ h1)];exact h2,h3,fun j x hj=>hrv (h4 j x hj)⟩
  ·subst e;subst hlt;exact ⟨w.heap.size,c,t,by grind,hp.new,hob.1,fun j x hj=>hrv (hob.2 j x hj)⟩
 ·intro o S xs ho;rcases Zm ho with ⟨hlt,ho⟩ | ⟨hlt,e⟩
  ·rcases hr.elm o S xs ho with ⟨h1,h2⟩ | ⟨b,c',t',cap,h1,h2,h3,h4,h5,h6,h7⟩
   ·grind
   ·exact .inr ⟨b,c',t',cap,by grind,by rw [hp.old (hold _ _ h1)];exact h2,h3,h4,h5,h6,fun i x j y hi hj=>(h7 i x j y hi hj).ext hkeep⟩
  ·subst e;subst hlt;obtain ⟨cap,h3,h4,h5,h6,h7⟩:=hob;exact .inr ⟨w.heap.size,c,t,cap,by grind,hp.new,h3,h4,h5,h6,fun i x j y hi hj=>(h7 i x j y hi hj).ext hkeep⟩
 ·intro o es ho;rcases Zm ho with ⟨hlt,ho⟩ | ⟨hlt,e⟩
  ·obtain ⟨b,a',k,h1,h2,h3⟩:=hr.mpr o es ho;exact ⟨b,a',k,by grind,by rw [hp.old (hold _ _ h1)];exact h2,h3.ext hkeep⟩
  grind
 ·exact Yn hr (fun o T E r bs ho=>by
   grind) (fun i ob hi _=>by
   have hlt:=(List.getElem?_eq_some_iff.1 hi).1
   exact ⟨Y0 hlt,Y0 Za,fun b hb=>hp.old (hold _ _ hb)⟩)
 grind
theorem WX (hr:Rel F H ι w) (S:Nat):Good F H ι w (H++ [.elems S []]) (ι++ [none]) w:=by
 have hlen:=hr.len
 have hkeep:Keeps (Own F ι) w (Own F (ι++ [none])) w:=fun b hb hs=>by
  refine ⟨?_,hs,rfl⟩;rintro (h | h)
  ·exact hb (.inl h)
  ·simp at h;exact hb (.inr h)
 have hx:HX H ι w (H++ [.elems S []]) (ι++ [none]) w:=fun o x ho=>by
  grind
 have hrv: ∀ {x v},RV F H ι w x v->RV F (H++ [.elems S []]) (ι++ [none]) w x v:=fun h=>h.ext hkeep hx;refine Good.up hr.env ⟨⟨by simp [hlen],hr.fin,?_,?_,?_,?_,?_,?_⟩,rfl,Tp.rfl,rfl,fun _ c _ h=> .inr ⟨c,h,rfl⟩,Nat.le_refl _,fun b hb _=>rfl,?_,hx⟩
 ·intro i j b hi hj;rcases Zm hi with ⟨_,hi⟩ | ⟨hi,e⟩<;>rcases Zm hj with ⟨_,hj⟩ | ⟨hj,e'⟩
  ·exact hr.inj i j b hi hj
  ·cases e'
  ·cases e
  ·omega
 ·intro i b hi;rcases Zm hi with ⟨_,hi⟩ | ⟨hi,e⟩
  ·exact hr.avo i b hi
  ·cases e
 ·intro o cs ho;rcases Zm ho with ⟨hlt,ho⟩ | ⟨hlt,e⟩
  ·obtain ⟨b,c',t',h1,h2,h3,h4⟩:=hr.cel o cs ho
   grind
  ·cases e
 ·intro o S' xs ho;rcases Zm ho with ⟨hlt,ho⟩ | ⟨hlt,e⟩
  ·rcases hr.elm o S' xs ho with ⟨h1,h2⟩ | ⟨b,c',t',cap,h1,h2,h3,h4,h5,h6,h7⟩
   ·grind
   ·exact .inr ⟨b,c',t',cap,by grind,h2,h3,h4,h5,h6,fun i x j y hi hj=>(h7 i x j y hi hj).ext hkeep⟩
  grind
 ·intro o es ho;rcases Zm ho with ⟨hlt,ho⟩ | ⟨hlt,e⟩
  ·obtain ⟨b,a',k,h1,h2,h3⟩:=hr.mpr o es ho;exact ⟨b,a',k,by grind,h2,h3.ext hkeep⟩
  ·cases e
 ·exact Yn hr (fun o T E r bs ho=>by
   grind) (fun i ob hi _=>by
   grind)
 simp
structure Turned (w w':World) (b:Nat) (c:Array Value) (t:TypeId):Prop where
 os:w'.os=w.os
 tape:Tp w w'
 output:w'.output=w.output
 drawn:w.drawn<=w'.drawn
 size:w'.heap.size=w.heap.size
 at':w'.heap[b]? =some (.cells c t (0,0))
 other: ∀k,k≠b->w'.heap[k]? =w.heap[k]?
theorem Turned.setRow {w:World} {b:Nat} {c0 c:Array Value} {t:TypeId} (h:w.heap[b]? =some (.cells c0 t (0,0))):Turned w (w.setRow b c) b c t :=
 ⟨rfl,Tp.rfl,rfl,Nat.le_refl _,Zb,setRow_heap w b c0 c t (0,0) h,fun k hk=>setRow_other w b k c hk⟩
theorem KJ (hr:Rel F H ι w) {o b:Nat} {cs cs':List V} {c0:Array Value} (hH:H[o]? =some (.cells cs)) (hb:ι[o]? =some (some b)) (h0:w.heap[b]? =some (.cells c0 t (0,0)))
  (ht:Turned w w' b c t) (hs:c.size=cs'.length) (hs0:c.size=c0.size) (hc: ∀(j:Nat) (x:V),cs'[j]? =some x->RV F H ι w x (c.getD j undef)):Good F H ι w (H.set o (.cells cs')) ι w':=by
 have holt:o<H.length:=(List.getElem?_eq_some_iff.1 hH).1;have hown: ∀k,some k ∉ ι->w'.heap[k]? =w.heap[k]? :=fun k hk=>ht.other k (fun e=>hk (by grind));have hkeep:Keeps (Own F ι) w (Own F ι) w':=fun k hk hs=>⟨hk,by rw [ht.size];exact hs,hown k (fun h=>hk (.inr h))⟩
 have hx:HX H ι w (H.set o (.cells cs')) ι w':=fun i x hi=>by
  by_cases hio:o=i
  ·grind
  ·have e1:(H.set o (.cells cs'))[i]? =some x:=by grind
   cases x with
   | dead=>exact .inl e1
   | cells cs=>grind
   | map es=>grind
   | bld T E r bs=>grind
   | elems S xs =>
    refine .inr ⟨_,e1,.inr ⟨rfl,rfl,fun b' c' t' hb' hc'=>⟨c',?_,rfl⟩⟩⟩;rw [ht.other b' (fun e=>hio (by subst e;exact hr.inj o i _ hb hb'))];exact hc'
 have hrv: ∀ {x v},RV F H ι w x v->RV F (H.set o (.cells cs')) ι w' x v:=fun h=>h.ext hkeep hx
 refine Good.up hr.env ⟨⟨by simp [hr.len],fun b hb=>by rw [ht.size];exact hr.fin b hb,hr.inj,fun i b hi=>by rw [ht.size];exact hr.avo i b hi,?_,?_,?_,?_⟩,ht.os,ht.tape,ht.output,fun q c1 t1 h1=> .inr (by
   by_cases e:q=b
   ·subst e;rw [h0] at h1;simp at h1;obtain ⟨rfl,rfl⟩:=h1;exact ⟨c,ht.at',hs0⟩
   ·exact ⟨c1,by rw [ht.other q e];exact h1,rfl⟩),by rw [ht.size];omega,fun k hk ho=>hown k ho,fun b _ h=>h,hx⟩
 ·intro i cs2 hi
  by_cases hio:o=i
  ·subst hio;simp [holt] at hi;subst hi;exact ⟨b,c,t,hb,ht.at',hs,fun j x hj=>hrv (hc j x hj)⟩
  ·rw [List.getElem?_set_ne hio] at hi;obtain ⟨b',c',t',h1,h2,h3,h4⟩:=hr.cel i cs2 hi;exact ⟨b',c',t',h1,by rw [ht.other b' (fun e=>hio (by subst e;exact hr.inj o i _ hb h1))];exact h2,h3,fun j x hj=>hrv (h4 j x hj)⟩
 ·intro i S xs hi
  by_cases hio:o=i
  ·grind
  ·rw [List.getElem?_set_ne hio] at hi;rcases hr.elm i S xs hi with ⟨h1,h2⟩ | ⟨b',c',t',cap,h1,h2,h3,h4,h5,h6,h7⟩
   ·grind
   ·exact .inr ⟨b',c',t',cap,h1,by rw [ht.other b' (fun e=>hio (by subst e;exact hr.inj o i _ hb h1))];exact h2,h3,h4,h5,h6,fun i x j y hi hj=>(h7 i x j y hi hj).ext hkeep⟩
 ·intro i es hi
  by_cases hio:o=i
  ·grind
  ·rw [List.getElem?_set_ne hio] at hi;obtain ⟨b',a',k,h1,h2,h3⟩:=hr.mpr i es hi;exact ⟨b',a',k,h1,by rw [ht.other b' (fun e=>hio (by grind))];exact h2,h3.ext hkeep⟩
 ·refine Yn hr (fun i T E r bs hi=> ?_) (fun i ob hi hs=> ?_)
  ·grind
  ·have hio:o≠i:=fun e=>by subst e;rw [hH] at hi;simp at hi;subst hi;cases hs
   exact ⟨List.getElem?_set_ne hio,rfl,fun q hq=>ht.other q (fun e=>hio (by subst e;exact hr.inj o i _ hb hq))⟩
theorem Xg (hr:Rel F H ι w) {o S:Nat} {xs xs':List PV} (hH:H[o]? =some (.elems S xs)) {b' cap:Nat}
  (hos:w'.os=w.os) (htape:Tp w w') (hout:w'.output=w.output) (hsh: ∀c0 t0,w.heap[b']? =some (.cells c0 t0 (0,0))->t0=t/\c.size=c0.size) (hsz:w.heap.size<=w'.heap.size)
  (hat:w'.heap[b']? =some (.cells c t (0,0))) (hother: ∀k,k<w.heap.size->k≠b'->w'.heap[k]? =w.heap[k]?)
  (hb':(ι[o]? =some (some b')/\((xs'.length=xs.length/\ ∀c0 t0,w.heap[b']? =some (.cells c0 t0 (0,0))->t0=t/\c.size=c0.size)\/xs.length<xs'.length))\/(b'=w.heap.size/\w'.heap.size=w.heap.size+1/\xs.length<xs'.length))
  (h3:c.size=cap*S) (h4:xs'.length<=cap) (h5:cap<=maxLen) (h6: ∀(i:Nat) (x:PV),xs'[i]? =some x->x.cells.length=S)
  (h7: ∀(i:Nat) (x:PV) (j:Nat) (y:PV),xs'[i]? =some x->x.cells[j]? =some y->RP (Own F ι) w y (c.getD (i*S+j) undef)) :
  Good F H ι w (H.set o (.elems S xs')) (ι.set o (some b')) w':=by
 have holt:o<H.length:=(List.getElem?_eq_some_iff.1 hH).1
 have holt':o<ι.length:=by have:=hr.len;omega
 have hold: ∀i b,ι[i]? =some (some b)->b<w.heap.size:=fun i b h=>(hr.avo i b h).2
 have hnew: ∀i,i≠o->ι[i]? ≠some (some b'):=fun i hi h=>by
  rcases hb' with ⟨h1,_⟩ | ⟨h1,_⟩
  ·exact hi (hr.inj i o b' h h1)
  grind
 have hblt:b'<w'.heap.size:=(Array.getElem?_eq_some_iff.1 hat).1
 have hF: ¬F b':=fun h=>by
  rcases hb' with ⟨h1,_⟩ | ⟨h1,_⟩
  ·exact (hr.avo o b' h1).1 h
  ·have:=hr.fin _ h;omega
 have hget: ∀(i:Nat),i≠o->(ι.set o (some b'))[i]? =ι[i]? :=fun i hi=>List.getElem?_set_ne (Ne.symm hi)
 have hgeto:(ι.set o (some b'))[o]? =some (some b'):=by simp [holt']
 have hmem: ∀k,k<w.heap.size->some k ∉ ι->some k ∉ ι.set o (some b'):=fun k hk h hm=>by
  grind
 have hne: ∀k,k<w.heap.size->some k ∉ ι->k≠b':=fun k hk h e=>by
  grind
 have hkeep:Keeps (Own F ι) w (Own F (ι.set o (some b'))) w':=fun k hk hs=>by
  have h1:some k ∉ ι:=fun h=>hk (.inr h);refine ⟨?_,Za,hother k hs (hne k hs h1)⟩;rintro (h | h)
  ·exact hk (.inl h)
  grind
 have hx:HX H ι w (H.set o (.elems S xs')) (ι.set o (some b')) w':=fun i x hi=>by
  by_cases hio:i=o
  ·grind
  ·have e1:(H.set o (.elems S xs'))[i]? =some x:=by grind
   cases x with
   | dead=>exact .inl e1
   | cells cs=>grind
   | map es=>grind
   | bld T E r bs=>grind
   | elems S2 xs2 =>
    grind
 have hrv: ∀ {x v},RV F H ι w x v->RV F (H.set o (.elems S xs')) (ι.set o (some b')) w' x v:=fun h=>h.ext hkeep hx
 refine Good.up hr.env ⟨⟨by simp [hr.len],fun b hb=>by have:=hr.fin b hb;omega,?_,?_,?_,?_,?_,?_⟩,hos,htape,hout,fun q c1 t1 h1=> .inr (by
   grind),hsz,fun k hk ho=>hother k hk (hne k hk ho),hmem,hx⟩
 ·intro i j b hi hj
  by_cases hio:i=o<;>by_cases hjo:j=o
  ·omega
  ·grind
  ·grind
  ·rw [hget i hio] at hi;rw [hget j hjo] at hj;exact hr.inj i j b hi hj
 ·intro i b hi
  by_cases hio:i=o
  ·grind
  ·rw [hget i hio] at hi;have:=hr.avo i b hi;grind
 ·intro i cs2 hi
  by_cases hio:i=o
  ·grind
  ·rw [List.getElem?_set_ne (Ne.symm hio)] at hi;obtain ⟨b2,c2,t2,h1,h2,h3,h4⟩:=hr.cel i cs2 hi
   grind
 ·intro i S2 xs2 hi
  by_cases hio:i=o
  ·subst hio;simp [holt] at hi;obtain ⟨rfl,rfl⟩:=hi;exact .inr ⟨b',c,t,cap,hgeto,hat,h3,h4,h5,h6,fun i x j y hi hj=>(h7 i x j y hi hj).ext hkeep⟩
  ·rw [List.getElem?_set_ne (Ne.symm hio)] at hi;rcases hr.elm i S2 xs2 hi with ⟨h1,h2⟩ | ⟨b2,c2,t2,cap2,h1,h2,h3,h4,h5,h6,h7⟩
   ·grind
   ·exact .inr ⟨b2,c2,t2,cap2,by grind,by grind,h3,h4,h5,h6,fun i x j y hi hj=>(h7 i x j y hi hj).ext hkeep⟩
 ·intro i es hi
  by_cases hio:i=o
  ·grind
  ·rw [List.getElem?_set_ne (Ne.symm hio)] at hi;obtain ⟨b2,a2,k,h1,h2,h3⟩:=hr.mpr i es hi;exact ⟨b2,a2,k,by grind,by grind,h3.ext hkeep⟩
 ·refine Yn hr (fun i T E r bs hi=> ?_) (fun i ob hi hs=> ?_)
  ·grind
  ·have hio:i≠o:=fun e=>by subst e;rw [hH] at hi;simp at hi;subst hi;cases hs
   grind
end
end Go.AM
