/- Declarations that the closing texts need, part 19: joined by tools/slim.py. -/
import Derived.Test.YtmbelkfkhclnkaaGreatDoorZS18
import Derived.Lib.UnsafeStr
import Derived.Shelf.Strconv.AtoiAll
import Derived.Shelf.Strconv.Itoa3
set_option linter.unusedVariables false
set_option linter.unusedSimpArgs false
namespace Go.Proofs.YtmbelkfkhclnkaaGreatDoor.K
open Go Go.AM Go.Proofs Go.Shelf Go.RowKit
set_option maxRecDepth 8000
set_option maxHeartbeats 8000000
theorem JO {F:Nat->Prop} {w w':World} (he:Go.AM.Env F [] w) (hF: ∀b,F b->b<w.heap.size) (h:Below w.heap.size w w'):Go.AM.Good F [] [] w [] [] w' :=
 .up he ⟨⟨rfl,fun b hb=>by have:=hF b hb;have:=h.size;omega,fun i j b hi=>by simp at hi,fun i b hi=>by simp at hi,fun o cs ho=>by simp at ho,fun o S xs ho=>by simp at ho,fun o es ho=>by simp at ho,fun o T E r bs ho=>by simp at ho⟩,
  h.os,⟨h.tape,.inr trivial⟩,h.output,fun b c t hb=> .inr ⟨c,by rw [h.block b (Array.getElem?_eq_some_iff.1 hb).1];exact hb,rfl⟩,h.size,fun b hb _=>h.block b hb,fun _ _ h=>h,fun o ob ho=>by simp at ho⟩
theorem Vi {P:Program} {g:FuncId} (hg:Zh P g) {a:PV} {u:Value} {y:V} (ha: ∀ {F H ι w x},RV F H ι w (.p a) x->x=u)
  (h: ∀F w,Go.AM.Env F [] w->Calls P g #[u] w fun e w'=> ∃r,e= .returned r/\(∀F ι w,RV F [] ι w y r)/\Below w.heap.size w w'):ACalls P g [.p a] [] fun x H'=>x=y/\H'= []:=by
 refine ⟨hg,fun F ι w vs hr hv=> ?_⟩;obtain ⟨h1,h2⟩:=hv;have e0:=ha (h2 0 _ rfl)
 have hvs:vs= #[u]:=by
  apply Array.ext
  ·simpa using h1
  ·intro i h3 h4
   have:i=0:=by simp at h4;omega
   subst this
   have:vs.getD 0 undef=vs[0]:=by simp [Array.getD,h3]
   rw [<- this,e0];rfl
 rw [hvs];have hι:ι= []:=List.eq_nil_of_length_eq_zero hr.len;subst hι;refine (h F w hr.env).mono ?_;rintro e w' ⟨r,rfl,hy,hb⟩;exact ⟨_,_,[],_,rfl,⟨rfl,rfl⟩,JO hr.env hr.fin hb,hy _ _ _⟩
theorem LV {F H ι w} {a b:V} {u v:Value} (h1:RV F H ι w a u) (h2:RV F H ι w b v):RV F H ι w (.tup [a,b]) (.tuple #[u,v]):=by
 refine .tup _ _ rfl fun j c hj=> ?_
 match j,hj with
 | 0,hj=>simp at hj;subst hj;exact h1
 | 1,hj=>simp at hj;subst hj;exact h2
 | j+2,hj=>simp at hj
theorem BV (w:World) (k:Nat) (os:Array Go.Obj):Below w.heap.size w (Go.Sort.grow (w.drewN k) os) :=
 (Below.trans (b:=w.drewN k) ⟨rfl,rfl,rfl,Nat.le_refl _,fun _ _=>rfl⟩ ⟨rfl,rfl,rfl,by simp [Go.Sort.grow],fun i hi=>by simp only [Go.Sort.grow];exact Array.getElem?_append_left hi⟩)
theorem EO (s:List UInt8) (n:Int) (hs:s.length<=1048576) (h:Lib.atoiAll s= .ok n):PT 130 [.p (.str s)] [.p (.int .i64 n),.p .nili]:=by
 refine Vi IR Ki fun F w _=> ?_;refine (Any.strconv_Atoi_ok Fk ⟨s.toArray⟩ (by show s.toArray.size<=_;simp;omega) n h w).mono ?_;rintro e w' ⟨rfl,hw⟩;refine ⟨_,rfl,fun F ι w=>LV (.p _ _ (.int _ _)) (.p _ _ .nili),?_⟩;rcases hw with rfl | ⟨t,rfl⟩
 ·exact Below.refl _ _
 ·exact Lib.bytesWorld_below _ _ _
theorem EP (s:List UInt8) (hs:s.length<=1048576) (h:Lib.atoiAll s= .range):PT 130 [.p (.str s)] [.p (.int .i64 (Lib.atoiSat s)),.err]:=by
 refine Vi IR Ki fun F w he=> ?_;obtain ⟨_,_,tp,p,t,fz,hw⟩:=he.2 3 (by simp [Rw]);refine (Any.strconv_Atoi_range Fk ⟨s.toArray⟩ (by show s.toArray.size<=_;simp;omega) h (.iface tp p) w (by show w.cell? ⟨3,0,none⟩=_;rw [Lib.cell_of_heap hw];rfl) (.inr ⟨tp,p,rfl⟩)).mono ?_;rintro e w' ⟨N,rfl,_,_,h3⟩;exact ⟨_,rfl,fun F ι w=>LV (.p _ _ (.int _ _)) (.err _ _),h3⟩
theorem Nq (n:Int) (hn:Yw n):PC 89 [.p (.int .i64 n)] (.str (WD n)):=by
 refine Vi OZ Eh fun F w he=> ?_;obtain ⟨_,_,t,fz,hw⟩:=he.1 (1,(tabP.map (Value.int .u64)).toArray) (by simp [TN,tabs])
 have hg : Tryz.prog.globalNamed "internal/strconv.uint64pow10" = some 1 := by kernel_rfl
 refine (Any.strconv_Itoa layItoa.toM n hn.1 hn.2 w ?_).mono ?_
 ·simp only [Lib.TabIs,World.var?,hg,Option.bind_some];rw [hw];rfl
 ·rintro e w' ⟨rfl,k,os,rfl⟩;rw [HZ];exact ⟨_,rfl,fun F ι w=> .p _ _ (.str _),BV w k os⟩
end Go.Proofs.YtmbelkfkhclnkaaGreatDoor.K
