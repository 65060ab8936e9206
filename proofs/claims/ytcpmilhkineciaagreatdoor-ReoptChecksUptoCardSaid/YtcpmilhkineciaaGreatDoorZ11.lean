/- Declarations that the closing texts need, part 11: joined by tools/slim.py. -/
import Derived.Test.YtcpmilhkineciaaGreatDoorZ10
import Derived.Lib.Builder
set_option linter.unusedVariables false
set_option linter.unusedSimpArgs false
namespace Go.AM
open Go.RowKit
section
variable {P : Program} {t : TypeId} {α : Type} [DecidableEq α] {ek : α -> PV} {R : α -> Prop}
variable {H : List Obj} {o : Nat} {l : List (α × Int)} {k : α} {K : V -> List Obj -> Prop}
end
@[go_sem ↓] theorem ZhD {P:Program} {fr:List V} {H:List Obj} {k:V->List Obj->Prop} {d:Option Nat} {u t:TypeId} {x y:Operand} {ok:Bool} {ps:String} {af:Array Edge} {g:Option (Nat×Bool)} :Zr P ⟨d,.lookup u x y ok,t,ps,af,g⟩ fr H k=Zq P ⟨d,.lookup u x y ok,t,ps,af,g⟩ fr H k:=rfl
theorem Zff {P:Program} {o:Oper} {fr:List V} {H:List Obj} (t e:TypeId) (x y:Operand) (n by':Nat) (z:PV) (h:o.op= .makeSlice t x y) (hu:P.underlying t=some (.slice e)) (hs:tsz P e=some 1) (hzv:VL P e=some z) (hb:(P.info? e).map (·.bytes)=some by') (hz1:z.one=true)
  (hby:by'*n<=281474976710656) (hn2:n<=281474976710656) (hX:ev fr x= .p (.int .i64 n)) (hY:ev fr y= .p (.int .i64 n)):OpS P o fr H (.sl H.length 0 n n) (H++ [.cells (List.replicate n (.p z))]):=fun F ι a w hr hf=>by
 have hx:=hf.ev x;have hy:=hf.ev y;rw [hX] at hx;rw [hY] at hy
 cases hx with | p _ _ hx=>cases hy with | p _ _ hy =>
 obtain ⟨zz,hzz⟩: ∃zz,((P.info? e).bind (·.zero))=some zz:=by
  unfold VL at hzv;simp only [Option.bind_eq_some_iff] at hzv;obtain ⟨zz,h1,_⟩:=hzv;exact ⟨zz,by simpa [Option.bind_eq_some_iff] using h1⟩
 have hrz:RP (Own F ι) w z zz:=Vo hzz hzv;have hcl:z.cells= [z]:=PV.cells_one hz1;obtain ⟨z1,z2⟩:=XT hrz (by rw [hcl];simp [hz1]);rw [hcl] at z1 z2;simp only [List.length_cons,List.length_nil,Nat.zero_add] at z1;simp only [Option.bind_eq_some_iff] at hzz;obtain ⟨ie,hie,hzz⟩:=hzz;simp [hie] at hb
 let arr:Array Value:=(Array.range n).map (zz.cells[· %zz.cells.size]!)
 have harr: ∀q,q<n->arr.getD q undef=zz.cells.getD 0 undef:=fun q hq=>by
  simp [arr,Array.getD_eq_getD_getElem?,hq,z1,getElem!_def,Nat.mod_one]
 have hsz:arr.size=n:=by simp [arr]
 have g:=X6 (H:=H) hr (Pushed.alloc w arr e) (.cells (List.replicate n (.p z))) ⟨by simp [arr],fun j q hq=>by
   rw [List.getElem?_replicate] at hq;split at hq
   ·rename_i hj;simp at hq;subst hq;rw [harr j hj];exact .p _ _ (z2 0 z rfl)
   ·cases hq⟩
 refine ⟨_,.slice (some ⟨w.heap.size,0,none⟩) n n,_,_,?_,.inl rfl,g,?_⟩
 ·have hw:IntKind.i64.wrap (n:Int)=n:=IntWalk.i64_in _ (by omega)
  have h1: ¬((n:Int)<0):=by omega
  have h2: ¬(281474976710656<((ie.bytes:Int)*(n:Int))):=by
   rw [hb]
   have:((by'*n:Nat):Int)=(by':Int)*n:=by simp
   omega
  by_cases h0:n=0
  ·subst h0
   have e9:Array.range 0= #[]:=by simp [Array.range]
   simp [execOp,h,hx.int_inv,hy.int_inv,Instr.makeSlice,asInt,asIntOf,run_underlying hu,typeInfo,hie,show IntKind.i64.wrap 0=0 from rfl,ZT hs,newRow,e9,arr]
  ·simp [execOp,h,hx.int_inv,hy.int_inv,Instr.makeSlice,asInt,asIntOf,run_underlying hu,typeInfo,hie,hw,h1,h2,ZT hs,h0,zeroValue,hzz,newRow,arr]
 ·exact RV.slC (F:=F) (w:=w.alloc (.cells arr e)) (H:=H++ [.cells (List.replicate n (.p z))]) (ι:=ι++ [some w.heap.size]) H.length n w.heap.size n (List.replicate n (.p z)) (by rw [<- hr.len];simp) (by simp) (Nat.le_refl _) (by unfold maxLen;omega)
end Go.AM
