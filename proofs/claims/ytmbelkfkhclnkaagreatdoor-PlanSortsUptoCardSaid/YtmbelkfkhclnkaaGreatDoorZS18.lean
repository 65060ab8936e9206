/- Declarations that the closing texts need, part 18: joined by tools/slim.py. -/
import Derived.Test.YtmbelkfkhclnkaaGreatDoorZS17
import Derived.Stop.LaidErr
set_option linter.unusedVariables false
set_option linter.unusedSimpArgs false
namespace Go.Proofs.YtmbelkfkhclnkaaGreatDoor.K
open Go Go.AM Go.Proofs Go.ChangeShapes
def txtRange : List UInt8:= [118,97,108,117,101,32,111,117,116,32,111,102,32,114,97,110,103,101]
def txtSyntax : List UInt8:= [105,110,118,97,108,105,100,32,115,121,110,116,97,120]
noncomputable def O2 (os:Os):World :=
 let w1:=nB os
 { w1 with heap:=(((w1.heap.push (.cells #[.string ⟨txtRange.toArray⟩] 310 (0,0))).push (.cells #[.string ⟨txtSyntax.toArray⟩] 310 (0,0))).modify 3 (IW #[.iface 308 (.pointer (some ⟨w1.heap.size,0,none⟩))])).modify 2 (IW #[.iface 308 (.pointer (some ⟨w1.heap.size+1,0,none⟩))]) }
def Ui : List (String × DataW Unit) := [("math/bits.deBruijn32tab", Rows.laid_math_bits_deBruijn32tab), ("math/bits.deBruijn64tab", Rows.laid_math_bits_deBruijn64tab), ("internal/strconv.uint64pow10", Rows.laid_internal_strconv_uint64pow10), ("strconv.ErrRange", Rows.laid_strconv_ErrRange), ("strconv.ErrSyntax", Rows.laid_strconv_ErrSyntax)]
noncomputable def Rv : Field:=match Tryz.prog.underlying 310 with
 | some (.struct fs)=>fs.getD 0 default
 | _=>default
noncomputable def kB : Array (String×TypeId):=match Tryz.prog.underlying 79 with
 | some (.interface ms)=>ms
 | _=> #[]
theorem Gv (os:Os) (args:Array Value):laidMetH Tryz.prog Ui ((O2 os).forCall (fun _ _=>0) ⟨#[],args,[]⟩).memory:=by
 show laidMet Tryz.prog Ui _
 exact laidMet_of_run' 8 Ze Ze
theorem Gi {W:World} (h:laidMetH Tryz.prog Ui W.memory):Env KE [] W:=by
 have h5:laidMet Tryz.prog Ui W.memory:=h;obtain ⟨ps,hl,_⟩:laidMet Tryz.prog Ui W.memory:=h;refine ⟨fun p hp=> ?_,fun p hp=> ?_⟩
 ·have hp:p=(5,(tabB.map (Value.int .u8)).toArray)\/p=(1,(tabP.map (Value.int .u64)).toArray):=by simpa [TN,tabs] using hp
  rcases hp with rfl | rfl
  ·obtain ⟨t, fz, hw⟩ := Bn (name := "math/bits.deBruijn64tab") (k := .u8) (zs := tabB) (g := 5) (t := 316) (e := 5) (n := 64) (by kernel_rfl) (by kernel_rfl) (by kernel_rfl) (by kernel_rfl) (by kernel_rfl) (by kernel_rfl) hl
    (by show ("math/bits.deBruijn64tab", _) ∈ Ui; exact List.mem_cons_of_mem _ (List.mem_cons.2 (.inl rfl)))
   have hw':W.heap[5]? =some (.cells (tabB.map (Value.int .u8)).toArray t fz):=hw;exact ⟨fun h=>h.elim id fun h=>by simp at h,(Array.getElem?_eq_some_iff.1 hw').1,t,fz,hw'⟩
  ·obtain ⟨t, fz, hw⟩ := Bn (name := "internal/strconv.uint64pow10") (k := .u64) (zs := tabP) (g := 1) (t := 294) (e := 219) (n := 20) (by kernel_rfl) (by kernel_rfl) (by kernel_rfl) (by kernel_rfl) (by kernel_rfl) (by kernel_rfl) hl
    (by show ("internal/strconv.uint64pow10", _) ∈ Ui; exact List.mem_cons_of_mem _ (List.mem_cons_of_mem _ (List.mem_cons.2 (.inl rfl))))
   have hw':W.heap[1]? =some (.cells (tabP.map (Value.int .u64)).toArray t fz):=hw;exact ⟨fun h=>h.elim id fun h=>by simp at h,(Array.getElem?_eq_some_iff.1 hw').1,t,fz,hw'⟩
 ·have hp:p=3:=by simpa [Rw] using hp
  subst hp;obtain ⟨a, s, hv, _⟩ := laid_sentinel (f := Rv) (ms := kB) (tp := 308) (te := 310) (ts := 9) h5.tail.tail.tail (g := 3) (ti := 79) (by kernel_rfl) (by kernel_rfl) (by kernel_rfl) (fun u hu => typeName_ptr_named (nm := "errors.errorString") (by rw [show "*" ++ "errors.errorString" = "*errors.errorString" by decide]; kernel_rfl) (by kernel_rfl) (by decide) u (by rw [show "*" ++ "errors.errorString" = "*errors.errorString" by decide]; exact hu)) (by kernel_rfl) (by kernel_rfl) (by kernel_rfl) (by kernel_rfl) (by kernel_rfl) (by kernel_rfl) (by kernel_rfl)
  have hg : Tryz.prog.globalNamed "strconv.ErrRange" = some 3 := by kernel_rfl
  simp only [World.var?,hg,Option.bind_some] at hv
  split at hv
  ·rename_i cs t fz hw;simp at hv;subst hv;have hw':W.heap[3]? =_:=hw;exact ⟨fun h=>h.elim id fun h=>by simp at h,(Array.getElem?_eq_some_iff.1 hw').1,_,_,t,fz,hw'⟩
  ·cases hv
end Go.Proofs.YtmbelkfkhclnkaaGreatDoor.K
