/- Declarations that the closing texts need, part 11: joined by tools/slim.py. -/
import Derived.Test.YtjkkdmeebhjaiaaGreatDoorH10
import Derived.LoopN
set_option linter.unusedVariables false
set_option linter.unusedSimpArgs false
namespace Go.AM
open Go.RowKit
theorem cU {P:Program} {o:Oper} {fr:List V} {H:List Obj} (t e:TypeId) (x y:Operand) (m by' S:Nat) (z:PV) (h:o.op= .makeSlice t x y) (hu:P.underlying t=some (.slice e)) (hs:Wa P e=some S) (hzv:zval P e=some z) (hb:(P.info? e).map (·.bytes)=some by') (hS0:0<S) (hzl:z.cells.length=S) (hz1:z.cells.all (·.one)=true)
  (hby:by'*m<=281474976710656) (hm2:m<=281474976710656) (hX:ev fr x= .p (.int .i64 0)) (hY:ev fr y= .p (.int .i64 m)):OpS P o fr H (.sl H.length 0 0 0) (H++ [.elems S []]):=fun F ι a w hr hf=>by
 have hx:=hf.ev x;have hy:=hf.ev y;rw [hX] at hx;rw [hY] at hy
 cases hx with | p _ _ hx=>cases hy with | p _ _ hy =>
 obtain ⟨zz,hzz⟩: ∃zz,((P.info? e).bind (·.zero))=some zz:=by
  grind [zval,Y5]
 have hrz:RP (Own F ι) w z zz:=A5 hzz hzv;obtain ⟨z1,z2⟩:=VY hrz hz1;simp only [Y5] at hzz;obtain ⟨ie,hie,hzz⟩:=hzz;simp [hie] at hb
 let arr:Array Value:=(Array.range (m*S)).map (zz.cells[· %zz.cells.size]!)
 have g:=V7 (H:=H) hr (Pushed.alloc w arr e) (.elems S []) ⟨m,by simp [arr],Zb,by unfold maxLen;omega,(fun i q hi=>by simp at hi),fun i q j c hi hj=>by simp at hi⟩;refine ⟨_,.slice (some ⟨w.heap.size,0,none⟩) 0 m,_,_,?_,.inl rfl,g,?_⟩
 ·have hw:IntKind.i64.wrap (m:Int)=m:=IntWalk.i64_in _ Za;have hw0:IntKind.i64.wrap (0:Int)=0:=rfl
  have h1: ¬((m:Int)<0):=Za
  have h2: ¬(281474976710656<((ie.bytes:Int)*(m:Int))):=by
   grind
  by_cases h0:m*S=0
  ·have e9:Array.range 0= #[]:=by rfl
   simp [execOp,h,hx.int_inv,hy.int_inv,Instr.makeSlice,asInt,asIntOf,run_underlying hu,typeInfo,hie,hw,hw0,h1,h2,XY hs,h0,newRow,e9,arr]
  ·simp [execOp,h,hx.int_inv,hy.int_inv,Instr.makeSlice,asInt,asIntOf,run_underlying hu,typeInfo,hie,hw,hw0,h1,h2,XY hs,h0,zeroValue,hzz,newRow,arr]
 ·have:=RV.sl (F:=F) (w:=w.alloc (.cells arr e)) (H:=H++ [.elems S []]) (ι:=ι++ [some w.heap.size]) H.length 0 0 0 w.heap.size S m e [] arr (by rw [<- hr.len];simp) Zb Zb (Pushed.new (Pushed.alloc w arr e)) (by simp [arr]) Za Za (by unfold maxLen;omega)
  grind
def Zrv : Exit->Bool
 | .normal=>true
 | .ret=>true
 | _=>false
end Go.AM
namespace Go.Proofs.YtjkkdmeebhjaiaaGreatDoor.K
open Go Go.AM Go.Proofs
set_option maxRecDepth 60000
set_option maxHeartbeats 8000000
theorem Yt : kR 1= .lp (.agg (tabB.map (.int .u8))) 0:=rfl
theorem Vo {s:Option (Option Nat×Nat)} {H:List AM.Obj} {x:V} {E k:Int} {K:V->Prop} (h:E=k) (hk:BN (UY s H x (.p (.int .u64 k))) K):BN (UY s H x (.p (.int .u64 E))) K:=h ▸ hk
def Bc (n:Nat):Int:=if n%2=1 then 0 else if n%4=2 then 1 else if n%8=4 then 2 else 3
theorem QB {P Q:Prop} (h:Q) (e:Q->P:=by intro h;simp (disch:=omega) only [tabB,go_sem,seval];exact h):P:=e h
theorem Zej (n:Nat) (h0:0<n) (h:n<16):PC 186 [.p (.int .u64 n)] (.int .i64 (Bc n)):=by
 have hc:n=1\/n=2\/n=3\/n=4\/n=5\/n=6\/n=7\/n=8\/n=9\/n=10\/n=11\/n=12\/n=13\/n=14\/n=15:=Za
 rcases hc with rfl | rfl | rfl | rfl | rfl | rfl | rfl | rfl | rfl | rfl | rfl | rfl | rfl | rfl | rfl
 ·refine Zc Tryz.func186 rfl Vp ?_;simp (disch:=omega) only [Tryz.f186,Yt,go_sem,seval];refine Vo (k:=0) (by decide+kernel) (QB ?_)
  try rfl
 ·refine Zc Tryz.func186 rfl Vp ?_;simp (disch:=omega) only [Tryz.f186,Yt,go_sem,seval];refine Vo (k:=1) (by decide+kernel) (QB ?_)
  try rfl
 ·refine Zc Tryz.func186 rfl Vp ?_;simp (disch:=omega) only [Tryz.f186,Yt,go_sem,seval];refine Vo (k:=0) (by decide+kernel) (QB ?_)
  try rfl
 ·refine Zc Tryz.func186 rfl Vp ?_;simp (disch:=omega) only [Tryz.f186,Yt,go_sem,seval];refine Vo (k:=3) (by decide+kernel) (QB ?_)
  try rfl
 ·refine Zc Tryz.func186 rfl Vp ?_;simp (disch:=omega) only [Tryz.f186,Yt,go_sem,seval];refine Vo (k:=0) (by decide+kernel) (QB ?_)
  try rfl
 ·refine Zc Tryz.func186 rfl Vp ?_;simp (disch:=omega) only [Tryz.f186,Yt,go_sem,seval];refine Vo (k:=1) (by decide+kernel) (QB ?_)
  try rfl
 ·refine Zc Tryz.func186 rfl Vp ?_;simp (disch:=omega) only [Tryz.f186,Yt,go_sem,seval];refine Vo (k:=0) (by decide+kernel) (QB ?_)
  try rfl
 ·refine Zc Tryz.func186 rfl Vp ?_;simp (disch:=omega) only [Tryz.f186,Yt,go_sem,seval];refine Vo (k:=7) (by decide+kernel) (QB ?_)
  try rfl
 ·refine Zc Tryz.func186 rfl Vp ?_;simp (disch:=omega) only [Tryz.f186,Yt,go_sem,seval];refine Vo (k:=0) (by decide+kernel) (QB ?_)
  try rfl
 ·refine Zc Tryz.func186 rfl Vp ?_;simp (disch:=omega) only [Tryz.f186,Yt,go_sem,seval];refine Vo (k:=1) (by decide+kernel) (QB ?_)
  try rfl
 ·refine Zc Tryz.func186 rfl Vp ?_;simp (disch:=omega) only [Tryz.f186,Yt,go_sem,seval];refine Vo (k:=0) (by decide+kernel) (QB ?_)
  try rfl
 ·refine Zc Tryz.func186 rfl Vp ?_;simp (disch:=omega) only [Tryz.f186,Yt,go_sem,seval];refine Vo (k:=3) (by decide+kernel) (QB ?_)
  try rfl
 ·refine Zc Tryz.func186 rfl Vp ?_;simp (disch:=omega) only [Tryz.f186,Yt,go_sem,seval];refine Vo (k:=0) (by decide+kernel) (QB ?_)
  try rfl
 ·refine Zc Tryz.func186 rfl Vp ?_;simp (disch:=omega) only [Tryz.f186,Yt,go_sem,seval];refine Vo (k:=1) (by decide+kernel) (QB ?_)
  try rfl
 ·refine Zc Tryz.func186 rfl Vp ?_;simp (disch:=omega) only [Tryz.f186,Yt,go_sem,seval];refine Vo (k:=0) (by decide+kernel) (QB ?_)
  try rfl
end Go.Proofs.YtjkkdmeebhjaiaaGreatDoor.K
