/- Declarations that the closing texts need, part 14: joined by tools/slim.py. -/
import Derived.Test.YthmplgaldjpgiaaGreatDoorZ13
set_option linter.unusedVariables false
set_option linter.unusedSimpArgs false
namespace Go.Proofs.YthmplgaldjpgiaaGreatDoor.K
open Go Go.AM Go.Proofs
set_option maxRecDepth 8000
set_option maxHeartbeats 8000000
theorem VX {P:Program} {e:TypeId} {k:Nat} {cs:List PV} {kk:IntKind} {n:Int} {x:PV} (h0:0<=n) (h1:n<k) (hx:apart P e cs n.toNat=some x) (ht:tsz P e=some 1):Zhp P (some (.array k e)) (.p (.agg cs)) (.p (.int kk n))=some (.p x):=by
 simp only [Zhp,if_pos (show 0<=n/\n<(k:Int) from ⟨h0,h1⟩),ht,Nat.mul_one,hx];rfl
def ZzW (s:Sco):PV:= .agg [.int .i64 s.cost,.int .i64 s.moved,.int .i64 s.other,.int .i64 s.work]
@[go_sem] theorem ZBc (s:Sco):ZzW s= .agg [.int .i64 s.cost,.int .i64 s.moved,.int .i64 s.other,.int .i64 s.work]:=Eq.trans rfl rfl
theorem Ks (s:Sco):PC 65 [.p (Zb9 s)] (ZzW s):=by
 refine Zb [] Tryz.func65 rfl ZzK ?_;simp (disch:=omega) only [Tryz.f65,go_sem,seval];exact we
theorem ZiP (s:Sco):PC 104 [.p (ZzW s)] (Zb9 s):=by
 refine Zb [] Tryz.func104 rfl Zur ?_;simp (disch:=omega) only [Tryz.f104,go_sem,seval];exact we
def Zg8 (a b:Sco):Sco:=⟨a.cost+b.cost,a.moved+b.moved,a.other+b.other,a.work+b.work⟩
def scoR (B:Int) (s:Sco):Prop:=(-B<=s.cost/\s.cost<=B)/\(-B<=s.moved/\s.moved<=B)/\(-B<=s.other/\s.other<=B)/\(-B<=s.work/\s.work<=B)
def ZeJ (a b:Sco) (k:Nat):AM.Obj:= .cells [.p (.int .i64 (if 0<k then a.cost+b.cost else a.cost)),.p (.int .i64 (if 1<k then a.moved+b.moved else a.moved)),.p (.int .i64 (if 2<k then a.other+b.other else a.other)),.p (.int .i64 (if 3<k then a.work+b.work else a.work))]
def Wq (s:Sco):AM.Obj:= .cells [.p (.int .i64 s.cost),.p (.int .i64 s.moved),.p (.int .i64 s.other),.p (.int .i64 s.work)]
theorem ZzO (a b:Sco) (ha:scoR 1152921504606846976 a) (hb:scoR 1152921504606846976 b):PC 63 [.p (Zb9 a),.p (Zb9 b)] (Zb9 (Zg8 a b)):=by
 obtain ⟨a1,a2,a3,a4⟩:=ha;obtain ⟨b1,b2,b3,b4⟩:=hb;refine Zb [1] Tryz.func63 rfl ZAA ?_;simp (disch:=omega) only [Tryz.f63,go_sem,seval];refine Zo [4] (fun c:Bool=> [(5,.ptr (if c=true then 3 else 4) 0),(6,.ptr (if c=true then 4 else 3) 0)]) (fun c=> [Wq a,Wq b,Wq zSco,if c=true then Wq a else Wq b,if c=true then Wq b else Wq a]) (fun _=>True) ?_ ?_
 ·simp (disch:=omega) only [go_sem,seval];refine ZP [4,5] 6 mixed (by kernel_rfl) (by kernel_rfl) (by kernel_rfl) (by simp) ?_;simp (disch:=omega) only [go_sem,seval];refine Zj (Ks a) ?_;simp (disch:=omega) only [go_sem,seval];refine Zj (Ks b) ?_;simp (disch:=omega) only [go_sem,seval];refine Zbo 4 5 _ _ _ _ (by kernel_rfl) (by simp (disch:=omega) only [go_sem,seval];exact ⟨rfl,rfl⟩) (by simp (disch:=omega) only [go_sem,seval];exact ⟨rfl,rfl⟩) ?_ ?_
  ·refine ZC 5 _ _ (by kernel_rfl) (by simp (disch:=omega) only [go_sem,seval];exact ⟨rfl,rfl⟩) (Xr ?_);simp (disch:=omega) only [go_sem,seval];exact ⟨true,Weak.mk (by simp (disch:=omega) only [Wq,zSco,go_sem,seval])⟩
  ·refine ZC 4 _ _ (by kernel_rfl) (by simp (disch:=omega) only [go_sem,seval];exact ⟨rfl,rfl⟩) (Xr ?_);simp (disch:=omega) only [go_sem,seval];exact ⟨false,Weak.mk (by simp (disch:=omega) only [Wq,zSco,Bool.false_eq_true,go_sem,seval])⟩
 ·intro c _
  cases c <;>
  (simp only [Bool.false_eq_true,if_true,if_false]
   refine Zd [] _ _ _ _ ?_
   simp (disch:=omega) only [Wq,zSco,go_sem,seval])
  ·refine Zf [4,5,6] (fun k:Nat=> [(12,.p (.int .i64 k))]) (fun k=> [Wq a,Wq b,Wq zSco,Wq b,ZeJ a b k]) (fun k=>k<=4) (fun k=>4-k) 0 (by omega) (Weak.mk ?_) ?_
   ·simp (disch:=omega) only [Wq,ZeJ,zSco,go_sem,seval]
   ·intro k hk;simp (disch:=omega) only [Wq,ZeJ,zSco,go_sem,seval];refine cD ?_ ?_<;>intro h1<;>simp (disch:=omega) only [Sh.out h1,go_sem,seval]
    ·have:k=0\/k=1\/k=2\/k=3:=by omega
     rcases this with rfl | rfl | rfl | rfl
     ·refine Zn 7 mixed (by kernel_rfl) (by kernel_rfl) ?_;simp (disch:=omega) only [go_sem,seval];exact ⟨1,by omega,by omega,Weak.mk (by simp (disch:=omega) only [Wq,ZeJ,zSco,go_sem,seval])⟩
     ·refine Zn 7 mixed (by kernel_rfl) (by kernel_rfl) ?_;simp (disch:=omega) only [go_sem,seval];exact ⟨2,by omega,by omega,Weak.mk (by simp (disch:=omega) only [Wq,ZeJ,zSco,go_sem,seval])⟩
     ·refine Zn 7 mixed (by kernel_rfl) (by kernel_rfl) ?_;simp (disch:=omega) only [go_sem,seval];exact ⟨3,by omega,by omega,Weak.mk (by simp (disch:=omega) only [Wq,ZeJ,zSco,go_sem,seval])⟩
     ·refine Zn 7 mixed (by kernel_rfl) (by kernel_rfl) ?_;simp (disch:=omega) only [go_sem,seval];exact ⟨4,by omega,by omega,Weak.mk (by simp (disch:=omega) only [Wq,ZeJ,zSco,go_sem,seval])⟩
    ·have hk4:k=4:=by omega
     subst hk4;refine (ZiP (Zg8 a b)).use ?_;simp (disch:=omega) only [go_sem,seval];exact we
  ·refine Zf [4,5,6] (fun k:Nat=> [(12,.p (.int .i64 k))]) (fun k=> [Wq a,Wq b,Wq zSco,ZeJ a b k,Wq b]) (fun k=>k<=4) (fun k=>4-k) 0 (by omega) (Weak.mk ?_) ?_
   ·simp (disch:=omega) only [Wq,ZeJ,zSco,go_sem,seval]
   ·intro k hk;simp (disch:=omega) only [Wq,ZeJ,zSco,go_sem,seval];refine cD ?_ ?_<;>intro h1<;>simp (disch:=omega) only [Sh.out h1,go_sem,seval]
    ·have:k=0\/k=1\/k=2\/k=3:=by omega
     rcases this with rfl | rfl | rfl | rfl
     ·refine Zn 7 mixed (by kernel_rfl) (by kernel_rfl) ?_;simp (disch:=omega) only [go_sem,seval];exact ⟨1,by omega,by omega,Weak.mk (by simp (disch:=omega) only [Wq,ZeJ,zSco,go_sem,seval])⟩
     ·refine Zn 7 mixed (by kernel_rfl) (by kernel_rfl) ?_;simp (disch:=omega) only [go_sem,seval];exact ⟨2,by omega,by omega,Weak.mk (by simp (disch:=omega) only [Wq,ZeJ,zSco,go_sem,seval])⟩
     ·refine Zn 7 mixed (by kernel_rfl) (by kernel_rfl) ?_;simp (disch:=omega) only [go_sem,seval];exact ⟨3,by omega,by omega,Weak.mk (by simp (disch:=omega) only [Wq,ZeJ,zSco,go_sem,seval])⟩
     ·refine Zn 7 mixed (by kernel_rfl) (by kernel_rfl) ?_;simp (disch:=omega) only [go_sem,seval];exact ⟨4,by omega,by omega,Weak.mk (by simp (disch:=omega) only [Wq,ZeJ,zSco,go_sem,seval])⟩
    ·have hk4:k=4:=by omega
     subst hk4;refine (ZiP (Zg8 a b)).use ?_;simp (disch:=omega) only [go_sem,seval];exact we
def W5 (s:Sco):Int×Int:=if s.cost<0\/s.moved<0\/s.other<0\/s.work<0 then (0,2) else if 1073741824<s.cost\/16<=s.moved\/16<=s.other\/65536<=s.work then (0,4) else (((s.cost*16+s.moved)*16+s.other)*65536+s.work,0)
theorem ZbH (s:Sco) (hs:scoR 1152921504606846976 s):PT 31 [.p (Zb9 s)] [.p (.int .i64 (W5 s).1),.p (.int .i64 (W5 s).2)]:=by
 obtain ⟨a1,a2,a3,a4⟩:=hs;refine Zb [] Tryz.func31 rfl ZBZ ?_;simp (disch:=omega) only [Tryz.f31,go_sem,seval];refine (Ks s).use ?_;simp (disch:=omega) only [go_sem,seval];refine Zf [1,9] (fun k:Nat=> [(10,.p (.int .i64 k))]) (fun _=> [Wq s,Wq s]) (fun k=>k<=4/\(0<k->0<=s.cost)/\(1<k->0<=s.moved)/\(2<k->0<=s.other)/\(3<k->0<=s.work)) (fun k=>4-k) 0 ⟨by omega,by omega,by omega,by omega,by omega⟩ (Weak.mk ?_) ?_
 ·simp (disch:=omega) only [Wq,go_sem,seval]
 ·rintro k ⟨hk,k1,k2,k3,k4⟩;simp (disch:=omega) only [Wq,go_sem,seval];refine cD ?_ ?_<;>intro h1<;>simp (disch:=omega) only [Sh.out h1,go_sem,seval]
  ·have:k=0\/k=1\/k=2\/k=3:=by omega
   rcases this with rfl | rfl | rfl | rfl
   ·rw [VX (x:= .int .i64 s.cost) (by omega) (by omega) (by rfl) (by kernel_rfl)];simp (disch:=omega) only [go_sem,seval];refine cD ?_ ?_<;>intro h2<;>simp (disch:=omega) only [Sh.out h2,go_sem,seval]
    ·have e:W5 s=(0,2):=by rw [W5,if_pos (by omega)]
     rw [e];exact we
    ·exact ⟨1,⟨by omega,fun _=>by omega,by omega,by omega,by omega⟩,by omega,Weak.mk (by simp (disch:=omega) only [Wq,go_sem,seval])⟩
   ·rw [VX (x:= .int .i64 s.moved) (by omega) (by omega) (by rfl) (by kernel_rfl)];simp (disch:=omega) only [go_sem,seval];refine cD ?_ ?_<;>intro h2<;>simp (disch:=omega) only [Sh.out h2,go_sem,seval]
    ·have e:W5 s=(0,2):=by rw [W5,if_pos (by omega)]
     rw [e];exact we
    ·exact ⟨2,⟨by omega,fun _=>k1 (by omega),fun _=>by omega,by omega,by omega⟩,by omega,Weak.mk (by simp (disch:=omega) only [Wq,go_sem,seval])⟩
   ·rw [VX (x:= .int .i64 s.other) (by omega) (by omega) (by rfl) (by kernel_rfl)];simp (disch:=omega) only [go_sem,seval];refine cD ?_ ?_<;>intro h2<;>simp (disch:=omega) only [Sh.out h2,go_sem,seval]
    ·have e:W5 s=(0,2):=by rw [W5,if_pos (by omega)]
     rw [e];exact we
    ·exact ⟨3,⟨by omega,fun _=>k1 (by omega),fun _=>k2 (by omega),fun _=>by omega,by omega⟩,by omega,Weak.mk (by simp (disch:=omega) only [Wq,go_sem,seval])⟩
   ·rw [VX (x:= .int .i64 s.work) (by omega) (by omega) (by rfl) (by kernel_rfl)];simp (disch:=omega) only [go_sem,seval];refine cD ?_ ?_<;>intro h2<;>simp (disch:=omega) only [Sh.out h2,go_sem,seval]
    ·have e:W5 s=(0,2):=by rw [W5,if_pos (by omega)]
     rw [e];exact we
    ·exact ⟨4,⟨by omega,fun _=>k1 (by omega),fun _=>k2 (by omega),fun _=>k3 (by omega),fun _=>by omega⟩,by omega,Weak.mk (by simp (disch:=omega) only [Wq,go_sem,seval])⟩
  ·have hk4:k=4:=by omega
   subst hk4;have g1:=k1 (by omega);have g2:=k2 (by omega);have g3:=k3 (by omega);have g4:=k4 (by omega)
   have n1: ¬(s.cost<0\/s.moved<0\/s.other<0\/s.work<0):=by omega
   have bad:(1073741824<s.cost\/16<=s.moved\/16<=s.other\/65536<=s.work)->W5 s=(0,4):=fun h=>by rw [W5,if_neg n1,if_pos h]
   refine gF ?_ ?_<;>intro h2<;>simp (disch:=omega) only [Sh.out h2,go_sem,seval]
   ·rw [bad (by omega)];exact we
   ·refine gF ?_ ?_<;>intro h3<;>simp (disch:=omega) only [Sh.out h3,go_sem,seval]
    ·rw [bad (by omega)];exact we
    ·refine gF ?_ ?_<;>intro h4<;>simp (disch:=omega) only [Sh.out h4,go_sem,seval]
     ·rw [bad (by omega)];exact we
     ·refine cD ?_ ?_<;>intro h5<;>simp (disch:=omega) only [Sh.out h5,go_sem,seval]
      ·rw [bad (by omega)];exact we
      ·have e:W5 s=(((s.cost*16+s.moved)*16+s.other)*65536+s.work,0):=by rw [W5,if_neg n1,if_neg (by omega)]
       rw [e];exact we
def unsF (x:Inst) (i:Int):Sco×Int :=
 if i<0\/(x.orders.length:Int)<=i then (zSco,2)
 else if (nth x.orders i.toNat).off=true then (zSco,9)
 else if (nth x.orders i.toNat).penalty= -1 then (zSco,23)
 else (⟨(nth x.orders i.toNat).penalty,if (nth x.orders i.toNat).now= -1 then 0 else 1,0,0⟩,0)
theorem ZcR (x:Inst) (i:Int) (ho:x.orders.length<=1048576):PT 64 [.p (Zt x),.p (.int .i64 i)] [.p (Zb9 (unsF x i).1),.p (.int .i64 (unsF x i).2)]:=by
 refine Zb [] Tryz.func64 rfl ZCE ?_;simp (disch:=omega) only [Tryz.f64,go_sem,seval];refine gF ?_ ?_<;>intro h1<;>simp (disch:=omega) only [Sh.out h1,go_sem,seval]
 ·have e:unsF x i=(zSco,2):=by rw [unsF,if_pos (by omega)]
  rw [e];exact we (by simp (disch:=omega) only [zSco,go_sem,seval])
 ·refine cD ?_ ?_<;>intro h2<;>simp (disch:=omega) only [Sh.out h2,go_sem,seval]
  ·have e:unsF x i=(zSco,2):=by rw [unsF,if_pos (by omega)]
   rw [e];exact we (by simp (disch:=omega) only [zSco,go_sem,seval])
  ·have hi:i.toNat<x.orders.length:=by omega
   have n1: ¬(i<0\/(x.orders.length:Int)<=i):=by omega
   refine cD ?_ ?_<;>intro h3<;>simp (disch:=omega) only [Sh.out h3,go_sem,seval]
   ·have e:unsF x i=(zSco,9):=by rw [unsF,if_neg n1,if_pos h3]
    rw [e];exact we (by simp (disch:=omega) only [zSco,go_sem,seval])
   ·have h3': ¬(nth x.orders i.toNat).off=true:=by rw [h3];simp
    refine cD ?_ ?_<;>intro h4<;>simp (disch:=omega) only [Sh.out h4,go_sem,seval]
    ·have e:unsF x i=(zSco,23):=by rw [unsF,if_neg n1,if_neg h3',if_pos h4]
     rw [e];exact we (by simp (disch:=omega) only [zSco,go_sem,seval])
    ·refine cD ?_ ?_<;>intro h5<;>simp (disch:=omega) only [Sh.out h5,go_sem,seval]
     ·have e:unsF x i=(⟨(nth x.orders i.toNat).penalty,1,0,0⟩,0):=by rw [unsF,if_neg n1,if_neg h3',if_neg h4,if_neg h5]
      rw [e];exact we
     ·have h5':(nth x.orders i.toNat).now= -1:=by omega
      have e:unsF x i=(⟨(nth x.orders i.toNat).penalty,0,0,0⟩,0):=by rw [unsF,if_neg n1,if_neg h3',if_neg h4,if_pos h5']
      rw [e];exact we
theorem ZaE (x:Inst) (i:Int) (ho:x.orders.length<=1048576):PT 160 [.p (Zt x),.p (.int .i64 i)] [.p (Zb9 (unsF x i).1),.p (.int .i64 (unsF x i).2)]:=by
 refine Zb [] Tryz.func160 rfl Zrn ?_;simp (disch:=omega) only [Tryz.f160,go_sem,seval];refine gF ?_ ?_<;>intro h1<;>simp (disch:=omega) only [Sh.out h1,go_sem,seval]
 ·have e:unsF x i=(zSco,2):=by rw [unsF,if_pos (by omega)]
  rw [e];exact we (by simp (disch:=omega) only [zSco,go_sem,seval])
 ·refine cD ?_ ?_<;>intro h2<;>simp (disch:=omega) only [Sh.out h2,go_sem,seval]
  ·have e:unsF x i=(zSco,2):=by rw [unsF,if_pos (by omega)]
   rw [e];exact we (by simp (disch:=omega) only [zSco,go_sem,seval])
  ·have hi:i.toNat<x.orders.length:=by omega
   have n1: ¬(i<0\/(x.orders.length:Int)<=i):=by omega
   refine cD ?_ ?_<;>intro h3<;>simp (disch:=omega) only [Sh.out h3,go_sem,seval]
   ·have e:unsF x i=(zSco,9):=by rw [unsF,if_neg n1,if_pos h3]
    rw [e];exact we (by simp (disch:=omega) only [zSco,go_sem,seval])
   ·have h3': ¬(nth x.orders i.toNat).off=true:=by rw [h3];simp
    refine cD ?_ ?_<;>intro h4<;>simp (disch:=omega) only [Sh.out h4,go_sem,seval]
    ·have e:unsF x i=(zSco,23):=by rw [unsF,if_neg n1,if_neg h3',if_pos h4]
     rw [e];exact we (by simp (disch:=omega) only [zSco,go_sem,seval])
    ·refine cD ?_ ?_<;>intro h5<;>simp (disch:=omega) only [Sh.out h5,go_sem,seval]
     ·have e:unsF x i=(⟨(nth x.orders i.toNat).penalty,1,0,0⟩,0):=by rw [unsF,if_neg n1,if_neg h3',if_neg h4,if_neg h5]
      rw [e];exact we
     ·have h5':(nth x.orders i.toNat).now= -1:=by omega
      have e:unsF x i=(⟨(nth x.orders i.toNat).penalty,0,0,0⟩,0):=by rw [unsF,if_neg n1,if_neg h3',if_neg h4,if_pos h5']
      rw [e];exact we
def Y7 (s:Sco):Bool:=decide (0<=s.cost)&&decide (s.cost<=1073741824)&&decide (0<=s.moved)&&decide (s.moved<=15)&&decide (0<=s.other)&&decide (s.other<=15)&&decide (0<=s.work)&&decide (s.work<=65535)
theorem ZhX (s:Sco):PC 201 [.p (Zb9 s)] (.bool (Y7 s)):=by
 refine Za Tryz.func201 rfl Ztx ?_;simp (disch:=omega) only [Tryz.f201,go_sem,seval];refine gT ?_ ?_<;>intro h1<;>simp (disch:=omega) only [Sh.out h1,go_sem,seval]
 ·refine gT ?_ ?_<;>intro h2<;>simp (disch:=omega) only [Sh.out h2,go_sem,seval]
  ·refine gT ?_ ?_<;>intro h3<;>simp (disch:=omega) only [Sh.out h3,go_sem,seval]
   ·refine gT ?_ ?_<;>intro h4<;>simp (disch:=omega) only [Sh.out h4,go_sem,seval]
    ·refine gT ?_ ?_<;>intro h5<;>simp (disch:=omega) only [Sh.out h5,go_sem,seval]
     ·refine gT ?_ ?_<;>intro h6<;>simp (disch:=omega) only [Sh.out h6,go_sem,seval]
      ·refine gT ?_ ?_<;>intro h7<;>simp (disch:=omega) only [Sh.out h7,go_sem,seval]
       ·simp [Y7,h1,h2,h3,h4,h5,h6,h7]
       ·simp [Y7,h1,h2,h3,h4,h5,h6,h7]
      ·simp [Y7,h1,h2,h3,h4,h5,h6]
     ·simp [Y7,h1,h2,h3,h4,h5]
    ·simp [Y7,h1,h2,h3,h4]
   ·simp [Y7,h1,h2,h3]
  ·simp [Y7,h1,h2]
 ·simp [Y7,h1]
theorem JZ (s:Sco) (hs:scoR 1152921504606846976 s):PT 161 [.p (Zb9 s)] [.p (.int .i64 (W5 s).1),.p (.int .i64 (W5 s).2)]:=by
 obtain ⟨a1,a2,a3,a4⟩:=hs
 have bad:(s.cost<0\/s.moved<0\/s.other<0\/s.work<0)->W5 s=(0,2):=fun h=>by rw [W5,if_pos h]
 refine Zb [] Tryz.func161 rfl Zsu ?_;simp (disch:=omega) only [Tryz.f161,go_sem,seval];refine gF ?_ ?_<;>intro h1<;>simp (disch:=omega) only [Sh.out h1,go_sem,seval]
 ·rw [bad (by omega)];exact we
 ·refine gF ?_ ?_<;>intro h2<;>simp (disch:=omega) only [Sh.out h2,go_sem,seval]
  ·rw [bad (by omega)];exact we
  ·refine gF ?_ ?_<;>intro h3<;>simp (disch:=omega) only [Sh.out h3,go_sem,seval]
   ·rw [bad (by omega)];exact we
   ·refine cD ?_ ?_<;>intro h4<;>simp (disch:=omega) only [Sh.out h4,go_sem,seval]
    ·rw [bad (by omega)];exact we
    ·have n1: ¬(s.cost<0\/s.moved<0\/s.other<0\/s.work<0):=by omega
     refine (ZhX s).use ?_;simp (disch:=omega) only [go_sem,seval];refine cD ?_ ?_<;>intro h5<;>simp (disch:=omega) only [Sh.out h5,go_sem,seval]
     ·have e:W5 s=(0,4):=by
       have h6: ¬Y7 s=true:=by simpa using h5
       rw [W5,if_neg n1,if_pos];refine Classical.byContradiction fun h7=>h6 ?_;simp [Y7];omega
      rw [e];exact we
     ·have h6:Y7 s=true:=by simpa using h5
      simp [Y7] at h6
      have e:W5 s=(((s.cost*16+s.moved)*16+s.other)*65536+s.work,0):=by rw [W5,if_neg n1,if_neg (by omega)]
      rw [e];simp (disch:=omega) only [go_sem,seval];exact we
theorem K8 {x:Inst} (hx:InstOk x) (i:Int):scoR 1073741824 (unsF x i).1:=by
 unfold unsF
 split
 ·simp [scoR,zSco]
 ·split
  ·simp [scoR,zSco]
  ·split
   ·simp [scoR,zSco]
   ·have ha:=(hx.orders.2 i.toNat (by omega)).arg;simp only [argOk,rng,Bool.and_eq_true,decide_eq_true_eq] at ha;simp only [scoR]
    split<;>omega
theorem WI {a:Sco} {B C:Int} (h:B<=C) (ha:scoR B a):scoR C a:=by
 simp only [scoR] at *
 omega
def ZlY (x:Inst) (t:Typ) (r:Rte) (c:Bool) (sp:List Stp):PV:= .agg [.list x.net.places_c (x.net.places.map eS),.list x.net.arcs_c (x.net.arcs.map Qh),.list x.types_c (x.types.map U7),.list x.orders_c (x.orders.map Ug),.list x.apart_c (x.apart.map eP),.list x.before_c (x.before.map eP),.str t.name,.int .i64 t.count,.int .i64 t.src,.int .i64 t.dst,.list t.cap_c (t.cap.map eI),.int .i64 t.skills,.int .i64 t.prof,.int .i64 t.opn,.int .i64 t.cls,.int .i64 t.drive,.int .i64 t.rest,.int .i64 t.fixed,.int .i64 t.perMile,.int .i64 t.perTick,.int .i64 r.typ,.int .i64 r.start,.list r.rests_c (r.rests.map eB),.list r.visits_c (r.visits.map Z5),.list c (sp.map Zhm)]
@[go_sem] theorem ZCw (x:Inst) (t:Typ) (r:Rte) (c:Bool) (sp:List Stp):ZlY x t r c sp= .agg [.list x.net.places_c (x.net.places.map eS),.list x.net.arcs_c (x.net.arcs.map Qh),.list x.types_c (x.types.map U7),.list x.orders_c (x.orders.map Ug),.list x.apart_c (x.apart.map eP),.list x.before_c (x.before.map eP),.str t.name,.int .i64 t.count,.int .i64 t.src,.int .i64 t.dst,.list t.cap_c (t.cap.map eI),.int .i64 t.skills,.int .i64 t.prof,.int .i64 t.opn,.int .i64 t.cls,.int .i64 t.drive,.int .i64 t.rest,.int .i64 t.fixed,.int .i64 t.perMile,.int .i64 t.perTick,.int .i64 r.typ,.int .i64 r.start,.list r.rests_c (r.rests.map eB),.list r.visits_c (r.visits.map Z5),.list c (sp.map Zhm)]:=Eq.trans rfl rfl
def ZyO (x:Inst) (t:Typ) (r:Rte):List V:= [.p (.list x.net.places_c (x.net.places.map eS)),.p (.list x.net.arcs_c (x.net.arcs.map Qh)),.p (.list x.types_c (x.types.map U7)),.p (.list x.orders_c (x.orders.map Ug)),.p (.list x.apart_c (x.apart.map eP)),.p (.list x.before_c (x.before.map eP)),.p (.str t.name),.p (.int .i64 t.count),.p (.int .i64 t.src),.p (.int .i64 t.dst),.p (.list t.cap_c (t.cap.map eI)),.p (.int .i64 t.skills),.p (.int .i64 t.prof),.p (.int .i64 t.opn),.p (.int .i64 t.cls),.p (.int .i64 t.drive),.p (.int .i64 t.rest),.p (.int .i64 t.fixed),.p (.int .i64 t.perMile),.p (.int .i64 t.perTick),.p (.int .i64 r.typ),.p (.int .i64 r.start),.p (.list r.rests_c (r.rests.map eB)),.p (.list r.visits_c (r.visits.map Z5))]
def X7 (x:Inst) (t:Typ) (r:Rte) (c:Bool) (sp:List Stp):AM.Obj:= .cells [.p (.list x.net.places_c (x.net.places.map eS)),.p (.list x.net.arcs_c (x.net.arcs.map Qh)),.p (.list x.types_c (x.types.map U7)),.p (.list x.orders_c (x.orders.map Ug)),.p (.list x.apart_c (x.apart.map eP)),.p (.list x.before_c (x.before.map eP)),.p (.str t.name),.p (.int .i64 t.count),.p (.int .i64 t.src),.p (.int .i64 t.dst),.p (.list t.cap_c (t.cap.map eI)),.p (.int .i64 t.skills),.p (.int .i64 t.prof),.p (.int .i64 t.opn),.p (.int .i64 t.cls),.p (.int .i64 t.drive),.p (.int .i64 t.rest),.p (.int .i64 t.fixed),.p (.int .i64 t.perMile),.p (.int .i64 t.perTick),.p (.int .i64 r.typ),.p (.int .i64 r.start),.p (.list r.rests_c (r.rests.map eB)),.p (.list r.visits_c (r.visits.map Z5)),.p (.list c (sp.map Zhm))]
def ZyR : AM.Obj:= .cells [.p (.list true []),.p (.list true []),.p (.list true []),.p (.list true []),.p (.list true []),.p (.list true []),.p (.str []),.p (.int .i64 0),.p (.int .i64 0),.p (.int .i64 0),.p (.list true []),.p (.int .i64 0),.p (.int .i64 0),.p (.int .i64 0),.p (.int .i64 0),.p (.int .i64 0),.p (.int .i64 0),.p (.int .i64 0),.p (.int .i64 0),.p (.int .i64 0),.p (.int .i64 0),.p (.int .i64 0),.p (.list true []),.p (.list true []),.p (.list true [])]
def Ku (L:Lab):PV:= .agg [.int .i64 L.ready,.int .i64 L.since,.bool L.she.rest,.int .i64 L.she.dep,.list L.she.times_c (L.she.times.map eTim),.int .i64 L.she.fin,.int .i64 L.she.miles]
@[go_sem] theorem ZBW (L:Lab):Ku L= .agg [.int .i64 L.ready,.int .i64 L.since,.bool L.she.rest,.int .i64 L.she.dep,.list L.she.times_c (L.she.times.map eTim),.int .i64 L.she.fin,.int .i64 L.she.miles]:=Eq.trans rfl rfl
@[go_sem] theorem Zwo (l:List Lab):Zcd 7 (l.map Ku)=true:=Qr (f:=Ku) (S:=7) (fun _=>rfl) l
def YU (L:Lab):AM.Obj:= .cells [.p (.int .i64 L.ready),.p (.int .i64 L.since),.p (.bool L.she.rest),.p (.int .i64 L.she.dep),.p (.list L.she.times_c (L.she.times.map eTim)),.p (.int .i64 L.she.fin),.p (.int .i64 L.she.miles)]
theorem Zko (l:List Tim) (c:Bool) (hl:l.length<=1048576):ACalls Tryz.prog 237 [.p (.list c (l.map eTim))] [] fun x H'=>x= .sl 0 0 l.length l.length/\H'= [.elems 4 (l.map eTim)]:=by
 suffices hh:ACalls Tryz.prog 237 [.p (.list c (l.map eTim))] [] fun x H'=> ∃m:List Tim,m=l/\x= .sl 0 0 m.length m.length/\H'= [.elems 4 (m.map eTim)] by
  refine hh.mono fun x H' h=> ?_;obtain ⟨m,rfl,h1,h2⟩:=h;exact ⟨h1,h2⟩
 refine Zb [1] Tryz.func237 rfl Zvd ?_;simp (disch:=omega) only [Tryz.f237,go_sem,seval];refine XW (XW (ZmZ 1 rfl rfl ?_));refine ⟨_,Zou (e:=298) rfl Tryz.underlying113 rfl (fun _=>rfl),?_⟩;rintro _ ⟨b,rfl,hb⟩;simp (disch:=omega) only [go_sem,seval];refine Zd [] _ _ _ _ ?_
 cases b with
 | true =>
  have hn:l= []:=by simpa using hb rfl
  subst hn;simp (disch:=omega) only [go_sem,seval];exact ⟨_,_,Weak.ofNil 0 4 rfl (by simp) (wk),[],rfl,rfl,rfl⟩
 | false =>
  simp (disch:=omega) only [go_sem,seval];refine Zd [] _ _ _ _ ?_;simp (disch:=omega) only [go_sem,seval];exact ⟨.sl 0 0 l.length l.length,[.elems 4 (l.map eTim)],wk,l,rfl,rfl,rfl⟩
theorem Za7 (x:Inst) (t:Typ) (r:Rte) (c:Bool) (sp:List Stp):PC 175 [.p (ZlY x t r c sp)] (Ku (labF t r.start)):=by
 refine Zb [] Tryz.func175 rfl Zst ?_;simp (disch:=omega) only [Tryz.f175,go_sem,seval];exact we (by simp (disch:=omega) only [labF,zShe,List.map_nil,go_sem,seval])
theorem Zjz (x:Inst) (t:Typ) (r:Rte) (c:Bool) (sp:List Stp) (k:Nat) (hk:k<=sp.length) (hl:sp.length<=1048576):PC 238 [.p (ZlY x t r c sp),.p (.int .i64 (k:Nat))] (.int .i64 (Qq t sp k)):=by
 refine Za Tryz.func238 rfl Zr5 ?_;simp (disch:=omega) only [Tryz.f238,go_sem,seval];refine cD ?_ ?_<;>intro h<;>simp (disch:=omega) only [Sh.out h,go_sem,seval]
 ·have:k=0:=by omega
  rw [Qq,if_pos this]
 ·have e1:((k:Int)-1).toNat=k-1:=by omega
  have h2: ¬k=0:=by omega
  rw [Qq,if_neg h2]
  done
theorem Zvo (x:Inst) (r:Rte) (hx:InstOk x) (hty:0<=r.typ/\r.typ<(x.types.length:Int)) (h0:ZR x r.visits=0) (hs:0<=r.start/\r.start<=4096) :
  PT 174 [.p (Zt x),.p (Wr r)] [.p (ZlY x (Z2 x r) r false (ZA x r.visits)),.p (.bool true)]:=by
 have hd:=WN hx;have hsq:=Wz h0;have hol:=hd.ord;have htl:=hd.typ;have hvl:=hsq.len hol
 have e1: ¬r.typ<0:=by omega
 have e2: ¬(x.types.length:Int)<=r.typ:=by omega
 have e3: ¬r.start<0:=by omega
 have e4: ¬ 4096<r.start:=by omega
 have e5: ¬ 20<(r.visits.length:Int):=by omega
 refine Zb [12] Tryz.func174 rfl Zmq ?_;simp (disch:=omega) only [Tryz.f174,e1,e2,e3,e4,e5,go_sem,seval];refine ZP [9] 10 mixed (by kernel_rfl) (by kernel_rfl) (by kernel_rfl) (by simp) ?_;simp (disch:=omega) only [go_sem,seval];refine ZC 9 _ _ (by kernel_rfl) (by simp (disch:=omega) only [go_sem,seval];exact ⟨rfl,rfl⟩) (Xr ?_);simp (disch:=omega) only [go_sem,seval]
 refine ZE [12] [2,4,6,49,50] (fun q:Nat×List Stp=> [(51,.p (.int .i64 q.1))])
  (fun q=> [Zc x,ZB r,ZyR,.cells (ZyO x (Z2 x r) r++ [.sl 4 0 q.2.length q.2.length]),.elems 4 (q.2.map Zhm)])
  (fun q=>q.1<=r.visits.length/\q.2=(ZA x r.visits).take q.1) (fun q=>r.visits.length-q.1) (0,[]) (by simp) ((Weak.nilC (o:=3) (j:=24) 4 rfl rfl (by simp)).trans (Weak.mk ?_)) ?_
 ·simp (disch:=omega) only [Zc,ZB,ZyR,ZyO,Z2,List.map_nil,List.length_nil,List.set_cons_succ,List.set_cons_zero,List.cons_append,List.nil_append,go_sem,seval]
 ·rintro ⟨k,o⟩ ⟨hk,ho⟩;simp only at hk ho
  have hol2:o.length=k:=by rw [ho];simp [Xi];omega
  simp (disch:=omega) only [Zc,ZB,ZyR,ZyO,go_sem,seval];refine cD ?_ ?_<;>intro h1<;>simp (disch:=omega) only [Sh.out h1,go_sem,seval]
  ·have hk2:k<r.visits.length:=by omega
   have hvis:=hsq.vis (Zp hk2);simp only [Zas,Bool.and_eq_true,decide_eq_true_eq] at hvis
   have hsn:o++ [Xf x (nth r.visits k)]=(ZA x r.visits).take (k+1):=by
    rw [ho,List.take_succ_eq_append_getElem (by rw [Xi];exact hk2),<- Ze,Kk hk2]
   have hnp: ¬(Xf x (nth r.visits k)).place<0:=by omega
   refine Xs (Zf3 x (nth r.visits k) (by omega) hvis.1 hvis.2) ?_;simp (disch:=omega) only [hnp,go_sem,seval];exact ⟨(k+1,o++ [Xf x (nth r.visits k)]),⟨by simp only;omega,hsn⟩,by simp only;omega,Weak.mk (by simp (disch:=omega) only [Zc,ZB,ZyR,ZyO,List.length_append,List.length_cons,List.length_nil,List.map_append,List.map_cons,List.map_nil,List.cons_append,List.nil_append,go_sem,seval])⟩
  ·have hkl:k=r.visits.length:=by omega
   subst hkl
   have hso:o=ZA x r.visits:=by rw [ho,<- Xi (x:=x) (l:=r.visits),List.take_length]
   subst hso;refine Zm (Weak.fz (o:=4) (by rfl)) ?_;refine Zd [] _ _ _ _ ?_;simp (disch:=omega) only [List.map_cons,List.map_nil,List.set_cons_succ,List.set_cons_zero,go_sem,seval];exact we
def Zl9 (rd sn:Int) (m:She):AM.Obj:= .cells [.p (.int .i64 rd),.p (.int .i64 sn),.p (.bool m.rest),.p (.int .i64 m.dep),.sl 4 0 m.times.length m.times.length,.p (.int .i64 m.fin),.p (.int .i64 m.miles)]
theorem Kp {P:Program} {H:List AM.Obj} {f ars} {a b d:PV} {B:V->Prop} {t} (h:ACalls P f ars [] fun x H'=>x= .tup [.p a,.p b,.p d]/\H'= []) (k:B (.tup [.p a,.p b,.p d])) (ha:ZU 0 ars=true:=by rfl) :
  exq (fun y=>ACalls P f ars H (Zy (Zy (fun x H'=>x=y/\H'=H) ⟨⟩) ⟨⟩)) (Zy B t) :=
 ⟨.tup [.p a,.p b,.p d],(h.behind ha H).mono fun x H' hq=>by
  obtain ⟨y,H1,⟨rfl,rfl⟩,rfl,rfl⟩:=hq
  simp [shV,shVs,Zy],k⟩
theorem Zwh (x:Inst) (t:Typ) (r:Rte) (c:Bool) (sp:List Stp) (hok:TrpOk x t sp) (k:Nat) (hk:k<=sp.length) (hs1:0<sp.length) (L:Lab) (hL:LabR k L) (hlen:L.she.times.length=k) (hclip:0<k->L.she.times_c=false) (b:Bool) :
  PT 212 [.p (ZlY x t r c sp),.p (Ku L),.p (.int .i64 (k:Nat)),.p (.bool b)] [.p (Ku (nxtF x t sp k L b).1),.p (.int .i64 (nxtF x t sp k L b).2)]:=by
 have hd:=VK hok hL b;have hsn:=K5 hL b;have hg:=Zcu hok hL b;have hmi:=hL.mil;have hrd:=hL.rdy;have hsnL:=hL.snc;have hsl:=hok.len;have hrst:=hok.rst;unfold nxtF;have hmm:= @Vv k (ZW t L b) b L.she;have hmf:= @Zbs k (ZW t L b) b L.she;have hml:= @Ub k (ZW t L b) b L.she;refine Zb [2,7,14,31] Tryz.func212 rfl Zrs ?_;simp (disch:=omega) only [Tryz.f212,go_sem,seval];refine Zg mixed (by kernel_rfl) (by kernel_rfl) ?_;simp (disch:=omega) only [go_sem,seval];refine Zo [2,3,4,5,8] (fun _:Unit=> [(10,.p (.int .i64 (ZW t L b))),(11,.p (.int .i64 (W3 L b)))]) (fun _=> [X7 x t r c sp,YU L,YU W0]) (fun _=>True) ?_ ?_
 ·simp (disch:=omega) only [go_sem,seval];refine cD ?_ ?_<;>intro h<;>simp (disch:=omega) only [Sh.out h,go_sem,seval]
  ·subst h;exact ⟨(),Weak.mk (by simp (disch:=omega) only [X7,YU,W0,zShe,ZW,W3,List.map_nil,go_sem,seval])⟩
  ·subst h;exact ⟨(),Weak.mk (by simp (disch:=omega) only [X7,YU,W0,zShe,ZW,W3,List.map_nil,go_sem,seval])⟩
 ·intro _ _;refine Zd [7,14,31] _ _ _ _ ?_;simp (disch:=omega) only [X7,YU,W0,zShe,List.map_nil,go_sem,seval];refine (Zko L.she.times L.she.times_c (by omega)).useF ?_;simp (disch:=omega) only [go_sem,seval]
  generalize hM:Xx k (ZW t L b) b L.she=M at *
  refine Zo [2,4,8,10,11,12] (fun _:Unit=> []) (fun _=> [X7 x t r c sp,YU L,YU W0,Zl9 0 0 M,.elems 4 (M.times.map eTim)]) (fun _=>True) ?_ ?_
  ·simp (disch:=omega) only [go_sem,seval];refine cD ?_ ?_<;>intro h<;>simp (disch:=omega) only [Sh.out h,go_sem,seval]
   ·have hk0:k=0:=by omega
    subst hk0
    have e:M= { L.she with rest:=b,dep:=ZW t L b } :=by rw [<- hM,Xx,if_pos rfl]
    rw [e];exact ⟨(),Weak.mk (by simp (disch:=omega) only [X7,YU,W0,zShe,Zl9,List.map_nil,go_sem,seval])⟩
   ·have e1:((k:Int)-1).toNat=k-1:=by omega
    have hk1:k-1<L.she.times.length:=by omega
    have Zhk:(L.she.times.map eTim).set (k-1) (PV.agg [.int .i64 (nth L.she.times (k-1)).arr,.int .i64 (nth L.she.times (k-1)).beg,.int .i64 (nth L.she.times (k-1)).dep,.bool b])=(L.she.times.set (k-1) { nth L.she.times (k-1) with rest:=b }).map eTim:=by
     rw [List.map_set];rfl
    have hn1:nth (L.she.times.set (k-1) { nth L.she.times (k-1) with rest:=b }) (k-1)= { nth L.she.times (k-1) with rest:=b } :=by
     rw [Ze (by simpa using hk1)];simp
    have hl1:(L.she.times.set (k-1) { nth L.she.times (k-1) with rest:=b }).length=L.she.times.length:=by simp
    have hMt:M.times=(L.she.times.set (k-1) { nth L.she.times (k-1) with rest:=b }).set (k-1) { nth (L.she.times.set (k-1) { nth L.she.times (k-1) with rest:=b }) (k-1) with dep:=ZW t L b } :=by
     rw [hn1,List.set_set,<- hM,Xx,if_neg (by omega)];rfl
    have hM2:M.rest=L.she.rest/\M.dep=L.she.dep:=by rw [<- hM,Xx,if_neg (by omega)];exact ⟨rfl,rfl⟩
    simp (disch:=first | omega | (simp only [List.length_cons,List.length_nil,List.length_append,List.length_map,List.length_take,List.length_drop]<;>omega)) only [e1,go_sem,seval];rw [Zhk]
    generalize L.she.times.set (k-1) { nth L.she.times (k-1) with rest:=b } =l1 at *
    simp (disch:=first | omega | (simp only [List.length_cons,List.length_nil,List.length_append,List.length_map,List.length_take,List.length_drop]<;>omega)) only [e1,hl1,eq_self,decide_true,go_sem,seval];refine ⟨(),Weak.mk ?_⟩;simp (disch:=omega) only [X7,YU,W0,zShe,Zl9,List.map_nil,hM2.1,hM2.2,hmm,hmf,hml,go_sem,seval];rw [hMt,List.map_set]
    rfl
  ·intro _ _;refine Zd [14,31] _ _ _ _ ?_;simp (disch:=omega) only [X7,YU,W0,zShe,Zl9,List.map_nil,go_sem,seval];refine Zo [2,4,8,10,11,12,13] (fun _:Unit=> [(14,.p (.int .i64 (toF t sp k)))]) (fun _=> [X7 x t r c sp,YU L,YU W0,Zl9 0 0 M,.elems 4 (M.times.map eTim)]) (fun _=>True) ?_ ?_
   ·simp (disch:=omega) only [go_sem,seval];refine cD ?_ ?_<;>intro h<;>simp (disch:=omega) only [Sh.out h,go_sem,seval]
    ·have e:toF t sp k=(nth sp k).place:=by rw [toF,if_neg (by omega)]
     exact ⟨(),Weak.mk (by simp (disch:=omega) only [X7,YU,W0,zShe,Zl9,List.map_nil,e,go_sem,seval])⟩
    ·have e:toF t sp k=t.dst:=by rw [toF,if_pos (by omega)]
     exact ⟨(),Weak.mk (by simp (disch:=omega) only [X7,YU,W0,zShe,Zl9,List.map_nil,e,go_sem,seval])⟩
   ·intro _ _;refine Zd [31] _ _ _ _ ?_;simp (disch:=omega) only [X7,YU,W0,zShe,Zl9,List.map_nil,go_sem,seval];refine Zg mixed (by kernel_rfl) (by kernel_rfl) ?_;simp (disch:=omega) only [go_sem,seval];refine Zj (Zjz x t r c sp k hk (by omega)) ?_;simp (disch:=omega) only [go_sem,seval];refine Kp (Ztb x.net t.prof (Qq t sp k) (toF t sp k) (ZW t L b) hok.net (by omega)) ?_;simp (disch:=omega) only [go_sem,seval];have hG:goN x.net t.prof (Qq t sp k) (toF t sp k) (ZW t L b)=goL x t sp k (ZW t L b):=rfl;rw [hG];clear hG
    generalize goL x t sp k (ZW t L b)=g at *
    generalize ZW t L b=d at *
    generalize W3 L b=s at *
    refine cD ?_ ?_<;>intro h1<;>simp (disch:=omega) only [Sh.out h1,go_sem,seval]
    ·have e:Vy t sp k g d s M=(W0,12):=by rw [Vy,if_pos h1]
     rw [e];exact we (by simp (disch:=omega) only [W0,zShe,List.map_nil,go_sem,seval])
    ·refine cD ?_ ?_<;>intro h2<;>simp (disch:=omega) only [Sh.out h2,go_sem,seval]
     ·refine cD ?_ ?_<;>intro h3<;>simp (disch:=omega) only [Sh.out h3,go_sem,seval]
      ·have e:Vy t sp k g d s M=(W0,15):=by rw [Vy,if_neg h1,if_pos (by omega),if_pos h3]
       rw [e];exact we (by simp (disch:=omega) only [W0,zShe,List.map_nil,go_sem,seval])
      ·refine Zm (Weak.fz (o:=4) (by rfl)) ?_;refine Zd [] _ _ _ _ ?_;simp (disch:=omega) only [List.map_cons,List.map_nil,List.set_cons_succ,List.set_cons_zero,go_sem,seval];refine cD ?_ ?_<;>intro h4<;>simp (disch:=omega) only [Sh.out h4,go_sem,seval]
       ·have e:Vy t sp k g d s M=(W0,16):=by rw [Vy,if_neg h1,if_pos (by omega),if_neg h3,if_pos h4]
        rw [e];exact we (by simp (disch:=omega) only [W0,zShe,List.map_nil,go_sem,seval])
       ·have e:Vy t sp k g d s M=(⟨g.1,s+g.1-d,{ M with fin:=g.1,miles:=M.miles+g.2.1 }⟩,0):=by rw [Vy,if_neg h1,if_pos (by omega),if_neg h3,if_neg h4]
        have hMc:M.times_c=false:=by
         rw [<- hM,Xx,if_neg (by omega)];exact hclip (by omega)
        rw [e];exact we (by simp (disch:=omega) only [hMc,go_sem,seval])
     ·have h2': ¬k=sp.length:=by omega
      have hkl:k<sp.length:=by omega
      have hstp:=hok.stp _ (Zv hkl);refine Xs (Zf6 (nth sp k) g.1) ?_;unfold ZiM
      by_cases h3:(nth sp k).cls<max g.1 (nth sp k).opn
      ·have e:Vy t sp k g d s M=(W0,14):=by rw [Vy,if_neg h1,if_neg h2',if_pos h3]
       rw [e,if_pos h3];simp (disch:=omega) only [go_sem,seval];exact we (by simp (disch:=omega) only [W0,zShe,List.map_nil,go_sem,seval])
      ·rw [if_neg h3];simp (disch:=omega) only [go_sem,seval];refine Zm (Weak.fz (o:=4) (by rfl)) ?_;refine Zd [] _ _ _ _ ?_;simp (disch:=omega) only [List.map_cons,List.map_nil,List.set_cons_succ,List.set_cons_zero,go_sem,seval];refine cD ?_ ?_<;>intro h4<;>simp (disch:=omega) only [Sh.out h4,go_sem,seval]
       ·have e:Vy t sp k g d s M=(W0,16):=by rw [Vy,if_neg h1,if_neg h2',if_neg h3,if_pos h4]
        rw [e];exact we (by simp (disch:=omega) only [W0,zShe,List.map_nil,go_sem,seval])
       ·have e:Vy t sp k g d s M=(⟨max g.1 (nth sp k).opn+(nth sp k).serv,s+g.1-d,{ M with times_c:=false,times:=M.times++ [⟨g.1,max g.1 (nth sp k).opn,0,false⟩],miles:=M.miles+g.2.1 }⟩,0):=by rw [Vy,if_neg h1,if_neg h2',if_neg h3,if_neg h4]
        rw [e];exact we
theorem Zic {x t sp k L b} (hs:0<sp.length) (hc:0<k->L.she.times_c=false) (he:(nxtF x t sp k L b).2=0):(nxtF x t sp k L b).1.she.times_c=false:=by
 have hm:0<k->(Xx k (ZW t L b) b L.she).times_c=false:=fun h=>by rw [Xx,if_neg (by omega)];exact hc h
 unfold nxtF at he ⊢
 generalize goL x t sp k (ZW t L b)=g at *
 generalize ZW t L b=d at *
 generalize W3 L b=s at *
 generalize Xx k d b L.she=m at *
 unfold Vy at he ⊢
 split at he
 ·simp at he
 ·rename_i c1;rw [if_neg c1]
  split at he
  ·rename_i c2;rw [if_pos c2]
   split at he
   ·simp at he
   ·rename_i c3;rw [if_neg c3]
    split at he
    ·simp at he
    ·rename_i c4;rw [if_neg c4];exact hm (by omega)
  ·rename_i c2;rw [if_neg c2]
   split at he
   ·simp at he
   ·rename_i c3;rw [if_neg c3]
    split at he
    ·simp at he
    ·rename_i c4;rw [if_neg c4]
structure LabO (n k:Nat) (L:Lab):Prop where
 rng:LabR k L
 len:k<=n->L.she.times.length=k
 clip:0<k->L.she.times_c=false
theorem Zbb {x t sp k L b} (hok:TrpOk x t sp) (hs:0<sp.length) (hk:k<=sp.length) (h:LabO sp.length k L) (he:(nxtF x t sp k L b).2=0):LabO sp.length (k+1) (nxtF x t sp k L b).1 :=
 ⟨Zc9 hok hk h.rng he,fun hk2=>JR (h.len hk) he (by omega),fun _=>Zic hs h.clip he⟩
theorem Za6 {x t sp} (hok:TrpOk x t sp) {st:Int} (hst:0<=st/\st<=4096):LabO sp.length 0 (labF t st) :=
 ⟨⟨by have:=hok.opn;simp only [labF];omega,by simp [labF],by simp [labF,zShe]⟩,fun _=>rfl,fun h=>by omega⟩
theorem Zgl (x:Inst) (t:Typ) (r:Rte) (c:Bool) (sp:List Stp) (hok:TrpOk x t sp) (k:Nat) (hk:k<=sp.length) (hs1:0<sp.length) (L:Lab) (hL:LabO sp.length k L) (b:Bool) :
  PT 212 [.p (ZlY x t r c sp),.p (Ku L),.p (.int .i64 (k:Nat)),.p (.bool b)] [.p (Ku (nxtF x t sp k L b).1),.p (.int .i64 (nxtF x t sp k L b).2)] :=
 Zwh x t r c sp hok k hk hs1 L hL.rng (hL.len hk) hL.clip b
theorem ZCl (x:Inst) (t:Typ) (r:Rte) (c:Bool) (sp:List Stp) (hok:TrpOk x t sp) (hs1:0<sp.length) (hst:0<=r.start/\r.start<=4096) (bs:List Bool) (d:Bool) (hb:bs.length=sp.length+1) :
  PT 177 [.p (ZlY x t r c sp),.p (.list d (bs.map eB))] [.p (Zhg (XV x t sp 0 (labF t r.start) bs).1.she),.p (.int .i64 (XV x t sp 0 (labF t r.start) bs).2)]:=by
 have hsl:=hok.len;refine Zb [] Tryz.func177 rfl Zwa ?_;simp (disch:=omega) only [Tryz.f177,go_sem,seval];refine (Za7 x t r c sp).use ?_;simp (disch:=omega) only [go_sem,seval]
 refine Zf [2,4,6,13,14] (fun q:Nat×Lab=> [(15,.p (.int .i64 q.1))]) (fun q=> [X7 x t r c sp,.cells [.p (.bool false),.p (.int .i64 0),.p (.list true []),.p (.int .i64 0),.p (.int .i64 0)],YU q.2])
  (fun q=>q.1<=bs.length/\XV x t sp 0 (labF t r.start) bs=XV x t sp q.1 q.2 (bs.drop q.1)/\LabO sp.length q.1 q.2) (fun q=>bs.length-q.1) (0,labF t r.start) ⟨by simp,by simp,Za6 hok hst⟩ (Weak.mk ?_) ?_
 ·simp (disch:=omega) only [X7,YU,go_sem,seval]
 ·rintro ⟨k,L⟩ ⟨hk,hrun,hL⟩;simp only at hk hrun hL;simp (disch:=omega) only [X7,YU,go_sem,seval];refine cD ?_ ?_<;>intro h1<;>simp (disch:=omega) only [Sh.out h1,go_sem,seval]
  ·have hk2:k<bs.length:=by omega
   have hdrop:bs.drop k=nth bs k::bs.drop (k+1):=by rw [List.drop_eq_getElem_cons hk2,Ze hk2]
   rw [hdrop,XV] at hrun;have cn:=Zgl x t r c sp hok k (by omega) hs1 L hL (nth bs k);have hL2:=Zbb (x:=x) (t:=t) (b:=nth bs k) hok hs1 (by omega) hL
   generalize nxtF x t sp k L (nth bs k)=N at *
   refine Xs cn ?_;simp (disch:=omega) only [go_sem,seval];refine cD ?_ ?_<;>intro h2<;>simp (disch:=omega) only [Sh.out h2,go_sem,seval]
   ·rw [hrun,if_neg h2];exact we (by simp (disch:=omega) only [W0,zShe,List.map_nil,go_sem,seval])
   ·rw [if_pos (by omega)] at hrun;exact ⟨(k+1,N.1),⟨by simp only;omega,hrun,hL2 (by omega)⟩,by simp only;omega,Weak.mk (by simp (disch:=omega) only [X7,YU,go_sem,seval])⟩
  ·have hkl:k=bs.length:=by omega
   subst hkl;rw [List.drop_length,XV] at hrun;rw [hrun];exact we
theorem Zm2 (l m:Lab):PC 215 [.p (Ku l),.p (Ku m)] (.bool (ZH l m)):=by
 refine Za Tryz.func215 rfl ZvW ?_;simp (disch:=omega) only [Tryz.f215,go_sem,seval];refine gT ?_ ?_<;>intro h<;>simp (disch:=omega) only [Sh.out h,go_sem,seval]
 ·simp [ZH,h]
 ·simp [ZH,h]
def gH (x:Inst) (t:Typ) (r:Rte) (c:Bool) (sp:List Stp) (o:List Lab) (f z:Lab):List AM.Obj:= [X7 x t r c sp,.dead,.elems 7 (o.map Ku),YU f,YU z]
theorem Zn1 (x:Inst) (t:Typ) (r:Rte) (c:Bool) (sp:List Stp) (o:List Lab) (f z m:Lab):ACalls Tryz.prog 214 [.p (Ku m),.ptr 4 0] (gH x t r c sp o f z) fun y H'=>y= .p (.bool (ZH m z))/\H'=gH x t r c sp o f z:=by
 refine Zb [] Tryz.func214 rfl Zqr ?_;simp (disch:=omega) only [Tryz.f214,gH,X7,YU,go_sem,seval];refine (Zm2 m z).use ?_;simp (disch:=omega) only [go_sem,seval];exact we (by simp (disch:=omega) only [gH,X7,YU,go_sem,seval])
theorem Zfe (x:Inst) (t:Typ) (r:Rte) (c:Bool) (sp:List Stp) (o:List Lab) (f z:Lab) (hl:o.length<=2097152) :
  ACalls Tryz.prog 239 [.sl 2 0 o.length o.length,.fn (.func 214) [] [.ptr 4 0]] (gH x t r c sp o f z) fun y H'=>y= .p (.int .i64 (gIx (fun m=>ZH m z) o))/\H'=gH x t r c sp o f z:=by
 refine Zb [] Tryz.func239 rfl ZsL ?_;simp (disch:=omega) only [Tryz.f239,gH,X7,YU,go_sem,seval];refine Zf [0,1,7] (fun k:Nat=> [(8,.p (.int .i64 k))]) (fun _=>gH x t r c sp o f z) (fun k=>k<=o.length/\ ∀j,j<k->ZH (nth o j) z=false) (fun k=>o.length-k) 0 (by simp) (Weak.mk ?_) ?_
 ·simp (disch:=omega) only [gH,X7,YU,go_sem,seval]
 ·rintro k ⟨hk,hno⟩;simp (disch:=omega) only [gH,X7,YU,go_sem,seval];refine cD ?_ ?_<;>intro h<;>simp (disch:=omega) only [Sh.out h,go_sem,seval]
  ·have hk2:k<o.length:=by omega
   have hg:=Zn1 x t r c sp o f z (nth o k);simp (disch:=first | omega | (simp only [List.length_cons,List.length_nil,List.length_append,List.length_map,List.length_take,List.length_drop]<;>omega)) only [XJ hk2,hk2,go_sem,seval];simp (disch:=omega) only [gH,X7,YU,go_sem,seval] at hg;refine hg.useH ?_;simp (disch:=omega) only [go_sem,seval];refine cD ?_ ?_<;>intro h2<;>simp (disch:=omega) only [Sh.out h2,go_sem,seval]
   ·rw [ZmF (f:=fun m=>ZH m z) hk2 h2 hno];exact we (by simp (disch:=omega) only [gH,X7,YU,go_sem,seval])
   ·exact ⟨k+1,⟨by omega,Zi.2 ⟨hno,by simpa using h2⟩⟩,by omega,Weak.mk (by simp (disch:=omega) only [gH,X7,YU,go_sem,seval])⟩
  ·have hkl:k=o.length:=by omega
   subst hkl;rw [ZmL hno];exact we (by simp (disch:=omega) only [gH,X7,YU,go_sem,seval])
theorem KX (x:Inst) (t:Typ) (r:Rte) (c:Bool) (sp:List Stp) (o:List Lab) (f z:Lab) (hl:o.length<=2097152) :
  ACalls Tryz.prog 213 [.sl 2 0 o.length o.length,.fn (.func 214) [] [.ptr 4 0]] (gH x t r c sp o f z) fun y H'=>y= .p (.bool (o.any fun m=>ZH m z))/\H'=gH x t r c sp o f z:=by
 refine Zb [] Tryz.func213 rfl ZuF ?_;simp (disch:=omega) only [Tryz.f213,go_sem,seval];refine (Zfe x t r c sp o f z hl).useH ?_;simp (disch:=omega) only [go_sem,seval];rw [ZmE];exact we (by simp (disch:=omega) only [gH,X7,YU,go_sem,seval])
def Zpu (x:Inst) (t:Typ) (sp:List Stp) (r:List Bool) (k:Nat) (f:Lab) (bs:List Bool) (l:List Lab):List Lab:=bs.filterMap (X3 x t sp k f)++Y4 (X3 x t sp) (chF r) k l
theorem Zqz (x:Inst) (t:Typ) (r:Rte) (c:Bool) (sp:List Stp) (hok:TrpOk x t sp) (hs1:0<sp.length) (k:Nat) (hk:k<=sp.length) (hrl:r.rests.length<=1048576) (l:List Lab) (d:Bool) (hl:l.length<=1048576) (hL: ∀L∈l,LabO sp.length k L) :
  PC 176 [.p (ZlY x t r c sp),.p (.list d (l.map Ku)),.p (.int .i64 (k:Nat))] (.list false ((Z9 ZH [] (Y4 (X3 x t sp) (chF r.rests) k l)).map Ku)):=by
 have hsl:=hok.len;refine Zb [2,16] Tryz.func176 rfl Ztn ?_;simp (disch:=omega) only [Tryz.f176,go_sem,seval];refine Zm (Weak.fz (o:=1) (by rfl)) ?_;simp (disch:=omega) only [List.map_cons,List.map_nil,List.set_cons_succ,List.set_cons_zero,go_sem,seval];refine Zo [1,2,3] (fun cb:Bool=> [(7,.p (.list cb ((chF r.rests k).map eB)))]) (fun _=> [X7 x t r c sp,.dead]) (fun _=>True) ?_ ?_
 ·simp (disch:=omega) only [go_sem,seval];refine cD ?_ ?_<;>intro h<;>simp (disch:=omega) only [Sh.out h,go_sem,seval]
  ·have hk2:k<r.rests.length:=by omega
   have e:chF r.rests k=(r.rests.take (k+1)).drop k:=by
    rw [chF,List.getElem?_eq_getElem hk2,List.take_succ_eq_append_getElem hk2,List.drop_left' (by simp;omega)]
   exact ⟨r.rests_c&&decide ((k:Int)+1=(r.rests.length:Int)),Weak.mk (by simp (disch:=omega) only [X7,e,go_sem,seval])⟩
  ·have e:chF r.rests k= [false,true]:=by rw [chF,List.getElem?_eq_none (by omega)]
   exact ⟨false,Weak.mk (by simp (disch:=omega) only [X7,e,List.map_cons,List.map_nil,go_sem,seval])⟩
 ·intro cb _
  have hch:(chF r.rests k).length<=2:=by unfold chF;split<;>simp
  refine Zd [16] _ _ _ _ ?_;simp (disch:=omega) only [X7,go_sem,seval]
  refine ZE [16] [2,3,7,29,30] (fun q:Nat×List Lab=> [(8,.sl 2 0 q.2.length q.2.length),(31,.p (.int .i64 q.1))]) (fun q=> [X7 x t r c sp,.dead,.elems 7 (q.2.map Ku)])
   (fun q=>q.1<=l.length/\Z9 ZH [] (Y4 (X3 x t sp) (chF r.rests) k l)=Z9 ZH q.2 (Y4 (X3 x t sp) (chF r.rests) k (l.drop q.1))/\q.2.length<=2*q.1) (fun q=>l.length-q.1) (0,[]) (by simp) (Weak.ofNil 8 7 rfl (by simp) (Weak.mk ?_)) ?_
  ·simp (disch:=omega) only [X7,List.map_nil,List.length_nil,go_sem,seval]
  ·rintro ⟨i,o⟩ ⟨hi,hpr,hol⟩;simp only at hi hpr hol;simp (disch:=omega) only [X7,go_sem,seval];refine cD ?_ ?_<;>intro h1<;>simp (disch:=omega) only [Sh.out h1,go_sem,seval]
   ·have hi2:i<l.length:=by omega
    have hLi:=hL _ (Zv hi2)
    have hdrop:l.drop i=nth l i::l.drop (i+1):=by rw [List.drop_eq_getElem_cons hi2,Ze hi2]
    rw [hdrop] at hpr;have hpr:Z9 ZH [] (Y4 (X3 x t sp) (chF r.rests) k l)=Z9 ZH o (Zpu x t sp r.rests k (nth l i) ((chF r.rests k).drop 0) (l.drop (i+1))):=hpr
    refine Zf [2,3,7,10,29,30,31,35,36] (fun q:Nat×List Lab=> [(8,.sl 2 0 q.2.length q.2.length),(37,.p (.int .i64 q.1))]) (fun q=> [X7 x t r c sp,.dead,.elems 7 (q.2.map Ku),YU (nth l i)])
     (fun q=>q.1<=(chF r.rests k).length/\Z9 ZH [] (Y4 (X3 x t sp) (chF r.rests) k l)=Z9 ZH q.2 (Zpu x t sp r.rests k (nth l i) ((chF r.rests k).drop q.1) (l.drop (i+1)))/\q.2.length<=2*i+q.1) (fun q=>(chF r.rests k).length-q.1) (0,o) ⟨by simp,hpr,hol⟩ (Weak.mk ?_) ?_
    ·simp (disch:=omega) only [X7,YU,go_sem,seval]
    ·clear hpr hol;rintro ⟨j,o⟩ ⟨hj,hpr,hol⟩;simp only at hj hpr hol;simp (disch:=omega) only [X7,YU,go_sem,seval];refine cD ?_ ?_<;>intro h2<;>simp (disch:=omega) only [Sh.out h2,go_sem,seval]
     ·have hj2:j<(chF r.rests k).length:=by omega
      have hd2:(chF r.rests k).drop j=nth (chF r.rests k) j::(chF r.rests k).drop (j+1):=by rw [List.drop_eq_getElem_cons hj2,Ze hj2]
      have cn:=Zgl x t r c sp hok k hk hs1 (nth l i) hLi (nth (chF r.rests k) j);have ho2:X3 x t sp k (nth l i) (nth (chF r.rests k) j)=if (nxtF x t sp k (nth l i) (nth (chF r.rests k) j)).2=0 then some (nxtF x t sp k (nth l i) (nth (chF r.rests k) j)).1 else none:=rfl;rw [hd2,Zpu,List.filterMap_cons,ho2] at hpr
      generalize nxtF x t sp k (nth l i) (nth (chF r.rests k) j)=N at *
      refine Xs cn ?_;simp (disch:=omega) only [go_sem,seval];refine gT ?_ ?_<;>intro h3<;>simp (disch:=omega) only [Sh.out h3,go_sem,seval]
      ·have hcl:=KX x t r c sp o (nth l i) N.1 (by omega);simp (disch:=omega) only [gH,X7,YU,go_sem,seval] at hcl;refine hcl.useH ?_;simp (disch:=omega) only [go_sem,seval];rw [if_pos h3] at hpr;have hpr:Z9 ZH [] (Y4 (X3 x t sp) (chF r.rests) k l)=if (o.any fun m=>ZH m N.1)=true then Z9 ZH o (Zpu x t sp r.rests k (nth l i) ((chF r.rests k).drop (j+1)) (l.drop (i+1))) else Z9 ZH (o++ [N.1]) (Zpu x t sp r.rests k (nth l i) ((chF r.rests k).drop (j+1)) (l.drop (i+1))):=hpr;refine cD ?_ ?_<;>intro h4<;>simp (disch:=omega) only [Sh.out h4,go_sem,seval]
       ·rw [if_neg (by simpa using h4)] at hpr;exact ⟨(j+1,o++ [N.1]),⟨by simp only;omega,hpr,by simp;omega⟩,by simp only;omega,Weak.mk (by simp (disch:=omega) only [X7,YU,List.length_append,List.length_cons,List.length_nil,List.map_append,List.map_cons,List.map_nil,go_sem,seval])⟩
       ·rw [if_pos (by simpa using h4)] at hpr;exact ⟨(j+1,o),⟨by simp only;omega,hpr,by simp only;omega⟩,by simp only;omega,Weak.mk (by simp (disch:=omega) only [X7,YU,go_sem,seval])⟩
      ·rw [if_neg h3] at hpr;exact ⟨(j+1,o),⟨by simp only;omega,hpr,by simp only;omega⟩,by simp only;omega,Weak.mk (by simp (disch:=omega) only [X7,YU,go_sem,seval])⟩
     ·have hjl:j=(chF r.rests k).length:=by omega
      subst hjl;rw [List.drop_length,Zpu,List.filterMap_nil,List.nil_append] at hpr;exact ⟨(i+1,o),⟨by simp only;omega,hpr,by simp only;omega⟩,by simp only;omega,Weak.mk (by simp (disch:=omega) only [X7,go_sem,seval])⟩
   ·have hil:i=l.length:=by omega
    subst hil;have e:Y4 (X3 x t sp) (chF r.rests) k []= []:=rfl;rw [List.drop_length,e,Z9] at hpr;rw [hpr];refine Zm (Weak.fz (o:=2) (by rfl)) ?_;refine Zd [] _ _ _ _ ?_;simp (disch:=omega) only [List.map_cons,List.map_nil,List.set_cons_succ,List.set_cons_zero,go_sem,seval];exact we
def Zyx : PV:= .agg [.list true [],.list true [],.list true [],.list true [],.list true [],.list true [],.str [],.int .i64 0,.int .i64 0,.int .i64 0,.list true [],.int .i64 0,.int .i64 0,.int .i64 0,.int .i64 0,.int .i64 0,.int .i64 0,.int .i64 0,.int .i64 0,.int .i64 0,.int .i64 0,.int .i64 0,.list true [],.list true [],.list true []]
theorem Znp (x:Inst) (r:Rte) (hty:0<=r.typ/\r.typ<(x.types.length:Int)) (htl:x.types.length<=1048576) (hvl:r.visits.length<=20) (hs: ¬(0<=r.start/\r.start<=4096)) :
  PT 174 [.p (Zt x),.p (Wr r)] [.p Zyx,.p (.bool false)]:=by
 have e1: ¬r.typ<0:=by omega
 have e2: ¬(x.types.length:Int)<=r.typ:=by omega
 refine Zb [] Tryz.func174 rfl Zmq ?_;simp (disch:=omega) only [Tryz.f174,e1,e2,go_sem,seval];refine gF ?_ ?_<;>intro h1<;>simp (disch:=omega) only [Sh.out h1,go_sem,seval]
 ·exact we (by simp (disch:=omega) only [Zyx,go_sem,seval])
 ·refine gF ?_ ?_<;>intro h2<;>simp (disch:=omega) only [Sh.out h2,go_sem,seval]
  ·exact we (by simp (disch:=omega) only [Zyx,go_sem,seval])
  ·omega
theorem ZdO {x t sp} : ∀(bs:List Bool) (k:Nat) (L:Lab),¬(XV x t sp k L bs).2=0->(XV x t sp k L bs).1=W0
 | [],k,L,h=>by simp [XV] at h
 | b::bs,k,L,h=>by
  rw [XV] at h ⊢
  split
  ·rename_i c;rw [if_pos c] at h;exact ZdO bs (k+1) _ h
  ·rfl
theorem Zg3 (n:Nat):List.replicate n false∈Yg (List.replicate n false):=by
 rw [fromB_next];simp
theorem Zlm {l:List Lab} (h:fmL WZ none l=none):l= []:=by
 cases l with
 | nil=>rfl
 | cons a l =>
  obtain ⟨z,hz,_⟩:=V6 (fin:=WZ) l a;have:fmL WZ none (a::l)=fmL WZ (some a) l:=rfl;rw [this,hz] at h;cases h
theorem Zhn {x t sp} {st:Int} {r:List Bool} (h:fmL WZ none ((YG r (sp.length+1)).filterMap (Uw (X3 x t sp) 0 (labF t st)))=none): ¬(XV x t sp 0 (labF t st) (Va r (sp.length+1))).2=0:=fun h0=>by
 have h1:=Zlm h;have h2:Va r (sp.length+1)∈YG r (sp.length+1):=List.mem_map.2 ⟨_,Zg3 _,rfl⟩;have h3:=List.filterMap_eq_nil_iff.1 h1 _ h2;rw [Wk,if_pos h0] at h3
 cases h3
theorem ZeU {x t sp} {st:Int} {r:List Bool} (hr:r.length<=sp.length+1) (h:fmL WZ none (U8 ZH (X3 x t sp) (chF r) (sp.length+1) 0 [labF t st])=none): ¬(XV x t sp 0 (labF t st) (Va r (sp.length+1))).2=0 :=
 Zhn (by rw [Zbk,YM,ZbX r _ hr] at h;exact h)
def Un (x:Inst) (r:Rte):She×Int:=if 0<=r.start/\r.start<=4096/\r.rests.length<=r.visits.length+1 then Xd x r else (zShe,2)
theorem Zla {x t sp} {ch:Nat->List Bool} {k:Nat} {l:List Lab} (hok:TrpOk x t sp) (hs:0<sp.length) (hk:k<=sp.length) (h: ∀L∈l,LabO sp.length k L): ∀L∈Z9 ZH [] (Y4 (X3 x t sp) ch k l),LabO sp.length (k+1) L:=fun L hL=>by
 have h1:=VQ ZH _ _ L hL;rw [List.nil_append] at h1;obtain ⟨a,ha,hb⟩:=List.mem_flatMap.1 h1;obtain ⟨b,_,hn⟩:=List.mem_filterMap.1 hb;rw [X3] at hn
 split at hn
 ·rename_i c;simp at hn;subst hn;exact Zbb hok hs hk (h a ha) c
 ·cases hn
theorem QR : ∀(c out:List Lab),(Z9 ZH out c).length<=out.length+c.length
 | [],out=>by simp [Z9]
 | x::c,out=>by
  rw [Z9]
  split
  ·have:=QR c out;simp;omega
  ·have:=QR c (out++ [x]);simp at this ⊢;omega
theorem Za0 {x t sp} {r:List Bool} {k:Nat} : ∀l:List Lab,(Y4 (X3 x t sp) (chF r) k l).length<=2*l.length
 | []=>by simp [Y4]
 | a::l=>by
  have ih:=Za0 (x:=x) (t:=t) (sp:=sp) (r:=r) (k:=k) l;have h1:(Y4 (X3 x t sp) (chF r) k (a::l))=(chF r k).filterMap (X3 x t sp k a)++Y4 (X3 x t sp) (chF r) k l:=rfl;have h2:=List.length_filterMap_le (X3 x t sp k a) (chF r k)
  have h3:(chF r k).length<=2:=by unfold chF;split<;>simp
  rw [h1,List.length_append,List.length_cons];omega
theorem Zm3 (x:Inst) (r:Rte) (hx:InstOk x) (hl:r.visits.length<=1048576) (hrl:r.rests.length<=1048576) (hty:0<=r.typ/\r.typ<(x.types.length:Int)) (h0:ZR x r.visits=0) :
  PT 102 [.p (Zt x),.p (Wr r)] [.p (Zhg (Un x r).1),.p (.int .i64 (Un x r).2)]:=by
 have hd:=WN hx;have hsq:=Wz h0;have hol:=hd.ord;have htl:=hd.typ;have hvl:=hsq.len hol;have hok:=Qm hx hty hsq;have hsl:(ZA x r.visits).length=r.visits.length:=Xi
 have hs1:0<(ZA x r.visits).length:=by
  rw [hsl];have:=hsq.ne
  cases hv:r.visits with
  | nil=>exact absurd hv this
  | cons a b=>simp
 refine Zb [6,13,14] Tryz.func102 rfl ZtF ?_;simp (disch:=omega) only [Tryz.f102,go_sem,seval]
 by_cases hs:0<=r.start/\r.start<=4096
 ·refine Xs (Zvo x r hx hty h0 hs) ?_;simp (disch:=omega) only [go_sem,seval];refine cD ?_ ?_<;>intro h1<;>simp (disch:=omega) only [Sh.out h1,go_sem,seval]
  ·have e:Un x r=(zShe,2):=by rw [Un,if_neg (by omega)]
   rw [e];exact we (by simp (disch:=omega) only [zShe,List.map_nil,go_sem,seval])
  ·have hrs:r.rests.length<=r.visits.length+1:=by omega
   have e:Un x r=Xd x r:=by rw [Un,if_pos ⟨hs.1,hs.2,hrs⟩]
   have hbn:= @ZeU x (Z2 x r) (ZA x r.visits) r.start r.rests (by rw [hsl];exact hrs);rw [e,Xd,Zbr (by rw [hsl];exact hrs)];refine (Za7 x (Z2 x r) r false (ZA x r.visits)).use ?_;simp (disch:=omega) only [go_sem,seval]
   generalize hT:Z2 x r=t at *
   generalize hS:ZA x r.visits=sp at *
   refine Zm (Weak.fz (o:=4) (by rfl)) ?_;refine Zd [13,14] _ _ _ _ ?_;simp (disch:=omega) only [List.map_cons,List.map_nil,List.set_cons_succ,List.set_cons_zero,go_sem,seval]
   refine ZE [13,14] [3,4,6,8,38] (fun q:Nat×List Lab=> [(9,.p (.list false (q.2.map Ku))),(39,.p (.int .i64 q.1))]) (fun _=> [Zc x,ZB r,.cells [.p (.bool false),.p (.int .i64 0),.p (.list true []),.p (.int .i64 0),.p (.int .i64 0)],X7 x t r false sp,.dead])
    (fun q=>q.1<=sp.length+1/\U8 ZH (X3 x t sp) (chF r.rests) (sp.length+1) 0 [labF t r.start]=U8 ZH (X3 x t sp) (chF r.rests) (sp.length+1-q.1) q.1 q.2/\(∀L∈q.2,LabO sp.length q.1 L)/\q.2.length<=2^q.1) (fun q=>sp.length+1-q.1) (0,[labF t r.start]) ⟨by simp,by simp,fun L hL=>by simp at hL;subst hL;exact Za6 hok hs,by simp⟩ (Weak.mk ?_) ?_
   ·simp (disch:=omega) only [Zc,ZB,X7,List.map_cons,List.map_nil,List.set_cons_succ,List.set_cons_zero,List.cons_append,List.nil_append,go_sem,seval]
   ·rintro ⟨k,l⟩ ⟨hk,hit,hlo,hll⟩;simp only at hk hit hlo hll;simp (disch:=omega) only [Zc,ZB,X7,go_sem,seval];refine cD ?_ ?_<;>intro h2<;>simp (disch:=omega) only [Sh.out h2,go_sem,seval]
    ·have hk2:k<=sp.length:=by omega
     have hp20:2^k<=2^20:=Nat.pow_le_pow_right (by omega) (by omega);refine (Zqz x t r false sp hok hs1 k hk2 hrl l false (by omega) hlo).use ?_;simp (disch:=omega) only [go_sem,seval]
     have hn:U8 ZH (X3 x t sp) (chF r.rests) (sp.length+1-k) k l=U8 ZH (X3 x t sp) (chF r.rests) (sp.length+1-(k+1)) (k+1) (Z9 ZH [] (Y4 (X3 x t sp) (chF r.rests) k l)):=by
      have e:sp.length+1-k=(sp.length+1-(k+1))+1:=by omega
      rw [e,U8]
     have hln:=QR (Y4 (X3 x t sp) (chF r.rests) k l) [];have hln2:=Za0 (x:=x) (t:=t) (sp:=sp) (r:=r.rests) (k:=k) l;exact ⟨(k+1,Z9 ZH [] (Y4 (X3 x t sp) (chF r.rests) k l)),⟨by simp only;omega,hit.trans hn,Zla hok hs1 hk2 hlo,by simp at hln;simp only [Nat.pow_succ];omega⟩,by simp only;omega,Weak.mk (by simp (disch:=omega) only [Zc,ZB,X7,List.set_cons_succ,List.set_cons_zero,go_sem,seval])⟩
    ·have hkn:k=sp.length+1:=by omega
     subst hkn;rw [Nat.sub_self,U8] at hit;rw [hit] at hbn ⊢;clear hit;refine cD ?_ ?_<;>intro h3<;>simp (disch:=omega) only [Sh.out h3,go_sem,seval]
     ·have hl0:l= []:=List.eq_nil_of_length_eq_zero (by omega);subst hl0;have hbn:=hbn rfl;refine XW (Zc8 3 rfl rfl ?_);simp (disch:=omega) only [go_sem,seval];refine ⟨_,_,Zdt (e:=4) rfl Tryz.underlying42 (by kernel_rfl) rfl rfl rfl ?_ ?_ ?_,?_⟩
      ·simp
      ·simp;omega
      ·intro q hq;obtain ⟨b,_,rfl⟩:=List.mem_map.1 hq
       rfl
      ·have hpl:(Va r.rests (sp.length+1)).length=sp.length+1:=by simp [Va];omega
       have hpad:r.rests.map eB++(PV.bool false::List.replicate r.visits.length (PV.bool false)).drop (r.rests.map eB).length=(Va r.rests (sp.length+1)).map eB:=by
        rw [Va,List.map_append,<- List.replicate_succ,List.drop_replicate,List.map_replicate,hsl,List.length_map];rfl
       have hcr:=ZCl x t r false sp hok hs1 hs (Va r.rests (sp.length+1)) false hpl;have hbad:=ZdO _ _ _ hbn;rw [hbad] at hcr;simp only [List.set_cons_succ,List.set_cons_zero];rw [hpad]
       generalize hRP:Va r.rests (sp.length+1)=rp at *
       refine Zm (Weak.fz (o:=5) (by rfl)) ?_;refine Zd [] _ _ _ _ ?_;simp (disch:=omega) only [List.map_cons,List.map_nil,List.set_cons_succ,List.set_cons_zero,go_sem,seval];rw [if_pos (by omega)];refine Xs hcr ?_;simp (disch:=omega) only [go_sem,seval];have hfm0:fmL WZ none ([]:List Lab)=none:=rfl;rw [hfm0];exact we (by simp (disch:=omega) only [W0,zShe,List.map_nil,go_sem,seval])
     ·cases l with
      | nil=>simp at h3
      | cons l0 l =>
       have e0:elt ((l0::l).map Ku) 0=Ku l0:=rfl;have hn0:nth (l0::l) 0=l0:=rfl;simp (disch:=first | omega | (simp only [List.length_cons,List.length_nil,List.length_append,List.length_map,List.length_take,List.length_drop]<;>omega)) only [e0,hn0,List.take_length,go_sem,seval];have hfm:fmL WZ none (l0::l)=fmL WZ (some l0) l:=rfl;rw [hfm]
       have hlen:l.length<=2097152:=by
        have hp20:2^(sp.length+1)<=2^21:=Nat.pow_le_pow_right (by omega) (by omega);simp at hll;omega
       refine Zf [4,12,65,66] (fun q:Nat×Lab=> [(67,.p (.int .i64 q.1))]) (fun q=> [Zc x,ZB r,.cells [.p (.bool false),.p (.int .i64 0),.p (.list true []),.p (.int .i64 0),.p (.int .i64 0)],X7 x t r false sp,.dead,YU q.2])
        (fun q=>q.1<=l.length/\fmL WZ (some l0) l=fmL WZ (some q.2) (l.drop q.1)) (fun q=>l.length-q.1) (0,l0) (by simp) (Weak.mk ?_) ?_
       ·simp (disch:=omega) only [Zc,ZB,X7,YU,List.set_cons_succ,List.set_cons_zero,hn0,go_sem,seval]
       ·rintro ⟨i,m⟩ ⟨hi,hm⟩;simp only at hi hm;simp (disch:=omega) only [Zc,ZB,X7,YU,List.take_length,go_sem,seval];refine cD ?_ ?_<;>intro h4<;>simp (disch:=omega) only [Sh.out h4,go_sem,seval]
        ·have hi2:i<l.length:=by omega
         have hdrop:l.drop i=nth l i::l.drop (i+1):=by rw [List.drop_eq_getElem_cons hi2,Ze hi2]
         rw [hdrop,fmL] at hm;refine cD ?_ ?_<;>intro h5<;>simp (disch:=omega) only [Sh.out h5,go_sem,seval]
         ·rw [if_pos (show WZ (nth l i)<WZ m from h5)] at hm;exact ⟨(i+1,nth l i),⟨by simp only;omega,hm⟩,by simp only;omega,Weak.mk (by simp (disch:=omega) only [Zc,ZB,X7,YU,go_sem,seval])⟩
         ·rw [if_neg (show ¬WZ (nth l i)<WZ m from h5)] at hm;exact ⟨(i+1,m),⟨by simp only;omega,hm⟩,by simp only;omega,Weak.mk (by simp (disch:=omega) only [Zc,ZB,X7,YU,go_sem,seval])⟩
        ·have hil:i=l.length:=by omega
         subst hil;rw [List.drop_length,fmL] at hm;rw [hm];exact we
 ·have e:Un x r=(zShe,2):=by rw [Un,if_neg (fun h=>hs ⟨h.1,h.2.1⟩)]
  rw [e];refine Xs (Znp x r hty htl hvl hs) ?_;simp (disch:=omega) only [Zyx,go_sem,seval];exact we (by simp (disch:=omega) only [zShe,List.map_nil,go_sem,seval])
end Go.Proofs.YthmplgaldjpgiaaGreatDoor.K
set_option linter.unusedVariables false
set_option linter.unusedSimpArgs false
namespace Go.AM
open Go.RowKit
theorem Zkb (k v:Int) (l:List (Int×Int)): ∃l',Zuz (.int .i64 k) (.int .i64 v) (l.map eII)=l'.map eII/\(∀q,J2 l' q=if q=k then v else J2 l q)/\l'.length<=l.length+1:=by
 unfold Zuz;rw [QF]
 cases hm:mix l k with
 | none =>
  refine ⟨l++ [(k,v)],by simp [eII],fun q=> ?_,by simp⟩
  have e1:mix (l++ [(k,v)]) k=some l.length:=by
   unfold mix at hm ⊢;rw [List.findIdx?_append,hm];simp
  by_cases hq:q=k
  ·subst hq;simp [J2,e1]
  ·rw [if_neg hq];unfold J2
   have e3:mix (l++ [(k,v)]) q=mix l q:=by
    unfold mix;rw [List.findIdx?_append]
    cases hc:l.findIdx? (fun p=>decide (q=p.1))<;>simp [hq]
   rw [e3]
   cases hc:mix l q with
   | none=>rfl
   | some i =>
    unfold mix at hc;rw [List.findIdx?_eq_some_iff_getElem] at hc;obtain ⟨hi,_⟩:=hc;simp only;rw [List.getElem?_append_left hi]
 | some i =>
  refine ⟨l.set i (k,v),by rw [List.map_set];simp [eII],?_,by simp⟩;have hH:oat [.map (l.map eII)] 0= .map (l.map eII):=rfl;have:=Zff (H:= [.map (l.map eII)]) (o:=0) (l:=l) (k:=k) (i:=i) (v:=v) (K:=fun _ _=> ∀q,J2 (l.set i (k,v)) q=if q=k then v else J2 l q) hH hm fun h=>h;unfold UI at this;obtain ⟨u,q1,_⟩:=KN hm
  have e1:(l.map eII)[i]? =some (eII (k,u)):=by rw [List.getElem?_map,q1];rfl
  simp only [hH,Int.natCast_nonneg,if_true,Int.toNat_natCast,e1,mst] at this;exact this
theorem ZkB {P:Program} {H:List Obj} {t:TypeId} {o:Nat} {l:List (Int×Int)} {k v:Int} {K:V->List Obj->Prop} (hT:ZrU P t=some (.int .i64,some (.int .i64 0))) (hH:oat H o= .map (l.map eII))
  (h: ∀l':List (Int×Int),(∀q,J2 l' q=if q=k then v else J2 l q)->K .junk (H.set o (.map (l'.map eII)))):mst (ZbW P H t (.mp o) (.p (.int .i64 k)) (.p (.int .i64 v))) K:=by
 obtain ⟨kt,et,h1,h2,h3⟩:=ZeD hT;obtain ⟨l',e,hg,_⟩:=Zkb k v l;simp only [ZbW,h1,Zaz h2 hH,Option.map_some,mst,e];exact h l' hg
end Go.AM
namespace Go.Proofs.YthmplgaldjpgiaaGreatDoor.K
open Go Go.AM Go.Proofs
set_option maxRecDepth 8000
set_option maxHeartbeats 8000000
def ZgQ (l:List Vis) (k:Nat) (q:Int):Int:=((l.take k).countP fun v=>decide (v.order=q):Nat)
theorem Zhi {l:List Vis} {k:Nat} (h:k<l.length) (q:Int):ZgQ l (k+1) q=if q=(nth l k).order then ZgQ l k q+1 else ZgQ l k q:=by
 unfold ZgQ;rw [List.take_succ_eq_append_getElem h,List.countP_append,Ze h]
 by_cases c:l[k].order=q
 ·rw [if_pos c.symm];simp [c]
 ·rw [if_neg (fun e=>c e.symm)];simp [c]
theorem Zlw {l:List Vis} {k:Nat} (h:k<=l.length) (q:Int):0<=ZgQ l k q/\ZgQ l k q<=k:=by
 unfold ZgQ;have:=List.countP_le_length (p:=fun v:Vis=>decide (v.order=q)) (l:=l.take k);rw [List.length_take] at this;omega
theorem Ze4 {l:List Vis} {k:Nat} :Ws l k=decide (ZgQ l k (nth l k).order=0):=by
 unfold Ws ZgQ;rw [Bool.eq_iff_iff];simp only [Bool.not_eq_true',decide_eq_true_eq];rw [List.any_eq_false]
 have:((List.countP (fun v=>decide (v.order=(nth l k).order)) (l.take k):Nat):Int)=0↔List.countP (fun v=>decide (v.order=(nth l k).order)) (l.take k)=0:=by omega
 rw [this,List.countP_eq_zero]
theorem UF (a b:Int):PC 178 [.p (.int .i64 a),.p (.int .i64 b)] (.bool (ZG a b)):=by
 refine Za Tryz.func178 rfl ZuL ?_;simp (disch:=omega) only [Tryz.f178,go_sem,seval];refine gT ?_ ?_<;>intro h<;>simp (disch:=omega) only [Sh.out h,go_sem,seval]
 ·simp [ZG,h]
 ·simp only [Classical.not_not] at h;simp [ZG,h]
theorem Zjs (x:Inst) (r:Rte) (s:She) (hty:0<=r.typ/\r.typ<(x.types.length:Int)) (ho:x.orders.length<=1048576) (ht:x.types.length<=1048576) (hl:r.visits.length<=1048576) (hv:Inr x r.visits)
  (hc:0<=(Z2 x r).fixed/\(Z2 x r).fixed<=100000/\0<=(Z2 x r).perMile/\(Z2 x r).perMile<=100/\0<=(Z2 x r).perTick/\(Z2 x r).perTick<=100) (ho2:0<=(Z2 x r).opn/\(Z2 x r).opn<=4096)
  (hf: -4096<=s.fin/\s.fin<=8192) (hm:0<=s.miles/\s.miles<=1000000) :
  PC 103 [.p (Zt x),.p (Wr r),.p (Zhg s)] (Zb9 (ZlQ x r s)):=by
 have hti:r.typ.toNat<x.types.length:=by omega
 have hT:ZrU Tryz.prog 253=some (.int .i64,some (.int .i64 0)):=by kernel_rfl
 unfold ZlQ;have htd:nth x.types r.typ.toNat=Z2 x r:=rfl
 generalize Z2 x r=t at *
 have e1: ¬r.typ<0:=by omega
 have e2: ¬(x.types.length:Int)<=r.typ:=by omega
 have p1:0<=t.perMile*s.miles/\t.perMile*s.miles<=100*1000000:=⟨Int.mul_nonneg (by omega) (by omega),Int.mul_le_mul (by omega) (by omega) (by omega) (by omega)⟩
 have hW: -8192<=s.fin-t.opn/\s.fin-t.opn<=8192:=by omega
 have p2: -819200<=t.perTick*(s.fin-t.opn)/\t.perTick*(s.fin-t.opn)<=819200:=by
  generalize s.fin-t.opn=w at hW;have a1:=Int.mul_le_mul_of_nonneg_left hW.2 (show 0<=t.perTick by omega);have a2:=Int.mul_le_mul_of_nonneg_left hW.1 (show 0<=t.perTick by omega);omega
 have p3: -128<=(s.fin-t.opn).tdiv 64/\(s.fin-t.opn).tdiv 64<=128:=by
  generalize s.fin-t.opn=w at hW;rcases Int.le_total 0 w with h | h
  ·rw [Int.tdiv_eq_ediv_of_nonneg h];omega
  ·have:w.tdiv 64= -((-w) / 64):=by rw [<- Int.tdiv_eq_ediv_of_nonneg (by omega),Int.neg_tdiv,Int.neg_neg]
   rw [this];omega
 have p4:0<=(s.fin-t.opn).tdiv 64*(s.fin-t.opn).tdiv 64/\(s.fin-t.opn).tdiv 64*(s.fin-t.opn).tdiv 64<=16384:=by
  generalize (s.fin-t.opn).tdiv 64=q at p3;refine ⟨?_,?_⟩
  ·rcases Int.le_total 0 q with h | h
   ·exact Int.mul_nonneg h h
   ·exact Int.mul_nonneg_of_nonpos_of_nonpos h h
  ·rcases Int.le_total 0 q with h | h
   ·have:=Int.mul_le_mul p3.2 p3.2 h (by omega);omega
   ·have h2:0<= -q:=by omega
    have:=Int.mul_le_mul (show-q<=128 by omega) (show-q<=128 by omega) h2 (by omega);rw [Int.neg_mul_neg] at this;omega
 refine Za Tryz.func103 rfl ZqM ?_;simp (disch:=omega) only [Tryz.f103,e1,e2,htd,go_sem,seval]
 refine Zf [3,4,6,10,11,59,60] (fun q:Nat×List (Int×Int)=> [(61,.p (.int .i64 q.1))]) (fun q=> [Zc x,ZB r,.cells [.p (.bool s.rest),.p (.int .i64 s.dep),.p (.list s.times_c (s.times.map eTim)),.p (.int .i64 s.fin),.p (.int .i64 s.miles)],W7 0 0 0 0,Xk t,W7 (t.fixed+t.perMile*s.miles+t.perTick*(s.fin-t.opn)) (chgF x r.visits r.typ q.1).1 (chgF x r.visits r.typ q.1).2 ((s.fin-t.opn).tdiv 64*(s.fin-t.opn).tdiv 64),.map (q.2.map eII)])
  (fun q=>q.1<=r.visits.length/\ ∀n,J2 q.2 n=ZgQ r.visits q.1 n) (fun q=>r.visits.length-q.1) (0,[]) ⟨by simp,fun n=>rfl⟩ (Weak.mk ?_) ?_
 ·simp (disch:=omega) only [Zc,ZB,Xk,W7,chgF,go_sem,seval]
 ·rintro ⟨k,m⟩ ⟨hk,hmg⟩;simp only at hk hmg;have hch:=Qf (x:=x) (l:=r.visits) (t:=r.typ) k;simp (disch:=omega) only [Zc,ZB,Xk,W7,go_sem,seval];refine cD ?_ ?_<;>intro h1<;>simp (disch:=omega) only [Sh.out h1,go_sem,seval]
  ·have hk2:k<r.visits.length:=by omega
   obtain ⟨v1,v2⟩:=hv _ (Zp hk2)
   have e3: ¬(nth r.visits k).order<0:=by omega
   have e4: ¬(x.orders.length:Int)<=(nth r.visits k).order:=by omega
   have v3:(nth r.visits k).order.toNat<x.orders.length:=by omega
   have hcs:=Zhi hk2;have hcr:=Zlw hk (nth r.visits k).order;have hfi:=Ze4 (l:=r.visits) (k:=k);have hch2:chgF x r.visits r.typ (k+1)=_:=chgF.eq_2 x r.visits r.typ k;refine Zeq hT rfl ?_;rw [hmg];simp (disch:=omega) only [go_sem,seval];refine ZkB hT rfl fun m' hm'=> ?_
   have hmg': ∀n,J2 m' n=ZgQ r.visits (k+1) n:=fun n=>by rw [hm',hcs,hmg];split<;>simp_all
   simp (disch:=omega) only [e3,e4,List.set_cons_succ,List.set_cons_zero,go_sem,seval];refine Zeq hT rfl ?_;rw [hm',if_pos rfl];simp (disch:=omega) only [go_sem,seval];refine cD ?_ ?_<;>intro h2<;>simp (disch:=omega) only [Sh.out h2,go_sem,seval]
   ·have h3: ¬Ws r.visits k=true:=by rw [hfi];simp;omega
    rw [if_neg h3] at hch2;exact ⟨(k+1,m'),⟨by simp only;omega,hmg'⟩,by simp only;omega,Weak.mk (by simp (disch:=omega) only [Zc,ZB,Xk,W7,hch2,go_sem,seval])⟩
   ·have h3:Ws r.visits k=true:=by rw [hfi];simp;omega
    rw [if_pos h3] at hch2;refine (UF (nth x.orders (nth r.visits k).order.toNat).now r.typ).use ?_;simp (disch:=omega) only [go_sem,seval];refine cD ?_ ?_<;>intro h4<;>simp (disch:=omega) only [Sh.out h4,go_sem,seval]
    ·rw [if_pos h4] at hch2;refine (UF (nth x.orders (nth r.visits k).order.toNat).last r.typ).use ?_;simp (disch:=omega) only [go_sem,seval];refine cD ?_ ?_<;>intro h5<;>simp (disch:=omega) only [Sh.out h5,go_sem,seval]
     ·rw [if_pos h5] at hch2;exact ⟨(k+1,m'),⟨by simp only;omega,hmg'⟩,by simp only;omega,Weak.mk (by simp (disch:=omega) only [Zc,ZB,Xk,W7,hch2,go_sem,seval])⟩
     ·rw [if_neg (by rw [h5];simp)] at hch2;exact ⟨(k+1,m'),⟨by simp only;omega,hmg'⟩,by simp only;omega,Weak.mk (by simp (disch:=omega) only [Zc,ZB,Xk,W7,hch2,Int.add_zero,go_sem,seval])⟩
    ·rw [if_neg (by rw [h4];simp)] at hch2;refine (UF (nth x.orders (nth r.visits k).order.toNat).last r.typ).use ?_;simp (disch:=omega) only [go_sem,seval];refine cD ?_ ?_<;>intro h5<;>simp (disch:=omega) only [Sh.out h5,go_sem,seval]
     ·rw [if_pos h5] at hch2;exact ⟨(k+1,m'),⟨by simp only;omega,hmg'⟩,by simp only;omega,Weak.mk (by simp (disch:=omega) only [Zc,ZB,Xk,W7,hch2,Int.add_zero,go_sem,seval])⟩
     ·rw [if_neg (by rw [h5];simp)] at hch2;exact ⟨(k+1,m'),⟨by simp only;omega,hmg'⟩,by simp only;omega,Weak.mk (by simp (disch:=omega) only [Zc,ZB,Xk,W7,hch2,Int.add_zero,go_sem,seval])⟩
  ·have hkl:k=r.visits.length:=by omega
   subst hkl
   rfl
end Go.Proofs.YthmplgaldjpgiaaGreatDoor.K
set_option linter.unusedVariables false
set_option linter.unusedSimpArgs false
namespace Go.Proofs.YthmplgaldjpgiaaGreatDoor.K
open Go Go.AM Go.Proofs
set_option maxRecDepth 8000
set_option maxHeartbeats 8000000
@[go_sem] theorem Zre {f:FuncId} :(PV.fn f).cells= [.fn f]:=Eq.trans rfl rfl
def Zpw : AM.Obj:= .cells [.p (.bool false),.p (.int .i64 0),.p (.list true []),.p (.int .i64 0),.p (.int .i64 0)]
theorem Ze8 (x:Inst) (r:Rte) (hx:InstOk x) (hl:r.visits.length<=1048576) (hrl:r.rests.length<=1048576):ACalls Tryz.prog 61 [.p (Zt x),.p (Wr r)] [] fun y H'=>y=Zaj x r/\H'= []:=by
 have hld:=WN hx;have htl:=hld.typ;have hol:=hld.ord;have chk:=Zmg x r hx hl
 have htb:x.types.length<=6:=by have:=hx.types.1;simp only [rng,decide_eq_true_eq] at this;omega
 refine Zb [] Tryz.func61 rfl ZAH ?_;simp (disch:=omega) only [Tryz.f61,go_sem,seval];refine gF ?_ ?_<;>intro h1<;>simp (disch:=omega) only [Sh.out h1,go_sem,seval]
 ·have e:XD x r=2:=by rw [XD,if_pos (by omega)]
  rw [Xg (e:=2) (by rw [Xj,e];rfl) (by omega)];exact we (by simp (disch:=omega) only [zShe,zSco,List.map_nil,go_sem,seval])
 ·refine cD ?_ ?_<;>intro h2<;>simp (disch:=omega) only [Sh.out h2,go_sem,seval]
  ·have e:XD x r=2:=by rw [XD,if_pos (by omega)]
   rw [Xg (e:=2) (by rw [Xj,e];rfl) (by omega)];exact we (by simp (disch:=omega) only [zShe,zSco,List.map_nil,go_sem,seval])
  ·have hty:0<=r.typ/\r.typ<(x.types.length:Int):=by omega
   have hti:r.typ.toNat<x.types.length:=by omega
   have hnum:=Wh hx hti;have htyp:nth x.types r.typ.toNat=Z2 x r:=rfl;rw [htyp] at hnum
   have hsk: ∀o∈x.orders,o.skills<9223372036854775808:=fun o hm=>by
    obtain ⟨i,hi,rfl⟩:=List.mem_iff_getElem.1 hm;have:=(hx.orders.2 i hi).skills;rw [Ze hi] at this;omega
   refine Zf [2,3,4,5,25,26] (fun k:Nat=> [(27,.p (.int .i64 k))]) (fun _=> [Zc x,ZB r,Zpw,W7 0 0 0 0,.elems 1 [.fn 99,.fn 100,.fn 101]])
    (fun k=>k<=3/\(0<k->ZR x r.visits=0)/\(1<k-> ¬(r.visits.any fun v=> !Yu (Z2 x r) (nth x.orders v.order.toNat).skills)=true)/\(2<k->Ua x (Z2 x r).cap r.visits=true)) (fun k=>3-k) 0 ⟨by omega,by omega,by omega,by omega⟩ (Weak.mk ?_) ?_
   ·simp (disch:=omega) only [Zc,ZB,W7,Zpw,go_sem,seval]
   ·rintro k ⟨hk,k1,k2,k3⟩;simp (disch:=omega) only [Zc,ZB,W7,Zpw,go_sem,seval];refine cD ?_ ?_<;>intro h3<;>simp (disch:=omega) only [Sh.out h3,go_sem,seval]
    ·by_cases hk0:k=0
     ·subst hk0;have he:elt [PV.fn 99,PV.fn 100,PV.fn 101] 0=PV.fn 99:=rfl;simp (disch:=first | omega | (simp only [List.length_cons,List.length_nil,List.length_append,List.length_map,List.length_take,List.length_drop]<;>omega)) only [he,go_sem,seval];refine (chk).use ?_;simp (disch:=omega) only [go_sem,seval];refine cD ?_ ?_<;>intro h4<;>simp (disch:=omega) only [Sh.out h4,go_sem,seval]
      ·have e:XD x r=ZR x r.visits:=by rw [XD,if_neg (fun h=>h hty),if_pos h4]
       rw [Xg (e:=ZR x r.visits) (by rw [Xj,e,if_neg h4]) h4];exact we (by simp (disch:=omega) only [zShe,zSco,List.map_nil,go_sem,seval])
      ·exact ⟨1,⟨by omega,fun _=>by omega,by omega,by omega⟩,by omega,Weak.mk (by simp (disch:=omega) only [Zc,ZB,W7,Zpw,go_sem,seval])⟩
     ·have h0:=k1 (by omega);have hsq:=Wz h0
      have hr0:XD x r=if (r.visits.any fun v=> !Yu (Z2 x r) (nth x.orders v.order.toNat).skills)=true then 18 else if Ua x (Z2 x r).cap r.visits=false then 17 else if ¬(0<=r.start/\r.start<=4096/\r.rests.length<=r.visits.length+1) then 2 else 0:=by
       rw [XD,if_neg (fun h=>h hty),if_neg (by omega)]
      by_cases hk1:k=1
      ·subst hk1;have he:elt [PV.fn 99,PV.fn 100,PV.fn 101] 1=PV.fn 100:=rfl;simp (disch:=first | omega | (simp only [List.length_cons,List.length_nil,List.length_append,List.length_map,List.length_take,List.length_drop]<;>omega)) only [he,go_sem,seval];refine (Zjv x r hty (fun v hv=>by have:=hsq.inr v hv;simp [inB,this.1,this.2]) hl htl (by omega) (by omega) hsk).use ?_;simp (disch:=omega) only [go_sem,seval]
       by_cases h5:(r.visits.any fun v=> !Yu (Z2 x r) (nth x.orders v.order.toNat).skills)=true
       ·rw [if_pos h5] at hr0 ⊢;rw [Xg (e:=18) (by rw [Xj,hr0];rfl) (by omega)];simp (disch:=omega) only [go_sem,seval];exact we (by simp (disch:=omega) only [zShe,zSco,List.map_nil,go_sem,seval])
       ·rw [if_neg h5];simp (disch:=omega) only [go_sem,seval];exact ⟨2,⟨by omega,fun _=>h0,fun _=>h5,by omega⟩,by omega,Weak.mk (by simp (disch:=omega) only [Zc,ZB,W7,Zpw,go_sem,seval])⟩
      ·have hk2:k=2:=by omega
       subst hk2;have he:elt [PV.fn 99,PV.fn 100,PV.fn 101] 2=PV.fn 101:=rfl;simp (disch:=first | omega | (simp only [List.length_cons,List.length_nil,List.length_append,List.length_map,List.length_take,List.length_drop]<;>omega)) only [he,go_sem,seval];refine (Zkx x r hx hl hty h0).use ?_;simp (disch:=omega) only [go_sem,seval];rw [if_neg (k2 (by omega))] at hr0
       cases h5:Ua x (Z2 x r).cap r.visits with
       | false =>
        rw [if_pos h5] at hr0;rw [Xg (e:=17) (by rw [Xj,hr0];rfl) (by omega)];simp only [Bool.false_eq_true,if_false];simp (disch:=omega) only [go_sem,seval];exact we (by simp (disch:=omega) only [zShe,zSco,List.map_nil,go_sem,seval])
       | true =>
        simp only [if_true];simp (disch:=omega) only [go_sem,seval];exact ⟨3,⟨by omega,fun _=>h0,fun _=>k2 (by omega),fun _=>by first | exact h5 | trivial⟩,by omega,Weak.mk (by simp (disch:=omega) only [Zc,ZB,W7,Zpw,go_sem,seval])⟩
    ·have hk3:k=3:=by omega
     subst hk3;have h0:=k1 (by omega);have hsq:=Wz h0
     have hr0:XD x r=if ¬(0<=r.start/\r.start<=4096/\r.rests.length<=r.visits.length+1) then 2 else 0:=by
      rw [XD,if_neg (fun h=>h hty),if_neg (by omega),if_neg (k2 (by omega)),if_neg (by rw [k3 (by omega)];simp)]
     have cb:=Zm3 x r hx hl hrl hty h0;have hok:=Qm hx hty hsq
     have hbr:Un x r=Xd x r->(Xd x r).2=0->(0<=r.start/\r.start<=4096/\r.rests.length<=r.visits.length+1)->(0<=(Xd x r).1.fin/\(Xd x r).1.fin<=8192)/\(0<=(Xd x r).1.miles/\(Xd x r).1.miles<=210000):=fun _ hz hs =>
      Zaa hok ⟨hs.1,hs.2.1⟩ (by rw [Xi];exact hs.2.2) hz
     by_cases h6:0<=r.start/\r.start<=4096/\r.rests.length<=r.visits.length+1
     ·have e:XD x r=0:=by rw [hr0,if_neg (fun h=>h h6)]
      have ee:Xj x r=(Xd x r).2:=by rw [Xj,if_pos e]
      have eb:Un x r=Xd x r:=by rw [Un,if_pos h6]
      have hbr:=fun hz=>hbr eb hz h6;rw [eb] at cb
      have es:Vw x r=if (Xd x r).2=0 then (Xd x r).1 else zShe:=by rw [Vw,ee]
      have ep:QN x r=if (Xd x r).2=0 then ZlQ x r (Xd x r).1 else zSco:=by rw [QN,ee]
      unfold Zaj;rw [ee,es,ep];clear ee es ep eb
      generalize Xd x r=q at *
      obtain ⟨sh,eb⟩:=q;simp only at cb hbr ⊢;refine Xs cb ?_;simp (disch:=omega) only [go_sem,seval];refine cD ?_ ?_<;>intro h7<;>simp (disch:=omega) only [Sh.out h7,go_sem,seval]
      ·exact we (by simp (disch:=omega) only [zShe,zSco,List.map_nil,go_sem,seval])
      ·have h7':eb=0:=by omega
       try rw [if_pos h7',if_pos h7']
       subst h7';obtain ⟨g1,g2⟩:=hbr rfl;refine Zn 5 mixed (by kernel_rfl) (by kernel_rfl) ?_;simp (disch:=omega) only [go_sem,seval];refine Zj (Zjs x r sh hty (by omega) htl hl hsq.inr hnum.2.2.2.1 (by omega) (by omega) (by omega)) ?_;simp (disch:=omega) only [go_sem,seval];exact we
     ·have e:XD x r=2:=by rw [hr0,if_pos h6]
      have eb:Un x r=(zShe,2):=by rw [Un,if_neg h6]
      rw [Xg (e:=2) (by rw [Xj,e];rfl) (by omega)];rw [eb] at cb;refine Xs cb ?_;simp (disch:=omega) only [go_sem,seval];exact we (by simp (disch:=omega) only [zShe,zSco,List.map_nil,go_sem,seval])
theorem K0 {x:Inst} {r:Rte} (h:Xj x r=0):XD x r=0:=by
 unfold Xj at h
 split at h
 ·assumption
 ·rename_i c;exact absurd h c
theorem Zba {x:Inst} {r:Rte} (h:XD x r=0):(0<=r.typ/\r.typ<(x.types.length:Int))/\ZR x r.visits=0/\(0<=r.start/\r.start<=4096/\r.rests.length<=r.visits.length+1):=by
 unfold XD at h
 split at h
 ·simp at h
 ·rename_i c1
  split at h
  ·rename_i c2;exact absurd h c2
  ·rename_i c2
   split at h
   ·simp at h
   ·split at h
    ·simp at h
    ·split at h
     ·simp at h
     ·rename_i c5;exact ⟨by omega,by omega,Classical.not_not.1 c5⟩
theorem ZjJ {x:Inst} {r:Rte} (hx:InstOk x) (h:Xj x r=0):(0<=(Vw x r).fin/\(Vw x r).fin<=8192)/\(0<=(Vw x r).miles/\(Vw x r).miles<=210000):=by
 obtain ⟨hty,h0,hs⟩:=Zba (K0 h)
 have e:Vw x r=(Xd x r).1:=by rw [Vw,if_pos h]
 have ee:(Xd x r).2=0:=by rw [Xj,if_pos (K0 h)] at h;exact h
 rw [e];exact Zaa (Qm hx hty (Wz h0)) ⟨hs.1,hs.2.1⟩ (by rw [Xi];exact hs.2.2) ee
theorem ZbA {x:Inst} {r:Rte} (hx:InstOk x) (hl:r.visits.length<=1048576) (h:Xj x r=0):scoR 1073741824 (QN x r):=by
 have hg:=ZjJ hx h;obtain ⟨hty,_,_⟩:=Zba (K0 h);have hnum:=Wh hx (show r.typ.toNat<x.types.length by omega);have htyp:nth x.types r.typ.toNat=Z2 x r:=rfl;rw [htyp] at hnum
 have e:(Xd x r).1=Vw x r:=by rw [Vw,if_pos h]
 have hch:=Qf (x:=x) (l:=r.visits) (t:=r.typ) r.visits.length;rw [QN,if_pos h,e];unfold ZlQ scoR
 generalize Vw x r=s at *
 generalize Z2 x r=t at *
 have p1:0<=t.perMile*s.miles/\t.perMile*s.miles<=100*210000:=⟨Int.mul_nonneg (by omega) (by omega),Int.mul_le_mul (by omega) (by omega) (by omega) (by omega)⟩
 have hW: -8192<=s.fin-t.opn/\s.fin-t.opn<=8192:=by omega
 have p2: -819200<=t.perTick*(s.fin-t.opn)/\t.perTick*(s.fin-t.opn)<=819200:=by
  generalize s.fin-t.opn=w at hW;have a1:=Int.mul_le_mul_of_nonneg_left hW.2 (show 0<=t.perTick by omega);have a2:=Int.mul_le_mul_of_nonneg_left hW.1 (show 0<=t.perTick by omega);omega
 have p3: -128<=(s.fin-t.opn).tdiv 64/\(s.fin-t.opn).tdiv 64<=128:=by
  generalize s.fin-t.opn=w at hW;rcases Int.le_total 0 w with h | h
  ·rw [Int.tdiv_eq_ediv_of_nonneg h];omega
  ·have:w.tdiv 64= -((-w) / 64):=by rw [<- Int.tdiv_eq_ediv_of_nonneg (by omega),Int.neg_tdiv,Int.neg_neg]
   rw [this];omega
 have p4:0<=(s.fin-t.opn).tdiv 64*(s.fin-t.opn).tdiv 64/\(s.fin-t.opn).tdiv 64*(s.fin-t.opn).tdiv 64<=16384:=by
  generalize (s.fin-t.opn).tdiv 64=q at p3;refine ⟨?_,?_⟩
  ·rcases Int.le_total 0 q with h | h
   ·exact Int.mul_nonneg h h
   ·exact Int.mul_nonneg_of_nonpos_of_nonpos h h
  ·rcases Int.le_total 0 q with h | h
   ·have:=Int.mul_le_mul p3.2 p3.2 h (by omega);omega
   ·have h2:0<= -q:=by omega
    have:=Int.mul_le_mul (show-q<=128 by omega) (show-q<=128 by omega) h2 (by omega);rw [Int.neg_mul_neg] at this;omega
 simp only;omega
def Zar (x:Inst) (r:Rte):Int×Int:=if Xj x r=0 then W5 (QN x r) else (0,Xj x r)
theorem Zkq (s:Sco):0<=(W5 s).1/\(W5 s).1<=36028797018963968:=by
 unfold W5
 split
 ·simp
 ·split
  ·simp
  ·simp only;omega
theorem Zkc (x:Inst) (r:Rte):0<=(Zar x r).1/\(Zar x r).1<=36028797018963968:=by
 unfold Zar
 split
 ·exact Zkq _
 ·simp
theorem Zhs (x:Inst) (r:Rte) (hx:InstOk x) (hb:Zi3 r):PT 143 [.p (Zt x),.p (Wr r)] [.p (.int .i64 (Zar x r).1),.p (.int .i64 (Zar x r).2)]:=by
 have ce:=Ze8 x r hx hb.1 hb.2;refine Zb [] Tryz.func143 rfl Zri ?_;simp (disch:=omega) only [Tryz.f143,go_sem,seval];unfold Zaj at ce;refine Zf2 ce ?_;simp (disch:=omega) only [go_sem,seval];refine cD ?_ ?_<;>intro h1<;>simp (disch:=omega) only [Sh.out h1,go_sem,seval]
 ·rw [Zar,if_neg h1];exact we
 ·have h0:Xj x r=0:=by omega
  rw [Zar,if_pos h0];refine Ka (ZbH (QN x r) (WI (by omega) (ZbA hx hb.1 h0))) ?_;simp (disch:=omega) only [go_sem,seval];exact we
theorem ZcV (x:Inst) (r:Rte) (hx:InstOk x) (hb:Zi3 r):PT 154 [.p (Zt x),.p (Wr r)] [.p (.int .i64 (Zar x r).1),.p (.int .i64 (Zar x r).2)]:=by
 have ce:=UW x r hx hb.1 hb.2;refine Zb [] Tryz.func154 rfl ZuJ ?_;simp (disch:=omega) only [Tryz.f154,go_sem,seval];unfold Zaj at ce;refine Zf2 ce ?_;simp (disch:=omega) only [go_sem,seval];refine cD ?_ ?_<;>intro h1<;>simp (disch:=omega) only [Sh.out h1,go_sem,seval]
 ·rw [Zar,if_neg h1];exact we
 ·have h0:Xj x r=0:=by omega
  rw [Zar,if_pos h0];refine Ka (JZ (QN x r) (WI (by omega) (ZbA hx hb.1 h0))) ?_;simp (disch:=omega) only [go_sem,seval];exact we
theorem Zjw {x:Inst} {t:Typ} {p:Int} {stop:Stp} {out:List Sr} {a b:Sr} (h:b∈out):b∈JY x t p stop out a:=by
 unfold JY
 split
 ·exact h
 ·split
  ·exact h
  ·exact XU.2 (.inl h)
theorem Zeu {x:Inst} {t:Typ} {p:Int} {stop:Stp} : ∀(st:List Sr) (out:List Sr) (b:Sr),(b∈out->b∈st.foldl (JY x t p stop) out)/\ ∀a∈st,(∀o,b∈JY x t p stop o a)->b∈st.foldl (JY x t p stop) out
 | [],out,b=>⟨id,fun a h=>by simp at h⟩
 | c::st,out,b=>by
  rw [List.foldl_cons];obtain ⟨g1,g2⟩:=Zeu st (JY x t p stop out c) b;refine ⟨fun h=>g1 (Zjw h),fun a ha hb=> ?_⟩;rcases List.mem_cons.1 ha with rfl | ha
  ·exact g1 (hb _)
  ·exact g2 a ha hb
inductive Rch (x:Inst) (t:Typ) (sp:List Stp):Nat->Lab->Prop where
 | zero:Rch x t sp 0 (labF t 0)
 | succ {k:Nat} {L:Lab} (b:Bool) (h:Rch x t sp k L) (hk:k<sp.length) (e:(nxtF x t sp k L b).2=0):Rch x t sp (k+1) (nxtF x t sp k L b).1
theorem ZiE {x:Inst} {t:Typ} {sp:List Stp} : ∀(bs:List Bool) (k:Nat) (L:Lab),Rch x t sp k L->k+bs.length=sp.length+1->(XV x t sp k L bs).2=0-> ∀j,k<=j->j<=sp.length-> ∃L',Rch x t sp j L'
 | [],k,L,h,hl,_,j,h1,h2=>by simp at hl;omega
 | b::bs,k,L,h,hl,hr,j,h1,h2=>by
  by_cases e:k=j
  ·subst e;exact ⟨L,h⟩
  ·rw [XV] at hr
   split at hr
   ·rename_i he;exact ZiE bs (k+1) _ (.succ b h (by omega) he) (by simp at hl;omega) hr j (by omega) h2
   ·rename_i he;exact absurd hr he
theorem ZgI {x:Inst} {t:Typ} {sp:List Stp} {st:Int} {r:List Bool} (hr:r.length<=sp.length+1) (h:(VN x t sp st r).2=0): ∃bs:List Bool,bs.length=sp.length+1/\(XV x t sp 0 (labF t st) bs).2=0:=by
 unfold VN at h
 cases hf:fmL WZ none ((YG r (sp.length+1)).filterMap (Uw (X3 x t sp) 0 (labF t st))) with
 | none =>
  rw [hf] at h;exact ⟨Va r (sp.length+1),by simp [Va];omega,h⟩
 | some L =>
  have hm:=bestF_len.fmL_mem _ _ hf;obtain ⟨bs,hbs,hrun⟩:=List.mem_filterMap.1 hm;rw [Wk] at hrun
  split at hrun
  ·rename_i h5;obtain ⟨q,hq,rfl⟩:=List.mem_map.1 hbs;have hql:=bestF_len.fromB_len _ _ hq;simp at hql;exact ⟨_,by simp [hql];omega,h5⟩
  ·cases hrun
def ZtD (x:Inst) (t:Typ) (l:List Vis) (s:Int×List Sr):Prop:=s.1=Qq t (ZA x l) l.length/\ ∀r L,Rch x t (ZA x (l++r)) l.length L-> ∀b,(⟨ZW t L b,W3 L b⟩:Sr)∈s.2
def goS (x:Inst) (t:Typ) (s:Int×List Sr) (v:Vis):Int×List Sr:=((Xf x v).place,Kr x t s.1 s.2 (Xf x v))
def st0 (t:Typ):Int×List Sr:=(t.src,YI t [] t.opn 0)
theorem ZkR {x:Inst} {t:Typ} (h:0<=t.opn):ZtD x t [] (st0 t):=by
 refine ⟨rfl,fun r L hL b=> ?_⟩
 have:L=labF t 0:=by
  generalize hk:([]:List Vis).length=k at hL
  cases hL with
  | zero=>rfl
  | succ=>simp at hk
 subst this
 have hm:max t.opn 0=t.opn:=by omega
 cases b
 ·exact XU.2 (.inr (.inl (by simp [ZW,W3,labF,hm])))
 ·exact XU.2 (.inr (.inr (by simp [ZW,W3,labF,hm])))
theorem Zbz {x:Inst} {l r:List Vis} {v:Vis} :nth (ZA x (l++(v::r))) l.length=Xf x v:=by
 rw [Ze (by simp [ZA])];simp [ZA]
theorem Zj1 {x:Inst} {t:Typ} {l r:List Vis} :Qq t (ZA x (l++r)) l.length=Qq t (ZA x l) l.length:=by
 unfold Qq
 split
 ·rfl
 ·rename_i h
  have h1:l.length-1<(ZA x (l++r)).length:=by simp [ZA];omega
  have h2:l.length-1<(ZA x l).length:=by simp [ZA];omega
  rw [Ze h1,Ze h2];simp only [ZA,List.map_append];rw [List.getElem_append_left]
theorem Zk5 {x:Inst} {t:Typ} {l:List Vis} {s:Int×List Sr} {v:Vis} (h:ZtD x t l s):ZtD x t (l++ [v]) (goS x t s v):=by
 obtain ⟨h1,h2⟩:=h;refine ⟨?_,fun r L' hL b=> ?_⟩
 ·have e:=Zbz (x:=x) (l:=l) (r:= []) (v:=v);rw [Qq,if_neg (by simp),show (l++ [v]).length-1=l.length by simp,e];rfl
 ·rw [List.append_assoc,List.cons_append,List.nil_append] at hL;generalize hsp:ZA x (l++(v::r))=sp at hL
  have hlen:l.length<sp.length:=by rw [<- hsp];simp [ZA]
  have hat:nth sp l.length=Xf x v:=by rw [<- hsp];exact Zbz
  have hpl:Qq t sp l.length=s.1:=by rw [h1,<- hsp];exact Zj1
  generalize hk:(l++ [v]).length=k at hL
  cases hL with
  | zero=>simp at hk
  | succ b' hp hk' he =>
   rename_i k L
   have hkl:k=l.length:=by simp at hk;omega
   subst hkl;have hmem:=h2 (v::r) L (by rw [hsp];exact hp) b'
   generalize hd:ZW t L b'=d at *
   generalize hs:W3 L b'=w at *
   have hg:goL x t sp l.length d=goN x.net t.prof s.1 (Xf x v).place d:=by
    rw [goL,hpl,toF,if_neg (by omega),hat]
   unfold nxtF at he ⊢;rw [hd,hs,hg] at he ⊢
   generalize hgn:goN x.net t.prof s.1 (Xf x v).place d=g at *
   unfold Vy at he ⊢
   split at he
   ·simp at he
   ·rename_i c1;rw [if_neg c1];rw [if_neg (by omega)] at he ⊢;rw [hat] at he ⊢
    split at he
    ·simp at he
    ·rename_i c2;rw [if_neg c2]
     split at he
     ·simp at he
     ·rename_i c3;rw [if_neg c3];refine (Zeu s.2 [] _).2 ⟨d,w⟩ hmem fun o=> ?_;have c4: ¬(¬g.2.2=0\/t.drive<w+g.1-d):=fun hh=>hh.elim (fun e=>c1 e) (fun e=>c3 e);simp only [JY,hgn];rw [if_neg c4,if_neg c2]
      cases b
      ·exact XU.2 (.inr (.inl rfl))
      ·exact XU.2 (.inr (.inr rfl))
theorem ZiA {x:Inst} {k:Int} {l:List Vis} {s:Int×List Sr} (h:ZtD x (nth x.types k.toNat) l s) (he:s.2= []) (r:List Vis) (c d:Bool): ¬(Zar x ⟨k,0,c,[],d,l++r⟩).2=0:=fun hp=>by
 have h1:Xj x ⟨k,0,c,[],d,l++r⟩=0:=by
  unfold Zar at hp
  split at hp
  ·assumption
  ·exact hp
 have h2:(Xd x ⟨k,0,c,[],d,l++r⟩).2=0:=by
  unfold Xj at h1
  split at h1
  ·exact h1
  ·rename_i h3;exact absurd h1 h3
 obtain ⟨bs,hl,hrun⟩:=ZgI (by simp) h2;obtain ⟨L,hL⟩:=ZiE bs 0 _ .zero (by omega) hrun l.length (by omega) (by simp [ZA]);have:=h.2 r L hL false;rw [he] at this;simp at this
def rtV (k:Int) (l:List Vis):Rte:=⟨k,0,true,[],false,l⟩
def okV (x:Inst) (k:Int) (l:List Vis):Bool:=decide ((Zar x (rtV k l)).2=0)
def okR (x:Inst) (k:Int) (S:Nat) (l:List Vis):Bool:=decide ((JH l).1=(S:Int))&&(decide (Xj x (rtV k l)=0)&&okV x k l)
def Y1 (x:Inst) (k:Int) (S:Nat) (l:List Vis):Col:=⟨k,S,(Zar x (rtV k l)).1,rtV k l⟩
def WD (a b:Col):Bool:=if a.price≠b.price then decide (a.price<b.price) else decide (Zc4 a.route.visits b.route.visits<0)
def nxV (x:Inst) (S:Nat) (l:List Vis):List Vis:=nextU x S l x.orders.length
def Vn (x:Inst) (S:Nat):Nat:=Zau x S x.orders.length
def lvP (x:Inst) (k:Int) (S f:Nat) (l:List Vis) (s:Int×List Sr):List (List Vis):=lvW (nxV x S) (goS x (nth x.types k.toNat)) (fun s=>s.2.isEmpty) f l s
def Zjb (x:Inst) (k:Int) (S:Nat) (z:Col×Bool):Col×Bool:=(lvP x k S (Vn x S) [] (st0 (nth x.types k.toNat))).foldl (X1 (okV x k) (Y1 x k S) WD) z
def Zfl (x:Inst) (k:Int) (S:Nat) (z:Col×Bool):Col×Bool:=(lvR (nxV x S) (Vn x S) []).foldl (X1 (okR x k S) (Y1 x k S) WD) z
theorem ZbT {ok ok':List Vis->Bool} {col:List Vis->Col} {better:Col->Col->Bool} : ∀ {L:List (List Vis)} {b:Col×Bool},(∀l∈L,ok l=ok' l)->L.foldl (X1 ok col better) b=L.foldl (X1 ok' col better) b
 | [],_,_=>rfl
 | l::L,b,h=>by
  rw [List.foldl_cons,List.foldl_cons,X1,X1,h l (by simp)];exact ZbT fun m hm=>h m (List.mem_cons_of_mem _ hm)
theorem Zbt {ok:List Vis->Bool} {col:List Vis->Col} {better:Col->Col->Bool} : ∀ {L:List (List Vis)} {b:Col×Bool},(∀l∈L,ok l=false)->L.foldl (X1 ok col better) b=b
 | [],_,_=>rfl
 | l::L,b,h=>by
  rw [List.foldl_cons,X1,if_neg (by rw [h l (by simp)];simp)];exact Zbt fun m hm=>h m (List.mem_cons_of_mem _ hm)
theorem ZlT {x:Inst} {S:Nat} (hN: ∀l,Gr x S l->l.length<Vn x S->nxV x S l≠ []): ∀(f:Nat) (l m:List Vis),Gr x S l->l.length+f=Vn x S->m∈lvR (nxV x S) f l->Gr x S m/\m.length=Vn x S
 | 0,l,m,h,ht,hm=>by
  simp only [lvR,List.mem_cons,List.not_mem_nil,or_false] at hm;subst hm;exact ⟨h,ht⟩
 | f+1,l,m,h,ht,hm=>by
  rw [lvR,if_neg (hN l h (by omega))] at hm;obtain ⟨v,hv,hm⟩:=List.mem_flatMap.1 hm;exact ZlT hN f _ m (.snoc h hv) (by simp;omega) hm
theorem Zcn {x:Inst} {r:Rte} (h:Xj x r=0):RightV x r.visits:=by
 rw [<- ZhG]
 have h1:XD x r=0:=by
  unfold Xj at h
  split at h
  ·assumption
  ·exact h
 unfold XD at h1
 split at h1
 ·cases h1
 ·split at h1
  ·rename_i h2;exact absurd h1 h2
  ·rename_i h2;exact Classical.not_not.1 h2
theorem Zli {x:Inst} {k:Int} {l:List Vis} (h:okV x k l=true):Xj x (rtV k l)=0:=by
 have h:=of_decide_eq_true h;unfold Zar at h
 split at h
 ·assumption
 ·exact h
theorem Zh3 {x:Inst} (hx:InstOk x) {S:Nat} (ha:Alw x S) (l:List Vis) (h:Gr x S l) (hl:l.length<Vn x S):nxV x S l≠ []:=fun e=>by
 have hf:=Xe hx
 have hn:x.orders.length<=60:=by have:=hf.len;omega
 have:=(h.next_nil ha hn hf.val).1 e;unfold Vn at hl;omega
theorem ZsD {x:Inst} (hx:InstOk x) {k:Int} {S:Nat} (h0:S≠0) (hS:S / pw x.orders.length=0) (ha:Alw x S) (ht:0<=(nth x.types k.toNat).opn) (z:Col×Bool):Zjb x k S z=Zfl x k S z:=by
 have hN:=Zh3 hx ha
 have h1:Zfl x k S z=(lvR (nxV x S) (Vn x S) []).foldl (X1 (okV x k) (Y1 x k S) WD) z:=ZbT fun l hl=>by
  obtain ⟨hg,hlen⟩:=ZlT hN _ _ _ .nil (by simp) hl;obtain ⟨hr,ho⟩:=hg.right (Xe hx) ha h0 hS hlen;unfold okR
  cases hv:okV x k l with
  | false=>simp
  | true =>
   rw [Zli hv,hr.ord (Xe hx),ho];simp
 rw [h1,Zjb,lvP,Wi,Wi (lvR _ _ _)]
 rw [<- Zuf (nx:=nxV x S) (go:=goS x (nth x.types k.toNat)) (emp:=fun s=>s.2.isEmpty) (ok:=okV x k) (G:=Gr x S) (R:=ZtD x (nth x.types k.toNat)) (tot:=Vn x S) (fun l v hl hv=> .snoc hl hv) (fun l s v _ hs _=>Zk5 hs)
  (fun l s _ hs he r=>decide_eq_false (ZiA hs (List.isEmpty_iff.1 he) r true false)) hN (Vn x S) [] (st0 (nth x.types k.toNat)) .nil (ZkR ht) (by simp)]
theorem Znz {x:Inst} (hx:InstOk x) {k:Int} {S:Nat} (ha: ¬Alw x S) (z:Col×Bool):Zfl x k S z=z:=Zbt fun l _=>by
 cases ho:okR x k S l with
 | false=>rfl
 | true =>
  exfalso;simp only [okR,Bool.and_eq_true,decide_eq_true_eq] at ho;have hr:=Zcn ho.2.1;have hv:(rtV k l).visits=l:=rfl;rw [hv] at hr;have he:=hr.ord (Xe hx);rw [he] at ho
  have hS:Yd l=S:=by have:=ho.1;simp only at this;omega
  exact ha (hS ▸ hr.alw (Xe hx))
set_option maxRecDepth 60000
structure St where
 ix:Int
 cov:Int
 used:List Int
 deriving Inhabited,DecidableEq
def eSt (s:St):PV:= .agg (.int .i64 s.ix:: .int .i64 s.cov::s.used.map eI)
@[go_sem] theorem ZEP (s:St):eSt s= .agg (.int .i64 s.ix:: .int .i64 s.cov::s.used.map eI):=Eq.trans rfl rfl
def StR (s:St):Prop:=s.used.length=6
theorem six {l:List Int} (h:l.length=6): ∃a b c d e f,l= [a,b,c,d,e,f]:=by
 match l,h with
 | [a,b,c,d,e,f],_=>exact ⟨a,b,c,d,e,f,rfl⟩
theorem Xl {s:St} (h:StR s): ∃i v a b c d e f,s=⟨i,v,[a,b,c,d,e,f]⟩:=by
 obtain ⟨i,v,u⟩:=s;obtain ⟨a,b,c,d,e,f,rfl⟩:=six h;exact ⟨i,v,a,b,c,d,e,f,rfl⟩
theorem Zf4 : KeyE Tryz.prog 143 eSt StR:=by
 refine ⟨⟨99,3,by kernel_rfl,by kernel_rfl,fun s hs=> ?_,fun s t hs ht=> ?_⟩,fun s t hs ht=> ?_⟩
 ·obtain ⟨i,v,a,b,c,d,e,f,rfl⟩:=Xl hs
  kernel_rfl
 ·obtain ⟨i,v,a,b,c,d,e,f,rfl⟩:=Xl hs;obtain ⟨i',v',a',b',c',d',e',f',rfl⟩:=Xl ht
  have h1:Uh Tryz.prog 9 99 (eSt ⟨i,v,[a,b,c,d,e,f]⟩) (eSt ⟨i',v',[a',b',c',d',e',f']⟩)=some (decide (i=i')&&(decide (v=v')&&((decide (a=a')&&(decide (b=b')&&(decide (c=c')&&(decide (d=d')&&(decide (e=e')&&(decide (f=f')&&true))))))&&true))):=by kernel_rfl
  have h2:keq (eSt ⟨i,v,[a,b,c,d,e,f]⟩) (eSt ⟨i',v',[a',b',c',d',e',f']⟩)=(decide (i=i')&&(decide (v=v')&&((decide (a=a')&&(decide (b=b')&&(decide (c=c')&&(decide (d=d')&&(decide (e=e')&&(decide (f=f')&&true))))))&&true))):=by
   simp [keq,eSt,UC,eI,<- Bool.decide_and]
  show (Uh Tryz.prog 9 99 (eSt ⟨i,v,[a,b,c,d,e,f]⟩) (eSt ⟨i',v',[a',b',c',d',e',f']⟩)==some (keq (eSt ⟨i,v,[a,b,c,d,e,f]⟩) (eSt ⟨i',v',[a',b',c',d',e',f']⟩)))=true
  rw [h1,h2];simp
 ·obtain ⟨i,v,a,b,c,d,e,f,rfl⟩:=Xl hs;obtain ⟨i',v',a',b',c',d',e',f',rfl⟩:=Xl ht;simp [keq,eSt,UC,eI,<- Bool.decide_and]
structure Kd where
 typ:Int
 set:Int
 deriving Inhabited,DecidableEq
def eKd (k:Kd):PV:= .agg [.int .i64 k.typ,.int .i64 k.set]
theorem ZlH : KeyE Tryz.prog 205 eKd fun _=>True:=by
 refine ⟨⟨207,3,by kernel_rfl,by kernel_rfl,fun s _=> ?_,fun s t _ _=> ?_⟩,fun s t _ _=> ?_⟩
 ·kernel_rfl
 ·obtain ⟨a,b⟩:=s;obtain ⟨c,d⟩:=t
  have h1:Uh Tryz.prog 9 207 (eKd ⟨a,b⟩) (eKd ⟨c,d⟩)=some (decide (a=c)&&(decide (b=d)&&true)):=by kernel_rfl
  have h2:keq (eKd ⟨a,b⟩) (eKd ⟨c,d⟩)=(decide (a=c)&&(decide (b=d)&&true)):=by
   simp [keq,eKd,UC,<- Bool.decide_and]
  show (Uh Tryz.prog 9 207 (eKd ⟨a,b⟩) (eKd ⟨c,d⟩)==some (keq (eKd ⟨a,b⟩) (eKd ⟨c,d⟩)))=true
  rw [h1,h2];simp
 ·obtain ⟨a,b⟩:=s;obtain ⟨c,d⟩:=t;simp [keq,eKd,UC]
def Zci (n:Nat) (m cov:Int):Nat->Nat->Nat
 | 0,k=>k
 | f+1,k=>if k<n/\(sHas m k=false\/sHas cov k=true) then Zci n m cov f (k+1) else k
theorem QK {n:Nat} {m cov:Int} {k:Nat} (h: ¬(k<n/\(sHas m k=false\/sHas cov k=true))) (f:Nat):Zci n m cov f k=k:=by
 cases f with
 | zero=>rfl
 | succ f=>rw [Zci,if_neg h]
theorem KC {n:Nat} {m cov:Int} {k:Nat} (h:k<n) (hc:sHas m k=false\/sHas cov k=true):Zci n m cov (n-k) k=Zci n m cov (n-(k+1)) (k+1):=by
 rw [show n-k=(n-(k+1))+1 by omega,Zci,if_pos ⟨h,hc⟩]
def Vh (n:Nat) (m:Int) (s:St):St:= { s with ix:=(Zci n m s.cov (n-s.ix.toNat) s.ix.toNat:Nat) }
def X6 (x:Inst) (f g:PV) (m:Int):AM.Obj:= .cells [.p (.list x.net.places_c (x.net.places.map eS)),.p (.list x.net.arcs_c (x.net.arcs.map Qh)),.p (.list x.types_c (x.types.map U7)),.p (.list x.orders_c (x.orders.map Ug)),.p (.list x.apart_c (x.apart.map eP)),.p (.list x.before_c (x.before.map eP)),.p f,.p g,.mp 0,.p (.int .i64 m)]
def Xu (x:Inst) (f g:PV) (m:Int) (l:List (St×Int)):List AM.Obj:= [.map (l.map (eKI eSt)),X6 x f g m]
def stO (s:St):AM.Obj:= .cells (.p (.int .i64 s.ix):: .p (.int .i64 s.cov)::(s.used.map eI).map .p)
theorem Qs (x:Inst) (f g:PV) (m:Int) (l:List (St×Int)) (s:St) (hs:StR s) (h0:0<=s.ix) (hn:x.orders.length<=10) (h1:s.ix<=10) :
  ACalls Tryz.prog 50 [.ptr 1 0,.p (eSt s)] (Xu x f g m l) fun y H'=>y= .p (eSt (Vh x.orders.length m s))/\H'=Xu x f g m l:=by
 obtain ⟨i,v,a,b,c,d,e,u,rfl⟩:=Xl hs;obtain ⟨i,rfl⟩: ∃k:Nat,i=k:=⟨i.toNat,by simp only at h0;omega⟩;simp only at h0 h1;generalize hT:eSt (Vh x.orders.length m ⟨i,v,[a,b,c,d,e,u]⟩)=T;refine Zb [] Tryz.func50 rfl ZBu ?_;simp (disch:=omega) only [Tryz.f50,Xu,X6,List.map_cons,List.map_nil,go_sem,seval];refine Zf [0,3,4] (fun k:Nat=> []) (fun k=>Xu x f g m l++ [stO ⟨k,v,[a,b,c,d,e,u]⟩,.cells (List.replicate 8 (.p (.int .i64 0)))]) (fun k=>k<=10/\Zci x.orders.length m v (x.orders.length-k) k=Zci x.orders.length m v (x.orders.length-i) i) (fun k=>x.orders.length-k) i ⟨by omega,rfl⟩ (Weak.mk ?_) ?_
 ·simp (disch:=omega) only [Xu,X6,stO,List.map_cons,List.map_nil,List.replicate,go_sem,seval]
 ·rintro k ⟨hk,hq⟩
  have fin: ∀q:Nat,q=Zci x.orders.length m v (x.orders.length-i) i->eSt ⟨q,v,[a,b,c,d,e,u]⟩=T:=fun q hq=>by rw [<- hT,Vh,hq];rfl
  simp (disch:=omega) only [Xu,X6,stO,List.map_cons,List.map_nil,List.replicate,go_sem,seval];refine Zg mixed (by kernel_rfl) (by kernel_rfl) ?_;simp (disch:=omega) only [go_sem,seval];refine gT ?_ ?_<;>intro h5<;>simp (disch:=omega) only [Sh.out h5,go_sem,seval]
  ·have hk2:k<x.orders.length:=by omega
   refine Zj (ZaT m k) ?_;simp (disch:=omega) only [go_sem,seval]
   cases hm:sHas m k with
   | false =>
    simp (disch:=omega) only [hm,Bool.not_false,go_sem,seval];exact ⟨k+1,⟨by omega,by rw [<- hq,KC hk2 (.inl hm)]⟩,by omega,Weak.mk (by simp (disch:=omega) only [Xu,X6,stO,List.map_cons,List.map_nil,List.replicate,go_sem,seval])⟩
   | true =>
    simp (disch:=omega) only [hm,Bool.not_true,go_sem,seval];refine Zj (ZaT v k) ?_;simp (disch:=omega) only [go_sem,seval]
    cases hv:sHas v k with
    | true =>
     simp (disch:=omega) only [hv,go_sem,seval];exact ⟨k+1,⟨by omega,by rw [<- hq,KC hk2 (.inr hv)]⟩,by omega,Weak.mk (by simp (disch:=omega) only [Xu,X6,stO,List.map_cons,List.map_nil,List.replicate,go_sem,seval])⟩
    | false =>
     simp (disch:=omega) only [hv,go_sem,seval];exact ⟨.p (eSt ⟨k,v,[a,b,c,d,e,u]⟩),_,Weak.mk (by simp (disch:=omega) only [List.map_cons,List.map_nil,go_sem,seval]),by rw [fin k (by rw [<- hq,QK (by rw [hm,hv];simp)])],rfl⟩
  ·exact ⟨.p (eSt ⟨k,v,[a,b,c,d,e,u]⟩),_,Weak.mk (by simp (disch:=omega) only [List.map_cons,List.map_nil,go_sem,seval]),by rw [fin k (by rw [<- hq,QK (by omega)])],rfl⟩
def Zfd (n:Nat) (m:Int) (s:St):St:=Vh n m { s with ix:=s.ix+1 }
theorem Zb2 (x:Inst) (f g:PV) (m:Int) (l:List (St×Int)) (s:St) (hs:StR s) (h0:0<=s.ix) (hn:x.orders.length<=10) (h1:s.ix<=9) :
  ACalls Tryz.prog 87 [.ptr 1 0,.p (eSt s)] (Xu x f g m l) fun y H'=>y= .p (eSt (Zfd x.orders.length m s))/\H'=Xu x f g m l:=by
 have hc:=Qs x f g m l { s with ix:=s.ix+1 } hs (by simp only;omega) hn (by simp only;omega);obtain ⟨i,v,a,b,c,d,e,u,rfl⟩:=Xl hs;obtain ⟨q,hq⟩: ∃q:Int,Zfd x.orders.length m ⟨i,v,[a,b,c,d,e,u]⟩=⟨q,v,[a,b,c,d,e,u]⟩:=⟨_,rfl⟩;have hq':Vh x.orders.length m ⟨i+1,v,[a,b,c,d,e,u]⟩=⟨q,v,[a,b,c,d,e,u]⟩:=hq;rw [hq];simp only at h0 h1 hc;rw [hq'] at hc;refine Zb [] Tryz.func87 rfl ZAo ?_;simp (disch:=omega) only [Tryz.f87,Xu,X6,List.map_cons,List.map_nil,go_sem,seval];refine hc.useP (L:= [_,_]) (by rfl) ?_ (by rfl) (by rfl)
 simp (disch:=omega) only [Xu,X6,List.map_cons,List.map_nil,List.cons_append,List.nil_append,go_sem,seval];exact we
def KQ (n:Nat) (m:Int) (s:St) (T:Nat) (C S:Nat):St:=Vh n m ⟨s.ix,((C|||S:Nat):Int),s.used.set T (nth s.used T+1)⟩
def ZfQ (x:Inst) (s:St) (T:Nat) (C S:Nat):Bool:=decide (C&&&S=0)&&decide (nth s.used T<(nth x.types T).count)
theorem Zmi (x:Inst) (f g:PV) (m:Int) (l:List (St×Int)) (s:St) (c:Col) (hs:StR s) (h0:0<=s.ix) (hn:x.orders.length<=10) (h1:s.ix<=10) (C S T:Nat) (hC:s.cov=C) (hS:c.set=S) (hT:c.typ=T) (hC2:C<1024) (hS2:S<1024) (hT2:T<x.types.length) (h6:x.types.length<=6)
  (hu: ∀j,j<6->0<=nth s.used j/\nth s.used j<=1048576) :
  ACalls Tryz.prog 86 [.ptr 1 0,.p (eSt s),.p (Xa c)] (Xu x f g m l) fun y H'=>y=(if ZfQ x s T C S=true then .tup [.p (eSt (KQ x.orders.length m s T C S)),.p (.bool true)] else .tup [.p (eSt s),.p (.bool false)])/\H'=Xu x f g m l:=by
 have hor:C|||S<1024:=Nat.or_lt_two_pow (n:=10) hC2 hS2;have hc:=Qs x f g m l ⟨s.ix,((C|||S:Nat):Int),s.used.set T (nth s.used T+1)⟩ (by simp [StR];exact hs) h0 hn h1;obtain ⟨i,v,a0,a1,a2,a3,a4,a5,rfl⟩:=Xl hs
 have hT3:T=0\/T=1\/T=2\/T=3\/T=4\/T=5:=by omega
 have u0:=hu 0 (by omega);have u1:=hu 1 (by omega);have u2:=hu 2 (by omega);have u3:=hu 3 (by omega);have u4:=hu 4 (by omega);have u5:=hu 5 (by omega);simp only [nth,List.getD_cons_zero,List.getD_cons_succ] at u0 u1 u2 u3 u4 u5;simp only at hC h0 h1;obtain ⟨ct,cs,cp,cr⟩:=c;simp only at hS hT;subst hC;subst hS;subst hT;obtain ⟨R,hR⟩: ∃R:V,R=(if ZfQ x ⟨i,(C:Nat),[a0,a1,a2,a3,a4,a5]⟩ T C S=true then .tup [.p (eSt (KQ x.orders.length m ⟨i,(C:Nat),[a0,a1,a2,a3,a4,a5]⟩ T C S)),.p (.bool true)] else .tup [.p (eSt ⟨i,(C:Nat),[a0,a1,a2,a3,a4,a5]⟩),.p (.bool false)]):=⟨_,rfl⟩
 rw [<- hR];obtain ⟨q,hq⟩: ∃q:Int,Vh x.orders.length m ⟨i,((C|||S:Nat):Int),[a0,a1,a2,a3,a4,a5].set T (nth [a0,a1,a2,a3,a4,a5] T+1)⟩=⟨q,((C|||S:Nat):Int),[a0,a1,a2,a3,a4,a5].set T (nth [a0,a1,a2,a3,a4,a5] T+1)⟩:=⟨_,rfl⟩;simp only at hc;rw [hq] at hc;have hw:KQ x.orders.length m ⟨i,(C:Nat),[a0,a1,a2,a3,a4,a5]⟩ T C S=⟨q,((C|||S:Nat):Int),[a0,a1,a2,a3,a4,a5].set T (nth [a0,a1,a2,a3,a4,a5] T+1)⟩:=hq;rw [hw] at hR;refine Zb [] Tryz.func86 rfl ZB0 ?_;rcases hT3 with rfl | rfl | rfl | rfl | rfl | rfl
 all_goals
  simp (disch:=omega) only [Tryz.f86,Xu,X6,List.map_cons,List.map_nil,go_sem,seval];refine Zg mixed (by kernel_rfl) (by kernel_rfl) ?_;simp (disch:=omega) only [go_sem,seval];refine gF ?_ ?_<;>intro h5<;>simp (disch:=omega) only [Sh.out h5,go_sem,seval]
  ·have hno:(decide (C&&&S=0))=false:=decide_eq_false (by omega);exact ⟨.tup [.p (eSt ⟨i,(C:Nat),[a0,a1,a2,a3,a4,a5]⟩),.p (.bool false)],_,Weak.mk (by simp (disch:=omega) only [List.map_cons,List.map_nil,go_sem,seval]),by rw [hR,if_neg (by rw [ZfQ,hno];simp)],rfl⟩
  ·have hcs:C&&&S=0:=by omega
   refine cD ?_ ?_<;>intro h7<;>simp (disch:=omega) only [Sh.out h7,go_sem,seval]
   ·exact ⟨.tup [.p (eSt ⟨i,(C:Nat),[a0,a1,a2,a3,a4,a5]⟩),.p (.bool false)],_,Weak.mk (by simp (disch:=omega) only [List.map_cons,List.map_nil,go_sem,seval]),by rw [hR,if_neg (by rw [ZfQ,decide_eq_true hcs,Bool.true_and];exact fun h=>Int.not_lt.2 h7 (of_decide_eq_true h))],rfl⟩
   ·rw [if_pos (by rw [ZfQ,decide_eq_true hcs,Bool.true_and];exact decide_eq_true (Int.not_le.1 h7))] at hR;refine hc.useP (L:= [_,_,_]) (by rfl) ?_ (by rfl) (by rfl);simp (disch:=omega) only [Xu,X6,List.map_cons,List.map_nil,List.cons_append,List.nil_append,List.set_cons_zero,List.set_cons_succ,go_sem,seval];exact ⟨R,_,Weak.mk (by rw [hR];simp (disch:=omega) only [nth,List.getD_cons_zero,List.getD_cons_succ,List.set_cons_zero,List.set_cons_succ,List.map_cons,List.map_nil,go_sem,seval]),rfl,rfl⟩
def Wb (o p r:Int):Int:=if 0<=r/\(o<0\/p+r<o) then p+r else o
theorem ZdN (o p r:Int) (hp: -4611686018427387904<=p/\p<=4611686018427387904) (hr: -4611686018427387904<r/\r<4611686018427387904) :
  ACalls Tryz.prog 85 [.p (.int .i64 p),.p (.int .i64 r),.ptr 0 0] [.cells [.p (.int .i64 o)]] fun y H'=>y= .tup []/\H'= [.cells [.p (.int .i64 (Wb o p r))]]:=by
 obtain ⟨T,hT⟩: ∃T,T=Wb o p r:=⟨_,rfl⟩;rw [<- hT];unfold Wb at hT;refine Zb [] Tryz.func85 rfl ZCA ?_;simp (disch:=omega) only [Tryz.f85,go_sem,seval];refine gT ?_ ?_<;>intro h1<;>simp (disch:=omega) only [Sh.out h1,go_sem,seval]
 ·refine gF ?_ ?_<;>intro h2<;>simp (disch:=omega) only [Sh.out h2,go_sem,seval]
  ·rw [if_pos ⟨h1,.inl h2⟩] at hT;subst hT;exact we
  ·refine cD ?_ ?_<;>intro h3<;>simp (disch:=omega) only [Sh.out h3,go_sem,seval]
   ·rw [if_pos ⟨h1,.inr h3⟩] at hT;subst hT;exact we
   ·rw [if_neg (by omega)] at hT;subst hT;exact we
 ·rw [if_neg (by omega)] at hT;subst hT;exact we
theorem Jg {n:Nat} {m cov:Int} : ∀(f k:Nat),k<=Zci n m cov f k
 | 0,k=>Nat.le_refl _
 | f+1,k=>by
  rw [Zci]
  split
  ·have:=Jg (n:=n) (m:=m) (cov:=cov) f (k+1);omega
  ·omega
theorem Zio {n:Nat} {m cov:Int} : ∀(f k:Nat),k<=n->Zci n m cov f k<=n
 | 0,k,h=>h
 | f+1,k,h=>by
  rw [Zci]
  split
  ·rename_i hc;exact Zio f (k+1) (by omega)
  ·exact h
theorem Zgy {n:Nat} {m cov:Int} {k:Nat} (h:k<n) (hb:sHas cov k=true):k+1<=Zci n m cov (n-k) k:=by
 rw [KC h (.inr hb)];exact Jg _ _
theorem Qj {l:List Int} {i j:Nat} {a:Int} (h:i<l.length):nth (l.set i a) j=if i=j then a else nth l j:=by
 unfold nth
 by_cases e:i=j
 ·subst e;simp [h]
 ·simp [e,List.getD_eq_getElem?_getD,List.getElem?_set_ne e]
structure StV (n:Nat) (s:St):Prop where
 len:StR s
 ix:0<=s.ix/\s.ix<=n
 cov: ∃C:Nat,s.cov=C/\C<1024
 used: ∀j,j<6->0<=nth s.used j/\nth s.used j<=1048576
theorem Zay {n:Nat} {m:Int} {s:St} (h:StV n s):StV n (Vh n m s)/\s.ix<=(Vh n m s).ix:=by
 obtain ⟨h1,h2,h3,h4⟩:=h;have a:=Jg (n:=n) (m:=m) (cov:=s.cov) (n-s.ix.toNat) s.ix.toNat;have b:=Zio (n:=n) (m:=m) (cov:=s.cov) (n-s.ix.toNat) s.ix.toNat (by omega);exact ⟨⟨h1,by simp only [Vh];omega,h3,h4⟩,by simp only [Vh];omega⟩
theorem Zd5 {n:Nat} {m:Int} {s:St} (h:StV n s) (hi:s.ix<n):StV n (Zfd n m s)/\s.ix<(Zfd n m s).ix:=by
 have h':StV n { s with ix:=s.ix+1 } :=⟨h.len,by have:=h.ix;simp only;omega,h.cov,h.used⟩;obtain ⟨a,b⟩:=Zay (m:=m) h';exact ⟨a,by simp only [Zfd] at b ⊢;omega⟩
theorem Znm {C S k:Nat} (h:sHas (S:Int) k=true):sHas ((C|||S:Nat):Int) k=true:=by
 have key: ∀N:Nat,sHas (N:Int) k=true↔k<=62/\N.testBit k=true:=fun N=>by
  simp only [sHas,Bool.and_eq_true,decide_eq_true_eq,Int.toNat_natCast]
  have e:((N:Int).fdiv (2^k))%2=((N / 2^k%2:Nat):Int):=by
   rw [Int.fdiv_eq_ediv_of_nonneg _ (Int.pow_nonneg (by decide))]
   norm_cast
  rw [e,Nat.testBit_eq_decide_div_mod_eq,decide_eq_true_eq];omega
 rw [key] at h ⊢;exact ⟨h.1,by rw [Nat.testBit_or,h.2,Bool.or_true]⟩
theorem Zor {n:Nat} {m:Int} {s:St} {T C S:Nat} (h:StV n s) (hi:s.ix<n) (hC:C<1024) (hS:S<1024) (hb:sHas (S:Int) s.ix=true) (hT:T<6) (hu:nth s.used T<1048576):StV n (KQ n m s T C S)/\s.ix<(KQ n m s T C S).ix:=by
 have hor:C|||S<1024:=Nat.or_lt_two_pow (n:=10) hC hS;have hl:s.used.length=6:=h.len
 have h':StV n ⟨s.ix,((C|||S:Nat):Int),s.used.set T (nth s.used T+1)⟩:=by
  refine ⟨by simp only [StR,List.length_set];exact hl,h.ix,⟨_,rfl,hor⟩,fun j hj=> ?_⟩;simp only;rw [Qj (by omega)]
  split
  ·have:=h.used T hT;omega
  ·exact h.used j hj
 obtain ⟨a,_⟩:=Zay (m:=m) h';refine ⟨a,?_⟩;obtain ⟨k,hk⟩: ∃k:Nat,s.ix=k:=⟨s.ix.toNat,by have:=h.ix;omega⟩;have:=Zgy (n:=n) (m:=m) (cov:=((C|||S:Nat):Int)) (k:=k) (by omega) (by rw [hk] at hb;exact Znm hb);simp only [KQ,Vh,hk,Int.toNat_natCast];omega
def YB (x:Inst) (s:St) (c:Col):Bool:=ZfQ x s c.typ.toNat s.cov.toNat c.set.toNat
def We (n:Nat) (m:Int) (s:St) (c:Col):St:=KQ n m s c.typ.toNat s.cov.toNat c.set.toNat
def Wf (n:Nat) (m:Int) (x:Inst) (fst:List (List Col)) (sk:List Int):Nat->St->Int
 | 0,_=>0
 | d+1,s=>if (n:Int)<=s.ix then 0 else
  let o:=(nth fst s.ix.toNat).foldl (fun o c=>if YB x s c=true then Wb o c.price (Wf n m x fst sk d (We n m s c)) else o) (-1)
  if 0<=nth sk s.ix.toNat then Wb o (nth sk s.ix.toNat) (Wf n m x fst sk d (Zfd n m s)) else o
structure ChOk (n:Nat) (x:Inst) (fst:List (List Col)) (sk:List Int):Prop where
 col: ∀i,i<n-> ∀c∈nth fst i,(0<=c.typ/\c.typ<x.types.length)/\(∃S:Nat,c.set=S/\S<1024)/\sHas c.set i=true/\0<=c.price/\c.price<=18014398509481984
 typ:x.types.length<=6/\ ∀t,t<6->(nth x.types t).count<=1048576
 skp: ∀i,i<n-> -1<=nth sk i/\nth sk i<=18014398509481984
theorem KU {n:Nat} {m:Int} {x:Inst} {fst:List (List Col)} {sk:List Int} (hc:ChOk n x fst sk) {s:St} (h:StV n s) (hi:s.ix<n) {c:Col} (hm:c∈nth fst s.ix.toNat) (hy:YB x s c=true):StV n (We n m s c)/\s.ix<(We n m s c).ix:=by
 obtain ⟨⟨t0,t1⟩,⟨S,hS,hS2⟩,hb,_⟩:=hc.col _ (by have:=h.ix;omega) c hm;obtain ⟨C,hC,hC2⟩:=h.cov;have ht:=hc.typ.1;have hcnt:=hc.typ.2 c.typ.toNat (by omega);simp only [YB,ZfQ,Bool.and_eq_true,decide_eq_true_eq] at hy;have hi0:=h.ix;rw [show ((s.ix.toNat:Nat):Int)=s.ix by omega] at hb;exact Zor h hi (by omega) (by omega) (by rw [show ((c.set.toNat:Nat):Int)=c.set by omega];exact hb) (by omega) (by omega)
theorem WY {α β:Type} {f g:β->α->β} : ∀ {l:List α} {b:β},(∀a∈l,∀b,f b a=g b a)->l.foldl f b=l.foldl g b
 | [],_,_=>rfl
 | a::l,b,h=>by
  rw [List.foldl_cons,List.foldl_cons,h a (by simp) b];exact WY fun a ha=>h a (List.mem_cons_of_mem _ ha)
theorem WB {n:Nat} {m:Int} {x:Inst} {fst:List (List Col)} {sk:List Int} (hc:ChOk n x fst sk): ∀(d d':Nat) (s:St),StV n s->(n:Int)-s.ix<d->(n:Int)-s.ix<d'->Wf n m x fst sk d s=Wf n m x fst sk d' s
 | 0,_,s,h,h1,_=>by have:=h.ix;omega
 | _,0,s,h,_,h1=>by have:=h.ix;omega
 | d+1,d'+1,s,h,h1,h2=>by
  rw [Wf,Wf]
  split
  ·rfl
  ·rename_i hi
   have e1:(nth fst s.ix.toNat).foldl (fun o c=>if YB x s c=true then Wb o c.price (Wf n m x fst sk d (We n m s c)) else o) (-1)=(nth fst s.ix.toNat).foldl (fun o c=>if YB x s c=true then Wb o c.price (Wf n m x fst sk d' (We n m s c)) else o) (-1):=WY fun c hm o=>by
    by_cases hy:YB x s c=true
    ·obtain ⟨v1,v2⟩:=KU (m:=m) hc h (by omega) hm hy;rw [if_pos hy,if_pos hy,WB hc d d' _ v1 (by omega) (by omega)]
    ·rw [if_neg hy,if_neg hy]
   obtain ⟨v1,v2⟩:=Zd5 (m:=m) h (by omega);rw [WB hc d d' _ v1 (by omega) (by omega)];simp only [e1]
theorem Zeh {o p r B:Int} (h1: -1<=o/\o<=B) (h2:0<=p) (h3:p+r<=B): -1<=Wb o p r/\Wb o p r<=B:=by
 unfold Wb;split<;>omega
theorem Za5 {α β:Type} {f:β->α->β} {R:β->Prop} : ∀ {l:List α} {b:β},R b->(∀a∈l,∀b,R b->R (f b a))->R (l.foldl f b)
 | [],_,h,_=>h
 | a::l,b,h,hf=>by
  rw [List.foldl_cons];exact Za5 (hf a (by simp) b h) fun a ha=>hf a (List.mem_cons_of_mem _ ha)
theorem Yf {n:Nat} {m:Int} {x:Inst} {fst:List (List Col)} {sk:List Int} (hc:ChOk n x fst sk): ∀(d:Nat) (s:St),StV n s-> -1<=Wf n m x fst sk d s/\Wf n m x fst sk d s<=(d:Int)*18014398509481984
 | 0,s,h=>by simp [Wf]
 | d+1,s,h=>by
  rw [Wf]
  split
  ·omega
  ·rename_i hi;have i0:=h.ix
   have e1: -1<=(nth fst s.ix.toNat).foldl (fun o c=>if YB x s c=true then Wb o c.price (Wf n m x fst sk d (We n m s c)) else o) (-1)/\(nth fst s.ix.toNat).foldl (fun o c=>if YB x s c=true then Wb o c.price (Wf n m x fst sk d (We n m s c)) else o) (-1)<=((d+1:Nat):Int)*18014398509481984:=by
    refine Za5 (R:=fun o:Int=> -1<=o/\o<=((d+1:Nat):Int)*18014398509481984) (by omega) fun c hm o ho=> ?_
    split
    ·rename_i hy;obtain ⟨v1,v2⟩:=KU (m:=m) hc h (by omega) hm hy;have:=Yf (m:=m) hc d _ v1;have:=(hc.col _ (by omega) c hm).2.2.2;exact Zeh ho (by omega) (by omega)
    ·exact ho
   have hs:=hc.skp s.ix.toNat (by omega);obtain ⟨v1,v2⟩:=Zd5 (m:=m) h (by omega);have:=Yf (m:=m) hc d _ v1;simp only
   split
   ·exact Zeh e1 (by omega) (by omega)
   ·exact e1
def Yb (l:List Col):PV:= .list false (l.map Xa)
@[go_sem] theorem Zyt (l:List Col):Yb l= .list false (l.map Xa):=Eq.trans rfl rfl
def ZhQ (c:Col):AM.Obj:= .cells [.p (.int .i64 c.typ),.p (.int .i64 c.set),.p (.int .i64 c.price),.p (.int .i64 c.route.typ),.p (.int .i64 c.route.start),.p (.list c.route.rests_c (c.route.rests.map eB)),.p (.list c.route.visits_c (c.route.visits.map Z5))]
def Okm (n:Nat) (m:Int) (x:Inst) (fst:List (List Col)) (sk:List Int) (l:List (St×Int)):Prop:= ∀p∈l,StV n p.1/\p.2=Wf n m x fst sk 20 p.1
theorem QP (x:Inst) (fst:List (List Col)) (sk:List Int) (fc sc:Bool) (m:Int) (hn:x.orders.length<=10) (hf:fst.length=x.orders.length) (hs:sk.length=x.orders.length) (hc:ChOk x.orders.length x fst sk) (hcl: ∀r∈fst,r.length<=1048576) :
  ∀(d:Nat) (s:St) (l:List (St×Int)),d<=20->StV x.orders.length s->(x.orders.length:Int)-s.ix<d->Okm x.orders.length m x fst sk l ->
   ACalls Tryz.prog 51 [.ptr 1 0,.p (eSt s)] (Xu x (.list fc (fst.map Yb)) (.list sc (sk.map eI)) m l) fun y H'=> ∃l',Okm x.orders.length m x fst sk l'/\y= .p (.int .i64 (Wf x.orders.length m x fst sk 20 s))/\H'=Xu x (.list fc (fst.map Yb)) (.list sc (sk.map eI)) m l'
 | 0,s,l,_,hv,hd,_=>by have:=hv.ix;omega
 | d+1,s,l,hd0,hv,hd,hl=>by
  have ih:=QP x fst sk fc sc m hn hf hs hc hcl d;have hlR: ∀p∈l,StR p.1:=fun p hp=>(hl p hp).1.len;obtain ⟨i,v,a0,a1,a2,a3,a4,a5,rfl⟩:=Xl hv.len;have hi:=hv.ix;simp only at hi hd;obtain ⟨i,rfl⟩: ∃k:Nat,i=k:=⟨i.toNat,by omega⟩;obtain ⟨T,hT⟩: ∃T,T=Wf x.orders.length m x fst sk 20 ⟨i,v,[a0,a1,a2,a3,a4,a5]⟩:=⟨_,rfl⟩;rw [<- hT];refine Zb [] Tryz.func51 rfl ZAW ?_;simp (disch:=omega) only [Tryz.f51,Xu,X6,List.map_cons,List.map_nil,go_sem,seval];refine Zg mixed (by kernel_rfl) (by kernel_rfl) ?_;simp (disch:=omega) only [go_sem,seval]
  refine cD ?_ ?_<;>intro h1<;>simp (disch:=omega) only [Sh.out h1,go_sem,seval]
  ·rw [Wf,if_pos (by simp only;omega)] at hT;subst hT;exact ⟨_,_,wk,l,hl,rfl,rfl⟩
  ·refine Zg mixed (by kernel_rfl) (by kernel_rfl) ?_;simp (disch:=omega) only [go_sem,seval];refine Zk0 (ZbK (k:=(⟨i,v,[a0,a1,a2,a3,a4,a5]⟩:St)) Zf4 hlR hv.len (by rfl)) ?_;simp (disch:=omega) only [go_sem,seval]
   cases hq:mq l (⟨i,v,[a0,a1,a2,a3,a4,a5]⟩:St) with
   | some w =>
    obtain ⟨_,hw⟩:=hl _ (Zuv hq);simp only at hw;rw [<- hw] at hT;subst hT;simp (disch:=omega) only [hq,Option.isSome_some,Option.getD_some,go_sem,seval];exact ⟨_,_,wk,l,hl,rfl,rfl⟩
   | none =>
    have hi2:i<fst.length:=by omega
    have hi3:i<sk.length:=by omega
    have hrl:=hcl _ (Zv hi2);simp (disch:=omega) only [hq,Option.isSome_none,Option.getD_none,go_sem,seval];refine Zg mixed (by kernel_rfl) (by kernel_rfl) ?_;simp (disch:=omega) only [go_sem,seval]
    let F:Int->Col->Int:=fun o c=>if YB x ⟨i,v,[a0,a1,a2,a3,a4,a5]⟩ c=true then Wb o c.price (Wf x.orders.length m x fst sk 19 (We x.orders.length m ⟨i,v,[a0,a1,a2,a3,a4,a5]⟩ c)) else o
    refine Zf [0,3,7,8,42,43] (fun q:Nat×List (St×Int)=> [(44,.p (.int .i64 q.1))]) (fun q=>Xu x (.list fc (fst.map Yb)) (.list sc (sk.map eI)) m q.2++ [stO ⟨i,v,[a0,a1,a2,a3,a4,a5]⟩,.cells [.p (.int .i64 (((nth fst i).take q.1).foldl F (-1)))]]) (fun q=>q.1<=(nth fst i).length/\Okm x.orders.length m x fst sk q.2) (fun q=>(nth fst i).length-q.1) (0,l) ⟨by simp,hl⟩ (Weak.mk ?_) ?_
    ·simp (disch:=omega) only [Xu,X6,stO,List.map_cons,List.map_nil,List.cons_append,List.nil_append,List.take_zero,List.foldl_nil,go_sem,seval]
    ·rintro ⟨k,l1⟩ ⟨hk,hl1⟩;simp only at hk hl1;have hl1R: ∀p∈l1,StR p.1:=fun p hp=>(hl1 p hp).1.len;generalize hacc:((nth fst i).take k).foldl F (-1)=acc;simp (disch:=omega) only [Xu,X6,stO,List.map_cons,List.map_nil,List.cons_append,List.nil_append,go_sem,seval];refine cD ?_ ?_<;>intro h2<;>simp (disch:=omega) only [Sh.out h2,go_sem,seval]
     ·have hk2:k<(nth fst i).length:=by omega
      have hm:=Zv hk2
      have hs1:((nth fst i).take (k+1)).foldl F (-1)=F acc (nth (nth fst i) k):=by
       rw [List.take_succ_eq_append_getElem hk2,List.foldl_append,<- Ze hk2,hacc];rfl
      obtain ⟨⟨t0,t1⟩,⟨S,hS,hS2⟩,hb,hp0,hp1⟩:=hc.col i (by omega) _ hm;obtain ⟨C,hC,hC2⟩:=hv.cov;simp only at hC;have h6:=hc.typ.1;obtain ⟨tt,htt⟩: ∃tt:Nat,(nth (nth fst i) k).typ=tt:=⟨(nth (nth fst i) k).typ.toNat,by omega⟩;have cw:=Zmi x (.list fc (fst.map Yb)) (.list sc (sk.map eI)) m l1 ⟨i,v,[a0,a1,a2,a3,a4,a5]⟩ (nth (nth fst i) k) hv.len (by simp only;omega) hn (by simp only;omega) C S tt hC hS htt hC2 hS2 (by omega) h6 hv.used
      have hmay:YB x ⟨i,v,[a0,a1,a2,a3,a4,a5]⟩ (nth (nth fst i) k)=ZfQ x ⟨i,v,[a0,a1,a2,a3,a4,a5]⟩ tt C S:=by simp only [YB,htt,hC,hS,Int.toNat_natCast]
      have hwc:We x.orders.length m ⟨i,v,[a0,a1,a2,a3,a4,a5]⟩ (nth (nth fst i) k)=KQ x.orders.length m ⟨i,v,[a0,a1,a2,a3,a4,a5]⟩ tt C S:=by simp only [We,htt,hC,hS,Int.toNat_natCast]
      by_cases hy:ZfQ x ⟨i,v,[a0,a1,a2,a3,a4,a5]⟩ tt C S=true
      ·obtain ⟨v1,v2⟩:=KU (m:=m) hc hv (by simp only;omega) (by simpa using hm) (by rw [hmay];exact hy);rw [hwc] at v1 v2;obtain ⟨j,w,b0,b1,b2,b3,b4,b5,hw⟩:=Xl v1.len;rw [if_pos hy,hw] at cw;refine cw.useP (L:= [_,_,_]) (by rfl) ?_ (by rfl) (by rfl);simp (disch:=omega) only [Xu,X6,stO,List.map_cons,List.map_nil,List.cons_append,List.nil_append,go_sem,seval];refine Us [5] [1,2] [4] 6 mixed (by kernel_rfl) (by kernel_rfl) (by kernel_rfl) (by kernel_rfl) (by simp) ?_;simp (disch:=omega) only [go_sem,seval];refine ⟨fun q hq p hp=> ?_,?_⟩
       ·simp only [List.mem_cons,List.not_mem_nil,or_false] at hq;rcases hq with rfl | rfl
        ·obtain rfl:10=p:=Option.some.inj hp;exact Ys (by decide)
        ·obtain rfl:57=p:=Option.some.inj hp;exact Ys (by decide)
       ·have c3:=((ih ⟨j,w,[b0,b1,b2,b3,b4,b5]⟩ l1 (by omega) (hw ▸ v1) (by rw [hw] at v2;simp only at v2 ⊢;omega) hl1).mono (fun y H' hq=>(⟨hq,by obtain ⟨l',_,_,rfl⟩:=hq;rfl⟩:_/\H'.length=(Xu x (.list fc (fst.map Yb)) (.list sc (sk.map eI)) m l1).length))).front (by rfl) (by rfl) [stO ⟨i,v,[a0,a1,a2,a3,a4,a5]⟩,.cells [.p (.int .i64 acc)],ZhQ (nth (nth fst i) k),stO ⟨j,w,[b0,b1,b2,b3,b4,b5]⟩];refine Zbu 5 _ (by kernel_rfl) (by simp (disch:=omega) only [go_sem,seval];exact c3) ?_;rintro y H' ⟨H1,⟨l2,hl2,rfl,rfl⟩,rfl⟩;refine ⟨fun k hk=>by simp at hk;subst hk;rfl,ZcK ?_⟩
        simp (disch:=omega) only [Xu,X6,stO,ZhQ,List.map_cons,List.map_nil,List.cons_append,List.nil_append,go_sem,seval];have hrg:=Yf (m:=m) hc 20 _ v1;rw [hw] at hrg;have c4:=(((ZdN acc (nth (nth fst i) k).price (Wf x.orders.length m x fst sk 20 ⟨j,w,[b0,b1,b2,b3,b4,b5]⟩) (by omega) (by omega)).back [.map (l2.map (eKI eSt)),X6 x (.list fc (fst.map Yb)) (.list sc (sk.map eI)) m,stO ⟨i,v,[a0,a1,a2,a3,a4,a5]⟩] (by rfl)).mono (fun y H' hq=>(⟨hq,by obtain ⟨y1,H2,⟨rfl,rfl⟩,rfl,rfl⟩:=hq;rfl⟩:_/\H'.length=4))).front (by rfl) (by rfl) [ZhQ (nth (nth fst i) k),stO ⟨j,w,[b0,b1,b2,b3,b4,b5]⟩]
        refine ACalls.mono c4 ?_;rintro y H' ⟨H1,⟨y1,H2,⟨rfl,rfl⟩,rfl,rfl⟩,rfl⟩;simp (disch:=omega) only [X6,stO,ZhQ,List.map_cons,List.map_nil,List.cons_append,List.nil_append,shO,shVs,shV,go_sem,seval]
        have hF:F acc (nth (nth fst i) k)=Wb acc (nth (nth fst i) k).price (Wf x.orders.length m x fst sk 20 ⟨j,w,[b0,b1,b2,b3,b4,b5]⟩):=by
         show (if _ then _ else _)=_
         rw [if_pos (by rw [hmay];exact hy),hwc,WB hc 19 20 _ v1 (by have:=v1.ix;simp only at v2 ⊢;omega) (by have:=v1.ix;simp only at v2 ⊢;omega),hw]
        exact ⟨(k+1,l2),⟨by simp only;omega,hl2⟩,by simp only;omega,Weak.mk (by simp (disch:=omega) only [hs1,hF,Xu,X6,stO,List.map_cons,List.map_nil,List.cons_append,List.nil_append,go_sem,seval])⟩
      ·rw [if_neg hy] at cw;refine cw.useP (L:= [_,_,_]) (by rfl) ?_ (by rfl) (by rfl);simp (disch:=omega) only [Xu,X6,stO,List.map_cons,List.map_nil,List.cons_append,List.nil_append,go_sem,seval];have hF:F acc (nth (nth fst i) k)=acc:=if_neg (by rw [hmay];exact hy);exact ⟨(k+1,l1),⟨by simp only;omega,hl1⟩,by simp only;omega,Weak.mk (by simp (disch:=omega) only [hs1,hF,Xu,X6,stO,List.map_cons,List.map_nil,List.cons_append,List.nil_append,go_sem,seval])⟩
     ·have hkl:k=(nth fst i).length:=by omega
      subst hkl;rw [List.take_length] at hacc
      have hTe:T=if 0<=nth sk i then Wb acc (nth sk i) (Wf x.orders.length m x fst sk 19 (Zfd x.orders.length m ⟨i,v,[a0,a1,a2,a3,a4,a5]⟩)) else acc:=by
       rw [hT,show (20:Nat)=19+1 from rfl,Wf,if_neg (by simp only;omega),<- hacc];simp only [Int.toNat_natCast]
       rfl
      refine Zg mixed (by kernel_rfl) (by kernel_rfl) ?_;simp (disch:=omega) only [go_sem,seval];refine cD ?_ ?_<;>intro h3<;>simp (disch:=omega) only [Sh.out h3,go_sem,seval]
      ·have cn:=Zb2 x (.list fc (fst.map Yb)) (.list sc (sk.map eI)) m l1 ⟨i,v,[a0,a1,a2,a3,a4,a5]⟩ hv.len (by simp only;omega) hn (by simp only;omega);obtain ⟨v1,v2⟩:=Zd5 (m:=m) hv (by simp only;omega);obtain ⟨j,w,b0,b1,b2,b3,b4,b5,hw⟩:=Xl v1.len;have hsk:=hc.skp i (by omega);have hrg:=Yf (m:=m) hc 20 _ v1;rw [hw] at cn v1 v2 hrg;simp only at v2;refine cn.useP (L:= [_,_]) (by rfl) ?_ (by rfl) (by rfl);simp (disch:=omega) only [Xu,X6,stO,List.map_cons,List.map_nil,List.cons_append,List.nil_append,go_sem,seval];have c3:=((ih ⟨j,w,[b0,b1,b2,b3,b4,b5]⟩ l1 (by omega) v1 (by simp only;omega) hl1).mono (fun y H' hq=>(⟨hq,by obtain ⟨l',_,_,rfl⟩:=hq;rfl⟩:_/\H'.length=(Xu x (.list fc (fst.map Yb)) (.list sc (sk.map eI)) m l1).length))).front (by rfl) (by rfl) [stO ⟨i,v,[a0,a1,a2,a3,a4,a5]⟩,.cells [.p (.int .i64 acc)]]
       refine ACalls.mono c3 ?_;rintro y H' ⟨H1,⟨l2,hl2,rfl,rfl⟩,rfl⟩;simp (disch:=omega) only [Xu,X6,stO,List.map_cons,List.map_nil,List.cons_append,List.nil_append,go_sem,seval];refine ACalls.mono ((ZdN acc (nth sk i) (Wf x.orders.length m x fst sk 20 ⟨j,w,[b0,b1,b2,b3,b4,b5]⟩) (by omega) (by omega)).back [.map (l2.map (eKI eSt)),X6 x (.list fc (fst.map Yb)) (.list sc (sk.map eI)) m,stO ⟨i,v,[a0,a1,a2,a3,a4,a5]⟩] (by rfl)) ?_;rintro y H' ⟨y1,H2,⟨rfl,rfl⟩,rfl,rfl⟩;simp (disch:=omega) only [X6,stO,List.map_cons,List.map_nil,List.cons_append,List.nil_append,shO,shVs,shV,go_sem,seval]
       refine Zn 6 mixed (by kernel_rfl) (by kernel_rfl) ?_;simp (disch:=omega) only [go_sem,seval];refine Zdd (l:=l2) (k:=(⟨i,v,[a0,a1,a2,a3,a4,a5]⟩:St)) Zf4 (fun p hp=>(hl2 p hp).1.len) hv.len (by rfl) fun l3 _ hl3=> ?_;simp (disch:=omega) only [List.set_cons_zero,go_sem,seval];rw [if_pos h3,WB hc 19 20 _ (by rw [hw];exact v1) (by rw [hw];simp only;omega) (by rw [hw];simp only;omega),hw] at hTe;rw [<- hTe];exact ⟨.p (.int .i64 T),_,wk,l3,fun p hp=>(hl3 p hp).elim (hl2 p) (fun e=>by subst e;exact ⟨hv,by rw [<- hTe,hT]⟩),rfl,rfl⟩
      ·refine Zn 6 mixed (by kernel_rfl) (by kernel_rfl) ?_;simp (disch:=omega) only [go_sem,seval];refine Zdd (l:=l1) (k:=(⟨i,v,[a0,a1,a2,a3,a4,a5]⟩:St)) Zf4 hl1R hv.len (by rfl) fun l3 _ hl3=> ?_;simp (disch:=omega) only [List.set_cons_zero,go_sem,seval];rw [if_neg h3] at hTe;rw [<- hTe];exact ⟨.p (.int .i64 T),_,wk,l3,fun p hp=>(hl3 p hp).elim (hl1 p) (fun e=>by subst e;exact ⟨hv,by rw [<- hTe,hT]⟩),rfl,rfl⟩
def Zkh (n:Nat) (m:Int) (x:Inst) (fst:List (List Col)) (sk:List Int) (s:St) (c:Col):Bool :=
 YB x s c&&(decide (0<=Wf n m x fst sk 20 (We n m s c))&&decide (c.price+Wf n m x fst sk 20 (We n m s c)=Wf n m x fst sk 20 s))
def Xw (n:Nat) (m:Int) (x:Inst) (fst:List (List Col)) (sk:List Int):Nat->St->List Col×List Int
 | 0,_=>([],[])
 | d+1,s=>if (n:Int)<=s.ix then ([],[]) else match (nth fst s.ix.toNat).find? (Zkh n m x fst sk s) with
  | some c=>(c::(Xw n m x fst sk d (We n m s c)).1,(Xw n m x fst sk d (We n m s c)).2)
  | none=>((Xw n m x fst sk d (Zfd n m s)).1,s.ix::(Xw n m x fst sk d (Zfd n m s)).2)
theorem Zex {α:Type} [Inhabited α] {p:α->Bool} : ∀ {l:List α} {k:Nat},k<l.length->(∀j,j<k->p (nth l j)=false)->p (nth l k)=true->l.find? p=some (nth l k)
 | [],_,h,_,_=>by simp at h
 | a::l,0,_,_,h=>by
  have h':p a=true:=h;simp [List.find?,h',nth]
 | a::l,k+1,hk,h0,h=>by
  rw [List.find?_cons_of_neg (by rw [show p a=false from h0 0 (by omega)];simp)];exact Zex (l:=l) (k:=k) (by simpa using hk) (fun j hj=>h0 (j+1) (by omega)) h
theorem Zn5 {α:Type} [Inhabited α] {p:α->Bool} {l:List α} (h: ∀j,j<l.length->p (nth l j)=false):l.find? p=none:=by
 rw [List.find?_eq_none];intro a ha;obtain ⟨j,hj,rfl⟩:=List.mem_iff_getElem.1 ha;rw [<- Ze hj,h j hj];simp
theorem Zqx (X:AM.Obj) (hX: ∀H n,wkO H n X X) (hX2: ∀o xs,fzO o xs X=X) (x:Inst) (fst:List (List Col)) (sk:List Int) (fc sc:Bool) (m:Int) (hn:x.orders.length<=10) (hf:fst.length=x.orders.length) (hs:sk.length=x.orders.length) (hc:ChOk x.orders.length x fst sk) (hcl: ∀r∈fst,r.length<=1048576)
  (s:St) (l:List (St×Int)) (hv:StV x.orders.length s) (hl:Okm x.orders.length m x fst sk l) :
  ACalls Tryz.prog 52 [.ptr 1 0,.p (eSt s)] (Xu x (.list fc (fst.map Yb)) (.list sc (sk.map eI)) m l++ [X]) fun y H'=> ∃l' A B,Okm x.orders.length m x fst sk l'/\(A,B)=Xw x.orders.length m x fst sk 20 s /\
   y= .tup [.sl 4 0 A.length A.length,.p (.list false (B.map eI))]/\H'=Xu x (.list fc (fst.map Yb)) (.list sc (sk.map eI)) m l'++ [X,.cells (List.replicate 8 .junk),.elems 7 (A.map Xa)]:=by
 obtain ⟨i,v,a0,a1,a2,a3,a4,a5,rfl⟩:=Xl hv.len;obtain ⟨D,hD⟩: ∃D,D=20:=⟨20,rfl⟩;obtain ⟨R,hR⟩: ∃R,R=Xw x.orders.length m x fst sk D ⟨i,v,[a0,a1,a2,a3,a4,a5]⟩:=⟨_,rfl⟩;rw [<- hD,<- hR];have hi0:=hv.ix;simp only at hi0;refine Zb [20] Tryz.func52 rfl ZA3 ?_;simp (disch:=omega) only [Tryz.f52,List.cons_append,List.nil_append,Xu,X6,List.map_cons,List.map_nil,go_sem,seval]
 refine ZE [20] [0,3] (fun q:Nat×St×List (St×Int)×List Col×List Int=> [(6,.sl 4 0 q.2.2.2.1.length q.2.2.2.1.length),(7,.sl 5 0 q.2.2.2.2.length q.2.2.2.2.length)])
  (fun q=>Xu x (.list fc (fst.map Yb)) (.list sc (sk.map eI)) m q.2.2.1++ [X,stO q.2.1,.elems 7 (q.2.2.2.1.map Xa),.elems 1 (q.2.2.2.2.map eI)])
  (fun q=>q.1<=D/\StV x.orders.length q.2.1/\(x.orders.length:Int)-q.2.1.ix<q.1/\Okm x.orders.length m x fst sk q.2.2.1/\(q.2.2.2.1.length:Int)<=q.2.1.ix/\(q.2.2.2.2.length:Int)<=q.2.1.ix/\R=(q.2.2.2.1++(Xw x.orders.length m x fst sk q.1 q.2.1).1,q.2.2.2.2++(Xw x.orders.length m x fst sk q.1 q.2.1).2))
  (fun q=>q.1) (D,⟨i,v,[a0,a1,a2,a3,a4,a5]⟩,l,[],[]) ⟨by simp,hv,by simp only;omega,hl,by simp only [List.length_nil];omega,by simp only [List.length_nil];omega,by rw [hR];rfl⟩
  (Weak.ofNil 6 7 (by simp (disch:=omega) only [go_sem,seval]) (by simp) (Weak.ofNil 7 1 (by simp (disch:=omega) only [go_sem,seval]) (by simp) (Weak.mk ?_))) ?_
 ·simp (disch:=omega) only [hX,hX2,Xu,X6,stO,List.map_cons,List.map_nil,List.cons_append,List.nil_append,List.length_nil,go_sem,seval]
 ·rintro ⟨d,s,l1,A,B⟩ ⟨hd1,hsv,hd,hl1,hA,hB,hq⟩;simp only at hd1 hsv hd hl1 hA hB hq;clear hv hR hi0;obtain ⟨i,v,a0,a1,a2,a3,a4,a5,rfl⟩:=Xl hsv.len;have hi0:=hsv.ix;simp only at hi0 hd hA hB hq;obtain ⟨i,rfl⟩: ∃k:Nat,i=k:=⟨i.toNat,by omega⟩;obtain ⟨d,rfl⟩: ∃k,d=k+1:=⟨d-1,by omega⟩;simp (disch:=omega) only [hX,hX2,Xu,X6,stO,List.map_cons,List.map_nil,List.cons_append,List.nil_append,go_sem,seval];refine Zg mixed (by kernel_rfl) (by kernel_rfl) ?_;simp (disch:=omega) only [go_sem,seval];refine cD ?_ ?_<;>intro h1<;>simp (disch:=omega) only [Sh.out h1,go_sem,seval]
  ·have hi2:i<fst.length:=by omega
   have hrl:=hcl _ (Zv hi2);have c3:=((QP x fst sk fc sc m hn hf hs hc hcl 20 ⟨i,v,[a0,a1,a2,a3,a4,a5]⟩ l1 (by omega) hsv (by simp only;omega) hl1).mono (fun y H' hq=>(⟨hq,by obtain ⟨l',_,_,rfl⟩:=hq;rfl⟩:_/\H'.length=(Xu x (.list fc (fst.map Yb)) (.list sc (sk.map eI)) m l1).length))).front (by rfl) (by rfl) [X,stO ⟨i,v,[a0,a1,a2,a3,a4,a5]⟩,.elems 7 (A.map Xa),.elems 1 (B.map eI)];refine ACalls.mono c3 ?_;rintro y H' ⟨H1,⟨l2,hl2,rfl,rfl⟩,rfl⟩;clear hl1 c3;obtain ⟨W,hW⟩: ∃W,W=Wf x.orders.length m x fst sk 20 ⟨i,v,[a0,a1,a2,a3,a4,a5]⟩:=⟨_,rfl⟩
   rw [<- hW]
   have hWr: -1<=W/\W<=20*18014398509481984:=by rw [hW];exact Yf hc 20 _ hsv
   simp (disch:=omega) only [hX,hX2,Xu,X6,stO,List.map_cons,List.map_nil,List.cons_append,List.nil_append,go_sem,seval];refine Zg mixed (by kernel_rfl) (by kernel_rfl) ?_;simp (disch:=omega) only [go_sem,seval];refine Zf [0,3,7,8,34,35] (fun q:Nat×List (St×Int)=> [(6,.sl 4 0 A.length A.length),(9,.p (.bool false)),(36,.p (.int .i64 q.1))]) (fun q=>Xu x (.list fc (fst.map Yb)) (.list sc (sk.map eI)) m q.2++ [X,stO ⟨i,v,[a0,a1,a2,a3,a4,a5]⟩,.elems 7 (A.map Xa),.elems 1 (B.map eI)]) (fun q=>q.1<=(nth fst i).length/\Okm x.orders.length m x fst sk q.2/\ ∀j,j<q.1->Zkh x.orders.length m x fst sk ⟨i,v,[a0,a1,a2,a3,a4,a5]⟩ (nth (nth fst i) j)=false) (fun q=>(nth fst i).length-q.1) (0,l2) ⟨by simp,hl2,fun j hj=>by simp at hj⟩ (Weak.mk ?_) ?_
   ·simp (disch:=omega) only [hX,hX2,Xu,X6,stO,List.map_cons,List.map_nil,List.cons_append,List.nil_append,go_sem,seval]
   ·rintro ⟨k,l1⟩ ⟨hk,hl1,hno⟩;simp only at hk hl1 hno;simp (disch:=omega) only [hX,hX2,Xu,X6,stO,List.map_cons,List.map_nil,List.cons_append,List.nil_append,go_sem,seval];refine cD ?_ ?_<;>intro h2<;>simp (disch:=omega) only [Sh.out h2,go_sem,seval]
    ·have hk2:k<(nth fst i).length:=by omega
     have hm:=Zv hk2;obtain ⟨⟨t0,t1⟩,⟨S,hS,hS2⟩,hb,hp0,hp1⟩:=hc.col i (by omega) _ hm;obtain ⟨C,hC,hC2⟩:=hsv.cov;simp only at hC;have h6:=hc.typ.1;obtain ⟨tt,htt⟩: ∃tt:Nat,(nth (nth fst i) k).typ=tt:=⟨(nth (nth fst i) k).typ.toNat,by omega⟩;have cw:=Zmi x (.list fc (fst.map Yb)) (.list sc (sk.map eI)) m l1 ⟨i,v,[a0,a1,a2,a3,a4,a5]⟩ (nth (nth fst i) k) hsv.len (by simp only;omega) hn (by simp only;omega) C S tt hC hS htt hC2 hS2 (by omega) h6 hsv.used
     have hmay:YB x ⟨i,v,[a0,a1,a2,a3,a4,a5]⟩ (nth (nth fst i) k)=ZfQ x ⟨i,v,[a0,a1,a2,a3,a4,a5]⟩ tt C S:=by simp only [YB,htt,hC,hS,Int.toNat_natCast]
     have hwc:We x.orders.length m ⟨i,v,[a0,a1,a2,a3,a4,a5]⟩ (nth (nth fst i) k)=KQ x.orders.length m ⟨i,v,[a0,a1,a2,a3,a4,a5]⟩ tt C S:=by simp only [We,htt,hC,hS,Int.toNat_natCast]
     have more:Zkh x.orders.length m x fst sk ⟨i,v,[a0,a1,a2,a3,a4,a5]⟩ (nth (nth fst i) k)=false-> ∀j,j<k+1->Zkh x.orders.length m x fst sk ⟨i,v,[a0,a1,a2,a3,a4,a5]⟩ (nth (nth fst i) j)=false:=fun h j hj=>by
      rcases Nat.lt_succ_iff_lt_or_eq.1 hj with h' | rfl
      ·exact hno j h'
      ·exact h
     by_cases hy:ZfQ x ⟨i,v,[a0,a1,a2,a3,a4,a5]⟩ tt C S=true
     ·obtain ⟨v1,v2⟩:=KU (m:=m) hc hsv (by simp only;omega) (by simpa using hm) (by rw [hmay];exact hy);rw [hwc] at v1 v2;obtain ⟨j,w,b0,b1,b2,b3,b4,b5,hw⟩:=Xl v1.len;rw [if_pos hy,hw] at cw;refine cw.useP (L:= [_,_,_,_,_]) (by rfl) ?_ (by rfl) (by rfl);simp (disch:=omega) only [hX,hX2,Xu,X6,stO,List.map_cons,List.map_nil,List.cons_append,List.nil_append,go_sem,seval];have c3:=((QP x fst sk fc sc m hn hf hs hc hcl 20 ⟨j,w,[b0,b1,b2,b3,b4,b5]⟩ l1 (by omega) (hw ▸ v1) (by have:=v1.ix;rw [hw] at this;simp only at this ⊢;omega) hl1).mono (fun y H' hq=>(⟨hq,by obtain ⟨l',_,_,rfl⟩:=hq;rfl⟩:_/\H'.length=(Xu x (.list fc (fst.map Yb)) (.list sc (sk.map eI)) m l1).length))).front (by rfl) (by rfl) [X,stO ⟨i,v,[a0,a1,a2,a3,a4,a5]⟩,.elems 7 (A.map Xa),.elems 1 (B.map eI),ZhQ (nth (nth fst i) k),stO ⟨j,w,[b0,b1,b2,b3,b4,b5]⟩]
      refine ACalls.mono c3 ?_;rintro y H' ⟨H1,⟨l3,hl3,rfl,rfl⟩,rfl⟩;have hTr:=Yf (m:=m) hc 20 _ v1
      have hsel:Zkh x.orders.length m x fst sk ⟨i,v,[a0,a1,a2,a3,a4,a5]⟩ (nth (nth fst i) k)=(decide (0<=Wf x.orders.length m x fst sk 20 ⟨j,w,[b0,b1,b2,b3,b4,b5]⟩)&&decide ((nth (nth fst i) k).price+Wf x.orders.length m x fst sk 20 ⟨j,w,[b0,b1,b2,b3,b4,b5]⟩=W)):=by
       rw [Zkh,hmay,hy,hwc,hw,hW,Bool.true_and]
      rw [hw] at hTr;generalize Wf x.orders.length m x fst sk 20 ⟨j,w,[b0,b1,b2,b3,b4,b5]⟩=T at hTr hsel;simp (disch:=omega) only [hX,hX2,Xu,X6,stO,ZhQ,List.map_cons,List.map_nil,List.cons_append,List.nil_append,go_sem,seval];refine gT ?_ ?_<;>intro h3<;>simp (disch:=omega) only [Sh.out h3,go_sem,seval]
      ·refine cD ?_ ?_<;>intro h4<;>simp (disch:=omega) only [Sh.out h4,go_sem,seval]
       ·rw [decide_eq_true h3,decide_eq_true h4,Bool.true_and] at hsel
        have hp:Xw x.orders.length m x fst sk (d+1) ⟨i,v,[a0,a1,a2,a3,a4,a5]⟩=(nth (nth fst i) k::(Xw x.orders.length m x fst sk d ⟨j,w,[b0,b1,b2,b3,b4,b5]⟩).1,(Xw x.orders.length m x fst sk d ⟨j,w,[b0,b1,b2,b3,b4,b5]⟩).2):=by
         rw [Xw,if_neg (by simp only;omega)];simp only [Int.toNat_natCast,Zex hk2 hno hsel,hwc,hw]
        rw [hw] at v1 v2;simp only at v2;rw [hp] at hq;exact ⟨(d,⟨j,w,[b0,b1,b2,b3,b4,b5]⟩,l3,A++ [nth (nth fst i) k],B),⟨by omega,v1,by simp only;omega,hl3,by simp only [List.length_append,List.length_cons,List.length_nil];omega,by simp only;omega,by simpa using hq⟩,by simp only;omega,Weak.mk (by simp (disch:=omega) only [hX,hX2,Xu,X6,stO,List.map_cons,List.map_nil,List.map_append,List.length_append,List.length_cons,List.length_nil,Nat.zero_add,List.cons_append,List.nil_append,go_sem,seval])⟩
       ·rw [decide_eq_false h4,Bool.and_false] at hsel;exact ⟨(k+1,l3),⟨by simp only;omega,hl3,more hsel⟩,by simp only;omega,Weak.mk (by simp (disch:=omega) only [hX,hX2,Xu,X6,stO,List.map_cons,List.map_nil,List.cons_append,List.nil_append,go_sem,seval])⟩
      ·rw [decide_eq_false h3,Bool.false_and] at hsel;exact ⟨(k+1,l3),⟨by simp only;omega,hl3,more hsel⟩,by simp only;omega,Weak.mk (by simp (disch:=omega) only [hX,hX2,Xu,X6,stO,List.map_cons,List.map_nil,List.cons_append,List.nil_append,go_sem,seval])⟩
     ·rw [if_neg hy] at cw;refine cw.useP (L:= [_,_,_,_,_]) (by rfl) ?_ (by rfl) (by rfl);simp (disch:=omega) only [hX,hX2,Xu,X6,stO,List.map_cons,List.map_nil,List.cons_append,List.nil_append,go_sem,seval];exact ⟨(k+1,l1),⟨by simp only;omega,hl1,more (by rw [Zkh,hmay,Bool.eq_false_iff.2 hy,Bool.false_and])⟩,by simp only;omega,Weak.mk (by simp (disch:=omega) only [hX,hX2,Xu,X6,stO,List.map_cons,List.map_nil,List.cons_append,List.nil_append,go_sem,seval])⟩
    ·have hkl:k=(nth fst i).length:=by omega
     subst hkl
     have hp:Xw x.orders.length m x fst sk (d+1) ⟨i,v,[a0,a1,a2,a3,a4,a5]⟩=((Xw x.orders.length m x fst sk d (Zfd x.orders.length m ⟨i,v,[a0,a1,a2,a3,a4,a5]⟩)).1,(i:Int)::(Xw x.orders.length m x fst sk d (Zfd x.orders.length m ⟨i,v,[a0,a1,a2,a3,a4,a5]⟩)).2):=by
      rw [Xw,if_neg (by simp only;omega)];simp only [Int.toNat_natCast,Zn5 hno]
     rw [hp] at hq;have cn:=Zb2 x (.list fc (fst.map Yb)) (.list sc (sk.map eI)) m l1 ⟨i,v,[a0,a1,a2,a3,a4,a5]⟩ hsv.len (by simp only;omega) hn (by simp only;omega);obtain ⟨v1,v2⟩:=Zd5 (m:=m) hsv (by simp only;omega);obtain ⟨j,w,b0,b1,b2,b3,b4,b5,hw⟩:=Xl v1.len;rw [hw] at cn v1 v2 hq;simp only at v2;refine cn.useP (L:= [_,_,_,_,_]) (by rfl) ?_ (by rfl) (by rfl);simp (disch:=omega) only [hX,hX2,Xu,X6,stO,List.map_cons,List.map_nil,List.cons_append,List.nil_append,go_sem,seval];exact ⟨(d,⟨j,w,[b0,b1,b2,b3,b4,b5]⟩,l1,A,B++ [(i:Int)]),⟨by omega,v1,by simp only;omega,hl1,by simp only;omega,by simp only [List.length_append,List.length_cons,List.length_nil];omega,by simpa using hq⟩,by simp only;omega,Weak.mk (by simp (disch:=omega) only [hX,hX2,Xu,X6,stO,List.map_cons,List.map_nil,List.map_append,List.length_append,List.length_cons,List.length_nil,Nat.zero_add,List.cons_append,List.nil_append,go_sem,seval])⟩
  ·rw [Xw,if_pos (by simp only;omega)] at hq;simp only [List.append_nil] at hq;subst hq;refine Zm (Weak.fz (o:=5) (by rfl)) ?_;refine Zd [] _ _ _ _ ?_;simp (disch:=omega) only [List.map_cons,List.map_nil,List.set_cons_succ,List.set_cons_zero,go_sem,seval];exact ⟨.tup [.sl 4 0 A.length A.length,.p (.list false (B.map eI))],_,Weak.mk (by simp (disch:=omega) only [hX,hX2,Xu,X6,List.map_cons,List.map_nil,List.cons_append,List.nil_append,List.replicate,go_sem,seval]),l1,A,B,hl1,rfl,rfl,rfl⟩
def eSr (s:Sr):PV:= .agg [.int .i64 s.rdy,.int .i64 s.drv]
@[go_sem] theorem ZEl (s:Sr):eSr s= .agg [.int .i64 s.rdy,.int .i64 s.drv]:=Eq.trans rfl rfl
theorem Zui {a b:Sr} :a=b↔a.rdy=b.rdy/\a.drv=b.drv:=by cases a;cases b;simp
theorem ZmV (l:List Sr) (c:Bool) (s:Sr) (hl:l.length<=1048576):ACalls Tryz.prog 225 [.p (.list c (l.map eSr)),.p (eSr s)] [] fun y H'=> ∃i:Int,(0<=i↔s∈l)/\y= .p (.int .i64 i)/\H'= []:=by
 refine Zb [] Tryz.func225 rfl Ztv ?_;simp (disch:=omega) only [Tryz.f225,go_sem,seval];refine Zf [0,3,7] (fun k:Nat=> [(8,.p (.int .i64 k))]) (fun _=> [.cells [.p (.int .i64 s.rdy),.p (.int .i64 s.drv)]]) (fun k=>k<=l.length/\ ∀j,j<k->nth l j≠s) (fun k=>l.length-k) 0 ⟨by simp,fun j hj=>by omega⟩ (Weak.mk ?_) ?_
 ·simp (disch:=omega) only [go_sem,seval]
 ·rintro k ⟨hk,hno⟩;simp (disch:=omega) only [go_sem,seval];refine cD ?_ ?_<;>intro h1<;>simp (disch:=omega) only [Sh.out h1,go_sem,seval]
  ·have hk2:k<l.length:=by omega
   refine Zg mixed (by kernel_rfl) (by kernel_rfl) ?_;simp (disch:=omega) only [go_sem,seval];refine cD ?_ ?_<;>intro h2<;>simp (disch:=omega) only [Sh.out h2,go_sem,seval]
   ·exact ⟨.p (.int .i64 k),[],wk,k,⟨fun _=>(Zui.2 h2) ▸ Zv hk2,fun _=>by omega⟩,rfl,rfl⟩
   ·exact ⟨k+1,⟨by omega,fun j hj=>by
     rcases Nat.lt_succ_iff_lt_or_eq.1 hj with h3 | rfl
     ·exact hno j h3
     ·exact fun e=>h2 (Zui.1 e.symm)⟩,by omega,wk⟩
  ·exact ⟨.p (.int .i64 (-1)),[],wk,-1,⟨fun h=>by omega,fun h=>by
    obtain ⟨j,hj,rfl⟩:=List.mem_iff_getElem.1 h
    exact absurd (Ze hj) (hno j (by omega))⟩,rfl,rfl⟩
theorem ZgZ (l:List Sr) (c:Bool) (s:Sr) (hl:l.length<=1048576):PC 194 [.p (.list c (l.map eSr)),.p (eSr s)] (.bool (decide (s∈l))):=by
 refine Zb [] Tryz.func194 rfl Zr8 ?_;simp (disch:=omega) only [Tryz.f194,go_sem,seval];refine ((ZmV l c s hl).behind (by rfl) _).mono ?_;rintro y H' ⟨y1,H1,⟨i,hi,rfl,rfl⟩,rfl,rfl⟩
 have e:decide (0<=i)=decide (s∈l):=by rw [decide_eq_decide];exact hi
 simp (disch:=omega) only [shV,shVs,List.map_nil,e,go_sem,seval];exact ⟨.p (.bool (decide (s∈l))),[],wk,rfl,rfl⟩
theorem Jn {l:List Sr} {s:Sr} :(Vb l s).length<=l.length+1:=by unfold Vb;split<;>simp
theorem Zf9 (l:List Sr) (s:Sr) (hl:l.length<=1048576):ACalls Tryz.prog 150 [.sl 0 0 l.length l.length,.p (eSr s)] [.elems 2 (l.map eSr)] fun y H'=>y= .sl 0 0 (Vb l s).length (Vb l s).length/\H'= [.elems 2 ((Vb l s).map eSr)]:=by
 obtain ⟨M,hM⟩: ∃M,M=Vb l s:=⟨_,rfl⟩;rw [<- hM];refine Zb [] Tryz.func150 rfl ZmP ?_;simp (disch:=omega) only [Tryz.f150,go_sem,seval];refine ACalls.view (ZgZ l false s hl) (by simp [vws,vw,oat,ZaF]<;>rfl) (by rfl) ?_;simp (disch:=omega) only [go_sem,seval];refine cD ?_ ?_<;>intro h<;>simp (disch:=omega) only [Sh.out h,go_sem,seval]
 ·have e:M=l:=by rw [hM,Vb,if_pos h]
  exact ⟨.sl 0 0 M.length M.length,[.elems 2 (M.map eSr)],Weak.mk (by simp (disch:=omega) only [e,go_sem,seval]),rfl,rfl⟩
 ·have e:M=l++ [s]:=by rw [hM,Vb,if_neg h]
  exact ⟨.sl 0 0 M.length M.length,[.elems 2 (M.map eSr)],Weak.mk (by simp (disch:=omega) only [e,List.map_append,List.map_cons,List.map_nil,List.length_append,List.length_cons,List.length_nil,Nat.zero_add,go_sem,seval]),rfl,rfl⟩
theorem Zog (s:Sr):ACalls Tryz.prog 150 [.p (.list true []),.p (eSr s)] [] fun y H'=>y= .sl 0 0 1 1/\H'= [.elems 2 [eSr s]]:=by
 refine YN (fn:=Tryz.f150) (by rfl) Tryz.func150 rfl ZmP ?_;simp (disch:=omega) only [Tryz.f150,go_sem,seval];refine (ZgZ [] true s (by simp)).use ?_;simp (disch:=omega) only [List.not_mem_nil,decide_false,go_sem,seval];exact ⟨2,rfl,rfl⟩
def XX (x:Inst) (k:Int) (S tot:Nat) (b:Col×Bool):AM.Obj:= .cells [.p (.list x.net.places_c (x.net.places.map eS)),.p (.list x.net.arcs_c (x.net.arcs.map Qh)),.p (.list x.types_c (x.types.map U7)),.p (.list x.orders_c (x.orders.map Ug)),.p (.list x.apart_c (x.apart.map eP)),.p (.list x.before_c (x.before.map eP)),.p (.int .i64 k),.p (.int .i64 S),.p (.int .i64 tot),.p (.int .i64 b.1.typ),.p (.int .i64 b.1.set),.p (.int .i64 b.1.price),.p (.int .i64 b.1.route.typ),.p (.int .i64 b.1.route.start),.p (.list b.1.route.rests_c (b.1.route.rests.map eB)),.p (.list b.1.route.visits_c (b.1.route.visits.map Z5)),.p (.bool b.2)]
theorem UJ {t:Typ} {l:List Sr} {d v:Int} :(YI t l d v).length<=l.length+2:=by
 unfold YI;have h1:=Jn (l:=l) (s:=⟨d,v⟩);have h2:=Jn (l:=Vb l ⟨d,v⟩) (s:=⟨d+t.rest,0⟩);omega
theorem Zn8 (x:Inst) (k:Int) (S tot:Nat) (b:Col×Bool) (stop:Stp) (l:List Sr) (d v:Int) (hk:0<=k/\k<x.types.length) (ht:x.types.length<=1048576) (hl:l.length<=1000000) (hd:0<=d/\d<=1048576) (hr:0<=(nth x.types k.toNat).rest/\(nth x.types k.toNat).rest<=1048576) :
  ACalls Tryz.prog 94 [.ptr 0 0,.sl 3 0 l.length l.length,.p (.int .i64 d),.p (.int .i64 v)] [XX x k S tot b,.cells ((JM stop).map .p),.cells ((JC (nth x.types k.toNat)).map .p),.elems 2 (l.map eSr)] fun y H'=>y= .sl 3 0 (YI (nth x.types k.toNat) l d v).length (YI (nth x.types k.toNat) l d v).length/\H'= [XX x k S tot b,.cells ((JM stop).map .p),.cells ((JC (nth x.types k.toNat)).map .p),.elems 2 ((YI (nth x.types k.toNat) l d v).map eSr)]:=by
 obtain ⟨L1,h1⟩: ∃L1,L1=Vb l ⟨d,v⟩:=⟨_,rfl⟩;obtain ⟨L2,h2⟩: ∃L2,L2=YI (nth x.types k.toNat) l d v:=⟨_,rfl⟩
 have h12:Vb L1 ⟨d+(nth x.types k.toNat).rest,0⟩=L2:=by rw [h1,h2];rfl
 have hl1:L1.length<=l.length+1:=by rw [h1];exact Jn
 rw [<- h2];have c1:=Zf9 l ⟨d,v⟩ (by omega);have c2:=Zf9 L1 ⟨d+(nth x.types k.toNat).rest,0⟩ (by omega);rw [<- h1] at c1;rw [h12] at c2;obtain ⟨O,hO⟩: ∃O,O=XX x k S tot b:=⟨_,rfl⟩;refine Zb [] Tryz.func94 rfl ZuD ?_;simp (disch:=omega) only [Tryz.f94,JM,JC,List.map_cons,List.map_nil,go_sem,seval];refine ACalls.mono (c1.back [XX x k S tot b,.cells ((JM stop).map .p),.cells ((JC (nth x.types k.toNat)).map .p)] (by rfl)) ?_;rintro y H' ⟨y1,H1,⟨rfl,rfl⟩,rfl,rfl⟩;simp (disch:=omega) only [shV,shVs,shO,XX,JM,JC,List.map_cons,List.map_nil,List.cons_append,List.nil_append,go_sem,seval]
 refine Zn 16 mixed (by kernel_rfl) (by kernel_rfl) ?_;simp (disch:=omega) only [go_sem,seval];refine ACalls.mono (c2.back [XX x k S tot b,.cells ((JM stop).map .p),.cells ((JC (nth x.types k.toNat)).map .p)] (by rfl)) ?_;rintro y H' ⟨y1,H1,⟨rfl,rfl⟩,rfl,rfl⟩;simp (disch:=omega) only [shV,shVs,shO,XX,JM,JC,List.map_cons,List.map_nil,List.cons_append,List.nil_append,go_sem,seval];exact ⟨.sl 3 0 L2.length L2.length,[XX x k S tot b,.cells ((JM stop).map .p),.cells ((JC (nth x.types k.toNat)).map .p),.elems 2 (L2.map eSr)],Weak.mk (by simp (disch:=omega) only [XX,JM,JC,List.map_cons,List.map_nil,go_sem,seval]),rfl,rfl⟩
def Zi8 (s:Stp) (a:Int):Int×Int:=if s.cls<max a s.opn then (0,14) else (max a s.opn+s.serv,0)
theorem Zjj (s:Stp) (a:Int) (ha: -1099511627776<=a/\a<=1099511627776) (hs:0<=s.serv/\s.serv<=1048576) (ho: -1099511627776<=s.opn/\s.opn<=1099511627776):PT 193 [.p (Zhm s),.p (.int .i64 a)] [.p (.int .i64 (Zi8 s a).1),.p (.int .i64 (Zi8 s a).2)]:=by
 refine Zb [] Tryz.func193 rfl Zt1 ?_;simp (disch:=omega) only [Tryz.f193,go_sem,seval];refine Ka (Zf6 s a) ?_
 have hm: -1099511627776<=max a s.opn/\max a s.opn<=1099511627776:=by omega
 by_cases h:s.cls<max a s.opn
 ·have e:ZiM s a=(0,14):=by rw [ZiM,if_pos (by omega)]
  have e2:Zi8 s a=(0,14):=by rw [Zi8,if_pos h]
  rw [e,e2];simp (disch:=omega) only [go_sem,seval];exact we
 ·have e:ZiM s a=(max a s.opn,0):=by rw [ZiM,if_neg (by omega)]
  have e2:Zi8 s a=(max a s.opn+s.serv,0):=by rw [Zi8,if_neg h]
  rw [e,e2];simp (disch:=omega) only [go_sem,seval];exact we
def Zi2 (m:Int) (st:List Sr):Prop:= ∀a∈st,(0<=a.rdy/\a.rdy<=16384)/\(-m<=a.drv/\a.drv<=4096)
theorem Znf (x:Inst) (k:Int) (S tot:Nat) (b:Col×Bool) (p:Int) (st:List Sr) (c:Bool) (stop:Stp) (m:Int) (hm:0<=m/\m<=1048576) (hk:0<=k/\k<x.types.length) (ht:x.types.length<=1048576) (hT:TrpOk x (nth x.types k.toNat) [stop]) (hl:st.length<=1000) (hst:Zi2 m st) :
  ACalls Tryz.prog 148 [.ptr 0 0,.p (.int .i64 p),.p (.list c (st.map eSr)),.p (Zhm stop)] [XX x k S tot b] fun y H'=>y= .p (.list false ((Kr x (nth x.types k.toNat) p st stop).map eSr))/\H'= [XX x k S tot b]:=by
 obtain ⟨W,hV⟩: ∃W:Nat->List Sr,W=fun q=>(st.take q).foldl (JY x (nth x.types k.toNat) p stop) []:=⟨_,rfl⟩
 have hV0:W 0= []:=by rw [hV];rfl
 have hVn:Kr x (nth x.types k.toNat) p st stop=W st.length:=by rw [hV];simp [Kr]
 have hVs: ∀q,q<st.length->W (q+1)=JY x (nth x.types k.toNat) p stop (W q) (nth st q):=fun q hq=>by
  rw [hV];simp only;rw [List.take_succ_eq_append_getElem hq,List.foldl_append,<- Ze hq];rfl
 have hVl: ∀q,q<=st.length->(W q).length<=2*q:=fun q=>by
  induction q with
  | zero=>intro _;rw [hV0];simp
  | succ q ih =>
   intro hq;rw [hVs q (by omega)];have:=ih (by omega);unfold JY
   split
   ·omega
   ·split
    ·omega
    ·have:=UJ (t:=nth x.types k.toNat) (l:=W q) (d:=max (goN x.net (nth x.types k.toNat).prof p stop.place (nth st q).rdy).1 stop.opn+stop.serv) (v:=(nth st q).drv+(goN x.net (nth x.types k.toNat).prof p stop.place (nth st q).rdy).1-(nth st q).rdy);omega
 rw [hVn];clear hV hVn;refine Zb [12] Tryz.func148 rfl Zvj ?_;simp (disch:=omega) only [Tryz.f148,XX,go_sem,seval];refine ZP [11] 12 mixed (by kernel_rfl) (by kernel_rfl) (by kernel_rfl) (by simp) ?_;simp (disch:=omega) only [go_sem,seval];refine ZC 11 _ _ (by kernel_rfl) (by simp (disch:=omega) only [go_sem,seval];exact ⟨rfl,rfl⟩) (Xr ?_);simp (disch:=omega) only [go_sem,seval];refine ZE [12] [0,1,7,9,28,29] (fun q:Nat=> [(10,.sl 3 0 (W q).length (W q).length),(30,.p (.int .i64 q))]) (fun q=> [XX x k S tot b,.cells ((JM stop).map .p),.cells ((JC (nth x.types k.toNat)).map .p),.elems 2 ((W q).map eSr)]) (fun q=>q<=st.length) (fun q=>st.length-q) 0 (by simp) (Weak.ofNil 10 2 (by simp (disch:=omega) only [go_sem,seval]) (by simp) (Weak.mk ?_)) ?_
 ·simp (disch:=omega) only [hV0,XX,JM,JC,List.map_cons,List.map_nil,List.length_nil,go_sem,seval]
 ·intro q hq;have hql:=hVl q hq;simp (disch:=omega) only [XX,JM,JC,List.map_cons,List.map_nil,go_sem,seval];refine cD ?_ ?_<;>intro h1<;>simp (disch:=omega) only [Sh.out h1,go_sem,seval]
  ·have hq2:q<st.length:=by omega
   obtain ⟨a1,a2⟩:=hst _ (Zv hq2);have hsn:=hVs q hq2;have hg:=(ZcP (n:=x.net) (pr:=(nth x.types k.toNat).prof) (f:=p) (t:=stop.place) (τ:=(nth st q).rdy) hT.net hT.mil (by omega)).1;refine Zg mixed (by kernel_rfl) (by kernel_rfl) ?_;simp (disch:=omega) only [go_sem,seval];refine Kp (Ztb x.net (nth x.types k.toNat).prof p stop.place (nth st q).rdy hT.net (by omega)) ?_;simp (disch:=omega) only [go_sem,seval];refine gF ?_ ?_<;>intro h2<;>simp (disch:=omega) only [Sh.out h2,go_sem,seval]
   ·have e:W (q+1)=W q:=by rw [hsn,JY,if_pos (.inl h2)]
    exact ⟨q+1,by omega,by omega,Weak.mk (by simp (disch:=omega) only [e,XX,JM,JC,List.map_cons,List.map_nil,go_sem,seval])⟩
   ·refine cD ?_ ?_<;>intro h3<;>simp (disch:=omega) only [Sh.out h3,go_sem,seval]
    ·have e:W (q+1)=W q:=by rw [hsn,JY,if_pos (.inr h3)]
     exact ⟨q+1,by omega,by omega,Weak.mk (by simp (disch:=omega) only [e,XX,JM,JC,List.map_cons,List.map_nil,go_sem,seval])⟩
    ·obtain ⟨z1,z2,z3,z4,z5⟩:=hT.stp stop (by simp);obtain ⟨r1,r2⟩:=hT.rst;refine Ka (Zjj stop (goN x.net (nth x.types k.toNat).prof p stop.place (nth st q).rdy).1 (by omega) (by omega) (by omega)) ?_
     by_cases hc:stop.cls<max (goN x.net (nth x.types k.toNat).prof p stop.place (nth st q).rdy).1 stop.opn
     ·have e2:Zi8 stop (goN x.net (nth x.types k.toNat).prof p stop.place (nth st q).rdy).1=(0,14):=by rw [Zi8,if_pos hc]
      rw [e2];simp (disch:=omega) only [go_sem,seval]
      have e:W (q+1)=W q:=by rw [hsn,JY,if_neg (fun h=>h.elim h2 h3),if_pos hc]
      exact ⟨q+1,by omega,by omega,Weak.mk (by simp (disch:=omega) only [e,XX,JM,JC,List.map_cons,List.map_nil,go_sem,seval])⟩
     ·have e2:Zi8 stop (goN x.net (nth x.types k.toNat).prof p stop.place (nth st q).rdy).1=(max (goN x.net (nth x.types k.toNat).prof p stop.place (nth st q).rdy).1 stop.opn+stop.serv,0):=by rw [Zi8,if_neg hc]
      rw [e2];simp (disch:=omega) only [go_sem,seval]
      have e:W (q+1)=YI (nth x.types k.toNat) (W q) (max (goN x.net (nth x.types k.toNat).prof p stop.place (nth st q).rdy).1 stop.opn+stop.serv) ((nth st q).drv+(goN x.net (nth x.types k.toNat).prof p stop.place (nth st q).rdy).1-(nth st q).rdy):=by rw [hsn,JY,if_neg (fun h=>h.elim h2 h3),if_neg hc]
      have cr:=Zn8 x k S tot b stop (W q) (max (goN x.net (nth x.types k.toNat).prof p stop.place (nth st q).rdy).1 stop.opn+stop.serv) ((nth st q).drv+(goN x.net (nth x.types k.toNat).prof p stop.place (nth st q).rdy).1-(nth st q).rdy) hk ht (by omega) (by omega) (by omega);rw [<- e] at cr;refine cr.useP (L:= [_]) (by rfl) ?_ (by rfl) (by rfl);simp (disch:=omega) only [XX,JM,JC,List.map_cons,List.map_nil,List.cons_append,List.nil_append,go_sem,seval];exact ⟨q+1,by omega,by omega,Weak.mk (by simp (disch:=omega) only [XX,JM,JC,List.map_cons,List.map_nil,go_sem,seval])⟩
  ·have hqs:q=st.length:=by omega
   subst hqs;refine Zm (Weak.fz (o:=3) (by rfl)) ?_;refine Zd [] _ _ _ _ ?_;simp (disch:=omega) only [List.map_cons,List.map_nil,List.set_cons_succ,List.set_cons_zero,XX,JM,JC,List.length_map,eq_self,if_true,go_sem,seval];exact ⟨.p (.list false ((W st.length).map eSr)),[XX x k S tot b],Weak.mk (by simp (disch:=omega) only [XX,go_sem,seval]),rfl,rfl⟩
theorem Zfw (a b:Col) (ha:a.route.visits.length<=1048576) (hb:b.route.visits.length<=1048576):PC 145 [.p (Xa a),.p (Xa b)] (.bool (WD a b)):=by
 refine Za Tryz.func145 rfl ZuW ?_;simp (disch:=omega) only [Tryz.f145,go_sem,seval];refine cD ?_ ?_<;>intro h<;>simp (disch:=omega) only [Sh.out h,go_sem,seval]
 ·rw [WD,if_pos h]
 ·refine (ZiV a.route.visits b.route.visits a.route.visits_c b.route.visits_c ha hb).use ?_;simp (disch:=omega) only [go_sem,seval];rw [WD,if_neg h]
theorem Zni (a b:Col) (f:Bool) (ha:a.route.visits.length<=1048576) (hb:b.route.visits.length<=1048576):PC 144 [.p (Xa a),.p (.bool f),.p (Xa b),.fn (.func 145) [] []] (Xa (if f=false\/WD b a=true then b else a)):=by
 refine Za Tryz.func144 rfl ZuX ?_
 cases f with
 | false =>
  simp (disch:=omega) only [Tryz.f144,Bool.not_false,go_sem,seval]
 | true =>
  simp (disch:=omega) only [Tryz.f144,Bool.not_true,go_sem,seval];refine (Zfw b a hb ha).use ?_;simp (disch:=omega) only [go_sem,seval]
  cases h:WD b a with
  | true=>simp (disch:=omega) only [h,go_sem,seval]
  | false=>simp (disch:=omega) only [h,go_sem,seval]
theorem ZzJ {x:Inst} (hx:InstOk x) {S:Nat} {l:List Vis} {v:Vis} (hv:v∈nxV x S l) {k:Int} (hk:0<=k/\k<x.types.length):inB x v=true/\0<=(Xf x v).place/\TrpOk x (nth x.types k.toNat) [Xf x v]:=by
 obtain ⟨i,hi,_,_,h4,_⟩:=YC.1 hv;have ho:=Z7 h4
 have hpl:0<=(Xf x v).place:=by
  unfold ZV at h4;unfold Xf;rw [ho,Int.toNat_natCast];rcases List.mem_append.1 h4 with h | h
  ·split at h
   ·rename_i hp
    obtain rfl:v=⟨i,false⟩:=by simpa using h
    simpa using hp
   ·simp at h
  ·split at h
   ·rename_i hp
    obtain rfl:v=⟨i,true⟩:=by simpa using h
    simpa using hp
   ·simp at h
 obtain ⟨t1,t2,t3,_⟩:=Wh hx (show k.toNat<x.types.length by omega);obtain ⟨n1,n2⟩:=Zhw hx.net;refine ⟨by simp [inB,ho,hi],hpl,n1,n2,t1,t2,t3,fun s hs=> ?_,by simp⟩
 obtain rfl:s=Xf x v:=by simpa using hs
 have hor:=hx.orders.2 i hi;have hp:=hor.pstp;have hd:=hor.dstp;simp only [stpOk,decide_eq_true_eq] at hp hd;unfold Xf at hpl ⊢;rw [ho,Int.toNat_natCast] at hpl ⊢
 split
 ·rename_i c;rw [if_pos c] at hpl;omega
 ·rename_i c;rw [if_neg c] at hpl;omega
theorem Zo4 {x:Inst} {t:Typ} {p:Int} {stop:Stp} (hT:TrpOk x t [stop]) {m:Int} {out:List Sr} {a:Sr} (hm:0<=m) (ho:Zi2 (m+16384) out) (ha:(0<=a.rdy/\a.rdy<=16384)/\(-m<=a.drv/\a.drv<=4096)):Zi2 (m+16384) (JY x t p stop out a)/\(JY x t p stop out a).length<=out.length+2:=by
 have hg:=(ZcP (n:=x.net) (pr:=t.prof) (f:=p) (t:=stop.place) (τ:=a.rdy) hT.net hT.mil (by omega)).1;obtain ⟨z1,z2,z3,z4,z5⟩:=hT.stp stop (by simp);obtain ⟨r1,r2⟩:=hT.rst;have hd:=hT.drv;unfold JY
 split
 ·exact ⟨ho,by omega⟩
 ·rename_i c1
  split
  ·exact ⟨ho,by omega⟩
  ·rename_i c2;refine ⟨fun b hb=> ?_,UJ⟩;have c3: ¬t.drive<a.drv+(goN x.net t.prof p stop.place a.rdy).1-a.rdy:=fun h=>c1 (.inr h);rcases XU.1 hb with h | rfl | rfl
   ·exact ho b h
   ·exact ⟨by simp only;omega,by simp only;omega⟩
   ·exact ⟨by simp only;omega,by simp only;omega⟩
theorem ZaS {x:Inst} {t:Typ} {p:Int} {stop:Stp} (hT:TrpOk x t [stop]) {m:Int} (hm:0<=m): ∀(st out:List Sr),Zi2 (m+16384) out->Zi2 m st->Zi2 (m+16384) (st.foldl (JY x t p stop) out)/\(st.foldl (JY x t p stop) out).length<=out.length+2*st.length
 | [],out,ho,_=>⟨ho,by simp⟩
 | a::st,out,ho,hs=>by
  obtain ⟨g1,g2⟩:=Zo4 hT (p:=p) hm ho (hs a (by simp));obtain ⟨k1,k2⟩:=ZaS hT (p:=p) hm st _ g1 fun b hb=>hs b (List.mem_cons_of_mem _ hb);rw [List.foldl_cons];exact ⟨k1,by simp only [List.length_cons];omega⟩
def ZkS (x:Inst) (k:Int) (S tot f:Nat):Prop:= ∀(l:List Vis) (c:Bool) (p:Int) (st:List Sr) (b:Col×Bool),l.length+f=tot->(c=true->0<f)->Zi2 (16384*(l.length:Int)) st->st.length<=2^(l.length+1)->b.1.route.visits.length<=1048576 ->
  ACalls Tryz.prog 93 [.ptr 0 0,.p (.list c (l.map Z5)),.p (.int .i64 p),.p (.list false (st.map eSr))] [XX x k S tot b] fun y H'=>y= .tup []/\H'= [XX x k S tot ((lvP x k S f l (p,st)).foldl (X1 (okV x k) (Y1 x k S) WD) b)]
theorem Zt7 (x:Inst) (hx:InstOk x) (k:Int) (S tot:Nat) (ht:tot<=8) (hk:0<=k/\k<x.types.length) (htl:x.types.length<=1048576):ZkS x k S tot 0:=by
 intro l c p st b hlf hc hs1 hs2 hb
 have hc:c=false:=by cases c<;>simp_all
 subst hc
 have hll:l.length=tot:=by omega
 obtain ⟨R,hR⟩: ∃R,R=XX x k S tot ((lvP x k S 0 l (p,st)).foldl (X1 (okV x k) (Y1 x k S) WD) b):=⟨_,rfl⟩;rw [<- hR];simp only [lvP,lvW,List.foldl_cons,List.foldl_nil] at hR;obtain ⟨⟨bt,bs,bp,br⟩,bf⟩:=b;have hpr:=Zkc x (rtV k l);refine Zb [] Tryz.func93 rfl Ztc ?_;simp (disch:=omega) only [Tryz.f93,XX,go_sem,seval];refine cD ?_ ?_<;>intro h1<;>simp (disch:=omega) only [Sh.out h1,go_sem,seval]
 ·refine Zg mixed (by kernel_rfl) (by kernel_rfl) ?_;simp (disch:=omega) only [go_sem,seval];refine Wx (Zhs x (rtV k l) hx ⟨by simp only [rtV];omega,by simp [rtV]⟩) ?_;simp (disch:=omega) only [go_sem,seval];refine cD ?_ ?_<;>intro h2<;>simp (disch:=omega) only [Sh.out h2,go_sem,seval]
  ·have hok:okV x k l=true:=decide_eq_true h2;have hcol:(⟨k,(S:Int),(Zar x (rtV k l)).1,⟨k,0,true,[],false,l⟩⟩:Col)=Y1 x k S l:=rfl;refine ZP [11] 12 mixed (by kernel_rfl) (by kernel_rfl) (by kernel_rfl) (by simp) ?_;simp (disch:=omega) only [go_sem,seval];refine ZC 11 _ _ (by kernel_rfl) (by simp (disch:=omega) only [go_sem,seval];exact ⟨rfl,rfl⟩) (Xr ?_);simp (disch:=omega) only [go_sem,seval];refine Zn 11 mixed (by kernel_rfl) (by kernel_rfl) ?_;simp (disch:=omega) only [go_sem,seval];refine Zj (Zni ⟨bt,bs,bp,br⟩ (Y1 x k S l) bf hb (by simp only [Y1,rtV];omega)) ?_
   have hR2:R=XX x k S tot (if bf=false\/WD (Y1 x k S l) ⟨bt,bs,bp,br⟩=true then Y1 x k S l else ⟨bt,bs,bp,br⟩,true):=by
    rw [hR,X1]
    by_cases hq:bf=false\/WD (Y1 x k S l) ⟨bt,bs,bp,br⟩=true
    ·rw [if_pos ⟨hok,hq⟩,if_pos hq]
    ·rw [if_neg (fun h=>hq h.2),if_neg hq]
     cases bf
     ·exact absurd (.inl rfl) hq
     ·rfl
   generalize (if bf=false\/WD (Y1 x k S l) ⟨bt,bs,bp,br⟩=true then Y1 x k S l else ⟨bt,bs,bp,br⟩)=C at hR2 ⊢;simp (disch:=omega) only [go_sem,seval];exact ⟨.tup [],[R],Weak.mk (by simp (disch:=omega) only [hR2,XX,go_sem,seval]),rfl,rfl⟩
  ·have hok:okV x k l=false:=decide_eq_false h2;rw [X1,if_neg (fun h=>by rw [hok] at h;cases h.1)] at hR;exact ⟨.tup [],[R],Weak.mk (by simp (disch:=omega) only [hR,XX,go_sem,seval]),rfl,rfl⟩
 ·omega
theorem Zde {x:Inst} {k:Int} {S:Nat} : ∀(f:Nat) (l:List Vis) (s:Int×List Sr),∀m∈lvP x k S f l s,m.length=l.length+f
 | 0,l,s,m,hm=>by
  simp only [lvP,lvW,List.mem_cons,List.not_mem_nil,or_false] at hm;subst hm;rfl
 | f+1,l,s,m,hm=>by
  simp only [lvP,lvW,List.mem_flatMap] at hm;obtain ⟨v,_,hm⟩:=hm
  split at hm
  ·simp at hm
  ·have:=Zde f (l++ [v]) _ m hm;simp at this;omega
theorem ZdL {x:Inst} {k:Int} {S N:Nat} : ∀(L:List (List Vis)) (b:Col×Bool),b.1.route.visits.length<=N->(∀m∈L,m.length<=N)->(L.foldl (X1 (okV x k) (Y1 x k S) WD) b).1.route.visits.length<=N
 | [],b,h,_=>h
 | m::L,b,h,hL=>by
  rw [List.foldl_cons];refine ZdL L _ ?_ fun q hq=>hL q (List.mem_cons_of_mem _ hq);unfold X1
  split
  ·exact hL m (by simp)
  ·exact h
theorem ZvI (x:Inst) (hx:InstOk x) (k:Int) (S tot f:Nat) (ht:tot<=8) (hk:0<=k/\k<x.types.length) (htl:x.types.length<=1048576) (hbl:x.before.length<=1048576) (hS:S<9223372036854775808) (ih:ZkS x k S tot f):ZkS x k S tot (f+1):=by
 intro l c p st b hlf hc hs1 hs2 hb;have hf:=Xe hx
 have hn:x.orders.length<=60:=by have:=hf.len;omega
 obtain ⟨R,hR⟩: ∃R,R=XX x k S tot ((lvP x k S (f+1) l (p,st)).foldl (X1 (okV x k) (Y1 x k S) WD) b):=⟨_,rfl⟩;rw [<- hR];have hpw:2^(l.length+1)<=2^8:=Nat.pow_le_pow_right (by omega) (by omega)
 have hpw2:2^(l.length+1+1)=2*2^(l.length+1):=by rw [Nat.pow_succ];omega
 have hnl:=WE x S l x.orders.length;have hokv: ∀v∈nextU x S l x.orders.length,inB x v=true/\0<=(Xf x v).place/\TrpOk x (nth x.types k.toNat) [Xf x v]:=fun v hv=>ZzJ hx hv hk;obtain ⟨G,hG⟩: ∃G:Vis->List (List Vis),G=fun v=>if (goS x (nth x.types k.toNat) (p,st) v).2.isEmpty=true then [] else lvP x k S f (l++ [v]) (goS x (nth x.types k.toNat) (p,st) v):=⟨_,rfl⟩
 have hlv:lvP x k S (f+1) l (p,st)=(nextU x S l x.orders.length).flatMap G:=by rw [hG];rfl
 rw [hlv] at hR;have hsn:=ZgY x S l c hS (by omega) hn hbl (fun q hq=>by have:=(hf.val q hq);omega);generalize hnx:nextU x S l x.orders.length=nx at hnl hokv hR hsn;clear hnx hlv;obtain ⟨B,hB⟩: ∃B:Nat->Col×Bool,B=fun q=>((nx.take q).flatMap G).foldl (X1 (okV x k) (Y1 x k S) WD) b:=⟨_,rfl⟩
 have hB0:B 0=b:=by rw [hB];rfl
 have hBn:R=XX x k S tot (B nx.length):=by rw [hR,hB];simp
 have hBs: ∀q,q<nx.length->B (q+1)=(G (nth nx q)).foldl (X1 (okV x k) (Y1 x k S) WD) (B q):=fun q hq=>by
  rw [hB];simp only;rw [List.take_succ_eq_append_getElem hq,List.flatMap_append,List.foldl_append,<- Ze hq];simp
 have hBl: ∀q,(B q).1.route.visits.length<=1048576:=fun q=>by
  rw [hB];refine ZdL _ _ hb fun m hm=> ?_;obtain ⟨v,_,hm⟩:=List.mem_flatMap.1 hm;rw [hG] at hm;simp only at hm
  split at hm
  ·simp at hm
  ·have:=Zde _ _ _ m hm;simp at this;omega
 clear hR hB;refine Zb [] Tryz.func93 rfl Ztc ?_;simp (disch:=omega) only [Tryz.f93,XX,go_sem,seval];refine cD ?_ ?_<;>intro h1<;>simp (disch:=omega) only [Sh.out h1,go_sem,seval]
 ·omega
 ·refine Zg mixed (by kernel_rfl) (by kernel_rfl) ?_;simp (disch:=omega) only [go_sem,seval];refine Zj (hsn) ?_;simp (disch:=omega) only [go_sem,seval];refine Zf [0,1,2,3,77,78] (fun q:Nat=> [(79,.p (.int .i64 q))]) (fun q=> [XX x k S tot (B q)]) (fun q=>q<=nx.length) (fun q=>nx.length-q) 0 (by simp) (Weak.mk ?_) ?_
  ·simp (disch:=omega) only [XX,hB0,go_sem,seval]
  ·intro q hq;simp (disch:=omega) only [XX,go_sem,seval];refine cD ?_ ?_<;>intro h2<;>simp (disch:=omega) only [Sh.out h2,go_sem,seval]
   ·have hq2:q<nx.length:=by omega
    obtain ⟨v1,v2,v3⟩:=hokv _ (Zv hq2);have hBq:=hBs q hq2;refine ZP [10,11] 12 mixed (by kernel_rfl) (by kernel_rfl) (by kernel_rfl) (by simp) ?_;simp (disch:=omega) only [go_sem,seval];refine Wx (Zf3 x (nth nx q) (by omega) v1 v2) ?_;simp (disch:=omega) only [go_sem,seval];refine ZC 10 _ _ (by kernel_rfl) (by simp (disch:=omega) only [go_sem,seval];exact ⟨rfl,rfl⟩) ?_;simp (disch:=omega) only [go_sem,seval];refine ZC 11 _ _ (by kernel_rfl) (by simp (disch:=omega) only [go_sem,seval];exact ⟨rfl,rfl⟩) (Xr ?_);simp (disch:=omega) only [go_sem,seval]
    have hSr0:Zi2 (16384*(l.length:Int)+16384) []:=fun a ha=>by simp at ha
    obtain ⟨w1,w2⟩:=ZaS v3 (p:=p) (m:=16384*(l.length:Int)) (by omega) st [] hSr0 hs1;obtain ⟨N,hN⟩: ∃N,N=Kr x (nth x.types k.toNat) p st (Xf x (nth nx q)):=⟨_,rfl⟩;have cv:=Znf x k S tot (B q) p st false (Xf x (nth nx q)) (16384*(l.length:Int)) (by omega) hk htl v3 (by omega) hs1
    have hGq:G (nth nx q)=if N.isEmpty=true then [] else lvP x k S f (l++ [nth nx q]) ((Xf x (nth nx q)).place,N):=by rw [hG,hN];rfl
    rw [<- hN] at cv
    have w1':Zi2 (16384*(l.length:Int)+16384) N:=by rw [hN];exact w1
    have w2':N.length<=2*st.length:=by rw [hN,Kr];simpa using w2
    refine cv.useP (L:= [_,_]) (by rfl) ?_ (by rfl) (by rfl);simp (disch:=omega) only [XX,List.cons_append,List.nil_append,go_sem,seval];refine cD ?_ ?_<;>intro h3<;>simp (disch:=omega) only [Sh.out h3,go_sem,seval]
    ·have hne: ¬N.isEmpty=true:=fun h=>by rw [List.isEmpty_iff] at h;rw [h] at h3;simp at h3
     rw [hGq,if_neg hne] at hBq
     have ihc:=ih (l++ [nth nx q]) false (Xf x (nth nx q)).place N (B q) (by simp;omega) (by simp) (by
      have e:16384*(((l++ [nth nx q]).length:Nat):Int)=16384*(l.length:Int)+16384:=by simp;omega
      rw [e];exact w1') (by rw [show (l++ [nth nx q]).length+1=l.length+1+1 by simp,hpw2];omega) (hBl q)
     rw [<- hBq,List.map_append] at ihc;refine Zn 9 mixed (by kernel_rfl) (by kernel_rfl) ?_;simp (disch:=omega) only [go_sem,seval];refine Zj (Zwr l c (by omega)) ?_;simp (disch:=omega) only [go_sem,seval];refine ihc.useP (L:= [_,_]) (by rfl) ?_ (by rfl) (by rfl);simp (disch:=omega) only [XX,List.cons_append,List.nil_append,go_sem,seval];exact ⟨q+1,by omega,by omega,Weak.mk (by simp (disch:=omega) only [XX,go_sem,seval])⟩
    ·have he:N.isEmpty=true:=by rw [List.isEmpty_iff];exact List.eq_nil_of_length_eq_zero (by omega)
     rw [hGq,if_pos he] at hBq;have hBq':B (q+1)=B q:=hBq;exact ⟨q+1,by omega,by omega,Weak.mk (by simp (disch:=omega) only [hBq',XX,go_sem,seval])⟩
   ·have hql:q=nx.length:=by omega
    subst hql;exact ⟨.tup [],[R],Weak.mk (by simp (disch:=omega) only [hBn,XX,go_sem,seval]),rfl,rfl⟩
theorem Q7 (x:Inst) (hx:InstOk x) (k:Int) (S tot:Nat) (ht:tot<=8) (hk:0<=k/\k<x.types.length) (htl:x.types.length<=1048576) (hbl:x.before.length<=1048576) (hS:S<9223372036854775808): ∀f,ZkS x k S tot f
 | 0=>Zt7 x hx k S tot ht hk htl
 | f+1=>ZvI x hx k S tot f ht hk htl hbl hS (Q7 x hx k S tot ht hk htl hbl hS f)
theorem Zji (x:Inst) (k:Int) (S tot:Nat) (b:Col×Bool) (d v:Int) (hk:0<=k/\k<x.types.length) (ht:x.types.length<=1048576) (hd:0<=d/\d<=1048576) (hr:0<=(nth x.types k.toNat).rest/\(nth x.types k.toNat).rest<=1048576) :
  ACalls Tryz.prog 94 [.ptr 0 0,.p (.list true []),.p (.int .i64 d),.p (.int .i64 v)] [XX x k S tot b] fun y H'=>y= .p (.list false ((YI (nth x.types k.toNat) [] d v).map eSr))/\H'= [XX x k S tot b]:=by
 obtain ⟨L2,h2⟩: ∃L2,L2=YI (nth x.types k.toNat) [] d v:=⟨_,rfl⟩
 have h12:Vb [⟨d,v⟩] ⟨d+(nth x.types k.toNat).rest,0⟩=L2:=by rw [h2];rfl
 rw [<- h2];have c2:=Zf9 [⟨d,v⟩] ⟨d+(nth x.types k.toNat).rest,0⟩ (by simp);rw [h12] at c2;refine Zb [] Tryz.func94 rfl ZuD ?_;simp (disch:=omega) only [Tryz.f94,go_sem,seval];refine (Zog ⟨d,v⟩).useF ?_;simp (disch:=omega) only [go_sem,seval];simp (disch:=omega) only [XX,go_sem,seval];refine Zn 16 mixed (by kernel_rfl) (by kernel_rfl) ?_;simp (disch:=omega) only [go_sem,seval];refine ACalls.mono (c2.back [XX x k S tot b] (by rfl)) ?_;rintro y H' ⟨y1,H1,⟨rfl,rfl⟩,rfl,rfl⟩;simp (disch:=omega) only [AM.shV,AM.shVs,AM.shO,XX,List.map_cons,List.map_nil,List.cons_append,List.nil_append,go_sem,seval]
 exact ⟨.p (.list false (L2.map eSr)),[XX x k S tot b],(Weak.fz (o:=1) (by rfl)).trans (Weak.mk (by simp (disch:=omega) only [XX,List.length_map,eq_self,if_true,List.map_cons,List.map_nil,List.set_cons_succ,List.set_cons_zero,go_sem,seval])),rfl,rfl⟩
theorem ZeH (x:Inst) (S:Nat): ∀k,k<=63->((XS (S:Int) k).map fun i=>(ZV x.orders i.toNat).length).sum=Zau x S k
 | 0,_=>by simp [XS,Zau]
 | k+1,h=>by
  have ih:=ZeH x S k (by omega);rw [V8]
  cases hb:sHas (S:Int) (k:Int) with
  | true =>
   rw [ZdG hb,List.map_append,List.sum_append,ih];rw [XK _ _ (by omega)] at hb;rw [if_pos hb];simp
  | false =>
   rw [Zf0 hb,ih];rw [XK _ _ (by omega)] at hb;rw [hb];simp
theorem ZdI (x:Inst) (S n:Nat) (h: ∀i,S.testBit i=true->i<n): ∀d,Zau x S (n+d)=Zau x S n
 | 0=>rfl
 | d+1=>by
  rw [show n+(d+1)=n+d+1 by omega,V8,ZdI x S n h d,if_neg (fun e=>by have:=h _ e;omega)];rfl
def Wu : Col:=⟨0,0,0,⟨0,0,true,[],true,[]⟩⟩
noncomputable def Q1 (x:Inst) (k:Int) (S:Nat):Col×Int:=if Ya x.orders x.apart x.before (S:Int)=0/\(Zjb x k S (Wu,false)).2=true then ((Zjb x k S (Wu,false)).1,0) else (Wu,24)
def Zcw : AM.Obj:= .cells ((ZeS Wu).map .p)
theorem Zbc (x:Inst) (hx:InstOk x) (k:Int) (S:Nat) (hk:0<=k/\k<x.types.length) (h4:x.orders.length<=4) (htl:x.types.length<=1048576) (hbl:x.before.length<=1048576) (hal:x.apart.length<=1048576) (hS0:0<S) (hS1:S<2^x.orders.length) :
  PT 56 [.p (Zt x),.p (.int .i64 k),.p (.int .i64 S)] [.p (Xa (Q1 x k S).1),.p (.int .i64 (Q1 x k S).2)]:=by
 have hf:=Xe hx;have h16:S<16:=Nat.lt_of_lt_of_le hS1 (Nat.pow_le_pow_right (n:=2) (by omega) h4);have hdiv:S / pw x.orders.length=0:=Nat.div_eq_of_lt hS1
 have hbit: ∀i,S.testBit i=true->i<x.orders.length:=fun i hi=>by
  rcases Nat.lt_or_ge i x.orders.length with h | h
  ·exact h
  ·have:2^x.orders.length<=2^i:=Nat.pow_le_pow_right (by omega) h;rw [Nat.testBit_lt_two_pow (by omega)] at hi;cases hi
 obtain ⟨Z,hZ⟩: ∃Z,Z=Q1 x k S:=⟨_,rfl⟩;rw [<- hZ];have hal2:=Zib x.net x.types_c x.types x.orders_c x.apart_c x.before_c x.orders x.apart x.before (S:Nat) (by omega) hal hbl hf.val;refine Zb [] Tryz.func56 rfl Zz2 ?_;simp (disch:=omega) only [Tryz.f56,go_sem,seval];refine gF ?_ ?_<;>intro h1<;>simp (disch:=omega) only [Sh.out h1,go_sem,seval]
 ·omega
 ·refine gF ?_ ?_<;>intro h2<;>simp (disch:=omega) only [Sh.out h2,go_sem,seval]
  ·omega
  ·refine gF ?_ ?_<;>intro h3<;>simp (disch:=omega) only [Sh.out h3,go_sem,seval]
   ·omega
   ·refine cD ?_ ?_<;>intro h5<;>simp (disch:=omega) only [Sh.out h5,go_sem,seval]
    ·omega
    ·refine (hal2).use ?_;simp (disch:=omega) only [go_sem,seval];refine cD ?_ ?_<;>intro h6<;>simp (disch:=omega) only [Sh.out h6,go_sem,seval]
     ·have e:Z=(Wu,24):=by rw [hZ,Q1,if_neg (fun h=>h6 h.1)]
      exact ⟨.tup [.p (Xa Z.1),.p (.int .i64 Z.2)],[],Weak.mk (by simp (disch:=omega) only [e,Wu,List.map_nil,go_sem,seval]),rfl,rfl⟩
     ·have h60:Ya x.orders x.apart x.before (S:Int)=0:=Classical.not_not.1 h6;obtain ⟨T,hT⟩: ∃T:Nat->Nat,T=fun q=>(((XS (S:Int) 63).take q).map fun i=>(ZV x.orders i.toNat).length).sum:=⟨_,rfl⟩
      have hT0:T 0=0:=by rw [hT];rfl
      have hTn:T (XS (S:Int) 63).length=Vn x S:=by
       rw [hT];simp only [List.take_length];rw [ZeH x S 63 (by omega),show 63=x.orders.length+(63-x.orders.length) by omega,ZdI x S _ hbit];rfl
      have hTs: ∀q,q<(XS (S:Int) 63).length->T (q+1)=T q+(ZV x.orders (nth (XS (S:Int) 63) q).toNat).length:=fun q hq=>by
       rw [hT];simp only;rw [List.take_succ_eq_append_getElem hq,List.map_append,List.sum_append,<- Ze hq];simp
      have hTl: ∀q,T q<=2*q:=fun q=>by
       induction q with
       | zero=>rw [hT0];omega
       | succ q ih =>
        rcases Nat.lt_or_ge q (XS (S:Int) 63).length with h | h
        ·have:=hTs q h;have:=XO x.orders (nth (XS (S:Int) 63) q).toNat;omega
        ·have:T (q+1)=T q:=by rw [hT];simp only;rw [List.take_of_length_le (by omega),List.take_of_length_le h]
         omega
      have hml:=Qu (S:Int) 63
      have hmi: ∀q,q<(XS (S:Int) 63).length-> ∃i:Nat,nth (XS (S:Int) 63) q=(i:Int)/\i<x.orders.length:=fun q hq=>by
       obtain ⟨i,e,_,hb⟩:=WQ.1 (Zv hq);exact ⟨i,e,hbit i hb⟩
      refine ((Jp (S:Int)).frozen (by simp)).use ?_;simp (disch:=omega) only [go_sem,seval];generalize XS (S:Int) 63=M at hTn hTs hml hmi ⊢;clear hT;refine Zf [1,3,6,8,45,46] (fun q:Nat=> [(47,.p (.int .i64 q))]) (fun q=> [Zc x,Zcw,XX x k S (T q) (Wu,false)]) (fun q=>q<=M.length) (fun q=>M.length-q) 0 (by simp) (Weak.mk ?_) ?_
      ·simp (disch:=omega) only [Zc,Zcw,ZeS,Wu,XX,hT0,List.map_nil,List.map_cons,go_sem,seval]
      ·intro q hq;have hq1:=hTl q;simp (disch:=omega) only [Zc,Zcw,ZeS,Wu,XX,List.map_nil,List.map_cons,go_sem,seval];refine cD ?_ ?_<;>intro h7<;>simp (disch:=omega) only [Sh.out h7,go_sem,seval]
       ·have hq2:q<M.length:=by omega
        obtain ⟨i,hi,hin⟩:=hmi q hq2;have hts:=hTs q hq2;rw [hi,Int.toNat_natCast] at hts;have hvl:=XO x.orders i;refine Zn 10 mixed (by kernel_rfl) (by kernel_rfl) ?_;simp (disch:=omega) only [go_sem,seval];rw [hi];refine Zj (visits_c x.orders x.orders_c i hin (by omega)) ?_;simp (disch:=omega) only [go_sem,seval]
        have hts2:((T (q+1):Nat):Int)=((T q:Nat):Int)+((ZV x.orders i).length:Int):=by omega
        exact ⟨q+1,by omega,by omega,Weak.mk (by simp (disch:=omega) only [hts2,Zc,Zcw,ZeS,Wu,XX,List.map_nil,List.map_cons,go_sem,seval])⟩
       ·have hqm:q=M.length:=by omega
        subst hqm;rw [hTn] at hq1 ⊢
        have ht8:Vn x S<=8:=by
         have:=Jj x S x.orders.length;unfold Vn;omega
        have htp:0<Vn x S:=ZiJ hf.vne hdiv (by omega);obtain ⟨t1,t2,t3,_⟩:=Wh hx (show k.toNat<x.types.length by omega);obtain ⟨N,hN⟩: ∃N,N=YI (nth x.types k.toNat) [] (nth x.types k.toNat).opn 0:=⟨_,rfl⟩
        have hNl:N.length<=2:=by
         have:=UJ (t:=nth x.types k.toNat) (l:= []) (d:=(nth x.types k.toNat).opn) (v:=0);rw [hN];simpa using this
        have hNo:Zi2 0 N:=fun a ha=>by
         rw [hN] at ha;rcases XU.1 ha with h | rfl | rfl
         ·simp at h
         ·exact ⟨by simp only;omega,by simp only;omega⟩
         ·exact ⟨by simp only;omega,by simp only;omega⟩
        have cf:=Zji x k S (Vn x S) (Wu,false) (nth x.types k.toNat).opn 0 hk htl (by omega) (by omega);rw [<- hN] at cf;have cw:=Q7 x hx k S (Vn x S) ht8 hk htl hbl (by omega) (Vn x S) [] true (nth x.types k.toNat).src N (Wu,false) (by simp) (fun _=>htp) (by simpa using hNo) (by simpa using hNl) (by simp [Wu])
        have hB:(lvP x k S (Vn x S) [] ((nth x.types k.toNat).src,N)).foldl (X1 (okV x k) (Y1 x k S) WD) (Wu,false)=Zjb x k S (Wu,false):=by rw [Zjb,st0,<- hN]
        rw [hB] at cw
        have hZ2:Z=if (Zjb x k S (Wu,false)).2=true then ((Zjb x k S (Wu,false)).1,0) else (Wu,24):=by
         rw [hZ,Q1]
         by_cases hq:(Zjb x k S (Wu,false)).2=true
         ·rw [if_pos ⟨h60,hq⟩,if_pos hq]
         ·rw [if_neg (fun h=>hq h.2),if_neg hq]
        generalize Zjb x k S (Wu,false)=B at cw hZ2;refine Zn 7 mixed (by kernel_rfl) (by kernel_rfl) ?_;simp (disch:=omega) only [go_sem,seval];refine ⟨.p (.list false (N.map eSr)),?_,?_⟩
        ·refine ACalls.mono (((cf.mono fun y H' hq=>(⟨hq,by rw [hq.2]⟩:_/\H'.length= [XX x k S (Vn x S) (Wu,false)].length)).front (by rfl) (by rfl) [.cells ((JC (nth x.types k.toNat)).map .p)]).back [Zc x,Zcw] (by rfl)) ?_;rintro y H' ⟨y1,H1,⟨H2,⟨rfl,rfl⟩,rfl⟩,rfl,rfl⟩;exact ⟨rfl,rfl⟩
        ·simp (disch:=omega) only [go_sem,seval];refine ACalls.mono (((cw.mono fun y H' hq=>(⟨hq,by rw [hq.2];rfl⟩:_/\H'.length= [XX x k S (Vn x S) (Wu,false)].length)).front (by rfl) (by rfl) [.cells ((JC (nth x.types k.toNat)).map .p)]).back [Zc x,Zcw] (by rfl)) ?_;rintro y H' ⟨y1,H1,⟨H2,⟨rfl,rfl⟩,rfl⟩,rfl,rfl⟩;simp (disch:=omega) only [AM.shV,AM.shVs,AM.shO,Zc,Zcw,ZeS,Wu,XX,JC,List.map_cons,List.map_nil,List.cons_append,List.nil_append,go_sem,seval];obtain ⟨C,f⟩:=B
         cases f with
         | false =>
          rw [if_neg (by simp)] at hZ2;simp (disch:=omega) only [Bool.not_false,go_sem,seval];exact ⟨.tup [.p (Xa Z.1),.p (.int .i64 Z.2)],[],Weak.mk (by simp (disch:=omega) only [hZ2,Wu,List.map_nil,go_sem,seval]),rfl,rfl⟩
         | true =>
          rw [if_pos rfl] at hZ2;simp (disch:=omega) only [Bool.not_true,go_sem,seval];exact ⟨.tup [.p (Xa Z.1),.p (.int .i64 Z.2)],[],Weak.mk (by simp (disch:=omega) only [hZ2,go_sem,seval]),rfl,rfl⟩
theorem Ze1 (a b:Col) (ha:a.route.visits.length<=1048576) (hb:b.route.visits.length<=1048576):PC 155 [.p (Xa a),.p (Xa b)] (.bool (WD a b)):=by
 refine Za Tryz.func155 rfl Zt8 ?_;simp (disch:=omega) only [Tryz.f155,go_sem,seval];refine cD ?_ ?_<;>intro h<;>simp (disch:=omega) only [Sh.out h,go_sem,seval]
 ·rw [WD,if_pos h]
 ·refine (ZnT a.route.visits b.route.visits a.route.visits_c b.route.visits_c ha hb).use ?_;simp (disch:=omega) only [go_sem,seval];rw [WD,if_neg h]
theorem ZfD (x:Inst) (S:Nat) (h4:x.orders.length<=60) (hS0:0<S) (hS:S<9223372036854775808):PC 95 [.p (Zt x),.p (.int .i64 S)] (.bool (decide (S / pw x.orders.length=0))):=by
 refine Za Tryz.func95 rfl ZAd ?_;simp (disch:=omega) only [Tryz.f95,go_sem,seval];refine Zf [1,2] (fun k:Nat=> [(5,.p (.int .i64 (hv S k:Nat))),(6,.p (.int .i64 k))]) (fun _=> [Zc x]) (fun k=>k<=x.orders.length) (fun k=>x.orders.length-k) 0 (by simp) (Weak.mk ?_) ?_
 ·simp (disch:=omega) only [ZfX,Zc,go_sem,seval]
 ·intro k hk;have e1:=Zf8 S k;have h1:=ZrT S k;simp (disch:=omega) only [Zc,go_sem,seval];refine gT ?_ ?_<;>intro h2<;>simp (disch:=omega) only [Sh.out h2,go_sem,seval]
  ·refine cD ?_ ?_<;>intro h3<;>simp (disch:=omega) only [Sh.out h3,go_sem,seval]
   ·have e2:((hv S (k+1):Nat):Int)=((hv S k:Nat):Int) / 2:=by omega
    exact ⟨k+1,by omega,by omega,Weak.mk (by simp (disch:=omega) only [e2,Zc,go_sem,seval])⟩
   ·omega
  ·have hkn:k=x.orders.length:=by omega
   subst hkn;refine gT ?_ ?_<;>intro h3<;>simp (disch:=omega) only [Sh.out h3,go_sem,seval]
   ·have e:decide (((hv S x.orders.length:Nat):Int)=0)=decide (S / pw x.orders.length=0):=by
     rw [decide_eq_decide];unfold hv;omega
    simp (disch:=omega) only [e,go_sem,seval]
   ·omega
theorem Znt {x:Inst} {S:Nat} {l:List Vis} (h:Gr x S l) (hl:l.length=Vn x S):nxV x S l= []:=by
 cases e:nxV x S l with
 | nil=>rfl
 | cons v r =>
  exfalso
  have hv:v∈nextU x S l x.orders.length:=by
   have:v∈nxV x S l:=by rw [e];simp
   exact this
  obtain ⟨i,hi,h1,h2,h3,h4⟩:=YC.1 hv;exact ((Yl h3).1 h4).1 (h.full hl v (X4.2 ⟨i,hi,h1,h3⟩))
def ZjF (x:Inst) (k:Int) (S f:Nat):Prop:= ∀(l:List Vis) (c:Bool) (b:Col) (fd:Bool),Gr x S l->l.length+f=Vn x S->(c=true->l= [])->b.typ=k->b.set=S->b.route.visits.length<=1048576 ->
  PT 96 [.p (Zt x),.p (Xa b),.p (.bool fd),.p (.list c (l.map Z5))] [.p (Xa ((lvR (nxV x S) f l).foldl (X1 (okR x k S) (Y1 x k S) WD) (b,fd)).1),.p (.bool ((lvR (nxV x S) f l).foldl (X1 (okR x k S) (Y1 x k S) WD) (b,fd)).2)]
theorem Zb6 (x:Inst) (hx:InstOk x) (k:Int) (S:Nat) (hS0:0<S) (hS:S<9223372036854775808) (ho:x.orders.length<=60) (htl:x.types.length<=1048576) (hbl:x.before.length<=1048576) (l:List Vis) (c:Bool) (b:Col) (fd:Bool) (hnx:nxV x S l= []) (hll:l.length<=1048576) (hc:c=true->l= []) (hb1:b.typ=k) (hb2:b.set=S) (hb3:b.route.visits.length<=1048576) :
  PT 96 [.p (Zt x),.p (Xa b),.p (.bool fd),.p (.list c (l.map Z5))] [.p (Xa (X1 (okR x k S) (Y1 x k S) WD (b,fd) l).1),.p (.bool (X1 (okR x k S) (Y1 x k S) WD (b,fd) l).2)]:=by
 have hf:=Xe hx;obtain ⟨Z,hZ⟩: ∃Z,Z=X1 (okR x k S) (Y1 x k S) WD (b,fd) l:=⟨_,rfl⟩;rw [<- hZ];have hnx':nextU x S l x.orders.length= []:=hnx;obtain ⟨bt,bs,bp,br⟩:=b;simp only at hb1 hb2 hb3;have hb1:=hb1.symm;subst hb1;subst hb2;have hnc:=ZgE x S l c hS hll ho hbl hf.plc (fun q hq=>by have:=(hf.val q hq);omega);rw [hnx'] at hnc;refine Zb [] Tryz.func96 rfl Zsc ?_;simp (disch:=omega) only [Tryz.f96,go_sem,seval];refine (hnc).use ?_;simp (disch:=omega) only [go_sem,seval];refine Ka (ZaN ⟨k,0,true,[],c,l⟩ hll) ?_;simp (disch:=omega) only [go_sem,seval]
 refine gF ?_ ?_<;>intro h1<;>simp (disch:=omega) only [Sh.out h1,go_sem,seval]
 ·have hok:okR x k S l=false:=by
   rw [okR,decide_eq_false h1];rfl
  have e:Z=(⟨k,S,bp,br⟩,fd):=by rw [hZ,X1,if_neg (fun h=>by rw [hok] at h;cases h.1)]
  exact ⟨.tup [.p (Xa Z.1),.p (.bool Z.2)],[],Weak.mk (by simp (disch:=omega) only [e,go_sem,seval]),rfl,rfl⟩
 ·have h1':(JH l).1=(S:Int):=Classical.not_not.1 h1
  have hcf:c=false:=by
   cases c with
   | false=>rfl
   | true =>
    exfalso;rw [hc rfl] at h1';have:(JH ([]:List Vis)).1=0:=rfl;omega
  subst hcf;refine (ZgX x (rtV k l) hx hll (by simp [rtV])).use ?_;simp (disch:=omega) only [go_sem,seval];refine cD ?_ ?_<;>intro h2<;>simp (disch:=omega) only [Sh.out h2,go_sem,seval]
  ·have hok:okR x k S l=false:=by
    rw [okR,decide_eq_false h2];simp
   have e:Z=(⟨k,S,bp,br⟩,fd):=by rw [hZ,X1,if_neg (fun h=>by rw [hok] at h;cases h.1)]
   exact ⟨.tup [.p (Xa Z.1),.p (.bool Z.2)],[],Weak.mk (by simp (disch:=omega) only [e,go_sem,seval]),rfl,rfl⟩
  ·have h2':Xj x (rtV k l)=0:=Classical.not_not.1 h2;refine Ka (ZcV x (rtV k l) hx ⟨hll,by simp [rtV]⟩) ?_;simp (disch:=omega) only [go_sem,seval];have hcol:Y1 x k S l=⟨k,S,(Zar x (rtV k l)).1,rtV k l⟩:=rfl;refine gF ?_ ?_<;>intro h3<;>simp (disch:=omega) only [Sh.out h3,go_sem,seval]
   ·have hok:okR x k S l=false:=by
     rw [okR,okV,decide_eq_false h3];simp
    have e:Z=(⟨k,S,bp,br⟩,fd):=by rw [hZ,X1,if_neg (fun h=>by rw [hok] at h;cases h.1)]
    exact ⟨.tup [.p (Xa Z.1),.p (.bool Z.2)],[],Weak.mk (by simp (disch:=omega) only [e,go_sem,seval]),rfl,rfl⟩
   ·have hok:okR x k S l=true:=by
     rw [okR,okV,decide_eq_true h1',decide_eq_true h2',decide_eq_true (Classical.not_not.1 h3)];rfl
    cases fd with
    | false =>
     have e:Z=(Y1 x k S l,true):=by rw [hZ,X1,if_pos ⟨hok,.inl rfl⟩]
     simp (disch:=omega) only [go_sem,seval];exact ⟨.tup [.p (Xa Z.1),.p (.bool Z.2)],[],Weak.mk (by simp (disch:=omega) only [e,hcol,rtV,List.map_nil,go_sem,seval]),rfl,rfl⟩
    | true =>
     simp (disch:=omega) only [go_sem,seval];refine (Ze1 (Y1 x k S l) ⟨k,S,bp,br⟩ hll hb3).use ?_;simp (disch:=omega) only [go_sem,seval]
     cases hbt:WD (Y1 x k S l) ⟨k,S,bp,br⟩ with
     | true =>
      have e:Z=(Y1 x k S l,true):=by rw [hZ,X1,if_pos ⟨hok,.inr hbt⟩]
      simp (disch:=omega) only [hbt,Bool.not_true,go_sem,seval];exact ⟨.tup [.p (Xa Z.1),.p (.bool Z.2)],[],Weak.mk (by simp (disch:=omega) only [e,hcol,rtV,List.map_nil,go_sem,seval]),rfl,rfl⟩
     | false =>
      have e:Z=(⟨k,S,bp,br⟩,true):=by rw [hZ,X1,if_neg (fun h=>h.2.elim (fun g=>by cases g) fun g=>by rw [hbt] at g;cases g)]
      simp (disch:=omega) only [hbt,Bool.not_false,go_sem,seval];exact ⟨.tup [.p (Xa Z.1),.p (.bool Z.2)],[],Weak.mk (by simp (disch:=omega) only [e,go_sem,seval]),rfl,rfl⟩
theorem ZuB (x:Inst) (hx:InstOk x) (k:Int) (S:Nat) (hS0:0<S) (hS:S<9223372036854775808) (ho:x.orders.length<=60) (htl:x.types.length<=1048576) (hbl:x.before.length<=1048576):ZjF x k S 0:=by
 intro l c b fd hg hl hc hb1 hb2 hb3;have:=Jj x S x.orders.length
 have hl':l.length=Zau x S x.orders.length:=by unfold Vn at hl;omega
 simp only [lvR,List.foldl_cons,List.foldl_nil];exact Zb6 x hx k S hS0 hS ho htl hbl l c b fd (Znt hg (by unfold Vn;omega)) (by omega) hc hb1 hb2 hb3
theorem ZdZ {x:Inst} {k:Int} {S N:Nat} : ∀(L:List (List Vis)) (b:Col×Bool),b.1.typ=k/\b.1.set=S/\b.1.route.visits.length<=N->(∀m∈L,m.length<=N)->(L.foldl (X1 (okR x k S) (Y1 x k S) WD) b).1.typ=k/\(L.foldl (X1 (okR x k S) (Y1 x k S) WD) b).1.set=S/\(L.foldl (X1 (okR x k S) (Y1 x k S) WD) b).1.route.visits.length<=N
 | [],b,h,_=>h
 | m::L,b,h,hL=>by
  rw [List.foldl_cons];refine ZdZ L _ ?_ fun q hq=>hL q (List.mem_cons_of_mem _ hq);unfold X1
  split
  ·exact ⟨rfl,rfl,hL m (by simp)⟩
  ·exact h
theorem ZiR {x:Inst} {S:Nat} : ∀(f:Nat) (l:List Vis),∀m∈lvR (nxV x S) f l,m.length<=l.length+f
 | 0,l,m,hm=>by
  simp only [lvR,List.mem_cons,List.not_mem_nil,or_false] at hm;subst hm;omega
 | f+1,l,m,hm=>by
  rw [lvR] at hm
  split at hm
  ·simp only [List.mem_cons,List.not_mem_nil,or_false] at hm;subst hm;omega
  ·obtain ⟨v,_,hm⟩:=List.mem_flatMap.1 hm;have:=ZiR f _ m hm;simp at this;omega
theorem Zth {g:FuncId} {args:List V} {a b:PV} {H:List AM.Obj} {K:V->List AM.Obj->Prop} (h:ACalls Tryz.prog g args [] fun x H'=>x= .tup [.p a,.p b]/\H'= []) (k:K (.tup [.p a,.p b]) H) (ha:ZU 0 args=true:=by rfl):ACalls Tryz.prog g args H K:=Ka h k ha
theorem Zqn (x:Inst) (hx:InstOk x) (k:Int) (S f:Nat) (hS0:0<S) (hS:S<9223372036854775808) (ho:x.orders.length<=60) (htl:x.types.length<=1048576) (hbl:x.before.length<=1048576) (ih:ZjF x k S f):ZjF x k S (f+1):=by
 intro l c b fd hg hl hc hb1 hb2 hb3;have hf:=Xe hx;have htu:=Jj x S x.orders.length
 have hll:l.length<=120:=by unfold Vn at hl;omega
 by_cases hnx:nxV x S l= []
 ·rw [show lvR (nxV x S) (f+1) l= [l] by rw [lvR,if_pos hnx]];simp only [List.foldl_cons,List.foldl_nil];exact Zb6 x hx k S hS0 hS ho htl hbl l c b fd hnx (by omega) hc hb1 hb2 hb3
 ·rw [show lvR (nxV x S) (f+1) l=(nxV x S l).flatMap fun v=>lvR (nxV x S) f (l++ [v]) by rw [lvR,if_neg hnx]];have hnc:=ZgE x S l c hS (by omega) ho hbl hf.plc (fun q hq=>by have:=(hf.val q hq);omega);have hnl:=WE x S l x.orders.length;have hgv: ∀v∈nxV x S l,Gr x S (l++ [v]):=fun v hv=> .snoc hg hv;have hnv:nextU x S l x.orders.length=nxV x S l:=rfl;rw [hnv] at hnc hnl;generalize nxV x S l=nx at hnx hnc hnl hgv ⊢;obtain ⟨B,hB⟩: ∃B:Nat->Col×Bool,B=fun q=>((nx.take q).flatMap fun v=>lvR (nxV x S) f (l++ [v])).foldl (X1 (okR x k S) (Y1 x k S) WD) (b,fd):=⟨_,rfl⟩
  have hB0:B 0=(b,fd):=by rw [hB];rfl
  have hBn:(nx.flatMap fun v=>lvR (nxV x S) f (l++ [v])).foldl (X1 (okR x k S) (Y1 x k S) WD) (b,fd)=B nx.length:=by rw [hB];simp
  have hBs: ∀q,q<nx.length->B (q+1)=(lvR (nxV x S) f (l++ [nth nx q])).foldl (X1 (okR x k S) (Y1 x k S) WD) (B q):=fun q hq=>by
   rw [hB];simp only;rw [List.take_succ_eq_append_getElem hq,List.flatMap_append,List.foldl_append,<- Ze hq];simp
  have hBi: ∀q,(B q).1.typ=k/\(B q).1.set=S/\(B q).1.route.visits.length<=1048576:=fun q=>by
   rw [hB];refine ZdZ _ _ ⟨hb1,hb2,hb3⟩ fun m hm=> ?_;obtain ⟨v,_,hm⟩:=List.mem_flatMap.1 hm;have:=ZiR _ _ m hm;unfold Vn at hl;simp at this;omega
  rw [hBn];clear hB hBn;have hne: ¬nx.length=0:=fun h=>hnx (List.eq_nil_of_length_eq_zero h);refine Zb [] Tryz.func96 rfl Zsc ?_;simp (disch:=omega) only [Tryz.f96,go_sem,seval];rw [<- hb2] at hnc;refine (hnc).use ?_;simp (disch:=omega) only [go_sem,seval];refine cD ?_ ?_<;>intro h1<;>simp (disch:=omega) only [Sh.out h1,go_sem,seval]
  ·omega
  ·refine ZE [17] [3,4,5,8,10] (fun q:Nat=> [(2,.p (.bool (B q).2)),(16,.p (.int .i64 q))]) (fun q=> [Zc x,.cells ((ZeS (B q).1).map .p),Zcw]) (fun q=>q<=nx.length) (fun q=>nx.length-q) 0 (by simp) (Weak.mk ?_) ?_
   ·simp (disch:=omega) only [Zc,Zcw,Wu,ZeS,hB0,List.map_cons,List.map_nil,go_sem,seval]
   ·intro q hq;simp (disch:=omega) only [Zc,Zcw,Wu,ZeS,List.map_cons,List.map_nil,go_sem,seval];refine cD ?_ ?_<;>intro h2<;>simp (disch:=omega) only [Sh.out h2,go_sem,seval]
    ·have hq2:q<nx.length:=by omega
     have hBq:=hBs q hq2;obtain ⟨i1,i2,i3⟩:=hBi q;have hmem:=Zv hq2;have ihc:=ih (l++ [nth nx q]) false (B q).1 (B q).2 (hgv _ hmem) (by simp;omega) (by simp) i1 i2 i3;rw [show ((B q).1,(B q).2)=B q from rfl,<- hBq,List.map_append] at ihc;refine Zo [2,3,4,5,8,10,16] (fun _:Unit=> [(17,.p (.list false ((l++ [nth nx q]).map Z5)))]) (fun _=> [Zc x,.cells ((ZeS (B q).1).map .p),Zcw,.dead]) (fun _=>True) ?_ ?_
     ·simp (disch:=omega) only [List.length_map,List.length_nil,Nat.zero_add,go_sem,seval];exact ⟨(),(Weak.fz (o:=3) (by rfl)).trans (Weak.mk (by simp (disch:=omega) only [Zc,Zcw,Wu,ZeS,List.map_cons,List.map_nil,List.map_append,List.length_append,List.length_cons,List.length_nil,List.length_map,Nat.zero_add,eq_self,if_true,List.set_cons_succ,List.set_cons_zero,go_sem,seval]))⟩
     ·intro _ _;refine Zd [] _ _ _ _ ?_;simp (disch:=omega) only [Zc,Zcw,Wu,ZeS,List.map_cons,List.map_nil,go_sem,seval];refine Zth ihc ?_;simp (disch:=omega) only [Zc,Zcw,Wu,ZeS,List.map_cons,List.map_nil,go_sem,seval];exact ⟨q+1,by omega,by omega,Weak.mk (by simp (disch:=omega) only [Zc,Zcw,Wu,ZeS,List.map_cons,List.map_nil,go_sem,seval])⟩
    ·have hql:q=nx.length:=by omega
     subst hql;exact ⟨.tup [.p (Xa (B nx.length).1),.p (.bool (B nx.length).2)],[],wk,rfl,rfl⟩
theorem Km (x:Inst) (hx:InstOk x) (k:Int) (S:Nat) (hS0:0<S) (hS:S<9223372036854775808) (ho:x.orders.length<=60) (htl:x.types.length<=1048576) (hbl:x.before.length<=1048576): ∀f,ZjF x k S f
 | 0=>ZuB x hx k S hS0 hS ho htl hbl
 | f+1=>Zqn x hx k S f hS0 hS ho htl hbl (Km x hx k S hS0 hS ho htl hbl f)
def ZbF (one:Nat->List Col):Nat->List Col
 | 0=> []
 | q+1=>ZbF one q++one (q+1)
def UT (one:Nat->Nat->List Col) (N:Nat):Nat->List Col
 | 0=> []
 | k+1=>UT one N k++ZbF (one k) N
theorem Qg {one:Nat->List Col} (h: ∀q,(one q).length<=1): ∀q,(ZbF one q).length<=q
 | 0=>Nat.le_refl _
 | q+1=>by
  have:=Qg h q;have:=h (q+1);rw [ZbF,List.length_append];omega
theorem Qc {one:Nat->Nat->List Col} {N:Nat} (h: ∀k q,(one k q).length<=1): ∀k,(UT one N k).length<=k*N
 | 0=>by simp [UT]
 | k+1=>by
  have h1:=Qc (N:=N) h k;have h2:=Qg (h k) N;rw [UT,List.length_append,Nat.add_mul];omega
noncomputable def Vm (x:Inst) (k S:Nat):List Col:=if (Q1 x (k:Int) S).2=0 then [(Q1 x (k:Int) S).1] else []
theorem VJ {x:Inst} (k S:Nat):(Vm x k S).length<=1:=by unfold Vm;split<;>simp
theorem Zdf (x:Inst) (hx:InstOk x) (h4:x.orders.length<=4) (h6:x.types.length<=6) (hbl:x.before.length<=1048576) (hal:x.apart.length<=1048576) :
  PT 19 [.p (Zt x)] [.p (.list false ((UT (Vm x) (2^x.orders.length-1) x.types.length).map Xa)),.p (.int .i64 0)]:=by
 have hp:pw x.orders.length=2^x.orders.length:=rfl;have hp1:1<=2^x.orders.length:=Nat.one_le_two_pow;have hp2:2^x.orders.length<=2^4:=Nat.pow_le_pow_right (by omega) h4;obtain ⟨N,hN⟩: ∃N,N=2^x.orders.length-1:=⟨_,rfl⟩;rw [<- hN];refine Zb [12] Tryz.func19 rfl ZCG ?_;simp (disch:=omega) only [Tryz.f19,go_sem,seval];refine ZE [12] [1,11] (fun k:Nat=> [(4,.sl 1 0 (UT (Vm x) N k).length (UT (Vm x) N k).length),(12,.p (.int .i64 k))]) (fun k=> [Zc x,.elems 7 ((UT (Vm x) N k).map Xa)]) (fun k=>k<=x.types.length) (fun k=>x.types.length-k) 0 (by simp) (Weak.ofNil 4 7 (by simp (disch:=omega) only [go_sem,seval]) (by simp) (Weak.mk ?_)) ?_
 ·simp (disch:=omega) only [Zc,UT,List.map_nil,List.length_nil,go_sem,seval]
 ·intro k hk;obtain ⟨R,hR⟩: ∃R,R=UT (Vm x) N k:=⟨_,rfl⟩;have hRl:=Qc (N:=N) (VJ (x:=x)) k
  have hRs:UT (Vm x) N (k+1)=R++ZbF (Vm x k) N:=by rw [hR];rfl
  rw [<- hR] at hRl ⊢;have hkN:k*N<=6*16:=Nat.mul_le_mul (by omega) (by omega);simp (disch:=omega) only [Zc,go_sem,seval];refine cD ?_ ?_<;>intro h1<;>simp (disch:=omega) only [Sh.out h1,go_sem,seval]
  ·obtain ⟨W,hW⟩: ∃W:Nat->List Col,W=fun q=>R++ZbF (Vm x k) (q-1):=⟨_,rfl⟩
   have hW0:W 1=R:=by rw [hW];simp [ZbF]
   have hWn:UT (Vm x) N (k+1)=W (N+1):=by rw [hRs,hW];rfl
   have hWl: ∀q,(W q).length<=R.length+q:=fun q=>by
    have:=Qg (VJ (x:=x) k) (q-1);rw [hW];simp only [List.length_append];omega
   have hWs: ∀q,1<=q->W (q+1)=W q++Vm x k q:=fun q h=>by
    obtain ⟨p,rfl⟩: ∃p,q=p+1:=⟨q-1,by omega⟩;rw [hW]
    show R++ZbF (Vm x k) (p+1)=(R++ZbF (Vm x k) p)++Vm x k (p+1)
    rw [ZbF,List.append_assoc]
   clear hW hRs;refine Zf [1,5,11,12] (fun q:Nat=> [(4,.sl 1 0 (W q).length (W q).length),(6,.p (.int .i64 q))]) (fun q=> [Zc x,.elems 7 ((W q).map Xa)]) (fun q=>1<=q/\q<=N+1) (fun q=>N+1-q) 1 (by omega) (Weak.mk ?_) ?_
   ·have e0:((1:Nat):Int)=1:=rfl;simp (disch:=omega) only [Zc,hW0,e0,go_sem,seval]
   ·rintro q ⟨hq0,hq⟩;have hql:=hWl q;have hqs:=hWs q hq0;simp (disch:=omega) only [Zc,go_sem,seval];refine cD ?_ ?_<;>intro h2<;>simp (disch:=omega) only [Sh.out h2,go_sem,seval]
    ·have hq2:q<2^x.orders.length:=by
      have h2':q / pw x.orders.length=0:=by omega
      rw [hp] at h2';exact (Nat.div_eq_zero_iff_lt (by omega)).1 h2'
     refine Ka (Zbc x hx k q (by omega) h4 (by omega) hbl hal (by omega) hq2) ?_;have hone:Vm x k q=if (Q1 x (k:Int) q).2=0 then [(Q1 x (k:Int) q).1] else []:=rfl;rw [hone] at hqs;generalize Q1 x (k:Int) q=Z at hqs ⊢;simp (disch:=omega) only [go_sem,seval];refine cD ?_ ?_<;>intro h3<;>simp (disch:=omega) only [Sh.out h3,go_sem,seval]
     ·rw [if_pos h3] at hqs;exact ⟨q+1,by omega,by omega,Weak.mk (by simp (disch:=omega) only [hqs,List.map_append,List.map_cons,List.map_nil,List.length_append,List.length_cons,List.length_nil,Nat.zero_add,Zc,go_sem,seval])⟩
     ·rw [if_neg h3,List.append_nil] at hqs;exact ⟨q+1,by omega,by omega,Weak.mk (by simp (disch:=omega) only [hqs,Zc,go_sem,seval])⟩
    ·have hqn:q=N+1:=by
      have h2': ¬q / pw x.orders.length=0:=by omega
      rw [hp] at h2';have: ¬q<2^x.orders.length:=fun h=>h2' (Nat.div_eq_of_lt h);omega
     subst hqn;exact ⟨k+1,by omega,by omega,Weak.mk (by simp (disch:=omega) only [hWn,Zc,go_sem,seval])⟩
  ·have hkt:k=x.types.length:=by omega
   subst hkt;refine Zm (Weak.fz (o:=1) (by rfl)) ?_;refine Zd [] _ _ _ _ ?_;simp (disch:=omega) only [List.map_cons,List.map_nil,List.set_cons_succ,List.set_cons_zero,Zc,List.length_map,eq_self,if_true,go_sem,seval];exact ⟨.tup [.p (.list false (R.map Xa)),.p (.int .i64 0)],[],wk,by rw [hR],rfl⟩
def Qb (k:Int) (S:Nat):Col:=⟨k,S,0,⟨0,0,true,[],true,[]⟩⟩
theorem ZkW {x:Inst} (hx:InstOk x) {k:Int} (hk:0<=k/\k<x.types.length) {S:Nat} (hS0:0<S) (hS1:S<2^x.orders.length):Q1 x k S=if (Zfl x k S (Qb k S,false)).2=true then ((Zfl x k S (Qb k S,false)).1,0) else (Wu,24):=by
 have hf:=Xe hx;have hdiv:S / pw x.orders.length=0:=Nat.div_eq_of_lt hS1
 have hn:x.orders.length<=60:=by have:=hf.len;omega
 obtain ⟨t1,_⟩:=Wh hx (show k.toNat<x.types.length by omega);have hi:=Zc5 hn hdiv hf.val;rw [Q1]
 by_cases ha:Alw x S
 ·have e:=ZsD hx (by omega) hdiv ha t1.1 (k:=k) (Wu,false);have f:=Ki (ok:=okR x k S) (col:=Y1 x k S) (better:=WD) (lvR (nxV x S) (Vn x S) []) Wu (Qb k S);have f1:(Zfl x k S (Wu,false)).2=(Zfl x k S (Qb k S,false)).2:=f.1;have f2:(Zfl x k S (Wu,false)).2=true->(Zfl x k S (Wu,false)).1=(Zfl x k S (Qb k S,false)).1:=f.2;rw [e]
  by_cases hq:(Zfl x k S (Qb k S,false)).2=true
  ·rw [if_pos ⟨hi.2 ha,by rw [f1];exact hq⟩,if_pos hq,f2 (by rw [f1];exact hq)]
  ·rw [if_neg (fun h=>hq (by rw [<- f1];exact h.2)),if_neg hq]
 ·have e:=Znz hx ha (k:=k) (Qb k S,false);rw [if_neg (fun h=>ha (hi.1 h.1)),e,if_neg (by simp)]
theorem Zkl (x:Inst) (hx:InstOk x) (k:Int) (S:Nat) (hk:0<=k/\k<x.types.length) (h4:x.orders.length<=4) (htl:x.types.length<=1048576) (hbl:x.before.length<=1048576) (hS0:0<S) (hS1:S<2^x.orders.length) :
  PT 57 [.p (Zt x),.p (.int .i64 k),.p (.int .i64 S)] [.p (Xa (Q1 x k S).1),.p (.int .i64 (Q1 x k S).2)]:=by
 have h16:S<16:=Nat.lt_of_lt_of_le hS1 (Nat.pow_le_pow_right (n:=2) (by omega) h4);have hdiv:S / pw x.orders.length=0:=Nat.div_eq_of_lt hS1;obtain ⟨Z,hZ⟩: ∃Z,Z=Q1 x k S:=⟨_,rfl⟩;rw [<- hZ];rw [ZkW hx hk hS0 hS1] at hZ;have cs:=Km x hx k S hS0 (by omega) (by omega) htl hbl (Vn x S) [] true (Qb k S) false .nil (by simp) (fun _=>rfl) rfl rfl (by simp [Qb]);rw [show (lvR (nxV x S) (Vn x S) []).foldl (X1 (okR x k S) (Y1 x k S) WD) (Qb k S,false)=Zfl x k S (Qb k S,false) from rfl] at cs;generalize Zfl x k S (Qb k S,false)=B at cs hZ
 refine Zb [] Tryz.func57 rfl ZCj ?_;simp (disch:=omega) only [Tryz.f57,go_sem,seval];refine gF ?_ ?_<;>intro h1<;>simp (disch:=omega) only [Sh.out h1,go_sem,seval]
 ·omega
 ·refine gF ?_ ?_<;>intro h2<;>simp (disch:=omega) only [Sh.out h2,go_sem,seval]
  ·omega
  ·refine (ZfD x S (by omega) hS0 (by omega)).use ?_;simp (disch:=omega) only [go_sem,seval];simp (disch:=omega) only [hdiv,eq_self,decide_true,Bool.not_true,go_sem,seval];refine Ka cs ?_;simp (disch:=omega) only [go_sem,seval];obtain ⟨C,f⟩:=B
   cases f with
   | false =>
    rw [if_neg (by simp)] at hZ;simp (disch:=omega) only [Bool.not_false,go_sem,seval];exact ⟨.tup [.p (Xa Z.1),.p (.int .i64 Z.2)],[],Weak.mk (by simp (disch:=omega) only [hZ,Wu,List.map_nil,go_sem,seval]),rfl,rfl⟩
   | true =>
    rw [if_pos rfl] at hZ;simp (disch:=omega) only [Bool.not_true,go_sem,seval];exact ⟨.tup [.p (Xa Z.1),.p (.int .i64 Z.2)],[],Weak.mk (by simp (disch:=omega) only [hZ,go_sem,seval]),rfl,rfl⟩
theorem ZoD (x:Inst) (hx:InstOk x) (h4:x.orders.length<=4) (h6:x.types.length<=6) (hbl:x.before.length<=1048576) :
  PT 20 [.p (Zt x)] [.p (.list false ((UT (Vm x) (2^x.orders.length-1) x.types.length).map Xa)),.p (.int .i64 0)]:=by
 have hp1:1<=2^x.orders.length:=Nat.one_le_two_pow;have hp2:2^x.orders.length<=2^4:=Nat.pow_le_pow_right (by omega) h4;obtain ⟨N,hN⟩: ∃N,N=2^x.orders.length-1:=⟨_,rfl⟩
 have hpN:pw x.orders.length=N+1:=by unfold pw;omega
 rw [<- hN];refine Zb [16] Tryz.func20 rfl ZA4 ?_;simp (disch:=omega) only [Tryz.f20,go_sem,seval];refine ZE [16] [1] (fun k:Nat=> [(4,.p (.int .i64 (pw k:Nat))),(5,.p (.int .i64 k))]) (fun _=> [Zc x]) (fun k=>k<=x.orders.length) (fun k=>x.orders.length-k) 0 (by simp) (Weak.mk ?_) ?_
 ·have e0:((pw 0:Nat):Int)=1:=rfl;simp (disch:=omega) only [Zc,e0,go_sem,seval]
 ·intro k hk;have hpk:pw k<=pw 4:=U5 (by omega);have hp4:pw 4=16:=rfl;have hps:=Jq k
  have e2:((pw (k+1):Nat):Int)=((pw k:Nat):Int)*2:=by omega
  simp (disch:=omega) only [Zc,go_sem,seval];refine gT ?_ ?_<;>intro h0<;>simp (disch:=omega) only [Sh.out h0,go_sem,seval]
  ·refine cD ?_ ?_<;>intro h1<;>simp (disch:=omega) only [Sh.out h1,go_sem,seval]
   ·exact ⟨k+1,by omega,by omega,Weak.mk (by simp (disch:=omega) only [e2,Zc,go_sem,seval])⟩
   ·omega
  ·have hkn:k=x.orders.length:=by omega
   subst hkn;rw [hpN];refine ZE [16] [1,4] (fun k:Nat=> [(6,.sl 1 0 (UT (Vm x) N k).length (UT (Vm x) N k).length),(7,.p (.int .i64 k))]) (fun k=> [Zc x,.elems 7 ((UT (Vm x) N k).map Xa)]) (fun k=>k<=x.types.length) (fun k=>x.types.length-k) 0 (by simp) (Weak.ofNil 6 7 (by simp (disch:=omega) only [go_sem,seval]) (by simp) (Weak.mk ?_)) ?_
   ·simp (disch:=omega) only [Zc,UT,List.map_nil,List.length_nil,go_sem,seval]
   ·intro k hk;obtain ⟨R,hR⟩: ∃R,R=UT (Vm x) N k:=⟨_,rfl⟩;have hRl:=Qc (N:=N) (VJ (x:=x)) k
    have hRs:UT (Vm x) N (k+1)=R++ZbF (Vm x k) N:=by rw [hR];rfl
    rw [<- hR] at hRl ⊢;have hkN:k*N<=6*16:=Nat.mul_le_mul (by omega) (by omega);simp (disch:=omega) only [Zc,go_sem,seval];refine cD ?_ ?_<;>intro h1<;>simp (disch:=omega) only [Sh.out h1,go_sem,seval]
    ·obtain ⟨W,hW⟩: ∃W:Nat->List Col,W=fun q=>R++ZbF (Vm x k) q:=⟨_,rfl⟩
     have hW0:W 0=R:=by rw [hW];simp [ZbF]
     have hWn:UT (Vm x) N (k+1)=W N:=by rw [hRs,hW]
     have hWl: ∀q,(W q).length<=R.length+q:=fun q=>by
      have:=Qg (VJ (x:=x) k) q;rw [hW];simp only [List.length_append];omega
     have hWs: ∀q,W (q+1)=W q++Vm x k (q+1):=fun q=>by rw [hW];simp only [ZbF,List.append_assoc]
     clear hW hRs;refine Zf [1,4,7] (fun q:Nat=> [(6,.sl 1 0 (W q).length (W q).length),(8,.p (.int .i64 ((q+1:Nat):Int)))]) (fun q=> [Zc x,.elems 7 ((W q).map Xa)]) (fun q=>q<=N) (fun q=>N-q) 0 (by simp) (Weak.mk ?_) ?_
     ·have e0:((0+1:Nat):Int)=1:=rfl;simp (disch:=omega) only [Zc,hW0,e0,go_sem,seval]
     ·intro q hq;have hql:=hWl q;have hqs:=hWs q
      have e1:((q+1+1:Nat):Int)=((q+1:Nat):Int)+1:=by omega
      simp (disch:=omega) only [Zc,go_sem,seval];refine cD ?_ ?_<;>intro h2<;>simp (disch:=omega) only [Sh.out h2,go_sem,seval]
      ·refine Ka (Zkl x hx k (q+1) (by omega) h4 (by omega) hbl (by omega) (by omega)) ?_;have hone:Vm x k (q+1)=if (Q1 x (k:Int) (q+1)).2=0 then [(Q1 x (k:Int) (q+1)).1] else []:=rfl;rw [hone] at hqs;generalize Q1 x (k:Int) (q+1)=Z at hqs ⊢;simp (disch:=omega) only [go_sem,seval];refine cD ?_ ?_<;>intro h3<;>simp (disch:=omega) only [Sh.out h3,go_sem,seval]
       ·rw [if_pos h3] at hqs;exact ⟨q+1,by omega,by omega,Weak.mk (by simp (disch:=omega) only [hqs,e1,List.map_append,List.map_cons,List.map_nil,List.length_append,List.length_cons,List.length_nil,Nat.zero_add,Zc,go_sem,seval])⟩
       ·rw [if_neg h3,List.append_nil] at hqs;exact ⟨q+1,by omega,by omega,Weak.mk (by simp (disch:=omega) only [hqs,e1,Zc,go_sem,seval])⟩
      ·have hqn:q=N:=by omega
       subst hqn;exact ⟨k+1,by omega,by omega,Weak.mk (by simp (disch:=omega) only [hWn,Zc,go_sem,seval])⟩
    ·have hkt:k=x.types.length:=by omega
     subst hkt;refine Zm (Weak.fz (o:=1) (by rfl)) ?_;refine Zd [] _ _ _ _ ?_;simp (disch:=omega) only [List.map_cons,List.map_nil,List.set_cons_succ,List.set_cons_zero,Zc,List.length_map,eq_self,if_true,go_sem,seval];exact ⟨.tup [.p (.list false (R.map Xa)),.p (.int .i64 0)],[],wk,by rw [hR],rfl⟩
def Zlb (a:List Int) (i:Nat):Nat->Bool
 | 0=>true
 | k+1=>Zlb a i k&&decide (nth a k≠nth a i)
theorem Zej {a:List Int} {i:Nat} : ∀k,Zlb a i k=true↔ ∀t,t<k->nth a t≠nth a i
 | 0=>by simp [Zlb]
 | k+1=>by
  rw [Zlb,Bool.and_eq_true,Zej k,decide_eq_true_eq];refine ⟨fun h t ht=> ?_,fun h=>⟨fun t ht=>h t (by omega),h k (by omega)⟩⟩;rcases Nat.lt_succ_iff_lt_or_eq.1 ht with h1 | rfl
  ·exact h.1 t h1
  ·exact h.2
def Zpf (a:List Int) (i:Nat):Bool:=Zlb a i i
theorem K2 {a:List Int} {i:Nat} :Zpf a i=true↔ ∀t,t<i->nth a t≠nth a i:=Zej i
def ZdA (l:List Col) (a:List Int) (T:Int) (i:Nat):Bool:=decide (0<=nth a i)&&(decide ((nth l (nth a i).toNat).typ=T)&&Zpf a i)
def usdI (l:List Col) (a:List Int) (T:Int):Nat->Nat
 | 0=>0
 | i+1=>usdI l a T i+(if ZdA l a T i=true then 1 else 0)
def QX (S:Nat) (a:List Int) (j:Int):List Int:=(List.range a.length).map fun i=>if S.testBit i=true then j else nth a i
theorem WP {S:Nat} {a:List Int} {j:Int} :(QX S a j).length=a.length:=by simp [QX]
theorem ZT {S:Nat} {a:List Int} {j:Int} {i:Nat} (h:i<a.length):nth (QX S a j) i=if S.testBit i=true then j else nth a i:=by
 rw [QX,Ze (by simpa using h)];simp
def okA (S:Nat) (a:List Int) (k:Nat):Bool:=(List.range a.length).all fun i=> !S.testBit i||(decide (nth a i<0)&&decide (k<=i))
theorem UD {S:Nat} {a:List Int} {k:Nat} :okA S a k=true↔ ∀i,i<a.length->S.testBit i=true->nth a i<0/\k<=i:=by
 simp only [okA,List.all_eq_true,List.mem_range,Bool.or_eq_true,Bool.not_eq_true',Bool.and_eq_true,decide_eq_true_eq]
 constructor
 ·intro h i hi hb;rcases h i hi with h | h
  ·rw [h] at hb;cases hb
  ·exact h
 ·intro h i hi
  cases hb:S.testBit i with
  | false=>exact .inl rfl
  | true=>exact .inr (h i hi hb)
def ZfT (x:Inst) (l:List Col) (a:List Int) (j k:Nat):Bool :=
 (nth l j).set.toNat.testBit k&&(decide ((usdI l a (nth l j).typ a.length:Int)<(nth x.types (nth l j).typ.toNat).count)&&okA (nth l j).set.toNat a k)
def skR (x:Inst) (k:Nat):Int:=(W5 (unsF x k).1).1
def lvs (x:Inst) (l:List Col):Nat->List Int->Int->List (List Int×Int)
 | 0,a,p=> [(a,p)]
 | d+1,a,p=>if (nth x.orders (x.orders.length-(d+1))).off=true\/0<=nth a (x.orders.length-(d+1)) then lvs x l d a p else
  ((List.range l.length).flatMap fun j=>if ZfT x l a j (x.orders.length-(d+1))=true then lvs x l d (QX (nth l j).set.toNat a j) (p+(nth l j).price) else []) ++
   (if 0<=(nth x.orders (x.orders.length-(d+1))).penalty then lvs x l d a (p+skR x (x.orders.length-(d+1))) else [])
theorem Zdh (n:Nat) (hn:n<=60):PC 59 [.p (.int .i64 n)] (.int .i64 (pw n:Nat)):=by
 refine Za Tryz.func59 rfl ZBd ?_;simp (disch:=omega) only [Tryz.f59,go_sem,seval];refine Zf [0] (fun k:Nat=> [(3,.p (.int .i64 (pw k:Nat))),(4,.p (.int .i64 k))]) (fun _=> []) (fun k=>k<=n) (fun k=>n-k) 0 (by simp) (Weak.mk ?_) ?_
 ·simp (disch:=omega) only [go_sem,seval];simp [pw]
 ·intro k hk;have h62:pw k<=pw 62:=U5 (by omega);have h63:k<n->pw (k+1)<=pw 62:=fun h=>U5 (by omega);have h64:=Jq k;have h65:=Zb5;simp (disch:=omega) only [go_sem,seval];refine cD ?_ ?_<;>intro h<;>simp (disch:=omega) only [Sh.out h,go_sem,seval]
  ·exact ⟨k+1,by omega,by omega,Weak.mk (by simp (disch:=omega) only [go_sem,seval];simp [h64])⟩
  ·have:k=n:=by omega
   rw [this]
theorem ZcQ (s:Nat) (i:Nat) (hs:s<9223372036854775808) (hi:i<=64):PC 156 [.p (.int .i64 s),.p (.int .i64 i)] (.bool (s.testBit i)):=by
 refine Za Tryz.func156 rfl ZtP ?_;simp (disch:=omega) only [Tryz.f156,go_sem,seval];refine Zf [1] (fun k:Nat=> [(0,.p (.int .i64 (hv s k:Nat))),(5,.p (.int .i64 k))]) (fun _=> []) (fun k=>k<=i) (fun k=>i-k) 0 (by simp) (Weak.mk ?_) ?_
 ·simp (disch:=omega) only [ZfX,go_sem,seval]
 ·intro k hk;have e1:=Zf8 s k;have h1:=ZrT s k;simp (disch:=omega) only [go_sem,seval];refine cD ?_ ?_<;>intro h<;>simp (disch:=omega) only [Sh.out h,go_sem,seval]
  ·exact ⟨k+1,by omega,by omega,Weak.mk (by simp (disch:=omega) only [go_sem,seval];simp only [e1,and_true,PV.int.injEq,true_and];omega)⟩
  ·have:k=i:=by omega
   subst this;rw [ZlO]
   have:((hv s k:Nat):Int)%2=1↔hv s k%2=1:=by omega
   simp only [this]
structure Chc where
 found:Bool
 places:List Int
 price:Int
 deriving Inhabited
def srO (x:Inst) (lc:Bool) (l:List Col) (b:Chc):AM.Obj:= .cells [.p (.list x.net.places_c (x.net.places.map eS)),.p (.list x.net.arcs_c (x.net.arcs.map Qh)),.p (.list x.types_c (x.types.map U7)),.p (.list x.orders_c (x.orders.map Ug)),.p (.list x.apart_c (x.apart.map eP)),.p (.list x.before_c (x.before.map eP)),.p (.list lc (l.map Xa)),.p (.bool b.found),.p (.list (!b.found) (b.places.map eI)),.p (.int .i64 b.price)]
theorem Zg0 {l:List Col} {a:List Int} {T:Int} : ∀m,usdI l a T m<=m
 | 0=>Nat.le_refl _
 | m+1=>by
  have:=Zg0 (l:=l) (a:=a) (T:=T) m;rw [usdI];split<;>omega
theorem ZkQ (x:Inst) (lc:Bool) (l:List Col) (b:Chc) (a:List Int) (T:Int) (ha:a.length<=1048576) (hr: ∀i,i<a.length-> -1<=nth a i/\nth a i<l.length) (hl:l.length<=1048576) :
  ACalls Tryz.prog 158 [.ptr 0 0,.p (.list false (a.map eI)),.p (.int .i64 T)] [srO x lc l b] fun y H'=>y= .p (.int .i64 (usdI l a T a.length:Nat))/\H'= [srO x lc l b]:=by
 refine Zb [] Tryz.func158 rfl Ztm ?_;simp (disch:=omega) only [Tryz.f158,srO,go_sem,seval];refine Zf [0,1,2] (fun k:Nat=> [(7,.p (.int .i64 (usdI l a T k:Nat))),(8,.p (.int .i64 k))]) (fun _=> [srO x lc l b]) (fun k=>k<=a.length) (fun k=>a.length-k) 0 (by simp) (Weak.mk ?_) ?_
 ·have h00:((usdI l a T 0:Nat):Int)=0:=rfl;simp (disch:=omega) only [h00,srO,go_sem,seval]
 ·intro k hk;have hu:=Zg0 (l:=l) (a:=a) (T:=T) k;simp (disch:=omega) only [srO,go_sem,seval];refine cD ?_ ?_<;>intro h1<;>simp (disch:=omega) only [Sh.out h1,go_sem,seval]
  ·have hk2:k<a.length:=by omega
   have hrk:=hr k hk2;refine Zg mixed (by kernel_rfl) (by kernel_rfl) ?_;simp (disch:=omega) only [go_sem,seval];refine gF ?_ ?_<;>intro h2<;>simp (disch:=omega) only [Sh.out h2,go_sem,seval]
   ·have e:usdI l a T (k+1)=usdI l a T k:=by rw [usdI,ZdA,decide_eq_false (by omega)];simp
    exact ⟨k+1,by omega,by omega,Weak.mk (by simp (disch:=omega) only [e,srO,go_sem,seval])⟩
   ·refine cD ?_ ?_<;>intro h3<;>simp (disch:=omega) only [Sh.out h3,go_sem,seval]
    ·have e:usdI l a T (k+1)=usdI l a T k:=by rw [usdI,ZdA,decide_eq_false h3];simp
     exact ⟨k+1,by omega,by omega,Weak.mk (by simp (disch:=omega) only [e,srO,go_sem,seval])⟩
    ·have h3':(nth l (nth a k).toNat).typ=T:=Classical.not_not.1 h3;refine Zf [0,1,2,7,8] (fun q:Nat=> [(9,.p (.bool (Zlb a k q))),(10,.p (.int .i64 q))]) (fun _=> [srO x lc l b]) (fun q=>q<=k) (fun q=>k-q) 0 (by simp) (Weak.mk ?_) ?_
     ·simp (disch:=omega) only [srO,Zlb,go_sem,seval]
     ·intro q hq;simp (disch:=omega) only [srO,go_sem,seval];refine cD ?_ ?_<;>intro h4<;>simp (disch:=omega) only [Sh.out h4,go_sem,seval]
      ·refine Zn 12 mixed (by kernel_rfl) (by kernel_rfl) ?_;simp (disch:=omega) only [go_sem,seval];refine gT ?_ ?_<;>intro h5<;>simp (disch:=omega) only [Sh.out h5,go_sem,seval]
       ·exact ⟨q+1,by omega,by omega,Weak.mk (by simp (disch:=omega) only [Zlb,h5,Bool.true_and,Bool.false_and,srO,go_sem,seval])⟩
       ·exact ⟨q+1,by omega,by omega,Weak.mk (by simp (disch:=omega) only [Zlb,h5,Bool.true_and,Bool.false_and,srO,go_sem,seval])⟩
      ·have hqk:q=k:=by omega
       subst hqk;refine cD ?_ ?_<;>intro h5<;>simp (disch:=omega) only [Sh.out h5,go_sem,seval]
       ·have e:usdI l a T (q+1)=usdI l a T q+1:=by rw [usdI,ZdA,decide_eq_true (by omega),decide_eq_true h3',Zpf,h5];simp
        exact ⟨q+1,by omega,by omega,Weak.mk (by simp (disch:=omega) only [e,srO,go_sem,seval])⟩
       ·have e:usdI l a T (q+1)=usdI l a T q:=by rw [usdI,ZdA,decide_eq_true (by omega),decide_eq_true h3',Zpf,h5];simp
        exact ⟨q+1,by omega,by omega,Weak.mk (by simp (disch:=omega) only [e,srO,go_sem,seval])⟩
  ·have hka:k=a.length:=by omega
   subst hka;exact we
def ZaD (S:Nat) (a:List Int) (j:Int) (k:Nat):List Int:=(List.range a.length).map fun t=>if t<k/\S.testBit t=true then j else nth a t
theorem YH {S:Nat} {a:List Int} {j:Int} {k:Nat} :(ZaD S a j k).length=a.length:=by simp [ZaD]
theorem VS {S:Nat} {a:List Int} {j:Int} {k i:Nat} (h:i<a.length):nth (ZaD S a j k) i=if i<k/\S.testBit i=true then j else nth a i:=by
 rw [ZaD,Ze (by simpa using h)];simp
theorem Zh6 {S:Nat} {a:List Int} {j:Int} :ZaD S a j 0=a :=
 YW YH fun i hi=>by rw [YH] at hi;rw [VS hi,if_neg (by omega)]
theorem ZjK {S:Nat} {a:List Int} {j:Int} :ZaD S a j a.length=QX S a j :=
 YW (by rw [YH,WP]) fun i hi=>by rw [YH] at hi;rw [VS hi,ZT hi];simp [hi]
theorem ZkZ {S:Nat} {a:List Int} {j:Int} {k:Nat} (hk:k<a.length) (hb:S.testBit k=true):(ZaD S a j k).set k j=ZaD S a j (k+1) :=
 YW (by simp [YH]) fun i hi=>by
  rw [List.length_set,YH] at hi;rw [Qj (by rw [YH];exact hk),VS hi,VS hi]
  by_cases e:k=i
  ·subst e;simp [hb]
  ·have:i<k+1↔i<k:=by omega
   simp only [this,e,if_false]
theorem ZnS {S:Nat} {a:List Int} {j:Int} {k:Nat} (hb:S.testBit k=false):ZaD S a j (k+1)=ZaD S a j k:=by
 refine List.map_congr_left fun i _=> ?_
 by_cases e:k=i
 ·subst e;simp [hb]
 ·have:i<k+1↔i<k:=by omega
  simp only [this]
theorem ZkK (x:Inst) (lc:Bool) (l:List Col) (b:Chc) (a:List Int) (j k:Nat) (ha:0<a.length/\a.length<=60) (hl:l.length<=1048576) (hj:j<l.length) (S:Nat) (hS:(nth l j).set=S) (hS2:S<9223372036854775808) :
  ACalls Tryz.prog 159 [.ptr 0 0,.p (.list false (a.map eI)),.p (.int .i64 j),.p (.int .i64 k)] [srO x lc l b] fun y H'=>y=(if okA S a k=true then .tup [.p (.list false ((QX S a j).map eI)),.p (.bool true)] else .tup [.p (.list true []),.p (.bool false)])/\H'= [srO x lc l b]:=by
 refine Zb [10] Tryz.func159 rfl Zrr ?_;simp (disch:=omega) only [Tryz.f159,srO,go_sem,seval];rw [if_pos ⟨by omega,by omega⟩];simp (disch:=omega) only [go_sem,seval];refine ZE [10] [0,2,3,10] (fun q:Nat=> [(11,.p (.int .i64 q))]) (fun q=> [srO x lc l b,.elems 1 ((ZaD S a j q).map eI)]) (fun q=>q<=a.length/\ ∀t,t<q->S.testBit t=true->nth a t<0/\k<=t) (fun q=>a.length-q) 0 ⟨by simp,fun t ht=>by omega⟩ (Weak.mk ?_) ?_
 ·simp (disch:=omega) only [Zh6,srO,go_sem,seval]
 ·rintro q ⟨hq,hok⟩;have hul:(ZaD S a j q).length=a.length:=YH;simp (disch:=omega) only [srO,go_sem,seval];rw [if_pos hul];simp (disch:=omega) only [go_sem,seval];refine cD ?_ ?_<;>intro h1<;>simp (disch:=omega) only [Sh.out h1,go_sem,seval]
  ·have hq2:q<a.length:=by omega
   rw [hS];refine (ZcQ S q hS2 (by omega)).use ?_;simp (disch:=omega) only [go_sem,seval];have hn:=VS (S:=S) (j:=(j:Int)) (k:=q) hq2;rw [if_neg (by omega)] at hn;refine cD ?_ ?_<;>intro h2<;>simp (disch:=omega) only [Sh.out h2,go_sem,seval]
   ·have hq3:q<(ZaD S a j q).length:=by omega
    simp (disch:=first | omega | (simp only [List.length_cons,List.length_nil,List.length_append,List.length_map,List.length_take,List.length_drop]<;>omega)) only [XJ hq3,hn,hq3,hq2,hul,eq_self,go_sem,seval];refine gF ?_ ?_<;>intro h3<;>simp (disch:=omega) only [Sh.out h3,go_sem,seval]
    ·have hno:okA S a k=false:=by
      cases ho:okA S a k with
      | false=>rfl
      | true=>have:=(UD.1 ho q hq2 h2).1;omega
     exact ⟨.tup [.p (.list true []),.p (.bool false)],_,Weak.mk (by simp (disch:=omega) only [srO,go_sem,seval]),by rw [hno];rfl,rfl⟩
    ·refine cD ?_ ?_<;>intro h4<;>simp (disch:=omega) only [Sh.out h4,go_sem,seval]
     ·have hno:okA S a k=false:=by
       cases ho:okA S a k with
       | false=>rfl
       | true=>have:=(UD.1 ho q hq2 h2).2;omega
      exact ⟨.tup [.p (.list true []),.p (.bool false)],_,Weak.mk (by simp (disch:=omega) only [srO,go_sem,seval]),by rw [hno];rfl,rfl⟩
     ·have ZJ:((ZaD S a j q).map eI).set q (.int .i64 j)=(ZaD S a j (q+1)).map eI:=by rw [<- ZkZ hq2 h2,List.map_set];rfl
      simp (disch:=first | omega | (simp only [List.length_cons,List.length_nil,List.length_append,List.length_map,List.length_take,List.length_drop]<;>omega)) only [ZJ,XJ hq3,hn,hq3,hq2,hul,eq_self,go_sem,seval]
      exact ⟨q+1,⟨by omega,fun t ht hb=>by
       rcases Nat.lt_succ_iff_lt_or_eq.1 ht with h5 | rfl
       ·exact hok t h5 hb
       ·exact ⟨by omega,by omega⟩⟩,by omega,Weak.mk (by simp (disch:=omega) only [ZJ,srO,go_sem,seval])⟩
   ·have hu:ZaD S a j (q+1)=ZaD S a j q:=ZnS h2
    exact ⟨q+1,⟨by omega,fun t ht hb=>by
     rcases Nat.lt_succ_iff_lt_or_eq.1 ht with h5 | rfl
     ·exact hok t h5 hb
     ·rw [h2] at hb;cases hb⟩,by omega,Weak.mk (by simp (disch:=omega) only [hu,srO,go_sem,seval])⟩
  ·have hqa:q=a.length:=by omega
   subst hqa;have hyes:okA S a k=true:=UD.2 hok;rw [hyes,if_pos rfl,ZjK];have hal:(QX S a j).length=a.length:=WP;refine Zm (Weak.fz (o:=1) (by rfl)) ?_;refine Zd [] _ _ _ _ ?_;simp (disch:=omega) only [List.map_cons,List.map_nil,List.set_cons_succ,List.set_cons_zero,srO,hal,eq_self,if_true,go_sem,seval];exact ⟨.tup [.p (.list false ((QX S a j).map eI)),.p (.bool true)],_,Weak.mk (by simp (disch:=omega) only [srO,go_sem,seval]),rfl,rfl⟩
def Zat (l:List Col):List Int->List Int->Option Bool
 | x::a,y::b=>if x=y then Zat l a b else if x<0\/y<0 then some (decide (0<=x)) else if (nth l x.toNat).typ≠(nth l y.toNat).typ then some (decide ((nth l x.toNat).typ<(nth l y.toNat).typ)) else
   if (nth l x.toNat).set≠(nth l y.toNat).set then some (decide ((nth l x.toNat).set<(nth l y.toNat).set)) else Zat l a b
 | _,_=>none
def ZfU : List Int->List Int->Bool
 | x::a,y::b=>if x=y then ZfU a b else decide (x<y)
 | _,_=>false
def ZfP (l:List Col) (a b:List Int):Bool:=match Zat l a b with
 | some r=>r
 | none=>ZfU a b
theorem ZdP {l:List Col} :Zat l [] []=none:=by simp [Zat]
theorem ZlC : ZfU [] []=false:=by simp [ZfU]
theorem ZkA {α:Type} [Inhabited α] {l:List α} {k:Nat} (h:k<l.length):l.drop k=nth l k::l.drop (k+1):=by
 rw [Ze h];exact List.drop_eq_getElem_cons h
theorem Wa {l:List Col} {a b:List Int} {r:Bool} (h:Zat l a b=some r):ZfP l a b=r:=by rw [ZfP,h]
theorem JB {l:List Col} {a b:List Int} (h:Zat l a b=none):ZfP l a b=ZfU a b:=by rw [ZfP,h]
theorem Zfn (x:Inst) (lc:Bool) (l:List Col) (b:Chc) (a d:List Int) (dc:Bool) (ha:a.length<=1048576) (hd:d.length=a.length) (hr: ∀i,i<a.length-> -1<=nth a i/\nth a i<l.length) (hq: ∀i,i<a.length-> -1<=nth d i/\nth d i<l.length) (hl:l.length<=1048576) :
  ACalls Tryz.prog 157 [.ptr 0 0,.p (.list false (a.map eI)),.p (.list dc (d.map eI))] [srO x lc l b] fun y H'=>y= .p (.bool (ZfP l a d))/\H'= [srO x lc l b]:=by
 obtain ⟨B,hB⟩: ∃B,B=ZfP l a d:=⟨_,rfl⟩;rw [<- hB];refine Zb [] Tryz.func157 rfl Zr9 ?_;simp (disch:=omega) only [Tryz.f157,srO,go_sem,seval];refine Zf [0,1,2] (fun k:Nat=> [(7,.p (.int .i64 k))]) (fun _=> [srO x lc l b]) (fun k=>k<=a.length/\Zat l (a.drop k) (d.drop k)=Zat l a d) (fun k=>a.length-k) 0 (by simp) (Weak.mk ?_) ?_
 ·simp (disch:=omega) only [srO,go_sem,seval]
 ·rintro k ⟨hk,hb⟩;simp (disch:=omega) only [srO,go_sem,seval];refine cD ?_ ?_<;>intro h1<;>simp (disch:=omega) only [Sh.out h1,go_sem,seval]
  ·have hk2:k<a.length:=by omega
   have hk3:k<d.length:=by omega
   have hrk:=hr k hk2;have hqk:=hq k hk2;rw [ZkA hk2,ZkA hk3,Zat] at hb;refine Zg mixed (by kernel_rfl) (by kernel_rfl) ?_;simp (disch:=omega) only [go_sem,seval];refine cD ?_ ?_<;>intro h2<;>simp (disch:=omega) only [Sh.out h2,go_sem,seval]
   ·rw [if_pos h2] at hb;exact ⟨k+1,⟨by omega,hb⟩,by omega,Weak.mk (by simp (disch:=omega) only [srO,go_sem,seval])⟩
   ·rw [if_neg h2] at hb;refine gF ?_ ?_<;>intro h3<;>simp (disch:=omega) only [Sh.out h3,go_sem,seval]
    ·rw [if_pos (.inl h3)] at hb;have e:=Wa hb.symm;exact ⟨.p (.bool B),_,Weak.mk (by simp (disch:=omega) only [hB,e,go_sem,seval]),rfl,rfl⟩
    ·refine cD ?_ ?_<;>intro h4<;>simp (disch:=omega) only [Sh.out h4,go_sem,seval]
     ·rw [if_pos (.inr h4)] at hb;have e:=Wa hb.symm;exact ⟨.p (.bool B),_,Weak.mk (by simp (disch:=omega) only [hB,e,go_sem,seval]),rfl,rfl⟩
     ·rw [if_neg (by omega)] at hb;refine ZP [10] 11 mixed (by kernel_rfl) (by kernel_rfl) (by kernel_rfl) (by simp) ?_;simp (disch:=omega) only [go_sem,seval];refine ZC 10 _ _ (by kernel_rfl) (by simp (disch:=omega) only [go_sem,seval];exact ⟨rfl,rfl⟩) (Xr ?_);simp (disch:=omega) only [go_sem,seval];refine ZP [10] 11 mixed (by kernel_rfl) (by kernel_rfl) (by kernel_rfl) (by simp) ?_;simp (disch:=omega) only [go_sem,seval];refine ZC 10 _ _ (by kernel_rfl) (by simp (disch:=omega) only [go_sem,seval];exact ⟨rfl,rfl⟩) (Xr ?_);simp (disch:=omega) only [go_sem,seval]
      refine cD ?_ ?_<;>intro h5<;>simp (disch:=omega) only [Sh.out h5,go_sem,seval]
      ·rw [if_pos h5] at hb;have e:=Wa hb.symm;exact ⟨.p (.bool B),_,Weak.mk (by simp (disch:=omega) only [hB,e,go_sem,seval]),rfl,rfl⟩
      ·rw [if_neg h5] at hb;refine cD ?_ ?_<;>intro h6<;>simp (disch:=omega) only [Sh.out h6,go_sem,seval]
       ·rw [if_pos h6] at hb;have e:=Wa hb.symm;exact ⟨.p (.bool B),_,Weak.mk (by simp (disch:=omega) only [hB,e,go_sem,seval]),rfl,rfl⟩
       ·rw [if_neg h6] at hb;exact ⟨k+1,⟨by omega,hb⟩,by omega,Weak.mk (by simp (disch:=omega) only [srO,go_sem,seval])⟩
  ·have hka:k=a.length:=by omega
   subst hka;rw [List.drop_length,<- hd,List.drop_length,ZdP] at hb;have e:=JB hb.symm;refine Zf [1,2] (fun k:Nat=> [(10,.p (.int .i64 k))]) (fun _=> [srO x lc l b]) (fun k=>k<=a.length/\ZfU (a.drop k) (d.drop k)=ZfU a d) (fun k=>a.length-k) 0 (by simp) (Weak.mk ?_) ?_
   ·simp (disch:=omega) only [srO,go_sem,seval]
   ·rintro k ⟨hk,hb⟩;simp (disch:=omega) only [srO,go_sem,seval];refine cD ?_ ?_<;>intro h2<;>simp (disch:=omega) only [Sh.out h2,go_sem,seval]
    ·have hk2:k<a.length:=by omega
     have hk3:k<d.length:=by omega
     rw [ZkA hk2,ZkA hk3,ZfU] at hb;refine Zg mixed (by kernel_rfl) (by kernel_rfl) ?_;simp (disch:=omega) only [go_sem,seval];refine cD ?_ ?_<;>intro h3<;>simp (disch:=omega) only [Sh.out h3,go_sem,seval]
     ·rw [if_neg h3] at hb;refine Zn 9 mixed (by kernel_rfl) (by kernel_rfl) ?_;simp (disch:=omega) only [go_sem,seval];exact ⟨.p (.bool B),_,Weak.mk (by simp (disch:=omega) only [hB,e,<- hb,go_sem,seval]),rfl,rfl⟩
     ·rw [if_pos (Classical.not_not.1 h3)] at hb;exact ⟨k+1,⟨by omega,hb⟩,by omega,Weak.mk (by simp (disch:=omega) only [srO,go_sem,seval])⟩
    ·have hka:k=a.length:=by omega
     subst hka;rw [List.drop_length,<- hd,List.drop_length,ZlC] at hb;exact ⟨.p (.bool B),_,Weak.mk (by simp (disch:=omega) only [hB,e,<- hb,go_sem,seval]),rfl,rfl⟩
def UN (l:List Col) (b:Chc) (q:List Int×Int):Chc:=if b.found=false\/q.2<b.price\/(q.2=b.price/\ZfP l q.1 b.places=true) then ⟨true,q.1,q.2⟩ else b
def RngA (x:Inst) (l:List Col) (a:List Int):Prop:=a.length=x.orders.length/\ ∀i,i<x.orders.length-> -1<=nth a i/\nth a i<l.length
def ChB (x:Inst) (l:List Col) (b:Chc):Prop:=b.found=true->RngA x l b.places
theorem K7 {x:Inst} {l:List Col} {a:List Int} {S j:Nat} (h:RngA x l a) (hj:j<l.length):RngA x l (QX S a j) :=
 ⟨by rw [WP];exact h.1,fun i hi=>by
  rw [ZT (by rw [h.1];exact hi)]
  split
  ·omega
  ·exact h.2 i hi⟩
theorem Uk {x:Inst} {l:List Col} : ∀(d:Nat) {a:List Int} {p:Int},RngA x l a-> ∀q∈lvs x l d a p,RngA x l q.1
 | 0,a,p,h,q,hq=>by
  simp only [lvs,List.mem_cons,List.not_mem_nil,or_false] at hq;subst hq;exact h
 | d+1,a,p,h,q,hq=>by
  rw [lvs] at hq
  split at hq
  ·exact Uk d h q hq
  ·rw [List.mem_append,List.mem_flatMap] at hq;rcases hq with ⟨j,hj,hq⟩ | hq
   ·split at hq
    ·exact Uk d (K7 h (List.mem_range.1 hj)) q hq
    ·simp at hq
   ·split at hq
    ·exact Uk d h q hq
    ·simp at hq
theorem ZcJ {x:Inst} {l:List Col} : ∀ {L:List (List Int×Int)} {b:Chc},ChB x l b->(∀q∈L,RngA x l q.1)->ChB x l (L.foldl (UN l) b)
 | [],_,h,_=>h
 | q::L,b,h,hL=>by
  rw [List.foldl_cons];refine ZcJ (L:=L) ?_ fun q hq=>hL q (List.mem_cons_of_mem _ hq);unfold UN
  split
  ·exact fun _=>hL q (by simp)
  ·exact h
structure ColsR (x:Inst) (l:List Col):Prop where
 n4:x.orders.length<=4
 t6:x.types.length<=6
 len:l.length<=1048576
 col: ∀c∈l,(0<=c.typ/\c.typ<x.types.length)/\(0<=c.price/\c.price<=18014398509481984)/\ ∃S:Nat,c.set=S/\S<16
 sk: ∀k,k<x.orders.length->(nth x.orders k).off=false->0<=(nth x.orders k).penalty->0<=skR x k/\skR x k<=18014398509481984
 us: ∀i,scoR 1152921504606846976 (unsF x i).1
theorem Zoq {P:Program} {f:FuncId} {az:List V} {z:PV} {O:AM.Obj} {L:List AM.Obj} {B:V->Prop} {t} (h:ACalls P f az [O] fun y H'=>y= .p z/\H'= [O]) (k:B (.p z)) (ha:ZU 1 az=true:=by rfl) (hf:refH 1 [O]=true:=by rfl) :
  exq (fun y=>ACalls P f az (O::L) (Zy (Zy (fun x H'=>x=y/\H'=O::L) ⟨⟩) ⟨⟩)) (Zy B t) :=
 ⟨.p z,h.useP (L:=L) rfl ⟨rfl,rfl⟩ ha hf,k⟩
theorem ZDg {P:Program} {f:FuncId} {az:List V} {v:V} {O:AM.Obj} {L:List AM.Obj} {K:V->List AM.Obj->Prop} (h:ACalls P f az [O] fun y H'=>y=v/\H'= [O]) (k:K v (O::L)) (ha:ZU 1 az=true:=by rfl) (hf:refH 1 [O]=true:=by rfl):ACalls P f az (O::L) K :=
 h.useP (L:=L) rfl k ha hf
def ZyZ (x:Inst) (lc:Bool) (l:List Col) (d:Nat):Prop:= ∀(a:List Int) (p:Int) (b:Chc),d<=x.orders.length->RngA x l a->0<=p->p+(d:Int)*18014398509481984<=90071992547409920->ChB x l b ->
  ACalls Tryz.prog 98 [.ptr 0 0,.p (.list false (a.map eI)),.p (.int .i64 ((x.orders.length-d:Nat):Int)),.p (.int .i64 p)] [srO x lc l b] fun y H'=>y= .tup []/\H'= [srO x lc l ((lvs x l d a p).foldl (UN l) b)]
theorem Zpb (x:Inst) (lc:Bool) (l:List Col) (hC:ColsR x l):ZyZ x lc l 0:=by
 intro a p b hd ha hp0 hp1 hb;have h4:=hC.n4;have hl:=hC.len;obtain ⟨R,hR⟩: ∃R,R=srO x lc l ((lvs x l 0 a p).foldl (UN l) b):=⟨_,rfl⟩;rw [<- hR,Nat.sub_zero];simp only [lvs,List.foldl_cons,List.foldl_nil] at hR;refine Zb [] Tryz.func98 rfl ZuC ?_;obtain ⟨f,bp,bc⟩:=b
 cases f with
 | false =>
  rw [UN,if_pos (.inl rfl)] at hR;simp (disch:=omega) only [Tryz.f98,srO,Bool.not_false,go_sem,seval];exact ⟨_,[R],Weak.mk (by simp (disch:=omega) only [hR,srO,Bool.not_true,go_sem,seval]),rfl,rfl⟩
 | true =>
  simp (disch:=omega) only [Tryz.f98,srO,Bool.not_true,go_sem,seval];refine gF ?_ ?_<;>intro h1<;>simp (disch:=omega) only [Sh.out h1,go_sem,seval]
  ·rw [UN,if_pos (.inr (.inl h1))] at hR;exact ⟨_,[R],Weak.mk (by simp (disch:=omega) only [hR,srO,Bool.not_true,go_sem,seval]),rfl,rfl⟩
  ·refine gT ?_ ?_<;>intro h2<;>simp (disch:=omega) only [Sh.out h2,go_sem,seval]
   ·have hq:=hb rfl;refine ACalls.mono (Zfn x lc l ⟨true,bp,bc⟩ a bp (!true) (by rw [ha.1];omega) (by rw [ha.1];exact hq.1) (fun i hi=>ha.2 i (by rw [<- ha.1];exact hi)) (fun i hi=>hq.2 i (by rw [<- ha.1];exact hi)) hl) ?_;rintro y H' ⟨rfl,rfl⟩;simp (disch:=omega) only [srO,Bool.not_true,go_sem,seval];refine cD ?_ ?_<;>intro h3<;>simp (disch:=omega) only [Sh.out h3,go_sem,seval]
    ·rw [UN,if_pos (.inr (.inr ⟨h2,h3⟩))] at hR;exact ⟨_,[R],Weak.mk (by simp (disch:=omega) only [hR,srO,Bool.not_true,go_sem,seval]),rfl,rfl⟩
    ·rw [UN,if_neg (fun h=>h.elim (fun h=>by cases h) fun h=>h.elim (fun h=>h1 h) fun h=>by rw [show ZfP l a bp=true from h.2] at h3;cases h3)] at hR;exact ⟨_,[R],Weak.mk (by simp (disch:=omega) only [hR,srO,Bool.not_true,go_sem,seval]),rfl,rfl⟩
   ·rw [UN,if_neg (fun h=>h.elim (fun h=>by cases h) fun h=>h.elim (fun h=>h1 h) fun h=>h2 h.1)] at hR;exact ⟨_,[R],Weak.mk (by simp (disch:=omega) only [hR,srO,Bool.not_true,go_sem,seval]),rfl,rfl⟩
theorem ZnR (x:Inst) (lc:Bool) (l:List Col) (hC:ColsR x l) (d:Nat) (ih:ZyZ x lc l d):ZyZ x lc l (d+1):=by
 intro a p b hd ha hp0 hp1 hb;have h4:=hC.n4;have h6:=hC.t6;have hl:=hC.len;obtain ⟨k,hk⟩: ∃k,k=x.orders.length-(d+1):=⟨_,rfl⟩
 have hk1:k<x.orders.length:=by omega
 have hkd:x.orders.length-d=k+1:=by omega
 obtain ⟨R,hR⟩: ∃R,R=srO x lc l ((lvs x l (d+1) a p).foldl (UN l) b):=⟨_,rfl⟩;rw [<- hR,<- hk];rw [lvs,<- hk] at hR;have hla:a.length=x.orders.length:=ha.1
 have hka:k<a.length:=by omega
 refine Zb [] Tryz.func98 rfl ZuC ?_;simp (disch:=omega) only [Tryz.f98,srO,go_sem,seval]
 have nxt: ∀(a':List Int) (p':Int) (b':Chc) (L:List AM.Obj) (K:V->List AM.Obj->Prop),RngA x l a'->0<=p'->p'+(d:Int)*18014398509481984<=90071992547409920->ChB x l b'->K (.tup []) (srO x lc l ((lvs x l d a' p').foldl (UN l) b')::L) ->
   ACalls Tryz.prog 98 [.ptr 0 0,.p (.list false (a'.map eI)),.p (.int .i64 ((k:Int)+1)),.p (.int .i64 p')] (srO x lc l b'::L) K:=fun a' p' b' L K h1 h2 h3 h5 hK=>by
  have hi:=ih a' p' b' (by omega) h1 h2 h3 h5;rw [hkd] at hi;refine ((hi.mono fun y H' hq=>(⟨hq,by rw [hq.2];rfl⟩:_/\H'.length= [srO x lc l b'].length)).front (by rfl) (by rfl) L).mono ?_;rintro y H' ⟨H1,⟨rfl,rfl⟩,rfl⟩;exact hK
 refine cD ?_ ?_<;>intro h0<;>simp (disch:=omega) only [Sh.out h0,go_sem,seval]
 ·omega
 ·cases ho:(nth x.orders k).off with
  | true =>
   rw [if_pos (.inl ho)] at hR;simp (disch:=omega) only [ho,go_sem,seval];refine nxt a p b [_] _ ha hp0 (by omega) hb ?_;simp (disch:=omega) only [srO,go_sem,seval];exact ⟨_,[R],Weak.mk (by simp (disch:=omega) only [hR,srO,go_sem,seval]),rfl,rfl⟩
  | false =>
   simp (disch:=omega) only [ho,go_sem,seval];refine cD ?_ ?_<;>intro h1<;>simp (disch:=omega) only [Sh.out h1,go_sem,seval]
   ·rw [if_pos (.inr h1)] at hR;refine nxt a p b [_] _ ha hp0 (by omega) hb ?_;simp (disch:=omega) only [srO,go_sem,seval];exact ⟨_,[R],Weak.mk (by simp (disch:=omega) only [hR,srO,go_sem,seval]),rfl,rfl⟩
   ·rw [if_neg (by rw [ho];simp only [Bool.false_eq_true,false_or];exact h1)] at hR;obtain ⟨G,hG⟩: ∃G:Nat->List (List Int×Int),G=fun j=>if ZfT x l a j k=true then lvs x l d (QX (nth l j).set.toNat a j) (p+(nth l j).price) else []:=⟨_,rfl⟩;rw [<- hG,List.foldl_append] at hR
    have hGr: ∀q:Nat,q<=l.length-> ∀e∈(List.range q).flatMap G,RngA x l e.1:=fun q hq e he=>by
     obtain ⟨j,hj,he⟩:=List.mem_flatMap.1 he;rw [hG] at he;simp only at he
     split at he
     ·exact Uk d (K7 ha (by have:=List.mem_range.1 hj;omega)) e he
     ·simp at he
    have hGs: ∀q:Nat,((List.range (q+1)).flatMap G).foldl (UN l) b=(G q).foldl (UN l) (((List.range q).flatMap G).foldl (UN l) b):=fun q=>by
     rw [List.range_succ,List.flatMap_append,List.foldl_append];simp
    obtain ⟨B,hB⟩: ∃B:Nat->Chc,B=fun q=>((List.range q).flatMap G).foldl (UN l) b:=⟨_,rfl⟩
    have hBs: ∀q,B (q+1)=(G q).foldl (UN l) (B q):=fun q=>by rw [hB];exact hGs q
    have hB0:B 0=b:=by rw [hB];simp
    have hBc: ∀q,q<=l.length->ChB x l (B q):=fun q hq=>by rw [hB];exact ZcJ hb (hGr q hq)
    have hRB:R=srO x lc l ((if 0<=(nth x.orders k).penalty then lvs x l d a (p+skR x k) else []).foldl (UN l) (B l.length)):=by rw [hR,hB]
    clear hR hGs hGr hB;refine Zf [0,1,2,3,9] (fun q:Nat=> [(10,.p (.int .i64 q))]) (fun q=> [srO x lc l (B q),XR (nth x.orders k)]) (fun q=>q<=l.length) (fun q=>l.length-q) 0 (by simp) (Weak.mk ?_) ?_
    ·simp (disch:=omega) only [srO,XR,hB0,ho,go_sem,seval]
    ·intro q hq;simp (disch:=omega) only [srO,XR,ho,go_sem,seval];refine cD ?_ ?_<;>intro h2<;>simp (disch:=omega) only [Sh.out h2,go_sem,seval]
     ·have hq2:q<l.length:=by omega
      obtain ⟨⟨t0,t1⟩,⟨c0,c1⟩,S,hS,hS2⟩:=hC.col _ (Zp hq2);refine Zg mixed (by kernel_rfl) (by kernel_rfl) ?_;simp (disch:=omega) only [go_sem,seval]
      have hST:(nth l q).set.toNat=S:=by rw [hS,Int.toNat_natCast]
      have hGq:ZfT x l a q k=(S.testBit k&&(decide ((usdI l a (nth l q).typ a.length:Int)<(nth x.types (nth l q).typ.toNat).count)&&okA S a k)):=by rw [ZfT,hST]
      have hnx: ∀c:Bool,ZfT x l a q k=c->B (q+1)=(if c=true then (lvs x l d (QX S a q) (p+(nth l q).price)).foldl (UN l) (B q) else B q):=fun c hc=>by
       rw [hBs,hG];simp only [hST,hc]
       cases c<;>simp
      rw [hS];refine Zj (ZcQ S k (by omega) (by omega)) ?_;simp (disch:=omega) only [go_sem,seval];refine gT ?_ ?_<;>intro h3<;>simp (disch:=omega) only [Sh.out h3,go_sem,seval]
      ·refine Zoq (ZkQ x lc l (B q) a (nth l q).typ (by omega) (fun i hi=>ha.2 i (by rw [<- hla];exact hi)) hl) ?_;simp (disch:=omega) only [go_sem,seval];refine cD ?_ ?_<;>intro h4<;>simp (disch:=omega) only [Sh.out h4,go_sem,seval]
       ·have hw:=ZkK x lc l (B q) a q k ⟨by omega,by omega⟩ hl hq2 S hS (by omega)
        cases hok:okA S a k with
        | true =>
         rw [hok,if_pos rfl] at hw;refine ZDg hw ?_;simp (disch:=omega) only [go_sem,seval];have e:=hnx true (by rw [hGq,h3,hok];simp [h4]);rw [if_pos rfl] at e;refine nxt (QX S a q) (p+(nth l q).price) (B q) [_] _ (K7 ha hq2) (by omega) (by omega) (hBc q (by omega)) ?_;simp (disch:=omega) only [srO,go_sem,seval];exact ⟨q+1,by omega,by omega,Weak.mk (by simp (disch:=omega) only [e,srO,XR,ho,go_sem,seval])⟩
        | false =>
         rw [hok,if_neg (by simp)] at hw;refine ZDg hw ?_;simp (disch:=omega) only [go_sem,seval];have e:=hnx false (by rw [hGq,hok];simp);rw [if_neg (by simp)] at e;exact ⟨q+1,by omega,by omega,Weak.mk (by simp (disch:=omega) only [e,srO,XR,ho,go_sem,seval])⟩
       ·have e:=hnx false (by rw [hGq];simp [h4]);rw [if_neg (by simp)] at e;exact ⟨q+1,by omega,by omega,Weak.mk (by simp (disch:=omega) only [e,srO,XR,ho,go_sem,seval])⟩
      ·have e:=hnx false (by rw [hGq,h3];simp);rw [if_neg (by simp)] at e;exact ⟨q+1,by omega,by omega,Weak.mk (by simp (disch:=omega) only [e,srO,XR,ho,go_sem,seval])⟩
     ·have hql:q=l.length:=by omega
      subst hql;refine cD ?_ ?_<;>intro h3<;>simp (disch:=omega) only [Sh.out h3,go_sem,seval]
      ·rw [if_pos h3] at hRB;have hsk:=hC.sk k hk1 ho h3;refine Ka (ZaE x k (by omega)) ?_;simp (disch:=omega) only [go_sem,seval];refine Ka (JZ (unsF x k).1 (hC.us k)) ?_;simp (disch:=omega) only [go_sem,seval];have e1:(W5 (unsF x k).1).1=skR x k:=rfl;rw [e1];simp (disch:=omega) only [go_sem,seval];refine nxt a (p+skR x k) (B l.length) [_,_] _ ha (by omega) (by omega) (hBc _ (Nat.le_refl _)) ?_;simp (disch:=omega) only [srO,go_sem,seval];exact ⟨_,[R],Weak.mk (by simp (disch:=omega) only [hRB,srO,go_sem,seval]),rfl,rfl⟩
      ·rw [if_neg h3] at hRB;exact ⟨_,[R],Weak.mk (by simp (disch:=omega) only [hRB,srO,List.foldl_nil,go_sem,seval]),rfl,rfl⟩
theorem ZgU (x:Inst) (lc:Bool) (l:List Col) (hC:ColsR x l): ∀d,ZyZ x lc l d
 | 0=>Zpb x lc l hC
 | d+1=>ZnR x lc l hC d (ZgU x lc l hC d)
end Go.Proofs.YthmplgaldjpgiaaGreatDoor.K
