/- Declarations that the closing texts need, part 15: joined by tools/slim.py. -/
import Derived.Test.YtmbelkfkhclnkaaGreatDoorZS14
import Derived.Shelf.Strings.Search1
set_option linter.unusedVariables false
set_option linter.unusedSimpArgs false
namespace Go.Proofs.YtmbelkfkhclnkaaGreatDoor.K
open Go Go.AM Go.Proofs Go.Shelf
set_option maxRecDepth 8000
set_option maxHeartbeats 8000000
theorem Ki {F H ι w s v} (h:RV F H ι w (.p (.str s)) v):v= .string ⟨s.toArray⟩:=by cases h with | p _ _ h=>exact h.str_inv
theorem Eh {F H ι w k n v} (h:RV F H ι w (.p (.int k n)) v):v= .int k n:=by cases h with | p _ _ h=>exact h.int_inv
theorem Di {P:Program} {g:FuncId} (hg:Zh P g) {a b y:PV} {u v r:Value} (ha: ∀ {F H ι w x},RV F H ι w (.p a) x->x=u) (hb: ∀ {F H ι w x},RV F H ι w (.p b) x->x=v) (hy: ∀ {X w},RP X w y r)
  (h: ∀w,Calls P g #[u,v] w fun e w'=>e= .returned r/\w'=w) (H:List AM.Obj):ACalls P g [.p a,.p b] H fun x H'=>x= .p y/\H'=H:=by
 refine ⟨hg,fun F ι w vs hr hv=> ?_⟩;obtain ⟨h1,h2⟩:=hv;have e0:=ha (h2 0 _ rfl);have e1:=hb (h2 1 _ rfl)
 have hvs:vs= #[u,v]:=by
  apply Array.ext
  ·simpa using h1
  ·intro i h3 h4
   have:i=0\/i=1:=by simp at h4;omega
   rcases this with rfl | rfl
   ·have:vs.getD 0 undef=vs[0]:=by simp [Array.getD,h3]
    rw [<- this,e0];rfl
   ·have:vs.getD 1 undef=vs[1]:=by simp [Array.getD,h3]
    rw [<- this,e1];rfl
 rw [hvs];refine (h w).mono ?_;rintro e w' ⟨rfl,rfl⟩;exact ⟨_,_,ι,_,rfl,⟨rfl,rfl⟩,Good.refl hr,.p _ _ hy⟩
def renIB : Ren:=⟨fun | 217=>163 | 266=>200 | x=>x,fun | 3=>3 | 5=>5 | 9=>9 | x=>x,fun x=>x⟩
theorem nD : Lays.n217 Tryz.prog renIB:= {
 mixed:=mixed,
 f217:=Tryz.func163.trans (congrArg some Ze),
 f266:=Tryz.func200.trans (congrArg some Ze),
 t3:=Tryz.underlying3,a3:=Tryz.isAgg3,z3:=Tryz.sizeOf3,v3:=Tryz.zeroValue3,
 t5:=Tryz.underlying5,a5:=Tryz.isAgg5,z5:=Tryz.sizeOf5,v5:=Tryz.zeroValue5,
 t9:=Tryz.underlying9,a9:=Tryz.isAgg9,z9:=Tryz.sizeOf9,v9:=Tryz.zeroValue9 }
theorem QX (s:List UInt8) (c:Int):PC 163 [.p (.str s),.p (.int .u8 c)] (.int .i64 (Lib.indexByte s c.toNat.toUInt8)) :=
 Di Su Ki Eh (.int _ _) (fun w=>Any.stringslite_IndexByte nD ⟨s.toArray⟩ c w) []
theorem W1 (s:List UInt8) (c:Int):PC 126 [.p (.str s),.p (.int .u8 c)] (.int .i64 (Lib.indexByte s c.toNat.toUInt8)):=by
 refine Zc Tryz.func126 rfl R5 ?_;simp (disch:=omega) only [Tryz.f126,go_sem,seval];refine (QX s c).use ?_;simp (disch:=omega) only [go_sem,seval]
end Go.Proofs.YtmbelkfkhclnkaaGreatDoor.K
namespace Go.Proofs.YtmbelkfkhclnkaaGreatDoor.K
open Go Go.AM Go.Proofs
set_option maxRecDepth 8000
set_option maxHeartbeats 8000000
def Ua (s:List UInt8):PV:= .str s
@[go_sem] theorem Jl (s:List UInt8):Ua s= .str s:=Eq.trans rfl rfl
def Vc (b:UInt8):Bool:=decide (32<b.toNat)&&decide (b.toNat<=126)&&decide (b.toNat≠34)
def Xa (s:List UInt8):Bool:=decide (s≠ [])&&s.all Vc
def Uh (s:List UInt8):Nat:=if Lib.indexByte s 32<0 then s.length else (Lib.indexByte s 32).toNat
theorem Kx (b:UInt8):b.toNat<256:=b.toNat_lt
theorem Ex (s:List UInt8) (hs:s.length<=1048576):PC 127 [.p (.str s)] (.bool (Xa s)):=by
 refine Zc Tryz.func127 rfl R6 ?_;simp (disch:=omega) only [Tryz.f127,go_sem,seval];refine Zj [0,5] (fun k:Nat=> [(6,.p (.int .i64 k))]) (fun _=> []) (fun k=>k<=s.length/\ ∀j,j<k->Vc (nth s j)=true) (fun k=>s.length-k) 0 Zb (Weak.mk ?_) ?_
 ·simp (disch:=omega) only [go_sem,seval]
 ·rintro k ⟨hk,hno⟩;simp (disch:=omega) only [go_sem,seval];refine cD ?_ ?_<;>intro h1<;>simp (disch:=omega) only [Sh.out h1,go_sem,seval]
  ·have hk2:k<s.length:=Za
   have bad:Vc (nth s k)=false->Xa s=false:=fun h=>by
    rw [Xa,Bool.and_eq_false_iff]
    right
    rw [List.all_eq_false];exact ⟨_,Zu hk2,by rw [h];simp⟩
   refine gF ?_ ?_<;>intro h2<;>simp (disch:=omega) only [Sh.out h2,go_sem,seval]
   ·rw [bad (by unfold Vc;rw [decide_eq_false (show ¬ 32<(nth s k).toNat by omega)];rfl)]
   ·refine gF ?_ ?_<;>intro h3<;>simp (disch:=omega) only [Sh.out h3,go_sem,seval]
    ·rw [bad (by unfold Vc;rw [decide_eq_false (show ¬(nth s k).toNat<=126 by omega)];simp)]
    ·refine cD ?_ ?_<;>intro h4<;>simp (disch:=omega) only [Sh.out h4,go_sem,seval]
     ·rw [bad (by unfold Vc;rw [decide_eq_false (show ¬(nth s k).toNat≠34 by omega)];simp)]
     ·exact ⟨k+1,⟨Za,Zl.2 ⟨hno,by unfold Vc;simp;omega⟩⟩,Za,wk⟩
  ·have Z7:s.all Vc=true:=by
    rw [List.all_eq_true];intro b hb;obtain ⟨j,hj,rfl⟩:=List.mem_iff_getElem.1 hb;rw [<- Zi hj];exact hno j Za
   rw [Xa,Z7,Bool.and_true]
theorem QC (c:UInt8): ∀s:List UInt8,-1<=Lib.indexByte s c/\Lib.indexByte s c<s.length
 | []=>by simp [Lib.indexByte]
 | b::l=>by
  have ih:=QC c l;simp only [Lib.indexByte,List.length_cons]
  split
  ·omega
  ·split<;>omega
theorem A1 (s:List UInt8):Uh s<=s.length:=by
 have:=QC 32 s;unfold Uh
 split<;>omega
def Wk (s:List UInt8):Nat:=if Xa (s.take (Uh s))=true then Uh s else 0
theorem TL (s:List UInt8) (hs:s.length<=1048576) (hq: ¬(0<s.length/\(nth s 0).toNat=34)):PC 92 [.p (.str s)] (.int .i64 (Wk s:Nat)):=by
 refine Zc Tryz.func92 rfl O0 ?_;simp (disch:=omega) only [Tryz.f92,go_sem,seval];have hb:=QC 32 s;have hl:=A1 s;have ci:=W1 s 32;rw [show (32:Int).toNat.toUInt8=32 from rfl] at ci
 have hl1:s= []\/0<s.length:=by cases s<;>simp
 rcases hl1 with he | hl1
 ·subst he;refine gT ?_ ?_<;>intro h1<;>simp (disch:=omega) only [Sh.out h1,go_sem,seval]
  ·simp at h1
  ·rw [show Lib.indexByte [] 32= -1 from rfl] at ci;refine (ci).use ?_;simp (disch:=omega) only [go_sem,seval];refine (Ex [] Zb).use ?_;simp (disch:=omega) only [go_sem,seval];have e:Wk []=0:=rfl;have e2:Xa []=false:=rfl;rw [e];simp (disch:=omega) only [e2,go_sem,seval]
 ·refine gT ?_ ?_<;>intro h1<;>simp (disch:=omega) only [Sh.out h1,go_sem,seval]
  ·refine cD ?_ ?_<;>intro h2<;>simp (disch:=omega) only [Sh.out h2,go_sem,seval]
   ·exact absurd ⟨hl1,Za⟩ hq
   ·refine (ci).use ?_;simp (disch:=omega) only [go_sem,seval];refine cD ?_ ?_<;>intro h3<;>simp (disch:=omega) only [Sh.out h3,go_sem,seval]
    ·have e:s.take (Uh s)=s:=by rw [show Uh s=s.length by rw [Uh,if_pos h3],List.take_length]
     have en:Uh s=s.length:=by rw [Uh,if_pos h3]
     rw [List.take_length];refine (Ex s hs).use ?_;simp (disch:=omega) only [go_sem,seval]
     cases hw:Xa s with
     | true =>
      have ep:Wk s=s.length:=by rw [Wk,e,if_pos hw,en]
      rw [ep];simp (disch:=omega) only [hw,go_sem,seval]
     | false =>
      have ep:Wk s=0:=by rw [Wk,e,if_neg (by rw [hw];simp)]
      rw [ep];simp (disch:=omega) only [hw,go_sem,seval]
    ·have e2:(Uh s:Int)=Lib.indexByte s 32:=by rw [Uh,if_neg h3];omega
     rw [<- e2];simp (disch:=omega) only [go_sem,seval]
     have ep: ∀b,Xa (s.take (Uh s))=b->Wk s=if b=true then Uh s else 0:=fun b hb=>by rw [Wk,hb]
     generalize Uh s=n at *
     refine (Ex (s.take n) (by rw [List.length_take];omega)).use ?_;simp (disch:=omega) only [go_sem,seval]
     cases hw:Xa (s.take n) with
     | true =>
      rw [ep true hw];simp (disch:=omega) only [hw,go_sem,seval]
     | false =>
      rw [ep false hw];simp (disch:=omega) only [hw,Bool.false_eq_true,go_sem,seval]
  ·exact absurd (List.length_pos_iff.1 hl1) (by simpa using h1)
def W5 (o:Option (List (List UInt8))):V:=match o with
 | some l=> .tup [.p (.list false (l.map Ua)),.p (.int .i64 0)]
 | none=> .tup [.p (.list true []),.p (.int .i64 3)]
theorem Lr (s:List UInt8):Wk s<=s.length:=by
 have:=A1 s;unfold Wk
 split<;>omega
theorem On (c:UInt8):((c.toNat:Nat):Int).toNat.toUInt8=c:=Zb
theorem IP (s:List UInt8) (c:UInt8) (hs:s.length<=1048576):PC 119 [.p (.str s),.p (.str [c])] (.int .i64 (Lib.indexByte s c)):=by
 have ci:=QX s ((c.toNat:Nat):Int);rw [On] at ci;have hc1: [c].length=1:=rfl;have hc2:nth [c] 0=c:=rfl;refine Zc Tryz.func119 rfl RZ ?_;simp (disch:=omega) only [Tryz.f119,go_sem,seval];refine cD ?_ ?_<;>intro h1<;>simp (disch:=omega) only [Sh.out h1,go_sem,seval]
 ·have e:Lib.indexByte s c=0:=by rw [<- h1];simp [Lib.indexByte]
  rw [e]
 ·simp (disch:=omega) only [hc2,Int.toNat_zero,go_sem,seval];refine (ci).use ?_;simp (disch:=omega) only [go_sem,seval]
def Wd (s:List UInt8) (c:UInt8):List UInt8×List UInt8×Bool:=if 0<=Lib.indexByte s c then (s.take (Lib.indexByte s c).toNat,s.drop ((Lib.indexByte s c).toNat+1),true) else (s,[],false)
theorem Rr (s:List UInt8) (c:UInt8) (hs:s.length<=1048576):PT 77 [.p (.str s),.p (.str [c])] [.p (.str (Wd s c).1),.p (.str (Wd s c).2.1),.p (.bool (Wd s c).2.2)]:=by
 refine Zg [] Tryz.func77 rfl mK ?_;simp (disch:=omega) only [Tryz.f77,go_sem,seval];refine (IP s c hs).use ?_;simp (disch:=omega) only [go_sem,seval];have hb:=QC c s;unfold Wd
 generalize Lib.indexByte s c=n at *
 refine cD ?_ ?_<;>intro h1<;>simp (disch:=omega) only [Sh.out h1,go_sem,seval]
 ·rw [if_pos h1];refine Xs ?_;simp (disch:=omega) only [go_sem,seval];rw [List.take_length,show (n+1).toNat=n.toNat+1 by omega];exact we
 ·exact we
theorem jX (s:List UInt8) (c:UInt8) (hs:s.length<=1048576):PT 34 [.p (.str s),.p (.str [c])] [.p (.str (Wd s c).1),.p (.str (Wd s c).2.1),.p (.bool (Wd s c).2.2)]:=by
 refine Zg [] Tryz.func34 rfl lE ?_;simp (disch:=omega) only [Tryz.f34,go_sem,seval];refine Bp (Rr s c hs) ?_;simp (disch:=omega) only [go_sem,seval];exact we
def ZM (s:List UInt8):List UInt8:=if s.take 1= [45] then s.drop 1 else s
theorem RE (s:List UInt8) (hs:s.length<=1048576):PC 207 [.p (.str s),.p (.str [45])] (.bool (decide (s.take 1= [45]))):=by
 refine Zc Tryz.func207 rfl SU ?_;simp (disch:=omega) only [Tryz.f207,go_sem,seval];refine gT ?_ ?_<;>intro h1<;>simp (disch:=omega) only [Sh.out h1,go_sem,seval];have hs0:s= []:=List.eq_nil_of_length_eq_zero Za;subst hs0;simp
theorem Oi (s:List UInt8) (hs:s.length<=1048576):PC 128 [.p (.str s),.p (.str [45])] (.str (ZM s)):=by
 have c1:PC 170 [.p (.str s),.p (.str [45])] (.str (ZM s)):=by
  refine Zc Tryz.func170 rfl Sx ?_;simp (disch:=omega) only [Tryz.f170,go_sem,seval];refine (RE s hs).use ?_;simp (disch:=omega) only [go_sem,seval]
  have hl:s.take 1= [45]->1<=s.length:=fun h=>by cases s with | nil=>simp at h | cons=>simp
  refine cD ?_ ?_<;>intro h1<;>simp (disch:=omega) only [Sh.out h1,go_sem,seval]
  ·have hl:=hl h1;rw [ZM,if_pos h1];simp (disch:=omega) only [go_sem,seval];rw [List.take_length]
  ·rw [ZM,if_neg h1]
 refine Zc Tryz.func128 rfl R7 ?_;simp (disch:=omega) only [Tryz.f128,go_sem,seval];refine (c1).use ?_;simp (disch:=omega) only [go_sem,seval]
theorem C3 (c:Int) (hc:0<=c/\c<256):PC 129 [.p (.int .u8 c)] (.bool (decide (48<=c)&&decide (c<=57))):=by
 refine Zc Tryz.func129 rfl R8 ?_;simp (disch:=omega) only [Tryz.f129,go_sem,seval]
 by_cases h1:48<=c
 ·simp (disch:=omega) only [h1,go_sem,seval]
 ·simp (disch:=omega) only [h1,Bool.false_eq_true,go_sem,seval]
end Go.Proofs.YtmbelkfkhclnkaaGreatDoor.K
