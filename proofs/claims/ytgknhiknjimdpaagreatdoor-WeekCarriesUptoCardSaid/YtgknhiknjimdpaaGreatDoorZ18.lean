/- Declarations that the closing texts need, part 18: joined by tools/slim.py. -/
import Derived.Test.YtgknhiknjimdpaaGreatDoorZ17
import Derived.Test.YtgknhiknjimdpaaGreatDoorRows
namespace Go.Proofs.YtgknhiknjimdpaaGreatDoor.K
open Go Go.AM Go.Proofs
theorem Zc1 : Tryz.prog.cellsOf 3=1:=by kernel_rfl
theorem Znz : Tryz.prog.cellsOf 4=1:=by kernel_rfl
theorem Zod : Tryz.prog.cellsOf 9=1:=by kernel_rfl
theorem ZkP : Tryz.prog.cellsOf 22=1:=by kernel_rfl
theorem Zlx : Tryz.prog.cellsOf 23=1:=by kernel_rfl
theorem ZhP : Tryz.prog.cellsOf 25=2:=by kernel_rfl
theorem Zk4 : pcs Tryz.prog 25=some [(0,22),(1,23)]:=by kernel_rfl
theorem Zk2 : Tryz.prog.cellsOf 26=1:=by kernel_rfl
theorem ZmT : Tryz.prog.cellsOf 27=1:=by kernel_rfl
theorem Zk0 : Tryz.prog.cellsOf 28=1:=by kernel_rfl
theorem Zlw : Tryz.prog.cellsOf 30=6:=by kernel_rfl
theorem ZhU : pcs Tryz.prog 30=some [(0,25),(2,26),(3,27),(4,28),(5,28)]:=by kernel_rfl
theorem ZkR : Tryz.prog.cellsOf 31=1:=by kernel_rfl
theorem Zd0 : Tryz.prog.cellsOf 32=1:=by kernel_rfl
theorem Zmn : Tryz.prog.cellsOf 34=2:=by kernel_rfl
theorem Zhd : pcs Tryz.prog 34=some [(0,31),(1,32)]:=by kernel_rfl
theorem Zl7 : Tryz.prog.cellsOf 49=1:=by kernel_rfl
theorem Zm5 : Tryz.prog.cellsOf 50=1:=by kernel_rfl
theorem Zmh : Tryz.prog.cellsOf 52=4:=by kernel_rfl
theorem Zg6 : pcs Tryz.prog 52=some [(0,3),(1,3),(2,49),(3,50)]:=by kernel_rfl
theorem ZmU : Tryz.prog.cellsOf 54=14:=by kernel_rfl
theorem ZhG : pcs Tryz.prog 54=some [(0,9),(1,3),(2,3),(3,3),(4,32),(5,3),(6,3),(7,3),(8,3),(9,3),(10,3),(11,3),(12,3),(13,3)]:=by kernel_rfl
theorem Zib : Tryz.prog.cellsOf 56=4:=by kernel_rfl
theorem Zk1 : pcs Tryz.prog 56=some [(0,3),(1,3),(2,3),(3,3)]:=by kernel_rfl
theorem ZmJ : Tryz.prog.cellsOf 58=16:=by kernel_rfl
theorem Zh2 : pcs Tryz.prog 58=some [(0,9),(1,32),(2,56),(6,56),(10,3),(11,3),(12,3),(13,3),(14,3),(15,4)]:=by kernel_rfl
theorem Zmm : Tryz.prog.cellsOf 86=2:=by kernel_rfl
theorem Zg3 : pcs Tryz.prog 86=some [(0,3),(1,4)]:=by kernel_rfl
theorem ZmH : Tryz.prog.cellsOf 89=1:=by kernel_rfl
theorem ZmQ : Tryz.prog.cellsOf 91=6:=by kernel_rfl
theorem Zht : pcs Tryz.prog 91=some [(0,3),(1,3),(2,3),(3,3),(4,89),(5,89)]:=by kernel_rfl
theorem ZmS : Tryz.prog.cellsOf 94=2:=by kernel_rfl
theorem Zgx : pcs Tryz.prog 94=some [(0,3),(1,3)]:=by kernel_rfl
theorem ZfU : Tryz.prog.cellsOf 118=2:=by kernel_rfl
theorem ZcJ : pcs Tryz.prog 118=some [(0,3),(1,3)]:=by kernel_rfl
set_option linter.unusedVariables false
set_option linter.unusedSimpArgs false
mutual
theorem KA {H:Type} :(d:DataW H)->dsz d<=Rows.uptoBulk d
 | .lit l=>by cases l<;>simp [dsz,Rows.uptoBulk]
 | .nil=>by simp [dsz,Rows.uptoBulk]
 | .ptr d=>by have:=KA d;simp only [dsz,Rows.uptoBulk];omega
 | .slice es sp=>by have:=WF es;have:=WF sp;simp only [dsz,Rows.uptoBulk];omega
 | .agg ps=>by have:=WF ps;simp only [dsz,Rows.uptoBulk];omega
 | .iface _ d=>by have:=KA d;simp only [dsz,Rows.uptoBulk];omega
 | .map es=>by simp only [dsz,Rows.uptoBulk];omega
 | .held h=>by simp [dsz,Rows.uptoBulk]
theorem WF {H:Type} :(l:List (DataW H))->Qa l<=Rows.uptoBulkAll l
 | []=>by simp [Qa,Rows.uptoBulkAll]
 | d::r=>by have:=KA d;have:=WF r;simp only [Qa,Rows.uptoBulkAll];omega
end
theorem JX {H:Type} {l:List (DataW H)} (h:Rows.uptoSmall H l=true):Qa l<=1048576:=by
 have h1:=WF l;have h2:Rows.uptoBulkAll l<=1048576:=of_decide_eq_true h;omega
abbrev I64 (n:Int):Prop:= -9223372036854775808<=n/\n<=9223372036854775807
def eI (n:Int):PV:= .int .i64 n
def eB (b:Bool):PV:= .bool b
def eS (s:List UInt8):PV:= .str s
def eP (p:Int×Int):PV:= .agg [.int .i64 p.1,.int .i64 p.2]
@[go_sem] theorem ZpF (n:Int):eI n= .int .i64 n:=Eq.trans rfl rfl
@[go_sem] theorem ZpL (s:List UInt8):eS s= .str s:=Eq.trans rfl rfl
@[go_sem] theorem Zqn (p:Int×Int):eP p= .agg [.int .i64 p.1,.int .i64 p.2]:=Eq.trans rfl rfl
theorem Vt {B xs} (h: ∀y∈xs,FitV Tryz.prog B 3 y): ∃l:List Int,xs=l.map eI/\ ∀n∈l,I64 n :=
 Z9 (f:=eI) fun y hy=>by
  obtain ⟨n,rfl,w⟩:=ZdT Tryz.underlying3 (h y hy);exact ⟨n,rfl,ZC w⟩
theorem Kr {B xs} (h: ∀y∈xs,FitV Tryz.prog B 4 y): ∃l:List Bool,xs=l.map eB/\ ∀b∈l,True :=
 Z9 (f:=eB) fun y hy=>by
  obtain ⟨b,rfl⟩:=Zb8 Tryz.underlying4 (h y hy);exact ⟨b,rfl,trivial⟩
theorem ZcE {B xs} (h: ∀y∈xs,FitV Tryz.prog B 9 y): ∃l:List (List UInt8),xs=l.map eS/\ ∀s∈l,s.length<=B :=
 Z9 (f:=eS) fun y hy=>by
  obtain ⟨s,rfl,w,_⟩:=ZdI Tryz.underlying9 (h y hy);exact ⟨s,rfl,w⟩
theorem ZfF {α:Type} {l:List α} (h:l.length=2): ∃a0 a1,l= [a0,a1]:=by
 match l,h with | [a0,a1],_=>exact ⟨a0,a1,rfl⟩
theorem Zn9 {α:Type} {l:List α} (h:l.length=6): ∃a0 a1 a2 a3 a4 a5,l= [a0,a1,a2,a3,a4,a5]:=by
 match l,h with | [a0,a1,a2,a3,a4,a5],_=>exact ⟨a0,a1,a2,a3,a4,a5,rfl⟩
theorem ZlQ {α:Type} {l:List α} (h:l.length=14): ∃a0 a1 a2 a3 a4 a5 a6 a7 a8 a9 a10 a11 a12 a13,l= [a0,a1,a2,a3,a4,a5,a6,a7,a8,a9,a10,a11,a12,a13]:=by
 match l,h with | [a0,a1,a2,a3,a4,a5,a6,a7,a8,a9,a10,a11,a12,a13],_=>exact ⟨a0,a1,a2,a3,a4,a5,a6,a7,a8,a9,a10,a11,a12,a13,rfl⟩
theorem ZoO {α:Type} {l:List α} (h:l.length=4): ∃a0 a1 a2 a3,l= [a0,a1,a2,a3]:=by
 match l,h with | [a0,a1,a2,a3],_=>exact ⟨a0,a1,a2,a3,rfl⟩
theorem Zna {α:Type} {l:List α} (h:l.length=16): ∃a0 a1 a2 a3 a4 a5 a6 a7 a8 a9 a10 a11 a12 a13 a14 a15,l= [a0,a1,a2,a3,a4,a5,a6,a7,a8,a9,a10,a11,a12,a13,a14,a15]:=by
 match l,h with | [a0,a1,a2,a3,a4,a5,a6,a7,a8,a9,a10,a11,a12,a13,a14,a15],_=>exact ⟨a0,a1,a2,a3,a4,a5,a6,a7,a8,a9,a10,a11,a12,a13,a14,a15,rfl⟩
structure Pt where
 t:Int
 a:Int
 deriving Inhabited
def cPt (x:Pt):List PV:= [.int .i64 x.t,.int .i64 x.a]
def ePt (x:Pt):PV:= .agg [.int .i64 x.t,.int .i64 x.a]
@[go_sem] theorem ZoR (x:Pt):ePt x= .agg [.int .i64 x.t,.int .i64 x.a]:=Eq.trans rfl rfl
def Pt.wf (B:Nat) (x:Pt):Prop:=I64 x.t/\I64 x.a
theorem Zdl {B m cs} (h:XN Tryz.prog B m 118 cs): ∃x:Pt,cs=cPt x/\x.wf B:=by
 obtain ⟨h1,m',h2⟩:=Z2 ZcJ ZfU h;obtain ⟨a0,a1,rfl⟩:=ZfF h1;obtain ⟨n0,e0,w0⟩:=Zj Tryz.underlying3 (h2 (0,3) (by simp));obtain ⟨n1,e1,w1⟩:=Zj Tryz.underlying3 (h2 (1,3) (by simp));simp [Zc1] at e0 e1;subst e0;subst e1;exact ⟨⟨n0,n1⟩,rfl,ZC w0,ZC w1⟩
theorem Zdi {B v} (h:FitV Tryz.prog B 118 v): ∃x:Pt,v=ePt x/\x.wf B:=by
 obtain ⟨k,cs,h,e⟩:=h.out;obtain ⟨x,rfl,hw⟩:=Zdl h;exact ⟨x,e.trans (by rw [W2,if_pos (Z6 ZcJ)];rfl),hw⟩
structure Arc where
 src:Int
 dst:Int
 prof:Int
 miles:Int
 travel_c:Bool
 travel:List (Pt)
 slow_c:Bool
 slow:List (Pt)
 deriving Inhabited
def Zqx (x:Arc):List PV:= [.int .i64 x.src,.int .i64 x.dst,.int .i64 x.prof,.int .i64 x.miles,.list x.travel_c (x.travel.map ePt),.list x.slow_c (x.slow.map ePt)]
def Kj (x:Arc):PV:= .agg [.int .i64 x.src,.int .i64 x.dst,.int .i64 x.prof,.int .i64 x.miles,.list x.travel_c (x.travel.map ePt),.list x.slow_c (x.slow.map ePt)]
@[go_sem] theorem Zm8 (x:Arc):Kj x= .agg [.int .i64 x.src,.int .i64 x.dst,.int .i64 x.prof,.int .i64 x.miles,.list x.travel_c (x.travel.map ePt),.list x.slow_c (x.slow.map ePt)]:=Eq.trans rfl rfl
def Arc.wf (B:Nat) (x:Arc):Prop:=I64 x.src/\I64 x.dst/\I64 x.prof/\I64 x.miles/\x.travel.length<=B/\(∀y∈x.travel,Pt.wf B y)/\x.slow.length<=B/\(∀y∈x.slow,Pt.wf B y)
theorem Zcr {B m cs} (h:XN Tryz.prog B m 91 cs): ∃x:Arc,cs=Zqx x/\x.wf B:=by
 obtain ⟨h1,m',h2⟩:=Z2 Zht ZmQ h;obtain ⟨a0,a1,a2,a3,a4,a5,rfl⟩:=Zn9 h1;obtain ⟨n0,e0,w0⟩:=Zj Tryz.underlying3 (h2 (0,3) (by simp));obtain ⟨n1,e1,w1⟩:=Zj Tryz.underlying3 (h2 (1,3) (by simp));obtain ⟨n2,e2,w2⟩:=Zj Tryz.underlying3 (h2 (2,3) (by simp));obtain ⟨n3,e3,w3⟩:=Zj Tryz.underlying3 (h2 (3,3) (by simp));obtain ⟨y4,e4,w4,_,z4⟩:=Zz Tryz.underlying89 (h2 (4,89) (by simp));obtain ⟨n4,rfl,u4⟩:=Z9 (f:=ePt) fun y hy=>Zdi (z4 y hy);obtain ⟨y5,e5,w5,_,z5⟩:=Zz Tryz.underlying89 (h2 (5,89) (by simp))
 obtain ⟨n5,rfl,u5⟩:=Z9 (f:=ePt) fun y hy=>Zdi (z5 y hy);simp [ZmH,Zc1] at e0 e1 e2 e3 e4 e5;subst e0;subst e1;subst e2;subst e3;subst e4;subst e5;exact ⟨⟨n0,n1,n2,n3,false,n4,false,n5⟩,rfl,ZC w0,ZC w1,ZC w2,ZC w3,by simpa using w4,u4,by simpa using w5,u5⟩
theorem ZeJ {B v} (h:FitV Tryz.prog B 91 v): ∃x:Arc,v=Kj x/\x.wf B:=by
 obtain ⟨k,cs,h,e⟩:=h.out;obtain ⟨x,rfl,hw⟩:=Zcr h;exact ⟨x,e.trans (by rw [W2,if_pos (Z6 Zht)];rfl),hw⟩
structure Net where
 places_c:Bool
 places:List (List UInt8)
 arcs_c:Bool
 arcs:List (Arc)
 deriving Inhabited
def ZoQ (x:Net):List PV:= [.list x.places_c (x.places.map eS),.list x.arcs_c (x.arcs.map Kj)]
def Zbd (x:Net):PV:= .agg [.list x.places_c (x.places.map eS),.list x.arcs_c (x.arcs.map Kj)]
@[go_sem] theorem Zly (x:Net):Zbd x= .agg [.list x.places_c (x.places.map eS),.list x.arcs_c (x.arcs.map Kj)]:=Eq.trans rfl rfl
def Net.wf (B:Nat) (x:Net):Prop:=x.places.length<=B/\(∀s∈x.places,s.length<=B)/\x.arcs.length<=B/\(∀y∈x.arcs,Arc.wf B y)
theorem Zcu {B m cs} (h:XN Tryz.prog B m 25 cs): ∃x:Net,cs=ZoQ x/\x.wf B:=by
 obtain ⟨h1,m',h2⟩:=Z2 Zk4 ZhP h;obtain ⟨a0,a1,rfl⟩:=ZfF h1;obtain ⟨y0,e0,w0,_,z0⟩:=Zz Tryz.underlying22 (h2 (0,22) (by simp));obtain ⟨n0,rfl,u0⟩:=ZcE z0;obtain ⟨y1,e1,w1,_,z1⟩:=Zz Tryz.underlying23 (h2 (1,23) (by simp));obtain ⟨n1,rfl,u1⟩:=Z9 (f:=Kj) fun y hy=>ZeJ (z1 y hy);simp [Zlx,ZkP] at e0 e1;subst e0;subst e1;exact ⟨⟨false,n0,false,n1⟩,rfl,by simpa using w0,u0,by simpa using w1,u1⟩
structure Typ where
 name:List UInt8
 count:Int
 src:Int
 dst:Int
 cap_c:Bool
 cap:List (Int)
 skills:Int
 prof:Int
 opn:Int
 cls:Int
 drive:Int
 rest:Int
 fixed:Int
 perMile:Int
 perTick:Int
 deriving Inhabited
def Zqk (x:Typ):List PV:= [.str x.name,.int .i64 x.count,.int .i64 x.src,.int .i64 x.dst,.list x.cap_c (x.cap.map eI),.int .i64 x.skills,.int .i64 x.prof,.int .i64 x.opn,.int .i64 x.cls,.int .i64 x.drive,.int .i64 x.rest,.int .i64 x.fixed,.int .i64 x.perMile,.int .i64 x.perTick]
def QZ (x:Typ):PV:= .agg [.str x.name,.int .i64 x.count,.int .i64 x.src,.int .i64 x.dst,.list x.cap_c (x.cap.map eI),.int .i64 x.skills,.int .i64 x.prof,.int .i64 x.opn,.int .i64 x.cls,.int .i64 x.drive,.int .i64 x.rest,.int .i64 x.fixed,.int .i64 x.perMile,.int .i64 x.perTick]
@[go_sem] theorem Zmg (x:Typ):QZ x= .agg [.str x.name,.int .i64 x.count,.int .i64 x.src,.int .i64 x.dst,.list x.cap_c (x.cap.map eI),.int .i64 x.skills,.int .i64 x.prof,.int .i64 x.opn,.int .i64 x.cls,.int .i64 x.drive,.int .i64 x.rest,.int .i64 x.fixed,.int .i64 x.perMile,.int .i64 x.perTick]:=Eq.trans rfl rfl
def Typ.wf (B:Nat) (x:Typ):Prop:=x.name.length<=B/\I64 x.count/\I64 x.src/\I64 x.dst/\x.cap.length<=B/\(∀n∈x.cap,I64 n)/\I64 x.skills/\I64 x.prof/\I64 x.opn/\I64 x.cls/\I64 x.drive/\I64 x.rest/\I64 x.fixed/\I64 x.perMile/\I64 x.perTick
theorem ZbB {B m cs} (h:XN Tryz.prog B m 54 cs): ∃x:Typ,cs=Zqk x/\x.wf B:=by
 obtain ⟨h1,m',h2⟩:=Z2 ZhG ZmU h;obtain ⟨a0,a1,a2,a3,a4,a5,a6,a7,a8,a9,a10,a11,a12,a13,rfl⟩:=ZlQ h1;obtain ⟨n0,e0,w0,_⟩:=VF Tryz.underlying9 (h2 (0,9) (by simp));obtain ⟨n1,e1,w1⟩:=Zj Tryz.underlying3 (h2 (1,3) (by simp));obtain ⟨n2,e2,w2⟩:=Zj Tryz.underlying3 (h2 (2,3) (by simp));obtain ⟨n3,e3,w3⟩:=Zj Tryz.underlying3 (h2 (3,3) (by simp));obtain ⟨y4,e4,w4,_,z4⟩:=Zz Tryz.underlying32 (h2 (4,32) (by simp));obtain ⟨n4,rfl,u4⟩:=Vt z4;obtain ⟨n5,e5,w5⟩:=Zj Tryz.underlying3 (h2 (5,3) (by simp))
 obtain ⟨n6,e6,w6⟩:=Zj Tryz.underlying3 (h2 (6,3) (by simp));obtain ⟨n7,e7,w7⟩:=Zj Tryz.underlying3 (h2 (7,3) (by simp));obtain ⟨n8,e8,w8⟩:=Zj Tryz.underlying3 (h2 (8,3) (by simp));obtain ⟨n9,e9,w9⟩:=Zj Tryz.underlying3 (h2 (9,3) (by simp));obtain ⟨n10,e10,w10⟩:=Zj Tryz.underlying3 (h2 (10,3) (by simp));obtain ⟨n11,e11,w11⟩:=Zj Tryz.underlying3 (h2 (11,3) (by simp));obtain ⟨n12,e12,w12⟩:=Zj Tryz.underlying3 (h2 (12,3) (by simp));obtain ⟨n13,e13,w13⟩:=Zj Tryz.underlying3 (h2 (13,3) (by simp));simp [Zd0,Zc1,Zod] at e0 e1 e2 e3 e4 e5 e6 e7 e8 e9 e10 e11 e12 e13
 subst e0;subst e1;subst e2;subst e3;subst e4;subst e5;subst e6;subst e7;subst e8;subst e9;subst e10;subst e11;subst e12;subst e13;exact ⟨⟨n0,n1,n2,n3,false,n4,n5,n6,n7,n8,n9,n10,n11,n12,n13⟩,rfl,w0,ZC w1,ZC w2,ZC w3,by simpa using w4,u4,ZC w5,ZC w6,ZC w7,ZC w8,ZC w9,ZC w10,ZC w11,ZC w12,ZC w13⟩
theorem Zeu {B v} (h:FitV Tryz.prog B 54 v): ∃x:Typ,v=QZ x/\x.wf B:=by
 obtain ⟨k,cs,h,e⟩:=h.out;obtain ⟨x,rfl,hw⟩:=ZbB h;exact ⟨x,e.trans (by rw [W2,if_pos (Z6 ZhG)];rfl),hw⟩
structure Stp where
 place:Int
 opn:Int
 cls:Int
 serv:Int
 deriving Inhabited
def Zmw (x:Stp):List PV:= [.int .i64 x.place,.int .i64 x.opn,.int .i64 x.cls,.int .i64 x.serv]
def ZnY (x:Stp):PV:= .agg [.int .i64 x.place,.int .i64 x.opn,.int .i64 x.cls,.int .i64 x.serv]
@[go_sem] theorem ZmY (x:Stp):ZnY x= .agg [.int .i64 x.place,.int .i64 x.opn,.int .i64 x.cls,.int .i64 x.serv]:=Eq.trans rfl rfl
def Stp.wf (B:Nat) (x:Stp):Prop:=I64 x.place/\I64 x.opn/\I64 x.cls/\I64 x.serv
theorem Jx {B m cs} (h:XN Tryz.prog B m 56 cs): ∃x:Stp,cs=Zmw x/\x.wf B:=by
 obtain ⟨h1,m',h2⟩:=Z2 Zk1 Zib h;obtain ⟨a0,a1,a2,a3,rfl⟩:=ZoO h1;obtain ⟨n0,e0,w0⟩:=Zj Tryz.underlying3 (h2 (0,3) (by simp));obtain ⟨n1,e1,w1⟩:=Zj Tryz.underlying3 (h2 (1,3) (by simp));obtain ⟨n2,e2,w2⟩:=Zj Tryz.underlying3 (h2 (2,3) (by simp));obtain ⟨n3,e3,w3⟩:=Zj Tryz.underlying3 (h2 (3,3) (by simp));simp [Zc1] at e0 e1 e2 e3;subst e0;subst e1;subst e2;subst e3;exact ⟨⟨n0,n1,n2,n3⟩,rfl,ZC w0,ZC w1,ZC w2,ZC w3⟩
theorem ZfQ {B v} (h:FitV Tryz.prog B 94 v): ∃x:Int×Int,v=eP x/\I64 x.1/\I64 x.2:=by
 obtain ⟨k,cs,h,e⟩:=h.out;obtain ⟨h1,m',h2⟩:=Z2 Zgx ZmS h;obtain ⟨a,b,rfl⟩:=ZfF h1;obtain ⟨n0,e0,w0⟩:=Zj Tryz.underlying3 (h2 (0,3) (by simp));obtain ⟨n1,e1,w1⟩:=Zj Tryz.underlying3 (h2 (1,3) (by simp));simp [Zc1] at e0 e1;subst e0;subst e1;exact ⟨(n0,n1),e.trans (by rw [W2,if_pos (Z6 Zgx)];rfl),ZC w0,ZC w1⟩
structure Ord where
 name:List UInt8
 load_c:Bool
 load:List (Int)
 pick:Stp
 drp:Stp
 skills:Int
 penalty:Int
 split:Int
 last:Int
 now:Int
 off:Bool
 deriving Inhabited
def Zph (x:Ord):List PV:= [.str x.name,.list x.load_c (x.load.map eI),.int .i64 x.pick.place,.int .i64 x.pick.opn,.int .i64 x.pick.cls,.int .i64 x.pick.serv,.int .i64 x.drp.place,.int .i64 x.drp.opn,.int .i64 x.drp.cls,.int .i64 x.drp.serv,.int .i64 x.skills,.int .i64 x.penalty,.int .i64 x.split,.int .i64 x.last,.int .i64 x.now,.bool x.off]
def eOrd (x:Ord):PV:= .agg [.str x.name,.list x.load_c (x.load.map eI),.int .i64 x.pick.place,.int .i64 x.pick.opn,.int .i64 x.pick.cls,.int .i64 x.pick.serv,.int .i64 x.drp.place,.int .i64 x.drp.opn,.int .i64 x.drp.cls,.int .i64 x.drp.serv,.int .i64 x.skills,.int .i64 x.penalty,.int .i64 x.split,.int .i64 x.last,.int .i64 x.now,.bool x.off]
@[go_sem] theorem Qw (x:Ord):eOrd x= .agg [.str x.name,.list x.load_c (x.load.map eI),.int .i64 x.pick.place,.int .i64 x.pick.opn,.int .i64 x.pick.cls,.int .i64 x.pick.serv,.int .i64 x.drp.place,.int .i64 x.drp.opn,.int .i64 x.drp.cls,.int .i64 x.drp.serv,.int .i64 x.skills,.int .i64 x.penalty,.int .i64 x.split,.int .i64 x.last,.int .i64 x.now,.bool x.off]:=Eq.trans rfl rfl
def Ord.wf (B:Nat) (x:Ord):Prop:=x.name.length<=B/\x.load.length<=B/\(∀n∈x.load,I64 n)/\Stp.wf B x.pick/\Stp.wf B x.drp/\I64 x.skills/\I64 x.penalty/\I64 x.split/\I64 x.last/\I64 x.now
theorem ZcF {B m cs} (h:XN Tryz.prog B m 58 cs): ∃x:Ord,cs=Zph x/\x.wf B:=by
 obtain ⟨h1,m',h2⟩:=Z2 Zh2 ZmJ h;obtain ⟨a0,a1,a2,a3,a4,a5,a6,a7,a8,a9,a10,a11,a12,a13,a14,a15,rfl⟩:=Zna h1;obtain ⟨n0,e0,w0,_⟩:=VF Tryz.underlying9 (h2 (0,9) (by simp));obtain ⟨y1,e1,w1,_,z1⟩:=Zz Tryz.underlying32 (h2 (1,32) (by simp));obtain ⟨n1,rfl,u1⟩:=Vt z1;obtain ⟨n2,e2,w2⟩:=Jx (h2 (2,56) (by simp));obtain ⟨n3,e3,w3⟩:=Jx (h2 (6,56) (by simp));obtain ⟨n4,e4,w4⟩:=Zj Tryz.underlying3 (h2 (10,3) (by simp));obtain ⟨n5,e5,w5⟩:=Zj Tryz.underlying3 (h2 (11,3) (by simp));obtain ⟨n6,e6,w6⟩:=Zj Tryz.underlying3 (h2 (12,3) (by simp))
 obtain ⟨n7,e7,w7⟩:=Zj Tryz.underlying3 (h2 (13,3) (by simp));obtain ⟨n8,e8,w8⟩:=Zj Tryz.underlying3 (h2 (14,3) (by simp));obtain ⟨n9,e9⟩:=WV Tryz.underlying4 (h2 (15,4) (by simp));simp [Zd0,Zib,Znz,Zc1,Zod,Zmw,Zmw] at e0 e1 e2 e3 e4 e5 e6 e7 e8 e9;subst e0;subst e1;obtain ⟨rfl,rfl,rfl,rfl⟩:=e2;obtain ⟨rfl,rfl,rfl,rfl⟩:=e3;subst e4;subst e5;subst e6;subst e7;subst e8;subst e9;exact ⟨⟨n0,false,n1,n2,n3,n4,n5,n6,n7,n8,n9⟩,rfl,w0,by simpa using w1,u1,w2,w3,ZC w4,ZC w5,ZC w6,ZC w7,ZC w8⟩
theorem Zdp {B v} (h:FitV Tryz.prog B 58 v): ∃x:Ord,v=eOrd x/\x.wf B:=by
 obtain ⟨k,cs,h,e⟩:=h.out;obtain ⟨x,rfl,hw⟩:=ZcF h;exact ⟨x,e.trans (by rw [W2,if_pos (Z6 Zh2)];rfl),hw⟩
structure Inst where
 net:Net
 types_c:Bool
 types:List (Typ)
 orders_c:Bool
 orders:List (Ord)
 apart_c:Bool
 apart:List (Int×Int)
 before_c:Bool
 before:List (Int×Int)
 deriving Inhabited
def ZmF (x:Inst):List PV:= [.list x.net.places_c (x.net.places.map eS),.list x.net.arcs_c (x.net.arcs.map Kj),.list x.types_c (x.types.map QZ),.list x.orders_c (x.orders.map eOrd),.list x.apart_c (x.apart.map eP),.list x.before_c (x.before.map eP)]
def ZW (x:Inst):PV:= .agg [.list x.net.places_c (x.net.places.map eS),.list x.net.arcs_c (x.net.arcs.map Kj),.list x.types_c (x.types.map QZ),.list x.orders_c (x.orders.map eOrd),.list x.apart_c (x.apart.map eP),.list x.before_c (x.before.map eP)]
@[go_sem] theorem Zjx (x:Inst):ZW x= .agg [.list x.net.places_c (x.net.places.map eS),.list x.net.arcs_c (x.net.arcs.map Kj),.list x.types_c (x.types.map QZ),.list x.orders_c (x.orders.map eOrd),.list x.apart_c (x.apart.map eP),.list x.before_c (x.before.map eP)]:=Eq.trans rfl rfl
def Inst.wf (B:Nat) (x:Inst):Prop:=Net.wf B x.net/\x.types.length<=B/\(∀y∈x.types,Typ.wf B y)/\x.orders.length<=B/\(∀y∈x.orders,Ord.wf B y)/\x.apart.length<=B/\(∀p∈x.apart,I64 p.1/\I64 p.2)/\x.before.length<=B/\(∀p∈x.before,I64 p.1/\I64 p.2)
theorem Za0 {B m cs} (h:XN Tryz.prog B m 30 cs): ∃x:Inst,cs=ZmF x/\x.wf B:=by
 obtain ⟨h1,m',h2⟩:=Z2 ZhU Zlw h;obtain ⟨a0,a1,a2,a3,a4,a5,rfl⟩:=Zn9 h1;obtain ⟨n0,e0,w0⟩:=Zcu (h2 (0,25) (by simp));obtain ⟨y1,e1,w1,_,z1⟩:=Zz Tryz.underlying26 (h2 (2,26) (by simp));obtain ⟨n1,rfl,u1⟩:=Z9 (f:=QZ) fun y hy=>Zeu (z1 y hy);obtain ⟨y2,e2,w2,_,z2⟩:=Zz Tryz.underlying27 (h2 (3,27) (by simp));obtain ⟨n2,rfl,u2⟩:=Z9 (f:=eOrd) fun y hy=>Zdp (z2 y hy);obtain ⟨y3,e3,w3,_,z3⟩:=Zz Tryz.underlying28 (h2 (4,28) (by simp));obtain ⟨n3,rfl,u3⟩:=Z9 (f:=eP) fun y hy=>ZfQ (z3 y hy)
 obtain ⟨y4,e4,w4,_,z4⟩:=Zz Tryz.underlying28 (h2 (5,28) (by simp));obtain ⟨n4,rfl,u4⟩:=Z9 (f:=eP) fun y hy=>ZfQ (z4 y hy);simp [Zk0,ZmT,Zk2,ZhP,ZoQ] at e0 e1 e2 e3 e4;obtain ⟨rfl,rfl⟩:=e0;subst e1;subst e2;subst e3;subst e4;exact ⟨⟨n0,false,n1,false,n2,false,n3,false,n4⟩,rfl,w0,by simpa using w1,u1,by simpa using w2,u2,by simpa using w3,u3,by simpa using w4,u4⟩
theorem Q6 {B v} (h:FitV Tryz.prog B 30 v): ∃x:Inst,v=ZW x/\x.wf B:=by
 obtain ⟨k,cs,h,e⟩:=h.out;obtain ⟨x,rfl,hw⟩:=Za0 h;exact ⟨x,e.trans (by rw [W2,if_pos (Z6 ZhU)];rfl),hw⟩
structure Vis where
 order:Int
 drp:Bool
 deriving Inhabited
def Zqj (x:Vis):List PV:= [.int .i64 x.order,.bool x.drp]
def J9 (x:Vis):PV:= .agg [.int .i64 x.order,.bool x.drp]
@[go_sem] theorem ZlO (x:Vis):J9 x= .agg [.int .i64 x.order,.bool x.drp]:=Eq.trans rfl rfl
def Vis.wf (B:Nat) (x:Vis):Prop:=I64 x.order
theorem ZbJ {B m cs} (h:XN Tryz.prog B m 86 cs): ∃x:Vis,cs=Zqj x/\x.wf B:=by
 obtain ⟨h1,m',h2⟩:=Z2 Zg3 Zmm h;obtain ⟨a0,a1,rfl⟩:=ZfF h1;obtain ⟨n0,e0,w0⟩:=Zj Tryz.underlying3 (h2 (0,3) (by simp));obtain ⟨n1,e1⟩:=WV Tryz.underlying4 (h2 (1,4) (by simp));simp [Znz,Zc1] at e0 e1;subst e0;subst e1;exact ⟨⟨n0,n1⟩,rfl,ZC w0⟩
theorem Zem {B v} (h:FitV Tryz.prog B 86 v): ∃x:Vis,v=J9 x/\x.wf B:=by
 obtain ⟨k,cs,h,e⟩:=h.out;obtain ⟨x,rfl,hw⟩:=ZbJ h;exact ⟨x,e.trans (by rw [W2,if_pos (Z6 Zg3)];rfl),hw⟩
structure Rte where
 typ:Int
 start:Int
 rests_c:Bool
 rests:List (Bool)
 visits_c:Bool
 visits:List (Vis)
 deriving Inhabited
def ZpE (x:Rte):List PV:= [.int .i64 x.typ,.int .i64 x.start,.list x.rests_c (x.rests.map eB),.list x.visits_c (x.visits.map J9)]
def Zbe (x:Rte):PV:= .agg [.int .i64 x.typ,.int .i64 x.start,.list x.rests_c (x.rests.map eB),.list x.visits_c (x.visits.map J9)]
@[go_sem] theorem ZmV (x:Rte):Zbe x= .agg [.int .i64 x.typ,.int .i64 x.start,.list x.rests_c (x.rests.map eB),.list x.visits_c (x.visits.map J9)]:=Eq.trans rfl rfl
@[go_sem] theorem Zhn (l:List Rte):Zbu 4 (l.map Zbe)=true:=Zcl (f:=Zbe) (S:=4) (fun _=>rfl) l
def Rte.wf (B:Nat) (x:Rte):Prop:=I64 x.typ/\I64 x.start/\x.rests.length<=B/\(∀b∈x.rests,True)/\x.visits.length<=B/\(∀y∈x.visits,Vis.wf B y)
theorem Zcs {B m cs} (h:XN Tryz.prog B m 52 cs): ∃x:Rte,cs=ZpE x/\x.wf B:=by
 obtain ⟨h1,m',h2⟩:=Z2 Zg6 Zmh h;obtain ⟨a0,a1,a2,a3,rfl⟩:=ZoO h1;obtain ⟨n0,e0,w0⟩:=Zj Tryz.underlying3 (h2 (0,3) (by simp));obtain ⟨n1,e1,w1⟩:=Zj Tryz.underlying3 (h2 (1,3) (by simp));obtain ⟨y2,e2,w2,_,z2⟩:=Zz Tryz.underlying49 (h2 (2,49) (by simp));obtain ⟨n2,rfl,u2⟩:=Kr z2;obtain ⟨y3,e3,w3,_,z3⟩:=Zz Tryz.underlying50 (h2 (3,50) (by simp));obtain ⟨n3,rfl,u3⟩:=Z9 (f:=J9) fun y hy=>Zem (z3 y hy);simp [Zm5,Zl7,Zc1] at e0 e1 e2 e3;subst e0;subst e1;subst e2;subst e3;exact ⟨⟨n0,n1,false,n2,false,n3⟩,rfl,ZC w0,ZC w1,by simpa using w2,u2,by simpa using w3,u3⟩
theorem Zd6 {B v} (h:FitV Tryz.prog B 52 v): ∃x:Rte,v=Zbe x/\x.wf B:=by
 obtain ⟨k,cs,h,e⟩:=h.out;obtain ⟨x,rfl,hw⟩:=Zcs h;exact ⟨x,e.trans (by rw [W2,if_pos (Z6 Zg6)];rfl),hw⟩
structure Pln where
 routes_c:Bool
 routes:List (Rte)
 unserved_c:Bool
 unserved:List (Int)
 deriving Inhabited
def Zpx (x:Pln):List PV:= [.list x.routes_c (x.routes.map Zbe),.list x.unserved_c (x.unserved.map eI)]
def Zbi (x:Pln):PV:= .agg [.list x.routes_c (x.routes.map Zbe),.list x.unserved_c (x.unserved.map eI)]
@[go_sem] theorem Zml (x:Pln):Zbi x= .agg [.list x.routes_c (x.routes.map Zbe),.list x.unserved_c (x.unserved.map eI)]:=Eq.trans rfl rfl
def Pln.wf (B:Nat) (x:Pln):Prop:=x.routes.length<=B/\(∀y∈x.routes,Rte.wf B y)/\x.unserved.length<=B/\(∀n∈x.unserved,I64 n)
theorem Zcv {B m cs} (h:XN Tryz.prog B m 34 cs): ∃x:Pln,cs=Zpx x/\x.wf B:=by
 obtain ⟨h1,m',h2⟩:=Z2 Zhd Zmn h;obtain ⟨a0,a1,rfl⟩:=ZfF h1;obtain ⟨y0,e0,w0,_,z0⟩:=Zz Tryz.underlying31 (h2 (0,31) (by simp));obtain ⟨n0,rfl,u0⟩:=Z9 (f:=Zbe) fun y hy=>Zd6 (z0 y hy);obtain ⟨y1,e1,w1,_,z1⟩:=Zz Tryz.underlying32 (h2 (1,32) (by simp));obtain ⟨n1,rfl,u1⟩:=Vt z1;simp [ZkR,Zd0] at e0 e1;subst e0;subst e1;exact ⟨⟨false,n0,false,n1⟩,rfl,by simpa using w0,u0,by simpa using w1,u1⟩
theorem Zef {B v} (h:FitV Tryz.prog B 34 v): ∃x:Pln,v=Zbi x/\x.wf B:=by
 obtain ⟨k,cs,h,e⟩:=h.out;obtain ⟨x,rfl,hw⟩:=Zcv h;exact ⟨x,e.trans (by rw [W2,if_pos (Z6 Zhd)];rfl),hw⟩
structure Itm where
 kind:Int
 a:Int
 deriving Inhabited
def Y9 (x:Itm):PV:= .agg [.int .i64 x.kind,.int .i64 x.a]
@[go_sem] theorem Znc (x:Itm):Y9 x= .agg [.int .i64 x.kind,.int .i64 x.a]:=Eq.trans rfl rfl
theorem own : ownKnob Tryz.prog.godebug=none:=by kernel_rfl
theorem ZeQ : laidOutB Tryz.prog=true:=by kernel_rfl
abbrev Flt := Int×List UInt8
def eF (f:Flt):PV:= .agg [.int .i64 f.1,.str f.2]
@[go_sem] theorem ZqA (f:Flt):eF f= .agg [.int .i64 f.1,.str f.2]:=Eq.trans rfl rfl
@[go_sem] theorem ZoN (l:List Flt):okE 2 (l.map eF)=true:=Zed fun _=>rfl
def dec (n:Nat):List UInt8:=if h:n<10 then [UInt8.ofNat (48+n)] else dec (n / 10)++ [UInt8.ofNat (48+n%10)]
termination_by n
decreasing_by omega
theorem K5 : ∀(k n:Nat),n<k->(dec n).length<=n+1:=by
 intro k
 induction k with
 | zero=>intro n h;omega
 | succ k ih =>
  intro n h;rw [dec]
  split
  ·simp
  ·have:=ih (n / 10) (by omega);simp;omega
theorem Y0 : ∀(d n:Nat),n<10^(d+1)->(dec n).length<=d+1:=by
 intro d
 induction d with
 | zero=>intro n h;rw [dec,dif_pos (by omega)];simp
 | succ d ih =>
  intro n h;rw [dec]
  split
  ·simp
  ·have:=ih (n / 10) (by rw [Nat.div_lt_iff_lt_mul (by omega)];rw [Nat.pow_succ] at h;exact h);simp;omega
def Qc (n:Int):List UInt8:=if n<0 then 45::dec n.natAbs else dec n.natAbs
theorem Yd (n:Int) (h:I64 n):(Qc n).length<=20:=by
 have h1:n.natAbs<10^(18+1):=by omega
 have:=Y0 18 n.natAbs h1;unfold Qc
 split<;>simp<;>omega
structure FR {α:Type} (p:α->Prop) (C:Prop) (b:Nat) (l:List α):Prop where
 len:l.length<=b
 emp:l= []↔C
 all: ∀x∈l,p x
theorem FR.nil {α:Type} {p:α->Prop} {C:Prop} {b:Nat} (h:C):FR p C b []:=⟨by simp,by simp [h],by simp⟩
theorem FR.no {α:Type} {p:α->Prop} {C c:Prop} {b:Nat} {l:List α} (h:FR p C b l) (hc:c):FR p (C/\c) (b+1) l:=⟨by have:=h.len;omega,by rw [h.emp];simp [hc],h.all⟩
theorem FR.yes {α:Type} {p:α->Prop} {C c:Prop} {b:Nat} {l:List α} {x:α} (h:FR p C b l) (hc: ¬c) (hx:p x):FR p (C/\c) (b+1) (l++ [x]) :=
 ⟨by have:=h.len;simp;omega,by simp [hc],fun y hy=>by
  rcases List.mem_append.1 hy with hy | hy
  ·exact h.all y hy
  ·simp at hy;subst hy;exact hx⟩
theorem FR.app {α:Type} {p:α->Prop} {C D:Prop} {b d:Nat} {l m:List α} (h:FR p C b l) (k:FR p D d m):FR p (C/\D) (b+d) (l++m) :=
 ⟨by have:=h.len;have:=k.len;simp;omega,by rw [List.append_eq_nil_iff,h.emp,k.emp],fun y hy=>by
  rcases List.mem_append.1 hy with hy | hy
  ·exact h.all y hy
  ·exact k.all y hy⟩
theorem FR.to {α:Type} {p:α->Prop} {C D:Prop} {b d:Nat} {l:List α} (h:FR p C b l) (hb:b<=d) (hc:C↔D):FR p D d l:=⟨Nat.le_trans h.len hb,h.emp.trans hc,h.all⟩
theorem Zk {p:Nat->Prop} {k:Nat} :(∀j,j<k+1->p j)↔((∀j,j<k->p j)/\p k) :=
 ⟨fun h=>⟨fun j hj=>h j (by omega),h k (by omega)⟩,fun h j hj=>by
  rcases Nat.lt_or_ge j k with h1 | h1
  ·exact h.1 j h1
  ·have:j=k:=by omega
   rw [this];exact h.2⟩
def XV (c:UInt8):Bool:=decide (48<=c.toNat/\c.toNat<=57)
def XQ (c:UInt8):Bool:=decide (97<=c.toNat/\c.toNat<=122)||decide (65<=c.toNat/\c.toNat<=90)||decide (c.toNat=95)
def nameOk (s:List UInt8):Bool:=decide (1<=s.length)&&decide (s.length<=16)&& !XV (nth s 0)&&s.all fun c=>XQ c||XV c
def rng (n lo hi:Int):Bool:=decide (lo<=n/\n<=hi)
def ZcU (n:Int):Bool:=rng n 0 4096
def Zhy (l:List Pt) (i:Nat):Prop:=(0<=(nth l i).t/\(nth l i).t<=4096/\(nth l i).t<=(nth l i).a/\(nth l i).a<=(nth l i).t+4096)/\(0<i->(nth l (i-1)).t<(nth l i).t/\(nth l (i-1)).a<=(nth l i).a)
def Ur (l:List Pt):Prop:=(1<=l.length/\l.length<=16)/\ ∀i,i<l.length->Zhy l i
def WX (l:List Pt) (i:Nat):Prop:=ZcU (nth l i).t=true/\ZcU (nth l i).a=true/\(0<i->(nth l (i-1)).t<(nth l i).t)
def Zcj (n:Net) (i:Nat):Prop :=
 ((((((0<=(nth n.arcs i).src/\(nth n.arcs i).src<n.places.length/\0<=(nth n.arcs i).dst/\(nth n.arcs i).dst<n.places.length) /\
 (0<=(nth n.arcs i).prof/\(nth n.arcs i).prof<=7/\0<=(nth n.arcs i).miles/\(nth n.arcs i).miles<=10000/\(nth n.arcs i).src≠(nth n.arcs i).dst)) /\
 (∀k,k<i-> ¬((nth n.arcs i).src=(nth n.arcs k).src/\(nth n.arcs i).dst=(nth n.arcs k).dst/\(nth n.arcs i).prof=(nth n.arcs k).prof))) /\
 Ur (nth n.arcs i).travel)/\(nth n.arcs i).slow.length<=16)/\ ∀k,k<(nth n.arcs i).slow.length->WX (nth n.arcs i).slow k)
def Zea (n:Net) (i:Nat):Prop:=nameOk (nth n.places i)=true/\ ∀k,k<i->nth n.places k≠nth n.places i
def YG (n:Net):Prop:=n.places.length<=24/\ ∀i,i<n.places.length->Zea n i
def netOk (n:Net):Prop:=(YG n/\n.arcs.length<=1024)/\ ∀i,i<n.arcs.length->Zcj n i
set_option maxRecDepth 8000
set_option maxHeartbeats 4000000
theorem Zal (c:UInt8):PC 89 [.p (.int .u8 (c.toNat:Nat))] (.bool (XV c)):=by
 refine Zb Tryz.func89 rfl Zld ?_;simp (disch:=omega) only [Tryz.f89,go_sem,seval];refine gT ?_ ?_<;>intro h<;>simp (disch:=omega) only [Sh.out h,go_sem,seval]
 all_goals (simp [XV];first | done | omega | (rw [Bool.eq_iff_iff];simp;omega))
theorem ZbO (c:UInt8):PC 90 [.p (.int .u8 (c.toNat:Nat))] (.bool (XQ c)):=by
 refine Zb Tryz.func90 rfl Zmt ?_;simp (disch:=omega) only [Tryz.f90,go_sem,seval]
 repeat' (first | (refine ZF (fun hq=> ?_) (fun hq=> ?_)<;>(try simp only [decide_eq_true_eq,decide_eq_false_iff_not,Classical.not_not] at hq)<;>simp (disch:=omega) only [Sh.out hq,go_sem,seval]) | (refine ZH (fun hq=> ?_) (fun hq=> ?_)<;>(try simp only [decide_eq_true_eq,decide_eq_false_iff_not,Classical.not_not] at hq)<;>simp (disch:=omega) only [Sh.out hq,go_sem,seval]) | (refine ZO (fun hq=> ?_) (fun hq=> ?_)<;>(try simp only [decide_eq_true_eq,decide_eq_false_iff_not,Classical.not_not] at hq)<;>simp (disch:=omega) only [Sh.out hq,go_sem,seval]))
 all_goals (simp [XQ];first | done | omega | (rw [Bool.eq_iff_iff];simp;omega))
theorem ZaQ (s:List UInt8) (hs:s.length<=1048576):PC 58 [.p (.str s)] (.bool (nameOk s)):=by
 refine Zb Tryz.func58 rfl Zli ?_;simp (disch:=omega) only [Tryz.f58,go_sem,seval];refine gF ?_ ?_<;>intro h<;>simp (disch:=omega) only [Sh.out h,go_sem,seval]
 ·have: ¬ 1<=s.length:=by omega
  simp [nameOk,this]
 ·refine gF ?_ ?_<;>intro h2<;>simp (disch:=omega) only [Sh.out h2,go_sem,seval]
  ·have: ¬s.length<=16:=by omega
   simp [nameOk,this]
  ·have g1:1<=s.length:=by omega
   have g2:s.length<=16:=by omega
   refine (Zal (nth s 0)).use ?_;simp (disch:=omega) only [go_sem,seval];refine cD ?_ ?_<;>intro h3<;>simp (disch:=omega) only [Sh.out h3,go_sem,seval]
   ·simp [nameOk,h3]
   ·refine Zf [0] (fun k:Nat=> [(3,.p (.int .i64 k))]) (fun _=> []) (fun k=>k<=s.length/\ ∀j,j<k->(XQ (nth s j)||XV (nth s j))=true) (fun k=>s.length-k) 0 (by simp) (Weak.mk ?_) ?_
    ·simp (disch:=omega) only [go_sem,seval]
    ·rintro k ⟨hk,hno⟩;simp (disch:=omega) only [go_sem,seval]
     have Ym: ∀j,j<s.length->(XQ (nth s j)||XV (nth s j))=false->nameOk s=false:=fun j hj e=>by
      have:s.all (fun c=>XQ c||XV c)=false:=by
       rw [List.all_eq_false];exact ⟨nth s j,by rw [Zh hj];exact List.getElem_mem _,by rw [e];simp⟩
      simp [nameOk,this]
     refine cD ?_ ?_<;>intro h4<;>simp (disch:=omega) only [Sh.out h4,go_sem,seval]
     ·have hk2:k<s.length:=by omega
      refine (ZbO (nth s k)).use ?_;simp (disch:=omega) only [go_sem,seval];refine gT ?_ ?_<;>intro h5<;>simp (disch:=omega) only [Sh.out h5,go_sem,seval]
      ·refine (Zal (nth s k)).use ?_;simp (disch:=omega) only [go_sem,seval];refine cD ?_ ?_<;>intro h6<;>simp (disch:=omega) only [Sh.out h6,go_sem,seval]
       ·simp only [Bool.not_eq_true'] at h5 h6;rw [Ym k hk2 (by rw [h5,h6];rfl)]
       ·simp only [Bool.not_eq_false'] at h6;exact ⟨k+1,⟨by omega,Zk.2 ⟨hno,by simp [h6]⟩⟩,by omega,wk⟩
      ·simp only [Bool.not_eq_false'] at h5;exact ⟨k+1,⟨by omega,Zk.2 ⟨hno,by simp [h5]⟩⟩,by omega,wk⟩
     ·have:s.all (fun c=>XQ c||XV c)=true:=by
       rw [List.all_eq_true];intro c hc;obtain ⟨j,hj,rfl⟩:=List.mem_iff_getElem.1 hc;rw [<- Zh hj];exact hno j (by omega)
      simp [nameOk,g1,g2,h3,this]
theorem YW (n:Int) (hn:I64 n):PC 45 [.p (.int .i64 n)] (.str (Qc n)):=by
 refine Zb Tryz.func45 rfl ZlI ?_;simp (disch:=omega) only [Tryz.f45,go_sem,seval]
 have h19:n.natAbs<10^(18+1):=by omega
 have hdl:=Y0 18 n.natAbs h19
 refine Xc [7] [0] (fun q:Int×List UInt8×Bool=> [(3,.p (.str q.2.1)),(4,.p (.int .i64 q.1)),(5,.p (.bool q.2.2))]) (fun _=> [])
  (fun q=>I64 q.1/\(q.2.2=true->dec q.1.natAbs++q.2.1=dec n.natAbs)/\(q.2.2=false->q.2.1=dec n.natAbs)) (fun q=>if q.2.2 then q.1.natAbs+1 else 0) (n,[],true) (by simp;omega) (Weak.mk ?_) ?_
 ·simp (disch:=omega) only [go_sem,seval]
 ·rintro ⟨m,s,again⟩ ⟨hm,h1,h2⟩;simp only at hm h1 h2;simp (disch:=omega) only [go_sem,seval]
  cases again with
  | false =>
   simp (disch:=omega) only [go_sem,seval];have h2:=h2 rfl
   have hl2:([45]:List UInt8).length+(dec n.natAbs).length<=9223372036854775807:=by simp;omega
   refine cD ?_ ?_<;>intro h3<;>simp (disch:=omega) only [Sh.out h3,go_sem,seval]
   ·simp (disch:=omega) only [Qc,h2,h3,ZbU hl2,go_sem,seval]
   ·simp (disch:=omega) only [Qc,h2,h3,go_sem,seval]
  | true =>
   have h1:=h1 rfl
   have hls:(dec m.natAbs).length+s.length=(dec n.natAbs).length:=by rw [<- h1];simp
   simp (disch:=omega) only [go_sem,seval]
   have e1:(m.tmod 10).natAbs=m.natAbs%10:=by rw [Int.natAbs_tmod];rfl
   have e2:(m.tdiv 10).natAbs=m.natAbs / 10:=by rw [Int.natAbs_tdiv];rfl
   have e3:m.tmod 10<10/\ -10<m.tmod 10:=⟨Int.tmod_lt_of_pos _ (by decide),by omega⟩;refine Zm [0,3,4] (fun _:Unit=> [(6,.p (.int .i64 ((m.natAbs%10:Nat):Int)))]) (fun _=> []) (fun _=>True) ?_ ?_
   ·simp (disch:=omega) only [go_sem,seval];refine cD ?_ ?_<;>intro h3<;>simp (disch:=omega) only [Sh.out h3,go_sem,seval]
    ·exact ⟨(),Weak.mk (by simp (disch:=omega) only [go_sem,seval];simp;omega)⟩
    ·exact ⟨(),Weak.mk (by simp (disch:=omega) only [go_sem,seval];simp;omega)⟩
   ·intro _ _;refine Za [] _ _ _ _ ?_;simp (disch:=first | omega | (simp only [List.length_cons,List.length_nil,List.length_append,List.length_map,List.length_take,List.length_drop]<;>omega)) only [go_sem,seval]
    have e4:(48+((m.natAbs%10:Nat):Int)).toNat=48+m.natAbs%10:=by omega
    refine ⟨(m.tdiv 10,UInt8.ofNat (48+m.natAbs%10)::s,decide (m.tdiv 10≠0)),⟨?_,?_,?_⟩,?_,Weak.mk ?_⟩
    ·simp only;omega
    ·simp only [decide_eq_true_eq];intro hne
     have h10: ¬m.natAbs<10:=by omega
     rw [e2,<- h1,dec.eq_def m.natAbs,dif_neg h10];simp
    ·simp only [decide_eq_false_iff_not,Classical.not_not];intro hz
     have h10:m.natAbs<10:=by omega
     rw [<- h1,dec.eq_def m.natAbs,dif_pos h10,Nat.mod_eq_of_lt h10];simp
    ·simp only [if_true]
     split
     ·rename_i hne;simp only [decide_eq_true_eq] at hne;omega
     ·omega
    ·simp (disch:=omega) only [e4,go_sem,seval]
def pF (k:Nat) (f:Flt):Prop:=f.2.length<=k
theorem ZgD (l:List Pt) (c:Bool) (hl:l.length<=1048576):ACalls Tryz.prog 59 [.p (.list c (l.map ePt))] [] fun x H'=> ∃m:List Flt,FR (pF 20) (Ur l) (2*l.length+1) m/\x= .sl 0 0 m.length m.length/\H'= [.elems 2 (m.map eF)]:=by
 refine Zn [2] Tryz.func59 rfl ZlL ?_;simp (disch:=omega) only [Tryz.f59,go_sem,seval];refine ZD (Weak.ofNil 3 2 (by simp (disch:=omega) only [go_sem,seval]) (by simp) (Weak.refl _ _ _)) ?_;refine Zm [0] (fun m:List Flt=> [(3,.sl 0 0 m.length m.length)]) (fun m=> [.elems 2 (m.map eF)]) (fun m=>FR (pF 20) (1<=l.length/\l.length<=16) 1 m) ?_ ?_
 ·simp (disch:=omega) only [go_sem,seval]
  repeat' (first | (refine ZF (fun hq=> ?_) (fun hq=> ?_)<;>(try simp only [decide_eq_true_eq,decide_eq_false_iff_not,Classical.not_not] at hq)<;>simp (disch:=omega) only [Sh.out hq,go_sem,seval]) | (refine ZH (fun hq=> ?_) (fun hq=> ?_)<;>(try simp only [decide_eq_true_eq,decide_eq_false_iff_not,Classical.not_not] at hq)<;>simp (disch:=omega) only [Sh.out hq,go_sem,seval]) | (refine ZO (fun hq=> ?_) (fun hq=> ?_)<;>(try simp only [decide_eq_true_eq,decide_eq_false_iff_not,Classical.not_not] at hq)<;>simp (disch:=omega) only [Sh.out hq,go_sem,seval]))
  ·exact ⟨[(4,[])],⟨by simp,by simp;omega,by simp [pF]⟩,wk⟩
  ·exact ⟨[(4,[])],⟨by simp,by simp;omega,by simp [pF]⟩,wk⟩
  ·exact ⟨[],FR.nil (by omega),wk⟩
 ·intro m hm;refine Za [] _ _ _ _ ?_;simp (disch:=omega) only [go_sem,seval];refine Xc [8] [0] (fun q:Nat×List Flt=> [(3,.sl 0 0 q.2.length q.2.length),(4,.p (.int .i64 q.1))]) (fun q=> [.elems 2 (q.2.map eF)]) (fun q=>q.1<=l.length/\FR (pF 20) ((1<=l.length/\l.length<=16)/\ ∀j,j<q.1->Zhy l j) (2*q.1+1) q.2) (fun q=>l.length-q.1) (0,m) ⟨by simp,hm.to (by simp) (by simp)⟩ (Weak.mk ?_) ?_
  ·simp (disch:=omega) only [go_sem,seval]
  ·rintro ⟨k,m⟩ ⟨hk,hm⟩;simp only at hk hm;have hml:=hm.len;simp (disch:=omega) only [go_sem,seval];refine cD ?_ ?_<;>intro h<;>simp (disch:=omega) only [Sh.out h,go_sem,seval]
   ·have hk2:k<l.length:=by omega
    refine Zm [0,4,5] (fun m:List Flt=> [(3,.sl 0 0 m.length m.length)]) (fun m=> [.elems 2 (m.map eF),.cells [.p (.int .i64 (nth l k).t),.p (.int .i64 (nth l k).a)]])
     (fun m=>FR (pF 20) (((1<=l.length/\l.length<=16)/\ ∀j,j<k->Zhy l j)/\(0<=(nth l k).t/\(nth l k).t<=4096/\(nth l k).t<=(nth l k).a/\(nth l k).a<=(nth l k).t+4096)) (2*k+1+1) m) ?_ ?_
    ·simp (disch:=omega) only [go_sem,seval]
     have hI:I64 (k:Int):=by omega
     have hdl:=Yd k hI
     repeat' (first | (refine ZF (fun hq=> ?_) (fun hq=> ?_)<;>(try simp only [decide_eq_true_eq,decide_eq_false_iff_not,Classical.not_not] at hq)<;>simp (disch:=omega) only [Sh.out hq,go_sem,seval]) | (refine ZH (fun hq=> ?_) (fun hq=> ?_)<;>(try simp only [decide_eq_true_eq,decide_eq_false_iff_not,Classical.not_not] at hq)<;>simp (disch:=omega) only [Sh.out hq,go_sem,seval]) | (refine ZO (fun hq=> ?_) (fun hq=> ?_)<;>(try simp only [decide_eq_true_eq,decide_eq_false_iff_not,Classical.not_not] at hq)<;>simp (disch:=omega) only [Sh.out hq,go_sem,seval]))
     all_goals try exact ⟨m,hm.no (by omega),wk⟩
     all_goals
      refine (YW k hI).use ?_;simp (disch:=omega) only [go_sem,seval];exact ⟨m++ [(2,Qc k)],hm.yes (by omega) (by simp only [pF];omega),wk⟩
    ·intro m hm;have hml:=hm.len;refine Za [] _ _ _ _ ?_;simp (disch:=omega) only [go_sem,seval]
     have hI:I64 (k:Int):=by omega
     have hdl:=Yd k hI;refine Zq mixed (by kernel_rfl) (by kernel_rfl) ?_;simp (disch:=omega) only [go_sem,seval]
     repeat' (first | (refine ZF (fun hq=> ?_) (fun hq=> ?_)<;>(try simp only [decide_eq_true_eq,decide_eq_false_iff_not,Classical.not_not] at hq)<;>simp (disch:=omega) only [Sh.out hq,go_sem,seval]) | (refine ZH (fun hq=> ?_) (fun hq=> ?_)<;>(try simp only [decide_eq_true_eq,decide_eq_false_iff_not,Classical.not_not] at hq)<;>simp (disch:=omega) only [Sh.out hq,go_sem,seval]) | (refine ZO (fun hq=> ?_) (fun hq=> ?_)<;>(try simp only [decide_eq_true_eq,decide_eq_false_iff_not,Classical.not_not] at hq)<;>simp (disch:=omega) only [Sh.out hq,go_sem,seval]))
     all_goals try exact ⟨(k+1,m),⟨by simp only;omega,(hm.no (c:=0<k->(nth l (k-1)).t<(nth l k).t/\(nth l (k-1)).a<=(nth l k).a) (by omega)).to (by simp only;omega) (by simp only [Zk,Zhy,and_assoc])⟩,by simp only;omega,wk⟩
     all_goals
      refine (YW k hI).use ?_;simp (disch:=omega) only [go_sem,seval];exact ⟨(k+1,m++ [(13,Qc k)]),⟨by simp only;omega,(hm.yes (c:=0<k->(nth l (k-1)).t<(nth l k).t/\(nth l (k-1)).a<=(nth l k).a) (by omega) (by simp only [pF];omega)).to (by simp only;omega) (by simp only [Zk,Zhy,and_assoc])⟩,by simp only;omega,wk⟩
   ·have hkn:k=l.length:=by omega
    subst hkn;exact ⟨m,hm.to (by omega) (by rw [Ur]),0,by simp (disch:=omega) only [go_sem,seval]⟩
set_option maxHeartbeats 8000000
theorem pF.mono {j k:Nat} (h:j<=k) {f:Flt} (hf:pF j f):pF k f:=Nat.le_trans hf h
theorem FR.pmono {α:Type} {p q:α->Prop} {C:Prop} {b:Nat} {l:List α} (h:FR p C b l) (hp: ∀x,p x->q x):FR q C b l:=⟨h.len,h.emp,fun x hx=>hp x (h.all x hx)⟩
theorem Ju (n:Int):PC 60 [.p (.int .i64 n)] (.bool (ZcU n)):=by
 refine Zb Tryz.func60 rfl ZlX ?_;simp (disch:=omega) only [Tryz.f60,go_sem,seval]
 repeat' (first | (refine ZF (fun hq=> ?_) (fun hq=> ?_)<;>(try simp only [decide_eq_true_eq,decide_eq_false_iff_not,Classical.not_not] at hq)<;>simp (disch:=omega) only [Sh.out hq,go_sem,seval]) | (refine ZH (fun hq=> ?_) (fun hq=> ?_)<;>(try simp only [decide_eq_true_eq,decide_eq_false_iff_not,Classical.not_not] at hq)<;>simp (disch:=omega) only [Sh.out hq,go_sem,seval]) | (refine ZO (fun hq=> ?_) (fun hq=> ?_)<;>(try simp only [decide_eq_true_eq,decide_eq_false_iff_not,Classical.not_not] at hq)<;>simp (disch:=omega) only [Sh.out hq,go_sem,seval]))
 all_goals (simp [ZcU,rng];first | done | omega | (rw [Bool.eq_iff_iff];simp;omega))
def Zr (n:Net):List AM.Obj:= [.cells [.p (.list n.places_c (n.places.map eS)),.p (.list n.arcs_c (n.arcs.map Kj))]]
theorem JF (n:Net) (hp:n.places.length<=1048576) (hs: ∀s∈n.places,s.length<=1048576):ACalls Tryz.prog 41 [.p (Zbd n)] [] fun x H'=> ∃m:List Flt,FR (pF 26) (YG n) (n.places.length+1) m/\x= .sl 0 0 m.length m.length/\H'= [.elems 2 (m.map eF)]:=by
 refine Zn [2] Tryz.func41 rfl Zlj ?_;simp (disch:=omega) only [Tryz.f41,go_sem,seval];refine ZD (Weak.ofNil 3 2 (by simp (disch:=omega) only [go_sem,seval]) (by simp) (Weak.refl _ _ _)) ?_;refine Zm [1] (fun m:List Flt=> [(3,.sl 1 0 m.length m.length)]) (fun m=>Zr n++ [.elems 2 (m.map eF)]) (fun m=>FR (pF 26) (n.places.length<=24) 1 m) ?_ ?_
 ·simp (disch:=omega) only [go_sem,seval];refine cD ?_ ?_<;>intro h<;>simp (disch:=omega) only [Sh.out h,go_sem,seval]
  ·exact ⟨[(4,[112,108,97,99,101,115])],⟨by simp,by simp;omega,by simp [pF]⟩,Weak.mk (by simp (disch:=omega) only [Zr,go_sem,seval])⟩
  ·exact ⟨[],FR.nil (by omega),Weak.mk (by simp (disch:=omega) only [Zr,go_sem,seval])⟩
 ·intro m hm;refine Za [] _ _ _ _ ?_;simp (disch:=omega) only [Zr,go_sem,seval];refine Zf [1] (fun q:Nat×List Flt=> [(3,.sl 1 0 q.2.length q.2.length),(4,.p (.int .i64 q.1))]) (fun q=>Zr n++ [.elems 2 (q.2.map eF)]) (fun q=>q.1<=n.places.length/\FR (pF 26) (n.places.length<=24/\ ∀j,j<q.1->Zea n j) (q.1+1) q.2) (fun q=>n.places.length-q.1) (0,m) ⟨by simp,hm.to (by simp) (by simp)⟩ (Weak.mk ?_) ?_
  ·simp (disch:=omega) only [Zr,go_sem,seval]
  ·rintro ⟨k,m⟩ ⟨hk,hm⟩;simp only at hk hm;have hml:=hm.len;simp (disch:=omega) only [Zr,go_sem,seval];refine cD ?_ ?_<;>intro h<;>simp (disch:=omega) only [Sh.out h,go_sem,seval]
   ·have hk2:k<n.places.length:=by omega
    have hI:I64 (k:Int):=by omega
    have hdl:=Yd k hI;refine (YW k hI).use ?_;simp (disch:=omega) only [go_sem,seval];simp (disch:=first | omega | (simp only [List.length_cons,List.length_nil,List.length_append,List.length_map,List.length_take,List.length_drop]<;>omega)) only [go_sem,seval];refine (ZaQ (nth n.places k) (hs _ (by rw [Zh hk2];exact List.getElem_mem _))).use ?_;simp (disch:=omega) only [go_sem,seval];refine cD ?_ ?_<;>intro h2<;>simp (disch:=omega) only [Sh.out h2,go_sem,seval]
    ·simp only [Bool.not_eq_true'] at h2;exact ⟨(k+1,m++ [(5,[112,108,97,99,101,32]++Qc k)]),⟨by simp only;omega,(hm.yes (c:=Zea n k) (by rw [Zea,h2];simp) (by simp [pF];omega)).to (by simp) (by simp only [Zk,and_assoc])⟩,by simp only;omega,Weak.mk (by simp (disch:=omega) only [Zr,go_sem,seval])⟩
    ·simp only [Bool.not_eq_false'] at h2;refine Zf [1,3,4,5] (fun q:Nat×Bool=> [(6,.p (.bool q.2)),(7,.p (.int .i64 q.1))]) (fun _=>Zr n++ [.elems 2 (m.map eF)]) (fun q=>q.1<=k/\(q.2=false↔ ∀j,j<q.1->nth n.places j≠nth n.places k)) (fun q=>k-q.1) (0,false) (by simp) (Weak.mk ?_) ?_
     ·simp (disch:=omega) only [Zr,go_sem,seval]
     ·rintro ⟨j,b⟩ ⟨hj,hb⟩;simp only at hj hb;simp (disch:=omega) only [Zr,go_sem,seval];refine cD ?_ ?_<;>intro h3<;>simp (disch:=omega) only [Sh.out h3,go_sem,seval]
      ·refine Xj 14 mixed (by kernel_rfl) (by kernel_rfl) ?_;simp (disch:=omega) only [go_sem,seval]
       have hjn:j<n.places.length:=by omega
       cases b with
       | true =>
        simp (disch:=omega) only [go_sem,seval];exact ⟨(j+1,true),⟨by simp only;omega,by rw [Zk,<- hb];simp⟩,by simp only;omega,Weak.mk (by simp (disch:=omega) only [Zr,go_sem,seval])⟩
       | false =>
        simp (disch:=omega) only [go_sem,seval];refine ⟨(j+1,decide (nth n.places j=nth n.places k)),⟨by simp only;omega,by rw [Zk,<- hb];simp⟩,by simp only;omega,Weak.mk (by simp (disch:=omega) only [Zr,go_sem,seval])⟩
      ·have hjk:j=k:=by omega
       subst hjk
       cases b with
       | true =>
        simp (disch:=omega) only [go_sem,seval]
        have hno: ¬Zea n j:=fun h5=>by have:=hb.2 h5.2;cases this
        exact ⟨(j+1,m++ [(6,[112,108,97,99,101,32]++Qc j)]),⟨by simp only;omega,(hm.yes (c:=Zea n j) hno (by simp [pF];omega)).to (by simp) (by simp only [Zk,and_assoc])⟩,by simp only;omega,Weak.mk (by simp (disch:=omega) only [Zr,go_sem,seval])⟩
       | false =>
        simp (disch:=omega) only [go_sem,seval];exact ⟨(j+1,m),⟨by simp only;omega,(hm.no (c:=Zea n j) ⟨h2,hb.1 rfl⟩).to (by simp) (by simp only [Zk,and_assoc])⟩,by simp only;omega,Weak.mk (by simp (disch:=omega) only [Zr,go_sem,seval])⟩
   ·have hkn:k=n.places.length:=by omega
    subst hkn;exact ⟨m,hm.to (by omega) (by rw [YG]),1,by simp (disch:=omega) only [go_sem,seval]⟩
set_option maxHeartbeats 16000000
def Ya (a:Arc):AM.Obj:= .cells [.p (.int .i64 a.src),.p (.int .i64 a.dst),.p (.int .i64 a.prof),.p (.int .i64 a.miles),.p (.list a.travel_c (a.travel.map ePt)),.p (.list a.slow_c (a.slow.map ePt))]
abbrev Z4 (a b:Arc):Prop:=a.src=b.src/\a.dst=b.dst/\a.prof=b.prof
theorem ZdZ (n:Net) (i:Nat) (hi:i<n.arcs.length) (hp:n.places.length<=1048576) (ha:n.arcs.length<=1048576) (ht:(nth n.arcs i).travel.length<=1048576) (hsl:(nth n.arcs i).slow.length<=1048576) :
  ACalls Tryz.prog 42 [.p (Zbd n),.p (.int .i64 (i:Nat))] [] fun x H'=> ∃m:List Flt,FR (pF 26) (Zcj n i) 4000000 m/\x= .sl 0 0 m.length m.length/\H'= [.elems 2 (m.map eF)]:=by
 refine Zn [4] Tryz.func42 rfl ZlN ?_;simp (disch:=omega) only [Tryz.f42,go_sem,seval]
 have hI:I64 (i:Int):=by omega
 have hdl:=Yd i hI;refine (YW i hI).use ?_;simp (disch:=omega) only [go_sem,seval];simp (disch:=first | omega | (simp only [List.length_cons,List.length_nil,List.length_append,List.length_map,List.length_take,List.length_drop]<;>omega)) only [go_sem,seval]
 have hat:(97::114::99::32::Qc i).length<=26:=by simp;omega
 generalize hga:nth n.arcs i=a at ht hsl ⊢;generalize 97::114::99::32::Qc i=at' at hat ⊢;refine ZD (Weak.ofNil 5 2 (by simp (disch:=omega) only [go_sem,seval]) (by simp) (Weak.refl _ _ _)) ?_;refine Zm [1,2,6,7] (fun m:List Flt=> [(5,.sl 2 0 m.length m.length)]) (fun m=>Zr n++ [Ya a,.elems 2 (m.map eF)]) (fun m=>FR (pF 26) (0<=a.src/\a.src<n.places.length/\0<=a.dst/\a.dst<n.places.length) 1 m) ?_ ?_
 ·simp (disch:=omega) only [go_sem,seval]
  repeat' (first | (refine ZF (fun hq=> ?_) (fun hq=> ?_)<;>(try simp only [decide_eq_true_eq,decide_eq_false_iff_not,Classical.not_not] at hq)<;>simp (disch:=omega) only [Sh.out hq,go_sem,seval]) | (refine ZH (fun hq=> ?_) (fun hq=> ?_)<;>(try simp only [decide_eq_true_eq,decide_eq_false_iff_not,Classical.not_not] at hq)<;>simp (disch:=omega) only [Sh.out hq,go_sem,seval]) | (refine ZO (fun hq=> ?_) (fun hq=> ?_)<;>(try simp only [decide_eq_true_eq,decide_eq_false_iff_not,Classical.not_not] at hq)<;>simp (disch:=omega) only [Sh.out hq,go_sem,seval]))
  all_goals try exact ⟨[],FR.nil (by omega),Weak.mk (by simp (disch:=omega) only [Zr,Ya,go_sem,seval])⟩
  all_goals exact ⟨[(11,at')],⟨by simp,by simp;omega,by simpa [pF] using hat⟩,Weak.mk (by simp (disch:=omega) only [Zr,Ya,go_sem,seval])⟩
 ·intro m hm;refine Za [6] _ _ _ _ ?_;simp (disch:=omega) only [Zr,Ya,go_sem,seval];have hml:=hm.len
  refine Zm [1,2,6,7] (fun m:List Flt=> [(5,.sl 2 0 m.length m.length)]) (fun m=>Zr n++ [Ya a,.elems 2 (m.map eF)])
   (fun m=>FR (pF 26) ((0<=a.src/\a.src<n.places.length/\0<=a.dst/\a.dst<n.places.length)/\(0<=a.prof/\a.prof<=7/\0<=a.miles/\a.miles<=10000/\a.src≠a.dst)) 2 m) ?_ ?_
  ·simp (disch:=omega) only [go_sem,seval]
   repeat' (first | (refine ZF (fun hq=> ?_) (fun hq=> ?_)<;>(try simp only [decide_eq_true_eq,decide_eq_false_iff_not,Classical.not_not] at hq)<;>simp (disch:=omega) only [Sh.out hq,go_sem,seval]) | (refine ZH (fun hq=> ?_) (fun hq=> ?_)<;>(try simp only [decide_eq_true_eq,decide_eq_false_iff_not,Classical.not_not] at hq)<;>simp (disch:=omega) only [Sh.out hq,go_sem,seval]) | (refine ZO (fun hq=> ?_) (fun hq=> ?_)<;>(try simp only [decide_eq_true_eq,decide_eq_false_iff_not,Classical.not_not] at hq)<;>simp (disch:=omega) only [Sh.out hq,go_sem,seval]))
   all_goals try exact ⟨m,hm.no (by omega),Weak.mk (by simp (disch:=omega) only [Zr,Ya,go_sem,seval])⟩
   all_goals exact ⟨m++ [(2,at')],hm.yes (by omega) (by simpa [pF] using hat),Weak.mk (by simp (disch:=omega) only [Zr,Ya,go_sem,seval])⟩
  ·clear hm hml;intro m hm;refine Za [14] _ _ _ _ ?_;simp (disch:=omega) only [Zr,Ya,go_sem,seval];have hml:=hm.len;refine Xc [14] [1,2,5,6,7] (fun q:Nat×Bool=> [(8,.p (.bool q.2)),(9,.p (.int .i64 q.1))]) (fun _=>Zr n++ [Ya a,.elems 2 (m.map eF)]) (fun q=>q.1<=i/\(q.2=false↔ ∀j,j<q.1-> ¬Z4 a (nth n.arcs j))) (fun q=>i-q.1) (0,false) (by simp) (Weak.mk ?_) ?_
   ·simp (disch:=omega) only [Zr,Ya,go_sem,seval]
   ·rintro ⟨k,b⟩ ⟨hk,hb⟩;simp only at hk hb;simp (disch:=omega) only [Zr,Ya,go_sem,seval];refine cD ?_ ?_<;>intro h<;>simp (disch:=omega) only [Sh.out h,go_sem,seval]
    ·have hkn:k<n.arcs.length:=by omega
     cases b with
     | true =>
      simp (disch:=omega) only [go_sem,seval];exact ⟨(k+1,true),⟨by simp only;omega,by rw [Zk,<- hb];simp⟩,by simp only;omega,Weak.mk (by simp (disch:=omega) only [Zr,Ya,go_sem,seval])⟩
     | false =>
      simp (disch:=omega) only [go_sem,seval]
      repeat' (first | (refine ZF (fun hq=> ?_) (fun hq=> ?_)<;>(try simp only [decide_eq_true_eq,decide_eq_false_iff_not,Classical.not_not] at hq)<;>simp (disch:=omega) only [Sh.out hq,go_sem,seval]) | (refine ZH (fun hq=> ?_) (fun hq=> ?_)<;>(try simp only [decide_eq_true_eq,decide_eq_false_iff_not,Classical.not_not] at hq)<;>simp (disch:=omega) only [Sh.out hq,go_sem,seval]) | (refine ZO (fun hq=> ?_) (fun hq=> ?_)<;>(try simp only [decide_eq_true_eq,decide_eq_false_iff_not,Classical.not_not] at hq)<;>simp (disch:=omega) only [Sh.out hq,go_sem,seval]))
      all_goals refine ⟨(k+1,decide (Z4 a (nth n.arcs k))),⟨by simp only;omega,by rw [Zk,<- hb];simp⟩,by simp only;omega,Weak.mk ?_⟩
      all_goals simp (disch:=omega) only [Zr,Ya,go_sem,seval]
      all_goals simp [Z4, *]
    ·have hki:k=i:=by omega
     subst hki;have htw:(b=false↔ ∀j,j<k-> ¬Z4 a (nth n.arcs j)):=hb;clear hb hk h
     refine Zm [6,7] (fun m:List Flt=> [(5,.sl 2 0 m.length m.length)]) (fun m=>Zr n++ [Ya a,.elems 2 (m.map eF)])
      (fun m=>FR (pF 26) (((0<=a.src/\a.src<n.places.length/\0<=a.dst/\a.dst<n.places.length)/\(0<=a.prof/\a.prof<=7/\0<=a.miles/\a.miles<=10000/\a.src≠a.dst))/\ ∀j,j<k-> ¬Z4 a (nth n.arcs j)) 3 m) ?_ ?_
     ·simp (disch:=omega) only [go_sem,seval]
      cases b with
      | true =>
       simp (disch:=omega) only [go_sem,seval];exact ⟨m++ [(6,at')],hm.yes (by rw [<- htw];simp) (by simpa [pF] using hat),Weak.mk (by simp (disch:=omega) only [Zr,Ya,go_sem,seval])⟩
      | false =>
       simp (disch:=omega) only [go_sem,seval];exact ⟨m,hm.no (htw.1 rfl),Weak.mk (by simp (disch:=omega) only [Zr,Ya,go_sem,seval])⟩
     ·clear hm hml;intro m hm;refine Za [21] _ _ _ _ ?_;simp (disch:=omega) only [Zr,Ya,go_sem,seval];have hml:=hm.len;refine ((ZgD a.travel a.travel_c ht).frozenE).useV fun lt hlt=> ?_;simp (disch:=omega) only [go_sem,seval];have hltl:=hlt.len
      refine Xc [21] [6,7,11] (fun q:Nat×List Flt=> [(5,.sl 2 0 q.2.length q.2.length),(12,.p (.int .i64 q.1))]) (fun q=>Zr n++ [Ya a,.elems 2 (q.2.map eF)])
       (fun q=>q.1<=lt.length/\FR (pF 26) ((((0<=a.src/\a.src<n.places.length/\0<=a.dst/\a.dst<n.places.length)/\(0<=a.prof/\a.prof<=7/\0<=a.miles/\a.miles<=10000/\a.src≠a.dst))/\ ∀j,j<k-> ¬Z4 a (nth n.arcs j))/\q.1=0) (3+q.1) q.2) (fun q=>lt.length-q.1) (0,m) ⟨by simp,hm.to (by simp) (by simp)⟩ (Weak.mk ?_) ?_
      ·simp (disch:=omega) only [Zr,Ya,go_sem,seval]
      ·clear hm hml;rintro ⟨j,m⟩ ⟨hj,hm⟩;simp only at hj hm;have hml:=hm.len;simp (disch:=omega) only [Zr,Ya,go_sem,seval];refine cD ?_ ?_<;>intro h<;>simp (disch:=omega) only [Sh.out h,go_sem,seval]
       ·have hj2:j<lt.length:=by omega
        exact ⟨(j+1,m++ [((nth lt j).1,at')]),⟨by simp only;omega,(hm.yes (c:=False) (by simp) (by simpa [pF] using hat)).to (by simp only;omega) (by simp)⟩,by simp only;omega,Weak.mk (by simp (disch:=omega) only [Zr,Ya,go_sem,seval])⟩
       ·have hjl:j=lt.length:=by omega
        subst hjl;have hm2:=hm.to (d:=3+lt.length) (D:=(((0<=a.src/\a.src<n.places.length/\0<=a.dst/\a.dst<n.places.length)/\(0<=a.prof/\a.prof<=7/\0<=a.miles/\a.miles<=10000/\a.src≠a.dst))/\ ∀j,j<k-> ¬Z4 a (nth n.arcs j))/\Ur a.travel) (Nat.le_refl _) (by rw [<- hlt.emp,List.eq_nil_iff_length_eq_zero]);clear hm
        refine Zm [6,7] (fun m:List Flt=> [(5,.sl 2 0 m.length m.length)]) (fun m=>Zr n++ [Ya a,.elems 2 (m.map eF)])
         (fun m=>FR (pF 26) (((((0<=a.src/\a.src<n.places.length/\0<=a.dst/\a.dst<n.places.length)/\(0<=a.prof/\a.prof<=7/\0<=a.miles/\a.miles<=10000/\a.src≠a.dst))/\ ∀j,j<k-> ¬Z4 a (nth n.arcs j))/\Ur a.travel)/\a.slow.length<=16) (4+lt.length) m) ?_ ?_
        ·simp (disch:=omega) only [go_sem,seval];refine cD ?_ ?_<;>intro h2<;>simp (disch:=omega) only [Sh.out h2,go_sem,seval]
         ·exact ⟨m++ [(4,at')],(hm2.yes (by omega) (by simpa [pF] using hat)).to (by omega) Iff.rfl,Weak.mk (by simp (disch:=omega) only [Zr,Ya,go_sem,seval])⟩
         ·exact ⟨m,(hm2.no (by omega)).to (by omega) Iff.rfl,Weak.mk (by simp (disch:=omega) only [Zr,Ya,go_sem,seval])⟩
        ·clear hm2 hml h hj;intro m hm;refine Za [] _ _ _ _ ?_;simp (disch:=omega) only [Zr,Ya,go_sem,seval]
         refine Zf [6,7] (fun q:Nat×List Flt=> [(5,.sl 2 0 q.2.length q.2.length),(13,.p (.int .i64 q.1))]) (fun q=>Zr n++ [Ya a,.elems 2 (q.2.map eF)])
          (fun q=>q.1<=a.slow.length/\FR (pF 26) ((((((0<=a.src/\a.src<n.places.length/\0<=a.dst/\a.dst<n.places.length)/\(0<=a.prof/\a.prof<=7/\0<=a.miles/\a.miles<=10000/\a.src≠a.dst))/\ ∀j,j<k-> ¬Z4 a (nth n.arcs j))/\Ur a.travel)/\a.slow.length<=16)/\ ∀j,j<q.1->WX a.slow j) (4+lt.length+q.1) q.2) (fun q=>a.slow.length-q.1) (0,m) ⟨by simp,hm.to (by simp) (by simp)⟩ (Weak.mk ?_) ?_
         ·simp (disch:=omega) only [Zr,Ya,go_sem,seval]
         ·clear hm;rintro ⟨j,m⟩ ⟨hj,hm⟩;simp only at hj hm;have hml:=hm.len;simp (disch:=omega) only [Zr,Ya,go_sem,seval];refine cD ?_ ?_<;>intro h<;>simp (disch:=omega) only [Sh.out h,go_sem,seval]
          ·have hj2:j<a.slow.length:=by omega
           refine Zq mixed (by kernel_rfl) (by kernel_rfl) ?_;simp (disch:=omega) only [go_sem,seval];refine ZM (Ju (nth a.slow j).t) ?_;simp (disch:=omega) only [go_sem,seval];have hslo:WX a.slow j↔(ZcU (nth a.slow j).t=true/\ZcU (nth a.slow j).a=true/\(0<j->(nth a.slow (j-1)).t<(nth a.slow j).t)):=Iff.rfl;have hyes: ¬WX a.slow j->_:=fun hs=>(hm.yes (x:=(2,at')) hs (by simpa [pF] using hat)).to (D:=(((((0<=a.src/\a.src<n.places.length/\0<=a.dst/\a.dst<n.places.length)/\(0<=a.prof/\a.prof<=7/\0<=a.miles/\a.miles<=10000/\a.src≠a.dst))/\ ∀j,j<k-> ¬Z4 a (nth n.arcs j))/\Ur a.travel)/\a.slow.length<=16)/\ ∀i,i<j+1->WX a.slow i) (d:=4+lt.length+(j+1)) (by omega) (by simp only [Zk,and_assoc])
           have hno:WX a.slow j->_:=fun hs=>(hm.no hs).to (D:=(((((0<=a.src/\a.src<n.places.length/\0<=a.dst/\a.dst<n.places.length)/\(0<=a.prof/\a.prof<=7/\0<=a.miles/\a.miles<=10000/\a.src≠a.dst))/\ ∀j,j<k-> ¬Z4 a (nth n.arcs j))/\Ur a.travel)/\a.slow.length<=16)/\ ∀i,i<j+1->WX a.slow i) (d:=4+lt.length+(j+1)) (by omega) (by simp only [Zk,and_assoc])
           cases ht1:ZcU (nth a.slow j).t with
           | false =>
            simp (disch:=omega) only [go_sem,seval];exact ⟨(j+1,m++ [(2,at')]),⟨by simp only;omega,hyes (by rw [hslo,ht1];simp)⟩,by simp only;omega,Weak.mk (by simp (disch:=omega) only [Zr,Ya,go_sem,seval])⟩
           | true =>
            simp (disch:=omega) only [go_sem,seval];refine ZM (Ju (nth a.slow j).a) ?_;simp (disch:=omega) only [go_sem,seval]
            cases ht2:ZcU (nth a.slow j).a with
            | false =>
             simp (disch:=omega) only [go_sem,seval];exact ⟨(j+1,m++ [(2,at')]),⟨by simp only;omega,hyes (by rw [hslo,ht2];simp)⟩,by simp only;omega,Weak.mk (by simp (disch:=omega) only [Zr,Ya,go_sem,seval])⟩
            | true =>
             simp (disch:=omega) only [go_sem,seval]
             repeat' (first | (refine ZF (fun hq=> ?_) (fun hq=> ?_)<;>(try simp only [decide_eq_true_eq,decide_eq_false_iff_not,Classical.not_not] at hq)<;>simp (disch:=omega) only [Sh.out hq,go_sem,seval]) | (refine ZH (fun hq=> ?_) (fun hq=> ?_)<;>(try simp only [decide_eq_true_eq,decide_eq_false_iff_not,Classical.not_not] at hq)<;>simp (disch:=omega) only [Sh.out hq,go_sem,seval]) | (refine ZO (fun hq=> ?_) (fun hq=> ?_)<;>(try simp only [decide_eq_true_eq,decide_eq_false_iff_not,Classical.not_not] at hq)<;>simp (disch:=omega) only [Sh.out hq,go_sem,seval]))
             ·exact ⟨(j+1,m++ [(2,at')]),⟨by simp only;omega,hyes (by rw [hslo];omega)⟩,by simp only;omega,Weak.mk (by simp (disch:=omega) only [Zr,Ya,go_sem,seval])⟩
             ·exact ⟨(j+1,m),⟨by simp only;omega,hno (by rw [hslo];exact ⟨ht1,ht2,by omega⟩)⟩,by simp only;omega,Weak.mk (by simp (disch:=omega) only [Zr,Ya,go_sem,seval])⟩
             ·exact ⟨(j+1,m),⟨by simp only;omega,hno (by rw [hslo];exact ⟨ht1,ht2,by omega⟩)⟩,by simp only;omega,Weak.mk (by simp (disch:=omega) only [Zr,Ya,go_sem,seval])⟩
          ·have hjn:j=a.slow.length:=by omega
           subst hjn;exact ⟨m,hm.to (by omega) (by rw [Zcj,hga]),2,by simp (disch:=omega) only [Zr,Ya,go_sem,seval]⟩
theorem Zu {α:Type} [Inhabited α] {l:List α} {i:Nat} (h:i<l.length):nth l i∈l:=by rw [Zh h];exact List.getElem_mem _
theorem ZfR (n:Net) (hw:n.wf 1048576):ACalls Tryz.prog 26 [.p (Zbd n)] [] fun x H'=> ∃m:List Flt,FR (pF 26) (netOk n) 4194306000000 m/\x= .sl 0 0 m.length m.length/\H'= [.elems 2 (m.map eF)]:=by
 obtain ⟨w1,w2,w3,w4⟩:=hw;refine Zn [2] Tryz.func26 rfl Zmk ?_;simp (disch:=omega) only [Tryz.f26,go_sem,seval];refine (JF n w1 w2).useE fun m hm=> ?_;simp (disch:=omega) only [go_sem,seval];have hml:=hm.len;refine Zm [1] (fun m:List Flt=> [(3,.sl 1 0 m.length m.length)]) (fun m=>Zr n++ [.elems 2 (m.map eF)]) (fun m=>FR (pF 26) (YG n/\n.arcs.length<=1024) (n.places.length+2) m) ?_ ?_
 ·simp (disch:=omega) only [go_sem,seval];refine cD ?_ ?_<;>intro h<;>simp (disch:=omega) only [Sh.out h,go_sem,seval]
  ·exact ⟨m++ [(4,[97,114,99,115])],hm.yes (by omega) (by simp [pF]),Weak.mk (by simp (disch:=omega) only [Zr,go_sem,seval])⟩
  ·exact ⟨m,hm.no (by omega),Weak.mk (by simp (disch:=omega) only [Zr,go_sem,seval])⟩
 ·clear hm hml;intro m hm;refine Za [] _ _ _ _ ?_;simp (disch:=omega) only [Zr,go_sem,seval];refine Zf [1] (fun q:Nat×List Flt=> [(3,.sl 1 0 q.2.length q.2.length),(4,.p (.int .i64 q.1))]) (fun q=>Zr n++ [.elems 2 (q.2.map eF)]) (fun q=>q.1<=n.arcs.length/\FR (pF 26) ((YG n/\n.arcs.length<=1024)/\ ∀j,j<q.1->Zcj n j) (n.places.length+2+q.1*4000000) q.2) (fun q=>n.arcs.length-q.1) (0,m) ⟨by simp,hm.to (by simp) (by simp)⟩ (Weak.mk ?_) ?_
  ·simp (disch:=omega) only [Zr,go_sem,seval]
  ·clear hm;rintro ⟨k,m⟩ ⟨hk,hm⟩;simp only at hk hm;have hml:=hm.len;simp (disch:=omega) only [Zr,go_sem,seval];refine cD ?_ ?_<;>intro h<;>simp (disch:=omega) only [Sh.out h,go_sem,seval]
   ·have hk2:k<n.arcs.length:=by omega
    have ha:=w4 _ (Zu hk2);refine (ZdZ n k hk2 w1 w3 ha.2.2.2.2.1 ha.2.2.2.2.2.2.1).useE fun f hf=> ?_;simp (disch:=omega) only [go_sem,seval];have hfl:=hf.len
    have q1:(m.length+f.length)*24<=140737488355328:=by omega
    have q2:m.length+f.length<=140737488355328:=by omega
    simp (disch:=omega) only [q1,q2,go_sem,seval];refine ⟨(k+1,m++f),⟨by simp only;omega,(hm.app hf).to (by simp only;omega) (by simp only [Zk,and_assoc])⟩,by simp only;omega,Weak.mk ?_⟩;simp (disch:=omega) only [Zr,List.length_append,List.map_append,go_sem,seval]
   ·have hkn:k=n.arcs.length:=by omega
    subst hkn;exact ⟨m,hm.to (by omega) (by rw [netOk]),1,by simp (disch:=omega) only [Zr,go_sem,seval]⟩
theorem Xx (n lo hi:Int):PC 43 [.p (.int .i64 n),.p (.int .i64 lo),.p (.int .i64 hi)] (.bool (rng n lo hi)):=by
 refine Zb Tryz.func43 rfl Zk5 ?_;simp (disch:=omega) only [Tryz.f43,go_sem,seval];refine gT ?_ ?_<;>intro h<;>simp (disch:=omega) only [Sh.out h,go_sem,seval]
 all_goals (simp [rng];first | done | omega | (rw [Bool.eq_iff_iff];simp;omega))
def Wh (l:List Int) (d:Int):Bool:=rng l.length 1 3&&decide ((l.length:Int)=d)&&l.all fun n=>rng n 0 1000
theorem JO (l:List Int) (c:Bool) (d:Int) (hl:l.length<=1048576):PC 62 [.p (.list c (l.map eI)),.p (.int .i64 d)] (.bool (Wh l d)):=by
 refine Zb Tryz.func62 rfl ZmC ?_;simp (disch:=omega) only [Tryz.f62,go_sem,seval];refine (Xx l.length 1 3).use ?_;simp (disch:=omega) only [go_sem,seval];refine gF ?_ ?_<;>intro h<;>simp (disch:=omega) only [Sh.out h,go_sem,seval]
 ·simp only [Bool.not_eq_true'] at h;simp [Wh,h]
 ·simp only [Bool.not_eq_false'] at h;refine cD ?_ ?_<;>intro h2<;>simp (disch:=omega) only [Sh.out h2,go_sem,seval]
  ·simp [Wh,h,h2]
  ·simp only [Classical.not_not] at h2;subst h2;refine Zf [0] (fun k:Nat=> [(5,.p (.int .i64 k))]) (fun _=> []) (fun k=>k<=l.length/\ ∀j,j<k->rng (nth l j) 0 1000=true) (fun k=>l.length-k) 0 (by simp) (Weak.mk ?_) ?_
   ·simp (disch:=omega) only [go_sem,seval]
   ·rintro k ⟨hk,hno⟩;simp (disch:=omega) only [go_sem,seval];refine cD ?_ ?_<;>intro h3<;>simp (disch:=omega) only [Sh.out h3,go_sem,seval]
    ·have hk2:k<l.length:=by omega
     refine (Xx (nth l k) 0 1000).use ?_;simp (disch:=omega) only [go_sem,seval];refine cD ?_ ?_<;>intro h4<;>simp (disch:=omega) only [Sh.out h4,go_sem,seval]
     ·simp only [Bool.not_eq_true'] at h4
      have:l.all (fun n=>rng n 0 1000)=false:=by
       rw [List.all_eq_false];exact ⟨nth l k,Zu hk2,by rw [h4];simp⟩
      simp [Wh,this]
     ·simp only [Bool.not_eq_false'] at h4;exact ⟨k+1,⟨by omega,Zk.2 ⟨hno,h4⟩⟩,by omega,wk⟩
    ·have:l.all (fun n=>rng n 0 1000)=true:=by
      rw [List.all_eq_true];intro x hx;obtain ⟨j,hj,rfl⟩:=List.mem_iff_getElem.1 hx;rw [<- Zh hj];exact hno j (by omega)
     simp [Wh,h,this]
def Uc (l:List Typ) (i:Nat) (s:List UInt8):Bool:=(List.range i).any fun j=>decide ((nth l j).name=s)
theorem Xz {l:List Typ} {i:Nat} {s:List UInt8} :Uc l i s=false↔ ∀j,j<i->(nth l j).name≠s:=by
 simp [Uc,List.any_eq_false]
theorem ZaA (l:List Typ) (c:Bool) (i:Nat) (s:List UInt8) (hi:i<=l.length) (hl:l.length<=1048576):PC 61 [.p (.list c (l.map QZ)),.p (.int .i64 (i:Nat)),.p (.str s)] (.bool (Uc l i s)):=by
 refine Zb Tryz.func61 rfl Zmr ?_;simp (disch:=omega) only [Tryz.f61,go_sem,seval];refine Zf [0,1,2] (fun k:Nat=> [(7,.p (.int .i64 k))]) (fun _=> []) (fun k=>k<=i/\ ∀j,j<k->(nth l j).name≠s) (fun k=>i-k) 0 (by simp) (Weak.mk ?_) ?_
 ·simp (disch:=omega) only [go_sem,seval]
 ·rintro k ⟨hk,hno⟩;simp (disch:=omega) only [go_sem,seval];refine cD ?_ ?_<;>intro h3<;>simp (disch:=omega) only [Sh.out h3,go_sem,seval]
  ·have hk2:k<l.length:=by omega
   refine cD ?_ ?_<;>intro h4<;>simp (disch:=omega) only [Sh.out h4,go_sem,seval]
   ·have:Uc l i s=true:=by
     cases hq:Uc l i s with
     | true=>rfl
     | false=>exact absurd h4 (Xz.1 hq k (by omega))
    rw [this]
   ·exact ⟨k+1,⟨by omega,Zk.2 ⟨hno,h4⟩⟩,by omega,wk⟩
  ·have:k=i:=by omega
   subst this;rw [Xz.2 hno]
def dimsOf (l:List Typ):Int:=if l.length=0 then 0 else ((nth l 0).cap.length:Int)
theorem QT (l:List Typ) (c:Bool) (hl:l.length<=1048576):PC 29 [.p (.list c (l.map QZ))] (.int .i64 (dimsOf l)):=by
 refine Zb Tryz.func29 rfl Zll ?_;simp (disch:=omega) only [Tryz.f29,go_sem,seval];refine cD ?_ ?_<;>intro h<;>simp (disch:=omega) only [Sh.out h,go_sem,seval]
 ·have:l.length=0:=by omega
  simp [dimsOf,this]
 ·have h0:0<l.length:=by omega
  have h1:l.length≠0:=by omega
  simp (disch:=first | omega | (simp only [List.length_cons,List.length_nil,List.length_append,List.length_map,List.length_take,List.length_drop]<;>omega)) only [dimsOf,h1,go_sem,seval]
def Xk (t:Typ):AM.Obj:= .cells [.p (.str t.name),.p (.int .i64 t.count),.p (.int .i64 t.src),.p (.int .i64 t.dst),.p (.list t.cap_c (t.cap.map eI)),.p (.int .i64 t.skills),.p (.int .i64 t.prof),.p (.int .i64 t.opn),.p (.int .i64 t.cls),.p (.int .i64 t.drive),.p (.int .i64 t.rest),.p (.int .i64 t.fixed),.p (.int .i64 t.perMile),.p (.int .i64 t.perTick)]
def K9 (n:Net) (l:List Typ) (i:Nat):Prop:=((((((((nameOk (nth l i).name=true)/\(∀j,j<i->(nth l j).name≠(nth l i).name))/\rng (nth l i).count 0 10=true)/\(rng (nth l i).src 0 (n.places.length-1)=true/\rng (nth l i).dst 0 (n.places.length-1)=true))/\Wh (nth l i).cap (dimsOf l)=true)/\rng (nth l i).skills 0 1073741823=true)/\(rng (nth l i).opn 0 (nth l i).cls=true/\(nth l i).cls<=4096))/\(rng (nth l i).drive 1 4096=true/\rng (nth l i).rest 0 4096=true))/\(rng (nth l i).prof 0 7=true/\rng (nth l i).fixed 0 100000=true/\rng (nth l i).perMile 0 100=true/\rng (nth l i).perTick 0 100=true)
theorem Zaf (n:Net) (l:List Typ) (c:Bool) (i:Nat) (hi:i<l.length) (hl:l.length<=1048576) (hw:n.wf 1048576) (ht:(nth l i).wf 1048576) :
  ACalls Tryz.prog 44 [.p (Zbd n),.p (.list c (l.map QZ)),.p (.int .i64 (i:Nat))] [] fun x H'=> ∃m:List Int,FR (fun _=>True) (K9 n l i) 9 m/\x= .sl 0 0 m.length m.length/\H'= [.elems 1 (m.map eI)]:=by
 obtain ⟨w1,w2,w3,w4⟩:=hw;refine Zn [3] Tryz.func44 rfl ZkU ?_;simp (disch:=omega) only [Tryz.f44,go_sem,seval];have hty:K9 n l i↔((((((((nameOk (nth l i).name=true)/\(∀j,j<i->(nth l j).name≠(nth l i).name))/\rng (nth l i).count 0 10=true)/\(rng (nth l i).src 0 (n.places.length-1)=true/\rng (nth l i).dst 0 (n.places.length-1)=true))/\Wh (nth l i).cap (dimsOf l)=true)/\rng (nth l i).skills 0 1073741823=true)/\(rng (nth l i).opn 0 (nth l i).cls=true/\(nth l i).cls<=4096))/\(rng (nth l i).drive 1 4096=true/\rng (nth l i).rest 0 4096=true))/\(rng (nth l i).prof 0 7=true/\rng (nth l i).fixed 0 100000=true/\rng (nth l i).perMile 0 100=true/\rng (nth l i).perTick 0 100=true):=Iff.rfl
 generalize hga:nth l i=t at ht hty ⊢;have hname:=ht.1;have hcap:=ht.2.2.2.2.1;refine ZD (Weak.ofNil 8 1 (by simp (disch:=omega) only [go_sem,seval]) (by simp) (Weak.refl _ _ _)) ?_;refine Zm [1,2,3,7] (fun m:List Int=> [(8,.sl 2 0 m.length m.length)]) (fun m=>Zr n++ [Xk t,.elems 1 (m.map eI)]) (fun m=>FR (fun _=>True) (nameOk t.name=true) 1 m) ?_ ?_
 ·simp (disch:=omega) only [go_sem,seval];refine (ZaQ t.name hname).use ?_;simp (disch:=omega) only [go_sem,seval];refine cD ?_ ?_<;>intro h0<;>simp (disch:=omega) only [Sh.out h0,go_sem,seval]
  ·simp only [Bool.not_eq_true'] at h0;exact ⟨[5],⟨by simp,by simp [h0],by simp⟩,Weak.mk (by simp (disch:=omega) only [Zr,Xk,go_sem,seval])⟩
  ·simp only [Bool.not_eq_false'] at h0;exact ⟨[],FR.nil (by simp [h0]),Weak.mk (by simp (disch:=omega) only [Zr,Xk,go_sem,seval])⟩
 ·skip
  intro m hm;refine Za [5] _ _ _ _ ?_;simp (disch:=omega) only [Zr,Xk,go_sem,seval];have hml:=hm.len;refine Zm [1,3,7] (fun m:List Int=> [(8,.sl 2 0 m.length m.length)]) (fun m=>Zr n++ [Xk t,.elems 1 (m.map eI)]) (fun m=>FR (fun _=>True) ((nameOk t.name=true)/\(∀j,j<i->(nth l j).name≠t.name)) 2 m) ?_ ?_
  ·simp (disch:=omega) only [go_sem,seval];refine (ZaA l c i t.name (by omega) hl).use ?_;simp (disch:=omega) only [go_sem,seval];refine cD ?_ ?_<;>intro h<;>simp (disch:=omega) only [Sh.out h,go_sem,seval]
   ·exact ⟨m++ [6],hm.yes (by rw [<- Xz,h];simp) trivial,Weak.mk (by simp (disch:=omega) only [Zr,Xk,go_sem,seval])⟩
   ·exact ⟨m,hm.no (by exact Xz.1 h),Weak.mk (by simp (disch:=omega) only [Zr,Xk,go_sem,seval])⟩
  ·clear hm hml;intro m hm;refine Za [7] _ _ _ _ ?_;simp (disch:=omega) only [Zr,Xk,go_sem,seval];have hml:=hm.len;refine Zm [1,3,7] (fun m:List Int=> [(8,.sl 2 0 m.length m.length)]) (fun m=>Zr n++ [Xk t,.elems 1 (m.map eI)]) (fun m=>FR (fun _=>True) (((nameOk t.name=true)/\(∀j,j<i->(nth l j).name≠t.name))/\rng t.count 0 10=true) 3 m) ?_ ?_
   ·simp (disch:=omega) only [go_sem,seval];refine (Xx t.count 0 10).use ?_;simp (disch:=omega) only [go_sem,seval];refine cD ?_ ?_<;>intro h0<;>simp (disch:=omega) only [Sh.out h0,go_sem,seval]
    ·simp only [Bool.not_eq_true'] at h0;exact ⟨m++ [22],hm.yes (by simp [h0]) trivial,Weak.mk (by simp (disch:=omega) only [Zr,Xk,go_sem,seval])⟩
    ·simp only [Bool.not_eq_false'] at h0;exact ⟨m,hm.no (by simp [h0]),Weak.mk (by simp (disch:=omega) only [Zr,Xk,go_sem,seval])⟩
   ·clear hm hml;intro m hm;refine Za [9] _ _ _ _ ?_;simp (disch:=omega) only [Zr,Xk,go_sem,seval];have hml:=hm.len;refine Zm [1,7] (fun m:List Int=> [(8,.sl 2 0 m.length m.length)]) (fun m=>Zr n++ [Xk t,.elems 1 (m.map eI)]) (fun m=>FR (fun _=>True) ((((nameOk t.name=true)/\(∀j,j<i->(nth l j).name≠t.name))/\rng t.count 0 10=true)/\(rng t.src 0 (n.places.length-1)=true/\rng t.dst 0 (n.places.length-1)=true)) 4 m) ?_ ?_
    ·simp (disch:=omega) only [go_sem,seval];refine (Xx t.src 0 (n.places.length-1)).use ?_;simp (disch:=omega) only [go_sem,seval];refine gF ?_ ?_<;>intro h0<;>simp (disch:=omega) only [Sh.out h0,go_sem,seval]
     ·simp only [Bool.not_eq_true'] at h0;exact ⟨m++ [11],hm.yes (by simp [h0]) trivial,Weak.mk (by simp (disch:=omega) only [Zr,Xk,go_sem,seval])⟩
     ·simp only [Bool.not_eq_false'] at h0;refine (Xx t.dst 0 (n.places.length-1)).use ?_;simp (disch:=omega) only [go_sem,seval];refine cD ?_ ?_<;>intro h1<;>simp (disch:=omega) only [Sh.out h1,go_sem,seval]
      ·simp only [Bool.not_eq_true'] at h1;exact ⟨m++ [11],hm.yes (by simp [h1]) trivial,Weak.mk (by simp (disch:=omega) only [Zr,Xk,go_sem,seval])⟩
      ·simp only [Bool.not_eq_false'] at h1;exact ⟨m,hm.no (by simp [h0,h1]),Weak.mk (by simp (disch:=omega) only [Zr,Xk,go_sem,seval])⟩
    ·clear hm hml;intro m hm;refine Za [11] _ _ _ _ ?_;simp (disch:=omega) only [Zr,Xk,go_sem,seval];have hml:=hm.len;refine Zm [7] (fun m:List Int=> [(8,.sl 2 0 m.length m.length)]) (fun m=>Zr n++ [Xk t,.elems 1 (m.map eI)]) (fun m=>FR (fun _=>True) (((((nameOk t.name=true)/\(∀j,j<i->(nth l j).name≠t.name))/\rng t.count 0 10=true)/\(rng t.src 0 (n.places.length-1)=true/\rng t.dst 0 (n.places.length-1)=true))/\Wh t.cap (dimsOf l)=true) 5 m) ?_ ?_
     ·simp (disch:=omega) only [go_sem,seval];refine Zq mixed (by kernel_rfl) (by kernel_rfl) ?_;simp (disch:=omega) only [go_sem,seval];refine ZM (QT l c hl) ?_;simp (disch:=omega) only [go_sem,seval];refine ZM (JO t.cap t.cap_c (dimsOf l) hcap) ?_;simp (disch:=omega) only [go_sem,seval];refine cD ?_ ?_<;>intro h<;>simp (disch:=omega) only [Sh.out h,go_sem,seval]
      ·simp only [Bool.not_eq_true'] at h;exact ⟨m++ [17],hm.yes (by simp [h]) trivial,Weak.mk (by simp (disch:=omega) only [Zr,Xk,go_sem,seval])⟩
      ·simp only [Bool.not_eq_false'] at h;exact ⟨m,hm.no (by simp [h]),Weak.mk (by simp (disch:=omega) only [Zr,Xk,go_sem,seval])⟩
     ·clear hm hml;intro m hm;refine Za [13] _ _ _ _ ?_;simp (disch:=omega) only [Zr,Xk,go_sem,seval];have hml:=hm.len;refine Zm [7] (fun m:List Int=> [(8,.sl 2 0 m.length m.length)]) (fun m=>Zr n++ [Xk t,.elems 1 (m.map eI)]) (fun m=>FR (fun _=>True) ((((((nameOk t.name=true)/\(∀j,j<i->(nth l j).name≠t.name))/\rng t.count 0 10=true)/\(rng t.src 0 (n.places.length-1)=true/\rng t.dst 0 (n.places.length-1)=true))/\Wh t.cap (dimsOf l)=true)/\rng t.skills 0 1073741823=true) 6 m) ?_ ?_
      ·simp (disch:=omega) only [go_sem,seval];refine (Xx t.skills 0 1073741823).use ?_;simp (disch:=omega) only [go_sem,seval];refine cD ?_ ?_<;>intro h0<;>simp (disch:=omega) only [Sh.out h0,go_sem,seval]
       ·simp only [Bool.not_eq_true'] at h0;exact ⟨m++ [18],hm.yes (by simp [h0]) trivial,Weak.mk (by simp (disch:=omega) only [Zr,Xk,go_sem,seval])⟩
       ·simp only [Bool.not_eq_false'] at h0;exact ⟨m,hm.no (by simp [h0]),Weak.mk (by simp (disch:=omega) only [Zr,Xk,go_sem,seval])⟩
      ·clear hm hml;intro m hm;refine Za [15] _ _ _ _ ?_;simp (disch:=omega) only [Zr,Xk,go_sem,seval];have hml:=hm.len;refine Zm [7] (fun m:List Int=> [(8,.sl 2 0 m.length m.length)]) (fun m=>Zr n++ [Xk t,.elems 1 (m.map eI)]) (fun m=>FR (fun _=>True) (((((((nameOk t.name=true)/\(∀j,j<i->(nth l j).name≠t.name))/\rng t.count 0 10=true)/\(rng t.src 0 (n.places.length-1)=true/\rng t.dst 0 (n.places.length-1)=true))/\Wh t.cap (dimsOf l)=true)/\rng t.skills 0 1073741823=true)/\(rng t.opn 0 t.cls=true/\t.cls<=4096)) 7 m) ?_ ?_
       ·simp (disch:=omega) only [go_sem,seval];refine (Xx t.opn 0 t.cls).use ?_;simp (disch:=omega) only [go_sem,seval];refine gF ?_ ?_<;>intro h0<;>simp (disch:=omega) only [Sh.out h0,go_sem,seval]
        ·simp only [Bool.not_eq_true'] at h0;exact ⟨m++ [15],hm.yes (by simp [h0]) trivial,Weak.mk (by simp (disch:=omega) only [Zr,Xk,go_sem,seval])⟩
        ·simp only [Bool.not_eq_false'] at h0;refine cD ?_ ?_<;>intro h1<;>simp (disch:=omega) only [Sh.out h1,go_sem,seval]
         ·exact ⟨m++ [15],hm.yes (by omega) trivial,Weak.mk (by simp (disch:=omega) only [Zr,Xk,go_sem,seval])⟩
         ·exact ⟨m,hm.no (by exact ⟨h0,by omega⟩),Weak.mk (by simp (disch:=omega) only [Zr,Xk,go_sem,seval])⟩
       ·clear hm hml;intro m hm;refine Za [17] _ _ _ _ ?_;simp (disch:=omega) only [Zr,Xk,go_sem,seval];have hml:=hm.len;refine Zm [7] (fun m:List Int=> [(8,.sl 2 0 m.length m.length)]) (fun m=>Zr n++ [Xk t,.elems 1 (m.map eI)]) (fun m=>FR (fun _=>True) ((((((((nameOk t.name=true)/\(∀j,j<i->(nth l j).name≠t.name))/\rng t.count 0 10=true)/\(rng t.src 0 (n.places.length-1)=true/\rng t.dst 0 (n.places.length-1)=true))/\Wh t.cap (dimsOf l)=true)/\rng t.skills 0 1073741823=true)/\(rng t.opn 0 t.cls=true/\t.cls<=4096))/\(rng t.drive 1 4096=true/\rng t.rest 0 4096=true)) 8 m) ?_ ?_
        ·simp (disch:=omega) only [go_sem,seval];refine (Xx t.drive 1 4096).use ?_;simp (disch:=omega) only [go_sem,seval];refine gF ?_ ?_<;>intro h0<;>simp (disch:=omega) only [Sh.out h0,go_sem,seval]
         ·simp only [Bool.not_eq_true'] at h0;exact ⟨m++ [16],hm.yes (by simp [h0]) trivial,Weak.mk (by simp (disch:=omega) only [Zr,Xk,go_sem,seval])⟩
         ·simp only [Bool.not_eq_false'] at h0;refine (Xx t.rest 0 4096).use ?_;simp (disch:=omega) only [go_sem,seval];refine cD ?_ ?_<;>intro h1<;>simp (disch:=omega) only [Sh.out h1,go_sem,seval]
          ·simp only [Bool.not_eq_true'] at h1;exact ⟨m++ [16],hm.yes (by simp [h1]) trivial,Weak.mk (by simp (disch:=omega) only [Zr,Xk,go_sem,seval])⟩
          ·simp only [Bool.not_eq_false'] at h1;exact ⟨m,hm.no (by simp [h0,h1]),Weak.mk (by simp (disch:=omega) only [Zr,Xk,go_sem,seval])⟩
        ·clear hm hml;intro m hm;refine Za [19] _ _ _ _ ?_;simp (disch:=omega) only [Zr,Xk,go_sem,seval];have hml:=hm.len;refine Zm [] (fun m:List Int=> [(8,.sl 2 0 m.length m.length)]) (fun m=>Zr n++ [Xk t,.elems 1 (m.map eI)]) (fun m=>FR (fun _=>True) (((((((((nameOk t.name=true)/\(∀j,j<i->(nth l j).name≠t.name))/\rng t.count 0 10=true)/\(rng t.src 0 (n.places.length-1)=true/\rng t.dst 0 (n.places.length-1)=true))/\Wh t.cap (dimsOf l)=true)/\rng t.skills 0 1073741823=true)/\(rng t.opn 0 t.cls=true/\t.cls<=4096))/\(rng t.drive 1 4096=true/\rng t.rest 0 4096=true))/\(rng t.prof 0 7=true/\rng t.fixed 0 100000=true/\rng t.perMile 0 100=true/\rng t.perTick 0 100=true)) 9 m) ?_ ?_
         ·simp (disch:=omega) only [go_sem,seval];refine (Xx t.prof 0 7).use ?_;simp (disch:=omega) only [go_sem,seval];refine gF ?_ ?_<;>intro h0<;>simp (disch:=omega) only [Sh.out h0,go_sem,seval]
          ·simp only [Bool.not_eq_true'] at h0;exact ⟨m++ [2],hm.yes (by simp [h0]) trivial,Weak.mk (by simp (disch:=omega) only [Zr,Xk,go_sem,seval])⟩
          ·simp only [Bool.not_eq_false'] at h0;refine (Xx t.fixed 0 100000).use ?_;simp (disch:=omega) only [go_sem,seval];refine gF ?_ ?_<;>intro h1<;>simp (disch:=omega) only [Sh.out h1,go_sem,seval]
           ·simp only [Bool.not_eq_true'] at h1;exact ⟨m++ [2],hm.yes (by simp [h1]) trivial,Weak.mk (by simp (disch:=omega) only [Zr,Xk,go_sem,seval])⟩
           ·simp only [Bool.not_eq_false'] at h1;refine (Xx t.perMile 0 100).use ?_;simp (disch:=omega) only [go_sem,seval];refine gF ?_ ?_<;>intro h2<;>simp (disch:=omega) only [Sh.out h2,go_sem,seval]
            ·simp only [Bool.not_eq_true'] at h2;exact ⟨m++ [2],hm.yes (by simp [h2]) trivial,Weak.mk (by simp (disch:=omega) only [Zr,Xk,go_sem,seval])⟩
            ·simp only [Bool.not_eq_false'] at h2;refine (Xx t.perTick 0 100).use ?_;simp (disch:=omega) only [go_sem,seval];refine cD ?_ ?_<;>intro h3<;>simp (disch:=omega) only [Sh.out h3,go_sem,seval]
             ·simp only [Bool.not_eq_true'] at h3;exact ⟨m++ [2],hm.yes (by simp [h3]) trivial,Weak.mk (by simp (disch:=omega) only [Zr,Xk,go_sem,seval])⟩
             ·simp only [Bool.not_eq_false'] at h3;exact ⟨m,hm.no (by simp [h0,h1,h2,h3]),Weak.mk (by simp (disch:=omega) only [Zr,Xk,go_sem,seval])⟩
         ·clear hm hml;intro m hm;refine Za [] _ _ _ _ ?_;simp (disch:=omega) only [Zr,Xk,go_sem,seval];have hml:=hm.len;exact ⟨m,hm.to (by omega) (by rw [hty]),2,by simp (disch:=omega) only [Zr,Xk,go_sem,seval]⟩
def typesOk (n:Net) (l:List Typ):Prop:=rng l.length 1 6=true/\ ∀i,i<l.length->K9 n l i
theorem Zg9 (n:Net) (l:List Typ) (c:Bool) (hw:n.wf 1048576) (hl:l.length<=1048576) (hlw: ∀t∈l,t.wf 1048576) :
  ACalls Tryz.prog 27 [.p (Zbd n),.p (.list c (l.map QZ))] [] fun x H'=> ∃m:List Flt,FR (pF 20) (typesOk n l) (1+9*l.length) m/\x= .sl 0 0 m.length m.length/\H'= [.elems 2 (m.map eF)]:=by
 refine Zn [2] Tryz.func27 rfl Zmd ?_;simp (disch:=omega) only [Tryz.f27,go_sem,seval];refine ZD (Weak.ofNil 5 2 (by simp (disch:=omega) only [go_sem,seval]) (by simp) (Weak.refl _ _ _)) ?_;refine Zm [1,2] (fun m:List Flt=> [(5,.sl 1 0 m.length m.length)]) (fun m=>Zr n++ [.elems 2 (m.map eF)]) (fun m=>FR (pF 20) (rng l.length 1 6=true) 1 m) ?_ ?_
 ·simp (disch:=omega) only [go_sem,seval];refine (Xx l.length 1 6).use ?_;simp (disch:=omega) only [go_sem,seval];refine cD ?_ ?_<;>intro h<;>simp (disch:=omega) only [Sh.out h,go_sem,seval]
  ·simp only [Bool.not_eq_true'] at h;exact ⟨[(4,[])],⟨by simp,by simp [h],by simp [pF]⟩,Weak.mk (by simp (disch:=omega) only [Zr,go_sem,seval])⟩
  ·simp only [Bool.not_eq_false'] at h;exact ⟨[],FR.nil h,Weak.mk (by simp (disch:=omega) only [Zr,go_sem,seval])⟩
 ·intro m hm;refine Za [] _ _ _ _ ?_;simp (disch:=omega) only [Zr,go_sem,seval];refine Zf [1,2] (fun q:Nat×List Flt=> [(5,.sl 1 0 q.2.length q.2.length),(6,.p (.int .i64 q.1))]) (fun q=>Zr n++ [.elems 2 (q.2.map eF)]) (fun q=>q.1<=l.length/\FR (pF 20) (rng l.length 1 6=true/\ ∀j,j<q.1->K9 n l j) (1+9*q.1) q.2) (fun q=>l.length-q.1) (0,m) ⟨by simp,hm.to (by simp) (by simp)⟩ (Weak.mk ?_) ?_
  ·simp (disch:=omega) only [Zr,go_sem,seval]
  ·clear hm;rintro ⟨k,m⟩ ⟨hk,hm⟩;simp only at hk hm;have hml:=hm.len;simp (disch:=omega) only [Zr,go_sem,seval];refine cD ?_ ?_<;>intro h<;>simp (disch:=omega) only [Sh.out h,go_sem,seval]
   ·have hk2:k<l.length:=by omega
    have hI:I64 (k:Int):=by omega
    have hdl:=Yd k hI;refine ((Zaf n l c k hk2 hl hw (hlw _ (Zu hk2))).frozenE).useV fun e he=> ?_;simp (disch:=omega) only [go_sem,seval];have hel:=he.len;refine Zf [1,2,6,7] (fun q:Nat×List Flt=> [(5,.sl 1 0 q.2.length q.2.length),(8,.p (.int .i64 q.1))]) (fun q=>Zr n++ [.elems 2 (q.2.map eF)]) (fun q=>q.1<=e.length/\FR (pF 20) ((rng l.length 1 6=true/\ ∀j,j<k->K9 n l j)/\q.1=0) (1+9*k+q.1) q.2) (fun q=>e.length-q.1) (0,m) ⟨by simp,hm.to (by simp) (by simp)⟩ (Weak.mk ?_) ?_
    ·simp (disch:=omega) only [Zr,go_sem,seval]
    ·clear hm hml;rintro ⟨j,m⟩ ⟨hj,hm⟩;simp only at hj hm;have hml:=hm.len;simp (disch:=omega) only [Zr,go_sem,seval];refine cD ?_ ?_<;>intro h2<;>simp (disch:=omega) only [Sh.out h2,go_sem,seval]
     ·have hj2:j<e.length:=by omega
      refine Xj 9 mixed (by kernel_rfl) (by kernel_rfl) ?_;simp (disch:=omega) only [go_sem,seval];refine ZM (YW k hI) ?_;simp (disch:=omega) only [go_sem,seval];exact ⟨(j+1,m++ [(nth e j,Qc k)]),⟨by simp only;omega,(hm.yes (c:=False) (by simp) (by simpa [pF] using hdl)).to (by simp only;omega) (by simp)⟩,by simp only;omega,Weak.mk (by simp (disch:=omega) only [Zr,go_sem,seval])⟩
     ·have hjl:j=e.length:=by omega
      subst hjl;exact ⟨(k+1,m),⟨by simp only;omega,hm.to (by simp only;omega) (by simp only [Zk,and_assoc];rw [<- he.emp,List.eq_nil_iff_length_eq_zero])⟩,by simp only;omega,Weak.mk (by simp (disch:=omega) only [Zr,go_sem,seval])⟩
   ·have hkn:k=l.length:=by omega
    subst hkn;exact ⟨m,hm.to (by omega) (by rw [typesOk]),1,by simp (disch:=omega) only [Zr,go_sem,seval]⟩
theorem Ug (n lo hi:Int):PC 64 [.p (.int .i64 n),.p (.int .i64 lo),.p (.int .i64 hi)] (.bool (rng n lo hi)):=by
 refine Zb Tryz.func64 rfl Zl3 ?_;simp (disch:=omega) only [Tryz.f64,go_sem,seval];refine gT ?_ ?_<;>intro h<;>simp (disch:=omega) only [Sh.out h,go_sem,seval]
 all_goals (simp [rng];first | done | omega | (rw [Bool.eq_iff_iff];simp;omega))
def loadOk (l:List Int) (d:Int):Bool:=decide ((l.length:Int)=d)&&l.all fun n=>rng n 0 1000
theorem Ks (l:List Int) (c:Bool) (d:Int) (hl:l.length<=1048576):PC 63 [.p (.list c (l.map eI)),.p (.int .i64 d)] (.bool (loadOk l d)):=by
 refine Zb Tryz.func63 rfl Zlg ?_;simp (disch:=omega) only [Tryz.f63,go_sem,seval];refine cD ?_ ?_<;>intro h2<;>simp (disch:=omega) only [Sh.out h2,go_sem,seval]
 ·simp [loadOk,h2]
 ·simp only [Classical.not_not] at h2;subst h2;refine Zf [0] (fun k:Nat=> [(5,.p (.int .i64 k))]) (fun _=> []) (fun k=>k<=l.length/\ ∀j,j<k->rng (nth l j) 0 1000=true) (fun k=>l.length-k) 0 (by simp) (Weak.mk ?_) ?_
  ·simp (disch:=omega) only [go_sem,seval]
  ·rintro k ⟨hk,hno⟩;simp (disch:=omega) only [go_sem,seval];refine cD ?_ ?_<;>intro h3<;>simp (disch:=omega) only [Sh.out h3,go_sem,seval]
   ·have hk2:k<l.length:=by omega
    have hbad:rng (nth l k) 0 1000=false->loadOk l l.length=false:=fun h4=>by
     have:l.all (fun n=>rng n 0 1000)=false:=by
      rw [List.all_eq_false];exact ⟨nth l k,Zu hk2,by rw [h4];simp⟩
     simp [loadOk,this]
    repeat' (first | (refine ZF (fun hq=> ?_) (fun hq=> ?_)<;>(try simp only [decide_eq_true_eq,decide_eq_false_iff_not,Classical.not_not] at hq)<;>simp (disch:=omega) only [Sh.out hq,go_sem,seval]) | (refine ZH (fun hq=> ?_) (fun hq=> ?_)<;>(try simp only [decide_eq_true_eq,decide_eq_false_iff_not,Classical.not_not] at hq)<;>simp (disch:=omega) only [Sh.out hq,go_sem,seval]) | (refine ZO (fun hq=> ?_) (fun hq=> ?_)<;>(try simp only [decide_eq_true_eq,decide_eq_false_iff_not,Classical.not_not] at hq)<;>simp (disch:=omega) only [Sh.out hq,go_sem,seval]))
    all_goals first
     | (rw [hbad (by simp [rng];omega)])
     | exact ⟨k+1,⟨by omega,Zk.2 ⟨hno,by simp [rng];omega⟩⟩,by omega,wk⟩
   ·have:l.all (fun n=>rng n 0 1000)=true:=by
     rw [List.all_eq_true];intro x hx;obtain ⟨j,hj,rfl⟩:=List.mem_iff_getElem.1 hx;rw [<- Zh hj];exact hno j (by omega)
    simp [loadOk,this]
def stpOk (s:Stp):Bool:=decide ((s.place= -1/\s.opn=0/\s.cls=0/\s.serv=0)\/(0<=s.place/\0<=s.opn/\s.opn<=s.cls/\s.cls<=4096/\0<=s.serv/\s.serv<=4096))
def ZeT (s:Stp):Int:=if stpOk s=true then 0 else 2
theorem Zc2 (s:Stp):PC 65 [.p (ZnY s)] (.int .i64 (ZeT s)):=by
 refine Zb Tryz.func65 rfl Zm1 ?_;simp (disch:=omega) only [Tryz.f65,go_sem,seval]
 repeat' (first | (refine ZF (fun hq=> ?_) (fun hq=> ?_)<;>(try simp only [decide_eq_true_eq,decide_eq_false_iff_not,Classical.not_not] at hq)<;>simp (disch:=omega) only [Sh.out hq,go_sem,seval]) | (refine ZH (fun hq=> ?_) (fun hq=> ?_)<;>(try simp only [decide_eq_true_eq,decide_eq_false_iff_not,Classical.not_not] at hq)<;>simp (disch:=omega) only [Sh.out hq,go_sem,seval]) | (refine ZO (fun hq=> ?_) (fun hq=> ?_)<;>(try simp only [decide_eq_true_eq,decide_eq_false_iff_not,Classical.not_not] at hq)<;>simp (disch:=omega) only [Sh.out hq,go_sem,seval]))
 all_goals (simp only [ZeT,stpOk,decide_eq_true_eq])
 all_goals first
  | (exfalso;omega)
  | (rw [if_pos (by omega)])
  | (rw [if_neg (by omega)])
def Z1 (l:List Ord) (i:Nat):Bool:=(List.range i).all fun j=>decide ((nth l j).name≠(nth l i).name)
theorem Yr {l:List Ord} {i:Nat} :Z1 l i=true↔ ∀j,j<i->(nth l j).name≠(nth l i).name:=by simp [Z1]
def sel (b:Bool) (e:Int):List Int:=if b=true then [] else [e]
theorem XI (b:Bool) (e:Int):(sel b e).length<=1:=by unfold sel;split<;>simp
theorem X1 {b:Bool} {e:Int} {m p:List Int} (h:m=p) (hb:b=true):m=p++sel b e:=by simp [sel,hb,h]
theorem XT {b:Bool} {e:Int} {m p:List Int} (h:m=p) (hb:b=false):m++ [e]=p++sel b e:=by simp [sel,hb,h]
def Xg (t:Ord):AM.Obj:= .cells [.p (.str t.name),.p (.list t.load_c (t.load.map eI)),.p (.int .i64 t.pick.place),.p (.int .i64 t.pick.opn),.p (.int .i64 t.pick.cls),.p (.int .i64 t.pick.serv),.p (.int .i64 t.drp.place),.p (.int .i64 t.drp.opn),.p (.int .i64 t.drp.cls),.p (.int .i64 t.drp.serv),.p (.int .i64 t.skills),.p (.int .i64 t.penalty),.p (.int .i64 t.split),.p (.int .i64 t.last),.p (.int .i64 t.now),.p (.bool t.off)]
def Q9 (t:Ord):Bool:=decide (t.pick.place≠ -1)&&decide (t.drp.place≠ -1)
def argOk (t:Ord) (ty:Int):Bool:=rng t.penalty (-1) 1000000&&rng t.split 1 4&&decide (¬(1<t.split/\Q9 t=true)/\ -1<=t.last/\t.last<ty/\ -1<=t.now/\t.now<ty)
def ZY (np:Nat) (d ty:Int) (l:List Ord) (i:Nat):List Int:=sel (nameOk (nth l i).name) 5++sel (Z1 l i) 6++sel (loadOk (nth l i).load d) 17++sel ((rng (nth l i).pick.place (-1) ((np:Int)-1)&&rng (nth l i).drp.place (-1) ((np:Int)-1))) 11++sel (decide (¬((nth l i).pick.place= -1/\(nth l i).drp.place= -1))) 19++sel ((stpOk (nth l i).pick&&stpOk (nth l i).drp)) 14++sel (rng (nth l i).skills 0 1073741823) 18++sel (argOk (nth l i) ty) 2
theorem Y8 (np:Nat) (d ty:Int) (l:List Ord) (i:Nat):(ZY np d ty l i).length<=8:=by
 have h:=XI;simp only [ZY,List.length_append];have h1:=fun b=>h b 5;have h2:=fun b=>h b 6;have h3:=fun b=>h b 17;have h4:=fun b=>h b 11;have h5:=fun b=>h b 19;have h6:=fun b=>h b 14;have h7:=fun b=>h b 18;have h8:=fun b=>h b 2;have a1:=h1 (nameOk (nth l i).name);have a2:=h2 (Z1 l i);have a3:=h3 (loadOk (nth l i).load d);have a4:=h4 (rng (nth l i).pick.place (-1) ((np:Int)-1)&&rng (nth l i).drp.place (-1) ((np:Int)-1));have a5:=h5 (decide (¬((nth l i).pick.place= -1/\(nth l i).drp.place= -1)));have a6:=h6 (stpOk (nth l i).pick&&stpOk (nth l i).drp)
 have a7:=h7 (rng (nth l i).skills 0 1073741823);have a8:=h8 (argOk (nth l i) ty);omega
theorem Zag (np:Nat) (d ty:Int) (l:List Ord) (c:Bool) (i:Nat) (hi:i<l.length) (hl:l.length<=1048576) (hnp:np<=1048576) (ht:(nth l i).wf 1048576) :
  ACalls Tryz.prog 46 [.p (.int .i64 (np:Nat)),.p (.int .i64 d),.p (.int .i64 ty),.p (.list c (l.map eOrd)),.p (.int .i64 (i:Nat))] [] fun x H'=>x= .sl 0 0 (ZY np d ty l i).length (ZY np d ty l i).length/\H'= [.elems 1 ((ZY np d ty l i).map eI)]:=by
 suffices hh:ACalls Tryz.prog 46 [.p (.int .i64 (np:Nat)),.p (.int .i64 d),.p (.int .i64 ty),.p (.list c (l.map eOrd)),.p (.int .i64 (i:Nat))] [] fun x H'=> ∃m:List Int,m=ZY np d ty l i/\x= .sl 0 0 m.length m.length/\H'= [.elems 1 (m.map eI)] by
  refine hh.mono ?_;rintro x H' ⟨m,rfl,h1,h2⟩;exact ⟨h1,h2⟩
 refine Zn [3] Tryz.func46 rfl ZkY ?_;simp (disch:=omega) only [Tryz.f46,go_sem,seval];have hty:ZY np d ty l i=sel (nameOk (nth l i).name) 5++sel (Z1 l i) 6++sel (loadOk (nth l i).load d) 17++sel ((rng (nth l i).pick.place (-1) ((np:Int)-1)&&rng (nth l i).drp.place (-1) ((np:Int)-1))) 11++sel (decide (¬((nth l i).pick.place= -1/\(nth l i).drp.place= -1))) 19++sel ((stpOk (nth l i).pick&&stpOk (nth l i).drp)) 14++sel (rng (nth l i).skills 0 1073741823) 18++sel (argOk (nth l i) ty) 2:=rfl
 have hleng: ∀m:List Int,∀p:List Int,m=p->p.length<=8->m.length<=8:=fun m p h1 h2=>by rw [h1];exact h2
 generalize hga:nth l i=t at ht hty ⊢;have hname:=ht.1;have hload:=ht.2.1;refine ZD (Weak.ofNil 11 1 (by simp (disch:=omega) only [go_sem,seval]) (by simp) (Weak.refl _ _ _)) ?_;refine Zm [0,1,2,3,4,12] (fun m:List Int=> [(11,.sl 1 0 m.length m.length)]) (fun m=> [Xg t,.elems 1 (m.map eI)]) (fun m=>m=sel (nameOk t.name) 5) ?_ ?_
 ·simp (disch:=omega) only [go_sem,seval];refine (ZaQ t.name hname).use ?_;simp (disch:=omega) only [go_sem,seval];refine cD ?_ ?_<;>intro h<;>simp (disch:=omega) only [Sh.out h,go_sem,seval]
  ·simp only [Bool.not_eq_true'] at h;exact ⟨[5],by simp [sel,h],Weak.mk (by simp (disch:=omega) only [Xg,go_sem,seval])⟩
  ·simp only [Bool.not_eq_false'] at h;exact ⟨[],by simp [sel,h],Weak.mk (by simp (disch:=omega) only [Xg,go_sem,seval])⟩
 ·skip
  intro m hm;refine Za [5] _ _ _ _ ?_;simp (disch:=omega) only [Xg,go_sem,seval]
  have hml:m.length<=8:=by
   rw [hm]
   try simp only [List.length_append]
   have h:=XI;have a0:=h (nameOk t.name) 5;omega
  refine Zm [0,1,2,12] (fun m:List Int=> [(11,.sl 1 0 m.length m.length)]) (fun m=> [Xg t,.elems 1 (m.map eI)]) (fun m=>m=sel (nameOk t.name) 5++sel (Z1 l i) 6) ?_ ?_
  ·simp (disch:=omega) only [go_sem,seval];refine Zf [0,1,2,3,4,11,12] (fun k:Nat=> [(13,.p (.int .i64 k))]) (fun _=> [Xg t,.elems 1 (m.map eI)]) (fun k=>k<=i/\ ∀j,j<k->(nth l j).name≠(nth l i).name) (fun k=>i-k) 0 (by simp) (Weak.mk ?_) ?_
   ·simp (disch:=omega) only [Xg,go_sem,seval]
   ·rintro k ⟨hk,hno⟩;simp (disch:=omega) only [Xg,go_sem,seval];refine cD ?_ ?_<;>intro h3<;>simp (disch:=omega) only [Sh.out h3,go_sem,seval]
    ·have hk2:k<l.length:=by omega
     refine Zq mixed (by kernel_rfl) (by kernel_rfl) ?_;simp (disch:=omega) only [go_sem,seval];refine cD ?_ ?_<;>intro h4<;>simp (disch:=omega) only [Sh.out h4,go_sem,seval]
     ·exact ⟨m++ [6],XT hm (by cases hq:Z1 l i with | false=>rfl | true=>exact absurd (by rw [hga];exact h4) (Yr.1 hq k (by omega))),Weak.mk (by simp (disch:=omega) only [Xg,go_sem,seval])⟩
     ·exact ⟨k+1,⟨by omega,Zk.2 ⟨hno,by rw [hga];exact h4⟩⟩,by omega,Weak.mk (by simp (disch:=omega) only [Xg,go_sem,seval])⟩
    ·have hki:k=i:=by omega
     subst hki;exact ⟨m,X1 hm (Yr.2 hno),Weak.mk (by simp (disch:=omega) only [Xg,go_sem,seval])⟩
  ·clear hm hml;intro m hm;refine Za [10] _ _ _ _ ?_;simp (disch:=omega) only [Xg,go_sem,seval]
   have hml:m.length<=8:=by
    rw [hm]
    try simp only [List.length_append]
    have h:=XI;have a0:=h (nameOk t.name) 5;have a1:=h (Z1 l i) 6;omega
   refine Zm [0,2,12] (fun m:List Int=> [(11,.sl 1 0 m.length m.length)]) (fun m=> [Xg t,.elems 1 (m.map eI)]) (fun m=>m=sel (nameOk t.name) 5++sel (Z1 l i) 6++sel (loadOk t.load d) 17) ?_ ?_
   ·simp (disch:=omega) only [go_sem,seval];refine (Ks t.load t.load_c d hload).use ?_;simp (disch:=omega) only [go_sem,seval];refine cD ?_ ?_<;>intro h<;>simp (disch:=omega) only [Sh.out h,go_sem,seval]
    ·simp only [Bool.not_eq_true'] at h;exact ⟨m++ [17],XT hm (h),Weak.mk (by simp (disch:=omega) only [Xg,go_sem,seval])⟩
    ·simp only [Bool.not_eq_false'] at h;exact ⟨m,X1 hm (h),Weak.mk (by simp (disch:=omega) only [Xg,go_sem,seval])⟩
   ·clear hm hml;intro m hm;refine Za [12] _ _ _ _ ?_;simp (disch:=omega) only [Xg,go_sem,seval]
    have hml:m.length<=8:=by
     rw [hm]
     try simp only [List.length_append]
     have h:=XI;have a0:=h (nameOk t.name) 5;have a1:=h (Z1 l i) 6;have a2:=h (loadOk t.load d) 17;omega
    refine Zm [2,12] (fun m:List Int=> [(11,.sl 1 0 m.length m.length)]) (fun m=> [Xg t,.elems 1 (m.map eI)]) (fun m=>m=sel (nameOk t.name) 5++sel (Z1 l i) 6++sel (loadOk t.load d) 17++sel ((rng t.pick.place (-1) ((np:Int)-1)&&rng t.drp.place (-1) ((np:Int)-1))) 11) ?_ ?_
    ·simp (disch:=omega) only [go_sem,seval];refine (Ug t.pick.place (-1) ((np:Int)-1)).use ?_;simp (disch:=omega) only [go_sem,seval];refine gF ?_ ?_<;>intro h<;>simp (disch:=omega) only [Sh.out h,go_sem,seval]
     ·simp only [Bool.not_eq_true'] at h;exact ⟨m++ [11],XT hm (by simp [h]),Weak.mk (by simp (disch:=omega) only [Xg,go_sem,seval])⟩
     ·simp only [Bool.not_eq_false'] at h;refine (Ug t.drp.place (-1) ((np:Int)-1)).use ?_;simp (disch:=omega) only [go_sem,seval];refine cD ?_ ?_<;>intro h2<;>simp (disch:=omega) only [Sh.out h2,go_sem,seval]
      ·simp only [Bool.not_eq_true'] at h2;exact ⟨m++ [11],XT hm (by simp [h2]),Weak.mk (by simp (disch:=omega) only [Xg,go_sem,seval])⟩
      ·simp only [Bool.not_eq_false'] at h2;exact ⟨m,X1 hm (by simp [h,h2]),Weak.mk (by simp (disch:=omega) only [Xg,go_sem,seval])⟩
    ·clear hm hml;intro m hm;refine Za [14] _ _ _ _ ?_;simp (disch:=omega) only [Xg,go_sem,seval]
     have hml:m.length<=8:=by
      rw [hm]
      try simp only [List.length_append]
      have h:=XI;have a0:=h (nameOk t.name) 5;have a1:=h (Z1 l i) 6;have a2:=h (loadOk t.load d) 17;have a3:=h ((rng t.pick.place (-1) ((np:Int)-1)&&rng t.drp.place (-1) ((np:Int)-1))) 11;omega
     refine Zm [2,12] (fun m:List Int=> [(11,.sl 1 0 m.length m.length)]) (fun m=> [Xg t,.elems 1 (m.map eI)]) (fun m=>m=sel (nameOk t.name) 5++sel (Z1 l i) 6++sel (loadOk t.load d) 17++sel ((rng t.pick.place (-1) ((np:Int)-1)&&rng t.drp.place (-1) ((np:Int)-1))) 11++sel (decide (¬(t.pick.place= -1/\t.drp.place= -1))) 19) ?_ ?_
     ·simp (disch:=omega) only [go_sem,seval]
      repeat' (first | (refine ZF (fun hq=> ?_) (fun hq=> ?_)<;>(try simp only [decide_eq_true_eq,decide_eq_false_iff_not,Classical.not_not] at hq)<;>simp (disch:=omega) only [Sh.out hq,go_sem,seval]) | (refine ZH (fun hq=> ?_) (fun hq=> ?_)<;>(try simp only [decide_eq_true_eq,decide_eq_false_iff_not,Classical.not_not] at hq)<;>simp (disch:=omega) only [Sh.out hq,go_sem,seval]) | (refine ZO (fun hq=> ?_) (fun hq=> ?_)<;>(try simp only [decide_eq_true_eq,decide_eq_false_iff_not,Classical.not_not] at hq)<;>simp (disch:=omega) only [Sh.out hq,go_sem,seval]))
      all_goals first
       | exact ⟨m++ [19],XT hm (by first | (simp;done) | (simp;omega)),Weak.mk (by simp (disch:=omega) only [Xg,go_sem,seval])⟩
       | exact ⟨m,X1 hm (by first | (simp;done) | (simp;omega)),Weak.mk (by simp (disch:=omega) only [Xg,go_sem,seval])⟩
     ·clear hm hml;intro m hm;refine Za [16] _ _ _ _ ?_;simp (disch:=omega) only [Xg,go_sem,seval]
      have hml:m.length<=8:=by
       rw [hm]
       try simp only [List.length_append]
       have h:=XI;have a0:=h (nameOk t.name) 5;have a1:=h (Z1 l i) 6;have a2:=h (loadOk t.load d) 17;have a3:=h ((rng t.pick.place (-1) ((np:Int)-1)&&rng t.drp.place (-1) ((np:Int)-1))) 11;have a4:=h (decide (¬(t.pick.place= -1/\t.drp.place= -1))) 19;omega
      refine Zm [2,12] (fun m:List Int=> [(11,.sl 1 0 m.length m.length)]) (fun m=> [Xg t,.elems 1 (m.map eI)]) (fun m=>m=sel (nameOk t.name) 5++sel (Z1 l i) 6++sel (loadOk t.load d) 17++sel ((rng t.pick.place (-1) ((np:Int)-1)&&rng t.drp.place (-1) ((np:Int)-1))) 11++sel (decide (¬(t.pick.place= -1/\t.drp.place= -1))) 19++sel ((stpOk t.pick&&stpOk t.drp)) 14) ?_ ?_
      ·simp (disch:=omega) only [go_sem,seval];refine (Zc2 t.pick).use ?_;simp (disch:=omega) only [go_sem,seval]
       cases h:stpOk t.pick with
       | false =>
        simp (disch:=omega) only [ZeT,h,go_sem,seval];exact ⟨m++ [14],XT hm (by simp [h]),Weak.mk (by simp (disch:=omega) only [Xg,go_sem,seval])⟩
       | true =>
        simp (disch:=omega) only [ZeT,h,go_sem,seval];refine (Zc2 t.drp).use ?_;simp (disch:=omega) only [go_sem,seval]
        cases h2:stpOk t.drp with
        | false =>
         simp (disch:=omega) only [ZeT,h2,go_sem,seval];exact ⟨m++ [14],XT hm (by simp [h2]),Weak.mk (by simp (disch:=omega) only [Xg,go_sem,seval])⟩
        | true =>
         simp (disch:=omega) only [ZeT,h2,go_sem,seval];exact ⟨m,X1 hm (by simp [h,h2]),Weak.mk (by simp (disch:=omega) only [Xg,go_sem,seval])⟩
      ·clear hm hml;intro m hm;refine Za [18] _ _ _ _ ?_;simp (disch:=omega) only [Xg,go_sem,seval]
       have hml:m.length<=8:=by
        rw [hm]
        try simp only [List.length_append]
        have h:=XI;have a0:=h (nameOk t.name) 5;have a1:=h (Z1 l i) 6;have a2:=h (loadOk t.load d) 17;have a3:=h ((rng t.pick.place (-1) ((np:Int)-1)&&rng t.drp.place (-1) ((np:Int)-1))) 11;have a4:=h (decide (¬(t.pick.place= -1/\t.drp.place= -1))) 19;have a5:=h ((stpOk t.pick&&stpOk t.drp)) 14;omega
       refine Zm [2,12] (fun m:List Int=> [(11,.sl 1 0 m.length m.length)]) (fun m=> [Xg t,.elems 1 (m.map eI)]) (fun m=>m=sel (nameOk t.name) 5++sel (Z1 l i) 6++sel (loadOk t.load d) 17++sel ((rng t.pick.place (-1) ((np:Int)-1)&&rng t.drp.place (-1) ((np:Int)-1))) 11++sel (decide (¬(t.pick.place= -1/\t.drp.place= -1))) 19++sel ((stpOk t.pick&&stpOk t.drp)) 14++sel (rng t.skills 0 1073741823) 18) ?_ ?_
       ·simp (disch:=omega) only [go_sem,seval];refine (Ug t.skills 0 1073741823).use ?_;simp (disch:=omega) only [go_sem,seval];refine cD ?_ ?_<;>intro h<;>simp (disch:=omega) only [Sh.out h,go_sem,seval]
        ·simp only [Bool.not_eq_true'] at h;exact ⟨m++ [18],XT hm (h),Weak.mk (by simp (disch:=omega) only [Xg,go_sem,seval])⟩
        ·simp only [Bool.not_eq_false'] at h;exact ⟨m,X1 hm (h),Weak.mk (by simp (disch:=omega) only [Xg,go_sem,seval])⟩
       ·clear hm hml;intro m hm;refine Za [20] _ _ _ _ ?_;simp (disch:=omega) only [Xg,go_sem,seval]
        have hml:m.length<=8:=by
         rw [hm]
         try simp only [List.length_append]
         have h:=XI;have a0:=h (nameOk t.name) 5;have a1:=h (Z1 l i) 6;have a2:=h (loadOk t.load d) 17;have a3:=h ((rng t.pick.place (-1) ((np:Int)-1)&&rng t.drp.place (-1) ((np:Int)-1))) 11;have a4:=h (decide (¬(t.pick.place= -1/\t.drp.place= -1))) 19;have a5:=h ((stpOk t.pick&&stpOk t.drp)) 14;have a6:=h (rng t.skills 0 1073741823) 18;omega
        refine Zm [2,11,12] (fun b:Bool=> [(14,.p (.bool b))]) (fun _=> [Xg t,.elems 1 (m.map eI)]) (fun b=>b=Q9 t) ?_ ?_
        ·simp (disch:=omega) only [go_sem,seval]
         repeat' (first | (refine ZF (fun hq=> ?_) (fun hq=> ?_)<;>(try simp only [decide_eq_true_eq,decide_eq_false_iff_not,Classical.not_not] at hq)<;>simp (disch:=omega) only [Sh.out hq,go_sem,seval]) | (refine ZH (fun hq=> ?_) (fun hq=> ?_)<;>(try simp only [decide_eq_true_eq,decide_eq_false_iff_not,Classical.not_not] at hq)<;>simp (disch:=omega) only [Sh.out hq,go_sem,seval]) | (refine ZO (fun hq=> ?_) (fun hq=> ?_)<;>(try simp only [decide_eq_true_eq,decide_eq_false_iff_not,Classical.not_not] at hq)<;>simp (disch:=omega) only [Sh.out hq,go_sem,seval]))
         all_goals refine ⟨Q9 t,rfl,Weak.mk ?_⟩
         all_goals (simp (disch:=omega) only [Xg,go_sem,seval];simp [Q9, *])
        ·rintro b hb;refine Za [21] _ _ _ _ ?_;simp (disch:=omega) only [Xg,go_sem,seval];refine Zm [] (fun m:List Int=> [(11,.sl 1 0 m.length m.length)]) (fun m=> [Xg t,.elems 1 (m.map eI)]) (fun m=>m=sel (nameOk t.name) 5++sel (Z1 l i) 6++sel (loadOk t.load d) 17++sel ((rng t.pick.place (-1) ((np:Int)-1)&&rng t.drp.place (-1) ((np:Int)-1))) 11++sel (decide (¬(t.pick.place= -1/\t.drp.place= -1))) 19++sel ((stpOk t.pick&&stpOk t.drp)) 14++sel (rng t.skills 0 1073741823) 18++sel (argOk t ty) 2) ?_ ?_
         ·simp (disch:=omega) only [go_sem,seval];refine (Ug t.penalty (-1) 1000000).use ?_;simp (disch:=omega) only [go_sem,seval];refine gF ?_ ?_<;>intro h<;>simp (disch:=omega) only [Sh.out h,go_sem,seval]
          ·simp only [Bool.not_eq_true'] at h;exact ⟨m++ [2],XT hm (by simp [argOk,h]),Weak.mk (by simp (disch:=omega) only [Xg,go_sem,seval])⟩
          ·simp only [Bool.not_eq_false'] at h;refine (Ug t.split 1 4).use ?_;simp (disch:=omega) only [go_sem,seval];refine gF ?_ ?_<;>intro h2<;>simp (disch:=omega) only [Sh.out h2,go_sem,seval]
           ·simp only [Bool.not_eq_true'] at h2;exact ⟨m++ [2],XT hm (by simp [argOk,h2]),Weak.mk (by simp (disch:=omega) only [Xg,go_sem,seval])⟩
           ·simp only [Bool.not_eq_false'] at h2
            cases b with
            | true =>
             repeat' (first | (refine ZF (fun hq=> ?_) (fun hq=> ?_)<;>(try simp only [decide_eq_true_eq,decide_eq_false_iff_not,Classical.not_not] at hq)<;>simp (disch:=omega) only [Sh.out hq,go_sem,seval]) | (refine ZH (fun hq=> ?_) (fun hq=> ?_)<;>(try simp only [decide_eq_true_eq,decide_eq_false_iff_not,Classical.not_not] at hq)<;>simp (disch:=omega) only [Sh.out hq,go_sem,seval]) | (refine ZO (fun hq=> ?_) (fun hq=> ?_)<;>(try simp only [decide_eq_true_eq,decide_eq_false_iff_not,Classical.not_not] at hq)<;>simp (disch:=omega) only [Sh.out hq,go_sem,seval]))
             all_goals first
              | exact ⟨m++ [2],XT hm (by rw [argOk,<- hb];first | (simp;done) | (simp;omega)),Weak.mk (by simp (disch:=omega) only [Xg,go_sem,seval])⟩
              | exact ⟨m,X1 hm (by rw [argOk,<- hb,h,h2];first | (simp;done) | (simp;omega)),Weak.mk (by simp (disch:=omega) only [Xg,go_sem,seval])⟩
            | false =>
             repeat' (first | (refine ZF (fun hq=> ?_) (fun hq=> ?_)<;>(try simp only [decide_eq_true_eq,decide_eq_false_iff_not,Classical.not_not] at hq)<;>simp (disch:=omega) only [Sh.out hq,go_sem,seval]) | (refine ZH (fun hq=> ?_) (fun hq=> ?_)<;>(try simp only [decide_eq_true_eq,decide_eq_false_iff_not,Classical.not_not] at hq)<;>simp (disch:=omega) only [Sh.out hq,go_sem,seval]) | (refine ZO (fun hq=> ?_) (fun hq=> ?_)<;>(try simp only [decide_eq_true_eq,decide_eq_false_iff_not,Classical.not_not] at hq)<;>simp (disch:=omega) only [Sh.out hq,go_sem,seval]))
             all_goals first
              | exact ⟨m++ [2],XT hm (by rw [argOk,<- hb];first | (simp;done) | (simp;omega)),Weak.mk (by simp (disch:=omega) only [Xg,go_sem,seval])⟩
              | exact ⟨m,X1 hm (by rw [argOk,<- hb,h,h2];first | (simp;done) | (simp;omega)),Weak.mk (by simp (disch:=omega) only [Xg,go_sem,seval])⟩
         ·clear hm hml;intro m hm;refine Za [] _ _ _ _ ?_;simp (disch:=omega) only [Xg,go_sem,seval]
          have hml:m.length<=8:=by
           rw [hm]
           try simp only [List.length_append]
           have h:=XI;have a0:=h (nameOk t.name) 5;have a1:=h (Z1 l i) 6;have a2:=h (loadOk t.load d) 17;have a3:=h ((rng t.pick.place (-1) ((np:Int)-1)&&rng t.drp.place (-1) ((np:Int)-1))) 11;have a4:=h (decide (¬(t.pick.place= -1/\t.drp.place= -1))) 19;have a5:=h ((stpOk t.pick&&stpOk t.drp)) 14;have a6:=h (rng t.skills 0 1073741823) 18;have a7:=h (argOk t ty) 2;omega
          exact ⟨m,by rw [hm,hty],1,by simp (disch:=omega) only [Xg,go_sem,seval]⟩
def ZL (np:Nat) (d ty:Int) (l:List Ord) (k:Nat):List Flt:=(if l.length<=10 then [] else [(4,[])])++(List.range k).flatMap fun i=>(ZY np d ty l i).map fun e=>(e,Qc i)
theorem Wc (np:Nat) (d ty:Int) (l:List Ord) (k:Nat):ZL np d ty l (k+1)=ZL np d ty l k++(ZY np d ty l k).map fun e=>(e,Qc k):=by
 simp [ZL,List.range_succ]
theorem XM (np:Nat) (d ty:Int) (l:List Ord): ∀k,(ZL np d ty l k).length<=1+8*k
 | 0=>by simp [ZL];split<;>simp
 | k+1=>by
  have h1:=XM np d ty l k;have h2:=Y8 np d ty l k;rw [Wc];simp;omega
theorem Zha (n:Net) (d ty:Int) (l:List Ord) (c:Bool) (hw:n.wf 1048576) (hl:l.length<=1048576) (hlw: ∀t∈l,t.wf 1048576) :
  ACalls Tryz.prog 28 [.p (Zbd n),.p (.int .i64 d),.p (.int .i64 ty),.p (.list c (l.map eOrd))] [] fun x H'=>x= .sl 0 0 (ZL n.places.length d ty l l.length).length (ZL n.places.length d ty l l.length).length/\H'= [.elems 2 ((ZL n.places.length d ty l l.length).map eF)]:=by
 obtain ⟨w1,w2,w3,w4⟩:=hw
 suffices hh:ACalls Tryz.prog 28 [.p (Zbd n),.p (.int .i64 d),.p (.int .i64 ty),.p (.list c (l.map eOrd))] [] fun x H'=> ∃m:List Flt,m=ZL n.places.length d ty l l.length/\x= .sl 0 0 m.length m.length/\H'= [.elems 2 (m.map eF)] by
  refine hh.mono ?_;rintro x H' ⟨m,rfl,h1,h2⟩;exact ⟨h1,h2⟩
 refine Zn [2] Tryz.func28 rfl Zmc ?_;simp (disch:=omega) only [Tryz.f28,go_sem,seval];refine ZD (Weak.ofNil 9 2 (by simp (disch:=omega) only [go_sem,seval]) (by simp) (Weak.refl _ _ _)) ?_;refine Zm [1,2,3,4] (fun m:List Flt=> [(9,.sl 1 0 m.length m.length)]) (fun m=>Zr n++ [.elems 2 (m.map eF)]) (fun m=>m=ZL n.places.length d ty l 0) ?_ ?_
 ·simp (disch:=omega) only [go_sem,seval];refine cD ?_ ?_<;>intro h<;>simp (disch:=omega) only [Sh.out h,go_sem,seval]
  ·exact ⟨[(4,[])],by rw [ZL,if_neg (by omega)];rfl,Weak.mk (by simp (disch:=omega) only [Zr,go_sem,seval])⟩
  ·exact ⟨[],by rw [ZL,if_pos (by omega)];rfl,Weak.mk (by simp (disch:=omega) only [Zr,go_sem,seval])⟩
 ·intro m hm;refine Za [] _ _ _ _ ?_;simp (disch:=omega) only [Zr,go_sem,seval];refine Zf [1,2,3,4] (fun q:Nat×List Flt=> [(9,.sl 1 0 q.2.length q.2.length),(10,.p (.int .i64 q.1))]) (fun q=>Zr n++ [.elems 2 (q.2.map eF)]) (fun q=>q.1<=l.length/\q.2=ZL n.places.length d ty l q.1) (fun q=>l.length-q.1) (0,m) ⟨by simp,hm⟩ (Weak.mk ?_) ?_
  ·simp (disch:=omega) only [Zr,go_sem,seval]
  ·clear hm;rintro ⟨k,m⟩ ⟨hk,hm⟩;simp only at hk hm;have hml:=XM n.places.length d ty l k;rw [<- hm] at hml;simp (disch:=omega) only [Zr,go_sem,seval];refine cD ?_ ?_<;>intro h<;>simp (disch:=omega) only [Sh.out h,go_sem,seval]
   ·have hk2:k<l.length:=by omega
    have hI:I64 (k:Int):=by omega
    have hrl:=Y8 n.places.length d ty l k;refine ((Zag n.places.length d ty l c k hk2 hl w1 (hlw _ (Zu hk2))).frozen (by simp)).use ?_;simp (disch:=omega) only [go_sem,seval];generalize hre:ZY n.places.length d ty l k=e at hrl ⊢;refine Zf [1,2,3,4,10,11] (fun q:Nat×List Flt=> [(9,.sl 1 0 q.2.length q.2.length),(12,.p (.int .i64 q.1))]) (fun q=>Zr n++ [.elems 2 (q.2.map eF)]) (fun q=>q.1<=e.length/\q.2=ZL n.places.length d ty l k++(e.take q.1).map fun e=>(e,Qc k)) (fun q=>e.length-q.1) (0,m) ⟨by simp,by simp [hm]⟩ (Weak.mk ?_) ?_
    ·simp (disch:=omega) only [Zr,go_sem,seval]
    ·clear hm hml;rintro ⟨j,m⟩ ⟨hj,hm⟩;simp only at hj hm;have hml:=XM n.places.length d ty l k
     have hml2:m.length<=1+8*k+8:=by rw [hm];simp;omega
     simp (disch:=omega) only [Zr,go_sem,seval];refine cD ?_ ?_<;>intro h2<;>simp (disch:=omega) only [Sh.out h2,go_sem,seval]
     ·have hj2:j<e.length:=by omega
      refine Xj 9 mixed (by kernel_rfl) (by kernel_rfl) ?_;simp (disch:=omega) only [go_sem,seval];refine ZM (YW k hI) ?_;simp (disch:=omega) only [go_sem,seval];refine ⟨(j+1,m++ [(nth e j,Qc k)]),⟨by simp only;omega,?_⟩,by simp only;omega,Weak.mk (by simp (disch:=omega) only [Zr,go_sem,seval])⟩;simp only [hm,List.append_assoc];rw [List.take_succ_eq_append_getElem hj2,List.map_append,Zh hj2]
      rfl
     ·have hjl:j=e.length:=by omega
      subst hjl;refine ⟨(k+1,m),⟨by simp only;omega,?_⟩,by simp only;omega,Weak.mk (by simp (disch:=omega) only [Zr,go_sem,seval])⟩;simp only [hm,Wc,hre,List.take_length]
   ·have hkn:k=l.length:=by omega
    subst hkn;exact ⟨m,hm,1,by simp (disch:=omega) only [Zr,go_sem,seval]⟩
structure OrdOk (np:Nat) (d ty:Int) (l:List Ord) (i:Nat):Prop where
 name:nameOk (nth l i).name=true
 twin: ∀j,j<i->(nth l j).name≠(nth l i).name
 load:loadOk (nth l i).load d=true
 pick: -1<=(nth l i).pick.place/\(nth l i).pick.place<np
 drp: -1<=(nth l i).drp.place/\(nth l i).drp.place<np
 one: ¬((nth l i).pick.place= -1/\(nth l i).drp.place= -1)
 pstp:stpOk (nth l i).pick=true
 dstp:stpOk (nth l i).drp=true
 skills:0<=(nth l i).skills/\(nth l i).skills<=1073741823
 arg:argOk (nth l i) ty=true
theorem ZeM {b:Bool} {e:Int} :sel b e= []↔b=true:=by unfold sel;split<;>simp_all
theorem Uo {np:Nat} {d ty:Int} {l:List Ord} {i:Nat} :ZY np d ty l i= []↔OrdOk np d ty l i:=by
 simp only [ZY,List.append_eq_nil_iff,ZeM,Bool.and_eq_true,decide_eq_true_eq,rng,Yr]
 constructor
 ·rintro ⟨⟨⟨⟨⟨⟨⟨a1,a2⟩,a3⟩,a4⟩,a5⟩,a6⟩,a7⟩,a8⟩;exact ⟨a1,a2,a3,by omega,by omega,a5,a6.1,a6.2,a7,a8⟩
 ·intro h;obtain ⟨b1,b2⟩:=h.pick;obtain ⟨b3,b4⟩:=h.drp;exact ⟨⟨⟨⟨⟨⟨⟨h.name,h.twin⟩,h.load⟩,by omega,by omega⟩,h.one⟩,h.pstp,h.dstp⟩,h.skills⟩,h.arg⟩
def ordersOk (np:Nat) (d ty:Int) (l:List Ord):Prop:=l.length<=10/\ ∀i,i<l.length->OrdOk np d ty l i
theorem Qm {np:Nat} {d ty:Int} {l:List Ord} :ZL np d ty l l.length= []↔ordersOk np d ty l:=by
 simp only [ZL,List.append_eq_nil_iff,List.flatMap_eq_nil_iff,List.mem_range,List.map_eq_nil_iff,Uo,ordersOk];refine and_congr ?_ Iff.rfl
 split<;>simp_all
theorem J8 {np:Nat} {d ty:Int} {l:List Ord} (hl:l.length<=1048576): ∀f∈ZL np d ty l l.length,pF 20 f:=by
 intro f hf;simp only [ZL,List.mem_append,List.mem_flatMap,List.mem_range,List.mem_map] at hf;rcases hf with hf | ⟨i,hi,e,he,rfl⟩
 ·split at hf<;>simp at hf
  subst hf;simp [pF]
 ·exact Yd i (by omega)
theorem JR (n:Int) (h0:0<=n) (hn:n<=4611686018427387904):PC 66 [.p (.int .i64 n)] (.str (dec n.toNat)):=by
 refine Zb Tryz.func66 rfl Zmv ?_;simp (disch:=omega) only [Tryz.f66,go_sem,seval];refine Zf [] (fun q:Int×List UInt8=> [(0,.p (.int .i64 q.1)),(3,.p (.str q.2))]) (fun _=> []) (fun q=>0<=q.1/\q.1<=n/\dec q.1.toNat++q.2=dec n.toNat) (fun q=>q.1.toNat) (n,[]) (by simp [h0]) (Weak.mk ?_) ?_
 ·simp (disch:=omega) only [go_sem,seval]
 ·rintro ⟨m,s⟩ ⟨hm,hmn,hs⟩;simp only at hm hmn hs;have hl:=K5 _ n.toNat (Nat.lt_succ_self _)
  have hl2:(dec m.toNat).length+s.length=(dec n.toNat).length:=by rw [<- hs];simp
  simp (disch:=first | omega | (simp only [List.length_cons,List.length_nil,List.length_append,List.length_map,List.length_take,List.length_drop]<;>omega)) only [go_sem,seval];refine cD ?_ ?_<;>intro h<;>simp (disch:=omega) only [Sh.out h,go_sem,seval]
  ·simp (disch:=first | omega | (simp only [List.length_cons,List.length_nil,List.length_append,List.length_map,List.length_take,List.length_drop]<;>omega)) only [go_sem,seval]
   have h2: ¬m.toNat<10:=by omega
   have e1:(48+m%10).toNat=48+m.toNat%10:=by omega
   have e2:(m / 10).toNat=m.toNat / 10:=by omega
   refine ⟨(m / 10,UInt8.ofNat (48+m%10).toNat::s),⟨by simp only;omega,by simp only;omega,?_⟩,by simp only;omega,Weak.mk ?_⟩
   ·simp only [e1,e2];rw [<- hs,dec.eq_def m.toNat,dif_neg h2];simp
   ·simp (disch:=omega) only [go_sem,seval]
  ·simp (disch:=first | omega | (simp only [List.length_cons,List.length_nil,List.length_append,List.length_map,List.length_take,List.length_drop]<;>omega)) only [go_sem,seval]
   have h2:m.toNat<10:=by omega
   have e1:(48+m).toNat=48+m.toNat:=by omega
   rw [<- hs,dec.eq_def m.toNat,dif_pos h2,e1]
   rfl
def okP (n:Int) (p:Int×Int):Bool:=decide (0<=p.1/\p.1<n)&&decide (0<=p.2/\p.2<n)&&decide (¬p.1=p.2)
def atW (word:List UInt8) (i:Nat):List UInt8:=word++ [32]++dec i
def flt (n:Int) (word:List UInt8) (sm:Int×Int->Int×Int->Bool) (l:List (Int×Int)) (i:Nat):List (Int×List UInt8) :=
 if okP n (nth l i)=false then [(2,atW word i)] else if (l.take i).any (sm (nth l i)) then [(6,atW word i)] else []
def hdr (word:List UInt8) (l:List (Int×Int)):List (Int×List UInt8):=if 16<l.length then [(4,word)] else []
def UF (n:Int) (word:List UInt8) (sm:Int×Int->Int×Int->Bool) (l:List (Int×Int)) (k:Nat):List (Int×List UInt8):=hdr word l++(List.range k).flatMap (flt n word sm l)
theorem U4 (n word sm l k):UF n word sm l (k+1)=UF n word sm l k++flt n word sm l k:=by simp [UF,List.range_succ,List.flatMap_append]
theorem Ui (n word sm l):UF n word sm l 0=hdr word l:=by simp [UF]
theorem Zd3 (n word sm l i):(flt n word sm l i).length<=1:=by unfold flt;split<;>(try split)<;>simp
theorem YP (n word sm l): ∀k,(UF n word sm l k).length<=k+1:=by
 intro k
 induction k with
 | zero=>rw [Ui];unfold hdr;split<;>simp
 | succ k ih=>rw [U4];have:=Zd3 n word sm l k;simp;omega
def chk (n:Int) (ap be:List (Int×Int)):List (Int×List UInt8) :=
 UF n [97,112,97,114,116] (fun p q=>decide (p=q\/(p.1=q.2/\p.2=q.1))) ap ap.length++UF n [98,101,102,111,114,101] (fun p q=>decide (p=q)) be be.length
def smR (turned:Bool) (p q:Int×Int):Bool:=decide (q.1=p.1/\q.2=p.2)||(turned&&decide (q.1=p.2/\q.2=p.1))
theorem ZcG : smR true=fun p q=>decide (p=q\/(p.1=q.2/\p.2=q.1)):=by
 funext p q
 simp only [smR,Bool.true_and,Zim]
 congr 1
 simp only [Prod.ext_iff,eq_iff_iff]
 constructor
 ·rintro (h | h)
  ·exact .inl ⟨h.1.symm,h.2.symm⟩
  ·exact .inr ⟨h.2.symm,h.1.symm⟩
 ·rintro (h | h)
  ·exact .inl ⟨h.1.symm,h.2.symm⟩
  ·exact .inr ⟨h.2.symm,h.1.symm⟩
theorem Za5 : smR false=fun p q=>decide (p=q):=by
 funext p q
 simp only [smR,Bool.false_and,Bool.or_false]
 congr 1
 simp only [Prod.ext_iff,eq_iff_iff];exact ⟨fun h=>⟨h.1.symm,h.2.symm⟩,fun h=>⟨h.1.symm,h.2.symm⟩⟩
def tw (turned:Bool) (l:List (Int×Int)) (p:Int×Int) (j:Nat):Bool:=(l.take j).any (smR turned p)
theorem Zev (turned l p):tw turned l p 0=false:=by simp [tw]
theorem Zee (turned:Bool) (l:List (Int×Int)) (p:Int×Int) (j:Nat) (h:j<l.length):tw turned l p (j+1)=(tw turned l p j||smR turned p (nth l j)):=by
 rw [tw,tw,List.take_succ_eq_append_getElem h,List.any_append,Zh h];simp only [List.any_cons,List.any_nil,Bool.or_false]
theorem Jd (n:Int) (word:List UInt8) (l:List (Int×Int)) (c:Bool) (turned:Bool) (hw:word.length<=1000) (hl:l.length<=1048576) :
  ACalls Tryz.prog 47 [.p (.int .i64 n),.p (.list c (l.map eP)),.p (.str word),.p (.bool turned)] [] fun x H'=>x= .sl 0 0 (UF n word (smR turned) l l.length).length (UF n word (smR turned) l l.length).length/\H'= [.elems 2 ((UF n word (smR turned) l l.length).map eF)]:=by
 refine VR [2] (fn:=Tryz.f47) (by simp) Tryz.func47 rfl Zms ?_;simp (disch:=omega) only [Tryz.f47,go_sem,seval];refine ZD (Weak.ofNil 9 2 (by simp (disch:=omega) only [go_sem,seval]) (by simp) (Weak.refl _ _ _)) ?_;simp (disch:=omega) only [go_sem,seval];refine Zm [0,1,2,3] (fun _:Unit=> [(9,.sl 0 0 (hdr word l).length (hdr word l).length)]) (fun _=> [.elems 2 ((hdr word l).map eF)]) (fun _=>True) ?_ ?_
 ·simp (disch:=omega) only [go_sem,seval];refine cD ?_ ?_<;>intro h<;>simp (disch:=omega) only [Sh.out h,go_sem,seval]
  ·refine ⟨(),Weak.mk ?_⟩
   have h2:16<l.length:=by omega
   simp (disch:=omega) only [hdr,h2,go_sem,seval]
  ·refine ⟨(),Weak.mk ?_⟩
   have h2: ¬ 16<l.length:=by omega
   simp (disch:=omega) only [hdr,h2,go_sem,seval]
 ·intro _ _;refine Za [] _ _ _ _ ?_;simp (disch:=omega) only [go_sem,seval];refine Zf [0,1,2,3] (fun k:Nat=> [(9,.sl 0 0 (UF n word (smR turned) l k).length (UF n word (smR turned) l k).length),(10,.p (.int .i64 k))]) (fun k=> [.elems 2 ((UF n word (smR turned) l k).map eF)]) (fun k=>k<=l.length) (fun k=>l.length-k) 0 (by simp) (Weak.mk ?_) ?_
  ·simp (disch:=omega) only [Ui,go_sem,seval]
  ·intro k hk;have hfl:=YP n word (smR turned) l k;have hdl:=K5 _ k (Nat.lt_succ_self _);simp (disch:=omega) only [go_sem,seval];refine cD ?_ ?_<;>intro h<;>simp (disch:=omega) only [Sh.out h,go_sem,seval]
   ·have hk2:k<l.length:=by omega
    simp (disch:=first | omega | (simp only [List.length_cons,List.length_nil,List.length_append,List.length_map,List.length_take,List.length_drop]<;>omega)) only [go_sem,seval];refine (JR (k:Int) (by omega) (by omega)).use ?_;simp (disch:=first | omega | (simp only [List.length_cons,List.length_nil,List.length_append,List.length_map,List.length_take,List.length_drop]<;>omega)) only [go_sem,seval];have hs:=U4 n word (smR turned) l k
    have hbad:okP n (nth l k)=false->flt n word (smR turned) l k= [(2,word++ [32]++dec k)]:=fun e=>by simp [flt,e,atW]
    repeat' (first | (refine ZF (fun hq=> ?_) (fun hq=> ?_)<;>(try simp only [decide_eq_true_eq,decide_eq_false_iff_not,Classical.not_not] at hq)<;>simp (disch:=omega) only [Sh.out hq,go_sem,seval]) | (refine ZH (fun hq=> ?_) (fun hq=> ?_)<;>(try simp only [decide_eq_true_eq,decide_eq_false_iff_not,Classical.not_not] at hq)<;>simp (disch:=omega) only [Sh.out hq,go_sem,seval]) | (refine ZO (fun hq=> ?_) (fun hq=> ?_)<;>(try simp only [decide_eq_true_eq,decide_eq_false_iff_not,Classical.not_not] at hq)<;>simp (disch:=omega) only [Sh.out hq,go_sem,seval]))
    all_goals try (
     have e:=hbad (by simp [okP];omega)
     exact ⟨k+1,by omega,by omega,Weak.mk (by simp (disch:=omega) only [hs,e,go_sem,seval])⟩)
    have hok:okP n (nth l k)=true:=by simp [okP];omega
    refine Zf [0,1,2,3,9,10,11,12,13] (fun j:Nat=> [(14,.p (.bool (tw turned l (nth l k) j))),(15,.p (.int .i64 j))]) (fun _=> [.elems 2 ((UF n word (smR turned) l k).map eF)]) (fun j=>j<=k) (fun j=>k-j) 0 (by simp) (Weak.mk ?_) ?_
    ·simp (disch:=omega) only [Zev,go_sem,seval]
    ·intro j hj;simp (disch:=omega) only [go_sem,seval];refine cD ?_ ?_<;>intro h4<;>simp (disch:=omega) only [Sh.out h4,go_sem,seval]
     ·have hts:=Zee turned l (nth l k) j (by omega);generalize tw turned l (nth l k) j=q at hts ⊢
      repeat' (first | (refine ZF (fun hq=> ?_) (fun hq=> ?_)<;>(try simp only [decide_eq_true_eq,decide_eq_false_iff_not,Classical.not_not] at hq)<;>simp (disch:=omega) only [Sh.out hq,go_sem,seval]) | (refine ZH (fun hq=> ?_) (fun hq=> ?_)<;>(try simp only [decide_eq_true_eq,decide_eq_false_iff_not,Classical.not_not] at hq)<;>simp (disch:=omega) only [Sh.out hq,go_sem,seval]) | (refine ZO (fun hq=> ?_) (fun hq=> ?_)<;>(try simp only [decide_eq_true_eq,decide_eq_false_iff_not,Classical.not_not] at hq)<;>simp (disch:=omega) only [Sh.out hq,go_sem,seval]))
      all_goals refine ⟨j+1,by omega,by omega,Weak.mk ?_⟩
      all_goals clear hs hbad hfl hdl
      all_goals simp (disch:=omega) only [hts,go_sem,seval]
      all_goals simp [smR, *]
      all_goals first | omega | (simp [smR, *] at hts;exact hts)
     ·have hjk:j=k:=by omega
      subst hjk;refine cD ?_ ?_<;>intro h5<;>simp (disch:=omega) only [Sh.out h5,go_sem,seval]
      ·have e:flt n word (smR turned) l j= [(6,word++ [32]++dec j)]:=by
        have h6:(l.take j).any (smR turned (nth l j))=true:=h5;simp [flt,hok,h6,atW]
       exact ⟨j+1,by omega,by omega,Weak.mk (by simp (disch:=omega) only [hs,e,go_sem,seval])⟩
      ·have e:flt n word (smR turned) l j= []:=by
        have h6:(l.take j).any (smR turned (nth l j))=false:=h5;simp only [flt,hok,h6,Bool.true_eq_false,Bool.false_eq_true,if_false]
       exact ⟨j+1,by omega,by omega,Weak.mk (by simp (disch:=omega) only [hs,e,go_sem,seval])⟩
   ·have:k=l.length:=by omega
    subst this;exact ⟨0,by simp (disch:=omega) only [go_sem,seval]⟩
theorem Zcg (n:Int) (ap be:List (Int×Int)) (c c':Bool) (hl:ap.length<=1048576) (hl2:be.length<=1048576) :
  ACalls Tryz.prog 30 [.p (.int .i64 n),.p (.list c (ap.map eP)),.p (.list c' (be.map eP))] [] fun x H'=>x= .sl 0 0 (chk n ap be).length (chk n ap be).length/\H'= [.elems 2 ((chk n ap be).map eF)]:=by
 refine Ue (fn:=Tryz.f30) (by simp) Tryz.func30 rfl Zlm ?_;simp (disch:=omega) only [Tryz.f30,go_sem,seval];have h1:=YP n [97,112,97,114,116] (smR true) ap ap.length;have h2:=YP n [98,101,102,111,114,101] (smR false) be be.length;refine (Jd n _ ap c true (by decide) hl).useF ?_;simp (disch:=omega) only [go_sem,seval];refine (Jd n _ be c' false (by decide) hl2).useF ?_;simp (disch:=omega) only [go_sem,seval];refine ⟨0,?_⟩;rw [chk,<- ZcG,<- Za5];simp (disch:=omega) only [go_sem,seval]
@[go_sem] theorem Zhk {H:List AM.Obj} {β:Type} {S b o n:Nat} {xs:List PV} {g:β->PV} {m:List β} (hb:(n+m.length)*b<=140737488355328) (hb2:n+m.length<=140737488355328) :
  Uf H (some (S,b)) (.elems S xs) o n (some (m.map g))=if xs.length=n/\okE S (m.map g)=true then some (.sl o 0 (n+m.length) (n+m.length),ost H o (.elems S (xs++m.map g))) else none:=by
 rw [ZcA];simp only [List.length_map,hb,hb2,and_true]
def und (word:List UInt8) (f:Flt):Flt:=(f.1,if f.2= [] then word else word++ [32]++f.2)
theorem YN (word:List UInt8) (l:List Flt) (c:Bool) (hword:word.length<=100) (hl:l.length<=4194306000000) (hp: ∀f∈l,pF 100 f) :
  ACalls Tryz.prog 25 [.p (.str word),.p (.list c (l.map eF))] [] fun x H'=>x= .sl 0 0 (l.map (und word)).length (l.map (und word)).length/\H'= [.elems 2 ((l.map (und word)).map eF)]:=by
 suffices hh:ACalls Tryz.prog 25 [.p (.str word),.p (.list c (l.map eF))] [] fun x H'=> ∃m:List Flt,m=l.map (und word)/\x= .sl 0 0 m.length m.length/\H'= [.elems 2 (m.map eF)] by
  refine hh.mono ?_;rintro x H' ⟨m,rfl,h1,h2⟩;exact ⟨h1,h2⟩
 refine Zn [2] Tryz.func25 rfl Zls ?_;simp (disch:=omega) only [Tryz.f25,go_sem,seval];refine ZD (Weak.ofNil 5 2 (by simp (disch:=omega) only [go_sem,seval]) (by simp) (Weak.refl _ _ _)) ?_;refine Za [] _ _ _ _ ?_;simp (disch:=omega) only [go_sem,seval];refine Zf [0,1] (fun q:Nat×List Flt=> [(5,.sl 0 0 q.2.length q.2.length),(6,.p (.int .i64 q.1))]) (fun q=> [.elems 2 (q.2.map eF)]) (fun q=>q.1<=l.length/\q.2=(l.take q.1).map (und word)) (fun q=>l.length-q.1) (0,[]) ⟨by simp,by simp⟩ (Weak.mk ?_) ?_
 ·simp (disch:=omega) only [go_sem,seval]
 ·rintro ⟨k,m⟩ ⟨hk,hm⟩;simp only at hk hm
  have hml:m.length<=k:=by rw [hm];simp;omega
  simp (disch:=omega) only [go_sem,seval];refine cD ?_ ?_<;>intro h<;>simp (disch:=omega) only [Sh.out h,go_sem,seval]
  ·have hk2:k<l.length:=by omega
   have hpk:=hp _ (Zu hk2);unfold pF at hpk
   have hnext: ∀f,f=und word (nth l k)->m++ [f]=(l.take (k+1)).map (und word):=fun f hf=>by
    rw [hf,hm,List.take_succ_eq_append_getElem hk2,List.map_append,Zh hk2];rfl
   refine cD ?_ ?_<;>intro h2<;>simp (disch:=omega) only [Sh.out h2,go_sem,seval]
   ·have h3: ¬(nth l k).2= []:=by simpa using h2
    simp (disch:=first | omega | (simp only [List.length_cons,List.length_nil,List.length_append,List.length_map,List.length_take,List.length_drop]<;>omega)) only [go_sem,seval];refine ⟨(k+1,m++ [((nth l k).1,word++ [32]++(nth l k).2)]),⟨by simp only;omega,hnext _ (by simp [und,h3])⟩,by simp only;omega,Weak.mk (by simp (disch:=first | omega | (simp only [List.length_cons,List.length_nil,List.length_append,List.length_map,List.length_take,List.length_drop]<;>omega)) only [go_sem,seval])⟩
   ·have h3:(nth l k).2= []:=by simpa using h2
    refine ⟨(k+1,m++ [((nth l k).1,word)]),⟨by simp only;omega,hnext _ (by simp [und,h3])⟩,by simp only;omega,Weak.mk (by simp (disch:=first | omega | (simp only [List.length_cons,List.length_nil,List.length_append,List.length_map,List.length_take,List.length_drop]<;>omega)) only [go_sem,seval])⟩
  ·have hkn:k=l.length:=by omega
   subst hkn;exact ⟨m,by rw [hm,List.take_length],0,by simp (disch:=omega) only [go_sem,seval]⟩
theorem Zh4 {n:Int} {ap be:List (Int×Int)} (ha:ap.length<=1048576) (hb:be.length<=1048576): ∀f∈chk n ap be,pF 100 f:=by
 have key: ∀(word:List UInt8) (sm:Int×Int->Int×Int->Bool) (l:List (Int×Int)),word.length<=6->l.length<=1048576-> ∀f∈UF n word sm l l.length,pF 100 f:=fun word sm l hw hl f hf=>by
  simp only [UF,List.mem_append,List.mem_flatMap,List.mem_range] at hf;rcases hf with hf | ⟨i,hi,hf⟩
  ·unfold hdr at hf;split at hf<;>simp at hf;subst hf;simp [pF];omega
  ·have hd:=Y0 6 i (by omega)
   have: ∀e:Int,pF 100 (e,atW word i):=fun e=>by simp [pF,atW];omega
   unfold flt at hf
   split at hf
   ·simp at hf;subst hf;exact this _
   ·split at hf<;>simp at hf
    subst hf;exact this _
 intro f hf;rcases List.mem_append.1 hf with hf | hf
 ·exact key _ _ _ (by simp) ha f hf
 ·exact key _ _ _ (by simp) hb f hf
theorem ZdO {n:Int} {ap be:List (Int×Int)} :(chk n ap be).length<=ap.length+be.length+2:=by
 have h1:=YP n [97,112,97,114,116] (fun p q=>decide (p=q\/(p.1=q.2/\p.2=q.1))) ap ap.length;have h2:=YP n [98,101,102,111,114,101] (fun p q=>decide (p=q)) be be.length;rw [chk,List.length_append];omega
structure InstOk (x:Inst):Prop where
 net:netOk x.net
 types:typesOk x.net x.types
 orders:ordersOk x.net.places.length (dimsOf x.types) x.types.length x.orders
 rules:chk x.orders.length x.apart x.before= []
theorem FR.und {p:Flt->Prop} {C:Prop} {b:Nat} {l:List Flt} (h:FR p C b l) (word:List UInt8):FR (fun _=>True) C b (l.map (und word)) :=
 ⟨by simpa using h.len,by rw [List.map_eq_nil_iff];exact h.emp,fun _ _=>trivial⟩
theorem Zde (x:Inst) (hw:x.wf 1048576):ACalls Tryz.prog 11 [.p (ZW x)] [] fun y H'=> ∃m:List Flt,FR (fun _=>True) (InstOk x) 4194400000000 m/\y= .sl 0 0 m.length m.length/\H'= [.elems 2 (m.map eF)]:=by
 obtain ⟨w1,w2,w3,w4,w5,w6,w7,w8,w9⟩:=hw;refine Zn [] Tryz.func11 rfl Zlv ?_;simp (disch:=omega) only [Tryz.f11,go_sem,seval];have ol:=XM x.net.places.length (dimsOf x.types) x.types.length x.orders x.orders.length;have oat:=J8 (np:=x.net.places.length) (d:=dimsOf x.types) (ty:=x.types.length) w4;have onil:=Qm (np:=x.net.places.length) (d:=dimsOf x.types) (ty:=x.types.length) (l:=x.orders);have cl:=ZdO (n:=x.orders.length) (ap:=x.apart) (be:=x.before);have cat:=Zh4 (n:=x.orders.length) w6 w8;refine ((ZfR x.net w1).frozenE).useV fun m1 h1=> ?_
 simp (disch:=omega) only [go_sem,seval];have h1p:=h1.pmono (q:=pF 100) fun f hf=>hf.mono (by omega);have u1:=YN [110,101,116] m1 false (by simp) h1.len h1p.all;have f1:=h1.und [110,101,116];generalize m1.map (und [110,101,116])=q1 at u1 f1;have f1l:=f1.len;refine (u1).useF ?_;simp (disch:=omega) only [go_sem,seval];refine ((Zg9 x.net x.types x.types_c w1 w2 w3).frozenE).useV fun m2 h2=> ?_;simp (disch:=omega) only [go_sem,seval];have h2p:=h2.pmono (q:=pF 100) fun f hf=>hf.mono (by omega);have h2l:=h2.len;have u2:=(YN [116,121,112,101,115] m2 false (by simp) (by omega) h2p.all).frozen (by simp)
 have f2:=h2.und [116,121,112,101,115];generalize m2.map (und [116,121,112,101,115])=q2 at u2 f2;have f2l:=f2.len;refine (u2).use ?_;simp (disch:=omega) only [go_sem,seval];have u3:=(YN [111,114,100,101,114,115] (ZL x.net.places.length (dimsOf x.types) x.types.length x.orders x.orders.length) false (by simp) (by omega) fun f hf=>(oat f hf).mono (by omega)).frozen (by simp);have f3:=(show FR (fun _=>True) (ordersOk x.net.places.length (dimsOf x.types) x.types.length x.orders) (1+8*x.orders.length) (ZL x.net.places.length (dimsOf x.types) x.types.length x.orders x.orders.length) from ⟨ol,onil,fun _ _=>trivial⟩).und [111,114,100,101,114,115]
 generalize (ZL x.net.places.length (dimsOf x.types) x.types.length x.orders x.orders.length).map (und [111,114,100,101,114,115])=q3 at u3 f3;have f3l:=f3.len;refine Xj 13 mixed (by kernel_rfl) (by kernel_rfl) ?_;simp (disch:=omega) only [go_sem,seval];refine ZM (QT x.types x.types_c w2) ?_;simp (disch:=omega) only [go_sem,seval];refine ZM ((Zha x.net (dimsOf x.types) x.types.length x.orders x.orders_c w1 w4 w5).frozen (by simp)) ?_;simp (disch:=omega) only [go_sem,seval];refine ZM (u3) ?_;simp (disch:=omega) only [go_sem,seval];have u4:=(YN [114,117,108,101,115] (chk x.orders.length x.apart x.before) false (by simp) (by omega) cat).frozen (by simp)
 have f4:=(show FR (fun _=>True) (chk x.orders.length x.apart x.before= []) (x.apart.length+x.before.length+2) (chk x.orders.length x.apart x.before) from ⟨cl,Iff.rfl,fun _ _=>trivial⟩).und [114,117,108,101,115];generalize (chk x.orders.length x.apart x.before).map (und [114,117,108,101,115])=q4 at u4 f4;have f4l:=f4.len;refine ((Zcg x.orders.length x.apart x.before x.apart_c x.before_c w6 w8).frozen (by simp)).use ?_;simp (disch:=omega) only [go_sem,seval];refine (u4).use ?_;simp (disch:=omega) only [go_sem,seval];refine ⟨q1++q2++q3++q4,((f1.app f2).app f3 |>.app f4).to (by omega) ⟨fun ⟨⟨⟨a,b⟩,c⟩,d⟩=>⟨a,b,c,d⟩,fun h=>⟨⟨⟨h.net,h.types⟩,h.orders⟩,h.rules⟩⟩,1,?_⟩
 simp (disch:=omega) only [go_sem,seval]
def Ze (x:Inst):AM.Obj:= .cells [.p (.list x.net.places_c (x.net.places.map eS)),.p (.list x.net.arcs_c (x.net.arcs.map Kj)),.p (.list x.types_c (x.types.map QZ)),.p (.list x.orders_c (x.orders.map eOrd)),.p (.list x.apart_c (x.apart.map eP)),.p (.list x.before_c (x.before.map eP))]
def hv (s k:Nat):Nat:=s / pw k
deriving instance DecidableEq for Vis
theorem ZcQ {v w:Vis} :v=w↔v.order=w.order/\v.drp=w.drp:=by cases v;cases w;simp
def fIx (f:Vis->Bool) (l:List Vis):Int:=match l.findIdx? f with | some i=>(i:Int) | none=> -1
def vIx (l:List Vis) (v:Vis):Int:=fIx (fun w=>decide (v=w)) l
theorem Zgk {f:Vis->Bool} {l:List Vis} {k:Nat} (hk:k<l.length) (h:f (nth l k)=true) (hno: ∀j,j<k->f (nth l j)=false):fIx f l=(k:Int):=by
 have:l.findIdx? f=some k:=by
  rw [List.findIdx?_eq_some_iff_getElem];refine ⟨hk,by rw [<- Zh hk];exact h,fun j hj=> ?_⟩;have h2:=hno j hj;rw [Zh (by omega)] at h2;simpa using h2
 simp [fIx,this]
theorem Zhr {f:Vis->Bool} {l:List Vis} (hno: ∀j,j<l.length->f (nth l j)=false):fIx f l= -1:=by
 have:l.findIdx? f=none:=by
  rw [List.findIdx?_eq_none_iff];intro x hx;obtain ⟨j,hj,rfl⟩:=List.mem_iff_getElem.1 hx;rw [<- Zh hj];exact hno j hj
 simp [fIx,this]
theorem ZmR (l:List Vis) (c:Bool) (v:Vis) (hl:l.length<=1048576):PC 202 [.p (.list c (l.map J9)),.p (J9 v)] (.int .i64 (vIx l v)):=by
 refine Zb Tryz.func202 rfl Zhp ?_;simp (disch:=omega) only [Tryz.f202,go_sem,seval];refine Zf [0,3,7] (fun k:Nat=> [(8,.p (.int .i64 k))]) (fun _=> [.cells [.p (.int .i64 v.order),.p (.bool v.drp)]]) (fun k=>k<=l.length/\ ∀j,j<k->decide (v=nth l j)=false) (fun k=>l.length-k) 0 (by simp) (Weak.mk ?_) ?_
 ·simp (disch:=omega) only [go_sem,seval]
 ·rintro k ⟨hk,hno⟩;simp (disch:=omega) only [go_sem,seval];refine cD ?_ ?_<;>intro h<;>simp (disch:=omega) only [Sh.out h,go_sem,seval]
  ·have hk2:k<l.length:=by omega
   refine Zq mixed (by kernel_rfl) (by kernel_rfl) ?_;simp (disch:=omega) only [go_sem,seval];refine cD ?_ ?_<;>intro h2<;>simp (disch:=omega) only [Sh.out h2,go_sem,seval]
   ·have:v=nth l k:=by simpa [ZcQ] using h2
    rw [vIx,Zgk hk2 (by simpa using this) hno]
   ·have: ¬v=nth l k:=by simpa [ZcQ] using h2
    exact ⟨k+1,⟨by omega,Zk.2 ⟨hno,by simpa using this⟩⟩,by omega,wk⟩
  ·have hkl:k=l.length:=by omega
   subst hkl;rw [vIx,Zhr hno]
theorem ZdE (l:List Ord) (c:Bool) (n:Int) (hl:l.length<=1048576):PC 125 [.p (.list c (l.map eOrd)),.p (.int .i64 n)] (.bool (decide (0<=n/\n<l.length))):=by
 refine Zb Tryz.func125 rfl ZhJ ?_;simp (disch:=omega) only [Tryz.f125,go_sem,seval];refine gT ?_ ?_<;>intro h<;>simp (disch:=omega) only [Sh.out h,go_sem,seval]
 all_goals (try simp [h])
def ZdP (l:List Ord) (i:Nat):List Vis:=(if 0<=(nth l i).pick.place then [⟨i,false⟩] else [])++(if 0<=(nth l i).drp.place then [⟨i,true⟩] else [])
theorem JY (l:List Ord) (c:Bool) (i:Nat) (hi:i<l.length) (hl:l.length<=1048576):ACalls Tryz.prog 97 [.p (.list c (l.map eOrd)),.p (.int .i64 (i:Nat))] [] fun x H'=>x= .sl 0 0 (ZdP l i).length (ZdP l i).length/\H'= [.elems 2 ((ZdP l i).map J9)]:=by
 suffices hh:ACalls Tryz.prog 97 [.p (.list c (l.map eOrd)),.p (.int .i64 (i:Nat))] [] fun x H'=> ∃m:List Vis,m=ZdP l i/\x= .sl 0 0 m.length m.length/\H'= [.elems 2 (m.map J9)] by
  refine hh.mono ?_;rintro x H' ⟨m,rfl,h1,h2⟩;exact ⟨h1,h2⟩
 refine Zn [2] Tryz.func97 rfl Zlr ?_;simp (disch:=omega) only [Tryz.f97,go_sem,seval];refine ZD (Weak.ofNil 5 2 (by simp (disch:=omega) only [go_sem,seval]) (by simp) (Weak.refl _ _ _)) ?_;refine Za [4] _ _ _ _ ?_;simp (disch:=omega) only [go_sem,seval];refine (ZdE l c i hl).use ?_;simp (disch:=omega) only [go_sem,seval]
 have h0:(0:Int)<=(i:Int)/\(i:Int)<(l.length:Int):=by omega
 simp (disch:=omega) only [h0,go_sem,seval];refine Zm [0,1] (fun m:List Vis=> [(5,.sl 0 0 m.length m.length)]) (fun m=> [.elems 2 (m.map J9)]) (fun m=>m=(if 0<=(nth l i).pick.place then [⟨i,false⟩] else [])) ?_ ?_
 ·simp (disch:=omega) only [go_sem,seval];refine cD ?_ ?_<;>intro h<;>simp (disch:=omega) only [Sh.out h,go_sem,seval]
  ·exact ⟨[⟨i,false⟩],by simp [h],wk⟩
  ·exact ⟨[],by simp [h],wk⟩
 ·intro m hm
  have hml:m.length<=1:=by rw [hm];split<;>simp
  refine Za [] _ _ _ _ ?_;simp (disch:=omega) only [go_sem,seval];refine cD ?_ ?_<;>intro h<;>simp (disch:=omega) only [Sh.out h,go_sem,seval]
  ·exact ⟨m++ [⟨i,true⟩],by rw [ZdP,hm,if_pos h],0,by simp (disch:=omega) only [go_sem,seval]⟩
  ·exact ⟨m,by rw [ZdP,hm,if_neg h,List.append_nil],0,by simp (disch:=omega) only [go_sem,seval]⟩
theorem visits_c (l:List Ord) (c:Bool) (i:Nat) (hi:i<l.length) (hl:l.length<=1048576):PC 97 [.p (.list c (l.map eOrd)),.p (.int .i64 (i:Nat))] (.list false ((ZdP l i).map J9)) :=
 (JY l c i hi hl).frozen (by simp)
def Yk (l:List Vis) (o:Int):Bool:=l.any fun v=>decide (v.order=o)
def Zbg (r:Rte):AM.Obj:= .cells [.p (.int .i64 r.typ),.p (.int .i64 r.start),.p (.list r.rests_c (r.rests.map eB)),.p (.list r.visits_c (r.visits.map J9))]
@[go_sem] theorem ZjB {H:List AM.Obj} {n cs cs'} :wkV H n (.tup cs) (.tup cs')=(cs'=cs/\ZT n cs=true):=by simp [wkV,frz,refB]
@[go_sem] theorem JV {a b:V} :XA [a,b]= .tup [a,b]:=Eq.trans rfl rfl
theorem Zc4 {g:FuncId} {args:List V} {a b:PV} {H:List AM.Obj} {K:V->List AM.Obj->Prop} (h:ACalls Tryz.prog g args [] fun x H'=>x= .tup [.p a,.p b]/\H'= []) (k:K (.tup [.p a,.p b]) H) (ha:ZT 0 args=true:=by rfl):ACalls Tryz.prog g args H K :=
 (h.behind ha H).mono fun x H' hq=>by
  obtain ⟨y,H1,⟨rfl,rfl⟩,rfl,rfl⟩:=hq;simpa [shV,Zai] using k
def Zco (l:List Vis):Nat:=l.foldl (fun s v=>s|||pw v.order.toNat) 0
def inS (v:Vis):Bool:=decide (0<=v.order/\v.order<=62)
theorem V9 {l:List Vis} {k:Nat} (hk:k<l.length):Zco (l.take (k+1))=Zco (l.take k)|||pw (nth l k).order.toNat:=by
 rw [List.take_succ_eq_append_getElem hk,Zco,List.foldl_append,Zh hk];rfl
theorem Kq : ∀(k:Nat) {l:List Vis},k<=l.length->(∀v∈l.take k,inS v=true)->Zco (l.take k)<9223372036854775808
 | 0,l,_,_=>by simp [Zco]
 | k+1,l,hk,h=>by
  have hk2:k<l.length:=by omega
  have ih:=Kq k (l:=l) (by omega) fun v hv=>h v (List.take_subset_take_left l (by omega) hv);have hv:=h (nth l k) (by rw [Zh hk2];exact List.mem_iff_getElem.2 ⟨k,by simp;omega,by simp⟩);simp only [inS,decide_eq_true_eq] at hv;have h2:pw (nth l k).order.toNat<=pw 62:=ZdJ (by omega);have h3:=Zeq;rw [V9 hk2];exact Nat.or_lt_two_pow (n:=63) (by omega) (by omega)
def Zfy (l:List Vis):Int×Int:=if l.all inS=true then (((Zco l:Nat):Int),0) else (0,2)
theorem ZdR (r:Rte) (hl:r.visits.length<=1048576):PT 209 [.p (Zbe r)] [.p (.int .i64 (Zfy r.visits).1),.p (.int .i64 (Zfy r.visits).2)]:=by
 refine ZQ [] Tryz.func209 rfl ZfG ?_;simp (disch:=omega) only [Tryz.f209,go_sem,seval];refine Zf [8,9] (fun k:Nat=> [(4,.p (.int .i64 (Zco (r.visits.take k):Nat))),(10,.p (.int .i64 k))]) (fun _=> [Zbg r]) (fun k=>k<=r.visits.length/\ ∀j,j<k->inS (nth r.visits j)=true) (fun k=>r.visits.length-k) 0 (by simp) (Weak.mk ?_) ?_
 ·simp (disch:=omega) only [Zbg,Zco,List.take_zero,List.foldl_nil,go_sem,seval]
 ·rintro k ⟨hk,hno⟩
  have hlt:=Kq k hk fun v hv=>by
   obtain ⟨j,hj,rfl⟩:=List.mem_iff_getElem.1 hv;simp at hj;rw [List.getElem_take,<- Zh (by omega)];exact hno j (by omega)
  simp (disch:=omega) only [Zbg,go_sem,seval];refine cD ?_ ?_<;>intro h<;>simp (disch:=omega) only [Sh.out h,go_sem,seval]
  ·have hk2:k<r.visits.length:=by omega
   have hbad:inS (nth r.visits k)=false->Zfy r.visits=(0,2):=fun h4=>by
    have:r.visits.all inS=false:=by rw [List.all_eq_false];exact ⟨nth r.visits k,Zu hk2,by rw [h4];simp⟩
    simp [Zfy,this]
   have hs:=V9 hk2
   have hp:(nth r.visits k).order<=62->pw (nth r.visits k).order.toNat<=4611686018427387904:=fun h=>by rw [<- Zeq];exact ZdJ (by omega)
   refine gF ?_ ?_<;>intro h1<;>simp (disch:=omega) only [Sh.out h1,go_sem,seval]
   ·have e:=hbad (by simp [inS];omega);rw [e];exact we
   ·refine cD ?_ ?_<;>intro h2<;>simp (disch:=omega) only [Sh.out h2,go_sem,seval]
    ·have e:=hbad (by simp [inS];omega);rw [e];exact we
    ·exact ⟨k+1,⟨by omega,Zk.2 ⟨hno,by simp [inS];omega⟩⟩,by omega,Weak.mk (by simp (disch:=omega) only [Zbg,hs,go_sem,seval])⟩
  ·have hkl:k=r.visits.length:=by omega
   subst hkl
   have:r.visits.all inS=true:=by
    rw [List.all_eq_true];intro v hv;obtain ⟨j,hj,rfl⟩:=List.mem_iff_getElem.1 hv;rw [<- Zh hj];exact hno j hj
   have e:Zfy r.visits=(((Zco r.visits:Nat):Int),0):=by simp [Zfy,this]
   rw [e,List.take_length];exact we
def JN (a b:Int):Int:=if a<b then-1 else if b<a then 1 else 0
theorem ZaD (a:Int):PC 110 [.p (.int .i64 a)] (.bool false):=by
 refine Zb Tryz.func110 rfl Zf0 ?_;simp (disch:=omega) only [Tryz.f110,go_sem,seval]
 try simp
theorem Zhl (a b:Int):PC 85 [.p (.int .i64 a),.p (.int .i64 b)] (.int .i64 (JN a b)):=by
 refine Zb Tryz.func85 rfl Zlc ?_;simp (disch:=omega) only [Tryz.f85,go_sem,seval];refine (ZaD a).use ?_;simp (disch:=omega) only [go_sem,seval];refine (ZaD b).use ?_;simp (disch:=omega) only [go_sem,seval];refine cD ?_ ?_<;>intro h<;>simp (disch:=omega) only [Sh.out h,go_sem,seval]
 ·simp [JN,h]
 ·refine cD ?_ ?_<;>intro h2<;>simp (disch:=omega) only [Sh.out h2,go_sem,seval]
  ·simp [JN,h,h2]
  ·simp [JN,h,h2]
def orI (l:List Int):Int:=(l.find? fun n=>decide (n≠0)).getD 0
theorem Zh5 {l:List Int} {k:Nat} (hk:k<l.length) (h:nth l k≠0) (hno: ∀j,j<k->nth l j=0):orI l=nth l k:=by
 have:l.find? (fun n=>decide (n≠0))=some (nth l k):=by
  rw [List.find?_eq_some_iff_getElem];refine ⟨by simpa using h,k,hk,(Zh hk).symm,fun j hj=> ?_⟩;have:=hno j hj;rw [Zh (by omega)] at this;simp [this]
 simp only [orI,this,Option.getD_some]
theorem ZfL {l:List Int} (hno: ∀j,j<l.length->nth l j=0):orI l=0:=by
 have:l.find? (fun n=>decide (n≠0))=none:=by
  rw [List.find?_eq_none];intro x hx;obtain ⟨j,hj,rfl⟩:=List.mem_iff_getElem.1 hx;rw [<- Zh hj,hno j hj];simp
 simp only [orI,this,Option.getD_none]
theorem Zp0 (l:List Int) (c:Bool) (hl:l.length<=100):PC 84 [.p (.list c (l.map eI))] (.int .i64 (orI l)):=by
 refine Zb Tryz.func84 rfl Zla ?_;simp (disch:=omega) only [Tryz.f84,go_sem,seval];refine Zf [3,6,7] (fun k:Nat=> [(8,.p (.int .i64 k))]) (fun _=> []) (fun k=>k<=l.length/\ ∀j,j<k->nth l j=0) (fun k=>l.length-k) 0 (by simp) (Weak.mk ?_) ?_
 ·simp (disch:=omega) only [go_sem,seval]
 ·rintro k ⟨hk,hno⟩;simp (disch:=omega) only [go_sem,seval];refine cD ?_ ?_<;>intro h<;>simp (disch:=omega) only [Sh.out h,go_sem,seval]
  ·have hk2:k<l.length:=by omega
   refine cD ?_ ?_<;>intro h2<;>simp (disch:=omega) only [Sh.out h2,go_sem,seval]
   ·rw [Zh5 hk2 h2 hno]
   ·exact ⟨k+1,⟨by omega,Zk.2 ⟨hno,by simpa using h2⟩⟩,by omega,wk⟩
  ·have hkl:k=l.length:=by omega
   subst hkl;rw [ZfL hno]
theorem Zd9 (a b:Int):orI [a,b]=if a=0 then b else a:=by
 by_cases h:a=0
 ·by_cases h2:b=0<;>simp [orI,h,h2]
 ·simp [orI,h]
def dn (v:Vis):Int:=if v.drp=true then 1 else 0
def Zqi (nx:List Vis->List Vis):Nat->List Vis->List (List Vis)->List (List Vis)×Bool
 | 0,l,outs=>(outs++ [l],decide (outs.length+1<=8192))
 | f+1,l,outs=>(nx l).foldl (fun acc v=>if acc.2=true then Zqi nx f (l++ [v]) acc.1 else acc) (outs,true)
theorem Uv {a b:Int} :JN a b=0↔a=b:=by unfold JN;split<;>(try split)<;>omega
def Plc (x:Inst):Prop:= ∀o∈x.orders,-1<=o.pick.place/\ -1<=o.drp.place
def ext (nx:List Vis->List Vis):Nat->List Vis->List (List Vis)->List (List Vis)
 | 0,l,outs=>if 8192<outs.length then outs else outs++ [l]
 | f+1,l,outs=>if 8192<outs.length then outs else (nx l).foldl (fun acc v=>ext nx f (l++ [v]) acc) outs
theorem Wp {l:List Vis} {o:Int} :Yk l o=true↔ ∃v∈l,v.order=o:=by simp [Yk]
def Z7 (p:Pln):AM.Obj:= .cells [.p (.list p.routes_c (p.routes.map Zbe)),.p (.list p.unserved_c (p.unserved.map eI))]
def XU (f:Nat->Int) (n:Nat):List Int:=(List.range n).map f
theorem Yb {f n} :(XU f n).length=n:=by simp [XU]
theorem VE {f:Nat->Int} {n j:Nat} (h:j<n):nth (XU f n) j=f j:=by rw [Zh (by rw [Yb];exact h)];simp [XU]
theorem WO {f g:Nat->Int} {n:Nat} (h: ∀i,i<n->f i=g i):XU f n=XU g n:=List.map_congr_left fun i hi=>h i (List.mem_range.1 hi)
theorem Jt {f n j v} :(XU f n).set j v=XU (fun i=>if i=j then v else f i) n:=by
 refine List.ext_getElem (by simp [XU]) fun i h1 h2=> ?_
 have hi:i<n:=by simpa [XU] using h2
 rw [List.getElem_set];simp only [XU,List.getElem_map,List.getElem_range]
 by_cases c:j=i
 ·subst c;simp
 ·rw [if_neg c,if_neg (fun e=>c e.symm)]
def ZA (rs:List Rte):Nat->Nat->Int
 | 0,_=> -1
 | k+1,o=>if Yk (nth rs k).visits (o:Int)=true then (k:Int) else ZA rs k o
theorem XY {rs:List Rte} {o:Nat} : ∀k:Nat,-1<=ZA rs k o/\ZA rs k o<(k:Int)
 | 0=>by simp [ZA]
 | k+1=>by
  have:=XY (rs:=rs) (o:=o) k;rw [ZA];split<;>omega
def W0 (rs:List Rte) (k:Nat) (l:List Vis) (o:Nat):Int:=if Yk l (o:Int)=true then (k:Int) else ZA rs k o
def Kz (n:Nat) (v:Vis):Bool:=decide (v.order<0)||decide ((n:Int)<=v.order)
def W3 (x:Inst) (r:Rte):Bool:=(decide (r.typ<0)||decide ((x.types.length:Int)<=r.typ))||r.visits.any (Kz x.orders.length)
def twV (rs:List Rte) (k:Nat) (l:List Vis):Bool:=l.any fun v=>decide (0<=ZA rs k v.order.toNat)
def twB (rs:List Rte):Nat->Bool
 | 0=>false
 | k+1=>twB rs k||twV rs k (nth rs k).visits
def Y3 (x:Inst) (p:Pln):Int:=if p.routes.any (W3 x)=true then 2 else if twB p.routes p.routes.length=true then 6 else 0
def Vo (rs:List Rte) (i:Int):Int:=if 0<=i then (nth rs i.toNat).typ else-1
def Kd (x:Inst) (p:Pln):List Int:=XU (fun o=>Vo p.routes (ZA p.routes p.routes.length o)) x.orders.length
theorem VA {x p} :(Kd x p).length=x.orders.length:=Yb
theorem Zat {l:List Vis} {v:Vis} {o:Int} :Yk (l++ [v]) o=(Yk l o||decide (v.order=o)):=by simp [Yk]
theorem ZaI {rs:List Rte} {k:Nat} {l:List Vis} {v:Vis} {n:Nat} (h:0<=v.order/\v.order<(n:Int)):(XU (W0 rs k l) n).set v.order.toNat (k:Int)=XU (W0 rs k (l++ [v])) n:=by
 rw [Jt];refine WO fun i hi=> ?_;rw [W0,W0,Zat]
 by_cases c:i=v.order.toNat
 ·rw [if_pos c,if_pos (by simp;omega)]
 ·rw [if_neg c]
  have:decide (v.order=(i:Int))=false:=by rw [decide_eq_false_iff_not];omega
  rw [this,Bool.or_false]
theorem Zcx {rs:List Rte} {k:Nat} :W0 rs k (nth rs k).visits=ZA rs (k+1):=funext fun o=>rfl
theorem Jq {rs:List Rte} {k:Nat} :W0 rs k []=ZA rs k:=funext fun o=>by simp [W0,Yk]
theorem ZcC {rs:List Rte} {k:Nat} {l:List Vis} {o:Nat} : -1<=W0 rs k l o/\W0 rs k l o<=(k:Int):=by
 have:=XY (rs:=rs) (o:=o) k;rw [W0];split<;>omega
theorem ZbG {rs:List Rte} {k:Nat} {l:List Vis} {v:Vis} (h:0<=v.order) {b:Bool} :((b||twV rs k l)||(decide (W0 rs k l v.order.toNat≠ -1)&&decide (W0 rs k l v.order.toNat≠(k:Int))))=(b||twV rs k (l++ [v])):=by
 have hr:=XY (rs:=rs) (o:=v.order.toNat) k
 have e:twV rs k (l++ [v])=(twV rs k l||decide (0<=ZA rs k v.order.toNat)):=by simp [twV]
 rw [e,W0]
 by_cases c:Yk l (v.order.toNat:Int)=true
 ·rw [if_pos c]
  have:decide (0<=ZA rs k v.order.toNat)=true->twV rs k l=true:=fun h2=>by
   obtain ⟨w,hw,e2⟩:=Wp.1 c;rw [twV,List.any_eq_true];refine ⟨w,hw,?_⟩;rw [e2,Int.toNat_natCast];exact h2
  cases h3:twV rs k l with
  | true=>simp
  | false =>
   have h4:decide (0<=ZA rs k v.order.toNat)=false:=by
    cases h5:decide (0<=ZA rs k v.order.toNat) with
    | true=>rw [this h5] at h3;cases h3
    | false=>rfl
   simp [h4]
 ·rw [if_neg c];have h1:decide (ZA rs k v.order.toNat≠ -1)=decide (0<=ZA rs k v.order.toNat):=decide_eq_decide.2 (by omega);have h2:decide (ZA rs k v.order.toNat≠(k:Int))=true:=decide_eq_true (by omega);rw [h1,h2,Bool.and_true,Bool.or_assoc]
theorem Ww {x:Inst} {p:Pln} {k:Nat} (h:k<p.routes.length) (hb:W3 x (nth p.routes k)=true):Y3 x p=2:=by
 rw [Y3,if_pos (List.any_eq_true.2 ⟨_,Zu h,hb⟩)]
theorem Zdk {x:Inst} {p:Pln} (h: ∀j,j<p.routes.length->W3 x (nth p.routes j)=false):p.routes.any (W3 x)=false:=by
 rw [List.any_eq_false];intro r hr;obtain ⟨j,hj,rfl⟩:=List.mem_iff_getElem.1 hr;have:=h j hj;rw [Zh hj] at this;simp [this]
theorem Qs {x:Inst} {p:Pln} (h: ∀j,j<p.routes.length->W3 x (nth p.routes j)=false):Y3 x p=if twB p.routes p.routes.length=true then 6 else 0:=by
 rw [Y3,Zdk h];simp
set_option maxRecDepth 60000
def Vn : List Rte->Int->Int
 | [],_=> -1
 | r::t,o=>if Yk r.visits o=true then r.typ else Vn t o
theorem Zey {α:Type} [Inhabited α] {l:List α} {k:Nat} (h:k<l.length):l.drop k=nth l k::l.drop (k+1):=by rw [List.drop_eq_getElem_cons h,Zh h]
theorem Zav {v:Vis} {l:List Vis} {o:Int} :Yk (v::l) o=(decide (v.order=o)||Yk l o):=rfl
theorem UW (p:Pln) (o:Int) (hr:p.routes.length<=1048576) (hv: ∀r∈p.routes,r.visits.length<=1048576) :
  PC 38 [.p (Zbi p),.p (.int .i64 o)] (.int .i64 (Vn p.routes o)):=by
 refine Zb Tryz.func38 rfl Zk3 ?_;simp (disch:=omega) only [Tryz.f38,go_sem,seval];refine Zf [1,2] (fun k:Nat=> [(5,.p (.int .i64 k))]) (fun _=> [Z7 p]) (fun k=>k<=p.routes.length/\Vn p.routes o=Vn (p.routes.drop k) o) (fun k=>p.routes.length-k) 0 (by simp) (Weak.mk ?_) ?_
 ·simp (disch:=omega) only [Z7,go_sem,seval]
 ·rintro k ⟨hk,he⟩;simp (disch:=omega) only [Z7,go_sem,seval];refine cD ?_ ?_<;>intro h<;>simp (disch:=omega) only [Sh.out h,go_sem,seval]
  ·have hk2:k<p.routes.length:=by omega
   have hvl:=hv _ (Zu hk2);rw [Zey hk2,Vn] at he;refine Zf [1,2,5] (fun q:Nat=> [(6,.p (.int .i64 q))]) (fun _=> [Z7 p]) (fun q=>q<=(nth p.routes k).visits.length/\Yk (nth p.routes k).visits o=Yk ((nth p.routes k).visits.drop q) o) (fun q=>(nth p.routes k).visits.length-q) 0 (by simp) (Weak.mk ?_) ?_
   ·simp (disch:=omega) only [Z7,go_sem,seval]
   ·rintro q ⟨hq,hh⟩;simp (disch:=omega) only [Z7,go_sem,seval];refine cD ?_ ?_<;>intro h2<;>simp (disch:=omega) only [Sh.out h2,go_sem,seval]
    ·have hq2:q<(nth p.routes k).visits.length:=by omega
     rw [Zey hq2,Zav] at hh;refine cD ?_ ?_<;>intro h3<;>simp (disch:=omega) only [Sh.out h3,go_sem,seval]
     ·rw [he,if_pos (by rw [hh,decide_eq_true h3];rfl)]
     ·rw [decide_eq_false h3,Bool.false_or] at hh;exact ⟨q+1,⟨by omega,hh⟩,by omega,Weak.mk (by simp (disch:=omega) only [Z7,go_sem,seval])⟩
    ·have hql:q=(nth p.routes k).visits.length:=by omega
     rw [hql,List.drop_length] at hh;rw [if_neg (by rw [hh];simp [Yk])] at he;exact ⟨k+1,⟨by omega,he⟩,by omega,Weak.mk (by simp (disch:=omega) only [Z7,go_sem,seval])⟩
  ·have hkl:k=p.routes.length:=by omega
   rw [hkl,List.drop_length,Vn] at he;rw [he]
def nW (rs:List Rte) (o:Int):Nat->Nat
 | 0=>0
 | k+1=>nW rs o k+if Yk (nth rs k).visits o=true then 1 else 0
theorem ZgI {rs:List Rte} {o:Int} : ∀k,nW rs o k<=k
 | 0=>by simp [nW]
 | k+1=>by have:=ZgI (rs:=rs) (o:=o) k;rw [nW];split<;>omega
theorem Yl {rs:List Rte} {o:Int} : ∀ {k:Nat},1<=nW rs o k↔ ∃a,a<k/\Yk (nth rs a).visits o=true
 | 0=>by simp [nW]
 | k+1=>by
  rw [nW]
  constructor
  ·intro h
   by_cases c:Yk (nth rs k).visits o=true
   ·exact ⟨k,by omega,c⟩
   ·rw [if_neg c] at h;obtain ⟨a,h1,h2⟩:=Yl.1 (show 1<=nW rs o k by omega);exact ⟨a,by omega,h2⟩
  ·rintro ⟨a,h1,h2⟩
   by_cases c:a=k
   ·subst c;rw [if_pos h2];omega
   ·have:=Yl.2 ⟨a,show a<k by omega,h2⟩;omega
theorem ZaX {rs:List Rte} {o:Int} : ∀ {k:Nat},2<=nW rs o k↔ ∃a b,a<b/\b<k/\Yk (nth rs a).visits o=true/\Yk (nth rs b).visits o=true
 | 0=>by simp [nW]
 | k+1=>by
  rw [nW]
  constructor
  ·intro h
   by_cases c:Yk (nth rs k).visits o=true
   ·rw [if_pos c] at h;obtain ⟨a,h1,h2⟩:=Yl.1 (show 1<=nW rs o k by omega);exact ⟨a,k,h1,by omega,h2,c⟩
   ·rw [if_neg c] at h;obtain ⟨a,b,h1,h2,h3⟩:=ZaX.1 (show 2<=nW rs o k by omega);exact ⟨a,b,h1,by omega,h3⟩
  ·rintro ⟨a,b,h1,h2,h3,h4⟩
   by_cases c:b=k
   ·subst c;have:=Yl.2 ⟨a,h1,h3⟩;rw [if_pos h4];omega
   ·have:=ZaX.2 ⟨a,b,h1,show b<k by omega,h3,h4⟩;omega
theorem X2 {rs:List Rte} {o:Nat} : ∀ {k:Nat},0<=ZA rs k o↔ ∃a,a<k/\Yk (nth rs a).visits (o:Int)=true
 | 0=>by simp [ZA]
 | k+1=>by
  rw [ZA]
  constructor
  ·intro h
   by_cases c:Yk (nth rs k).visits (o:Int)=true
   ·exact ⟨k,by omega,c⟩
   ·rw [if_neg c] at h;obtain ⟨a,h1,h2⟩:=X2.1 h;exact ⟨a,by omega,h2⟩
  ·rintro ⟨a,h1,h2⟩
   by_cases c:Yk (nth rs k).visits (o:Int)=true
   ·rw [if_pos c];omega
   ·rw [if_neg c];refine X2.2 ⟨a,?_,h2⟩
    by_cases c2:a=k
    ·subst c2;exact absurd h2 c
    ·omega
theorem VY {rs:List Rte} : ∀ {k:Nat},(∀j,j<k-> ∀v∈(nth rs j).visits,0<=v.order)->(twB rs k=true↔ ∃o:Nat,2<=nW rs (o:Int) k/\ ∃j,j<k/\Yk (nth rs j).visits (o:Int)=true)
 | 0,_=>by simp [twB,nW]
 | k+1,h=>by
  rw [twB,Bool.or_eq_true,VY fun j hj=>h j (by omega)]
  constructor
  ·rintro (⟨o,h1,j,h2,h3⟩ | h1)
   ·exact ⟨o,by rw [nW];omega,j,by omega,h3⟩
   ·rw [twV,List.any_eq_true] at h1;obtain ⟨v,hv,h2⟩:=h1;have h3:=X2.1 (of_decide_eq_true h2);have h4:=Yl.2 h3;have h5:Yk (nth rs k).visits (v.order.toNat:Int)=true:=Wp.2 ⟨v,hv,by have:=h k (by omega) v hv;omega⟩;exact ⟨v.order.toNat,by rw [nW,if_pos h5];omega,k,by omega,h5⟩
  ·rintro ⟨o,h1,_⟩;rw [nW] at h1
   by_cases c:Yk (nth rs k).visits (o:Int)=true
   ·rw [if_pos c] at h1;refine .inr ?_;obtain ⟨v,hv,e⟩:=Wp.1 c;rw [twV,List.any_eq_true];refine ⟨v,hv,decide_eq_true ?_⟩;rw [e,Int.toNat_natCast,X2];exact Yl.1 (by omega)
   ·rw [if_neg c] at h1;obtain ⟨a,b,q1,q2,q3,q4⟩:=ZaX.1 (show 2<=nW rs o k by omega);exact .inl ⟨o,by omega,a,by omega,q3⟩
theorem Uj {o:Int} {r:Rte} : ∀ {a:List Rte},Vn (a++ [r]) o=if (a.any fun r=>Yk r.visits o)=true then Vn a o else if Yk r.visits o=true then r.typ else-1
 | []=>by simp [Vn]
 | s::t=>by
  rw [List.cons_append,Vn,Vn,Uj]
  by_cases c:Yk s.visits o=true
  ·simp [c]
  ·simp [c]
theorem UN {rs:List Rte} {o:Nat} : ∀ {k:Nat},k<=rs.length->nW rs (o:Int) k<=1->Vn (rs.take k) (o:Int)=Vo rs (ZA rs k o)
 | 0,_,_=>by simp [Vn,ZA,Vo]
 | k+1,hk,h=>by
  have hk2:k<rs.length:=by omega
  rw [nW] at h;rw [List.take_succ_eq_append_getElem hk2,<- Zh hk2,Uj,ZA]
  have hany:((rs.take k).any fun r=>Yk r.visits (o:Int))=true↔1<=nW rs (o:Int) k:=by
   rw [Yl,List.any_eq_true]
   constructor
   ·rintro ⟨r,hr,h1⟩;obtain ⟨a,ha,rfl⟩:=List.mem_iff_getElem.1 hr;rw [List.length_take] at ha;rw [List.getElem_take] at h1;exact ⟨a,by omega,by rw [Zh (by omega)];exact h1⟩
   ·rintro ⟨a,ha,h1⟩;refine ⟨nth rs a,?_,h1⟩;rw [Zh (by omega),List.mem_take_iff_getElem];exact ⟨a,by omega,rfl⟩
  by_cases c:Yk (nth rs k).visits (o:Int)=true
  ·rw [if_pos c] at h;rw [if_neg (by rw [hany];omega),if_pos c,if_pos c,Vo,if_pos (by omega),Int.toNat_natCast]
  ·rw [if_neg c] at h;have ih:=UN (rs:=rs) (o:=o) (k:=k) (by omega) (by omega);rw [if_neg c,if_neg c,<- ih]
   split
   ·rfl
   ·rename_i h2;rw [hany] at h2;have h3: ¬ 0<=ZA rs k o:=fun h4=>h2 (Yl.2 (X2.1 h4));rw [ih,Vo,if_neg h3]
theorem UB {x:Inst} {p:Pln} (h:Y3 x p=0):(∀r∈p.routes,W3 x r=false)/\twB p.routes p.routes.length=false:=by
 rw [Y3] at h
 split at h
 ·omega
 ·rename_i h1
  split at h
  ·omega
  ·rename_i h2;refine ⟨fun r hr=> ?_,by simpa using h2⟩;rw [List.any_eq_true] at h1
   cases h3:W3 x r with
   | false=>rfl
   | true=>exact absurd ⟨r,hr,h3⟩ h1
theorem X6 {x:Inst} {r:Rte} (h:W3 x r=false):(0<=r.typ/\r.typ<(x.types.length:Int))/\ ∀v∈r.visits,0<=v.order/\v.order<(x.orders.length:Int):=by
 simp only [W3,Bool.or_eq_false_iff,decide_eq_false_iff_not,List.any_eq_false] at h;refine ⟨by omega,fun v hv=> ?_⟩;have:=h.2 v hv;simp only [Kz,Bool.or_eq_true,decide_eq_true_eq] at this;omega
theorem ZbF {x:Inst} {p:Pln} (h:Y3 x p=0):XU (fun i=>Vn p.routes (i:Int)) x.orders.length=Kd x p:=by
 obtain ⟨h1,h2⟩:=UB h;refine WO fun i _=> ?_
 have h3:nW p.routes (i:Int) p.routes.length<=1:=by
  refine Nat.le_of_not_lt fun h4=> ?_;have h5:=(VY (rs:=p.routes) (k:=p.routes.length) fun j hj v hv=>((X6 (h1 _ (Zu hj))).2 v hv).1).2 ⟨i,h4,by obtain ⟨a,q1,q2⟩:=Yl.1 (show 1<=nW p.routes (i:Int) p.routes.length by omega);exact ⟨a,q1,q2⟩⟩;rw [h2] at h5;cases h5
 have:=UN (rs:=p.routes) (o:=i) (k:=p.routes.length) (Nat.le_refl _) h3;rwa [List.take_length] at this
theorem Za9 {a b:Int} :JN a b<0↔a<b:=by unfold JN;split<;>(try split)<;>omega
theorem Vf (l:List Pt) (c d:Bool) (hl:l.length<=1048576):PC 39 [.p (.list c (l.map ePt)),.p (.list d (l.map ePt))] (.bool true):=by
 refine Zb Tryz.func39 rfl Zmx ?_;simp (disch:=omega) only [Tryz.f39,go_sem,seval];refine Zf [0,1] (fun k:Nat=> [(5,.p (.int .i64 k))]) (fun _=> []) (fun k=>k<=l.length) (fun k=>l.length-k) 0 (by simp) (Weak.mk ?_) ?_
 ·simp (disch:=omega) only [go_sem,seval]
 ·intro k hk;simp (disch:=omega) only [go_sem,seval];refine cD ?_ ?_<;>intro h<;>simp (disch:=omega) only [Sh.out h,go_sem,seval]
  ·have hk2:k<l.length:=by omega
   refine Zq mixed (by kernel_rfl) (by kernel_rfl) ?_;simp (disch:=omega) only [go_sem,seval];exact ⟨k+1,by omega,by omega,wk⟩
theorem UK (l:List (Int×Int)) (c d:Bool) (hl:l.length<=1048576):PC 24 [.p (.list c (l.map eP)),.p (.list d (l.map eP))] (.bool true):=by
 refine Zb Tryz.func24 rfl ZkN ?_;simp (disch:=omega) only [Tryz.f24,go_sem,seval];refine Zf [0,1] (fun k:Nat=> [(5,.p (.int .i64 k))]) (fun _=> []) (fun k=>k<=l.length) (fun k=>l.length-k) 0 (by simp) (Weak.mk ?_) ?_
 ·simp (disch:=omega) only [go_sem,seval]
 ·intro k hk;simp (disch:=omega) only [go_sem,seval];refine cD ?_ ?_<;>intro h<;>simp (disch:=omega) only [Sh.out h,go_sem,seval]
  ·have hk2:k<l.length:=by omega
   refine Zq mixed (by kernel_rfl) (by kernel_rfl) ?_;simp (disch:=omega) only [go_sem,seval];exact ⟨k+1,by omega,by omega,wk⟩
theorem K1 (l:List Int) (c d:Bool) (hl:l.length<=1048576):PC 40 [.p (.list c (l.map eI)),.p (.list d (l.map eI))] (.bool true):=by
 refine Zb Tryz.func40 rfl Znb ?_;simp (disch:=omega) only [Tryz.f40,go_sem,seval];refine Zf [0,1] (fun k:Nat=> [(5,.p (.int .i64 k))]) (fun _=> []) (fun k=>k<=l.length) (fun k=>l.length-k) 0 (by simp) (Weak.mk ?_) ?_
 ·simp (disch:=omega) only [go_sem,seval]
 ·intro k hk;simp (disch:=omega) only [go_sem,seval];refine cD ?_ ?_<;>intro h<;>simp (disch:=omega) only [Sh.out h,go_sem,seval]
  ·have hk2:k<l.length:=by omega
   refine Zq mixed (by kernel_rfl) (by kernel_rfl) ?_;simp (disch:=omega) only [go_sem,seval];exact ⟨k+1,by omega,by omega,wk⟩
theorem Zbz (t:Typ) (c d:Bool) (hl:t.cap.length<=1048576):PC 22 [.p (QZ { t with cap_c:=c }),.p (QZ { t with cap_c:=d })] (.bool true):=by
 refine Zb Tryz.func22 rfl ZlY ?_;simp (disch:=omega) only [Tryz.f22,go_sem,seval];refine Xc [8] [2,3] (fun k:Nat=> [(5,.p (.int .i64 k))]) (fun _=> [Xk { t with cap_c:=c },Xk { t with cap_c:=d }]) (fun k=>k<=t.cap.length) (fun k=>t.cap.length-k) 0 (by simp) (Weak.mk ?_) ?_
 ·simp (disch:=omega) only [Xk,go_sem,seval]
 ·intro k hk;simp (disch:=omega) only [Xk,go_sem,seval];refine cD ?_ ?_<;>intro h<;>simp (maxSteps:=3000000) (disch:=omega) only [Sh.out h,go_sem,seval]
  ·have hk2:k<t.cap.length:=by omega
   refine Zq mixed (by kernel_rfl) (by kernel_rfl) ?_;simp (disch:=omega) only [go_sem,seval];exact ⟨k+1,by omega,by omega,Weak.mk (by simp (disch:=omega) only [Xk,go_sem,seval])⟩
theorem ZbC (o:Ord) (hl:o.load.length<=1048576):PC 23 [.p (eOrd o),.p (eOrd o)] (.bool true):=by
 refine Zb Tryz.func23 rfl ZmX ?_;simp (maxSteps:=3000000) (disch:=omega) only [Tryz.f23,go_sem,seval];refine (K1 o.load o.load_c o.load_c hl).use ?_;simp (maxSteps:=3000000) (disch:=omega) only [go_sem,seval]
theorem Zbr (n:Net) (hw:n.wf 1048576):PC 21 [.p (Zbd n),.p (Zbd n)] (.bool true):=by
 have hp:=hw.1;have ha:=hw.2.2.1;have haw:=hw.2.2.2;refine Zb Tryz.func21 rfl Zl2 ?_;simp (disch:=omega) only [Tryz.f21,go_sem,seval];refine Zf [2,3] (fun k:Nat=> [(5,.p (.int .i64 k))]) (fun _=>Zr n++Zr n) (fun k=>k<=n.places.length) (fun k=>n.places.length-k) 0 (by simp) (Weak.mk ?_) ?_
 ·simp (disch:=omega) only [Zr,List.cons_append,List.nil_append,go_sem,seval]
 ·intro k hk;simp (disch:=omega) only [Zr,List.cons_append,List.nil_append,go_sem,seval];refine cD ?_ ?_<;>intro h<;>simp (disch:=omega) only [Sh.out h,go_sem,seval]
  ·have hk2:k<n.places.length:=by omega
   refine Zq mixed (by kernel_rfl) (by kernel_rfl) ?_;simp (disch:=omega) only [go_sem,seval];exact ⟨k+1,by omega,by omega,Weak.mk (by simp (disch:=omega) only [Zr,List.cons_append,List.nil_append,go_sem,seval])⟩
  ·have hkl:k=n.places.length:=by omega
   subst hkl;clear hk h;refine Zf [2,3] (fun k:Nat=> [(6,.p (.int .i64 k))]) (fun _=>Zr n++Zr n) (fun k=>k<=n.arcs.length) (fun k=>n.arcs.length-k) 0 (by simp) (Weak.mk ?_) ?_
   ·simp (disch:=omega) only [Zr,List.cons_append,List.nil_append,go_sem,seval]
   ·intro k hk;simp (disch:=omega) only [Zr,List.cons_append,List.nil_append,go_sem,seval];refine cD ?_ ?_<;>intro h<;>simp (disch:=omega) only [Sh.out h,go_sem,seval]
    ·have hk2:k<n.arcs.length:=by omega
     have hak:=haw _ (Zu hk2);have ht:(nth n.arcs k).travel.length<=1048576:=hak.2.2.2.2.1;have hs:(nth n.arcs k).slow.length<=1048576:=hak.2.2.2.2.2.2.1;refine (Vf (nth n.arcs k).travel (nth n.arcs k).travel_c (nth n.arcs k).travel_c ht).use ?_;simp (disch:=omega) only [go_sem,seval];refine (Vf (nth n.arcs k).slow (nth n.arcs k).slow_c (nth n.arcs k).slow_c hs).use ?_;simp (disch:=omega) only [go_sem,seval];exact ⟨k+1,by omega,by omega,Weak.mk (by simp (disch:=omega) only [Zr,List.cons_append,List.nil_append,go_sem,seval])⟩
theorem ZbW (n:Net) (ts us:List Typ) (os:List Ord) (ap be:List (Int×Int)) (c1 c2 c3 c4 d1 d2 d3 d4:Bool) (hn:n.wf 1048576) (htl:ts.length=us.length) (hts: ∀k,k<ts.length->(∃c,nth ts k= { nth us k with cap_c:=c })/\(nth us k).cap.length<=1048576)
  (hl:us.length<=1048576) (ho:os.length<=1048576) (how: ∀o∈os,o.load.length<=1048576) (ha:ap.length<=1048576) (hb:be.length<=1048576) :
  PC 10 [.p (ZW ⟨n,c1,ts,c2,os,c3,ap,c4,be⟩),.p (ZW ⟨n,d1,us,d2,os,d3,ap,d4,be⟩)] (.bool true):=by
 refine Zb Tryz.func10 rfl ZlE ?_;simp (disch:=omega) only [Tryz.f10,go_sem,seval];refine (Zbr n hn).use ?_;simp (disch:=omega) only [go_sem,seval];simp (disch:=omega) only [htl,go_sem,seval];refine Zf [2,3] (fun k:Nat=> [(5,.p (.int .i64 k))]) (fun _=> [Ze ⟨n,c1,ts,c2,os,c3,ap,c4,be⟩,Ze ⟨n,d1,us,d2,os,d3,ap,d4,be⟩]) (fun k=>k<=ts.length) (fun k=>ts.length-k) 0 (by simp) (Weak.mk ?_) ?_
 ·simp (disch:=omega) only [Ze,go_sem,seval]
 ·intro k hk;simp (disch:=omega) only [Ze,go_sem,seval];refine cD ?_ ?_<;>intro h<;>simp (disch:=omega) only [Sh.out h,go_sem,seval]
  ·have hk2:k<ts.length:=by omega
   obtain ⟨⟨c,e⟩,hcl⟩:=hts k hk2;have c10:=Zbz (nth us k) c (nth us k).cap_c hcl;rw [<- e] at c10;refine Zq mixed (by kernel_rfl) (by kernel_rfl) ?_;simp (disch:=omega) only [go_sem,seval];refine ZM (c10) ?_;simp (disch:=omega) only [go_sem,seval];exact ⟨k+1,by omega,by omega,Weak.mk (by simp (disch:=omega) only [Ze,go_sem,seval])⟩
  ·refine Zf [2,3] (fun k:Nat=> [(6,.p (.int .i64 k))]) (fun _=> [Ze ⟨n,c1,ts,c2,os,c3,ap,c4,be⟩,Ze ⟨n,d1,us,d2,os,d3,ap,d4,be⟩]) (fun k=>k<=os.length) (fun k=>os.length-k) 0 (by simp) (Weak.mk ?_) ?_
   ·simp (disch:=omega) only [Ze,go_sem,seval]
   ·intro k hk;simp (disch:=omega) only [Ze,go_sem,seval];refine cD ?_ ?_<;>intro h<;>simp (disch:=omega) only [Sh.out h,go_sem,seval]
    ·have hk2:k<os.length:=by omega
     refine Zq mixed (by kernel_rfl) (by kernel_rfl) ?_;simp (disch:=omega) only [go_sem,seval];refine ZM (ZbC (nth os k) (how _ (Zu hk2))) ?_;simp (disch:=omega) only [go_sem,seval];exact ⟨k+1,by omega,by omega,Weak.mk (by simp (disch:=omega) only [Ze,go_sem,seval])⟩
    ·refine (UK ap c3 d3 ha).use ?_;simp (disch:=omega) only [go_sem,seval];refine (UK be c4 d4 hb).use ?_;simp (disch:=omega) only [go_sem,seval]
theorem Zbw (n:Nat) (h:n<=4):ACalls Tryz.prog 36 [.p (.list false [.int .i64 (-1)]),.p (.int .i64 n)] [] fun y H'=>y= .sl 0 0 n n/\H'= [.elems 1 ((XU (fun _=> -1) n).map eI)]:=by
 match n,h with
 | 0,_=>exact ZP { kp:= [36] } 20 mixed (by kernel_rfl)
 | 1,_=>exact ZP { kp:= [36] } 20 mixed (by kernel_rfl)
 | 2,_=>exact ZP { kp:= [36] } 20 mixed (by kernel_rfl)
 | 3,_=>exact ZP { kp:= [36] } 20 mixed (by kernel_rfl)
 | 4,_=>exact ZP { kp:= [36] } 20 mixed (by kernel_rfl)
theorem Q8 : ∀(l:List Int),UX (l.map eI)=true
 | []=>rfl
 | a::l=>by simp [UX,Zda,eI,Q8 l]
def QX (x:Inst) (p:Pln):V:=if Y3 x p=0 then .tup [.p (.list false ((Kd x p).map eI)),.p (.int .i64 0)] else .tup [.p (.list true []),.p (.int .i64 (Y3 x p))]
theorem K2 (x:Inst) (p:Pln) (hn:x.orders.length<=4) (ht:x.types.length<=1048576) (hr:p.routes.length<=1048576) (hv: ∀r∈p.routes,r.visits.length<=1048576) :
  ACalls Tryz.prog 16 [.p (ZW x),.p (Zbi p)] [] fun y H'=>y=QX x p/\H'= []:=by
 have hrp:=Zbw x.orders.length hn;have hgl: ∀f,(XU f x.orders.length).length=x.orders.length:=fun f=>Yb;have h0:XU (fun _=> -1) x.orders.length=XU (ZA p.routes 0) x.orders.length:=rfl;refine ZQ [2] Tryz.func16 rfl Zlk ?_;simp (disch:=omega) only [Tryz.f16,go_sem,seval];refine ACalls.viewF hrp (by simp [vws,vw,oat]<;>rfl) (Q8 _) ?_;simp (disch:=omega) only [go_sem,seval];refine Za [26] _ _ _ _ ?_;simp (disch:=omega) only [go_sem,seval];refine Xc [26] [2,3,6,21,22] (fun k:Nat=> [(7,.p (.bool (twB p.routes k))),(23,.p (.int .i64 k))]) (fun k=> [Ze x,Z7 p,.elems 1 [.int .i64 (-1)],.elems 1 ((XU (ZA p.routes k) x.orders.length).map eI)]) (fun k=>k<=p.routes.length/\ ∀j,j<k->W3 x (nth p.routes j)=false) (fun k=>p.routes.length-k) 0 (by simp) (Weak.mk ?_) ?_
 ·simp (disch:=omega) only [Ze,Z7,h0,twB,go_sem,seval]
 ·rintro k ⟨hk,hno⟩;simp (disch:=omega) only [Ze,Z7,go_sem,seval];refine cD ?_ ?_<;>intro h1<;>simp (disch:=omega) only [Sh.out h1,go_sem,seval]
  ·have hk2:k<p.routes.length:=by omega
   have hvl:=hv _ (Zu hk2);have hbt:(nth p.routes k).typ<0\/(x.types.length:Int)<=(nth p.routes k).typ->Y3 x p=2:=fun h=>Ww hk2 (by simp only [W3,Bool.or_eq_true,decide_eq_true_eq];exact .inl h);have hbv: ∀q,q<(nth p.routes k).visits.length->Kz x.orders.length (nth (nth p.routes k).visits q)=true->Y3 x p=2:=fun q hq h=>Ww hk2 (by rw [W3,Bool.or_eq_true];exact .inr (List.any_eq_true.2 ⟨_,Zu hq,h⟩));refine gF ?_ ?_<;>intro h2<;>simp (disch:=omega) only [Sh.out h2,go_sem,seval]
   ·rw [QX,hbt (.inl h2)];exact we (by simp (disch:=omega) only [List.map_nil,go_sem,seval])
   ·refine cD ?_ ?_<;>intro h3<;>simp (disch:=omega) only [Sh.out h3,go_sem,seval]
    ·rw [QX,hbt (.inr h3)];exact we (by simp (disch:=omega) only [List.map_nil,go_sem,seval])
    ·obtain ⟨vs,hvs⟩: ∃vs,vs=(nth p.routes k).visits:=⟨_,rfl⟩;rw [<- hvs] at hvl hbv
     have hm0:ZA p.routes k=W0 p.routes k (vs.take 0):=by rw [List.take_zero,Jq]
     have ht0:twB p.routes k=(twB p.routes k||twV p.routes k (vs.take 0)):=by simp [twV]
     refine Zf [2,3,6,8,21,22,23,40,41] (fun q:Nat=> [(7,.p (.bool (twB p.routes k||twV p.routes k (vs.take q)))),(42,.p (.int .i64 q))]) (fun q=> [Ze x,Z7 p,.elems 1 [.int .i64 (-1)],.elems 1 ((XU (W0 p.routes k (vs.take q)) x.orders.length).map eI),Zbg (nth p.routes k)]) (fun q=>q<=vs.length/\ ∀j,j<q->0<=(nth vs j).order/\(nth vs j).order<(x.orders.length:Int)) (fun q=>vs.length-q) 0 (by simp) (Weak.mk ?_) ?_
     ·simp (disch:=omega) only [Ze,Z7,Zbg,<- hvs,go_sem,seval];exact ⟨by simp [twV],by rw [Jq]⟩
     ·rintro q ⟨hq,hin⟩;simp (disch:=omega) only [Ze,Z7,Zbg,<- hvs,go_sem,seval];refine cD ?_ ?_<;>intro h4<;>simp (disch:=omega) only [Sh.out h4,go_sem,seval]
      ·have hq2:q<vs.length:=by omega
       have htk:vs.take (q+1)=vs.take q++ [nth vs q]:=by rw [List.take_succ_eq_append_getElem hq2,Zh hq2]
       refine gF ?_ ?_<;>intro h5<;>simp (disch:=omega) only [Sh.out h5,go_sem,seval]
       ·rw [QX,hbv q hq2 (by simp [Kz,h5])];exact we (by simp (disch:=omega) only [List.map_nil,go_sem,seval])
       ·refine cD ?_ ?_<;>intro h6<;>simp (disch:=omega) only [Sh.out h6,go_sem,seval]
        ·rw [QX,hbv q hq2 (by simp [Kz,h6])];exact we (by simp (disch:=omega) only [List.map_nil,go_sem,seval])
        ·have hvo:0<=(nth vs q).order/\(nth vs q).order<(x.orders.length:Int):=⟨by omega,by omega⟩
         have hvn:(nth vs q).order.toNat<x.orders.length:=by omega
         have htw:=ZbG (rs:=p.routes) (k:=k) (l:=vs.take q) (v:=nth vs q) hvo.1 (b:=twB p.routes k);rw [<- htk] at htw;have hms:=ZaI (rs:=p.routes) (k:=k) (l:=vs.take q) (v:=nth vs q) hvo;rw [<- htk] at hms
         have Zy:((XU (W0 p.routes k (vs.take q)) x.orders.length).map eI).set (nth vs q).order.toNat (.int .i64 k)=(XU (W0 p.routes k (vs.take (q+1))) x.orders.length).map eI:=by rw [<- hms,List.map_set];rfl
         have he:elt ((XU (W0 p.routes k (vs.take q)) x.orders.length).map eI) (nth vs q).order.toNat= .int .i64 (W0 p.routes k (vs.take q) (nth vs q).order.toNat):=by rw [XX (by rw [Yb];exact hvn),VE hvn];rfl
         have hrl:=hgl (W0 p.routes k (vs.take q));have hrg:=ZcC (rs:=p.routes) (k:=k) (l:=vs.take q) (o:=(nth vs q).order.toNat);generalize W0 p.routes k (vs.take q) (nth vs q).order.toNat=M at he htw hrg;have hnx: ∀j,j<q+1->0<=(nth vs j).order/\(nth vs j).order<(x.orders.length:Int):=Zk.2 ⟨hin,hvo⟩;generalize (twB p.routes k||twV p.routes k (vs.take q))=B at htw ⊢
         cases B with
         | true =>
          rw [Bool.true_or] at htw;simp (disch:=first | omega | (simp only [List.length_cons,List.length_nil,List.length_append,List.length_map,List.length_take,List.length_drop]<;>omega)) only [he,hrl,hvn,eq_self,if_true,go_sem,seval];exact ⟨q+1,⟨by omega,hnx⟩,by omega,Weak.mk (by simp (disch:=omega) only [Ze,Z7,Zbg,Zy,<- htw,<- hvs,go_sem,seval])⟩
         | false =>
          rw [Bool.false_or] at htw;simp (disch:=first | omega | (simp only [List.length_cons,List.length_nil,List.length_append,List.length_map,List.length_take,List.length_drop]<;>omega)) only [he,hrl,hvn,eq_self,if_true,go_sem,seval];refine gT ?_ ?_<;>intro h7<;>simp (disch:=omega) only [Sh.out h7,he,hrl,hvn,if_true,go_sem,seval]
          ·rw [decide_eq_true h7,Bool.true_and] at htw;simp (disch:=first | omega | (simp only [List.length_cons,List.length_nil,List.length_append,List.length_map,List.length_take,List.length_drop]<;>omega)) only [he,hrl,hvn,eq_self,if_true,go_sem,seval];exact ⟨q+1,⟨by omega,hnx⟩,by omega,Weak.mk (by simp (disch:=omega) only [Ze,Z7,Zbg,Zy,<- htw,<- hvs,go_sem,seval])⟩
          ·rw [decide_eq_false h7,Bool.false_and] at htw;simp (disch:=first | omega | (simp only [List.length_cons,List.length_nil,List.length_append,List.length_map,List.length_take,List.length_drop]<;>omega)) only [he,hrl,hvn,eq_self,if_true,go_sem,seval];exact ⟨q+1,⟨by omega,hnx⟩,by omega,Weak.mk (by simp (disch:=omega) only [Ze,Z7,Zbg,Zy,<- htw,<- hvs,go_sem,seval])⟩
      ·have hql:q=vs.length:=by omega
       subst hql
       have hgood:W3 x (nth p.routes k)=false:=by
        rw [W3,Bool.or_eq_false_iff];refine ⟨by simp [h2,h3],?_⟩;rw [<- hvs,List.any_eq_false];intro v hm;obtain ⟨j,hj,rfl⟩:=List.mem_iff_getElem.1 hm;have:=hin j hj;rw [Zh hj] at this;simp [Kz];omega
       rw [List.take_length]
       have e1:W0 p.routes k vs=ZA p.routes (k+1):=by rw [hvs];exact Zcx
       have e2:(twB p.routes k||twV p.routes k vs)=twB p.routes (k+1):=by rw [hvs];rfl
       exact ⟨k+1,⟨by omega,Zk.2 ⟨hno,hgood⟩⟩,by omega,Weak.mk (by simp (disch:=omega) only [Ze,Z7,e1,e2,go_sem,seval])⟩
  ·have hkl:k=p.routes.length:=by omega
   subst hkl;have hz:=Qs hno
   cases htw:twB p.routes p.routes.length with
   | true =>
    rw [if_pos htw] at hz;rw [QX,hz];simp (disch:=omega) only [go_sem,seval];exact we (by simp (disch:=omega) only [List.map_nil,go_sem,seval])
   | false =>
    rw [if_neg (by rw [htw];simp)] at hz;rw [QX,if_pos hz];simp (disch:=first | omega | (simp only [List.length_cons,List.length_nil,List.length_append,List.length_map,List.length_take,List.length_drop]<;>omega)) only [hgl,eq_self,if_true,go_sem,seval];refine Xc [26] [3,12,84,85] (fun j:Nat=> [(86,.p (.int .i64 j))]) (fun j=> [Ze x,Z7 p,.elems 1 [.int .i64 (-1)],.elems 1 ((XU (fun o=>if o<j then Vo p.routes (ZA p.routes p.routes.length o) else ZA p.routes p.routes.length o) x.orders.length).map eI)]) (fun j=>j<=x.orders.length) (fun j=>x.orders.length-j) 0 (by simp) (Weak.mk ?_) ?_
    ·simp (disch:=omega) only [Ze,Z7,go_sem,seval];simp
    ·intro j hj;have hrl:=hgl (fun o=>if o<j then Vo p.routes (ZA p.routes p.routes.length o) else ZA p.routes p.routes.length o);simp (disch:=omega) only [Ze,Z7,go_sem,seval];refine cD ?_ ?_<;>intro h2<;>simp (disch:=omega) only [Sh.out h2,go_sem,seval]
     ·have hj2:j<x.orders.length:=by omega
      have hrg:=XY (rs:=p.routes) (o:=j) p.routes.length
      have he:elt ((XU (fun o=>if o<j then Vo p.routes (ZA p.routes p.routes.length o) else ZA p.routes p.routes.length o) x.orders.length).map eI) j= .int .i64 (ZA p.routes p.routes.length j):=by rw [XX (by rw [Yb];exact hj2),VE hj2,if_neg (by omega)];rfl
      have Zy:((XU (fun o=>if o<j then Vo p.routes (ZA p.routes p.routes.length o) else ZA p.routes p.routes.length o) x.orders.length).map eI).set j (.int .i64 (Vo p.routes (ZA p.routes p.routes.length j)))=(XU (fun o=>if o<j+1 then Vo p.routes (ZA p.routes p.routes.length o) else ZA p.routes p.routes.length o) x.orders.length).map eI:=by
       rw [show PV.int .i64 (Vo p.routes (ZA p.routes p.routes.length j))=eI (Vo p.routes (ZA p.routes p.routes.length j)) from rfl,<- List.map_set,Jt]
       congr 1
       refine WO fun o _=> ?_
       by_cases c:o=j
       ·subst c;simp
       ·rw [if_neg c]
        by_cases c2:o<j
        ·rw [if_pos c2,if_pos (by omega)]
        ·rw [if_neg c2,if_neg (by omega)]
      have hsame:ZA p.routes p.routes.length j<0->(XU (fun o=>if o<j+1 then Vo p.routes (ZA p.routes p.routes.length o) else ZA p.routes p.routes.length o) x.orders.length)=(XU (fun o=>if o<j then Vo p.routes (ZA p.routes p.routes.length o) else ZA p.routes p.routes.length o) x.orders.length):=fun h=>by
       refine WO fun o _=> ?_
       by_cases c:o=j
       ·subst c;rw [if_pos (by omega),if_neg (by omega),Vo,if_neg (by omega)];omega
       ·by_cases c2:o<j
        ·rw [if_pos c2,if_pos (by omega)]
        ·rw [if_neg c2,if_neg (by omega)]
      simp (disch:=first | omega | (simp only [List.length_cons,List.length_nil,List.length_append,List.length_map,List.length_take,List.length_drop]<;>omega)) only [he,hrl,hj2,eq_self,if_true,go_sem,seval];generalize hL:ZA p.routes p.routes.length j=L at he Zy hsame hrg ⊢;refine cD ?_ ?_<;>intro h3<;>simp (disch:=omega) only [Sh.out h3,he,hrl,hj2,if_true,go_sem,seval]
      ·have hty:Vo p.routes L=(nth p.routes L.toNat).typ:=by rw [Vo,if_pos h3]
       have hlt:L<(p.routes.length:Int):=hrg.2;rw [hty] at Zy;simp (disch:=first | omega | (simp only [List.length_cons,List.length_nil,List.length_append,List.length_map,List.length_take,List.length_drop]<;>omega)) only [he,hrl,hj2,eq_self,if_true,go_sem,seval];exact ⟨j+1,by omega,by omega,Weak.mk (by simp (disch:=omega) only [Ze,Z7,Zy,go_sem,seval])⟩
      ·exact ⟨j+1,by omega,by omega,Weak.mk (by simp (disch:=omega) only [Ze,Z7,hsame (by omega),go_sem,seval])⟩
     ·have hjl:j=x.orders.length:=by omega
      have hfin:XU (fun o=>if o<j then Vo p.routes (ZA p.routes p.routes.length o) else ZA p.routes p.routes.length o) x.orders.length=Kd x p:=WO fun o ho=>by rw [if_pos (by omega)]
      rw [hfin];have hkl:=VA (x:=x) (p:=p);refine ZD (Weak.fz (o:=3) (by rfl)) ?_;refine Za [] _ _ _ _ ?_;simp (disch:=omega) only [List.map_cons,List.map_nil,List.set_cons_succ,List.set_cons_zero,go_sem,seval];rw [if_pos hkl];exact we
theorem Zl5 {α:Type} [Inhabited α] {l:List α} {k:Nat} (h:k<l.length):(l.take (k+1)).drop k= [nth l k]:=by
 rw [List.drop_take,Nat.add_sub_cancel_left,Zey h];rfl
theorem Zb0 {x:Inst} {p:Pln} {o:Nat} (hno: ∀j,j<p.routes.length->W3 x (nth p.routes j)=false) (h:2<=nW p.routes (o:Int) p.routes.length):Y3 x p=6:=by
 rw [Qs hno,if_pos];refine (VY fun j hj v hv=>((X6 (hno j hj)).2 v hv).1).2 ⟨o,h,?_⟩;exact Yl.1 (by omega)
theorem Kx {x:Inst} {p:Pln} (hno: ∀j,j<p.routes.length->W3 x (nth p.routes j)=false) (h: ∀o:Nat,o<x.orders.length->nW p.routes (o:Int) p.routes.length<=1):Y3 x p=0:=by
 rw [Qs hno,if_neg];intro h2;obtain ⟨o,h3,j,hj,h4⟩:=(VY fun j hj v hv=>((X6 (hno j hj)).2 v hv).1).1 h2;obtain ⟨v,hv,e⟩:=Wp.1 h4;have:=(X6 (hno j hj)).2 v hv;have:=h o (by omega);omega
theorem JC (x:Inst) (p:Pln) (hn:x.orders.length<=1048576) (ht:x.types.length<=1048576) (hr:p.routes.length<=1048576) (hv: ∀r∈p.routes,r.visits.length<=1048576) :
  PC 37 [.p (ZW x),.p (Zbi p)] (.int .i64 (Y3 x p)):=by
 refine Zb Tryz.func37 rfl ZmD ?_;simp (disch:=omega) only [Tryz.f37,go_sem,seval];refine Zf [2,3] (fun k:Nat=> [(5,.p (.int .i64 k))]) (fun _=> [Ze x,Z7 p]) (fun k=>k<=p.routes.length/\ ∀j,j<k->W3 x (nth p.routes j)=false) (fun k=>p.routes.length-k) 0 (by simp) (Weak.mk ?_) ?_
 ·simp (disch:=omega) only [Ze,Z7,go_sem,seval]
 ·rintro k ⟨hk,hno⟩;simp (disch:=omega) only [Ze,Z7,go_sem,seval];refine cD ?_ ?_<;>intro h1<;>simp (disch:=omega) only [Sh.out h1,go_sem,seval]
  ·have hk2:k<p.routes.length:=by omega
   have hvl:=hv _ (Zu hk2);have hbt:(nth p.routes k).typ<0\/(x.types.length:Int)<=(nth p.routes k).typ->Y3 x p=2:=fun h=>Ww hk2 (by simp only [W3,Bool.or_eq_true,decide_eq_true_eq];exact .inl h);have hbv: ∀q,q<(nth p.routes k).visits.length->Kz x.orders.length (nth (nth p.routes k).visits q)=true->Y3 x p=2:=fun q hq h=>Ww hk2 (by rw [W3,Bool.or_eq_true];exact .inr (List.any_eq_true.2 ⟨_,Zu hq,h⟩));refine Zq mixed (by kernel_rfl) (by kernel_rfl) ?_;simp (disch:=omega) only [go_sem,seval];refine gF ?_ ?_<;>intro h2<;>simp (disch:=omega) only [Sh.out h2,go_sem,seval]
   ·rw [hbt (.inl h2)]
   ·refine cD ?_ ?_<;>intro h3<;>simp (disch:=omega) only [Sh.out h3,go_sem,seval]
    ·rw [hbt (.inr h3)]
    ·refine Zf [2,3,5] (fun q:Nat=> [(6,.p (.int .i64 q))]) (fun q=> [Ze x,Z7 p]) (fun q=>q<=(nth p.routes k).visits.length/\ ∀j,j<q->Kz x.orders.length (nth (nth p.routes k).visits j)=false) (fun q=>(nth p.routes k).visits.length-q) 0 (by simp) (Weak.mk ?_) ?_
     ·simp (disch:=omega) only [Ze,Z7,go_sem,seval]
     ·rintro q ⟨hq,hin⟩;simp (disch:=omega) only [Ze,Z7,go_sem,seval];refine cD ?_ ?_<;>intro h4<;>simp (disch:=omega) only [Sh.out h4,go_sem,seval]
      ·have hq2:q<(nth p.routes k).visits.length:=by omega
       refine Zq mixed (by kernel_rfl) (by kernel_rfl) ?_;simp (disch:=omega) only [go_sem,seval];refine gF ?_ ?_<;>intro h5<;>simp (disch:=omega) only [Sh.out h5,go_sem,seval]
       ·rw [hbv q hq2 (by simp [Kz,h5])]
       ·refine cD ?_ ?_<;>intro h6<;>simp (disch:=omega) only [Sh.out h6,go_sem,seval]
        ·rw [hbv q hq2 (by simp [Kz,h6])]
        ·exact ⟨q+1,⟨by omega,Zk.2 ⟨hin,by simp [Kz];omega⟩⟩,by omega,Weak.mk (by simp (disch:=omega) only [Ze,Z7,go_sem,seval])⟩
      ·have hql:q=(nth p.routes k).visits.length:=by omega
       have hgood:W3 x (nth p.routes k)=false:=by
        rw [W3,Bool.or_eq_false_iff];refine ⟨by simp [h2,h3],?_⟩;rw [List.any_eq_false];intro v hm;obtain ⟨j,hj,rfl⟩:=List.mem_iff_getElem.1 hm;have:=hin j (by omega);rw [Zh hj] at this;simp [this]
       exact ⟨k+1,⟨by omega,Zk.2 ⟨hno,hgood⟩⟩,by omega,Weak.mk (by simp (disch:=omega) only [Ze,Z7,go_sem,seval])⟩
  ·have hkl:k=p.routes.length:=by omega
   subst hkl;refine Zf [2,3] (fun i:Nat=> [(7,.p (.int .i64 i))]) (fun _=> [Ze x,Z7 p]) (fun i=>i<=x.orders.length/\ ∀j,j<i->nW p.routes (j:Nat) p.routes.length<=1) (fun i=>x.orders.length-i) 0 (by simp) (Weak.mk ?_) ?_
   ·simp (disch:=omega) only [Ze,Z7,go_sem,seval]
   ·rintro i ⟨hi,hone⟩;simp (disch:=omega) only [Ze,Z7,go_sem,seval];refine cD ?_ ?_<;>intro h2<;>simp (disch:=omega) only [Sh.out h2,go_sem,seval]
    ·have hi2:i<x.orders.length:=by omega
     refine Zf [2,3,7] (fun k:Nat=> [(8,.p (.int .i64 (nW p.routes (i:Int) k))),(9,.p (.int .i64 k))]) (fun _=> [Ze x,Z7 p]) (fun k=>k<=p.routes.length) (fun k=>p.routes.length-k) 0 (by simp) (Weak.mk ?_) ?_
     ·simp (disch:=omega) only [Ze,Z7,nW,go_sem,seval]
     ·intro k hk;have hnl:=ZgI (rs:=p.routes) (o:=(i:Int)) k;simp (disch:=omega) only [Ze,Z7,go_sem,seval];refine cD ?_ ?_<;>intro h3<;>simp (disch:=omega) only [Sh.out h3,go_sem,seval]
      ·have hk2:k<p.routes.length:=by omega
       have hty:=(X6 (hno k hk2)).1;have ck:=UW ⟨p.routes_c&&decide ((k:Int)+1=(p.routes.length:Int)),[nth p.routes k],true,[]⟩ (i:Int) (by simp) (fun r hr=>by simp at hr;subst hr;exact hv _ (Zu hk2));rw [Zl5 hk2]
       by_cases c:Yk (nth p.routes k).visits (i:Int)=true
       ·rw [show Vn [nth p.routes k] (i:Int)=(nth p.routes k).typ from by rw [Vn,if_pos c]] at ck
        have hs:nW p.routes (i:Int) (k+1)=nW p.routes (i:Int) k+1:=by rw [nW,if_pos c]
        refine (ck).use ?_;simp (disch:=omega) only [go_sem,seval];refine cD ?_ ?_<;>intro h5<;>simp (disch:=omega) only [Sh.out h5,go_sem,seval]
        ·exact ⟨k+1,by omega,by omega,Weak.mk (by simp (disch:=omega) only [Ze,Z7,hs,go_sem,seval])⟩
        ·omega
       ·rw [show Vn [nth p.routes k] (i:Int)= -1 from by rw [Vn,if_neg c];rfl] at ck
        have hs:nW p.routes (i:Int) (k+1)=nW p.routes (i:Int) k:=by rw [nW,if_neg c];rfl
        refine (ck).use ?_;simp (disch:=omega) only [go_sem,seval];exact ⟨k+1,by omega,by omega,Weak.mk (by simp (disch:=omega) only [Ze,Z7,hs,go_sem,seval])⟩
      ·have hkl:k=p.routes.length:=by omega
       subst hkl;refine cD ?_ ?_<;>intro h4<;>simp (disch:=omega) only [Sh.out h4,go_sem,seval]
       ·rw [Zb0 hno (o:=i) (by omega)]
       ·exact ⟨i+1,⟨by omega,Zk.2 ⟨hone,by omega⟩⟩,by omega,Weak.mk (by simp (disch:=omega) only [Ze,Z7,go_sem,seval])⟩
    ·have hil:i=x.orders.length:=by omega
     subst hil;rw [Kx hno hone]
theorem K3 {f:Nat->Int} {n:Nat} :XU f (n+1)=XU f n++ [f n]:=by simp [XU,List.range_succ]
theorem JM (x:Inst) (p:Pln) (hn:x.orders.length<=1048576) (ht:x.types.length<=1048576) (hr:p.routes.length<=1048576) (hv: ∀r∈p.routes,r.visits.length<=1048576) :
  ACalls Tryz.prog 19 [.p (ZW x),.p (Zbi p)] [] fun y H'=>y=QX x p/\H'= []:=by
 have cw:=JC x p hn ht hr hv;have ck:=fun o=>UW p o hr hv;refine ZQ [5] Tryz.func19 rfl ZkO ?_;simp (disch:=omega) only [Tryz.f19,go_sem,seval];refine (cw).use ?_;simp (disch:=omega) only [go_sem,seval]
 by_cases h0:Y3 x p=0
 ·rw [QX,if_pos h0,h0];simp (disch:=omega) only [go_sem,seval];refine ZD (Weak.ofNil 7 1 (by simp (disch:=omega) only [go_sem,seval]) (by simp) (Weak.refl _ _ _)) ?_;refine Za [9] _ _ _ _ ?_;simp (disch:=omega) only [go_sem,seval];have hf:=ZbF h0;refine Xc [9] [2,3] (fun q:Nat×List Int=> [(7,.sl 2 0 q.2.length q.2.length),(8,.p (.int .i64 q.1))]) (fun q=> [Ze x,Z7 p,.elems 1 (q.2.map eI)]) (fun q=>q.1<=x.orders.length/\q.2=XU (fun i=>Vn p.routes (i:Int)) q.1) (fun q=>x.orders.length-q.1) (0,[]) ⟨by simp,by simp [XU]⟩ (Weak.mk ?_) ?_
  ·simp (disch:=omega) only [Ze,Z7,go_sem,seval]
  ·rintro ⟨k,m⟩ ⟨hk,hm⟩;simp only at hk hm
   have hml:m.length=k:=by rw [hm];exact Yb
   simp (disch:=omega) only [Ze,Z7,go_sem,seval];refine cD ?_ ?_<;>intro h<;>simp (disch:=omega) only [Sh.out h,go_sem,seval]
   ·have hk2:k<x.orders.length:=by omega
    refine (ck (k:Int)).use ?_;simp (disch:=omega) only [go_sem,seval];exact ⟨(k+1,m++ [Vn p.routes (k:Int)]),⟨by simp only;omega,by simp only [K3,hm]⟩,by simp only;omega,Weak.mk (by simp (disch:=omega) only [Ze,Z7,go_sem,seval])⟩
   ·have hkl:k=x.orders.length:=by omega
    subst hkl;rw [hf] at hm;subst hm;refine ZD (Weak.fz (o:=2) (by rfl)) ?_;refine Za [] _ _ _ _ ?_;simp (disch:=omega) only [List.map_cons,List.map_nil,List.set_cons_succ,List.set_cons_zero,go_sem,seval];exact we
 ·rw [QX,if_neg h0];have hE: ¬(Y3 x p=0):=h0;refine cD ?_ ?_<;>intro h1<;>simp (disch:=omega) only [Sh.out h1,go_sem,seval]
  ·exact we (by simp (disch:=omega) only [List.map_nil,go_sem,seval])
  ·omega
end Go.Proofs.YtgknhiknjimdpaaGreatDoor.K
