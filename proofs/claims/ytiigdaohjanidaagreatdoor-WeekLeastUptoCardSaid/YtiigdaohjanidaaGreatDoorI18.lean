/- Declarations that the closing texts need, part 18: joined by tools/slim.py. -/
import Derived.Test.YtiigdaohjanidaaGreatDoorI17
import Derived.Test.YtiigdaohjanidaaGreatDoorRows
namespace Go.Proofs.YtiigdaohjanidaaGreatDoor.K
open Go Go.AM Go.Proofs
theorem I4 : Tryz.prog.cellsOf 3=1:=Zd
theorem ZgI : Tryz.prog.cellsOf 4=1:=Zd
theorem ZgR : Tryz.prog.cellsOf 9=1:=Zd
theorem ZgD : Tryz.prog.cellsOf 30=1:=Zd
theorem aP : Tryz.prog.cellsOf 31=1:=Zd
theorem ZgE : Tryz.prog.cellsOf 33=2:=Zd
theorem tE : Du Tryz.prog 33=some [(0,30),(1,31)]:=Zd
theorem ZgF : Tryz.prog.cellsOf 35=1:=Zd
theorem ZgG : Tryz.prog.cellsOf 36=1:=Zd
theorem sN : Tryz.prog.cellsOf 38=2:=Zd
theorem Zic : Du Tryz.prog 38=some [(0,35),(1,36)]:=Zd
theorem ZgH : Tryz.prog.cellsOf 39=1:=Zd
theorem ZgJ : Tryz.prog.cellsOf 40=1:=Zd
theorem ZgK : Tryz.prog.cellsOf 41=1:=Zd
theorem ZgL : Tryz.prog.cellsOf 43=6:=Zd
theorem tF : Du Tryz.prog 43=some [(0,38),(2,39),(3,40),(4,41),(5,41)]:=Zd
theorem ZgM : Tryz.prog.cellsOf 46=1:=Zd
theorem ZgN : Tryz.prog.cellsOf 47=1:=Zd
theorem ZgO : Tryz.prog.cellsOf 49=4:=Zd
theorem tG : Du Tryz.prog 49=some [(0,3),(1,3),(2,46),(3,47)]:=Zd
theorem sO : Tryz.prog.cellsOf 57=4:=Zd
theorem Zid : Du Tryz.prog 57=some [(0,3),(1,3),(2,3),(3,3)]:=Zd
theorem ZgP : Tryz.prog.cellsOf 59=16:=Zd
theorem tH : Du Tryz.prog 59=some [(0,9),(1,31),(2,57),(6,57),(10,3),(11,3),(12,3),(13,3),(14,3),(15,4)]:=Zd
theorem ZgQ : Tryz.prog.cellsOf 82=14:=Zd
theorem tI : Du Tryz.prog 82=some [(0,9),(1,3),(2,3),(3,3),(4,31),(5,3),(6,3),(7,3),(8,3),(9,3),(10,3),(11,3),(12,3),(13,3)]:=Zd
theorem vP : Tryz.prog.cellsOf 126=2:=Zd
theorem gG : Du Tryz.prog 126=some [(0,3),(1,4)]:=Zd
theorem vQ : Tryz.prog.cellsOf 127=1:=Zd
theorem vR : Tryz.prog.cellsOf 129=6:=Zd
theorem gI : Du Tryz.prog 129=some [(0,3),(1,3),(2,3),(3,3),(4,127),(5,127)]:=Zd
theorem vS : Tryz.prog.cellsOf 132=2:=Zd
theorem gJ : Du Tryz.prog 132=some [(0,3),(1,3)]:=Zd
theorem vT : Tryz.prog.cellsOf 188=2:=Zd
theorem gK : Du Tryz.prog 188=some [(0,3),(1,3)]:=Zd
set_option linter.unusedVariables false
set_option linter.unusedSimpArgs false
mutual
theorem Ny {H:Type} :(d:DataW H)->Fy d<=Rows.uptoBulk d
 | .lit l=>by cases l<;>simp [Fy,Rows.uptoBulk]
 | .nil=>by simp [Fy,Rows.uptoBulk]
 | .ptr d=>by have:=Ny d;simp only [Fy,Rows.uptoBulk];omega
 | .slice es sp=>by have:=Bn es;have:=Bn sp;simp only [Fy,Rows.uptoBulk];omega
 | .agg ps=>by have:=Bn ps;simp only [Fy,Rows.uptoBulk];omega
 | .iface _ d=>by have:=Ny d;simp only [Fy,Rows.uptoBulk];omega
 | .map es=>by simp only [Fy,Rows.uptoBulk];omega
 | .held h=>by simp [Fy,Rows.uptoBulk]
theorem Bn {H:Type} :(l:List (DataW H))->Ka l<=Rows.uptoBulkAll l
 | []=>by simp [Ka,Rows.uptoBulkAll]
 | d::r=>by have:=Ny d;have:=Bn r;simp only [Ka,Rows.uptoBulkAll];omega
end
theorem Om {H:Type} {l:List (DataW H)} (h:Rows.uptoSmall H l=true):Ka l<=1048576:=by
 have h1:=Bn l;have h2:Rows.uptoBulkAll l<=1048576:=K1 h;omega
abbrev V9 (n:Int):Prop:= -9223372036854775808<=n/\n<=9223372036854775807
def eI (n:Int):PV:= .int .i64 n
def eB (b:Bool):PV:= .bool b
def eS (s:List UInt8):PV:= .str s
def eP (p:Int×Int):PV:= .agg [.int .i64 p.1,.int .i64 p.2]
@[go_sem] theorem Zom (n:Int):eI n= .int .i64 n:=Zh rfl rfl
@[go_sem] theorem Zok (b:Bool):eB b= .bool b:=Zh rfl rfl
@[go_sem] theorem Zoq (s:List UInt8):eS s= .str s:=Zh rfl rfl
@[go_sem] theorem Zoo (p:Int×Int):eP p= .agg [.int .i64 p.1,.int .i64 p.2]:=Zh rfl rfl
@[go_sem] theorem ZjO (l:List Bool):Cq 1 (l.map eB)=true:=D7 (f:=eB) (S:=1) (fun _=>rfl) l
@[go_sem] theorem ZmD (l:List Bool):AD 1 (l.map eB)=true:=DO fun _=>rfl
theorem Eu {B xs} (h: ∀y∈xs,FitV Tryz.prog B 3 y): ∃l:List Int,xs=l.map eI/\ ∀n∈l,V9 n :=
 Y4 (f:=eI) fun y hy=>by
  obtain ⟨n,rfl,w⟩:=O9 Tryz.underlying3 (h y hy);exact ⟨n,rfl,Xi w⟩
theorem R5 {B xs} (h: ∀y∈xs,FitV Tryz.prog B 4 y): ∃l:List Bool,xs=l.map eB/\ ∀b∈l,True :=
 Y4 (f:=eB) fun y hy=>by
  obtain ⟨b,rfl⟩:=cJ Tryz.underlying4 (h y hy);exact ⟨b,rfl,trivial⟩
theorem cK {B xs} (h: ∀y∈xs,FitV Tryz.prog B 9 y): ∃l:List (List UInt8),xs=l.map eS/\ ∀s∈l,s.length<=B :=
 Y4 (f:=eS) fun y hy=>by
  obtain ⟨s,rfl,w,_⟩:=mZ Tryz.underlying9 (h y hy);exact ⟨s,rfl,w⟩
theorem eL {α:Type} {l:List α} (h:l.length=2): ∃a0 a1,l= [a0,a1]:=by
 match l,h with | [a0,a1],_=>simp
theorem ZhO {α:Type} {l:List α} (h:l.length=6): ∃a0 a1 a2 a3 a4 a5,l= [a0,a1,a2,a3,a4,a5]:=by
 match l,h with | [a0,a1,a2,a3,a4,a5],_=>simp
theorem ZhL {α:Type} {l:List α} (h:l.length=14): ∃a0 a1 a2 a3 a4 a5 a6 a7 a8 a9 a10 a11 a12 a13,l= [a0,a1,a2,a3,a4,a5,a6,a7,a8,a9,a10,a11,a12,a13]:=by
 match l,h with | [a0,a1,a2,a3,a4,a5,a6,a7,a8,a9,a10,a11,a12,a13],_=>simp
theorem ZhN {α:Type} {l:List α} (h:l.length=4): ∃a0 a1 a2 a3,l= [a0,a1,a2,a3]:=by
 match l,h with | [a0,a1,a2,a3],_=>simp
theorem ZhM {α:Type} {l:List α} (h:l.length=16): ∃a0 a1 a2 a3 a4 a5 a6 a7 a8 a9 a10 a11 a12 a13 a14 a15,l= [a0,a1,a2,a3,a4,a5,a6,a7,a8,a9,a10,a11,a12,a13,a14,a15]:=by
 match l,h with | [a0,a1,a2,a3,a4,a5,a6,a7,a8,a9,a10,a11,a12,a13,a14,a15],_=>grind
structure Pt where
 t:Int
 a:Int
 deriving Inhabited
def cPt (x:Pt):List PV:= [.int .i64 x.t,.int .i64 x.a]
def Gd (x:Pt):PV:= .agg [.int .i64 x.t,.int .i64 x.a]
@[go_sem] theorem ZlZ (x:Pt):Gd x= .agg [.int .i64 x.t,.int .i64 x.a]:=Zh rfl rfl
def Pt.wf (B:Nat) (x:Pt):Prop:=V9 x.t/\V9 x.a
theorem nB {B m cs} (h:YM Tryz.prog B m 188 cs): ∃x:Pt,cs=cPt x/\x.wf B:=by
 obtain ⟨h1,m',h2⟩:=Wf gK vT h;obtain ⟨a0,a1,rfl⟩:=eL h1;obtain ⟨n0,e0,w0⟩:=ZS Tryz.underlying3 (h2 (0,3) Zb);obtain ⟨n1,e1,w1⟩:=ZS Tryz.underlying3 (h2 (1,3) Zb);simp [I4] at e0 e1;subst e0;subst e1;exact ⟨⟨n0,n1⟩,rfl,Xi w0,Xi w1⟩
theorem cI {B v} (h:FitV Tryz.prog B 188 v): ∃x:Pt,v=Gd x/\x.wf B:=by
 obtain ⟨k,cs,h,e⟩:=h.out;obtain ⟨x,rfl,hw⟩:=nB h;exact ⟨x,e.trans (by rw [UY,if_pos (Wj gK)];rfl),hw⟩
structure Arc where
 src:Int
 dst:Int
 prof:Int
 miles:Int
 travel_c:Bool
 travel:List (Pt)
 slow_c:Bool
 slow:List (Pt)
 deriving Inhabited
def ZlU (x:Arc):List PV:= [.int .i64 x.src,.int .i64 x.dst,.int .i64 x.prof,.int .i64 x.miles,.list x.travel_c (x.travel.map Gd),.list x.slow_c (x.slow.map Gd)]
def Ud (x:Arc):PV:= .agg [.int .i64 x.src,.int .i64 x.dst,.int .i64 x.prof,.int .i64 x.miles,.list x.travel_c (x.travel.map Gd),.list x.slow_c (x.slow.map Gd)]
@[go_sem] theorem ZjX (x:Arc):Ud x= .agg [.int .i64 x.src,.int .i64 x.dst,.int .i64 x.prof,.int .i64 x.miles,.list x.travel_c (x.travel.map Gd),.list x.slow_c (x.slow.map Gd)]:=Zh rfl rfl
def Arc.wf (B:Nat) (x:Arc):Prop:=V9 x.src/\V9 x.dst/\V9 x.prof/\V9 x.miles/\x.travel.length<=B/\(∀y∈x.travel,Pt.wf B y)/\x.slow.length<=B/\(∀y∈x.slow,Pt.wf B y)
theorem cN {B m cs} (h:YM Tryz.prog B m 129 cs): ∃x:Arc,cs=ZlU x/\x.wf B:=by
 obtain ⟨h1,m',h2⟩:=Wf gI vR h;obtain ⟨a0,a1,a2,a3,a4,a5,rfl⟩:=ZhO h1;obtain ⟨n0,e0,w0⟩:=ZS Tryz.underlying3 (h2 (0,3) Zb);obtain ⟨n1,e1,w1⟩:=ZS Tryz.underlying3 (h2 (1,3) Zb);obtain ⟨n2,e2,w2⟩:=ZS Tryz.underlying3 (h2 (2,3) Zb);obtain ⟨n3,e3,w3⟩:=ZS Tryz.underlying3 (h2 (3,3) Zb);obtain ⟨y4,e4,w4,_,z4⟩:=Xw Tryz.underlying127 (h2 (4,127) Zb);obtain ⟨n4,rfl,u4⟩:=Y4 (f:=Gd) fun y hy=>cI (z4 y hy);obtain ⟨y5,e5,w5,_,z5⟩:=Xw Tryz.underlying127 (h2 (5,127) Zb)
 obtain ⟨n5,rfl,u5⟩:=Y4 (f:=Gd) fun y hy=>cI (z5 y hy);simp [vQ,I4] at e0 e1 e2 e3 e4 e5;subst e0;subst e1;subst e2;subst e3;subst e4;subst e5;exact ⟨⟨n0,n1,n2,n3,false,n4,false,n5⟩,rfl,Xi w0,Xi w1,Xi w2,Xi w3,by grind,u4,by grind,u5⟩
theorem mT {B v} (h:FitV Tryz.prog B 129 v): ∃x:Arc,v=Ud x/\x.wf B:=by
 obtain ⟨k,cs,h,e⟩:=h.out;obtain ⟨x,rfl,hw⟩:=cN h;exact ⟨x,e.trans (by rw [UY,if_pos (Wj gI)];rfl),hw⟩
structure Net where
 places_c:Bool
 places:List (List UInt8)
 arcs_c:Bool
 arcs:List (Arc)
 deriving Inhabited
def ZgC (x:Net):List PV:= [.list x.places_c (x.places.map eS),.list x.arcs_c (x.arcs.map Ud)]
def Bo (x:Net):PV:= .agg [.list x.places_c (x.places.map eS),.list x.arcs_c (x.arcs.map Ud)]
@[go_sem] theorem Zj0 (x:Net):Bo x= .agg [.list x.places_c (x.places.map eS),.list x.arcs_c (x.arcs.map Ud)]:=Zh rfl rfl
def Net.wf (B:Nat) (x:Net):Prop:=x.places.length<=B/\(∀s∈x.places,s.length<=B)/\x.arcs.length<=B/\(∀y∈x.arcs,Arc.wf B y)
theorem cO {B m cs} (h:YM Tryz.prog B m 38 cs): ∃x:Net,cs=ZgC x/\x.wf B:=by
 obtain ⟨h1,m',h2⟩:=Wf Zic sN h;obtain ⟨a0,a1,rfl⟩:=eL h1;obtain ⟨y0,e0,w0,_,z0⟩:=Xw Tryz.underlying35 (h2 (0,35) Zb);obtain ⟨n0,rfl,u0⟩:=cK z0;obtain ⟨y1,e1,w1,_,z1⟩:=Xw Tryz.underlying36 (h2 (1,36) Zb);obtain ⟨n1,rfl,u1⟩:=Y4 (f:=Ud) fun y hy=>mT (z1 y hy);simp [ZgG,ZgF] at e0 e1;subst e0;subst e1;exact ⟨⟨false,n0,false,n1⟩,rfl,by grind,u0,by grind,u1⟩
structure Typ where
 name:List UInt8
 count:Int
 src:Int
 dst:Int
 cap_c:Bool
 cap:List (Int)
 skills:Int
 prof:Int
 opn:Int
 cls:Int
 drive:Int
 rest:Int
 fixed:Int
 perMile:Int
 perTick:Int
 deriving Inhabited
def J5 (x:Typ):List PV:= [.str x.name,.int .i64 x.count,.int .i64 x.src,.int .i64 x.dst,.list x.cap_c (x.cap.map eI),.int .i64 x.skills,.int .i64 x.prof,.int .i64 x.opn,.int .i64 x.cls,.int .i64 x.drive,.int .i64 x.rest,.int .i64 x.fixed,.int .i64 x.perMile,.int .i64 x.perTick]
def Uf (x:Typ):PV:= .agg [.str x.name,.int .i64 x.count,.int .i64 x.src,.int .i64 x.dst,.list x.cap_c (x.cap.map eI),.int .i64 x.skills,.int .i64 x.prof,.int .i64 x.opn,.int .i64 x.cls,.int .i64 x.drive,.int .i64 x.rest,.int .i64 x.fixed,.int .i64 x.perMile,.int .i64 x.perTick]
@[go_sem] theorem Zj9 (x:Typ):Uf x= .agg [.str x.name,.int .i64 x.count,.int .i64 x.src,.int .i64 x.dst,.list x.cap_c (x.cap.map eI),.int .i64 x.skills,.int .i64 x.prof,.int .i64 x.opn,.int .i64 x.cls,.int .i64 x.drive,.int .i64 x.rest,.int .i64 x.fixed,.int .i64 x.perMile,.int .i64 x.perTick]:=Zh rfl rfl
def Typ.wf (B:Nat) (x:Typ):Prop:=x.name.length<=B/\V9 x.count/\V9 x.src/\V9 x.dst/\x.cap.length<=B/\(∀n∈x.cap,V9 n)/\V9 x.skills/\V9 x.prof/\V9 x.opn/\V9 x.cls/\V9 x.drive/\V9 x.rest/\V9 x.fixed/\V9 x.perMile/\V9 x.perTick
theorem cT {B m cs} (h:YM Tryz.prog B m 82 cs): ∃x:Typ,cs=J5 x/\x.wf B:=by
 obtain ⟨h1,m',h2⟩:=Wf tI ZgQ h;obtain ⟨a0,a1,a2,a3,a4,a5,a6,a7,a8,a9,a10,a11,a12,a13,rfl⟩:=ZhL h1;obtain ⟨n0,e0,w0,_⟩:=Ev Tryz.underlying9 (h2 (0,9) Zb);obtain ⟨n1,e1,w1⟩:=ZS Tryz.underlying3 (h2 (1,3) Zb);obtain ⟨n2,e2,w2⟩:=ZS Tryz.underlying3 (h2 (2,3) Zb);obtain ⟨n3,e3,w3⟩:=ZS Tryz.underlying3 (h2 (3,3) Zb);obtain ⟨y4,e4,w4,_,z4⟩:=Xw Tryz.underlying31 (h2 (4,31) Zb);obtain ⟨n4,rfl,u4⟩:=Eu z4;obtain ⟨n5,e5,w5⟩:=ZS Tryz.underlying3 (h2 (5,3) Zb)
 obtain ⟨n6,e6,w6⟩:=ZS Tryz.underlying3 (h2 (6,3) Zb);obtain ⟨n7,e7,w7⟩:=ZS Tryz.underlying3 (h2 (7,3) Zb);obtain ⟨n8,e8,w8⟩:=ZS Tryz.underlying3 (h2 (8,3) Zb);obtain ⟨n9,e9,w9⟩:=ZS Tryz.underlying3 (h2 (9,3) Zb);obtain ⟨n10,e10,w10⟩:=ZS Tryz.underlying3 (h2 (10,3) Zb);obtain ⟨n11,e11,w11⟩:=ZS Tryz.underlying3 (h2 (11,3) Zb);obtain ⟨n12,e12,w12⟩:=ZS Tryz.underlying3 (h2 (12,3) Zb);obtain ⟨n13,e13,w13⟩:=ZS Tryz.underlying3 (h2 (13,3) Zb);simp [aP,I4,ZgR] at e0 e1 e2 e3 e4 e5 e6 e7 e8 e9 e10 e11 e12 e13
 subst e0;subst e1;subst e2;subst e3;subst e4;subst e5;subst e6;subst e7;subst e8;subst e9;subst e10;subst e11;subst e12;subst e13;exact ⟨⟨n0,n1,n2,n3,false,n4,n5,n6,n7,n8,n9,n10,n11,n12,n13⟩,rfl,w0,Xi w1,Xi w2,Xi w3,by grind,u4,Xi w5,Xi w6,Xi w7,Xi w8,Xi w9,Xi w10,Xi w11,Xi w12,Xi w13⟩
theorem mX {B v} (h:FitV Tryz.prog B 82 v): ∃x:Typ,v=Uf x/\x.wf B:=by
 obtain ⟨k,cs,h,e⟩:=h.out;obtain ⟨x,rfl,hw⟩:=cT h;exact ⟨x,e.trans (by rw [UY,if_pos (Wj tI)];rfl),hw⟩
structure Stp where
 place:Int
 opn:Int
 cls:Int
 serv:Int
 deriving Inhabited
def Ap (x:Stp):List PV:= [.int .i64 x.place,.int .i64 x.opn,.int .i64 x.cls,.int .i64 x.serv]
def Ep (x:Stp):PV:= .agg [.int .i64 x.place,.int .i64 x.opn,.int .i64 x.cls,.int .i64 x.serv]
@[go_sem] theorem Zj6 (x:Stp):Ep x= .agg [.int .i64 x.place,.int .i64 x.opn,.int .i64 x.cls,.int .i64 x.serv]:=Zh rfl rfl
def Stp.wf (B:Nat) (x:Stp):Prop:=V9 x.place/\V9 x.opn/\V9 x.cls/\V9 x.serv
theorem Lq {B m cs} (h:YM Tryz.prog B m 57 cs): ∃x:Stp,cs=Ap x/\x.wf B:=by
 obtain ⟨h1,m',h2⟩:=Wf Zid sO h;obtain ⟨a0,a1,a2,a3,rfl⟩:=ZhN h1;obtain ⟨n0,e0,w0⟩:=ZS Tryz.underlying3 (h2 (0,3) Zb);obtain ⟨n1,e1,w1⟩:=ZS Tryz.underlying3 (h2 (1,3) Zb);obtain ⟨n2,e2,w2⟩:=ZS Tryz.underlying3 (h2 (2,3) Zb);obtain ⟨n3,e3,w3⟩:=ZS Tryz.underlying3 (h2 (3,3) Zb);simp [I4] at e0 e1 e2 e3;subst e0;subst e1;subst e2;subst e3;exact ⟨⟨n0,n1,n2,n3⟩,rfl,Xi w0,Xi w1,Xi w2,Xi w3⟩
theorem sP {B v} (h:FitV Tryz.prog B 132 v): ∃x:Int×Int,v=eP x/\V9 x.1/\V9 x.2:=by
 obtain ⟨k,cs,h,e⟩:=h.out;obtain ⟨h1,m',h2⟩:=Wf gJ vS h;obtain ⟨a,b,rfl⟩:=eL h1;obtain ⟨n0,e0,w0⟩:=ZS Tryz.underlying3 (h2 (0,3) Zb);obtain ⟨n1,e1,w1⟩:=ZS Tryz.underlying3 (h2 (1,3) Zb);simp [I4] at e0 e1;subst e0;subst e1;exact ⟨(n0,n1),e.trans (by rw [UY,if_pos (Wj gJ)];rfl),Xi w0,Xi w1⟩
structure Ord where
 name:List UInt8
 load_c:Bool
 load:List (Int)
 pick:Stp
 drp:Stp
 skills:Int
 penalty:Int
 split:Int
 last:Int
 now:Int
 off:Bool
 deriving Inhabited
def ZlV (x:Ord):List PV:= [.str x.name,.list x.load_c (x.load.map eI),.int .i64 x.pick.place,.int .i64 x.pick.opn,.int .i64 x.pick.cls,.int .i64 x.pick.serv,.int .i64 x.drp.place,.int .i64 x.drp.opn,.int .i64 x.drp.cls,.int .i64 x.drp.serv,.int .i64 x.skills,.int .i64 x.penalty,.int .i64 x.split,.int .i64 x.last,.int .i64 x.now,.bool x.off]
def eOrd (x:Ord):PV:= .agg [.str x.name,.list x.load_c (x.load.map eI),.int .i64 x.pick.place,.int .i64 x.pick.opn,.int .i64 x.pick.cls,.int .i64 x.pick.serv,.int .i64 x.drp.place,.int .i64 x.drp.opn,.int .i64 x.drp.cls,.int .i64 x.drp.serv,.int .i64 x.skills,.int .i64 x.penalty,.int .i64 x.split,.int .i64 x.last,.int .i64 x.now,.bool x.off]
@[go_sem] theorem HJ (x:Ord):eOrd x= .agg [.str x.name,.list x.load_c (x.load.map eI),.int .i64 x.pick.place,.int .i64 x.pick.opn,.int .i64 x.pick.cls,.int .i64 x.pick.serv,.int .i64 x.drp.place,.int .i64 x.drp.opn,.int .i64 x.drp.cls,.int .i64 x.drp.serv,.int .i64 x.skills,.int .i64 x.penalty,.int .i64 x.split,.int .i64 x.last,.int .i64 x.now,.bool x.off]:=Zh rfl rfl
def Ord.wf (B:Nat) (x:Ord):Prop:=x.name.length<=B/\x.load.length<=B/\(∀n∈x.load,V9 n)/\Stp.wf B x.pick/\Stp.wf B x.drp/\V9 x.skills/\V9 x.penalty/\V9 x.split/\V9 x.last/\V9 x.now
theorem cP {B m cs} (h:YM Tryz.prog B m 59 cs): ∃x:Ord,cs=ZlV x/\x.wf B:=by
 obtain ⟨h1,m',h2⟩:=Wf tH ZgP h;obtain ⟨a0,a1,a2,a3,a4,a5,a6,a7,a8,a9,a10,a11,a12,a13,a14,a15,rfl⟩:=ZhM h1;obtain ⟨n0,e0,w0,_⟩:=Ev Tryz.underlying9 (h2 (0,9) Zb);obtain ⟨y1,e1,w1,_,z1⟩:=Xw Tryz.underlying31 (h2 (1,31) Zb);obtain ⟨n1,rfl,u1⟩:=Eu z1;obtain ⟨n2,e2,w2⟩:=Lq (h2 (2,57) Zb);obtain ⟨n3,e3,w3⟩:=Lq (h2 (6,57) Zb);obtain ⟨n4,e4,w4⟩:=ZS Tryz.underlying3 (h2 (10,3) Zb);obtain ⟨n5,e5,w5⟩:=ZS Tryz.underlying3 (h2 (11,3) Zb);obtain ⟨n6,e6,w6⟩:=ZS Tryz.underlying3 (h2 (12,3) Zb)
 obtain ⟨n7,e7,w7⟩:=ZS Tryz.underlying3 (h2 (13,3) Zb);obtain ⟨n8,e8,w8⟩:=ZS Tryz.underlying3 (h2 (14,3) Zb);obtain ⟨n9,e9⟩:=Cy Tryz.underlying4 (h2 (15,4) Zb);simp [aP,sO,ZgI,I4,ZgR,Ap,Ap] at e0 e1 e2 e3 e4 e5 e6 e7 e8 e9;subst e0;subst e1;obtain ⟨rfl,rfl,rfl,rfl⟩:=e2;obtain ⟨rfl,rfl,rfl,rfl⟩:=e3;subst e4;subst e5;subst e6;subst e7;subst e8;subst e9;exact ⟨⟨n0,false,n1,n2,n3,n4,n5,n6,n7,n8,n9⟩,rfl,w0,by grind,u1,w2,w3,Xi w4,Xi w5,Xi w6,Xi w7,Xi w8⟩
theorem mU {B v} (h:FitV Tryz.prog B 59 v): ∃x:Ord,v=eOrd x/\x.wf B:=by
 obtain ⟨k,cs,h,e⟩:=h.out;obtain ⟨x,rfl,hw⟩:=cP h;exact ⟨x,e.trans (by rw [UY,if_pos (Wj tH)];rfl),hw⟩
structure Inst where
 net:Net
 types_c:Bool
 types:List (Typ)
 orders_c:Bool
 orders:List (Ord)
 apart_c:Bool
 apart:List (Int×Int)
 before_c:Bool
 before:List (Int×Int)
 deriving Inhabited
def ZgB (x:Inst):List PV:= [.list x.net.places_c (x.net.places.map eS),.list x.net.arcs_c (x.net.arcs.map Ud),.list x.types_c (x.types.map Uf),.list x.orders_c (x.orders.map eOrd),.list x.apart_c (x.apart.map eP),.list x.before_c (x.before.map eP)]
def ZG (x:Inst):PV:= .agg [.list x.net.places_c (x.net.places.map eS),.list x.net.arcs_c (x.net.arcs.map Ud),.list x.types_c (x.types.map Uf),.list x.orders_c (x.orders.map eOrd),.list x.apart_c (x.apart.map eP),.list x.before_c (x.before.map eP)]
@[go_sem] theorem ZgU (x:Inst):ZG x= .agg [.list x.net.places_c (x.net.places.map eS),.list x.net.arcs_c (x.net.arcs.map Ud),.list x.types_c (x.types.map Uf),.list x.orders_c (x.orders.map eOrd),.list x.apart_c (x.apart.map eP),.list x.before_c (x.before.map eP)]:=Zh rfl rfl
def Inst.wf (B:Nat) (x:Inst):Prop:=Net.wf B x.net/\x.types.length<=B/\(∀y∈x.types,Typ.wf B y)/\x.orders.length<=B/\(∀y∈x.orders,Ord.wf B y)/\x.apart.length<=B/\(∀p∈x.apart,V9 p.1/\V9 p.2)/\x.before.length<=B/\(∀p∈x.before,V9 p.1/\V9 p.2)
theorem R7 {B m cs} (h:YM Tryz.prog B m 43 cs): ∃x:Inst,cs=ZgB x/\x.wf B:=by
 obtain ⟨h1,m',h2⟩:=Wf tF ZgL h;obtain ⟨a0,a1,a2,a3,a4,a5,rfl⟩:=ZhO h1;obtain ⟨n0,e0,w0⟩:=cO (h2 (0,38) Zb);obtain ⟨y1,e1,w1,_,z1⟩:=Xw Tryz.underlying39 (h2 (2,39) Zb);obtain ⟨n1,rfl,u1⟩:=Y4 (f:=Uf) fun y hy=>mX (z1 y hy);obtain ⟨y2,e2,w2,_,z2⟩:=Xw Tryz.underlying40 (h2 (3,40) Zb);obtain ⟨n2,rfl,u2⟩:=Y4 (f:=eOrd) fun y hy=>mU (z2 y hy);obtain ⟨y3,e3,w3,_,z3⟩:=Xw Tryz.underlying41 (h2 (4,41) Zb);obtain ⟨n3,rfl,u3⟩:=Y4 (f:=eP) fun y hy=>sP (z3 y hy)
 obtain ⟨y4,e4,w4,_,z4⟩:=Xw Tryz.underlying41 (h2 (5,41) Zb);obtain ⟨n4,rfl,u4⟩:=Y4 (f:=eP) fun y hy=>sP (z4 y hy);simp [ZgK,ZgJ,ZgH,sN,ZgC] at e0 e1 e2 e3 e4;obtain ⟨rfl,rfl⟩:=e0;subst e1;subst e2;subst e3;subst e4;exact ⟨⟨n0,false,n1,false,n2,false,n3,false,n4⟩,rfl,w0,by grind,u1,by grind,u2,by grind,u3,by grind,u4⟩
theorem cH {B v} (h:FitV Tryz.prog B 43 v): ∃x:Inst,v=ZG x/\x.wf B:=by
 obtain ⟨k,cs,h,e⟩:=h.out;obtain ⟨x,rfl,hw⟩:=R7 h;exact ⟨x,e.trans (by rw [UY,if_pos (Wj tF)];rfl),hw⟩
structure Vis where
 order:Int
 drp:Bool
 deriving Inhabited
def ZlY (x:Vis):List PV:= [.int .i64 x.order,.bool x.drp]
def Xc (x:Vis):PV:= .agg [.int .i64 x.order,.bool x.drp]
@[go_sem] theorem O4 (x:Vis):Xc x= .agg [.int .i64 x.order,.bool x.drp]:=Zh rfl rfl
@[go_sem] theorem ZcT (l:List Vis):Cq 2 (l.map Xc)=true:=D7 (f:=Xc) (S:=2) (fun _=>rfl) l
@[go_sem] theorem Zh6 (l:List Vis):AD 2 (l.map Xc)=true:=DO fun _=>rfl
def Vis.wf (B:Nat) (x:Vis):Prop:=V9 x.order
theorem cV {B m cs} (h:YM Tryz.prog B m 126 cs): ∃x:Vis,cs=ZlY x/\x.wf B:=by
 obtain ⟨h1,m',h2⟩:=Wf gG vP h;obtain ⟨a0,a1,rfl⟩:=eL h1;obtain ⟨n0,e0,w0⟩:=ZS Tryz.underlying3 (h2 (0,3) Zb);obtain ⟨n1,e1⟩:=Cy Tryz.underlying4 (h2 (1,4) Zb);simp [ZgI,I4] at e0 e1;subst e0;subst e1;exact ⟨⟨n0,n1⟩,rfl,Xi w0⟩
theorem mY {B v} (h:FitV Tryz.prog B 126 v): ∃x:Vis,v=Xc x/\x.wf B:=by
 obtain ⟨k,cs,h,e⟩:=h.out;obtain ⟨x,rfl,hw⟩:=cV h;exact ⟨x,e.trans (by rw [UY,if_pos (Wj gG)];rfl),hw⟩
structure Rte where
 typ:Int
 start:Int
 rests_c:Bool
 rests:List (Bool)
 visits_c:Bool
 visits:List (Vis)
 deriving Inhabited
def ZlX (x:Rte):List PV:= [.int .i64 x.typ,.int .i64 x.start,.list x.rests_c (x.rests.map eB),.list x.visits_c (x.visits.map Xc)]
def Wc (x:Rte):PV:= .agg [.int .i64 x.typ,.int .i64 x.start,.list x.rests_c (x.rests.map eB),.list x.visits_c (x.visits.map Xc)]
@[go_sem] theorem Zj2 (x:Rte):Wc x= .agg [.int .i64 x.typ,.int .i64 x.start,.list x.rests_c (x.rests.map eB),.list x.visits_c (x.visits.map Xc)]:=Zh rfl rfl
def Rte.wf (B:Nat) (x:Rte):Prop:=V9 x.typ/\V9 x.start/\x.rests.length<=B/\(∀b∈x.rests,True)/\x.visits.length<=B/\(∀y∈x.visits,Vis.wf B y)
theorem cS {B m cs} (h:YM Tryz.prog B m 49 cs): ∃x:Rte,cs=ZlX x/\x.wf B:=by
 obtain ⟨h1,m',h2⟩:=Wf tG ZgO h;obtain ⟨a0,a1,a2,a3,rfl⟩:=ZhN h1;obtain ⟨n0,e0,w0⟩:=ZS Tryz.underlying3 (h2 (0,3) Zb);obtain ⟨n1,e1,w1⟩:=ZS Tryz.underlying3 (h2 (1,3) Zb);obtain ⟨y2,e2,w2,_,z2⟩:=Xw Tryz.underlying46 (h2 (2,46) Zb);obtain ⟨n2,rfl,u2⟩:=R5 z2;obtain ⟨y3,e3,w3,_,z3⟩:=Xw Tryz.underlying47 (h2 (3,47) Zb);obtain ⟨n3,rfl,u3⟩:=Y4 (f:=Xc) fun y hy=>mY (z3 y hy);simp [ZgN,ZgM,I4] at e0 e1 e2 e3;subst e0;subst e1;subst e2;subst e3;exact ⟨⟨n0,n1,false,n2,false,n3⟩,rfl,Xi w0,Xi w1,by grind,u2,by grind,u3⟩
theorem mW {B v} (h:FitV Tryz.prog B 49 v): ∃x:Rte,v=Wc x/\x.wf B:=by
 obtain ⟨k,cs,h,e⟩:=h.out;obtain ⟨x,rfl,hw⟩:=cS h;exact ⟨x,e.trans (by rw [UY,if_pos (Wj tG)];rfl),hw⟩
structure Tim where
 arr:Int
 beg:Int
 dep:Int
 rest:Bool
 deriving Inhabited
def eTim (x:Tim):PV:= .agg [.int .i64 x.arr,.int .i64 x.beg,.int .i64 x.dep,.bool x.rest]
@[go_sem] theorem Zj7 (x:Tim):eTim x= .agg [.int .i64 x.arr,.int .i64 x.beg,.int .i64 x.dep,.bool x.rest]:=Zh rfl rfl
@[go_sem] theorem Zh5 (l:List Tim):AD 4 (l.map eTim)=true:=DO fun _=>rfl
structure She where
 rest:Bool
 dep:Int
 times_c:Bool
 times:List (Tim)
 fin:Int
 miles:Int
 deriving Inhabited
def En (x:She):PV:= .agg [.bool x.rest,.int .i64 x.dep,.list x.times_c (x.times.map eTim),.int .i64 x.fin,.int .i64 x.miles]
@[go_sem] theorem Zj4 (x:She):En x= .agg [.bool x.rest,.int .i64 x.dep,.list x.times_c (x.times.map eTim),.int .i64 x.fin,.int .i64 x.miles]:=Zh rfl rfl
structure Sco where
 cost:Int
 moved:Int
 other:Int
 work:Int
 deriving Inhabited
def Ar (x:Sco):PV:= .agg [.int .i64 x.cost,.int .i64 x.moved,.int .i64 x.other,.int .i64 x.work]
@[go_sem] theorem Zj3 (x:Sco):Ar x= .agg [.int .i64 x.cost,.int .i64 x.moved,.int .i64 x.other,.int .i64 x.work]:=Zh rfl rfl
structure Pln where
 routes_c:Bool
 routes:List (Rte)
 unserved_c:Bool
 unserved:List (Int)
 deriving Inhabited
def ZlW (x:Pln):List PV:= [.list x.routes_c (x.routes.map Wc),.list x.unserved_c (x.unserved.map eI)]
def Ue (x:Pln):PV:= .agg [.list x.routes_c (x.routes.map Wc),.list x.unserved_c (x.unserved.map eI)]
@[go_sem] theorem Zj1 (x:Pln):Ue x= .agg [.list x.routes_c (x.routes.map Wc),.list x.unserved_c (x.unserved.map eI)]:=Zh rfl rfl
def Pln.wf (B:Nat) (x:Pln):Prop:=x.routes.length<=B/\(∀y∈x.routes,Rte.wf B y)/\x.unserved.length<=B/\(∀n∈x.unserved,V9 n)
theorem cQ {B m cs} (h:YM Tryz.prog B m 33 cs): ∃x:Pln,cs=ZlW x/\x.wf B:=by
 obtain ⟨h1,m',h2⟩:=Wf tE ZgE h;obtain ⟨a0,a1,rfl⟩:=eL h1;obtain ⟨y0,e0,w0,_,z0⟩:=Xw Tryz.underlying30 (h2 (0,30) Zb);obtain ⟨n0,rfl,u0⟩:=Y4 (f:=Wc) fun y hy=>mW (z0 y hy);obtain ⟨y1,e1,w1,_,z1⟩:=Xw Tryz.underlying31 (h2 (1,31) Zb);obtain ⟨n1,rfl,u1⟩:=Eu z1;simp [ZgD,aP] at e0 e1;subst e0;subst e1;exact ⟨⟨false,n0,false,n1⟩,rfl,by grind,u0,by grind,u1⟩
theorem mV {B v} (h:FitV Tryz.prog B 33 v): ∃x:Pln,v=Ue x/\x.wf B:=by
 obtain ⟨k,cs,h,e⟩:=h.out;obtain ⟨x,rfl,hw⟩:=cQ h;exact ⟨x,e.trans (by rw [UY,if_pos (Wj tE)];rfl),hw⟩
structure Col where
 typ:Int
 set:Int
 price:Int
 route:Rte
 deriving Inhabited
def lS (x:Col):List PV:= [.int .i64 x.typ,.int .i64 x.set,.int .i64 x.price,.int .i64 x.route.typ,.int .i64 x.route.start,.list x.route.rests_c (x.route.rests.map eB),.list x.route.visits_c (x.route.visits.map Xc)]
def Yn (x:Col):PV:= .agg [.int .i64 x.typ,.int .i64 x.set,.int .i64 x.price,.int .i64 x.route.typ,.int .i64 x.route.start,.list x.route.rests_c (x.route.rests.map eB),.list x.route.visits_c (x.route.visits.map Xc)]
@[go_sem] theorem ZjY (x:Col):Yn x= .agg [.int .i64 x.typ,.int .i64 x.set,.int .i64 x.price,.int .i64 x.route.typ,.int .i64 x.route.start,.list x.route.rests_c (x.route.rests.map eB),.list x.route.visits_c (x.route.visits.map Xc)]:=Zh rfl rfl
theorem own : ownKnob Tryz.prog.godebug=none:=Zd
theorem nN : laidOutB Tryz.prog=true:=Zd
abbrev Flt := Int×List UInt8
def eF (f:Flt):PV:= .agg [.int .i64 f.1,.str f.2]
@[go_sem] theorem Zol (f:Flt):eF f= .agg [.int .i64 f.1,.str f.2]:=Zh rfl rfl
@[go_sem] theorem ZmE (l:List Flt):AD 2 (l.map eF)=true:=DO fun _=>rfl
def dec (n:Nat):List UInt8:=if h:n<10 then [UInt8.ofNat (48+n)] else dec (n / 10)++ [UInt8.ofNat (48+n%10)]
termination_by n
decreasing_by omega
theorem O1 : ∀(k n:Nat),n<k->(dec n).length<=n+1:=by
 intro k
 induction k with
 | zero=>omega
 | succ k ih =>
  grind [dec]
theorem AT : ∀(d n:Nat),n<10^(d+1)->(dec n).length<=d+1:=by
 intro d
 induction d with
 | zero=>simp_all [dec]
 | succ d ih =>
  grind [dec]
def Aq (n:Int):List UInt8:=if n<0 then 45::dec n.natAbs else dec n.natAbs
theorem QL (n:Int) (h:V9 n):(Aq n).length<=20:=by
 have h1:n.natAbs<10^(18+1):=Za
 have:=AT 18 n.natAbs h1
 grind [Aq]
structure FR {α:Type} (p:α->Prop) (C:Prop) (b:Nat) (l:List α):Prop where
 len:l.length<=b
 emp:l= []↔C
 all: ∀x∈l,p x
theorem FR.nil {α:Type} {p:α->Prop} {C:Prop} {b:Nat} (h:C):FR p C b []:=⟨Zb,by simp [h],Zb⟩
theorem FR.no {α:Type} {p:α->Prop} {C c:Prop} {b:Nat} {l:List α} (h:FR p C b l) (hc:c):FR p (C/\c) (b+1) l:=⟨by have:=h.len;omega,by rw [h.emp];simp [hc],h.all⟩
theorem FR.yes {α:Type} {p:α->Prop} {C c:Prop} {b:Nat} {l:List α} {x:α} (h:FR p C b l) (hc: ¬c) (hx:p x):FR p (C/\c) (b+1) (l++ [x]) :=
 ⟨by have:=h.len;simp;omega,by simp [hc],fun y hy=>by
  rcases XI.1 hy with hy | hy
  ·exact h.all y hy
  grind⟩
theorem FR.app {α:Type} {p:α->Prop} {C D:Prop} {b d:Nat} {l m:List α} (h:FR p C b l) (k:FR p D d m):FR p (C/\D) (b+d) (l++m) :=
 ⟨by have:=h.len;have:=k.len;simp;omega,by rw [Qs,h.emp,k.emp],fun y hy=>by
  rcases XI.1 hy with hy | hy
  ·exact h.all y hy
  ·exact k.all y hy⟩
theorem FR.to {α:Type} {p:α->Prop} {C D:Prop} {b d:Nat} {l:List α} (h:FR p C b l) (hb:b<=d) (hc:C↔D):FR p D d l:=⟨K9 h.len hb,h.emp.trans hc,h.all⟩
theorem Zm {p:Nat->Prop} {k:Nat} :(∀j,j<k+1->p j)↔((∀j,j<k->p j)/\p k) :=
 ⟨fun h=>⟨fun j hj=>h j Za,h k Za⟩,fun h j hj=>by
  grind⟩
def Jn (c:UInt8):Bool:=decide (48<=c.toNat/\c.toNat<=57)
def QP (c:UInt8):Bool:=decide (97<=c.toNat/\c.toNat<=122)||decide (65<=c.toNat/\c.toNat<=90)||decide (c.toNat=95)
def nameOk (s:List UInt8):Bool:=decide (1<=s.length)&&decide (s.length<=16)&& !Jn (nth s 0)&&s.all fun c=>QP c||Jn c
def rng (n lo hi:Int):Bool:=decide (lo<=n/\n<=hi)
def Iv (n:Int):Bool:=rng n 0 4096
def gX (l:List Pt) (i:Nat):Prop:=(0<=(nth l i).t/\(nth l i).t<=4096/\(nth l i).t<=(nth l i).a/\(nth l i).a<=(nth l i).t+4096)/\(0<i->(nth l (i-1)).t<(nth l i).t/\(nth l (i-1)).a<=(nth l i).a)
def WK (l:List Pt):Prop:=(1<=l.length/\l.length<=16)/\ ∀i,i<l.length->gX l i
def KA (l:List Pt) (i:Nat):Prop:=Iv (nth l i).t=true/\Iv (nth l i).a=true/\(0<i->(nth l (i-1)).t<(nth l i).t)
def IP (n:Net) (i:Nat):Prop :=
 ((((((0<=(nth n.arcs i).src/\(nth n.arcs i).src<n.places.length/\0<=(nth n.arcs i).dst/\(nth n.arcs i).dst<n.places.length) /\
 (0<=(nth n.arcs i).prof/\(nth n.arcs i).prof<=7/\0<=(nth n.arcs i).miles/\(nth n.arcs i).miles<=10000/\(nth n.arcs i).src≠(nth n.arcs i).dst)) /\
 (∀k,k<i-> ¬((nth n.arcs i).src=(nth n.arcs k).src/\(nth n.arcs i).dst=(nth n.arcs k).dst/\(nth n.arcs i).prof=(nth n.arcs k).prof))) /\
 WK (nth n.arcs i).travel)/\(nth n.arcs i).slow.length<=16)/\ ∀k,k<(nth n.arcs i).slow.length->KA (nth n.arcs i).slow k)
def N2 (n:Net) (i:Nat):Prop:=nameOk (nth n.places i)=true/\ ∀k,k<i->nth n.places k≠nth n.places i
def Kq (n:Net):Prop:=n.places.length<=24/\ ∀i,i<n.places.length->N2 n i
def netOk (n:Net):Prop:=(Kq n/\n.arcs.length<=1024)/\ ∀i,i<n.arcs.length->IP n i
set_option maxRecDepth 8000
set_option maxHeartbeats 4000000
theorem O3 (c:UInt8):PC 274 [.p (.int .u8 (c.toNat:Nat))] (.bool (Jn c)):=by
 refine Zc Tryz.func274 rfl Zax ?_;simp (disch:=omega) only [Tryz.f274,go_sem,seval];refine gT ?_ ?_<;>intro h<;>simp (disch:=omega) only [Sh.out h,go_sem,seval,↓reduceIte]
 all_goals (simp [Jn];first | done | omega | grind)
theorem eM (c:UInt8):PC 275 [.p (.int .u8 (c.toNat:Nat))] (.bool (QP c)):=by
 refine Zc Tryz.func275 rfl Zay ?_;simp (disch:=omega) only [Tryz.f275,go_sem,seval]
 repeat' (first | (refine gT ?_ ?_<;>intro hq<;>simp (disch:=omega) only [Sh.out hq,go_sem,seval,↓reduceIte]) | (refine gF ?_ ?_<;>intro hq<;>simp (disch:=omega) only [Sh.out hq,go_sem,seval,↓reduceIte]) | (refine Ja (fun hq=> ?_) (fun hq=> ?_)<;>(try simp only [Zl,XM,XU] at hq)<;>simp (disch:=omega) only [Sh.out hq,go_sem,seval]))
 all_goals (simp [QP];first | done | omega | (rw [YO];simp;omega))
theorem NT (s:List UInt8) (hs:s.length<=1048576):PC 226 [.p (.str s)] (.bool (nameOk s)):=by
 refine Zc Tryz.func226 rfl zN ?_;simp (disch:=omega) only [Tryz.f226,go_sem,seval];refine gF ?_ ?_<;>intro h<;>simp (disch:=omega) only [Sh.out h,go_sem,seval,↓reduceIte]
 ·grind [nameOk]
 ·refine gF ?_ ?_<;>intro h2<;>simp (disch:=omega) only [Sh.out h2,go_sem,seval]
  ·grind [nameOk]
  ·have g1:1<=s.length:=Za
   have g2:s.length<=16:=Za
   refine (O3 (nth s 0)).use (Wt ?_);refine cD ?_ ?_<;>intro h3<;>simp (disch:=omega) only [Sh.out h3,go_sem,seval]
   ·simp [nameOk,h3]
   ·refine Zk [0] (fun k:Nat=> [(3,.p (.int .i64 k))]) (fun _=> []) (fun k=>k<=s.length/\ ∀j,j<k->(QP (nth s j)||Jn (nth s j))=true) (fun k=>s.length-k) 0 Zb (Weak.mk ?_) ?_
    ·simp (disch:=omega) only [go_sem,seval,↓reduceIte]
    ·rintro k ⟨hk,hno⟩;refine Wt ?_
     have hall: ∀j,j<s.length->(QP (nth s j)||Jn (nth s j))=false->nameOk s=false:=fun j hj e=>by
      grind [Ze,nameOk]
     refine cD ?_ ?_<;>intro h4<;>simp (disch:=omega) only [Sh.out h4,go_sem,seval,↓reduceIte]
     ·have hk2:k<s.length:=Za
      refine (eM (nth s k)).use (Wt ?_);refine gT ?_ ?_<;>intro h5<;>simp (disch:=omega) only [Sh.out h5,go_sem,seval,↓reduceIte]
      ·refine (O3 (nth s k)).use (Wt ?_);refine cD ?_ ?_<;>intro h6<;>simp (disch:=omega) only [Sh.out h6,go_sem,seval,↓reduceIte]
       ·grind
       ·simp only [Xp] at h6;exact ⟨k+1,⟨Za,Zm.2 ⟨hno,by simp [h6]⟩⟩,Za,wk⟩
      ·simp only [Xp] at h5;exact ⟨k+1,⟨Za,Zm.2 ⟨hno,by simp [h5]⟩⟩,Za,wk⟩
     ·have:s.all (fun c=>QP c||Jn c)=true:=by
       rw [Zv];intro c hc;obtain ⟨j,hj,rfl⟩:=ZP.1 hc
       grind [Ze]
      grind [nameOk]
theorem KQ (n:Int) (hn:V9 n):PC 174 [.p (.int .i64 n)] (.str (Aq n)):=by
 refine Zc Tryz.func174 rfl yQ ?_;simp (disch:=omega) only [Tryz.f174,go_sem,seval]
 have h19:n.natAbs<10^(18+1):=Za
 have hdl:=AT 18 n.natAbs h19
 refine Xe [7] [0] (fun q:Int×List UInt8×Bool=> [(3,.p (.str q.2.1)),(4,.p (.int .i64 q.1)),(5,.p (.bool q.2.2))]) (fun _=> [])
  (fun q=>V9 q.1/\(q.2.2=true->dec q.1.natAbs++q.2.1=dec n.natAbs)/\(q.2.2=false->q.2.1=dec n.natAbs)) (fun q=>if q.2.2 then q.1.natAbs+1 else 0) (n,[],true) (by simp;omega) (Weak.mk ?_) ?_
 ·simp (disch:=omega) only [go_sem,seval,↓reduceIte]
 ·rintro ⟨m,s,again⟩ ⟨hm,h1,h2⟩;simp only at hm h1 h2;refine Wt ?_
  cases again with
  | false =>
   refine Wt ?_;have h2:=h2 rfl
   have hl2:([45]:List UInt8).length+(dec n.natAbs).length<=9223372036854775807:=by simp;omega
   refine cD ?_ ?_<;>intro h3<;>simp (disch:=omega) only [Sh.out h3,go_sem,seval]
   ·simp (disch:=omega) only [Aq,h2,h3,iK hl2,go_sem,seval,↓reduceIte]
   ·simp (disch:=omega) only [Aq,h2,h3,go_sem,seval,↓reduceIte]
  | true =>
   have h1:=h1 rfl
   have hls:(dec m.natAbs).length+s.length=(dec n.natAbs).length:=by grind
   refine Wt ?_
   have e1:(m.tmod 10).natAbs=m.natAbs%10:=Zb
   have e2:(m.tdiv 10).natAbs=m.natAbs / 10:=by grind
   have e3:m.tmod 10<10/\ -10<m.tmod 10:=⟨Int.tmod_lt_of_pos _ (by decide),Za⟩;refine ZJ [0,3,4] (fun _:Unit=> [(6,.p (.int .i64 ((m.natAbs%10:Nat):Int)))]) (fun _=> []) (fun _=>True) ?_ ?_
   ·refine Wt ?_;refine cD ?_ ?_<;>intro h3<;>simp (disch:=omega) only [Sh.out h3,go_sem,seval,↓reduceIte]
    ·exact ⟨(),Weak.mk (by refine Wt ?_;simp;omega)⟩
    ·exact ⟨(),Weak.mk (by refine Wt ?_;simp;omega)⟩
   ·intro _ _;refine Zg [] _ _ _ _ ?_;simp (disch:=first | omega | (simp only [ZH,Zw,Zn,Zx,ZC,ZK]<;>omega)) only [go_sem,seval,↓reduceIte]
    have e4:(48+((m.natAbs%10:Nat):Int)).toNat=48+m.natAbs%10:=Za
    refine ⟨(m.tdiv 10,UInt8.ofNat (48+m.natAbs%10)::s,decide (m.tdiv 10≠0)),⟨?_,?_,?_⟩,?_,Weak.mk ?_⟩
    ·omega
    ·simp only [Zl];intro hne
     have h10: ¬m.natAbs<10:=Za
     rw [e2,<- h1,dec.eq_def m.natAbs,dif_neg h10];simp
    ·simp only [XM,XU];intro hz
     have h10:m.natAbs<10:=Za
     rw [<- h1,dec.eq_def m.natAbs,dif_pos h10,BG h10];simp
    ·grind
    ·simp (disch:=omega) only [e4,go_sem,seval]
def pF (k:Nat) (f:Flt):Prop:=f.2.length<=k
theorem XR {P:Program} {id:Nat} {l:List Oper} {fr:List V} {H:List AM.Obj} {Q:Exit->List V->List AM.Obj->Prop} {t} (h:hs P (l.map (·.dst)) H (Zt (fun fr'=>Q .normal (idF fr') H) ⟨⟩) l (idF fr)) (hm:P.follows .mixedOrders=true:=by exact mixed) (hB:Vb (List.toArray l) l.length=true:=by kernel_rfl) (hR:Kt (List.toArray l) l.length=true:=by kernel_rfl):AWP P (.region id (Zt (List.toArray l) t) true) fr H Q:=Nl hm hB hR h
theorem aY (l:List Pt) (c:Bool) (hl:l.length<=1048576):ACalls Tryz.prog 227 [.p (.list c (l.map Gd))] [] fun x H'=> ∃m:List Flt,FR (pF 20) (WK l) (2*l.length+1) m/\x= .sl 0 0 m.length m.length/\H'= [.elems 2 (m.map eF)]:=by
 refine Z9 [2] Tryz.func227 rfl zO ?_;simp (disch:=omega) only [Tryz.f227,go_sem,seval];refine Zs (Weak.ofNil 3 2 (by simp (disch:=omega) only [go_sem,seval]) Zb (Weak.refl _ _ _)) ?_;refine ZJ [0] (fun m:List Flt=> [(3,.sl 0 0 m.length m.length)]) (fun m=> [.elems 2 (m.map eF)]) (fun m=>FR (pF 20) (1<=l.length/\l.length<=16) 1 m) ?_ ?_
 ·refine Wt ?_
  repeat' (first | (refine VI (fun hq=> ?_) (fun hq=> ?_)<;>(try simp only [Zl,XM,XU] at hq)<;>simp (disch:=omega) only [Sh.out hq,go_sem,seval]) | (refine gF ?_ ?_<;>intro hq<;>simp (disch:=omega) only [Sh.out hq,go_sem,seval,↓reduceIte]) | (refine cD ?_ ?_<;>intro hq<;>simp (disch:=omega) only [Sh.out hq,go_sem,seval,↓reduceIte]))
  ·exact ⟨[(4,[])],⟨Zb,by simp;omega,by simp [pF]⟩,wk⟩
  ·exact ⟨[(4,[])],⟨Zb,by simp;omega,by simp [pF]⟩,wk⟩
  ·exact ⟨[],FR.nil Za,wk⟩
 ·intro m hm;refine Zg [] _ _ _ _ (Wt ?_);refine Xe [8] [0] (fun q:Nat×List Flt=> [(3,.sl 0 0 q.2.length q.2.length),(4,.p (.int .i64 q.1))]) (fun q=> [.elems 2 (q.2.map eF)]) (fun q=>q.1<=l.length/\FR (pF 20) ((1<=l.length/\l.length<=16)/\ ∀j,j<q.1->gX l j) (2*q.1+1) q.2) (fun q=>l.length-q.1) (0,m) ⟨Zb,hm.to Zb Zb⟩ (Weak.mk ?_) ?_
  ·simp (disch:=omega) only [go_sem,seval,↓reduceIte]
  ·rintro ⟨k,m⟩ ⟨hk,hm⟩;simp only at hk hm;have hml:=hm.len;refine Wt ?_;refine cD ?_ ?_<;>intro h<;>simp (disch:=omega) only [Sh.out h,go_sem,seval,↓reduceIte]
   ·have hk2:k<l.length:=Za
    refine ZJ [0,4,5] (fun m:List Flt=> [(3,.sl 0 0 m.length m.length)]) (fun m=> [.elems 2 (m.map eF),.cells [.p (.int .i64 (nth l k).t),.p (.int .i64 (nth l k).a)]])
     (fun m=>FR (pF 20) (((1<=l.length/\l.length<=16)/\ ∀j,j<k->gX l j)/\(0<=(nth l k).t/\(nth l k).t<=4096/\(nth l k).t<=(nth l k).a/\(nth l k).a<=(nth l k).t+4096)) (2*k+1+1) m) ?_ ?_
    ·refine Wt ?_
     have hI:V9 (k:Int):=Za
     have hdl:=QL k hI
     repeat' (first | (refine VI (fun hq=> ?_) (fun hq=> ?_)<;>(try simp only [Zl,XM,XU] at hq)<;>simp (disch:=omega) only [Sh.out hq,go_sem,seval]) | (refine gF ?_ ?_<;>intro hq<;>simp (disch:=omega) only [Sh.out hq,go_sem,seval,↓reduceIte]) | (refine cD ?_ ?_<;>intro hq<;>simp (disch:=omega) only [Sh.out hq,go_sem,seval,↓reduceIte]))
     all_goals try exact ⟨m,hm.no Za,wk⟩
     all_goals
      refine (KQ k hI).use ?_;simp (disch:=omega) only [go_sem,seval,↓reduceIte];exact ⟨m++ [(2,Aq k)],hm.yes Za (by simp only [pF];omega),wk⟩
    ·intro m hm;have hml:=hm.len;refine Zg [] _ _ _ _ (Wt ?_)
     have hI:V9 (k:Int):=Za
     have hdl:=QL k hI;refine XR (Wt ?_)
     repeat' (first | (refine gT ?_ ?_<;>intro hq<;>simp (disch:=omega) only [Sh.out hq,go_sem,seval,↓reduceIte]) | (refine gF ?_ ?_<;>intro hq<;>simp (disch:=omega) only [Sh.out hq,go_sem,seval,↓reduceIte]) | (refine cD ?_ ?_<;>intro hq<;>simp (disch:=omega) only [Sh.out hq,go_sem,seval,↓reduceIte]))
     all_goals try exact ⟨(k+1,m),⟨by simp only;omega,(hm.no (c:=0<k->(nth l (k-1)).t<(nth l k).t/\(nth l (k-1)).a<=(nth l k).a) Za).to (by simp only;omega) (by simp only [Zm,gX,and_assoc])⟩,by simp only;omega,wk⟩
     all_goals
      refine (KQ k hI).use ?_;simp (disch:=omega) only [go_sem,seval,↓reduceIte];exact ⟨(k+1,m++ [(13,Aq k)]),⟨by simp only;omega,(hm.yes (c:=0<k->(nth l (k-1)).t<(nth l k).t/\(nth l (k-1)).a<=(nth l k).a) Za (by simp only [pF];omega)).to (by simp only;omega) (by simp only [Zm,gX,and_assoc])⟩,by simp only;omega,wk⟩
   ·have hkn:k=l.length:=Za
    subst hkn;exact ⟨m,hm.to Za (by rw [WK]),0,by simp (disch:=omega) only [go_sem,seval]⟩
set_option maxHeartbeats 8000000
theorem pF.mono {j k:Nat} (h:j<=k) {f:Flt} (hf:pF j f):pF k f:=K9 hf h
theorem FR.pmono {α:Type} {p q:α->Prop} {C:Prop} {b:Nat} {l:List α} (h:FR p C b l) (hp: ∀x,p x->q x):FR q C b l:=⟨h.len,h.emp,fun x hx=>hp x (h.all x hx)⟩
theorem ML (n:Int):PC 228 [.p (.int .i64 n)] (.bool (Iv n)):=by
 refine Zc Tryz.func228 rfl zP ?_;simp (disch:=omega) only [Tryz.f228,go_sem,seval]
 repeat' (first | (refine gT ?_ ?_<;>intro hq<;>simp (disch:=omega) only [Sh.out hq,go_sem,seval,↓reduceIte]) | (refine Us (fun hq=> ?_) (fun hq=> ?_)<;>(try simp only [Zl,XM,XU] at hq)<;>simp (disch:=omega) only [Sh.out hq,go_sem,seval]) | (refine Ja (fun hq=> ?_) (fun hq=> ?_)<;>(try simp only [Zl,XM,XU] at hq)<;>simp (disch:=omega) only [Sh.out hq,go_sem,seval]))
 all_goals (simp [Iv,rng];first | done | omega | (rw [YO];simp;omega))
def ZZ (n:Net):List AM.Obj:= [.cells [.p (.list n.places_c (n.places.map eS)),.p (.list n.arcs_c (n.arcs.map Ud))]]
theorem Dl {P Q:Prop} (h:Q) (e:Q->P:=by intro h;simp (disch:=omega) only [ZZ,go_sem,seval];exact h):P:=e h
theorem Nw (n:Net) (hp:n.places.length<=1048576) (hs: ∀s∈n.places,s.length<=1048576):ACalls Tryz.prog 170 [.p (Bo n)] [] fun x H'=> ∃m:List Flt,FR (pF 26) (Kq n) (n.places.length+1) m/\x= .sl 0 0 m.length m.length/\H'= [.elems 2 (m.map eF)]:=by
 refine Z9 [2] Tryz.func170 rfl yM ?_;simp (disch:=omega) only [Tryz.f170,go_sem,seval];refine Zs (Weak.ofNil 3 2 (by simp (disch:=omega) only [go_sem,seval]) Zb (Weak.refl _ _ _)) ?_;refine ZJ [1] (fun m:List Flt=> [(3,.sl 1 0 m.length m.length)]) (fun m=>ZZ n++ [.elems 2 (m.map eF)]) (fun m=>FR (pF 26) (n.places.length<=24) 1 m) ?_ ?_
 ·refine Wt ?_;refine ZN ?_ ?_<;>intro h
  ·exact ⟨[(4,[112,108,97,99,101,115])],⟨Zb,by simp;omega,by simp [pF]⟩,Weak.mk (by simp (disch:=omega) only [ZZ,go_sem,seval])⟩
  ·exact ⟨[],FR.nil Za,Weak.mk (by simp (disch:=omega) only [ZZ,go_sem,seval])⟩
 ·intro m hm;refine Zg [] _ _ _ _ (Dl ?_);refine Zk [1] (fun q:Nat×List Flt=> [(3,.sl 1 0 q.2.length q.2.length),(4,.p (.int .i64 q.1))]) (fun q=>ZZ n++ [.elems 2 (q.2.map eF)]) (fun q=>q.1<=n.places.length/\FR (pF 26) (n.places.length<=24/\ ∀j,j<q.1->N2 n j) (q.1+1) q.2) (fun q=>n.places.length-q.1) (0,m) ⟨Zb,hm.to Zb Zb⟩ (Weak.mk ?_) ?_
  ·simp (disch:=omega) only [ZZ,go_sem,seval]
  ·rintro ⟨k,m⟩ ⟨hk,hm⟩;simp only at hk hm;have hml:=hm.len;refine Dl ?_;refine cD ?_ ?_<;>intro h<;>simp (disch:=omega) only [Sh.out h,go_sem,seval,↓reduceIte]
   ·have hk2:k<n.places.length:=Za
    have hI:V9 (k:Int):=Za
    have hdl:=QL k hI;refine (KQ k hI).use (Wt ?_);simp (disch:=first | omega | (simp only [ZH,Zw,Zn,Zx,ZC,ZK]<;>omega)) only [go_sem,seval,↓reduceIte];refine (NT (nth n.places k) (hs _ (by grind [Ze]))).use (Wt ?_);refine ZN ?_ ?_<;>intro h2
    ·simp only [Xq] at h2;exact ⟨(k+1,m++ [(5,[112,108,97,99,101,32]++Aq k)]),⟨Za,(hm.yes (c:=N2 n k) (by rw [N2,h2];simp) (by simp [pF];omega)).to Zb (by grind)⟩,Za,wk⟩
    ·simp only [Xp] at h2;refine Zk [1,3,4,5] (fun q:Nat×Bool=> [(6,.p (.bool q.2)),(7,.p (.int .i64 q.1))]) (fun _=>ZZ n++ [.elems 2 (m.map eF)]) (fun q=>q.1<=k/\(q.2=false↔ ∀j,j<q.1->nth n.places j≠nth n.places k)) (fun q=>k-q.1) (0,false) Zb (Weak.mk ?_) ?_
     ·simp (disch:=omega) only [ZZ,go_sem,seval]
     ·rintro ⟨j,b⟩ ⟨hj,hb⟩;simp only at hj hb;refine Dl ?_;refine cD ?_ ?_<;>intro h3<;>simp (disch:=omega) only [Sh.out h3,go_sem,seval,↓reduceIte]
      ·refine Z4 14 mixed Zd Zd (Wt ?_)
       have hjn:j<n.places.length:=Za
       cases b with
       | true =>
        refine Wt ?_;exact ⟨(j+1,true),⟨Za,by grind⟩,Za,wk⟩
       | false =>
        refine Wt ?_;refine ⟨(j+1,decide (nth n.places j=nth n.places k)),⟨Za,by grind⟩,Za,wk⟩
      ·have hjk:j=k:=Za
       subst hjk
       cases b with
       | true =>
        refine Wt ?_
        have hno: ¬N2 n j:=fun h5=>by have:=hb.2 h5.2;cases this
        exact ⟨(j+1,m++ [(6,[112,108,97,99,101,32]++Aq j)]),⟨Za,(hm.yes (c:=N2 n j) hno (by simp [pF];omega)).to Zb (by grind)⟩,Za,wk⟩
       | false =>
        refine Wt ?_;exact ⟨(j+1,m),⟨Za,(hm.no (c:=N2 n j) ⟨h2,hb.1 rfl⟩).to Zb (by grind)⟩,Za,wk⟩
   ·have hkn:k=n.places.length:=Za
    subst hkn;exact ⟨m,hm.to Za (by rw [Kq]),1,by simp (disch:=omega) only [go_sem,seval]⟩
set_option maxHeartbeats 16000000
def ZdR (a:Arc):AM.Obj:= .cells [.p (.int .i64 a.src),.p (.int .i64 a.dst),.p (.int .i64 a.prof),.p (.int .i64 a.miles),.p (.list a.travel_c (a.travel.map Gd)),.p (.list a.slow_c (a.slow.map Gd))]
abbrev Wl (a b:Arc):Prop:=a.src=b.src/\a.dst=b.dst/\a.prof=b.prof
theorem Zdo {P Q:Prop} (h:Q) (e:Q->P:=by intro h;simp (disch:=omega) only [ZZ,ZdR,go_sem,seval];exact h):P:=e h
theorem mD (n:Net) (i:Nat) (hi:i<n.arcs.length) (hp:n.places.length<=1048576) (ha:n.arcs.length<=1048576) (ht:(nth n.arcs i).travel.length<=1048576) (hsl:(nth n.arcs i).slow.length<=1048576) :
  ACalls Tryz.prog 171 [.p (Bo n),.p (.int .i64 (i:Nat))] [] fun x H'=> ∃m:List Flt,FR (pF 26) (IP n i) 4000000 m/\x= .sl 0 0 m.length m.length/\H'= [.elems 2 (m.map eF)]:=by
 refine Z9 [4] Tryz.func171 rfl yN ?_;simp (disch:=omega) only [Tryz.f171,go_sem,seval]
 have hI:V9 (i:Int):=Za
 have hdl:=QL i hI;refine (KQ i hI).use (Wt ?_);simp (disch:=first | omega | (simp only [ZH,Zw,Zn,Zx,ZC,ZK]<;>omega)) only [go_sem,seval,↓reduceIte]
 have hat:(97::114::99::32::Aq i).length<=26:=by simp;omega
 generalize hga:nth n.arcs i=a at ht hsl ⊢;generalize 97::114::99::32::Aq i=at' at hat ⊢;refine Zs (Weak.ofNil 5 2 (by simp (disch:=omega) only [go_sem,seval]) Zb (Weak.refl _ _ _)) ?_;refine ZJ [1,2,6,7] (fun m:List Flt=> [(5,.sl 2 0 m.length m.length)]) (fun m=>ZZ n++ [ZdR a,.elems 2 (m.map eF)]) (fun m=>FR (pF 26) (0<=a.src/\a.src<n.places.length/\0<=a.dst/\a.dst<n.places.length) 1 m) ?_ ?_
 ·refine Wt ?_
  repeat' (first | (refine VI (fun hq=> ?_) (fun hq=> ?_)<;>(try simp only [Zl,XM,XU] at hq)<;>simp (disch:=omega) only [Sh.out hq,go_sem,seval]) | (refine gF ?_ ?_<;>intro hq<;>simp (disch:=omega) only [Sh.out hq,go_sem,seval]) | (refine cD ?_ ?_<;>intro hq<;>simp (disch:=omega) only [Sh.out hq,go_sem,seval]))
  all_goals try exact ⟨[],FR.nil Za,Weak.mk (by simp (disch:=omega) only [ZZ,ZdR,go_sem,seval])⟩
  all_goals exact ⟨[(11,at')],⟨Zb,by simp;omega,by simpa [pF] using hat⟩,Weak.mk (by simp (disch:=omega) only [ZZ,ZdR,go_sem,seval])⟩
 ·intro m hm;refine Zg [6] _ _ _ _ (Zdo ?_);have hml:=hm.len
  refine ZJ [1,2,6,7] (fun m:List Flt=> [(5,.sl 2 0 m.length m.length)]) (fun m=>ZZ n++ [ZdR a,.elems 2 (m.map eF)])
   (fun m=>FR (pF 26) ((0<=a.src/\a.src<n.places.length/\0<=a.dst/\a.dst<n.places.length)/\(0<=a.prof/\a.prof<=7/\0<=a.miles/\a.miles<=10000/\a.src≠a.dst)) 2 m) ?_ ?_
  ·refine Wt ?_
   repeat' (first | (refine VI (fun hq=> ?_) (fun hq=> ?_)<;>(try simp only [Zl,XM,XU] at hq)<;>simp (disch:=omega) only [Sh.out hq,go_sem,seval]) | (refine gF ?_ ?_<;>intro hq<;>simp (disch:=omega) only [Sh.out hq,go_sem,seval]) | (refine cD ?_ ?_<;>intro hq<;>simp (disch:=omega) only [Sh.out hq,go_sem,seval]))
   all_goals try exact ⟨m,hm.no Za,Weak.mk (by simp (disch:=omega) only [ZZ,ZdR,go_sem,seval])⟩
   all_goals exact ⟨m++ [(2,at')],hm.yes Za (by simpa [pF] using hat),Weak.mk (by simp (disch:=omega) only [ZZ,ZdR,go_sem,seval])⟩
  ·clear hm hml;intro m hm;refine Zg [14] _ _ _ _ (Zdo ?_);have hml:=hm.len;refine Xe [14] [1,2,5,6,7] (fun q:Nat×Bool=> [(8,.p (.bool q.2)),(9,.p (.int .i64 q.1))]) (fun _=>ZZ n++ [ZdR a,.elems 2 (m.map eF)]) (fun q=>q.1<=i/\(q.2=false↔ ∀j,j<q.1-> ¬Wl a (nth n.arcs j))) (fun q=>i-q.1) (0,false) Zb (Weak.mk ?_) ?_
   ·simp (disch:=omega) only [ZZ,ZdR,go_sem,seval]
   ·rintro ⟨k,b⟩ ⟨hk,hb⟩;simp only at hk hb;refine Zdo ?_;refine cD ?_ ?_<;>intro h<;>simp (disch:=omega) only [Sh.out h,go_sem,seval,↓reduceIte]
    ·have hkn:k<n.arcs.length:=Za
     cases b with
     | true =>
      refine Wt ?_;exact ⟨(k+1,true),⟨Za,by grind⟩,Za,wk⟩
     | false =>
      refine Wt ?_
      repeat' (first | (refine gT ?_ ?_<;>intro hq<;>simp (disch:=omega) only [Sh.out hq,go_sem,seval]) | (refine Us (fun hq=> ?_) (fun hq=> ?_)<;>(try simp only [Zl,XM,XU] at hq)<;>simp (disch:=omega) only [Sh.out hq,go_sem,seval]) | (refine Ja (fun hq=> ?_) (fun hq=> ?_)<;>(try simp only [Zl,XM,XU] at hq)<;>simp (disch:=omega) only [Sh.out hq,go_sem,seval]))
      all_goals refine ⟨(k+1,decide (Wl a (nth n.arcs k))),⟨by simp only;omega,by rw [Zm,<- hb];simp⟩,by simp only;omega,Weak.mk ?_⟩
      all_goals simp (disch:=omega) only [go_sem,seval]
      all_goals simp [Wl, *]
    ·have hki:k=i:=Za
     subst hki;have htw:(b=false↔ ∀j,j<k-> ¬Wl a (nth n.arcs j)):=hb;clear hb hk h
     refine ZJ [6,7] (fun m:List Flt=> [(5,.sl 2 0 m.length m.length)]) (fun m=>ZZ n++ [ZdR a,.elems 2 (m.map eF)])
      (fun m=>FR (pF 26) (((0<=a.src/\a.src<n.places.length/\0<=a.dst/\a.dst<n.places.length)/\(0<=a.prof/\a.prof<=7/\0<=a.miles/\a.miles<=10000/\a.src≠a.dst))/\ ∀j,j<k-> ¬Wl a (nth n.arcs j)) 3 m) ?_ ?_
     ·refine Wt ?_
      cases b with
      | true =>
       refine Wt ?_;exact ⟨m++ [(6,at')],hm.yes (by grind) (by grind [pF]),Weak.mk (by simp (disch:=omega) only [ZZ,ZdR,go_sem,seval])⟩
      | false =>
       refine Wt ?_;exact ⟨m,hm.no (htw.1 rfl),Weak.mk (by simp (disch:=omega) only [ZZ,ZdR,go_sem,seval])⟩
     ·clear hm hml;intro m hm;refine Zg [21] _ _ _ _ (Zdo ?_);have hml:=hm.len;refine ((aY a.travel a.travel_c ht).frozenE).useV fun lt hlt=>Wt ?_;have hltl:=hlt.len
      refine Xe [21] [6,7,11] (fun q:Nat×List Flt=> [(5,.sl 2 0 q.2.length q.2.length),(12,.p (.int .i64 q.1))]) (fun q=>ZZ n++ [ZdR a,.elems 2 (q.2.map eF)])
       (fun q=>q.1<=lt.length/\FR (pF 26) ((((0<=a.src/\a.src<n.places.length/\0<=a.dst/\a.dst<n.places.length)/\(0<=a.prof/\a.prof<=7/\0<=a.miles/\a.miles<=10000/\a.src≠a.dst))/\ ∀j,j<k-> ¬Wl a (nth n.arcs j))/\q.1=0) (3+q.1) q.2) (fun q=>lt.length-q.1) (0,m) ⟨Zb,hm.to Zb Zb⟩ (Weak.mk ?_) ?_
      ·simp (disch:=omega) only [ZZ,ZdR,go_sem,seval]
      ·clear hm hml;rintro ⟨j,m⟩ ⟨hj,hm⟩;simp only at hj hm;have hml:=hm.len;refine Zdo ?_;refine ZN ?_ ?_<;>intro h
       ·have hj2:j<lt.length:=Za
        exact ⟨(j+1,m++ [((nth lt j).1,at')]),⟨Za,(hm.yes (c:=False) Zb (by grind [pF])).to Za Zb⟩,Za,wk⟩
       ·have hjl:j=lt.length:=Za
        subst hjl;have hm2:=hm.to (d:=3+lt.length) (D:=(((0<=a.src/\a.src<n.places.length/\0<=a.dst/\a.dst<n.places.length)/\(0<=a.prof/\a.prof<=7/\0<=a.miles/\a.miles<=10000/\a.src≠a.dst))/\ ∀j,j<k-> ¬Wl a (nth n.arcs j))/\WK a.travel) (Xf _) (by rw [<- hlt.emp,List.eq_nil_iff_length_eq_zero]);clear hm
        refine ZJ [6,7] (fun m:List Flt=> [(5,.sl 2 0 m.length m.length)]) (fun m=>ZZ n++ [ZdR a,.elems 2 (m.map eF)])
         (fun m=>FR (pF 26) (((((0<=a.src/\a.src<n.places.length/\0<=a.dst/\a.dst<n.places.length)/\(0<=a.prof/\a.prof<=7/\0<=a.miles/\a.miles<=10000/\a.src≠a.dst))/\ ∀j,j<k-> ¬Wl a (nth n.arcs j))/\WK a.travel)/\a.slow.length<=16) (4+lt.length) m) ?_ ?_
        ·refine Wt ?_;refine ZN ?_ ?_<;>intro h2
         ·exact ⟨m++ [(4,at')],(hm2.yes Za (by grind [pF])).to Za Iff.rfl,Weak.mk (by simp (disch:=omega) only [ZZ,ZdR,go_sem,seval])⟩
         ·exact ⟨m,(hm2.no Za).to Za Iff.rfl,Weak.mk (by simp (disch:=omega) only [ZZ,ZdR,go_sem,seval])⟩
        ·clear hm2 hml h hj;intro m hm;refine Zg [] _ _ _ _ (Zdo ?_)
         refine Zk [6,7] (fun q:Nat×List Flt=> [(5,.sl 2 0 q.2.length q.2.length),(13,.p (.int .i64 q.1))]) (fun q=>ZZ n++ [ZdR a,.elems 2 (q.2.map eF)])
          (fun q=>q.1<=a.slow.length/\FR (pF 26) ((((((0<=a.src/\a.src<n.places.length/\0<=a.dst/\a.dst<n.places.length)/\(0<=a.prof/\a.prof<=7/\0<=a.miles/\a.miles<=10000/\a.src≠a.dst))/\ ∀j,j<k-> ¬Wl a (nth n.arcs j))/\WK a.travel)/\a.slow.length<=16)/\ ∀j,j<q.1->KA a.slow j) (4+lt.length+q.1) q.2) (fun q=>a.slow.length-q.1) (0,m) ⟨Zb,hm.to Zb Zb⟩ (Weak.mk ?_) ?_
         ·simp (disch:=omega) only [ZZ,ZdR,go_sem,seval]
         ·clear hm;rintro ⟨j,m⟩ ⟨hj,hm⟩;simp only at hj hm;have hml:=hm.len;refine Zdo ?_;refine cD ?_ ?_<;>intro h<;>simp (disch:=omega) only [Sh.out h,go_sem,seval,↓reduceIte]
          ·have hj2:j<a.slow.length:=Za
           refine XR (Wt ?_);refine Zp (ML (nth a.slow j).t) (Wt ?_);have hslo:KA a.slow j↔(Iv (nth a.slow j).t=true/\Iv (nth a.slow j).a=true/\(0<j->(nth a.slow (j-1)).t<(nth a.slow j).t)):=Iff.rfl;have hyes: ¬KA a.slow j->_:=fun hs=>(hm.yes (x:=(2,at')) hs (by grind [pF])).to (D:=(((((0<=a.src/\a.src<n.places.length/\0<=a.dst/\a.dst<n.places.length)/\(0<=a.prof/\a.prof<=7/\0<=a.miles/\a.miles<=10000/\a.src≠a.dst))/\ ∀j,j<k-> ¬Wl a (nth n.arcs j))/\WK a.travel)/\a.slow.length<=16)/\ ∀i,i<j+1->KA a.slow i) (d:=4+lt.length+(j+1)) Za (by grind)
           have hno:KA a.slow j->_:=fun hs=>(hm.no hs).to (D:=(((((0<=a.src/\a.src<n.places.length/\0<=a.dst/\a.dst<n.places.length)/\(0<=a.prof/\a.prof<=7/\0<=a.miles/\a.miles<=10000/\a.src≠a.dst))/\ ∀j,j<k-> ¬Wl a (nth n.arcs j))/\WK a.travel)/\a.slow.length<=16)/\ ∀i,i<j+1->KA a.slow i) (d:=4+lt.length+(j+1)) Za (by grind)
           cases ht1:Iv (nth a.slow j).t with
           | false =>
            refine Wt ?_;exact ⟨(j+1,m++ [(2,at')]),⟨Za,hyes (by grind)⟩,Za,wk⟩
           | true =>
            refine Wt ?_;refine Zp (ML (nth a.slow j).a) (Wt ?_)
            cases ht2:Iv (nth a.slow j).a with
            | false =>
             refine Wt ?_;exact ⟨(j+1,m++ [(2,at')]),⟨Za,hyes (by grind)⟩,Za,wk⟩
            | true =>
             refine Wt ?_
             repeat' (first | (refine gT ?_ ?_<;>intro hq<;>simp (disch:=omega) only [Sh.out hq,go_sem,seval]) | (refine Us (fun hq=> ?_) (fun hq=> ?_)<;>(try simp only [Zl,XM,XU] at hq)<;>simp (disch:=omega) only [Sh.out hq,go_sem,seval]) | (refine cD ?_ ?_<;>intro hq<;>simp (disch:=omega) only [Sh.out hq,go_sem,seval]))
             ·exact ⟨(j+1,m++ [(2,at')]),⟨Za,hyes (by grind)⟩,Za,wk⟩
             ·exact ⟨(j+1,m),⟨Za,hno (by grind)⟩,Za,wk⟩
             ·exact ⟨(j+1,m),⟨Za,hno (by grind)⟩,Za,wk⟩
          ·have hjn:j=a.slow.length:=Za
           subst hjn;exact ⟨m,hm.to Za (by rw [IP,hga]),2,by simp (disch:=omega) only [go_sem,seval]⟩
theorem Zq {α:Type} [Inhabited α] {l:List α} {i:Nat} (h:i<l.length):nth l i∈l:=by grind [Ze]
theorem vZ (n:Net) (hw:n.wf 1048576):ACalls Tryz.prog 126 [.p (Bo n)] [] fun x H'=> ∃m:List Flt,FR (pF 26) (netOk n) 4194306000000 m/\x= .sl 0 0 m.length m.length/\H'= [.elems 2 (m.map eF)]:=by
 obtain ⟨w1,w2,w3,w4⟩:=hw;refine Z9 [2] Tryz.func126 rfl xJ ?_;simp (disch:=omega) only [Tryz.f126,go_sem,seval];refine (Nw n w1 w2).useE fun m hm=>Wt ?_;have hml:=hm.len;refine ZJ [1] (fun m:List Flt=> [(3,.sl 1 0 m.length m.length)]) (fun m=>ZZ n++ [.elems 2 (m.map eF)]) (fun m=>FR (pF 26) (Kq n/\n.arcs.length<=1024) (n.places.length+2) m) ?_ ?_
 ·refine Wt ?_;refine ZN ?_ ?_<;>intro h
  ·exact ⟨m++ [(4,[97,114,99,115])],hm.yes Za (by simp [pF]),Weak.mk (by simp (disch:=omega) only [ZZ,go_sem,seval])⟩
  ·exact ⟨m,hm.no Za,Weak.mk (by simp (disch:=omega) only [ZZ,go_sem,seval])⟩
 ·clear hm hml;intro m hm;refine Zg [] _ _ _ _ (Dl ?_);refine Zk [1] (fun q:Nat×List Flt=> [(3,.sl 1 0 q.2.length q.2.length),(4,.p (.int .i64 q.1))]) (fun q=>ZZ n++ [.elems 2 (q.2.map eF)]) (fun q=>q.1<=n.arcs.length/\FR (pF 26) ((Kq n/\n.arcs.length<=1024)/\ ∀j,j<q.1->IP n j) (n.places.length+2+q.1*4000000) q.2) (fun q=>n.arcs.length-q.1) (0,m) ⟨Zb,hm.to Zb Zb⟩ (Weak.mk ?_) ?_
  ·simp (disch:=omega) only [ZZ,go_sem,seval]
  ·clear hm;rintro ⟨k,m⟩ ⟨hk,hm⟩;simp only at hk hm;have hml:=hm.len;refine Dl ?_;refine cD ?_ ?_<;>intro h<;>simp (disch:=omega) only [Sh.out h,go_sem,seval,↓reduceIte]
   ·have hk2:k<n.arcs.length:=Za
    have ha:=w4 _ (Zq hk2);refine (mD n k hk2 w1 w3 ha.2.2.2.2.1 ha.2.2.2.2.2.2.1).useE fun f hf=>Wt ?_;have hfl:=hf.len
    have q1:(m.length+f.length)*24<=140737488355328:=Za
    have q2:m.length+f.length<=140737488355328:=Za
    simp (disch:=omega) only [q1,q2,go_sem,seval];refine ⟨(k+1,m++f),⟨Za,(hm.app hf).to Za (by grind)⟩,Za,Weak.mk ?_⟩;simp (disch:=omega) only [Zn,X0,go_sem,seval]
   ·have hkn:k=n.arcs.length:=Za
    subst hkn;exact ⟨m,hm.to Za (by rw [netOk]),1,by simp (disch:=omega) only [go_sem,seval]⟩
theorem Vc (n lo hi:Int):PC 172 [.p (.int .i64 n),.p (.int .i64 lo),.p (.int .i64 hi)] (.bool (rng n lo hi)):=by
 refine Zc Tryz.func172 rfl yO ?_;simp (disch:=omega) only [Tryz.f172,go_sem,seval];refine gT ?_ ?_<;>intro h<;>simp (disch:=omega) only [Sh.out h,go_sem,seval,↓reduceIte]
 all_goals (simp [rng];first | done | omega | (rw [YO];simp;omega))
def Uz (l:List Int) (d:Int):Bool:=rng l.length 1 3&&decide ((l.length:Int)=d)&&l.all fun n=>rng n 0 1000
theorem Nu (l:List Int) (c:Bool) (d:Int) (hl:l.length<=1048576):PC 230 [.p (.list c (l.map eI)),.p (.int .i64 d)] (.bool (Uz l d)):=by
 refine Zc Tryz.func230 rfl zR ?_;simp (disch:=omega) only [Tryz.f230,go_sem,seval];refine (Vc l.length 1 3).use (Wt ?_);refine gF ?_ ?_<;>intro h<;>simp (disch:=omega) only [Sh.out h,go_sem,seval,↓reduceIte]
 ·grind [Uz]
 ·simp only [Xp] at h;refine cD ?_ ?_<;>intro h2<;>simp (disch:=omega) only [Sh.out h2,go_sem,seval]
  ·simp [Uz,h,h2]
  ·simp only [XU] at h2;subst h2;refine Zk [0] (fun k:Nat=> [(5,.p (.int .i64 k))]) (fun _=> []) (fun k=>k<=l.length/\ ∀j,j<k->rng (nth l j) 0 1000=true) (fun k=>l.length-k) 0 Zb (Weak.mk ?_) ?_
   ·simp (disch:=omega) only [go_sem,seval,↓reduceIte]
   ·rintro k ⟨hk,hno⟩;refine Wt ?_;refine cD ?_ ?_<;>intro h3<;>simp (disch:=omega) only [Sh.out h3,go_sem,seval,↓reduceIte]
    ·have hk2:k<l.length:=Za
     refine (Vc (nth l k) 0 1000).use (Wt ?_);refine cD ?_ ?_<;>intro h4<;>simp (disch:=omega) only [Sh.out h4,go_sem,seval,↓reduceIte]
     ·grind [Zq,Uz]
     ·simp only [Xp] at h4;exact ⟨k+1,⟨Za,Zm.2 ⟨hno,h4⟩⟩,Za,wk⟩
    ·have:l.all (fun n=>rng n 0 1000)=true:=by
      rw [Zv];intro x hx;obtain ⟨j,hj,rfl⟩:=ZP.1 hx
      grind [Ze]
     grind [Uz]
def NP (l:List Typ) (i:Nat) (s:List UInt8):Bool:=(List.range i).any fun j=>decide ((nth l j).name=s)
theorem Ug {l:List Typ} {i:Nat} {s:List UInt8} :NP l i s=false↔ ∀j,j<i->(nth l j).name≠s:=by
 grind [NP]
theorem Sn (l:List Typ) (c:Bool) (i:Nat) (s:List UInt8) (hi:i<=l.length) (hl:l.length<=1048576):PC 229 [.p (.list c (l.map Uf)),.p (.int .i64 (i:Nat)),.p (.str s)] (.bool (NP l i s)):=by
 refine Zc Tryz.func229 rfl zQ ?_;simp (disch:=omega) only [Tryz.f229,go_sem,seval];refine Zk [0,1,2] (fun k:Nat=> [(7,.p (.int .i64 k))]) (fun _=> []) (fun k=>k<=i/\ ∀j,j<k->(nth l j).name≠s) (fun k=>i-k) 0 Zb (Weak.mk ?_) ?_
 ·simp (disch:=omega) only [go_sem,seval,↓reduceIte]
 ·rintro k ⟨hk,hno⟩;refine Wt ?_;refine cD ?_ ?_<;>intro h3<;>simp (disch:=omega) only [Sh.out h3,go_sem,seval,↓reduceIte]
  ·have hk2:k<l.length:=Za
   refine cD ?_ ?_<;>intro h4<;>simp (disch:=omega) only [Sh.out h4,go_sem,seval,↓reduceIte]
   ·grind [Ug]
   ·exact ⟨k+1,⟨Za,Zm.2 ⟨hno,h4⟩⟩,Za,wk⟩
  grind [Ug]
def dimsOf (l:List Typ):Int:=if l.length=0 then 0 else ((nth l 0).cap.length:Int)
theorem Ld (l:List Typ) (c:Bool) (hl:l.length<=1048576):PC 129 [.p (.list c (l.map Uf))] (.int .i64 (dimsOf l)):=by
 refine Zc Tryz.func129 rfl xM ?_;simp (disch:=omega) only [Tryz.f129,go_sem,seval];refine cD ?_ ?_<;>intro h<;>simp (disch:=omega) only [Sh.out h,go_sem,seval,↓reduceIte]
 ·grind [dimsOf]
 ·have h0:0<l.length:=Za
  have h1:l.length≠0:=Za
  simp (disch:=first | omega | (simp only [ZH,Zw,Zn,Zx,ZC,ZK]<;>omega)) only [dimsOf,h1,go_sem,seval,↓reduceIte]
def Ym (t:Typ):AM.Obj:= .cells [.p (.str t.name),.p (.int .i64 t.count),.p (.int .i64 t.src),.p (.int .i64 t.dst),.p (.list t.cap_c (t.cap.map eI)),.p (.int .i64 t.skills),.p (.int .i64 t.prof),.p (.int .i64 t.opn),.p (.int .i64 t.cls),.p (.int .i64 t.drive),.p (.int .i64 t.rest),.p (.int .i64 t.fixed),.p (.int .i64 t.perMile),.p (.int .i64 t.perTick)]
def AG (n:Net) (l:List Typ) (i:Nat):Prop:=((((((((nameOk (nth l i).name=true)/\(∀j,j<i->(nth l j).name≠(nth l i).name))/\rng (nth l i).count 0 10=true)/\(rng (nth l i).src 0 (n.places.length-1)=true/\rng (nth l i).dst 0 (n.places.length-1)=true))/\Uz (nth l i).cap (dimsOf l)=true)/\rng (nth l i).skills 0 1073741823=true)/\(rng (nth l i).opn 0 (nth l i).cls=true/\(nth l i).cls<=4096))/\(rng (nth l i).drive 1 4096=true/\rng (nth l i).rest 0 4096=true))/\(rng (nth l i).prof 0 7=true/\rng (nth l i).fixed 0 100000=true/\rng (nth l i).perMile 0 100=true/\rng (nth l i).perTick 0 100=true)
theorem MG {P Q:Prop} (h:Q) (e:Q->P:=by intro h;simp (disch:=omega) only [ZZ,Ym,go_sem,seval];exact h):P:=e h
theorem S8 (n:Net) (l:List Typ) (c:Bool) (i:Nat) (hi:i<l.length) (hl:l.length<=1048576) (hw:n.wf 1048576) (ht:(nth l i).wf 1048576) :
  ACalls Tryz.prog 173 [.p (Bo n),.p (.list c (l.map Uf)),.p (.int .i64 (i:Nat))] [] fun x H'=> ∃m:List Int,FR (fun _=>True) (AG n l i) 9 m/\x= .sl 0 0 m.length m.length/\H'= [.elems 1 (m.map eI)]:=by
 obtain ⟨w1,w2,w3,w4⟩:=hw;refine Z9 [3] Tryz.func173 rfl yP ?_;simp (disch:=omega) only [Tryz.f173,go_sem,seval];have hty:AG n l i↔((((((((nameOk (nth l i).name=true)/\(∀j,j<i->(nth l j).name≠(nth l i).name))/\rng (nth l i).count 0 10=true)/\(rng (nth l i).src 0 (n.places.length-1)=true/\rng (nth l i).dst 0 (n.places.length-1)=true))/\Uz (nth l i).cap (dimsOf l)=true)/\rng (nth l i).skills 0 1073741823=true)/\(rng (nth l i).opn 0 (nth l i).cls=true/\(nth l i).cls<=4096))/\(rng (nth l i).drive 1 4096=true/\rng (nth l i).rest 0 4096=true))/\(rng (nth l i).prof 0 7=true/\rng (nth l i).fixed 0 100000=true/\rng (nth l i).perMile 0 100=true/\rng (nth l i).perTick 0 100=true):=Iff.rfl
 generalize hga:nth l i=t at ht hty ⊢;have hname:=ht.1;have hcap:=ht.2.2.2.2.1;refine Zs (Weak.ofNil 8 1 (by simp (disch:=omega) only [go_sem,seval]) Zb (Weak.refl _ _ _)) ?_;refine ZJ [1,2,3,7] (fun m:List Int=> [(8,.sl 2 0 m.length m.length)]) (fun m=>ZZ n++ [Ym t,.elems 1 (m.map eI)]) (fun m=>FR (fun _=>True) (nameOk t.name=true) 1 m) ?_ ?_
 ·refine Wt ?_;refine (NT t.name hname).use (Wt ?_);refine ZN ?_ ?_<;>intro h0
  ·simp only [Xq] at h0;exact ⟨[5],⟨Zb,by simp [h0],Zb⟩,Weak.mk (by simp (disch:=omega) only [ZZ,Ym,go_sem,seval])⟩
  ·simp only [Xp] at h0;exact ⟨[],FR.nil (by simp [h0]),Weak.mk (by simp (disch:=omega) only [ZZ,Ym,go_sem,seval])⟩
 ·skip
  intro m hm;refine Zg [5] _ _ _ _ (MG ?_);have hml:=hm.len;refine ZJ [1,3,7] (fun m:List Int=> [(8,.sl 2 0 m.length m.length)]) (fun m=>ZZ n++ [Ym t,.elems 1 (m.map eI)]) (fun m=>FR (fun _=>True) ((nameOk t.name=true)/\(∀j,j<i->(nth l j).name≠t.name)) 2 m) ?_ ?_
  ·refine Wt ?_;refine (Sn l c i t.name Za hl).use (Wt ?_);refine ZN ?_ ?_<;>intro h
   ·exact ⟨m++ [6],hm.yes (by grind [Ug]) trivial,Weak.mk (by simp (disch:=omega) only [ZZ,Ym,go_sem,seval])⟩
   ·exact ⟨m,hm.no (by exact Ug.1 h),Weak.mk (by simp (disch:=omega) only [ZZ,Ym,go_sem,seval])⟩
  ·clear hm hml;intro m hm;refine Zg [7] _ _ _ _ (MG ?_);have hml:=hm.len;refine ZJ [1,3,7] (fun m:List Int=> [(8,.sl 2 0 m.length m.length)]) (fun m=>ZZ n++ [Ym t,.elems 1 (m.map eI)]) (fun m=>FR (fun _=>True) (((nameOk t.name=true)/\(∀j,j<i->(nth l j).name≠t.name))/\rng t.count 0 10=true) 3 m) ?_ ?_
   ·refine Wt ?_;refine (Vc t.count 0 10).use (Wt ?_);refine ZN ?_ ?_<;>intro h0
    ·simp only [Xq] at h0;exact ⟨m++ [22],hm.yes (by simp [h0]) trivial,Weak.mk (by simp (disch:=omega) only [ZZ,Ym,go_sem,seval])⟩
    ·simp only [Xp] at h0;exact ⟨m,hm.no (by simp [h0]),Weak.mk (by simp (disch:=omega) only [ZZ,Ym,go_sem,seval])⟩
   ·clear hm hml;intro m hm;refine Zg [9] _ _ _ _ (MG ?_);have hml:=hm.len;refine ZJ [1,7] (fun m:List Int=> [(8,.sl 2 0 m.length m.length)]) (fun m=>ZZ n++ [Ym t,.elems 1 (m.map eI)]) (fun m=>FR (fun _=>True) ((((nameOk t.name=true)/\(∀j,j<i->(nth l j).name≠t.name))/\rng t.count 0 10=true)/\(rng t.src 0 (n.places.length-1)=true/\rng t.dst 0 (n.places.length-1)=true)) 4 m) ?_ ?_
    ·refine Wt ?_;refine (Vc t.src 0 (n.places.length-1)).use (Wt ?_);refine Cw ?_ ?_<;>intro h0
     ·simp only [Xq] at h0;exact ⟨m++ [11],hm.yes (by simp [h0]) trivial,Weak.mk (by simp (disch:=omega) only [ZZ,Ym,go_sem,seval])⟩
     ·simp only [Xp] at h0;refine (Vc t.dst 0 (n.places.length-1)).use (Wt ?_);refine ZN ?_ ?_<;>intro h1
      ·simp only [Xq] at h1;exact ⟨m++ [11],hm.yes (by simp [h1]) trivial,Weak.mk (by simp (disch:=omega) only [ZZ,Ym,go_sem,seval])⟩
      ·simp only [Xp] at h1;exact ⟨m,hm.no (by simp [h0,h1]),Weak.mk (by simp (disch:=omega) only [ZZ,Ym,go_sem,seval])⟩
    ·clear hm hml;intro m hm;refine Zg [11] _ _ _ _ (MG ?_);have hml:=hm.len;refine ZJ [7] (fun m:List Int=> [(8,.sl 2 0 m.length m.length)]) (fun m=>ZZ n++ [Ym t,.elems 1 (m.map eI)]) (fun m=>FR (fun _=>True) (((((nameOk t.name=true)/\(∀j,j<i->(nth l j).name≠t.name))/\rng t.count 0 10=true)/\(rng t.src 0 (n.places.length-1)=true/\rng t.dst 0 (n.places.length-1)=true))/\Uz t.cap (dimsOf l)=true) 5 m) ?_ ?_
     ·refine Wt ?_;refine XR (Wt ?_);refine Zp (Ld l c hl) (Wt ?_);refine Zp (Nu t.cap t.cap_c (dimsOf l) hcap) (Wt ?_);refine ZN ?_ ?_<;>intro h
      ·simp only [Xq] at h;exact ⟨m++ [17],hm.yes (by simp [h]) trivial,Weak.mk (by simp (disch:=omega) only [ZZ,Ym,go_sem,seval])⟩
      ·simp only [Xp] at h;exact ⟨m,hm.no (by simp [h]),Weak.mk (by simp (disch:=omega) only [ZZ,Ym,go_sem,seval])⟩
     ·clear hm hml;intro m hm;refine Zg [13] _ _ _ _ (MG ?_);have hml:=hm.len;refine ZJ [7] (fun m:List Int=> [(8,.sl 2 0 m.length m.length)]) (fun m=>ZZ n++ [Ym t,.elems 1 (m.map eI)]) (fun m=>FR (fun _=>True) ((((((nameOk t.name=true)/\(∀j,j<i->(nth l j).name≠t.name))/\rng t.count 0 10=true)/\(rng t.src 0 (n.places.length-1)=true/\rng t.dst 0 (n.places.length-1)=true))/\Uz t.cap (dimsOf l)=true)/\rng t.skills 0 1073741823=true) 6 m) ?_ ?_
      ·refine Wt ?_;refine (Vc t.skills 0 1073741823).use (Wt ?_);refine ZN ?_ ?_<;>intro h0
       ·simp only [Xq] at h0;exact ⟨m++ [18],hm.yes (by simp [h0]) trivial,Weak.mk (by simp (disch:=omega) only [ZZ,Ym,go_sem,seval])⟩
       ·simp only [Xp] at h0;exact ⟨m,hm.no (by simp [h0]),Weak.mk (by simp (disch:=omega) only [ZZ,Ym,go_sem,seval])⟩
      ·clear hm hml;intro m hm;refine Zg [15] _ _ _ _ (MG ?_);have hml:=hm.len;refine ZJ [7] (fun m:List Int=> [(8,.sl 2 0 m.length m.length)]) (fun m=>ZZ n++ [Ym t,.elems 1 (m.map eI)]) (fun m=>FR (fun _=>True) (((((((nameOk t.name=true)/\(∀j,j<i->(nth l j).name≠t.name))/\rng t.count 0 10=true)/\(rng t.src 0 (n.places.length-1)=true/\rng t.dst 0 (n.places.length-1)=true))/\Uz t.cap (dimsOf l)=true)/\rng t.skills 0 1073741823=true)/\(rng t.opn 0 t.cls=true/\t.cls<=4096)) 7 m) ?_ ?_
       ·refine Wt ?_;refine (Vc t.opn 0 t.cls).use (Wt ?_);refine Cw ?_ ?_<;>intro h0
        ·simp only [Xq] at h0;exact ⟨m++ [15],hm.yes (by simp [h0]) trivial,Weak.mk (by simp (disch:=omega) only [ZZ,Ym,go_sem,seval])⟩
        ·simp only [Xp] at h0;refine ZN ?_ ?_<;>intro h1
         ·exact ⟨m++ [15],hm.yes Za trivial,Weak.mk (by simp (disch:=omega) only [ZZ,Ym,go_sem,seval])⟩
         ·exact ⟨m,hm.no (by grind),Weak.mk (by simp (disch:=omega) only [ZZ,Ym,go_sem,seval])⟩
       ·clear hm hml;intro m hm;refine Zg [17] _ _ _ _ (MG ?_);have hml:=hm.len;refine ZJ [7] (fun m:List Int=> [(8,.sl 2 0 m.length m.length)]) (fun m=>ZZ n++ [Ym t,.elems 1 (m.map eI)]) (fun m=>FR (fun _=>True) ((((((((nameOk t.name=true)/\(∀j,j<i->(nth l j).name≠t.name))/\rng t.count 0 10=true)/\(rng t.src 0 (n.places.length-1)=true/\rng t.dst 0 (n.places.length-1)=true))/\Uz t.cap (dimsOf l)=true)/\rng t.skills 0 1073741823=true)/\(rng t.opn 0 t.cls=true/\t.cls<=4096))/\(rng t.drive 1 4096=true/\rng t.rest 0 4096=true)) 8 m) ?_ ?_
        ·refine Wt ?_;refine (Vc t.drive 1 4096).use (Wt ?_);refine Cw ?_ ?_<;>intro h0
         ·simp only [Xq] at h0;exact ⟨m++ [16],hm.yes (by simp [h0]) trivial,Weak.mk (by simp (disch:=omega) only [ZZ,Ym,go_sem,seval])⟩
         ·simp only [Xp] at h0;refine (Vc t.rest 0 4096).use (Wt ?_);refine ZN ?_ ?_<;>intro h1
          ·simp only [Xq] at h1;exact ⟨m++ [16],hm.yes (by simp [h1]) trivial,Weak.mk (by simp (disch:=omega) only [ZZ,Ym,go_sem,seval])⟩
          ·simp only [Xp] at h1;exact ⟨m,hm.no (by simp [h0,h1]),Weak.mk (by simp (disch:=omega) only [ZZ,Ym,go_sem,seval])⟩
        ·clear hm hml;intro m hm;refine Zg [19] _ _ _ _ (MG ?_);have hml:=hm.len;refine ZJ [] (fun m:List Int=> [(8,.sl 2 0 m.length m.length)]) (fun m=>ZZ n++ [Ym t,.elems 1 (m.map eI)]) (fun m=>FR (fun _=>True) (((((((((nameOk t.name=true)/\(∀j,j<i->(nth l j).name≠t.name))/\rng t.count 0 10=true)/\(rng t.src 0 (n.places.length-1)=true/\rng t.dst 0 (n.places.length-1)=true))/\Uz t.cap (dimsOf l)=true)/\rng t.skills 0 1073741823=true)/\(rng t.opn 0 t.cls=true/\t.cls<=4096))/\(rng t.drive 1 4096=true/\rng t.rest 0 4096=true))/\(rng t.prof 0 7=true/\rng t.fixed 0 100000=true/\rng t.perMile 0 100=true/\rng t.perTick 0 100=true)) 9 m) ?_ ?_
         ·refine Wt ?_;refine (Vc t.prof 0 7).use (Wt ?_);refine gF ?_ ?_<;>intro h0<;>simp (disch:=omega) only [Sh.out h0,go_sem,seval,↓reduceIte]
          ·simp only [Xq] at h0;exact ⟨m++ [2],hm.yes (by simp [h0]) trivial,Weak.mk (by simp (disch:=omega) only [ZZ,Ym,go_sem,seval])⟩
          ·simp only [Xp] at h0;refine (Vc t.fixed 0 100000).use (Wt ?_);refine gF ?_ ?_<;>intro h1<;>simp (disch:=omega) only [Sh.out h1,go_sem,seval,↓reduceIte]
           ·simp only [Xq] at h1;exact ⟨m++ [2],hm.yes (by simp [h1]) trivial,Weak.mk (by simp (disch:=omega) only [ZZ,Ym,go_sem,seval])⟩
           ·simp only [Xp] at h1;refine (Vc t.perMile 0 100).use (Wt ?_);refine gF ?_ ?_<;>intro h2<;>simp (disch:=omega) only [Sh.out h2,go_sem,seval,↓reduceIte]
            ·simp only [Xq] at h2;exact ⟨m++ [2],hm.yes (by simp [h2]) trivial,Weak.mk (by simp (disch:=omega) only [ZZ,Ym,go_sem,seval])⟩
            ·simp only [Xp] at h2;refine (Vc t.perTick 0 100).use (Wt ?_);refine cD ?_ ?_<;>intro h3<;>simp (disch:=omega) only [Sh.out h3,go_sem,seval,↓reduceIte]
             ·simp only [Xq] at h3;exact ⟨m++ [2],hm.yes (by simp [h3]) trivial,Weak.mk (by simp (disch:=omega) only [ZZ,Ym,go_sem,seval])⟩
             ·simp only [Xp] at h3;exact ⟨m,hm.no (by grind),Weak.mk (by simp (disch:=omega) only [ZZ,Ym,go_sem,seval])⟩
         ·clear hm hml;intro m hm;refine Zg [] _ _ _ _ (MG ?_);have hml:=hm.len;exact ⟨m,hm.to Za (by rw [hty]),2,by simp (disch:=omega) only [go_sem,seval]⟩
def typesOk (n:Net) (l:List Typ):Prop:=rng l.length 1 6=true/\ ∀i,i<l.length->AG n l i
theorem wA (n:Net) (l:List Typ) (c:Bool) (hw:n.wf 1048576) (hl:l.length<=1048576) (hlw: ∀t∈l,t.wf 1048576) :
  ACalls Tryz.prog 127 [.p (Bo n),.p (.list c (l.map Uf))] [] fun x H'=> ∃m:List Flt,FR (pF 20) (typesOk n l) (1+9*l.length) m/\x= .sl 0 0 m.length m.length/\H'= [.elems 2 (m.map eF)]:=by
 refine Z9 [2] Tryz.func127 rfl xK ?_;simp (disch:=omega) only [Tryz.f127,go_sem,seval];refine Zs (Weak.ofNil 5 2 (by simp (disch:=omega) only [go_sem,seval]) Zb (Weak.refl _ _ _)) ?_;refine ZJ [1,2] (fun m:List Flt=> [(5,.sl 1 0 m.length m.length)]) (fun m=>ZZ n++ [.elems 2 (m.map eF)]) (fun m=>FR (pF 20) (rng l.length 1 6=true) 1 m) ?_ ?_
 ·refine Wt ?_;refine (Vc l.length 1 6).use (Wt ?_);refine ZN ?_ ?_<;>intro h
  ·simp only [Xq] at h;exact ⟨[(4,[])],⟨Zb,by simp [h],by simp [pF]⟩,Weak.mk (by simp (disch:=omega) only [ZZ,go_sem,seval])⟩
  ·simp only [Xp] at h;exact ⟨[],FR.nil h,Weak.mk (by simp (disch:=omega) only [ZZ,go_sem,seval])⟩
 ·intro m hm;refine Zg [] _ _ _ _ (Dl ?_);refine Zk [1,2] (fun q:Nat×List Flt=> [(5,.sl 1 0 q.2.length q.2.length),(6,.p (.int .i64 q.1))]) (fun q=>ZZ n++ [.elems 2 (q.2.map eF)]) (fun q=>q.1<=l.length/\FR (pF 20) (rng l.length 1 6=true/\ ∀j,j<q.1->AG n l j) (1+9*q.1) q.2) (fun q=>l.length-q.1) (0,m) ⟨Zb,hm.to Zb Zb⟩ (Weak.mk ?_) ?_
  ·simp (disch:=omega) only [ZZ,go_sem,seval]
  ·clear hm;rintro ⟨k,m⟩ ⟨hk,hm⟩;simp only at hk hm;have hml:=hm.len;refine Dl ?_;refine cD ?_ ?_<;>intro h<;>simp (disch:=omega) only [Sh.out h,go_sem,seval,↓reduceIte]
   ·have hk2:k<l.length:=Za
    have hI:V9 (k:Int):=Za
    have hdl:=QL k hI;refine ((S8 n l c k hk2 hl hw (hlw _ (Zq hk2))).frozenE).useV fun e he=>Wt ?_;have hel:=he.len;refine Zk [1,2,6,7] (fun q:Nat×List Flt=> [(5,.sl 1 0 q.2.length q.2.length),(8,.p (.int .i64 q.1))]) (fun q=>ZZ n++ [.elems 2 (q.2.map eF)]) (fun q=>q.1<=e.length/\FR (pF 20) ((rng l.length 1 6=true/\ ∀j,j<k->AG n l j)/\q.1=0) (1+9*k+q.1) q.2) (fun q=>e.length-q.1) (0,m) ⟨Zb,hm.to Zb Zb⟩ (Weak.mk ?_) ?_
    ·simp (disch:=omega) only [ZZ,go_sem,seval]
    ·clear hm hml;rintro ⟨j,m⟩ ⟨hj,hm⟩;simp only at hj hm;have hml:=hm.len;refine Dl ?_;refine ZN ?_ ?_<;>intro h2
     ·have hj2:j<e.length:=Za
      refine Z4 9 mixed Zd Zd (Wt ?_);refine Zp (KQ k hI) (Wt ?_);exact ⟨(j+1,m++ [(nth e j,Aq k)]),⟨Za,(hm.yes (c:=False) Zb (by grind [pF])).to Za Zb⟩,Za,wk⟩
     ·have hjl:j=e.length:=Za
      subst hjl;exact ⟨(k+1,m),⟨Za,hm.to Za (by simp only [Zm,and_assoc];rw [<- he.emp,List.eq_nil_iff_length_eq_zero])⟩,Za,wk⟩
   ·have hkn:k=l.length:=Za
    subst hkn;exact ⟨m,hm.to Za (by rw [typesOk]),1,by simp (disch:=omega) only [go_sem,seval]⟩
theorem ED (n lo hi:Int):PC 232 [.p (.int .i64 n),.p (.int .i64 lo),.p (.int .i64 hi)] (.bool (rng n lo hi)):=by
 refine Zc Tryz.func232 rfl zT ?_;simp (disch:=omega) only [Tryz.f232,go_sem,seval];refine gT ?_ ?_<;>intro h<;>simp (disch:=omega) only [Sh.out h,go_sem,seval,↓reduceIte]
 all_goals (simp [rng];first | done | omega | (rw [YO];simp;omega))
def loadOk (l:List Int) (d:Int):Bool:=decide ((l.length:Int)=d)&&l.all fun n=>rng n 0 1000
theorem SY (l:List Int) (c:Bool) (d:Int) (hl:l.length<=1048576):PC 231 [.p (.list c (l.map eI)),.p (.int .i64 d)] (.bool (loadOk l d)):=by
 refine Zc Tryz.func231 rfl zS ?_;simp (disch:=omega) only [Tryz.f231,go_sem,seval];refine cD ?_ ?_<;>intro h2<;>simp (disch:=omega) only [Sh.out h2,go_sem,seval]
 ·simp [loadOk,h2]
 ·simp only [XU] at h2;subst h2;refine Zk [0] (fun k:Nat=> [(5,.p (.int .i64 k))]) (fun _=> []) (fun k=>k<=l.length/\ ∀j,j<k->rng (nth l j) 0 1000=true) (fun k=>l.length-k) 0 Zb (Weak.mk ?_) ?_
  ·simp (disch:=omega) only [go_sem,seval,↓reduceIte]
  ·rintro k ⟨hk,hno⟩;refine Wt ?_;refine cD ?_ ?_<;>intro h3<;>simp (disch:=omega) only [Sh.out h3,go_sem,seval,↓reduceIte]
   ·have hk2:k<l.length:=Za
    have hbad:rng (nth l k) 0 1000=false->loadOk l l.length=false:=fun h4=>by
     grind [Zq,loadOk]
    repeat' (first | (refine VI (fun hq=> ?_) (fun hq=> ?_)<;>(try simp only [Zl,XM,XU] at hq)<;>simp (disch:=omega) only [Sh.out hq,go_sem,seval]) | (refine gF ?_ ?_<;>intro hq<;>simp (disch:=omega) only [Sh.out hq,go_sem,seval,↓reduceIte]) | (refine cD ?_ ?_<;>intro hq<;>simp (disch:=omega) only [Sh.out hq,go_sem,seval,↓reduceIte]))
    all_goals first
     | (rw [hbad (by simp [rng];omega)])
     | exact ⟨k+1,⟨Za,Zm.2 ⟨hno,by simp [rng];omega⟩⟩,Za,wk⟩
   ·have:l.all (fun n=>rng n 0 1000)=true:=by
     rw [Zv];intro x hx;obtain ⟨j,hj,rfl⟩:=ZP.1 hx
     grind [Ze]
    simp [loadOk,this]
def stpOk (s:Stp):Bool:=decide ((s.place= -1/\s.opn=0/\s.cls=0/\s.serv=0)\/(0<=s.place/\0<=s.opn/\s.opn<=s.cls/\s.cls<=4096/\0<=s.serv/\s.serv<=4096))
def Tm (s:Stp):Int:=if stpOk s=true then 0 else 2
theorem aZ (s:Stp):PC 233 [.p (Ep s)] (.int .i64 (Tm s)):=by
 refine Zc Tryz.func233 rfl zU ?_;simp (disch:=omega) only [Tryz.f233,go_sem,seval]
 repeat' (first | (refine gT ?_ ?_<;>intro hq<;>simp (disch:=omega) only [Sh.out hq,go_sem,seval,↓reduceIte]) | (refine gF ?_ ?_<;>intro hq<;>simp (disch:=omega) only [Sh.out hq,go_sem,seval,↓reduceIte]) | (refine cD ?_ ?_<;>intro hq<;>simp (disch:=omega) only [Sh.out hq,go_sem,seval,↓reduceIte]))
 all_goals (simp only [Tm,stpOk,Zl])
 all_goals first
  | (exfalso;omega)
  | (rw [if_pos Za])
  | (rw [if_neg Za])
def UQ (l:List Ord) (i:Nat):Bool:=(List.range i).all fun j=>decide ((nth l j).name≠(nth l i).name)
theorem Kl {l:List Ord} {i:Nat} :UQ l i=true↔ ∀j,j<i->(nth l j).name≠(nth l i).name:=by simp [UQ]
def W1 (b:Bool) (e:Int):List Int:=if b=true then [] else [e]
theorem Ul (b:Bool) (e:Int):(W1 b e).length<=1:=by grind [W1]
theorem Qe {b:Bool} {e:Int} {m p:List Int} (h:m=p) (hb:b=true):m=p++W1 b e:=by simp [W1,hb,h]
theorem V3 {b:Bool} {e:Int} {m p:List Int} (h:m=p) (hb:b=false):m++ [e]=p++W1 b e:=by simp [W1,hb,h]
def YH (t:Ord):AM.Obj:= .cells [.p (.str t.name),.p (.list t.load_c (t.load.map eI)),.p (.int .i64 t.pick.place),.p (.int .i64 t.pick.opn),.p (.int .i64 t.pick.cls),.p (.int .i64 t.pick.serv),.p (.int .i64 t.drp.place),.p (.int .i64 t.drp.opn),.p (.int .i64 t.drp.cls),.p (.int .i64 t.drp.serv),.p (.int .i64 t.skills),.p (.int .i64 t.penalty),.p (.int .i64 t.split),.p (.int .i64 t.last),.p (.int .i64 t.now),.p (.bool t.off)]
def Hx (t:Ord):Bool:=decide (t.pick.place≠ -1)&&decide (t.drp.place≠ -1)
def argOk (t:Ord) (ty:Int):Bool:=rng t.penalty (-1) 1000000&&rng t.split 1 4&&decide (¬(1<t.split/\Hx t=true)/\ -1<=t.last/\t.last<ty/\ -1<=t.now/\t.now<ty)
def YV (np:Nat) (d ty:Int) (l:List Ord) (i:Nat):List Int:=W1 (nameOk (nth l i).name) 5++W1 (UQ l i) 6++W1 (loadOk (nth l i).load d) 17++W1 ((rng (nth l i).pick.place (-1) ((np:Int)-1)&&rng (nth l i).drp.place (-1) ((np:Int)-1))) 11++W1 (decide (¬((nth l i).pick.place= -1/\(nth l i).drp.place= -1))) 19++W1 ((stpOk (nth l i).pick&&stpOk (nth l i).drp)) 14++W1 (rng (nth l i).skills 0 1073741823) 18++W1 (argOk (nth l i) ty) 2
theorem BS (np:Nat) (d ty:Int) (l:List Ord) (i:Nat):(YV np d ty l i).length<=8:=by
 grind [Ul,YV,Zn]
theorem GW {P Q:Prop} (h:Q) (e:Q->P:=by intro h;simp (disch:=omega) only [YH,go_sem,seval];exact h):P:=e h
theorem S9 (np:Nat) (d ty:Int) (l:List Ord) (c:Bool) (i:Nat) (hi:i<l.length) (hl:l.length<=1048576) (hnp:np<=1048576) (ht:(nth l i).wf 1048576) :
  ACalls Tryz.prog 175 [.p (.int .i64 (np:Nat)),.p (.int .i64 d),.p (.int .i64 ty),.p (.list c (l.map eOrd)),.p (.int .i64 (i:Nat))] [] fun x H'=>x= .sl 0 0 (YV np d ty l i).length (YV np d ty l i).length/\H'= [.elems 1 ((YV np d ty l i).map eI)]:=by
 suffices hh:ACalls Tryz.prog 175 [.p (.int .i64 (np:Nat)),.p (.int .i64 d),.p (.int .i64 ty),.p (.list c (l.map eOrd)),.p (.int .i64 (i:Nat))] [] fun x H'=> ∃m:List Int,m=YV np d ty l i/\x= .sl 0 0 m.length m.length/\H'= [.elems 1 (m.map eI)] by
  grind
 refine Z9 [3] Tryz.func175 rfl yR ?_;simp (disch:=omega) only [Tryz.f175,go_sem,seval];have hty:YV np d ty l i=W1 (nameOk (nth l i).name) 5++W1 (UQ l i) 6++W1 (loadOk (nth l i).load d) 17++W1 ((rng (nth l i).pick.place (-1) ((np:Int)-1)&&rng (nth l i).drp.place (-1) ((np:Int)-1))) 11++W1 (decide (¬((nth l i).pick.place= -1/\(nth l i).drp.place= -1))) 19++W1 ((stpOk (nth l i).pick&&stpOk (nth l i).drp)) 14++W1 (rng (nth l i).skills 0 1073741823) 18++W1 (argOk (nth l i) ty) 2:=rfl
 have hleng: ∀m:List Int,∀p:List Int,m=p->p.length<=8->m.length<=8:=fun m p h1 h2=>by grind
 generalize hga:nth l i=t at ht hty ⊢;have hname:=ht.1;have hload:=ht.2.1;refine Zs (Weak.ofNil 11 1 (by simp (disch:=omega) only [go_sem,seval]) Zb (Weak.refl _ _ _)) ?_;refine ZJ [0,1,2,3,4,12] (fun m:List Int=> [(11,.sl 1 0 m.length m.length)]) (fun m=> [YH t,.elems 1 (m.map eI)]) (fun m=>m=W1 (nameOk t.name) 5) ?_ ?_
 ·refine Wt ?_;refine (NT t.name hname).use (Wt ?_);refine cD ?_ ?_<;>intro h<;>simp (disch:=omega) only [Sh.out h,go_sem,seval,↓reduceIte]
  ·simp only [Xq] at h;exact ⟨[5],by simp [W1,h],Weak.mk (by simp (disch:=omega) only [YH,go_sem,seval])⟩
  ·simp only [Xp] at h;exact ⟨[],by simp [W1,h],Weak.mk (by simp (disch:=omega) only [YH,go_sem,seval])⟩
 ·skip
  intro m hm;refine Zg [5] _ _ _ _ (GW ?_)
  have hml:m.length<=8:=by
   grind [Ul]
  refine ZJ [0,1,2,12] (fun m:List Int=> [(11,.sl 1 0 m.length m.length)]) (fun m=> [YH t,.elems 1 (m.map eI)]) (fun m=>m=W1 (nameOk t.name) 5++W1 (UQ l i) 6) ?_ ?_
  ·refine Wt ?_;refine Zk [0,1,2,3,4,11,12] (fun k:Nat=> [(13,.p (.int .i64 k))]) (fun _=> [YH t,.elems 1 (m.map eI)]) (fun k=>k<=i/\ ∀j,j<k->(nth l j).name≠(nth l i).name) (fun k=>i-k) 0 Zb (Weak.mk ?_) ?_
   ·simp (disch:=omega) only [YH,go_sem,seval,↓reduceIte]
   ·rintro k ⟨hk,hno⟩;refine GW ?_;refine cD ?_ ?_<;>intro h3<;>simp (disch:=omega) only [Sh.out h3,go_sem,seval,↓reduceIte]
    ·have hk2:k<l.length:=Za
     refine XR (Wt ?_);refine ZN ?_ ?_<;>intro h4
     ·exact ⟨m++ [6],V3 hm (by grind [Kl]),wk⟩
     ·exact ⟨k+1,⟨Za,Zm.2 ⟨hno,by grind⟩⟩,Za,wk⟩
    ·have hki:k=i:=Za
     subst hki;exact ⟨m,Qe hm (Kl.2 hno),wk⟩
  ·clear hm hml;intro m hm;refine Zg [10] _ _ _ _ (GW ?_)
   have hml:m.length<=8:=by
    grind [Ul]
   refine ZJ [0,2,12] (fun m:List Int=> [(11,.sl 1 0 m.length m.length)]) (fun m=> [YH t,.elems 1 (m.map eI)]) (fun m=>m=W1 (nameOk t.name) 5++W1 (UQ l i) 6++W1 (loadOk t.load d) 17) ?_ ?_
   ·refine Wt ?_;refine (SY t.load t.load_c d hload).use (Wt ?_);refine cD ?_ ?_<;>intro h<;>simp (disch:=omega) only [Sh.out h,go_sem,seval,↓reduceIte]
    ·simp only [Xq] at h;exact ⟨m++ [17],V3 hm (h),Weak.mk (by simp (disch:=omega) only [YH,go_sem,seval])⟩
    ·simp only [Xp] at h;exact ⟨m,Qe hm (h),Weak.mk (by simp (disch:=omega) only [YH,go_sem,seval])⟩
   ·clear hm hml;intro m hm;refine Zg [12] _ _ _ _ (GW ?_)
    have hml:m.length<=8:=by
     grind [Zn,Ul]
    refine ZJ [2,12] (fun m:List Int=> [(11,.sl 1 0 m.length m.length)]) (fun m=> [YH t,.elems 1 (m.map eI)]) (fun m=>m=W1 (nameOk t.name) 5++W1 (UQ l i) 6++W1 (loadOk t.load d) 17++W1 ((rng t.pick.place (-1) ((np:Int)-1)&&rng t.drp.place (-1) ((np:Int)-1))) 11) ?_ ?_
    ·refine Wt ?_;refine (ED t.pick.place (-1) ((np:Int)-1)).use (Wt ?_);refine Cw ?_ ?_<;>intro h
     ·simp only [Xq] at h;exact ⟨m++ [11],V3 hm (by simp [h]),Weak.mk (by simp (disch:=omega) only [YH,go_sem,seval])⟩
     ·simp only [Xp] at h;refine (ED t.drp.place (-1) ((np:Int)-1)).use (Wt ?_);refine ZN ?_ ?_<;>intro h2
      ·simp only [Xq] at h2;exact ⟨m++ [11],V3 hm (by simp [h2]),Weak.mk (by simp (disch:=omega) only [YH,go_sem,seval])⟩
      ·simp only [Xp] at h2;exact ⟨m,Qe hm (by simp [h,h2]),Weak.mk (by simp (disch:=omega) only [YH,go_sem,seval])⟩
    ·clear hm hml;intro m hm;refine Zg [14] _ _ _ _ (GW ?_)
     have hml:m.length<=8:=by
      grind [Zn,Ul]
     refine ZJ [2,12] (fun m:List Int=> [(11,.sl 1 0 m.length m.length)]) (fun m=> [YH t,.elems 1 (m.map eI)]) (fun m=>m=W1 (nameOk t.name) 5++W1 (UQ l i) 6++W1 (loadOk t.load d) 17++W1 ((rng t.pick.place (-1) ((np:Int)-1)&&rng t.drp.place (-1) ((np:Int)-1))) 11++W1 (decide (¬(t.pick.place= -1/\t.drp.place= -1))) 19) ?_ ?_
     ·refine Wt ?_
      repeat' (first | (refine gT ?_ ?_<;>intro hq<;>simp (disch:=omega) only [Sh.out hq,go_sem,seval]) | (refine Us (fun hq=> ?_) (fun hq=> ?_)<;>(try simp only [Zl,XM,XU] at hq)<;>simp (disch:=omega) only [Sh.out hq,go_sem,seval]) | (refine cD ?_ ?_<;>intro hq<;>simp (disch:=omega) only [Sh.out hq,go_sem,seval]))
      all_goals first
       | exact ⟨m++ [19],V3 hm (by first | (simp;done) | (simp;omega)),Weak.mk (by simp (disch:=omega) only [YH,go_sem,seval])⟩
       | exact ⟨m,Qe hm (by first | (simp;done) | (simp;omega)),Weak.mk (by simp (disch:=omega) only [YH,go_sem,seval])⟩
     ·clear hm hml;intro m hm;refine Zg [16] _ _ _ _ (GW ?_)
      have hml:m.length<=8:=by
       grind [Zn,Ul]
      refine ZJ [2,12] (fun m:List Int=> [(11,.sl 1 0 m.length m.length)]) (fun m=> [YH t,.elems 1 (m.map eI)]) (fun m=>m=W1 (nameOk t.name) 5++W1 (UQ l i) 6++W1 (loadOk t.load d) 17++W1 ((rng t.pick.place (-1) ((np:Int)-1)&&rng t.drp.place (-1) ((np:Int)-1))) 11++W1 (decide (¬(t.pick.place= -1/\t.drp.place= -1))) 19++W1 ((stpOk t.pick&&stpOk t.drp)) 14) ?_ ?_
      ·refine Wt ?_;refine (aZ t.pick).use (Wt ?_)
       cases h:stpOk t.pick with
       | false =>
        simp (disch:=omega) only [Tm,h,go_sem,seval];exact ⟨m++ [14],V3 hm (by simp []),Weak.mk (by simp (disch:=omega) only [YH,go_sem,seval])⟩
       | true =>
        simp (disch:=omega) only [Tm,h,go_sem,seval];refine (aZ t.drp).use (Wt ?_)
        cases h2:stpOk t.drp with
        | false =>
         simp (disch:=omega) only [Tm,h2,go_sem,seval];exact ⟨m++ [14],V3 hm (by simp []),Weak.mk (by simp (disch:=omega) only [YH,go_sem,seval])⟩
        | true =>
         simp (disch:=omega) only [Tm,h2,go_sem,seval];exact ⟨m,Qe hm (by simp []),Weak.mk (by simp (disch:=omega) only [YH,go_sem,seval])⟩
      ·clear hm hml;intro m hm;refine Zg [18] _ _ _ _ (GW ?_)
       have hml:m.length<=8:=by
        grind [Zn,Ul]
       refine ZJ [2,12] (fun m:List Int=> [(11,.sl 1 0 m.length m.length)]) (fun m=> [YH t,.elems 1 (m.map eI)]) (fun m=>m=W1 (nameOk t.name) 5++W1 (UQ l i) 6++W1 (loadOk t.load d) 17++W1 ((rng t.pick.place (-1) ((np:Int)-1)&&rng t.drp.place (-1) ((np:Int)-1))) 11++W1 (decide (¬(t.pick.place= -1/\t.drp.place= -1))) 19++W1 ((stpOk t.pick&&stpOk t.drp)) 14++W1 (rng t.skills 0 1073741823) 18) ?_ ?_
       ·refine Wt ?_;refine (ED t.skills 0 1073741823).use (Wt ?_);refine ZN ?_ ?_<;>intro h
        ·simp only [Xq] at h;exact ⟨m++ [18],V3 hm (h),Weak.mk (by simp (disch:=omega) only [YH,go_sem,seval])⟩
        ·simp only [Xp] at h;exact ⟨m,Qe hm (h),Weak.mk (by simp (disch:=omega) only [YH,go_sem,seval])⟩
       ·clear hm hml;intro m hm;refine Zg [20] _ _ _ _ (GW ?_)
        have hml:m.length<=8:=by
         grind [Zn,Ul]
        refine ZJ [2,11,12] (fun b:Bool=> [(14,.p (.bool b))]) (fun _=> [YH t,.elems 1 (m.map eI)]) (fun b=>b=Hx t) ?_ ?_
        ·refine Wt ?_
         repeat' (first | (refine VI (fun hq=> ?_) (fun hq=> ?_)<;>(try simp only [Zl,XM,XU] at hq)<;>simp (disch:=omega) only [Sh.out hq,go_sem,seval]) | (refine Us (fun hq=> ?_) (fun hq=> ?_)<;>(try simp only [Zl,XM,XU] at hq)<;>simp (disch:=omega) only [Sh.out hq,go_sem,seval]) | (refine Ja (fun hq=> ?_) (fun hq=> ?_)<;>(try simp only [Zl,XM,XU] at hq)<;>simp (disch:=omega) only [Sh.out hq,go_sem,seval]))
         all_goals refine ⟨Hx t,rfl,Weak.mk ?_⟩
         all_goals (simp (disch:=omega) only [YH,go_sem,seval];simp [Hx, *])
        ·rintro b hb;refine Zg [21] _ _ _ _ (GW ?_);refine ZJ [] (fun m:List Int=> [(11,.sl 1 0 m.length m.length)]) (fun m=> [YH t,.elems 1 (m.map eI)]) (fun m=>m=W1 (nameOk t.name) 5++W1 (UQ l i) 6++W1 (loadOk t.load d) 17++W1 ((rng t.pick.place (-1) ((np:Int)-1)&&rng t.drp.place (-1) ((np:Int)-1))) 11++W1 (decide (¬(t.pick.place= -1/\t.drp.place= -1))) 19++W1 ((stpOk t.pick&&stpOk t.drp)) 14++W1 (rng t.skills 0 1073741823) 18++W1 (argOk t ty) 2) ?_ ?_
         ·refine Wt ?_;refine (ED t.penalty (-1) 1000000).use (Wt ?_);refine gF ?_ ?_<;>intro h<;>simp (disch:=omega) only [Sh.out h,go_sem,seval,↓reduceIte]
          ·simp only [Xq] at h;exact ⟨m++ [2],V3 hm (by simp [argOk,h]),Weak.mk (by simp (disch:=omega) only [YH,go_sem,seval])⟩
          ·simp only [Xp] at h;refine (ED t.split 1 4).use (Wt ?_);refine gF ?_ ?_<;>intro h2<;>simp (disch:=omega) only [Sh.out h2,go_sem,seval,↓reduceIte]
           ·simp only [Xq] at h2;exact ⟨m++ [2],V3 hm (by simp [argOk,h2]),Weak.mk (by simp (disch:=omega) only [YH,go_sem,seval])⟩
           ·simp only [Xp] at h2
            cases b with
            | true =>
             repeat' (first | (refine gT ?_ ?_<;>intro hq<;>simp (disch:=omega) only [Sh.out hq,go_sem,seval,↓reduceIte]) | (refine gF ?_ ?_<;>intro hq<;>simp (disch:=omega) only [Sh.out hq,go_sem,seval,↓reduceIte]) | (refine cD ?_ ?_<;>intro hq<;>simp (disch:=omega) only [Sh.out hq,go_sem,seval,↓reduceIte]))
             all_goals first
              | exact ⟨m++ [2],V3 hm (by rw [argOk,<- hb];first | (simp;done) | (simp;omega)),Weak.mk (by simp (disch:=omega) only [YH,go_sem,seval])⟩
              | exact ⟨m,Qe hm (by grind [argOk]),Weak.mk (by simp (disch:=omega) only [YH,go_sem,seval])⟩
            | false =>
             repeat' (first | (refine gT ?_ ?_<;>intro hq<;>simp (disch:=omega) only [Sh.out hq,go_sem,seval,↓reduceIte]) | (refine gF ?_ ?_<;>intro hq<;>simp (disch:=omega) only [Sh.out hq,go_sem,seval,↓reduceIte]) | (refine cD ?_ ?_<;>intro hq<;>simp (disch:=omega) only [Sh.out hq,go_sem,seval,↓reduceIte]))
             all_goals first
              | exact ⟨m++ [2],V3 hm (by rw [argOk,<- hb];first | (simp;done) | (simp;omega)),Weak.mk (by simp (disch:=omega) only [YH,go_sem,seval])⟩
              | exact ⟨m,Qe hm (by rw [argOk,<- hb,h,h2];first | (simp;done) | (simp;omega)),Weak.mk (by simp (disch:=omega) only [YH,go_sem,seval])⟩
         ·clear hm hml;intro m hm;refine Zg [] _ _ _ _ (GW ?_)
          have hml:m.length<=8:=by
           grind [Zn,Ul]
          exact ⟨m,by rw [hm,hty],1,by simp (disch:=omega) only [go_sem,seval]⟩
def XT (np:Nat) (d ty:Int) (l:List Ord) (k:Nat):List Flt:=(if l.length<=10 then [] else [(4,[])])++(List.range k).flatMap fun i=>(YV np d ty l i).map fun e=>(e,Aq i)
theorem BU (np:Nat) (d ty:Int) (l:List Ord) (k:Nat):XT np d ty l (k+1)=XT np d ty l k++(YV np d ty l k).map fun e=>(e,Aq k):=by
 simp [XT,Yx]
theorem Qc (np:Nat) (d ty:Int) (l:List Ord): ∀k,(XT np d ty l k).length<=1+8*k
 | 0=>by simp [XT];grind
 | k+1=>by
  have h1:=Qc np d ty l k;have h2:=BS np d ty l k;rw [BU];simp;omega
theorem wB (n:Net) (d ty:Int) (l:List Ord) (c:Bool) (hw:n.wf 1048576) (hl:l.length<=1048576) (hlw: ∀t∈l,t.wf 1048576) :
  ACalls Tryz.prog 128 [.p (Bo n),.p (.int .i64 d),.p (.int .i64 ty),.p (.list c (l.map eOrd))] [] fun x H'=>x= .sl 0 0 (XT n.places.length d ty l l.length).length (XT n.places.length d ty l l.length).length/\H'= [.elems 2 ((XT n.places.length d ty l l.length).map eF)]:=by
 obtain ⟨w1,w2,w3,w4⟩:=hw
 suffices hh:ACalls Tryz.prog 128 [.p (Bo n),.p (.int .i64 d),.p (.int .i64 ty),.p (.list c (l.map eOrd))] [] fun x H'=> ∃m:List Flt,m=XT n.places.length d ty l l.length/\x= .sl 0 0 m.length m.length/\H'= [.elems 2 (m.map eF)] by
  grind
 refine Z9 [2] Tryz.func128 rfl xL ?_;simp (disch:=omega) only [Tryz.f128,go_sem,seval];refine Zs (Weak.ofNil 9 2 (by simp (disch:=omega) only [go_sem,seval]) Zb (Weak.refl _ _ _)) ?_;refine ZJ [1,2,3,4] (fun m:List Flt=> [(9,.sl 1 0 m.length m.length)]) (fun m=>ZZ n++ [.elems 2 (m.map eF)]) (fun m=>m=XT n.places.length d ty l 0) ?_ ?_
 ·refine Wt ?_;refine ZN ?_ ?_<;>intro h
  ·exact ⟨[(4,[])],by rw [XT,if_neg Za];rfl,Weak.mk (by simp (disch:=omega) only [ZZ,go_sem,seval])⟩
  ·exact ⟨[],by rw [XT,if_pos Za];rfl,Weak.mk (by simp (disch:=omega) only [ZZ,go_sem,seval])⟩
 ·intro m hm;refine Zg [] _ _ _ _ (Dl ?_);refine Zk [1,2,3,4] (fun q:Nat×List Flt=> [(9,.sl 1 0 q.2.length q.2.length),(10,.p (.int .i64 q.1))]) (fun q=>ZZ n++ [.elems 2 (q.2.map eF)]) (fun q=>q.1<=l.length/\q.2=XT n.places.length d ty l q.1) (fun q=>l.length-q.1) (0,m) ⟨Zb,hm⟩ (Weak.mk ?_) ?_
  ·simp (disch:=omega) only [ZZ,go_sem,seval]
  ·clear hm;rintro ⟨k,m⟩ ⟨hk,hm⟩;simp only at hk hm;have hml:=Qc n.places.length d ty l k;rw [<- hm] at hml;refine Dl ?_;refine cD ?_ ?_<;>intro h<;>simp (disch:=omega) only [Sh.out h,go_sem,seval,↓reduceIte]
   ·have hk2:k<l.length:=Za
    have hI:V9 (k:Int):=Za
    have hrl:=BS n.places.length d ty l k;refine ((S9 n.places.length d ty l c k hk2 hl w1 (hlw _ (Zq hk2))).frozen Zb).use (Wt ?_);generalize hre:YV n.places.length d ty l k=e at hrl ⊢;refine Zk [1,2,3,4,10,11] (fun q:Nat×List Flt=> [(9,.sl 1 0 q.2.length q.2.length),(12,.p (.int .i64 q.1))]) (fun q=>ZZ n++ [.elems 2 (q.2.map eF)]) (fun q=>q.1<=e.length/\q.2=XT n.places.length d ty l k++(e.take q.1).map fun e=>(e,Aq k)) (fun q=>e.length-q.1) (0,m) ⟨Zb,by simp [hm]⟩ (Weak.mk ?_) ?_
    ·simp (disch:=omega) only [ZZ,go_sem,seval]
    ·clear hm hml;rintro ⟨j,m⟩ ⟨hj,hm⟩;simp only at hj hm;have hml:=Qc n.places.length d ty l k
     have hml2:m.length<=1+8*k+8:=by grind
     refine Dl ?_;refine ZN ?_ ?_<;>intro h2
     ·have hj2:j<e.length:=Za
      refine Z4 9 mixed Zd Zd (Wt ?_);refine Zp (KQ k hI) (Wt ?_);refine ⟨(j+1,m++ [(nth e j,Aq k)]),⟨Za,?_⟩,Za,wk⟩
      grind [Xo,Ze]
     ·have hjl:j=e.length:=Za
      subst hjl;refine ⟨(k+1,m),⟨Za,?_⟩,Za,wk⟩
      grind [BU]
   ·have hkn:k=l.length:=Za
    subst hkn;exact ⟨m,hm,1,by simp (disch:=omega) only [go_sem,seval]⟩
structure OrdOk (np:Nat) (d ty:Int) (l:List Ord) (i:Nat):Prop where
 name:nameOk (nth l i).name=true
 twin: ∀j,j<i->(nth l j).name≠(nth l i).name
 load:loadOk (nth l i).load d=true
 pick: -1<=(nth l i).pick.place/\(nth l i).pick.place<np
 drp: -1<=(nth l i).drp.place/\(nth l i).drp.place<np
 one: ¬((nth l i).pick.place= -1/\(nth l i).drp.place= -1)
 pstp:stpOk (nth l i).pick=true
 dstp:stpOk (nth l i).drp=true
 skills:0<=(nth l i).skills/\(nth l i).skills<=1073741823
 arg:argOk (nth l i) ty=true
theorem pK {b:Bool} {e:Int} :W1 b e= []↔b=true:=by grind [W1]
theorem H9 {np:Nat} {d ty:Int} {l:List Ord} {i:Nat} :YV np d ty l i= []↔OrdOk np d ty l i:=by
 simp only [YV,Qs,pK,ZO,Zl,rng,Kl]
 constructor
 ·rintro ⟨⟨⟨⟨⟨⟨⟨a1,a2⟩,a3⟩,a4⟩,a5⟩,a6⟩,a7⟩,a8⟩;exact ⟨a1,a2,a3,Za,Za,a5,a6.1,a6.2,a7,a8⟩
 ·intro h;obtain ⟨b1,b2⟩:=h.pick;obtain ⟨b3,b4⟩:=h.drp;exact ⟨⟨⟨⟨⟨⟨⟨h.name,h.twin⟩,h.load⟩,Za,Za⟩,h.one⟩,h.pstp,h.dstp⟩,h.skills⟩,h.arg⟩
def ordersOk (np:Nat) (d ty:Int) (l:List Ord):Prop:=l.length<=10/\ ∀i,i<l.length->OrdOk np d ty l i
theorem L8 {np:Nat} {d ty:Int} {l:List Ord} :XT np d ty l l.length= []↔ordersOk np d ty l:=by
 simp_all [XT,H9,ordersOk]
theorem NY {np:Nat} {d ty:Int} {l:List Ord} (hl:l.length<=1048576): ∀f∈XT np d ty l l.length,pF 20 f:=by
 intro f hf;simp only [XT,XI,YN,ZQ,Xg] at hf;rcases hf with hf | ⟨i,hi,e,he,rfl⟩
 ·grind [pF]
 ·exact QL i Za
theorem Oc (n:Int) (h0:0<=n) (hn:n<=4611686018427387904):PC 234 [.p (.int .i64 n)] (.str (dec n.toNat)):=by
 refine Zc Tryz.func234 rfl zV ?_;simp (disch:=omega) only [Tryz.f234,go_sem,seval];refine Zk [] (fun q:Int×List UInt8=> [(0,.p (.int .i64 q.1)),(3,.p (.str q.2))]) (fun _=> []) (fun q=>0<=q.1/\q.1<=n/\dec q.1.toNat++q.2=dec n.toNat) (fun q=>q.1.toNat) (n,[]) (by simp [h0]) (Weak.mk ?_) ?_
 ·simp (disch:=omega) only [go_sem,seval]
 ·rintro ⟨m,s⟩ ⟨hm,hmn,hs⟩;simp only at hm hmn hs;have hl:=O1 _ n.toNat (Nat.lt_succ_self _)
  have hl2:(dec m.toNat).length+s.length=(dec n.toNat).length:=by grind
  simp (disch:=first | omega | (simp only [ZH,Zw,Zn,Zx,ZC,ZK]<;>omega)) only [go_sem,seval];refine cD ?_ ?_<;>intro h<;>simp (disch:=omega) only [Sh.out h,go_sem,seval,↓reduceIte]
  ·simp (disch:=first | omega | (simp only [ZH,Zw,Zn,Zx,ZC,ZK]<;>omega)) only [go_sem,seval]
   have h2: ¬m.toNat<10:=Za
   have e1:(48+m%10).toNat=48+m.toNat%10:=Za
   have e2:(m / 10).toNat=m.toNat / 10:=Za
   refine ⟨(m / 10,UInt8.ofNat (48+m%10).toNat::s),⟨Za,Za,?_⟩,Za,Weak.mk ?_⟩
   ·simp only [e1,e2];rw [<- hs,dec.eq_def m.toNat,dif_neg h2];simp
   ·simp (disch:=omega) only [go_sem,seval]
  ·simp (disch:=first | omega | (simp only [ZH,Zw,Zn,Zx,ZC,ZK]<;>omega)) only [go_sem,seval]
   have h2:m.toNat<10:=Za
   have e1:(48+m).toNat=48+m.toNat:=Za
   rw [<- hs,dec.eq_def m.toNat,dif_pos h2,e1]
   rfl
def oA (n:Int) (p:Int×Int):Bool:=decide (0<=p.1/\p.1<n)&&decide (0<=p.2/\p.2<n)&&decide (¬p.1=p.2)
def atW (word:List UInt8) (i:Nat):List UInt8:=word++ [32]++dec i
def TE (n:Int) (word:List UInt8) (sm:Int×Int->Int×Int->Bool) (l:List (Int×Int)) (i:Nat):List (Int×List UInt8) :=
 if oA n (nth l i)=false then [(2,atW word i)] else if (l.take i).any (sm (nth l i)) then [(6,atW word i)] else []
def M1 (word:List UInt8) (l:List (Int×Int)):List (Int×List UInt8):=if 16<l.length then [(4,word)] else []
def JU (n:Int) (word:List UInt8) (sm:Int×Int->Int×Int->Bool) (l:List (Int×Int)) (k:Nat):List (Int×List UInt8):=M1 word l++(List.range k).flatMap (TE n word sm l)
theorem Gi (n word sm l k):JU n word sm l (k+1)=JU n word sm l k++TE n word sm l k:=by grind [JU,Yx]
theorem Gj (n word sm l):JU n word sm l 0=M1 word l:=by simp [JU]
theorem nC (n word sm l i):(TE n word sm l i).length<=1:=by grind [TE]
theorem Bt (n word sm l): ∀k,(JU n word sm l k).length<=k+1:=by
 intro k
 induction k with
 | zero=>grind [Gj,M1]
 | succ k ih=>grind [Gi,nC]
def chk (n:Int) (ap be:List (Int×Int)):List (Int×List UInt8) :=
 JU n [97,112,97,114,116] (fun p q=>decide (p=q\/(p.1=q.2/\p.2=q.1))) ap ap.length++JU n [98,101,102,111,114,101] (fun p q=>decide (p=q)) be be.length
def DT (turned:Bool) (p q:Int×Int):Bool:=decide (q.1=p.1/\q.2=p.2)||(turned&&decide (q.1=p.2/\q.2=p.1))
theorem iP : DT true=fun p q=>decide (p=q\/(p.1=q.2/\p.2=q.1)):=by
 funext p q
 simp only [DT,Vg,ZbI]
 grind
theorem Te : DT false=fun p q=>decide (p=q):=by
 funext p q
 simp only [DT,U4,Bool.or_false]
 grind
def tw (turned:Bool) (l:List (Int×Int)) (p:Int×Int) (j:Nat):Bool:=(l.take j).any (DT turned p)
theorem pZ (turned l p):tw turned l p 0=false:=by simp [tw]
theorem pY (turned:Bool) (l:List (Int×Int)) (p:Int×Int) (j:Nat) (h:j<l.length):tw turned l p (j+1)=(tw turned l p j||DT turned p (nth l j)):=by
 rw [tw,tw,Xo h,List.any_append,Ze h];simp
theorem Lm (n:Int) (word:List UInt8) (l:List (Int×Int)) (c:Bool) (turned:Bool) (hw:word.length<=1000) (hl:l.length<=1048576) :
  ACalls Tryz.prog 176 [.p (.int .i64 n),.p (.list c (l.map eP)),.p (.str word),.p (.bool turned)] [] fun x H'=>x= .sl 0 0 (JU n word (DT turned) l l.length).length (JU n word (DT turned) l l.length).length/\H'= [.elems 2 ((JU n word (DT turned) l l.length).map eF)]:=by
 refine FC [2] (fn:=Tryz.f176) Zb Tryz.func176 rfl yS ?_;simp (disch:=omega) only [Tryz.f176,go_sem,seval];refine Zs (Weak.ofNil 9 2 (by simp (disch:=omega) only [go_sem,seval]) Zb (Weak.refl _ _ _)) (Wt ?_);refine ZJ [0,1,2,3] (fun _:Unit=> [(9,.sl 0 0 (M1 word l).length (M1 word l).length)]) (fun _=> [.elems 2 ((M1 word l).map eF)]) (fun _=>True) ?_ ?_
 ·refine Wt ?_;refine cD ?_ ?_<;>intro h<;>simp (disch:=omega) only [Sh.out h,go_sem,seval,↓reduceIte]
  ·refine ⟨(),Weak.mk ?_⟩
   have h2:16<l.length:=Za
   simp (disch:=omega) only [M1,h2,go_sem,seval,↓reduceIte]
  ·refine ⟨(),Weak.mk ?_⟩
   have h2: ¬ 16<l.length:=Za
   simp (disch:=omega) only [M1,h2,go_sem,seval,↓reduceIte]
 ·intro _ _;refine Zg [] _ _ _ _ (Wt ?_);refine Zk [0,1,2,3] (fun k:Nat=> [(9,.sl 0 0 (JU n word (DT turned) l k).length (JU n word (DT turned) l k).length),(10,.p (.int .i64 k))]) (fun k=> [.elems 2 ((JU n word (DT turned) l k).map eF)]) (fun k=>k<=l.length) (fun k=>l.length-k) 0 Zb (Weak.mk ?_) ?_
  ·simp (disch:=omega) only [Gj,go_sem,seval,↓reduceIte]
  ·intro k hk;have hfl:=Bt n word (DT turned) l k;have hdl:=O1 _ k (Nat.lt_succ_self _);refine Wt ?_;refine cD ?_ ?_<;>intro h<;>simp (disch:=omega) only [Sh.out h,go_sem,seval,↓reduceIte]
   ·have hk2:k<l.length:=Za
    simp (disch:=first | omega | (simp only [ZH,Zw,Zn,Zx,ZC,ZK]<;>omega)) only [go_sem,seval];refine (Oc (k:Int) Za Za).use ?_;simp (disch:=first | omega | (simp only [ZH,Zw,Zn,Zx,ZC,ZK]<;>omega)) only [go_sem,seval];have hs:=Gi n word (DT turned) l k
    have hbad:oA n (nth l k)=false->TE n word (DT turned) l k= [(2,word++ [32]++dec k)]:=fun e=>by simp [TE,e,atW]
    repeat' (first | (refine VI (fun hq=> ?_) (fun hq=> ?_)<;>(try simp only [Zl,XM,XU] at hq)<;>simp (disch:=omega) only [Sh.out hq,go_sem,seval]) | (refine gF ?_ ?_<;>intro hq<;>simp (disch:=omega) only [Sh.out hq,go_sem,seval,↓reduceIte]) | (refine cD ?_ ?_<;>intro hq<;>simp (disch:=omega) only [Sh.out hq,go_sem,seval,↓reduceIte]))
    all_goals try (
     have e:=hbad (by simp [oA];omega)
     exact ⟨k+1,Za,Za,Weak.mk (by simp (disch:=omega) only [hs,e,go_sem,seval])⟩)
    have hok:oA n (nth l k)=true:=by simp [oA];omega
    refine Zk [0,1,2,3,9,10,11,12,13] (fun j:Nat=> [(14,.p (.bool (tw turned l (nth l k) j))),(15,.p (.int .i64 j))]) (fun _=> [.elems 2 ((JU n word (DT turned) l k).map eF)]) (fun j=>j<=k) (fun j=>k-j) 0 Zb (Weak.mk ?_) ?_
    ·simp (disch:=omega) only [pZ,go_sem,seval,↓reduceIte]
    ·intro j hj;refine Wt ?_;refine cD ?_ ?_<;>intro h4<;>simp (disch:=omega) only [Sh.out h4,go_sem,seval,↓reduceIte]
     ·have hts:=pY turned l (nth l k) j Za;generalize tw turned l (nth l k) j=q at hts ⊢
      repeat' (first | (refine gT ?_ ?_<;>intro hq<;>simp (disch:=omega) only [Sh.out hq,go_sem,seval,↓reduceIte]) | (refine gF ?_ ?_<;>intro hq<;>simp (disch:=omega) only [Sh.out hq,go_sem,seval,↓reduceIte]) | (refine Ja (fun hq=> ?_) (fun hq=> ?_)<;>(try simp only [Zl,XM,XU] at hq)<;>simp (disch:=omega) only [Sh.out hq,go_sem,seval]))
      all_goals refine ⟨j+1,Za,Za,Weak.mk ?_⟩
      all_goals clear hs hbad hfl hdl
      all_goals simp (disch:=omega) only [hts,go_sem,seval]
      all_goals simp [DT, *]
      all_goals first | omega | (simp [DT, *] at hts;exact hts)
     ·have hjk:j=k:=Za
      subst hjk;refine cD ?_ ?_<;>intro h5<;>simp (disch:=omega) only [Sh.out h5,go_sem,seval,↓reduceIte]
      ·have e:TE n word (DT turned) l j= [(6,word++ [32]++dec j)]:=by
        have h6:(l.take j).any (DT turned (nth l j))=true:=h5
        grind [TE,atW]
       exact ⟨j+1,Za,Za,Weak.mk (by simp (disch:=omega) only [hs,e,go_sem,seval])⟩
      ·have e:TE n word (DT turned) l j= []:=by
        have h6:(l.take j).any (DT turned (nth l j))=false:=h5
        simp_all [TE]
       exact ⟨j+1,Za,Za,Weak.mk (by simp (disch:=omega) only [hs,e,go_sem,seval])⟩
   ·have:k=l.length:=Za
    subst this;exact ⟨0,by simp (disch:=omega) only [go_sem,seval]⟩
theorem hJ (n:Int) (ap be:List (Int×Int)) (c c':Bool) (hl:ap.length<=1048576) (hl2:be.length<=1048576) :
  ACalls Tryz.prog 130 [.p (.int .i64 n),.p (.list c (ap.map eP)),.p (.list c' (be.map eP))] [] fun x H'=>x= .sl 0 0 (chk n ap be).length (chk n ap be).length/\H'= [.elems 2 ((chk n ap be).map eF)]:=by
 refine Ua (fn:=Tryz.f130) Zb Tryz.func130 rfl xN ?_;simp (disch:=omega) only [Tryz.f130,go_sem,seval];have h1:=Bt n [97,112,97,114,116] (DT true) ap ap.length;have h2:=Bt n [98,101,102,111,114,101] (DT false) be be.length;refine (Lm n _ ap c true (by decide) hl).useF (Wt ?_);refine (Lm n _ be c' false (by decide) hl2).useF (Wt ?_);refine ⟨0,?_⟩;rw [chk,<- iP,<- Te];simp (disch:=omega) only [go_sem,seval]
@[go_sem] theorem Zc1 {H:List AM.Obj} {β:Type} {S b o n:Nat} {xs:List PV} {g:β->PV} {m:List β} (hb:(n+m.length)*b<=140737488355328) (hb2:n+m.length<=140737488355328) :
  Uv H (some (S,b)) (.elems S xs) o n (some (m.map g))=if xs.length=n/\AD S (m.map g)=true then some (.sl o 0 (n+m.length) (n+m.length),EV H o (.elems S (xs++m.map g))) else none:=by
 simp_all [T7]
def und (word:List UInt8) (f:Flt):Flt:=(f.1,if f.2= [] then word else word++ [32]++f.2)
theorem An (word:List UInt8) (l:List Flt) (c:Bool) (hword:word.length<=100) (hl:l.length<=4194306000000) (hp: ∀f∈l,pF 100 f) :
  ACalls Tryz.prog 125 [.p (.str word),.p (.list c (l.map eF))] [] fun x H'=>x= .sl 0 0 (l.map (und word)).length (l.map (und word)).length/\H'= [.elems 2 ((l.map (und word)).map eF)]:=by
 suffices hh:ACalls Tryz.prog 125 [.p (.str word),.p (.list c (l.map eF))] [] fun x H'=> ∃m:List Flt,m=l.map (und word)/\x= .sl 0 0 m.length m.length/\H'= [.elems 2 (m.map eF)] by
  grind
 refine Z9 [2] Tryz.func125 rfl xI ?_;simp (disch:=omega) only [Tryz.f125,go_sem,seval];refine Zs (Weak.ofNil 5 2 (by simp (disch:=omega) only [go_sem,seval]) Zb (Weak.refl _ _ _)) ?_;refine Zg [] _ _ _ _ (Wt ?_);refine Zk [0,1] (fun q:Nat×List Flt=> [(5,.sl 0 0 q.2.length q.2.length),(6,.p (.int .i64 q.1))]) (fun q=> [.elems 2 (q.2.map eF)]) (fun q=>q.1<=l.length/\q.2=(l.take q.1).map (und word)) (fun q=>l.length-q.1) (0,[]) ⟨Zb,Zb⟩ (Weak.mk ?_) ?_
 ·simp (disch:=omega) only [go_sem,seval,↓reduceIte]
 ·rintro ⟨k,m⟩ ⟨hk,hm⟩;simp only at hk hm
  have hml:m.length<=k:=by grind
  refine Wt ?_;refine cD ?_ ?_<;>intro h<;>simp (disch:=omega) only [Sh.out h,go_sem,seval,↓reduceIte]
  ·have hk2:k<l.length:=Za
   have hpk:=hp _ (Zq hk2);unfold pF at hpk
   have hnext: ∀f,f=und word (nth l k)->m++ [f]=(l.take (k+1)).map (und word):=fun f hf=>by
    grind [Xo,Ze]
   refine cD ?_ ?_<;>intro h2<;>simp (disch:=omega) only [Sh.out h2,go_sem,seval,↓reduceIte]
   ·have h3: ¬(nth l k).2= []:=Za
    simp (disch:=first | omega | (simp only [ZH,Zw,Zn,Zx,ZC,ZK]<;>omega)) only [go_sem,seval,↓reduceIte];refine ⟨(k+1,m++ [((nth l k).1,word++ [32]++(nth l k).2)]),⟨Za,hnext _ (by simp [und,h3])⟩,Za,Weak.mk (by simp (disch:=first | omega | (simp only [ZH,Zw,Zn,Zx,ZC,ZK]<;>omega)) only [go_sem,seval])⟩
   ·have h3:(nth l k).2= []:=by grind
    refine ⟨(k+1,m++ [((nth l k).1,word)]),⟨Za,hnext _ (by simp [und,h3])⟩,Za,Weak.mk (by simp (disch:=first | omega | (simp only [ZH,Zw,Zn,Zx,ZC,ZK]<;>omega)) only [go_sem,seval])⟩
  ·have hkn:k=l.length:=Za
   subst hkn;exact ⟨m,by grind,0,by simp (disch:=omega) only [go_sem,seval]⟩
theorem vX {n:Int} {ap be:List (Int×Int)} (ha:ap.length<=1048576) (hb:be.length<=1048576): ∀f∈chk n ap be,pF 100 f:=by
 have key: ∀(word:List UInt8) (sm:Int×Int->Int×Int->Bool) (l:List (Int×Int)),word.length<=6->l.length<=1048576-> ∀f∈JU n word sm l l.length,pF 100 f:=fun word sm l hw hl f hf=>by
  simp only [JU,XI,YN,ZQ] at hf;rcases hf with hf | ⟨i,hi,hf⟩
  ·grind [M1,pF]
  ·have hd:=AT 6 i Za
   grind [pF,atW,TE]
 intro f hf;rcases XI.1 hf with hf | hf
 ·grind
 grind
theorem lY {n:Int} {ap be:List (Int×Int)} :(chk n ap be).length<=ap.length+be.length+2:=by
 grind [Bt,chk]
structure InstOk (x:Inst):Prop where
 net:netOk x.net
 types:typesOk x.net x.types
 orders:ordersOk x.net.places.length (dimsOf x.types) x.types.length x.orders
 rules:chk x.orders.length x.apart x.before= []
theorem FR.und {p:Flt->Prop} {C:Prop} {b:Nat} {l:List Flt} (h:FR p C b l) (word:List UInt8):FR (fun _=>True) C b (l.map (und word)) :=
 ⟨by simpa using h.len,by rw [List.map_eq_nil_iff];exact h.emp,fun _ _=>trivial⟩
theorem wC (x:Inst) (hw:x.wf 1048576):ACalls Tryz.prog 78 [.p (ZG x)] [] fun y H'=> ∃m:List Flt,FR (fun _=>True) (InstOk x) 4194400000000 m/\y= .sl 0 0 m.length m.length/\H'= [.elems 2 (m.map eF)]:=by
 obtain ⟨w1,w2,w3,w4,w5,w6,w7,w8,w9⟩:=hw;refine Z9 [] Tryz.func78 rfl Zhx ?_;simp (disch:=omega) only [Tryz.f78,go_sem,seval];have ol:=Qc x.net.places.length (dimsOf x.types) x.types.length x.orders x.orders.length;have oat:=NY (np:=x.net.places.length) (d:=dimsOf x.types) (ty:=x.types.length) w4;have onil:=L8 (np:=x.net.places.length) (d:=dimsOf x.types) (ty:=x.types.length) (l:=x.orders);have cl:=lY (n:=x.orders.length) (ap:=x.apart) (be:=x.before);have cat:=vX (n:=x.orders.length) w6 w8;refine ((vZ x.net w1).frozenE).useV fun m1 h1=> ?_
 refine Wt ?_;have h1p:=h1.pmono (q:=pF 100) fun f hf=>hf.mono Za;have u1:=An [110,101,116] m1 false Zb h1.len h1p.all;have f1:=h1.und [110,101,116];generalize m1.map (und [110,101,116])=q1 at u1 f1;have f1l:=f1.len;refine (u1).useF (Wt ?_);refine ((wA x.net x.types x.types_c w1 w2 w3).frozenE).useV fun m2 h2=>Wt ?_;have h2p:=h2.pmono (q:=pF 100) fun f hf=>hf.mono Za;have h2l:=h2.len;have u2:=(An [116,121,112,101,115] m2 false Zb Za h2p.all).frozen Zb;have f2:=h2.und [116,121,112,101,115]
 generalize m2.map (und [116,121,112,101,115])=q2 at u2 f2;have f2l:=f2.len;refine (u2).use (Wt ?_);have u3:=(An [111,114,100,101,114,115] (XT x.net.places.length (dimsOf x.types) x.types.length x.orders x.orders.length) false Zb Za fun f hf=>(oat f hf).mono Za).frozen Zb;have f3:=(show FR (fun _=>True) (ordersOk x.net.places.length (dimsOf x.types) x.types.length x.orders) (1+8*x.orders.length) (XT x.net.places.length (dimsOf x.types) x.types.length x.orders x.orders.length) from ⟨ol,onil,fun _ _=>trivial⟩).und [111,114,100,101,114,115]
 generalize (XT x.net.places.length (dimsOf x.types) x.types.length x.orders x.orders.length).map (und [111,114,100,101,114,115])=q3 at u3 f3;have f3l:=f3.len;refine Z4 13 mixed Zd Zd (Wt ?_);refine Zp (Ld x.types x.types_c w2) (Wt ?_);refine Zp ((wB x.net (dimsOf x.types) x.types.length x.orders x.orders_c w1 w4 w5).frozen Zb) (Wt ?_);refine Zp (u3) (Wt ?_);have u4:=(An [114,117,108,101,115] (chk x.orders.length x.apart x.before) false Zb Za cat).frozen Zb
 have f4:=(show FR (fun _=>True) (chk x.orders.length x.apart x.before= []) (x.apart.length+x.before.length+2) (chk x.orders.length x.apart x.before) from ⟨cl,Iff.rfl,fun _ _=>trivial⟩).und [114,117,108,101,115];generalize (chk x.orders.length x.apart x.before).map (und [114,117,108,101,115])=q4 at u4 f4;have f4l:=f4.len;refine ((hJ x.orders.length x.apart x.before x.apart_c x.before_c w6 w8).frozen Zb).use (Wt ?_);refine (u4).use (Wt ?_);refine ⟨q1++q2++q3++q4,((f1.app f2).app f3 |>.app f4).to Za ⟨fun ⟨⟨⟨a,b⟩,c⟩,d⟩=>⟨a,b,c,d⟩,fun h=>⟨⟨⟨h.net,h.types⟩,h.orders⟩,h.rules⟩⟩,1,?_⟩
 simp (disch:=omega) only [go_sem,seval]
def Zj (x:Inst):AM.Obj:= .cells [.p (.list x.net.places_c (x.net.places.map eS)),.p (.list x.net.arcs_c (x.net.arcs.map Ud)),.p (.list x.types_c (x.types.map Uf)),.p (.list x.orders_c (x.orders.map eOrd)),.p (.list x.apart_c (x.apart.map eP)),.p (.list x.before_c (x.before.map eP))]
def zSco : Sco:=⟨0,0,0,0⟩
theorem kK (a:Int):IntKind.i64.wrap ((BitVec.ofInt 64 a&&&BitVec.ofInt 64 1).toNat:Int)=a%2:=by
 grind [BitVec.toNat_ofInt,IntWalk.i64_in]
def sHas (s i:Int):Bool:=decide (0<=i)&&decide (i<=62)&&decide (s.fdiv (2^i.toNat)%2=1)
theorem C9 (s i:Int):PC 95 [.p (.int .i64 s),.p (.int .i64 i)] (.bool (sHas s i)):=by
 refine Zc Tryz.func95 rfl ZhF ?_;simp (disch:=omega) only [Tryz.f95,go_sem,seval];refine gT ?_ ?_<;>intro h<;>simp (disch:=omega) only [Sh.out h,go_sem,seval,↓reduceIte]
 ·refine gT ?_ ?_<;>intro h1<;>simp (disch:=omega) only [Sh.out h1,go_sem,seval,↓reduceIte]
  ·have:min i.toNat 64=i.toNat:=Za
   rw [this]
   erw [kK]
   simp [sHas,h,h1]
  grind [sHas]
 ·simp [sHas,h]
def XQ (s:Int) (k:Nat):List Int:=((List.range k).filter fun (i:Nat)=>sHas s (i:Int)).map fun (i:Nat)=>(i:Int)
theorem Sq (s:Int):XQ s 0= []:=by simp [XQ]
theorem LV {s:Int} {k:Nat} (h:sHas s (k:Int)=true):XQ s (k+1)=XQ s k++ [(k:Int)]:=by grind [XQ,Yx]
theorem Pz {s:Int} {k:Nat} (h:sHas s (k:Int)=false):XQ s (k+1)=XQ s k:=by grind [XQ,Yx]
theorem BM (s:Int) (k:Nat):(XQ s k).length<=k:=by
 grind [XQ]
theorem CG (s:Int):ACalls Tryz.prog 60 [.p (.int .i64 s)] [] fun x H'=>x= .sl 0 0 (XQ s 63).length (XQ s 63).length/\H'= [.elems 1 ((XQ s 63).map eI)]:=by
 refine Ua (fn:=Tryz.f60) Zb Tryz.func60 rfl Zhv ?_;simp (disch:=omega) only [Tryz.f60,go_sem,seval];refine Zk [0] (fun k:Nat=> [(3,.sl 0 0 (XQ s k).length (XQ s k).length),(5,.p (.int .i64 k))]) (fun k=> [.elems 1 ((XQ s k).map eI)]) (fun k=>k<=63) (fun k=>63-k) 0 Zb (Weak.ofNil 3 1 (by simp (disch:=omega) only [go_sem,seval]) Zb (Weak.mk ?_)) ?_
 ·simp (disch:=omega) only [Sq,go_sem,seval,↓reduceIte]
 ·intro k hk;have hl:=BM s k;refine Wt ?_;refine cD ?_ ?_<;>intro h<;>simp (disch:=omega) only [Sh.out h,go_sem,seval,↓reduceIte]
  ·refine (C9 s k).use (Wt ?_);refine cD ?_ ?_<;>intro h2<;>simp (disch:=omega) only [Sh.out h2,go_sem,seval,↓reduceIte]
   ·refine ⟨k+1,Za,Za,Weak.mk ?_⟩;simp (disch:=omega) only [LV h2,go_sem,seval]
   ·exact ⟨k+1,Za,Za,Weak.mk (by simp (disch:=omega) only [Pz h2,go_sem,seval])⟩
  ·have:k=63:=Za
   subst this;exact ⟨0,by simp (disch:=omega) only [go_sem,seval]⟩
def eN (n:Nat):PV:= .int .i64 (n:Int)
@[go_sem] theorem Zon (n:Nat):eN n= .int .i64 (n:Int):=Zh rfl rfl
theorem aQ (n:Nat) (be:List (Int×Int)) (c:Bool) (hn:n<=60) (hl:be.length<=1048576) (hv:Val n be) :
  ACalls Tryz.prog 235 [.p (.int .i64 (n:Int)),.p (.list c (be.map eP))] [] fun x H'=>x= .sl 0 0 n n/\H'= [.elems 1 ((JO n be).map eN)]:=by
 refine Ua (fn:=Tryz.f235) (by simpa using (El hv).len) Tryz.func235 rfl zW ?_;simp (disch:=omega) only [Tryz.f235,go_sem,seval];have hp60:pw n<=pw 62:=Dg Za;have h62:=GO;refine Zk [0,1] (fun q:List Nat×Bool=> [(5,.sl 0 0 n n),(6,.p (.bool q.2))]) (fun q=> [.elems 1 (q.1.map eN)]) (fun q=>Snd n be q.1/\(q.2=false->tot (DP q.1 be)=tot q.1)) (fun q=>2*(n*pw n-tot q.1)+(if q.2 then 1 else 0)) (List.replicate n 0,true) ⟨Snd.zero n be,Zb⟩ (Weak.mk ?_) ?_
 ·simp (disch:=omega) only [DG,go_sem,seval,↓reduceIte]
 ·rintro ⟨out,more⟩ ⟨hs,hm⟩;simp only at hs hm;refine Wt ?_;refine cD ?_ ?_<;>intro h<;>simp (disch:=omega) only [Sh.out h,go_sem,seval,↓reduceIte]
  ·have hrs: ∀i,Snd n be (DP out (be.take i)):=fun i=>hs.rnd hv _ fun p hp=>JA hp
   have hsuc: ∀i,i<be.length->DP out (be.take (i+1))=Dr (DP out (be.take i)) (nth be i):=fun i hi=>by
    rw [Xo hi,N1,<- Ze hi];rfl
   refine Zk [0,1,16,17] (fun i:Nat=> [(5,.sl 0 0 n n),(6,.p (.bool (decide (tot out<tot (DP out (be.take i)))))),(18,.p (.int .i64 i))]) (fun i=> [.elems 1 ((DP out (be.take i)).map eN)]) (fun i=>i<=be.length) (fun i=>be.length-i) 0 Zb (Weak.mk ?_) ?_
   ·simp (disch:=omega) only [DP,WV,Qv,go_sem,seval];simp
   ·intro i hi;have hsi:=hrs i;generalize hgo:DP out (be.take i)=o at hsi ⊢;have hlo:=hsi.len;refine Wt ?_;refine cD ?_ ?_<;>intro h2<;>simp (disch:=omega) only [Sh.out h2,go_sem,seval,↓reduceIte]
    ·have hib:i<be.length:=Za
     have hvi:=hv (nth be i) (by grind [Ze])
     have g1: ¬(nth be i).1<0:=Za
     have g2: ¬(nth be i).2<0:=Za
     have g3: ¬(n:Int)<=(nth be i).1:=Za
     have g4: ¬(n:Int)<=(nth be i).2:=Za
     have g5:(nth be i).1.toNat<n:=Za
     have g6:(nth be i).2.toNat<n:=Za
     have b1:=hsi.lt _ g5;have b2:=hsi.lt _ g6;have b3:nth o (nth be i).2.toNat|||nth o (nth be i).1.toNat<pw n:=Qt b2 b1;have b4:pw (nth be i).1.toNat<=pw 62:=Dg Za;have hst:=OZ o (nth be i) Za;have hnx:=hsuc i hib;rw [hgo] at hnx;refine Ec mixed Zd ?_;simp (disch:=omega) only [hlo,g1,g2,g3,g4,go_sem,seval];refine Ec mixed Zd ?_;simp (disch:=first | omega | (simp only [ZH,Zw,Zn,Zx,ZC,ZK]<;>omega)) only [hlo,g5,g6,Wq,go_sem,seval,↓reduceIte]
     have htm:tot out<=tot o:=by
      grind [BW]
     have hsv:o.set (nth be i).2.toNat (nth o (nth be i).2.toNat|||nth o (nth be i).1.toNat|||pw (nth be i).1.toNat)=Dr o (nth be i):=rfl;refine cD ?_ ?_<;>intro h3<;>simp (disch:=omega) only [Sh.out h3,go_sem,seval,↓reduceIte]
     ·have hne: ¬Dr o (nth be i)=o:=fun e=>by
       apply h3
       have e2:nth (Dr o (nth be i)) (nth be i).2.toNat=nth o (nth be i).2.toNat:=by rw [e]
       rw [Dr,DN _ _ _ _ Za] at e2
       grind
      have hlt:tot out<tot (Dr o (nth be i)):=by
       grind
      simp (disch:=first | omega | (simp only [ZH,Zw,Zn,Zx,ZC,ZK]<;>omega)) only [go_sem,seval,↓reduceIte];refine ⟨i+1,Za,Za,Weak.mk ?_⟩;simp (disch:=omega) only [hnx,hlt,go_sem,seval];rw [<- hsv,Uh]
      rfl
     ·have heq:Dr o (nth be i)=o:=by
       have e:nth o (nth be i).2.toNat|||nth o (nth be i).1.toNat|||pw (nth be i).1.toNat=nth o (nth be i).2.toNat:=Za
       rw [<- hsv,e];apply VE Zb
       simp_all [Ze]
      refine ⟨i+1,Za,Za,Weak.mk ?_⟩;simp (disch:=omega) only [hnx,heq,go_sem,seval]
    ·have hi2:i=be.length:=Za
     subst hi2;rw [X7] at hgo;subst hgo;have hpt:=BW hv be out (fun _ h=>h) hs;have hbd:=hsi.bound;refine ⟨(DP out be,decide (tot out<tot (DP out be))),⟨hsi,fun e=> ?_⟩,?_,Weak.mk ?_⟩
     ·grind
     ·grind
     ·simp (disch:=omega) only [go_sem,seval]
  ·refine ⟨0,?_⟩;have:out=JO n be:=(bA hv (hs.clo hv (hm h))).symm;rw [this];simp (disch:=omega) only [go_sem,seval]
def hv (s k:Nat):Nat:=s / pw k
theorem xA (s k:Nat):s.testBit k=decide (hv s k%2=1):=by
 rw [Nat.testBit_eq_decide_div_mod_eq]
 rfl
theorem Wk (s i:Nat) (hi:i<=62):sHas (s:Int) (i:Int)=s.testBit i:=by
 rw [xA,hv]
 have h1:(0:Int)<=i:=Za
 have h2:(i:Int)<=62:=Za
 simp only [sHas,h1,h2,BB,Vg,X6]
 have e:((s:Int)).fdiv (2^i)=((s / pw i:Nat):Int):=by
  grind [pw]
 grind
theorem W7 {α:Type} [Inhabited α] {l:List α} {f:α->Bool} {k:Nat} (h:k<l.length) (hf:f (nth l k)=true):l.any f=true:=by
 grind [Ze]
theorem Qj {α:Type} [Inhabited α] {l:List α} {f:α->Bool} (h: ∀j,j<l.length->f (nth l j)=false):l.any f=false:=by
 rw [XV];intro x hx;obtain ⟨j,hj,rfl⟩:=ZP.1 hx
 grind [Ze]
theorem VD {p:Nat->Prop} {k:Nat} (h: ∀j,j<k->p j) (hk:p k): ∀j,j<k+1->p j:=fun j hj=>by
 grind
theorem ZhS {s:Int} {k:Nat} {x:Int} (h:x∈XQ s k):0<=x/\x<k:=by
 simp only [XQ,Xg,Vf,ZQ] at h;omega
noncomputable def Y1 (os:List Ord) (ap be:List (Int×Int)) (s:Int):Int :=
 if s<0 then 2
 else if (XQ s 63).any (fun i=>decide ((os.length:Int)<=i)) then 2
 else if (XQ s 63).any (fun i=>(nth os i.toNat).off) then 9
 else if ap.any (fun p=>sHas s p.1&&sHas s p.2) then 20
 else if be.any (fun p=>sHas s p.2&& !sHas s p.1) then 21
 else if (XQ s 63).any (fun i=>sHas ((nth (JO os.length be) i.toNat:Nat):Int) i) then 21
 else 0
theorem Wy {P Q:Prop} (h:Q) (e:Q->P:=by intro h;simp (disch:=omega) only [Zj,go_sem,seval];exact h):P:=e h
theorem Rq (net:Net) (tyc:Bool) (tys:List Typ) (c1 c2 c3:Bool) (os:List Ord) (ap be:List (Int×Int)) (s:Int) (hn:os.length<=60) (hla:ap.length<=1048576) (hl:be.length<=1048576) (hv:Val os.length be) :
  PC 177 [.p (ZG ⟨net,tyc,tys,c1,os,c2,ap,c3,be⟩),.p (.int .i64 s)] (.int .i64 (Y1 os ap be s)):=by
 have hc:=El hv;have hlen:=hc.len;have hm:=BM s 63;refine Zc Tryz.func177 rfl yT ?_;simp (disch:=omega) only [Tryz.f177,go_sem,seval];refine cD ?_ ?_<;>intro hs0<;>simp (disch:=omega) only [Sh.out hs0,go_sem,seval]
 ·simp [Y1,hs0]
 ·refine ((CG s).frozen Zb).use (Wt ?_);generalize hgm:XQ s 63=m at hm ⊢
  have hnn: ∀k,k<m.length->0<=nth m k/\nth m k<63:=fun k hk=>by
   grind [XQ,Ze,UN]
  have e0: ¬s<0:=hs0;refine Zk [1,2,5,21,22] (fun k:Nat=> [(23,.p (.int .i64 k))]) (fun _=> [Zj ⟨net,tyc,tys,c1,os,c2,ap,c3,be⟩]) (fun k=>k<=m.length/\ ∀j,j<k->decide ((os.length:Int)<=nth m j)=false) (fun k=>m.length-k) 0 Zb (Weak.mk ?_) ?_
  ·simp (disch:=omega) only [Zj,go_sem,seval]
  ·rintro k ⟨hk,hno⟩;refine Wy ?_;refine cD ?_ ?_<;>intro h<;>simp (disch:=omega) only [Sh.out h,go_sem,seval,↓reduceIte]
   ·have hk2:k<m.length:=Za
    refine ZN ?_ ?_<;>intro h4
    ·grind [W7,Y1]
    ·exact ⟨k+1,⟨Za,VD hno (by simp [h4])⟩,Za,wk⟩
   ·have hkm:k=m.length:=Za
    subst hkm;have e1:m.any (fun i=>decide ((os.length:Int)<=i))=false:=Qj hno
    have hin: ∀j,j<m.length->(nth m j).toNat<os.length:=fun j hj=>by
     grind
    clear hno hk h;refine Zk [1,2,5,33,34] (fun k:Nat=> [(35,.p (.int .i64 k))]) (fun _=> [Zj ⟨net,tyc,tys,c1,os,c2,ap,c3,be⟩]) (fun k=>k<=m.length/\ ∀j,j<k->(nth os (nth m j).toNat).off=false) (fun k=>m.length-k) 0 Zb (Weak.mk ?_) ?_
    ·simp (disch:=omega) only [Zj,go_sem,seval]
    ·rintro k ⟨hk,hno⟩;refine Wy ?_;refine cD ?_ ?_<;>intro h<;>simp (disch:=omega) only [Sh.out h,go_sem,seval,↓reduceIte]
     ·have hk2:k<m.length:=Za
      have g1:=hin k hk2;have g2:=hnn k hk2;refine Wt ?_;refine ZN ?_ ?_<;>intro h4
      ·grind [W7,Y1]
      ·exact ⟨k+1,⟨Za,VD hno h4⟩,Za,wk⟩
     ·have hkm:k=m.length:=Za
      subst hkm;have e2:m.any (fun i=>(nth os i.toNat).off)=false:=Qj hno;clear hno hk h;refine Zk [1,2,5,47,48] (fun k:Nat=> [(49,.p (.int .i64 k))]) (fun _=> [Zj ⟨net,tyc,tys,c1,os,c2,ap,c3,be⟩]) (fun k=>k<=ap.length/\ ∀j,j<k->(sHas s (nth ap j).1&&sHas s (nth ap j).2)=false) (fun k=>ap.length-k) 0 Zb (Weak.mk ?_) ?_
      ·simp (disch:=omega) only [Zj,go_sem,seval]
      ·rintro k ⟨hk,hno⟩;refine Wy ?_;refine cD ?_ ?_<;>intro h<;>simp (disch:=omega) only [Sh.out h,go_sem,seval,↓reduceIte]
       ·have hk2:k<ap.length:=Za
        refine (C9 s (nth ap k).1).use (Wt ?_);refine J6 ?_ ?_<;>intro h5
        ·refine (C9 s (nth ap k).2).use (Wt ?_);refine ZN ?_ ?_<;>intro h6
         ·grind [W7,Y1]
         ·exact ⟨k+1,⟨Za,VD hno (by simp [h5,h6])⟩,Za,wk⟩
        ·exact ⟨k+1,⟨Za,VD hno (by simp [h5])⟩,Za,wk⟩
       ·have hkm:k=ap.length:=Za
        subst hkm;have e3:ap.any (fun p=>sHas s p.1&&sHas s p.2)=false:=Qj hno;clear hno hk h;refine Zk [1,2,5,65,66] (fun k:Nat=> [(67,.p (.int .i64 k))]) (fun _=> [Zj ⟨net,tyc,tys,c1,os,c2,ap,c3,be⟩]) (fun k=>k<=be.length/\ ∀j,j<k->(sHas s (nth be j).2&& !sHas s (nth be j).1)=false) (fun k=>be.length-k) 0 Zb (Weak.mk ?_) ?_
        ·simp (disch:=omega) only [Zj,go_sem,seval]
        ·rintro k ⟨hk,hno⟩;refine Wy ?_;refine cD ?_ ?_<;>intro h<;>simp (disch:=omega) only [Sh.out h,go_sem,seval,↓reduceIte]
         ·have hk2:k<be.length:=Za
          refine (C9 s (nth be k).2).use (Wt ?_);refine J6 ?_ ?_<;>intro h5
          ·refine (C9 s (nth be k).1).use (Wt ?_);refine ZN ?_ ?_<;>intro h6
           ·grind [W7,Y1]
           ·exact ⟨k+1,⟨Za,VD hno (by simp [h5,h6])⟩,Za,wk⟩
          ·exact ⟨k+1,⟨Za,VD hno (by simp [h5])⟩,Za,wk⟩
         ·have hkm:k=be.length:=Za
          subst hkm;have e4:be.any (fun p=>sHas s p.2&& !sHas s p.1)=false:=Qj hno;clear hno hk h;refine ((aQ os.length be c3 hn hl hv).frozen (by grind)).use (Wt ?_);refine Zk [5,14,89,90] (fun k:Nat=> [(91,.p (.int .i64 k))]) (fun _=> [Zj ⟨net,tyc,tys,c1,os,c2,ap,c3,be⟩]) (fun k=>k<=m.length/\ ∀j,j<k->sHas ((nth (JO os.length be) (nth m j).toNat:Nat):Int) (nth m j)=false) (fun k=>m.length-k) 0 Zb (Weak.mk ?_) ?_
          ·simp (disch:=omega) only [Zj,go_sem,seval]
          ·rintro k ⟨hk,hno⟩;refine Wy ?_;refine cD ?_ ?_<;>intro h<;>simp (disch:=omega) only [Sh.out h,go_sem,seval,↓reduceIte]
           ·have hk2:k<m.length:=Za
            have g1:=hin k hk2;have g2:=hnn k hk2;refine Wt ?_;refine (C9 ((nth (JO os.length be) (nth m k).toNat:Nat):Int) (nth m k)).use (Wt ?_);refine ZN ?_ ?_<;>intro h6
            ·grind [W7,Y1]
            ·exact ⟨k+1,⟨Za,VD hno h6⟩,Za,wk⟩
           grind [JO,Qj,Y1]
deriving instance DecidableEq for Vis
theorem Iz {v w:Vis} :v=w↔v.order=w.order/\v.drp=w.drp:=by cases v;cases w;simp
def Gf (f:Vis->Bool) (l:List Vis):Int:=match l.findIdx? f with | some i=>(i:Int) | none=> -1
def vIx (l:List Vis) (v:Vis):Int:=Gf (fun w=>decide (v=w)) l
theorem HL {f:Vis->Bool} {l:List Vis} {k:Nat} (hk:k<l.length) (h:f (nth l k)=true) (hno: ∀j,j<k->f (nth l j)=false):Gf f l=(k:Int):=by
 have:l.findIdx? f=some k:=by
  grind [VY,Ze]
 simp [Gf,this]
theorem NE {f:Vis->Bool} {l:List Vis} (hno: ∀j,j<l.length->f (nth l j)=false):Gf f l= -1:=by
 have:l.findIdx? f=none:=by
  rw [List.findIdx?_eq_none_iff];intro x hx;obtain ⟨j,hj,rfl⟩:=ZP.1 hx
  grind [Ze]
 simp [Gf,this]
theorem ND {f:Vis->Bool} {l:List Vis} :decide (0<=Gf f l)=l.any f:=by
 grind [Gf]
theorem cF {f:Vis->Bool} {l:List Vis} :Gf f l<l.length/\ -1<=Gf f l:=by
 grind [Gf,VY]
theorem Pj (l:List Vis) (c:Bool) (v:Vis) (hl:l.length<=1048576):PC 308 [.p (.list c (l.map Xc)),.p (Xc v)] (.int .i64 (vIx l v)):=by
 refine Zc Tryz.func308 rfl Za1 ?_;simp (disch:=omega) only [Tryz.f308,go_sem,seval];refine Zk [0,3,7] (fun k:Nat=> [(8,.p (.int .i64 k))]) (fun _=> [.cells [.p (.int .i64 v.order),.p (.bool v.drp)]]) (fun k=>k<=l.length/\ ∀j,j<k->decide (v=nth l j)=false) (fun k=>l.length-k) 0 Zb (Weak.mk ?_) ?_
 ·simp (disch:=omega) only [go_sem,seval,↓reduceIte]
 ·rintro k ⟨hk,hno⟩;refine Wt ?_;refine cD ?_ ?_<;>intro h<;>simp (disch:=omega) only [Sh.out h,go_sem,seval,↓reduceIte]
  ·have hk2:k<l.length:=Za
   refine XR (Wt ?_);refine cD ?_ ?_<;>intro h2<;>simp (disch:=omega) only [Sh.out h2,go_sem,seval,↓reduceIte]
   ·grind [Iz,vIx,HL]
   ·have: ¬v=nth l k:=by grind
    exact ⟨k+1,⟨Za,Zm.2 ⟨hno,by grind⟩⟩,Za,wk⟩
  grind [vIx,NE]
theorem BY (l:List Vis) (c:Bool) (v:Vis) (hl:l.length<=1048576):PC 286 [.p (.list c (l.map Xc)),.p (Xc v)] (.int .i64 (vIx l v)):=by
 refine Zc Tryz.func286 rfl ZaG ?_;simp (disch:=omega) only [Tryz.f286,go_sem,seval];refine (Pj l c v hl).use ?_;simp (disch:=omega) only [go_sem,seval]
theorem HE (l:List Vis) (c:Bool) (v:Vis) (hl:l.length<=1048576):PC 287 [.p (.list c (l.map Xc)),.p (Xc v)] (.bool (decide (0<=vIx l v))):=by
 refine Zc Tryz.func287 rfl ZaH ?_;simp (disch:=omega) only [Tryz.f287,go_sem,seval];refine (Pj l c v hl).use ?_;simp (disch:=omega) only [go_sem,seval]
theorem pX (l:List Ord) (c:Bool) (n:Int) (hl:l.length<=1048576):PC 236 [.p (.list c (l.map eOrd)),.p (.int .i64 n)] (.bool (decide (0<=n/\n<l.length))):=by
 refine Zc Tryz.func236 rfl dU ?_;simp (disch:=omega) only [Tryz.f236,go_sem,seval];refine gT ?_ ?_<;>intro h<;>simp (disch:=omega) only [Sh.out h,go_sem,seval,↓reduceIte]
 all_goals (try simp [h])
def ZX (l:List Ord) (i:Nat):List Vis:=(if 0<=(nth l i).pick.place then [⟨i,false⟩] else [])++(if 0<=(nth l i).drp.place then [⟨i,true⟩] else [])
theorem Vm (l:List Ord) (i:Nat):(ZX l i).length<=2:=by grind [ZX]
theorem Yz {l:List Ord} {i:Nat} {v:Vis} (h:v∈ZX l i):v.order=i:=by
 grind [ZX]
theorem Ot (l:List Ord) (c:Bool) (i:Nat) (hi:i<l.length) (hl:l.length<=1048576):ACalls Tryz.prog 178 [.p (.list c (l.map eOrd)),.p (.int .i64 (i:Nat))] [] fun x H'=>x= .sl 0 0 (ZX l i).length (ZX l i).length/\H'= [.elems 2 ((ZX l i).map Xc)]:=by
 suffices hh:ACalls Tryz.prog 178 [.p (.list c (l.map eOrd)),.p (.int .i64 (i:Nat))] [] fun x H'=> ∃m:List Vis,m=ZX l i/\x= .sl 0 0 m.length m.length/\H'= [.elems 2 (m.map Xc)] by
  grind
 refine Z9 [2] Tryz.func178 rfl yU ?_;simp (disch:=omega) only [Tryz.f178,go_sem,seval];refine Zs (Weak.ofNil 5 2 (by simp (disch:=omega) only [go_sem,seval]) Zb (Weak.refl _ _ _)) ?_;refine Zg [4] _ _ _ _ (Wt ?_);refine (pX l c i hl).use (Wt ?_)
 have h0:(0:Int)<=(i:Int)/\(i:Int)<(l.length:Int):=Za
 simp (disch:=omega) only [h0,go_sem,seval];refine ZJ [0,1] (fun m:List Vis=> [(5,.sl 0 0 m.length m.length)]) (fun m=> [.elems 2 (m.map Xc)]) (fun m=>m=(if 0<=(nth l i).pick.place then [⟨i,false⟩] else [])) ?_ ?_
 ·refine Wt ?_;refine cD ?_ ?_<;>intro h<;>simp (disch:=omega) only [Sh.out h,go_sem,seval,↓reduceIte]
  ·exact ⟨[⟨i,false⟩],by simp [],wk⟩
  ·exact ⟨[],by simp [],wk⟩
 ·intro m hm
  have hml:m.length<=1:=by grind
  refine Zg [] _ _ _ _ (Wt ?_);refine cD ?_ ?_<;>intro h<;>simp (disch:=omega) only [Sh.out h,go_sem,seval,↓reduceIte]
  ·exact ⟨m++ [⟨i,true⟩],by simp_all [ZX],0,by simp (disch:=omega) only [go_sem,seval]⟩
  ·exact ⟨m,by simp_all [ZX],0,by simp (disch:=omega) only [go_sem,seval]⟩
theorem visits_c (l:List Ord) (c:Bool) (i:Nat) (hi:i<l.length) (hl:l.length<=1048576):PC 178 [.p (.list c (l.map eOrd)),.p (.int .i64 (i:Nat))] (.list false ((ZX l i).map Xc)) :=
 (Ot l c i hi hl).frozen Zb
def KH (l:List Vis):Bool:=(List.range l.length).any fun i=>decide (0<=vIx (l.take i) (nth l i))
theorem qA (l:List Vis) (c:Bool) (hl:l.length<=1048576):PC 260 [.p (.list c (l.map Xc))] (.bool (KH l)):=by
 refine Zc Tryz.func260 rfl Zak ?_;simp (disch:=omega) only [Tryz.f260,go_sem,seval];refine Zk [0,5,6] (fun k:Nat=> [(7,.p (.int .i64 k))]) (fun _=> []) (fun k=>k<=l.length/\ ∀j,j<k->decide (0<=vIx (l.take j) (nth l j))=false) (fun k=>l.length-k) 0 Zb (Weak.mk ?_) ?_
 ·simp (disch:=omega) only [go_sem,seval,↓reduceIte]
 ·rintro k ⟨hk,hno⟩;refine Wt ?_;refine cD ?_ ?_<;>intro h<;>simp (disch:=omega) only [Sh.out h,go_sem,seval,↓reduceIte]
  ·have hk2:k<l.length:=Za
   refine XR (Wt ?_);refine Zp (BY (l.take k) _ (nth l k) (by simp;omega)) (Wt ?_);refine cD ?_ ?_<;>intro h2<;>simp (disch:=omega) only [Sh.out h2,go_sem,seval,↓reduceIte]
   ·grind [KH]
   ·exact ⟨k+1,⟨Za,Zm.2 ⟨hno,by grind⟩⟩,Za,wk⟩
  grind [KH]
theorem Da (l:List Vis) (c:Bool) (g:FuncId) (caps:List V) (H:List AM.Obj) (f:Vis->Bool) (hl:l.length<=1048576) (hW:MV H H.length H H) (hc:Xd H.length caps=true)
  (hg: ∀v∈l,ACalls Tryz.prog g (.p (Xc v)::caps) H fun x H'=>x= .p (.bool (f v))/\H'=H) :
  ACalls Tryz.prog 225 [.p (.list c (l.map Xc)),.fn (.func g) [] caps] H fun x H'=>x= .p (.int .i64 (Gf f l))/\H'=H:=by
 refine Yc Tryz.func225 rfl zM (Zg [] _ _ _ _ ?_);simp (disch:=omega) only [Tryz.f225,go_sem,seval];refine Zk [0,1,7] (fun k:Nat=> [(8,.p (.int .i64 k))]) (fun _=>H) (fun k=>k<=l.length/\ ∀j,j<k->f (nth l j)=false) (fun k=>l.length-k) 0 Zb (Weak.mk ?_) ?_
 ·simp (disch:=omega) only [hW,hc,go_sem,seval];simp
 ·rintro k ⟨hk,hno⟩;refine Wt ?_;refine cD ?_ ?_<;>intro h<;>simp (disch:=omega) only [Sh.out h,go_sem,seval,↓reduceIte]
  ·have hk2:k<l.length:=Za
   refine (hg (nth l k) (Zq hk2)).useH (Wt ?_);refine cD ?_ ?_<;>intro h2<;>simp (disch:=omega) only [Sh.out h2,go_sem,seval,↓reduceIte]
   ·grind [HL]
   ·have h3:f (nth l k)=false:=Za
    refine ⟨k+1,⟨Za,Zm.2 ⟨hno,h3⟩⟩,Za,Weak.mk ?_⟩;simp (disch:=omega) only [hW,hc,go_sem,seval];simp
  grind [NE]
theorem UC (l:List Vis) (c:Bool) (g:FuncId) (caps:List V) (H:List AM.Obj) (f:Vis->Bool) (hl:l.length<=1048576) (hW:MV H H.length H H) (hc:Xd H.length caps=true)
  (hg: ∀v∈l,ACalls Tryz.prog g (.p (Xc v)::caps) H fun x H'=>x= .p (.bool (f v))/\H'=H) :
  ACalls Tryz.prog 167 [.p (.list c (l.map Xc)),.fn (.func g) [] caps] H fun x H'=>x= .p (.bool (l.any f))/\H'=H:=by
 refine Yc Tryz.func167 rfl yL (Zg [] _ _ _ _ ?_);simp (disch:=omega) only [Tryz.f167,go_sem,seval];refine (Da l c g caps H f hl hW hc hg).useH (Wt ?_);rw [ND]
def hasO (l:List Vis) (o:Int):Bool:=l.any fun v=>decide (v.order=o)
theorem wW (v:Vis) (o:Int):ACalls Tryz.prog 288 [.p (Xc v),.ptr 0 0] [.cells [.p (.int .i64 o)]] fun x H'=>x= .p (.bool (decide (v.order=o)))/\H'= [.cells [.p (.int .i64 o)]]:=by
 refine Zf [] Tryz.func288 rfl ZaI ?_;simp (disch:=omega) only [Tryz.f288,go_sem,seval];exact we
theorem RG (v:Vis) (o:Int):ACalls Tryz.prog 289 [.p (Xc v),.ptr 0 0] [.cells [.p (.int .i64 o)]] fun x H'=>x= .p (.bool (decide (v.order=o)))/\H'= [.cells [.p (.int .i64 o)]]:=by
 refine Zf [] Tryz.func289 rfl ZaJ ?_;simp (disch:=omega) only [Tryz.f289,go_sem,seval];exact we
theorem Ca (l:List Vis) (c:Bool) (o:Int) (hl:l.length<=1048576):PC 262 [.p (.list c (l.map Xc)),.p (.int .i64 o)] (.bool (hasO l o)):=by
 refine Zc Tryz.func262 rfl Zam ?_;simp (disch:=omega) only [Tryz.f262,go_sem,seval];refine (UC l c 288 [.ptr 0 0] [.cells [.p (.int .i64 o)]] (fun v=>decide (v.order=o)) hl (by simp (disch:=omega) only [go_sem,seval]) (by rfl) (fun v _=>wW v o)).useH (Wt ?_);rw [hasO]
def beforeB (l:List Vis) (a b:Int):Bool:=if Gf (fun v=>decide (v.order=b)) l<0 then true else hasO l a&& !hasO (l.drop (Gf (fun v=>decide (v.order=b)) l).toNat) a
theorem Mv (l:List Vis) (c:Bool) (a b:Int) (hl:l.length<=1048576):PC 263 [.p (.list c (l.map Xc)),.p (.int .i64 a),.p (.int .i64 b)] (.bool (beforeB l a b)):=by
 refine Zc Tryz.func263 rfl Zan ?_;simp (disch:=omega) only [Tryz.f263,go_sem,seval];refine (Da l c 289 [.ptr 0 0] [.cells [.p (.int .i64 b)]] (fun v=>decide (v.order=b)) hl (by simp (disch:=omega) only [go_sem,seval]) (by rfl) (fun v _=>RG v b)).useH ?_;have hlt:=cF (f:=fun v=>decide (v.order=b)) (l:=l);refine Wt ?_;refine cD ?_ ?_<;>intro h<;>simp (disch:=omega) only [Sh.out h,go_sem,seval]
 ·rw [beforeB,if_pos h]
 ·refine (Ca l c a hl).use (Wt ?_);generalize hq:Gf (fun v=>decide (v.order=b)) l=q at hlt h ⊢
  cases h2:hasO l a with
  | false =>
   refine Wt ?_
   simp_all [beforeB]
  | true =>
   simp (disch:=omega) only [X7,go_sem,seval];refine (Ca (l.drop q.toNat) _ a (by simp;omega)).use (Wt ?_)
   simp_all [beforeB,if_neg]
def Qk (l:List Vis):Int->List Vis->Bool
 | _,[]=>true
 | last,w::r=>decide (last<vIx l w)&&Qk l (vIx l w) r
def pairB (os:List Ord) (l:List Vis) (v:Vis):Bool:=decide (0<=vIx (ZX os v.order.toNat) v)&&Qk l (-1) (ZX os v.order.toNat)
theorem Mx (x:Inst) (l:List Vis) (c:Bool) (hl:l.length<=1048576) (ho:x.orders.length<=1048576) (hv: ∀v∈l,0<=v.order/\v.order<x.orders.length) :
  PC 261 [.p (ZG x),.p (.list c (l.map Xc))] (.bool (l.all (pairB x.orders l))):=by
 refine Zc Tryz.func261 rfl Zal ?_;simp (disch:=omega) only [Tryz.f261,go_sem,seval];refine Zk [1,2,12,13] (fun k:Nat=> [(14,.p (.int .i64 k))]) (fun _=> [Zj x]) (fun k=>k<=l.length/\ ∀j,j<k->pairB x.orders l (nth l j)=true) (fun k=>l.length-k) 0 Zb (Weak.mk ?_) ?_
 ·simp (disch:=omega) only [Zj,go_sem,seval]
 ·rintro k ⟨hk,hno⟩;refine Wy ?_;refine cD ?_ ?_<;>intro h<;>simp (disch:=omega) only [Sh.out h,go_sem,seval,↓reduceIte]
  ·have hk2:k<l.length:=Za
   obtain ⟨v1,v2⟩:=hv _ (Zq hk2)
   have hbad:pairB x.orders l (nth l k)=false->l.all (pairB x.orders l)=false:=fun h4=>by
    grind [Zq]
   obtain ⟨i,hi⟩: ∃i:Nat,(nth l k).order=(i:Int):=⟨(nth l k).order.toNat,Za⟩
   have hp:pairB x.orders l (nth l k)=(decide (0<=vIx (ZX x.orders i) (nth l k))&&Qk l (-1) (ZX x.orders i)):=by rw [pairB,hi];rfl
   rw [hi] at v1 v2;simp (disch:=omega) only [hi,go_sem,seval];refine (visits_c x.orders x.orders_c i Za ho).use (Wt ?_);have hvl:=Vm x.orders i;have hcon:=HE (ZX x.orders i) false (nth l k) Za;rw [O4,hi] at hcon;refine (hcon).use (Wt ?_);refine cD ?_ ?_<;>intro h2<;>simp (disch:=omega) only [Sh.out h2,go_sem,seval]
   ·grind
   ·have h2':0<=vIx (ZX x.orders i) (nth l k):=Za
    generalize hown:ZX x.orders i=own at hvl hp h2' ⊢
    have hp2:pairB x.orders l (nth l k)=Qk l (-1) own:=by grind
    refine Zk [1,2,12,13,14,27,28] (fun q:Nat×Int=> [(8,.p (.int .i64 q.2)),(29,.p (.int .i64 q.1))]) (fun _=> [Zj x,.cells [.p (.int .i64 (i:Int)),.p (.bool (nth l k).drp)]]) (fun q=>q.1<=own.length/\Qk l (-1) own=Qk l q.2 (own.drop q.1)) (fun q=>own.length-q.1) (0,-1) Zb (Weak.mk ?_) ?_
    ·simp (disch:=omega) only [Zj,go_sem,seval]
    ·rintro ⟨j,last⟩ ⟨hj,ha⟩;simp only at hj ha;refine Wy ?_;refine ZN ?_ ?_<;>intro h3
     ·have hj2:j<own.length:=Za
      have hd:own.drop j=nth own j::own.drop (j+1):=by rw [UG hj2,Ze hj2]
      rw [hd] at ha;refine (BY l c (nth own j) hl).use (Wt ?_);refine ZN ?_ ?_<;>intro h4
      ·grind [Qk]
      ·have h5:last<vIx l (nth own j):=Za
       exact ⟨(j+1,vIx l (nth own j)),⟨Za,by grind [Qk]⟩,Za,wk⟩
     ·have hjl:j=own.length:=Za
      subst hjl;exact ⟨k+1,⟨Za,Zm.2 ⟨hno,by grind [Qk]⟩⟩,Za,wk⟩
  ·have hkl:k=l.length:=Za
   subst hkl
   have:l.all (pairB x.orders l)=true:=by
    rw [Zv];intro v hv;obtain ⟨j,hj,rfl⟩:=ZP.1 hv
    grind [Ze]
   rw [this]
def Xb (r:Rte):AM.Obj:= .cells [.p (.int .i64 r.typ),.p (.int .i64 r.start),.p (.list r.rests_c (r.rests.map eB)),.p (.list r.visits_c (r.visits.map Xc))]
def VQ (x:Inst) (v:Vis):Bool:= !decide (0<=v.order/\v.order<(x.orders.length:Int))
theorem aT (x:Inst) (r:Rte) (v:Vis) (ho:x.orders.length<=1048576):ACalls Tryz.prog 258 [.p (Xc v),.ptr 0 0] [Zj x,Xb r] fun y H'=>y= .p (.bool (VQ x v))/\H'= [Zj x,Xb r]:=by
 refine Zf [] Tryz.func258 rfl Zai ?_;simp (disch:=omega) only [Tryz.f258,Zj,Xb,go_sem,seval];refine gF ?_ ?_<;>intro h<;>simp (disch:=omega) only [Sh.out h,go_sem,seval,↓reduceIte]
 ·have e:VQ x v=true:=by
   grind [VQ]
  rw [e];exact we
 ·have e:VQ x v=decide ((x.orders.length:Int)<=v.order):=by
   have h0:0<=v.order:=Za
   rw [YO];simp [VQ,h0]
  rw [e];exact we
theorem aU (x:Inst) (r:Rte) (v:Vis) (ho:x.orders.length<=1048576) (h1:0<=v.order) (h2:v.order<x.orders.length):ACalls Tryz.prog 259 [.p (Xc v),.ptr 0 0] [Zj x,Xb r] fun y H'=>y= .p (.bool (nth x.orders v.order.toNat).off)/\H'= [Zj x,Xb r]:=by
 have h3:v.order.toNat<x.orders.length:=Za
 refine Zf [] Tryz.func259 rfl Zaj ?_;simp (disch:=omega) only [Tryz.f259,Zj,Xb,go_sem,seval];exact we
def Xl (x:Inst) (l:List Vis):Int :=
 if l.length=0\/l.any (VQ x)=true then 2
 else if (l.any fun v=>(nth x.orders v.order.toNat).off)=true then 9
 else if KH l=true then 6
 else if l.all (pairB x.orders l)=false then 19
 else if (x.apart.any fun p=>hasO l p.1&&hasO l p.2)=true then 20
 else if (x.before.any fun p=> !beforeB l p.1 p.2)=true then 21
 else 0
theorem Dk {P Q:Prop} (h:Q) (e:Q->P:=by intro h;simp (disch:=omega) only [Zj,Xb,go_sem,seval];exact h):P:=e h
theorem Zh7 (x:Inst) (r:Rte) (ho:x.orders.length<=1048576) (hl:r.visits.length<=1048576) (hap:x.apart.length<=1048576) (hbe:x.before.length<=1048576) :
  PC 218 [.p (ZG x),.p (Wc r)] (.int .i64 (Xl x r.visits)):=by
 refine Zc Tryz.func218 rfl zG ?_;simp (disch:=omega) only [Tryz.f218,go_sem,seval];refine gF ?_ ?_<;>intro h0<;>simp (disch:=omega) only [Sh.out h0,go_sem,seval]
 ·grind [Xl]
 ·have h00: ¬r.visits.length=0:=Za
  refine (UC r.visits r.visits_c 258 [.ptr 0 0] [Zj x,Xb r] (VQ x) hl (by simp (disch:=omega) only [Zj,Xb,go_sem,seval]) (by rfl) (fun v _=>aT x r v ho)).useH (Dk ?_);refine cD ?_ ?_<;>intro h1<;>simp (disch:=omega) only [Sh.out h1,go_sem,seval]
  ·simp_all [Xl]
  ·have h1':r.visits.any (VQ x)=false:=Za
   have c1: ¬(r.visits.length=0\/r.visits.any (VQ x)=true):=by grind
   have hin: ∀v∈r.visits,0<=v.order/\v.order<x.orders.length:=fun v hv=>by
    grind [VQ]
   refine (UC r.visits r.visits_c 259 [.ptr 0 0] [Zj x,Xb r] (fun v=>(nth x.orders v.order.toNat).off) hl (by simp (disch:=omega) only [Zj,Xb,go_sem,seval]) (by rfl) (fun v hv=>aU x r v ho (hin v hv).1 (hin v hv).2)).useH (Dk ?_);refine cD ?_ ?_<;>intro h2<;>simp (disch:=omega) only [Sh.out h2,go_sem,seval]
   ·simp_all [Xl]
   ·refine (qA r.visits r.visits_c hl).use (Wt ?_);refine cD ?_ ?_<;>intro h3<;>simp (disch:=omega) only [Sh.out h3,go_sem,seval,↓reduceIte]
    ·simp_all [Xl,if_neg]
    ·refine (Mx x r.visits r.visits_c hl ho hin).use (Wt ?_);refine cD ?_ ?_<;>intro h4<;>simp (disch:=omega) only [Sh.out h4,go_sem,seval,↓reduceIte]
     ·simp_all [Xl,if_neg]
     ·have h4':r.visits.all (pairB x.orders r.visits)=true:=by grind
      have hc:Xl x r.visits=if (x.apart.any fun p=>hasO r.visits p.1&&hasO r.visits p.2)=true then 20 else if (x.before.any fun p=> !beforeB r.visits p.1 p.2)=true then 21 else 0:=by
       rw [Xl,if_neg c1,if_neg (by grind),if_neg (by grind),if_neg (by grind)]
      clear h4 h4' h3 h2 c1 h1' h1 h0;refine Zk [2,5,33,34] (fun k:Nat=> [(35,.p (.int .i64 k))]) (fun _=> [Zj x,Xb r]) (fun k=>k<=x.apart.length/\ ∀j,j<k->(hasO r.visits (nth x.apart j).1&&hasO r.visits (nth x.apart j).2)=false) (fun k=>x.apart.length-k) 0 Zb (Weak.mk ?_) ?_
      ·simp (disch:=omega) only [Zj,Xb,go_sem,seval]
      ·rintro k ⟨hk,hno⟩;refine Dk ?_;refine cD ?_ ?_<;>intro h<;>simp (disch:=omega) only [Sh.out h,go_sem,seval,↓reduceIte]
       ·have hk2:k<x.apart.length:=Za
        refine (Ca r.visits r.visits_c (nth x.apart k).1 hl).use (Wt ?_);refine J6 ?_ ?_<;>intro h2
        ·refine (Ca r.visits r.visits_c (nth x.apart k).2 hl).use (Wt ?_);refine ZN ?_ ?_<;>intro h3
         ·rw [hc,if_pos (W7 hk2 (by grind))]
         ·exact ⟨k+1,⟨Za,Zm.2 ⟨hno,by grind⟩⟩,Za,wk⟩
        ·exact ⟨k+1,⟨Za,Zm.2 ⟨hno,by simp [h2]⟩⟩,Za,wk⟩
       ·have hkl:k=x.apart.length:=Za
        subst hkl;rw [hc,Qj hno];clear hno hk h hc;rw [if_neg Zb];refine Zk [5,51,52] (fun k:Nat=> [(53,.p (.int .i64 k))]) (fun _=> [Zj x,Xb r]) (fun k=>k<=x.before.length/\ ∀j,j<k->(!beforeB r.visits (nth x.before j).1 (nth x.before j).2)=false) (fun k=>x.before.length-k) 0 Zb (Weak.mk ?_) ?_
        ·simp (disch:=omega) only [Zj,Xb,go_sem,seval]
        ·rintro k ⟨hk,hno⟩;refine Dk ?_;refine cD ?_ ?_<;>intro h<;>simp (disch:=omega) only [Sh.out h,go_sem,seval,↓reduceIte]
         ·have hk2:k<x.before.length:=Za
          refine (Mv r.visits r.visits_c (nth x.before k).1 (nth x.before k).2 hl).use (Wt ?_);refine ZN ?_ ?_<;>intro h2
          ·have h3:(!beforeB r.visits (nth x.before k).1 (nth x.before k).2)=true:=Za
           rw [if_pos (W7 hk2 h3)]
          ·have h3:(!beforeB r.visits (nth x.before k).1 (nth x.before k).2)=false:=Za
           exact ⟨k+1,⟨Za,Zm.2 ⟨hno,h3⟩⟩,Za,wk⟩
         grind [Qj]
@[go_sem] theorem Zjx {H:List AM.Obj} {n cs cs'} :Fu H n (.tup cs) (.tup cs')=(cs'=cs/\Xd n cs=true):=by simp [Fu,kA,refB]
@[go_sem] theorem Oe {a b:V} :Vk [a,b]= .tup [a,b]:=Zh rfl rfl
theorem Dx {g:FuncId} {args:List V} {a b:PV} {H:List AM.Obj} {K:V->List AM.Obj->Prop} (h:ACalls Tryz.prog g args [] fun x H'=>x= .tup [.p a,.p b]/\H'= []) (k:K (.tup [.p a,.p b]) H) (ha:Xd 0 args=true:=by rfl):ACalls Tryz.prog g args H K :=
 (h.behind ha H).mono fun x H' hq=>by
  obtain ⟨y,H1,⟨rfl,rfl⟩,rfl,rfl⟩:=hq
  grind [shV,shVs]
def Z8 (l:List Vis):Nat:=l.foldl (fun s v=>s|||pw v.order.toNat) 0
def FK (v:Vis):Bool:=decide (0<=v.order/\v.order<=62)
theorem CN {l:List Vis} {k:Nat} (hk:k<l.length):Z8 (l.take (k+1))=Z8 (l.take k)|||pw (nth l k).order.toNat:=by
 grind [Xo,Z8,Ze]
theorem Ag : ∀(k:Nat) {l:List Vis},k<=l.length->(∀v∈l.take k,FK v=true)->Z8 (l.take k)<9223372036854775808
 | 0,l,_,_=>by simp [Z8]
 | k+1,l,hk,h=>by
  have hk2:k<l.length:=Za
  have ih:=Ag k (l:=l) Za fun v hv=>h v (List.take_subset_take_left l Za hv);have hv:=h (nth l k) (by rw [Ze hk2];exact ZP.2 ⟨k,by simp;omega,Zb⟩);simp only [FK,Zl] at hv;have h2:pw (nth l k).order.toNat<=pw 62:=Dg Za;have h3:=GO;rw [CN hk2];exact Qt (n:=63) Za Za
def JF (l:List Vis):Int×Int:=if l.all FK=true then (((Z8 l:Nat):Int),0) else (0,2)
theorem Mw (r:Rte) (hl:r.visits.length<=1048576):PT 59 [.p (Wc r)] [.p (.int .i64 (JF r.visits).1),.p (.int .i64 (JF r.visits).2)]:=by
 refine Zf [] Tryz.func59 rfl Zhu ?_;simp (disch:=omega) only [Tryz.f59,go_sem,seval];refine Zk [8,9] (fun k:Nat=> [(4,.p (.int .i64 (Z8 (r.visits.take k):Nat))),(10,.p (.int .i64 k))]) (fun _=> [Xb r]) (fun k=>k<=r.visits.length/\ ∀j,j<k->FK (nth r.visits j)=true) (fun k=>r.visits.length-k) 0 Zb (Weak.mk ?_) ?_
 ·simp (disch:=omega) only [Xb,Z8,WV,Qv,go_sem,seval]
 ·rintro k ⟨hk,hno⟩
  have hlt:=Ag k hk fun v hv=>by
   obtain ⟨j,hj,rfl⟩:=ZP.1 hv
   grind [Ze]
  simp (disch:=omega) only [Xb,go_sem,seval];refine cD ?_ ?_<;>intro h<;>simp (disch:=omega) only [Sh.out h,go_sem,seval,↓reduceIte]
  ·have hk2:k<r.visits.length:=Za
   have hbad:FK (nth r.visits k)=false->JF r.visits=(0,2):=fun h4=>by
    grind [Zq,JF]
   have hs:=CN hk2
   have hp:(nth r.visits k).order<=62->pw (nth r.visits k).order.toNat<=4611686018427387904:=fun h=>by rw [<- GO];exact Dg Za
   refine gF ?_ ?_<;>intro h1<;>simp (disch:=omega) only [Sh.out h1,go_sem,seval,↓reduceIte]
   ·have e:=hbad (by simp [FK];omega);rw [e];exact we
   ·refine ZN ?_ ?_<;>intro h2
    ·have e:=hbad (by simp [FK];omega);rw [e];exact we
    ·exact ⟨k+1,⟨Za,Zm.2 ⟨hno,by simp [FK];omega⟩⟩,Za,Weak.mk (by simp (disch:=omega) only [hs,go_sem,seval])⟩
  ·have hkl:k=r.visits.length:=Za
   subst hkl
   have:r.visits.all FK=true:=by
    rw [Zv];intro v hv;obtain ⟨j,hj,rfl⟩:=ZP.1 hv
    grind [Ze]
   have e:JF r.visits=(((Z8 r.visits:Nat):Int),0):=by simp [JF,this]
   rw [e,X7];exact we
def Qm (a b:Int):Int:=if a<b then-1 else if b<a then 1 else 0
theorem Pn (a:Int):PC 158 [.p (.int .i64 a)] (.bool false):=by
 refine Zc Tryz.func158 rfl yI ?_;simp (disch:=omega) only [Tryz.f158,go_sem,seval]
 try simp
theorem Ga (a b:Int):PC 106 [.p (.int .i64 a),.p (.int .i64 b)] (.int .i64 (Qm a b)):=by
 refine Zc Tryz.func106 rfl xG ?_;simp (disch:=omega) only [Tryz.f106,go_sem,seval];refine (Pn a).use (Wt ?_);refine (Pn b).use (Wt ?_);refine cD ?_ ?_<;>intro h<;>simp (disch:=omega) only [Sh.out h,go_sem,seval]
 ·simp [Qm,h]
 ·refine cD ?_ ?_<;>intro h2<;>simp (disch:=omega) only [Sh.out h2,go_sem,seval]
  ·simp [Qm,h,h2]
  grind [Qm]
def oE (l:List Int):Int:=(l.find? fun n=>decide (n≠0)).getD 0
theorem ZbF {l:List Int} {k:Nat} (hk:k<l.length) (h:nth l k≠0) (hno: ∀j,j<k->nth l j=0):oE l=nth l k:=by
 grind [nth,List.find?_eq_some_iff_getElem,oE]
theorem ZbG {l:List Int} (hno: ∀j,j<l.length->nth l j=0):oE l=0:=by
 have:l.find? (fun n=>decide (n≠0))=none:=by
  rw [Ju];intro x hx;obtain ⟨j,hj,rfl⟩:=ZP.1 hx
  grind [Ze]
 grind [oE]
theorem ZbH (l:List Int) (c:Bool) (hl:l.length<=100):PC 105 [.p (.list c (l.map eI))] (.int .i64 (oE l)):=by
 refine Zc Tryz.func105 rfl xF ?_;simp (disch:=omega) only [Tryz.f105,go_sem,seval];refine Zk [3,6,7] (fun k:Nat=> [(8,.p (.int .i64 k))]) (fun _=> []) (fun k=>k<=l.length/\ ∀j,j<k->nth l j=0) (fun k=>l.length-k) 0 Zb (Weak.mk ?_) ?_
 ·simp (disch:=omega) only [go_sem,seval]
 ·rintro k ⟨hk,hno⟩;refine Wt ?_;refine cD ?_ ?_<;>intro h<;>simp (disch:=omega) only [Sh.out h,go_sem,seval,↓reduceIte]
  ·have hk2:k<l.length:=Za
   refine ZN ?_ ?_<;>intro h2
   ·grind [ZbF]
   ·exact ⟨k+1,⟨Za,Zm.2 ⟨hno,Za⟩⟩,Za,wk⟩
  grind [ZbG]
theorem H8 (a b:Int):oE [a,b]=if a=0 then b else a:=by
 grind [oE]
def dn (v:Vis):Int:=if v.drp=true then 1 else 0
theorem L3 (v:Vis):PC 315 [.p (Xc v)] (.int .i64 (dn v)):=by
 refine Zc Tryz.func315 rfl Za8 ?_;simp (disch:=omega) only [Tryz.f315,go_sem,seval];refine cD ?_ ?_<;>intro h<;>simp (disch:=omega) only [Sh.out h,go_sem,seval]
 ·simp [dn,h]
 ·simp [dn,h]
def bF (a b:Vis):Int:=if Qm a.order b.order=0 then Qm (dn a) (dn b) else Qm a.order b.order
theorem R0 (a b:Vis):PC 300 [.p (Xc a),.p (Xc b)] (.int .i64 (bF a b)):=by
 refine Zc Tryz.func300 rfl ZaU ?_;simp (disch:=omega) only [Tryz.f300,go_sem,seval];refine XR (Wt ?_);refine Zp (Ga a.order b.order) (Wt ?_);refine Zp (L3 a) (Wt ?_);refine Zp (L3 b) (Wt ?_);refine Zp (Ga (dn a) (dn b)) (Wt ?_);refine Zp (ZbH [Qm a.order b.order,Qm (dn a) (dn b)] false Zb) (Wt ?_);rw [H8,bF]
def LM : List Vis->List Vis->Int
 | [],[]=>0
 | [],_::_=> -1
 | _::_,[]=>1
 | a::r,b::s=>if bF a b=0 then LM r s else bF a b
theorem Bm {α:Type} [Inhabited α] {l:List α} {k:Nat} (h:k<l.length):l.drop k=nth l k::l.drop (k+1):=by rw [UG h,Ze h]
theorem FF (a b:List Vis) (c d:Bool) (ha:a.length<=1048576) (hb:b.length<=1048576) :
  PC 299 [.p (.list c (a.map Xc)),.p (.list d (b.map Xc)),.fn (.func 300) [] []] (.int .i64 (LM a b)):=by
 refine Zc Tryz.func299 rfl ZaT ?_;simp (disch:=omega) only [Tryz.f299,go_sem,seval];refine Zk [0,1,2,11,12] (fun k:Nat=> [(13,.p (.int .i64 k))]) (fun _=> []) (fun k=>k<=a.length/\k<=b.length/\LM a b=LM (a.drop k) (b.drop k)) (fun k=>a.length-k) 0 Zb (Weak.mk ?_) ?_
 ·simp (disch:=omega) only [go_sem,seval,↓reduceIte]
 ·rintro k ⟨hk,hkb,hle⟩;refine Wt ?_;refine cD ?_ ?_<;>intro h<;>simp (disch:=omega) only [Sh.out h,go_sem,seval,↓reduceIte]
  ·have hk2:k<a.length:=Za
   rw [Bm hk2] at hle;refine cD ?_ ?_<;>intro h2<;>simp (disch:=omega) only [Sh.out h2,go_sem,seval,↓reduceIte]
   ·have:b.drop k= []:=Jt Za;rw [hle,this];rfl
   ·have hk3:k<b.length:=Za
    rw [Bm hk3] at hle;refine (R0 (nth a k) (nth b k)).use (Wt ?_);refine cD ?_ ?_<;>intro h3<;>simp (disch:=omega) only [Sh.out h3,go_sem,seval,↓reduceIte]
    ·simp_all [LM]
    ·have h4:bF (nth a k) (nth b k)=0:=Za
     exact ⟨k+1,⟨Za,Za,by simp_all [LM]⟩,Za,wk⟩
  ·have hkl:k=a.length:=Za
   subst hkl;rw [KY] at hle;refine cD ?_ ?_<;>intro h2<;>simp (disch:=omega) only [Sh.out h2,go_sem,seval]
   ·rw [Bm Za] at hle;rw [hle];rfl
   ·have:b.drop a.length= []:=Jt Za;rw [hle,this];rfl
theorem Tb (a b:List Vis) (c d:Bool) (ha:a.length<=1048576) (hb:b.length<=1048576):PC 276 [.p (.list c (a.map Xc)),.p (.list d (b.map Xc))] (.bool (decide (LM a b<0))):=by
 refine Zc Tryz.func276 rfl Zaz ?_;simp (disch:=omega) only [Tryz.f276,go_sem,seval];refine (FF a b c d ha hb).use ?_;simp (disch:=omega) only [go_sem,seval]
def BZ (l:List Vis) (v:Vis):List Vis->Bool
 | []=>true
 | w::r=>if w=v then true else decide (0<=vIx l w)&&BZ l v r
def Ut (l own:List Vis):Bool:=own.all fun w=>decide (0<=vIx l w)
def Ee (os:List Ord) (l:List Vis) (o:Int) (p:Int×Int):Bool:=decide (p.2≠o)||Ut l (ZX os p.1.toNat)
def UR (x:Inst) (l:List Vis) (v:Vis):Bool:=decide (vIx l v<0)&&BZ l v (ZX x.orders v.order.toNat)&&x.before.all (Ee x.orders l v.order)
def Qg (v:Vis):AM.Obj:= .cells [.p (.int .i64 v.order),.p (.bool v.drp)]
theorem jF {l:List Vis} {v:Vis} : -1<=vIx l v/\vIx l v<l.length:=by
 simp_all [cF,vIx]
theorem Ol (x:Inst) (l:List Vis) (c:Bool) (v:Vis) (hl:l.length<=1048576) (ho:x.orders.length<=1048576) (hbl:x.before.length<=1048576) (hv:0<=v.order/\v.order<x.orders.length) (hb: ∀p∈x.before,0<=p.1/\p.1<x.orders.length) :
  PC 277 [.p (ZG x),.p (.list c (l.map Xc)),.p (Xc v)] (.bool (UR x l v)):=by
 refine Q8 [3] Tryz.func277 rfl ZaA ?_;simp (disch:=omega) only [Tryz.f277,go_sem,seval];refine (BY l c v hl).use (Wt ?_);refine cD ?_ ?_<;>intro h<;>simp (disch:=omega) only [Sh.out h,go_sem,seval]
 ·grind [UR]
 ·have h1:vIx l v<0:=Za
  obtain ⟨i,hi⟩: ∃i:Nat,v.order=(i:Int):=⟨v.order.toNat,Za⟩
  have hr:UR x l v=(BZ l v (ZX x.orders i)&&x.before.all (Ee x.orders l v.order)):=by
   grind [UR]
  have hvi:=visits_c x.orders x.orders_c i Za ho;rw [<- hi] at hvi;refine ZJ [1,3,5] (fun _:Unit=> []) (fun _=> [Zj x,Qg v]) (fun _=>BZ l v (ZX x.orders i)=true) ?_ ?_
  ·refine Wt ?_;refine (hvi).use (Wt ?_);have hvl:=Vm x.orders i;generalize hown:ZX x.orders i=own at hvl hr ⊢;refine Zk [1,3,5,21,22] (fun k:Nat=> [(23,.p (.int .i64 k))]) (fun _=> [Zj x,Qg v]) (fun k=>k<=own.length/\BZ l v own=BZ l v (own.drop k)) (fun k=>own.length-k) 0 Zb (Weak.mk ?_) ?_
   ·simp (disch:=omega) only [Zj,Qg,go_sem,seval]
   ·rintro k ⟨hk,hp⟩;simp (disch:=omega) only [Zj,Qg,go_sem,seval];refine ZN ?_ ?_<;>intro h2
    ·have hk2:k<own.length:=Za
     rw [Bm hk2] at hp;refine ZN ?_ ?_<;>intro h3
     ·have h4:nth own k=v:=by grind [Iz]
      exact ⟨(),by simp_all [BZ],wk⟩
     ·have h4: ¬nth own k=v:=by grind
      refine (BY l c (nth own k) hl).use (Wt ?_);refine ZN ?_ ?_<;>intro h5
      ·have h6: ¬ 0<=vIx l (nth own k):=Za
       simp_all [BZ]
      ·have h6:0<=vIx l (nth own k):=Za
       exact ⟨k+1,⟨Za,by simp_all [BZ]⟩,Za,wk⟩
    ·have hkl:k=own.length:=Za
     subst hkl;exact ⟨(),by rw [hp,KY];rfl,wk⟩
  ·rintro _ hpre;rw [hpre,Vg] at hr;refine Zg [] _ _ _ _ ?_;simp (disch:=omega) only [Zj,Qg,go_sem,seval];refine Zk [1,3,5,36,37] (fun k:Nat=> [(38,.p (.int .i64 k))]) (fun _=> [Zj x,Qg v]) (fun k=>k<=x.before.length/\ ∀j,j<k->Ee x.orders l v.order (nth x.before j)=true) (fun k=>x.before.length-k) 0 Zb (Weak.mk ?_) ?_
   ·simp (disch:=omega) only [Zj,Qg,go_sem,seval]
   ·rintro k ⟨hk,hno⟩;simp (disch:=omega) only [Zj,Qg,go_sem,seval];refine cD ?_ ?_<;>intro h2<;>simp (disch:=omega) only [Sh.out h2,go_sem,seval,↓reduceIte]
    ·have hk2:k<x.before.length:=Za
     have hbk:=hb _ (Zq hk2)
     have hbad:Ee x.orders l v.order (nth x.before k)=false->UR x l v=false:=fun h4=>by
      grind [Zq]
     refine ZN ?_ ?_<;>intro h3
     ·exact ⟨k+1,⟨Za,Zm.2 ⟨hno,by simp [Ee,h3]⟩⟩,Za,wk⟩
     ·obtain ⟨a,hao⟩: ∃a:Nat,(nth x.before k).1=(a:Int):=⟨(nth x.before k).1.toNat,Za⟩;have hva:=visits_c x.orders x.orders_c a Za ho;rw [<- hao] at hva
      have h3':(nth x.before k).2=v.order:=Za
      have hbe:Ee x.orders l v.order (nth x.before k)=Ut l (ZX x.orders a):=by grind [Ee]
      refine (hva).use (Wt ?_);have hvl:=Vm x.orders a;generalize hown:ZX x.orders a=own at hvl hbe ⊢;refine Zk [1,3,5,36,37,38,51,52] (fun k:Nat=> [(53,.p (.int .i64 k))]) (fun _=> [Zj x,Qg v,.cells [.p (.int .i64 (nth x.before k).1),.p (.int .i64 (nth x.before k).2)]]) (fun q=>q<=own.length/\ ∀j,j<q->decide (0<=vIx l (nth own j))=true) (fun k=>own.length-k) 0 Zb (Weak.mk ?_) ?_
      ·simp (disch:=omega) only [Zj,Qg,go_sem,seval]
      ·rintro q ⟨hq,hnq⟩;simp (disch:=omega) only [Zj,Qg,go_sem,seval];refine ZN ?_ ?_<;>intro h4
       ·have hq2:q<own.length:=Za
        refine (BY l c (nth own q) hl).use (Wt ?_);refine ZN ?_ ?_<;>intro h5
        ·grind [Ut,Zq]
        ·exact ⟨q+1,⟨Za,Zm.2 ⟨hnq,by simp;omega⟩⟩,Za,wk⟩
       ·have hql:q=own.length:=Za
        subst hql
        have:Ut l own=true:=by
         rw [Ut,Zv];intro w hw;obtain ⟨j,hj,rfl⟩:=ZP.1 hw
         grind [Ze]
        exact ⟨k+1,⟨Za,Zm.2 ⟨hno,by grind⟩⟩,Za,wk⟩
    ·have hkl:k=x.before.length:=Za
     subst hkl
     have:x.before.all (Ee x.orders l v.order)=true:=by
      rw [Zv];intro w hw;obtain ⟨j,hj,rfl⟩:=ZP.1 hw
      grind [Ze]
     rw [hr,this]
def JR (x:Inst) (S:Nat) (l:List Vis) (i:Nat):List Vis:=if S.testBit i=true/\(nth x.orders i).off=false then (ZX x.orders i).filter (UR x l) else []
def nextU (x:Inst) (S:Nat) (l:List Vis) (k:Nat):List Vis:=(List.range k).flatMap (JR x S l)
theorem EM (x S l k):nextU x S l (k+1)=nextU x S l k++JR x S l k:=by simp [nextU,Yx]
theorem Sy (x S l i):(JR x S l i).length<=2:=by
 grind [JR,Vm]
theorem CK (x S l): ∀k,(nextU x S l k).length<=2*k
 | 0=>by simp [nextU]
 | k+1=>by
  have h1:=CK x S l k;have h2:=Sy x S l k;rw [EM,Zn];omega
theorem Tc (x:Inst) (S:Nat) (l:List Vis) (c:Bool) (hS:S<9223372036854775808) (hl:l.length<=1048576) (ho:x.orders.length<=60) (hbl:x.before.length<=1048576) (hb: ∀p∈x.before,0<=p.1/\p.1<x.orders.length) :
  PC 240 [.p (ZG x),.p (.int .i64 (S:Nat)),.p (.list c (l.map Xc))] (.list false ((nextU x S l x.orders.length).map Xc)):=by
 refine ACalls.frozen (S:=2) (n:=(nextU x S l x.orders.length).length) Zb ?_
 suffices hh:ACalls Tryz.prog 240 [.p (ZG x),.p (.int .i64 (S:Nat)),.p (.list c (l.map Xc))] [] fun y H'=> ∃m:List Vis,m=nextU x S l x.orders.length/\y= .sl 0 0 m.length m.length/\H'= [.elems 2 (m.map Xc)] by
  grind
 refine Z9 [2] Tryz.func240 rfl Zaa ?_;simp (disch:=omega) only [Tryz.f240,go_sem,seval];refine Zs (Weak.ofNil 7 2 (by simp (disch:=omega) only [go_sem,seval]) Zb (Weak.refl _ _ _)) ?_;refine Zg [] _ _ _ _ (Wt ?_);refine Zk [1,2,3,13,14] (fun q:Nat×List Vis=> [(7,.sl 1 0 q.2.length q.2.length),(15,.p (.int .i64 q.1))]) (fun q=> [Zj x,.elems 2 (q.2.map Xc)]) (fun q=>q.1<=x.orders.length/\q.2=nextU x S l q.1) (fun q=>x.orders.length-q.1) (0,[]) ⟨Zb,by simp [nextU]⟩ (Weak.mk ?_) ?_
 ·simp (disch:=omega) only [Zj,go_sem,seval]
 ·rintro ⟨k,m⟩ ⟨hk,hm⟩;simp only at hk hm
  have hml:m.length<=2*k:=by grind [CK]
  have hsc:=EM x S l k;refine Wy ?_;refine cD ?_ ?_<;>intro h<;>simp (disch:=omega) only [Sh.out h,go_sem,seval,↓reduceIte]
  ·have hk2:k<x.orders.length:=Za
   refine Cw ?_ ?_<;>intro h62
   ·omega
   refine Cw ?_ ?_<;>intro h2
   ·have hbit:S.testBit k=false:=by grind [Hu]
    have e:JR x S l k= []:=by simp [JR,hbit]
    exact ⟨(k+1,m),⟨Za,by grind⟩,Za,wk⟩
   ·have hbit:S.testBit k=true:=by
     grind [Hu]
    refine ZN ?_ ?_<;>intro h3
    ·have e:JR x S l k= []:=by simp [JR,h3]
     exact ⟨(k+1,m),⟨Za,by grind⟩,Za,wk⟩
    ·have h3':(nth x.orders k).off=false:=Za
     have e:JR x S l k=(ZX x.orders k).filter (UR x l):=by grind [JR]
     refine (visits_c x.orders x.orders_c k hk2 Za).use (Wt ?_);have hvl:=Vm x.orders k;have hvo: ∀v∈ZX x.orders k,v.order=k:=fun v hv=>Yz hv;generalize hown:ZX x.orders k=own at hvl e hvo ⊢;refine Zk [1,2,3,13,14,15,36,37] (fun q:Nat×List Vis=> [(7,.sl 1 0 q.2.length q.2.length),(38,.p (.int .i64 q.1))]) (fun q=> [Zj x,.elems 2 (q.2.map Xc),YH (nth x.orders k)]) (fun q=>q.1<=own.length/\q.2=m++(own.take q.1).filter (UR x l)) (fun q=>own.length-q.1) (0,m) ⟨Zb,Zb⟩ (Weak.mk ?_) ?_
     ·simp (disch:=omega) only [Zj,YH,h3',go_sem,seval]
     ·rintro ⟨j,m2⟩ ⟨hj,hm2⟩;simp only at hj hm2
      have hm2l:m2.length<=2*k+2:=by
       grind
      simp (disch:=omega) only [Zj,YH,h3',go_sem,seval];refine ZN ?_ ?_<;>intro h4
      ·have hj2:j<own.length:=Za
       have hvj:=hvo _ (Zq hj2)
       have htk:own.take (j+1)=own.take j++ [nth own j]:=by rw [Xo hj2,Ze hj2]
       have hrd:=Ol x l c (nth own j) hl Za hbl Za hb;refine (hrd).use (Wt ?_);refine ZN ?_ ?_<;>intro h5
       ·exact ⟨(j+1,m2++ [nth own j]),⟨Za,by grind⟩,Za,Weak.mk (by simp (disch:=omega) only [h3',go_sem,seval])⟩
       ·exact ⟨(j+1,m2),⟨Za,by grind⟩,Za,Weak.mk (by simp (disch:=omega) only [h3',go_sem,seval])⟩
      ·have hjl:j=own.length:=Za
       subst hjl;exact ⟨(k+1,m2),⟨Za,by grind⟩,Za,wk⟩
  ·have hkn:k=x.orders.length:=Za
   subst hkn;exact ⟨m,hm,1,by simp (disch:=omega) only [go_sem,seval]⟩
theorem wD (l:List Vis) (c:Bool) (hl:l.length<=1048576):PC 243 [.p (.list c (l.map Xc))] (.list true (l.map Xc)):=by
 refine Zc Tryz.func243 rfl Zad ?_;simp (disch:=omega) only [Tryz.f243,go_sem,seval,↓reduceIte]
@[go_sem] theorem Zma {H:List AM.Obj} {u2:TypeId} {xs:List PV} {y:V} {k:V->List AM.Obj->Prop} {tt} :O7 Tryz.prog H 47 u2 (.p (.list true xs)) y (Zt k tt)=A2 ((Rs (some (2,16)) xs (YS (Tryz.prog.underlying u2) H y)).map .p) (Zt (fun v=>k v H) ⟨⟩):=NB T8
def Zn9 (nx:List Vis->List Vis):Nat->List Vis->List (List Vis)->List (List Vis)×Bool
 | 0,l,outs=>(outs++ [l],decide (outs.length+1<=8192))
 | f+1,l,outs=>(nx l).foldl (fun acc v=>if acc.2=true then Zn9 nx f (l++ [v]) acc.1 else acc) (outs,true)
def Ax (x:Inst) (S k:Nat):Nat:=((List.range k).map fun i=>if S.testBit i=true then (ZX x.orders i).length else 0).sum
theorem Am (x S k):Ax x S (k+1)=Ax x S k+if S.testBit k=true then (ZX x.orders k).length else 0:=by simp [Ax,Yx]
theorem Iw (x S): ∀k,Ax x S k<=2*k
 | 0=>by simp [Ax]
 | k+1=>by
  have h1:=Iw x S k;have h2:=Vm x.orders k;rw [Am]
  split<;>omega
def nHas (S:Nat) (i:Int):Bool:=decide (0<=i/\i<=62)&&S.testBit i.toNat
theorem fD {S i:Nat} (h:i<=62):nHas S (i:Int)=S.testBit i:=by
 grind [nHas]
theorem Ku (S:Nat) (i:Int) (hS:S<9223372036854775808):PC 92 [.p (.int .i64 (S:Nat)),.p (.int .i64 i)] (.bool (nHas S i)):=by
 refine Zc Tryz.func92 rfl ZhE ?_;simp (disch:=omega) only [Tryz.f92,go_sem,seval];refine gT ?_ ?_<;>intro h<;>simp (disch:=omega) only [Sh.out h,go_sem,seval,↓reduceIte]
 ·refine gT ?_ ?_<;>intro h1<;>simp (disch:=omega) only [Sh.out h1,go_sem,seval,↓reduceIte]
  ·refine gT ?_ ?_<;>intro h2<;>simp (disch:=omega) only [Sh.out h2,go_sem,seval,↓reduceIte]
   ·have e:((S / pw i.toNat:Nat):Int).tmod 2=((S / pw i.toNat%2:Nat):Int):=by rfl
    rw [e];have h3:(((S / pw i.toNat%2:Nat):Int)=1)=(S.testBit i.toNat=true):=Hv
    simp_all [nHas]
   ·simp [nHas,h2]
  ·simp [nHas,h1]
 ·omega
theorem Ms (x:Inst) (i:Nat) (hi:i<x.orders.length) (hl:x.orders.length<=1048576) (hpl: ∀o∈x.orders,-1<=o.pick.place/\ -1<=o.drp.place):ACalls Tryz.prog 183 [.p (ZG x),.p (.int .i64 (i:Nat))] [] fun y H'=>y= .sl 0 0 (ZX x.orders i).length (ZX x.orders i).length/\H'= [.elems 2 ((ZX x.orders i).map Xc)]:=by
 suffices hh:ACalls Tryz.prog 183 [.p (ZG x),.p (.int .i64 (i:Nat))] [] fun y H'=> ∃m:List Vis,m=ZX x.orders i/\y= .sl 0 0 m.length m.length/\H'= [.elems 2 (m.map Xc)] by
  grind
 obtain ⟨h1,h2⟩:=hpl _ (Zq hi);refine Z9 [2] Tryz.func183 rfl yV ?_;simp (disch:=omega) only [Tryz.f183,go_sem,seval];refine Zs (Weak.ofNil 5 2 (by simp (disch:=omega) only [go_sem,seval]) Zb (Weak.refl _ _ _)) ?_;refine ZJ [1,2] (fun m:List Vis=> [(5,.sl 1 0 m.length m.length)]) (fun m=> [Zj x,.elems 2 (m.map Xc)]) (fun m=>m=(if 0<=(nth x.orders i).pick.place then [⟨i,false⟩] else [])) ?_ ?_
 ·refine Wt ?_;refine ZN ?_ ?_<;>intro h
  ·exact ⟨[⟨i,false⟩],by grind,Weak.mk (by simp (disch:=omega) only [Zj,go_sem,seval])⟩
  ·exact ⟨[],by grind,Weak.mk (by simp (disch:=omega) only [Zj,go_sem,seval])⟩
 ·intro m hm
  have hml:m.length<=1:=by grind
  refine Zg [] _ _ _ _ (Wy ?_);refine cD ?_ ?_<;>intro h<;>simp (disch:=omega) only [Sh.out h,go_sem,seval,↓reduceIte]
  ·exact ⟨m++ [⟨i,true⟩],by rw [ZX,hm,if_pos (c:=0<=(nth x.orders i).drp.place) Za],1,by simp (disch:=omega) only [go_sem,seval]⟩
  ·exact ⟨m,by simp_all [ZX],1,by simp (disch:=omega) only [go_sem,seval]⟩
theorem Ta (x:Inst) (i:Nat) (hi:i<x.orders.length) (hl:x.orders.length<=1048576) (hpl: ∀o∈x.orders,-1<=o.pick.place/\ -1<=o.drp.place):PC 183 [.p (ZG x),.p (.int .i64 (i:Nat))] (.list false ((ZX x.orders i).map Xc)) :=
 (Ms x i hi hl hpl).frozen Zb
theorem Kv (l:List Vis) (c:Bool) (v:Vis) (hl:l.length<=1048576):PC 135 [.p (.list c (l.map Xc)),.p (Xc v)] (.int .i64 (vIx l v)):=by
 refine Zc Tryz.func135 rfl xQ ?_;simp (disch:=omega) only [Tryz.f135,go_sem,seval];refine Zk [0,3] (fun k:Nat=> [(5,.p (.int .i64 k))]) (fun _=> [Qg v]) (fun k=>k<=l.length/\ ∀j,j<k->decide (v=nth l j)=false) (fun k=>l.length-k) 0 Zb (Weak.mk ?_) ?_
 ·simp (disch:=omega) only [Qg,go_sem,seval,↓reduceIte]
 ·rintro k ⟨hk,hno⟩;simp (disch:=omega) only [Qg,go_sem,seval];refine cD ?_ ?_<;>intro h<;>simp (disch:=omega) only [Sh.out h,go_sem,seval,↓reduceIte]
  ·have hk2:k<l.length:=Za
   refine XR (Wt ?_);refine cD ?_ ?_<;>intro h2<;>simp (disch:=omega) only [Sh.out h2,go_sem,seval,↓reduceIte]
   ·have:v=nth l k:=Eq.symm (by grind [Iz])
    grind [vIx,HL]
   ·have: ¬v=nth l k:=fun e=>by grind
    exact ⟨k+1,⟨Za,Zm.2 ⟨hno,by grind⟩⟩,Za,wk⟩
  grind [vIx,NE]
theorem Me (l s:List Vis) (c d:Bool) (hl:l.length<=1048576) (hs:s.length<=1048576):PC 184 [.p (.list c (l.map Xc)),.p (.list d (s.map Xc))] (.bool (Ut l s)):=by
 refine Zc Tryz.func184 rfl yW ?_;simp (disch:=omega) only [Tryz.f184,go_sem,seval];refine Zk [0,1] (fun k:Nat=> [(5,.p (.int .i64 k))]) (fun _=> []) (fun k=>k<=s.length/\ ∀j,j<k->decide (0<=vIx l (nth s j))=true) (fun k=>s.length-k) 0 Zb (Weak.mk ?_) ?_
 ·simp (disch:=omega) only [go_sem,seval,↓reduceIte]
 ·rintro k ⟨hk,hno⟩;refine Wt ?_;refine cD ?_ ?_<;>intro h<;>simp (disch:=omega) only [Sh.out h,go_sem,seval,↓reduceIte]
  ·have hk2:k<s.length:=Za
   refine (Kv l c (nth s k) hl).use (Wt ?_);refine cD ?_ ?_<;>intro h2<;>simp (disch:=omega) only [Sh.out h2,go_sem,seval,↓reduceIte]
   ·grind [Ut,Zq]
   ·exact ⟨k+1,⟨Za,Zm.2 ⟨hno,by simp;omega⟩⟩,Za,wk⟩
  ·have hkl:k=s.length:=Za
   subst hkl
   have:Ut l s=true:=by
    rw [Ut,Zv];intro w hw;obtain ⟨j,hj,rfl⟩:=ZP.1 hw
    grind [Ze]
   rw [this]
theorem SK {S n:Nat} (h:S.testBit n=true):S|||pw n=S:=by
 apply K2
 grind [JM]
theorem fT {S n:Nat} (h:S.testBit n=false):S|||pw n=S+pw n:=by
 have e:S%2^(n+1)=S%2^n+2^n*(S / 2^n%2):=Nat.mod_pow_succ;rw [Nat.testBit_eq_decide_div_mod_eq] at h
 have h0:S / 2^n%2=0:=by grind
 rw [h0,Nat.mul_zero,Vh] at e;have hp:0<2^n:=Nat.two_pow_pos n
 have hs:2^(n+1)=2^n+2^n:=Za
 have r1:S%2^(n+1)<2^n:=Za
 have e1:=Nat.two_pow_add_eq_or_of_lt (i:=n) r1 1;have e2:=Nat.two_pow_add_eq_or_of_lt (i:=n+1) (b:=2^n*1+S%2^(n+1)) Za (S / 2^(n+1));have e3:=Nat.two_pow_add_eq_or_of_lt (i:=n+1) (b:=S%2^(n+1)) Za (S / 2^(n+1));have e4:=Nat.div_add_mod S (2^(n+1));rw [pw]
 grind
theorem S0 (r:Rte) (hl:r.visits.length<=1048576):PT 55 [.p (Wc r)] [.p (.int .i64 (JF r.visits).1),.p (.int .i64 (JF r.visits).2)]:=by
 refine Zf [] Tryz.func55 rfl Zht ?_;simp (disch:=omega) only [Tryz.f55,go_sem,seval];refine Zk [1] (fun k:Nat=> [(4,.p (.int .i64 (Z8 (r.visits.take k):Nat))),(5,.p (.int .i64 k))]) (fun _=> [Xb r]) (fun k=>k<=r.visits.length/\ ∀j,j<k->FK (nth r.visits j)=true) (fun k=>r.visits.length-k) 0 Zb (Weak.mk ?_) ?_
 ·simp (disch:=omega) only [Xb,Z8,WV,Qv,go_sem,seval]
 ·rintro k ⟨hk,hno⟩
  have hlt:=Ag k hk fun v hv=>by
   obtain ⟨j,hj,rfl⟩:=ZP.1 hv
   grind [Ze]
  simp (disch:=omega) only [Xb,go_sem,seval];refine cD ?_ ?_<;>intro h<;>simp (disch:=omega) only [Sh.out h,go_sem,seval,↓reduceIte]
  ·have hk2:k<r.visits.length:=Za
   have hbad:FK (nth r.visits k)=false->JF r.visits=(0,2):=fun h4=>by
    grind [Zq,JF]
   have hs:=CN hk2
   have hp:(nth r.visits k).order<=62->pw (nth r.visits k).order.toNat<=4611686018427387904:=fun h=>by rw [<- GO];exact Dg Za
   refine gF ?_ ?_<;>intro h1<;>simp (disch:=omega) only [Sh.out h1,go_sem,seval,↓reduceIte]
   ·have e:=hbad (by simp [FK];omega);rw [e];exact we
   ·refine cD ?_ ?_<;>intro h2<;>simp (disch:=omega) only [Sh.out h2,go_sem,seval]
    ·have e:=hbad (by simp [FK];omega);rw [e];exact we
    ·have h4:=hp Za;refine (Ku (Z8 (r.visits.take k)) (nth r.visits k).order hlt).use (Wt ?_)
     have hin:0<=(nth r.visits k).order/\(nth r.visits k).order<=62:=Za
     have hnh:nHas (Z8 (r.visits.take k)) (nth r.visits k).order=(Z8 (r.visits.take k)).testBit (nth r.visits k).order.toNat:=by simp [nHas,hin]
     rw [hnh];have hno2:=(Zm (p:=fun j=>FK (nth r.visits j)=true)).2 ⟨hno,by simp [FK];omega⟩
     have hlt2:=Ag (k+1) hk2 fun v hv=>by
      obtain ⟨j,hj,rfl⟩:=ZP.1 hv
      grind [Ze]
     refine ZN ?_ ?_<;>intro h5
     ·have h6:(Z8 (r.visits.take k)).testBit (nth r.visits k).order.toNat=false:=by grind
      rw [fT h6] at hs;rw [hs] at hlt2;exact ⟨k+1,⟨Za,hno2⟩,Za,Weak.mk (by simp (disch:=omega) only [hs,Int.natCast_add,go_sem,seval])⟩
     ·have h6:(Z8 (r.visits.take k)).testBit (nth r.visits k).order.toNat=true:=by grind
      rw [SK h6] at hs;exact ⟨k+1,⟨Za,hno2⟩,Za,Weak.mk (by simp (disch:=omega) only [hs,go_sem,seval])⟩
  ·have hkl:k=r.visits.length:=Za
   subst hkl
   have:r.visits.all FK=true:=by
    rw [Zv];intro v hv;obtain ⟨j,hj,rfl⟩:=ZP.1 hv
    grind [Ze]
   have e:JF r.visits=(((Z8 r.visits:Nat):Int),0):=by simp [JF,this]
   rw [e,X7];exact we
def Plc (x:Inst):Prop:= ∀o∈x.orders,-1<=o.pick.place/\ -1<=o.drp.place
theorem qB {l:List Vis} {v w:Vis} (h:vIx l v=vIx l w) (h0:0<=vIx l v):v=w:=by
 unfold vIx Gf at h h0
 cases hv:l.findIdx? (fun u=>decide (v=u)) with
 | none=>grind
 | some i =>
  grind [VY]
theorem JN (os:List Ord) (i:Nat):ZX os i= []\/ZX os i= [⟨i,false⟩]\/ZX os i= [⟨i,true⟩]\/ZX os i= [⟨i,false⟩,⟨i,true⟩]:=by
 grind [ZX]
theorem gD {l own:List Vis} (ho:own= []\/(∃v,own= [v])\/ ∃v w,own= [v,w]/\v≠w) :
  Qk l (-1) own=(Ut l own&& !(decide (own.length=2)&&decide (vIx l (nth own 1)<vIx l (nth own 0)))):=by
 rcases ho with rfl | ⟨v,rfl⟩ | ⟨v,w,rfl,hne⟩
 ·rfl
 ·grind [Qk,Ut]
 ·have hne2:0<=vIx l v->vIx l v≠vIx l w:=fun h0 h=>hne (qB h h0);have h1:= @jF l v;have h2:= @jF l w;rw [YO];simp [Qk,Ut,nth];omega
theorem jG (os:List Ord) (i:Nat):ZX os i= []\/(∃v,ZX os i= [v])\/ ∃v w,ZX os i= [v,w]/\v≠w:=by
 grind [JN]
theorem Hg {α:Type} [Inhabited α] {l:List α} {f:α->Bool} {k:Nat} (hk:k<l.length) (h:f (nth l k)=false):l.all f=false:=by
 grind [Zq]
theorem OF {α:Type} [Inhabited α] {l:List α} {f:α->Bool} (h: ∀j,j<l.length->f (nth l j)=true):l.all f=true:=by
 rw [Zv];intro v hv;obtain ⟨j,hj,rfl⟩:=ZP.1 hv
 grind [Ze]
theorem S6 (x:Inst) (l:List Vis) (c:Bool) (hl:l.length<=1048576) (ho:x.orders.length<=1048576) (hp:Plc x) (hv: ∀v∈l,0<=v.order/\v.order<x.orders.length) :
  PC 136 [.p (ZG x),.p (.list c (l.map Xc))] (.bool (l.all (pairB x.orders l))):=by
 refine Zc Tryz.func136 rfl xR ?_;simp (disch:=omega) only [Tryz.f136,go_sem,seval];refine Zk [1,2] (fun k:Nat=> [(5,.p (.int .i64 k))]) (fun _=> [Zj x]) (fun k=>k<=l.length/\ ∀j,j<k->pairB x.orders l (nth l j)=true) (fun k=>l.length-k) 0 Zb (Weak.mk ?_) ?_
 ·simp (disch:=omega) only [Zj,go_sem,seval]
 ·rintro k ⟨hk,hno⟩;refine Wy ?_;refine cD ?_ ?_<;>intro h<;>simp (disch:=omega) only [Sh.out h,go_sem,seval,↓reduceIte]
  ·have hk2:k<l.length:=Za
   obtain ⟨v1,v2⟩:=hv _ (Zq hk2);obtain ⟨i,hi⟩: ∃i:Nat,(nth l k).order=(i:Int):=⟨(nth l k).order.toNat,Za⟩;rw [hi] at v1 v2
   have hpb:pairB x.orders l (nth l k)=(decide (0<=vIx (ZX x.orders i) (nth l k))&&Qk l (-1) (ZX x.orders i)):=by rw [pairB,hi];rfl
   have hown:=jG x.orders i;rw [gD hown] at hpb;refine XR ?_;simp (disch:=omega) only [hi,go_sem,seval];refine Zp (Ta x i Za ho hp) (Wt ?_);have hvl:=Vm x.orders i;generalize ZX x.orders i=own at hvl hpb;have hix:=Kv own false (nth l k) Za;rw [O4,hi] at hix;refine XR ?_;simp (disch:=omega) only [hi,go_sem,seval];refine Zp (hix) (Wt ?_);refine gF ?_ ?_<;>intro h2<;>simp (disch:=omega) only [Sh.out h2,go_sem,seval]
   ·grind [Hg]
   ·have h3:0<=vIx own (nth l k):=Za
    have hgo:pairB x.orders l (nth l k)=true-> ∀j,j<k+1->pairB x.orders l (nth l j)=true:=fun e=>Zm.2 ⟨hno,e⟩;refine Zp (Me l own c false hl Za) (Wt ?_);refine gF ?_ ?_<;>intro h4<;>simp (disch:=omega) only [Sh.out h4,go_sem,seval]
    ·grind [Hg]
    ·have h5:Ut l own=true:=by grind
     rw [h5] at hpb;refine J6 ?_ ?_<;>intro h6
     ·have h7:own.length=2:=Za
      refine Zp (Kv l c (nth own 0) hl) (Wt ?_);refine Zp (Kv l c (nth own 1) hl) (Wt ?_);refine ZN ?_ ?_<;>intro h8
      ·grind [Hg]
      ·exact ⟨k+1,⟨Za,hgo (by grind)⟩,Za,wk⟩
     ·exact ⟨k+1,⟨Za,hgo (by grind)⟩,Za,wk⟩
  grind [OF]
def apB (x:Inst) (S:Nat):Bool:=x.apart.any fun p=>nHas S p.1&&nHas S p.2
theorem gZ (x:Inst) (S:Nat) (hS:S<9223372036854775808) (ha:x.apart.length<=1048576):PC 137 [.p (ZG x),.p (.int .i64 (S:Nat))] (.bool (!apB x S)):=by
 refine Zc Tryz.func137 rfl xS ?_;simp (disch:=omega) only [Tryz.f137,go_sem,seval];refine Zk [1,2] (fun k:Nat=> [(5,.p (.int .i64 k))]) (fun _=> [Zj x]) (fun k=>k<=x.apart.length/\ ∀j,j<k->(nHas S (nth x.apart j).1&&nHas S (nth x.apart j).2)=false) (fun k=>x.apart.length-k) 0 Zb (Weak.mk ?_) ?_
 ·simp (disch:=omega) only [Zj,go_sem,seval]
 ·rintro k ⟨hk,hno⟩;refine Wy ?_;refine cD ?_ ?_<;>intro h<;>simp (disch:=omega) only [Sh.out h,go_sem,seval,↓reduceIte]
  ·have hk2:k<x.apart.length:=Za
   refine (Ku S (nth x.apart k).1 hS).use (Wt ?_);refine J6 ?_ ?_<;>intro h2
   ·refine (Ku S (nth x.apart k).2 hS).use (Wt ?_);refine ZN ?_ ?_<;>intro h3
    ·grind [apB,W7]
    ·exact ⟨k+1,⟨Za,Zm.2 ⟨hno,by grind⟩⟩,Za,wk⟩
   ·exact ⟨k+1,⟨Za,Zm.2 ⟨hno,by rw [h2];rfl⟩⟩,Za,wk⟩
  grind [apB,Qj]
def JQ (l:List Vis) (a b:Int) (j k:Nat):Bool:=decide ((nth l j).order=a)&&decide ((nth l k).order=b)
def Qd (S:Nat) (l:List Vis) (p:Int×Int):Bool:= !nHas S p.2||(nHas S p.1&&(List.range l.length).all fun j=>(List.range j).all fun k=> !JQ l p.1 p.2 j k)
theorem Zjz (x:Inst) (S:Nat) (l:List Vis) (c:Bool) (hS:S<9223372036854775808) (hl:l.length<=1048576) (hb:x.before.length<=1048576):PC 138 [.p (ZG x),.p (.int .i64 (S:Nat)),.p (.list c (l.map Xc))] (.bool (x.before.all (Qd S l))):=by
 refine Zc Tryz.func138 rfl xT ?_;simp (disch:=omega) only [Tryz.f138,go_sem,seval];refine Zk [1,2,3] (fun k:Nat=> [(7,.p (.int .i64 k))]) (fun _=> [Zj x]) (fun k=>k<=x.before.length/\ ∀j,j<k->Qd S l (nth x.before j)=true) (fun k=>x.before.length-k) 0 Zb (Weak.mk ?_) ?_
 ·simp (disch:=omega) only [Zj,go_sem,seval]
 ·rintro i ⟨hi,hno⟩;refine Wy ?_;refine cD ?_ ?_<;>intro h<;>simp (disch:=omega) only [Sh.out h,go_sem,seval,↓reduceIte]
  ·have hi2:i<x.before.length:=Za
   have hgo:Qd S l (nth x.before i)=true-> ∀j,j<i+1->Qd S l (nth x.before j)=true:=fun e=>Zm.2 ⟨hno,e⟩;have hbad:Qd S l (nth x.before i)=false->x.before.all (Qd S l)=false:=fun e=>Hg hi2 e;have hdef:Qd S l (nth x.before i)=(!nHas S (nth x.before i).2||(nHas S (nth x.before i).1&&(List.range l.length).all fun j=>(List.range j).all fun k=> !JQ l (nth x.before i).1 (nth x.before i).2 j k)):=rfl;generalize Qd S l (nth x.before i)=R at hgo hbad hdef;generalize nth x.before i=p at hdef ⊢;refine (Ku S p.2 hS).use (Wt ?_)
   refine ZN ?_ ?_<;>intro h2
   ·have h3:nHas S p.2=false:=by grind
    exact ⟨i+1,⟨Za,hgo (by grind)⟩,Za,wk⟩
   ·have h3:nHas S p.2=true:=by grind
    refine (Ku S p.1 hS).use (Wt ?_);refine cD ?_ ?_<;>intro h4<;>simp (disch:=omega) only [Sh.out h4,go_sem,seval]
    ·grind
    ·have h5:nHas S p.1=true:=by grind
     rw [h3,h5] at hdef;simp only [DF,Bool.false_or,Vg] at hdef;refine Zk [1,2,3,7,8,9] (fun k:Nat=> [(10,.p (.int .i64 k))]) (fun _=> [Zj x]) (fun k=>k<=l.length/\ ∀j,j<k-> ∀q,q<j->JQ l p.1 p.2 j q=false) (fun k=>l.length-k) 0 Zb (Weak.mk ?_) ?_
     ·simp (disch:=omega) only [Zj,go_sem,seval]
     ·rintro j ⟨hj,hnj⟩;refine Wy ?_;refine ZN ?_ ?_<;>intro h6
      ·have hj2:j<l.length:=Za
       refine Zk [1,2,3,7,8,9,10] (fun k:Nat=> [(11,.p (.int .i64 k))]) (fun _=> [Zj x]) (fun k=>k<=j/\ ∀q,q<k->JQ l p.1 p.2 j q=false) (fun k=>j-k) 0 Zb (Weak.mk ?_) ?_
       ·simp (disch:=omega) only [Zj,go_sem,seval]
       ·rintro k ⟨hk,hnk⟩;refine Wy ?_;refine ZN ?_ ?_<;>intro h7
        ·have hk2:k<j:=Za
         refine J6 ?_ ?_<;>intro h8
         ·refine ZN ?_ ?_<;>intro h9
          ·rw [hbad (by
            rw [hdef,List.all_eq_false];refine ⟨j,by grind,?_⟩;rw [V0,List.all_eq_false]
            exact ⟨k,by grind,by simp [JQ,h8,h9]⟩)]
          ·exact ⟨k+1,⟨Za,Zm.2 ⟨hnk,by simp [JQ,h9]⟩⟩,Za,wk⟩
         ·exact ⟨k+1,⟨Za,Zm.2 ⟨hnk,by simp [JQ,h8]⟩⟩,Za,wk⟩
        ·have hkl:k=j:=Za
         subst hkl;exact ⟨k+1,⟨Za,(Zm (p:=fun j=> ∀q,q<j->JQ l p.1 p.2 j q=false)).2 ⟨hnj,hnk⟩⟩,Za,wk⟩
      ·have hjl:j=l.length:=Za
       subst hjl;refine ⟨i+1,⟨Za,hgo ?_⟩,Za,wk⟩
       grind
  grind [OF]
theorem Im (S:Nat) (i:Int):sHas (S:Int) i=nHas S i:=by
 by_cases h:0<=i/\i<=62
 ·obtain ⟨k,rfl⟩: ∃k:Nat,i=(k:Int):=⟨i.toNat,Za⟩
  grind [Wk,fD]
 ·have h2:nHas S i=false:=by simp only [nHas,h,Jv,U4]
  grind [sHas]
theorem EL {S:Nat} {i:Int} :nHas S i=true↔0<=i/\i<=62/\S.testBit i.toNat=true:=by simp [nHas,and_assoc]
theorem Nt {S n i:Nat} (h:S / pw n=0) (hi:S.testBit i=true):i<n:=by
 rcases Wh i n with h2 | h2
 ·exact h2
 ·have h3:S<2^n:=by
   have:=(Nat.div_eq_zero_iff).1 h;rcases this with h4 | h4
   ·grind [If]
   ·exact h4
  grind [UJ,Yw,Ve]
theorem QU {S:Nat} {a:Int} :a∈XQ (S:Int) 63↔ ∃i:Nat,a=(i:Int)/\i<63/\S.testBit i=true:=by
 simp only [XQ,Xg,Vf,ZQ]
 constructor
 ·rintro ⟨i,⟨h1,h2⟩,rfl⟩;rw [Wk S i Za] at h2
  grind
 ·rintro ⟨i,rfl,h1,h2⟩;exact ⟨i,⟨h1,by grind [Wk]⟩,rfl⟩
structure Alw (x:Inst) (S:Nat):Prop where
 off: ∀i,i<x.orders.length->S.testBit i=true->(nth x.orders i).off=false
 apart:apB x S=false
 closed: ∀p∈x.before,nHas S p.2=true->nHas S p.1=true
 acyc: ∀i,i<x.orders.length->S.testBit i=true-> ¬Ch x.before i i
theorem Vd {c:Prop} [Decidable c] {a b:Int} (ha:a≠0):(if c then a else b)=0↔ ¬c/\b=0:=by
 grind
theorem J3 {x:Inst} {S:Nat} (hn:x.orders.length<=60) (hS:S / pw x.orders.length=0) (hv:Val x.orders.length x.before):Y1 x.orders x.apart x.before (S:Int)=0↔Alw x S:=by
 have hlt: ∀i,S.testBit i=true->i<x.orders.length:=fun i h=>Nt hS h
 have e0: ¬(S:Int)<0:=Za
 unfold Y1;rw [if_neg e0,Vd Za,Vd Za,Vd Za,Vd Za,Vd Za];simp only [and_true]
 constructor
 ·rintro ⟨_,h2,h3,h4,h5⟩;simp only [V0] at h2 h3 h4 h5;rw [XV] at h2 h4 h5;refine ⟨fun i hi hb=> ?_,?_,fun p hp hb=> ?_,fun i hi hb hc=> ?_⟩
  ·have:=h2 (i:Int) (QU.2 ⟨i,rfl,Za,hb⟩)
   grind
  ·grind [apB,Im]
  ·have:=h4 p hp
   simp_all [Im]
  ·have:=h5 (i:Int) (QU.2 ⟨i,rfl,Za,hb⟩)
   grind [Wk,Un]
 ·rintro ⟨h1,h2,h3,h4⟩;refine ⟨?_,?_,?_,?_,?_⟩
  ·simp only [V0];rw [XV];intro a ha;obtain ⟨i,rfl,h5,h6⟩:=QU.1 ha
   grind
  ·simp only [V0];rw [XV];intro a ha;obtain ⟨i,rfl,h5,h6⟩:=QU.1 ha
   grind
  ·simp only [Im,V0];exact h2
  ·simp only [V0]
   grind [Im]
  ·simp only [V0];rw [XV];intro a ha;obtain ⟨i,rfl,h5,h6⟩:=QU.1 ha
   grind [Wk,Un]
theorem Gg {f g:Nat->Bool} {b:Nat} : ∀(l:List Nat),(∀a,f a=true->g a=true)->f b=false->g b=true->b∈l->(l.filter f).length<(l.filter g).length
 | [],_,_,_,h=>by simp at h
 | x::l,hfg,hf,hg,h=>by
  have hle: ∀l:List Nat,(l.filter f).length<=(l.filter g).length:=by
   intro l
   induction l with
   | nil=>simp
   | cons y l ih =>
    grind
  simp only [List.filter_cons];rcases Xs.1 h with rfl | h
  ·grind
  ·have:=Gg l hfg hf hg h
   grind
theorem NC {n:Nat} {be:List (Int×Int)} (hv:Val n be) {P:Nat->Prop} (hP: ∀i,P i->i<n/\ ¬Ch be i i) {i:Nat} (hi:P i): ∃i,P i/\ ∀p∈be,p.2=(i:Int)-> ¬P p.1.toNat:=by
 suffices h: ∀(k i:Nat),P i->((List.range n).filter fun a=>(nth (JO n be) i).testBit a).length<k-> ∃i,P i/\ ∀p∈be,p.2=(i:Int)-> ¬P p.1.toNat from h _ i hi (Nat.lt_succ_self _)
 intro k
 induction k with
 | zero=>omega
 | succ k ih =>
  intro i hi hk
  by_cases h: ∃p∈be,p.2=(i:Int)/\P p.1.toNat
  ·obtain ⟨p,hp,h1,h2⟩:=h;obtain ⟨v1,v2,v3,v4⟩:=hv p hp;have hE:Ed be p.1.toNat i:=⟨p,hp,Za,h1⟩;refine ih p.1.toNat h2 (UJ (Gg (b:=p.1.toNat) _ (fun a ha=> ?_) ?_ ?_ ?_) (by omega:((List.range n).filter fun a=>(nth (JO n be) i).testBit a).length<=k))
   ·exact (Un hv a i (hP i hi).1).2 (((Un hv a _ (hP _ h2).1).1 ha).more hE)
   ·grind [Un]
   ·exact (Un hv _ i (hP i hi).1).2 (.one hE)
   grind
  grind
theorem Y6 {l:List Vis} {v:Vis} :0<=vIx l v↔v∈l:=by
 grind [ND,vIx]
theorem Zcg {l:List Vis} {v:Vis} :vIx l v<0↔v ∉ l:=by rw [<- Y6];omega
theorem Rp {l own:List Vis} :Ut l own=true↔ ∀w∈own,w∈l:=by
 grind [Ut,Y6]
theorem aH {os:List Ord} {l:List Vis} {o:Int} {p:Int×Int} :Ee os l o p=true↔(p.2=o-> ∀w∈ZX os p.1.toNat,w∈l):=by
 rw [Ee,Wg,Rp,Zl]
 grind
theorem aI {x:Inst} {l:List Vis} {o:Int} :x.before.all (Ee x.orders l o)=true↔ ∀p∈x.before,p.2=o-> ∀w∈ZX x.orders p.1.toNat,w∈l:=by
 simp_all [aH]
def Vne (x:Inst):Prop:= ∀i,i<x.orders.length->ZX x.orders i≠ []
inductive Gr (x:Inst) (S:Nat):List Vis->Prop where
 | nil:Gr x S []
 | snoc {l:List Vis} {v:Vis} (h:Gr x S l) (hv:v∈nextU x S l x.orders.length):Gr x S (l++ [v])
theorem Oq (os:List Ord) (i:Nat):(ZX os i).Nodup:=by
 grind [JN]
theorem gU {os:List Ord} {i:Nat} {l:List Vis} {v:Vis} (hv:v∈ZX os i):BZ l v (ZX os i)=true↔(v.drp=true->⟨i,false⟩∈ZX os i->⟨i,false⟩∈l):=by
 rcases JN os i with h | h | h | h<;>rw [h] at hv ⊢ <;>simp at hv
 ·grind [BZ]
 ·grind [BZ]
 ·rcases hv with rfl | rfl
  ·simp [BZ]
  ·simp [BZ,Y6]
theorem VB {x:Inst} {l:List Vis} {v:Vis} {i:Nat} (hv:v∈ZX x.orders i):UR x l v=true↔v ∉ l/\(v.drp=true->⟨i,false⟩∈ZX x.orders i->⟨i,false⟩∈l)/\ ∀p∈x.before,p.2=(i:Int)-> ∀w∈ZX x.orders p.1.toNat,w∈l:=by
 have h:=Yz hv;rw [UR,h,X6,ZO,ZO,Zl,Zcg,gU hv,aI,and_assoc]
theorem VM {x:Inst} {S:Nat} {l:List Vis} {v:Vis} {k:Nat} :v∈nextU x S l k↔ ∃i,i<k/\S.testBit i=true/\(nth x.orders i).off=false/\v∈ZX x.orders i/\UR x l v=true:=by
 rw [nextU,YN]
 constructor
 ·grind [JR]
 ·rintro ⟨i,hi,h1,h2,h3,h4⟩;exact ⟨i,by grind,by simp_all [JR]⟩
def AJ (x:Inst) (S k:Nat):List Vis:=(List.range k).flatMap fun i=>if S.testBit i=true then ZX x.orders i else []
theorem F1 (x S k):AJ x S (k+1)=AJ x S k++if S.testBit k=true then ZX x.orders k else []:=by simp [AJ,Yx]
theorem QF (x S): ∀k,(AJ x S k).length=Ax x S k
 | 0=>by rfl
 | k+1=>by
  rw [F1,Am,Zn,QF x S k]
  split<;>simp
theorem WH {x S k v} :v∈AJ x S k↔ ∃i,i<k/\S.testBit i=true/\v∈ZX x.orders i:=by
 simp_all [AJ]
theorem AK (x S): ∀k,(AJ x S k).Nodup
 | 0=>by simp [AJ]
 | k+1=>by
  rw [F1,List.nodup_append];refine ⟨AK x S k,?_,fun a ha b hb=> ?_⟩
  ·grind [Oq]
  ·obtain ⟨i,hi,_,h2⟩:=WH.1 ha
   split at hb
   ·have h3:=Yz h2;have h4:=Yz hb
    grind
   ·simp at hb
theorem Gr.nodup {x S l} (h:Gr x S l):l.Nodup:=by
 induction h with
 | nil=>simp
 | snoc _ hv ih =>
  obtain ⟨i,_,_,_,h4,h5⟩:=VM.1 hv;rw [List.nodup_append];refine ⟨ih,Zb,fun a ha b hb=> ?_⟩;simp at hb;subst hb;exact fun e=>((VB h4).1 h5).1 (e ▸ ha)
theorem Gr.sub {x S l} (h:Gr x S l): ∀v∈l,v∈AJ x S x.orders.length:=by
 induction h with
 | nil=>simp
 | snoc _ hv ih =>
  obtain ⟨i,h1,h2,_,h4,_⟩:=VM.1 hv;intro w hw;rcases XI.1 hw with hw | hw
  ·exact ih w hw
  ·simp at hw;subst hw;exact WH.2 ⟨i,h1,h2,h4⟩
theorem DU {α:Type} [DecidableEq α] {l m:List α} (hl:l.Nodup) (h: ∀v∈l,v∈m):l.length<=m.length:=List.Nodup.length_le_of_subset hl h
theorem Zb6 {α:Type} [DecidableEq α] {l m:List α} (hl:l.Nodup) (h: ∀v∈l,v∈m) (hm:m.length<=l.length): ∀v∈m,v∈l:=fun v hv=>by
 refine AY fun hno=> ?_
 have:(v::l).length<=m.length:=DU (by grind) (fun w hw=>by
  grind)
 grind
theorem Gr.len {x S l} (h:Gr x S l):l.length<=Ax x S x.orders.length:=by
 rw [<- QF];exact DU h.nodup h.sub
theorem Gr.full {x S l} (h:Gr x S l) (hl:l.length=Ax x S x.orders.length): ∀v∈AJ x S x.orders.length,v∈l:=Zb6 h.nodup h.sub (by rw [QF];omega)
theorem Gr.more {x S l} (ha:Alw x S) (hn:x.orders.length<=60) (hv:Val x.orders.length x.before) (hm: ∃v∈AJ x S x.orders.length,v ∉ l): ∃v,v∈nextU x S l x.orders.length:=by
 obtain ⟨v,hva,hvl⟩:=hm;obtain ⟨i,h1,h2,h3⟩:=WH.1 hva;obtain ⟨j,⟨j1,j2,w,j3,j4⟩,hj⟩:=NC hv (P:=fun i=>i<x.orders.length/\S.testBit i=true/\ ∃w∈ZX x.orders i,w ∉ l) (fun i hi=>⟨hi.1,ha.acyc i hi.1 hi.2.1⟩) ⟨h1,h2,v,h3,hvl⟩
 have hpre: ∀p∈x.before,p.2=(j:Int)-> ∀w∈ZX x.orders p.1.toNat,w∈l:=fun p hp e w hw=>by
  refine AY fun hno=> ?_;obtain ⟨v1,v2,v3,v4⟩:=hv p hp;have:=ha.closed p hp (EL.2 ⟨Za,Za,by grind⟩);exact hj p hp e ⟨Za,(EL.1 this).2.2,w,hw,hno⟩
 by_cases hf:(⟨j,false⟩:Vis)∈ZX x.orders j/\(⟨j,false⟩:Vis) ∉ l
 ·exact ⟨⟨j,false⟩,VM.2 ⟨j,j1,j2,ha.off j j1 j2,hf.1,(VB hf.1).2 ⟨hf.2,Zb,hpre⟩⟩⟩
 ·refine ⟨w,VM.2 ⟨j,j1,j2,ha.off j j1 j2,j3,(VB j3).2 ⟨j4,fun _ hq=> ?_,hpre⟩⟩⟩
  grind
theorem Gr.next_nil {x S l} (h:Gr x S l) (ha:Alw x S) (hn:x.orders.length<=60) (hv:Val x.orders.length x.before):nextU x S l x.orders.length= []↔l.length=Ax x S x.orders.length:=by
 constructor
 ·intro e;refine AY fun hno=> ?_
  have hex: ∃v∈AJ x S x.orders.length,v ∉ l:=AY fun hno2=>hno (by
   have h1: ∀v∈AJ x S x.orders.length,v∈l:=fun v hv=>AY fun h3=>hno2 ⟨v,hv,h3⟩;have:=DU (AK x S _) h1;rw [QF] at this;have:=h.len
   omega)
  obtain ⟨v,hv⟩:=Gr.more (l:=l) ha hn hv hex
  grind
 ·intro e;rw [List.eq_nil_iff_forall_not_mem];intro v hv;obtain ⟨i,h1,h2,_,h4,h5⟩:=VM.1 hv;exact ((VB h4).1 h5).1 (h.full e v (WH.2 ⟨i,h1,h2,h4⟩))
theorem P6 {x:Inst} {S:Nat} (hne:Vne x) (hS:S / pw x.orders.length=0) (h0:S≠0):0<Ax x S x.orders.length:=by
 have: ∃i,S.testBit i=true:=by
  refine AY fun hno=>h0 (K2 fun i=> ?_)
  grind
 obtain ⟨i,hi⟩:=this;have hlt:=Nt hS hi;obtain ⟨v,hv⟩:=List.exists_mem_of_ne_nil _ (hne i hlt);have hm:v∈AJ x S x.orders.length:=WH.2 ⟨i,hlt,hi,hv⟩
 grind [QF]
def ext (nx:List Vis->List Vis):Nat->List Vis->List (List Vis)->List (List Vis)
 | 0,l,outs=>if 8192<outs.length then outs else outs++ [l]
 | f+1,l,outs=>if 8192<outs.length then outs else (nx l).foldl (fun acc v=>ext nx f (l++ [v]) acc) outs
theorem RJ {S n:Nat} (hS:S<9223372036854775808) (h: ∀j,j<63->S.testBit j=true->j<n):S / pw n=0:=by
 refine KZ ?_;refine Nat.lt_pow_two_of_testBit S fun i hi=> ?_;rcases Wh i 63 with h2 | h2
 ·grind
 ·exact Ve (UJ hS (Yw Za h2:2^63<=2^i))
def Md (x:Inst) (l:List Vis):Int :=
 if l.any (VQ x)=true then 2
 else if l.length=0 then 2
 else if (l.any fun v=>(nth x.orders v.order.toNat).off)=true then 9
 else if ((List.range l.length).any fun i=>decide (vIx l (nth l i)≠(i:Int)))=true then 6
 else if l.all (pairB x.orders l)=false then 19
 else if apB x (Z8 l)=true then 20
 else if x.before.all (Qd (Z8 l) l)=false then 21
 else 0
theorem Ob (x:Inst) (r:Rte) (ho:x.orders.length<=60) (hl:r.visits.length<=1048576) (hap:x.apart.length<=1048576) (hbe:x.before.length<=1048576) (hp:Plc x) :
  PC 86 [.p (ZG x),.p (Wc r)] (.int .i64 (Md x r.visits)):=by
 refine Zc Tryz.func86 rfl ZhA ?_;simp (disch:=omega) only [Tryz.f86,go_sem,seval];refine Zk [2,3,5] (fun k:Nat=> [(6,.p (.int .i64 k))]) (fun _=> [Zj x,Xb r]) (fun k=>k<=r.visits.length/\ ∀j,j<k->VQ x (nth r.visits j)=false) (fun k=>r.visits.length-k) 0 Zb (Weak.mk ?_) ?_
 ·simp (disch:=omega) only [Zj,Xb,go_sem,seval]
 ·rintro k ⟨hk,hno⟩;refine Dk ?_;refine cD ?_ ?_<;>intro h<;>simp (disch:=omega) only [Sh.out h,go_sem,seval,↓reduceIte]
  ·have hk2:k<r.visits.length:=Za
   refine XR (Wt ?_);refine gF ?_ ?_<;>intro h2<;>simp (disch:=omega) only [Sh.out h2,go_sem,seval,↓reduceIte]
   ·have:VQ x (nth r.visits k)=true:=by simp [VQ];omega
    rw [Md,if_pos (W7 hk2 this)]
   ·refine ZN ?_ ?_<;>intro h3
    ·have:VQ x (nth r.visits k)=true:=by simp [VQ];omega
     rw [Md,if_pos (W7 hk2 this)]
    ·exact ⟨k+1,⟨Za,Zm.2 ⟨hno,by simp [VQ];omega⟩⟩,Za,wk⟩
  ·have hkl:k=r.visits.length:=Za
   subst hkl
   have hr1:Md x r.visits=if r.visits.length=0 then 2 else if (r.visits.any fun v=>(nth x.orders v.order.toNat).off)=true then 9 else if ((List.range r.visits.length).any fun i=>decide (vIx r.visits (nth r.visits i)≠(i:Int)))=true then 6 else if r.visits.all (pairB x.orders r.visits)=false then 19 else if apB x (Z8 r.visits)=true then 20 else if x.before.all (Qd (Z8 r.visits) r.visits)=false then 21 else 0:=by
    rw [Md,if_neg (by rw [Qj hno];simp)]
   have hin: ∀j,j<r.visits.length->0<=(nth r.visits j).order/\(nth r.visits j).order<x.orders.length:=fun j hj=>by
    grind [VQ]
   have hmem: ∀v∈r.visits,0<=v.order/\v.order<x.orders.length:=fun v hv=>by
    obtain ⟨j,hj,rfl⟩:=ZP.1 hv
    grind [Ze]
   have hord:JF r.visits=(((Z8 r.visits:Nat):Int),0):=by
    rw [JF,if_pos]
    grind [FK]
   have hlt:Z8 r.visits<9223372036854775808:=by
    have:=Ag r.visits.length (l:=r.visits) (Xf _) (fun v hv=>by
     grind [FK])
    grind
   have hoc:=S0 r hl;rw [hord] at hoc;refine Dx hoc (Wt ?_);refine cD ?_ ?_<;>intro h3<;>simp (disch:=omega) only [Sh.out h3,go_sem,seval]
   ·grind
   ·rw [hr1,if_neg Za];clear hno hr1 h3 h hk;refine Zk [2,5,7] (fun k:Nat=> [(9,.p (.int .i64 k))]) (fun _=> [Zj x,Xb r]) (fun k=>k<=r.visits.length/\ ∀j,j<k->(nth x.orders (nth r.visits j).order.toNat).off=false) (fun k=>r.visits.length-k) 0 Zb (Weak.mk ?_) ?_
    ·simp (disch:=omega) only [Zj,Xb,go_sem,seval]
    ·rintro k ⟨hk,hno⟩;refine Dk ?_;refine cD ?_ ?_<;>intro h<;>simp (disch:=omega) only [Sh.out h,go_sem,seval,↓reduceIte]
     ·have hk2:k<r.visits.length:=Za
      obtain ⟨i1,i2⟩:=hin k hk2
      have i3:(nth r.visits k).order.toNat<x.orders.length:=Za
      refine XR (Wt ?_);refine ZN ?_ ?_<;>intro h4
      ·rw [if_pos (W7 hk2 h4)]
      ·exact ⟨k+1,⟨Za,Zm.2 ⟨hno,h4⟩⟩,Za,wk⟩
     ·have hkl:k=r.visits.length:=Za
      subst hkl;have e9:(r.visits.any fun v=>(nth x.orders v.order.toNat).off)=false:=Qj hno;rw [e9,if_neg Zb];clear hno h hk;refine Zk [2,5,7] (fun k:Nat=> [(10,.p (.int .i64 k))]) (fun _=> [Zj x,Xb r]) (fun k=>k<=r.visits.length/\ ∀j,j<k->vIx r.visits (nth r.visits j)=(j:Int)) (fun k=>r.visits.length-k) 0 Zb (Weak.mk ?_) ?_
      ·simp (disch:=omega) only [Zj,Xb,go_sem,seval]
      ·rintro k ⟨hk,hno⟩;refine Dk ?_;refine cD ?_ ?_<;>intro h<;>simp (disch:=omega) only [Sh.out h,go_sem,seval,↓reduceIte]
       ·have hk2:k<r.visits.length:=Za
        refine (Kv r.visits r.visits_c (nth r.visits k) hl).use (Wt ?_);refine ZN ?_ ?_<;>intro h4
        ·have:((List.range r.visits.length).any fun i=>decide (vIx r.visits (nth r.visits i)≠(i:Int)))=true:=by
          grind
         grind
        ·exact ⟨k+1,⟨Za,Zm.2 ⟨hno,Za⟩⟩,Za,wk⟩
       ·have hkl:k=r.visits.length:=Za
        subst hkl
        have:((List.range r.visits.length).any fun i=>decide (vIx r.visits (nth r.visits i)≠(i:Int)))=false:=by
         grind
        rw [this,if_neg Zb];refine (S6 x r.visits r.visits_c hl Za hp hmem).use (Wt ?_);refine cD ?_ ?_<;>intro h4<;>simp (disch:=omega) only [Sh.out h4,go_sem,seval,↓reduceIte]
        ·grind
        ·rw [if_neg (by grind)];refine (gZ x (Z8 r.visits) hlt hap).use (Wt ?_);refine cD ?_ ?_<;>intro h5<;>simp (disch:=omega) only [Sh.out h5,go_sem,seval,↓reduceIte]
         ·grind
         ·rw [if_neg (by grind)];refine (Zjz x (Z8 r.visits) r.visits r.visits_c hlt hl hbe).use (Wt ?_);refine cD ?_ ?_<;>intro h6<;>simp (disch:=omega) only [Sh.out h6,go_sem,seval]
          ·grind
          grind
structure IFacts (x:Inst):Prop where
 len:x.orders.length<=10
 plc:Plc x
 vne:Vne x
 val:Val x.orders.length x.before
 ne: ∀p∈x.before,p.1≠p.2
 aval:Val x.orders.length x.apart
theorem cW {n:Int} {word:List UInt8} {sm:Int×Int->Int×Int->Bool} {l:List (Int×Int)} (h:JU n word sm l l.length= []): ∀p∈l,oA n p=true:=by
 intro p hp;obtain ⟨i,hi,rfl⟩:=ZP.1 hp;have h2:=(Qs.1 h).2;rw [List.flatMap_eq_nil_iff] at h2;have h3:=h2 i (by grind)
 grind [TE,Ze]
theorem XY {x:Inst} (h:InstOk x):IFacts x:=by
 have ho:=h.orders;obtain ⟨h1,h2⟩:=Qs.1 h.rules;have ha:=cW h1;have hb:=cW h2
 have hpl:Plc x:=fun o hm=>by
  obtain ⟨i,hi,rfl⟩:=ZP.1 hm;have:=ho.2 i hi;rw [<- Ze hi];exact ⟨this.pick.1,this.drp.1⟩
 have val: ∀l:List (Int×Int),(∀p∈l,oA x.orders.length p=true)->Val x.orders.length l:=fun l h p hp=>by
  grind [oA]
 refine ⟨ho.1,hpl,fun i hi=> ?_,val _ hb,fun p hp=> ?_,val _ ha⟩
 ·have h3:=ho.2 i hi;have h4:=hpl _ (Zq hi);have h5:=h3.one
  grind [ZX]
 grind [oA]
theorem Xj {l:List Vis} {o:Int} :hasO l o=true↔ ∃v∈l,v.order=o:=by simp [hasO]
theorem BT : ∀(l:List Vis) (i:Nat),(Z8 l).testBit i=true↔ ∃v∈l,v.order.toNat=i:=by
 have key: ∀(l:List Vis) (s i:Nat),(l.foldl (fun s v=>s|||pw v.order.toNat) s).testBit i=true↔s.testBit i=true\/ ∃v∈l,v.order.toNat=i:=by
  intro l
  induction l with
  | nil=>simp
  | cons v l ih =>
   intro s i;rw [Yp,ih,K7,JM,Wg,Zl,or_assoc];simp
 grind [Z8]
def Inr (x:Inst) (l:List Vis):Prop:= ∀v∈l,0<=v.order/\v.order<x.orders.length
theorem VP {x:Inst} {l:List Vis} (hi:Inr x l) (hn:x.orders.length<=60) (o:Int) (h:0<=o/\o<=62):nHas (Z8 l) o=hasO l o:=by
 rw [YO,EL,BT,Xj]
 constructor
 ·rintro ⟨h1,h2,v,hv,h3⟩;have:=hi v hv
  grind
 grind
theorem QB {l:List Vis} (hd:l.Nodup) {k:Nat} (hk:k<l.length):vIx l (nth l k)=(k:Int):=by
 refine HL hk Zb fun j hj=> ?_
 grind [Ze,UH]
theorem DW {l:List Vis} {v:Vis} (h:0<=vIx l v):(vIx l v).toNat<l.length/\nth l (vIx l v).toNat=v:=by
 grind [vIx,Gf,VY,Ze]
theorem Zcf {l:List Vis} {k:Nat} (hk:k<l.length):0<=vIx l (nth l k)/\vIx l (nth l k)<=(k:Int):=by
 grind [vIx,nth,Zq,Gf,VY]
theorem UT {l:List Vis} {v:Vis} {i:Nat} (h:v∈l.take i): ∃j,j<i/\j<l.length/\nth l j=v:=by
 obtain ⟨j,hj,rfl⟩:=ZP.1 h;simp at hj;exact ⟨j,Za,Za,by grind [Ze]⟩
theorem Ki {l:List Vis} {i j:Nat} (h:j<i) (hl:j<l.length):nth l j∈l.take i:=by
 grind [Ze,ZP]
theorem A8 {l:List Vis} :KH l=false↔l.Nodup:=by
 rw [KH,XV]
 constructor
 ·intro h;rw [List.nodup_iff_pairwise_ne,UH];intro i j hi hj hij e;have:=h j (by grind);simp only [Zl,Y6] at this;refine this ?_;rw [Ze hj,<- e,<- Ze hi];exact Ki hij hi
 ·intro h j hj;simp only [Zl,Y6]
  grind [UT,QB]
theorem Tq {l:List Vis} :((List.range l.length).any fun i=>decide (vIx l (nth l i)≠(i:Int)))=KH l:=by
 rw [YO]
 constructor
 ·grind [QB,A8]
 ·intro h;rw [KH,UM] at h;obtain ⟨j,hj,h2⟩:=h;simp only [Zl,Y6] at h2;obtain ⟨i,h3,h4,h5⟩:=UT h2
  grind
def AZ (l:List Vis) (b:Int):Int:=Gf (fun v=>decide (v.order=b)) l
theorem Ae {l:List Vis} {b:Int} :0<=AZ l b↔ ∃v∈l,v.order=b:=by
 grind [ND,AZ]
theorem BQ {l:List Vis} {b:Int} (h:0<=AZ l b):(AZ l b).toNat<l.length/\(nth l (AZ l b).toNat).order=b/\ ∀j,j<(AZ l b).toNat->(nth l j).order≠b:=by
 unfold AZ Gf at h ⊢
 grind [VY,Ze]
theorem fI {l:List Vis} {b:Int} {k:Nat} (hk:k<l.length) (h:(nth l k).order=b):0<=AZ l b/\AZ l b<=(k:Int):=by
 have h0:0<=AZ l b:=Ae.2 ⟨_,Zq hk,h⟩;refine ⟨h0,?_⟩;obtain ⟨h1,h2,h3⟩:=BQ h0
 grind
theorem VJ {l:List Vis} {a b:Int} :beforeB l a b=true↔(0<=AZ l b->(∃v∈l,v.order=a)/\ ∀j,j<l.length->(nth l j).order=a->(j:Int)<AZ l b):=by
 unfold beforeB;rw [show Gf (fun v=>decide (v.order=b)) l=AZ l b from rfl]
 by_cases h:AZ l b<0
 ·grind
 ·rw [if_neg h,ZO,Xj]
  have h0:0<=AZ l b:=Za
  obtain ⟨h1,h2,h3⟩:=BQ h0
  have hd:(!hasO (l.drop (AZ l b).toNat) a)=true↔ ∀j,j<l.length->(nth l j).order=a->(j:Int)<AZ l b:=by
   rw [Xq,<- V0,Xj]
   constructor
   ·intro hno j hj e;rcases Int.lt_or_le (j:Int) (AZ l b) with h4 | h4
    ·exact h4
    ·refine absurd ⟨nth l j,?_,e⟩ hno;rw [Ze hj];exact ZP.2 ⟨j-(AZ l b).toNat,by simp;omega,by grind⟩
   ·rintro hall ⟨v,hv,e⟩;obtain ⟨j,hj,rfl⟩:=ZP.1 hv
    grind [Ze]
  grind
theorem Np {x:Inst} {l:List Vis} (hi:Inr x l) (hn:x.orders.length<=60) {p:Int×Int} (h1:0<=p.1/\p.1<x.orders.length) (h2:0<=p.2/\p.2<x.orders.length) (hne:p.1≠p.2):Qd (Z8 l) l p=beforeB l p.1 p.2:=by
 rw [YO,VJ,Qd,VP hi hn _ Za,VP hi hn _ Za];simp only [Wg,Xq,ZO];rw [<- V0,Xj,Xj,<- Ae,<- Ae (b:=p.1)]
 constructor
 ·rintro (h | ⟨h3,h4⟩) h0
  ·omega
  ·refine ⟨h3,fun j hj e=> ?_⟩;rw [Zv] at h4;have h5:=h4 j (by grind);rw [Zv] at h5;obtain ⟨g1,g2,g3⟩:=BQ h0;rcases Int.lt_or_le (j:Int) (AZ l p.2) with h6 | h6
   ·exact h6
   ·have hne2:j≠(AZ l p.2).toNat:=fun e2=>hne (by grind);have:=h5 (AZ l p.2).toNat (by simp;omega)
    grind [JQ]
 ·intro h
  by_cases h0:0<=AZ l p.2
  ·obtain ⟨h3,h4⟩:=h h0;refine .inr ⟨h3,?_⟩;rw [Zv];intro j hj;rw [Zv];intro k hk;simp at hj hk
   cases hb:JQ l p.1 p.2 j k with
   | false=>rfl
   | true =>
    simp [JQ] at hb;have h5:=h4 j hj hb.1;have h6:=(fI Za hb.2).2;omega
  omega
theorem pB {x:Inst} (hf:IFacts x) (l:List Vis):Md x l=Xl x l:=by
 by_cases ho:l.any (VQ x)=true
 ·simp_all [Md,Xl]
 ·have ho':l.any (VQ x)=false:=by grind
  have hi:Inr x l:=fun v hv=>by
   grind [VQ]
  have hn:x.orders.length<=60:=by have:=hf.len;omega
  rw [Md,if_neg ho,Xl]
  by_cases h0:l.length=0
  ·omega
  ·have hc: ¬(l.length=0\/l.any (VQ x)=true):=fun h=>h.elim h0 ho;rw [if_neg h0,if_neg hc,Tq]
   have e1:apB x (Z8 l)=x.apart.any fun p=>hasO l p.1&&hasO l p.2:=by
    rw [apB,YO,UM,UM]
    have: ∀p∈x.apart,(nHas (Z8 l) p.1&&nHas (Z8 l) p.2)=(hasO l p.1&&hasO l p.2):=fun p hp=>by
     have:=hf.aval p hp
     grind [VP]
    grind
   have e2:(x.before.all (Qd (Z8 l) l)=false)=((x.before.any fun p=> !beforeB l p.1 p.2)=true):=by
    have: ∀p∈x.before,Qd (Z8 l) l p=beforeB l p.1 p.2:=fun p hp=>by
     have:=hf.val p hp;exact Np hi hn Za Za (hf.ne p hp)
    grind
   grind
def X8 (p:Pln):AM.Obj:= .cells [.p (.list p.routes_c (p.routes.map Wc)),.p (.list p.unserved_c (p.unserved.map eI))]
def Ik (r:Rte):Prop:=r.visits.length<=1048576/\r.rests.length<=1048576
def W4 (f:Nat->Int) (n:Nat):List Int:=(List.range n).map f
theorem Mg {f n} :(W4 f n).length=n:=by simp [W4]
theorem E4 {f:Nat->Int} {n j:Nat} (h:j<n):nth (W4 f n) j=f j:=by grind [Ze,W4]
theorem Ig {f g:Nat->Int} {n:Nat} (h: ∀i,i<n->f i=g i):W4 f n=W4 g n:=YG fun i hi=>h i (ZQ.1 hi)
theorem Mh {f n j v} :(W4 f n).set j v=W4 (fun i=>if i=j then v else f i) n:=by
 refine VE (by simp [W4]) fun i h1 h2=> ?_
 have hi:i<n:=by grind [W4]
 rw [List.getElem_set];simp only [W4,List.getElem_map,List.getElem_range];omega
def Xx (rs:List Rte):Nat->Nat->Int
 | 0,_=> -1
 | k+1,o=>if hasO (nth rs k).visits (o:Int)=true then (k:Int) else Xx rs k o
theorem QQ {rs:List Rte} {o:Nat} : ∀k:Nat,-1<=Xx rs k o/\Xx rs k o<(k:Int)
 | 0=>by simp [Xx]
 | k+1=>by
  have:=QQ (rs:=rs) (o:=o) k
  grind [Xx]
def Qx (rs:List Rte) (k:Nat) (l:List Vis) (o:Nat):Int:=if hasO l (o:Int)=true then (k:Int) else Xx rs k o
def Ts (n:Nat) (v:Vis):Bool:=decide (v.order<0)||decide ((n:Int)<=v.order)
def B3 (x:Inst) (r:Rte):Bool:=(decide (r.typ<0)||decide ((x.types.length:Int)<=r.typ))||r.visits.any (Ts x.orders.length)
def P9 (rs:List Rte) (k:Nat) (l:List Vis):Bool:=l.any fun v=>decide (0<=Xx rs k v.order.toNat)
def MN (rs:List Rte):Nat->Bool
 | 0=>false
 | k+1=>MN rs k||P9 rs k (nth rs k).visits
def Jo (x:Inst) (p:Pln):Int:=if p.routes.any (B3 x)=true then 2 else if MN p.routes p.routes.length=true then 6 else 0
def Au (rs:List Rte) (i:Int):Int:=if 0<=i then (nth rs i.toNat).typ else-1
def FM (x:Inst) (p:Pln):List Int:=W4 (fun o=>Au p.routes (Xx p.routes p.routes.length o)) x.orders.length
theorem LJ {x p} :(FM x p).length=x.orders.length:=Mg
theorem Sd {l:List Vis} {v:Vis} {o:Int} :hasO (l++ [v]) o=(hasO l o||decide (v.order=o)):=by simp [hasO]
theorem Sv {rs:List Rte} {k:Nat} {l:List Vis} {v:Vis} {n:Nat} (h:0<=v.order/\v.order<(n:Int)):(W4 (Qx rs k l) n).set v.order.toNat (k:Int)=W4 (Qx rs k (l++ [v])) n:=by
 rw [Mh];refine Ig fun i hi=> ?_;rw [Qx,Qx,Sd]
 grind
theorem eU {rs:List Rte} {k:Nat} :Qx rs k (nth rs k).visits=Xx rs (k+1):=funext fun o=>rfl
theorem ZhT {rs:List Rte} {k:Nat} :Qx rs k []=Xx rs k:=funext fun o=>by rfl
theorem eV {rs:List Rte} {k:Nat} {l:List Vis} {o:Nat} : -1<=Qx rs k l o/\Qx rs k l o<=(k:Int):=by
 have:=QQ (rs:=rs) (o:=o) k
 grind [Qx]
theorem jC {rs:List Rte} {k:Nat} {l:List Vis} {v:Vis} (h:0<=v.order) {b:Bool} :((b||P9 rs k l)||(decide (Qx rs k l v.order.toNat≠ -1)&&decide (Qx rs k l v.order.toNat≠(k:Int))))=(b||P9 rs k (l++ [v])):=by
 have hr:=QQ (rs:=rs) (o:=v.order.toNat) k
 have e:P9 rs k (l++ [v])=(P9 rs k l||decide (0<=Xx rs k v.order.toNat)):=by simp [P9]
 rw [e,Qx]
 by_cases c:hasO l (v.order.toNat:Int)=true
 ·rw [if_pos c]
  grind [P9,Xj]
 grind
theorem LH {x:Inst} {p:Pln} {k:Nat} (h:k<p.routes.length) (hb:B3 x (nth p.routes k)=true):Jo x p=2:=by
 rw [Jo,if_pos (UM.2 ⟨_,Zq h,hb⟩)]
theorem pA {x:Inst} {p:Pln} (h: ∀j,j<p.routes.length->B3 x (nth p.routes j)=false):p.routes.any (B3 x)=false:=by
 rw [XV];intro r hr;obtain ⟨j,hj,rfl⟩:=ZP.1 hr
 grind [Ze]
theorem Pr {x:Inst} {p:Pln} (h: ∀j,j<p.routes.length->B3 x (nth p.routes j)=false):Jo x p=if MN p.routes p.routes.length=true then 6 else 0:=by
 rw [Jo,pA h];simp
set_option maxRecDepth 60000
def Sm : List Rte->Int->Int
 | [],_=> -1
 | r::t,o=>if hasO r.visits o=true then r.typ else Sm t o
theorem bX {α:Type} [Inhabited α] {l:List α} {k:Nat} (h:k<l.length):l.drop k=nth l k::l.drop (k+1):=by rw [UG h,Ze h]
theorem Sc {v:Vis} {l:List Vis} {o:Int} :hasO (v::l) o=(decide (v.order=o)||hasO l o):=rfl
theorem Zbu {P Q:Prop} (h:Q) (e:Q->P:=by intro h;simp (disch:=omega) only [X8,go_sem,seval];exact h):P:=e h
theorem ZdU (p:Pln) (o:Int) (hr:p.routes.length<=1048576) (hv: ∀r∈p.routes,r.visits.length<=1048576) :
  PC 133 [.p (Ue p),.p (.int .i64 o)] (.int .i64 (Sm p.routes o)):=by
 refine Zc Tryz.func133 rfl xP ?_;simp (disch:=omega) only [Tryz.f133,go_sem,seval];refine Zk [1,2] (fun k:Nat=> [(5,.p (.int .i64 k))]) (fun _=> [X8 p]) (fun k=>k<=p.routes.length/\Sm p.routes o=Sm (p.routes.drop k) o) (fun k=>p.routes.length-k) 0 Zb (Weak.mk ?_) ?_
 ·simp (disch:=omega) only [X8,go_sem,seval]
 ·rintro k ⟨hk,he⟩;refine Zbu ?_;refine cD ?_ ?_<;>intro h<;>simp (disch:=omega) only [Sh.out h,go_sem,seval,↓reduceIte]
  ·have hk2:k<p.routes.length:=Za
   have hvl:=hv _ (Zq hk2);rw [bX hk2,Sm] at he;refine Zk [1,2,5] (fun q:Nat=> [(6,.p (.int .i64 q))]) (fun _=> [X8 p]) (fun q=>q<=(nth p.routes k).visits.length/\hasO (nth p.routes k).visits o=hasO ((nth p.routes k).visits.drop q) o) (fun q=>(nth p.routes k).visits.length-q) 0 Zb (Weak.mk ?_) ?_
   ·simp (disch:=omega) only [X8,go_sem,seval]
   ·rintro q ⟨hq,hh⟩;refine Zbu ?_;refine ZN ?_ ?_<;>intro h2
    ·have hq2:q<(nth p.routes k).visits.length:=Za
     rw [bX hq2,Sc] at hh;refine ZN ?_ ?_<;>intro h3
     ·grind
     ·rw [WU h3,Bool.false_or] at hh;exact ⟨q+1,⟨Za,hh⟩,Za,wk⟩
    ·have hql:q=(nth p.routes k).visits.length:=Za
     rw [hql,KY] at hh;rw [if_neg (by grind [hasO])] at he;exact ⟨k+1,⟨Za,he⟩,Za,wk⟩
  grind [Sm]
def nW (rs:List Rte) (o:Int):Nat->Nat
 | 0=>0
 | k+1=>nW rs o k+if hasO (nth rs k).visits o=true then 1 else 0
theorem ZhY {rs:List Rte} {o:Int} : ∀k,nW rs o k<=k
 | 0=>by simp [nW]
 | k+1=>by have:=ZhY (rs:=rs) (o:=o) k;rw [nW];split<;>omega
theorem CJ {rs:List Rte} {o:Int} : ∀ {k:Nat},1<=nW rs o k↔ ∃a,a<k/\hasO (nth rs a).visits o=true
 | 0=>by simp [nW]
 | k+1=>by
  rw [nW]
  constructor
  ·intro h
   by_cases c:hasO (nth rs k).visits o=true
   ·grind
   ·rw [if_neg c] at h;obtain ⟨a,h1,h2⟩:=CJ.1 (show 1<=nW rs o k by omega);exact ⟨a,Za,h2⟩
  ·rintro ⟨a,h1,h2⟩
   by_cases c:a=k
   ·grind
   ·have:=CJ.2 ⟨a,show a<k by omega,h2⟩;omega
theorem fE {rs:List Rte} {o:Int} : ∀ {k:Nat},2<=nW rs o k↔ ∃a b,a<b/\b<k/\hasO (nth rs a).visits o=true/\hasO (nth rs b).visits o=true
 | 0=>by simp [nW]
 | k+1=>by
  rw [nW]
  constructor
  ·intro h
   by_cases c:hasO (nth rs k).visits o=true
   ·rw [if_pos c] at h
    grind [CJ]
   ·rw [if_neg c] at h;obtain ⟨a,b,h1,h2,h3⟩:=fE.1 (show 2<=nW rs o k by omega);exact ⟨a,b,h1,Za,h3⟩
  ·rintro ⟨a,b,h1,h2,h3,h4⟩
   by_cases c:b=k
   ·subst c;have:=CJ.2 ⟨a,h1,h3⟩
    grind
   ·have:=fE.2 ⟨a,b,h1,show b<k by omega,h3,h4⟩;omega
theorem KW {rs:List Rte} {o:Nat} : ∀ {k:Nat},0<=Xx rs k o↔ ∃a,a<k/\hasO (nth rs a).visits (o:Int)=true
 | 0=>by simp [Xx]
 | k+1=>by
  rw [Xx]
  constructor
  ·intro h
   by_cases c:hasO (nth rs k).visits (o:Int)=true
   ·grind
   ·rw [if_neg c] at h;obtain ⟨a,h1,h2⟩:=KW.1 h;exact ⟨a,Za,h2⟩
  ·rintro ⟨a,h1,h2⟩
   by_cases c:hasO (nth rs k).visits (o:Int)=true
   ·grind
   ·rw [if_neg c];refine KW.2 ⟨a,?_,h2⟩
    grind
theorem P8 {rs:List Rte} : ∀ {k:Nat},(∀j,j<k-> ∀v∈(nth rs j).visits,0<=v.order)->(MN rs k=true↔ ∃o:Nat,2<=nW rs (o:Int) k/\ ∃j,j<k/\hasO (nth rs j).visits (o:Int)=true)
 | 0,_=>by simp [MN,nW]
 | k+1,h=>by
  rw [MN,Wg,P8 fun j hj=>h j Za]
  constructor
  ·rintro (⟨o,h1,j,h2,h3⟩ | h1)
   ·grind [nW]
   ·rw [P9,UM] at h1;obtain ⟨v,hv,h2⟩:=h1;have h3:=KW.1 (K1 h2);have h4:=CJ.2 h3;have h5:hasO (nth rs k).visits (v.order.toNat:Int)=true:=Xj.2 ⟨v,hv,by grind⟩;exact ⟨v.order.toNat,by simp_all [nW],k,Za,h5⟩
  ·rintro ⟨o,h1,_⟩;rw [nW] at h1
   by_cases c:hasO (nth rs k).visits (o:Int)=true
   ·rw [if_pos c] at h1;refine .inr ?_;obtain ⟨v,hv,e⟩:=Xj.1 c;rw [P9,UM];refine ⟨v,hv,Yq ?_⟩
    simp_all [KW,CJ]
   grind
theorem Sj {x:Inst} {p:Pln} (h:Jo x p=0):(∀r∈p.routes,B3 x r=false)/\MN p.routes p.routes.length=false:=by
 grind [Jo]
theorem E0 {x:Inst} {r:Rte} (h:B3 x r=false):(0<=r.typ/\r.typ<(x.types.length:Int))/\ ∀v∈r.visits,0<=v.order/\v.order<(x.orders.length:Int):=by
 simp_all [B3,Ts]
def Qz {α:Type} (f:Nat->α) (n:Nat):List α:=(List.range n).map f
section
variable {α : Type} {f g : Nat -> α} {n j : Nat}
theorem WM : (Qz f n).length=n:=by simp [Qz]
theorem Kw [Inhabited α] (h:j<n):nth (Qz f n) j=f j:=by grind [Ze,Qz]
theorem JH (h: ∀i,i<n->f i=g i):Qz f n=Qz g n:=YG fun i hi=>h i (ZQ.1 hi)
theorem Mj {v:α} :(Qz f n).set j v=Qz (fun i=>if i=j then v else f i) n:=by
 refine VE (by simp [Qz]) fun i h1 h2=> ?_;rw [List.getElem_set];simp only [Qz,List.getElem_map,List.getElem_range]
 grind
theorem S5 [Inhabited α] {l:List α} :Qz (nth l) l.length=l:=by
 refine VE WM fun i h1 h2=> ?_;rw [<- Ze h1,Kw h2,Ze h2]
end
def CA (l:List Ord) (s:List UInt8):Int:=match l.findIdx? (fun o=>decide (o.name=s)) with | some i=>(i:Int) | none=> -1
theorem nD {l:List Ord} {s:List UInt8} {k:Nat} (hk:k<l.length) (h:(nth l k).name=s) (hno: ∀j,j<k->(nth l j).name≠s):CA l s=(k:Int):=by
 have:l.findIdx? (fun o=>decide (o.name=s))=some k:=by
  grind [VY,Ze]
 simp [CA,this]
theorem nE {l:List Ord} {s:List UInt8} (hno: ∀j,j<l.length->(nth l j).name≠s):CA l s= -1:=by
 have:l.findIdx? (fun o=>decide (o.name=s))=none:=by
  rw [List.findIdx?_eq_none_iff];intro x hx;obtain ⟨j,hj,rfl⟩:=ZP.1 hx
  grind [Ze]
 simp [CA,this]
theorem Lu {l:List Ord} {s:List UInt8} : -1<=CA l s/\CA l s<(l.length:Int):=by
 grind [CA,VY]
def tR : Inst:=⟨⟨true,[],true,[]⟩,true,[],true,[],true,[],true,[]⟩
def FI (x:Inst) (j:Nat):Ord:= { nth x.orders j with now:= -1 }
def Cu (x b:Inst) (p:Pln) (j:Nat):Ord :=
 if 0<=CA b.orders (nth x.orders j).name/\0<=nth (FM b p) (CA b.orders (nth x.orders j).name).toNat then { FI x j with last:=nth (FM b p) (CA b.orders (nth x.orders j).name).toNat } else FI x j
def bO (x b:Inst) (p:Pln):Inst:= { x with orders_c:=false,orders:=Qz (Cu x b p) x.orders.length }
def TC (x b:Inst) (p:Pln):Int:=if x.types.length=b.types.length then Jo b p else 2
def crT (x b:Inst) (p:Pln):V:= .tup [.p (ZG (if TC x b p=0 then bO x b p else tR)),.p (.int .i64 (TC x b p))]
theorem eD {x:Inst} {p:Pln} (h:Jo x p=0) {j:Nat} (hj:j<x.orders.length): -1<=nth (FM x p) j/\nth (FM x p) j<(x.types.length:Int):=by
 obtain ⟨h1,_⟩:=Sj h;rw [FM,E4 hj,Au];have hr:=QQ (rs:=p.routes) (o:=j) p.routes.length
 split
 ·have:=(E0 (h1 _ (Zq (show (Xx p.routes p.routes.length j).toNat<p.routes.length by omega)))).1;omega
 ·omega
theorem HB {x b:Inst} {p:Pln} {j:Nat} : ∃v:Int,Cu x b p j= { nth x.orders j with now:= -1,last:=v } /\((v=(nth x.orders j).last)\/(Jo b p=0->0<=v/\v<(b.types.length:Int))):=by
 rw [Cu]
 split
 ·rename_i h;refine ⟨_,rfl,.inr fun h0=> ?_⟩;have:=eD h0 (j:=(CA b.orders (nth x.orders j).name).toNat) (by simp_all [Lu]);omega
 ·exact ⟨_,rfl,.inl rfl⟩
theorem bP {x b:Inst} {p:Pln} (hx:InstOk x) (h:TC x b p=0):InstOk (bO x b p):=by
 rw [TC] at h
 split at h
 rotate_left
 ·omega
 rename_i ht;have hlen:(bO x b p).orders.length=x.orders.length:=WM;have hn: ∀i,i<x.orders.length->nth (bO x b p).orders i=Cu x b p i:=fun i hi=>Kw hi;refine ⟨hx.net,hx.types,⟨by rw [hlen];exact hx.orders.1,fun i hi=> ?_⟩,by rw [hlen];exact hx.rules⟩;rw [hlen] at hi;have ho:=hx.orders.2 i hi;obtain ⟨v,e,hv⟩:=HB (x:=x) (b:=b) (p:=p) (j:=i)
 constructor
 ·rw [hn i hi,e];exact ho.name
 ·intro j hj;obtain ⟨v2,e2,_⟩:=HB (x:=x) (b:=b) (p:=p) (j:=j);rw [hn i hi,hn j Za,e,e2];exact ho.twin j hj
 ·rw [hn i hi,e];exact ho.load
 ·rw [hn i hi,e];exact ho.pick
 ·rw [hn i hi,e];exact ho.drp
 ·rw [hn i hi,e];exact ho.one
 ·rw [hn i hi,e];exact ho.pstp
 ·rw [hn i hi,e];exact ho.dstp
 ·rw [hn i hi,e];exact ho.skills
 ·rw [hn i hi,e];have ha:=ho.arg
  show argOk _ (x.types.length:Int)=true
  simp only [argOk,ZO,Zl] at ha ⊢;obtain ⟨⟨a1,a2⟩,a3,a4,a5,a6,a7⟩:=ha;refine ⟨⟨a1,a2⟩,a3,?_⟩;omega
end Go.Proofs.YtiigdaohjanidaaGreatDoor.K
namespace Go.Proofs.YtiigdaohjanidaaGreatDoor.K
section
variable {L : Type} (fin : L -> Int) (beats : L -> L -> Bool) (nxt : Nat -> L -> Bool -> Option L) (choices : Nat -> List Bool)
def Vq : Option L->List L->Option L
 | b,[]=>b
 | none,x::l=>Vq (some x) l
 | some m,x::l=>if fin x<fin m then Vq (some x) l else Vq (some m) l
theorem KT : ∀(b:Option L) (l r:List L),Vq fin b (l++r)=Vq fin (Vq fin b l) r
 | b,[],r=>by rfl
 | none,x::l,r=>by rw [ZY,Vq,Vq,KT]
 | some m,x::l,r=>by
  rw [ZY,Vq,Vq]
  split
  ·rw [KT]
  ·rw [KT]
theorem QO : ∀(l:List L) (m:L),∃z,Vq fin (some m) l=some z/\fin z<=fin m/\ ∀y∈l,fin z<=fin y
 | [],m=>⟨m,rfl,Za,Zb⟩
 | x::l,m=>by
  rw [Vq]
  split
  ·rename_i h;obtain ⟨z,e,h1,h2⟩:=QO l x
   grind
  ·rename_i h;obtain ⟨z,e,h1,h2⟩:=QO l m
   grind
theorem Lt : ∀(l:List L) (m:L),(∀y∈l,fin m<=fin y)->Vq fin (some m) l=some m
 | [],m,_=>rfl
 | x::l,m,h=>by
  have:=h x List.mem_cons_self;rw [Vq,if_neg Za];exact Lt l m fun y hy=>h y (Yv _ hy)
theorem R8 (A B:List L) (h: ∀y∈B,∃z∈A,fin z<=fin y):Vq fin none (A++B)=Vq fin none A:=by
 rw [KT]
 cases A with
 | nil=>cases B with
  | nil=>rfl
  | cons y B=>grind [List.mem_cons_self]
 | cons a A =>
  rw [Vq];obtain ⟨z,e,h1,h2⟩:=QO fin A a;rw [e];refine Lt fin B z fun y hy=> ?_
  grind
def XX : List L->List L->List L
 | out,[]=>out
 | out,x::l=>if out.any (fun m=>beats m x)=true then XX out l else XX (out++ [x]) l
theorem Cz {R:L->List L} : ∀(c out:List L),(∀x∈out++c,∀m∈out++c,beats m x=true-> ∀y∈R x,∃z∈R m,fin z<=fin y)->Vq fin none ((XX beats out c).flatMap R)=Vq fin none ((out++c).flatMap R)
 | [],out,_=>by simp [XX]
 | x::c,out,h=>by
  rw [XX]
  split
  ·rename_i hb;obtain ⟨m,hm,hb⟩:=UM.1 hb
   have hb:beats m x=true:=by simpa using hb
   rw [Cz c out (fun a ha b hb=>h a (by simp only [XI,Xs] at ha ⊢;rcases ha with h | h<;>simp [h]) b (by simp only [XI,Xs] at hb ⊢;rcases hb with h | h<;>simp [h]))];rw [List.flatMap_append,List.flatMap_append,BC,<- UK,KT,KT (l:=out.flatMap R++R x)];rw [R8 fin (out.flatMap R) (R x)];intro y hy;obtain ⟨z,hz,hle⟩:=h x Zb m (by simp [hm]) hb y hy;exact ⟨z,YN.2 ⟨m,hm,hz⟩,hle⟩
  ·rw [Cz c (out++ [x]) (by simpa using h)];simp
theorem Ai : ∀(c out:List L),∀x∈XX beats out c,x∈out++c
 | [],out,x,h=>by grind [XX]
 | a::c,out,x,h=>by
  rw [XX] at h
  split at h
  ·have:=Ai c out x h;simp only [XI,Xs] at this ⊢;rcases this with h | h<;>simp [h]
  ·have:=Ai c (out++ [a]) x h;simpa using this
def HK : Nat->Nat->List (List Bool)
 | 0,_=> [[]]
 | j+1,k=>(choices k).flatMap fun b=>(HK j (k+1)).map (b:: ·)
def Vp : Nat->L->List Bool->Option L
 | _,x,[]=>some x
 | k,x,b::bs=>match nxt k x b with
  | some y=>Vp (k+1) y bs
  | none=>none
def Vi (j k:Nat) (x:L):List L:=(HK choices j k).filterMap (Vp nxt k x)
def WZ (k:Nat) (l:List L):List L:=l.flatMap fun x=>(choices k).filterMap (nxt k x)
def JP : Nat->Nat->List L->List L
 | 0,_,l=>l
 | j+1,k,l=>JP j (k+1) (XX beats [] (WZ nxt choices k l))
theorem Od (k:Nat) (x:L):Vi nxt choices 0 k x= [x]:=rfl
theorem E2 (j k:Nat) (x:L):Vi nxt choices (j+1) k x=((choices k).filterMap (nxt k x)).flatMap (Vi nxt choices j (k+1)):=by
 unfold Vi;rw [HK]
 induction choices k with
 | nil=>rfl
 | cons b bs ih =>
  rw [BC,List.filterMap_append,ih,List.filterMap_cons]
  cases h:nxt k x b with
  | none =>
   simp_all [Vp]
  | some y =>
   rw [List.filterMap_map]
   have:(Vp nxt k x∘fun l=>b::l)=Vp nxt (k+1) y:=by grind [Vp]
   grind
theorem GP {n:Nat} {Inv:Nat->L->Prop} (hI: ∀k x b y,Inv k x->nxt k x b=some y->Inv (k+1) y) (hd: ∀k m x b y,Inv k m->Inv k x->beats m x=true->nxt k x b=some y-> ∃z,nxt k m b=some z/\beats z y=true)
  (he: ∀m x,Inv n m->Inv n x->beats m x=true->fin m<=fin x): ∀(j k:Nat) (m x:L),k+j=n->Inv k m->Inv k x->beats m x=true-> ∀y∈Vi nxt choices j k x,∃z∈Vi nxt choices j k m,fin z<=fin y
 | 0,k,m,x,hk,h1,h2,hb,y,hy=>by
  grind [Od]
 | j+1,k,m,x,hk,h1,h2,hb,y,hy=>by
  rw [E2] at hy ⊢;obtain ⟨q,hq,hy⟩:=YN.1 hy;obtain ⟨b,hbm,hn⟩:=BH.1 hq;obtain ⟨z,hz,hzb⟩:=hd k m x b q h1 h2 hb hn;obtain ⟨u,hu,hle⟩:=GP hI hd he j (k+1) z q Za (hI k m b z h1 hz) (hI k x b q h2 hn) hzb y hy
  grind
theorem Pp {n:Nat} {Inv:Nat->L->Prop} (hI: ∀k x b y,Inv k x->nxt k x b=some y->Inv (k+1) y) (hd: ∀k m x b y,Inv k m->Inv k x->beats m x=true->nxt k x b=some y-> ∃z,nxt k m b=some z/\beats z y=true)
  (he: ∀m x,Inv n m->Inv n x->beats m x=true->fin m<=fin x): ∀(j k:Nat) (l:List L),k+j=n->(∀x∈l,Inv k x)->Vq fin none (JP beats nxt choices j k l)=Vq fin none (l.flatMap (Vi nxt choices j k))
 | 0,k,l,hk,hl=>by
  have:l.flatMap (Vi nxt choices 0 k)=l:=by
   have:Vi nxt choices 0 k=fun x=> [x]:=by rfl
   rw [this];simp
  rw [this];rfl
 | j+1,k,l,hk,hl=>by
  have hc: ∀x∈WZ nxt choices k l,Inv (k+1) x:=fun x hx=>by
   obtain ⟨q,hq,hx⟩:=YN.1 hx
   grind
  have e:l.flatMap (Vi nxt choices (j+1) k)=(WZ nxt choices k l).flatMap (Vi nxt choices j (k+1)):=by
   rw [WZ,List.flatMap_assoc]
   congr 1
   grind [E2]
  rw [JP,Pp hI hd he j (k+1) _ Za (fun x hx=>hc x (by simpa using Ai beats _ _ x hx)),Cz fin beats _ _ (fun x hx m hm hb y hy=> ?_),e]
  ·simp
  ·exact GP fin beats nxt choices hI hd he j (k+1) m x Za (hc m (by grind)) (hc x (by grind)) hb y hy
def Y3 : List Bool->List (List Bool)
 | []=> [[]]
 | b::bs=>if b then (Y3 bs).map (true:: ·) else (Y3 bs).map (false:: ·)++(Y3 (List.replicate bs.length false)).map (true:: ·)
termination_by l => l.length
decreasing_by all_goals simp
def Yh : List Bool->Option (List Bool)
 | []=>none
 | b::bs=>match Yh bs with
  | some l=>some (b::l)
  | none=>if b then none else some (true::List.replicate bs.length false)
theorem fromB_next : ∀l:List Bool,Y3 l=l::(match Yh l with | some r=>Y3 r | none=> [])
 | []=>by simp [Y3,Yh]
 | b::bs=>by
  have ih:=fromB_next bs
  have e0: ∀l:List Bool,Y3 (true::l)=(Y3 l).map (true:: ·):=fun l=>by rw [Y3];simp
  have e1: ∀l:List Bool,Y3 (false::l)=(Y3 l).map (false:: ·)++(Y3 (List.replicate l.length false)).map (true:: ·):=fun l=>by rw [Y3];simp
  cases b with
  | true =>
   rw [e0,ih,Yh]
   cases h:Yh bs with
   | none=>simp
   | some r=>simp [e0]
  | false =>
   rw [e1,ih,Yh]
   cases h:Yh bs with
   | none=>simp [e0]
   | some r =>
    have hl:r.length=bs.length:=nlen bs r h;simp [e1,hl]
where nlen : ∀(l r:List Bool),Yh l=some r->r.length=l.length
 | [],r,h=>by simp [Yh] at h
 | b::bs,r,h=>by
  rw [Yh] at h
  cases h2:Yh bs with
  | none =>
   grind
  | some q =>
   rw [h2] at h;simp at h;subst h;simp [nlen bs q h2]
theorem Ll {n:Nat} : ∀(j k:Nat),(∀q,k<=q->choices q= [false,true])->HK choices j k=Y3 (List.replicate j false)
 | 0,k,_=>by simp [HK,Y3]
 | j+1,k,h=>by
  rw [HK,h k (Xf _),Ll (n:=n) j (k+1) (fun q hq=>h q Za),Qw,Y3];simp
end
end Go.Proofs.YtiigdaohjanidaaGreatDoor.K
