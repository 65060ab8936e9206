/- Declarations that the closing texts need, part 19: joined by tools/slim.py. -/
import Derived.Test.YtiigdaohjanidaaGreatDoorZ18
import Derived.Test.YtiigdaohjanidaaGreatDoorRows
namespace Go.Proofs.YtiigdaohjanidaaGreatDoor.K
open Go Go.AM Go.Proofs
theorem Hx : Tryz.prog.cellsOf 3=1:=Zd
theorem ZgO : Tryz.prog.cellsOf 4=1:=Zd
theorem ZgX : Tryz.prog.cellsOf 9=1:=Zd
theorem ZgK : Tryz.prog.cellsOf 30=1:=Zd
theorem aQ : Tryz.prog.cellsOf 31=1:=Zd
theorem sO : Tryz.prog.cellsOf 33=2:=Zd
theorem ZiG : C2 Tryz.prog 33=some [(0,30),(1,31)]:=Zd
theorem ZgL : Tryz.prog.cellsOf 35=1:=Zd
theorem ZgM : Tryz.prog.cellsOf 36=1:=Zd
theorem sP : Tryz.prog.cellsOf 38=2:=Zd
theorem ZiH : C2 Tryz.prog 38=some [(0,35),(1,36)]:=Zd
theorem ZgN : Tryz.prog.cellsOf 39=1:=Zd
theorem ZgP : Tryz.prog.cellsOf 40=1:=Zd
theorem ZgQ : Tryz.prog.cellsOf 41=1:=Zd
theorem sQ : Tryz.prog.cellsOf 43=6:=Zd
theorem ZiI : C2 Tryz.prog 43=some [(0,38),(2,39),(3,40),(4,41),(5,41)]:=Zd
theorem ZgR : Tryz.prog.cellsOf 46=1:=Zd
theorem ZgS : Tryz.prog.cellsOf 47=1:=Zd
theorem ZgT : Tryz.prog.cellsOf 49=4:=Zd
theorem tH : C2 Tryz.prog 49=some [(0,3),(1,3),(2,46),(3,47)]:=Zd
theorem sR : Tryz.prog.cellsOf 57=4:=Zd
theorem ZiJ : C2 Tryz.prog 57=some [(0,3),(1,3),(2,3),(3,3)]:=Zd
theorem ZgU : Tryz.prog.cellsOf 59=16:=Zd
theorem tI : C2 Tryz.prog 59=some [(0,9),(1,31),(2,57),(6,57),(10,3),(11,3),(12,3),(13,3),(14,3),(15,4)]:=Zd
theorem ZgV : Tryz.prog.cellsOf 63=15:=Zd
theorem tJ : C2 Tryz.prog 63=some [(0,43),(6,33),(8,3),(9,43)]:=Zd
theorem ZgW : Tryz.prog.cellsOf 82=14:=Zd
theorem tK : C2 Tryz.prog 82=some [(0,9),(1,3),(2,3),(3,3),(4,31),(5,3),(6,3),(7,3),(8,3),(9,3),(10,3),(11,3),(12,3),(13,3)]:=Zd
theorem vS : Tryz.prog.cellsOf 126=2:=Zd
theorem gN : C2 Tryz.prog 126=some [(0,3),(1,4)]:=Zd
theorem vT : Tryz.prog.cellsOf 127=1:=Zd
theorem vU : Tryz.prog.cellsOf 129=6:=Zd
theorem gO : C2 Tryz.prog 129=some [(0,3),(1,3),(2,3),(3,3),(4,127),(5,127)]:=Zd
theorem vV : Tryz.prog.cellsOf 132=2:=Zd
theorem gP : C2 Tryz.prog 132=some [(0,3),(1,3)]:=Zd
theorem vW : Tryz.prog.cellsOf 188=2:=Zd
theorem gQ : C2 Tryz.prog 188=some [(0,3),(1,3)]:=Zd
set_option linter.unusedVariables false
set_option linter.unusedSimpArgs false
mutual
theorem Nt {H:Type} :(d:DataW H)->Fj d<=Rows.uptoBulk d
 | .lit l=>by cases l<;>simp [Fj,Rows.uptoBulk]
 | .nil=>by simp [Fj,Rows.uptoBulk]
 | .ptr d=>by have:=Nt d;simp only [Fj,Rows.uptoBulk];omega
 | .slice es sp=>by have:=Bb es;have:=Bb sp;simp only [Fj,Rows.uptoBulk];omega
 | .agg ps=>by have:=Bb ps;simp only [Fj,Rows.uptoBulk];omega
 | .iface _ d=>by have:=Nt d;simp only [Fj,Rows.uptoBulk];omega
 | .map es=>by simp only [Fj,Rows.uptoBulk];omega
 | .held h=>by simp [Fj,Rows.uptoBulk]
theorem Bb {H:Type} :(l:List (DataW H))->JX l<=Rows.uptoBulkAll l
 | []=>by simp [JX,Rows.uptoBulkAll]
 | d::r=>by have:=Nt d;have:=Bb r;simp only [JX,Rows.uptoBulkAll];omega
end
theorem Oq {H:Type} {l:List (DataW H)} (h:Rows.uptoSmall H l=true):JX l<=1048576:=by
 have h1:=Bb l;have h2:Rows.uptoBulkAll l<=1048576:=Jo h;omega
abbrev V0 (n:Int):Prop:= -9223372036854775808<=n/\n<=9223372036854775807
def eI (n:Int):PV:= .int .i64 n
def eB (b:Bool):PV:= .bool b
def eS (s:List UInt8):PV:= .str s
def eP (p:Int×Int):PV:= .agg [.int .i64 p.1,.int .i64 p.2]
@[go_sem] theorem ZoQ (n:Int):eI n= .int .i64 n:=ZP rfl rfl
@[go_sem] theorem ZoO (b:Bool):eB b= .bool b:=ZP rfl rfl
@[go_sem] theorem ZoT (s:List UInt8):eS s= .str s:=ZP rfl rfl
@[go_sem] theorem ZoR (p:Int×Int):eP p= .agg [.int .i64 p.1,.int .i64 p.2]:=ZP rfl rfl
@[go_sem] theorem Zm6 (l:List Int):AS 1 (l.map eI)=true:=UV fun _=>rfl
@[go_sem] theorem Zkl (l:List Bool):DU 1 (l.map eB)=true:=AY (f:=eB) (S:=1) (fun _=>rfl) l
@[go_sem] theorem Zm4 (l:List Bool):AS 1 (l.map eB)=true:=UV fun _=>rfl
theorem Ee {B xs} (h: ∀y∈xs,FitV Tryz.prog B 3 y): ∃l:List Int,xs=l.map eI/\ ∀n∈l,V0 n :=
 Wl (f:=eI) fun y hy=>by
  obtain ⟨n,rfl,w⟩:=nG Tryz.underlying3 (h y hy);exact ⟨n,rfl,Xk w⟩
theorem RW {B xs} (h: ∀y∈xs,FitV Tryz.prog B 4 y): ∃l:List Bool,xs=l.map eB/\ ∀b∈l,True :=
 Wl (f:=eB) fun y hy=>by
  obtain ⟨b,rfl⟩:=bZ Tryz.underlying4 (h y hy);exact ⟨b,rfl,trivial⟩
theorem cA {B xs} (h: ∀y∈xs,FitV Tryz.prog B 9 y): ∃l:List (List UInt8),xs=l.map eS/\ ∀s∈l,s.length<=B :=
 Wl (f:=eS) fun y hy=>by
  obtain ⟨s,rfl,w,_⟩:=nI Tryz.underlying9 (h y hy);exact ⟨s,rfl,w⟩
theorem eC {α:Type} {l:List α} (h:l.length=2): ∃a0 a1,l= [a0,a1]:=by
 match l,h with | [a0,a1],_=>simp
theorem Zii {α:Type} {l:List α} (h:l.length=6): ∃a0 a1 a2 a3 a4 a5,l= [a0,a1,a2,a3,a4,a5]:=by
 match l,h with | [a0,a1,a2,a3,a4,a5],_=>simp
theorem Zie {α:Type} {l:List α} (h:l.length=14): ∃a0 a1 a2 a3 a4 a5 a6 a7 a8 a9 a10 a11 a12 a13,l= [a0,a1,a2,a3,a4,a5,a6,a7,a8,a9,a10,a11,a12,a13]:=by
 match l,h with | [a0,a1,a2,a3,a4,a5,a6,a7,a8,a9,a10,a11,a12,a13],_=>simp
theorem Zih {α:Type} {l:List α} (h:l.length=4): ∃a0 a1 a2 a3,l= [a0,a1,a2,a3]:=by
 match l,h with | [a0,a1,a2,a3],_=>simp
theorem Zig {α:Type} {l:List α} (h:l.length=16): ∃a0 a1 a2 a3 a4 a5 a6 a7 a8 a9 a10 a11 a12 a13 a14 a15,l= [a0,a1,a2,a3,a4,a5,a6,a7,a8,a9,a10,a11,a12,a13,a14,a15]:=by
 match l,h with | [a0,a1,a2,a3,a4,a5,a6,a7,a8,a9,a10,a11,a12,a13,a14,a15],_=>grind
structure Pt where
 t:Int
 a:Int
 deriving Inhabited
def cPt (x:Pt):List PV:= [.int .i64 x.t,.int .i64 x.a]
def Fk (x:Pt):PV:= .agg [.int .i64 x.t,.int .i64 x.a]
@[go_sem] theorem Zmv (x:Pt):Fk x= .agg [.int .i64 x.t,.int .i64 x.a]:=ZP rfl rfl
def Pt.wf (B:Nat) (x:Pt):Prop:=V0 x.t/\V0 x.a
theorem nK {B m cs} (h:YL Tryz.prog B m 188 cs): ∃x:Pt,cs=cPt x/\x.wf B:=by
 obtain ⟨h1,m',h2⟩:=YU gQ vW h;obtain ⟨a0,a1,rfl⟩:=eC h1;obtain ⟨n0,e0,w0⟩:=ZO Tryz.underlying3 (h2 (0,3) Zb);obtain ⟨n1,e1,w1⟩:=ZO Tryz.underlying3 (h2 (1,3) Zb);simp [Hx] at e0 e1;subst e0;subst e1;exact ⟨⟨n0,n1⟩,rfl,Xk w0,Xk w1⟩
theorem bY {B v} (h:FitV Tryz.prog B 188 v): ∃x:Pt,v=Fk x/\x.wf B:=by
 obtain ⟨k,cs,h,e⟩:=h.out;obtain ⟨x,rfl,hw⟩:=nK h;exact ⟨x,e.trans (by rw [Ql,if_pos (WF gQ)];rfl),hw⟩
structure Arc where
 src:Int
 dst:Int
 prof:Int
 miles:Int
 travel_c:Bool
 travel:List (Pt)
 slow_c:Bool
 slow:List (Pt)
 deriving Inhabited
def Zmq (x:Arc):List PV:= [.int .i64 x.src,.int .i64 x.dst,.int .i64 x.prof,.int .i64 x.miles,.list x.travel_c (x.travel.map Fk),.list x.slow_c (x.slow.map Fk)]
def Wj (x:Arc):PV:= .agg [.int .i64 x.src,.int .i64 x.dst,.int .i64 x.prof,.int .i64 x.miles,.list x.travel_c (x.travel.map Fk),.list x.slow_c (x.slow.map Fk)]
@[go_sem] theorem Zkt (x:Arc):Wj x= .agg [.int .i64 x.src,.int .i64 x.dst,.int .i64 x.prof,.int .i64 x.miles,.list x.travel_c (x.travel.map Fk),.list x.slow_c (x.slow.map Fk)]:=ZP rfl rfl
def Arc.wf (B:Nat) (x:Arc):Prop:=V0 x.src/\V0 x.dst/\V0 x.prof/\V0 x.miles/\x.travel.length<=B/\(∀y∈x.travel,Pt.wf B y)/\x.slow.length<=B/\(∀y∈x.slow,Pt.wf B y)
theorem cG {B m cs} (h:YL Tryz.prog B m 129 cs): ∃x:Arc,cs=Zmq x/\x.wf B:=by
 obtain ⟨h1,m',h2⟩:=YU gO vU h;obtain ⟨a0,a1,a2,a3,a4,a5,rfl⟩:=Zii h1;obtain ⟨n0,e0,w0⟩:=ZO Tryz.underlying3 (h2 (0,3) Zb);obtain ⟨n1,e1,w1⟩:=ZO Tryz.underlying3 (h2 (1,3) Zb);obtain ⟨n2,e2,w2⟩:=ZO Tryz.underlying3 (h2 (2,3) Zb);obtain ⟨n3,e3,w3⟩:=ZO Tryz.underlying3 (h2 (3,3) Zb);obtain ⟨y4,e4,w4,_,z4⟩:=XJ Tryz.underlying127 (h2 (4,127) Zb);obtain ⟨n4,rfl,u4⟩:=Wl (f:=Fk) fun y hy=>bY (z4 y hy);obtain ⟨y5,e5,w5,_,z5⟩:=XJ Tryz.underlying127 (h2 (5,127) Zb)
 obtain ⟨n5,rfl,u5⟩:=Wl (f:=Fk) fun y hy=>bY (z5 y hy);simp [vT,Hx] at e0 e1 e2 e3 e4 e5;subst e0;subst e1;subst e2;subst e3;subst e4;subst e5;exact ⟨⟨n0,n1,n2,n3,false,n4,false,n5⟩,rfl,Xk w0,Xk w1,Xk w2,Xk w3,by grind,u4,by grind,u5⟩
theorem mZ {B v} (h:FitV Tryz.prog B 129 v): ∃x:Arc,v=Wj x/\x.wf B:=by
 obtain ⟨k,cs,h,e⟩:=h.out;obtain ⟨x,rfl,hw⟩:=cG h;exact ⟨x,e.trans (by rw [Ql,if_pos (WF gO)];rfl),hw⟩
structure Net where
 places_c:Bool
 places:List (List UInt8)
 arcs_c:Bool
 arcs:List (Arc)
 deriving Inhabited
def ZgI (x:Net):List PV:= [.list x.places_c (x.places.map eS),.list x.arcs_c (x.arcs.map Wj)]
def Al (x:Net):PV:= .agg [.list x.places_c (x.places.map eS),.list x.arcs_c (x.arcs.map Wj)]
@[go_sem] theorem Zky (x:Net):Al x= .agg [.list x.places_c (x.places.map eS),.list x.arcs_c (x.arcs.map Wj)]:=ZP rfl rfl
def Net.wf (B:Nat) (x:Net):Prop:=x.places.length<=B/\(∀s∈x.places,s.length<=B)/\x.arcs.length<=B/\(∀y∈x.arcs,Arc.wf B y)
theorem cI {B m cs} (h:YL Tryz.prog B m 38 cs): ∃x:Net,cs=ZgI x/\x.wf B:=by
 obtain ⟨h1,m',h2⟩:=YU ZiH sP h;obtain ⟨a0,a1,rfl⟩:=eC h1;obtain ⟨y0,e0,w0,_,z0⟩:=XJ Tryz.underlying35 (h2 (0,35) Zb);obtain ⟨n0,rfl,u0⟩:=cA z0;obtain ⟨y1,e1,w1,_,z1⟩:=XJ Tryz.underlying36 (h2 (1,36) Zb);obtain ⟨n1,rfl,u1⟩:=Wl (f:=Wj) fun y hy=>mZ (z1 y hy);simp [ZgM,ZgL] at e0 e1;subst e0;subst e1;exact ⟨⟨false,n0,false,n1⟩,rfl,by grind,u0,by grind,u1⟩
structure Typ where
 name:List UInt8
 count:Int
 src:Int
 dst:Int
 cap_c:Bool
 cap:List (Int)
 skills:Int
 prof:Int
 opn:Int
 cls:Int
 drive:Int
 rest:Int
 fixed:Int
 perMile:Int
 perTick:Int
 deriving Inhabited
def Zmt (x:Typ):List PV:= [.str x.name,.int .i64 x.count,.int .i64 x.src,.int .i64 x.dst,.list x.cap_c (x.cap.map eI),.int .i64 x.skills,.int .i64 x.prof,.int .i64 x.opn,.int .i64 x.cls,.int .i64 x.drive,.int .i64 x.rest,.int .i64 x.fixed,.int .i64 x.perMile,.int .i64 x.perTick]
def Y5 (x:Typ):PV:= .agg [.str x.name,.int .i64 x.count,.int .i64 x.src,.int .i64 x.dst,.list x.cap_c (x.cap.map eI),.int .i64 x.skills,.int .i64 x.prof,.int .i64 x.opn,.int .i64 x.cls,.int .i64 x.drive,.int .i64 x.rest,.int .i64 x.fixed,.int .i64 x.perMile,.int .i64 x.perTick]
@[go_sem] theorem ZkH (x:Typ):Y5 x= .agg [.str x.name,.int .i64 x.count,.int .i64 x.src,.int .i64 x.dst,.list x.cap_c (x.cap.map eI),.int .i64 x.skills,.int .i64 x.prof,.int .i64 x.opn,.int .i64 x.cls,.int .i64 x.drive,.int .i64 x.rest,.int .i64 x.fixed,.int .i64 x.perMile,.int .i64 x.perTick]:=ZP rfl rfl
def Typ.wf (B:Nat) (x:Typ):Prop:=x.name.length<=B/\V0 x.count/\V0 x.src/\V0 x.dst/\x.cap.length<=B/\(∀n∈x.cap,V0 n)/\V0 x.skills/\V0 x.prof/\V0 x.opn/\V0 x.cls/\V0 x.drive/\V0 x.rest/\V0 x.fixed/\V0 x.perMile/\V0 x.perTick
theorem cM {B m cs} (h:YL Tryz.prog B m 82 cs): ∃x:Typ,cs=Zmt x/\x.wf B:=by
 obtain ⟨h1,m',h2⟩:=YU tK ZgW h;obtain ⟨a0,a1,a2,a3,a4,a5,a6,a7,a8,a9,a10,a11,a12,a13,rfl⟩:=Zie h1;obtain ⟨n0,e0,w0,_⟩:=Ef Tryz.underlying9 (h2 (0,9) Zb);obtain ⟨n1,e1,w1⟩:=ZO Tryz.underlying3 (h2 (1,3) Zb);obtain ⟨n2,e2,w2⟩:=ZO Tryz.underlying3 (h2 (2,3) Zb);obtain ⟨n3,e3,w3⟩:=ZO Tryz.underlying3 (h2 (3,3) Zb);obtain ⟨y4,e4,w4,_,z4⟩:=XJ Tryz.underlying31 (h2 (4,31) Zb);obtain ⟨n4,rfl,u4⟩:=Ee z4;obtain ⟨n5,e5,w5⟩:=ZO Tryz.underlying3 (h2 (5,3) Zb)
 obtain ⟨n6,e6,w6⟩:=ZO Tryz.underlying3 (h2 (6,3) Zb);obtain ⟨n7,e7,w7⟩:=ZO Tryz.underlying3 (h2 (7,3) Zb);obtain ⟨n8,e8,w8⟩:=ZO Tryz.underlying3 (h2 (8,3) Zb);obtain ⟨n9,e9,w9⟩:=ZO Tryz.underlying3 (h2 (9,3) Zb);obtain ⟨n10,e10,w10⟩:=ZO Tryz.underlying3 (h2 (10,3) Zb);obtain ⟨n11,e11,w11⟩:=ZO Tryz.underlying3 (h2 (11,3) Zb);obtain ⟨n12,e12,w12⟩:=ZO Tryz.underlying3 (h2 (12,3) Zb);obtain ⟨n13,e13,w13⟩:=ZO Tryz.underlying3 (h2 (13,3) Zb);simp [aQ,Hx,ZgX] at e0 e1 e2 e3 e4 e5 e6 e7 e8 e9 e10 e11 e12 e13
 subst e0;subst e1;subst e2;subst e3;subst e4;subst e5;subst e6;subst e7;subst e8;subst e9;subst e10;subst e11;subst e12;subst e13;exact ⟨⟨n0,n1,n2,n3,false,n4,n5,n6,n7,n8,n9,n10,n11,n12,n13⟩,rfl,w0,Xk w1,Xk w2,Xk w3,by grind,u4,Xk w5,Xk w6,Xk w7,Xk w8,Xk w9,Xk w10,Xk w11,Xk w12,Xk w13⟩
theorem nD {B v} (h:FitV Tryz.prog B 82 v): ∃x:Typ,v=Y5 x/\x.wf B:=by
 obtain ⟨k,cs,h,e⟩:=h.out;obtain ⟨x,rfl,hw⟩:=cM h;exact ⟨x,e.trans (by rw [Ql,if_pos (WF tK)];rfl),hw⟩
structure Stp where
 place:Int
 opn:Int
 cls:Int
 serv:Int
 deriving Inhabited
def vQ (x:Stp):List PV:= [.int .i64 x.place,.int .i64 x.opn,.int .i64 x.cls,.int .i64 x.serv]
def HF (x:Stp):PV:= .agg [.int .i64 x.place,.int .i64 x.opn,.int .i64 x.cls,.int .i64 x.serv]
@[go_sem] theorem ZkE (x:Stp):HF x= .agg [.int .i64 x.place,.int .i64 x.opn,.int .i64 x.cls,.int .i64 x.serv]:=ZP rfl rfl
def Stp.wf (B:Nat) (x:Stp):Prop:=V0 x.place/\V0 x.opn/\V0 x.cls/\V0 x.serv
theorem Ly {B m cs} (h:YL Tryz.prog B m 57 cs): ∃x:Stp,cs=vQ x/\x.wf B:=by
 obtain ⟨h1,m',h2⟩:=YU ZiJ sR h;obtain ⟨a0,a1,a2,a3,rfl⟩:=Zih h1;obtain ⟨n0,e0,w0⟩:=ZO Tryz.underlying3 (h2 (0,3) Zb);obtain ⟨n1,e1,w1⟩:=ZO Tryz.underlying3 (h2 (1,3) Zb);obtain ⟨n2,e2,w2⟩:=ZO Tryz.underlying3 (h2 (2,3) Zb);obtain ⟨n3,e3,w3⟩:=ZO Tryz.underlying3 (h2 (3,3) Zb);simp [Hx] at e0 e1 e2 e3;subst e0;subst e1;subst e2;subst e3;exact ⟨⟨n0,n1,n2,n3⟩,rfl,Xk w0,Xk w1,Xk w2,Xk w3⟩
theorem sU {B v} (h:FitV Tryz.prog B 132 v): ∃x:Int×Int,v=eP x/\V0 x.1/\V0 x.2:=by
 obtain ⟨k,cs,h,e⟩:=h.out;obtain ⟨h1,m',h2⟩:=YU gP vV h;obtain ⟨a,b,rfl⟩:=eC h1;obtain ⟨n0,e0,w0⟩:=ZO Tryz.underlying3 (h2 (0,3) Zb);obtain ⟨n1,e1,w1⟩:=ZO Tryz.underlying3 (h2 (1,3) Zb);simp [Hx] at e0 e1;subst e0;subst e1;exact ⟨(n0,n1),e.trans (by rw [Ql,if_pos (WF gP)];rfl),Xk w0,Xk w1⟩
structure Ord where
 name:List UInt8
 load_c:Bool
 load:List (Int)
 pick:Stp
 drp:Stp
 skills:Int
 penalty:Int
 split:Int
 last:Int
 now:Int
 off:Bool
 deriving Inhabited
def Zmr (x:Ord):List PV:= [.str x.name,.list x.load_c (x.load.map eI),.int .i64 x.pick.place,.int .i64 x.pick.opn,.int .i64 x.pick.cls,.int .i64 x.pick.serv,.int .i64 x.drp.place,.int .i64 x.drp.opn,.int .i64 x.drp.cls,.int .i64 x.drp.serv,.int .i64 x.skills,.int .i64 x.penalty,.int .i64 x.split,.int .i64 x.last,.int .i64 x.now,.bool x.off]
def eOrd (x:Ord):PV:= .agg [.str x.name,.list x.load_c (x.load.map eI),.int .i64 x.pick.place,.int .i64 x.pick.opn,.int .i64 x.pick.cls,.int .i64 x.pick.serv,.int .i64 x.drp.place,.int .i64 x.drp.opn,.int .i64 x.drp.cls,.int .i64 x.drp.serv,.int .i64 x.skills,.int .i64 x.penalty,.int .i64 x.split,.int .i64 x.last,.int .i64 x.now,.bool x.off]
@[go_sem] theorem Dn (x:Ord):eOrd x= .agg [.str x.name,.list x.load_c (x.load.map eI),.int .i64 x.pick.place,.int .i64 x.pick.opn,.int .i64 x.pick.cls,.int .i64 x.pick.serv,.int .i64 x.drp.place,.int .i64 x.drp.opn,.int .i64 x.drp.cls,.int .i64 x.drp.serv,.int .i64 x.skills,.int .i64 x.penalty,.int .i64 x.split,.int .i64 x.last,.int .i64 x.now,.bool x.off]:=ZP rfl rfl
@[go_sem] theorem Zix (l:List Ord):AS 16 (l.map eOrd)=true:=UV fun _=>rfl
def Ord.wf (B:Nat) (x:Ord):Prop:=x.name.length<=B/\x.load.length<=B/\(∀n∈x.load,V0 n)/\Stp.wf B x.pick/\Stp.wf B x.drp/\V0 x.skills/\V0 x.penalty/\V0 x.split/\V0 x.last/\V0 x.now
theorem cJ {B m cs} (h:YL Tryz.prog B m 59 cs): ∃x:Ord,cs=Zmr x/\x.wf B:=by
 obtain ⟨h1,m',h2⟩:=YU tI ZgU h;obtain ⟨a0,a1,a2,a3,a4,a5,a6,a7,a8,a9,a10,a11,a12,a13,a14,a15,rfl⟩:=Zig h1;obtain ⟨n0,e0,w0,_⟩:=Ef Tryz.underlying9 (h2 (0,9) Zb);obtain ⟨y1,e1,w1,_,z1⟩:=XJ Tryz.underlying31 (h2 (1,31) Zb);obtain ⟨n1,rfl,u1⟩:=Ee z1;obtain ⟨n2,e2,w2⟩:=Ly (h2 (2,57) Zb);obtain ⟨n3,e3,w3⟩:=Ly (h2 (6,57) Zb);obtain ⟨n4,e4,w4⟩:=ZO Tryz.underlying3 (h2 (10,3) Zb);obtain ⟨n5,e5,w5⟩:=ZO Tryz.underlying3 (h2 (11,3) Zb);obtain ⟨n6,e6,w6⟩:=ZO Tryz.underlying3 (h2 (12,3) Zb)
 obtain ⟨n7,e7,w7⟩:=ZO Tryz.underlying3 (h2 (13,3) Zb);obtain ⟨n8,e8,w8⟩:=ZO Tryz.underlying3 (h2 (14,3) Zb);obtain ⟨n9,e9⟩:=Ci Tryz.underlying4 (h2 (15,4) Zb);simp [aQ,sR,ZgO,Hx,ZgX,vQ,vQ] at e0 e1 e2 e3 e4 e5 e6 e7 e8 e9;subst e0;subst e1;obtain ⟨rfl,rfl,rfl,rfl⟩:=e2;obtain ⟨rfl,rfl,rfl,rfl⟩:=e3;subst e4;subst e5;subst e6;subst e7;subst e8;subst e9;exact ⟨⟨n0,false,n1,n2,n3,n4,n5,n6,n7,n8,n9⟩,rfl,w0,by grind,u1,w2,w3,Xk w4,Xk w5,Xk w6,Xk w7,Xk w8⟩
theorem nB {B v} (h:FitV Tryz.prog B 59 v): ∃x:Ord,v=eOrd x/\x.wf B:=by
 obtain ⟨k,cs,h,e⟩:=h.out;obtain ⟨x,rfl,hw⟩:=cJ h;exact ⟨x,e.trans (by rw [Ql,if_pos (WF tI)];rfl),hw⟩
structure Inst where
 net:Net
 types_c:Bool
 types:List (Typ)
 orders_c:Bool
 orders:List (Ord)
 apart_c:Bool
 apart:List (Int×Int)
 before_c:Bool
 before:List (Int×Int)
 deriving Inhabited
def aO (x:Inst):List PV:= [.list x.net.places_c (x.net.places.map eS),.list x.net.arcs_c (x.net.arcs.map Wj),.list x.types_c (x.types.map Y5),.list x.orders_c (x.orders.map eOrd),.list x.apart_c (x.apart.map eP),.list x.before_c (x.before.map eP)]
def Zv (x:Inst):PV:= .agg [.list x.net.places_c (x.net.places.map eS),.list x.net.arcs_c (x.net.arcs.map Wj),.list x.types_c (x.types.map Y5),.list x.orders_c (x.orders.map eOrd),.list x.apart_c (x.apart.map eP),.list x.before_c (x.before.map eP)]
@[go_sem] theorem Zg0 (x:Inst):Zv x= .agg [.list x.net.places_c (x.net.places.map eS),.list x.net.arcs_c (x.net.arcs.map Wj),.list x.types_c (x.types.map Y5),.list x.orders_c (x.orders.map eOrd),.list x.apart_c (x.apart.map eP),.list x.before_c (x.before.map eP)]:=ZP rfl rfl
def Inst.wf (B:Nat) (x:Inst):Prop:=Net.wf B x.net/\x.types.length<=B/\(∀y∈x.types,Typ.wf B y)/\x.orders.length<=B/\(∀y∈x.orders,Ord.wf B y)/\x.apart.length<=B/\(∀p∈x.apart,V0 p.1/\V0 p.2)/\x.before.length<=B/\(∀p∈x.before,V0 p.1/\V0 p.2)
theorem Gd {B m cs} (h:YL Tryz.prog B m 43 cs): ∃x:Inst,cs=aO x/\x.wf B:=by
 obtain ⟨h1,m',h2⟩:=YU ZiI sQ h;obtain ⟨a0,a1,a2,a3,a4,a5,rfl⟩:=Zii h1;obtain ⟨n0,e0,w0⟩:=cI (h2 (0,38) Zb);obtain ⟨y1,e1,w1,_,z1⟩:=XJ Tryz.underlying39 (h2 (2,39) Zb);obtain ⟨n1,rfl,u1⟩:=Wl (f:=Y5) fun y hy=>nD (z1 y hy);obtain ⟨y2,e2,w2,_,z2⟩:=XJ Tryz.underlying40 (h2 (3,40) Zb);obtain ⟨n2,rfl,u2⟩:=Wl (f:=eOrd) fun y hy=>nB (z2 y hy);obtain ⟨y3,e3,w3,_,z3⟩:=XJ Tryz.underlying41 (h2 (4,41) Zb);obtain ⟨n3,rfl,u3⟩:=Wl (f:=eP) fun y hy=>sU (z3 y hy)
 obtain ⟨y4,e4,w4,_,z4⟩:=XJ Tryz.underlying41 (h2 (5,41) Zb);obtain ⟨n4,rfl,u4⟩:=Wl (f:=eP) fun y hy=>sU (z4 y hy);simp [ZgQ,ZgP,ZgN,sP,ZgI] at e0 e1 e2 e3 e4;obtain ⟨rfl,rfl⟩:=e0;subst e1;subst e2;subst e3;subst e4;exact ⟨⟨n0,false,n1,false,n2,false,n3,false,n4⟩,rfl,w0,by grind,u1,by grind,u2,by grind,u3,by grind,u4⟩
structure Vis where
 order:Int
 drp:Bool
 deriving Inhabited
def Zmu (x:Vis):List PV:= [.int .i64 x.order,.bool x.drp]
def ZS (x:Vis):PV:= .agg [.int .i64 x.order,.bool x.drp]
@[go_sem] theorem O8 (x:Vis):ZS x= .agg [.int .i64 x.order,.bool x.drp]:=ZP rfl rfl
@[go_sem] theorem Zc2 (l:List Vis):DU 2 (l.map ZS)=true:=AY (f:=ZS) (S:=2) (fun _=>rfl) l
@[go_sem] theorem ZiA (l:List Vis):AS 2 (l.map ZS)=true:=UV fun _=>rfl
def Vis.wf (B:Nat) (x:Vis):Prop:=V0 x.order
theorem cN {B m cs} (h:YL Tryz.prog B m 126 cs): ∃x:Vis,cs=Zmu x/\x.wf B:=by
 obtain ⟨h1,m',h2⟩:=YU gN vS h;obtain ⟨a0,a1,rfl⟩:=eC h1;obtain ⟨n0,e0,w0⟩:=ZO Tryz.underlying3 (h2 (0,3) Zb);obtain ⟨n1,e1⟩:=Ci Tryz.underlying4 (h2 (1,4) Zb);simp [ZgO,Hx] at e0 e1;subst e0;subst e1;exact ⟨⟨n0,n1⟩,rfl,Xk w0⟩
theorem nE {B v} (h:FitV Tryz.prog B 126 v): ∃x:Vis,v=ZS x/\x.wf B:=by
 obtain ⟨k,cs,h,e⟩:=h.out;obtain ⟨x,rfl,hw⟩:=cN h;exact ⟨x,e.trans (by rw [Ql,if_pos (WF gN)];rfl),hw⟩
structure Rte where
 typ:Int
 start:Int
 rests_c:Bool
 rests:List (Bool)
 visits_c:Bool
 visits:List (Vis)
 deriving Inhabited
def Zms (x:Rte):List PV:= [.int .i64 x.typ,.int .i64 x.start,.list x.rests_c (x.rests.map eB),.list x.visits_c (x.visits.map ZS)]
def Z0 (x:Rte):PV:= .agg [.int .i64 x.typ,.int .i64 x.start,.list x.rests_c (x.rests.map eB),.list x.visits_c (x.visits.map ZS)]
@[go_sem] theorem ZkA (x:Rte):Z0 x= .agg [.int .i64 x.typ,.int .i64 x.start,.list x.rests_c (x.rests.map eB),.list x.visits_c (x.visits.map ZS)]:=ZP rfl rfl
@[go_sem] theorem Zc1 (l:List Rte):DU 4 (l.map Z0)=true:=AY (f:=Z0) (S:=4) (fun _=>rfl) l
@[go_sem] theorem Ziy (l:List Rte):AS 4 (l.map Z0)=true:=UV fun _=>rfl
def Rte.wf (B:Nat) (x:Rte):Prop:=V0 x.typ/\V0 x.start/\x.rests.length<=B/\(∀b∈x.rests,True)/\x.visits.length<=B/\(∀y∈x.visits,Vis.wf B y)
theorem cL {B m cs} (h:YL Tryz.prog B m 49 cs): ∃x:Rte,cs=Zms x/\x.wf B:=by
 obtain ⟨h1,m',h2⟩:=YU tH ZgT h;obtain ⟨a0,a1,a2,a3,rfl⟩:=Zih h1;obtain ⟨n0,e0,w0⟩:=ZO Tryz.underlying3 (h2 (0,3) Zb);obtain ⟨n1,e1,w1⟩:=ZO Tryz.underlying3 (h2 (1,3) Zb);obtain ⟨y2,e2,w2,_,z2⟩:=XJ Tryz.underlying46 (h2 (2,46) Zb);obtain ⟨n2,rfl,u2⟩:=RW z2;obtain ⟨y3,e3,w3,_,z3⟩:=XJ Tryz.underlying47 (h2 (3,47) Zb);obtain ⟨n3,rfl,u3⟩:=Wl (f:=ZS) fun y hy=>nE (z3 y hy);simp [ZgS,ZgR,Hx] at e0 e1 e2 e3;subst e0;subst e1;subst e2;subst e3;exact ⟨⟨n0,n1,false,n2,false,n3⟩,rfl,Xk w0,Xk w1,by grind,u2,by grind,u3⟩
theorem nC {B v} (h:FitV Tryz.prog B 49 v): ∃x:Rte,v=Z0 x/\x.wf B:=by
 obtain ⟨k,cs,h,e⟩:=h.out;obtain ⟨x,rfl,hw⟩:=cL h;exact ⟨x,e.trans (by rw [Ql,if_pos (WF tH)];rfl),hw⟩
structure Tim where
 arr:Int
 beg:Int
 dep:Int
 rest:Bool
 deriving Inhabited
def eTim (x:Tim):PV:= .agg [.int .i64 x.arr,.int .i64 x.beg,.int .i64 x.dep,.bool x.rest]
@[go_sem] theorem ZkF (x:Tim):eTim x= .agg [.int .i64 x.arr,.int .i64 x.beg,.int .i64 x.dep,.bool x.rest]:=ZP rfl rfl
@[go_sem] theorem Ziz (l:List Tim):AS 4 (l.map eTim)=true:=UV fun _=>rfl
structure She where
 rest:Bool
 dep:Int
 times_c:Bool
 times:List (Tim)
 fin:Int
 miles:Int
 deriving Inhabited
def Bc (x:She):PV:= .agg [.bool x.rest,.int .i64 x.dep,.list x.times_c (x.times.map eTim),.int .i64 x.fin,.int .i64 x.miles]
@[go_sem] theorem ZkC (x:She):Bc x= .agg [.bool x.rest,.int .i64 x.dep,.list x.times_c (x.times.map eTim),.int .i64 x.fin,.int .i64 x.miles]:=ZP rfl rfl
structure Sco where
 cost:Int
 moved:Int
 other:Int
 work:Int
 deriving Inhabited
def De (x:Sco):PV:= .agg [.int .i64 x.cost,.int .i64 x.moved,.int .i64 x.other,.int .i64 x.work]
@[go_sem] theorem ZkB (x:Sco):De x= .agg [.int .i64 x.cost,.int .i64 x.moved,.int .i64 x.other,.int .i64 x.work]:=ZP rfl rfl
structure Pln where
 routes_c:Bool
 routes:List (Rte)
 unserved_c:Bool
 unserved:List (Int)
 deriving Inhabited
def ZgJ (x:Pln):List PV:= [.list x.routes_c (x.routes.map Z0),.list x.unserved_c (x.unserved.map eI)]
def Wk (x:Pln):PV:= .agg [.list x.routes_c (x.routes.map Z0),.list x.unserved_c (x.unserved.map eI)]
@[go_sem] theorem Zkz (x:Pln):Wk x= .agg [.list x.routes_c (x.routes.map Z0),.list x.unserved_c (x.unserved.map eI)]:=ZP rfl rfl
def Pln.wf (B:Nat) (x:Pln):Prop:=x.routes.length<=B/\(∀y∈x.routes,Rte.wf B y)/\x.unserved.length<=B/\(∀n∈x.unserved,V0 n)
theorem cK {B m cs} (h:YL Tryz.prog B m 33 cs): ∃x:Pln,cs=ZgJ x/\x.wf B:=by
 obtain ⟨h1,m',h2⟩:=YU ZiG sO h;obtain ⟨a0,a1,rfl⟩:=eC h1;obtain ⟨y0,e0,w0,_,z0⟩:=XJ Tryz.underlying30 (h2 (0,30) Zb);obtain ⟨n0,rfl,u0⟩:=Wl (f:=Z0) fun y hy=>nC (z0 y hy);obtain ⟨y1,e1,w1,_,z1⟩:=XJ Tryz.underlying31 (h2 (1,31) Zb);obtain ⟨n1,rfl,u1⟩:=Ee z1;simp [ZgK,aQ] at e0 e1;subst e0;subst e1;exact ⟨⟨false,n0,false,n1⟩,rfl,by grind,u0,by grind,u1⟩
structure Col where
 typ:Int
 set:Int
 price:Int
 route:Rte
 deriving Inhabited
def RF (x:Col):List PV:= [.int .i64 x.typ,.int .i64 x.set,.int .i64 x.price,.int .i64 x.route.typ,.int .i64 x.route.start,.list x.route.rests_c (x.route.rests.map eB),.list x.route.visits_c (x.route.visits.map ZS)]
def Xz (x:Col):PV:= .agg [.int .i64 x.typ,.int .i64 x.set,.int .i64 x.price,.int .i64 x.route.typ,.int .i64 x.route.start,.list x.route.rests_c (x.route.rests.map eB),.list x.route.visits_c (x.route.visits.map ZS)]
@[go_sem] theorem Zkw (x:Col):Xz x= .agg [.int .i64 x.typ,.int .i64 x.set,.int .i64 x.price,.int .i64 x.route.typ,.int .i64 x.route.start,.list x.route.rests_c (x.route.rests.map eB),.list x.route.visits_c (x.route.visits.map ZS)]:=ZP rfl rfl
@[go_sem] theorem Ziw (l:List Col):AS 7 (l.map Xz)=true:=UV fun _=>rfl
structure Cas where
 x:Inst
 p:Pln
 now:Int
 y:Inst
 deriving Inhabited
def mA (x:Cas):List PV:= [.list x.x.net.places_c (x.x.net.places.map eS),.list x.x.net.arcs_c (x.x.net.arcs.map Wj),.list x.x.types_c (x.x.types.map Y5),.list x.x.orders_c (x.x.orders.map eOrd),.list x.x.apart_c (x.x.apart.map eP),.list x.x.before_c (x.x.before.map eP),.list x.p.routes_c (x.p.routes.map Z0),.list x.p.unserved_c (x.p.unserved.map eI),.int .i64 x.now,.list x.y.net.places_c (x.y.net.places.map eS),.list x.y.net.arcs_c (x.y.net.arcs.map Wj),.list x.y.types_c (x.y.types.map Y5),.list x.y.orders_c (x.y.orders.map eOrd),.list x.y.apart_c (x.y.apart.map eP),.list x.y.before_c (x.y.before.map eP)]
def bO (x:Cas):PV:= .agg [.list x.x.net.places_c (x.x.net.places.map eS),.list x.x.net.arcs_c (x.x.net.arcs.map Wj),.list x.x.types_c (x.x.types.map Y5),.list x.x.orders_c (x.x.orders.map eOrd),.list x.x.apart_c (x.x.apart.map eP),.list x.x.before_c (x.x.before.map eP),.list x.p.routes_c (x.p.routes.map Z0),.list x.p.unserved_c (x.p.unserved.map eI),.int .i64 x.now,.list x.y.net.places_c (x.y.net.places.map eS),.list x.y.net.arcs_c (x.y.net.arcs.map Wj),.list x.y.types_c (x.y.types.map Y5),.list x.y.orders_c (x.y.orders.map eOrd),.list x.y.apart_c (x.y.apart.map eP),.list x.y.before_c (x.y.before.map eP)]
@[go_sem] theorem Zku (x:Cas):bO x= .agg [.list x.x.net.places_c (x.x.net.places.map eS),.list x.x.net.arcs_c (x.x.net.arcs.map Wj),.list x.x.types_c (x.x.types.map Y5),.list x.x.orders_c (x.x.orders.map eOrd),.list x.x.apart_c (x.x.apart.map eP),.list x.x.before_c (x.x.before.map eP),.list x.p.routes_c (x.p.routes.map Z0),.list x.p.unserved_c (x.p.unserved.map eI),.int .i64 x.now,.list x.y.net.places_c (x.y.net.places.map eS),.list x.y.net.arcs_c (x.y.net.arcs.map Wj),.list x.y.types_c (x.y.types.map Y5),.list x.y.orders_c (x.y.orders.map eOrd),.list x.y.apart_c (x.y.apart.map eP),.list x.y.before_c (x.y.before.map eP)]:=ZP rfl rfl
def Cas.wf (B:Nat) (x:Cas):Prop:=Inst.wf B x.x/\Pln.wf B x.p/\V0 x.now/\Inst.wf B x.y
theorem Zif {α:Type} {l:List α} (h:l.length=15): ∃a0 a1 a2 a3 a4 a5 a6 a7 a8 a9 a10 a11 a12 a13 a14,l= [a0,a1,a2,a3,a4,a5,a6,a7,a8,a9,a10,a11,a12,a13,a14]:=by
 match l,h with | [a0,a1,a2,a3,a4,a5,a6,a7,a8,a9,a10,a11,a12,a13,a14],_=>grind
theorem cH {B m cs} (h:YL Tryz.prog B m 63 cs): ∃x:Cas,cs=mA x/\x.wf B:=by
 obtain ⟨h1,m',h2⟩:=YU tJ ZgV h;obtain ⟨a0,a1,a2,a3,a4,a5,a6,a7,a8,a9,a10,a11,a12,a13,a14,rfl⟩:=Zif h1;obtain ⟨n0,e0,w0⟩:=Gd (h2 (0,43) Zb);obtain ⟨n1,e1,w1⟩:=cK (h2 (6,33) Zb);obtain ⟨n2,e2,w2⟩:=ZO Tryz.underlying3 (h2 (8,3) Zb);obtain ⟨n3,e3,w3⟩:=Gd (h2 (9,43) Zb);simp [sQ,sO,Hx,aO,ZgJ,aO] at e0 e1 e2 e3;obtain ⟨rfl,rfl,rfl,rfl,rfl,rfl⟩:=e0;obtain ⟨rfl,rfl⟩:=e1;subst e2;obtain ⟨rfl,rfl,rfl,rfl,rfl,rfl⟩:=e3;exact ⟨⟨n0,n1,n2,n3⟩,rfl,w0,w1,Xk w2,w3⟩
theorem nA {B v} (h:FitV Tryz.prog B 63 v): ∃x:Cas,v=bO x/\x.wf B:=by
 obtain ⟨k,cs,h,e⟩:=h.out;obtain ⟨x,rfl,hw⟩:=cH h;exact ⟨x,e.trans (by rw [Ql,if_pos (WF tJ)];rfl),hw⟩
theorem own : ownKnob Tryz.prog.godebug=none:=Zd
theorem nU : laidOutB Tryz.prog=true:=Zd
abbrev Flt := Int×List UInt8
def eF (f:Flt):PV:= .agg [.int .i64 f.1,.str f.2]
@[go_sem] theorem ZoP (f:Flt):eF f= .agg [.int .i64 f.1,.str f.2]:=ZP rfl rfl
@[go_sem] theorem Zm5 (l:List Flt):AS 2 (l.map eF)=true:=UV fun _=>rfl
def dec (n:Nat):List UInt8:=if h:n<10 then [UInt8.ofNat (48+n)] else dec (n / 10)++ [UInt8.ofNat (48+n%10)]
termination_by n
decreasing_by omega
theorem O4 : ∀(k n:Nat),n<k->(dec n).length<=n+1:=by
 intro k
 induction k with
 | zero=>omega
 | succ k ih =>
  grind [dec]
theorem AF : ∀(d n:Nat),n<10^(d+1)->(dec n).length<=d+1:=by
 intro d
 induction d with
 | zero=>simp_all [dec]
 | succ d ih =>
  grind [dec]
def Ak (n:Int):List UInt8:=if n<0 then 45::dec n.natAbs else dec n.natAbs
theorem Qy (n:Int) (h:V0 n):(Ak n).length<=20:=by
 have h1:n.natAbs<10^(18+1):=Za
 have:=AF 18 n.natAbs h1
 grind [Ak]
structure FR {α:Type} (p:α->Prop) (C:Prop) (b:Nat) (l:List α):Prop where
 len:l.length<=b
 emp:l= []↔C
 all: ∀x∈l,p x
theorem FR.nil {α:Type} {p:α->Prop} {C:Prop} {b:Nat} (h:C):FR p C b []:=⟨Zb,by simp [h],Zb⟩
theorem FR.no {α:Type} {p:α->Prop} {C c:Prop} {b:Nat} {l:List α} (h:FR p C b l) (hc:c):FR p (C/\c) (b+1) l:=⟨by have:=h.len;omega,by rw [h.emp];simp [hc],h.all⟩
theorem FR.yes {α:Type} {p:α->Prop} {C c:Prop} {b:Nat} {l:List α} {x:α} (h:FR p C b l) (hc: ¬c) (hx:p x):FR p (C/\c) (b+1) (l++ [x]) :=
 ⟨by have:=h.len;simp;omega,by simp [hc],fun y hy=>by
  rcases Xd.1 hy with hy | hy
  ·exact h.all y hy
  grind⟩
theorem FR.app {α:Type} {p:α->Prop} {C D:Prop} {b d:Nat} {l m:List α} (h:FR p C b l) (k:FR p D d m):FR p (C/\D) (b+d) (l++m) :=
 ⟨by have:=h.len;have:=k.len;simp;omega,by rw [Qd,h.emp,k.emp],fun y hy=>by
  rcases Xd.1 hy with hy | hy
  ·exact h.all y hy
  ·exact k.all y hy⟩
theorem FR.to {α:Type} {p:α->Prop} {C D:Prop} {b d:Nat} {l:List α} (h:FR p C b l) (hb:b<=d) (hc:C↔D):FR p D d l:=⟨Nat.le_trans h.len hb,h.emp.trans hc,h.all⟩
theorem Zm {p:Nat->Prop} {k:Nat} :(∀j,j<k+1->p j)↔((∀j,j<k->p j)/\p k) :=
 ⟨fun h=>⟨fun j hj=>h j Za,h k Za⟩,fun h j hj=>by
  grind⟩
def Jk (c:UInt8):Bool:=decide (48<=c.toNat/\c.toNat<=57)
def QE (c:UInt8):Bool:=decide (97<=c.toNat/\c.toNat<=122)||decide (65<=c.toNat/\c.toNat<=90)||decide (c.toNat=95)
def nameOk (s:List UInt8):Bool:=decide (1<=s.length)&&decide (s.length<=16)&& !Jk (nth s 0)&&s.all fun c=>QE c||Jk c
def rng (n lo hi:Int):Bool:=decide (lo<=n/\n<=hi)
def It (n:Int):Bool:=rng n 0 4096
def gX (l:List Pt) (i:Nat):Prop:=(0<=(nth l i).t/\(nth l i).t<=4096/\(nth l i).t<=(nth l i).a/\(nth l i).a<=(nth l i).t+4096)/\(0<i->(nth l (i-1)).t<(nth l i).t/\(nth l (i-1)).a<=(nth l i).a)
def WG (l:List Pt):Prop:=(1<=l.length/\l.length<=16)/\ ∀i,i<l.length->gX l i
def Kq (l:List Pt) (i:Nat):Prop:=It (nth l i).t=true/\It (nth l i).a=true/\(0<i->(nth l (i-1)).t<(nth l i).t)
def IT (n:Net) (i:Nat):Prop :=
 ((((((0<=(nth n.arcs i).src/\(nth n.arcs i).src<n.places.length/\0<=(nth n.arcs i).dst/\(nth n.arcs i).dst<n.places.length) /\
 (0<=(nth n.arcs i).prof/\(nth n.arcs i).prof<=7/\0<=(nth n.arcs i).miles/\(nth n.arcs i).miles<=10000/\(nth n.arcs i).src≠(nth n.arcs i).dst)) /\
 (∀k,k<i-> ¬((nth n.arcs i).src=(nth n.arcs k).src/\(nth n.arcs i).dst=(nth n.arcs k).dst/\(nth n.arcs i).prof=(nth n.arcs k).prof))) /\
 WG (nth n.arcs i).travel)/\(nth n.arcs i).slow.length<=16)/\ ∀k,k<(nth n.arcs i).slow.length->Kq (nth n.arcs i).slow k)
def N1 (n:Net) (i:Nat):Prop:=nameOk (nth n.places i)=true/\ ∀k,k<i->nth n.places k≠nth n.places i
def Kg (n:Net):Prop:=n.places.length<=24/\ ∀i,i<n.places.length->N1 n i
def netOk (n:Net):Prop:=(Kg n/\n.arcs.length<=1024)/\ ∀i,i<n.arcs.length->IT n i
set_option maxRecDepth 8000
set_option maxHeartbeats 4000000
theorem O7 (c:UInt8):PC 274 [.p (.int .u8 (c.toNat:Nat))] (.bool (Jk c)):=by
 refine Zc Tryz.func274 rfl ZaM ?_;simp (disch:=omega) only [Tryz.f274,go_sem,seval];refine gT ?_ ?_<;>intro h<;>simp (disch:=omega) only [Sh.out h,go_sem,seval,↓reduceIte]
 all_goals (simp [Jk];first | done | omega | grind)
theorem eD (c:UInt8):PC 275 [.p (.int .u8 (c.toNat:Nat))] (.bool (QE c)):=by
 refine Zc Tryz.func275 rfl ZaN ?_;simp (disch:=omega) only [Tryz.f275,go_sem,seval]
 repeat' (first | (refine gT ?_ ?_<;>intro hq<;>simp (disch:=omega) only [Sh.out hq,go_sem,seval,↓reduceIte]) | (refine gF ?_ ?_<;>intro hq<;>simp (disch:=omega) only [Sh.out hq,go_sem,seval,↓reduceIte]) | (refine Q1 (fun hq=> ?_) (fun hq=> ?_)<;>(try simp only [Zr,Yd,Xl] at hq)<;>simp (disch:=omega) only [Sh.out hq,go_sem,seval]))
 all_goals (simp [QE];first | done | omega | (rw [Up];simp;omega))
theorem NR (s:List UInt8) (hs:s.length<=1048576):PC 226 [.p (.str s)] (.bool (nameOk s)):=by
 refine Zc Tryz.func226 rfl Zae ?_;simp (disch:=omega) only [Tryz.f226,go_sem,seval];refine gF ?_ ?_<;>intro h<;>simp (disch:=omega) only [Sh.out h,go_sem,seval,↓reduceIte]
 ·grind [nameOk]
 ·refine gF ?_ ?_<;>intro h2<;>simp (disch:=omega) only [Sh.out h2,go_sem,seval]
  ·grind [nameOk]
  ·have g1:1<=s.length:=Za
   have g2:s.length<=16:=Za
   refine (O7 (nth s 0)).use (X8 ?_);refine cD ?_ ?_<;>intro h3<;>simp (disch:=omega) only [Sh.out h3,go_sem,seval]
   ·simp [nameOk,h3]
   ·refine Zi [0] (fun k:Nat=> [(3,.p (.int .i64 k))]) (fun _=> []) (fun k=>k<=s.length/\ ∀j,j<k->(QE (nth s j)||Jk (nth s j))=true) (fun k=>s.length-k) 0 Zb (Weak.mk ?_) ?_
    ·simp (disch:=omega) only [go_sem,seval,↓reduceIte]
    ·rintro k ⟨hk,hno⟩;refine X8 ?_
     have YB: ∀j,j<s.length->(QE (nth s j)||Jk (nth s j))=false->nameOk s=false:=fun j hj e=>by
      grind [Zj,nameOk]
     refine cD ?_ ?_<;>intro h4<;>simp (disch:=omega) only [Sh.out h4,go_sem,seval,↓reduceIte]
     ·have hk2:k<s.length:=Za
      refine (eD (nth s k)).use (X8 ?_);refine gT ?_ ?_<;>intro h5<;>simp (disch:=omega) only [Sh.out h5,go_sem,seval,↓reduceIte]
      ·refine (O7 (nth s k)).use (X8 ?_);refine cD ?_ ?_<;>intro h6<;>simp (disch:=omega) only [Sh.out h6,go_sem,seval,↓reduceIte]
       ·grind
       ·simp only [XC] at h6;exact ⟨k+1,⟨Za,Zm.2 ⟨hno,by simp [h6]⟩⟩,Za,wk⟩
      ·simp only [XC] at h5;exact ⟨k+1,⟨Za,Zm.2 ⟨hno,by simp [h5]⟩⟩,Za,wk⟩
     ·have:s.all (fun c=>QE c||Jk c)=true:=by
       rw [Zw];intro c hc;obtain ⟨j,hj,rfl⟩:=Z4.1 hc
       grind [Zj]
      grind [nameOk]
theorem KK (n:Int) (hn:V0 n):PC 174 [.p (.int .i64 n)] (.str (Ak n)):=by
 refine Zc Tryz.func174 rfl yY ?_;simp (disch:=omega) only [Tryz.f174,go_sem,seval]
 have h19:n.natAbs<10^(18+1):=Za
 have hdl:=AF 18 n.natAbs h19
 refine ZI [7] [0] (fun q:Int×List UInt8×Bool=> [(3,.p (.str q.2.1)),(4,.p (.int .i64 q.1)),(5,.p (.bool q.2.2))]) (fun _=> [])
  (fun q=>V0 q.1/\(q.2.2=true->dec q.1.natAbs++q.2.1=dec n.natAbs)/\(q.2.2=false->q.2.1=dec n.natAbs)) (fun q=>if q.2.2 then q.1.natAbs+1 else 0) (n,[],true) (by simp;omega) (Weak.mk ?_) ?_
 ·simp (disch:=omega) only [go_sem,seval,↓reduceIte]
 ·rintro ⟨m,s,again⟩ ⟨hm,h1,h2⟩;simp only at hm h1 h2;refine X8 ?_
  cases again with
  | false =>
   refine X8 ?_;have h2:=h2 rfl
   have hl2:([45]:List UInt8).length+(dec n.natAbs).length<=9223372036854775807:=by simp;omega
   refine cD ?_ ?_<;>intro h3<;>simp (disch:=omega) only [Sh.out h3,go_sem,seval]
   ·simp (disch:=omega) only [Ak,h2,h3,iP hl2,go_sem,seval,↓reduceIte]
   ·simp (disch:=omega) only [Ak,h2,h3,go_sem,seval,↓reduceIte]
  | true =>
   have h1:=h1 rfl
   have hls:(dec m.natAbs).length+s.length=(dec n.natAbs).length:=by grind
   refine X8 ?_
   have e1:(m.tmod 10).natAbs=m.natAbs%10:=Zb
   have e2:(m.tdiv 10).natAbs=m.natAbs / 10:=by grind
   have e3:m.tmod 10<10/\ -10<m.tmod 10:=⟨Int.tmod_lt_of_pos _ (by decide),Za⟩;refine ZD [0,3,4] (fun _:Unit=> [(6,.p (.int .i64 ((m.natAbs%10:Nat):Int)))]) (fun _=> []) (fun _=>True) ?_ ?_
   ·refine X8 ?_;refine cD ?_ ?_<;>intro h3<;>simp (disch:=omega) only [Sh.out h3,go_sem,seval,↓reduceIte]
    ·exact ⟨(),Weak.mk (by refine X8 ?_;simp;omega)⟩
    ·exact ⟨(),Weak.mk (by refine X8 ?_;simp;omega)⟩
   ·intro _ _;refine Zf [] _ _ _ _ ?_;simp (disch:=first | omega | (simp only [Zs,ZH,ZQ,Xp,ZA,Xg]<;>omega)) only [go_sem,seval,↓reduceIte]
    have e4:(48+((m.natAbs%10:Nat):Int)).toNat=48+m.natAbs%10:=Za
    refine ⟨(m.tdiv 10,UInt8.ofNat (48+m.natAbs%10)::s,decide (m.tdiv 10≠0)),⟨?_,?_,?_⟩,?_,Weak.mk ?_⟩
    ·omega
    ·simp only [Zr];intro hne
     have h10: ¬m.natAbs<10:=Za
     rw [e2,<- h1,dec.eq_def m.natAbs,dif_neg h10];simp
    ·simp only [Yd,Xl];intro hz
     have h10:m.natAbs<10:=Za
     rw [<- h1,dec.eq_def m.natAbs,dif_pos h10,KW h10];simp
    ·grind
    ·simp (disch:=omega) only [e4,go_sem,seval]
def pF (k:Nat) (f:Flt):Prop:=f.2.length<=k
theorem Z6 {P:Program} {id:Nat} {l:List Oper} {fr:List V} {H:List AM.Obj} {Q:Exit->List V->List AM.Obj->Prop} {t} (h:hs P (l.map (·.dst)) H (Zy (fun fr'=>Q .normal (NI fr') H) ⟨⟩) l (NI fr)) (hm:P.follows .mixedOrders=true:=by exact mixed) (hB:Vi (List.toArray l) l.length=true:=by kernel_rfl) (hR:Ki (List.toArray l) l.length=true:=by kernel_rfl):AWP P (.region id (Zy (List.toArray l) t) true) fr H Q:=Na hm hB hR h
theorem aY (l:List Pt) (c:Bool) (hl:l.length<=1048576):ACalls Tryz.prog 227 [.p (.list c (l.map Fk))] [] fun x H'=> ∃m:List Flt,FR (pF 20) (WG l) (2*l.length+1) m/\x= .sl 0 0 m.length m.length/\H'= [.elems 2 (m.map eF)]:=by
 refine Z2 [2] Tryz.func227 rfl Zaf ?_;simp (disch:=omega) only [Tryz.f227,go_sem,seval];refine Zp (Weak.ofNil 3 2 (by simp (disch:=omega) only [go_sem,seval]) Zb (Weak.refl _ _ _)) ?_;refine ZD [0] (fun m:List Flt=> [(3,.sl 0 0 m.length m.length)]) (fun m=> [.elems 2 (m.map eF)]) (fun m=>FR (pF 20) (1<=l.length/\l.length<=16) 1 m) ?_ ?_
 ·refine X8 ?_
  repeat' (first | (refine VH (fun hq=> ?_) (fun hq=> ?_)<;>(try simp only [Zr,Yd,Xl] at hq)<;>simp (disch:=omega) only [Sh.out hq,go_sem,seval]) | (refine gF ?_ ?_<;>intro hq<;>simp (disch:=omega) only [Sh.out hq,go_sem,seval,↓reduceIte]) | (refine cD ?_ ?_<;>intro hq<;>simp (disch:=omega) only [Sh.out hq,go_sem,seval,↓reduceIte]))
  ·exact ⟨[(4,[])],⟨Zb,by simp;omega,by simp [pF]⟩,wk⟩
  ·exact ⟨[(4,[])],⟨Zb,by simp;omega,by simp [pF]⟩,wk⟩
  ·exact ⟨[],FR.nil Za,wk⟩
 ·intro m hm;refine Zf [] _ _ _ _ (X8 ?_);refine ZI [8] [0] (fun q:Nat×List Flt=> [(3,.sl 0 0 q.2.length q.2.length),(4,.p (.int .i64 q.1))]) (fun q=> [.elems 2 (q.2.map eF)]) (fun q=>q.1<=l.length/\FR (pF 20) ((1<=l.length/\l.length<=16)/\ ∀j,j<q.1->gX l j) (2*q.1+1) q.2) (fun q=>l.length-q.1) (0,m) ⟨Zb,hm.to Zb Zb⟩ (Weak.mk ?_) ?_
  ·simp (disch:=omega) only [go_sem,seval,↓reduceIte]
  ·rintro ⟨k,m⟩ ⟨hk,hm⟩;simp only at hk hm;have hml:=hm.len;refine X8 ?_;refine cD ?_ ?_<;>intro h<;>simp (disch:=omega) only [Sh.out h,go_sem,seval,↓reduceIte]
   ·have hk2:k<l.length:=Za
    refine ZD [0,4,5] (fun m:List Flt=> [(3,.sl 0 0 m.length m.length)]) (fun m=> [.elems 2 (m.map eF),.cells [.p (.int .i64 (nth l k).t),.p (.int .i64 (nth l k).a)]])
     (fun m=>FR (pF 20) (((1<=l.length/\l.length<=16)/\ ∀j,j<k->gX l j)/\(0<=(nth l k).t/\(nth l k).t<=4096/\(nth l k).t<=(nth l k).a/\(nth l k).a<=(nth l k).t+4096)) (2*k+1+1) m) ?_ ?_
    ·refine X8 ?_
     have hI:V0 (k:Int):=Za
     have hdl:=Qy k hI
     repeat' (first | (refine VH (fun hq=> ?_) (fun hq=> ?_)<;>(try simp only [Zr,Yd,Xl] at hq)<;>simp (disch:=omega) only [Sh.out hq,go_sem,seval]) | (refine gF ?_ ?_<;>intro hq<;>simp (disch:=omega) only [Sh.out hq,go_sem,seval,↓reduceIte]) | (refine cD ?_ ?_<;>intro hq<;>simp (disch:=omega) only [Sh.out hq,go_sem,seval,↓reduceIte]))
     all_goals try exact ⟨m,hm.no Za,wk⟩
     all_goals
      refine (KK k hI).use ?_;simp (disch:=omega) only [go_sem,seval,↓reduceIte];exact ⟨m++ [(2,Ak k)],hm.yes Za (by simp only [pF];omega),wk⟩
    ·intro m hm;have hml:=hm.len;refine Zf [] _ _ _ _ (X8 ?_)
     have hI:V0 (k:Int):=Za
     have hdl:=Qy k hI;refine Z6 (X8 ?_)
     repeat' (first | (refine gT ?_ ?_<;>intro hq<;>simp (disch:=omega) only [Sh.out hq,go_sem,seval,↓reduceIte]) | (refine gF ?_ ?_<;>intro hq<;>simp (disch:=omega) only [Sh.out hq,go_sem,seval,↓reduceIte]) | (refine cD ?_ ?_<;>intro hq<;>simp (disch:=omega) only [Sh.out hq,go_sem,seval,↓reduceIte]))
     all_goals try exact ⟨(k+1,m),⟨by simp only;omega,(hm.no (c:=0<k->(nth l (k-1)).t<(nth l k).t/\(nth l (k-1)).a<=(nth l k).a) Za).to (by simp only;omega) (by simp only [Zm,gX,and_assoc])⟩,by simp only;omega,wk⟩
     all_goals
      refine (KK k hI).use ?_;simp (disch:=omega) only [go_sem,seval,↓reduceIte];exact ⟨(k+1,m++ [(13,Ak k)]),⟨by simp only;omega,(hm.yes (c:=0<k->(nth l (k-1)).t<(nth l k).t/\(nth l (k-1)).a<=(nth l k).a) Za (by simp only [pF];omega)).to (by simp only;omega) (by simp only [Zm,gX,and_assoc])⟩,by simp only;omega,wk⟩
   ·have hkn:k=l.length:=Za
    subst hkn;exact ⟨m,hm.to Za (by rw [WG]),0,by simp (disch:=omega) only [go_sem,seval]⟩
set_option maxHeartbeats 8000000
theorem pF.mono {j k:Nat} (h:j<=k) {f:Flt} (hf:pF j f):pF k f:=Nat.le_trans hf h
theorem FR.pmono {α:Type} {p q:α->Prop} {C:Prop} {b:Nat} {l:List α} (h:FR p C b l) (hp: ∀x,p x->q x):FR q C b l:=⟨h.len,h.emp,fun x hx=>hp x (h.all x hx)⟩
theorem MJ (n:Int):PC 228 [.p (.int .i64 n)] (.bool (It n)):=by
 refine Zc Tryz.func228 rfl Zag ?_;simp (disch:=omega) only [Tryz.f228,go_sem,seval]
 repeat' (first | (refine gT ?_ ?_<;>intro hq<;>simp (disch:=omega) only [Sh.out hq,go_sem,seval,↓reduceIte]) | (refine Uf (fun hq=> ?_) (fun hq=> ?_)<;>(try simp only [Zr,Yd,Xl] at hq)<;>simp (disch:=omega) only [Sh.out hq,go_sem,seval]) | (refine Q1 (fun hq=> ?_) (fun hq=> ?_)<;>(try simp only [Zr,Yd,Xl] at hq)<;>simp (disch:=omega) only [Sh.out hq,go_sem,seval]))
 all_goals (simp [It,rng];first | done | omega | (rw [Up];simp;omega))
def ZU (n:Net):List AM.Obj:= [.cells [.p (.list n.places_c (n.places.map eS)),.p (.list n.arcs_c (n.arcs.map Wj))]]
theorem MG {P Q:Prop} (h:Q) (e:Q->P:=by intro h;simp (disch:=omega) only [ZU,go_sem,seval];exact h):P:=e h
theorem Nr (n:Net) (hp:n.places.length<=1048576) (hs: ∀s∈n.places,s.length<=1048576):ACalls Tryz.prog 170 [.p (Al n)] [] fun x H'=> ∃m:List Flt,FR (pF 26) (Kg n) (n.places.length+1) m/\x= .sl 0 0 m.length m.length/\H'= [.elems 2 (m.map eF)]:=by
 refine Z2 [2] Tryz.func170 rfl yU ?_;simp (disch:=omega) only [Tryz.f170,go_sem,seval];refine Zp (Weak.ofNil 3 2 (by simp (disch:=omega) only [go_sem,seval]) Zb (Weak.refl _ _ _)) ?_;refine ZD [1] (fun m:List Flt=> [(3,.sl 1 0 m.length m.length)]) (fun m=>ZU n++ [.elems 2 (m.map eF)]) (fun m=>FR (pF 26) (n.places.length<=24) 1 m) ?_ ?_
 ·refine X8 ?_;refine ZB ?_ ?_<;>intro h
  ·exact ⟨[(4,[112,108,97,99,101,115])],⟨Zb,by simp;omega,by simp [pF]⟩,Weak.mk (by simp (disch:=omega) only [ZU,go_sem,seval])⟩
  ·exact ⟨[],FR.nil Za,Weak.mk (by simp (disch:=omega) only [ZU,go_sem,seval])⟩
 ·intro m hm;refine Zf [] _ _ _ _ (MG ?_);refine Zi [1] (fun q:Nat×List Flt=> [(3,.sl 1 0 q.2.length q.2.length),(4,.p (.int .i64 q.1))]) (fun q=>ZU n++ [.elems 2 (q.2.map eF)]) (fun q=>q.1<=n.places.length/\FR (pF 26) (n.places.length<=24/\ ∀j,j<q.1->N1 n j) (q.1+1) q.2) (fun q=>n.places.length-q.1) (0,m) ⟨Zb,hm.to Zb Zb⟩ (Weak.mk ?_) ?_
  ·simp (disch:=omega) only [ZU,go_sem,seval]
  ·rintro ⟨k,m⟩ ⟨hk,hm⟩;simp only at hk hm;have hml:=hm.len;refine MG ?_;refine cD ?_ ?_<;>intro h<;>simp (disch:=omega) only [Sh.out h,go_sem,seval,↓reduceIte]
   ·have hk2:k<n.places.length:=Za
    have hI:V0 (k:Int):=Za
    have hdl:=Qy k hI;refine (KK k hI).use (X8 ?_);simp (disch:=first | omega | (simp only [Zs,ZH,ZQ,Xp,ZA,Xg]<;>omega)) only [go_sem,seval,↓reduceIte];refine (NR (nth n.places k) (hs _ (by grind [Zj]))).use (X8 ?_);refine ZB ?_ ?_<;>intro h2
    ·simp only [YH] at h2;exact ⟨(k+1,m++ [(5,[112,108,97,99,101,32]++Ak k)]),⟨Za,(hm.yes (c:=N1 n k) (by rw [N1,h2];simp) (by simp [pF];omega)).to Zb (by grind)⟩,Za,wk⟩
    ·simp only [XC] at h2;refine Zi [1,3,4,5] (fun q:Nat×Bool=> [(6,.p (.bool q.2)),(7,.p (.int .i64 q.1))]) (fun _=>ZU n++ [.elems 2 (m.map eF)]) (fun q=>q.1<=k/\(q.2=false↔ ∀j,j<q.1->nth n.places j≠nth n.places k)) (fun q=>k-q.1) (0,false) Zb (Weak.mk ?_) ?_
     ·simp (disch:=omega) only [ZU,go_sem,seval]
     ·rintro ⟨j,b⟩ ⟨hj,hb⟩;simp only at hj hb;refine MG ?_;refine cD ?_ ?_<;>intro h3<;>simp (disch:=omega) only [Sh.out h3,go_sem,seval,↓reduceIte]
      ·refine Z3 14 mixed Zd Zd (X8 ?_)
       have hjn:j<n.places.length:=Za
       cases b with
       | true =>
        refine X8 ?_;exact ⟨(j+1,true),⟨Za,by grind⟩,Za,wk⟩
       | false =>
        refine X8 ?_;refine ⟨(j+1,decide (nth n.places j=nth n.places k)),⟨Za,by grind⟩,Za,wk⟩
      ·have hjk:j=k:=Za
       subst hjk
       cases b with
       | true =>
        refine X8 ?_
        have hno: ¬N1 n j:=fun h5=>by have:=hb.2 h5.2;cases this
        exact ⟨(j+1,m++ [(6,[112,108,97,99,101,32]++Ak j)]),⟨Za,(hm.yes (c:=N1 n j) hno (by simp [pF];omega)).to Zb (by grind)⟩,Za,wk⟩
       | false =>
        refine X8 ?_;exact ⟨(j+1,m),⟨Za,(hm.no (c:=N1 n j) ⟨h2,hb.1 rfl⟩).to Zb (by grind)⟩,Za,wk⟩
   ·have hkn:k=n.places.length:=Za
    subst hkn;exact ⟨m,hm.to Za (by rw [Kg]),1,by simp (disch:=omega) only [go_sem,seval]⟩
set_option maxHeartbeats 16000000
def WN (a:Arc):AM.Obj:= .cells [.p (.int .i64 a.src),.p (.int .i64 a.dst),.p (.int .i64 a.prof),.p (.int .i64 a.miles),.p (.list a.travel_c (a.travel.map Fk)),.p (.list a.slow_c (a.slow.map Fk))]
abbrev Wg (a b:Arc):Prop:=a.src=b.src/\a.dst=b.dst/\a.prof=b.prof
theorem ZdH {P Q:Prop} (h:Q) (e:Q->P:=by intro h;simp (disch:=omega) only [ZU,WN,go_sem,seval];exact h):P:=e h
theorem mL (n:Net) (i:Nat) (hi:i<n.arcs.length) (hp:n.places.length<=1048576) (ha:n.arcs.length<=1048576) (ht:(nth n.arcs i).travel.length<=1048576) (hsl:(nth n.arcs i).slow.length<=1048576) :
  ACalls Tryz.prog 171 [.p (Al n),.p (.int .i64 (i:Nat))] [] fun x H'=> ∃m:List Flt,FR (pF 26) (IT n i) 4000000 m/\x= .sl 0 0 m.length m.length/\H'= [.elems 2 (m.map eF)]:=by
 refine Z2 [4] Tryz.func171 rfl yV ?_;simp (disch:=omega) only [Tryz.f171,go_sem,seval]
 have hI:V0 (i:Int):=Za
 have hdl:=Qy i hI;refine (KK i hI).use (X8 ?_);simp (disch:=first | omega | (simp only [Zs,ZH,ZQ,Xp,ZA,Xg]<;>omega)) only [go_sem,seval,↓reduceIte]
 have hat:(97::114::99::32::Ak i).length<=26:=by simp;omega
 generalize hga:nth n.arcs i=a at ht hsl ⊢;generalize 97::114::99::32::Ak i=at' at hat ⊢;refine Zp (Weak.ofNil 5 2 (by simp (disch:=omega) only [go_sem,seval]) Zb (Weak.refl _ _ _)) ?_;refine ZD [1,2,6,7] (fun m:List Flt=> [(5,.sl 2 0 m.length m.length)]) (fun m=>ZU n++ [WN a,.elems 2 (m.map eF)]) (fun m=>FR (pF 26) (0<=a.src/\a.src<n.places.length/\0<=a.dst/\a.dst<n.places.length) 1 m) ?_ ?_
 ·refine X8 ?_
  repeat' (first | (refine VH (fun hq=> ?_) (fun hq=> ?_)<;>(try simp only [Zr,Yd,Xl] at hq)<;>simp (disch:=omega) only [Sh.out hq,go_sem,seval]) | (refine gF ?_ ?_<;>intro hq<;>simp (disch:=omega) only [Sh.out hq,go_sem,seval]) | (refine cD ?_ ?_<;>intro hq<;>simp (disch:=omega) only [Sh.out hq,go_sem,seval]))
  all_goals try exact ⟨[],FR.nil Za,Weak.mk (by simp (disch:=omega) only [ZU,WN,go_sem,seval])⟩
  all_goals exact ⟨[(11,at')],⟨Zb,by simp;omega,by simpa [pF] using hat⟩,Weak.mk (by simp (disch:=omega) only [ZU,WN,go_sem,seval])⟩
 ·intro m hm;refine Zf [6] _ _ _ _ (ZdH ?_);have hml:=hm.len
  refine ZD [1,2,6,7] (fun m:List Flt=> [(5,.sl 2 0 m.length m.length)]) (fun m=>ZU n++ [WN a,.elems 2 (m.map eF)])
   (fun m=>FR (pF 26) ((0<=a.src/\a.src<n.places.length/\0<=a.dst/\a.dst<n.places.length)/\(0<=a.prof/\a.prof<=7/\0<=a.miles/\a.miles<=10000/\a.src≠a.dst)) 2 m) ?_ ?_
  ·refine X8 ?_
   repeat' (first | (refine VH (fun hq=> ?_) (fun hq=> ?_)<;>(try simp only [Zr,Yd,Xl] at hq)<;>simp (disch:=omega) only [Sh.out hq,go_sem,seval]) | (refine gF ?_ ?_<;>intro hq<;>simp (disch:=omega) only [Sh.out hq,go_sem,seval]) | (refine cD ?_ ?_<;>intro hq<;>simp (disch:=omega) only [Sh.out hq,go_sem,seval]))
   all_goals try exact ⟨m,hm.no Za,Weak.mk (by simp (disch:=omega) only [ZU,WN,go_sem,seval])⟩
   all_goals exact ⟨m++ [(2,at')],hm.yes Za (by simpa [pF] using hat),Weak.mk (by simp (disch:=omega) only [ZU,WN,go_sem,seval])⟩
  ·clear hm hml;intro m hm;refine Zf [14] _ _ _ _ (ZdH ?_);have hml:=hm.len;refine ZI [14] [1,2,5,6,7] (fun q:Nat×Bool=> [(8,.p (.bool q.2)),(9,.p (.int .i64 q.1))]) (fun _=>ZU n++ [WN a,.elems 2 (m.map eF)]) (fun q=>q.1<=i/\(q.2=false↔ ∀j,j<q.1-> ¬Wg a (nth n.arcs j))) (fun q=>i-q.1) (0,false) Zb (Weak.mk ?_) ?_
   ·simp (disch:=omega) only [ZU,WN,go_sem,seval]
   ·rintro ⟨k,b⟩ ⟨hk,hb⟩;simp only at hk hb;refine ZdH ?_;refine cD ?_ ?_<;>intro h<;>simp (disch:=omega) only [Sh.out h,go_sem,seval,↓reduceIte]
    ·have hkn:k<n.arcs.length:=Za
     cases b with
     | true =>
      refine X8 ?_;exact ⟨(k+1,true),⟨Za,by grind⟩,Za,wk⟩
     | false =>
      refine X8 ?_
      repeat' (first | (refine gT ?_ ?_<;>intro hq<;>simp (disch:=omega) only [Sh.out hq,go_sem,seval]) | (refine Uf (fun hq=> ?_) (fun hq=> ?_)<;>(try simp only [Zr,Yd,Xl] at hq)<;>simp (disch:=omega) only [Sh.out hq,go_sem,seval]) | (refine Q1 (fun hq=> ?_) (fun hq=> ?_)<;>(try simp only [Zr,Yd,Xl] at hq)<;>simp (disch:=omega) only [Sh.out hq,go_sem,seval]))
      all_goals refine ⟨(k+1,decide (Wg a (nth n.arcs k))),⟨by simp only;omega,by rw [Zm,<- hb];simp⟩,by simp only;omega,Weak.mk ?_⟩
      all_goals simp (disch:=omega) only [go_sem,seval]
      all_goals simp [Wg, *]
    ·have hki:k=i:=Za
     subst hki;have htw:(b=false↔ ∀j,j<k-> ¬Wg a (nth n.arcs j)):=hb;clear hb hk h
     refine ZD [6,7] (fun m:List Flt=> [(5,.sl 2 0 m.length m.length)]) (fun m=>ZU n++ [WN a,.elems 2 (m.map eF)])
      (fun m=>FR (pF 26) (((0<=a.src/\a.src<n.places.length/\0<=a.dst/\a.dst<n.places.length)/\(0<=a.prof/\a.prof<=7/\0<=a.miles/\a.miles<=10000/\a.src≠a.dst))/\ ∀j,j<k-> ¬Wg a (nth n.arcs j)) 3 m) ?_ ?_
     ·refine X8 ?_
      cases b with
      | true =>
       refine X8 ?_;exact ⟨m++ [(6,at')],hm.yes (by grind) (by grind [pF]),Weak.mk (by simp (disch:=omega) only [ZU,WN,go_sem,seval])⟩
      | false =>
       refine X8 ?_;exact ⟨m,hm.no (htw.1 rfl),Weak.mk (by simp (disch:=omega) only [ZU,WN,go_sem,seval])⟩
     ·clear hm hml;intro m hm;refine Zf [21] _ _ _ _ (ZdH ?_);have hml:=hm.len;refine ((aY a.travel a.travel_c ht).frozenE).useV fun lt hlt=>X8 ?_;have hltl:=hlt.len
      refine ZI [21] [6,7,11] (fun q:Nat×List Flt=> [(5,.sl 2 0 q.2.length q.2.length),(12,.p (.int .i64 q.1))]) (fun q=>ZU n++ [WN a,.elems 2 (q.2.map eF)])
       (fun q=>q.1<=lt.length/\FR (pF 26) ((((0<=a.src/\a.src<n.places.length/\0<=a.dst/\a.dst<n.places.length)/\(0<=a.prof/\a.prof<=7/\0<=a.miles/\a.miles<=10000/\a.src≠a.dst))/\ ∀j,j<k-> ¬Wg a (nth n.arcs j))/\q.1=0) (3+q.1) q.2) (fun q=>lt.length-q.1) (0,m) ⟨Zb,hm.to Zb Zb⟩ (Weak.mk ?_) ?_
      ·simp (disch:=omega) only [ZU,WN,go_sem,seval]
      ·clear hm hml;rintro ⟨j,m⟩ ⟨hj,hm⟩;simp only at hj hm;have hml:=hm.len;refine ZdH ?_;refine ZB ?_ ?_<;>intro h
       ·have hj2:j<lt.length:=Za
        exact ⟨(j+1,m++ [((nth lt j).1,at')]),⟨Za,(hm.yes (c:=False) Zb (by grind [pF])).to Za Zb⟩,Za,wk⟩
       ·have hjl:j=lt.length:=Za
        subst hjl;have hm2:=hm.to (d:=3+lt.length) (D:=(((0<=a.src/\a.src<n.places.length/\0<=a.dst/\a.dst<n.places.length)/\(0<=a.prof/\a.prof<=7/\0<=a.miles/\a.miles<=10000/\a.src≠a.dst))/\ ∀j,j<k-> ¬Wg a (nth n.arcs j))/\WG a.travel) (ZM _) (by rw [<- hlt.emp,List.eq_nil_iff_length_eq_zero]);clear hm
        refine ZD [6,7] (fun m:List Flt=> [(5,.sl 2 0 m.length m.length)]) (fun m=>ZU n++ [WN a,.elems 2 (m.map eF)])
         (fun m=>FR (pF 26) (((((0<=a.src/\a.src<n.places.length/\0<=a.dst/\a.dst<n.places.length)/\(0<=a.prof/\a.prof<=7/\0<=a.miles/\a.miles<=10000/\a.src≠a.dst))/\ ∀j,j<k-> ¬Wg a (nth n.arcs j))/\WG a.travel)/\a.slow.length<=16) (4+lt.length) m) ?_ ?_
        ·refine X8 ?_;refine ZB ?_ ?_<;>intro h2
         ·exact ⟨m++ [(4,at')],(hm2.yes Za (by grind [pF])).to Za Iff.rfl,Weak.mk (by simp (disch:=omega) only [ZU,WN,go_sem,seval])⟩
         ·exact ⟨m,(hm2.no Za).to Za Iff.rfl,Weak.mk (by simp (disch:=omega) only [ZU,WN,go_sem,seval])⟩
        ·clear hm2 hml h hj;intro m hm;refine Zf [] _ _ _ _ (ZdH ?_)
         refine Zi [6,7] (fun q:Nat×List Flt=> [(5,.sl 2 0 q.2.length q.2.length),(13,.p (.int .i64 q.1))]) (fun q=>ZU n++ [WN a,.elems 2 (q.2.map eF)])
          (fun q=>q.1<=a.slow.length/\FR (pF 26) ((((((0<=a.src/\a.src<n.places.length/\0<=a.dst/\a.dst<n.places.length)/\(0<=a.prof/\a.prof<=7/\0<=a.miles/\a.miles<=10000/\a.src≠a.dst))/\ ∀j,j<k-> ¬Wg a (nth n.arcs j))/\WG a.travel)/\a.slow.length<=16)/\ ∀j,j<q.1->Kq a.slow j) (4+lt.length+q.1) q.2) (fun q=>a.slow.length-q.1) (0,m) ⟨Zb,hm.to Zb Zb⟩ (Weak.mk ?_) ?_
         ·simp (disch:=omega) only [ZU,WN,go_sem,seval]
         ·clear hm;rintro ⟨j,m⟩ ⟨hj,hm⟩;simp only at hj hm;have hml:=hm.len;refine ZdH ?_;refine cD ?_ ?_<;>intro h<;>simp (disch:=omega) only [Sh.out h,go_sem,seval,↓reduceIte]
          ·have hj2:j<a.slow.length:=Za
           refine Z6 (X8 ?_);refine Zq (MJ (nth a.slow j).t) (X8 ?_);have hslo:Kq a.slow j↔(It (nth a.slow j).t=true/\It (nth a.slow j).a=true/\(0<j->(nth a.slow (j-1)).t<(nth a.slow j).t)):=Iff.rfl;have hyes: ¬Kq a.slow j->_:=fun hs=>(hm.yes (x:=(2,at')) hs (by grind [pF])).to (D:=(((((0<=a.src/\a.src<n.places.length/\0<=a.dst/\a.dst<n.places.length)/\(0<=a.prof/\a.prof<=7/\0<=a.miles/\a.miles<=10000/\a.src≠a.dst))/\ ∀j,j<k-> ¬Wg a (nth n.arcs j))/\WG a.travel)/\a.slow.length<=16)/\ ∀i,i<j+1->Kq a.slow i) (d:=4+lt.length+(j+1)) Za (by grind)
           have hno:Kq a.slow j->_:=fun hs=>(hm.no hs).to (D:=(((((0<=a.src/\a.src<n.places.length/\0<=a.dst/\a.dst<n.places.length)/\(0<=a.prof/\a.prof<=7/\0<=a.miles/\a.miles<=10000/\a.src≠a.dst))/\ ∀j,j<k-> ¬Wg a (nth n.arcs j))/\WG a.travel)/\a.slow.length<=16)/\ ∀i,i<j+1->Kq a.slow i) (d:=4+lt.length+(j+1)) Za (by grind)
           cases ht1:It (nth a.slow j).t with
           | false =>
            refine X8 ?_;exact ⟨(j+1,m++ [(2,at')]),⟨Za,hyes (by grind)⟩,Za,wk⟩
           | true =>
            refine X8 ?_;refine Zq (MJ (nth a.slow j).a) (X8 ?_)
            cases ht2:It (nth a.slow j).a with
            | false =>
             refine X8 ?_;exact ⟨(j+1,m++ [(2,at')]),⟨Za,hyes (by grind)⟩,Za,wk⟩
            | true =>
             refine X8 ?_
             repeat' (first | (refine gT ?_ ?_<;>intro hq<;>simp (disch:=omega) only [Sh.out hq,go_sem,seval]) | (refine Uf (fun hq=> ?_) (fun hq=> ?_)<;>(try simp only [Zr,Yd,Xl] at hq)<;>simp (disch:=omega) only [Sh.out hq,go_sem,seval]) | (refine cD ?_ ?_<;>intro hq<;>simp (disch:=omega) only [Sh.out hq,go_sem,seval]))
             ·exact ⟨(j+1,m++ [(2,at')]),⟨Za,hyes (by grind)⟩,Za,wk⟩
             ·exact ⟨(j+1,m),⟨Za,hno (by grind)⟩,Za,wk⟩
             ·exact ⟨(j+1,m),⟨Za,hno (by grind)⟩,Za,wk⟩
          ·have hjn:j=a.slow.length:=Za
           subst hjn;exact ⟨m,hm.to Za (by rw [IT,hga]),2,by simp (disch:=omega) only [go_sem,seval]⟩
theorem Zn {α:Type} [Inhabited α] {l:List α} {i:Nat} (h:i<l.length):nth l i∈l:=by grind [Zj]
theorem wB (n:Net) (hw:n.wf 1048576):ACalls Tryz.prog 126 [.p (Al n)] [] fun x H'=> ∃m:List Flt,FR (pF 26) (netOk n) 4194306000000 m/\x= .sl 0 0 m.length m.length/\H'= [.elems 2 (m.map eF)]:=by
 obtain ⟨w1,w2,w3,w4⟩:=hw;refine Z2 [2] Tryz.func126 rfl xO ?_;simp (disch:=omega) only [Tryz.f126,go_sem,seval];refine (Nr n w1 w2).useE fun m hm=>X8 ?_;have hml:=hm.len;refine ZD [1] (fun m:List Flt=> [(3,.sl 1 0 m.length m.length)]) (fun m=>ZU n++ [.elems 2 (m.map eF)]) (fun m=>FR (pF 26) (Kg n/\n.arcs.length<=1024) (n.places.length+2) m) ?_ ?_
 ·refine X8 ?_;refine ZB ?_ ?_<;>intro h
  ·exact ⟨m++ [(4,[97,114,99,115])],hm.yes Za (by simp [pF]),Weak.mk (by simp (disch:=omega) only [ZU,go_sem,seval])⟩
  ·exact ⟨m,hm.no Za,Weak.mk (by simp (disch:=omega) only [ZU,go_sem,seval])⟩
 ·clear hm hml;intro m hm;refine Zf [] _ _ _ _ (MG ?_);refine Zi [1] (fun q:Nat×List Flt=> [(3,.sl 1 0 q.2.length q.2.length),(4,.p (.int .i64 q.1))]) (fun q=>ZU n++ [.elems 2 (q.2.map eF)]) (fun q=>q.1<=n.arcs.length/\FR (pF 26) ((Kg n/\n.arcs.length<=1024)/\ ∀j,j<q.1->IT n j) (n.places.length+2+q.1*4000000) q.2) (fun q=>n.arcs.length-q.1) (0,m) ⟨Zb,hm.to Zb Zb⟩ (Weak.mk ?_) ?_
  ·simp (disch:=omega) only [ZU,go_sem,seval]
  ·clear hm;rintro ⟨k,m⟩ ⟨hk,hm⟩;simp only at hk hm;have hml:=hm.len;refine MG ?_;refine cD ?_ ?_<;>intro h<;>simp (disch:=omega) only [Sh.out h,go_sem,seval,↓reduceIte]
   ·have hk2:k<n.arcs.length:=Za
    have ha:=w4 _ (Zn hk2);refine (mL n k hk2 w1 w3 ha.2.2.2.2.1 ha.2.2.2.2.2.2.1).useE fun f hf=>X8 ?_;have hfl:=hf.len
    have q1:(m.length+f.length)*24<=140737488355328:=Za
    have q2:m.length+f.length<=140737488355328:=Za
    simp (disch:=omega) only [q1,q2,go_sem,seval];refine ⟨(k+1,m++f),⟨Za,(hm.app hf).to Za (by grind)⟩,Za,Weak.mk ?_⟩;simp (disch:=omega) only [ZQ,Xm,go_sem,seval]
   ·have hkn:k=n.arcs.length:=Za
    subst hkn;exact ⟨m,hm.to Za (by rw [netOk]),1,by simp (disch:=omega) only [go_sem,seval]⟩
theorem W5 (n lo hi:Int):PC 172 [.p (.int .i64 n),.p (.int .i64 lo),.p (.int .i64 hi)] (.bool (rng n lo hi)):=by
 refine Zc Tryz.func172 rfl yW ?_;simp (disch:=omega) only [Tryz.f172,go_sem,seval];refine gT ?_ ?_<;>intro h<;>simp (disch:=omega) only [Sh.out h,go_sem,seval,↓reduceIte]
 all_goals (simp [rng];first | done | omega | (rw [Up];simp;omega))
def Uk (l:List Int) (d:Int):Bool:=rng l.length 1 3&&decide ((l.length:Int)=d)&&l.all fun n=>rng n 0 1000
theorem No (l:List Int) (c:Bool) (d:Int) (hl:l.length<=1048576):PC 230 [.p (.list c (l.map eI)),.p (.int .i64 d)] (.bool (Uk l d)):=by
 refine Zc Tryz.func230 rfl Zai ?_;simp (disch:=omega) only [Tryz.f230,go_sem,seval];refine (W5 l.length 1 3).use (X8 ?_);refine gF ?_ ?_<;>intro h<;>simp (disch:=omega) only [Sh.out h,go_sem,seval,↓reduceIte]
 ·grind [Uk]
 ·simp only [XC] at h;refine cD ?_ ?_<;>intro h2<;>simp (disch:=omega) only [Sh.out h2,go_sem,seval]
  ·simp [Uk,h,h2]
  ·simp only [Xl] at h2;subst h2;refine Zi [0] (fun k:Nat=> [(5,.p (.int .i64 k))]) (fun _=> []) (fun k=>k<=l.length/\ ∀j,j<k->rng (nth l j) 0 1000=true) (fun k=>l.length-k) 0 Zb (Weak.mk ?_) ?_
   ·simp (disch:=omega) only [go_sem,seval,↓reduceIte]
   ·rintro k ⟨hk,hno⟩;refine X8 ?_;refine cD ?_ ?_<;>intro h3<;>simp (disch:=omega) only [Sh.out h3,go_sem,seval,↓reduceIte]
    ·have hk2:k<l.length:=Za
     refine (W5 (nth l k) 0 1000).use (X8 ?_);refine cD ?_ ?_<;>intro h4<;>simp (disch:=omega) only [Sh.out h4,go_sem,seval,↓reduceIte]
     ·grind [Zn,Uk]
     ·simp only [XC] at h4;exact ⟨k+1,⟨Za,Zm.2 ⟨hno,h4⟩⟩,Za,wk⟩
    ·have:l.all (fun n=>rng n 0 1000)=true:=by
      rw [Zw];intro x hx;obtain ⟨j,hj,rfl⟩:=Z4.1 hx
      grind [Zj]
     grind [Uk]
def NM (l:List Typ) (i:Nat) (s:List UInt8):Bool:=(List.range i).any fun j=>decide ((nth l j).name=s)
theorem V6 {l:List Typ} {i:Nat} {s:List UInt8} :NM l i s=false↔ ∀j,j<i->(nth l j).name≠s:=by
 grind [NM]
theorem R9 (l:List Typ) (c:Bool) (i:Nat) (s:List UInt8) (hi:i<=l.length) (hl:l.length<=1048576):PC 229 [.p (.list c (l.map Y5)),.p (.int .i64 (i:Nat)),.p (.str s)] (.bool (NM l i s)):=by
 refine Zc Tryz.func229 rfl Zah ?_;simp (disch:=omega) only [Tryz.f229,go_sem,seval];refine Zi [0,1,2] (fun k:Nat=> [(7,.p (.int .i64 k))]) (fun _=> []) (fun k=>k<=i/\ ∀j,j<k->(nth l j).name≠s) (fun k=>i-k) 0 Zb (Weak.mk ?_) ?_
 ·simp (disch:=omega) only [go_sem,seval,↓reduceIte]
 ·rintro k ⟨hk,hno⟩;refine X8 ?_;refine cD ?_ ?_<;>intro h3<;>simp (disch:=omega) only [Sh.out h3,go_sem,seval,↓reduceIte]
  ·have hk2:k<l.length:=Za
   refine cD ?_ ?_<;>intro h4<;>simp (disch:=omega) only [Sh.out h4,go_sem,seval,↓reduceIte]
   ·grind [V6]
   ·exact ⟨k+1,⟨Za,Zm.2 ⟨hno,h4⟩⟩,Za,wk⟩
  grind [V6]
def dimsOf (l:List Typ):Int:=if l.length=0 then 0 else ((nth l 0).cap.length:Int)
theorem Ll (l:List Typ) (c:Bool) (hl:l.length<=1048576):PC 129 [.p (.list c (l.map Y5))] (.int .i64 (dimsOf l)):=by
 refine Zc Tryz.func129 rfl xR ?_;simp (disch:=omega) only [Tryz.f129,go_sem,seval];refine cD ?_ ?_<;>intro h<;>simp (disch:=omega) only [Sh.out h,go_sem,seval,↓reduceIte]
 ·grind [dimsOf]
 ·have h0:0<l.length:=Za
  have h1:l.length≠0:=Za
  simp (disch:=first | omega | (simp only [Zs,ZH,ZQ,Xp,ZA,Xg]<;>omega)) only [dimsOf,h1,go_sem,seval,↓reduceIte]
def X2 (t:Typ):AM.Obj:= .cells [.p (.str t.name),.p (.int .i64 t.count),.p (.int .i64 t.src),.p (.int .i64 t.dst),.p (.list t.cap_c (t.cap.map eI)),.p (.int .i64 t.skills),.p (.int .i64 t.prof),.p (.int .i64 t.opn),.p (.int .i64 t.cls),.p (.int .i64 t.drive),.p (.int .i64 t.rest),.p (.int .i64 t.fixed),.p (.int .i64 t.perMile),.p (.int .i64 t.perTick)]
def Az (n:Net) (l:List Typ) (i:Nat):Prop:=((((((((nameOk (nth l i).name=true)/\(∀j,j<i->(nth l j).name≠(nth l i).name))/\rng (nth l i).count 0 10=true)/\(rng (nth l i).src 0 (n.places.length-1)=true/\rng (nth l i).dst 0 (n.places.length-1)=true))/\Uk (nth l i).cap (dimsOf l)=true)/\rng (nth l i).skills 0 1073741823=true)/\(rng (nth l i).opn 0 (nth l i).cls=true/\(nth l i).cls<=4096))/\(rng (nth l i).drive 1 4096=true/\rng (nth l i).rest 0 4096=true))/\(rng (nth l i).prof 0 7=true/\rng (nth l i).fixed 0 100000=true/\rng (nth l i).perMile 0 100=true/\rng (nth l i).perTick 0 100=true)
theorem ZfT {P Q:Prop} (h:Q) (e:Q->P:=by intro h;simp (disch:=omega) only [ZU,X2,go_sem,seval];exact h):P:=e h
theorem S6 (n:Net) (l:List Typ) (c:Bool) (i:Nat) (hi:i<l.length) (hl:l.length<=1048576) (hw:n.wf 1048576) (ht:(nth l i).wf 1048576) :
  ACalls Tryz.prog 173 [.p (Al n),.p (.list c (l.map Y5)),.p (.int .i64 (i:Nat))] [] fun x H'=> ∃m:List Int,FR (fun _=>True) (Az n l i) 9 m/\x= .sl 0 0 m.length m.length/\H'= [.elems 1 (m.map eI)]:=by
 obtain ⟨w1,w2,w3,w4⟩:=hw;refine Z2 [3] Tryz.func173 rfl yX ?_;simp (disch:=omega) only [Tryz.f173,go_sem,seval];have hty:Az n l i↔((((((((nameOk (nth l i).name=true)/\(∀j,j<i->(nth l j).name≠(nth l i).name))/\rng (nth l i).count 0 10=true)/\(rng (nth l i).src 0 (n.places.length-1)=true/\rng (nth l i).dst 0 (n.places.length-1)=true))/\Uk (nth l i).cap (dimsOf l)=true)/\rng (nth l i).skills 0 1073741823=true)/\(rng (nth l i).opn 0 (nth l i).cls=true/\(nth l i).cls<=4096))/\(rng (nth l i).drive 1 4096=true/\rng (nth l i).rest 0 4096=true))/\(rng (nth l i).prof 0 7=true/\rng (nth l i).fixed 0 100000=true/\rng (nth l i).perMile 0 100=true/\rng (nth l i).perTick 0 100=true):=Iff.rfl
 generalize hga:nth l i=t at ht hty ⊢;have hname:=ht.1;have hcap:=ht.2.2.2.2.1;refine Zp (Weak.ofNil 8 1 (by simp (disch:=omega) only [go_sem,seval]) Zb (Weak.refl _ _ _)) ?_;refine ZD [1,2,3,7] (fun m:List Int=> [(8,.sl 2 0 m.length m.length)]) (fun m=>ZU n++ [X2 t,.elems 1 (m.map eI)]) (fun m=>FR (fun _=>True) (nameOk t.name=true) 1 m) ?_ ?_
 ·refine X8 ?_;refine (NR t.name hname).use (X8 ?_);refine ZB ?_ ?_<;>intro h0
  ·simp only [YH] at h0;exact ⟨[5],⟨Zb,by simp [h0],Zb⟩,Weak.mk (by simp (disch:=omega) only [ZU,X2,go_sem,seval])⟩
  ·simp only [XC] at h0;exact ⟨[],FR.nil (by simp [h0]),Weak.mk (by simp (disch:=omega) only [ZU,X2,go_sem,seval])⟩
 ·skip
  intro m hm;refine Zf [5] _ _ _ _ (ZfT ?_);have hml:=hm.len;refine ZD [1,3,7] (fun m:List Int=> [(8,.sl 2 0 m.length m.length)]) (fun m=>ZU n++ [X2 t,.elems 1 (m.map eI)]) (fun m=>FR (fun _=>True) ((nameOk t.name=true)/\(∀j,j<i->(nth l j).name≠t.name)) 2 m) ?_ ?_
  ·refine X8 ?_;refine (R9 l c i t.name Za hl).use (X8 ?_);refine ZB ?_ ?_<;>intro h
   ·exact ⟨m++ [6],hm.yes (by grind [V6]) trivial,Weak.mk (by simp (disch:=omega) only [ZU,X2,go_sem,seval])⟩
   ·exact ⟨m,hm.no (by exact V6.1 h),Weak.mk (by simp (disch:=omega) only [ZU,X2,go_sem,seval])⟩
  ·clear hm hml;intro m hm;refine Zf [7] _ _ _ _ (ZfT ?_);have hml:=hm.len;refine ZD [1,3,7] (fun m:List Int=> [(8,.sl 2 0 m.length m.length)]) (fun m=>ZU n++ [X2 t,.elems 1 (m.map eI)]) (fun m=>FR (fun _=>True) (((nameOk t.name=true)/\(∀j,j<i->(nth l j).name≠t.name))/\rng t.count 0 10=true) 3 m) ?_ ?_
   ·refine X8 ?_;refine (W5 t.count 0 10).use (X8 ?_);refine ZB ?_ ?_<;>intro h0
    ·simp only [YH] at h0;exact ⟨m++ [22],hm.yes (by simp [h0]) trivial,Weak.mk (by simp (disch:=omega) only [ZU,X2,go_sem,seval])⟩
    ·simp only [XC] at h0;exact ⟨m,hm.no (by simp [h0]),Weak.mk (by simp (disch:=omega) only [ZU,X2,go_sem,seval])⟩
   ·clear hm hml;intro m hm;refine Zf [9] _ _ _ _ (ZfT ?_);have hml:=hm.len;refine ZD [1,7] (fun m:List Int=> [(8,.sl 2 0 m.length m.length)]) (fun m=>ZU n++ [X2 t,.elems 1 (m.map eI)]) (fun m=>FR (fun _=>True) ((((nameOk t.name=true)/\(∀j,j<i->(nth l j).name≠t.name))/\rng t.count 0 10=true)/\(rng t.src 0 (n.places.length-1)=true/\rng t.dst 0 (n.places.length-1)=true)) 4 m) ?_ ?_
    ·refine X8 ?_;refine (W5 t.src 0 (n.places.length-1)).use (X8 ?_);refine A6 ?_ ?_<;>intro h0
     ·simp only [YH] at h0;exact ⟨m++ [11],hm.yes (by simp [h0]) trivial,Weak.mk (by simp (disch:=omega) only [ZU,X2,go_sem,seval])⟩
     ·simp only [XC] at h0;refine (W5 t.dst 0 (n.places.length-1)).use (X8 ?_);refine ZB ?_ ?_<;>intro h1
      ·simp only [YH] at h1;exact ⟨m++ [11],hm.yes (by simp [h1]) trivial,Weak.mk (by simp (disch:=omega) only [ZU,X2,go_sem,seval])⟩
      ·simp only [XC] at h1;exact ⟨m,hm.no (by simp [h0,h1]),Weak.mk (by simp (disch:=omega) only [ZU,X2,go_sem,seval])⟩
    ·clear hm hml;intro m hm;refine Zf [11] _ _ _ _ (ZfT ?_);have hml:=hm.len;refine ZD [7] (fun m:List Int=> [(8,.sl 2 0 m.length m.length)]) (fun m=>ZU n++ [X2 t,.elems 1 (m.map eI)]) (fun m=>FR (fun _=>True) (((((nameOk t.name=true)/\(∀j,j<i->(nth l j).name≠t.name))/\rng t.count 0 10=true)/\(rng t.src 0 (n.places.length-1)=true/\rng t.dst 0 (n.places.length-1)=true))/\Uk t.cap (dimsOf l)=true) 5 m) ?_ ?_
     ·refine X8 ?_;refine Z6 (X8 ?_);refine Zq (Ll l c hl) (X8 ?_);refine Zq (No t.cap t.cap_c (dimsOf l) hcap) (X8 ?_);refine ZB ?_ ?_<;>intro h
      ·simp only [YH] at h;exact ⟨m++ [17],hm.yes (by simp [h]) trivial,Weak.mk (by simp (disch:=omega) only [ZU,X2,go_sem,seval])⟩
      ·simp only [XC] at h;exact ⟨m,hm.no (by simp [h]),Weak.mk (by simp (disch:=omega) only [ZU,X2,go_sem,seval])⟩
     ·clear hm hml;intro m hm;refine Zf [13] _ _ _ _ (ZfT ?_);have hml:=hm.len;refine ZD [7] (fun m:List Int=> [(8,.sl 2 0 m.length m.length)]) (fun m=>ZU n++ [X2 t,.elems 1 (m.map eI)]) (fun m=>FR (fun _=>True) ((((((nameOk t.name=true)/\(∀j,j<i->(nth l j).name≠t.name))/\rng t.count 0 10=true)/\(rng t.src 0 (n.places.length-1)=true/\rng t.dst 0 (n.places.length-1)=true))/\Uk t.cap (dimsOf l)=true)/\rng t.skills 0 1073741823=true) 6 m) ?_ ?_
      ·refine X8 ?_;refine (W5 t.skills 0 1073741823).use (X8 ?_);refine ZB ?_ ?_<;>intro h0
       ·simp only [YH] at h0;exact ⟨m++ [18],hm.yes (by simp [h0]) trivial,Weak.mk (by simp (disch:=omega) only [ZU,X2,go_sem,seval])⟩
       ·simp only [XC] at h0;exact ⟨m,hm.no (by simp [h0]),Weak.mk (by simp (disch:=omega) only [ZU,X2,go_sem,seval])⟩
      ·clear hm hml;intro m hm;refine Zf [15] _ _ _ _ (ZfT ?_);have hml:=hm.len;refine ZD [7] (fun m:List Int=> [(8,.sl 2 0 m.length m.length)]) (fun m=>ZU n++ [X2 t,.elems 1 (m.map eI)]) (fun m=>FR (fun _=>True) (((((((nameOk t.name=true)/\(∀j,j<i->(nth l j).name≠t.name))/\rng t.count 0 10=true)/\(rng t.src 0 (n.places.length-1)=true/\rng t.dst 0 (n.places.length-1)=true))/\Uk t.cap (dimsOf l)=true)/\rng t.skills 0 1073741823=true)/\(rng t.opn 0 t.cls=true/\t.cls<=4096)) 7 m) ?_ ?_
       ·refine X8 ?_;refine (W5 t.opn 0 t.cls).use (X8 ?_);refine A6 ?_ ?_<;>intro h0
        ·simp only [YH] at h0;exact ⟨m++ [15],hm.yes (by simp [h0]) trivial,Weak.mk (by simp (disch:=omega) only [ZU,X2,go_sem,seval])⟩
        ·simp only [XC] at h0;refine ZB ?_ ?_<;>intro h1
         ·exact ⟨m++ [15],hm.yes Za trivial,Weak.mk (by simp (disch:=omega) only [ZU,X2,go_sem,seval])⟩
         ·exact ⟨m,hm.no (by grind),Weak.mk (by simp (disch:=omega) only [ZU,X2,go_sem,seval])⟩
       ·clear hm hml;intro m hm;refine Zf [17] _ _ _ _ (ZfT ?_);have hml:=hm.len;refine ZD [7] (fun m:List Int=> [(8,.sl 2 0 m.length m.length)]) (fun m=>ZU n++ [X2 t,.elems 1 (m.map eI)]) (fun m=>FR (fun _=>True) ((((((((nameOk t.name=true)/\(∀j,j<i->(nth l j).name≠t.name))/\rng t.count 0 10=true)/\(rng t.src 0 (n.places.length-1)=true/\rng t.dst 0 (n.places.length-1)=true))/\Uk t.cap (dimsOf l)=true)/\rng t.skills 0 1073741823=true)/\(rng t.opn 0 t.cls=true/\t.cls<=4096))/\(rng t.drive 1 4096=true/\rng t.rest 0 4096=true)) 8 m) ?_ ?_
        ·refine X8 ?_;refine (W5 t.drive 1 4096).use (X8 ?_);refine A6 ?_ ?_<;>intro h0
         ·simp only [YH] at h0;exact ⟨m++ [16],hm.yes (by simp [h0]) trivial,Weak.mk (by simp (disch:=omega) only [ZU,X2,go_sem,seval])⟩
         ·simp only [XC] at h0;refine (W5 t.rest 0 4096).use (X8 ?_);refine ZB ?_ ?_<;>intro h1
          ·simp only [YH] at h1;exact ⟨m++ [16],hm.yes (by simp [h1]) trivial,Weak.mk (by simp (disch:=omega) only [ZU,X2,go_sem,seval])⟩
          ·simp only [XC] at h1;exact ⟨m,hm.no (by simp [h0,h1]),Weak.mk (by simp (disch:=omega) only [ZU,X2,go_sem,seval])⟩
        ·clear hm hml;intro m hm;refine Zf [19] _ _ _ _ (ZfT ?_);have hml:=hm.len;refine ZD [] (fun m:List Int=> [(8,.sl 2 0 m.length m.length)]) (fun m=>ZU n++ [X2 t,.elems 1 (m.map eI)]) (fun m=>FR (fun _=>True) (((((((((nameOk t.name=true)/\(∀j,j<i->(nth l j).name≠t.name))/\rng t.count 0 10=true)/\(rng t.src 0 (n.places.length-1)=true/\rng t.dst 0 (n.places.length-1)=true))/\Uk t.cap (dimsOf l)=true)/\rng t.skills 0 1073741823=true)/\(rng t.opn 0 t.cls=true/\t.cls<=4096))/\(rng t.drive 1 4096=true/\rng t.rest 0 4096=true))/\(rng t.prof 0 7=true/\rng t.fixed 0 100000=true/\rng t.perMile 0 100=true/\rng t.perTick 0 100=true)) 9 m) ?_ ?_
         ·refine X8 ?_;refine (W5 t.prof 0 7).use (X8 ?_);refine gF ?_ ?_<;>intro h0<;>simp (disch:=omega) only [Sh.out h0,go_sem,seval,↓reduceIte]
          ·simp only [YH] at h0;exact ⟨m++ [2],hm.yes (by simp [h0]) trivial,Weak.mk (by simp (disch:=omega) only [ZU,X2,go_sem,seval])⟩
          ·simp only [XC] at h0;refine (W5 t.fixed 0 100000).use (X8 ?_);refine gF ?_ ?_<;>intro h1<;>simp (disch:=omega) only [Sh.out h1,go_sem,seval,↓reduceIte]
           ·simp only [YH] at h1;exact ⟨m++ [2],hm.yes (by simp [h1]) trivial,Weak.mk (by simp (disch:=omega) only [ZU,X2,go_sem,seval])⟩
           ·simp only [XC] at h1;refine (W5 t.perMile 0 100).use (X8 ?_);refine gF ?_ ?_<;>intro h2<;>simp (disch:=omega) only [Sh.out h2,go_sem,seval,↓reduceIte]
            ·simp only [YH] at h2;exact ⟨m++ [2],hm.yes (by simp [h2]) trivial,Weak.mk (by simp (disch:=omega) only [ZU,X2,go_sem,seval])⟩
            ·simp only [XC] at h2;refine (W5 t.perTick 0 100).use (X8 ?_);refine cD ?_ ?_<;>intro h3<;>simp (disch:=omega) only [Sh.out h3,go_sem,seval,↓reduceIte]
             ·simp only [YH] at h3;exact ⟨m++ [2],hm.yes (by simp [h3]) trivial,Weak.mk (by simp (disch:=omega) only [ZU,X2,go_sem,seval])⟩
             ·simp only [XC] at h3;exact ⟨m,hm.no (by grind),Weak.mk (by simp (disch:=omega) only [ZU,X2,go_sem,seval])⟩
         ·clear hm hml;intro m hm;refine Zf [] _ _ _ _ (ZfT ?_);have hml:=hm.len;exact ⟨m,hm.to Za (by rw [hty]),2,by simp (disch:=omega) only [go_sem,seval]⟩
def typesOk (n:Net) (l:List Typ):Prop:=rng l.length 1 6=true/\ ∀i,i<l.length->Az n l i
theorem wC (n:Net) (l:List Typ) (c:Bool) (hw:n.wf 1048576) (hl:l.length<=1048576) (hlw: ∀t∈l,t.wf 1048576) :
  ACalls Tryz.prog 127 [.p (Al n),.p (.list c (l.map Y5))] [] fun x H'=> ∃m:List Flt,FR (pF 20) (typesOk n l) (1+9*l.length) m/\x= .sl 0 0 m.length m.length/\H'= [.elems 2 (m.map eF)]:=by
 refine Z2 [2] Tryz.func127 rfl xP ?_;simp (disch:=omega) only [Tryz.f127,go_sem,seval];refine Zp (Weak.ofNil 5 2 (by simp (disch:=omega) only [go_sem,seval]) Zb (Weak.refl _ _ _)) ?_;refine ZD [1,2] (fun m:List Flt=> [(5,.sl 1 0 m.length m.length)]) (fun m=>ZU n++ [.elems 2 (m.map eF)]) (fun m=>FR (pF 20) (rng l.length 1 6=true) 1 m) ?_ ?_
 ·refine X8 ?_;refine (W5 l.length 1 6).use (X8 ?_);refine ZB ?_ ?_<;>intro h
  ·simp only [YH] at h;exact ⟨[(4,[])],⟨Zb,by simp [h],by simp [pF]⟩,Weak.mk (by simp (disch:=omega) only [ZU,go_sem,seval])⟩
  ·simp only [XC] at h;exact ⟨[],FR.nil h,Weak.mk (by simp (disch:=omega) only [ZU,go_sem,seval])⟩
 ·intro m hm;refine Zf [] _ _ _ _ (MG ?_);refine Zi [1,2] (fun q:Nat×List Flt=> [(5,.sl 1 0 q.2.length q.2.length),(6,.p (.int .i64 q.1))]) (fun q=>ZU n++ [.elems 2 (q.2.map eF)]) (fun q=>q.1<=l.length/\FR (pF 20) (rng l.length 1 6=true/\ ∀j,j<q.1->Az n l j) (1+9*q.1) q.2) (fun q=>l.length-q.1) (0,m) ⟨Zb,hm.to Zb Zb⟩ (Weak.mk ?_) ?_
  ·simp (disch:=omega) only [ZU,go_sem,seval]
  ·clear hm;rintro ⟨k,m⟩ ⟨hk,hm⟩;simp only at hk hm;have hml:=hm.len;refine MG ?_;refine cD ?_ ?_<;>intro h<;>simp (disch:=omega) only [Sh.out h,go_sem,seval,↓reduceIte]
   ·have hk2:k<l.length:=Za
    have hI:V0 (k:Int):=Za
    have hdl:=Qy k hI;refine ((S6 n l c k hk2 hl hw (hlw _ (Zn hk2))).frozenE).useV fun e he=>X8 ?_;have hel:=he.len;refine Zi [1,2,6,7] (fun q:Nat×List Flt=> [(5,.sl 1 0 q.2.length q.2.length),(8,.p (.int .i64 q.1))]) (fun q=>ZU n++ [.elems 2 (q.2.map eF)]) (fun q=>q.1<=e.length/\FR (pF 20) ((rng l.length 1 6=true/\ ∀j,j<k->Az n l j)/\q.1=0) (1+9*k+q.1) q.2) (fun q=>e.length-q.1) (0,m) ⟨Zb,hm.to Zb Zb⟩ (Weak.mk ?_) ?_
    ·simp (disch:=omega) only [ZU,go_sem,seval]
    ·clear hm hml;rintro ⟨j,m⟩ ⟨hj,hm⟩;simp only at hj hm;have hml:=hm.len;refine MG ?_;refine ZB ?_ ?_<;>intro h2
     ·have hj2:j<e.length:=Za
      refine Z3 9 mixed Zd Zd (X8 ?_);refine Zq (KK k hI) (X8 ?_);exact ⟨(j+1,m++ [(nth e j,Ak k)]),⟨Za,(hm.yes (c:=False) Zb (by grind [pF])).to Za Zb⟩,Za,wk⟩
     ·have hjl:j=e.length:=Za
      subst hjl;exact ⟨(k+1,m),⟨Za,hm.to Za (by simp only [Zm,and_assoc];rw [<- he.emp,List.eq_nil_iff_length_eq_zero])⟩,Za,wk⟩
   ·have hkn:k=l.length:=Za
    subst hkn;exact ⟨m,hm.to Za (by rw [typesOk]),1,by simp (disch:=omega) only [go_sem,seval]⟩
theorem Cp (n lo hi:Int):PC 232 [.p (.int .i64 n),.p (.int .i64 lo),.p (.int .i64 hi)] (.bool (rng n lo hi)):=by
 refine Zc Tryz.func232 rfl Zak ?_;simp (disch:=omega) only [Tryz.f232,go_sem,seval];refine gT ?_ ?_<;>intro h<;>simp (disch:=omega) only [Sh.out h,go_sem,seval,↓reduceIte]
 all_goals (simp [rng];first | done | omega | (rw [Up];simp;omega))
def loadOk (l:List Int) (d:Int):Bool:=decide ((l.length:Int)=d)&&l.all fun n=>rng n 0 1000
theorem ST (l:List Int) (c:Bool) (d:Int) (hl:l.length<=1048576):PC 231 [.p (.list c (l.map eI)),.p (.int .i64 d)] (.bool (loadOk l d)):=by
 refine Zc Tryz.func231 rfl Zaj ?_;simp (disch:=omega) only [Tryz.f231,go_sem,seval];refine cD ?_ ?_<;>intro h2<;>simp (disch:=omega) only [Sh.out h2,go_sem,seval]
 ·simp [loadOk,h2]
 ·simp only [Xl] at h2;subst h2;refine Zi [0] (fun k:Nat=> [(5,.p (.int .i64 k))]) (fun _=> []) (fun k=>k<=l.length/\ ∀j,j<k->rng (nth l j) 0 1000=true) (fun k=>l.length-k) 0 Zb (Weak.mk ?_) ?_
  ·simp (disch:=omega) only [go_sem,seval,↓reduceIte]
  ·rintro k ⟨hk,hno⟩;refine X8 ?_;refine cD ?_ ?_<;>intro h3<;>simp (disch:=omega) only [Sh.out h3,go_sem,seval,↓reduceIte]
   ·have hk2:k<l.length:=Za
    have hbad:rng (nth l k) 0 1000=false->loadOk l l.length=false:=fun h4=>by
     grind [Zn,loadOk]
    repeat' (first | (refine VH (fun hq=> ?_) (fun hq=> ?_)<;>(try simp only [Zr,Yd,Xl] at hq)<;>simp (disch:=omega) only [Sh.out hq,go_sem,seval]) | (refine gF ?_ ?_<;>intro hq<;>simp (disch:=omega) only [Sh.out hq,go_sem,seval,↓reduceIte]) | (refine cD ?_ ?_<;>intro hq<;>simp (disch:=omega) only [Sh.out hq,go_sem,seval,↓reduceIte]))
    all_goals first
     | (rw [hbad (by simp [rng];omega)])
     | exact ⟨k+1,⟨Za,Zm.2 ⟨hno,by simp [rng];omega⟩⟩,Za,wk⟩
   ·have:l.all (fun n=>rng n 0 1000)=true:=by
     rw [Zw];intro x hx;obtain ⟨j,hj,rfl⟩:=Z4.1 hx
     grind [Zj]
    simp [loadOk,this]
def stpOk (s:Stp):Bool:=decide ((s.place= -1/\s.opn=0/\s.cls=0/\s.serv=0)\/(0<=s.place/\0<=s.opn/\s.opn<=s.cls/\s.cls<=4096/\0<=s.serv/\s.serv<=4096))
def Ti (s:Stp):Int:=if stpOk s=true then 0 else 2
theorem aZ (s:Stp):PC 233 [.p (HF s)] (.int .i64 (Ti s)):=by
 refine Zc Tryz.func233 rfl Zal ?_;simp (disch:=omega) only [Tryz.f233,go_sem,seval]
 repeat' (first | (refine gT ?_ ?_<;>intro hq<;>simp (disch:=omega) only [Sh.out hq,go_sem,seval,↓reduceIte]) | (refine gF ?_ ?_<;>intro hq<;>simp (disch:=omega) only [Sh.out hq,go_sem,seval,↓reduceIte]) | (refine cD ?_ ?_<;>intro hq<;>simp (disch:=omega) only [Sh.out hq,go_sem,seval,↓reduceIte]))
 all_goals (simp only [Ti,stpOk,Zr])
 all_goals first
  | (exfalso;omega)
  | (rw [if_pos Za])
  | (rw [if_neg Za])
def Uv (l:List Ord) (i:Nat):Bool:=(List.range i).all fun j=>decide ((nth l j).name≠(nth l i).name)
theorem Ka {l:List Ord} {i:Nat} :Uv l i=true↔ ∀j,j<i->(nth l j).name≠(nth l i).name:=by simp [Uv]
def WY (b:Bool) (e:Int):List Int:=if b=true then [] else [e]
theorem V9 (b:Bool) (e:Int):(WY b e).length<=1:=by grind [WY]
theorem UZ {b:Bool} {e:Int} {m p:List Int} (h:m=p) (hb:b=true):m=p++WY b e:=by simp [WY,hb,h]
theorem VZ {b:Bool} {e:Int} {m p:List Int} (h:m=p) (hb:b=false):m++ [e]=p++WY b e:=by simp [WY,hb,h]
def Yq (t:Ord):AM.Obj:= .cells [.p (.str t.name),.p (.list t.load_c (t.load.map eI)),.p (.int .i64 t.pick.place),.p (.int .i64 t.pick.opn),.p (.int .i64 t.pick.cls),.p (.int .i64 t.pick.serv),.p (.int .i64 t.drp.place),.p (.int .i64 t.drp.opn),.p (.int .i64 t.drp.cls),.p (.int .i64 t.drp.serv),.p (.int .i64 t.skills),.p (.int .i64 t.penalty),.p (.int .i64 t.split),.p (.int .i64 t.last),.p (.int .i64 t.now),.p (.bool t.off)]
def Hu (t:Ord):Bool:=decide (t.pick.place≠ -1)&&decide (t.drp.place≠ -1)
def argOk (t:Ord) (ty:Int):Bool:=rng t.penalty (-1) 1000000&&rng t.split 1 4&&decide (¬(1<t.split/\Hu t=true)/\ -1<=t.last/\t.last<ty/\ -1<=t.now/\t.now<ty)
def YW (np:Nat) (d ty:Int) (l:List Ord) (i:Nat):List Int:=WY (nameOk (nth l i).name) 5++WY (Uv l i) 6++WY (loadOk (nth l i).load d) 17++WY ((rng (nth l i).pick.place (-1) ((np:Int)-1)&&rng (nth l i).drp.place (-1) ((np:Int)-1))) 11++WY (decide (¬((nth l i).pick.place= -1/\(nth l i).drp.place= -1))) 19++WY ((stpOk (nth l i).pick&&stpOk (nth l i).drp)) 14++WY (rng (nth l i).skills 0 1073741823) 18++WY (argOk (nth l i) ty) 2
theorem BB (np:Nat) (d ty:Int) (l:List Ord) (i:Nat):(YW np d ty l i).length<=8:=by
 grind [V9,YW,ZQ]
theorem MH {P Q:Prop} (h:Q) (e:Q->P:=by intro h;simp (disch:=omega) only [Yq,go_sem,seval];exact h):P:=e h
theorem S7 (np:Nat) (d ty:Int) (l:List Ord) (c:Bool) (i:Nat) (hi:i<l.length) (hl:l.length<=1048576) (hnp:np<=1048576) (ht:(nth l i).wf 1048576) :
  ACalls Tryz.prog 175 [.p (.int .i64 (np:Nat)),.p (.int .i64 d),.p (.int .i64 ty),.p (.list c (l.map eOrd)),.p (.int .i64 (i:Nat))] [] fun x H'=>x= .sl 0 0 (YW np d ty l i).length (YW np d ty l i).length/\H'= [.elems 1 ((YW np d ty l i).map eI)]:=by
 suffices hh:ACalls Tryz.prog 175 [.p (.int .i64 (np:Nat)),.p (.int .i64 d),.p (.int .i64 ty),.p (.list c (l.map eOrd)),.p (.int .i64 (i:Nat))] [] fun x H'=> ∃m:List Int,m=YW np d ty l i/\x= .sl 0 0 m.length m.length/\H'= [.elems 1 (m.map eI)] by
  grind
 refine Z2 [3] Tryz.func175 rfl yZ ?_;simp (disch:=omega) only [Tryz.f175,go_sem,seval];have hty:YW np d ty l i=WY (nameOk (nth l i).name) 5++WY (Uv l i) 6++WY (loadOk (nth l i).load d) 17++WY ((rng (nth l i).pick.place (-1) ((np:Int)-1)&&rng (nth l i).drp.place (-1) ((np:Int)-1))) 11++WY (decide (¬((nth l i).pick.place= -1/\(nth l i).drp.place= -1))) 19++WY ((stpOk (nth l i).pick&&stpOk (nth l i).drp)) 14++WY (rng (nth l i).skills 0 1073741823) 18++WY (argOk (nth l i) ty) 2:=rfl
 have hleng: ∀m:List Int,∀p:List Int,m=p->p.length<=8->m.length<=8:=fun m p h1 h2=>by grind
 generalize hga:nth l i=t at ht hty ⊢;have hname:=ht.1;have hload:=ht.2.1;refine Zp (Weak.ofNil 11 1 (by simp (disch:=omega) only [go_sem,seval]) Zb (Weak.refl _ _ _)) ?_;refine ZD [0,1,2,3,4,12] (fun m:List Int=> [(11,.sl 1 0 m.length m.length)]) (fun m=> [Yq t,.elems 1 (m.map eI)]) (fun m=>m=WY (nameOk t.name) 5) ?_ ?_
 ·refine X8 ?_;refine (NR t.name hname).use (X8 ?_);refine cD ?_ ?_<;>intro h<;>simp (disch:=omega) only [Sh.out h,go_sem,seval,↓reduceIte]
  ·simp only [YH] at h;exact ⟨[5],by simp [WY,h],Weak.mk (by simp (disch:=omega) only [Yq,go_sem,seval])⟩
  ·simp only [XC] at h;exact ⟨[],by simp [WY,h],Weak.mk (by simp (disch:=omega) only [Yq,go_sem,seval])⟩
 ·skip
  intro m hm;refine Zf [5] _ _ _ _ (MH ?_)
  have hml:m.length<=8:=by
   grind [V9]
  refine ZD [0,1,2,12] (fun m:List Int=> [(11,.sl 1 0 m.length m.length)]) (fun m=> [Yq t,.elems 1 (m.map eI)]) (fun m=>m=WY (nameOk t.name) 5++WY (Uv l i) 6) ?_ ?_
  ·refine X8 ?_;refine Zi [0,1,2,3,4,11,12] (fun k:Nat=> [(13,.p (.int .i64 k))]) (fun _=> [Yq t,.elems 1 (m.map eI)]) (fun k=>k<=i/\ ∀j,j<k->(nth l j).name≠(nth l i).name) (fun k=>i-k) 0 Zb (Weak.mk ?_) ?_
   ·simp (disch:=omega) only [Yq,go_sem,seval,↓reduceIte]
   ·rintro k ⟨hk,hno⟩;refine MH ?_;refine cD ?_ ?_<;>intro h3<;>simp (disch:=omega) only [Sh.out h3,go_sem,seval,↓reduceIte]
    ·have hk2:k<l.length:=Za
     refine Z6 (X8 ?_);refine ZB ?_ ?_<;>intro h4
     ·exact ⟨m++ [6],VZ hm (by grind [Ka]),wk⟩
     ·exact ⟨k+1,⟨Za,Zm.2 ⟨hno,by grind⟩⟩,Za,wk⟩
    ·have hki:k=i:=Za
     subst hki;exact ⟨m,UZ hm (Ka.2 hno),wk⟩
  ·clear hm hml;intro m hm;refine Zf [10] _ _ _ _ (MH ?_)
   have hml:m.length<=8:=by
    grind [V9]
   refine ZD [0,2,12] (fun m:List Int=> [(11,.sl 1 0 m.length m.length)]) (fun m=> [Yq t,.elems 1 (m.map eI)]) (fun m=>m=WY (nameOk t.name) 5++WY (Uv l i) 6++WY (loadOk t.load d) 17) ?_ ?_
   ·refine X8 ?_;refine (ST t.load t.load_c d hload).use (X8 ?_);refine cD ?_ ?_<;>intro h<;>simp (disch:=omega) only [Sh.out h,go_sem,seval,↓reduceIte]
    ·simp only [YH] at h;exact ⟨m++ [17],VZ hm (h),Weak.mk (by simp (disch:=omega) only [Yq,go_sem,seval])⟩
    ·simp only [XC] at h;exact ⟨m,UZ hm (h),Weak.mk (by simp (disch:=omega) only [Yq,go_sem,seval])⟩
   ·clear hm hml;intro m hm;refine Zf [12] _ _ _ _ (MH ?_)
    have hml:m.length<=8:=by
     grind [ZQ,V9]
    refine ZD [2,12] (fun m:List Int=> [(11,.sl 1 0 m.length m.length)]) (fun m=> [Yq t,.elems 1 (m.map eI)]) (fun m=>m=WY (nameOk t.name) 5++WY (Uv l i) 6++WY (loadOk t.load d) 17++WY ((rng t.pick.place (-1) ((np:Int)-1)&&rng t.drp.place (-1) ((np:Int)-1))) 11) ?_ ?_
    ·refine X8 ?_;refine (Cp t.pick.place (-1) ((np:Int)-1)).use (X8 ?_);refine A6 ?_ ?_<;>intro h
     ·simp only [YH] at h;exact ⟨m++ [11],VZ hm (by simp [h]),Weak.mk (by simp (disch:=omega) only [Yq,go_sem,seval])⟩
     ·simp only [XC] at h;refine (Cp t.drp.place (-1) ((np:Int)-1)).use (X8 ?_);refine ZB ?_ ?_<;>intro h2
      ·simp only [YH] at h2;exact ⟨m++ [11],VZ hm (by simp [h2]),Weak.mk (by simp (disch:=omega) only [Yq,go_sem,seval])⟩
      ·simp only [XC] at h2;exact ⟨m,UZ hm (by simp [h,h2]),Weak.mk (by simp (disch:=omega) only [Yq,go_sem,seval])⟩
    ·clear hm hml;intro m hm;refine Zf [14] _ _ _ _ (MH ?_)
     have hml:m.length<=8:=by
      grind [ZQ,V9]
     refine ZD [2,12] (fun m:List Int=> [(11,.sl 1 0 m.length m.length)]) (fun m=> [Yq t,.elems 1 (m.map eI)]) (fun m=>m=WY (nameOk t.name) 5++WY (Uv l i) 6++WY (loadOk t.load d) 17++WY ((rng t.pick.place (-1) ((np:Int)-1)&&rng t.drp.place (-1) ((np:Int)-1))) 11++WY (decide (¬(t.pick.place= -1/\t.drp.place= -1))) 19) ?_ ?_
     ·refine X8 ?_
      repeat' (first | (refine gT ?_ ?_<;>intro hq<;>simp (disch:=omega) only [Sh.out hq,go_sem,seval]) | (refine Uf (fun hq=> ?_) (fun hq=> ?_)<;>(try simp only [Zr,Yd,Xl] at hq)<;>simp (disch:=omega) only [Sh.out hq,go_sem,seval]) | (refine cD ?_ ?_<;>intro hq<;>simp (disch:=omega) only [Sh.out hq,go_sem,seval]))
      all_goals first
       | exact ⟨m++ [19],VZ hm (by first | (simp;done) | (simp;omega)),Weak.mk (by simp (disch:=omega) only [Yq,go_sem,seval])⟩
       | exact ⟨m,UZ hm (by first | (simp;done) | (simp;omega)),Weak.mk (by simp (disch:=omega) only [Yq,go_sem,seval])⟩
     ·clear hm hml;intro m hm;refine Zf [16] _ _ _ _ (MH ?_)
      have hml:m.length<=8:=by
       grind [ZQ,V9]
      refine ZD [2,12] (fun m:List Int=> [(11,.sl 1 0 m.length m.length)]) (fun m=> [Yq t,.elems 1 (m.map eI)]) (fun m=>m=WY (nameOk t.name) 5++WY (Uv l i) 6++WY (loadOk t.load d) 17++WY ((rng t.pick.place (-1) ((np:Int)-1)&&rng t.drp.place (-1) ((np:Int)-1))) 11++WY (decide (¬(t.pick.place= -1/\t.drp.place= -1))) 19++WY ((stpOk t.pick&&stpOk t.drp)) 14) ?_ ?_
      ·refine X8 ?_;refine (aZ t.pick).use (X8 ?_)
       cases h:stpOk t.pick with
       | false =>
        simp (disch:=omega) only [Ti,h,go_sem,seval];exact ⟨m++ [14],VZ hm (by simp []),Weak.mk (by simp (disch:=omega) only [Yq,go_sem,seval])⟩
       | true =>
        simp (disch:=omega) only [Ti,h,go_sem,seval];refine (aZ t.drp).use (X8 ?_)
        cases h2:stpOk t.drp with
        | false =>
         simp (disch:=omega) only [Ti,h2,go_sem,seval];exact ⟨m++ [14],VZ hm (by simp []),Weak.mk (by simp (disch:=omega) only [Yq,go_sem,seval])⟩
        | true =>
         simp (disch:=omega) only [Ti,h2,go_sem,seval];exact ⟨m,UZ hm (by simp []),Weak.mk (by simp (disch:=omega) only [Yq,go_sem,seval])⟩
      ·clear hm hml;intro m hm;refine Zf [18] _ _ _ _ (MH ?_)
       have hml:m.length<=8:=by
        grind [ZQ,V9]
       refine ZD [2,12] (fun m:List Int=> [(11,.sl 1 0 m.length m.length)]) (fun m=> [Yq t,.elems 1 (m.map eI)]) (fun m=>m=WY (nameOk t.name) 5++WY (Uv l i) 6++WY (loadOk t.load d) 17++WY ((rng t.pick.place (-1) ((np:Int)-1)&&rng t.drp.place (-1) ((np:Int)-1))) 11++WY (decide (¬(t.pick.place= -1/\t.drp.place= -1))) 19++WY ((stpOk t.pick&&stpOk t.drp)) 14++WY (rng t.skills 0 1073741823) 18) ?_ ?_
       ·refine X8 ?_;refine (Cp t.skills 0 1073741823).use (X8 ?_);refine ZB ?_ ?_<;>intro h
        ·simp only [YH] at h;exact ⟨m++ [18],VZ hm (h),Weak.mk (by simp (disch:=omega) only [Yq,go_sem,seval])⟩
        ·simp only [XC] at h;exact ⟨m,UZ hm (h),Weak.mk (by simp (disch:=omega) only [Yq,go_sem,seval])⟩
       ·clear hm hml;intro m hm;refine Zf [20] _ _ _ _ (MH ?_)
        have hml:m.length<=8:=by
         grind [ZQ,V9]
        refine ZD [2,11,12] (fun b:Bool=> [(14,.p (.bool b))]) (fun _=> [Yq t,.elems 1 (m.map eI)]) (fun b=>b=Hu t) ?_ ?_
        ·refine X8 ?_
         repeat' (first | (refine VH (fun hq=> ?_) (fun hq=> ?_)<;>(try simp only [Zr,Yd,Xl] at hq)<;>simp (disch:=omega) only [Sh.out hq,go_sem,seval]) | (refine Uf (fun hq=> ?_) (fun hq=> ?_)<;>(try simp only [Zr,Yd,Xl] at hq)<;>simp (disch:=omega) only [Sh.out hq,go_sem,seval]) | (refine Q1 (fun hq=> ?_) (fun hq=> ?_)<;>(try simp only [Zr,Yd,Xl] at hq)<;>simp (disch:=omega) only [Sh.out hq,go_sem,seval]))
         all_goals refine ⟨Hu t,rfl,Weak.mk ?_⟩
         all_goals (simp (disch:=omega) only [Yq,go_sem,seval];simp [Hu, *])
        ·rintro b hb;refine Zf [21] _ _ _ _ (MH ?_);refine ZD [] (fun m:List Int=> [(11,.sl 1 0 m.length m.length)]) (fun m=> [Yq t,.elems 1 (m.map eI)]) (fun m=>m=WY (nameOk t.name) 5++WY (Uv l i) 6++WY (loadOk t.load d) 17++WY ((rng t.pick.place (-1) ((np:Int)-1)&&rng t.drp.place (-1) ((np:Int)-1))) 11++WY (decide (¬(t.pick.place= -1/\t.drp.place= -1))) 19++WY ((stpOk t.pick&&stpOk t.drp)) 14++WY (rng t.skills 0 1073741823) 18++WY (argOk t ty) 2) ?_ ?_
         ·refine X8 ?_;refine (Cp t.penalty (-1) 1000000).use (X8 ?_);refine gF ?_ ?_<;>intro h<;>simp (disch:=omega) only [Sh.out h,go_sem,seval,↓reduceIte]
          ·simp only [YH] at h;exact ⟨m++ [2],VZ hm (by simp [argOk,h]),Weak.mk (by simp (disch:=omega) only [Yq,go_sem,seval])⟩
          ·simp only [XC] at h;refine (Cp t.split 1 4).use (X8 ?_);refine gF ?_ ?_<;>intro h2<;>simp (disch:=omega) only [Sh.out h2,go_sem,seval,↓reduceIte]
           ·simp only [YH] at h2;exact ⟨m++ [2],VZ hm (by simp [argOk,h2]),Weak.mk (by simp (disch:=omega) only [Yq,go_sem,seval])⟩
           ·simp only [XC] at h2
            cases b with
            | true =>
             repeat' (first | (refine gT ?_ ?_<;>intro hq<;>simp (disch:=omega) only [Sh.out hq,go_sem,seval,↓reduceIte]) | (refine gF ?_ ?_<;>intro hq<;>simp (disch:=omega) only [Sh.out hq,go_sem,seval,↓reduceIte]) | (refine cD ?_ ?_<;>intro hq<;>simp (disch:=omega) only [Sh.out hq,go_sem,seval,↓reduceIte]))
             all_goals first
              | exact ⟨m++ [2],VZ hm (by rw [argOk,<- hb];first | (simp;done) | (simp;omega)),Weak.mk (by simp (disch:=omega) only [Yq,go_sem,seval])⟩
              | exact ⟨m,UZ hm (by grind [argOk]),Weak.mk (by simp (disch:=omega) only [Yq,go_sem,seval])⟩
            | false =>
             repeat' (first | (refine gT ?_ ?_<;>intro hq<;>simp (disch:=omega) only [Sh.out hq,go_sem,seval,↓reduceIte]) | (refine gF ?_ ?_<;>intro hq<;>simp (disch:=omega) only [Sh.out hq,go_sem,seval,↓reduceIte]) | (refine cD ?_ ?_<;>intro hq<;>simp (disch:=omega) only [Sh.out hq,go_sem,seval,↓reduceIte]))
             all_goals first
              | exact ⟨m++ [2],VZ hm (by rw [argOk,<- hb];first | (simp;done) | (simp;omega)),Weak.mk (by simp (disch:=omega) only [Yq,go_sem,seval])⟩
              | exact ⟨m,UZ hm (by rw [argOk,<- hb,h,h2];first | (simp;done) | (simp;omega)),Weak.mk (by simp (disch:=omega) only [Yq,go_sem,seval])⟩
         ·clear hm hml;intro m hm;refine Zf [] _ _ _ _ (MH ?_)
          have hml:m.length<=8:=by
           grind [ZQ,V9]
          exact ⟨m,by rw [hm,hty],1,by simp (disch:=omega) only [go_sem,seval]⟩
def XS (np:Nat) (d ty:Int) (l:List Ord) (k:Nat):List Flt:=(if l.length<=10 then [] else [(4,[])])++(List.range k).flatMap fun i=>(YW np d ty l i).map fun e=>(e,Ak i)
theorem BC (np:Nat) (d ty:Int) (l:List Ord) (k:Nat):XS np d ty l (k+1)=XS np d ty l k++(YW np d ty l k).map fun e=>(e,Ak k):=by
 simp [XS,VT]
theorem UX (np:Nat) (d ty:Int) (l:List Ord): ∀k,(XS np d ty l k).length<=1+8*k
 | 0=>by simp [XS];grind
 | k+1=>by
  have h1:=UX np d ty l k;have h2:=BB np d ty l k;rw [BC];simp;omega
theorem wD (n:Net) (d ty:Int) (l:List Ord) (c:Bool) (hw:n.wf 1048576) (hl:l.length<=1048576) (hlw: ∀t∈l,t.wf 1048576) :
  ACalls Tryz.prog 128 [.p (Al n),.p (.int .i64 d),.p (.int .i64 ty),.p (.list c (l.map eOrd))] [] fun x H'=>x= .sl 0 0 (XS n.places.length d ty l l.length).length (XS n.places.length d ty l l.length).length/\H'= [.elems 2 ((XS n.places.length d ty l l.length).map eF)]:=by
 obtain ⟨w1,w2,w3,w4⟩:=hw
 suffices hh:ACalls Tryz.prog 128 [.p (Al n),.p (.int .i64 d),.p (.int .i64 ty),.p (.list c (l.map eOrd))] [] fun x H'=> ∃m:List Flt,m=XS n.places.length d ty l l.length/\x= .sl 0 0 m.length m.length/\H'= [.elems 2 (m.map eF)] by
  grind
 refine Z2 [2] Tryz.func128 rfl xQ ?_;simp (disch:=omega) only [Tryz.f128,go_sem,seval];refine Zp (Weak.ofNil 9 2 (by simp (disch:=omega) only [go_sem,seval]) Zb (Weak.refl _ _ _)) ?_;refine ZD [1,2,3,4] (fun m:List Flt=> [(9,.sl 1 0 m.length m.length)]) (fun m=>ZU n++ [.elems 2 (m.map eF)]) (fun m=>m=XS n.places.length d ty l 0) ?_ ?_
 ·refine X8 ?_;refine ZB ?_ ?_<;>intro h
  ·exact ⟨[(4,[])],by rw [XS,if_neg Za];rfl,Weak.mk (by simp (disch:=omega) only [ZU,go_sem,seval])⟩
  ·exact ⟨[],by rw [XS,if_pos Za];rfl,Weak.mk (by simp (disch:=omega) only [ZU,go_sem,seval])⟩
 ·intro m hm;refine Zf [] _ _ _ _ (MG ?_);refine Zi [1,2,3,4] (fun q:Nat×List Flt=> [(9,.sl 1 0 q.2.length q.2.length),(10,.p (.int .i64 q.1))]) (fun q=>ZU n++ [.elems 2 (q.2.map eF)]) (fun q=>q.1<=l.length/\q.2=XS n.places.length d ty l q.1) (fun q=>l.length-q.1) (0,m) ⟨Zb,hm⟩ (Weak.mk ?_) ?_
  ·simp (disch:=omega) only [ZU,go_sem,seval]
  ·clear hm;rintro ⟨k,m⟩ ⟨hk,hm⟩;simp only at hk hm;have hml:=UX n.places.length d ty l k;rw [<- hm] at hml;refine MG ?_;refine cD ?_ ?_<;>intro h<;>simp (disch:=omega) only [Sh.out h,go_sem,seval,↓reduceIte]
   ·have hk2:k<l.length:=Za
    have hI:V0 (k:Int):=Za
    have hrl:=BB n.places.length d ty l k;refine ((S7 n.places.length d ty l c k hk2 hl w1 (hlw _ (Zn hk2))).frozen Zb).use (X8 ?_);generalize hre:YW n.places.length d ty l k=e at hrl ⊢;refine Zi [1,2,3,4,10,11] (fun q:Nat×List Flt=> [(9,.sl 1 0 q.2.length q.2.length),(12,.p (.int .i64 q.1))]) (fun q=>ZU n++ [.elems 2 (q.2.map eF)]) (fun q=>q.1<=e.length/\q.2=XS n.places.length d ty l k++(e.take q.1).map fun e=>(e,Ak k)) (fun q=>e.length-q.1) (0,m) ⟨Zb,by simp [hm]⟩ (Weak.mk ?_) ?_
    ·simp (disch:=omega) only [ZU,go_sem,seval]
    ·clear hm hml;rintro ⟨j,m⟩ ⟨hj,hm⟩;simp only at hj hm;have hml:=UX n.places.length d ty l k
     have hml2:m.length<=1+8*k+8:=by grind
     refine MG ?_;refine ZB ?_ ?_<;>intro h2
     ·have hj2:j<e.length:=Za
      refine Z3 9 mixed Zd Zd (X8 ?_);refine Zq (KK k hI) (X8 ?_);refine ⟨(j+1,m++ [(nth e j,Ak k)]),⟨Za,?_⟩,Za,wk⟩
      grind [Zx,Zj]
     ·have hjl:j=e.length:=Za
      subst hjl;refine ⟨(k+1,m),⟨Za,?_⟩,Za,wk⟩
      grind [BC]
   ·have hkn:k=l.length:=Za
    subst hkn;exact ⟨m,hm,1,by simp (disch:=omega) only [go_sem,seval]⟩
structure OrdOk (np:Nat) (d ty:Int) (l:List Ord) (i:Nat):Prop where
 name:nameOk (nth l i).name=true
 twin: ∀j,j<i->(nth l j).name≠(nth l i).name
 load:loadOk (nth l i).load d=true
 pick: -1<=(nth l i).pick.place/\(nth l i).pick.place<np
 drp: -1<=(nth l i).drp.place/\(nth l i).drp.place<np
 one: ¬((nth l i).pick.place= -1/\(nth l i).drp.place= -1)
 pstp:stpOk (nth l i).pick=true
 dstp:stpOk (nth l i).drp=true
 skills:0<=(nth l i).skills/\(nth l i).skills<=1073741823
 arg:argOk (nth l i) ty=true
theorem pR {b:Bool} {e:Int} :WY b e= []↔b=true:=by grind [WY]
theorem H9 {np:Nat} {d ty:Int} {l:List Ord} {i:Nat} :YW np d ty l i= []↔OrdOk np d ty l i:=by
 simp only [YW,Qd,pR,ZG,Zr,rng,Ka]
 constructor
 ·rintro ⟨⟨⟨⟨⟨⟨⟨a1,a2⟩,a3⟩,a4⟩,a5⟩,a6⟩,a7⟩,a8⟩;exact ⟨a1,a2,a3,Za,Za,a5,a6.1,a6.2,a7,a8⟩
 ·intro h;obtain ⟨b1,b2⟩:=h.pick;obtain ⟨b3,b4⟩:=h.drp;exact ⟨⟨⟨⟨⟨⟨⟨h.name,h.twin⟩,h.load⟩,Za,Za⟩,h.one⟩,h.pstp,h.dstp⟩,h.skills⟩,h.arg⟩
def ordersOk (np:Nat) (d ty:Int) (l:List Ord):Prop:=l.length<=10/\ ∀i,i<l.length->OrdOk np d ty l i
theorem L5 {np:Nat} {d ty:Int} {l:List Ord} :XS np d ty l l.length= []↔ordersOk np d ty l:=by
 simp_all [XS,H9,ordersOk]
theorem NX {np:Nat} {d ty:Int} {l:List Ord} (hl:l.length<=1048576): ∀f∈XS np d ty l l.length,pF 20 f:=by
 intro f hf;simp only [XS,Xd,Uq,Xc,Ww] at hf;rcases hf with hf | ⟨i,hi,e,he,rfl⟩
 ·grind [pF]
 ·exact Qy i Za
theorem Od (n:Int) (h0:0<=n) (hn:n<=4611686018427387904):PC 234 [.p (.int .i64 n)] (.str (dec n.toNat)):=by
 refine Zc Tryz.func234 rfl Zam ?_;simp (disch:=omega) only [Tryz.f234,go_sem,seval];refine Zi [] (fun q:Int×List UInt8=> [(0,.p (.int .i64 q.1)),(3,.p (.str q.2))]) (fun _=> []) (fun q=>0<=q.1/\q.1<=n/\dec q.1.toNat++q.2=dec n.toNat) (fun q=>q.1.toNat) (n,[]) (by simp [h0]) (Weak.mk ?_) ?_
 ·simp (disch:=omega) only [go_sem,seval]
 ·rintro ⟨m,s⟩ ⟨hm,hmn,hs⟩;simp only at hm hmn hs;have hl:=O4 _ n.toNat (Nat.lt_succ_self _)
  have hl2:(dec m.toNat).length+s.length=(dec n.toNat).length:=by grind
  simp (disch:=first | omega | (simp only [Zs,ZH,ZQ,Xp,ZA,Xg]<;>omega)) only [go_sem,seval];refine cD ?_ ?_<;>intro h<;>simp (disch:=omega) only [Sh.out h,go_sem,seval,↓reduceIte]
  ·simp (disch:=first | omega | (simp only [Zs,ZH,ZQ,Xp,ZA,Xg]<;>omega)) only [go_sem,seval]
   have h2: ¬m.toNat<10:=Za
   have e1:(48+m%10).toNat=48+m.toNat%10:=Za
   have e2:(m / 10).toNat=m.toNat / 10:=Za
   refine ⟨(m / 10,UInt8.ofNat (48+m%10).toNat::s),⟨Za,Za,?_⟩,Za,Weak.mk ?_⟩
   ·simp only [e1,e2];rw [<- hs,dec.eq_def m.toNat,dif_neg h2];simp
   ·simp (disch:=omega) only [go_sem,seval]
  ·simp (disch:=first | omega | (simp only [Zs,ZH,ZQ,Xp,ZA,Xg]<;>omega)) only [go_sem,seval]
   have h2:m.toNat<10:=Za
   have e1:(48+m).toNat=48+m.toNat:=Za
   rw [<- hs,dec.eq_def m.toNat,dif_pos h2,e1]
   rfl
def oK (n:Int) (p:Int×Int):Bool:=decide (0<=p.1/\p.1<n)&&decide (0<=p.2/\p.2<n)&&decide (¬p.1=p.2)
def atW (word:List UInt8) (i:Nat):List UInt8:=word++ [32]++dec i
def TA (n:Int) (word:List UInt8) (sm:Int×Int->Int×Int->Bool) (l:List (Int×Int)) (i:Nat):List (Int×List UInt8) :=
 if oK n (nth l i)=false then [(2,atW word i)] else if (l.take i).any (sm (nth l i)) then [(6,atW word i)] else []
def MV (word:List UInt8) (l:List (Int×Int)):List (Int×List UInt8):=if 16<l.length then [(4,word)] else []
def JL (n:Int) (word:List UInt8) (sm:Int×Int->Int×Int->Bool) (l:List (Int×Int)) (k:Nat):List (Int×List UInt8):=MV word l++(List.range k).flatMap (TA n word sm l)
theorem Ge (n word sm l k):JL n word sm l (k+1)=JL n word sm l k++TA n word sm l k:=by grind [JL,VT]
theorem Gf (n word sm l):JL n word sm l 0=MV word l:=by simp [JL]
theorem nM (n word sm l i):(TA n word sm l i).length<=1:=by grind [TA]
theorem Bg (n word sm l): ∀k,(JL n word sm l k).length<=k+1:=by
 intro k
 induction k with
 | zero=>grind [Gf,MV]
 | succ k ih=>grind [Ge,nM]
def chk (n:Int) (ap be:List (Int×Int)):List (Int×List UInt8) :=
 JL n [97,112,97,114,116] (fun p q=>decide (p=q\/(p.1=q.2/\p.2=q.1))) ap ap.length++JL n [98,101,102,111,114,101] (fun p q=>decide (p=q)) be be.length
def DK (turned:Bool) (p q:Int×Int):Bool:=decide (q.1=p.1/\q.2=p.2)||(turned&&decide (q.1=p.2/\q.2=p.1))
theorem iV : DK true=fun p q=>decide (p=q\/(p.1=q.2/\p.2=q.1)):=by
 funext p q
 simp only [DK,Wz,ZbS]
 grind
theorem Td : DK false=fun p q=>decide (p=q):=by
 funext p q
 simp only [DK,Vs,Bool.or_false]
 grind
def tw (turned:Bool) (l:List (Int×Int)) (p:Int×Int) (j:Nat):Bool:=(l.take j).any (DK turned p)
theorem qJ (turned l p):tw turned l p 0=false:=by simp [tw]
theorem qI (turned:Bool) (l:List (Int×Int)) (p:Int×Int) (j:Nat) (h:j<l.length):tw turned l p (j+1)=(tw turned l p j||DK turned p (nth l j)):=by
 rw [tw,tw,Zx h,List.any_append,Zj h];simp
theorem Ls (n:Int) (word:List UInt8) (l:List (Int×Int)) (c:Bool) (turned:Bool) (hw:word.length<=1000) (hl:l.length<=1048576) :
  ACalls Tryz.prog 176 [.p (.int .i64 n),.p (.list c (l.map eP)),.p (.str word),.p (.bool turned)] [] fun x H'=>x= .sl 0 0 (JL n word (DK turned) l l.length).length (JL n word (DK turned) l l.length).length/\H'= [.elems 2 ((JL n word (DK turned) l l.length).map eF)]:=by
 refine Fp [2] (fn:=Tryz.f176) Zb Tryz.func176 rfl zA ?_;simp (disch:=omega) only [Tryz.f176,go_sem,seval];refine Zp (Weak.ofNil 9 2 (by simp (disch:=omega) only [go_sem,seval]) Zb (Weak.refl _ _ _)) (X8 ?_);refine ZD [0,1,2,3] (fun _:Unit=> [(9,.sl 0 0 (MV word l).length (MV word l).length)]) (fun _=> [.elems 2 ((MV word l).map eF)]) (fun _=>True) ?_ ?_
 ·refine X8 ?_;refine cD ?_ ?_<;>intro h<;>simp (disch:=omega) only [Sh.out h,go_sem,seval,↓reduceIte]
  ·refine ⟨(),Weak.mk ?_⟩
   have h2:16<l.length:=Za
   simp (disch:=omega) only [MV,h2,go_sem,seval,↓reduceIte]
  ·refine ⟨(),Weak.mk ?_⟩
   have h2: ¬ 16<l.length:=Za
   simp (disch:=omega) only [MV,h2,go_sem,seval,↓reduceIte]
 ·intro _ _;refine Zf [] _ _ _ _ (X8 ?_);refine Zi [0,1,2,3] (fun k:Nat=> [(9,.sl 0 0 (JL n word (DK turned) l k).length (JL n word (DK turned) l k).length),(10,.p (.int .i64 k))]) (fun k=> [.elems 2 ((JL n word (DK turned) l k).map eF)]) (fun k=>k<=l.length) (fun k=>l.length-k) 0 Zb (Weak.mk ?_) ?_
  ·simp (disch:=omega) only [Gf,go_sem,seval,↓reduceIte]
  ·intro k hk;have hfl:=Bg n word (DK turned) l k;have hdl:=O4 _ k (Nat.lt_succ_self _);refine X8 ?_;refine cD ?_ ?_<;>intro h<;>simp (disch:=omega) only [Sh.out h,go_sem,seval,↓reduceIte]
   ·have hk2:k<l.length:=Za
    simp (disch:=first | omega | (simp only [Zs,ZH,ZQ,Xp,ZA,Xg]<;>omega)) only [go_sem,seval];refine (Od (k:Int) Za Za).use ?_;simp (disch:=first | omega | (simp only [Zs,ZH,ZQ,Xp,ZA,Xg]<;>omega)) only [go_sem,seval];have hs:=Ge n word (DK turned) l k
    have hbad:oK n (nth l k)=false->TA n word (DK turned) l k= [(2,word++ [32]++dec k)]:=fun e=>by simp [TA,e,atW]
    repeat' (first | (refine VH (fun hq=> ?_) (fun hq=> ?_)<;>(try simp only [Zr,Yd,Xl] at hq)<;>simp (disch:=omega) only [Sh.out hq,go_sem,seval]) | (refine gF ?_ ?_<;>intro hq<;>simp (disch:=omega) only [Sh.out hq,go_sem,seval,↓reduceIte]) | (refine cD ?_ ?_<;>intro hq<;>simp (disch:=omega) only [Sh.out hq,go_sem,seval,↓reduceIte]))
    all_goals try (
     have e:=hbad (by simp [oK];omega)
     exact ⟨k+1,Za,Za,Weak.mk (by simp (disch:=omega) only [hs,e,go_sem,seval])⟩)
    have hok:oK n (nth l k)=true:=by simp [oK];omega
    refine Zi [0,1,2,3,9,10,11,12,13] (fun j:Nat=> [(14,.p (.bool (tw turned l (nth l k) j))),(15,.p (.int .i64 j))]) (fun _=> [.elems 2 ((JL n word (DK turned) l k).map eF)]) (fun j=>j<=k) (fun j=>k-j) 0 Zb (Weak.mk ?_) ?_
    ·simp (disch:=omega) only [qJ,go_sem,seval,↓reduceIte]
    ·intro j hj;refine X8 ?_;refine cD ?_ ?_<;>intro h4<;>simp (disch:=omega) only [Sh.out h4,go_sem,seval,↓reduceIte]
     ·have hts:=qI turned l (nth l k) j Za;generalize tw turned l (nth l k) j=q at hts ⊢
      repeat' (first | (refine gT ?_ ?_<;>intro hq<;>simp (disch:=omega) only [Sh.out hq,go_sem,seval,↓reduceIte]) | (refine gF ?_ ?_<;>intro hq<;>simp (disch:=omega) only [Sh.out hq,go_sem,seval,↓reduceIte]) | (refine Q1 (fun hq=> ?_) (fun hq=> ?_)<;>(try simp only [Zr,Yd,Xl] at hq)<;>simp (disch:=omega) only [Sh.out hq,go_sem,seval]))
      all_goals refine ⟨j+1,Za,Za,Weak.mk ?_⟩
      all_goals clear hs hbad hfl hdl
      all_goals simp (disch:=omega) only [hts,go_sem,seval]
      all_goals simp [DK, *]
      all_goals first | omega | (simp [DK, *] at hts;exact hts)
     ·have hjk:j=k:=Za
      subst hjk;refine cD ?_ ?_<;>intro h5<;>simp (disch:=omega) only [Sh.out h5,go_sem,seval,↓reduceIte]
      ·have e:TA n word (DK turned) l j= [(6,word++ [32]++dec j)]:=by
        have h6:(l.take j).any (DK turned (nth l j))=true:=h5
        grind [TA,atW]
       exact ⟨j+1,Za,Za,Weak.mk (by simp (disch:=omega) only [hs,e,go_sem,seval])⟩
      ·have e:TA n word (DK turned) l j= []:=by
        have h6:(l.take j).any (DK turned (nth l j))=false:=h5
        simp_all [TA]
       exact ⟨j+1,Za,Za,Weak.mk (by simp (disch:=omega) only [hs,e,go_sem,seval])⟩
   ·have:k=l.length:=Za
    subst this;exact ⟨0,by simp (disch:=omega) only [go_sem,seval]⟩
theorem hJ (n:Int) (ap be:List (Int×Int)) (c c':Bool) (hl:ap.length<=1048576) (hl2:be.length<=1048576) :
  ACalls Tryz.prog 130 [.p (.int .i64 n),.p (.list c (ap.map eP)),.p (.list c' (be.map eP))] [] fun x H'=>x= .sl 0 0 (chk n ap be).length (chk n ap be).length/\H'= [.elems 2 ((chk n ap be).map eF)]:=by
 refine AU (fn:=Tryz.f130) Zb Tryz.func130 rfl xS ?_;simp (disch:=omega) only [Tryz.f130,go_sem,seval];have h1:=Bg n [97,112,97,114,116] (DK true) ap ap.length;have h2:=Bg n [98,101,102,111,114,101] (DK false) be be.length;refine (Ls n _ ap c true (by decide) hl).useF (X8 ?_);refine (Ls n _ be c' false (by decide) hl2).useF (X8 ?_);refine ⟨0,?_⟩;rw [chk,<- iV,<- Td];simp (disch:=omega) only [go_sem,seval]
@[go_sem] theorem Zda {H:List AM.Obj} {β:Type} {S b o n:Nat} {xs:List PV} {g:β->PV} {m:List β} (hb:(n+m.length)*b<=140737488355328) (hb2:n+m.length<=140737488355328) :
  UE H (some (S,b)) (.elems S xs) o n (some (m.map g))=if xs.length=n/\AS S (m.map g)=true then some (.sl o 0 (n+m.length) (n+m.length),EI H o (.elems S (xs++m.map g))) else none:=by
 simp_all [T4]
def und (word:List UInt8) (f:Flt):Flt:=(f.1,if f.2= [] then word else word++ [32]++f.2)
theorem Ah (word:List UInt8) (l:List Flt) (c:Bool) (hword:word.length<=100) (hl:l.length<=4194306000000) (hp: ∀f∈l,pF 100 f) :
  ACalls Tryz.prog 125 [.p (.str word),.p (.list c (l.map eF))] [] fun x H'=>x= .sl 0 0 (l.map (und word)).length (l.map (und word)).length/\H'= [.elems 2 ((l.map (und word)).map eF)]:=by
 suffices hh:ACalls Tryz.prog 125 [.p (.str word),.p (.list c (l.map eF))] [] fun x H'=> ∃m:List Flt,m=l.map (und word)/\x= .sl 0 0 m.length m.length/\H'= [.elems 2 (m.map eF)] by
  grind
 refine Z2 [2] Tryz.func125 rfl xN ?_;simp (disch:=omega) only [Tryz.f125,go_sem,seval];refine Zp (Weak.ofNil 5 2 (by simp (disch:=omega) only [go_sem,seval]) Zb (Weak.refl _ _ _)) ?_;refine Zf [] _ _ _ _ (X8 ?_);refine Zi [0,1] (fun q:Nat×List Flt=> [(5,.sl 0 0 q.2.length q.2.length),(6,.p (.int .i64 q.1))]) (fun q=> [.elems 2 (q.2.map eF)]) (fun q=>q.1<=l.length/\q.2=(l.take q.1).map (und word)) (fun q=>l.length-q.1) (0,[]) ⟨Zb,Zb⟩ (Weak.mk ?_) ?_
 ·simp (disch:=omega) only [go_sem,seval,↓reduceIte]
 ·rintro ⟨k,m⟩ ⟨hk,hm⟩;simp only at hk hm
  have hml:m.length<=k:=by grind
  refine X8 ?_;refine cD ?_ ?_<;>intro h<;>simp (disch:=omega) only [Sh.out h,go_sem,seval,↓reduceIte]
  ·have hk2:k<l.length:=Za
   have hpk:=hp _ (Zn hk2);unfold pF at hpk
   have hnext: ∀f,f=und word (nth l k)->m++ [f]=(l.take (k+1)).map (und word):=fun f hf=>by
    grind [Zx,Zj]
   refine cD ?_ ?_<;>intro h2<;>simp (disch:=omega) only [Sh.out h2,go_sem,seval,↓reduceIte]
   ·have h3: ¬(nth l k).2= []:=Za
    simp (disch:=first | omega | (simp only [Zs,ZH,ZQ,Xp,ZA,Xg]<;>omega)) only [go_sem,seval,↓reduceIte];refine ⟨(k+1,m++ [((nth l k).1,word++ [32]++(nth l k).2)]),⟨Za,hnext _ (by simp [und,h3])⟩,Za,Weak.mk (by simp (disch:=first | omega | (simp only [Zs,ZH,ZQ,Xp,ZA,Xg]<;>omega)) only [go_sem,seval])⟩
   ·have h3:(nth l k).2= []:=by grind
    refine ⟨(k+1,m++ [((nth l k).1,word)]),⟨Za,hnext _ (by simp [und,h3])⟩,Za,Weak.mk (by simp (disch:=first | omega | (simp only [Zs,ZH,ZQ,Xp,ZA,Xg]<;>omega)) only [go_sem,seval])⟩
  ·have hkn:k=l.length:=Za
   subst hkn;exact ⟨m,by grind,0,by simp (disch:=omega) only [go_sem,seval]⟩
theorem wA {n:Int} {ap be:List (Int×Int)} (ha:ap.length<=1048576) (hb:be.length<=1048576): ∀f∈chk n ap be,pF 100 f:=by
 have key: ∀(word:List UInt8) (sm:Int×Int->Int×Int->Bool) (l:List (Int×Int)),word.length<=6->l.length<=1048576-> ∀f∈JL n word sm l l.length,pF 100 f:=fun word sm l hw hl f hf=>by
  simp only [JL,Xd,Uq,Xc] at hf;rcases hf with hf | ⟨i,hi,hf⟩
  ·grind [MV,pF]
  ·have hd:=AF 6 i Za
   grind [pF,atW,TA]
 intro f hf;rcases Xd.1 hf with hf | hf
 ·grind
 grind
theorem mG {n:Int} {ap be:List (Int×Int)} :(chk n ap be).length<=ap.length+be.length+2:=by
 grind [Bg,chk]
structure InstOk (x:Inst):Prop where
 net:netOk x.net
 types:typesOk x.net x.types
 orders:ordersOk x.net.places.length (dimsOf x.types) x.types.length x.orders
 rules:chk x.orders.length x.apart x.before= []
theorem FR.und {p:Flt->Prop} {C:Prop} {b:Nat} {l:List Flt} (h:FR p C b l) (word:List UInt8):FR (fun _=>True) C b (l.map (und word)) :=
 ⟨by simpa using h.len,by rw [List.map_eq_nil_iff];exact h.emp,fun _ _=>trivial⟩
theorem wE (x:Inst) (hw:x.wf 1048576):ACalls Tryz.prog 78 [.p (Zv x)] [] fun y H'=> ∃m:List Flt,FR (fun _=>True) (InstOk x) 4194400000000 m/\y= .sl 0 0 m.length m.length/\H'= [.elems 2 (m.map eF)]:=by
 obtain ⟨w1,w2,w3,w4,w5,w6,w7,w8,w9⟩:=hw;refine Z2 [] Tryz.func78 rfl ZhU ?_;simp (disch:=omega) only [Tryz.f78,go_sem,seval];have ol:=UX x.net.places.length (dimsOf x.types) x.types.length x.orders x.orders.length;have oat:=NX (np:=x.net.places.length) (d:=dimsOf x.types) (ty:=x.types.length) w4;have onil:=L5 (np:=x.net.places.length) (d:=dimsOf x.types) (ty:=x.types.length) (l:=x.orders);have cl:=mG (n:=x.orders.length) (ap:=x.apart) (be:=x.before);have cat:=wA (n:=x.orders.length) w6 w8;refine ((wB x.net w1).frozenE).useV fun m1 h1=> ?_
 refine X8 ?_;have h1p:=h1.pmono (q:=pF 100) fun f hf=>hf.mono Za;have u1:=Ah [110,101,116] m1 false Zb h1.len h1p.all;have f1:=h1.und [110,101,116];generalize m1.map (und [110,101,116])=q1 at u1 f1;have f1l:=f1.len;refine (u1).useF (X8 ?_);refine ((wC x.net x.types x.types_c w1 w2 w3).frozenE).useV fun m2 h2=>X8 ?_;have h2p:=h2.pmono (q:=pF 100) fun f hf=>hf.mono Za;have h2l:=h2.len;have u2:=(Ah [116,121,112,101,115] m2 false Zb Za h2p.all).frozen Zb;have f2:=h2.und [116,121,112,101,115]
 generalize m2.map (und [116,121,112,101,115])=q2 at u2 f2;have f2l:=f2.len;refine (u2).use (X8 ?_);have u3:=(Ah [111,114,100,101,114,115] (XS x.net.places.length (dimsOf x.types) x.types.length x.orders x.orders.length) false Zb Za fun f hf=>(oat f hf).mono Za).frozen Zb;have f3:=(show FR (fun _=>True) (ordersOk x.net.places.length (dimsOf x.types) x.types.length x.orders) (1+8*x.orders.length) (XS x.net.places.length (dimsOf x.types) x.types.length x.orders x.orders.length) from ⟨ol,onil,fun _ _=>trivial⟩).und [111,114,100,101,114,115]
 generalize (XS x.net.places.length (dimsOf x.types) x.types.length x.orders x.orders.length).map (und [111,114,100,101,114,115])=q3 at u3 f3;have f3l:=f3.len;refine Z3 13 mixed Zd Zd (X8 ?_);refine Zq (Ll x.types x.types_c w2) (X8 ?_);refine Zq ((wD x.net (dimsOf x.types) x.types.length x.orders x.orders_c w1 w4 w5).frozen Zb) (X8 ?_);refine Zq (u3) (X8 ?_);have u4:=(Ah [114,117,108,101,115] (chk x.orders.length x.apart x.before) false Zb Za cat).frozen Zb
 have f4:=(show FR (fun _=>True) (chk x.orders.length x.apart x.before= []) (x.apart.length+x.before.length+2) (chk x.orders.length x.apart x.before) from ⟨cl,Iff.rfl,fun _ _=>trivial⟩).und [114,117,108,101,115];generalize (chk x.orders.length x.apart x.before).map (und [114,117,108,101,115])=q4 at u4 f4;have f4l:=f4.len;refine ((hJ x.orders.length x.apart x.before x.apart_c x.before_c w6 w8).frozen Zb).use (X8 ?_);refine (u4).use (X8 ?_);refine ⟨q1++q2++q3++q4,((f1.app f2).app f3 |>.app f4).to Za ⟨fun ⟨⟨⟨a,b⟩,c⟩,d⟩=>⟨a,b,c,d⟩,fun h=>⟨⟨⟨h.net,h.types⟩,h.orders⟩,h.rules⟩⟩,1,?_⟩
 simp (disch:=omega) only [go_sem,seval]
def Zg (x:Inst):AM.Obj:= .cells [.p (.list x.net.places_c (x.net.places.map eS)),.p (.list x.net.arcs_c (x.net.arcs.map Wj)),.p (.list x.types_c (x.types.map Y5)),.p (.list x.orders_c (x.orders.map eOrd)),.p (.list x.apart_c (x.apart.map eP)),.p (.list x.before_c (x.before.map eP))]
def zSco : Sco:=⟨0,0,0,0⟩
theorem ON (a:Int):IntKind.i64.wrap ((BitVec.ofInt 64 a&&&BitVec.ofInt 64 1).toNat:Int)=a%2:=by
 grind [BitVec.toNat_ofInt,IntWalk.i64_in]
def sHas (s i:Int):Bool:=decide (0<=i)&&decide (i<=62)&&decide (s.fdiv (2^i.toNat)%2=1)
theorem dE (s i:Int):PC 95 [.p (.int .i64 s),.p (.int .i64 i)] (.bool (sHas s i)):=by
 refine Zc Tryz.func95 rfl Zh5 ?_;simp (disch:=omega) only [Tryz.f95,go_sem,seval];refine gT ?_ ?_<;>intro h<;>simp (disch:=omega) only [Sh.out h,go_sem,seval,↓reduceIte]
 ·refine gT ?_ ?_<;>intro h1<;>simp (disch:=omega) only [Sh.out h1,go_sem,seval,↓reduceIte]
  ·have:min i.toNat 64=i.toNat:=Za
   rw [this]
   erw [ON]
   simp [sHas,h,h1]
  grind [sHas]
 ·simp [sHas,h]
def XO (s:Int) (k:Nat):List Int:=((List.range k).filter fun (i:Nat)=>sHas s (i:Int)).map fun (i:Nat)=>(i:Int)
theorem Sc (s:Int):XO s 0= []:=by simp [XO]
theorem eJ {s:Int} {k:Nat} (h:sHas s (k:Int)=true):XO s (k+1)=XO s k++ [(k:Int)]:=by grind [XO,VT]
theorem nZ {s:Int} {k:Nat} (h:sHas s (k:Int)=false):XO s (k+1)=XO s k:=by grind [XO,VT]
theorem Ex (s:Int) (k:Nat):(XO s k).length<=k:=by
 grind [XO]
theorem Gz (s:Int):ACalls Tryz.prog 60 [.p (.int .i64 s)] [] fun x H'=>x= .sl 0 0 (XO s 63).length (XO s 63).length/\H'= [.elems 1 ((XO s 63).map eI)]:=by
 refine AU (fn:=Tryz.f60) Zb Tryz.func60 rfl ZhK ?_;simp (disch:=omega) only [Tryz.f60,go_sem,seval];refine Zi [0] (fun k:Nat=> [(3,.sl 0 0 (XO s k).length (XO s k).length),(5,.p (.int .i64 k))]) (fun k=> [.elems 1 ((XO s k).map eI)]) (fun k=>k<=63) (fun k=>63-k) 0 Zb (Weak.ofNil 3 1 (by simp (disch:=omega) only [go_sem,seval]) Zb (Weak.mk ?_)) ?_
 ·simp (disch:=omega) only [Sc,go_sem,seval,↓reduceIte]
 ·intro k hk;have hl:=Ex s k;refine X8 ?_;refine cD ?_ ?_<;>intro h<;>simp (disch:=omega) only [Sh.out h,go_sem,seval,↓reduceIte]
  ·refine (dE s k).use (X8 ?_);refine cD ?_ ?_<;>intro h2<;>simp (disch:=omega) only [Sh.out h2,go_sem,seval,↓reduceIte]
   ·refine ⟨k+1,Za,Za,Weak.mk ?_⟩;simp (disch:=omega) only [eJ h2,go_sem,seval]
   ·exact ⟨k+1,Za,Za,Weak.mk (by simp (disch:=omega) only [nZ h2,go_sem,seval])⟩
  ·have:k=63:=Za
   subst this;exact ⟨0,by simp (disch:=omega) only [go_sem,seval]⟩
def hv (s k:Nat):Nat:=s / pw k
theorem Pi (s:Nat):hv s 0=s:=by simp [hv,pw]
theorem Ph (s k:Nat):hv s (k+1)=hv s k / 2:=by grind [hv,BL,Nat.div_div_eq_div_mul]
theorem sY (s k:Nat):hv s k<=s:=Nat.div_le_self _ _
theorem NH (s k:Nat):s.testBit k=decide (hv s k%2=1):=by
 rw [Et]
 rfl
theorem QQ (s i:Nat) (hi:i<=62):sHas (s:Int) (i:Int)=s.testBit i:=by
 rw [NH,hv]
 have h1:(0:Int)<=i:=Za
 have h2:(i:Int)<=62:=Za
 simp only [sHas,h1,h2,W8,Wz,XU]
 have e:((s:Int)).fdiv (2^i)=((s / pw i:Nat):Int):=by
  grind [pw]
 grind
theorem KG {α:Type} [Inhabited α] {l:List α} {f:α->Bool} {k:Nat} (h:k<l.length) (hf:f (nth l k)=true):l.any f=true:=by
 grind [Zj]
theorem DX {α:Type} [Inhabited α] {l:List α} {f:α->Bool} (h: ∀j,j<l.length->f (nth l j)=false):l.any f=false:=by
 rw [VU];intro x hx;obtain ⟨j,hj,rfl⟩:=Z4.1 hx
 grind [Zj]
theorem CO {p:Nat->Prop} {k:Nat} (h: ∀j,j<k->p j) (hk:p k): ∀j,j<k+1->p j:=fun j hj=>by
 grind
deriving instance DecidableEq for Vis
theorem AR {v w:Vis} :v=w↔v.order=w.order/\v.drp=w.drp:=by cases v;cases w;simp
def Gb (f:Vis->Bool) (l:List Vis):Int:=match l.findIdx? f with | some i=>(i:Int) | none=> -1
def vIx (l:List Vis) (v:Vis):Int:=Gb (fun w=>decide (v=w)) l
theorem HJ {f:Vis->Bool} {l:List Vis} {k:Nat} (hk:k<l.length) (h:f (nth l k)=true) (hno: ∀j,j<k->f (nth l j)=false):Gb f l=(k:Int):=by
 have:l.findIdx? f=some k:=by
  grind [Z5,Zj]
 simp [Gb,this]
theorem Nz {f:Vis->Bool} {l:List Vis} (hno: ∀j,j<l.length->f (nth l j)=false):Gb f l= -1:=by
 have:l.findIdx? f=none:=by
  rw [List.findIdx?_eq_none_iff];intro x hx;obtain ⟨j,hj,rfl⟩:=Z4.1 hx
  grind [Zj]
 simp [Gb,this]
theorem Ny {f:Vis->Bool} {l:List Vis} :decide (0<=Gb f l)=l.any f:=by
 grind [Gb]
theorem bW {f:Vis->Bool} {l:List Vis} :Gb f l<l.length/\ -1<=Gb f l:=by
 grind [Gb,Z5]
theorem Pk (l:List Vis) (c:Bool) (v:Vis) (hl:l.length<=1048576):PC 308 [.p (.list c (l.map ZS)),.p (ZS v)] (.int .i64 (vIx l v)):=by
 refine Zc Tryz.func308 rfl Zbd ?_;simp (disch:=omega) only [Tryz.f308,go_sem,seval];refine Zi [0,3,7] (fun k:Nat=> [(8,.p (.int .i64 k))]) (fun _=> [.cells [.p (.int .i64 v.order),.p (.bool v.drp)]]) (fun k=>k<=l.length/\ ∀j,j<k->decide (v=nth l j)=false) (fun k=>l.length-k) 0 Zb (Weak.mk ?_) ?_
 ·simp (disch:=omega) only [go_sem,seval,↓reduceIte]
 ·rintro k ⟨hk,hno⟩;refine X8 ?_;refine cD ?_ ?_<;>intro h<;>simp (disch:=omega) only [Sh.out h,go_sem,seval,↓reduceIte]
  ·have hk2:k<l.length:=Za
   refine Z6 (X8 ?_);refine cD ?_ ?_<;>intro h2<;>simp (disch:=omega) only [Sh.out h2,go_sem,seval,↓reduceIte]
   ·grind [AR,vIx,HJ]
   ·have: ¬v=nth l k:=by grind
    exact ⟨k+1,⟨Za,Zm.2 ⟨hno,by grind⟩⟩,Za,wk⟩
  grind [vIx,Nz]
theorem BG (l:List Vis) (c:Bool) (v:Vis) (hl:l.length<=1048576):PC 286 [.p (.list c (l.map ZS)),.p (ZS v)] (.int .i64 (vIx l v)):=by
 refine Zc Tryz.func286 rfl ZaT ?_;simp (disch:=omega) only [Tryz.f286,go_sem,seval];refine (Pk l c v hl).use ?_;simp (disch:=omega) only [go_sem,seval]
theorem HB (l:List Vis) (c:Bool) (v:Vis) (hl:l.length<=1048576):PC 287 [.p (.list c (l.map ZS)),.p (ZS v)] (.bool (decide (0<=vIx l v))):=by
 refine Zc Tryz.func287 rfl ZaU ?_;simp (disch:=omega) only [Tryz.f287,go_sem,seval];refine (Pk l c v hl).use ?_;simp (disch:=omega) only [go_sem,seval]
theorem qF (l:List Ord) (c:Bool) (n:Int) (hl:l.length<=1048576):PC 236 [.p (.list c (l.map eOrd)),.p (.int .i64 n)] (.bool (decide (0<=n/\n<l.length))):=by
 refine Zc Tryz.func236 rfl dN ?_;simp (disch:=omega) only [Tryz.f236,go_sem,seval];refine gT ?_ ?_<;>intro h<;>simp (disch:=omega) only [Sh.out h,go_sem,seval,↓reduceIte]
 all_goals (try simp [h])
def ZZ (l:List Ord) (i:Nat):List Vis:=(if 0<=(nth l i).pick.place then [⟨i,false⟩] else [])++(if 0<=(nth l i).drp.place then [⟨i,true⟩] else [])
theorem VQ (l:List Ord) (i:Nat):(ZZ l i).length<=2:=by grind [ZZ]
theorem YQ {l:List Ord} {i:Nat} {v:Vis} (h:v∈ZZ l i):v.order=i:=by
 grind [ZZ]
theorem Ox (l:List Ord) (c:Bool) (i:Nat) (hi:i<l.length) (hl:l.length<=1048576):ACalls Tryz.prog 178 [.p (.list c (l.map eOrd)),.p (.int .i64 (i:Nat))] [] fun x H'=>x= .sl 0 0 (ZZ l i).length (ZZ l i).length/\H'= [.elems 2 ((ZZ l i).map ZS)]:=by
 suffices hh:ACalls Tryz.prog 178 [.p (.list c (l.map eOrd)),.p (.int .i64 (i:Nat))] [] fun x H'=> ∃m:List Vis,m=ZZ l i/\x= .sl 0 0 m.length m.length/\H'= [.elems 2 (m.map ZS)] by
  grind
 refine Z2 [2] Tryz.func178 rfl zB ?_;simp (disch:=omega) only [Tryz.f178,go_sem,seval];refine Zp (Weak.ofNil 5 2 (by simp (disch:=omega) only [go_sem,seval]) Zb (Weak.refl _ _ _)) ?_;refine Zf [4] _ _ _ _ (X8 ?_);refine (qF l c i hl).use (X8 ?_)
 have h0:(0:Int)<=(i:Int)/\(i:Int)<(l.length:Int):=Za
 simp (disch:=omega) only [h0,go_sem,seval];refine ZD [0,1] (fun m:List Vis=> [(5,.sl 0 0 m.length m.length)]) (fun m=> [.elems 2 (m.map ZS)]) (fun m=>m=(if 0<=(nth l i).pick.place then [⟨i,false⟩] else [])) ?_ ?_
 ·refine X8 ?_;refine cD ?_ ?_<;>intro h<;>simp (disch:=omega) only [Sh.out h,go_sem,seval,↓reduceIte]
  ·exact ⟨[⟨i,false⟩],by simp [],wk⟩
  ·exact ⟨[],by simp [],wk⟩
 ·intro m hm
  have hml:m.length<=1:=by grind
  refine Zf [] _ _ _ _ (X8 ?_);refine cD ?_ ?_<;>intro h<;>simp (disch:=omega) only [Sh.out h,go_sem,seval,↓reduceIte]
  ·exact ⟨m++ [⟨i,true⟩],by simp_all [ZZ],0,by simp (disch:=omega) only [go_sem,seval]⟩
  ·exact ⟨m,by simp_all [ZZ],0,by simp (disch:=omega) only [go_sem,seval]⟩
theorem visits_c (l:List Ord) (c:Bool) (i:Nat) (hi:i<l.length) (hl:l.length<=1048576):PC 178 [.p (.list c (l.map eOrd)),.p (.int .i64 (i:Nat))] (.list false ((ZZ l i).map ZS)) :=
 (Ox l c i hi hl).frozen Zb
def Kv (l:List Vis):Bool:=(List.range l.length).any fun i=>decide (0<=vIx (l.take i) (nth l i))
theorem qK (l:List Vis) (c:Bool) (hl:l.length<=1048576):PC 260 [.p (.list c (l.map ZS))] (.bool (Kv l)):=by
 refine Zc Tryz.func260 rfl Zaz ?_;simp (disch:=omega) only [Tryz.f260,go_sem,seval];refine Zi [0,5,6] (fun k:Nat=> [(7,.p (.int .i64 k))]) (fun _=> []) (fun k=>k<=l.length/\ ∀j,j<k->decide (0<=vIx (l.take j) (nth l j))=false) (fun k=>l.length-k) 0 Zb (Weak.mk ?_) ?_
 ·simp (disch:=omega) only [go_sem,seval,↓reduceIte]
 ·rintro k ⟨hk,hno⟩;refine X8 ?_;refine cD ?_ ?_<;>intro h<;>simp (disch:=omega) only [Sh.out h,go_sem,seval,↓reduceIte]
  ·have hk2:k<l.length:=Za
   refine Z6 (X8 ?_);refine Zq (BG (l.take k) _ (nth l k) (by simp;omega)) (X8 ?_);refine cD ?_ ?_<;>intro h2<;>simp (disch:=omega) only [Sh.out h2,go_sem,seval,↓reduceIte]
   ·grind [Kv]
   ·exact ⟨k+1,⟨Za,Zm.2 ⟨hno,by grind⟩⟩,Za,wk⟩
  grind [Kv]
theorem CY (l:List Vis) (c:Bool) (g:FuncId) (caps:List V) (H:List AM.Obj) (f:Vis->Bool) (hl:l.length<=1048576) (hW:IF H H.length H H) (hc:Xf H.length caps=true)
  (hg: ∀v∈l,ACalls Tryz.prog g (.p (ZS v)::caps) H fun x H'=>x= .p (.bool (f v))/\H'=H) :
  ACalls Tryz.prog 225 [.p (.list c (l.map ZS)),.fn (.func g) [] caps] H fun x H'=>x= .p (.int .i64 (Gb f l))/\H'=H:=by
 refine Ya Tryz.func225 rfl Zad (Zf [] _ _ _ _ ?_);simp (disch:=omega) only [Tryz.f225,go_sem,seval];refine Zi [0,1,7] (fun k:Nat=> [(8,.p (.int .i64 k))]) (fun _=>H) (fun k=>k<=l.length/\ ∀j,j<k->f (nth l j)=false) (fun k=>l.length-k) 0 Zb (Weak.mk ?_) ?_
 ·simp (disch:=omega) only [hW,hc,go_sem,seval];simp
 ·rintro k ⟨hk,hno⟩;refine X8 ?_;refine cD ?_ ?_<;>intro h<;>simp (disch:=omega) only [Sh.out h,go_sem,seval,↓reduceIte]
  ·have hk2:k<l.length:=Za
   refine (hg (nth l k) (Zn hk2)).useH (X8 ?_);refine cD ?_ ?_<;>intro h2<;>simp (disch:=omega) only [Sh.out h2,go_sem,seval,↓reduceIte]
   ·grind [HJ]
   ·have h3:f (nth l k)=false:=Za
    refine ⟨k+1,⟨Za,Zm.2 ⟨hno,h3⟩⟩,Za,Weak.mk ?_⟩;simp (disch:=omega) only [hW,hc,go_sem,seval];simp
  grind [Nz]
theorem Ul (l:List Vis) (c:Bool) (g:FuncId) (caps:List V) (H:List AM.Obj) (f:Vis->Bool) (hl:l.length<=1048576) (hW:IF H H.length H H) (hc:Xf H.length caps=true)
  (hg: ∀v∈l,ACalls Tryz.prog g (.p (ZS v)::caps) H fun x H'=>x= .p (.bool (f v))/\H'=H) :
  ACalls Tryz.prog 167 [.p (.list c (l.map ZS)),.fn (.func g) [] caps] H fun x H'=>x= .p (.bool (l.any f))/\H'=H:=by
 refine Ya Tryz.func167 rfl yT (Zf [] _ _ _ _ ?_);simp (disch:=omega) only [Tryz.f167,go_sem,seval];refine (CY l c g caps H f hl hW hc hg).useH (X8 ?_);rw [Ny]
def hasO (l:List Vis) (o:Int):Bool:=l.any fun v=>decide (v.order=o)
theorem wX (v:Vis) (o:Int):ACalls Tryz.prog 288 [.p (ZS v),.ptr 0 0] [.cells [.p (.int .i64 o)]] fun x H'=>x= .p (.bool (decide (v.order=o)))/\H'= [.cells [.p (.int .i64 o)]]:=by
 refine Ze [] Tryz.func288 rfl ZaV ?_;simp (disch:=omega) only [Tryz.f288,go_sem,seval];exact we
theorem Rw (v:Vis) (o:Int):ACalls Tryz.prog 289 [.p (ZS v),.ptr 0 0] [.cells [.p (.int .i64 o)]] fun x H'=>x= .p (.bool (decide (v.order=o)))/\H'= [.cells [.p (.int .i64 o)]]:=by
 refine Ze [] Tryz.func289 rfl ZaW ?_;simp (disch:=omega) only [Tryz.f289,go_sem,seval];exact we
theorem BU (l:List Vis) (c:Bool) (o:Int) (hl:l.length<=1048576):PC 262 [.p (.list c (l.map ZS)),.p (.int .i64 o)] (.bool (hasO l o)):=by
 refine Zc Tryz.func262 rfl ZaB ?_;simp (disch:=omega) only [Tryz.f262,go_sem,seval];refine (Ul l c 288 [.ptr 0 0] [.cells [.p (.int .i64 o)]] (fun v=>decide (v.order=o)) hl (by simp (disch:=omega) only [go_sem,seval]) (by rfl) (fun v _=>wX v o)).useH (X8 ?_);rw [hasO]
def beforeB (l:List Vis) (a b:Int):Bool:=if Gb (fun v=>decide (v.order=b)) l<0 then true else hasO l a&& !hasO (l.drop (Gb (fun v=>decide (v.order=b)) l).toNat) a
theorem Mv (l:List Vis) (c:Bool) (a b:Int) (hl:l.length<=1048576):PC 263 [.p (.list c (l.map ZS)),.p (.int .i64 a),.p (.int .i64 b)] (.bool (beforeB l a b)):=by
 refine Zc Tryz.func263 rfl ZaC ?_;simp (disch:=omega) only [Tryz.f263,go_sem,seval];refine (CY l c 289 [.ptr 0 0] [.cells [.p (.int .i64 b)]] (fun v=>decide (v.order=b)) hl (by simp (disch:=omega) only [go_sem,seval]) (by rfl) (fun v _=>Rw v b)).useH ?_;have hlt:=bW (f:=fun v=>decide (v.order=b)) (l:=l);refine X8 ?_;refine cD ?_ ?_<;>intro h<;>simp (disch:=omega) only [Sh.out h,go_sem,seval]
 ·rw [beforeB,if_pos h]
 ·refine (BU l c a hl).use (X8 ?_);generalize hq:Gb (fun v=>decide (v.order=b)) l=q at hlt h ⊢
  cases h2:hasO l a with
  | false =>
   refine X8 ?_
   simp_all [beforeB]
  | true =>
   simp (disch:=omega) only [Yu,go_sem,seval];refine (BU (l.drop q.toNat) _ a (by simp;omega)).use (X8 ?_)
   simp_all [beforeB,if_neg]
def U5 (l:List Vis):Int->List Vis->Bool
 | _,[]=>true
 | last,w::r=>decide (last<vIx l w)&&U5 l (vIx l w) r
def pairB (os:List Ord) (l:List Vis) (v:Vis):Bool:=decide (0<=vIx (ZZ os v.order.toNat) v)&&U5 l (-1) (ZZ os v.order.toNat)
theorem Yi {P Q:Prop} (h:Q) (e:Q->P:=by intro h;simp (disch:=omega) only [Zg,go_sem,seval];exact h):P:=e h
theorem Mw (x:Inst) (l:List Vis) (c:Bool) (hl:l.length<=1048576) (ho:x.orders.length<=1048576) (hv: ∀v∈l,0<=v.order/\v.order<x.orders.length) :
  PC 261 [.p (Zv x),.p (.list c (l.map ZS))] (.bool (l.all (pairB x.orders l))):=by
 refine Zc Tryz.func261 rfl ZaA ?_;simp (disch:=omega) only [Tryz.f261,go_sem,seval];refine Zi [1,2,12,13] (fun k:Nat=> [(14,.p (.int .i64 k))]) (fun _=> [Zg x]) (fun k=>k<=l.length/\ ∀j,j<k->pairB x.orders l (nth l j)=true) (fun k=>l.length-k) 0 Zb (Weak.mk ?_) ?_
 ·simp (disch:=omega) only [Zg,go_sem,seval]
 ·rintro k ⟨hk,hno⟩;refine Yi ?_;refine cD ?_ ?_<;>intro h<;>simp (disch:=omega) only [Sh.out h,go_sem,seval,↓reduceIte]
  ·have hk2:k<l.length:=Za
   obtain ⟨v1,v2⟩:=hv _ (Zn hk2)
   have hbad:pairB x.orders l (nth l k)=false->l.all (pairB x.orders l)=false:=fun h4=>by
    grind [Zn]
   obtain ⟨i,hi⟩: ∃i:Nat,(nth l k).order=(i:Int):=⟨(nth l k).order.toNat,Za⟩
   have hp:pairB x.orders l (nth l k)=(decide (0<=vIx (ZZ x.orders i) (nth l k))&&U5 l (-1) (ZZ x.orders i)):=by rw [pairB,hi];rfl
   rw [hi] at v1 v2;simp (disch:=omega) only [hi,go_sem,seval];refine (visits_c x.orders x.orders_c i Za ho).use (X8 ?_);have hvl:=VQ x.orders i;have hcon:=HB (ZZ x.orders i) false (nth l k) Za;rw [O8,hi] at hcon;refine (hcon).use (X8 ?_);refine cD ?_ ?_<;>intro h2<;>simp (disch:=omega) only [Sh.out h2,go_sem,seval]
   ·grind
   ·have h2':0<=vIx (ZZ x.orders i) (nth l k):=Za
    generalize hown:ZZ x.orders i=own at hvl hp h2' ⊢
    have hp2:pairB x.orders l (nth l k)=U5 l (-1) own:=by grind
    refine Zi [1,2,12,13,14,27,28] (fun q:Nat×Int=> [(8,.p (.int .i64 q.2)),(29,.p (.int .i64 q.1))]) (fun _=> [Zg x,.cells [.p (.int .i64 (i:Int)),.p (.bool (nth l k).drp)]]) (fun q=>q.1<=own.length/\U5 l (-1) own=U5 l q.2 (own.drop q.1)) (fun q=>own.length-q.1) (0,-1) Zb (Weak.mk ?_) ?_
    ·simp (disch:=omega) only [Zg,go_sem,seval]
    ·rintro ⟨j,last⟩ ⟨hj,ha⟩;simp only at hj ha;refine Yi ?_;refine ZB ?_ ?_<;>intro h3
     ·have hj2:j<own.length:=Za
      have hd:own.drop j=nth own j::own.drop (j+1):=by rw [Vq hj2,Zj hj2]
      rw [hd] at ha;refine (BG l c (nth own j) hl).use (X8 ?_);refine ZB ?_ ?_<;>intro h4
      ·grind [U5]
      ·have h5:last<vIx l (nth own j):=Za
       exact ⟨(j+1,vIx l (nth own j)),⟨Za,by grind [U5]⟩,Za,wk⟩
     ·have hjl:j=own.length:=Za
      subst hjl;exact ⟨k+1,⟨Za,Zm.2 ⟨hno,by grind [U5]⟩⟩,Za,wk⟩
  ·have hkl:k=l.length:=Za
   subst hkl
   have:l.all (pairB x.orders l)=true:=by
    rw [Zw];intro v hv;obtain ⟨j,hj,rfl⟩:=Z4.1 hv
    grind [Zj]
   rw [this]
def ZK (r:Rte):AM.Obj:= .cells [.p (.int .i64 r.typ),.p (.int .i64 r.start),.p (.list r.rests_c (r.rests.map eB)),.p (.list r.visits_c (r.visits.map ZS))]
def VM (x:Inst) (v:Vis):Bool:= !decide (0<=v.order/\v.order<(x.orders.length:Int))
theorem aU (x:Inst) (r:Rte) (v:Vis) (ho:x.orders.length<=1048576):ACalls Tryz.prog 258 [.p (ZS v),.ptr 0 0] [Zg x,ZK r] fun y H'=>y= .p (.bool (VM x v))/\H'= [Zg x,ZK r]:=by
 refine Ze [] Tryz.func258 rfl Zax ?_;simp (disch:=omega) only [Tryz.f258,Zg,ZK,go_sem,seval];refine gF ?_ ?_<;>intro h<;>simp (disch:=omega) only [Sh.out h,go_sem,seval,↓reduceIte]
 ·have e:VM x v=true:=by
   grind [VM]
  rw [e];exact we
 ·have e:VM x v=decide ((x.orders.length:Int)<=v.order):=by
   have h0:0<=v.order:=Za
   rw [Up];simp [VM,h0]
  rw [e];exact we
theorem aV (x:Inst) (r:Rte) (v:Vis) (ho:x.orders.length<=1048576) (h1:0<=v.order) (h2:v.order<x.orders.length):ACalls Tryz.prog 259 [.p (ZS v),.ptr 0 0] [Zg x,ZK r] fun y H'=>y= .p (.bool (nth x.orders v.order.toNat).off)/\H'= [Zg x,ZK r]:=by
 have h3:v.order.toNat<x.orders.length:=Za
 refine Ze [] Tryz.func259 rfl Zay ?_;simp (disch:=omega) only [Tryz.f259,Zg,ZK,go_sem,seval];exact we
def Xr (x:Inst) (l:List Vis):Int :=
 if l.length=0\/l.any (VM x)=true then 2
 else if (l.any fun v=>(nth x.orders v.order.toNat).off)=true then 9
 else if Kv l=true then 6
 else if l.all (pairB x.orders l)=false then 19
 else if (x.apart.any fun p=>hasO l p.1&&hasO l p.2)=true then 20
 else if (x.before.any fun p=> !beforeB l p.1 p.2)=true then 21
 else 0
theorem E9 {P Q:Prop} (h:Q) (e:Q->P:=by intro h;simp (disch:=omega) only [Zg,ZK,go_sem,seval];exact h):P:=e h
theorem On (x:Inst) (r:Rte) (ho:x.orders.length<=1048576) (hl:r.visits.length<=1048576) (hap:x.apart.length<=1048576) (hbe:x.before.length<=1048576) :
  PC 218 [.p (Zv x),.p (Z0 r)] (.int .i64 (Xr x r.visits)):=by
 refine Zc Tryz.func218 rfl zY ?_;simp (disch:=omega) only [Tryz.f218,go_sem,seval];refine gF ?_ ?_<;>intro h0<;>simp (disch:=omega) only [Sh.out h0,go_sem,seval]
 ·grind [Xr]
 ·have h00: ¬r.visits.length=0:=Za
  refine (Ul r.visits r.visits_c 258 [.ptr 0 0] [Zg x,ZK r] (VM x) hl (by simp (disch:=omega) only [Zg,ZK,go_sem,seval]) (by rfl) (fun v _=>aU x r v ho)).useH (E9 ?_);refine cD ?_ ?_<;>intro h1<;>simp (disch:=omega) only [Sh.out h1,go_sem,seval]
  ·simp_all [Xr]
  ·have h1':r.visits.any (VM x)=false:=Za
   have c1: ¬(r.visits.length=0\/r.visits.any (VM x)=true):=by grind
   have hin: ∀v∈r.visits,0<=v.order/\v.order<x.orders.length:=fun v hv=>by
    grind [VM]
   refine (Ul r.visits r.visits_c 259 [.ptr 0 0] [Zg x,ZK r] (fun v=>(nth x.orders v.order.toNat).off) hl (by simp (disch:=omega) only [Zg,ZK,go_sem,seval]) (by rfl) (fun v hv=>aV x r v ho (hin v hv).1 (hin v hv).2)).useH (E9 ?_);refine cD ?_ ?_<;>intro h2<;>simp (disch:=omega) only [Sh.out h2,go_sem,seval]
   ·simp_all [Xr]
   ·refine (qK r.visits r.visits_c hl).use (X8 ?_);refine cD ?_ ?_<;>intro h3<;>simp (disch:=omega) only [Sh.out h3,go_sem,seval,↓reduceIte]
    ·simp_all [Xr,if_neg]
    ·refine (Mw x r.visits r.visits_c hl ho hin).use (X8 ?_);refine cD ?_ ?_<;>intro h4<;>simp (disch:=omega) only [Sh.out h4,go_sem,seval,↓reduceIte]
     ·simp_all [Xr,if_neg]
     ·have h4':r.visits.all (pairB x.orders r.visits)=true:=by grind
      have hc:Xr x r.visits=if (x.apart.any fun p=>hasO r.visits p.1&&hasO r.visits p.2)=true then 20 else if (x.before.any fun p=> !beforeB r.visits p.1 p.2)=true then 21 else 0:=by
       rw [Xr,if_neg c1,if_neg (by grind),if_neg (by grind),if_neg (by grind)]
      clear h4 h4' h3 h2 c1 h1' h1 h0;refine Zi [2,5,33,34] (fun k:Nat=> [(35,.p (.int .i64 k))]) (fun _=> [Zg x,ZK r]) (fun k=>k<=x.apart.length/\ ∀j,j<k->(hasO r.visits (nth x.apart j).1&&hasO r.visits (nth x.apart j).2)=false) (fun k=>x.apart.length-k) 0 Zb (Weak.mk ?_) ?_
      ·simp (disch:=omega) only [Zg,ZK,go_sem,seval]
      ·rintro k ⟨hk,hno⟩;refine E9 ?_;refine cD ?_ ?_<;>intro h<;>simp (disch:=omega) only [Sh.out h,go_sem,seval,↓reduceIte]
       ·have hk2:k<x.apart.length:=Za
        refine (BU r.visits r.visits_c (nth x.apart k).1 hl).use (X8 ?_);refine Jd ?_ ?_<;>intro h2
        ·refine (BU r.visits r.visits_c (nth x.apart k).2 hl).use (X8 ?_);refine ZB ?_ ?_<;>intro h3
         ·rw [hc,if_pos (KG hk2 (by grind))]
         ·exact ⟨k+1,⟨Za,Zm.2 ⟨hno,by grind⟩⟩,Za,wk⟩
        ·exact ⟨k+1,⟨Za,Zm.2 ⟨hno,by simp [h2]⟩⟩,Za,wk⟩
       ·have hkl:k=x.apart.length:=Za
        subst hkl;rw [hc,DX hno];clear hno hk h hc;rw [if_neg Zb];refine Zi [5,51,52] (fun k:Nat=> [(53,.p (.int .i64 k))]) (fun _=> [Zg x,ZK r]) (fun k=>k<=x.before.length/\ ∀j,j<k->(!beforeB r.visits (nth x.before j).1 (nth x.before j).2)=false) (fun k=>x.before.length-k) 0 Zb (Weak.mk ?_) ?_
        ·simp (disch:=omega) only [Zg,ZK,go_sem,seval]
        ·rintro k ⟨hk,hno⟩;refine E9 ?_;refine cD ?_ ?_<;>intro h<;>simp (disch:=omega) only [Sh.out h,go_sem,seval,↓reduceIte]
         ·have hk2:k<x.before.length:=Za
          refine (Mv r.visits r.visits_c (nth x.before k).1 (nth x.before k).2 hl).use (X8 ?_);refine ZB ?_ ?_<;>intro h2
          ·have h3:(!beforeB r.visits (nth x.before k).1 (nth x.before k).2)=true:=Za
           rw [if_pos (KG hk2 h3)]
          ·have h3:(!beforeB r.visits (nth x.before k).1 (nth x.before k).2)=false:=Za
           exact ⟨k+1,⟨Za,Zm.2 ⟨hno,h3⟩⟩,Za,wk⟩
         grind [DX]
@[go_sem] theorem Zj4 {H:List AM.Obj} {n cs cs'} :FP H n (.tup cs) (.tup cs')=(cs'=cs/\Xf n cs=true):=by simp [FP,nN,refB]
@[go_sem] theorem Of {a b:V} :Va [a,b]= .tup [a,b]:=ZP rfl rfl
theorem Y0 {g:FuncId} {args:List V} {a b:PV} {H:List AM.Obj} {K:V->List AM.Obj->Prop} (h:ACalls Tryz.prog g args [] fun x H'=>x= .tup [.p a,.p b]/\H'= []) (k:K (.tup [.p a,.p b]) H) (ha:Xf 0 args=true:=by rfl):ACalls Tryz.prog g args H K :=
 (h.behind ha H).mono fun x H' hq=>by
  obtain ⟨y,H1,⟨rfl,rfl⟩,rfl,rfl⟩:=hq
  grind [shV,shVs]
def ordS (l:List Vis):Nat:=l.foldl (fun s v=>s|||pw v.order.toNat) 0
def CX (v:Vis):Bool:=decide (0<=v.order/\v.order<=62)
theorem K8 {l:List Vis} {k:Nat} (hk:k<l.length):ordS (l.take (k+1))=ordS (l.take k)|||pw (nth l k).order.toNat:=by
 grind [Zx,ordS,Zj]
theorem UW : ∀(k:Nat) {l:List Vis},k<=l.length->(∀v∈l.take k,CX v=true)->ordS (l.take k)<9223372036854775808
 | 0,l,_,_=>by simp [ordS]
 | k+1,l,hk,h=>by
  have hk2:k<l.length:=Za
  have ih:=UW k (l:=l) Za fun v hv=>h v (List.take_subset_take_left l Za hv);have hv:=h (nth l k) (by rw [Zj hk2];exact Z4.2 ⟨k,by simp;omega,Zb⟩);simp only [CX,Zr] at hv;have h2:pw (nth l k).order.toNat<=pw 62:=QN Za;have h3:=GL;rw [K8 hk2];exact J5 (n:=63) Za Za
def ordR (l:List Vis):Int×Int:=if l.all CX=true then (((ordS l:Nat):Int),0) else (0,2)
theorem Zip {P Q:Prop} (h:Q) (e:Q->P:=by intro h;simp (disch:=omega) only [ZK,go_sem,seval];exact h):P:=e h
theorem U0 (r:Rte) (hl:r.visits.length<=1048576):PT 59 [.p (Z0 r)] [.p (.int .i64 (ordR r.visits).1),.p (.int .i64 (ordR r.visits).2)]:=by
 refine Ze [] Tryz.func59 rfl ZhJ ?_;simp (disch:=omega) only [Tryz.f59,go_sem,seval];refine Zi [8,9] (fun k:Nat=> [(4,.p (.int .i64 (ordS (r.visits.take k):Nat))),(10,.p (.int .i64 k))]) (fun _=> [ZK r]) (fun k=>k<=r.visits.length/\ ∀j,j<k->CX (nth r.visits j)=true) (fun k=>r.visits.length-k) 0 Zb (Weak.mk ?_) ?_
 ·simp (disch:=omega) only [ZK,ordS,Wx,Qh,go_sem,seval]
 ·rintro k ⟨hk,hno⟩
  have hlt:=UW k hk fun v hv=>by
   obtain ⟨j,hj,rfl⟩:=Z4.1 hv
   grind [Zj]
  refine Zip ?_;refine cD ?_ ?_<;>intro h<;>simp (disch:=omega) only [Sh.out h,go_sem,seval,↓reduceIte]
  ·have hk2:k<r.visits.length:=Za
   have hbad:CX (nth r.visits k)=false->ordR r.visits=(0,2):=fun h4=>by
    grind [Zn,ordR]
   have hs:=K8 hk2
   have hp:(nth r.visits k).order<=62->pw (nth r.visits k).order.toNat<=4611686018427387904:=fun h=>by rw [<- GL];exact QN Za
   refine gF ?_ ?_<;>intro h1<;>simp (disch:=omega) only [Sh.out h1,go_sem,seval,↓reduceIte]
   ·have e:=hbad (by simp [CX];omega);rw [e];exact we
   ·refine ZB ?_ ?_<;>intro h2
    ·have e:=hbad (by simp [CX];omega);rw [e];exact we
    ·exact ⟨k+1,⟨Za,Zm.2 ⟨hno,by simp [CX];omega⟩⟩,Za,Weak.mk (by simp (disch:=omega) only [hs,go_sem,seval])⟩
  ·have hkl:k=r.visits.length:=Za
   subst hkl
   have:r.visits.all CX=true:=by
    rw [Zw];intro v hv;obtain ⟨j,hj,rfl⟩:=Z4.1 hv
    grind [Zj]
   have e:ordR r.visits=(((ordS r.visits:Nat):Int),0):=by simp [ordR,this]
   rw [e,Yu];exact we
theorem Ut {α:Type} [Inhabited α] {a b:List α} (hl:a.length=b.length) (h: ∀j,j<a.length->nth a j=nth b j):a=b:=by
 grind [UN,Zj]
def Vn (a b:Int):Int:=if a<b then-1 else if b<a then 1 else 0
theorem Po (a:Int):PC 158 [.p (.int .i64 a)] (.bool false):=by
 refine Zc Tryz.func158 rfl yO ?_;simp (disch:=omega) only [Tryz.f158,go_sem,seval]
 try simp
theorem F5 (a b:Int):PC 106 [.p (.int .i64 a),.p (.int .i64 b)] (.int .i64 (Vn a b)):=by
 refine Zc Tryz.func106 rfl xE ?_;simp (disch:=omega) only [Tryz.f106,go_sem,seval];refine (Po a).use (X8 ?_);refine (Po b).use (X8 ?_);refine cD ?_ ?_<;>intro h<;>simp (disch:=omega) only [Sh.out h,go_sem,seval]
 ·simp [Vn,h]
 ·refine cD ?_ ?_<;>intro h2<;>simp (disch:=omega) only [Sh.out h2,go_sem,seval]
  ·simp [Vn,h,h2]
  grind [Vn]
def oO (l:List Int):Int:=(l.find? fun n=>decide (n≠0)).getD 0
theorem ZbP {l:List Int} {k:Nat} (hk:k<l.length) (h:nth l k≠0) (hno: ∀j,j<k->nth l j=0):oO l=nth l k:=by
 grind [nth,List.find?_eq_some_iff_getElem,oO]
theorem ZbQ {l:List Int} (hno: ∀j,j<l.length->nth l j=0):oO l=0:=by
 have:l.find? (fun n=>decide (n≠0))=none:=by
  rw [KT];intro x hx;obtain ⟨j,hj,rfl⟩:=Z4.1 hx
  grind [Zj]
 grind [oO]
theorem ZbR (l:List Int) (c:Bool) (hl:l.length<=100):PC 105 [.p (.list c (l.map eI))] (.int .i64 (oO l)):=by
 refine Zc Tryz.func105 rfl xD ?_;simp (disch:=omega) only [Tryz.f105,go_sem,seval];refine Zi [3,6,7] (fun k:Nat=> [(8,.p (.int .i64 k))]) (fun _=> []) (fun k=>k<=l.length/\ ∀j,j<k->nth l j=0) (fun k=>l.length-k) 0 Zb (Weak.mk ?_) ?_
 ·simp (disch:=omega) only [go_sem,seval]
 ·rintro k ⟨hk,hno⟩;refine X8 ?_;refine cD ?_ ?_<;>intro h<;>simp (disch:=omega) only [Sh.out h,go_sem,seval,↓reduceIte]
  ·have hk2:k<l.length:=Za
   refine ZB ?_ ?_<;>intro h2
   ·grind [ZbP]
   ·exact ⟨k+1,⟨Za,Zm.2 ⟨hno,Za⟩⟩,Za,wk⟩
  grind [ZbQ]
theorem H8 (a b:Int):oO [a,b]=if a=0 then b else a:=by
 grind [oO]
def dn (v:Vis):Int:=if v.drp=true then 1 else 0
theorem LY (v:Vis):PC 315 [.p (ZS v)] (.int .i64 (dn v)):=by
 refine Zc Tryz.func315 rfl Zbk ?_;simp (disch:=omega) only [Tryz.f315,go_sem,seval];refine cD ?_ ?_<;>intro h<;>simp (disch:=omega) only [Sh.out h,go_sem,seval]
 ·simp [dn,h]
 ·simp [dn,h]
def AE (a b:Vis):Int:=if Vn a.order b.order=0 then Vn (dn a) (dn b) else Vn a.order b.order
theorem RO (a b:Vis):PC 300 [.p (ZS a),.p (ZS b)] (.int .i64 (AE a b)):=by
 refine Zc Tryz.func300 rfl Za7 ?_;simp (disch:=omega) only [Tryz.f300,go_sem,seval];refine Z6 (X8 ?_);refine Zq (F5 a.order b.order) (X8 ?_);refine Zq (LY a) (X8 ?_);refine Zq (LY b) (X8 ?_);refine Zq (F5 (dn a) (dn b)) (X8 ?_);refine Zq (ZbR [Vn a.order b.order,Vn (dn a) (dn b)] false Zb) (X8 ?_);rw [H8,AE]
def Vp : List Vis->List Vis->Int
 | [],[]=>0
 | [],_::_=> -1
 | _::_,[]=>1
 | a::r,b::s=>if AE a b=0 then Vp r s else AE a b
theorem Ba {α:Type} [Inhabited α] {l:List α} {k:Nat} (h:k<l.length):l.drop k=nth l k::l.drop (k+1):=by rw [Vq h,Zj h]
theorem Fu (a b:List Vis) (c d:Bool) (ha:a.length<=1048576) (hb:b.length<=1048576) :
  PC 299 [.p (.list c (a.map ZS)),.p (.list d (b.map ZS)),.fn (.func 300) [] []] (.int .i64 (Vp a b)):=by
 refine Zc Tryz.func299 rfl Za6 ?_;simp (disch:=omega) only [Tryz.f299,go_sem,seval];refine Zi [0,1,2,11,12] (fun k:Nat=> [(13,.p (.int .i64 k))]) (fun _=> []) (fun k=>k<=a.length/\k<=b.length/\Vp a b=Vp (a.drop k) (b.drop k)) (fun k=>a.length-k) 0 Zb (Weak.mk ?_) ?_
 ·simp (disch:=omega) only [go_sem,seval,↓reduceIte]
 ·rintro k ⟨hk,hkb,hle⟩;refine X8 ?_;refine cD ?_ ?_<;>intro h<;>simp (disch:=omega) only [Sh.out h,go_sem,seval,↓reduceIte]
  ·have hk2:k<a.length:=Za
   rw [Ba hk2] at hle;refine cD ?_ ?_<;>intro h2<;>simp (disch:=omega) only [Sh.out h2,go_sem,seval,↓reduceIte]
   ·have:b.drop k= []:=Dv Za;rw [hle,this];rfl
   ·have hk3:k<b.length:=Za
    rw [Ba hk3] at hle;refine (RO (nth a k) (nth b k)).use (X8 ?_);refine cD ?_ ?_<;>intro h3<;>simp (disch:=omega) only [Sh.out h3,go_sem,seval,↓reduceIte]
    ·simp_all [Vp]
    ·have h4:AE (nth a k) (nth b k)=0:=Za
     exact ⟨k+1,⟨Za,Za,by simp_all [Vp]⟩,Za,wk⟩
  ·have hkl:k=a.length:=Za
   subst hkl;rw [VW] at hle;refine cD ?_ ?_<;>intro h2<;>simp (disch:=omega) only [Sh.out h2,go_sem,seval]
   ·rw [Ba Za] at hle;rw [hle];rfl
   ·have:b.drop a.length= []:=Dv Za;rw [hle,this];rfl
theorem Ta (a b:List Vis) (c d:Bool) (ha:a.length<=1048576) (hb:b.length<=1048576):PC 276 [.p (.list c (a.map ZS)),.p (.list d (b.map ZS))] (.bool (decide (Vp a b<0))):=by
 refine Zc Tryz.func276 rfl ZaO ?_;simp (disch:=omega) only [Tryz.f276,go_sem,seval];refine (Fu a b c d ha hb).use ?_;simp (disch:=omega) only [go_sem,seval]
def BH (l:List Vis) (v:Vis):List Vis->Bool
 | []=>true
 | w::r=>if w=v then true else decide (0<=vIx l w)&&BH l v r
def Ug (l own:List Vis):Bool:=own.all fun w=>decide (0<=vIx l w)
def D2 (os:List Ord) (l:List Vis) (o:Int) (p:Int×Int):Bool:=decide (p.2≠o)||Ug l (ZZ os p.1.toNat)
def Uw (x:Inst) (l:List Vis) (v:Vis):Bool:=decide (vIx l v<0)&&BH l v (ZZ x.orders v.order.toNat)&&x.before.all (D2 x.orders l v.order)
def U2 (v:Vis):AM.Obj:= .cells [.p (.int .i64 v.order),.p (.bool v.drp)]
theorem jG {l:List Vis} {v:Vis} : -1<=vIx l v/\vIx l v<l.length:=by
 simp_all [bW,vIx]
theorem Oo (x:Inst) (l:List Vis) (c:Bool) (v:Vis) (hl:l.length<=1048576) (ho:x.orders.length<=1048576) (hbl:x.before.length<=1048576) (hv:0<=v.order/\v.order<x.orders.length) (hb: ∀p∈x.before,0<=p.1/\p.1<x.orders.length) :
  PC 277 [.p (Zv x),.p (.list c (l.map ZS)),.p (ZS v)] (.bool (Uw x l v)):=by
 refine AV [3] Tryz.func277 rfl ZaP ?_;simp (disch:=omega) only [Tryz.f277,go_sem,seval];refine (BG l c v hl).use (X8 ?_);refine cD ?_ ?_<;>intro h<;>simp (disch:=omega) only [Sh.out h,go_sem,seval]
 ·grind [Uw]
 ·have h1:vIx l v<0:=Za
  obtain ⟨i,hi⟩: ∃i:Nat,v.order=(i:Int):=⟨v.order.toNat,Za⟩
  have hr:Uw x l v=(BH l v (ZZ x.orders i)&&x.before.all (D2 x.orders l v.order)):=by
   grind [Uw]
  have hvi:=visits_c x.orders x.orders_c i Za ho;rw [<- hi] at hvi;refine ZD [1,3,5] (fun _:Unit=> []) (fun _=> [Zg x,U2 v]) (fun _=>BH l v (ZZ x.orders i)=true) ?_ ?_
  ·refine X8 ?_;refine (hvi).use (X8 ?_);have hvl:=VQ x.orders i;generalize hown:ZZ x.orders i=own at hvl hr ⊢;refine Zi [1,3,5,21,22] (fun k:Nat=> [(23,.p (.int .i64 k))]) (fun _=> [Zg x,U2 v]) (fun k=>k<=own.length/\BH l v own=BH l v (own.drop k)) (fun k=>own.length-k) 0 Zb (Weak.mk ?_) ?_
   ·simp (disch:=omega) only [Zg,U2,go_sem,seval]
   ·rintro k ⟨hk,hp⟩;simp (disch:=omega) only [Zg,U2,go_sem,seval];refine ZB ?_ ?_<;>intro h2
    ·have hk2:k<own.length:=Za
     rw [Ba hk2] at hp;refine ZB ?_ ?_<;>intro h3
     ·have h4:nth own k=v:=by grind [AR]
      exact ⟨(),by simp_all [BH],wk⟩
     ·have h4: ¬nth own k=v:=by grind
      refine (BG l c (nth own k) hl).use (X8 ?_);refine ZB ?_ ?_<;>intro h5
      ·have h6: ¬ 0<=vIx l (nth own k):=Za
       simp_all [BH]
      ·have h6:0<=vIx l (nth own k):=Za
       exact ⟨k+1,⟨Za,by simp_all [BH]⟩,Za,wk⟩
    ·have hkl:k=own.length:=Za
     subst hkl;exact ⟨(),by rw [hp,VW];rfl,wk⟩
  ·rintro _ hpre;rw [hpre,Wz] at hr;refine Zf [] _ _ _ _ ?_;simp (disch:=omega) only [Zg,U2,go_sem,seval];refine Zi [1,3,5,36,37] (fun k:Nat=> [(38,.p (.int .i64 k))]) (fun _=> [Zg x,U2 v]) (fun k=>k<=x.before.length/\ ∀j,j<k->D2 x.orders l v.order (nth x.before j)=true) (fun k=>x.before.length-k) 0 Zb (Weak.mk ?_) ?_
   ·simp (disch:=omega) only [Zg,U2,go_sem,seval]
   ·rintro k ⟨hk,hno⟩;simp (disch:=omega) only [Zg,U2,go_sem,seval];refine cD ?_ ?_<;>intro h2<;>simp (disch:=omega) only [Sh.out h2,go_sem,seval,↓reduceIte]
    ·have hk2:k<x.before.length:=Za
     have hbk:=hb _ (Zn hk2)
     have hbad:D2 x.orders l v.order (nth x.before k)=false->Uw x l v=false:=fun h4=>by
      grind [Zn]
     refine ZB ?_ ?_<;>intro h3
     ·exact ⟨k+1,⟨Za,Zm.2 ⟨hno,by simp [D2,h3]⟩⟩,Za,wk⟩
     ·obtain ⟨a,hao⟩: ∃a:Nat,(nth x.before k).1=(a:Int):=⟨(nth x.before k).1.toNat,Za⟩;have hva:=visits_c x.orders x.orders_c a Za ho;rw [<- hao] at hva
      have h3':(nth x.before k).2=v.order:=Za
      have hbe:D2 x.orders l v.order (nth x.before k)=Ug l (ZZ x.orders a):=by grind [D2]
      refine (hva).use (X8 ?_);have hvl:=VQ x.orders a;generalize hown:ZZ x.orders a=own at hvl hbe ⊢;refine Zi [1,3,5,36,37,38,51,52] (fun k:Nat=> [(53,.p (.int .i64 k))]) (fun _=> [Zg x,U2 v,.cells [.p (.int .i64 (nth x.before k).1),.p (.int .i64 (nth x.before k).2)]]) (fun q=>q<=own.length/\ ∀j,j<q->decide (0<=vIx l (nth own j))=true) (fun k=>own.length-k) 0 Zb (Weak.mk ?_) ?_
      ·simp (disch:=omega) only [Zg,U2,go_sem,seval]
      ·rintro q ⟨hq,hnq⟩;simp (disch:=omega) only [Zg,U2,go_sem,seval];refine ZB ?_ ?_<;>intro h4
       ·have hq2:q<own.length:=Za
        refine (BG l c (nth own q) hl).use (X8 ?_);refine ZB ?_ ?_<;>intro h5
        ·grind [Ug,Zn]
        ·exact ⟨q+1,⟨Za,Zm.2 ⟨hnq,by simp;omega⟩⟩,Za,wk⟩
       ·have hql:q=own.length:=Za
        subst hql
        have:Ug l own=true:=by
         rw [Ug,Zw];intro w hw;obtain ⟨j,hj,rfl⟩:=Z4.1 hw
         grind [Zj]
        exact ⟨k+1,⟨Za,Zm.2 ⟨hno,by grind⟩⟩,Za,wk⟩
    ·have hkl:k=x.before.length:=Za
     subst hkl
     have:x.before.all (D2 x.orders l v.order)=true:=by
      rw [Zw];intro w hw;obtain ⟨j,hj,rfl⟩:=Z4.1 hw
      grind [Zj]
     rw [hr,this]
def Uu (x:Inst) (S:Nat) (l:List Vis) (i:Nat):List Vis:=if S.testBit i=true/\(nth x.orders i).off=false then (ZZ x.orders i).filter (Uw x l) else []
def nextU (x:Inst) (S:Nat) (l:List Vis) (k:Nat):List Vis:=(List.range k).flatMap (Uu x S l)
theorem EA (x S l k):nextU x S l (k+1)=nextU x S l k++Uu x S l k:=by simp [nextU,VT]
theorem Sj (x S l i):(Uu x S l i).length<=2:=by
 grind [Uu,VQ]
theorem Cv (x S l): ∀k,(nextU x S l k).length<=2*k
 | 0=>by simp [nextU]
 | k+1=>by
  have h1:=Cv x S l k;have h2:=Sj x S l k;rw [EA,ZQ];omega
theorem GU (x:Inst) (S:Nat) (l:List Vis) (c:Bool) (hS:S<9223372036854775808) (hl:l.length<=1048576) (ho:x.orders.length<=60) (hbl:x.before.length<=1048576) (hb: ∀p∈x.before,0<=p.1/\p.1<x.orders.length) :
  PC 240 [.p (Zv x),.p (.int .i64 (S:Nat)),.p (.list c (l.map ZS))] (.list false ((nextU x S l x.orders.length).map ZS)):=by
 refine ACalls.frozen (S:=2) (n:=(nextU x S l x.orders.length).length) Zb ?_
 suffices hh:ACalls Tryz.prog 240 [.p (Zv x),.p (.int .i64 (S:Nat)),.p (.list c (l.map ZS))] [] fun y H'=> ∃m:List Vis,m=nextU x S l x.orders.length/\y= .sl 0 0 m.length m.length/\H'= [.elems 2 (m.map ZS)] by
  grind
 refine Z2 [2] Tryz.func240 rfl Zap ?_;simp (disch:=omega) only [Tryz.f240,go_sem,seval];refine Zp (Weak.ofNil 7 2 (by simp (disch:=omega) only [go_sem,seval]) Zb (Weak.refl _ _ _)) ?_;refine Zf [] _ _ _ _ (X8 ?_);refine Zi [1,2,3,13,14] (fun q:Nat×List Vis=> [(7,.sl 1 0 q.2.length q.2.length),(15,.p (.int .i64 q.1))]) (fun q=> [Zg x,.elems 2 (q.2.map ZS)]) (fun q=>q.1<=x.orders.length/\q.2=nextU x S l q.1) (fun q=>x.orders.length-q.1) (0,[]) ⟨Zb,by simp [nextU]⟩ (Weak.mk ?_) ?_
 ·simp (disch:=omega) only [Zg,go_sem,seval]
 ·rintro ⟨k,m⟩ ⟨hk,hm⟩;simp only at hk hm
  have hml:m.length<=2*k:=by grind [Cv]
  have hsc:=EA x S l k;refine Yi ?_;refine cD ?_ ?_<;>intro h<;>simp (disch:=omega) only [Sh.out h,go_sem,seval,↓reduceIte]
  ·have hk2:k<x.orders.length:=Za
   refine A6 ?_ ?_<;>intro h62
   ·omega
   refine A6 ?_ ?_<;>intro h2
   ·have hbit:S.testBit k=false:=by grind [Hr]
    have e:Uu x S l k= []:=by simp [Uu,hbit]
    exact ⟨(k+1,m),⟨Za,by grind⟩,Za,wk⟩
   ·have hbit:S.testBit k=true:=by
     grind [Hr]
    refine ZB ?_ ?_<;>intro h3
    ·have e:Uu x S l k= []:=by simp [Uu,h3]
     exact ⟨(k+1,m),⟨Za,by grind⟩,Za,wk⟩
    ·have h3':(nth x.orders k).off=false:=Za
     have e:Uu x S l k=(ZZ x.orders k).filter (Uw x l):=by grind [Uu]
     refine (visits_c x.orders x.orders_c k hk2 Za).use (X8 ?_);have hvl:=VQ x.orders k;have hvo: ∀v∈ZZ x.orders k,v.order=k:=fun v hv=>YQ hv;generalize hown:ZZ x.orders k=own at hvl e hvo ⊢;refine Zi [1,2,3,13,14,15,36,37] (fun q:Nat×List Vis=> [(7,.sl 1 0 q.2.length q.2.length),(38,.p (.int .i64 q.1))]) (fun q=> [Zg x,.elems 2 (q.2.map ZS),Yq (nth x.orders k)]) (fun q=>q.1<=own.length/\q.2=m++(own.take q.1).filter (Uw x l)) (fun q=>own.length-q.1) (0,m) ⟨Zb,Zb⟩ (Weak.mk ?_) ?_
     ·simp (disch:=omega) only [Zg,Yq,h3',go_sem,seval]
     ·rintro ⟨j,m2⟩ ⟨hj,hm2⟩;simp only at hj hm2
      have hm2l:m2.length<=2*k+2:=by
       grind
      simp (disch:=omega) only [Zg,Yq,h3',go_sem,seval];refine ZB ?_ ?_<;>intro h4
      ·have hj2:j<own.length:=Za
       have hvj:=hvo _ (Zn hj2)
       have htk:own.take (j+1)=own.take j++ [nth own j]:=by rw [Zx hj2,Zj hj2]
       have hrd:=Oo x l c (nth own j) hl Za hbl Za hb;refine (hrd).use (X8 ?_);refine ZB ?_ ?_<;>intro h5
       ·exact ⟨(j+1,m2++ [nth own j]),⟨Za,by grind⟩,Za,Weak.mk (by simp (disch:=omega) only [h3',go_sem,seval])⟩
       ·exact ⟨(j+1,m2),⟨Za,by grind⟩,Za,Weak.mk (by simp (disch:=omega) only [h3',go_sem,seval])⟩
      ·have hjl:j=own.length:=Za
       subst hjl;exact ⟨(k+1,m2),⟨Za,by grind⟩,Za,wk⟩
  ·have hkn:k=x.orders.length:=Za
   subst hkn;exact ⟨m,hm,1,by simp (disch:=omega) only [go_sem,seval]⟩
def ZoD (nx:List Vis->List Vis):Nat->List Vis->List (List Vis)->List (List Vis)×Bool
 | 0,l,outs=>(outs++ [l],decide (outs.length+1<=8192))
 | f+1,l,outs=>(nx l).foldl (fun acc v=>if acc.2=true then ZoD nx f (l++ [v]) acc.1 else acc) (outs,true)
def FM (x:Inst) (S k:Nat):Nat:=((List.range k).map fun i=>if S.testBit i=true then (ZZ x.orders i).length else 0).sum
theorem GX (x S k):FM x S (k+1)=FM x S k+if S.testBit k=true then (ZZ x.orders k).length else 0:=by simp [FM,VT]
theorem JE (x S): ∀k,FM x S k<=2*k
 | 0=>by simp [FM]
 | k+1=>by
  have h1:=JE x S k;have h2:=VQ x.orders k;rw [GX]
  split<;>omega
def UH (S:Nat) (i:Int):Bool:=decide (0<=i/\i<=62)&&S.testBit i.toNat
theorem Kj (S:Nat) (i:Int) (hS:S<9223372036854775808):PC 92 [.p (.int .i64 (S:Nat)),.p (.int .i64 i)] (.bool (UH S i)):=by
 refine Zc Tryz.func92 rfl Zh2 ?_;simp (disch:=omega) only [Tryz.f92,go_sem,seval];refine gT ?_ ?_<;>intro h<;>simp (disch:=omega) only [Sh.out h,go_sem,seval,↓reduceIte]
 ·refine gT ?_ ?_<;>intro h1<;>simp (disch:=omega) only [Sh.out h1,go_sem,seval,↓reduceIte]
  ·refine gT ?_ ?_<;>intro h2<;>simp (disch:=omega) only [Sh.out h2,go_sem,seval,↓reduceIte]
   ·have e:((S / pw i.toNat:Nat):Int).tmod 2=((S / pw i.toNat%2:Nat):Int):=by rfl
    rw [e];have h3:(((S / pw i.toNat%2:Nat):Int)=1)=(S.testBit i.toNat=true):=Hs
    simp_all [UH]
   ·simp [UH,h2]
  ·simp [UH,h1]
 ·omega
theorem Mr (x:Inst) (i:Nat) (hi:i<x.orders.length) (hl:x.orders.length<=1048576) (hpl: ∀o∈x.orders,-1<=o.pick.place/\ -1<=o.drp.place):ACalls Tryz.prog 183 [.p (Zv x),.p (.int .i64 (i:Nat))] [] fun y H'=>y= .sl 0 0 (ZZ x.orders i).length (ZZ x.orders i).length/\H'= [.elems 2 ((ZZ x.orders i).map ZS)]:=by
 suffices hh:ACalls Tryz.prog 183 [.p (Zv x),.p (.int .i64 (i:Nat))] [] fun y H'=> ∃m:List Vis,m=ZZ x.orders i/\y= .sl 0 0 m.length m.length/\H'= [.elems 2 (m.map ZS)] by
  grind
 obtain ⟨h1,h2⟩:=hpl _ (Zn hi);refine Z2 [2] Tryz.func183 rfl zC ?_;simp (disch:=omega) only [Tryz.f183,go_sem,seval];refine Zp (Weak.ofNil 5 2 (by simp (disch:=omega) only [go_sem,seval]) Zb (Weak.refl _ _ _)) ?_;refine ZD [1,2] (fun m:List Vis=> [(5,.sl 1 0 m.length m.length)]) (fun m=> [Zg x,.elems 2 (m.map ZS)]) (fun m=>m=(if 0<=(nth x.orders i).pick.place then [⟨i,false⟩] else [])) ?_ ?_
 ·refine X8 ?_;refine ZB ?_ ?_<;>intro h
  ·exact ⟨[⟨i,false⟩],by grind,Weak.mk (by simp (disch:=omega) only [Zg,go_sem,seval])⟩
  ·exact ⟨[],by grind,Weak.mk (by simp (disch:=omega) only [Zg,go_sem,seval])⟩
 ·intro m hm
  have hml:m.length<=1:=by grind
  refine Zf [] _ _ _ _ (Yi ?_);refine cD ?_ ?_<;>intro h<;>simp (disch:=omega) only [Sh.out h,go_sem,seval,↓reduceIte]
  ·exact ⟨m++ [⟨i,true⟩],by rw [ZZ,hm,if_pos (c:=0<=(nth x.orders i).drp.place) Za],1,by simp (disch:=omega) only [go_sem,seval]⟩
  ·exact ⟨m,by simp_all [ZZ],1,by simp (disch:=omega) only [go_sem,seval]⟩
theorem S8 (x:Inst) (i:Nat) (hi:i<x.orders.length) (hl:x.orders.length<=1048576) (hpl: ∀o∈x.orders,-1<=o.pick.place/\ -1<=o.drp.place):PC 183 [.p (Zv x),.p (.int .i64 (i:Nat))] (.list false ((ZZ x.orders i).map ZS)) :=
 (Mr x i hi hl hpl).frozen Zb
theorem Kk (l:List Vis) (c:Bool) (v:Vis) (hl:l.length<=1048576):PC 135 [.p (.list c (l.map ZS)),.p (ZS v)] (.int .i64 (vIx l v)):=by
 refine Zc Tryz.func135 rfl xV ?_;simp (disch:=omega) only [Tryz.f135,go_sem,seval];refine Zi [0,3] (fun k:Nat=> [(5,.p (.int .i64 k))]) (fun _=> [U2 v]) (fun k=>k<=l.length/\ ∀j,j<k->decide (v=nth l j)=false) (fun k=>l.length-k) 0 Zb (Weak.mk ?_) ?_
 ·simp (disch:=omega) only [U2,go_sem,seval,↓reduceIte]
 ·rintro k ⟨hk,hno⟩;simp (disch:=omega) only [U2,go_sem,seval];refine cD ?_ ?_<;>intro h<;>simp (disch:=omega) only [Sh.out h,go_sem,seval,↓reduceIte]
  ·have hk2:k<l.length:=Za
   refine Z6 (X8 ?_);refine cD ?_ ?_<;>intro h2<;>simp (disch:=omega) only [Sh.out h2,go_sem,seval,↓reduceIte]
   ·have:v=nth l k:=Eq.symm (by grind [AR])
    grind [vIx,HJ]
   ·have: ¬v=nth l k:=fun e=>by grind
    exact ⟨k+1,⟨Za,Zm.2 ⟨hno,by grind⟩⟩,Za,wk⟩
  grind [vIx,Nz]
theorem Mb (l s:List Vis) (c d:Bool) (hl:l.length<=1048576) (hs:s.length<=1048576):PC 184 [.p (.list c (l.map ZS)),.p (.list d (s.map ZS))] (.bool (Ug l s)):=by
 refine Zc Tryz.func184 rfl zD ?_;simp (disch:=omega) only [Tryz.f184,go_sem,seval];refine Zi [0,1] (fun k:Nat=> [(5,.p (.int .i64 k))]) (fun _=> []) (fun k=>k<=s.length/\ ∀j,j<k->decide (0<=vIx l (nth s j))=true) (fun k=>s.length-k) 0 Zb (Weak.mk ?_) ?_
 ·simp (disch:=omega) only [go_sem,seval,↓reduceIte]
 ·rintro k ⟨hk,hno⟩;refine X8 ?_;refine cD ?_ ?_<;>intro h<;>simp (disch:=omega) only [Sh.out h,go_sem,seval,↓reduceIte]
  ·have hk2:k<s.length:=Za
   refine (Kk l c (nth s k) hl).use (X8 ?_);refine cD ?_ ?_<;>intro h2<;>simp (disch:=omega) only [Sh.out h2,go_sem,seval,↓reduceIte]
   ·grind [Ug,Zn]
   ·exact ⟨k+1,⟨Za,Zm.2 ⟨hno,by simp;omega⟩⟩,Za,wk⟩
  ·have hkl:k=s.length:=Za
   subst hkl
   have:Ug l s=true:=by
    rw [Ug,Zw];intro w hw;obtain ⟨j,hj,rfl⟩:=Z4.1 hw
    grind [Zj]
   rw [this]
theorem Ch {a b:Int} :Vn a b=0↔a=b:=by grind [Vn]
theorem wL {a b:Vis} :dn a=dn b↔a.drp=b.drp:=by grind [dn]
theorem Qx {a b:Vis} :AE a b=0↔a=b:=by
 grind [AE,AR,Ch,wL]
theorem SA {S n:Nat} (h:S.testBit n=true):S|||pw n=S:=by
 apply AG
 grind [Fa]
theorem fX {S n:Nat} (h:S.testBit n=false):S|||pw n=S+pw n:=by
 have e:S%2^(n+1)=S%2^n+2^n*(S / 2^n%2):=Nat.mod_pow_succ;rw [Et] at h
 have h0:S / 2^n%2=0:=by grind
 rw [h0,Nat.mul_zero,Vu] at e;have hp:0<2^n:=Nat.two_pow_pos n
 have hs:2^(n+1)=2^n+2^n:=Za
 have r1:S%2^(n+1)<2^n:=Za
 have e1:=Nat.two_pow_add_eq_or_of_lt (i:=n) r1 1;have e2:=Nat.two_pow_add_eq_or_of_lt (i:=n+1) (b:=2^n*1+S%2^(n+1)) Za (S / 2^(n+1));have e3:=Nat.two_pow_add_eq_or_of_lt (i:=n+1) (b:=S%2^(n+1)) Za (S / 2^(n+1));have e4:=Nat.div_add_mod S (2^(n+1));rw [pw]
 grind
theorem Aa (r:Rte) (hl:r.visits.length<=1048576):PT 55 [.p (Z0 r)] [.p (.int .i64 (ordR r.visits).1),.p (.int .i64 (ordR r.visits).2)]:=by
 refine Ze [] Tryz.func55 rfl ZhF ?_;simp (disch:=omega) only [Tryz.f55,go_sem,seval];refine Zi [1] (fun k:Nat=> [(4,.p (.int .i64 (ordS (r.visits.take k):Nat))),(5,.p (.int .i64 k))]) (fun _=> [ZK r]) (fun k=>k<=r.visits.length/\ ∀j,j<k->CX (nth r.visits j)=true) (fun k=>r.visits.length-k) 0 Zb (Weak.mk ?_) ?_
 ·simp (disch:=omega) only [ZK,ordS,Wx,Qh,go_sem,seval]
 ·rintro k ⟨hk,hno⟩
  have hlt:=UW k hk fun v hv=>by
   obtain ⟨j,hj,rfl⟩:=Z4.1 hv
   grind [Zj]
  refine Zip ?_;refine cD ?_ ?_<;>intro h<;>simp (disch:=omega) only [Sh.out h,go_sem,seval,↓reduceIte]
  ·have hk2:k<r.visits.length:=Za
   have hbad:CX (nth r.visits k)=false->ordR r.visits=(0,2):=fun h4=>by
    grind [Zn,ordR]
   have hs:=K8 hk2
   have hp:(nth r.visits k).order<=62->pw (nth r.visits k).order.toNat<=4611686018427387904:=fun h=>by rw [<- GL];exact QN Za
   refine gF ?_ ?_<;>intro h1<;>simp (disch:=omega) only [Sh.out h1,go_sem,seval,↓reduceIte]
   ·have e:=hbad (by simp [CX];omega);rw [e];exact we
   ·refine cD ?_ ?_<;>intro h2<;>simp (disch:=omega) only [Sh.out h2,go_sem,seval]
    ·have e:=hbad (by simp [CX];omega);rw [e];exact we
    ·have h4:=hp Za;refine (Kj (ordS (r.visits.take k)) (nth r.visits k).order hlt).use (X8 ?_)
     have hin:0<=(nth r.visits k).order/\(nth r.visits k).order<=62:=Za
     have hnh:UH (ordS (r.visits.take k)) (nth r.visits k).order=(ordS (r.visits.take k)).testBit (nth r.visits k).order.toNat:=by simp [UH,hin]
     rw [hnh];have hno2:=(Zm (p:=fun j=>CX (nth r.visits j)=true)).2 ⟨hno,by simp [CX];omega⟩
     have hlt2:=UW (k+1) hk2 fun v hv=>by
      obtain ⟨j,hj,rfl⟩:=Z4.1 hv
      grind [Zj]
     refine ZB ?_ ?_<;>intro h5
     ·have h6:(ordS (r.visits.take k)).testBit (nth r.visits k).order.toNat=false:=by grind
      rw [fX h6] at hs;rw [hs] at hlt2;exact ⟨k+1,⟨Za,hno2⟩,Za,Weak.mk (by simp (disch:=omega) only [hs,Int.natCast_add,go_sem,seval])⟩
     ·have h6:(ordS (r.visits.take k)).testBit (nth r.visits k).order.toNat=true:=by grind
      rw [SA h6] at hs;exact ⟨k+1,⟨Za,hno2⟩,Za,Weak.mk (by simp (disch:=omega) only [hs,go_sem,seval])⟩
  ·have hkl:k=r.visits.length:=Za
   subst hkl
   have:r.visits.all CX=true:=by
    rw [Zw];intro v hv;obtain ⟨j,hj,rfl⟩:=Z4.1 hv
    grind [Zj]
   have e:ordR r.visits=(((ordS r.visits:Nat):Int),0):=by simp [ordR,this]
   rw [e,Yu];exact we
def Plc (x:Inst):Prop:= ∀o∈x.orders,-1<=o.pick.place/\ -1<=o.drp.place
theorem qL {l:List Vis} {v w:Vis} (h:vIx l v=vIx l w) (h0:0<=vIx l v):v=w:=by
 unfold vIx Gb at h h0
 cases hv:l.findIdx? (fun u=>decide (v=u)) with
 | none=>grind
 | some i =>
  grind [Z5]
theorem VA (os:List Ord) (i:Nat):ZZ os i= []\/ZZ os i= [⟨i,false⟩]\/ZZ os i= [⟨i,true⟩]\/ZZ os i= [⟨i,false⟩,⟨i,true⟩]:=by
 grind [ZZ]
theorem gK {l own:List Vis} (ho:own= []\/(∃v,own= [v])\/ ∃v w,own= [v,w]/\v≠w) :
  U5 l (-1) own=(Ug l own&& !(decide (own.length=2)&&decide (vIx l (nth own 1)<vIx l (nth own 0)))):=by
 rcases ho with rfl | ⟨v,rfl⟩ | ⟨v,w,rfl,hne⟩
 ·rfl
 ·grind [U5,Ug]
 ·have hne2:0<=vIx l v->vIx l v≠vIx l w:=fun h0 h=>hne (qL h h0);have h1:= @jG l v;have h2:= @jG l w;rw [Up];simp [U5,Ug,nth];omega
theorem jH (os:List Ord) (i:Nat):ZZ os i= []\/(∃v,ZZ os i= [v])\/ ∃v w,ZZ os i= [v,w]/\v≠w:=by
 grind [VA]
theorem Hd {α:Type} [Inhabited α] {l:List α} {f:α->Bool} {k:Nat} (hk:k<l.length) (h:f (nth l k)=false):l.all f=false:=by
 grind [Zn]
theorem OK {α:Type} [Inhabited α] {l:List α} {f:α->Bool} (h: ∀j,j<l.length->f (nth l j)=true):l.all f=true:=by
 rw [Zw];intro v hv;obtain ⟨j,hj,rfl⟩:=Z4.1 hv
 grind [Zj]
theorem S4 (x:Inst) (l:List Vis) (c:Bool) (hl:l.length<=1048576) (ho:x.orders.length<=1048576) (hp:Plc x) (hv: ∀v∈l,0<=v.order/\v.order<x.orders.length) :
  PC 136 [.p (Zv x),.p (.list c (l.map ZS))] (.bool (l.all (pairB x.orders l))):=by
 refine Zc Tryz.func136 rfl xW ?_;simp (disch:=omega) only [Tryz.f136,go_sem,seval];refine Zi [1,2] (fun k:Nat=> [(5,.p (.int .i64 k))]) (fun _=> [Zg x]) (fun k=>k<=l.length/\ ∀j,j<k->pairB x.orders l (nth l j)=true) (fun k=>l.length-k) 0 Zb (Weak.mk ?_) ?_
 ·simp (disch:=omega) only [Zg,go_sem,seval]
 ·rintro k ⟨hk,hno⟩;refine Yi ?_;refine cD ?_ ?_<;>intro h<;>simp (disch:=omega) only [Sh.out h,go_sem,seval,↓reduceIte]
  ·have hk2:k<l.length:=Za
   obtain ⟨v1,v2⟩:=hv _ (Zn hk2);obtain ⟨i,hi⟩: ∃i:Nat,(nth l k).order=(i:Int):=⟨(nth l k).order.toNat,Za⟩;rw [hi] at v1 v2
   have hpb:pairB x.orders l (nth l k)=(decide (0<=vIx (ZZ x.orders i) (nth l k))&&U5 l (-1) (ZZ x.orders i)):=by rw [pairB,hi];rfl
   have hown:=jH x.orders i;rw [gK hown] at hpb;refine Z6 ?_;simp (disch:=omega) only [hi,go_sem,seval];refine Zq (S8 x i Za ho hp) (X8 ?_);have hvl:=VQ x.orders i;generalize ZZ x.orders i=own at hvl hpb;have hix:=Kk own false (nth l k) Za;rw [O8,hi] at hix;refine Z6 ?_;simp (disch:=omega) only [hi,go_sem,seval];refine Zq (hix) (X8 ?_);refine gF ?_ ?_<;>intro h2<;>simp (disch:=omega) only [Sh.out h2,go_sem,seval]
   ·grind [Hd]
   ·have h3:0<=vIx own (nth l k):=Za
    have hgo:pairB x.orders l (nth l k)=true-> ∀j,j<k+1->pairB x.orders l (nth l j)=true:=fun e=>Zm.2 ⟨hno,e⟩;refine Zq (Mb l own c false hl Za) (X8 ?_);refine gF ?_ ?_<;>intro h4<;>simp (disch:=omega) only [Sh.out h4,go_sem,seval]
    ·grind [Hd]
    ·have h5:Ug l own=true:=by grind
     rw [h5] at hpb;refine Jd ?_ ?_<;>intro h6
     ·have h7:own.length=2:=Za
      refine Zq (Kk l c (nth own 0) hl) (X8 ?_);refine Zq (Kk l c (nth own 1) hl) (X8 ?_);refine ZB ?_ ?_<;>intro h8
      ·grind [Hd]
      ·exact ⟨k+1,⟨Za,hgo (by grind)⟩,Za,wk⟩
     ·exact ⟨k+1,⟨Za,hgo (by grind)⟩,Za,wk⟩
  grind [OK]
def uO (x:Inst) (S:Nat):Bool:=x.apart.any fun p=>UH S p.1&&UH S p.2
theorem gZ (x:Inst) (S:Nat) (hS:S<9223372036854775808) (ha:x.apart.length<=1048576):PC 137 [.p (Zv x),.p (.int .i64 (S:Nat))] (.bool (!uO x S)):=by
 refine Zc Tryz.func137 rfl xX ?_;simp (disch:=omega) only [Tryz.f137,go_sem,seval];refine Zi [1,2] (fun k:Nat=> [(5,.p (.int .i64 k))]) (fun _=> [Zg x]) (fun k=>k<=x.apart.length/\ ∀j,j<k->(UH S (nth x.apart j).1&&UH S (nth x.apart j).2)=false) (fun k=>x.apart.length-k) 0 Zb (Weak.mk ?_) ?_
 ·simp (disch:=omega) only [Zg,go_sem,seval]
 ·rintro k ⟨hk,hno⟩;refine Yi ?_;refine cD ?_ ?_<;>intro h<;>simp (disch:=omega) only [Sh.out h,go_sem,seval,↓reduceIte]
  ·have hk2:k<x.apart.length:=Za
   refine (Kj S (nth x.apart k).1 hS).use (X8 ?_);refine Jd ?_ ?_<;>intro h2
   ·refine (Kj S (nth x.apart k).2 hS).use (X8 ?_);refine ZB ?_ ?_<;>intro h3
    ·grind [uO,KG]
    ·exact ⟨k+1,⟨Za,Zm.2 ⟨hno,by grind⟩⟩,Za,wk⟩
   ·exact ⟨k+1,⟨Za,Zm.2 ⟨hno,by rw [h2];rfl⟩⟩,Za,wk⟩
  grind [uO,DX]
def JG (l:List Vis) (a b:Int) (j k:Nat):Bool:=decide ((nth l j).order=a)&&decide ((nth l k).order=b)
def UY (S:Nat) (l:List Vis) (p:Int×Int):Bool:= !UH S p.2||(UH S p.1&&(List.range l.length).all fun j=>(List.range j).all fun k=> !JG l p.1 p.2 j k)
theorem SO (x:Inst) (S:Nat) (l:List Vis) (c:Bool) (hS:S<9223372036854775808) (hl:l.length<=1048576) (hb:x.before.length<=1048576):PC 138 [.p (Zv x),.p (.int .i64 (S:Nat)),.p (.list c (l.map ZS))] (.bool (x.before.all (UY S l))):=by
 refine Zc Tryz.func138 rfl xY ?_;simp (disch:=omega) only [Tryz.f138,go_sem,seval];refine Zi [1,2,3] (fun k:Nat=> [(7,.p (.int .i64 k))]) (fun _=> [Zg x]) (fun k=>k<=x.before.length/\ ∀j,j<k->UY S l (nth x.before j)=true) (fun k=>x.before.length-k) 0 Zb (Weak.mk ?_) ?_
 ·simp (disch:=omega) only [Zg,go_sem,seval]
 ·rintro i ⟨hi,hno⟩;refine Yi ?_;refine cD ?_ ?_<;>intro h<;>simp (disch:=omega) only [Sh.out h,go_sem,seval,↓reduceIte]
  ·have hi2:i<x.before.length:=Za
   have hgo:UY S l (nth x.before i)=true-> ∀j,j<i+1->UY S l (nth x.before j)=true:=fun e=>Zm.2 ⟨hno,e⟩;have hbad:UY S l (nth x.before i)=false->x.before.all (UY S l)=false:=fun e=>Hd hi2 e;have hdef:UY S l (nth x.before i)=(!UH S (nth x.before i).2||(UH S (nth x.before i).1&&(List.range l.length).all fun j=>(List.range j).all fun k=> !JG l (nth x.before i).1 (nth x.before i).2 j k)):=rfl;generalize UY S l (nth x.before i)=R at hgo hbad hdef;generalize nth x.before i=p at hdef ⊢;refine (Kj S p.2 hS).use (X8 ?_)
   refine ZB ?_ ?_<;>intro h2
   ·have h3:UH S p.2=false:=by grind
    exact ⟨i+1,⟨Za,hgo (by grind)⟩,Za,wk⟩
   ·have h3:UH S p.2=true:=by grind
    refine (Kj S p.1 hS).use (X8 ?_);refine cD ?_ ?_<;>intro h4<;>simp (disch:=omega) only [Sh.out h4,go_sem,seval]
    ·grind
    ·have h5:UH S p.1=true:=by grind
     rw [h3,h5] at hdef;simp only [X1,Bool.false_or,Wz] at hdef;refine Zi [1,2,3,7,8,9] (fun k:Nat=> [(10,.p (.int .i64 k))]) (fun _=> [Zg x]) (fun k=>k<=l.length/\ ∀j,j<k-> ∀q,q<j->JG l p.1 p.2 j q=false) (fun k=>l.length-k) 0 Zb (Weak.mk ?_) ?_
     ·simp (disch:=omega) only [Zg,go_sem,seval]
     ·rintro j ⟨hj,hnj⟩;refine Yi ?_;refine ZB ?_ ?_<;>intro h6
      ·have hj2:j<l.length:=Za
       refine Zi [1,2,3,7,8,9,10] (fun k:Nat=> [(11,.p (.int .i64 k))]) (fun _=> [Zg x]) (fun k=>k<=j/\ ∀q,q<k->JG l p.1 p.2 j q=false) (fun k=>j-k) 0 Zb (Weak.mk ?_) ?_
       ·simp (disch:=omega) only [Zg,go_sem,seval]
       ·rintro k ⟨hk,hnk⟩;refine Yi ?_;refine ZB ?_ ?_<;>intro h7
        ·have hk2:k<j:=Za
         refine Jd ?_ ?_<;>intro h8
         ·refine ZB ?_ ?_<;>intro h9
          ·rw [hbad (by
            rw [hdef,List.all_eq_false];refine ⟨j,by grind,?_⟩;rw [KV,List.all_eq_false]
            exact ⟨k,by grind,by simp [JG,h8,h9]⟩)]
          ·exact ⟨k+1,⟨Za,Zm.2 ⟨hnk,by simp [JG,h9]⟩⟩,Za,wk⟩
         ·exact ⟨k+1,⟨Za,Zm.2 ⟨hnk,by simp [JG,h8]⟩⟩,Za,wk⟩
        ·have hkl:k=j:=Za
         subst hkl;exact ⟨k+1,⟨Za,(Zm (p:=fun j=> ∀q,q<j->JG l p.1 p.2 j q=false)).2 ⟨hnj,hnk⟩⟩,Za,wk⟩
      ·have hjl:j=l.length:=Za
       subst hjl;refine ⟨i+1,⟨Za,hgo ?_⟩,Za,wk⟩
       grind
  grind [OK]
theorem eX {S:Nat} {i:Int} :UH S i=true↔0<=i/\i<=62/\S.testBit i.toNat=true:=by simp [UH,and_assoc]
theorem LU {S:Nat} {a:Int} :a∈XO (S:Int) 63↔ ∃i:Nat,a=(i:Int)/\i<63/\S.testBit i=true:=by
 simp only [XO,Ww,Qf,Xc]
 constructor
 ·rintro ⟨i,⟨h1,h2⟩,rfl⟩;rw [QQ S i Za] at h2
  grind
 ·rintro ⟨i,rfl,h1,h2⟩;exact ⟨i,⟨h1,by grind [QQ]⟩,rfl⟩
theorem KQ {c:Prop} [Decidable c] {a b:Int} (ha:a≠0):(if c then a else b)=0↔ ¬c/\b=0:=by
 grind
theorem Wm {l:List Vis} {v:Vis} :0<=vIx l v↔v∈l:=by
 grind [Ny,vIx]
theorem Zcq {l:List Vis} {v:Vis} :vIx l v<0↔v ∉ l:=by rw [<- Wm];omega
theorem Ri {l own:List Vis} :Ug l own=true↔ ∀w∈own,w∈l:=by
 grind [Ug,Wm]
theorem aG {os:List Ord} {l:List Vis} {o:Int} {p:Int×Int} :D2 os l o p=true↔(p.2=o-> ∀w∈ZZ os p.1.toNat,w∈l):=by
 rw [D2,Ur,Ri,Zr]
 grind
theorem aH {x:Inst} {l:List Vis} {o:Int} :x.before.all (D2 x.orders l o)=true↔ ∀p∈x.before,p.2=o-> ∀w∈ZZ x.orders p.1.toNat,w∈l:=by
 simp_all [aG]
def Vne (x:Inst):Prop:= ∀i,i<x.orders.length->ZZ x.orders i≠ []
inductive Gr (x:Inst) (S:Nat):List Vis->Prop where
 | nil:Gr x S []
 | snoc {l:List Vis} {v:Vis} (h:Gr x S l) (hv:v∈nextU x S l x.orders.length):Gr x S (l++ [v])
theorem Ov (os:List Ord) (i:Nat):(ZZ os i).Nodup:=by
 grind [VA]
theorem gU {os:List Ord} {i:Nat} {l:List Vis} {v:Vis} (hv:v∈ZZ os i):BH l v (ZZ os i)=true↔(v.drp=true->⟨i,false⟩∈ZZ os i->⟨i,false⟩∈l):=by
 rcases VA os i with h | h | h | h<;>rw [h] at hv ⊢ <;>simp at hv
 ·grind [BH]
 ·grind [BH]
 ·rcases hv with rfl | rfl
  ·simp [BH]
  ·simp [BH,Wm]
theorem Ux {x:Inst} {l:List Vis} {v:Vis} {i:Nat} (hv:v∈ZZ x.orders i):Uw x l v=true↔v ∉ l/\(v.drp=true->⟨i,false⟩∈ZZ x.orders i->⟨i,false⟩∈l)/\ ∀p∈x.before,p.2=(i:Int)-> ∀w∈ZZ x.orders p.1.toNat,w∈l:=by
 have h:=YQ hv;rw [Uw,h,XU,ZG,ZG,Zr,Zcq,gU hv,aH,and_assoc]
theorem QL {x:Inst} {S:Nat} {l:List Vis} {v:Vis} {k:Nat} :v∈nextU x S l k↔ ∃i,i<k/\S.testBit i=true/\(nth x.orders i).off=false/\v∈ZZ x.orders i/\Uw x l v=true:=by
 rw [nextU,Uq]
 constructor
 ·grind [Uu]
 ·rintro ⟨i,hi,h1,h2,h3,h4⟩;exact ⟨i,by grind,by simp_all [Uu]⟩
def Qs (x:Inst) (S k:Nat):List Vis:=(List.range k).flatMap fun i=>if S.testBit i=true then ZZ x.orders i else []
theorem Cd (x S k):Qs x S (k+1)=Qs x S k++if S.testBit k=true then ZZ x.orders k else []:=by simp [Qs,VT]
theorem VI (x S): ∀k,(Qs x S k).length=FM x S k
 | 0=>by rfl
 | k+1=>by
  rw [Cd,GX,ZQ,VI x S k]
  split<;>simp
theorem QK {x S k v} :v∈Qs x S k↔ ∃i,i<k/\S.testBit i=true/\v∈ZZ x.orders i:=by
 simp_all [Qs]
theorem DV (x S): ∀k,(Qs x S k).Nodup
 | 0=>by simp [Qs]
 | k+1=>by
  rw [Cd,List.nodup_append];refine ⟨DV x S k,?_,fun a ha b hb=> ?_⟩
  ·grind [Ov]
  ·obtain ⟨i,hi,_,h2⟩:=QK.1 ha
   split at hb
   ·have h3:=YQ h2;have h4:=YQ hb
    grind
   ·simp at hb
theorem Gr.nodup {x S l} (h:Gr x S l):l.Nodup:=by
 induction h with
 | nil=>simp
 | snoc _ hv ih =>
  obtain ⟨i,_,_,_,h4,h5⟩:=QL.1 hv;rw [List.nodup_append];refine ⟨ih,Zb,fun a ha b hb=> ?_⟩;simp at hb;subst hb;exact fun e=>((Ux h4).1 h5).1 (e ▸ ha)
theorem Gr.sub {x S l} (h:Gr x S l): ∀v∈l,v∈Qs x S x.orders.length:=by
 induction h with
 | nil=>simp
 | snoc _ hv ih =>
  obtain ⟨i,h1,h2,_,h4,_⟩:=QL.1 hv;intro w hw;rcases Xd.1 hw with hw | hw
  ·exact ih w hw
  ·simp at hw;subst hw;exact QK.2 ⟨i,h1,h2,h4⟩
theorem Ir {α:Type} [DecidableEq α] {l m:List α} (hl:l.Nodup) (h: ∀v∈l,v∈m):l.length<=m.length:=List.Nodup.length_le_of_subset hl h
theorem Zcf {α:Type} [DecidableEq α] {l m:List α} (hl:l.Nodup) (h: ∀v∈l,v∈m) (hm:m.length<=l.length): ∀v∈m,v∈l:=fun v hv=>by
 refine Dr fun hno=> ?_
 have:(v::l).length<=m.length:=Ir (by grind) (fun w hw=>by
  grind)
 grind
theorem Gr.len {x S l} (h:Gr x S l):l.length<=FM x S x.orders.length:=by
 rw [<- VI];exact Ir h.nodup h.sub
theorem Gr.full {x S l} (h:Gr x S l) (hl:l.length=FM x S x.orders.length): ∀v∈Qs x S x.orders.length,v∈l:=Zcf h.nodup h.sub (by rw [VI];omega)
def ext (nx:List Vis->List Vis):Nat->List Vis->List (List Vis)->List (List Vis)
 | 0,l,outs=>if 8192<outs.length then outs else outs++ [l]
 | f+1,l,outs=>if 8192<outs.length then outs else (nx l).foldl (fun acc v=>ext nx f (l++ [v]) acc) outs
theorem RC {S n:Nat} (hS:S<9223372036854775808) (h: ∀j,j<63->S.testBit j=true->j<n):S / pw n=0:=by
 refine Bu ?_;refine Dt S fun i hi=> ?_;rcases W7 i 63 with h2 | h2
 ·grind
 ·exact KR (Jv hS (XZ Za h2:2^63<=2^i))
def Ma (x:Inst) (l:List Vis):Int :=
 if l.any (VM x)=true then 2
 else if l.length=0 then 2
 else if (l.any fun v=>(nth x.orders v.order.toNat).off)=true then 9
 else if ((List.range l.length).any fun i=>decide (vIx l (nth l i)≠(i:Int)))=true then 6
 else if l.all (pairB x.orders l)=false then 19
 else if uO x (ordS l)=true then 20
 else if x.before.all (UY (ordS l) l)=false then 21
 else 0
theorem Oc (x:Inst) (r:Rte) (ho:x.orders.length<=60) (hl:r.visits.length<=1048576) (hap:x.apart.length<=1048576) (hbe:x.before.length<=1048576) (hp:Plc x) :
  PC 86 [.p (Zv x),.p (Z0 r)] (.int .i64 (Ma x r.visits)):=by
 refine Zc Tryz.func86 rfl ZhY ?_;simp (disch:=omega) only [Tryz.f86,go_sem,seval];refine Zi [2,3,5] (fun k:Nat=> [(6,.p (.int .i64 k))]) (fun _=> [Zg x,ZK r]) (fun k=>k<=r.visits.length/\ ∀j,j<k->VM x (nth r.visits j)=false) (fun k=>r.visits.length-k) 0 Zb (Weak.mk ?_) ?_
 ·simp (disch:=omega) only [Zg,ZK,go_sem,seval]
 ·rintro k ⟨hk,hno⟩;refine E9 ?_;refine cD ?_ ?_<;>intro h<;>simp (disch:=omega) only [Sh.out h,go_sem,seval,↓reduceIte]
  ·have hk2:k<r.visits.length:=Za
   refine Z6 (X8 ?_);refine gF ?_ ?_<;>intro h2<;>simp (disch:=omega) only [Sh.out h2,go_sem,seval,↓reduceIte]
   ·have:VM x (nth r.visits k)=true:=by simp [VM];omega
    rw [Ma,if_pos (KG hk2 this)]
   ·refine ZB ?_ ?_<;>intro h3
    ·have:VM x (nth r.visits k)=true:=by simp [VM];omega
     rw [Ma,if_pos (KG hk2 this)]
    ·exact ⟨k+1,⟨Za,Zm.2 ⟨hno,by simp [VM];omega⟩⟩,Za,wk⟩
  ·have hkl:k=r.visits.length:=Za
   subst hkl
   have hr1:Ma x r.visits=if r.visits.length=0 then 2 else if (r.visits.any fun v=>(nth x.orders v.order.toNat).off)=true then 9 else if ((List.range r.visits.length).any fun i=>decide (vIx r.visits (nth r.visits i)≠(i:Int)))=true then 6 else if r.visits.all (pairB x.orders r.visits)=false then 19 else if uO x (ordS r.visits)=true then 20 else if x.before.all (UY (ordS r.visits) r.visits)=false then 21 else 0:=by
    rw [Ma,if_neg (by rw [DX hno];simp)]
   have hin: ∀j,j<r.visits.length->0<=(nth r.visits j).order/\(nth r.visits j).order<x.orders.length:=fun j hj=>by
    grind [VM]
   have hmem: ∀v∈r.visits,0<=v.order/\v.order<x.orders.length:=fun v hv=>by
    obtain ⟨j,hj,rfl⟩:=Z4.1 hv
    grind [Zj]
   have hord:ordR r.visits=(((ordS r.visits:Nat):Int),0):=by
    rw [ordR,if_pos]
    grind [CX]
   have hlt:ordS r.visits<9223372036854775808:=by
    have:=UW r.visits.length (l:=r.visits) (ZM _) (fun v hv=>by
     grind [CX])
    grind
   have hoc:=Aa r hl;rw [hord] at hoc;refine Y0 hoc (X8 ?_);refine cD ?_ ?_<;>intro h3<;>simp (disch:=omega) only [Sh.out h3,go_sem,seval]
   ·grind
   ·rw [hr1,if_neg Za];clear hno hr1 h3 h hk;refine Zi [2,5,7] (fun k:Nat=> [(9,.p (.int .i64 k))]) (fun _=> [Zg x,ZK r]) (fun k=>k<=r.visits.length/\ ∀j,j<k->(nth x.orders (nth r.visits j).order.toNat).off=false) (fun k=>r.visits.length-k) 0 Zb (Weak.mk ?_) ?_
    ·simp (disch:=omega) only [Zg,ZK,go_sem,seval]
    ·rintro k ⟨hk,hno⟩;refine E9 ?_;refine cD ?_ ?_<;>intro h<;>simp (disch:=omega) only [Sh.out h,go_sem,seval,↓reduceIte]
     ·have hk2:k<r.visits.length:=Za
      obtain ⟨i1,i2⟩:=hin k hk2
      have i3:(nth r.visits k).order.toNat<x.orders.length:=Za
      refine Z6 (X8 ?_);refine ZB ?_ ?_<;>intro h4
      ·rw [if_pos (KG hk2 h4)]
      ·exact ⟨k+1,⟨Za,Zm.2 ⟨hno,h4⟩⟩,Za,wk⟩
     ·have hkl:k=r.visits.length:=Za
      subst hkl;have e9:(r.visits.any fun v=>(nth x.orders v.order.toNat).off)=false:=DX hno;rw [e9,if_neg Zb];clear hno h hk;refine Zi [2,5,7] (fun k:Nat=> [(10,.p (.int .i64 k))]) (fun _=> [Zg x,ZK r]) (fun k=>k<=r.visits.length/\ ∀j,j<k->vIx r.visits (nth r.visits j)=(j:Int)) (fun k=>r.visits.length-k) 0 Zb (Weak.mk ?_) ?_
      ·simp (disch:=omega) only [Zg,ZK,go_sem,seval]
      ·rintro k ⟨hk,hno⟩;refine E9 ?_;refine cD ?_ ?_<;>intro h<;>simp (disch:=omega) only [Sh.out h,go_sem,seval,↓reduceIte]
       ·have hk2:k<r.visits.length:=Za
        refine (Kk r.visits r.visits_c (nth r.visits k) hl).use (X8 ?_);refine ZB ?_ ?_<;>intro h4
        ·have:((List.range r.visits.length).any fun i=>decide (vIx r.visits (nth r.visits i)≠(i:Int)))=true:=by
          grind
         grind
        ·exact ⟨k+1,⟨Za,Zm.2 ⟨hno,Za⟩⟩,Za,wk⟩
       ·have hkl:k=r.visits.length:=Za
        subst hkl
        have:((List.range r.visits.length).any fun i=>decide (vIx r.visits (nth r.visits i)≠(i:Int)))=false:=by
         grind
        rw [this,if_neg Zb];refine (S4 x r.visits r.visits_c hl Za hp hmem).use (X8 ?_);refine cD ?_ ?_<;>intro h4<;>simp (disch:=omega) only [Sh.out h4,go_sem,seval,↓reduceIte]
        ·grind
        ·rw [if_neg (by grind)];refine (gZ x (ordS r.visits) hlt hap).use (X8 ?_);refine cD ?_ ?_<;>intro h5<;>simp (disch:=omega) only [Sh.out h5,go_sem,seval,↓reduceIte]
         ·grind
         ·rw [if_neg (by grind)];refine (SO x (ordS r.visits) r.visits r.visits_c hlt hl hbe).use (X8 ?_);refine cD ?_ ?_<;>intro h6<;>simp (disch:=omega) only [Sh.out h6,go_sem,seval]
          ·grind
          grind
structure IFacts (x:Inst):Prop where
 len:x.orders.length<=10
 plc:Plc x
 vne:Vne x
 val:Val x.orders.length x.before
 ne: ∀p∈x.before,p.1≠p.2
 aval:Val x.orders.length x.apart
theorem cO {n:Int} {word:List UInt8} {sm:Int×Int->Int×Int->Bool} {l:List (Int×Int)} (h:JL n word sm l l.length= []): ∀p∈l,oK n p=true:=by
 intro p hp;obtain ⟨i,hi,rfl⟩:=Z4.1 hp;have h2:=(Qd.1 h).2;rw [List.flatMap_eq_nil_iff] at h2;have h3:=h2 i (by grind)
 grind [TA,Zj]
theorem WV {x:Inst} (h:InstOk x):IFacts x:=by
 have ho:=h.orders;obtain ⟨h1,h2⟩:=Qd.1 h.rules;have ha:=cO h1;have hb:=cO h2
 have hpl:Plc x:=fun o hm=>by
  obtain ⟨i,hi,rfl⟩:=Z4.1 hm;have:=ho.2 i hi;rw [<- Zj hi];exact ⟨this.pick.1,this.drp.1⟩
 have val: ∀l:List (Int×Int),(∀p∈l,oK x.orders.length p=true)->Val x.orders.length l:=fun l h p hp=>by
  grind [oK]
 refine ⟨ho.1,hpl,fun i hi=> ?_,val _ hb,fun p hp=> ?_,val _ ha⟩
 ·have h3:=ho.2 i hi;have h4:=hpl _ (Zn hi);have h5:=h3.one
  grind [ZZ]
 grind [oK]
theorem Yn {l:List Vis} {o:Int} :hasO l o=true↔ ∃v∈l,v.order=o:=by simp [hasO]
theorem WE : ∀(l:List Vis) (i:Nat),(ordS l).testBit i=true↔ ∃v∈l,v.order.toNat=i:=by
 have key: ∀(l:List Vis) (s i:Nat),(l.foldl (fun s v=>s|||pw v.order.toNat) s).testBit i=true↔s.testBit i=true\/ ∃v∈l,v.order.toNat=i:=by
  intro l
  induction l with
  | nil=>simp
  | cons v l ih =>
   intro s i;rw [Qc,ih,KZ,Fa,Ur,Zr,or_assoc];simp
 grind [ordS]
def Inr (x:Inst) (l:List Vis):Prop:= ∀v∈l,0<=v.order/\v.order<x.orders.length
theorem EH {x:Inst} {l:List Vis} (hi:Inr x l) (hn:x.orders.length<=60) (o:Int) (h:0<=o/\o<=62):UH (ordS l) o=hasO l o:=by
 rw [Up,eX,WE,Yn]
 constructor
 ·rintro ⟨h1,h2,v,hv,h3⟩;have:=hi v hv
  grind
 grind
theorem Kx {l:List Vis} (hd:l.Nodup) {k:Nat} (hk:k<l.length):vIx l (nth l k)=(k:Int):=by
 refine HJ hk Zb fun j hj=> ?_
 grind [Zj,Ds]
theorem Iz {l:List Vis} {v:Vis} (h:0<=vIx l v):(vIx l v).toNat<l.length/\nth l (vIx l v).toNat=v:=by
 grind [vIx,Gb,Z5,Zj]
theorem Zoy {l:List Vis} {k:Nat} (hk:k<l.length):0<=vIx l (nth l k)/\vIx l (nth l k)<=(k:Int):=by
 grind [vIx,nth,Zn,Gb,Z5]
theorem Kt {l:List Vis} {v:Vis} {i:Nat} (h:v∈l.take i): ∃j,j<i/\j<l.length/\nth l j=v:=by
 obtain ⟨j,hj,rfl⟩:=Z4.1 h;simp at hj;exact ⟨j,Za,Za,by grind [Zj]⟩
theorem J7 {l:List Vis} {i j:Nat} (h:j<i) (hl:j<l.length):nth l j∈l.take i:=by
 grind [Zj,Z4]
theorem AQ {l:List Vis} :Kv l=false↔l.Nodup:=by
 rw [Kv,VU]
 constructor
 ·intro h;rw [List.nodup_iff_pairwise_ne,Ds];intro i j hi hj hij e;have:=h j (by grind);simp only [Zr,Wm] at this;refine this ?_;rw [Zj hj,<- e,<- Zj hi];exact J7 hij hi
 ·intro h j hj;simp only [Zr,Wm]
  grind [Kt,Kx]
theorem Tj {l:List Vis} :((List.range l.length).any fun i=>decide (vIx l (nth l i)≠(i:Int)))=Kv l:=by
 rw [Up]
 constructor
 ·grind [Kx,AQ]
 ·intro h;rw [Kv,Vr] at h;obtain ⟨j,hj,h2⟩:=h;simp only [Zr,Wm] at h2;obtain ⟨i,h3,h4,h5⟩:=Kt h2
  grind
def EE (l:List Vis) (b:Int):Int:=Gb (fun v=>decide (v.order=b)) l
theorem H6 {l:List Vis} {b:Int} :0<=EE l b↔ ∃v∈l,v.order=b:=by
 grind [Ny,EE]
theorem H5 {l:List Vis} {b:Int} (h:0<=EE l b):(EE l b).toNat<l.length/\(nth l (EE l b).toNat).order=b/\ ∀j,j<(EE l b).toNat->(nth l j).order≠b:=by
 unfold EE Gb at h ⊢
 grind [Z5,Zj]
theorem fI {l:List Vis} {b:Int} {k:Nat} (hk:k<l.length) (h:(nth l k).order=b):0<=EE l b/\EE l b<=(k:Int):=by
 have h0:0<=EE l b:=H6.2 ⟨_,Zn hk,h⟩;refine ⟨h0,?_⟩;obtain ⟨h1,h2,h3⟩:=H5 h0
 grind
theorem CT {l:List Vis} {a b:Int} :beforeB l a b=true↔(0<=EE l b->(∃v∈l,v.order=a)/\ ∀j,j<l.length->(nth l j).order=a->(j:Int)<EE l b):=by
 unfold beforeB;rw [show Gb (fun v=>decide (v.order=b)) l=EE l b from rfl]
 by_cases h:EE l b<0
 ·grind
 ·rw [if_neg h,ZG,Yn]
  have h0:0<=EE l b:=Za
  obtain ⟨h1,h2,h3⟩:=H5 h0
  have hd:(!hasO (l.drop (EE l b).toNat) a)=true↔ ∀j,j<l.length->(nth l j).order=a->(j:Int)<EE l b:=by
   rw [YH,<- KV,Yn]
   constructor
   ·intro hno j hj e;rcases Int.lt_or_le (j:Int) (EE l b) with h4 | h4
    ·exact h4
    ·refine absurd ⟨nth l j,?_,e⟩ hno;rw [Zj hj];exact Z4.2 ⟨j-(EE l b).toNat,by simp;omega,by grind⟩
   ·rintro YB ⟨v,hv,e⟩;obtain ⟨j,hj,rfl⟩:=Z4.1 hv
    grind [Zj]
  grind
theorem Ni {x:Inst} {l:List Vis} (hi:Inr x l) (hn:x.orders.length<=60) {p:Int×Int} (h1:0<=p.1/\p.1<x.orders.length) (h2:0<=p.2/\p.2<x.orders.length) (hne:p.1≠p.2):UY (ordS l) l p=beforeB l p.1 p.2:=by
 rw [Up,CT,UY,EH hi hn _ Za,EH hi hn _ Za];simp only [Ur,YH,ZG];rw [<- KV,Yn,Yn,<- H6,<- H6 (b:=p.1)]
 constructor
 ·rintro (h | ⟨h3,h4⟩) h0
  ·omega
  ·refine ⟨h3,fun j hj e=> ?_⟩;rw [Zw] at h4;have h5:=h4 j (by grind);rw [Zw] at h5;obtain ⟨g1,g2,g3⟩:=H5 h0;rcases Int.lt_or_le (j:Int) (EE l p.2) with h6 | h6
   ·exact h6
   ·have hne2:j≠(EE l p.2).toNat:=fun e2=>hne (by grind);have:=h5 (EE l p.2).toNat (by simp;omega)
    grind [JG]
 ·intro h
  by_cases h0:0<=EE l p.2
  ·obtain ⟨h3,h4⟩:=h h0;refine .inr ⟨h3,?_⟩;rw [Zw];intro j hj;rw [Zw];intro k hk;simp at hj hk
   cases hb:JG l p.1 p.2 j k with
   | false=>rfl
   | true =>
    simp [JG] at hb;have h5:=h4 j hj hb.1;have h6:=(fI Za hb.2).2;omega
  omega
theorem pK {x:Inst} (hf:IFacts x) (l:List Vis):Ma x l=Xr x l:=by
 by_cases ho:l.any (VM x)=true
 ·simp_all [Ma,Xr]
 ·have ho':l.any (VM x)=false:=by grind
  have hi:Inr x l:=fun v hv=>by
   grind [VM]
  have hn:x.orders.length<=60:=by have:=hf.len;omega
  rw [Ma,if_neg ho,Xr]
  by_cases h0:l.length=0
  ·omega
  ·have hc: ¬(l.length=0\/l.any (VM x)=true):=fun h=>h.elim h0 ho;rw [if_neg h0,if_neg hc,Tj]
   have e1:uO x (ordS l)=x.apart.any fun p=>hasO l p.1&&hasO l p.2:=by
    rw [uO,Up,Vr,Vr]
    have: ∀p∈x.apart,(UH (ordS l) p.1&&UH (ordS l) p.2)=(hasO l p.1&&hasO l p.2):=fun p hp=>by
     have:=hf.aval p hp
     grind [EH]
    grind
   have e2:(x.before.all (UY (ordS l) l)=false)=((x.before.any fun p=> !beforeB l p.1 p.2)=true):=by
    have: ∀p∈x.before,UY (ordS l) l p=beforeB l p.1 p.2:=fun p hp=>by
     have:=hf.val p hp;exact Ni hi hn Za Za (hf.ne p hp)
    grind
   grind
def Xe (p:Pln):AM.Obj:= .cells [.p (.list p.routes_c (p.routes.map Z0)),.p (.list p.unserved_c (p.unserved.map eI))]
def AK (r:Rte):Prop:=r.visits.length<=1048576/\r.rests.length<=1048576
def Y8 (f:Nat->Int) (n:Nat):List Int:=(List.range n).map f
theorem ES {f n} :(Y8 f n).length=n:=by simp [Y8]
theorem ET {f:Nat->Int} {n j:Nat} (h:j<n):nth (Y8 f n) j=f j:=by grind [Zj,Y8]
theorem DI {f g:Nat->Int} {n:Nat} (h: ∀i,i<n->f i=g i):Y8 f n=Y8 g n:=Yw fun i hi=>h i (Xc.1 hi)
theorem Mf {f n j v} :(Y8 f n).set j v=Y8 (fun i=>if i=j then v else f i) n:=by
 refine UN (by simp [Y8]) fun i h1 h2=> ?_
 have hi:i<n:=by grind [Y8]
 rw [List.getElem_set];simp only [Y8,List.getElem_map,List.getElem_range];omega
def Xt (rs:List Rte):Nat->Nat->Int
 | 0,_=> -1
 | k+1,o=>if hasO (nth rs k).visits (o:Int)=true then (k:Int) else Xt rs k o
theorem QG {rs:List Rte} {o:Nat} : ∀k:Nat,-1<=Xt rs k o/\Xt rs k o<(k:Int)
 | 0=>by simp [Xt]
 | k+1=>by
  have:=QG (rs:=rs) (o:=o) k
  grind [Xt]
def Qk (rs:List Rte) (k:Nat) (l:List Vis) (o:Nat):Int:=if hasO l (o:Int)=true then (k:Int) else Xt rs k o
def Fb (n:Nat) (v:Vis):Bool:=decide (v.order<0)||decide ((n:Int)<=v.order)
def QO (x:Inst) (r:Rte):Bool:=(decide (r.typ<0)||decide ((x.types.length:Int)<=r.typ))||r.visits.any (Fb x.orders.length)
def P1 (rs:List Rte) (k:Nat) (l:List Vis):Bool:=l.any fun v=>decide (0<=Xt rs k v.order.toNat)
def MK (rs:List Rte):Nat->Bool
 | 0=>false
 | k+1=>MK rs k||P1 rs k (nth rs k).visits
def Ys (x:Inst) (p:Pln):Int:=if p.routes.any (QO x)=true then 2 else if MK p.routes p.routes.length=true then 6 else 0
def Jm (rs:List Rte) (i:Int):Int:=if 0<=i then (nth rs i.toNat).typ else-1
def Dg (x:Inst) (p:Pln):List Int:=Y8 (fun o=>Jm p.routes (Xt p.routes p.routes.length o)) x.orders.length
theorem Ep {x p} :(Dg x p).length=x.orders.length:=ES
theorem R4 {l:List Vis} {v:Vis} {o:Int} :hasO (l++ [v]) o=(hasO l o||decide (v.order=o)):=by simp [hasO]
theorem Sf {rs:List Rte} {k:Nat} {l:List Vis} {v:Vis} {n:Nat} (h:0<=v.order/\v.order<(n:Int)):(Y8 (Qk rs k l) n).set v.order.toNat (k:Int)=Y8 (Qk rs k (l++ [v])) n:=by
 rw [Mf];refine DI fun i hi=> ?_;rw [Qk,Qk,R4]
 grind
theorem eK {rs:List Rte} {k:Nat} :Qk rs k (nth rs k).visits=Xt rs (k+1):=funext fun o=>rfl
theorem Zim {rs:List Rte} {k:Nat} :Qk rs k []=Xt rs k:=funext fun o=>by rfl
theorem eL {rs:List Rte} {k:Nat} {l:List Vis} {o:Nat} : -1<=Qk rs k l o/\Qk rs k l o<=(k:Int):=by
 have:=QG (rs:=rs) (o:=o) k
 grind [Qk]
theorem jD {rs:List Rte} {k:Nat} {l:List Vis} {v:Vis} (h:0<=v.order) {b:Bool} :((b||P1 rs k l)||(decide (Qk rs k l v.order.toNat≠ -1)&&decide (Qk rs k l v.order.toNat≠(k:Int))))=(b||P1 rs k (l++ [v])):=by
 have hr:=QG (rs:=rs) (o:=v.order.toNat) k
 have e:P1 rs k (l++ [v])=(P1 rs k l||decide (0<=Xt rs k v.order.toNat)):=by simp [P1]
 rw [e,Qk]
 by_cases c:hasO l (v.order.toNat:Int)=true
 ·rw [if_pos c]
  grind [P1,Yn]
 grind
theorem Bl {x:Inst} {p:Pln} {k:Nat} (h:k<p.routes.length) (hb:QO x (nth p.routes k)=true):Ys x p=2:=by
 rw [Ys,if_pos (Vr.2 ⟨_,Zn h,hb⟩)]
theorem pJ {x:Inst} {p:Pln} (h: ∀j,j<p.routes.length->QO x (nth p.routes j)=false):p.routes.any (QO x)=false:=by
 rw [VU];intro r hr;obtain ⟨j,hj,rfl⟩:=Z4.1 hr
 grind [Zj]
theorem HQ {x:Inst} {p:Pln} (h: ∀j,j<p.routes.length->QO x (nth p.routes j)=false):Ys x p=if MK p.routes p.routes.length=true then 6 else 0:=by
 rw [Ys,pJ h];simp
set_option maxRecDepth 60000
def Jl : List Rte->Int->Int
 | [],_=> -1
 | r::t,o=>if hasO r.visits o=true then r.typ else Jl t o
theorem CV {α:Type} [Inhabited α] {l:List α} {k:Nat} (h:k<l.length):l.drop k=nth l k::l.drop (k+1):=by rw [Vq h,Zj h]
theorem R3 {v:Vis} {l:List Vis} {o:Int} :hasO (v::l) o=(decide (v.order=o)||hasO l o):=rfl
theorem Zb7 {P Q:Prop} (h:Q) (e:Q->P:=by intro h;simp (disch:=omega) only [Xe,go_sem,seval];exact h):P:=e h
theorem GO (p:Pln) (o:Int) (hr:p.routes.length<=1048576) (hv: ∀r∈p.routes,r.visits.length<=1048576) :
  PC 133 [.p (Wk p),.p (.int .i64 o)] (.int .i64 (Jl p.routes o)):=by
 refine Zc Tryz.func133 rfl xU ?_;simp (disch:=omega) only [Tryz.f133,go_sem,seval];refine Zi [1,2] (fun k:Nat=> [(5,.p (.int .i64 k))]) (fun _=> [Xe p]) (fun k=>k<=p.routes.length/\Jl p.routes o=Jl (p.routes.drop k) o) (fun k=>p.routes.length-k) 0 Zb (Weak.mk ?_) ?_
 ·simp (disch:=omega) only [Xe,go_sem,seval]
 ·rintro k ⟨hk,he⟩;refine Zb7 ?_;refine cD ?_ ?_<;>intro h<;>simp (disch:=omega) only [Sh.out h,go_sem,seval,↓reduceIte]
  ·have hk2:k<p.routes.length:=Za
   have hvl:=hv _ (Zn hk2);rw [CV hk2,Jl] at he;refine Zi [1,2,5] (fun q:Nat=> [(6,.p (.int .i64 q))]) (fun _=> [Xe p]) (fun q=>q<=(nth p.routes k).visits.length/\hasO (nth p.routes k).visits o=hasO ((nth p.routes k).visits.drop q) o) (fun q=>(nth p.routes k).visits.length-q) 0 Zb (Weak.mk ?_) ?_
   ·simp (disch:=omega) only [Xe,go_sem,seval]
   ·rintro q ⟨hq,hh⟩;refine Zb7 ?_;refine ZB ?_ ?_<;>intro h2
    ·have hq2:q<(nth p.routes k).visits.length:=Za
     rw [CV hq2,R3] at hh;refine ZB ?_ ?_<;>intro h3
     ·grind
     ·rw [Xn h3,Bool.false_or] at hh;exact ⟨q+1,⟨Za,hh⟩,Za,wk⟩
    ·have hql:q=(nth p.routes k).visits.length:=Za
     rw [hql,VW] at hh;rw [if_neg (by grind [hasO])] at he;exact ⟨k+1,⟨Za,he⟩,Za,wk⟩
  grind [Jl]
def nW (rs:List Rte) (o:Int):Nat->Nat
 | 0=>0
 | k+1=>nW rs o k+if hasO (nth rs k).visits o=true then 1 else 0
theorem tF {rs:List Rte} {o:Int} : ∀k,nW rs o k<=k
 | 0=>by simp [nW]
 | k+1=>by have:=tF (rs:=rs) (o:=o) k;rw [nW];split<;>omega
theorem Qm {rs:List Rte} {o:Int} : ∀ {k:Nat},1<=nW rs o k↔ ∃a,a<k/\hasO (nth rs a).visits o=true
 | 0=>by simp [nW]
 | k+1=>by
  rw [nW]
  constructor
  ·intro h
   by_cases c:hasO (nth rs k).visits o=true
   ·grind
   ·rw [if_neg c] at h;obtain ⟨a,h1,h2⟩:=Qm.1 (show 1<=nW rs o k by omega);exact ⟨a,Za,h2⟩
  ·rintro ⟨a,h1,h2⟩
   by_cases c:a=k
   ·grind
   ·have:=Qm.2 ⟨a,show a<k by omega,h2⟩;omega
theorem eY {rs:List Rte} {o:Int} : ∀ {k:Nat},2<=nW rs o k↔ ∃a b,a<b/\b<k/\hasO (nth rs a).visits o=true/\hasO (nth rs b).visits o=true
 | 0=>by simp [nW]
 | k+1=>by
  rw [nW]
  constructor
  ·intro h
   by_cases c:hasO (nth rs k).visits o=true
   ·rw [if_pos c] at h
    grind [Qm]
   ·rw [if_neg c] at h;obtain ⟨a,b,h1,h2,h3⟩:=eY.1 (show 2<=nW rs o k by omega);exact ⟨a,b,h1,Za,h3⟩
  ·rintro ⟨a,b,h1,h2,h3,h4⟩
   by_cases c:b=k
   ·subst c;have:=Qm.2 ⟨a,h1,h3⟩
    grind
   ·have:=eY.2 ⟨a,b,h1,show b<k by omega,h3,h4⟩;omega
theorem QF {rs:List Rte} {o:Nat} : ∀ {k:Nat},0<=Xt rs k o↔ ∃a,a<k/\hasO (nth rs a).visits (o:Int)=true
 | 0=>by simp [Xt]
 | k+1=>by
  rw [Xt]
  constructor
  ·intro h
   by_cases c:hasO (nth rs k).visits (o:Int)=true
   ·grind
   ·rw [if_neg c] at h;obtain ⟨a,h1,h2⟩:=QF.1 h;exact ⟨a,Za,h2⟩
  ·rintro ⟨a,h1,h2⟩
   by_cases c:hasO (nth rs k).visits (o:Int)=true
   ·grind
   ·rw [if_neg c];refine QF.2 ⟨a,?_,h2⟩
    grind
theorem DL {rs:List Rte} : ∀ {k:Nat},(∀j,j<k-> ∀v∈(nth rs j).visits,0<=v.order)->(MK rs k=true↔ ∃o:Nat,2<=nW rs (o:Int) k/\ ∃j,j<k/\hasO (nth rs j).visits (o:Int)=true)
 | 0,_=>by simp [MK,nW]
 | k+1,h=>by
  rw [MK,Ur,DL fun j hj=>h j Za]
  constructor
  ·rintro (⟨o,h1,j,h2,h3⟩ | h1)
   ·grind [nW]
   ·rw [P1,Vr] at h1;obtain ⟨v,hv,h2⟩:=h1;have h3:=QF.1 (Jo h2);have h4:=Qm.2 h3;have h5:hasO (nth rs k).visits (v.order.toNat:Int)=true:=Yn.2 ⟨v,hv,by grind⟩;exact ⟨v.order.toNat,by simp_all [nW],k,Za,h5⟩
  ·rintro ⟨o,h1,_⟩;rw [nW] at h1
   by_cases c:hasO (nth rs k).visits (o:Int)=true
   ·rw [if_pos c] at h1;refine .inr ?_;obtain ⟨v,hv,e⟩:=Yn.1 c;rw [P1,Vr];refine ⟨v,hv,XQ ?_⟩
    simp_all [QF,Qm]
   grind
theorem Gm {o:Int} {r:Rte} : ∀ {a:List Rte},Jl (a++ [r]) o=if (a.any fun r=>hasO r.visits o)=true then Jl a o else if hasO r.visits o=true then r.typ else-1
 | []=>by simp [Jl]
 | s::t=>by
  rw [Xu,Jl,Jl,Gm]
  by_cases c:hasO s.visits o=true
  ·simp [c]
  ·simp [c]
theorem Gl {rs:List Rte} {o:Nat} : ∀ {k:Nat},k<=rs.length->nW rs (o:Int) k<=1->Jl (rs.take k) (o:Int)=Jm rs (Xt rs k o)
 | 0,_,_=>by rfl
 | k+1,hk,h=>by
  have hk2:k<rs.length:=Za
  rw [nW] at h;rw [Zx hk2,<- Zj hk2,Gm,Xt]
  have hany:((rs.take k).any fun r=>hasO r.visits (o:Int))=true↔1<=nW rs (o:Int) k:=by
   rw [Qm,Vr]
   constructor
   ·rintro ⟨r,hr,h1⟩;obtain ⟨a,ha,rfl⟩:=Z4.1 hr;rw [ZA] at ha;rw [List.getElem_take] at h1;exact ⟨a,Za,by grind [Zj]⟩
   ·rintro ⟨a,ha,h1⟩;refine ⟨nth rs a,?_,h1⟩;rw [Zj Za,List.mem_take_iff_getElem]
    grind
  by_cases c:hasO (nth rs k).visits (o:Int)=true
  ·simp_all [Jm]
  ·rw [if_neg c] at h;have ih:=Gl (rs:=rs) (o:=o) (k:=k) Za Za
   simp_all [Qm,QF,Jm]
theorem Gk {x:Inst} {p:Pln} (h:Ys x p=0):(∀r∈p.routes,QO x r=false)/\MK p.routes p.routes.length=false:=by
 grind [Ys]
theorem QP {x:Inst} {r:Rte} (h:QO x r=false):(0<=r.typ/\r.typ<(x.types.length:Int))/\ ∀v∈r.visits,0<=v.order/\v.order<(x.orders.length:Int):=by
 simp_all [QO,Fb]
theorem dX {x:Inst} {p:Pln} (h:Ys x p=0):Y8 (fun i=>Jl p.routes (i:Int)) x.orders.length=Dg x p:=by
 obtain ⟨h1,h2⟩:=Gk h;refine DI fun i _=> ?_
 have h3:nW p.routes (i:Int) p.routes.length<=1:=by
  refine Nat.le_of_not_lt fun h4=> ?_;have h5:=(DL (rs:=p.routes) (k:=p.routes.length) fun j hj v hv=>((QP (h1 _ (Zn hj))).2 v hv).1).2 ⟨i,h4,by grind [Qm]⟩
  grind
 have:=Gl (rs:=p.routes) (o:=i) (k:=p.routes.length) (ZM _) h3
 grind
def WH {α:Type} (f:Nat->α) (n:Nat):List α:=(List.range n).map f
section
variable {α : Type} {f g : Nat -> α} {n j : Nat}
theorem Wf : (WH f n).length=n:=by simp [WH]
theorem Km [Inhabited α] (h:j<n):nth (WH f n) j=f j:=by grind [Zj,WH]
theorem Ab (h: ∀i,i<n->f i=g i):WH f n=WH g n:=Yw fun i hi=>h i (Xc.1 hi)
theorem Mh {v:α} :(WH f n).set j v=WH (fun i=>if i=j then v else f i) n:=by
 refine UN (by simp [WH]) fun i h1 h2=> ?_;rw [List.getElem_set];simp only [WH,List.getElem_map,List.getElem_range]
 grind
theorem S1 : WH f (n+1)=WH f n++ [f n]:=by simp [WH,VT]
theorem S0 [Inhabited α] {l:List α} :WH (nth l) l.length=l:=by
 refine UN Wf fun i h1 h2=> ?_;rw [<- Zj h1,Km h2,Zj h2]
end
def zeroI : Inst:=⟨⟨true,[],true,[]⟩,true,[],true,[],true,[],true,[]⟩
theorem LL {x:Inst} {p:Pln} (h:Ys x p=0) {j:Nat} (hj:j<x.orders.length): -1<=nth (Dg x p) j/\nth (Dg x p) j<(x.types.length:Int):=by
 obtain ⟨h1,_⟩:=Gk h;rw [Dg,ET hj,Jm];have hr:=QG (rs:=p.routes) (o:=j) p.routes.length
 split
 ·have:=(QP (h1 _ (Zn (show (Xt p.routes p.routes.length j).toNat<p.routes.length by omega)))).1;omega
 ·omega
end Go.Proofs.YtiigdaohjanidaaGreatDoor.K
namespace Go.Proofs.YtiigdaohjanidaaGreatDoor.K
section
variable {L : Type} (fin : L -> Int) (beats : L -> L -> Bool) (nxt : Nat -> L -> Bool -> Option L) (choices : Nat -> List Bool)
def Vh : Option L->List L->Option L
 | b,[]=>b
 | none,x::l=>Vh (some x) l
 | some m,x::l=>if fin x<fin m then Vh (some x) l else Vh (some m) l
theorem KO : ∀(b:Option L) (l r:List L),Vh fin b (l++r)=Vh fin (Vh fin b l) r
 | b,[],r=>by rfl
 | none,x::l,r=>by rw [Xu,Vh,Vh,KO]
 | some m,x::l,r=>by
  rw [Xu,Vh,Vh]
  split
  ·rw [KO]
  ·rw [KO]
theorem QD : ∀(l:List L) (m:L),∃z,Vh fin (some m) l=some z/\fin z<=fin m/\ ∀y∈l,fin z<=fin y
 | [],m=>⟨m,rfl,Za,Zb⟩
 | x::l,m=>by
  rw [Vh]
  split
  ·rename_i h;obtain ⟨z,e,h1,h2⟩:=QD l x
   grind
  ·rename_i h;obtain ⟨z,e,h1,h2⟩:=QD l m
   grind
theorem LA : ∀(l:List L) (m:L),(∀y∈l,fin m<=fin y)->Vh fin (some m) l=some m
 | [],m,_=>rfl
 | x::l,m,h=>by
  have:=h x List.mem_cons_self;rw [Vh,if_neg Za];exact LA l m fun y hy=>h y (Yv _ hy)
theorem RY (A B:List L) (h: ∀y∈B,∃z∈A,fin z<=fin y):Vh fin none (A++B)=Vh fin none A:=by
 rw [KO]
 cases A with
 | nil=>cases B with
  | nil=>rfl
  | cons y B=>grind [List.mem_cons_self]
 | cons a A =>
  rw [Vh];obtain ⟨z,e,h1,h2⟩:=QD fin A a;rw [e];refine LA fin B z fun y hy=> ?_
  grind
def XW : List L->List L->List L
 | out,[]=>out
 | out,x::l=>if out.any (fun m=>beats m x)=true then XW out l else XW (out++ [x]) l
theorem Ck {R:L->List L} : ∀(c out:List L),(∀x∈out++c,∀m∈out++c,beats m x=true-> ∀y∈R x,∃z∈R m,fin z<=fin y)->Vh fin none ((XW beats out c).flatMap R)=Vh fin none ((out++c).flatMap R)
 | [],out,_=>by simp [XW]
 | x::c,out,h=>by
  rw [XW]
  split
  ·rename_i hb;obtain ⟨m,hm,hb⟩:=Vr.1 hb
   have hb:beats m x=true:=by simpa using hb
   rw [Ck c out (fun a ha b hb=>h a (by simp only [Xd,Yj] at ha ⊢;rcases ha with h | h<;>simp [h]) b (by simp only [Xd,Yj] at hb ⊢;rcases hb with h | h<;>simp [h]))];rw [List.flatMap_append,List.flatMap_append,List.flatMap_cons,<- VV,KO,KO (l:=out.flatMap R++R x)];rw [RY fin (out.flatMap R) (R x)];intro y hy;obtain ⟨z,hz,hle⟩:=h x Zb m (by simp [hm]) hb y hy;exact ⟨z,Uq.2 ⟨m,hm,hz⟩,hle⟩
  ·rw [Ck c (out++ [x]) (by simpa using h)];simp
theorem K9 : ∀(c out:List L),∀x∈XW beats out c,x∈out++c
 | [],out,x,h=>by grind [XW]
 | a::c,out,x,h=>by
  rw [XW] at h
  split at h
  ·have:=K9 c out x h;simp only [Xd,Yj] at this ⊢;rcases this with h | h<;>simp [h]
  ·have:=K9 c (out++ [a]) x h;simpa using this
def HI : Nat->Nat->List (List Bool)
 | 0,_=> [[]]
 | j+1,k=>(choices k).flatMap fun b=>(HI j (k+1)).map (b:: ·)
def Vg : Nat->L->List Bool->Option L
 | _,x,[]=>some x
 | k,x,b::bs=>match nxt k x b with
  | some y=>Vg (k+1) y bs
  | none=>none
def W9 (j k:Nat) (x:L):List L:=(HI choices j k).filterMap (Vg nxt k x)
def WT (k:Nat) (l:List L):List L:=l.flatMap fun x=>(choices k).filterMap (nxt k x)
def JF : Nat->Nat->List L->List L
 | 0,_,l=>l
 | j+1,k,l=>JF j (k+1) (XW beats [] (WT nxt choices k l))
theorem Oe (k:Nat) (x:L):W9 nxt choices 0 k x= [x]:=rfl
theorem EP (j k:Nat) (x:L):W9 nxt choices (j+1) k x=((choices k).filterMap (nxt k x)).flatMap (W9 nxt choices j (k+1)):=by
 unfold W9;rw [HI]
 induction choices k with
 | nil=>rfl
 | cons b bs ih =>
  rw [List.flatMap_cons,List.filterMap_append,ih,List.filterMap_cons]
  cases h:nxt k x b with
  | none =>
   simp_all [Vg]
  | some y =>
   rw [List.filterMap_map]
   have:(Vg nxt k x∘fun l=>b::l)=Vg nxt (k+1) y:=by grind [Vg]
   grind
theorem GM {n:Nat} {Inv:Nat->L->Prop} (hI: ∀k x b y,Inv k x->nxt k x b=some y->Inv (k+1) y) (hd: ∀k m x b y,Inv k m->Inv k x->beats m x=true->nxt k x b=some y-> ∃z,nxt k m b=some z/\beats z y=true)
  (he: ∀m x,Inv n m->Inv n x->beats m x=true->fin m<=fin x): ∀(j k:Nat) (m x:L),k+j=n->Inv k m->Inv k x->beats m x=true-> ∀y∈W9 nxt choices j k x,∃z∈W9 nxt choices j k m,fin z<=fin y
 | 0,k,m,x,hk,h1,h2,hb,y,hy=>by
  grind [Oe]
 | j+1,k,m,x,hk,h1,h2,hb,y,hy=>by
  rw [EP] at hy ⊢;obtain ⟨q,hq,hy⟩:=Uq.1 hy;obtain ⟨b,hbm,hn⟩:=Bt.1 hq;obtain ⟨z,hz,hzb⟩:=hd k m x b q h1 h2 hb hn;obtain ⟨u,hu,hle⟩:=GM hI hd he j (k+1) z q Za (hI k m b z h1 hz) (hI k x b q h2 hn) hzb y hy
  grind
theorem Pp {n:Nat} {Inv:Nat->L->Prop} (hI: ∀k x b y,Inv k x->nxt k x b=some y->Inv (k+1) y) (hd: ∀k m x b y,Inv k m->Inv k x->beats m x=true->nxt k x b=some y-> ∃z,nxt k m b=some z/\beats z y=true)
  (he: ∀m x,Inv n m->Inv n x->beats m x=true->fin m<=fin x): ∀(j k:Nat) (l:List L),k+j=n->(∀x∈l,Inv k x)->Vh fin none (JF beats nxt choices j k l)=Vh fin none (l.flatMap (W9 nxt choices j k))
 | 0,k,l,hk,hl=>by
  have:l.flatMap (W9 nxt choices 0 k)=l:=by
   have:W9 nxt choices 0 k=fun x=> [x]:=by rfl
   rw [this];simp
  rw [this];rfl
 | j+1,k,l,hk,hl=>by
  have hc: ∀x∈WT nxt choices k l,Inv (k+1) x:=fun x hx=>by
   obtain ⟨q,hq,hx⟩:=Uq.1 hx
   grind
  have e:l.flatMap (W9 nxt choices (j+1) k)=(WT nxt choices k l).flatMap (W9 nxt choices j (k+1)):=by
   rw [WT,List.flatMap_assoc]
   congr 1
   grind [EP]
  rw [JF,Pp hI hd he j (k+1) _ Za (fun x hx=>hc x (by simpa using K9 beats _ _ x hx)),Ck fin beats _ _ (fun x hx m hm hb y hy=> ?_),e]
  ·simp
  ·exact GM fin beats nxt choices hI hd he j (k+1) m x Za (hc m (by grind)) (hc x (by grind)) hb y hy
def Y3 : List Bool->List (List Bool)
 | []=> [[]]
 | b::bs=>if b then (Y3 bs).map (true:: ·) else (Y3 bs).map (false:: ·)++(Y3 (List.replicate bs.length false)).map (true:: ·)
termination_by l => l.length
decreasing_by all_goals simp
def Ye : List Bool->Option (List Bool)
 | []=>none
 | b::bs=>match Ye bs with
  | some l=>some (b::l)
  | none=>if b then none else some (true::List.replicate bs.length false)
theorem fromB_next : ∀l:List Bool,Y3 l=l::(match Ye l with | some r=>Y3 r | none=> [])
 | []=>by simp [Y3,Ye]
 | b::bs=>by
  have ih:=fromB_next bs
  have e0: ∀l:List Bool,Y3 (true::l)=(Y3 l).map (true:: ·):=fun l=>by rw [Y3];simp
  have e1: ∀l:List Bool,Y3 (false::l)=(Y3 l).map (false:: ·)++(Y3 (List.replicate l.length false)).map (true:: ·):=fun l=>by rw [Y3];simp
  cases b with
  | true =>
   rw [e0,ih,Ye]
   cases h:Ye bs with
   | none=>simp
   | some r=>simp [e0]
  | false =>
   rw [e1,ih,Ye]
   cases h:Ye bs with
   | none=>simp [e0]
   | some r =>
    have hl:r.length=bs.length:=nlen bs r h;simp [e1,hl]
where nlen : ∀(l r:List Bool),Ye l=some r->r.length=l.length
 | [],r,h=>by simp [Ye] at h
 | b::bs,r,h=>by
  rw [Ye] at h
  cases h2:Ye bs with
  | none =>
   grind
  | some q =>
   rw [h2] at h;simp at h;subst h;simp [nlen bs q h2]
theorem Lr {n:Nat} : ∀(j k:Nat),(∀q,k<=q->choices q= [false,true])->HI choices j k=Y3 (List.replicate j false)
 | 0,k,_=>by simp [HI,Y3]
 | j+1,k,h=>by
  rw [HI,h k (ZM _),Lr (n:=n) j (k+1) (fun q hq=>h q Za),Jn,Y3];simp
end
end Go.Proofs.YtiigdaohjanidaaGreatDoor.K
namespace Go.Proofs.YtiigdaohjanidaaGreatDoor.K
open Go Go.AM Go.Proofs
def FA (x:Inst) (l:List Vis) (n i:Nat):Bool:=(l.take n).foldl (fun on v=>if v.order=(i:Int) then !v.drp else on) (decide ((nth x.orders i).pick.place<0))
theorem fN {x:Inst} {l:List Vis} {i:Nat} :FA x l 0 i=decide ((nth x.orders i).pick.place<0):=by simp [FA]
theorem EG {x:Inst} {l:List Vis} {n i:Nat} (h:n<l.length):FA x l (n+1) i=if (nth l n).order=(i:Int) then !(nth l n).drp else FA x l n i:=by
 grind [FA,Zx,Zj]
structure SqOk (x:Inst) (l:List Vis):Prop where
 ne:l≠ []
 inr:Inr x l
 nd:l.Nodup
 pair: ∀v∈l,pairB x.orders l v=true
theorem VD {x:Inst} {l:List Vis} (h:Xr x l=0):SqOk x l:=by
 unfold Xr at h
 split at h
 ·simp at h
 ·rename_i h1
  split at h
  ·simp at h
  ·split at h
   ·simp at h
   ·rename_i h3
    split at h
    ·simp at h
    ·rename_i h4;refine ⟨fun e=>h1 (.inl (by simp [e])),fun v hv=> ?_,AQ.1 (by grind),fun v hv=> ?_⟩
     ·grind [VM]
     grind
structure OwnV (x:Inst) (l:List Vis) (i:Nat):Prop where
 pick:0<=(nth x.orders i).pick.place->(⟨i,false⟩:Vis)∈l
 drp:0<=(nth x.orders i).drp.place->(⟨i,true⟩:Vis)∈l
 both:0<=(nth x.orders i).pick.place->0<=(nth x.orders i).drp.place->vIx l ⟨i,false⟩<vIx l ⟨i,true⟩
 isP:(⟨i,false⟩:Vis)∈l->0<=(nth x.orders i).pick.place
 isD:(⟨i,true⟩:Vis)∈l->0<=(nth x.orders i).drp.place
theorem SqOk.own {x:Inst} {l:List Vis} (h:SqOk x l) {i:Nat} (hi: ∃v∈l,v.order=(i:Int)):OwnV x l i:=by
 obtain ⟨v0,hv0,ho⟩:=hi
 have key: ∀v∈l,v.order=(i:Int)->v∈ZZ x.orders i/\U5 l (-1) (ZZ x.orders i)=true:=fun v hv hvo=>by
  have:=h.pair v hv;simp only [pairB,hvo,XU,ZG,Zr] at this;exact ⟨Wm.1 this.1,this.2⟩
 obtain ⟨_,hasc⟩:=key v0 hv0 ho;have mem: ∀b:Bool,(⟨i,b⟩:Vis)∈l->(⟨i,b⟩:Vis)∈ZZ x.orders i:=fun b hb=>(key _ hb rfl).1
 have hp:(⟨i,false⟩:Vis)∈ZZ x.orders i->0<=(nth x.orders i).pick.place:=fun hm=>by
  unfold ZZ at hm
  grind
 have hd:(⟨i,true⟩:Vis)∈ZZ x.orders i->0<=(nth x.orders i).drp.place:=fun hm=>by
  unfold ZZ at hm
  grind
 have m1: ∀v,-1<vIx l v->v∈l:=fun v hv=>Wm.1 Za;unfold ZZ at hasc
 by_cases c1:0<=(nth x.orders i).pick.place<;>by_cases c2:0<=(nth x.orders i).drp.place
 ·simp only [c1,c2,if_true,Xu,ZF,U5,UP,ZG,Zr] at hasc;exact ⟨fun _=>m1 _ hasc.1,fun _=>m1 _ Za,fun _ _=>hasc.2,fun _=>c1,fun _=>c2⟩
 ·simp only [c1,c2,if_true,Yy,Wc,U5,UP,Zr] at hasc;exact ⟨fun _=>m1 _ hasc,fun h=>absurd h c2,fun _ h=>absurd h c2,fun _=>c1,fun hm=>hd (mem _ hm)⟩
 ·simp only [c1,c2,if_true,Yy,ZF,U5,UP,Zr] at hasc;exact ⟨fun h=>absurd h c1,fun _=>m1 _ hasc,fun h=>absurd h c1,fun hm=>hp (mem _ hm),fun _=>c2⟩
 ·exact ⟨fun h=>absurd h c1,fun h=>absurd h c2,fun h=>absurd h c1,fun hm=>hp (mem _ hm),fun hm=>hd (mem _ hm)⟩
theorem QW {l:List Vis} (hn:l.Nodup) {v:Vis} {n:Nat} :v∈l.take n↔0<=vIx l v/\vIx l v<(n:Int):=by
 constructor
 ·intro h;obtain ⟨j,h1,h2,rfl⟩:=Kt h
  grind [Kx]
 ·intro ⟨h1,h2⟩;obtain ⟨h3,h4⟩:=Iz h1
  grind [J7]
theorem fM {x:Inst} {l:List Vis} (h:SqOk x l) (i:Nat): ∀n,n<=l.length->FA x l n i=if (⟨i,true⟩:Vis)∈l.take n then false else if (⟨i,false⟩:Vis)∈l.take n then true else decide ((nth x.orders i).pick.place<0)
 | 0,_=>by simp [FA]
 | n+1,hn=>by
  have hk:n<l.length:=Za
  have hat:=Kx h.nd hk;rw [EG hk,fM h i n Za]
  by_cases c:(nth l n).order=(i:Int)
  ·rw [if_pos c];have ho:=h.own (i:=i) ⟨nth l n,Zn hk,c⟩
   cases hd:(nth l n).drp with
   | true =>
    have hv:nth l n=⟨i,true⟩:=by rw [<- c,<- hd]
    rw [hv] at hat;have:(⟨i,true⟩:Vis)∈l.take (n+1):=(QW h.nd).2 Za;rw [if_pos this];rfl
   | false =>
    have hv:nth l n=⟨i,false⟩:=by rw [<- c,<- hd]
    rw [hv] at hat;have h1:(⟨i,false⟩:Vis)∈l.take (n+1):=(QW h.nd).2 Za
    have h2: ¬(⟨i,true⟩:Vis)∈l.take (n+1):=fun hm=>by
     have h3:=J4 hm;have h4:=(QW h.nd).1 hm;have h5:=ho.both (ho.isP (J4 h1)) (ho.isD h3);omega
    rw [if_neg h2,if_pos h1];rfl
  ·rw [if_neg c]
   have e: ∀b:Bool,((⟨i,b⟩:Vis)∈l.take (n+1))=((⟨i,b⟩:Vis)∈l.take n):=fun b=>by
    rw [Zx hk,Xd,<- Zj hk];refine propext ⟨fun hm=>hm.resolve_right fun hm=> ?_,.inl⟩;simp at hm;exact c (by rw [<- hm])
   simp only [e]
theorem ZbO {x:Inst} {l:List Vis} (h:SqOk x l) {k i:Nat} (hk:k<l.length) (hi:(nth l k).order=(i:Int)):FA x l k i=(nth l k).drp:=by
 have hat:=Kx h.nd hk;have ho:=h.own (i:=i) ⟨nth l k,Zn hk,hi⟩;have hm:=Zn hk;rw [fM h i k Za]
 cases hd:(nth l k).drp with
 | true =>
  have hv:nth l k=⟨i,true⟩:=by rw [<- hi,<- hd]
  rw [hv] at hat hm
  have h1: ¬(⟨i,true⟩:Vis)∈l.take k:=fun hm=>by have:=(QW h.nd).1 hm;omega
  rw [if_neg h1]
  by_cases c:0<=(nth x.orders i).pick.place
  ·have h2:=ho.both c (ho.isD hm);have h3:(⟨i,false⟩:Vis)∈l.take k:=(QW h.nd).2 ⟨Wm.2 (ho.pick c),Za⟩
   grind
  grind
 | false =>
  have hv:nth l k=⟨i,false⟩:=by rw [<- hi,<- hd]
  rw [hv] at hat hm;have hp:=ho.isP hm
  have h1: ¬(⟨i,false⟩:Vis)∈l.take k:=fun hm=>by have:=(QW h.nd).1 hm;omega
  grind
theorem qD {f g:Nat->Int} {i:Nat} (h: ∀q,q≠i->f q=g q): ∀n,i<n->((List.range n).map f).sum=((List.range n).map g).sum+(f i-g i):=by
 have same: ∀n,n<=i->((List.range n).map f).sum=((List.range n).map g).sum:=fun n hn=>by
  grind [Yw]
 intro n
 induction n with
 | zero=>omega
 | succ n ih =>
  intro hi;simp only [VT,Xm,Zu,Zk,List.sum_append,List.sum_cons,List.sum_nil]
  grind
theorem PZ {f:Nat->Int} {b:Int} (hb:0<=b) (h: ∀q,0<=f q/\f q<=b): ∀n:Nat,0<=((List.range n).map f).sum/\((List.range n).map f).sum<=b*n
 | 0=>Zb
 | n+1=>by
  have ih:=PZ hb h n
  grind [VT]
theorem JC {p:Nat->Bool} {f:Nat->Int} : ∀l:List Nat,((l.filter p).map f).sum=(l.map fun i=>if p i=true then f i else 0).sum
 | []=>rfl
 | a::l=>by
  rw [List.filter_cons,Zu,List.sum_cons]
  by_cases h:p a=true
  ·rw [if_pos h,Zu,List.sum_cons,JC l,if_pos h]
  ·rw [if_neg h,JC l,if_neg h];omega
def Dj (x:Inst) (l:List Vis) (n j:Nat):Int:=((List.range x.orders.length).map fun i=>if (FA x l n i&&hasO l i)=true then nth (nth x.orders i).load j else 0).sum
theorem GW {x:Inst} {l:List Vis} (h:SqOk x l) {k j:Nat} (hk:k<l.length):Dj x l (k+1) j=if (nth l k).drp=true then Dj x l k j-nth (nth x.orders (nth l k).order.toNat).load j else Dj x l k j+nth (nth x.orders (nth l k).order.toNat).load j:=by
 obtain ⟨v1,v2⟩:=h.inr _ (Zn hk);obtain ⟨i,hi⟩: ∃i:Nat,(nth l k).order=(i:Int):=⟨(nth l k).order.toNat,Za⟩;have hh:hasO l (i:Int)=true:=Yn.2 ⟨_,Zn hk,hi⟩;have h1:=ZbO h hk hi
 have h2:FA x l (k+1) i= !(nth l k).drp:=by simp_all [EG]
 unfold Dj
 rw [qD (f:=fun i=>if (FA x l (k+1) i&&hasO l i)=true then nth (nth x.orders i).load j else 0) (g:=fun i=>if (FA x l k i&&hasO l i)=true then nth (nth x.orders i).load j else 0) (i:=i) (fun q hq=>by
  have:FA x l (k+1) q=FA x l k q:=by rw [EG hk,if_neg Za]
  grind) x.orders.length Za]
 grind
def Y9 (x:Inst) (l:List Vis) (n:Nat):List Int:=(List.range (dimsOf x.types).toNat).map fun j=>Dj x l n j
def DQ (a b:List Int):List Int:=(List.range a.length).map fun j=>nth a j+nth b j
def qA (a b:List Int):List Int:=(List.range a.length).map fun j=>nth a j-nth b j
theorem DR {x:Inst} {l:List Vis} {n:Nat} :(Y9 x l n).length=(dimsOf x.types).toNat:=by simp [Y9]
theorem Kc {f:Nat->Int} {n j:Nat} (h:j<n):nth ((List.range n).map f) j=f j:=by
 grind [Zj]
theorem Rg {x:Inst} {l:List Vis} (h:SqOk x l) {k:Nat} (hk:k<l.length):Y9 x l (k+1)=if (nth l k).drp=true then qA (Y9 x l k) (nth x.orders (nth l k).order.toNat).load else DQ (Y9 x l k) (nth x.orders (nth l k).order.toNat).load:=by
 have key: ∀g:Nat->Int,(∀j,j<(dimsOf x.types).toNat->Dj x l (k+1) j=g j)->Y9 x l (k+1)=(List.range (dimsOf x.types).toNat).map g:=fun g hg =>
  Yw fun j hj=>hg j (Xc.1 hj)
 split
 ·simp_all [qA,GW,Y9,Kc]
 simp_all [DQ,GW,Y9,Kc]
structure RightV (x:Inst) (l:List Vis):Prop where
 ne:l≠ []
 inr:Inr x l
 off: ∀v∈l,(nth x.orders v.order.toNat).off=false
 nodup:l.Nodup
 pair: ∀v∈l,pairB x.orders l v=true
 apart: ∀p∈x.apart,¬(hasO l p.1=true/\hasO l p.2=true)
 before: ∀p∈x.before,beforeB l p.1 p.2=true
theorem SW {x:Inst} {l:List Vis} :Xr x l=0↔RightV x l:=by
 unfold Xr;rw [KQ Za,KQ Za,KQ Za,KQ Za,KQ Za,KQ Za];simp only [and_true,KV,AQ]
 have hin:l.any (VM x)=false↔Inr x l:=by
  rw [VU];exact ⟨fun h v hv=>by grind [VM],fun h v hv=>by simpa [VM] using h v hv⟩
 constructor
 ·rintro ⟨h1,h2,h3,h4,h5,h6⟩;rw [not_or,KV,hin] at h1;rw [VU] at h2 h5 h6;refine ⟨fun e=>h1.1 (by rw [e];rfl),h1.2,fun v hv=>by grind,h3,?_,fun p hp=>by grind,fun p hp=>by grind⟩
  grind
 ·intro h;refine ⟨?_,?_,h.nodup,?_,?_,?_⟩
  ·rw [not_or,KV,hin];exact ⟨fun e=>h.ne (Z1 e),h.inr⟩
  ·rw [VU];intro v hv;simp [h.off v hv]
  ·rw [Zw.2 h.pair];simp
  ·rw [VU];intro p hp;simpa using h.apart p hp
  ·rw [VU];intro p hp;simpa using h.before p hp
theorem SE {os:List Ord} {l:List Vis} {v:Vis} {i:Nat} (h:v.order=(i:Int)):pairB os l v=true↔v∈ZZ os i/\(∀w∈ZZ os i,w∈l)/\((⟨i,false⟩:Vis)∈ZZ os i->(⟨i,true⟩:Vis)∈ZZ os i->vIx l ⟨i,false⟩<vIx l ⟨i,true⟩):=by
 rw [pairB,h,XU,ZG,Zr,Wm];refine and_congr Iff.rfl ?_
 have hm: ∀w:Vis,-1<vIx l w↔w∈l:=fun w=>by grind [Wm]
 rcases VA os i with e | e | e | e<;>rw [e]
 ·simp [U5]
 ·simp [U5,hm]
 ·simp [U5,hm]
 ·simp only [U5,UP,ZG,Zr,hm,Yj,Jp,or_false,forall_eq_or_imp,forall_eq]
  grind
section
variable {x : Inst} {l : List Vis}
theorem RightV.bit (h:RightV x l) (i:Nat):(ordS l).testBit i=true↔ ∃v∈l,v.order=(i:Int):=by
 rw [WE];exact ⟨fun ⟨v,hv,e⟩=>⟨v,hv,by have:=h.inr v hv;omega⟩,fun ⟨v,hv,e⟩=>⟨v,hv,Za⟩⟩
theorem RightV.lt (h:RightV x l) (hf:IFacts x):ordS l<9223372036854775808/\ordS l / pw x.orders.length=0:=by
 have h1:ordS l<9223372036854775808:=by
  have:=UW l.length (l:=l) (ZM _) (fun v hv=>by
   rw [Yu] at hv;have:=h.inr v hv;have:=hf.len
   simp [CX];omega)
  grind
 refine ⟨h1,RC h1 fun j _ hj=> ?_⟩;obtain ⟨v,hv,e⟩:=(h.bit j).1 hj;have:=h.inr v hv;omega
theorem RightV.ord (h:RightV x l) (hf:IFacts x):ordR l=(((ordS l:Nat):Int),0):=by
 rw [ordR,if_pos];rw [Zw];intro v hv;have:=h.inr v hv;have:=hf.len;simp [CX];omega
theorem RightV.pairs (h:RightV x l) {v:Vis} (hv:v∈l): ∃i:Nat,v.order=(i:Int)/\i<x.orders.length/\v∈ZZ x.orders i/\(∀w∈ZZ x.orders i,w∈l)/\((⟨i,false⟩:Vis)∈ZZ x.orders i->(⟨i,true⟩:Vis)∈ZZ x.orders i->vIx l ⟨i,false⟩<vIx l ⟨i,true⟩):=by
 have h1:=h.inr v hv
 have e:v.order=(v.order.toNat:Int):=Za
 exact ⟨v.order.toNat,e,Za,(SE e).1 (h.pair v hv)⟩
theorem RightV.gr (h:RightV x l) (hf:IFacts x): ∀k,k<=l.length->Gr x (ordS l) (l.take k)
 | 0,_=>by simpa using Gr.nil
 | k+1,hk=>by
  have hk2:k<l.length:=Za
  have ih:=h.gr hf k Za
  have e:l.take (k+1)=l.take k++ [nth l k]:=by rw [Zx hk2,Zj hk2]
  rw [e];obtain ⟨i,e1,hi,h1,h2,h3⟩:=h.pairs (Zn hk2);refine .snoc ih (QL.2 ⟨i,hi,(h.bit i).2 ⟨_,Zn hk2,e1⟩,?_,h1,(Ux h1).2 ⟨?_,?_,?_⟩⟩)
  ·have:=h.off _ (Zn hk2)
   grind
  ·intro hm;obtain ⟨j,j1,j2,j3⟩:=Kt hm;have q1:=Kx h.nodup j2;have q2:=Kx h.nodup hk2
   grind
  ·intro hd hq
   have e2:nth l k=⟨i,true⟩:=by rw [AR];grind
   have h4:=h3 hq (by grind);rw [<- e2,Kx h.nodup hk2] at h4;have h5:=Wm.2 (h2 _ hq);obtain ⟨g1,g2⟩:=Iz h5;rw [<- g2];exact J7 Za g1
  ·intro p hp hpe w hw;obtain ⟨v1,v2,v3,v4⟩:=hf.val p hp;have hoi:=fI hk2 e1;have hbe:=CT.1 (h.before p hp);rw [hpe] at hbe;obtain ⟨⟨v,hv,ev⟩,h5⟩:=hbe hoi.1;obtain ⟨a,a1,a2,a3,a4,a5⟩:=h.pairs hv
   have:a=p.1.toNat:=Za
   subst this;have hwl:=a4 w hw;obtain ⟨g1,g2⟩:=Iz (Wm.2 hwl);have h6:=h5 _ g1 (by rw [g2,YQ hw];omega);rw [<- g2];exact J7 Za g1
theorem RightV.len (h:RightV x l) (hf:IFacts x):l.length=FM x (ordS l) x.orders.length:=by
 have h1:=h.gr hf l.length (ZM _);rw [Yu] at h1;have h2:=h1.len
 have h3: ∀v∈Qs x (ordS l) x.orders.length,v∈l:=fun v hv=>by
  obtain ⟨i,i1,i2,i3⟩:=QK.1 hv;obtain ⟨w,hw,e⟩:=(h.bit i).1 i2;obtain ⟨a,a1,a2,a3,a4,a5⟩:=h.pairs hw
  grind
 have h4:=Ir (DV _ _ _) h3;rw [VI] at h4;omega
theorem Gr.at {S:Nat} (h:Gr x S l): ∀k,k<l.length->nth l k∈nextU x S (l.take k) x.orders.length:=by
 induction h with
 | nil=>simp
 | snoc h hv ih =>
  rename_i l v;intro k hk;simp at hk;rcases W7 k l.length with h2 | h2
  ·grind [Zj]
  ·have:k=l.length:=Za
   simp_all [Zj]
end
def vk (v:Vis):Int:=2*v.order+dn v
theorem A8 (v:Vis):dn v=0\/dn v=1:=by grind [dn]
theorem mN {a b:Int} :Vn a b<0↔a<b:=by grind [Vn]
theorem mM {a b:Int} :0<Vn a b↔b<a:=by grind [Vn]
theorem O3 {a b:Vis} :AE a b<0↔vk a<vk b:=by
 grind [A8,AE,vk,Ch,mN]
theorem mO {a b:Vis} :0<AE a b↔vk b<vk a:=by
 grind [A8,AE,vk,Ch,mM]
theorem Es : ∀(a b:List Vis),Vp b a<0↔0<Vp a b
 | [],[]=>by simp [Vp]
 | [],_::_=>by simp [Vp]
 | _::_,[]=>by simp [Vp]
 | a::r,b::s=>by
  have ih:=Es r s;simp only [Vp]
  by_cases h:AE a b=0
  ·simp_all [Qx]
  ·have h2: ¬AE b a=0:=fun e=>h (by grind [Qx])
   simp_all [O3,mO]
theorem LN : ∀(a b:List Vis),Vp a b=0↔a=b
 | [],[]=>by simp [Vp]
 | [],_::_=>by simp [Vp]
 | _::_,[]=>by simp [Vp]
 | a::r,b::s=>by
  have ih:=LN r s;simp only [Vp]
  by_cases h:AE a b=0
  ·simp_all [Qx]
  simp_all [Qx]
theorem Pu : ∀(l a b:List Vis),Vp (l++a) (l++b)=Vp a b
 | [],_,_=>rfl
 | v::l,a,b=>by
  simp only [Xu,Vp];rw [if_pos (Qx.2 rfl)];exact Pu l a b
theorem Sl (x:Inst) (S:Nat) (l:List Vis) (k:Nat):(nextU x S l k).Pairwise fun v w=>vk v<vk w:=by
 rw [nextU,List.pairwise_flatMap]
 have hm: ∀i,∀v∈Uu x S l i,v∈ZZ x.orders i:=fun i v hv=>by
  grind [Uu]
 constructor
 ·intro i _;rw [Uu]
  split
  ·refine List.Pairwise.filter _ ?_;rcases VA x.orders i with e | e | e | e<;>rw [e]<;>simp [vk,dn]<;>omega
  ·simp
 ·refine (List.pairwise_lt_range (n:=k)).imp fun {i j} hij v hv w hw=> ?_
  grind [YQ,A8,vk]
set_option maxRecDepth 8000
section
variable {σ : Type}
def Qj (nx:List Vis->List Vis):Nat->List Vis->List (List Vis)
 | 0,l=> [l]
 | f+1,l=>if nx l= [] then [l] else (nx l).flatMap fun v=>Qj nx f (l++ [v])
theorem Bw {nx:List Vis->List Vis} : ∀(f:Nat) (l m:List Vis),m∈Qj nx f l-> ∃r,m=l++r
 | 0,l,m,h=>by simp_all [Qj]
 | f+1,l,m,h=>by
  rw [Qj] at h
  split at h
  ·simp_all
  ·obtain ⟨v,_,h⟩:=Uq.1 h;obtain ⟨r,rfl⟩:=Bw f _ m h;simp
def Yl (ok:List Vis->Bool) (col:List Vis->Col) (better:Col->Col->Bool) (b:Col×Bool) (l:List Vis):Col×Bool:=if ok l=true/\(b.2=false\/better (col l) b.1=true) then (col l,true) else b
theorem U1 {ok:List Vis->Bool} {col:List Vis->Col} {better:Col->Col->Bool} : ∀(L:List (List Vis)) (b:Col×Bool),L.foldl (Yl ok col better) b=(L.filter ok).foldl (Yl ok col better) b
 | [],b=>rfl
 | l::L,b=>by
  rw [Qc,List.filter_cons]
  split
  ·rw [Qc];exact U1 L _
  ·rename_i h;rw [Yl,if_neg (fun g=>h g.1)];exact U1 L b
end
set_option maxRecDepth 60000
set_option maxHeartbeats 8000000
def rtB (r:Rte):Bool:=decide (r.visits.length<=8)&&decide (r.rests.length<=9)
def smB (p:Pln):Bool:=(decide (p.routes.length<=4)&&decide (p.unserved.length<=6))&&p.routes.all rtB
theorem Zcd {p:Pln} {k:Nat} (hk:k<p.routes.length) (h:rtB (nth p.routes k)=false):smB p=false:=by
 grind [smB,Zn]
theorem Zmp {α:Type} [Inhabited α] {f:α->Bool} {l:List α} (h: ∀j,j<l.length->f (nth l j)=true):l.all f=true:=by
 rw [Zw];intro r hr;obtain ⟨j,hj,rfl⟩:=Z4.1 hr
 grind [Zj]
def FitP (x:Inst) (n:Int):Prop:=x.orders.length<=n/\x.types.length<=2/\x.net.places.length<=6/\x.net.arcs.length<=40/\x.apart.length<=4/\x.before.length<=4/\InstOk x
theorem Gc (x:Inst) (hw:x.wf 1048576) (n:Int) (b:Bool) (hb:b=true↔FitP x n):PC 34 [.p (Zv x),.p (.int .i64 n)] (.bool b):=by
 have w1:=hw.1.1;have w2:=hw.1.2.2.1;have w3:=hw.2.1;have w4:=hw.2.2.2.1;have w5:=hw.2.2.2.2.2.1;have w6:=hw.2.2.2.2.2.2.2.1
 suffices hh:ACalls Tryz.prog 34 [.p (Zv x),.p (.int .i64 n)] [] fun y H'=> ∃b:Bool,(b=true↔FitP x n)/\y= .p (.bool b)/\H'= [] by
  grind
 refine ACalls.pureE (Ya Tryz.func34 rfl Zhu (Zf [] _ _ _ _ ?_));simp (disch:=omega) only [Tryz.f34,go_sem,seval];refine gT ?_ ?_<;>intro h1<;>simp (disch:=omega) only [Sh.out h1,go_sem,seval,↓reduceIte]
 ·refine gT ?_ ?_<;>intro h2<;>simp (disch:=omega) only [Sh.out h2,go_sem,seval,↓reduceIte]
  ·refine gT ?_ ?_<;>intro h3<;>simp (disch:=omega) only [Sh.out h3,go_sem,seval,↓reduceIte]
   ·refine gT ?_ ?_<;>intro h4<;>simp (disch:=omega) only [Sh.out h4,go_sem,seval,↓reduceIte]
    ·refine gT ?_ ?_<;>intro h5<;>simp (disch:=omega) only [Sh.out h5,go_sem,seval,↓reduceIte]
     ·refine gT ?_ ?_<;>intro h6<;>simp (disch:=omega) only [Sh.out h6,go_sem,seval,↓reduceIte]
      ·refine ((wE x hw).frozenE).useV fun m hm=> ?_;refine X8 ?_;refine ⟨decide (m.length=0),?_,Zb⟩;have:=hm.emp;rw [Zr,List.length_eq_zero_iff,this];exact ⟨fun h=>⟨Za,Za,Za,Za,Za,Za,h⟩,fun h=>h.2.2.2.2.2.2⟩
      ·exact ⟨false,by simp [FitP];omega,rfl⟩
     ·exact ⟨false,by simp [FitP];omega,rfl⟩
    ·exact ⟨false,by simp [FitP];omega,rfl⟩
   ·exact ⟨false,by simp [FitP];omega,rfl⟩
  ·exact ⟨false,by simp [FitP];omega,rfl⟩
 ·exact ⟨false,by simp [FitP];omega,rfl⟩
end Go.Proofs.YtiigdaohjanidaaGreatDoor.K
