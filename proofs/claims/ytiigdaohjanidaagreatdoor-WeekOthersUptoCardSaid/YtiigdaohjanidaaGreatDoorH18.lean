/- Declarations that the closing texts need, part 18: joined by tools/slim.py. -/
import Derived.Test.YtiigdaohjanidaaGreatDoorH17
import Derived.Test.YtiigdaohjanidaaGreatDoorRows
namespace Go.Proofs.YtiigdaohjanidaaGreatDoor.K
open Go Go.AM Go.Proofs
theorem RB : Tryz.prog.cellsOf 3=1:=Zd
theorem Zln : Tryz.prog.cellsOf 4=1:=Zd
theorem Zgk : Tryz.prog.cellsOf 9=1:=Zd
theorem rP : Tryz.prog.cellsOf 31=1:=Zd
theorem Zgc : Tryz.prog.cellsOf 35=1:=Zd
theorem Zgd : Tryz.prog.cellsOf 36=1:=Zd
theorem rQ : Tryz.prog.cellsOf 38=2:=Zd
theorem ZhD : Fm Tryz.prog 38=some [(0,35),(1,36)]:=Zd
theorem Zge : Tryz.prog.cellsOf 39=1:=Zd
theorem Zgf : Tryz.prog.cellsOf 40=1:=Zd
theorem Zgg : Tryz.prog.cellsOf 41=1:=Zd
theorem Zgh : Tryz.prog.cellsOf 43=6:=Zd
theorem sI : Fm Tryz.prog 43=some [(0,38),(2,39),(3,40),(4,41),(5,41)]:=Zd
theorem rR : Tryz.prog.cellsOf 57=4:=Zd
theorem ZhE : Fm Tryz.prog 57=some [(0,3),(1,3),(2,3),(3,3)]:=Zd
theorem Zgi : Tryz.prog.cellsOf 59=16:=Zd
theorem sJ : Fm Tryz.prog 59=some [(0,9),(1,31),(2,57),(6,57),(10,3),(11,3),(12,3),(13,3),(14,3),(15,4)]:=Zd
theorem Zgj : Tryz.prog.cellsOf 82=14:=Zd
theorem sK : Fm Tryz.prog 82=some [(0,9),(1,3),(2,3),(3,3),(4,31),(5,3),(6,3),(7,3),(8,3),(9,3),(10,3),(11,3),(12,3),(13,3)]:=Zd
theorem uU : Tryz.prog.cellsOf 127=1:=Zd
theorem uV : Tryz.prog.cellsOf 129=6:=Zd
theorem fX : Fm Tryz.prog 129=some [(0,3),(1,3),(2,3),(3,3),(4,127),(5,127)]:=Zd
theorem uW : Tryz.prog.cellsOf 132=2:=Zd
theorem fY : Fm Tryz.prog 132=some [(0,3),(1,3)]:=Zd
theorem uX : Tryz.prog.cellsOf 188=2:=Zd
theorem fZ : Fm Tryz.prog 188=some [(0,3),(1,3)]:=Zd
set_option linter.unusedVariables false
set_option linter.unusedSimpArgs false
mutual
theorem Nk {H:Type} :(d:DataW H)->Fk d<=Rows.uptoBulk d
 | .lit l=>by cases l<;>simp [Fk,Rows.uptoBulk]
 | .nil=>by simp [Fk,Rows.uptoBulk]
 | .ptr d=>by have:=Nk d;simp only [Fk,Rows.uptoBulk];omega
 | .slice es sp=>by have:=A9 es;have:=A9 sp;simp only [Fk,Rows.uptoBulk];omega
 | .agg ps=>by have:=A9 ps;simp only [Fk,Rows.uptoBulk];omega
 | .iface _ d=>by have:=Nk d;simp only [Fk,Rows.uptoBulk];omega
 | .map es=>by simp only [Fk,Rows.uptoBulk];omega
 | .held h=>by simp [Fk,Rows.uptoBulk]
theorem A9 {H:Type} :(l:List (DataW H))->J0 l<=Rows.uptoBulkAll l
 | []=>by simp [J0,Rows.uptoBulkAll]
 | d::r=>by have:=Nk d;have:=A9 r;simp only [J0,Rows.uptoBulkAll];omega
end
theorem Oa {H:Type} {l:List (DataW H)} (h:Rows.uptoSmall H l=true):J0 l<=1048576:=by
 have h1:=A9 l;have h2:Rows.uptoBulkAll l<=1048576:=KS h;omega
abbrev UP (n:Int):Prop:= -9223372036854775808<=n/\n<=9223372036854775807
def eI (n:Int):PV:= .int .i64 n
def eB (b:Bool):PV:= .bool b
def eS (s:List UInt8):PV:= .str s
def eP (p:Int×Int):PV:= .agg [.int .i64 p.1,.int .i64 p.2]
@[go_sem] theorem ZnN (n:Int):eI n= .int .i64 n:=Zh rfl rfl
@[go_sem] theorem ZnL (b:Bool):eB b= .bool b:=Zh rfl rfl
@[go_sem] theorem ZnR (s:List UInt8):eS s= .str s:=Zh rfl rfl
@[go_sem] theorem ZnP (p:Int×Int):eP p= .agg [.int .i64 p.1,.int .i64 p.2]:=Zh rfl rfl
@[go_sem] theorem Zjf (l:List Bool):Cb 1 (l.map eB)=true:=DR (f:=eB) (S:=1) (fun _=>rfl) l
@[go_sem] theorem Zl3 (l:List Bool):Ap 1 (l.map eB)=true:=Dz fun _=>rfl
theorem Lc {B xs} (h: ∀y∈xs,FitV Tryz.prog B 3 y): ∃l:List Int,xs=l.map eI/\ ∀n∈l,UP n :=
 Ve (f:=eI) fun y hy=>by
  obtain ⟨n,rfl,w⟩:=mF Tryz.underlying3 (h y hy);exact ⟨n,rfl,Xw w⟩
theorem cE {B xs} (h: ∀y∈xs,FitV Tryz.prog B 9 y): ∃l:List (List UInt8),xs=l.map eS/\ ∀s∈l,s.length<=B :=
 Ve (f:=eS) fun y hy=>by
  obtain ⟨s,rfl,w,_⟩:=mG Tryz.underlying9 (h y hy);exact ⟨s,rfl,w⟩
theorem Za7 {α:Type} {l:List α} (h:l.length=2): ∃a0 a1,l= [a0,a1]:=by
 match l,h with | [a0,a1],_=>simp
theorem Zhg {α:Type} {l:List α} (h:l.length=6): ∃a0 a1 a2 a3 a4 a5,l= [a0,a1,a2,a3,a4,a5]:=by
 match l,h with | [a0,a1,a2,a3,a4,a5],_=>simp
theorem Zhe {α:Type} {l:List α} (h:l.length=14): ∃a0 a1 a2 a3 a4 a5 a6 a7 a8 a9 a10 a11 a12 a13,l= [a0,a1,a2,a3,a4,a5,a6,a7,a8,a9,a10,a11,a12,a13]:=by
 match l,h with | [a0,a1,a2,a3,a4,a5,a6,a7,a8,a9,a10,a11,a12,a13],_=>simp
theorem ZlS {α:Type} {l:List α} (h:l.length=4): ∃a0 a1 a2 a3,l= [a0,a1,a2,a3]:=by
 match l,h with | [a0,a1,a2,a3],_=>simp
theorem Zhf {α:Type} {l:List α} (h:l.length=16): ∃a0 a1 a2 a3 a4 a5 a6 a7 a8 a9 a10 a11 a12 a13 a14 a15,l= [a0,a1,a2,a3,a4,a5,a6,a7,a8,a9,a10,a11,a12,a13,a14,a15]:=by
 match l,h with | [a0,a1,a2,a3,a4,a5,a6,a7,a8,a9,a10,a11,a12,a13,a14,a15],_=>grind
structure Pt where
 t:Int
 a:Int
 deriving Inhabited
def cPt (x:Pt):List PV:= [.int .i64 x.t,.int .i64 x.a]
def F3 (x:Pt):PV:= .agg [.int .i64 x.t,.int .i64 x.a]
@[go_sem] theorem Zlo (x:Pt):F3 x= .agg [.int .i64 x.t,.int .i64 x.a]:=Zh rfl rfl
def Pt.wf (B:Nat) (x:Pt):Prop:=UP x.t/\UP x.a
theorem mJ {B m cs} (h:Y7 Tryz.prog B m 188 cs): ∃x:Pt,cs=cPt x/\x.wf B:=by
 obtain ⟨h1,m',h2⟩:=VC fZ uX h;obtain ⟨a0,a1,rfl⟩:=Za7 h1;obtain ⟨n0,e0,w0⟩:=ZV Tryz.underlying3 (h2 (0,3) Zb);obtain ⟨n1,e1,w1⟩:=ZV Tryz.underlying3 (h2 (1,3) Zb);simp [RB] at e0 e1;subst e0;subst e1;exact ⟨⟨n0,n1⟩,rfl,Xw w0,Xw w1⟩
theorem cC {B v} (h:FitV Tryz.prog B 188 v): ∃x:Pt,v=F3 x/\x.wf B:=by
 obtain ⟨k,cs,h,e⟩:=h.out;obtain ⟨x,rfl,hw⟩:=mJ h;exact ⟨x,e.trans (by rw [Jt,if_pos (VH fZ)];rfl),hw⟩
structure Arc where
 src:Int
 dst:Int
 prof:Int
 miles:Int
 travel_c:Bool
 travel:List (Pt)
 slow_c:Bool
 slow:List (Pt)
 deriving Inhabited
def Zll (x:Arc):List PV:= [.int .i64 x.src,.int .i64 x.dst,.int .i64 x.prof,.int .i64 x.miles,.list x.travel_c (x.travel.map F3),.list x.slow_c (x.slow.map F3)]
def V0 (x:Arc):PV:= .agg [.int .i64 x.src,.int .i64 x.dst,.int .i64 x.prof,.int .i64 x.miles,.list x.travel_c (x.travel.map F3),.list x.slow_c (x.slow.map F3)]
@[go_sem] theorem Zjo (x:Arc):V0 x= .agg [.int .i64 x.src,.int .i64 x.dst,.int .i64 x.prof,.int .i64 x.miles,.list x.travel_c (x.travel.map F3),.list x.slow_c (x.slow.map F3)]:=Zh rfl rfl
def Arc.wf (B:Nat) (x:Arc):Prop:=UP x.src/\UP x.dst/\UP x.prof/\UP x.miles/\x.travel.length<=B/\(∀y∈x.travel,Pt.wf B y)/\x.slow.length<=B/\(∀y∈x.slow,Pt.wf B y)
theorem cH {B m cs} (h:Y7 Tryz.prog B m 129 cs): ∃x:Arc,cs=Zll x/\x.wf B:=by
 obtain ⟨h1,m',h2⟩:=VC fX uV h;obtain ⟨a0,a1,a2,a3,a4,a5,rfl⟩:=Zhg h1;obtain ⟨n0,e0,w0⟩:=ZV Tryz.underlying3 (h2 (0,3) Zb);obtain ⟨n1,e1,w1⟩:=ZV Tryz.underlying3 (h2 (1,3) Zb);obtain ⟨n2,e2,w2⟩:=ZV Tryz.underlying3 (h2 (2,3) Zb);obtain ⟨n3,e3,w3⟩:=ZV Tryz.underlying3 (h2 (3,3) Zb);obtain ⟨y4,e4,w4,_,z4⟩:=X8 Tryz.underlying127 (h2 (4,127) Zb);obtain ⟨n4,rfl,u4⟩:=Ve (f:=F3) fun y hy=>cC (z4 y hy);obtain ⟨y5,e5,w5,_,z5⟩:=X8 Tryz.underlying127 (h2 (5,127) Zb)
 obtain ⟨n5,rfl,u5⟩:=Ve (f:=F3) fun y hy=>cC (z5 y hy);simp [uU,RB] at e0 e1 e2 e3 e4 e5;subst e0;subst e1;subst e2;subst e3;subst e4;subst e5;exact ⟨⟨n0,n1,n2,n3,false,n4,false,n5⟩,rfl,Xw w0,Xw w1,Xw w2,Xw w3,by grind,u4,by grind,u5⟩
theorem mC {B v} (h:FitV Tryz.prog B 129 v): ∃x:Arc,v=V0 x/\x.wf B:=by
 obtain ⟨k,cs,h,e⟩:=h.out;obtain ⟨x,rfl,hw⟩:=cH h;exact ⟨x,e.trans (by rw [Jt,if_pos (VH fX)];rfl),hw⟩
structure Net where
 places_c:Bool
 places:List (List UInt8)
 arcs_c:Bool
 arcs:List (Arc)
 deriving Inhabited
def Zgb (x:Net):List PV:= [.list x.places_c (x.places.map eS),.list x.arcs_c (x.arcs.map V0)]
def Ba (x:Net):PV:= .agg [.list x.places_c (x.places.map eS),.list x.arcs_c (x.arcs.map V0)]
@[go_sem] theorem Zjr (x:Net):Ba x= .agg [.list x.places_c (x.places.map eS),.list x.arcs_c (x.arcs.map V0)]:=Zh rfl rfl
def Net.wf (B:Nat) (x:Net):Prop:=x.places.length<=B/\(∀s∈x.places,s.length<=B)/\x.arcs.length<=B/\(∀y∈x.arcs,Arc.wf B y)
theorem cI {B m cs} (h:Y7 Tryz.prog B m 38 cs): ∃x:Net,cs=Zgb x/\x.wf B:=by
 obtain ⟨h1,m',h2⟩:=VC ZhD rQ h;obtain ⟨a0,a1,rfl⟩:=Za7 h1;obtain ⟨y0,e0,w0,_,z0⟩:=X8 Tryz.underlying35 (h2 (0,35) Zb);obtain ⟨n0,rfl,u0⟩:=cE z0;obtain ⟨y1,e1,w1,_,z1⟩:=X8 Tryz.underlying36 (h2 (1,36) Zb);obtain ⟨n1,rfl,u1⟩:=Ve (f:=V0) fun y hy=>mC (z1 y hy);simp [Zgd,Zgc] at e0 e1;subst e0;subst e1;exact ⟨⟨false,n0,false,n1⟩,rfl,by grind,u0,by grind,u1⟩
structure Typ where
 name:List UInt8
 count:Int
 src:Int
 dst:Int
 cap_c:Bool
 cap:List (Int)
 skills:Int
 prof:Int
 opn:Int
 cls:Int
 drive:Int
 rest:Int
 fixed:Int
 perMile:Int
 perTick:Int
 deriving Inhabited
def JW (x:Typ):List PV:= [.str x.name,.int .i64 x.count,.int .i64 x.src,.int .i64 x.dst,.list x.cap_c (x.cap.map eI),.int .i64 x.skills,.int .i64 x.prof,.int .i64 x.opn,.int .i64 x.cls,.int .i64 x.drive,.int .i64 x.rest,.int .i64 x.fixed,.int .i64 x.perMile,.int .i64 x.perTick]
def V1 (x:Typ):PV:= .agg [.str x.name,.int .i64 x.count,.int .i64 x.src,.int .i64 x.dst,.list x.cap_c (x.cap.map eI),.int .i64 x.skills,.int .i64 x.prof,.int .i64 x.opn,.int .i64 x.cls,.int .i64 x.drive,.int .i64 x.rest,.int .i64 x.fixed,.int .i64 x.perMile,.int .i64 x.perTick]
@[go_sem] theorem ZjA (x:Typ):V1 x= .agg [.str x.name,.int .i64 x.count,.int .i64 x.src,.int .i64 x.dst,.list x.cap_c (x.cap.map eI),.int .i64 x.skills,.int .i64 x.prof,.int .i64 x.opn,.int .i64 x.cls,.int .i64 x.drive,.int .i64 x.rest,.int .i64 x.fixed,.int .i64 x.perMile,.int .i64 x.perTick]:=Zh rfl rfl
def Typ.wf (B:Nat) (x:Typ):Prop:=x.name.length<=B/\UP x.count/\UP x.src/\UP x.dst/\x.cap.length<=B/\(∀n∈x.cap,UP n)/\UP x.skills/\UP x.prof/\UP x.opn/\UP x.cls/\UP x.drive/\UP x.rest/\UP x.fixed/\UP x.perMile/\UP x.perTick
theorem cK {B m cs} (h:Y7 Tryz.prog B m 82 cs): ∃x:Typ,cs=JW x/\x.wf B:=by
 obtain ⟨h1,m',h2⟩:=VC sK Zgj h;obtain ⟨a0,a1,a2,a3,a4,a5,a6,a7,a8,a9,a10,a11,a12,a13,rfl⟩:=Zhe h1;obtain ⟨n0,e0,w0,_⟩:=Ef Tryz.underlying9 (h2 (0,9) Zb);obtain ⟨n1,e1,w1⟩:=ZV Tryz.underlying3 (h2 (1,3) Zb);obtain ⟨n2,e2,w2⟩:=ZV Tryz.underlying3 (h2 (2,3) Zb);obtain ⟨n3,e3,w3⟩:=ZV Tryz.underlying3 (h2 (3,3) Zb);obtain ⟨y4,e4,w4,_,z4⟩:=X8 Tryz.underlying31 (h2 (4,31) Zb);obtain ⟨n4,rfl,u4⟩:=Lc z4;obtain ⟨n5,e5,w5⟩:=ZV Tryz.underlying3 (h2 (5,3) Zb)
 obtain ⟨n6,e6,w6⟩:=ZV Tryz.underlying3 (h2 (6,3) Zb);obtain ⟨n7,e7,w7⟩:=ZV Tryz.underlying3 (h2 (7,3) Zb);obtain ⟨n8,e8,w8⟩:=ZV Tryz.underlying3 (h2 (8,3) Zb);obtain ⟨n9,e9,w9⟩:=ZV Tryz.underlying3 (h2 (9,3) Zb);obtain ⟨n10,e10,w10⟩:=ZV Tryz.underlying3 (h2 (10,3) Zb);obtain ⟨n11,e11,w11⟩:=ZV Tryz.underlying3 (h2 (11,3) Zb);obtain ⟨n12,e12,w12⟩:=ZV Tryz.underlying3 (h2 (12,3) Zb);obtain ⟨n13,e13,w13⟩:=ZV Tryz.underlying3 (h2 (13,3) Zb);simp [rP,RB,Zgk] at e0 e1 e2 e3 e4 e5 e6 e7 e8 e9 e10 e11 e12 e13
 subst e0;subst e1;subst e2;subst e3;subst e4;subst e5;subst e6;subst e7;subst e8;subst e9;subst e10;subst e11;subst e12;subst e13;exact ⟨⟨n0,n1,n2,n3,false,n4,n5,n6,n7,n8,n9,n10,n11,n12,n13⟩,rfl,w0,Xw w1,Xw w2,Xw w3,by grind,u4,Xw w5,Xw w6,Xw w7,Xw w8,Xw w9,Xw w10,Xw w11,Xw w12,Xw w13⟩
theorem mE {B v} (h:FitV Tryz.prog B 82 v): ∃x:Typ,v=V1 x/\x.wf B:=by
 obtain ⟨k,cs,h,e⟩:=h.out;obtain ⟨x,rfl,hw⟩:=cK h;exact ⟨x,e.trans (by rw [Jt,if_pos (VH sK)];rfl),hw⟩
structure Stp where
 place:Int
 opn:Int
 cls:Int
 serv:Int
 deriving Inhabited
def Ad (x:Stp):List PV:= [.int .i64 x.place,.int .i64 x.opn,.int .i64 x.cls,.int .i64 x.serv]
def Ea (x:Stp):PV:= .agg [.int .i64 x.place,.int .i64 x.opn,.int .i64 x.cls,.int .i64 x.serv]
@[go_sem] theorem Zjx (x:Stp):Ea x= .agg [.int .i64 x.place,.int .i64 x.opn,.int .i64 x.cls,.int .i64 x.serv]:=Zh rfl rfl
def Stp.wf (B:Nat) (x:Stp):Prop:=UP x.place/\UP x.opn/\UP x.cls/\UP x.serv
theorem Ld {B m cs} (h:Y7 Tryz.prog B m 57 cs): ∃x:Stp,cs=Ad x/\x.wf B:=by
 obtain ⟨h1,m',h2⟩:=VC ZhE rR h;obtain ⟨a0,a1,a2,a3,rfl⟩:=ZlS h1;obtain ⟨n0,e0,w0⟩:=ZV Tryz.underlying3 (h2 (0,3) Zb);obtain ⟨n1,e1,w1⟩:=ZV Tryz.underlying3 (h2 (1,3) Zb);obtain ⟨n2,e2,w2⟩:=ZV Tryz.underlying3 (h2 (2,3) Zb);obtain ⟨n3,e3,w3⟩:=ZV Tryz.underlying3 (h2 (3,3) Zb);simp [RB] at e0 e1 e2 e3;subst e0;subst e1;subst e2;subst e3;exact ⟨⟨n0,n1,n2,n3⟩,rfl,Xw w0,Xw w1,Xw w2,Xw w3⟩
theorem rT {B v} (h:FitV Tryz.prog B 132 v): ∃x:Int×Int,v=eP x/\UP x.1/\UP x.2:=by
 obtain ⟨k,cs,h,e⟩:=h.out;obtain ⟨h1,m',h2⟩:=VC fY uW h;obtain ⟨a,b,rfl⟩:=Za7 h1;obtain ⟨n0,e0,w0⟩:=ZV Tryz.underlying3 (h2 (0,3) Zb);obtain ⟨n1,e1,w1⟩:=ZV Tryz.underlying3 (h2 (1,3) Zb);simp [RB] at e0 e1;subst e0;subst e1;exact ⟨(n0,n1),e.trans (by rw [Jt,if_pos (VH fY)];rfl),Xw w0,Xw w1⟩
structure Ord where
 name:List UInt8
 load_c:Bool
 load:List (Int)
 pick:Stp
 drp:Stp
 skills:Int
 penalty:Int
 split:Int
 last:Int
 now:Int
 off:Bool
 deriving Inhabited
def Zlm (x:Ord):List PV:= [.str x.name,.list x.load_c (x.load.map eI),.int .i64 x.pick.place,.int .i64 x.pick.opn,.int .i64 x.pick.cls,.int .i64 x.pick.serv,.int .i64 x.drp.place,.int .i64 x.drp.opn,.int .i64 x.drp.cls,.int .i64 x.drp.serv,.int .i64 x.skills,.int .i64 x.penalty,.int .i64 x.split,.int .i64 x.last,.int .i64 x.now,.bool x.off]
def eOrd (x:Ord):PV:= .agg [.str x.name,.list x.load_c (x.load.map eI),.int .i64 x.pick.place,.int .i64 x.pick.opn,.int .i64 x.pick.cls,.int .i64 x.pick.serv,.int .i64 x.drp.place,.int .i64 x.drp.opn,.int .i64 x.drp.cls,.int .i64 x.drp.serv,.int .i64 x.skills,.int .i64 x.penalty,.int .i64 x.split,.int .i64 x.last,.int .i64 x.now,.bool x.off]
@[go_sem] theorem Hw (x:Ord):eOrd x= .agg [.str x.name,.list x.load_c (x.load.map eI),.int .i64 x.pick.place,.int .i64 x.pick.opn,.int .i64 x.pick.cls,.int .i64 x.pick.serv,.int .i64 x.drp.place,.int .i64 x.drp.opn,.int .i64 x.drp.cls,.int .i64 x.drp.serv,.int .i64 x.skills,.int .i64 x.penalty,.int .i64 x.split,.int .i64 x.last,.int .i64 x.now,.bool x.off]:=Zh rfl rfl
def Ord.wf (B:Nat) (x:Ord):Prop:=x.name.length<=B/\x.load.length<=B/\(∀n∈x.load,UP n)/\Stp.wf B x.pick/\Stp.wf B x.drp/\UP x.skills/\UP x.penalty/\UP x.split/\UP x.last/\UP x.now
theorem cJ {B m cs} (h:Y7 Tryz.prog B m 59 cs): ∃x:Ord,cs=Zlm x/\x.wf B:=by
 obtain ⟨h1,m',h2⟩:=VC sJ Zgi h;obtain ⟨a0,a1,a2,a3,a4,a5,a6,a7,a8,a9,a10,a11,a12,a13,a14,a15,rfl⟩:=Zhf h1;obtain ⟨n0,e0,w0,_⟩:=Ef Tryz.underlying9 (h2 (0,9) Zb);obtain ⟨y1,e1,w1,_,z1⟩:=X8 Tryz.underlying31 (h2 (1,31) Zb);obtain ⟨n1,rfl,u1⟩:=Lc z1;obtain ⟨n2,e2,w2⟩:=Ld (h2 (2,57) Zb);obtain ⟨n3,e3,w3⟩:=Ld (h2 (6,57) Zb);obtain ⟨n4,e4,w4⟩:=ZV Tryz.underlying3 (h2 (10,3) Zb);obtain ⟨n5,e5,w5⟩:=ZV Tryz.underlying3 (h2 (11,3) Zb);obtain ⟨n6,e6,w6⟩:=ZV Tryz.underlying3 (h2 (12,3) Zb)
 obtain ⟨n7,e7,w7⟩:=ZV Tryz.underlying3 (h2 (13,3) Zb);obtain ⟨n8,e8,w8⟩:=ZV Tryz.underlying3 (h2 (14,3) Zb);obtain ⟨n9,e9⟩:=RX Tryz.underlying4 (h2 (15,4) Zb);simp [rP,rR,Zln,RB,Zgk,Ad,Ad] at e0 e1 e2 e3 e4 e5 e6 e7 e8 e9;subst e0;subst e1;obtain ⟨rfl,rfl,rfl,rfl⟩:=e2;obtain ⟨rfl,rfl,rfl,rfl⟩:=e3;subst e4;subst e5;subst e6;subst e7;subst e8;subst e9;exact ⟨⟨n0,false,n1,n2,n3,n4,n5,n6,n7,n8,n9⟩,rfl,w0,by grind,u1,w2,w3,Xw w4,Xw w5,Xw w6,Xw w7,Xw w8⟩
theorem mD {B v} (h:FitV Tryz.prog B 59 v): ∃x:Ord,v=eOrd x/\x.wf B:=by
 obtain ⟨k,cs,h,e⟩:=h.out;obtain ⟨x,rfl,hw⟩:=cJ h;exact ⟨x,e.trans (by rw [Jt,if_pos (VH sJ)];rfl),hw⟩
structure Inst where
 net:Net
 types_c:Bool
 types:List (Typ)
 orders_c:Bool
 orders:List (Ord)
 apart_c:Bool
 apart:List (Int×Int)
 before_c:Bool
 before:List (Int×Int)
 deriving Inhabited
def Zga (x:Inst):List PV:= [.list x.net.places_c (x.net.places.map eS),.list x.net.arcs_c (x.net.arcs.map V0),.list x.types_c (x.types.map V1),.list x.orders_c (x.orders.map eOrd),.list x.apart_c (x.apart.map eP),.list x.before_c (x.before.map eP)]
def ZF (x:Inst):PV:= .agg [.list x.net.places_c (x.net.places.map eS),.list x.net.arcs_c (x.net.arcs.map V0),.list x.types_c (x.types.map V1),.list x.orders_c (x.orders.map eOrd),.list x.apart_c (x.apart.map eP),.list x.before_c (x.before.map eP)]
@[go_sem] theorem Zgn (x:Inst):ZF x= .agg [.list x.net.places_c (x.net.places.map eS),.list x.net.arcs_c (x.net.arcs.map V0),.list x.types_c (x.types.map V1),.list x.orders_c (x.orders.map eOrd),.list x.apart_c (x.apart.map eP),.list x.before_c (x.before.map eP)]:=Zh rfl rfl
def Inst.wf (B:Nat) (x:Inst):Prop:=Net.wf B x.net/\x.types.length<=B/\(∀y∈x.types,Typ.wf B y)/\x.orders.length<=B/\(∀y∈x.orders,Ord.wf B y)/\x.apart.length<=B/\(∀p∈x.apart,UP p.1/\UP p.2)/\x.before.length<=B/\(∀p∈x.before,UP p.1/\UP p.2)
theorem RW {B m cs} (h:Y7 Tryz.prog B m 43 cs): ∃x:Inst,cs=Zga x/\x.wf B:=by
 obtain ⟨h1,m',h2⟩:=VC sI Zgh h;obtain ⟨a0,a1,a2,a3,a4,a5,rfl⟩:=Zhg h1;obtain ⟨n0,e0,w0⟩:=cI (h2 (0,38) Zb);obtain ⟨y1,e1,w1,_,z1⟩:=X8 Tryz.underlying39 (h2 (2,39) Zb);obtain ⟨n1,rfl,u1⟩:=Ve (f:=V1) fun y hy=>mE (z1 y hy);obtain ⟨y2,e2,w2,_,z2⟩:=X8 Tryz.underlying40 (h2 (3,40) Zb);obtain ⟨n2,rfl,u2⟩:=Ve (f:=eOrd) fun y hy=>mD (z2 y hy);obtain ⟨y3,e3,w3,_,z3⟩:=X8 Tryz.underlying41 (h2 (4,41) Zb);obtain ⟨n3,rfl,u3⟩:=Ve (f:=eP) fun y hy=>rT (z3 y hy)
 obtain ⟨y4,e4,w4,_,z4⟩:=X8 Tryz.underlying41 (h2 (5,41) Zb);obtain ⟨n4,rfl,u4⟩:=Ve (f:=eP) fun y hy=>rT (z4 y hy);simp [Zgg,Zgf,Zge,rQ,Zgb] at e0 e1 e2 e3 e4;obtain ⟨rfl,rfl⟩:=e0;subst e1;subst e2;subst e3;subst e4;exact ⟨⟨n0,false,n1,false,n2,false,n3,false,n4⟩,rfl,w0,by grind,u1,by grind,u2,by grind,u3,by grind,u4⟩
theorem cB {B v} (h:FitV Tryz.prog B 43 v): ∃x:Inst,v=ZF x/\x.wf B:=by
 obtain ⟨k,cs,h,e⟩:=h.out;obtain ⟨x,rfl,hw⟩:=RW h;exact ⟨x,e.trans (by rw [Jt,if_pos (VH sI)];rfl),hw⟩
structure Vis where
 order:Int
 drp:Bool
 deriving Inhabited
def Xf (x:Vis):PV:= .agg [.int .i64 x.order,.bool x.drp]
@[go_sem] theorem OT (x:Vis):Xf x= .agg [.int .i64 x.order,.bool x.drp]:=Zh rfl rfl
@[go_sem] theorem Zcu (l:List Vis):Cb 2 (l.map Xf)=true:=DR (f:=Xf) (S:=2) (fun _=>rfl) l
@[go_sem] theorem Zhy (l:List Vis):Ap 2 (l.map Xf)=true:=Dz fun _=>rfl
structure Rte where
 typ:Int
 start:Int
 rests_c:Bool
 rests:List (Bool)
 visits_c:Bool
 visits:List (Vis)
 deriving Inhabited
def WA (x:Rte):PV:= .agg [.int .i64 x.typ,.int .i64 x.start,.list x.rests_c (x.rests.map eB),.list x.visits_c (x.visits.map Xf)]
@[go_sem] theorem Zjt (x:Rte):WA x= .agg [.int .i64 x.typ,.int .i64 x.start,.list x.rests_c (x.rests.map eB),.list x.visits_c (x.visits.map Xf)]:=Zh rfl rfl
structure Tim where
 arr:Int
 beg:Int
 dep:Int
 rest:Bool
 deriving Inhabited
def eTim (x:Tim):PV:= .agg [.int .i64 x.arr,.int .i64 x.beg,.int .i64 x.dep,.bool x.rest]
@[go_sem] theorem Zjy (x:Tim):eTim x= .agg [.int .i64 x.arr,.int .i64 x.beg,.int .i64 x.dep,.bool x.rest]:=Zh rfl rfl
@[go_sem] theorem Zhx (l:List Tim):Ap 4 (l.map eTim)=true:=Dz fun _=>rfl
structure She where
 rest:Bool
 dep:Int
 times_c:Bool
 times:List (Tim)
 fin:Int
 miles:Int
 deriving Inhabited
def D8 (x:She):PV:= .agg [.bool x.rest,.int .i64 x.dep,.list x.times_c (x.times.map eTim),.int .i64 x.fin,.int .i64 x.miles]
@[go_sem] theorem Zjv (x:She):D8 x= .agg [.bool x.rest,.int .i64 x.dep,.list x.times_c (x.times.map eTim),.int .i64 x.fin,.int .i64 x.miles]:=Zh rfl rfl
structure Sco where
 cost:Int
 moved:Int
 other:Int
 work:Int
 deriving Inhabited
def Bb (x:Sco):PV:= .agg [.int .i64 x.cost,.int .i64 x.moved,.int .i64 x.other,.int .i64 x.work]
@[go_sem] theorem Zju (x:Sco):Bb x= .agg [.int .i64 x.cost,.int .i64 x.moved,.int .i64 x.other,.int .i64 x.work]:=Zh rfl rfl
structure Pln where
 routes_c:Bool
 routes:List (Rte)
 unserved_c:Bool
 unserved:List (Int)
 deriving Inhabited
def UR (x:Pln):PV:= .agg [.list x.routes_c (x.routes.map WA),.list x.unserved_c (x.unserved.map eI)]
@[go_sem] theorem Zjs (x:Pln):UR x= .agg [.list x.routes_c (x.routes.map WA),.list x.unserved_c (x.unserved.map eI)]:=Zh rfl rfl
structure Col where
 typ:Int
 set:Int
 price:Int
 route:Rte
 deriving Inhabited
def lC (x:Col):List PV:= [.int .i64 x.typ,.int .i64 x.set,.int .i64 x.price,.int .i64 x.route.typ,.int .i64 x.route.start,.list x.route.rests_c (x.route.rests.map eB),.list x.route.visits_c (x.route.visits.map Xf)]
def Yl (x:Col):PV:= .agg [.int .i64 x.typ,.int .i64 x.set,.int .i64 x.price,.int .i64 x.route.typ,.int .i64 x.route.start,.list x.route.rests_c (x.route.rests.map eB),.list x.route.visits_c (x.route.visits.map Xf)]
@[go_sem] theorem Zjp (x:Col):Yl x= .agg [.int .i64 x.typ,.int .i64 x.set,.int .i64 x.price,.int .i64 x.route.typ,.int .i64 x.route.start,.list x.route.rests_c (x.route.rests.map eB),.list x.route.visits_c (x.route.visits.map Xf)]:=Zh rfl rfl
theorem own : ownKnob Tryz.prog.godebug=none:=Zd
theorem mV : laidOutB Tryz.prog=true:=Zd
abbrev Flt := Int×List UInt8
def eF (f:Flt):PV:= .agg [.int .i64 f.1,.str f.2]
@[go_sem] theorem ZnM (f:Flt):eF f= .agg [.int .i64 f.1,.str f.2]:=Zh rfl rfl
@[go_sem] theorem Zl4 (l:List Flt):Ap 2 (l.map eF)=true:=Dz fun _=>rfl
def dec (n:Nat):List UInt8:=if h:n<10 then [UInt8.ofNat (48+n)] else dec (n / 10)++ [UInt8.ofNat (48+n%10)]
termination_by n
decreasing_by omega
theorem OQ : ∀(k n:Nat),n<k->(dec n).length<=n+1:=by
 intro k
 induction k with
 | zero=>omega
 | succ k ih =>
  grind [dec]
theorem AC : ∀(d n:Nat),n<10^(d+1)->(dec n).length<=d+1:=by
 intro d
 induction d with
 | zero=>simp_all [dec]
 | succ d ih =>
  grind [dec]
def Ae (n:Int):List UInt8:=if n<0 then 45::dec n.natAbs else dec n.natAbs
theorem QC (n:Int) (h:UP n):(Ae n).length<=20:=by
 have h1:n.natAbs<10^(18+1):=Za
 have:=AC 18 n.natAbs h1
 grind [Ae]
structure FR {α:Type} (p:α->Prop) (C:Prop) (b:Nat) (l:List α):Prop where
 len:l.length<=b
 emp:l= []↔C
 all: ∀x∈l,p x
theorem FR.nil {α:Type} {p:α->Prop} {C:Prop} {b:Nat} (h:C):FR p C b []:=⟨Zb,by simp [h],Zb⟩
theorem FR.no {α:Type} {p:α->Prop} {C c:Prop} {b:Nat} {l:List α} (h:FR p C b l) (hc:c):FR p (C/\c) (b+1) l:=⟨by have:=h.len;omega,by rw [h.emp];simp [hc],h.all⟩
theorem FR.yes {α:Type} {p:α->Prop} {C c:Prop} {b:Nat} {l:List α} {x:α} (h:FR p C b l) (hc: ¬c) (hx:p x):FR p (C/\c) (b+1) (l++ [x]) :=
 ⟨by have:=h.len;simp;omega,by simp [hc],fun y hy=>by
  rcases Xr.1 hy with hy | hy
  ·exact h.all y hy
  grind⟩
theorem FR.app {α:Type} {p:α->Prop} {C D:Prop} {b d:Nat} {l m:List α} (h:FR p C b l) (k:FR p D d m):FR p (C/\D) (b+d) (l++m) :=
 ⟨by have:=h.len;have:=k.len;simp;omega,by rw [Qn,h.emp,k.emp],fun y hy=>by
  rcases Xr.1 hy with hy | hy
  ·exact h.all y hy
  ·exact k.all y hy⟩
theorem FR.to {α:Type} {p:α->Prop} {C D:Prop} {b d:Nat} {l:List α} (h:FR p C b l) (hb:b<=d) (hc:C↔D):FR p D d l:=⟨K0 h.len hb,h.emp.trans hc,h.all⟩
theorem Zm {p:Nat->Prop} {k:Nat} :(∀j,j<k+1->p j)↔((∀j,j<k->p j)/\p k) :=
 ⟨fun h=>⟨fun j hj=>h j Za,h k Za⟩,fun h j hj=>by
  grind⟩
def Jb (c:UInt8):Bool:=decide (48<=c.toNat/\c.toNat<=57)
def QG (c:UInt8):Bool:=decide (97<=c.toNat/\c.toNat<=122)||decide (65<=c.toNat/\c.toNat<=90)||decide (c.toNat=95)
def nameOk (s:List UInt8):Bool:=decide (1<=s.length)&&decide (s.length<=16)&& !Jb (nth s 0)&&s.all fun c=>QG c||Jb c
def rng (n lo hi:Int):Bool:=decide (lo<=n/\n<=hi)
def Ij (n:Int):Bool:=rng n 0 4096
def gJ (l:List Pt) (i:Nat):Prop:=(0<=(nth l i).t/\(nth l i).t<=4096/\(nth l i).t<=(nth l i).a/\(nth l i).a<=(nth l i).t+4096)/\(0<i->(nth l (i-1)).t<(nth l i).t/\(nth l (i-1)).a<=(nth l i).a)
def WE (l:List Pt):Prop:=(1<=l.length/\l.length<=16)/\ ∀i,i<l.length->gJ l i
def Ks (l:List Pt) (i:Nat):Prop:=Ij (nth l i).t=true/\Ij (nth l i).a=true/\(0<i->(nth l (i-1)).t<(nth l i).t)
def ID (n:Net) (i:Nat):Prop :=
 ((((((0<=(nth n.arcs i).src/\(nth n.arcs i).src<n.places.length/\0<=(nth n.arcs i).dst/\(nth n.arcs i).dst<n.places.length) /\
 (0<=(nth n.arcs i).prof/\(nth n.arcs i).prof<=7/\0<=(nth n.arcs i).miles/\(nth n.arcs i).miles<=10000/\(nth n.arcs i).src≠(nth n.arcs i).dst)) /\
 (∀k,k<i-> ¬((nth n.arcs i).src=(nth n.arcs k).src/\(nth n.arcs i).dst=(nth n.arcs k).dst/\(nth n.arcs i).prof=(nth n.arcs k).prof))) /\
 WE (nth n.arcs i).travel)/\(nth n.arcs i).slow.length<=16)/\ ∀k,k<(nth n.arcs i).slow.length->Ks (nth n.arcs i).slow k)
def NQ (n:Net) (i:Nat):Prop:=nameOk (nth n.places i)=true/\ ∀k,k<i->nth n.places k≠nth n.places i
def Kh (n:Net):Prop:=n.places.length<=24/\ ∀i,i<n.places.length->NQ n i
def netOk (n:Net):Prop:=(Kh n/\n.arcs.length<=1024)/\ ∀i,i<n.arcs.length->ID n i
set_option maxRecDepth 8000
set_option maxHeartbeats 4000000
theorem OS (c:UInt8):PC 274 [.p (.int .u8 (c.toNat:Nat))] (.bool (Jb c)):=by
 refine Zc Tryz.func274 rfl zZ ?_;simp (disch:=omega) only [Tryz.f274,go_sem,seval];refine gT ?_ ?_<;>intro h<;>simp (disch:=omega) only [Sh.out h,go_sem,seval,↓reduceIte]
 all_goals (simp [Jb];first | done | omega | grind)
theorem dY (c:UInt8):PC 275 [.p (.int .u8 (c.toNat:Nat))] (.bool (QG c)):=by
 refine Zc Tryz.func275 rfl Zaa ?_;simp (disch:=omega) only [Tryz.f275,go_sem,seval]
 repeat' (first | (refine gT ?_ ?_<;>intro hq<;>simp (disch:=omega) only [Sh.out hq,go_sem,seval,↓reduceIte]) | (refine gF ?_ ?_<;>intro hq<;>simp (disch:=omega) only [Sh.out hq,go_sem,seval,↓reduceIte]) | (refine QY (fun hq=> ?_) (fun hq=> ?_)<;>(try simp only [Zl,XJ,Xy] at hq)<;>simp (disch:=omega) only [Sh.out hq,go_sem,seval]))
 all_goals (simp [QG];first | done | omega | (rw [YY];simp;omega))
theorem NF (s:List UInt8) (hs:s.length<=1048576):PC 226 [.p (.str s)] (.bool (nameOk s)):=by
 refine Zc Tryz.func226 rfl yN ?_;simp (disch:=omega) only [Tryz.f226,go_sem,seval];refine gF ?_ ?_<;>intro h<;>simp (disch:=omega) only [Sh.out h,go_sem,seval,↓reduceIte]
 ·grind [nameOk]
 ·refine gF ?_ ?_<;>intro h2<;>simp (disch:=omega) only [Sh.out h2,go_sem,seval]
  ·grind [nameOk]
  ·have g1:1<=s.length:=Za
   have g2:s.length<=16:=Za
   refine (OS (nth s 0)).use (Wp ?_);refine cD ?_ ?_<;>intro h3<;>simp (disch:=omega) only [Sh.out h3,go_sem,seval]
   ·simp [nameOk,h3]
   ·refine Zk [0] (fun k:Nat=> [(3,.p (.int .i64 k))]) (fun _=> []) (fun k=>k<=s.length/\ ∀j,j<k->(QG (nth s j)||Jb (nth s j))=true) (fun k=>s.length-k) 0 Zb (Weak.mk ?_) ?_
    ·simp (disch:=omega) only [go_sem,seval,↓reduceIte]
    ·rintro k ⟨hk,hno⟩;refine Wp ?_
     have hall: ∀j,j<s.length->(QG (nth s j)||Jb (nth s j))=false->nameOk s=false:=fun j hj e=>by
      grind [Ze,nameOk]
     refine cD ?_ ?_<;>intro h4<;>simp (disch:=omega) only [Sh.out h4,go_sem,seval,↓reduceIte]
     ·have hk2:k<s.length:=Za
      refine (dY (nth s k)).use (Wp ?_);refine gT ?_ ?_<;>intro h5<;>simp (disch:=omega) only [Sh.out h5,go_sem,seval,↓reduceIte]
      ·refine (OS (nth s k)).use (Wp ?_);refine cD ?_ ?_<;>intro h6<;>simp (disch:=omega) only [Sh.out h6,go_sem,seval,↓reduceIte]
       ·grind
       ·simp only [Xn] at h6;exact ⟨k+1,⟨Za,Zm.2 ⟨hno,by simp [h6]⟩⟩,Za,wk⟩
      ·simp only [Xn] at h5;exact ⟨k+1,⟨Za,Zm.2 ⟨hno,by simp [h5]⟩⟩,Za,wk⟩
     ·have:s.all (fun c=>QG c||Jb c)=true:=by
       rw [Zy];intro c hc;obtain ⟨j,hj,rfl⟩:=ZN.1 hc
       grind [Ze]
      grind [nameOk]
theorem KH (n:Int) (hn:UP n):PC 174 [.p (.int .i64 n)] (.str (Ae n)):=by
 refine Zc Tryz.func174 rfl xS ?_;simp (disch:=omega) only [Tryz.f174,go_sem,seval]
 have h19:n.natAbs<10^(18+1):=Za
 have hdl:=AC 18 n.natAbs h19
 refine Xc [7] [0] (fun q:Int×List UInt8×Bool=> [(3,.p (.str q.2.1)),(4,.p (.int .i64 q.1)),(5,.p (.bool q.2.2))]) (fun _=> [])
  (fun q=>UP q.1/\(q.2.2=true->dec q.1.natAbs++q.2.1=dec n.natAbs)/\(q.2.2=false->q.2.1=dec n.natAbs)) (fun q=>if q.2.2 then q.1.natAbs+1 else 0) (n,[],true) (by simp;omega) (Weak.mk ?_) ?_
 ·simp (disch:=omega) only [go_sem,seval,↓reduceIte]
 ·rintro ⟨m,s,again⟩ ⟨hm,h1,h2⟩;simp only at hm h1 h2;refine Wp ?_
  cases again with
  | false =>
   refine Wp ?_;have h2:=h2 rfl
   have hl2:([45]:List UInt8).length+(dec n.natAbs).length<=9223372036854775807:=by simp;omega
   refine cD ?_ ?_<;>intro h3<;>simp (disch:=omega) only [Sh.out h3,go_sem,seval]
   ·simp (disch:=omega) only [Ae,h2,h3,hU hl2,go_sem,seval,↓reduceIte]
   ·simp (disch:=omega) only [Ae,h2,h3,go_sem,seval,↓reduceIte]
  | true =>
   have h1:=h1 rfl
   have hls:(dec m.natAbs).length+s.length=(dec n.natAbs).length:=by grind
   refine Wp ?_
   have e1:(m.tmod 10).natAbs=m.natAbs%10:=Zb
   have e2:(m.tdiv 10).natAbs=m.natAbs / 10:=by grind
   have e3:m.tmod 10<10/\ -10<m.tmod 10:=⟨Int.tmod_lt_of_pos _ (by decide),Za⟩;refine ZI [0,3,4] (fun _:Unit=> [(6,.p (.int .i64 ((m.natAbs%10:Nat):Int)))]) (fun _=> []) (fun _=>True) ?_ ?_
   ·refine Wp ?_;refine cD ?_ ?_<;>intro h3<;>simp (disch:=omega) only [Sh.out h3,go_sem,seval,↓reduceIte]
    ·exact ⟨(),Weak.mk (by refine Wp ?_;simp;omega)⟩
    ·exact ⟨(),Weak.mk (by refine Wp ?_;simp;omega)⟩
   ·intro _ _;refine Zg [] _ _ _ _ ?_;simp (disch:=first | omega | (simp only [Zz,ZQ,Zw,Zv,ZE,ZK]<;>omega)) only [go_sem,seval,↓reduceIte]
    have e4:(48+((m.natAbs%10:Nat):Int)).toNat=48+m.natAbs%10:=Za
    refine ⟨(m.tdiv 10,UInt8.ofNat (48+m.natAbs%10)::s,decide (m.tdiv 10≠0)),⟨?_,?_,?_⟩,?_,Weak.mk ?_⟩
    ·omega
    ·simp only [Zl];intro hne
     have h10: ¬m.natAbs<10:=Za
     rw [e2,<- h1,dec.eq_def m.natAbs,dif_neg h10];simp
    ·simp only [XJ,Xy];intro hz
     have h10:m.natAbs<10:=Za
     rw [<- h1,dec.eq_def m.natAbs,dif_pos h10,KT h10];simp
    ·grind
    ·simp (disch:=omega) only [e4,go_sem,seval]
def pF (k:Nat) (f:Flt):Prop:=f.2.length<=k
theorem XH {P:Program} {id:Nat} {l:List Oper} {fr:List V} {H:List AM.Obj} {Q:Exit->List V->List AM.Obj->Prop} {t} (h:hs P (l.map (·.dst)) H (Zu (fun fr'=>Q .normal (MO fr') H) ⟨⟩) l (MO fr)) (hm:P.follows .mixedOrders=true:=by exact mixed) (hB:W5 (List.toArray l) l.length=true:=by kernel_rfl) (hR:Kl (List.toArray l) l.length=true:=by kernel_rfl):AWP P (.region id (Zu (List.toArray l) t) true) fr H Q:=M4 hm hB hR h
theorem aT (l:List Pt) (c:Bool) (hl:l.length<=1048576):ACalls Tryz.prog 227 [.p (.list c (l.map F3))] [] fun x H'=> ∃m:List Flt,FR (pF 20) (WE l) (2*l.length+1) m/\x= .sl 0 0 m.length m.length/\H'= [.elems 2 (m.map eF)]:=by
 refine Xa [2] Tryz.func227 rfl yO ?_;simp (disch:=omega) only [Tryz.f227,go_sem,seval];refine Zr (Weak.ofNil 3 2 (by simp (disch:=omega) only [go_sem,seval]) Zb (Weak.refl _ _ _)) ?_;refine ZI [0] (fun m:List Flt=> [(3,.sl 0 0 m.length m.length)]) (fun m=> [.elems 2 (m.map eF)]) (fun m=>FR (pF 20) (1<=l.length/\l.length<=16) 1 m) ?_ ?_
 ·refine Wp ?_
  repeat' (first | (refine VA (fun hq=> ?_) (fun hq=> ?_)<;>(try simp only [Zl,XJ,Xy] at hq)<;>simp (disch:=omega) only [Sh.out hq,go_sem,seval]) | (refine gF ?_ ?_<;>intro hq<;>simp (disch:=omega) only [Sh.out hq,go_sem,seval,↓reduceIte]) | (refine cD ?_ ?_<;>intro hq<;>simp (disch:=omega) only [Sh.out hq,go_sem,seval,↓reduceIte]))
  ·exact ⟨[(4,[])],⟨Zb,by simp;omega,by simp [pF]⟩,wk⟩
  ·exact ⟨[(4,[])],⟨Zb,by simp;omega,by simp [pF]⟩,wk⟩
  ·exact ⟨[],FR.nil Za,wk⟩
 ·intro m hm;refine Zg [] _ _ _ _ (Wp ?_);refine Xc [8] [0] (fun q:Nat×List Flt=> [(3,.sl 0 0 q.2.length q.2.length),(4,.p (.int .i64 q.1))]) (fun q=> [.elems 2 (q.2.map eF)]) (fun q=>q.1<=l.length/\FR (pF 20) ((1<=l.length/\l.length<=16)/\ ∀j,j<q.1->gJ l j) (2*q.1+1) q.2) (fun q=>l.length-q.1) (0,m) ⟨Zb,hm.to Zb Zb⟩ (Weak.mk ?_) ?_
  ·simp (disch:=omega) only [go_sem,seval,↓reduceIte]
  ·rintro ⟨k,m⟩ ⟨hk,hm⟩;simp only at hk hm;have hml:=hm.len;refine Wp ?_;refine cD ?_ ?_<;>intro h<;>simp (disch:=omega) only [Sh.out h,go_sem,seval,↓reduceIte]
   ·have hk2:k<l.length:=Za
    refine ZI [0,4,5] (fun m:List Flt=> [(3,.sl 0 0 m.length m.length)]) (fun m=> [.elems 2 (m.map eF),.cells [.p (.int .i64 (nth l k).t),.p (.int .i64 (nth l k).a)]])
     (fun m=>FR (pF 20) (((1<=l.length/\l.length<=16)/\ ∀j,j<k->gJ l j)/\(0<=(nth l k).t/\(nth l k).t<=4096/\(nth l k).t<=(nth l k).a/\(nth l k).a<=(nth l k).t+4096)) (2*k+1+1) m) ?_ ?_
    ·refine Wp ?_
     have hI:UP (k:Int):=Za
     have hdl:=QC k hI
     repeat' (first | (refine VA (fun hq=> ?_) (fun hq=> ?_)<;>(try simp only [Zl,XJ,Xy] at hq)<;>simp (disch:=omega) only [Sh.out hq,go_sem,seval]) | (refine gF ?_ ?_<;>intro hq<;>simp (disch:=omega) only [Sh.out hq,go_sem,seval,↓reduceIte]) | (refine cD ?_ ?_<;>intro hq<;>simp (disch:=omega) only [Sh.out hq,go_sem,seval,↓reduceIte]))
     all_goals try exact ⟨m,hm.no Za,wk⟩
     all_goals
      refine (KH k hI).use ?_;simp (disch:=omega) only [go_sem,seval,↓reduceIte];exact ⟨m++ [(2,Ae k)],hm.yes Za (by simp only [pF];omega),wk⟩
    ·intro m hm;have hml:=hm.len;refine Zg [] _ _ _ _ (Wp ?_)
     have hI:UP (k:Int):=Za
     have hdl:=QC k hI;refine XH (Wp ?_)
     repeat' (first | (refine gT ?_ ?_<;>intro hq<;>simp (disch:=omega) only [Sh.out hq,go_sem,seval,↓reduceIte]) | (refine gF ?_ ?_<;>intro hq<;>simp (disch:=omega) only [Sh.out hq,go_sem,seval,↓reduceIte]) | (refine cD ?_ ?_<;>intro hq<;>simp (disch:=omega) only [Sh.out hq,go_sem,seval,↓reduceIte]))
     all_goals try exact ⟨(k+1,m),⟨by simp only;omega,(hm.no (c:=0<k->(nth l (k-1)).t<(nth l k).t/\(nth l (k-1)).a<=(nth l k).a) Za).to (by simp only;omega) (by simp only [Zm,gJ,and_assoc])⟩,by simp only;omega,wk⟩
     all_goals
      refine (KH k hI).use ?_;simp (disch:=omega) only [go_sem,seval,↓reduceIte];exact ⟨(k+1,m++ [(13,Ae k)]),⟨by simp only;omega,(hm.yes (c:=0<k->(nth l (k-1)).t<(nth l k).t/\(nth l (k-1)).a<=(nth l k).a) Za (by simp only [pF];omega)).to (by simp only;omega) (by simp only [Zm,gJ,and_assoc])⟩,by simp only;omega,wk⟩
   ·have hkn:k=l.length:=Za
    subst hkn;exact ⟨m,hm.to Za (by rw [WE]),0,by simp (disch:=omega) only [go_sem,seval]⟩
set_option maxHeartbeats 8000000
theorem pF.mono {j k:Nat} (h:j<=k) {f:Flt} (hf:pF j f):pF k f:=K0 hf h
theorem FR.pmono {α:Type} {p q:α->Prop} {C:Prop} {b:Nat} {l:List α} (h:FR p C b l) (hp: ∀x,p x->q x):FR q C b l:=⟨h.len,h.emp,fun x hx=>hp x (h.all x hx)⟩
theorem Mx (n:Int):PC 228 [.p (.int .i64 n)] (.bool (Ij n)):=by
 refine Zc Tryz.func228 rfl yP ?_;simp (disch:=omega) only [Tryz.f228,go_sem,seval]
 repeat' (first | (refine gT ?_ ?_<;>intro hq<;>simp (disch:=omega) only [Sh.out hq,go_sem,seval,↓reduceIte]) | (refine Uj (fun hq=> ?_) (fun hq=> ?_)<;>(try simp only [Zl,XJ,Xy] at hq)<;>simp (disch:=omega) only [Sh.out hq,go_sem,seval]) | (refine QY (fun hq=> ?_) (fun hq=> ?_)<;>(try simp only [Zl,XJ,Xy] at hq)<;>simp (disch:=omega) only [Sh.out hq,go_sem,seval]))
 all_goals (simp [Ij,rng];first | done | omega | (rw [YY];simp;omega))
def Z1 (n:Net):List AM.Obj:= [.cells [.p (.list n.places_c (n.places.map eS)),.p (.list n.arcs_c (n.arcs.map V0))]]
theorem C8 {P Q:Prop} (h:Q) (e:Q->P:=by intro h;simp (disch:=omega) only [Z1,go_sem,seval];exact h):P:=e h
theorem Nh (n:Net) (hp:n.places.length<=1048576) (hs: ∀s∈n.places,s.length<=1048576):ACalls Tryz.prog 170 [.p (Ba n)] [] fun x H'=> ∃m:List Flt,FR (pF 26) (Kh n) (n.places.length+1) m/\x= .sl 0 0 m.length m.length/\H'= [.elems 2 (m.map eF)]:=by
 refine Xa [2] Tryz.func170 rfl xO ?_;simp (disch:=omega) only [Tryz.f170,go_sem,seval];refine Zr (Weak.ofNil 3 2 (by simp (disch:=omega) only [go_sem,seval]) Zb (Weak.refl _ _ _)) ?_;refine ZI [1] (fun m:List Flt=> [(3,.sl 1 0 m.length m.length)]) (fun m=>Z1 n++ [.elems 2 (m.map eF)]) (fun m=>FR (pF 26) (n.places.length<=24) 1 m) ?_ ?_
 ·refine Wp ?_;refine ZP ?_ ?_<;>intro h
  ·exact ⟨[(4,[112,108,97,99,101,115])],⟨Zb,by simp;omega,by simp [pF]⟩,Weak.mk (by simp (disch:=omega) only [Z1,go_sem,seval])⟩
  ·exact ⟨[],FR.nil Za,Weak.mk (by simp (disch:=omega) only [Z1,go_sem,seval])⟩
 ·intro m hm;refine Zg [] _ _ _ _ (C8 ?_);refine Zk [1] (fun q:Nat×List Flt=> [(3,.sl 1 0 q.2.length q.2.length),(4,.p (.int .i64 q.1))]) (fun q=>Z1 n++ [.elems 2 (q.2.map eF)]) (fun q=>q.1<=n.places.length/\FR (pF 26) (n.places.length<=24/\ ∀j,j<q.1->NQ n j) (q.1+1) q.2) (fun q=>n.places.length-q.1) (0,m) ⟨Zb,hm.to Zb Zb⟩ (Weak.mk ?_) ?_
  ·simp (disch:=omega) only [Z1,go_sem,seval]
  ·rintro ⟨k,m⟩ ⟨hk,hm⟩;simp only at hk hm;have hml:=hm.len;refine C8 ?_;refine cD ?_ ?_<;>intro h<;>simp (disch:=omega) only [Sh.out h,go_sem,seval,↓reduceIte]
   ·have hk2:k<n.places.length:=Za
    have hI:UP (k:Int):=Za
    have hdl:=QC k hI;refine (KH k hI).use (Wp ?_);simp (disch:=first | omega | (simp only [Zz,ZQ,Zw,Zv,ZE,ZK]<;>omega)) only [go_sem,seval,↓reduceIte];refine (NF (nth n.places k) (hs _ (by grind [Ze]))).use (Wp ?_);refine ZP ?_ ?_<;>intro h2
    ·simp only [Yr] at h2;exact ⟨(k+1,m++ [(5,[112,108,97,99,101,32]++Ae k)]),⟨Za,(hm.yes (c:=NQ n k) (by rw [NQ,h2];simp) (by simp [pF];omega)).to Zb (by grind)⟩,Za,wk⟩
    ·simp only [Xn] at h2;refine Zk [1,3,4,5] (fun q:Nat×Bool=> [(6,.p (.bool q.2)),(7,.p (.int .i64 q.1))]) (fun _=>Z1 n++ [.elems 2 (m.map eF)]) (fun q=>q.1<=k/\(q.2=false↔ ∀j,j<q.1->nth n.places j≠nth n.places k)) (fun q=>k-q.1) (0,false) Zb (Weak.mk ?_) ?_
     ·simp (disch:=omega) only [Z1,go_sem,seval]
     ·rintro ⟨j,b⟩ ⟨hj,hb⟩;simp only at hj hb;refine C8 ?_;refine cD ?_ ?_<;>intro h3<;>simp (disch:=omega) only [Sh.out h3,go_sem,seval,↓reduceIte]
      ·refine Z6 14 mixed Zd Zd (Wp ?_)
       have hjn:j<n.places.length:=Za
       cases b with
       | true =>
        refine Wp ?_;exact ⟨(j+1,true),⟨Za,by grind⟩,Za,wk⟩
       | false =>
        refine Wp ?_;refine ⟨(j+1,decide (nth n.places j=nth n.places k)),⟨Za,by grind⟩,Za,wk⟩
      ·have hjk:j=k:=Za
       subst hjk
       cases b with
       | true =>
        refine Wp ?_
        have hno: ¬NQ n j:=fun h5=>by have:=hb.2 h5.2;cases this
        exact ⟨(j+1,m++ [(6,[112,108,97,99,101,32]++Ae j)]),⟨Za,(hm.yes (c:=NQ n j) hno (by simp [pF];omega)).to Zb (by grind)⟩,Za,wk⟩
       | false =>
        refine Wp ?_;exact ⟨(j+1,m),⟨Za,(hm.no (c:=NQ n j) ⟨h2,hb.1 rfl⟩).to Zb (by grind)⟩,Za,wk⟩
   ·have hkn:k=n.places.length:=Za
    subst hkn;exact ⟨m,hm.to Za (by rw [Kh]),1,by simp (disch:=omega) only [go_sem,seval]⟩
set_option maxHeartbeats 16000000
def WI (a:Arc):AM.Obj:= .cells [.p (.int .i64 a.src),.p (.int .i64 a.dst),.p (.int .i64 a.prof),.p (.int .i64 a.miles),.p (.list a.travel_c (a.travel.map F3)),.p (.list a.slow_c (a.slow.map F3))]
abbrev Wi (a b:Arc):Prop:=a.src=b.src/\a.dst=b.dst/\a.prof=b.prof
theorem ZcO {P Q:Prop} (h:Q) (e:Q->P:=by intro h;simp (disch:=omega) only [Z1,WI,go_sem,seval];exact h):P:=e h
theorem lO (n:Net) (i:Nat) (hi:i<n.arcs.length) (hp:n.places.length<=1048576) (ha:n.arcs.length<=1048576) (ht:(nth n.arcs i).travel.length<=1048576) (hsl:(nth n.arcs i).slow.length<=1048576) :
  ACalls Tryz.prog 171 [.p (Ba n),.p (.int .i64 (i:Nat))] [] fun x H'=> ∃m:List Flt,FR (pF 26) (ID n i) 4000000 m/\x= .sl 0 0 m.length m.length/\H'= [.elems 2 (m.map eF)]:=by
 refine Xa [4] Tryz.func171 rfl xP ?_;simp (disch:=omega) only [Tryz.f171,go_sem,seval]
 have hI:UP (i:Int):=Za
 have hdl:=QC i hI;refine (KH i hI).use (Wp ?_);simp (disch:=first | omega | (simp only [Zz,ZQ,Zw,Zv,ZE,ZK]<;>omega)) only [go_sem,seval,↓reduceIte]
 have hat:(97::114::99::32::Ae i).length<=26:=by simp;omega
 generalize hga:nth n.arcs i=a at ht hsl ⊢;generalize 97::114::99::32::Ae i=at' at hat ⊢;refine Zr (Weak.ofNil 5 2 (by simp (disch:=omega) only [go_sem,seval]) Zb (Weak.refl _ _ _)) ?_;refine ZI [1,2,6,7] (fun m:List Flt=> [(5,.sl 2 0 m.length m.length)]) (fun m=>Z1 n++ [WI a,.elems 2 (m.map eF)]) (fun m=>FR (pF 26) (0<=a.src/\a.src<n.places.length/\0<=a.dst/\a.dst<n.places.length) 1 m) ?_ ?_
 ·refine Wp ?_
  repeat' (first | (refine VA (fun hq=> ?_) (fun hq=> ?_)<;>(try simp only [Zl,XJ,Xy] at hq)<;>simp (disch:=omega) only [Sh.out hq,go_sem,seval]) | (refine gF ?_ ?_<;>intro hq<;>simp (disch:=omega) only [Sh.out hq,go_sem,seval]) | (refine cD ?_ ?_<;>intro hq<;>simp (disch:=omega) only [Sh.out hq,go_sem,seval]))
  all_goals try exact ⟨[],FR.nil Za,Weak.mk (by simp (disch:=omega) only [Z1,WI,go_sem,seval])⟩
  all_goals exact ⟨[(11,at')],⟨Zb,by simp;omega,by simpa [pF] using hat⟩,Weak.mk (by simp (disch:=omega) only [Z1,WI,go_sem,seval])⟩
 ·intro m hm;refine Zg [6] _ _ _ _ (ZcO ?_);have hml:=hm.len
  refine ZI [1,2,6,7] (fun m:List Flt=> [(5,.sl 2 0 m.length m.length)]) (fun m=>Z1 n++ [WI a,.elems 2 (m.map eF)])
   (fun m=>FR (pF 26) ((0<=a.src/\a.src<n.places.length/\0<=a.dst/\a.dst<n.places.length)/\(0<=a.prof/\a.prof<=7/\0<=a.miles/\a.miles<=10000/\a.src≠a.dst)) 2 m) ?_ ?_
  ·refine Wp ?_
   repeat' (first | (refine VA (fun hq=> ?_) (fun hq=> ?_)<;>(try simp only [Zl,XJ,Xy] at hq)<;>simp (disch:=omega) only [Sh.out hq,go_sem,seval]) | (refine gF ?_ ?_<;>intro hq<;>simp (disch:=omega) only [Sh.out hq,go_sem,seval]) | (refine cD ?_ ?_<;>intro hq<;>simp (disch:=omega) only [Sh.out hq,go_sem,seval]))
   all_goals try exact ⟨m,hm.no Za,Weak.mk (by simp (disch:=omega) only [Z1,WI,go_sem,seval])⟩
   all_goals exact ⟨m++ [(2,at')],hm.yes Za (by simpa [pF] using hat),Weak.mk (by simp (disch:=omega) only [Z1,WI,go_sem,seval])⟩
  ·clear hm hml;intro m hm;refine Zg [14] _ _ _ _ (ZcO ?_);have hml:=hm.len;refine Xc [14] [1,2,5,6,7] (fun q:Nat×Bool=> [(8,.p (.bool q.2)),(9,.p (.int .i64 q.1))]) (fun _=>Z1 n++ [WI a,.elems 2 (m.map eF)]) (fun q=>q.1<=i/\(q.2=false↔ ∀j,j<q.1-> ¬Wi a (nth n.arcs j))) (fun q=>i-q.1) (0,false) Zb (Weak.mk ?_) ?_
   ·simp (disch:=omega) only [Z1,WI,go_sem,seval]
   ·rintro ⟨k,b⟩ ⟨hk,hb⟩;simp only at hk hb;refine ZcO ?_;refine cD ?_ ?_<;>intro h<;>simp (disch:=omega) only [Sh.out h,go_sem,seval,↓reduceIte]
    ·have hkn:k<n.arcs.length:=Za
     cases b with
     | true =>
      refine Wp ?_;exact ⟨(k+1,true),⟨Za,by grind⟩,Za,wk⟩
     | false =>
      refine Wp ?_
      repeat' (first | (refine gT ?_ ?_<;>intro hq<;>simp (disch:=omega) only [Sh.out hq,go_sem,seval]) | (refine Uj (fun hq=> ?_) (fun hq=> ?_)<;>(try simp only [Zl,XJ,Xy] at hq)<;>simp (disch:=omega) only [Sh.out hq,go_sem,seval]) | (refine QY (fun hq=> ?_) (fun hq=> ?_)<;>(try simp only [Zl,XJ,Xy] at hq)<;>simp (disch:=omega) only [Sh.out hq,go_sem,seval]))
      all_goals refine ⟨(k+1,decide (Wi a (nth n.arcs k))),⟨by simp only;omega,by rw [Zm,<- hb];simp⟩,by simp only;omega,Weak.mk ?_⟩
      all_goals simp (disch:=omega) only [go_sem,seval]
      all_goals simp [Wi, *]
    ·have hki:k=i:=Za
     subst hki;have htw:(b=false↔ ∀j,j<k-> ¬Wi a (nth n.arcs j)):=hb;clear hb hk h
     refine ZI [6,7] (fun m:List Flt=> [(5,.sl 2 0 m.length m.length)]) (fun m=>Z1 n++ [WI a,.elems 2 (m.map eF)])
      (fun m=>FR (pF 26) (((0<=a.src/\a.src<n.places.length/\0<=a.dst/\a.dst<n.places.length)/\(0<=a.prof/\a.prof<=7/\0<=a.miles/\a.miles<=10000/\a.src≠a.dst))/\ ∀j,j<k-> ¬Wi a (nth n.arcs j)) 3 m) ?_ ?_
     ·refine Wp ?_
      cases b with
      | true =>
       refine Wp ?_;exact ⟨m++ [(6,at')],hm.yes (by grind) (by grind [pF]),Weak.mk (by simp (disch:=omega) only [Z1,WI,go_sem,seval])⟩
      | false =>
       refine Wp ?_;exact ⟨m,hm.no (htw.1 rfl),Weak.mk (by simp (disch:=omega) only [Z1,WI,go_sem,seval])⟩
     ·clear hm hml;intro m hm;refine Zg [21] _ _ _ _ (ZcO ?_);have hml:=hm.len;refine ((aT a.travel a.travel_c ht).frozenE).useV fun lt hlt=>Wp ?_;have hltl:=hlt.len
      refine Xc [21] [6,7,11] (fun q:Nat×List Flt=> [(5,.sl 2 0 q.2.length q.2.length),(12,.p (.int .i64 q.1))]) (fun q=>Z1 n++ [WI a,.elems 2 (q.2.map eF)])
       (fun q=>q.1<=lt.length/\FR (pF 26) ((((0<=a.src/\a.src<n.places.length/\0<=a.dst/\a.dst<n.places.length)/\(0<=a.prof/\a.prof<=7/\0<=a.miles/\a.miles<=10000/\a.src≠a.dst))/\ ∀j,j<k-> ¬Wi a (nth n.arcs j))/\q.1=0) (3+q.1) q.2) (fun q=>lt.length-q.1) (0,m) ⟨Zb,hm.to Zb Zb⟩ (Weak.mk ?_) ?_
      ·simp (disch:=omega) only [Z1,WI,go_sem,seval]
      ·clear hm hml;rintro ⟨j,m⟩ ⟨hj,hm⟩;simp only at hj hm;have hml:=hm.len;refine ZcO ?_;refine ZP ?_ ?_<;>intro h
       ·have hj2:j<lt.length:=Za
        exact ⟨(j+1,m++ [((nth lt j).1,at')]),⟨Za,(hm.yes (c:=False) Zb (by grind [pF])).to Za Zb⟩,Za,wk⟩
       ·have hjl:j=lt.length:=Za
        subst hjl;have hm2:=hm.to (d:=3+lt.length) (D:=(((0<=a.src/\a.src<n.places.length/\0<=a.dst/\a.dst<n.places.length)/\(0<=a.prof/\a.prof<=7/\0<=a.miles/\a.miles<=10000/\a.src≠a.dst))/\ ∀j,j<k-> ¬Wi a (nth n.arcs j))/\WE a.travel) (Xg _) (by rw [<- hlt.emp,List.eq_nil_iff_length_eq_zero]);clear hm
        refine ZI [6,7] (fun m:List Flt=> [(5,.sl 2 0 m.length m.length)]) (fun m=>Z1 n++ [WI a,.elems 2 (m.map eF)])
         (fun m=>FR (pF 26) (((((0<=a.src/\a.src<n.places.length/\0<=a.dst/\a.dst<n.places.length)/\(0<=a.prof/\a.prof<=7/\0<=a.miles/\a.miles<=10000/\a.src≠a.dst))/\ ∀j,j<k-> ¬Wi a (nth n.arcs j))/\WE a.travel)/\a.slow.length<=16) (4+lt.length) m) ?_ ?_
        ·refine Wp ?_;refine ZP ?_ ?_<;>intro h2
         ·exact ⟨m++ [(4,at')],(hm2.yes Za (by grind [pF])).to Za Iff.rfl,Weak.mk (by simp (disch:=omega) only [Z1,WI,go_sem,seval])⟩
         ·exact ⟨m,(hm2.no Za).to Za Iff.rfl,Weak.mk (by simp (disch:=omega) only [Z1,WI,go_sem,seval])⟩
        ·clear hm2 hml h hj;intro m hm;refine Zg [] _ _ _ _ (ZcO ?_)
         refine Zk [6,7] (fun q:Nat×List Flt=> [(5,.sl 2 0 q.2.length q.2.length),(13,.p (.int .i64 q.1))]) (fun q=>Z1 n++ [WI a,.elems 2 (q.2.map eF)])
          (fun q=>q.1<=a.slow.length/\FR (pF 26) ((((((0<=a.src/\a.src<n.places.length/\0<=a.dst/\a.dst<n.places.length)/\(0<=a.prof/\a.prof<=7/\0<=a.miles/\a.miles<=10000/\a.src≠a.dst))/\ ∀j,j<k-> ¬Wi a (nth n.arcs j))/\WE a.travel)/\a.slow.length<=16)/\ ∀j,j<q.1->Ks a.slow j) (4+lt.length+q.1) q.2) (fun q=>a.slow.length-q.1) (0,m) ⟨Zb,hm.to Zb Zb⟩ (Weak.mk ?_) ?_
         ·simp (disch:=omega) only [Z1,WI,go_sem,seval]
         ·clear hm;rintro ⟨j,m⟩ ⟨hj,hm⟩;simp only at hj hm;have hml:=hm.len;refine ZcO ?_;refine cD ?_ ?_<;>intro h<;>simp (disch:=omega) only [Sh.out h,go_sem,seval,↓reduceIte]
          ·have hj2:j<a.slow.length:=Za
           refine XH (Wp ?_);refine Zp (Mx (nth a.slow j).t) (Wp ?_);have hslo:Ks a.slow j↔(Ij (nth a.slow j).t=true/\Ij (nth a.slow j).a=true/\(0<j->(nth a.slow (j-1)).t<(nth a.slow j).t)):=Iff.rfl;have hyes: ¬Ks a.slow j->_:=fun hs=>(hm.yes (x:=(2,at')) hs (by grind [pF])).to (D:=(((((0<=a.src/\a.src<n.places.length/\0<=a.dst/\a.dst<n.places.length)/\(0<=a.prof/\a.prof<=7/\0<=a.miles/\a.miles<=10000/\a.src≠a.dst))/\ ∀j,j<k-> ¬Wi a (nth n.arcs j))/\WE a.travel)/\a.slow.length<=16)/\ ∀i,i<j+1->Ks a.slow i) (d:=4+lt.length+(j+1)) Za (by grind)
           have hno:Ks a.slow j->_:=fun hs=>(hm.no hs).to (D:=(((((0<=a.src/\a.src<n.places.length/\0<=a.dst/\a.dst<n.places.length)/\(0<=a.prof/\a.prof<=7/\0<=a.miles/\a.miles<=10000/\a.src≠a.dst))/\ ∀j,j<k-> ¬Wi a (nth n.arcs j))/\WE a.travel)/\a.slow.length<=16)/\ ∀i,i<j+1->Ks a.slow i) (d:=4+lt.length+(j+1)) Za (by grind)
           cases ht1:Ij (nth a.slow j).t with
           | false =>
            refine Wp ?_;exact ⟨(j+1,m++ [(2,at')]),⟨Za,hyes (by grind)⟩,Za,wk⟩
           | true =>
            refine Wp ?_;refine Zp (Mx (nth a.slow j).a) (Wp ?_)
            cases ht2:Ij (nth a.slow j).a with
            | false =>
             refine Wp ?_;exact ⟨(j+1,m++ [(2,at')]),⟨Za,hyes (by grind)⟩,Za,wk⟩
            | true =>
             refine Wp ?_
             repeat' (first | (refine gT ?_ ?_<;>intro hq<;>simp (disch:=omega) only [Sh.out hq,go_sem,seval]) | (refine Uj (fun hq=> ?_) (fun hq=> ?_)<;>(try simp only [Zl,XJ,Xy] at hq)<;>simp (disch:=omega) only [Sh.out hq,go_sem,seval]) | (refine cD ?_ ?_<;>intro hq<;>simp (disch:=omega) only [Sh.out hq,go_sem,seval]))
             ·exact ⟨(j+1,m++ [(2,at')]),⟨Za,hyes (by grind)⟩,Za,wk⟩
             ·exact ⟨(j+1,m),⟨Za,hno (by grind)⟩,Za,wk⟩
             ·exact ⟨(j+1,m),⟨Za,hno (by grind)⟩,Za,wk⟩
          ·have hjn:j=a.slow.length:=Za
           subst hjn;exact ⟨m,hm.to Za (by rw [ID,hga]),2,by simp (disch:=omega) only [go_sem,seval]⟩
theorem Zq {α:Type} [Inhabited α] {l:List α} {i:Nat} (h:i<l.length):nth l i∈l:=by grind [Ze]
theorem vD (n:Net) (hw:n.wf 1048576):ACalls Tryz.prog 126 [.p (Ba n)] [] fun x H'=> ∃m:List Flt,FR (pF 26) (netOk n) 4194306000000 m/\x= .sl 0 0 m.length m.length/\H'= [.elems 2 (m.map eF)]:=by
 obtain ⟨w1,w2,w3,w4⟩:=hw;refine Xa [2] Tryz.func126 rfl wL ?_;simp (disch:=omega) only [Tryz.f126,go_sem,seval];refine (Nh n w1 w2).useE fun m hm=>Wp ?_;have hml:=hm.len;refine ZI [1] (fun m:List Flt=> [(3,.sl 1 0 m.length m.length)]) (fun m=>Z1 n++ [.elems 2 (m.map eF)]) (fun m=>FR (pF 26) (Kh n/\n.arcs.length<=1024) (n.places.length+2) m) ?_ ?_
 ·refine Wp ?_;refine ZP ?_ ?_<;>intro h
  ·exact ⟨m++ [(4,[97,114,99,115])],hm.yes Za (by simp [pF]),Weak.mk (by simp (disch:=omega) only [Z1,go_sem,seval])⟩
  ·exact ⟨m,hm.no Za,Weak.mk (by simp (disch:=omega) only [Z1,go_sem,seval])⟩
 ·clear hm hml;intro m hm;refine Zg [] _ _ _ _ (C8 ?_);refine Zk [1] (fun q:Nat×List Flt=> [(3,.sl 1 0 q.2.length q.2.length),(4,.p (.int .i64 q.1))]) (fun q=>Z1 n++ [.elems 2 (q.2.map eF)]) (fun q=>q.1<=n.arcs.length/\FR (pF 26) ((Kh n/\n.arcs.length<=1024)/\ ∀j,j<q.1->ID n j) (n.places.length+2+q.1*4000000) q.2) (fun q=>n.arcs.length-q.1) (0,m) ⟨Zb,hm.to Zb Zb⟩ (Weak.mk ?_) ?_
  ·simp (disch:=omega) only [Z1,go_sem,seval]
  ·clear hm;rintro ⟨k,m⟩ ⟨hk,hm⟩;simp only at hk hm;have hml:=hm.len;refine C8 ?_;refine cD ?_ ?_<;>intro h<;>simp (disch:=omega) only [Sh.out h,go_sem,seval,↓reduceIte]
   ·have hk2:k<n.arcs.length:=Za
    have ha:=w4 _ (Zq hk2);refine (lO n k hk2 w1 w3 ha.2.2.2.2.1 ha.2.2.2.2.2.2.1).useE fun f hf=>Wp ?_;have hfl:=hf.len
    have q1:(m.length+f.length)*24<=140737488355328:=Za
    have q2:m.length+f.length<=140737488355328:=Za
    simp (disch:=omega) only [q1,q2,go_sem,seval];refine ⟨(k+1,m++f),⟨Za,(hm.app hf).to Za (by grind)⟩,Za,Weak.mk ?_⟩;simp (disch:=omega) only [Zw,XY,go_sem,seval]
   ·have hkn:k=n.arcs.length:=Za
    subst hkn;exact ⟨m,hm.to Za (by rw [netOk]),1,by simp (disch:=omega) only [go_sem,seval]⟩
theorem W6 (n lo hi:Int):PC 172 [.p (.int .i64 n),.p (.int .i64 lo),.p (.int .i64 hi)] (.bool (rng n lo hi)):=by
 refine Zc Tryz.func172 rfl xQ ?_;simp (disch:=omega) only [Tryz.f172,go_sem,seval];refine gT ?_ ?_<;>intro h<;>simp (disch:=omega) only [Sh.out h,go_sem,seval,↓reduceIte]
 all_goals (simp [rng];first | done | omega | (rw [YY];simp;omega))
def Uq (l:List Int) (d:Int):Bool:=rng l.length 1 3&&decide ((l.length:Int)=d)&&l.all fun n=>rng n 0 1000
theorem Nf (l:List Int) (c:Bool) (d:Int) (hl:l.length<=1048576):PC 230 [.p (.list c (l.map eI)),.p (.int .i64 d)] (.bool (Uq l d)):=by
 refine Zc Tryz.func230 rfl yR ?_;simp (disch:=omega) only [Tryz.f230,go_sem,seval];refine (W6 l.length 1 3).use (Wp ?_);refine gF ?_ ?_<;>intro h<;>simp (disch:=omega) only [Sh.out h,go_sem,seval,↓reduceIte]
 ·grind [Uq]
 ·simp only [Xn] at h;refine cD ?_ ?_<;>intro h2<;>simp (disch:=omega) only [Sh.out h2,go_sem,seval]
  ·simp [Uq,h,h2]
  ·simp only [Xy] at h2;subst h2;refine Zk [0] (fun k:Nat=> [(5,.p (.int .i64 k))]) (fun _=> []) (fun k=>k<=l.length/\ ∀j,j<k->rng (nth l j) 0 1000=true) (fun k=>l.length-k) 0 Zb (Weak.mk ?_) ?_
   ·simp (disch:=omega) only [go_sem,seval,↓reduceIte]
   ·rintro k ⟨hk,hno⟩;refine Wp ?_;refine cD ?_ ?_<;>intro h3<;>simp (disch:=omega) only [Sh.out h3,go_sem,seval,↓reduceIte]
    ·have hk2:k<l.length:=Za
     refine (W6 (nth l k) 0 1000).use (Wp ?_);refine cD ?_ ?_<;>intro h4<;>simp (disch:=omega) only [Sh.out h4,go_sem,seval,↓reduceIte]
     ·grind [Zq,Uq]
     ·simp only [Xn] at h4;exact ⟨k+1,⟨Za,Zm.2 ⟨hno,h4⟩⟩,Za,wk⟩
    ·have:l.all (fun n=>rng n 0 1000)=true:=by
      rw [Zy];intro x hx;obtain ⟨j,hj,rfl⟩:=ZN.1 hx
      grind [Ze]
     grind [Uq]
def NB (l:List Typ) (i:Nat) (s:List UInt8):Bool:=(List.range i).any fun j=>decide ((nth l j).name=s)
theorem V3 {l:List Typ} {i:Nat} {s:List UInt8} :NB l i s=false↔ ∀j,j<i->(nth l j).name≠s:=by
 grind [NB]
theorem Sc (l:List Typ) (c:Bool) (i:Nat) (s:List UInt8) (hi:i<=l.length) (hl:l.length<=1048576):PC 229 [.p (.list c (l.map V1)),.p (.int .i64 (i:Nat)),.p (.str s)] (.bool (NB l i s)):=by
 refine Zc Tryz.func229 rfl yQ ?_;simp (disch:=omega) only [Tryz.f229,go_sem,seval];refine Zk [0,1,2] (fun k:Nat=> [(7,.p (.int .i64 k))]) (fun _=> []) (fun k=>k<=i/\ ∀j,j<k->(nth l j).name≠s) (fun k=>i-k) 0 Zb (Weak.mk ?_) ?_
 ·simp (disch:=omega) only [go_sem,seval,↓reduceIte]
 ·rintro k ⟨hk,hno⟩;refine Wp ?_;refine cD ?_ ?_<;>intro h3<;>simp (disch:=omega) only [Sh.out h3,go_sem,seval,↓reduceIte]
  ·have hk2:k<l.length:=Za
   refine cD ?_ ?_<;>intro h4<;>simp (disch:=omega) only [Sh.out h4,go_sem,seval,↓reduceIte]
   ·grind [V3]
   ·exact ⟨k+1,⟨Za,Zm.2 ⟨hno,h4⟩⟩,Za,wk⟩
  grind [V3]
def dimsOf (l:List Typ):Int:=if l.length=0 then 0 else ((nth l 0).cap.length:Int)
theorem IZ (l:List Typ) (c:Bool) (hl:l.length<=1048576):PC 129 [.p (.list c (l.map V1))] (.int .i64 (dimsOf l)):=by
 refine Zc Tryz.func129 rfl wO ?_;simp (disch:=omega) only [Tryz.f129,go_sem,seval];refine cD ?_ ?_<;>intro h<;>simp (disch:=omega) only [Sh.out h,go_sem,seval,↓reduceIte]
 ·grind [dimsOf]
 ·have h0:0<l.length:=Za
  have h1:l.length≠0:=Za
  simp (disch:=first | omega | (simp only [Zz,ZQ,Zw,Zv,ZE,ZK]<;>omega)) only [dimsOf,h1,go_sem,seval,↓reduceIte]
def Yj (t:Typ):AM.Obj:= .cells [.p (.str t.name),.p (.int .i64 t.count),.p (.int .i64 t.src),.p (.int .i64 t.dst),.p (.list t.cap_c (t.cap.map eI)),.p (.int .i64 t.skills),.p (.int .i64 t.prof),.p (.int .i64 t.opn),.p (.int .i64 t.cls),.p (.int .i64 t.drive),.p (.int .i64 t.rest),.p (.int .i64 t.fixed),.p (.int .i64 t.perMile),.p (.int .i64 t.perTick)]
def As (n:Net) (l:List Typ) (i:Nat):Prop:=((((((((nameOk (nth l i).name=true)/\(∀j,j<i->(nth l j).name≠(nth l i).name))/\rng (nth l i).count 0 10=true)/\(rng (nth l i).src 0 (n.places.length-1)=true/\rng (nth l i).dst 0 (n.places.length-1)=true))/\Uq (nth l i).cap (dimsOf l)=true)/\rng (nth l i).skills 0 1073741823=true)/\(rng (nth l i).opn 0 (nth l i).cls=true/\(nth l i).cls<=4096))/\(rng (nth l i).drive 1 4096=true/\rng (nth l i).rest 0 4096=true))/\(rng (nth l i).prof 0 7=true/\rng (nth l i).fixed 0 100000=true/\rng (nth l i).perMile 0 100=true/\rng (nth l i).perTick 0 100=true)
theorem Mt {P Q:Prop} (h:Q) (e:Q->P:=by intro h;simp (disch:=omega) only [Z1,Yj,go_sem,seval];exact h):P:=e h
theorem SY (n:Net) (l:List Typ) (c:Bool) (i:Nat) (hi:i<l.length) (hl:l.length<=1048576) (hw:n.wf 1048576) (ht:(nth l i).wf 1048576) :
  ACalls Tryz.prog 173 [.p (Ba n),.p (.list c (l.map V1)),.p (.int .i64 (i:Nat))] [] fun x H'=> ∃m:List Int,FR (fun _=>True) (As n l i) 9 m/\x= .sl 0 0 m.length m.length/\H'= [.elems 1 (m.map eI)]:=by
 obtain ⟨w1,w2,w3,w4⟩:=hw;refine Xa [3] Tryz.func173 rfl xR ?_;simp (disch:=omega) only [Tryz.f173,go_sem,seval];have hty:As n l i↔((((((((nameOk (nth l i).name=true)/\(∀j,j<i->(nth l j).name≠(nth l i).name))/\rng (nth l i).count 0 10=true)/\(rng (nth l i).src 0 (n.places.length-1)=true/\rng (nth l i).dst 0 (n.places.length-1)=true))/\Uq (nth l i).cap (dimsOf l)=true)/\rng (nth l i).skills 0 1073741823=true)/\(rng (nth l i).opn 0 (nth l i).cls=true/\(nth l i).cls<=4096))/\(rng (nth l i).drive 1 4096=true/\rng (nth l i).rest 0 4096=true))/\(rng (nth l i).prof 0 7=true/\rng (nth l i).fixed 0 100000=true/\rng (nth l i).perMile 0 100=true/\rng (nth l i).perTick 0 100=true):=Iff.rfl
 generalize hga:nth l i=t at ht hty ⊢;have hname:=ht.1;have hcap:=ht.2.2.2.2.1;refine Zr (Weak.ofNil 8 1 (by simp (disch:=omega) only [go_sem,seval]) Zb (Weak.refl _ _ _)) ?_;refine ZI [1,2,3,7] (fun m:List Int=> [(8,.sl 2 0 m.length m.length)]) (fun m=>Z1 n++ [Yj t,.elems 1 (m.map eI)]) (fun m=>FR (fun _=>True) (nameOk t.name=true) 1 m) ?_ ?_
 ·refine Wp ?_;refine (NF t.name hname).use (Wp ?_);refine ZP ?_ ?_<;>intro h0
  ·simp only [Yr] at h0;exact ⟨[5],⟨Zb,by simp [h0],Zb⟩,Weak.mk (by simp (disch:=omega) only [Z1,Yj,go_sem,seval])⟩
  ·simp only [Xn] at h0;exact ⟨[],FR.nil (by simp [h0]),Weak.mk (by simp (disch:=omega) only [Z1,Yj,go_sem,seval])⟩
 ·skip
  intro m hm;refine Zg [5] _ _ _ _ (Mt ?_);have hml:=hm.len;refine ZI [1,3,7] (fun m:List Int=> [(8,.sl 2 0 m.length m.length)]) (fun m=>Z1 n++ [Yj t,.elems 1 (m.map eI)]) (fun m=>FR (fun _=>True) ((nameOk t.name=true)/\(∀j,j<i->(nth l j).name≠t.name)) 2 m) ?_ ?_
  ·refine Wp ?_;refine (Sc l c i t.name Za hl).use (Wp ?_);refine ZP ?_ ?_<;>intro h
   ·exact ⟨m++ [6],hm.yes (by grind [V3]) trivial,Weak.mk (by simp (disch:=omega) only [Z1,Yj,go_sem,seval])⟩
   ·exact ⟨m,hm.no (by exact V3.1 h),Weak.mk (by simp (disch:=omega) only [Z1,Yj,go_sem,seval])⟩
  ·clear hm hml;intro m hm;refine Zg [7] _ _ _ _ (Mt ?_);have hml:=hm.len;refine ZI [1,3,7] (fun m:List Int=> [(8,.sl 2 0 m.length m.length)]) (fun m=>Z1 n++ [Yj t,.elems 1 (m.map eI)]) (fun m=>FR (fun _=>True) (((nameOk t.name=true)/\(∀j,j<i->(nth l j).name≠t.name))/\rng t.count 0 10=true) 3 m) ?_ ?_
   ·refine Wp ?_;refine (W6 t.count 0 10).use (Wp ?_);refine ZP ?_ ?_<;>intro h0
    ·simp only [Yr] at h0;exact ⟨m++ [22],hm.yes (by simp [h0]) trivial,Weak.mk (by simp (disch:=omega) only [Z1,Yj,go_sem,seval])⟩
    ·simp only [Xn] at h0;exact ⟨m,hm.no (by simp [h0]),Weak.mk (by simp (disch:=omega) only [Z1,Yj,go_sem,seval])⟩
   ·clear hm hml;intro m hm;refine Zg [9] _ _ _ _ (Mt ?_);have hml:=hm.len;refine ZI [1,7] (fun m:List Int=> [(8,.sl 2 0 m.length m.length)]) (fun m=>Z1 n++ [Yj t,.elems 1 (m.map eI)]) (fun m=>FR (fun _=>True) ((((nameOk t.name=true)/\(∀j,j<i->(nth l j).name≠t.name))/\rng t.count 0 10=true)/\(rng t.src 0 (n.places.length-1)=true/\rng t.dst 0 (n.places.length-1)=true)) 4 m) ?_ ?_
    ·refine Wp ?_;refine (W6 t.src 0 (n.places.length-1)).use (Wp ?_);refine Ce ?_ ?_<;>intro h0
     ·simp only [Yr] at h0;exact ⟨m++ [11],hm.yes (by simp [h0]) trivial,Weak.mk (by simp (disch:=omega) only [Z1,Yj,go_sem,seval])⟩
     ·simp only [Xn] at h0;refine (W6 t.dst 0 (n.places.length-1)).use (Wp ?_);refine ZP ?_ ?_<;>intro h1
      ·simp only [Yr] at h1;exact ⟨m++ [11],hm.yes (by simp [h1]) trivial,Weak.mk (by simp (disch:=omega) only [Z1,Yj,go_sem,seval])⟩
      ·simp only [Xn] at h1;exact ⟨m,hm.no (by simp [h0,h1]),Weak.mk (by simp (disch:=omega) only [Z1,Yj,go_sem,seval])⟩
    ·clear hm hml;intro m hm;refine Zg [11] _ _ _ _ (Mt ?_);have hml:=hm.len;refine ZI [7] (fun m:List Int=> [(8,.sl 2 0 m.length m.length)]) (fun m=>Z1 n++ [Yj t,.elems 1 (m.map eI)]) (fun m=>FR (fun _=>True) (((((nameOk t.name=true)/\(∀j,j<i->(nth l j).name≠t.name))/\rng t.count 0 10=true)/\(rng t.src 0 (n.places.length-1)=true/\rng t.dst 0 (n.places.length-1)=true))/\Uq t.cap (dimsOf l)=true) 5 m) ?_ ?_
     ·refine Wp ?_;refine XH (Wp ?_);refine Zp (IZ l c hl) (Wp ?_);refine Zp (Nf t.cap t.cap_c (dimsOf l) hcap) (Wp ?_);refine ZP ?_ ?_<;>intro h
      ·simp only [Yr] at h;exact ⟨m++ [17],hm.yes (by simp [h]) trivial,Weak.mk (by simp (disch:=omega) only [Z1,Yj,go_sem,seval])⟩
      ·simp only [Xn] at h;exact ⟨m,hm.no (by simp [h]),Weak.mk (by simp (disch:=omega) only [Z1,Yj,go_sem,seval])⟩
     ·clear hm hml;intro m hm;refine Zg [13] _ _ _ _ (Mt ?_);have hml:=hm.len;refine ZI [7] (fun m:List Int=> [(8,.sl 2 0 m.length m.length)]) (fun m=>Z1 n++ [Yj t,.elems 1 (m.map eI)]) (fun m=>FR (fun _=>True) ((((((nameOk t.name=true)/\(∀j,j<i->(nth l j).name≠t.name))/\rng t.count 0 10=true)/\(rng t.src 0 (n.places.length-1)=true/\rng t.dst 0 (n.places.length-1)=true))/\Uq t.cap (dimsOf l)=true)/\rng t.skills 0 1073741823=true) 6 m) ?_ ?_
      ·refine Wp ?_;refine (W6 t.skills 0 1073741823).use (Wp ?_);refine ZP ?_ ?_<;>intro h0
       ·simp only [Yr] at h0;exact ⟨m++ [18],hm.yes (by simp [h0]) trivial,Weak.mk (by simp (disch:=omega) only [Z1,Yj,go_sem,seval])⟩
       ·simp only [Xn] at h0;exact ⟨m,hm.no (by simp [h0]),Weak.mk (by simp (disch:=omega) only [Z1,Yj,go_sem,seval])⟩
      ·clear hm hml;intro m hm;refine Zg [15] _ _ _ _ (Mt ?_);have hml:=hm.len;refine ZI [7] (fun m:List Int=> [(8,.sl 2 0 m.length m.length)]) (fun m=>Z1 n++ [Yj t,.elems 1 (m.map eI)]) (fun m=>FR (fun _=>True) (((((((nameOk t.name=true)/\(∀j,j<i->(nth l j).name≠t.name))/\rng t.count 0 10=true)/\(rng t.src 0 (n.places.length-1)=true/\rng t.dst 0 (n.places.length-1)=true))/\Uq t.cap (dimsOf l)=true)/\rng t.skills 0 1073741823=true)/\(rng t.opn 0 t.cls=true/\t.cls<=4096)) 7 m) ?_ ?_
       ·refine Wp ?_;refine (W6 t.opn 0 t.cls).use (Wp ?_);refine Ce ?_ ?_<;>intro h0
        ·simp only [Yr] at h0;exact ⟨m++ [15],hm.yes (by simp [h0]) trivial,Weak.mk (by simp (disch:=omega) only [Z1,Yj,go_sem,seval])⟩
        ·simp only [Xn] at h0;refine ZP ?_ ?_<;>intro h1
         ·exact ⟨m++ [15],hm.yes Za trivial,Weak.mk (by simp (disch:=omega) only [Z1,Yj,go_sem,seval])⟩
         ·exact ⟨m,hm.no (by grind),Weak.mk (by simp (disch:=omega) only [Z1,Yj,go_sem,seval])⟩
       ·clear hm hml;intro m hm;refine Zg [17] _ _ _ _ (Mt ?_);have hml:=hm.len;refine ZI [7] (fun m:List Int=> [(8,.sl 2 0 m.length m.length)]) (fun m=>Z1 n++ [Yj t,.elems 1 (m.map eI)]) (fun m=>FR (fun _=>True) ((((((((nameOk t.name=true)/\(∀j,j<i->(nth l j).name≠t.name))/\rng t.count 0 10=true)/\(rng t.src 0 (n.places.length-1)=true/\rng t.dst 0 (n.places.length-1)=true))/\Uq t.cap (dimsOf l)=true)/\rng t.skills 0 1073741823=true)/\(rng t.opn 0 t.cls=true/\t.cls<=4096))/\(rng t.drive 1 4096=true/\rng t.rest 0 4096=true)) 8 m) ?_ ?_
        ·refine Wp ?_;refine (W6 t.drive 1 4096).use (Wp ?_);refine Ce ?_ ?_<;>intro h0
         ·simp only [Yr] at h0;exact ⟨m++ [16],hm.yes (by simp [h0]) trivial,Weak.mk (by simp (disch:=omega) only [Z1,Yj,go_sem,seval])⟩
         ·simp only [Xn] at h0;refine (W6 t.rest 0 4096).use (Wp ?_);refine ZP ?_ ?_<;>intro h1
          ·simp only [Yr] at h1;exact ⟨m++ [16],hm.yes (by simp [h1]) trivial,Weak.mk (by simp (disch:=omega) only [Z1,Yj,go_sem,seval])⟩
          ·simp only [Xn] at h1;exact ⟨m,hm.no (by simp [h0,h1]),Weak.mk (by simp (disch:=omega) only [Z1,Yj,go_sem,seval])⟩
        ·clear hm hml;intro m hm;refine Zg [19] _ _ _ _ (Mt ?_);have hml:=hm.len;refine ZI [] (fun m:List Int=> [(8,.sl 2 0 m.length m.length)]) (fun m=>Z1 n++ [Yj t,.elems 1 (m.map eI)]) (fun m=>FR (fun _=>True) (((((((((nameOk t.name=true)/\(∀j,j<i->(nth l j).name≠t.name))/\rng t.count 0 10=true)/\(rng t.src 0 (n.places.length-1)=true/\rng t.dst 0 (n.places.length-1)=true))/\Uq t.cap (dimsOf l)=true)/\rng t.skills 0 1073741823=true)/\(rng t.opn 0 t.cls=true/\t.cls<=4096))/\(rng t.drive 1 4096=true/\rng t.rest 0 4096=true))/\(rng t.prof 0 7=true/\rng t.fixed 0 100000=true/\rng t.perMile 0 100=true/\rng t.perTick 0 100=true)) 9 m) ?_ ?_
         ·refine Wp ?_;refine (W6 t.prof 0 7).use (Wp ?_);refine gF ?_ ?_<;>intro h0<;>simp (disch:=omega) only [Sh.out h0,go_sem,seval,↓reduceIte]
          ·simp only [Yr] at h0;exact ⟨m++ [2],hm.yes (by simp [h0]) trivial,Weak.mk (by simp (disch:=omega) only [Z1,Yj,go_sem,seval])⟩
          ·simp only [Xn] at h0;refine (W6 t.fixed 0 100000).use (Wp ?_);refine gF ?_ ?_<;>intro h1<;>simp (disch:=omega) only [Sh.out h1,go_sem,seval,↓reduceIte]
           ·simp only [Yr] at h1;exact ⟨m++ [2],hm.yes (by simp [h1]) trivial,Weak.mk (by simp (disch:=omega) only [Z1,Yj,go_sem,seval])⟩
           ·simp only [Xn] at h1;refine (W6 t.perMile 0 100).use (Wp ?_);refine gF ?_ ?_<;>intro h2<;>simp (disch:=omega) only [Sh.out h2,go_sem,seval,↓reduceIte]
            ·simp only [Yr] at h2;exact ⟨m++ [2],hm.yes (by simp [h2]) trivial,Weak.mk (by simp (disch:=omega) only [Z1,Yj,go_sem,seval])⟩
            ·simp only [Xn] at h2;refine (W6 t.perTick 0 100).use (Wp ?_);refine cD ?_ ?_<;>intro h3<;>simp (disch:=omega) only [Sh.out h3,go_sem,seval,↓reduceIte]
             ·simp only [Yr] at h3;exact ⟨m++ [2],hm.yes (by simp [h3]) trivial,Weak.mk (by simp (disch:=omega) only [Z1,Yj,go_sem,seval])⟩
             ·simp only [Xn] at h3;exact ⟨m,hm.no (by grind),Weak.mk (by simp (disch:=omega) only [Z1,Yj,go_sem,seval])⟩
         ·clear hm hml;intro m hm;refine Zg [] _ _ _ _ (Mt ?_);have hml:=hm.len;exact ⟨m,hm.to Za (by rw [hty]),2,by simp (disch:=omega) only [go_sem,seval]⟩
def typesOk (n:Net) (l:List Typ):Prop:=rng l.length 1 6=true/\ ∀i,i<l.length->As n l i
theorem vE (n:Net) (l:List Typ) (c:Bool) (hw:n.wf 1048576) (hl:l.length<=1048576) (hlw: ∀t∈l,t.wf 1048576) :
  ACalls Tryz.prog 127 [.p (Ba n),.p (.list c (l.map V1))] [] fun x H'=> ∃m:List Flt,FR (pF 20) (typesOk n l) (1+9*l.length) m/\x= .sl 0 0 m.length m.length/\H'= [.elems 2 (m.map eF)]:=by
 refine Xa [2] Tryz.func127 rfl wM ?_;simp (disch:=omega) only [Tryz.f127,go_sem,seval];refine Zr (Weak.ofNil 5 2 (by simp (disch:=omega) only [go_sem,seval]) Zb (Weak.refl _ _ _)) ?_;refine ZI [1,2] (fun m:List Flt=> [(5,.sl 1 0 m.length m.length)]) (fun m=>Z1 n++ [.elems 2 (m.map eF)]) (fun m=>FR (pF 20) (rng l.length 1 6=true) 1 m) ?_ ?_
 ·refine Wp ?_;refine (W6 l.length 1 6).use (Wp ?_);refine ZP ?_ ?_<;>intro h
  ·simp only [Yr] at h;exact ⟨[(4,[])],⟨Zb,by simp [h],by simp [pF]⟩,Weak.mk (by simp (disch:=omega) only [Z1,go_sem,seval])⟩
  ·simp only [Xn] at h;exact ⟨[],FR.nil h,Weak.mk (by simp (disch:=omega) only [Z1,go_sem,seval])⟩
 ·intro m hm;refine Zg [] _ _ _ _ (C8 ?_);refine Zk [1,2] (fun q:Nat×List Flt=> [(5,.sl 1 0 q.2.length q.2.length),(6,.p (.int .i64 q.1))]) (fun q=>Z1 n++ [.elems 2 (q.2.map eF)]) (fun q=>q.1<=l.length/\FR (pF 20) (rng l.length 1 6=true/\ ∀j,j<q.1->As n l j) (1+9*q.1) q.2) (fun q=>l.length-q.1) (0,m) ⟨Zb,hm.to Zb Zb⟩ (Weak.mk ?_) ?_
  ·simp (disch:=omega) only [Z1,go_sem,seval]
  ·clear hm;rintro ⟨k,m⟩ ⟨hk,hm⟩;simp only at hk hm;have hml:=hm.len;refine C8 ?_;refine cD ?_ ?_<;>intro h<;>simp (disch:=omega) only [Sh.out h,go_sem,seval,↓reduceIte]
   ·have hk2:k<l.length:=Za
    have hI:UP (k:Int):=Za
    have hdl:=QC k hI;refine ((SY n l c k hk2 hl hw (hlw _ (Zq hk2))).frozenE).useV fun e he=>Wp ?_;have hel:=he.len;refine Zk [1,2,6,7] (fun q:Nat×List Flt=> [(5,.sl 1 0 q.2.length q.2.length),(8,.p (.int .i64 q.1))]) (fun q=>Z1 n++ [.elems 2 (q.2.map eF)]) (fun q=>q.1<=e.length/\FR (pF 20) ((rng l.length 1 6=true/\ ∀j,j<k->As n l j)/\q.1=0) (1+9*k+q.1) q.2) (fun q=>e.length-q.1) (0,m) ⟨Zb,hm.to Zb Zb⟩ (Weak.mk ?_) ?_
    ·simp (disch:=omega) only [Z1,go_sem,seval]
    ·clear hm hml;rintro ⟨j,m⟩ ⟨hj,hm⟩;simp only at hj hm;have hml:=hm.len;refine C8 ?_;refine ZP ?_ ?_<;>intro h2
     ·have hj2:j<e.length:=Za
      refine Z6 9 mixed Zd Zd (Wp ?_);refine Zp (KH k hI) (Wp ?_);exact ⟨(j+1,m++ [(nth e j,Ae k)]),⟨Za,(hm.yes (c:=False) Zb (by grind [pF])).to Za Zb⟩,Za,wk⟩
     ·have hjl:j=e.length:=Za
      subst hjl;exact ⟨(k+1,m),⟨Za,hm.to Za (by simp only [Zm,and_assoc];rw [<- he.emp,List.eq_nil_iff_length_eq_zero])⟩,Za,wk⟩
   ·have hkn:k=l.length:=Za
    subst hkn;exact ⟨m,hm.to Za (by rw [typesOk]),1,by simp (disch:=omega) only [go_sem,seval]⟩
theorem Ep (n lo hi:Int):PC 232 [.p (.int .i64 n),.p (.int .i64 lo),.p (.int .i64 hi)] (.bool (rng n lo hi)):=by
 refine Zc Tryz.func232 rfl yT ?_;simp (disch:=omega) only [Tryz.f232,go_sem,seval];refine gT ?_ ?_<;>intro h<;>simp (disch:=omega) only [Sh.out h,go_sem,seval,↓reduceIte]
 all_goals (simp [rng];first | done | omega | (rw [YY];simp;omega))
def loadOk (l:List Int) (d:Int):Bool:=decide ((l.length:Int)=d)&&l.all fun n=>rng n 0 1000
theorem SO (l:List Int) (c:Bool) (d:Int) (hl:l.length<=1048576):PC 231 [.p (.list c (l.map eI)),.p (.int .i64 d)] (.bool (loadOk l d)):=by
 refine Zc Tryz.func231 rfl yS ?_;simp (disch:=omega) only [Tryz.f231,go_sem,seval];refine cD ?_ ?_<;>intro h2<;>simp (disch:=omega) only [Sh.out h2,go_sem,seval]
 ·simp [loadOk,h2]
 ·simp only [Xy] at h2;subst h2;refine Zk [0] (fun k:Nat=> [(5,.p (.int .i64 k))]) (fun _=> []) (fun k=>k<=l.length/\ ∀j,j<k->rng (nth l j) 0 1000=true) (fun k=>l.length-k) 0 Zb (Weak.mk ?_) ?_
  ·simp (disch:=omega) only [go_sem,seval,↓reduceIte]
  ·rintro k ⟨hk,hno⟩;refine Wp ?_;refine cD ?_ ?_<;>intro h3<;>simp (disch:=omega) only [Sh.out h3,go_sem,seval,↓reduceIte]
   ·have hk2:k<l.length:=Za
    have hbad:rng (nth l k) 0 1000=false->loadOk l l.length=false:=fun h4=>by
     grind [Zq,loadOk]
    repeat' (first | (refine VA (fun hq=> ?_) (fun hq=> ?_)<;>(try simp only [Zl,XJ,Xy] at hq)<;>simp (disch:=omega) only [Sh.out hq,go_sem,seval]) | (refine gF ?_ ?_<;>intro hq<;>simp (disch:=omega) only [Sh.out hq,go_sem,seval,↓reduceIte]) | (refine cD ?_ ?_<;>intro hq<;>simp (disch:=omega) only [Sh.out hq,go_sem,seval,↓reduceIte]))
    all_goals first
     | (rw [hbad (by simp [rng];omega)])
     | exact ⟨k+1,⟨Za,Zm.2 ⟨hno,by simp [rng];omega⟩⟩,Za,wk⟩
   ·have:l.all (fun n=>rng n 0 1000)=true:=by
     rw [Zy];intro x hx;obtain ⟨j,hj,rfl⟩:=ZN.1 hx
     grind [Ze]
    simp [loadOk,this]
def stpOk (s:Stp):Bool:=decide ((s.place= -1/\s.opn=0/\s.cls=0/\s.serv=0)\/(0<=s.place/\0<=s.opn/\s.opn<=s.cls/\s.cls<=4096/\0<=s.serv/\s.serv<=4096))
def Te (s:Stp):Int:=if stpOk s=true then 0 else 2
theorem aU (s:Stp):PC 233 [.p (Ea s)] (.int .i64 (Te s)):=by
 refine Zc Tryz.func233 rfl yU ?_;simp (disch:=omega) only [Tryz.f233,go_sem,seval]
 repeat' (first | (refine gT ?_ ?_<;>intro hq<;>simp (disch:=omega) only [Sh.out hq,go_sem,seval,↓reduceIte]) | (refine gF ?_ ?_<;>intro hq<;>simp (disch:=omega) only [Sh.out hq,go_sem,seval,↓reduceIte]) | (refine cD ?_ ?_<;>intro hq<;>simp (disch:=omega) only [Sh.out hq,go_sem,seval,↓reduceIte]))
 all_goals (simp only [Te,stpOk,Zl])
 all_goals first
  | (exfalso;omega)
  | (rw [if_pos Za])
  | (rw [if_neg Za])
def UG (l:List Ord) (i:Nat):Bool:=(List.range i).all fun j=>decide ((nth l j).name≠(nth l i).name)
theorem J9 {l:List Ord} {i:Nat} :UG l i=true↔ ∀j,j<i->(nth l j).name≠(nth l i).name:=by simp [UG]
def WV (b:Bool) (e:Int):List Int:=if b=true then [] else [e]
theorem V9 (b:Bool) (e:Int):(WV b e).length<=1:=by grind [WV]
theorem U9 {b:Bool} {e:Int} {m p:List Int} (h:m=p) (hb:b=true):m=p++WV b e:=by simp [WV,hb,h]
theorem VS {b:Bool} {e:Int} {m p:List Int} (h:m=p) (hb:b=false):m++ [e]=p++WV b e:=by simp [WV,hb,h]
def YD (t:Ord):AM.Obj:= .cells [.p (.str t.name),.p (.list t.load_c (t.load.map eI)),.p (.int .i64 t.pick.place),.p (.int .i64 t.pick.opn),.p (.int .i64 t.pick.cls),.p (.int .i64 t.pick.serv),.p (.int .i64 t.drp.place),.p (.int .i64 t.drp.opn),.p (.int .i64 t.drp.cls),.p (.int .i64 t.drp.serv),.p (.int .i64 t.skills),.p (.int .i64 t.penalty),.p (.int .i64 t.split),.p (.int .i64 t.last),.p (.int .i64 t.now),.p (.bool t.off)]
def Hl (t:Ord):Bool:=decide (t.pick.place≠ -1)&&decide (t.drp.place≠ -1)
def argOk (t:Ord) (ty:Int):Bool:=rng t.penalty (-1) 1000000&&rng t.split 1 4&&decide (¬(1<t.split/\Hl t=true)/\ -1<=t.last/\t.last<ty/\ -1<=t.now/\t.now<ty)
def YR (np:Nat) (d ty:Int) (l:List Ord) (i:Nat):List Int:=WV (nameOk (nth l i).name) 5++WV (UG l i) 6++WV (loadOk (nth l i).load d) 17++WV ((rng (nth l i).pick.place (-1) ((np:Int)-1)&&rng (nth l i).drp.place (-1) ((np:Int)-1))) 11++WV (decide (¬((nth l i).pick.place= -1/\(nth l i).drp.place= -1))) 19++WV ((stpOk (nth l i).pick&&stpOk (nth l i).drp)) 14++WV (rng (nth l i).skills 0 1073741823) 18++WV (argOk (nth l i) ty) 2
theorem BG (np:Nat) (d ty:Int) (l:List Ord) (i:Nat):(YR np d ty l i).length<=8:=by
 grind [V9,YR,Zw]
theorem Ms {P Q:Prop} (h:Q) (e:Q->P:=by intro h;simp (disch:=omega) only [YD,go_sem,seval];exact h):P:=e h
theorem SZ (np:Nat) (d ty:Int) (l:List Ord) (c:Bool) (i:Nat) (hi:i<l.length) (hl:l.length<=1048576) (hnp:np<=1048576) (ht:(nth l i).wf 1048576) :
  ACalls Tryz.prog 175 [.p (.int .i64 (np:Nat)),.p (.int .i64 d),.p (.int .i64 ty),.p (.list c (l.map eOrd)),.p (.int .i64 (i:Nat))] [] fun x H'=>x= .sl 0 0 (YR np d ty l i).length (YR np d ty l i).length/\H'= [.elems 1 ((YR np d ty l i).map eI)]:=by
 suffices hh:ACalls Tryz.prog 175 [.p (.int .i64 (np:Nat)),.p (.int .i64 d),.p (.int .i64 ty),.p (.list c (l.map eOrd)),.p (.int .i64 (i:Nat))] [] fun x H'=> ∃m:List Int,m=YR np d ty l i/\x= .sl 0 0 m.length m.length/\H'= [.elems 1 (m.map eI)] by
  grind
 refine Xa [3] Tryz.func175 rfl xT ?_;simp (disch:=omega) only [Tryz.f175,go_sem,seval];have hty:YR np d ty l i=WV (nameOk (nth l i).name) 5++WV (UG l i) 6++WV (loadOk (nth l i).load d) 17++WV ((rng (nth l i).pick.place (-1) ((np:Int)-1)&&rng (nth l i).drp.place (-1) ((np:Int)-1))) 11++WV (decide (¬((nth l i).pick.place= -1/\(nth l i).drp.place= -1))) 19++WV ((stpOk (nth l i).pick&&stpOk (nth l i).drp)) 14++WV (rng (nth l i).skills 0 1073741823) 18++WV (argOk (nth l i) ty) 2:=rfl
 have hleng: ∀m:List Int,∀p:List Int,m=p->p.length<=8->m.length<=8:=fun m p h1 h2=>by grind
 generalize hga:nth l i=t at ht hty ⊢;have hname:=ht.1;have hload:=ht.2.1;refine Zr (Weak.ofNil 11 1 (by simp (disch:=omega) only [go_sem,seval]) Zb (Weak.refl _ _ _)) ?_;refine ZI [0,1,2,3,4,12] (fun m:List Int=> [(11,.sl 1 0 m.length m.length)]) (fun m=> [YD t,.elems 1 (m.map eI)]) (fun m=>m=WV (nameOk t.name) 5) ?_ ?_
 ·refine Wp ?_;refine (NF t.name hname).use (Wp ?_);refine cD ?_ ?_<;>intro h<;>simp (disch:=omega) only [Sh.out h,go_sem,seval,↓reduceIte]
  ·simp only [Yr] at h;exact ⟨[5],by simp [WV,h],Weak.mk (by simp (disch:=omega) only [YD,go_sem,seval])⟩
  ·simp only [Xn] at h;exact ⟨[],by simp [WV,h],Weak.mk (by simp (disch:=omega) only [YD,go_sem,seval])⟩
 ·skip
  intro m hm;refine Zg [5] _ _ _ _ (Ms ?_)
  have hml:m.length<=8:=by
   grind [V9]
  refine ZI [0,1,2,12] (fun m:List Int=> [(11,.sl 1 0 m.length m.length)]) (fun m=> [YD t,.elems 1 (m.map eI)]) (fun m=>m=WV (nameOk t.name) 5++WV (UG l i) 6) ?_ ?_
  ·refine Wp ?_;refine Zk [0,1,2,3,4,11,12] (fun k:Nat=> [(13,.p (.int .i64 k))]) (fun _=> [YD t,.elems 1 (m.map eI)]) (fun k=>k<=i/\ ∀j,j<k->(nth l j).name≠(nth l i).name) (fun k=>i-k) 0 Zb (Weak.mk ?_) ?_
   ·simp (disch:=omega) only [YD,go_sem,seval,↓reduceIte]
   ·rintro k ⟨hk,hno⟩;refine Ms ?_;refine cD ?_ ?_<;>intro h3<;>simp (disch:=omega) only [Sh.out h3,go_sem,seval,↓reduceIte]
    ·have hk2:k<l.length:=Za
     refine XH (Wp ?_);refine ZP ?_ ?_<;>intro h4
     ·exact ⟨m++ [6],VS hm (by grind [J9]),wk⟩
     ·exact ⟨k+1,⟨Za,Zm.2 ⟨hno,by grind⟩⟩,Za,wk⟩
    ·have hki:k=i:=Za
     subst hki;exact ⟨m,U9 hm (J9.2 hno),wk⟩
  ·clear hm hml;intro m hm;refine Zg [10] _ _ _ _ (Ms ?_)
   have hml:m.length<=8:=by
    grind [V9]
   refine ZI [0,2,12] (fun m:List Int=> [(11,.sl 1 0 m.length m.length)]) (fun m=> [YD t,.elems 1 (m.map eI)]) (fun m=>m=WV (nameOk t.name) 5++WV (UG l i) 6++WV (loadOk t.load d) 17) ?_ ?_
   ·refine Wp ?_;refine (SO t.load t.load_c d hload).use (Wp ?_);refine cD ?_ ?_<;>intro h<;>simp (disch:=omega) only [Sh.out h,go_sem,seval,↓reduceIte]
    ·simp only [Yr] at h;exact ⟨m++ [17],VS hm (h),Weak.mk (by simp (disch:=omega) only [YD,go_sem,seval])⟩
    ·simp only [Xn] at h;exact ⟨m,U9 hm (h),Weak.mk (by simp (disch:=omega) only [YD,go_sem,seval])⟩
   ·clear hm hml;intro m hm;refine Zg [12] _ _ _ _ (Ms ?_)
    have hml:m.length<=8:=by
     grind [Zw,V9]
    refine ZI [2,12] (fun m:List Int=> [(11,.sl 1 0 m.length m.length)]) (fun m=> [YD t,.elems 1 (m.map eI)]) (fun m=>m=WV (nameOk t.name) 5++WV (UG l i) 6++WV (loadOk t.load d) 17++WV ((rng t.pick.place (-1) ((np:Int)-1)&&rng t.drp.place (-1) ((np:Int)-1))) 11) ?_ ?_
    ·refine Wp ?_;refine (Ep t.pick.place (-1) ((np:Int)-1)).use (Wp ?_);refine Ce ?_ ?_<;>intro h
     ·simp only [Yr] at h;exact ⟨m++ [11],VS hm (by simp [h]),Weak.mk (by simp (disch:=omega) only [YD,go_sem,seval])⟩
     ·simp only [Xn] at h;refine (Ep t.drp.place (-1) ((np:Int)-1)).use (Wp ?_);refine ZP ?_ ?_<;>intro h2
      ·simp only [Yr] at h2;exact ⟨m++ [11],VS hm (by simp [h2]),Weak.mk (by simp (disch:=omega) only [YD,go_sem,seval])⟩
      ·simp only [Xn] at h2;exact ⟨m,U9 hm (by simp [h,h2]),Weak.mk (by simp (disch:=omega) only [YD,go_sem,seval])⟩
    ·clear hm hml;intro m hm;refine Zg [14] _ _ _ _ (Ms ?_)
     have hml:m.length<=8:=by
      grind [Zw,V9]
     refine ZI [2,12] (fun m:List Int=> [(11,.sl 1 0 m.length m.length)]) (fun m=> [YD t,.elems 1 (m.map eI)]) (fun m=>m=WV (nameOk t.name) 5++WV (UG l i) 6++WV (loadOk t.load d) 17++WV ((rng t.pick.place (-1) ((np:Int)-1)&&rng t.drp.place (-1) ((np:Int)-1))) 11++WV (decide (¬(t.pick.place= -1/\t.drp.place= -1))) 19) ?_ ?_
     ·refine Wp ?_
      repeat' (first | (refine gT ?_ ?_<;>intro hq<;>simp (disch:=omega) only [Sh.out hq,go_sem,seval]) | (refine Uj (fun hq=> ?_) (fun hq=> ?_)<;>(try simp only [Zl,XJ,Xy] at hq)<;>simp (disch:=omega) only [Sh.out hq,go_sem,seval]) | (refine cD ?_ ?_<;>intro hq<;>simp (disch:=omega) only [Sh.out hq,go_sem,seval]))
      all_goals first
       | exact ⟨m++ [19],VS hm (by first | (simp;done) | (simp;omega)),Weak.mk (by simp (disch:=omega) only [YD,go_sem,seval])⟩
       | exact ⟨m,U9 hm (by first | (simp;done) | (simp;omega)),Weak.mk (by simp (disch:=omega) only [YD,go_sem,seval])⟩
     ·clear hm hml;intro m hm;refine Zg [16] _ _ _ _ (Ms ?_)
      have hml:m.length<=8:=by
       grind [Zw,V9]
      refine ZI [2,12] (fun m:List Int=> [(11,.sl 1 0 m.length m.length)]) (fun m=> [YD t,.elems 1 (m.map eI)]) (fun m=>m=WV (nameOk t.name) 5++WV (UG l i) 6++WV (loadOk t.load d) 17++WV ((rng t.pick.place (-1) ((np:Int)-1)&&rng t.drp.place (-1) ((np:Int)-1))) 11++WV (decide (¬(t.pick.place= -1/\t.drp.place= -1))) 19++WV ((stpOk t.pick&&stpOk t.drp)) 14) ?_ ?_
      ·refine Wp ?_;refine (aU t.pick).use (Wp ?_)
       cases h:stpOk t.pick with
       | false =>
        simp (disch:=omega) only [Te,h,go_sem,seval];exact ⟨m++ [14],VS hm (by simp []),Weak.mk (by simp (disch:=omega) only [YD,go_sem,seval])⟩
       | true =>
        simp (disch:=omega) only [Te,h,go_sem,seval];refine (aU t.drp).use (Wp ?_)
        cases h2:stpOk t.drp with
        | false =>
         simp (disch:=omega) only [Te,h2,go_sem,seval];exact ⟨m++ [14],VS hm (by simp []),Weak.mk (by simp (disch:=omega) only [YD,go_sem,seval])⟩
        | true =>
         simp (disch:=omega) only [Te,h2,go_sem,seval];exact ⟨m,U9 hm (by simp []),Weak.mk (by simp (disch:=omega) only [YD,go_sem,seval])⟩
      ·clear hm hml;intro m hm;refine Zg [18] _ _ _ _ (Ms ?_)
       have hml:m.length<=8:=by
        grind [Zw,V9]
       refine ZI [2,12] (fun m:List Int=> [(11,.sl 1 0 m.length m.length)]) (fun m=> [YD t,.elems 1 (m.map eI)]) (fun m=>m=WV (nameOk t.name) 5++WV (UG l i) 6++WV (loadOk t.load d) 17++WV ((rng t.pick.place (-1) ((np:Int)-1)&&rng t.drp.place (-1) ((np:Int)-1))) 11++WV (decide (¬(t.pick.place= -1/\t.drp.place= -1))) 19++WV ((stpOk t.pick&&stpOk t.drp)) 14++WV (rng t.skills 0 1073741823) 18) ?_ ?_
       ·refine Wp ?_;refine (Ep t.skills 0 1073741823).use (Wp ?_);refine ZP ?_ ?_<;>intro h
        ·simp only [Yr] at h;exact ⟨m++ [18],VS hm (h),Weak.mk (by simp (disch:=omega) only [YD,go_sem,seval])⟩
        ·simp only [Xn] at h;exact ⟨m,U9 hm (h),Weak.mk (by simp (disch:=omega) only [YD,go_sem,seval])⟩
       ·clear hm hml;intro m hm;refine Zg [20] _ _ _ _ (Ms ?_)
        have hml:m.length<=8:=by
         grind [Zw,V9]
        refine ZI [2,11,12] (fun b:Bool=> [(14,.p (.bool b))]) (fun _=> [YD t,.elems 1 (m.map eI)]) (fun b=>b=Hl t) ?_ ?_
        ·refine Wp ?_
         repeat' (first | (refine VA (fun hq=> ?_) (fun hq=> ?_)<;>(try simp only [Zl,XJ,Xy] at hq)<;>simp (disch:=omega) only [Sh.out hq,go_sem,seval]) | (refine Uj (fun hq=> ?_) (fun hq=> ?_)<;>(try simp only [Zl,XJ,Xy] at hq)<;>simp (disch:=omega) only [Sh.out hq,go_sem,seval]) | (refine QY (fun hq=> ?_) (fun hq=> ?_)<;>(try simp only [Zl,XJ,Xy] at hq)<;>simp (disch:=omega) only [Sh.out hq,go_sem,seval]))
         all_goals refine ⟨Hl t,rfl,Weak.mk ?_⟩
         all_goals (simp (disch:=omega) only [YD,go_sem,seval];simp [Hl, *])
        ·rintro b hb;refine Zg [21] _ _ _ _ (Ms ?_);refine ZI [] (fun m:List Int=> [(11,.sl 1 0 m.length m.length)]) (fun m=> [YD t,.elems 1 (m.map eI)]) (fun m=>m=WV (nameOk t.name) 5++WV (UG l i) 6++WV (loadOk t.load d) 17++WV ((rng t.pick.place (-1) ((np:Int)-1)&&rng t.drp.place (-1) ((np:Int)-1))) 11++WV (decide (¬(t.pick.place= -1/\t.drp.place= -1))) 19++WV ((stpOk t.pick&&stpOk t.drp)) 14++WV (rng t.skills 0 1073741823) 18++WV (argOk t ty) 2) ?_ ?_
         ·refine Wp ?_;refine (Ep t.penalty (-1) 1000000).use (Wp ?_);refine gF ?_ ?_<;>intro h<;>simp (disch:=omega) only [Sh.out h,go_sem,seval,↓reduceIte]
          ·simp only [Yr] at h;exact ⟨m++ [2],VS hm (by simp [argOk,h]),Weak.mk (by simp (disch:=omega) only [YD,go_sem,seval])⟩
          ·simp only [Xn] at h;refine (Ep t.split 1 4).use (Wp ?_);refine gF ?_ ?_<;>intro h2<;>simp (disch:=omega) only [Sh.out h2,go_sem,seval,↓reduceIte]
           ·simp only [Yr] at h2;exact ⟨m++ [2],VS hm (by simp [argOk,h2]),Weak.mk (by simp (disch:=omega) only [YD,go_sem,seval])⟩
           ·simp only [Xn] at h2
            cases b with
            | true =>
             repeat' (first | (refine gT ?_ ?_<;>intro hq<;>simp (disch:=omega) only [Sh.out hq,go_sem,seval,↓reduceIte]) | (refine gF ?_ ?_<;>intro hq<;>simp (disch:=omega) only [Sh.out hq,go_sem,seval,↓reduceIte]) | (refine cD ?_ ?_<;>intro hq<;>simp (disch:=omega) only [Sh.out hq,go_sem,seval,↓reduceIte]))
             all_goals first
              | exact ⟨m++ [2],VS hm (by rw [argOk,<- hb];first | (simp;done) | (simp;omega)),Weak.mk (by simp (disch:=omega) only [YD,go_sem,seval])⟩
              | exact ⟨m,U9 hm (by grind [argOk]),Weak.mk (by simp (disch:=omega) only [YD,go_sem,seval])⟩
            | false =>
             repeat' (first | (refine gT ?_ ?_<;>intro hq<;>simp (disch:=omega) only [Sh.out hq,go_sem,seval,↓reduceIte]) | (refine gF ?_ ?_<;>intro hq<;>simp (disch:=omega) only [Sh.out hq,go_sem,seval,↓reduceIte]) | (refine cD ?_ ?_<;>intro hq<;>simp (disch:=omega) only [Sh.out hq,go_sem,seval,↓reduceIte]))
             all_goals first
              | exact ⟨m++ [2],VS hm (by rw [argOk,<- hb];first | (simp;done) | (simp;omega)),Weak.mk (by simp (disch:=omega) only [YD,go_sem,seval])⟩
              | exact ⟨m,U9 hm (by rw [argOk,<- hb,h,h2];first | (simp;done) | (simp;omega)),Weak.mk (by simp (disch:=omega) only [YD,go_sem,seval])⟩
         ·clear hm hml;intro m hm;refine Zg [] _ _ _ _ (Ms ?_)
          have hml:m.length<=8:=by
           grind [Zw,V9]
          exact ⟨m,by rw [hm,hty],1,by simp (disch:=omega) only [go_sem,seval]⟩
def XR (np:Nat) (d ty:Int) (l:List Ord) (k:Nat):List Flt:=(if l.length<=10 then [] else [(4,[])])++(List.range k).flatMap fun i=>(YR np d ty l i).map fun e=>(e,Ae i)
theorem BI (np:Nat) (d ty:Int) (l:List Ord) (k:Nat):XR np d ty l (k+1)=XR np d ty l k++(YR np d ty l k).map fun e=>(e,Ae k):=by
 simp [XR,Yu]
theorem U7 (np:Nat) (d ty:Int) (l:List Ord): ∀k,(XR np d ty l k).length<=1+8*k
 | 0=>by simp [XR];grind
 | k+1=>by
  have h1:=U7 np d ty l k;have h2:=BG np d ty l k;rw [BI];simp;omega
theorem vF (n:Net) (d ty:Int) (l:List Ord) (c:Bool) (hw:n.wf 1048576) (hl:l.length<=1048576) (hlw: ∀t∈l,t.wf 1048576) :
  ACalls Tryz.prog 128 [.p (Ba n),.p (.int .i64 d),.p (.int .i64 ty),.p (.list c (l.map eOrd))] [] fun x H'=>x= .sl 0 0 (XR n.places.length d ty l l.length).length (XR n.places.length d ty l l.length).length/\H'= [.elems 2 ((XR n.places.length d ty l l.length).map eF)]:=by
 obtain ⟨w1,w2,w3,w4⟩:=hw
 suffices hh:ACalls Tryz.prog 128 [.p (Ba n),.p (.int .i64 d),.p (.int .i64 ty),.p (.list c (l.map eOrd))] [] fun x H'=> ∃m:List Flt,m=XR n.places.length d ty l l.length/\x= .sl 0 0 m.length m.length/\H'= [.elems 2 (m.map eF)] by
  grind
 refine Xa [2] Tryz.func128 rfl wN ?_;simp (disch:=omega) only [Tryz.f128,go_sem,seval];refine Zr (Weak.ofNil 9 2 (by simp (disch:=omega) only [go_sem,seval]) Zb (Weak.refl _ _ _)) ?_;refine ZI [1,2,3,4] (fun m:List Flt=> [(9,.sl 1 0 m.length m.length)]) (fun m=>Z1 n++ [.elems 2 (m.map eF)]) (fun m=>m=XR n.places.length d ty l 0) ?_ ?_
 ·refine Wp ?_;refine ZP ?_ ?_<;>intro h
  ·exact ⟨[(4,[])],by rw [XR,if_neg Za];rfl,Weak.mk (by simp (disch:=omega) only [Z1,go_sem,seval])⟩
  ·exact ⟨[],by rw [XR,if_pos Za];rfl,Weak.mk (by simp (disch:=omega) only [Z1,go_sem,seval])⟩
 ·intro m hm;refine Zg [] _ _ _ _ (C8 ?_);refine Zk [1,2,3,4] (fun q:Nat×List Flt=> [(9,.sl 1 0 q.2.length q.2.length),(10,.p (.int .i64 q.1))]) (fun q=>Z1 n++ [.elems 2 (q.2.map eF)]) (fun q=>q.1<=l.length/\q.2=XR n.places.length d ty l q.1) (fun q=>l.length-q.1) (0,m) ⟨Zb,hm⟩ (Weak.mk ?_) ?_
  ·simp (disch:=omega) only [Z1,go_sem,seval]
  ·clear hm;rintro ⟨k,m⟩ ⟨hk,hm⟩;simp only at hk hm;have hml:=U7 n.places.length d ty l k;rw [<- hm] at hml;refine C8 ?_;refine cD ?_ ?_<;>intro h<;>simp (disch:=omega) only [Sh.out h,go_sem,seval,↓reduceIte]
   ·have hk2:k<l.length:=Za
    have hI:UP (k:Int):=Za
    have hrl:=BG n.places.length d ty l k;refine ((SZ n.places.length d ty l c k hk2 hl w1 (hlw _ (Zq hk2))).frozen Zb).use (Wp ?_);generalize hre:YR n.places.length d ty l k=e at hrl ⊢;refine Zk [1,2,3,4,10,11] (fun q:Nat×List Flt=> [(9,.sl 1 0 q.2.length q.2.length),(12,.p (.int .i64 q.1))]) (fun q=>Z1 n++ [.elems 2 (q.2.map eF)]) (fun q=>q.1<=e.length/\q.2=XR n.places.length d ty l k++(e.take q.1).map fun e=>(e,Ae k)) (fun q=>e.length-q.1) (0,m) ⟨Zb,by simp [hm]⟩ (Weak.mk ?_) ?_
    ·simp (disch:=omega) only [Z1,go_sem,seval]
    ·clear hm hml;rintro ⟨j,m⟩ ⟨hj,hm⟩;simp only at hj hm;have hml:=U7 n.places.length d ty l k
     have hml2:m.length<=1+8*k+8:=by grind
     refine C8 ?_;refine ZP ?_ ?_<;>intro h2
     ·have hj2:j<e.length:=Za
      refine Z6 9 mixed Zd Zd (Wp ?_);refine Zp (KH k hI) (Wp ?_);refine ⟨(j+1,m++ [(nth e j,Ae k)]),⟨Za,?_⟩,Za,wk⟩
      grind [Xm,Ze]
     ·have hjl:j=e.length:=Za
      subst hjl;refine ⟨(k+1,m),⟨Za,?_⟩,Za,wk⟩
      grind [BI]
   ·have hkn:k=l.length:=Za
    subst hkn;exact ⟨m,hm,1,by simp (disch:=omega) only [go_sem,seval]⟩
structure OrdOk (np:Nat) (d ty:Int) (l:List Ord) (i:Nat):Prop where
 name:nameOk (nth l i).name=true
 twin: ∀j,j<i->(nth l j).name≠(nth l i).name
 load:loadOk (nth l i).load d=true
 pick: -1<=(nth l i).pick.place/\(nth l i).pick.place<np
 drp: -1<=(nth l i).drp.place/\(nth l i).drp.place<np
 one: ¬((nth l i).pick.place= -1/\(nth l i).drp.place= -1)
 pstp:stpOk (nth l i).pick=true
 dstp:stpOk (nth l i).drp=true
 skills:0<=(nth l i).skills/\(nth l i).skills<=1073741823
 arg:argOk (nth l i) ty=true
theorem oM {b:Bool} {e:Int} :WV b e= []↔b=true:=by grind [WV]
theorem HU {np:Nat} {d ty:Int} {l:List Ord} {i:Nat} :YR np d ty l i= []↔OrdOk np d ty l i:=by
 simp only [YR,Qn,oM,Zt,Zl,rng,J9]
 constructor
 ·rintro ⟨⟨⟨⟨⟨⟨⟨a1,a2⟩,a3⟩,a4⟩,a5⟩,a6⟩,a7⟩,a8⟩;exact ⟨a1,a2,a3,Za,Za,a5,a6.1,a6.2,a7,a8⟩
 ·intro h;obtain ⟨b1,b2⟩:=h.pick;obtain ⟨b3,b4⟩:=h.drp;exact ⟨⟨⟨⟨⟨⟨⟨h.name,h.twin⟩,h.load⟩,Za,Za⟩,h.one⟩,h.pstp,h.dstp⟩,h.skills⟩,h.arg⟩
def ordersOk (np:Nat) (d ty:Int) (l:List Ord):Prop:=l.length<=10/\ ∀i,i<l.length->OrdOk np d ty l i
theorem LP {np:Nat} {d ty:Int} {l:List Ord} :XR np d ty l l.length= []↔ordersOk np d ty l:=by
 simp_all [XR,HU,ordersOk]
theorem NK {np:Nat} {d ty:Int} {l:List Ord} (hl:l.length<=1048576): ∀f∈XR np d ty l l.length,pF 20 f:=by
 intro f hf;simp only [XR,Xr,We,ZL,XD] at hf;rcases hf with hf | ⟨i,hi,e,he,rfl⟩
 ·grind [pF]
 ·exact QC i Za
theorem N0 (n:Int) (h0:0<=n) (hn:n<=4611686018427387904):PC 234 [.p (.int .i64 n)] (.str (dec n.toNat)):=by
 refine Zc Tryz.func234 rfl yV ?_;simp (disch:=omega) only [Tryz.f234,go_sem,seval];refine Zk [] (fun q:Int×List UInt8=> [(0,.p (.int .i64 q.1)),(3,.p (.str q.2))]) (fun _=> []) (fun q=>0<=q.1/\q.1<=n/\dec q.1.toNat++q.2=dec n.toNat) (fun q=>q.1.toNat) (n,[]) (by simp [h0]) (Weak.mk ?_) ?_
 ·simp (disch:=omega) only [go_sem,seval]
 ·rintro ⟨m,s⟩ ⟨hm,hmn,hs⟩;simp only at hm hmn hs;have hl:=OQ _ n.toNat (Nat.lt_succ_self _)
  have hl2:(dec m.toNat).length+s.length=(dec n.toNat).length:=by grind
  simp (disch:=first | omega | (simp only [Zz,ZQ,Zw,Zv,ZE,ZK]<;>omega)) only [go_sem,seval];refine cD ?_ ?_<;>intro h<;>simp (disch:=omega) only [Sh.out h,go_sem,seval,↓reduceIte]
  ·simp (disch:=first | omega | (simp only [Zz,ZQ,Zw,Zv,ZE,ZK]<;>omega)) only [go_sem,seval]
   have h2: ¬m.toNat<10:=Za
   have e1:(48+m%10).toNat=48+m.toNat%10:=Za
   have e2:(m / 10).toNat=m.toNat / 10:=Za
   refine ⟨(m / 10,UInt8.ofNat (48+m%10).toNat::s),⟨Za,Za,?_⟩,Za,Weak.mk ?_⟩
   ·simp only [e1,e2];rw [<- hs,dec.eq_def m.toNat,dif_neg h2];simp
   ·simp (disch:=omega) only [go_sem,seval]
  ·simp (disch:=first | omega | (simp only [Zz,ZQ,Zw,Zv,ZE,ZK]<;>omega)) only [go_sem,seval]
   have h2:m.toNat<10:=Za
   have e1:(48+m).toNat=48+m.toNat:=Za
   rw [<- hs,dec.eq_def m.toNat,dif_pos h2,e1]
   rfl
def nG (n:Int) (p:Int×Int):Bool:=decide (0<=p.1/\p.1<n)&&decide (0<=p.2/\p.2<n)&&decide (¬p.1=p.2)
def atW (word:List UInt8) (i:Nat):List UInt8:=word++ [32]++dec i
def Tx (n:Int) (word:List UInt8) (sm:Int×Int->Int×Int->Bool) (l:List (Int×Int)) (i:Nat):List (Int×List UInt8) :=
 if nG n (nth l i)=false then [(2,atW word i)] else if (l.take i).any (sm (nth l i)) then [(6,atW word i)] else []
def MN (word:List UInt8) (l:List (Int×Int)):List (Int×List UInt8):=if 16<l.length then [(4,word)] else []
def JK (n:Int) (word:List UInt8) (sm:Int×Int->Int×Int->Bool) (l:List (Int×Int)) (k:Nat):List (Int×List UInt8):=MN word l++(List.range k).flatMap (Tx n word sm l)
theorem F9 (n word sm l k):JK n word sm l (k+1)=JK n word sm l k++Tx n word sm l k:=by grind [JK,Yu]
theorem Ga (n word sm l):JK n word sm l 0=MN word l:=by simp [JK]
theorem mK (n word sm l i):(Tx n word sm l i).length<=1:=by grind [Tx]
theorem Bh (n word sm l): ∀k,(JK n word sm l k).length<=k+1:=by
 intro k
 induction k with
 | zero=>grind [Ga,MN]
 | succ k ih=>grind [F9,mK]
def chk (n:Int) (ap be:List (Int×Int)):List (Int×List UInt8) :=
 JK n [97,112,97,114,116] (fun p q=>decide (p=q\/(p.1=q.2/\p.2=q.1))) ap ap.length++JK n [98,101,102,111,114,101] (fun p q=>decide (p=q)) be be.length
def DE (turned:Bool) (p q:Int×Int):Bool:=decide (q.1=p.1/\q.2=p.2)||(turned&&decide (q.1=p.2/\q.2=p.1))
theorem iE : DE true=fun p q=>decide (p=q\/(p.1=q.2/\p.2=q.1)):=by
 funext p q
 simp only [DE,W9,Zbm]
 grind
theorem S7 : DE false=fun p q=>decide (p=q):=by
 funext p q
 simp only [DE,U2,Bool.or_false]
 grind
def tw (turned:Bool) (l:List (Int×Int)) (p:Int×Int) (j:Nat):Bool:=(l.take j).any (DE turned p)
theorem pB (turned l p):tw turned l p 0=false:=by simp [tw]
theorem pA (turned:Bool) (l:List (Int×Int)) (p:Int×Int) (j:Nat) (h:j<l.length):tw turned l p (j+1)=(tw turned l p j||DE turned p (nth l j)):=by
 rw [tw,tw,Xm h,List.any_append,Ze h];simp
theorem I7 (n:Int) (word:List UInt8) (l:List (Int×Int)) (c:Bool) (turned:Bool) (hw:word.length<=1000) (hl:l.length<=1048576) :
  ACalls Tryz.prog 176 [.p (.int .i64 n),.p (.list c (l.map eP)),.p (.str word),.p (.bool turned)] [] fun x H'=>x= .sl 0 0 (JK n word (DE turned) l l.length).length (JK n word (DE turned) l l.length).length/\H'= [.elems 2 ((JK n word (DE turned) l l.length).map eF)]:=by
 refine Fq [2] (fn:=Tryz.f176) Zb Tryz.func176 rfl xU ?_;simp (disch:=omega) only [Tryz.f176,go_sem,seval];refine Zr (Weak.ofNil 9 2 (by simp (disch:=omega) only [go_sem,seval]) Zb (Weak.refl _ _ _)) (Wp ?_);refine ZI [0,1,2,3] (fun _:Unit=> [(9,.sl 0 0 (MN word l).length (MN word l).length)]) (fun _=> [.elems 2 ((MN word l).map eF)]) (fun _=>True) ?_ ?_
 ·refine Wp ?_;refine cD ?_ ?_<;>intro h<;>simp (disch:=omega) only [Sh.out h,go_sem,seval,↓reduceIte]
  ·refine ⟨(),Weak.mk ?_⟩
   have h2:16<l.length:=Za
   simp (disch:=omega) only [MN,h2,go_sem,seval,↓reduceIte]
  ·refine ⟨(),Weak.mk ?_⟩
   have h2: ¬ 16<l.length:=Za
   simp (disch:=omega) only [MN,h2,go_sem,seval,↓reduceIte]
 ·intro _ _;refine Zg [] _ _ _ _ (Wp ?_);refine Zk [0,1,2,3] (fun k:Nat=> [(9,.sl 0 0 (JK n word (DE turned) l k).length (JK n word (DE turned) l k).length),(10,.p (.int .i64 k))]) (fun k=> [.elems 2 ((JK n word (DE turned) l k).map eF)]) (fun k=>k<=l.length) (fun k=>l.length-k) 0 Zb (Weak.mk ?_) ?_
  ·simp (disch:=omega) only [Ga,go_sem,seval,↓reduceIte]
  ·intro k hk;have hfl:=Bh n word (DE turned) l k;have hdl:=OQ _ k (Nat.lt_succ_self _);refine Wp ?_;refine cD ?_ ?_<;>intro h<;>simp (disch:=omega) only [Sh.out h,go_sem,seval,↓reduceIte]
   ·have hk2:k<l.length:=Za
    simp (disch:=first | omega | (simp only [Zz,ZQ,Zw,Zv,ZE,ZK]<;>omega)) only [go_sem,seval];refine (N0 (k:Int) Za Za).use ?_;simp (disch:=first | omega | (simp only [Zz,ZQ,Zw,Zv,ZE,ZK]<;>omega)) only [go_sem,seval];have hs:=F9 n word (DE turned) l k
    have hbad:nG n (nth l k)=false->Tx n word (DE turned) l k= [(2,word++ [32]++dec k)]:=fun e=>by simp [Tx,e,atW]
    repeat' (first | (refine VA (fun hq=> ?_) (fun hq=> ?_)<;>(try simp only [Zl,XJ,Xy] at hq)<;>simp (disch:=omega) only [Sh.out hq,go_sem,seval]) | (refine gF ?_ ?_<;>intro hq<;>simp (disch:=omega) only [Sh.out hq,go_sem,seval,↓reduceIte]) | (refine cD ?_ ?_<;>intro hq<;>simp (disch:=omega) only [Sh.out hq,go_sem,seval,↓reduceIte]))
    all_goals try (
     have e:=hbad (by simp [nG];omega)
     exact ⟨k+1,Za,Za,Weak.mk (by simp (disch:=omega) only [hs,e,go_sem,seval])⟩)
    have hok:nG n (nth l k)=true:=by simp [nG];omega
    refine Zk [0,1,2,3,9,10,11,12,13] (fun j:Nat=> [(14,.p (.bool (tw turned l (nth l k) j))),(15,.p (.int .i64 j))]) (fun _=> [.elems 2 ((JK n word (DE turned) l k).map eF)]) (fun j=>j<=k) (fun j=>k-j) 0 Zb (Weak.mk ?_) ?_
    ·simp (disch:=omega) only [pB,go_sem,seval,↓reduceIte]
    ·intro j hj;refine Wp ?_;refine cD ?_ ?_<;>intro h4<;>simp (disch:=omega) only [Sh.out h4,go_sem,seval,↓reduceIte]
     ·have hts:=pA turned l (nth l k) j Za;generalize tw turned l (nth l k) j=q at hts ⊢
      repeat' (first | (refine gT ?_ ?_<;>intro hq<;>simp (disch:=omega) only [Sh.out hq,go_sem,seval,↓reduceIte]) | (refine gF ?_ ?_<;>intro hq<;>simp (disch:=omega) only [Sh.out hq,go_sem,seval,↓reduceIte]) | (refine QY (fun hq=> ?_) (fun hq=> ?_)<;>(try simp only [Zl,XJ,Xy] at hq)<;>simp (disch:=omega) only [Sh.out hq,go_sem,seval]))
      all_goals refine ⟨j+1,Za,Za,Weak.mk ?_⟩
      all_goals clear hs hbad hfl hdl
      all_goals simp (disch:=omega) only [hts,go_sem,seval]
      all_goals simp [DE, *]
      all_goals first | omega | (simp [DE, *] at hts;exact hts)
     ·have hjk:j=k:=Za
      subst hjk;refine cD ?_ ?_<;>intro h5<;>simp (disch:=omega) only [Sh.out h5,go_sem,seval,↓reduceIte]
      ·have e:Tx n word (DE turned) l j= [(6,word++ [32]++dec j)]:=by
        have h6:(l.take j).any (DE turned (nth l j))=true:=h5
        grind [Tx,atW]
       exact ⟨j+1,Za,Za,Weak.mk (by simp (disch:=omega) only [hs,e,go_sem,seval])⟩
      ·have e:Tx n word (DE turned) l j= []:=by
        have h6:(l.take j).any (DE turned (nth l j))=false:=h5
        simp_all [Tx]
       exact ⟨j+1,Za,Za,Weak.mk (by simp (disch:=omega) only [hs,e,go_sem,seval])⟩
   ·have:k=l.length:=Za
    subst this;exact ⟨0,by simp (disch:=omega) only [go_sem,seval]⟩
theorem gN (n:Int) (ap be:List (Int×Int)) (c c':Bool) (hl:ap.length<=1048576) (hl2:be.length<=1048576) :
  ACalls Tryz.prog 130 [.p (.int .i64 n),.p (.list c (ap.map eP)),.p (.list c' (be.map eP))] [] fun x H'=>x= .sl 0 0 (chk n ap be).length (chk n ap be).length/\H'= [.elems 2 ((chk n ap be).map eF)]:=by
 refine VX (fn:=Tryz.f130) Zb Tryz.func130 rfl wP ?_;simp (disch:=omega) only [Tryz.f130,go_sem,seval];have h1:=Bh n [97,112,97,114,116] (DE true) ap ap.length;have h2:=Bh n [98,101,102,111,114,101] (DE false) be be.length;refine (I7 n _ ap c true (by decide) hl).useF (Wp ?_);refine (I7 n _ be c' false (by decide) hl2).useF (Wp ?_);refine ⟨0,?_⟩;rw [chk,<- iE,<- S7];simp (disch:=omega) only [go_sem,seval]
@[go_sem] theorem ZcC {H:List AM.Obj} {β:Type} {S b o n:Nat} {xs:List PV} {g:β->PV} {m:List β} (hb:(n+m.length)*b<=140737488355328) (hb2:n+m.length<=140737488355328) :
  Um H (some (S,b)) (.elems S xs) o n (some (m.map g))=if xs.length=n/\Ap S (m.map g)=true then some (.sl o 0 (n+m.length) (n+m.length),EK H o (.elems S (xs++m.map g))) else none:=by
 simp_all [T1]
def und (word:List UInt8) (f:Flt):Flt:=(f.1,if f.2= [] then word else word++ [32]++f.2)
theorem Ac (word:List UInt8) (l:List Flt) (c:Bool) (hword:word.length<=100) (hl:l.length<=4194306000000) (hp: ∀f∈l,pF 100 f) :
  ACalls Tryz.prog 125 [.p (.str word),.p (.list c (l.map eF))] [] fun x H'=>x= .sl 0 0 (l.map (und word)).length (l.map (und word)).length/\H'= [.elems 2 ((l.map (und word)).map eF)]:=by
 suffices hh:ACalls Tryz.prog 125 [.p (.str word),.p (.list c (l.map eF))] [] fun x H'=> ∃m:List Flt,m=l.map (und word)/\x= .sl 0 0 m.length m.length/\H'= [.elems 2 (m.map eF)] by
  grind
 refine Xa [2] Tryz.func125 rfl wK ?_;simp (disch:=omega) only [Tryz.f125,go_sem,seval];refine Zr (Weak.ofNil 5 2 (by simp (disch:=omega) only [go_sem,seval]) Zb (Weak.refl _ _ _)) ?_;refine Zg [] _ _ _ _ (Wp ?_);refine Zk [0,1] (fun q:Nat×List Flt=> [(5,.sl 0 0 q.2.length q.2.length),(6,.p (.int .i64 q.1))]) (fun q=> [.elems 2 (q.2.map eF)]) (fun q=>q.1<=l.length/\q.2=(l.take q.1).map (und word)) (fun q=>l.length-q.1) (0,[]) ⟨Zb,Zb⟩ (Weak.mk ?_) ?_
 ·simp (disch:=omega) only [go_sem,seval,↓reduceIte]
 ·rintro ⟨k,m⟩ ⟨hk,hm⟩;simp only at hk hm
  have hml:m.length<=k:=by grind
  refine Wp ?_;refine cD ?_ ?_<;>intro h<;>simp (disch:=omega) only [Sh.out h,go_sem,seval,↓reduceIte]
  ·have hk2:k<l.length:=Za
   have hpk:=hp _ (Zq hk2);unfold pF at hpk
   have hnext: ∀f,f=und word (nth l k)->m++ [f]=(l.take (k+1)).map (und word):=fun f hf=>by
    grind [Xm,Ze]
   refine cD ?_ ?_<;>intro h2<;>simp (disch:=omega) only [Sh.out h2,go_sem,seval,↓reduceIte]
   ·have h3: ¬(nth l k).2= []:=Za
    simp (disch:=first | omega | (simp only [Zz,ZQ,Zw,Zv,ZE,ZK]<;>omega)) only [go_sem,seval,↓reduceIte];refine ⟨(k+1,m++ [((nth l k).1,word++ [32]++(nth l k).2)]),⟨Za,hnext _ (by simp [und,h3])⟩,Za,Weak.mk (by simp (disch:=first | omega | (simp only [Zz,ZQ,Zw,Zv,ZE,ZK]<;>omega)) only [go_sem,seval])⟩
   ·have h3:(nth l k).2= []:=by grind
    refine ⟨(k+1,m++ [((nth l k).1,word)]),⟨Za,hnext _ (by simp [und,h3])⟩,Za,Weak.mk (by simp (disch:=first | omega | (simp only [Zz,ZQ,Zw,Zv,ZE,ZK]<;>omega)) only [go_sem,seval])⟩
  ·have hkn:k=l.length:=Za
   subst hkn;exact ⟨m,by grind,0,by simp (disch:=omega) only [go_sem,seval]⟩
theorem vB {n:Int} {ap be:List (Int×Int)} (ha:ap.length<=1048576) (hb:be.length<=1048576): ∀f∈chk n ap be,pF 100 f:=by
 have key: ∀(word:List UInt8) (sm:Int×Int->Int×Int->Bool) (l:List (Int×Int)),word.length<=6->l.length<=1048576-> ∀f∈JK n word sm l l.length,pF 100 f:=fun word sm l hw hl f hf=>by
  simp only [JK,Xr,We,ZL] at hf;rcases hf with hf | ⟨i,hi,hf⟩
  ·grind [MN,pF]
  ·have hd:=AC 6 i Za
   grind [pF,atW,Tx]
 intro f hf;rcases Xr.1 hf with hf | hf
 ·grind
 grind
theorem lJ {n:Int} {ap be:List (Int×Int)} :(chk n ap be).length<=ap.length+be.length+2:=by
 grind [Bh,chk]
structure InstOk (x:Inst):Prop where
 net:netOk x.net
 types:typesOk x.net x.types
 orders:ordersOk x.net.places.length (dimsOf x.types) x.types.length x.orders
 rules:chk x.orders.length x.apart x.before= []
theorem FR.und {p:Flt->Prop} {C:Prop} {b:Nat} {l:List Flt} (h:FR p C b l) (word:List UInt8):FR (fun _=>True) C b (l.map (und word)) :=
 ⟨by simpa using h.len,by rw [List.map_eq_nil_iff];exact h.emp,fun _ _=>trivial⟩
theorem vG (x:Inst) (hw:x.wf 1048576):ACalls Tryz.prog 78 [.p (ZF x)] [] fun y H'=> ∃m:List Flt,FR (fun _=>True) (InstOk x) 4194400000000 m/\y= .sl 0 0 m.length m.length/\H'= [.elems 2 (m.map eF)]:=by
 obtain ⟨w1,w2,w3,w4,w5,w6,w7,w8,w9⟩:=hw;refine Xa [] Tryz.func78 rfl Zg0 ?_;simp (disch:=omega) only [Tryz.f78,go_sem,seval];have ol:=U7 x.net.places.length (dimsOf x.types) x.types.length x.orders x.orders.length;have oat:=NK (np:=x.net.places.length) (d:=dimsOf x.types) (ty:=x.types.length) w4;have onil:=LP (np:=x.net.places.length) (d:=dimsOf x.types) (ty:=x.types.length) (l:=x.orders);have cl:=lJ (n:=x.orders.length) (ap:=x.apart) (be:=x.before);have cat:=vB (n:=x.orders.length) w6 w8;refine ((vD x.net w1).frozenE).useV fun m1 h1=> ?_
 refine Wp ?_;have h1p:=h1.pmono (q:=pF 100) fun f hf=>hf.mono Za;have u1:=Ac [110,101,116] m1 false Zb h1.len h1p.all;have f1:=h1.und [110,101,116];generalize m1.map (und [110,101,116])=q1 at u1 f1;have f1l:=f1.len;refine (u1).useF (Wp ?_);refine ((vE x.net x.types x.types_c w1 w2 w3).frozenE).useV fun m2 h2=>Wp ?_;have h2p:=h2.pmono (q:=pF 100) fun f hf=>hf.mono Za;have h2l:=h2.len;have u2:=(Ac [116,121,112,101,115] m2 false Zb Za h2p.all).frozen Zb;have f2:=h2.und [116,121,112,101,115]
 generalize m2.map (und [116,121,112,101,115])=q2 at u2 f2;have f2l:=f2.len;refine (u2).use (Wp ?_);have u3:=(Ac [111,114,100,101,114,115] (XR x.net.places.length (dimsOf x.types) x.types.length x.orders x.orders.length) false Zb Za fun f hf=>(oat f hf).mono Za).frozen Zb;have f3:=(show FR (fun _=>True) (ordersOk x.net.places.length (dimsOf x.types) x.types.length x.orders) (1+8*x.orders.length) (XR x.net.places.length (dimsOf x.types) x.types.length x.orders x.orders.length) from ⟨ol,onil,fun _ _=>trivial⟩).und [111,114,100,101,114,115]
 generalize (XR x.net.places.length (dimsOf x.types) x.types.length x.orders x.orders.length).map (und [111,114,100,101,114,115])=q3 at u3 f3;have f3l:=f3.len;refine Z6 13 mixed Zd Zd (Wp ?_);refine Zp (IZ x.types x.types_c w2) (Wp ?_);refine Zp ((vF x.net (dimsOf x.types) x.types.length x.orders x.orders_c w1 w4 w5).frozen Zb) (Wp ?_);refine Zp (u3) (Wp ?_);have u4:=(Ac [114,117,108,101,115] (chk x.orders.length x.apart x.before) false Zb Za cat).frozen Zb
 have f4:=(show FR (fun _=>True) (chk x.orders.length x.apart x.before= []) (x.apart.length+x.before.length+2) (chk x.orders.length x.apart x.before) from ⟨cl,Iff.rfl,fun _ _=>trivial⟩).und [114,117,108,101,115];generalize (chk x.orders.length x.apart x.before).map (und [114,117,108,101,115])=q4 at u4 f4;have f4l:=f4.len;refine ((gN x.orders.length x.apart x.before x.apart_c x.before_c w6 w8).frozen Zb).use (Wp ?_);refine (u4).use (Wp ?_);refine ⟨q1++q2++q3++q4,((f1.app f2).app f3 |>.app f4).to Za ⟨fun ⟨⟨⟨a,b⟩,c⟩,d⟩=>⟨a,b,c,d⟩,fun h=>⟨⟨⟨h.net,h.types⟩,h.orders⟩,h.rules⟩⟩,1,?_⟩
 simp (disch:=omega) only [go_sem,seval]
def Zj (x:Inst):AM.Obj:= .cells [.p (.list x.net.places_c (x.net.places.map eS)),.p (.list x.net.arcs_c (x.net.arcs.map V0)),.p (.list x.types_c (x.types.map V1)),.p (.list x.orders_c (x.orders.map eOrd)),.p (.list x.apart_c (x.apart.map eP)),.p (.list x.before_c (x.before.map eP))]
def zSco : Sco:=⟨0,0,0,0⟩
theorem jW (a:Int):IntKind.i64.wrap ((BitVec.ofInt 64 a&&&BitVec.ofInt 64 1).toNat:Int)=a%2:=by
 grind [BitVec.toNat_ofInt,IntWalk.i64_in]
def sHas (s i:Int):Bool:=decide (0<=i)&&decide (i<=62)&&decide (s.fdiv (2^i.toNat)%2=1)
theorem CZ (s i:Int):PC 95 [.p (.int .i64 s),.p (.int .i64 i)] (.bool (sHas s i)):=by
 refine Zc Tryz.func95 rfl Zg8 ?_;simp (disch:=omega) only [Tryz.f95,go_sem,seval];refine gT ?_ ?_<;>intro h<;>simp (disch:=omega) only [Sh.out h,go_sem,seval,↓reduceIte]
 ·refine gT ?_ ?_<;>intro h1<;>simp (disch:=omega) only [Sh.out h1,go_sem,seval,↓reduceIte]
  ·have:min i.toNat 64=i.toNat:=Za
   rw [this]
   erw [jW]
   simp [sHas,h,h1]
  grind [sHas]
 ·simp [sHas,h]
def XO (s:Int) (k:Nat):List Int:=((List.range k).filter fun (i:Nat)=>sHas s (i:Int)).map fun (i:Nat)=>(i:Int)
theorem Sf (s:Int):XO s 0= []:=by simp [XO]
theorem LF {s:Int} {k:Nat} (h:sHas s (k:Int)=true):XO s (k+1)=XO s k++ [(k:Int)]:=by grind [XO,Yu]
theorem Pl {s:Int} {k:Nat} (h:sHas s (k:Int)=false):XO s (k+1)=XO s k:=by grind [XO,Yu]
theorem BD (s:Int) (k:Nat):(XO s k).length<=k:=by
 grind [XO]
theorem Cr (s:Int):ACalls Tryz.prog 60 [.p (.int .i64 s)] [] fun x H'=>x= .sl 0 0 (XO s 63).length (XO s 63).length/\H'= [.elems 1 ((XO s 63).map eI)]:=by
 refine VX (fn:=Tryz.f60) Zb Tryz.func60 rfl ZgY ?_;simp (disch:=omega) only [Tryz.f60,go_sem,seval];refine Zk [0] (fun k:Nat=> [(3,.sl 0 0 (XO s k).length (XO s k).length),(5,.p (.int .i64 k))]) (fun k=> [.elems 1 ((XO s k).map eI)]) (fun k=>k<=63) (fun k=>63-k) 0 Zb (Weak.ofNil 3 1 (by simp (disch:=omega) only [go_sem,seval]) Zb (Weak.mk ?_)) ?_
 ·simp (disch:=omega) only [Sf,go_sem,seval,↓reduceIte]
 ·intro k hk;have hl:=BD s k;refine Wp ?_;refine cD ?_ ?_<;>intro h<;>simp (disch:=omega) only [Sh.out h,go_sem,seval,↓reduceIte]
  ·refine (CZ s k).use (Wp ?_);refine cD ?_ ?_<;>intro h2<;>simp (disch:=omega) only [Sh.out h2,go_sem,seval,↓reduceIte]
   ·refine ⟨k+1,Za,Za,Weak.mk ?_⟩;simp (disch:=omega) only [LF h2,go_sem,seval]
   ·exact ⟨k+1,Za,Za,Weak.mk (by simp (disch:=omega) only [Pl h2,go_sem,seval])⟩
  ·have:k=63:=Za
   subst this;exact ⟨0,by simp (disch:=omega) only [go_sem,seval]⟩
def eN (n:Nat):PV:= .int .i64 (n:Int)
@[go_sem] theorem ZnO (n:Nat):eN n= .int .i64 (n:Int):=Zh rfl rfl
theorem aK (n:Nat) (be:List (Int×Int)) (c:Bool) (hn:n<=60) (hl:be.length<=1048576) (hv:Val n be) :
  ACalls Tryz.prog 235 [.p (.int .i64 (n:Int)),.p (.list c (be.map eP))] [] fun x H'=>x= .sl 0 0 n n/\H'= [.elems 1 ((JE n be).map eN)]:=by
 refine VX (fn:=Tryz.f235) (by simpa using (D5 hv).len) Tryz.func235 rfl yW ?_;simp (disch:=omega) only [Tryz.f235,go_sem,seval];have hp60:pw n<=pw 62:=C4 Za;have h62:=GE;refine Zk [0,1] (fun q:List Nat×Bool=> [(5,.sl 0 0 n n),(6,.p (.bool q.2))]) (fun q=> [.elems 1 (q.1.map eN)]) (fun q=>Snd n be q.1/\(q.2=false->tot (DA q.1 be)=tot q.1)) (fun q=>2*(n*pw n-tot q.1)+(if q.2 then 1 else 0)) (List.replicate n 0,true) ⟨Snd.zero n be,Zb⟩ (Weak.mk ?_) ?_
 ·simp (disch:=omega) only [Bx,go_sem,seval,↓reduceIte]
 ·rintro ⟨out,more⟩ ⟨hs,hm⟩;simp only at hs hm;refine Wp ?_;refine cD ?_ ?_<;>intro h<;>simp (disch:=omega) only [Sh.out h,go_sem,seval,↓reduceIte]
  ·have hrs: ∀i,Snd n be (DA out (be.take i)):=fun i=>hs.rnd hv _ fun p hp=>Jm hp
   have hsuc: ∀i,i<be.length->DA out (be.take (i+1))=De (DA out (be.take i)) (nth be i):=fun i hi=>by
    rw [Xm hi,NP,<- Ze hi];rfl
   refine Zk [0,1,16,17] (fun i:Nat=> [(5,.sl 0 0 n n),(6,.p (.bool (decide (tot out<tot (DA out (be.take i)))))),(18,.p (.int .i64 i))]) (fun i=> [.elems 1 ((DA out (be.take i)).map eN)]) (fun i=>i<=be.length) (fun i=>be.length-i) 0 Zb (Weak.mk ?_) ?_
   ·simp (disch:=omega) only [DA,WN,Qr,go_sem,seval];simp
   ·intro i hi;have hsi:=hrs i;generalize hgo:DA out (be.take i)=o at hsi ⊢;have hlo:=hsi.len;refine Wp ?_;refine cD ?_ ?_<;>intro h2<;>simp (disch:=omega) only [Sh.out h2,go_sem,seval,↓reduceIte]
    ·have hib:i<be.length:=Za
     have hvi:=hv (nth be i) (by grind [Ze])
     have g1: ¬(nth be i).1<0:=Za
     have g2: ¬(nth be i).2<0:=Za
     have g3: ¬(n:Int)<=(nth be i).1:=Za
     have g4: ¬(n:Int)<=(nth be i).2:=Za
     have g5:(nth be i).1.toNat<n:=Za
     have g6:(nth be i).2.toNat<n:=Za
     have b1:=hsi.lt _ g5;have b2:=hsi.lt _ g6;have b3:nth o (nth be i).2.toNat|||nth o (nth be i).1.toNat<pw n:=Qp b2 b1;have b4:pw (nth be i).1.toNat<=pw 62:=C4 Za;have hst:=OO o (nth be i) Za;have hnx:=hsuc i hib;rw [hgo] at hnx;refine DX mixed Zd ?_;simp (disch:=omega) only [hlo,g1,g2,g3,g4,go_sem,seval];refine DX mixed Zd ?_;simp (disch:=first | omega | (simp only [Zz,ZQ,Zw,Zv,ZE,ZK]<;>omega)) only [hlo,g5,g6,Wn,go_sem,seval,↓reduceIte]
     have htm:tot out<=tot o:=by
      grind [BK]
     have hsv:o.set (nth be i).2.toNat (nth o (nth be i).2.toNat|||nth o (nth be i).1.toNat|||pw (nth be i).1.toNat)=De o (nth be i):=rfl;refine cD ?_ ?_<;>intro h3<;>simp (disch:=omega) only [Sh.out h3,go_sem,seval,↓reduceIte]
     ·have hne: ¬De o (nth be i)=o:=fun e=>by
       apply h3
       have e2:nth (De o (nth be i)) (nth be i).2.toNat=nth o (nth be i).2.toNat:=by rw [e]
       rw [De,Dw _ _ _ _ Za] at e2
       grind
      have hlt:tot out<tot (De o (nth be i)):=by
       grind
      simp (disch:=first | omega | (simp only [Zz,ZQ,Zw,Zv,ZE,ZK]<;>omega)) only [go_sem,seval,↓reduceIte];refine ⟨i+1,Za,Za,Weak.mk ?_⟩;simp (disch:=omega) only [hnx,hlt,go_sem,seval];rw [<- hsv,UE]
      rfl
     ·have heq:De o (nth be i)=o:=by
       have e:nth o (nth be i).2.toNat|||nth o (nth be i).1.toNat|||pw (nth be i).1.toNat=nth o (nth be i).2.toNat:=Za
       rw [<- hsv,e];apply U1 Zb
       simp_all [Ze]
      refine ⟨i+1,Za,Za,Weak.mk ?_⟩;simp (disch:=omega) only [hnx,heq,go_sem,seval]
    ·have hi2:i=be.length:=Za
     subst hi2;rw [Yb] at hgo;subst hgo;have hpt:=BK hv be out (fun _ h=>h) hs;have hbd:=hsi.bound;refine ⟨(DA out be,decide (tot out<tot (DA out be))),⟨hsi,fun e=> ?_⟩,?_,Weak.mk ?_⟩
     ·grind
     ·grind
     ·simp (disch:=omega) only [go_sem,seval]
  ·refine ⟨0,?_⟩;have:out=JE n be:=(aV hv (hs.clo hv (hm h))).symm;rw [this];simp (disch:=omega) only [go_sem,seval]
def hv (s k:Nat):Nat:=s / pw k
theorem wC (s k:Nat):s.testBit k=decide (hv s k%2=1):=by
 rw [Nat.testBit_eq_decide_div_mod_eq]
 rfl
theorem Wh (s i:Nat) (hi:i<=62):sHas (s:Int) (i:Int)=s.testBit i:=by
 rw [wC,hv]
 have h1:(0:Int)<=i:=Za
 have h2:(i:Int)<=62:=Za
 simp only [sHas,h1,h2,W8,W9,X3]
 have e:((s:Int)).fdiv (2^i)=((s / pw i:Nat):Int):=by
  grind [pw]
 grind
theorem W0 {α:Type} [Inhabited α] {l:List α} {f:α->Bool} {k:Nat} (h:k<l.length) (hf:f (nth l k)=true):l.any f=true:=by
 grind [Ze]
theorem Qe {α:Type} [Inhabited α] {l:List α} {f:α->Bool} (h: ∀j,j<l.length->f (nth l j)=false):l.any f=false:=by
 rw [XS];intro x hx;obtain ⟨j,hj,rfl⟩:=ZN.1 hx
 grind [Ze]
theorem Vv {p:Nat->Prop} {k:Nat} (h: ∀j,j<k->p j) (hk:p k): ∀j,j<k+1->p j:=fun j hj=>by
 grind
theorem Zhk {s:Int} {k:Nat} {x:Int} (h:x∈XO s k):0<=x/\x<k:=by
 simp only [XO,XD,U3,ZL] at h;omega
noncomputable def Wk (os:List Ord) (ap be:List (Int×Int)) (s:Int):Int :=
 if s<0 then 2
 else if (XO s 63).any (fun i=>decide ((os.length:Int)<=i)) then 2
 else if (XO s 63).any (fun i=>(nth os i.toNat).off) then 9
 else if ap.any (fun p=>sHas s p.1&&sHas s p.2) then 20
 else if be.any (fun p=>sHas s p.2&& !sHas s p.1) then 21
 else if (XO s 63).any (fun i=>sHas ((nth (JE os.length be) i.toNat:Nat):Int) i) then 21
 else 0
theorem Wj {P Q:Prop} (h:Q) (e:Q->P:=by intro h;simp (disch:=omega) only [Zj,go_sem,seval];exact h):P:=e h
theorem Rf (net:Net) (tyc:Bool) (tys:List Typ) (c1 c2 c3:Bool) (os:List Ord) (ap be:List (Int×Int)) (s:Int) (hn:os.length<=60) (hla:ap.length<=1048576) (hl:be.length<=1048576) (hv:Val os.length be) :
  PC 177 [.p (ZF ⟨net,tyc,tys,c1,os,c2,ap,c3,be⟩),.p (.int .i64 s)] (.int .i64 (Wk os ap be s)):=by
 have hc:=D5 hv;have hlen:=hc.len;have hm:=BD s 63;refine Zc Tryz.func177 rfl xV ?_;simp (disch:=omega) only [Tryz.f177,go_sem,seval];refine cD ?_ ?_<;>intro hs0<;>simp (disch:=omega) only [Sh.out hs0,go_sem,seval]
 ·simp [Wk,hs0]
 ·refine ((Cr s).frozen Zb).use (Wp ?_);generalize hgm:XO s 63=m at hm ⊢
  have hnn: ∀k,k<m.length->0<=nth m k/\nth m k<63:=fun k hk=>by
   grind [XO,Ze,Jq]
  have e0: ¬s<0:=hs0;refine Zk [1,2,5,21,22] (fun k:Nat=> [(23,.p (.int .i64 k))]) (fun _=> [Zj ⟨net,tyc,tys,c1,os,c2,ap,c3,be⟩]) (fun k=>k<=m.length/\ ∀j,j<k->decide ((os.length:Int)<=nth m j)=false) (fun k=>m.length-k) 0 Zb (Weak.mk ?_) ?_
  ·simp (disch:=omega) only [Zj,go_sem,seval]
  ·rintro k ⟨hk,hno⟩;refine Wj ?_;refine cD ?_ ?_<;>intro h<;>simp (disch:=omega) only [Sh.out h,go_sem,seval,↓reduceIte]
   ·have hk2:k<m.length:=Za
    refine ZP ?_ ?_<;>intro h4
    ·grind [W0,Wk]
    ·exact ⟨k+1,⟨Za,Vv hno (by simp [h4])⟩,Za,wk⟩
   ·have hkm:k=m.length:=Za
    subst hkm;have e1:m.any (fun i=>decide ((os.length:Int)<=i))=false:=Qe hno
    have hin: ∀j,j<m.length->(nth m j).toNat<os.length:=fun j hj=>by
     grind
    clear hno hk h;refine Zk [1,2,5,33,34] (fun k:Nat=> [(35,.p (.int .i64 k))]) (fun _=> [Zj ⟨net,tyc,tys,c1,os,c2,ap,c3,be⟩]) (fun k=>k<=m.length/\ ∀j,j<k->(nth os (nth m j).toNat).off=false) (fun k=>m.length-k) 0 Zb (Weak.mk ?_) ?_
    ·simp (disch:=omega) only [Zj,go_sem,seval]
    ·rintro k ⟨hk,hno⟩;refine Wj ?_;refine cD ?_ ?_<;>intro h<;>simp (disch:=omega) only [Sh.out h,go_sem,seval,↓reduceIte]
     ·have hk2:k<m.length:=Za
      have g1:=hin k hk2;have g2:=hnn k hk2;refine Wp ?_;refine ZP ?_ ?_<;>intro h4
      ·grind [W0,Wk]
      ·exact ⟨k+1,⟨Za,Vv hno h4⟩,Za,wk⟩
     ·have hkm:k=m.length:=Za
      subst hkm;have e2:m.any (fun i=>(nth os i.toNat).off)=false:=Qe hno;clear hno hk h;refine Zk [1,2,5,47,48] (fun k:Nat=> [(49,.p (.int .i64 k))]) (fun _=> [Zj ⟨net,tyc,tys,c1,os,c2,ap,c3,be⟩]) (fun k=>k<=ap.length/\ ∀j,j<k->(sHas s (nth ap j).1&&sHas s (nth ap j).2)=false) (fun k=>ap.length-k) 0 Zb (Weak.mk ?_) ?_
      ·simp (disch:=omega) only [Zj,go_sem,seval]
      ·rintro k ⟨hk,hno⟩;refine Wj ?_;refine cD ?_ ?_<;>intro h<;>simp (disch:=omega) only [Sh.out h,go_sem,seval,↓reduceIte]
       ·have hk2:k<ap.length:=Za
        refine (CZ s (nth ap k).1).use (Wp ?_);refine QB ?_ ?_<;>intro h5
        ·refine (CZ s (nth ap k).2).use (Wp ?_);refine ZP ?_ ?_<;>intro h6
         ·grind [W0,Wk]
         ·exact ⟨k+1,⟨Za,Vv hno (by simp [h5,h6])⟩,Za,wk⟩
        ·exact ⟨k+1,⟨Za,Vv hno (by simp [h5])⟩,Za,wk⟩
       ·have hkm:k=ap.length:=Za
        subst hkm;have e3:ap.any (fun p=>sHas s p.1&&sHas s p.2)=false:=Qe hno;clear hno hk h;refine Zk [1,2,5,65,66] (fun k:Nat=> [(67,.p (.int .i64 k))]) (fun _=> [Zj ⟨net,tyc,tys,c1,os,c2,ap,c3,be⟩]) (fun k=>k<=be.length/\ ∀j,j<k->(sHas s (nth be j).2&& !sHas s (nth be j).1)=false) (fun k=>be.length-k) 0 Zb (Weak.mk ?_) ?_
        ·simp (disch:=omega) only [Zj,go_sem,seval]
        ·rintro k ⟨hk,hno⟩;refine Wj ?_;refine cD ?_ ?_<;>intro h<;>simp (disch:=omega) only [Sh.out h,go_sem,seval,↓reduceIte]
         ·have hk2:k<be.length:=Za
          refine (CZ s (nth be k).2).use (Wp ?_);refine QB ?_ ?_<;>intro h5
          ·refine (CZ s (nth be k).1).use (Wp ?_);refine ZP ?_ ?_<;>intro h6
           ·grind [W0,Wk]
           ·exact ⟨k+1,⟨Za,Vv hno (by simp [h5,h6])⟩,Za,wk⟩
          ·exact ⟨k+1,⟨Za,Vv hno (by simp [h5])⟩,Za,wk⟩
         ·have hkm:k=be.length:=Za
          subst hkm;have e4:be.any (fun p=>sHas s p.2&& !sHas s p.1)=false:=Qe hno;clear hno hk h;refine ((aK os.length be c3 hn hl hv).frozen (by grind)).use (Wp ?_);refine Zk [5,14,89,90] (fun k:Nat=> [(91,.p (.int .i64 k))]) (fun _=> [Zj ⟨net,tyc,tys,c1,os,c2,ap,c3,be⟩]) (fun k=>k<=m.length/\ ∀j,j<k->sHas ((nth (JE os.length be) (nth m j).toNat:Nat):Int) (nth m j)=false) (fun k=>m.length-k) 0 Zb (Weak.mk ?_) ?_
          ·simp (disch:=omega) only [Zj,go_sem,seval]
          ·rintro k ⟨hk,hno⟩;refine Wj ?_;refine cD ?_ ?_<;>intro h<;>simp (disch:=omega) only [Sh.out h,go_sem,seval,↓reduceIte]
           ·have hk2:k<m.length:=Za
            have g1:=hin k hk2;have g2:=hnn k hk2;refine Wp ?_;refine (CZ ((nth (JE os.length be) (nth m k).toNat:Nat):Int) (nth m k)).use (Wp ?_);refine ZP ?_ ?_<;>intro h6
            ·grind [W0,Wk]
            ·exact ⟨k+1,⟨Za,Vv hno h6⟩,Za,wk⟩
           grind [JE,Qe,Wk]
deriving instance DecidableEq for Vis
theorem Of {v w:Vis} :v=w↔v.order=w.order/\v.drp=w.drp:=by cases v;cases w;simp
def F6 (f:Vis->Bool) (l:List Vis):Int:=match l.findIdx? f with | some i=>(i:Int) | none=> -1
def vIx (l:List Vis) (v:Vis):Int:=F6 (fun w=>decide (v=w)) l
theorem Hy {f:Vis->Bool} {l:List Vis} {k:Nat} (hk:k<l.length) (h:f (nth l k)=true) (hno: ∀j,j<k->f (nth l j)=false):F6 f l=(k:Int):=by
 have:l.findIdx? f=some k:=by
  grind [VO,Ze]
 simp [F6,this]
theorem Nq {f:Vis->Bool} {l:List Vis} (hno: ∀j,j<l.length->f (nth l j)=false):F6 f l= -1:=by
 have:l.findIdx? f=none:=by
  rw [List.findIdx?_eq_none_iff];intro x hx;obtain ⟨j,hj,rfl⟩:=ZN.1 hx
  grind [Ze]
 simp [F6,this]
theorem Np {f:Vis->Bool} {l:List Vis} :decide (0<=F6 f l)=l.any f:=by
 grind [F6]
theorem bZ {f:Vis->Bool} {l:List Vis} :F6 f l<l.length/\ -1<=F6 f l:=by
 grind [F6,VO]
theorem O7 (l:List Vis) (c:Bool) (v:Vis) (hl:l.length<=1048576):PC 308 [.p (.list c (l.map Xf)),.p (Xf v)] (.int .i64 (vIx l v)):=by
 refine Zc Tryz.func308 rfl ZaD ?_;simp (disch:=omega) only [Tryz.f308,go_sem,seval];refine Zk [0,3,7] (fun k:Nat=> [(8,.p (.int .i64 k))]) (fun _=> [.cells [.p (.int .i64 v.order),.p (.bool v.drp)]]) (fun k=>k<=l.length/\ ∀j,j<k->decide (v=nth l j)=false) (fun k=>l.length-k) 0 Zb (Weak.mk ?_) ?_
 ·simp (disch:=omega) only [go_sem,seval,↓reduceIte]
 ·rintro k ⟨hk,hno⟩;refine Wp ?_;refine cD ?_ ?_<;>intro h<;>simp (disch:=omega) only [Sh.out h,go_sem,seval,↓reduceIte]
  ·have hk2:k<l.length:=Za
   refine XH (Wp ?_);refine cD ?_ ?_<;>intro h2<;>simp (disch:=omega) only [Sh.out h2,go_sem,seval,↓reduceIte]
   ·grind [Of,vIx,Hy]
   ·have: ¬v=nth l k:=by grind
    exact ⟨k+1,⟨Za,Zm.2 ⟨hno,by grind⟩⟩,Za,wk⟩
  grind [vIx,Nq]
theorem BM (l:List Vis) (c:Bool) (v:Vis) (hl:l.length<=1048576):PC 286 [.p (.list c (l.map Xf)),.p (Xf v)] (.int .i64 (vIx l v)):=by
 refine Zc Tryz.func286 rfl Zai ?_;simp (disch:=omega) only [Tryz.f286,go_sem,seval];refine (O7 l c v hl).use ?_;simp (disch:=omega) only [go_sem,seval]
theorem Ht (l:List Vis) (c:Bool) (v:Vis) (hl:l.length<=1048576):PC 287 [.p (.list c (l.map Xf)),.p (Xf v)] (.bool (decide (0<=vIx l v))):=by
 refine Zc Tryz.func287 rfl Zaj ?_;simp (disch:=omega) only [Tryz.f287,go_sem,seval];refine (O7 l c v hl).use ?_;simp (disch:=omega) only [go_sem,seval]
theorem oZ (l:List Ord) (c:Bool) (n:Int) (hl:l.length<=1048576):PC 236 [.p (.list c (l.map eOrd)),.p (.int .i64 n)] (.bool (decide (0<=n/\n<l.length))):=by
 refine Zc Tryz.func236 rfl dJ ?_;simp (disch:=omega) only [Tryz.f236,go_sem,seval];refine gT ?_ ?_<;>intro h<;>simp (disch:=omega) only [Sh.out h,go_sem,seval,↓reduceIte]
 all_goals (try simp [h])
def Z0 (l:List Ord) (i:Nat):List Vis:=(if 0<=(nth l i).pick.place then [⟨i,false⟩] else [])++(if 0<=(nth l i).drp.place then [⟨i,true⟩] else [])
theorem Vf (l:List Ord) (i:Nat):(Z0 l i).length<=2:=by grind [Z0]
theorem YM {l:List Ord} {i:Nat} {v:Vis} (h:v∈Z0 l i):v.order=i:=by
 grind [Z0]
theorem Og (l:List Ord) (c:Bool) (i:Nat) (hi:i<l.length) (hl:l.length<=1048576):ACalls Tryz.prog 178 [.p (.list c (l.map eOrd)),.p (.int .i64 (i:Nat))] [] fun x H'=>x= .sl 0 0 (Z0 l i).length (Z0 l i).length/\H'= [.elems 2 ((Z0 l i).map Xf)]:=by
 suffices hh:ACalls Tryz.prog 178 [.p (.list c (l.map eOrd)),.p (.int .i64 (i:Nat))] [] fun x H'=> ∃m:List Vis,m=Z0 l i/\x= .sl 0 0 m.length m.length/\H'= [.elems 2 (m.map Xf)] by
  grind
 refine Xa [2] Tryz.func178 rfl xW ?_;simp (disch:=omega) only [Tryz.f178,go_sem,seval];refine Zr (Weak.ofNil 5 2 (by simp (disch:=omega) only [go_sem,seval]) Zb (Weak.refl _ _ _)) ?_;refine Zg [4] _ _ _ _ (Wp ?_);refine (oZ l c i hl).use (Wp ?_)
 have h0:(0:Int)<=(i:Int)/\(i:Int)<(l.length:Int):=Za
 simp (disch:=omega) only [h0,go_sem,seval];refine ZI [0,1] (fun m:List Vis=> [(5,.sl 0 0 m.length m.length)]) (fun m=> [.elems 2 (m.map Xf)]) (fun m=>m=(if 0<=(nth l i).pick.place then [⟨i,false⟩] else [])) ?_ ?_
 ·refine Wp ?_;refine cD ?_ ?_<;>intro h<;>simp (disch:=omega) only [Sh.out h,go_sem,seval,↓reduceIte]
  ·exact ⟨[⟨i,false⟩],by simp [],wk⟩
  ·exact ⟨[],by simp [],wk⟩
 ·intro m hm
  have hml:m.length<=1:=by grind
  refine Zg [] _ _ _ _ (Wp ?_);refine cD ?_ ?_<;>intro h<;>simp (disch:=omega) only [Sh.out h,go_sem,seval,↓reduceIte]
  ·exact ⟨m++ [⟨i,true⟩],by simp_all [Z0],0,by simp (disch:=omega) only [go_sem,seval]⟩
  ·exact ⟨m,by simp_all [Z0],0,by simp (disch:=omega) only [go_sem,seval]⟩
theorem visits_c (l:List Ord) (c:Bool) (i:Nat) (hi:i<l.length) (hl:l.length<=1048576):PC 178 [.p (.list c (l.map eOrd)),.p (.int .i64 (i:Nat))] (.list false ((Z0 l i).map Xf)) :=
 (Og l c i hi hl).frozen Zb
def Kx (l:List Vis):Bool:=(List.range l.length).any fun i=>decide (0<=vIx (l.take i) (nth l i))
theorem pC (l:List Vis) (c:Bool) (hl:l.length<=1048576):PC 260 [.p (.list c (l.map Xf))] (.bool (Kx l)):=by
 refine Zc Tryz.func260 rfl zM ?_;simp (disch:=omega) only [Tryz.f260,go_sem,seval];refine Zk [0,5,6] (fun k:Nat=> [(7,.p (.int .i64 k))]) (fun _=> []) (fun k=>k<=l.length/\ ∀j,j<k->decide (0<=vIx (l.take j) (nth l j))=false) (fun k=>l.length-k) 0 Zb (Weak.mk ?_) ?_
 ·simp (disch:=omega) only [go_sem,seval,↓reduceIte]
 ·rintro k ⟨hk,hno⟩;refine Wp ?_;refine cD ?_ ?_<;>intro h<;>simp (disch:=omega) only [Sh.out h,go_sem,seval,↓reduceIte]
  ·have hk2:k<l.length:=Za
   refine XH (Wp ?_);refine Zp (BM (l.take k) _ (nth l k) (by simp;omega)) (Wp ?_);refine cD ?_ ?_<;>intro h2<;>simp (disch:=omega) only [Sh.out h2,go_sem,seval,↓reduceIte]
   ·grind [Kx]
   ·exact ⟨k+1,⟨Za,Zm.2 ⟨hno,by grind⟩⟩,Za,wk⟩
  grind [Kx]
theorem C0 (l:List Vis) (c:Bool) (g:FuncId) (caps:List V) (H:List AM.Obj) (f:Vis->Bool) (hl:l.length<=1048576) (hW:MH H H.length H H) (hc:Xd H.length caps=true)
  (hg: ∀v∈l,ACalls Tryz.prog g (.p (Xf v)::caps) H fun x H'=>x= .p (.bool (f v))/\H'=H) :
  ACalls Tryz.prog 225 [.p (.list c (l.map Xf)),.fn (.func g) [] caps] H fun x H'=>x= .p (.int .i64 (F6 f l))/\H'=H:=by
 refine X6 Tryz.func225 rfl yM (Zg [] _ _ _ _ ?_);simp (disch:=omega) only [Tryz.f225,go_sem,seval];refine Zk [0,1,7] (fun k:Nat=> [(8,.p (.int .i64 k))]) (fun _=>H) (fun k=>k<=l.length/\ ∀j,j<k->f (nth l j)=false) (fun k=>l.length-k) 0 Zb (Weak.mk ?_) ?_
 ·simp (disch:=omega) only [hW,hc,go_sem,seval];simp
 ·rintro k ⟨hk,hno⟩;refine Wp ?_;refine cD ?_ ?_<;>intro h<;>simp (disch:=omega) only [Sh.out h,go_sem,seval,↓reduceIte]
  ·have hk2:k<l.length:=Za
   refine (hg (nth l k) (Zq hk2)).useH (Wp ?_);refine cD ?_ ?_<;>intro h2<;>simp (disch:=omega) only [Sh.out h2,go_sem,seval,↓reduceIte]
   ·grind [Hy]
   ·have h3:f (nth l k)=false:=Za
    refine ⟨k+1,⟨Za,Zm.2 ⟨hno,h3⟩⟩,Za,Weak.mk ?_⟩;simp (disch:=omega) only [hW,hc,go_sem,seval];simp
  grind [Nq]
theorem Us (l:List Vis) (c:Bool) (g:FuncId) (caps:List V) (H:List AM.Obj) (f:Vis->Bool) (hl:l.length<=1048576) (hW:MH H H.length H H) (hc:Xd H.length caps=true)
  (hg: ∀v∈l,ACalls Tryz.prog g (.p (Xf v)::caps) H fun x H'=>x= .p (.bool (f v))/\H'=H) :
  ACalls Tryz.prog 167 [.p (.list c (l.map Xf)),.fn (.func g) [] caps] H fun x H'=>x= .p (.bool (l.any f))/\H'=H:=by
 refine X6 Tryz.func167 rfl xN (Zg [] _ _ _ _ ?_);simp (disch:=omega) only [Tryz.f167,go_sem,seval];refine (C0 l c g caps H f hl hW hc hg).useH (Wp ?_);rw [Np]
def hasO (l:List Vis) (o:Int):Bool:=l.any fun v=>decide (v.order=o)
theorem vY (v:Vis) (o:Int):ACalls Tryz.prog 288 [.p (Xf v),.ptr 0 0] [.cells [.p (.int .i64 o)]] fun x H'=>x= .p (.bool (decide (v.order=o)))/\H'= [.cells [.p (.int .i64 o)]]:=by
 refine Zf [] Tryz.func288 rfl Zak ?_;simp (disch:=omega) only [Tryz.f288,go_sem,seval];exact we
theorem Ru (v:Vis) (o:Int):ACalls Tryz.prog 289 [.p (Xf v),.ptr 0 0] [.cells [.p (.int .i64 o)]] fun x H'=>x= .p (.bool (decide (v.order=o)))/\H'= [.cells [.p (.int .i64 o)]]:=by
 refine Zf [] Tryz.func289 rfl Zal ?_;simp (disch:=omega) only [Tryz.f289,go_sem,seval];exact we
theorem BY (l:List Vis) (c:Bool) (o:Int) (hl:l.length<=1048576):PC 262 [.p (.list c (l.map Xf)),.p (.int .i64 o)] (.bool (hasO l o)):=by
 refine Zc Tryz.func262 rfl zO ?_;simp (disch:=omega) only [Tryz.f262,go_sem,seval];refine (Us l c 288 [.ptr 0 0] [.cells [.p (.int .i64 o)]] (fun v=>decide (v.order=o)) hl (by simp (disch:=omega) only [go_sem,seval]) (by rfl) (fun v _=>vY v o)).useH (Wp ?_);rw [hasO]
def beforeB (l:List Vis) (a b:Int):Bool:=if F6 (fun v=>decide (v.order=b)) l<0 then true else hasO l a&& !hasO (l.drop (F6 (fun v=>decide (v.order=b)) l).toNat) a
theorem Mh (l:List Vis) (c:Bool) (a b:Int) (hl:l.length<=1048576):PC 263 [.p (.list c (l.map Xf)),.p (.int .i64 a),.p (.int .i64 b)] (.bool (beforeB l a b)):=by
 refine Zc Tryz.func263 rfl zP ?_;simp (disch:=omega) only [Tryz.f263,go_sem,seval];refine (C0 l c 289 [.ptr 0 0] [.cells [.p (.int .i64 b)]] (fun v=>decide (v.order=b)) hl (by simp (disch:=omega) only [go_sem,seval]) (by rfl) (fun v _=>Ru v b)).useH ?_;have hlt:=bZ (f:=fun v=>decide (v.order=b)) (l:=l);refine Wp ?_;refine cD ?_ ?_<;>intro h<;>simp (disch:=omega) only [Sh.out h,go_sem,seval]
 ·rw [beforeB,if_pos h]
 ·refine (BY l c a hl).use (Wp ?_);generalize hq:F6 (fun v=>decide (v.order=b)) l=q at hlt h ⊢
  cases h2:hasO l a with
  | false =>
   refine Wp ?_
   simp_all [beforeB]
  | true =>
   simp (disch:=omega) only [Yb,go_sem,seval];refine (BY (l.drop q.toNat) _ a (by simp;omega)).use (Wp ?_)
   simp_all [beforeB,if_neg]
def Qf (l:List Vis):Int->List Vis->Bool
 | _,[]=>true
 | last,w::r=>decide (last<vIx l w)&&Qf l (vIx l w) r
def pairB (os:List Ord) (l:List Vis) (v:Vis):Bool:=decide (0<=vIx (Z0 os v.order.toNat) v)&&Qf l (-1) (Z0 os v.order.toNat)
theorem Mj (x:Inst) (l:List Vis) (c:Bool) (hl:l.length<=1048576) (ho:x.orders.length<=1048576) (hv: ∀v∈l,0<=v.order/\v.order<x.orders.length) :
  PC 261 [.p (ZF x),.p (.list c (l.map Xf))] (.bool (l.all (pairB x.orders l))):=by
 refine Zc Tryz.func261 rfl zN ?_;simp (disch:=omega) only [Tryz.f261,go_sem,seval];refine Zk [1,2,12,13] (fun k:Nat=> [(14,.p (.int .i64 k))]) (fun _=> [Zj x]) (fun k=>k<=l.length/\ ∀j,j<k->pairB x.orders l (nth l j)=true) (fun k=>l.length-k) 0 Zb (Weak.mk ?_) ?_
 ·simp (disch:=omega) only [Zj,go_sem,seval]
 ·rintro k ⟨hk,hno⟩;refine Wj ?_;refine cD ?_ ?_<;>intro h<;>simp (disch:=omega) only [Sh.out h,go_sem,seval,↓reduceIte]
  ·have hk2:k<l.length:=Za
   obtain ⟨v1,v2⟩:=hv _ (Zq hk2)
   have hbad:pairB x.orders l (nth l k)=false->l.all (pairB x.orders l)=false:=fun h4=>by
    grind [Zq]
   obtain ⟨i,hi⟩: ∃i:Nat,(nth l k).order=(i:Int):=⟨(nth l k).order.toNat,Za⟩
   have hp:pairB x.orders l (nth l k)=(decide (0<=vIx (Z0 x.orders i) (nth l k))&&Qf l (-1) (Z0 x.orders i)):=by rw [pairB,hi];rfl
   rw [hi] at v1 v2;simp (disch:=omega) only [hi,go_sem,seval];refine (visits_c x.orders x.orders_c i Za ho).use (Wp ?_);have hvl:=Vf x.orders i;have hcon:=Ht (Z0 x.orders i) false (nth l k) Za;rw [OT,hi] at hcon;refine (hcon).use (Wp ?_);refine cD ?_ ?_<;>intro h2<;>simp (disch:=omega) only [Sh.out h2,go_sem,seval]
   ·grind
   ·have h2':0<=vIx (Z0 x.orders i) (nth l k):=Za
    generalize hown:Z0 x.orders i=own at hvl hp h2' ⊢
    have hp2:pairB x.orders l (nth l k)=Qf l (-1) own:=by grind
    refine Zk [1,2,12,13,14,27,28] (fun q:Nat×Int=> [(8,.p (.int .i64 q.2)),(29,.p (.int .i64 q.1))]) (fun _=> [Zj x,.cells [.p (.int .i64 (i:Int)),.p (.bool (nth l k).drp)]]) (fun q=>q.1<=own.length/\Qf l (-1) own=Qf l q.2 (own.drop q.1)) (fun q=>own.length-q.1) (0,-1) Zb (Weak.mk ?_) ?_
    ·simp (disch:=omega) only [Zj,go_sem,seval]
    ·rintro ⟨j,last⟩ ⟨hj,ha⟩;simp only at hj ha;refine Wj ?_;refine ZP ?_ ?_<;>intro h3
     ·have hj2:j<own.length:=Za
      have hd:own.drop j=nth own j::own.drop (j+1):=by rw [Uv hj2,Ze hj2]
      rw [hd] at ha;refine (BM l c (nth own j) hl).use (Wp ?_);refine ZP ?_ ?_<;>intro h4
      ·grind [Qf]
      ·have h5:last<vIx l (nth own j):=Za
       exact ⟨(j+1,vIx l (nth own j)),⟨Za,by grind [Qf]⟩,Za,wk⟩
     ·have hjl:j=own.length:=Za
      subst hjl;exact ⟨k+1,⟨Za,Zm.2 ⟨hno,by grind [Qf]⟩⟩,Za,wk⟩
  ·have hkl:k=l.length:=Za
   subst hkl
   have:l.all (pairB x.orders l)=true:=by
    rw [Zy];intro v hv;obtain ⟨j,hj,rfl⟩:=ZN.1 hv
    grind [Ze]
   rw [this]
def Xb (r:Rte):AM.Obj:= .cells [.p (.int .i64 r.typ),.p (.int .i64 r.start),.p (.list r.rests_c (r.rests.map eB)),.p (.list r.visits_c (r.visits.map Xf))]
def VG (x:Inst) (v:Vis):Bool:= !decide (0<=v.order/\v.order<(x.orders.length:Int))
theorem aN (x:Inst) (r:Rte) (v:Vis) (ho:x.orders.length<=1048576):ACalls Tryz.prog 258 [.p (Xf v),.ptr 0 0] [Zj x,Xb r] fun y H'=>y= .p (.bool (VG x v))/\H'= [Zj x,Xb r]:=by
 refine Zf [] Tryz.func258 rfl zK ?_;simp (disch:=omega) only [Tryz.f258,Zj,Xb,go_sem,seval];refine gF ?_ ?_<;>intro h<;>simp (disch:=omega) only [Sh.out h,go_sem,seval,↓reduceIte]
 ·have e:VG x v=true:=by
   grind [VG]
  rw [e];exact we
 ·have e:VG x v=decide ((x.orders.length:Int)<=v.order):=by
   have h0:0<=v.order:=Za
   rw [YY];simp [VG,h0]
  rw [e];exact we
theorem aO (x:Inst) (r:Rte) (v:Vis) (ho:x.orders.length<=1048576) (h1:0<=v.order) (h2:v.order<x.orders.length):ACalls Tryz.prog 259 [.p (Xf v),.ptr 0 0] [Zj x,Xb r] fun y H'=>y= .p (.bool (nth x.orders v.order.toNat).off)/\H'= [Zj x,Xb r]:=by
 have h3:v.order.toNat<x.orders.length:=Za
 refine Zf [] Tryz.func259 rfl zL ?_;simp (disch:=omega) only [Tryz.f259,Zj,Xb,go_sem,seval];exact we
def Xi (x:Inst) (l:List Vis):Int :=
 if l.length=0\/l.any (VG x)=true then 2
 else if (l.any fun v=>(nth x.orders v.order.toNat).off)=true then 9
 else if Kx l=true then 6
 else if l.all (pairB x.orders l)=false then 19
 else if (x.apart.any fun p=>hasO l p.1&&hasO l p.2)=true then 20
 else if (x.before.any fun p=> !beforeB l p.1 p.2)=true then 21
 else 0
theorem C7 {P Q:Prop} (h:Q) (e:Q->P:=by intro h;simp (disch:=omega) only [Zj,Xb,go_sem,seval];exact h):P:=e h
theorem N8 (x:Inst) (r:Rte) (ho:x.orders.length<=1048576) (hl:r.visits.length<=1048576) (hap:x.apart.length<=1048576) (hbe:x.before.length<=1048576) :
  PC 218 [.p (ZF x),.p (WA r)] (.int .i64 (Xi x r.visits)):=by
 refine Zc Tryz.func218 rfl yH ?_;simp (disch:=omega) only [Tryz.f218,go_sem,seval];refine gF ?_ ?_<;>intro h0<;>simp (disch:=omega) only [Sh.out h0,go_sem,seval]
 ·grind [Xi]
 ·have h00: ¬r.visits.length=0:=Za
  refine (Us r.visits r.visits_c 258 [.ptr 0 0] [Zj x,Xb r] (VG x) hl (by simp (disch:=omega) only [Zj,Xb,go_sem,seval]) (by rfl) (fun v _=>aN x r v ho)).useH (C7 ?_);refine cD ?_ ?_<;>intro h1<;>simp (disch:=omega) only [Sh.out h1,go_sem,seval]
  ·simp_all [Xi]
  ·have h1':r.visits.any (VG x)=false:=Za
   have c1: ¬(r.visits.length=0\/r.visits.any (VG x)=true):=by grind
   have hin: ∀v∈r.visits,0<=v.order/\v.order<x.orders.length:=fun v hv=>by
    grind [VG]
   refine (Us r.visits r.visits_c 259 [.ptr 0 0] [Zj x,Xb r] (fun v=>(nth x.orders v.order.toNat).off) hl (by simp (disch:=omega) only [Zj,Xb,go_sem,seval]) (by rfl) (fun v hv=>aO x r v ho (hin v hv).1 (hin v hv).2)).useH (C7 ?_);refine cD ?_ ?_<;>intro h2<;>simp (disch:=omega) only [Sh.out h2,go_sem,seval]
   ·simp_all [Xi]
   ·refine (pC r.visits r.visits_c hl).use (Wp ?_);refine cD ?_ ?_<;>intro h3<;>simp (disch:=omega) only [Sh.out h3,go_sem,seval,↓reduceIte]
    ·simp_all [Xi,if_neg]
    ·refine (Mj x r.visits r.visits_c hl ho hin).use (Wp ?_);refine cD ?_ ?_<;>intro h4<;>simp (disch:=omega) only [Sh.out h4,go_sem,seval,↓reduceIte]
     ·simp_all [Xi,if_neg]
     ·have h4':r.visits.all (pairB x.orders r.visits)=true:=by grind
      have hc:Xi x r.visits=if (x.apart.any fun p=>hasO r.visits p.1&&hasO r.visits p.2)=true then 20 else if (x.before.any fun p=> !beforeB r.visits p.1 p.2)=true then 21 else 0:=by
       rw [Xi,if_neg c1,if_neg (by grind),if_neg (by grind),if_neg (by grind)]
      clear h4 h4' h3 h2 c1 h1' h1 h0;refine Zk [2,5,33,34] (fun k:Nat=> [(35,.p (.int .i64 k))]) (fun _=> [Zj x,Xb r]) (fun k=>k<=x.apart.length/\ ∀j,j<k->(hasO r.visits (nth x.apart j).1&&hasO r.visits (nth x.apart j).2)=false) (fun k=>x.apart.length-k) 0 Zb (Weak.mk ?_) ?_
      ·simp (disch:=omega) only [Zj,Xb,go_sem,seval]
      ·rintro k ⟨hk,hno⟩;refine C7 ?_;refine cD ?_ ?_<;>intro h<;>simp (disch:=omega) only [Sh.out h,go_sem,seval,↓reduceIte]
       ·have hk2:k<x.apart.length:=Za
        refine (BY r.visits r.visits_c (nth x.apart k).1 hl).use (Wp ?_);refine QB ?_ ?_<;>intro h2
        ·refine (BY r.visits r.visits_c (nth x.apart k).2 hl).use (Wp ?_);refine ZP ?_ ?_<;>intro h3
         ·rw [hc,if_pos (W0 hk2 (by grind))]
         ·exact ⟨k+1,⟨Za,Zm.2 ⟨hno,by grind⟩⟩,Za,wk⟩
        ·exact ⟨k+1,⟨Za,Zm.2 ⟨hno,by simp [h2]⟩⟩,Za,wk⟩
       ·have hkl:k=x.apart.length:=Za
        subst hkl;rw [hc,Qe hno];clear hno hk h hc;rw [if_neg Zb];refine Zk [5,51,52] (fun k:Nat=> [(53,.p (.int .i64 k))]) (fun _=> [Zj x,Xb r]) (fun k=>k<=x.before.length/\ ∀j,j<k->(!beforeB r.visits (nth x.before j).1 (nth x.before j).2)=false) (fun k=>x.before.length-k) 0 Zb (Weak.mk ?_) ?_
        ·simp (disch:=omega) only [Zj,Xb,go_sem,seval]
        ·rintro k ⟨hk,hno⟩;refine C7 ?_;refine cD ?_ ?_<;>intro h<;>simp (disch:=omega) only [Sh.out h,go_sem,seval,↓reduceIte]
         ·have hk2:k<x.before.length:=Za
          refine (Mh r.visits r.visits_c (nth x.before k).1 (nth x.before k).2 hl).use (Wp ?_);refine ZP ?_ ?_<;>intro h2
          ·have h3:(!beforeB r.visits (nth x.before k).1 (nth x.before k).2)=true:=Za
           rw [if_pos (W0 hk2 h3)]
          ·have h3:(!beforeB r.visits (nth x.before k).1 (nth x.before k).2)=false:=Za
           exact ⟨k+1,⟨Za,Zm.2 ⟨hno,h3⟩⟩,Za,wk⟩
         grind [Qe]
@[go_sem] theorem ZiY {H:List AM.Obj} {n cs cs'} :Fg H n (.tup cs) (.tup cs')=(cs'=cs/\Xd n cs=true):=by simp [Fg,jM,refB]
@[go_sem] theorem N2 {a b:V} :Vd [a,b]= .tup [a,b]:=Zh rfl rfl
theorem CP {g:FuncId} {args:List V} {a b:PV} {H:List AM.Obj} {K:V->List AM.Obj->Prop} (h:ACalls Tryz.prog g args [] fun x H'=>x= .tup [.p a,.p b]/\H'= []) (k:K (.tup [.p a,.p b]) H) (ha:Xd 0 args=true:=by rfl):ACalls Tryz.prog g args H K :=
 (h.behind ha H).mono fun x H' hq=>by
  obtain ⟨y,H1,⟨rfl,rfl⟩,rfl,rfl⟩:=hq
  grind [shV,shVs]
def XP (l:List Vis):Nat:=l.foldl (fun s v=>s|||pw v.order.toNat) 0
def Fz (v:Vis):Bool:=decide (0<=v.order/\v.order<=62)
theorem Cy {l:List Vis} {k:Nat} (hk:k<l.length):XP (l.take (k+1))=XP (l.take k)|||pw (nth l k).order.toNat:=by
 grind [Xm,XP,Ze]
theorem K6 : ∀(k:Nat) {l:List Vis},k<=l.length->(∀v∈l.take k,Fz v=true)->XP (l.take k)<9223372036854775808
 | 0,l,_,_=>by simp [XP]
 | k+1,l,hk,h=>by
  have hk2:k<l.length:=Za
  have ih:=K6 k (l:=l) Za fun v hv=>h v (List.take_subset_take_left l Za hv);have hv:=h (nth l k) (by rw [Ze hk2];exact ZN.2 ⟨k,by simp;omega,Zb⟩);simp only [Fz,Zl] at hv;have h2:pw (nth l k).order.toNat<=pw 62:=C4 Za;have h3:=GE;rw [Cy hk2];exact Qp (n:=63) Za Za
def Ju (l:List Vis):Int×Int:=if l.all Fz=true then (((XP l:Nat):Int),0) else (0,2)
theorem Mi (r:Rte) (hl:r.visits.length<=1048576):PT 59 [.p (WA r)] [.p (.int .i64 (Ju r.visits).1),.p (.int .i64 (Ju r.visits).2)]:=by
 refine Zf [] Tryz.func59 rfl ZgX ?_;simp (disch:=omega) only [Tryz.f59,go_sem,seval];refine Zk [8,9] (fun k:Nat=> [(4,.p (.int .i64 (XP (r.visits.take k):Nat))),(10,.p (.int .i64 k))]) (fun _=> [Xb r]) (fun k=>k<=r.visits.length/\ ∀j,j<k->Fz (nth r.visits j)=true) (fun k=>r.visits.length-k) 0 Zb (Weak.mk ?_) ?_
 ·simp (disch:=omega) only [Xb,XP,WN,Qr,go_sem,seval]
 ·rintro k ⟨hk,hno⟩
  have hlt:=K6 k hk fun v hv=>by
   obtain ⟨j,hj,rfl⟩:=ZN.1 hv
   grind [Ze]
  simp (disch:=omega) only [Xb,go_sem,seval];refine cD ?_ ?_<;>intro h<;>simp (disch:=omega) only [Sh.out h,go_sem,seval,↓reduceIte]
  ·have hk2:k<r.visits.length:=Za
   have hbad:Fz (nth r.visits k)=false->Ju r.visits=(0,2):=fun h4=>by
    grind [Zq,Ju]
   have hs:=Cy hk2
   have hp:(nth r.visits k).order<=62->pw (nth r.visits k).order.toNat<=4611686018427387904:=fun h=>by rw [<- GE];exact C4 Za
   refine gF ?_ ?_<;>intro h1<;>simp (disch:=omega) only [Sh.out h1,go_sem,seval,↓reduceIte]
   ·have e:=hbad (by simp [Fz];omega);rw [e];exact we
   ·refine ZP ?_ ?_<;>intro h2
    ·have e:=hbad (by simp [Fz];omega);rw [e];exact we
    ·exact ⟨k+1,⟨Za,Zm.2 ⟨hno,by simp [Fz];omega⟩⟩,Za,Weak.mk (by simp (disch:=omega) only [hs,go_sem,seval])⟩
  ·have hkl:k=r.visits.length:=Za
   subst hkl
   have:r.visits.all Fz=true:=by
    rw [Zy];intro v hv;obtain ⟨j,hj,rfl⟩:=ZN.1 hv
    grind [Ze]
   have e:Ju r.visits=(((XP r.visits:Nat):Int),0):=by simp [Ju,this]
   rw [e,Yb];exact we
def Qh (a b:Int):Int:=if a<b then-1 else if b<a then 1 else 0
theorem Pb (a:Int):PC 158 [.p (.int .i64 a)] (.bool false):=by
 refine Zc Tryz.func158 rfl xK ?_;simp (disch:=omega) only [Tryz.f158,go_sem,seval]
 try simp
theorem F0 (a b:Int):PC 106 [.p (.int .i64 a),.p (.int .i64 b)] (.int .i64 (Qh a b)):=by
 refine Zc Tryz.func106 rfl wI ?_;simp (disch:=omega) only [Tryz.f106,go_sem,seval];refine (Pb a).use (Wp ?_);refine (Pb b).use (Wp ?_);refine cD ?_ ?_<;>intro h<;>simp (disch:=omega) only [Sh.out h,go_sem,seval]
 ·simp [Qh,h]
 ·refine cD ?_ ?_<;>intro h2<;>simp (disch:=omega) only [Sh.out h2,go_sem,seval]
  ·simp [Qh,h,h2]
  grind [Qh]
def nK (l:List Int):Int:=(l.find? fun n=>decide (n≠0)).getD 0
theorem Zbj {l:List Int} {k:Nat} (hk:k<l.length) (h:nth l k≠0) (hno: ∀j,j<k->nth l j=0):nK l=nth l k:=by
 grind [nth,List.find?_eq_some_iff_getElem,nK]
theorem Zbk {l:List Int} (hno: ∀j,j<l.length->nth l j=0):nK l=0:=by
 have:l.find? (fun n=>decide (n≠0))=none:=by
  rw [KQ];intro x hx;obtain ⟨j,hj,rfl⟩:=ZN.1 hx
  grind [Ze]
 grind [nK]
theorem Zbl (l:List Int) (c:Bool) (hl:l.length<=100):PC 105 [.p (.list c (l.map eI))] (.int .i64 (nK l)):=by
 refine Zc Tryz.func105 rfl wH ?_;simp (disch:=omega) only [Tryz.f105,go_sem,seval];refine Zk [3,6,7] (fun k:Nat=> [(8,.p (.int .i64 k))]) (fun _=> []) (fun k=>k<=l.length/\ ∀j,j<k->nth l j=0) (fun k=>l.length-k) 0 Zb (Weak.mk ?_) ?_
 ·simp (disch:=omega) only [go_sem,seval]
 ·rintro k ⟨hk,hno⟩;refine Wp ?_;refine cD ?_ ?_<;>intro h<;>simp (disch:=omega) only [Sh.out h,go_sem,seval,↓reduceIte]
  ·have hk2:k<l.length:=Za
   refine ZP ?_ ?_<;>intro h2
   ·grind [Zbj]
   ·exact ⟨k+1,⟨Za,Zm.2 ⟨hno,Za⟩⟩,Za,wk⟩
  grind [Zbk]
theorem HT (a b:Int):nK [a,b]=if a=0 then b else a:=by
 grind [nK]
def dn (v:Vis):Int:=if v.drp=true then 1 else 0
theorem LK (v:Vis):PC 315 [.p (Xf v)] (.int .i64 (dn v)):=by
 refine Zc Tryz.func315 rfl ZaK ?_;simp (disch:=omega) only [Tryz.f315,go_sem,seval];refine cD ?_ ?_<;>intro h<;>simp (disch:=omega) only [Sh.out h,go_sem,seval]
 ·simp [dn,h]
 ·simp [dn,h]
def bA (a b:Vis):Int:=if Qh a.order b.order=0 then Qh (dn a) (dn b) else Qh a.order b.order
theorem RO (a b:Vis):PC 300 [.p (Xf a),.p (Xf b)] (.int .i64 (bA a b)):=by
 refine Zc Tryz.func300 rfl Zaw ?_;simp (disch:=omega) only [Tryz.f300,go_sem,seval];refine XH (Wp ?_);refine Zp (F0 a.order b.order) (Wp ?_);refine Zp (LK a) (Wp ?_);refine Zp (LK b) (Wp ?_);refine Zp (F0 (dn a) (dn b)) (Wp ?_);refine Zp (Zbl [Qh a.order b.order,Qh (dn a) (dn b)] false Zb) (Wp ?_);rw [HT,bA]
def Lv : List Vis->List Vis->Int
 | [],[]=>0
 | [],_::_=> -1
 | _::_,[]=>1
 | a::r,b::s=>if bA a b=0 then Lv r s else bA a b
theorem A8 {α:Type} [Inhabited α] {l:List α} {k:Nat} (h:k<l.length):l.drop k=nth l k::l.drop (k+1):=by rw [Uv h,Ze h]
theorem Fu (a b:List Vis) (c d:Bool) (ha:a.length<=1048576) (hb:b.length<=1048576) :
  PC 299 [.p (.list c (a.map Xf)),.p (.list d (b.map Xf)),.fn (.func 300) [] []] (.int .i64 (Lv a b)):=by
 refine Zc Tryz.func299 rfl Zav ?_;simp (disch:=omega) only [Tryz.f299,go_sem,seval];refine Zk [0,1,2,11,12] (fun k:Nat=> [(13,.p (.int .i64 k))]) (fun _=> []) (fun k=>k<=a.length/\k<=b.length/\Lv a b=Lv (a.drop k) (b.drop k)) (fun k=>a.length-k) 0 Zb (Weak.mk ?_) ?_
 ·simp (disch:=omega) only [go_sem,seval,↓reduceIte]
 ·rintro k ⟨hk,hkb,hle⟩;refine Wp ?_;refine cD ?_ ?_<;>intro h<;>simp (disch:=omega) only [Sh.out h,go_sem,seval,↓reduceIte]
  ·have hk2:k<a.length:=Za
   rw [A8 hk2] at hle;refine cD ?_ ?_<;>intro h2<;>simp (disch:=omega) only [Sh.out h2,go_sem,seval,↓reduceIte]
   ·have:b.drop k= []:=Bt Za;rw [hle,this];rfl
   ·have hk3:k<b.length:=Za
    rw [A8 hk3] at hle;refine (RO (nth a k) (nth b k)).use (Wp ?_);refine cD ?_ ?_<;>intro h3<;>simp (disch:=omega) only [Sh.out h3,go_sem,seval,↓reduceIte]
    ·simp_all [Lv]
    ·have h4:bA (nth a k) (nth b k)=0:=Za
     exact ⟨k+1,⟨Za,Za,by simp_all [Lv]⟩,Za,wk⟩
  ·have hkl:k=a.length:=Za
   subst hkl;rw [U0] at hle;refine cD ?_ ?_<;>intro h2<;>simp (disch:=omega) only [Sh.out h2,go_sem,seval]
   ·rw [A8 Za] at hle;rw [hle];rfl
   ·have:b.drop a.length= []:=Bt Za;rw [hle,this];rfl
theorem S4 (a b:List Vis) (c d:Bool) (ha:a.length<=1048576) (hb:b.length<=1048576):PC 276 [.p (.list c (a.map Xf)),.p (.list d (b.map Xf))] (.bool (decide (Lv a b<0))):=by
 refine Zc Tryz.func276 rfl Zab ?_;simp (disch:=omega) only [Tryz.f276,go_sem,seval];refine (Fu a b c d ha hb).use ?_;simp (disch:=omega) only [go_sem,seval]
def BN (l:List Vis) (v:Vis):List Vis->Bool
 | []=>true
 | w::r=>if w=v then true else decide (0<=vIx l w)&&BN l v r
def Uk (l own:List Vis):Bool:=own.all fun w=>decide (0<=vIx l w)
def DY (os:List Ord) (l:List Vis) (o:Int) (p:Int×Int):Bool:=decide (p.2≠o)||Uk l (Z0 os p.1.toNat)
def UH (x:Inst) (l:List Vis) (v:Vis):Bool:=decide (vIx l v<0)&&BN l v (Z0 x.orders v.order.toNat)&&x.before.all (DY x.orders l v.order)
def Qb (v:Vis):AM.Obj:= .cells [.p (.int .i64 v.order),.p (.bool v.drp)]
theorem iR {l:List Vis} {v:Vis} : -1<=vIx l v/\vIx l v<l.length:=by
 simp_all [bZ,vIx]
theorem N9 (x:Inst) (l:List Vis) (c:Bool) (v:Vis) (hl:l.length<=1048576) (ho:x.orders.length<=1048576) (hbl:x.before.length<=1048576) (hv:0<=v.order/\v.order<x.orders.length) (hb: ∀p∈x.before,0<=p.1/\p.1<x.orders.length) :
  PC 277 [.p (ZF x),.p (.list c (l.map Xf)),.p (Xf v)] (.bool (UH x l v)):=by
 refine AW [3] Tryz.func277 rfl Zac ?_;simp (disch:=omega) only [Tryz.f277,go_sem,seval];refine (BM l c v hl).use (Wp ?_);refine cD ?_ ?_<;>intro h<;>simp (disch:=omega) only [Sh.out h,go_sem,seval]
 ·grind [UH]
 ·have h1:vIx l v<0:=Za
  obtain ⟨i,hi⟩: ∃i:Nat,v.order=(i:Int):=⟨v.order.toNat,Za⟩
  have hr:UH x l v=(BN l v (Z0 x.orders i)&&x.before.all (DY x.orders l v.order)):=by
   grind [UH]
  have hvi:=visits_c x.orders x.orders_c i Za ho;rw [<- hi] at hvi;refine ZI [1,3,5] (fun _:Unit=> []) (fun _=> [Zj x,Qb v]) (fun _=>BN l v (Z0 x.orders i)=true) ?_ ?_
  ·refine Wp ?_;refine (hvi).use (Wp ?_);have hvl:=Vf x.orders i;generalize hown:Z0 x.orders i=own at hvl hr ⊢;refine Zk [1,3,5,21,22] (fun k:Nat=> [(23,.p (.int .i64 k))]) (fun _=> [Zj x,Qb v]) (fun k=>k<=own.length/\BN l v own=BN l v (own.drop k)) (fun k=>own.length-k) 0 Zb (Weak.mk ?_) ?_
   ·simp (disch:=omega) only [Zj,Qb,go_sem,seval]
   ·rintro k ⟨hk,hp⟩;simp (disch:=omega) only [Zj,Qb,go_sem,seval];refine ZP ?_ ?_<;>intro h2
    ·have hk2:k<own.length:=Za
     rw [A8 hk2] at hp;refine ZP ?_ ?_<;>intro h3
     ·have h4:nth own k=v:=by grind [Of]
      exact ⟨(),by simp_all [BN],wk⟩
     ·have h4: ¬nth own k=v:=by grind
      refine (BM l c (nth own k) hl).use (Wp ?_);refine ZP ?_ ?_<;>intro h5
      ·have h6: ¬ 0<=vIx l (nth own k):=Za
       simp_all [BN]
      ·have h6:0<=vIx l (nth own k):=Za
       exact ⟨k+1,⟨Za,by simp_all [BN]⟩,Za,wk⟩
    ·have hkl:k=own.length:=Za
     subst hkl;exact ⟨(),by rw [hp,U0];rfl,wk⟩
  ·rintro _ hpre;rw [hpre,W9] at hr;refine Zg [] _ _ _ _ ?_;simp (disch:=omega) only [Zj,Qb,go_sem,seval];refine Zk [1,3,5,36,37] (fun k:Nat=> [(38,.p (.int .i64 k))]) (fun _=> [Zj x,Qb v]) (fun k=>k<=x.before.length/\ ∀j,j<k->DY x.orders l v.order (nth x.before j)=true) (fun k=>x.before.length-k) 0 Zb (Weak.mk ?_) ?_
   ·simp (disch:=omega) only [Zj,Qb,go_sem,seval]
   ·rintro k ⟨hk,hno⟩;simp (disch:=omega) only [Zj,Qb,go_sem,seval];refine cD ?_ ?_<;>intro h2<;>simp (disch:=omega) only [Sh.out h2,go_sem,seval,↓reduceIte]
    ·have hk2:k<x.before.length:=Za
     have hbk:=hb _ (Zq hk2)
     have hbad:DY x.orders l v.order (nth x.before k)=false->UH x l v=false:=fun h4=>by
      grind [Zq]
     refine ZP ?_ ?_<;>intro h3
     ·exact ⟨k+1,⟨Za,Zm.2 ⟨hno,by simp [DY,h3]⟩⟩,Za,wk⟩
     ·obtain ⟨a,hao⟩: ∃a:Nat,(nth x.before k).1=(a:Int):=⟨(nth x.before k).1.toNat,Za⟩;have hva:=visits_c x.orders x.orders_c a Za ho;rw [<- hao] at hva
      have h3':(nth x.before k).2=v.order:=Za
      have hbe:DY x.orders l v.order (nth x.before k)=Uk l (Z0 x.orders a):=by grind [DY]
      refine (hva).use (Wp ?_);have hvl:=Vf x.orders a;generalize hown:Z0 x.orders a=own at hvl hbe ⊢;refine Zk [1,3,5,36,37,38,51,52] (fun k:Nat=> [(53,.p (.int .i64 k))]) (fun _=> [Zj x,Qb v,.cells [.p (.int .i64 (nth x.before k).1),.p (.int .i64 (nth x.before k).2)]]) (fun q=>q<=own.length/\ ∀j,j<q->decide (0<=vIx l (nth own j))=true) (fun k=>own.length-k) 0 Zb (Weak.mk ?_) ?_
      ·simp (disch:=omega) only [Zj,Qb,go_sem,seval]
      ·rintro q ⟨hq,hnq⟩;simp (disch:=omega) only [Zj,Qb,go_sem,seval];refine ZP ?_ ?_<;>intro h4
       ·have hq2:q<own.length:=Za
        refine (BM l c (nth own q) hl).use (Wp ?_);refine ZP ?_ ?_<;>intro h5
        ·grind [Uk,Zq]
        ·exact ⟨q+1,⟨Za,Zm.2 ⟨hnq,by simp;omega⟩⟩,Za,wk⟩
       ·have hql:q=own.length:=Za
        subst hql
        have:Uk l own=true:=by
         rw [Uk,Zy];intro w hw;obtain ⟨j,hj,rfl⟩:=ZN.1 hw
         grind [Ze]
        exact ⟨k+1,⟨Za,Zm.2 ⟨hno,by grind⟩⟩,Za,wk⟩
    ·have hkl:k=x.before.length:=Za
     subst hkl
     have:x.before.all (DY x.orders l v.order)=true:=by
      rw [Zy];intro w hw;obtain ⟨j,hj,rfl⟩:=ZN.1 hw
      grind [Ze]
     rw [hr,this]
def JH (x:Inst) (S:Nat) (l:List Vis) (i:Nat):List Vis:=if S.testBit i=true/\(nth x.orders i).off=false then (Z0 x.orders i).filter (UH x l) else []
def nextU (x:Inst) (S:Nat) (l:List Vis) (k:Nat):List Vis:=(List.range k).flatMap (JH x S l)
theorem EB (x S l k):nextU x S l (k+1)=nextU x S l k++JH x S l k:=by simp [nextU,Yu]
theorem Sl (x S l i):(JH x S l i).length<=2:=by
 grind [JH,Vf]
theorem Cv (x S l): ∀k,(nextU x S l k).length<=2*k
 | 0=>by simp [nextU]
 | k+1=>by
  have h1:=Cv x S l k;have h2:=Sl x S l k;rw [EB,Zw];omega
theorem S5 (x:Inst) (S:Nat) (l:List Vis) (c:Bool) (hS:S<9223372036854775808) (hl:l.length<=1048576) (ho:x.orders.length<=60) (hbl:x.before.length<=1048576) (hb: ∀p∈x.before,0<=p.1/\p.1<x.orders.length) :
  PC 240 [.p (ZF x),.p (.int .i64 (S:Nat)),.p (.list c (l.map Xf))] (.list false ((nextU x S l x.orders.length).map Xf)):=by
 refine ACalls.frozen (S:=2) (n:=(nextU x S l x.orders.length).length) Zb ?_
 suffices hh:ACalls Tryz.prog 240 [.p (ZF x),.p (.int .i64 (S:Nat)),.p (.list c (l.map Xf))] [] fun y H'=> ∃m:List Vis,m=nextU x S l x.orders.length/\y= .sl 0 0 m.length m.length/\H'= [.elems 2 (m.map Xf)] by
  grind
 refine Xa [2] Tryz.func240 rfl zA ?_;simp (disch:=omega) only [Tryz.f240,go_sem,seval];refine Zr (Weak.ofNil 7 2 (by simp (disch:=omega) only [go_sem,seval]) Zb (Weak.refl _ _ _)) ?_;refine Zg [] _ _ _ _ (Wp ?_);refine Zk [1,2,3,13,14] (fun q:Nat×List Vis=> [(7,.sl 1 0 q.2.length q.2.length),(15,.p (.int .i64 q.1))]) (fun q=> [Zj x,.elems 2 (q.2.map Xf)]) (fun q=>q.1<=x.orders.length/\q.2=nextU x S l q.1) (fun q=>x.orders.length-q.1) (0,[]) ⟨Zb,by simp [nextU]⟩ (Weak.mk ?_) ?_
 ·simp (disch:=omega) only [Zj,go_sem,seval]
 ·rintro ⟨k,m⟩ ⟨hk,hm⟩;simp only at hk hm
  have hml:m.length<=2*k:=by grind [Cv]
  have hsc:=EB x S l k;refine Wj ?_;refine cD ?_ ?_<;>intro h<;>simp (disch:=omega) only [Sh.out h,go_sem,seval,↓reduceIte]
  ·have hk2:k<x.orders.length:=Za
   refine Ce ?_ ?_<;>intro h62
   ·omega
   refine Ce ?_ ?_<;>intro h2
   ·have hbit:S.testBit k=false:=by grind [Hi]
    have e:JH x S l k= []:=by simp [JH,hbit]
    exact ⟨(k+1,m),⟨Za,by grind⟩,Za,wk⟩
   ·have hbit:S.testBit k=true:=by
     grind [Hi]
    refine ZP ?_ ?_<;>intro h3
    ·have e:JH x S l k= []:=by simp [JH,h3]
     exact ⟨(k+1,m),⟨Za,by grind⟩,Za,wk⟩
    ·have h3':(nth x.orders k).off=false:=Za
     have e:JH x S l k=(Z0 x.orders k).filter (UH x l):=by grind [JH]
     refine (visits_c x.orders x.orders_c k hk2 Za).use (Wp ?_);have hvl:=Vf x.orders k;have hvo: ∀v∈Z0 x.orders k,v.order=k:=fun v hv=>YM hv;generalize hown:Z0 x.orders k=own at hvl e hvo ⊢;refine Zk [1,2,3,13,14,15,36,37] (fun q:Nat×List Vis=> [(7,.sl 1 0 q.2.length q.2.length),(38,.p (.int .i64 q.1))]) (fun q=> [Zj x,.elems 2 (q.2.map Xf),YD (nth x.orders k)]) (fun q=>q.1<=own.length/\q.2=m++(own.take q.1).filter (UH x l)) (fun q=>own.length-q.1) (0,m) ⟨Zb,Zb⟩ (Weak.mk ?_) ?_
     ·simp (disch:=omega) only [Zj,YD,h3',go_sem,seval]
     ·rintro ⟨j,m2⟩ ⟨hj,hm2⟩;simp only at hj hm2
      have hm2l:m2.length<=2*k+2:=by
       grind
      simp (disch:=omega) only [Zj,YD,h3',go_sem,seval];refine ZP ?_ ?_<;>intro h4
      ·have hj2:j<own.length:=Za
       have hvj:=hvo _ (Zq hj2)
       have htk:own.take (j+1)=own.take j++ [nth own j]:=by rw [Xm hj2,Ze hj2]
       have hrd:=N9 x l c (nth own j) hl Za hbl Za hb;refine (hrd).use (Wp ?_);refine ZP ?_ ?_<;>intro h5
       ·exact ⟨(j+1,m2++ [nth own j]),⟨Za,by grind⟩,Za,Weak.mk (by simp (disch:=omega) only [h3',go_sem,seval])⟩
       ·exact ⟨(j+1,m2),⟨Za,by grind⟩,Za,Weak.mk (by simp (disch:=omega) only [h3',go_sem,seval])⟩
      ·have hjl:j=own.length:=Za
       subst hjl;exact ⟨(k+1,m2),⟨Za,by grind⟩,Za,wk⟩
  ·have hkn:k=x.orders.length:=Za
   subst hkn;exact ⟨m,hm,1,by simp (disch:=omega) only [go_sem,seval]⟩
theorem vH (l:List Vis) (c:Bool) (hl:l.length<=1048576):PC 243 [.p (.list c (l.map Xf))] (.list true (l.map Xf)):=by
 refine Zc Tryz.func243 rfl zD ?_;simp (disch:=omega) only [Tryz.f243,go_sem,seval,↓reduceIte]
@[go_sem] theorem Zlz {H:List AM.Obj} {u2:TypeId} {xs:List PV} {y:V} {k:V->List AM.Obj->Prop} {tt} :OW Tryz.prog H 47 u2 (.p (.list true xs)) y (Zu k tt)=AN ((Rh (some (2,16)) xs (YO (Tryz.prog.underlying u2) H y)).map .p) (Zu (fun v=>k v H) ⟨⟩):=Nn T2
def ZnA (nx:List Vis->List Vis):Nat->List Vis->List (List Vis)->List (List Vis)×Bool
 | 0,l,outs=>(outs++ [l],decide (outs.length+1<=8192))
 | f+1,l,outs=>(nx l).foldl (fun acc v=>if acc.2=true then ZnA nx f (l++ [v]) acc.1 else acc) (outs,true)
def AS (x:Inst) (S k:Nat):Nat:=((List.range k).map fun i=>if S.testBit i=true then (Z0 x.orders i).length else 0).sum
theorem Ab (x S k):AS x S (k+1)=AS x S k+if S.testBit k=true then (Z0 x.orders k).length else 0:=by simp [AS,Yu]
theorem Ik (x S): ∀k,AS x S k<=2*k
 | 0=>by simp [AS]
 | k+1=>by
  have h1:=Ik x S k;have h2:=Vf x.orders k;rw [Ab]
  split<;>omega
def nHas (S:Nat) (i:Int):Bool:=decide (0<=i/\i<=62)&&S.testBit i.toNat
theorem eU {S i:Nat} (h:i<=62):nHas S (i:Int)=S.testBit i:=by
 grind [nHas]
theorem Km (S:Nat) (i:Int) (hS:S<9223372036854775808):PC 92 [.p (.int .i64 (S:Nat)),.p (.int .i64 i)] (.bool (nHas S i)):=by
 refine Zc Tryz.func92 rfl Zg7 ?_;simp (disch:=omega) only [Tryz.f92,go_sem,seval];refine gT ?_ ?_<;>intro h<;>simp (disch:=omega) only [Sh.out h,go_sem,seval,↓reduceIte]
 ·refine gT ?_ ?_<;>intro h1<;>simp (disch:=omega) only [Sh.out h1,go_sem,seval,↓reduceIte]
  ·refine gT ?_ ?_<;>intro h2<;>simp (disch:=omega) only [Sh.out h2,go_sem,seval,↓reduceIte]
   ·have e:((S / pw i.toNat:Nat):Int).tmod 2=((S / pw i.toNat%2:Nat):Int):=by rfl
    rw [e];have h3:(((S / pw i.toNat%2:Nat):Int)=1)=(S.testBit i.toNat=true):=Hj
    simp_all [nHas]
   ·simp [nHas,h2]
  ·simp [nHas,h1]
 ·omega
theorem Me (x:Inst) (i:Nat) (hi:i<x.orders.length) (hl:x.orders.length<=1048576) (hpl: ∀o∈x.orders,-1<=o.pick.place/\ -1<=o.drp.place):ACalls Tryz.prog 183 [.p (ZF x),.p (.int .i64 (i:Nat))] [] fun y H'=>y= .sl 0 0 (Z0 x.orders i).length (Z0 x.orders i).length/\H'= [.elems 2 ((Z0 x.orders i).map Xf)]:=by
 suffices hh:ACalls Tryz.prog 183 [.p (ZF x),.p (.int .i64 (i:Nat))] [] fun y H'=> ∃m:List Vis,m=Z0 x.orders i/\y= .sl 0 0 m.length m.length/\H'= [.elems 2 (m.map Xf)] by
  grind
 obtain ⟨h1,h2⟩:=hpl _ (Zq hi);refine Xa [2] Tryz.func183 rfl xX ?_;simp (disch:=omega) only [Tryz.f183,go_sem,seval];refine Zr (Weak.ofNil 5 2 (by simp (disch:=omega) only [go_sem,seval]) Zb (Weak.refl _ _ _)) ?_;refine ZI [1,2] (fun m:List Vis=> [(5,.sl 1 0 m.length m.length)]) (fun m=> [Zj x,.elems 2 (m.map Xf)]) (fun m=>m=(if 0<=(nth x.orders i).pick.place then [⟨i,false⟩] else [])) ?_ ?_
 ·refine Wp ?_;refine ZP ?_ ?_<;>intro h
  ·exact ⟨[⟨i,false⟩],by grind,Weak.mk (by simp (disch:=omega) only [Zj,go_sem,seval])⟩
  ·exact ⟨[],by grind,Weak.mk (by simp (disch:=omega) only [Zj,go_sem,seval])⟩
 ·intro m hm
  have hml:m.length<=1:=by grind
  refine Zg [] _ _ _ _ (Wj ?_);refine cD ?_ ?_<;>intro h<;>simp (disch:=omega) only [Sh.out h,go_sem,seval,↓reduceIte]
  ·exact ⟨m++ [⟨i,true⟩],by rw [Z0,hm,if_pos (c:=0<=(nth x.orders i).drp.place) Za],1,by simp (disch:=omega) only [go_sem,seval]⟩
  ·exact ⟨m,by simp_all [Z0],1,by simp (disch:=omega) only [go_sem,seval]⟩
theorem S0 (x:Inst) (i:Nat) (hi:i<x.orders.length) (hl:x.orders.length<=1048576) (hpl: ∀o∈x.orders,-1<=o.pick.place/\ -1<=o.drp.place):PC 183 [.p (ZF x),.p (.int .i64 (i:Nat))] (.list false ((Z0 x.orders i).map Xf)) :=
 (Me x i hi hl hpl).frozen Zb
theorem Kn (l:List Vis) (c:Bool) (v:Vis) (hl:l.length<=1048576):PC 135 [.p (.list c (l.map Xf)),.p (Xf v)] (.int .i64 (vIx l v)):=by
 refine Zc Tryz.func135 rfl wS ?_;simp (disch:=omega) only [Tryz.f135,go_sem,seval];refine Zk [0,3] (fun k:Nat=> [(5,.p (.int .i64 k))]) (fun _=> [Qb v]) (fun k=>k<=l.length/\ ∀j,j<k->decide (v=nth l j)=false) (fun k=>l.length-k) 0 Zb (Weak.mk ?_) ?_
 ·simp (disch:=omega) only [Qb,go_sem,seval,↓reduceIte]
 ·rintro k ⟨hk,hno⟩;simp (disch:=omega) only [Qb,go_sem,seval];refine cD ?_ ?_<;>intro h<;>simp (disch:=omega) only [Sh.out h,go_sem,seval,↓reduceIte]
  ·have hk2:k<l.length:=Za
   refine XH (Wp ?_);refine cD ?_ ?_<;>intro h2<;>simp (disch:=omega) only [Sh.out h2,go_sem,seval,↓reduceIte]
   ·have:v=nth l k:=Eq.symm (by grind [Of])
    grind [vIx,Hy]
   ·have: ¬v=nth l k:=fun e=>by grind
    exact ⟨k+1,⟨Za,Zm.2 ⟨hno,by grind⟩⟩,Za,wk⟩
  grind [vIx,Nq]
theorem LX (l s:List Vis) (c d:Bool) (hl:l.length<=1048576) (hs:s.length<=1048576):PC 184 [.p (.list c (l.map Xf)),.p (.list d (s.map Xf))] (.bool (Uk l s)):=by
 refine Zc Tryz.func184 rfl xY ?_;simp (disch:=omega) only [Tryz.f184,go_sem,seval];refine Zk [0,1] (fun k:Nat=> [(5,.p (.int .i64 k))]) (fun _=> []) (fun k=>k<=s.length/\ ∀j,j<k->decide (0<=vIx l (nth s j))=true) (fun k=>s.length-k) 0 Zb (Weak.mk ?_) ?_
 ·simp (disch:=omega) only [go_sem,seval,↓reduceIte]
 ·rintro k ⟨hk,hno⟩;refine Wp ?_;refine cD ?_ ?_<;>intro h<;>simp (disch:=omega) only [Sh.out h,go_sem,seval,↓reduceIte]
  ·have hk2:k<s.length:=Za
   refine (Kn l c (nth s k) hl).use (Wp ?_);refine cD ?_ ?_<;>intro h2<;>simp (disch:=omega) only [Sh.out h2,go_sem,seval,↓reduceIte]
   ·grind [Uk,Zq]
   ·exact ⟨k+1,⟨Za,Zm.2 ⟨hno,by simp;omega⟩⟩,Za,wk⟩
  ·have hkl:k=s.length:=Za
   subst hkl
   have:Uk l s=true:=by
    rw [Uk,Zy];intro w hw;obtain ⟨j,hj,rfl⟩:=ZN.1 hw
    grind [Ze]
   rw [this]
theorem Sz {S n:Nat} (h:S.testBit n=true):S|||pw n=S:=by
 apply Bw
 grind [JC]
theorem fJ {S n:Nat} (h:S.testBit n=false):S|||pw n=S+pw n:=by
 have e:S%2^(n+1)=S%2^n+2^n*(S / 2^n%2):=Nat.mod_pow_succ;rw [Nat.testBit_eq_decide_div_mod_eq] at h
 have h0:S / 2^n%2=0:=by grind
 rw [h0,Nat.mul_zero,Vr] at e;have hp:0<2^n:=Nat.two_pow_pos n
 have hs:2^(n+1)=2^n+2^n:=Za
 have r1:S%2^(n+1)<2^n:=Za
 have e1:=Nat.two_pow_add_eq_or_of_lt (i:=n) r1 1;have e2:=Nat.two_pow_add_eq_or_of_lt (i:=n+1) (b:=2^n*1+S%2^(n+1)) Za (S / 2^(n+1));have e3:=Nat.two_pow_add_eq_or_of_lt (i:=n+1) (b:=S%2^(n+1)) Za (S / 2^(n+1));have e4:=Nat.div_add_mod S (2^(n+1));rw [pw]
 grind
theorem SR (r:Rte) (hl:r.visits.length<=1048576):PT 55 [.p (WA r)] [.p (.int .i64 (Ju r.visits).1),.p (.int .i64 (Ju r.visits).2)]:=by
 refine Zf [] Tryz.func55 rfl ZgW ?_;simp (disch:=omega) only [Tryz.f55,go_sem,seval];refine Zk [1] (fun k:Nat=> [(4,.p (.int .i64 (XP (r.visits.take k):Nat))),(5,.p (.int .i64 k))]) (fun _=> [Xb r]) (fun k=>k<=r.visits.length/\ ∀j,j<k->Fz (nth r.visits j)=true) (fun k=>r.visits.length-k) 0 Zb (Weak.mk ?_) ?_
 ·simp (disch:=omega) only [Xb,XP,WN,Qr,go_sem,seval]
 ·rintro k ⟨hk,hno⟩
  have hlt:=K6 k hk fun v hv=>by
   obtain ⟨j,hj,rfl⟩:=ZN.1 hv
   grind [Ze]
  simp (disch:=omega) only [Xb,go_sem,seval];refine cD ?_ ?_<;>intro h<;>simp (disch:=omega) only [Sh.out h,go_sem,seval,↓reduceIte]
  ·have hk2:k<r.visits.length:=Za
   have hbad:Fz (nth r.visits k)=false->Ju r.visits=(0,2):=fun h4=>by
    grind [Zq,Ju]
   have hs:=Cy hk2
   have hp:(nth r.visits k).order<=62->pw (nth r.visits k).order.toNat<=4611686018427387904:=fun h=>by rw [<- GE];exact C4 Za
   refine gF ?_ ?_<;>intro h1<;>simp (disch:=omega) only [Sh.out h1,go_sem,seval,↓reduceIte]
   ·have e:=hbad (by simp [Fz];omega);rw [e];exact we
   ·refine cD ?_ ?_<;>intro h2<;>simp (disch:=omega) only [Sh.out h2,go_sem,seval]
    ·have e:=hbad (by simp [Fz];omega);rw [e];exact we
    ·have h4:=hp Za;refine (Km (XP (r.visits.take k)) (nth r.visits k).order hlt).use (Wp ?_)
     have hin:0<=(nth r.visits k).order/\(nth r.visits k).order<=62:=Za
     have hnh:nHas (XP (r.visits.take k)) (nth r.visits k).order=(XP (r.visits.take k)).testBit (nth r.visits k).order.toNat:=by simp [nHas,hin]
     rw [hnh];have hno2:=(Zm (p:=fun j=>Fz (nth r.visits j)=true)).2 ⟨hno,by simp [Fz];omega⟩
     have hlt2:=K6 (k+1) hk2 fun v hv=>by
      obtain ⟨j,hj,rfl⟩:=ZN.1 hv
      grind [Ze]
     refine ZP ?_ ?_<;>intro h5
     ·have h6:(XP (r.visits.take k)).testBit (nth r.visits k).order.toNat=false:=by grind
      rw [fJ h6] at hs;rw [hs] at hlt2;exact ⟨k+1,⟨Za,hno2⟩,Za,Weak.mk (by simp (disch:=omega) only [hs,Int.natCast_add,go_sem,seval])⟩
     ·have h6:(XP (r.visits.take k)).testBit (nth r.visits k).order.toNat=true:=by grind
      rw [Sz h6] at hs;exact ⟨k+1,⟨Za,hno2⟩,Za,Weak.mk (by simp (disch:=omega) only [hs,go_sem,seval])⟩
  ·have hkl:k=r.visits.length:=Za
   subst hkl
   have:r.visits.all Fz=true:=by
    rw [Zy];intro v hv;obtain ⟨j,hj,rfl⟩:=ZN.1 hv
    grind [Ze]
   have e:Ju r.visits=(((XP r.visits:Nat):Int),0):=by simp [Ju,this]
   rw [e,Yb];exact we
def Plc (x:Inst):Prop:= ∀o∈x.orders,-1<=o.pick.place/\ -1<=o.drp.place
theorem pD {l:List Vis} {v w:Vis} (h:vIx l v=vIx l w) (h0:0<=vIx l v):v=w:=by
 unfold vIx F6 at h h0
 cases hv:l.findIdx? (fun u=>decide (v=u)) with
 | none=>grind
 | some i =>
  grind [VO]
theorem JD (os:List Ord) (i:Nat):Z0 os i= []\/Z0 os i= [⟨i,false⟩]\/Z0 os i= [⟨i,true⟩]\/Z0 os i= [⟨i,false⟩,⟨i,true⟩]:=by
 grind [Z0]
theorem fV {l own:List Vis} (ho:own= []\/(∃v,own= [v])\/ ∃v w,own= [v,w]/\v≠w) :
  Qf l (-1) own=(Uk l own&& !(decide (own.length=2)&&decide (vIx l (nth own 1)<vIx l (nth own 0)))):=by
 rcases ho with rfl | ⟨v,rfl⟩ | ⟨v,w,rfl,hne⟩
 ·rfl
 ·grind [Qf,Uk]
 ·have hne2:0<=vIx l v->vIx l v≠vIx l w:=fun h0 h=>hne (pD h h0);have h1:= @iR l v;have h2:= @iR l w;rw [YY];simp [Qf,Uk,nth];omega
theorem iS (os:List Ord) (i:Nat):Z0 os i= []\/(∃v,Z0 os i= [v])\/ ∃v w,Z0 os i= [v,w]/\v≠w:=by
 grind [JD]
theorem G4 {α:Type} [Inhabited α] {l:List α} {f:α->Bool} {k:Nat} (hk:k<l.length) (h:f (nth l k)=false):l.all f=false:=by
 grind [Zq]
theorem Ov {α:Type} [Inhabited α] {l:List α} {f:α->Bool} (h: ∀j,j<l.length->f (nth l j)=true):l.all f=true:=by
 rw [Zy];intro v hv;obtain ⟨j,hj,rfl⟩:=ZN.1 hv
 grind [Ze]
theorem Zi1 (x:Inst) (l:List Vis) (c:Bool) (hl:l.length<=1048576) (ho:x.orders.length<=1048576) (hp:Plc x) (hv: ∀v∈l,0<=v.order/\v.order<x.orders.length) :
  PC 136 [.p (ZF x),.p (.list c (l.map Xf))] (.bool (l.all (pairB x.orders l))):=by
 refine Zc Tryz.func136 rfl wT ?_;simp (disch:=omega) only [Tryz.f136,go_sem,seval];refine Zk [1,2] (fun k:Nat=> [(5,.p (.int .i64 k))]) (fun _=> [Zj x]) (fun k=>k<=l.length/\ ∀j,j<k->pairB x.orders l (nth l j)=true) (fun k=>l.length-k) 0 Zb (Weak.mk ?_) ?_
 ·simp (disch:=omega) only [Zj,go_sem,seval]
 ·rintro k ⟨hk,hno⟩;refine Wj ?_;refine cD ?_ ?_<;>intro h<;>simp (disch:=omega) only [Sh.out h,go_sem,seval,↓reduceIte]
  ·have hk2:k<l.length:=Za
   obtain ⟨v1,v2⟩:=hv _ (Zq hk2);obtain ⟨i,hi⟩: ∃i:Nat,(nth l k).order=(i:Int):=⟨(nth l k).order.toNat,Za⟩;rw [hi] at v1 v2
   have hpb:pairB x.orders l (nth l k)=(decide (0<=vIx (Z0 x.orders i) (nth l k))&&Qf l (-1) (Z0 x.orders i)):=by rw [pairB,hi];rfl
   have hown:=iS x.orders i;rw [fV hown] at hpb;refine XH ?_;simp (disch:=omega) only [hi,go_sem,seval];refine Zp (S0 x i Za ho hp) (Wp ?_);have hvl:=Vf x.orders i;generalize Z0 x.orders i=own at hvl hpb;have hix:=Kn own false (nth l k) Za;rw [OT,hi] at hix;refine XH ?_;simp (disch:=omega) only [hi,go_sem,seval];refine Zp (hix) (Wp ?_);refine gF ?_ ?_<;>intro h2<;>simp (disch:=omega) only [Sh.out h2,go_sem,seval]
   ·grind [G4]
   ·have h3:0<=vIx own (nth l k):=Za
    have hgo:pairB x.orders l (nth l k)=true-> ∀j,j<k+1->pairB x.orders l (nth l j)=true:=fun e=>Zm.2 ⟨hno,e⟩;refine Zp (LX l own c false hl Za) (Wp ?_);refine gF ?_ ?_<;>intro h4<;>simp (disch:=omega) only [Sh.out h4,go_sem,seval]
    ·grind [G4]
    ·have h5:Uk l own=true:=by grind
     rw [h5] at hpb;refine QB ?_ ?_<;>intro h6
     ·have h7:own.length=2:=Za
      refine Zp (Kn l c (nth own 0) hl) (Wp ?_);refine Zp (Kn l c (nth own 1) hl) (Wp ?_);refine ZP ?_ ?_<;>intro h8
      ·grind [G4]
      ·exact ⟨k+1,⟨Za,hgo (by grind)⟩,Za,wk⟩
     ·exact ⟨k+1,⟨Za,hgo (by grind)⟩,Za,wk⟩
  grind [Ov]
def apB (x:Inst) (S:Nat):Bool:=x.apart.any fun p=>nHas S p.1&&nHas S p.2
theorem gM (x:Inst) (S:Nat) (hS:S<9223372036854775808) (ha:x.apart.length<=1048576):PC 137 [.p (ZF x),.p (.int .i64 (S:Nat))] (.bool (!apB x S)):=by
 refine Zc Tryz.func137 rfl wU ?_;simp (disch:=omega) only [Tryz.f137,go_sem,seval];refine Zk [1,2] (fun k:Nat=> [(5,.p (.int .i64 k))]) (fun _=> [Zj x]) (fun k=>k<=x.apart.length/\ ∀j,j<k->(nHas S (nth x.apart j).1&&nHas S (nth x.apart j).2)=false) (fun k=>x.apart.length-k) 0 Zb (Weak.mk ?_) ?_
 ·simp (disch:=omega) only [Zj,go_sem,seval]
 ·rintro k ⟨hk,hno⟩;refine Wj ?_;refine cD ?_ ?_<;>intro h<;>simp (disch:=omega) only [Sh.out h,go_sem,seval,↓reduceIte]
  ·have hk2:k<x.apart.length:=Za
   refine (Km S (nth x.apart k).1 hS).use (Wp ?_);refine QB ?_ ?_<;>intro h2
   ·refine (Km S (nth x.apart k).2 hS).use (Wp ?_);refine ZP ?_ ?_<;>intro h3
    ·grind [apB,W0]
    ·exact ⟨k+1,⟨Za,Zm.2 ⟨hno,by grind⟩⟩,Za,wk⟩
   ·exact ⟨k+1,⟨Za,Zm.2 ⟨hno,by rw [h2];rfl⟩⟩,Za,wk⟩
  grind [apB,Qe]
def JG (l:List Vis) (a b:Int) (j k:Nat):Bool:=decide ((nth l j).order=a)&&decide ((nth l k).order=b)
def U8 (S:Nat) (l:List Vis) (p:Int×Int):Bool:= !nHas S p.2||(nHas S p.1&&(List.range l.length).all fun j=>(List.range j).all fun k=> !JG l p.1 p.2 j k)
theorem SM (x:Inst) (S:Nat) (l:List Vis) (c:Bool) (hS:S<9223372036854775808) (hl:l.length<=1048576) (hb:x.before.length<=1048576):PC 138 [.p (ZF x),.p (.int .i64 (S:Nat)),.p (.list c (l.map Xf))] (.bool (x.before.all (U8 S l))):=by
 refine Zc Tryz.func138 rfl wV ?_;simp (disch:=omega) only [Tryz.f138,go_sem,seval];refine Zk [1,2,3] (fun k:Nat=> [(7,.p (.int .i64 k))]) (fun _=> [Zj x]) (fun k=>k<=x.before.length/\ ∀j,j<k->U8 S l (nth x.before j)=true) (fun k=>x.before.length-k) 0 Zb (Weak.mk ?_) ?_
 ·simp (disch:=omega) only [Zj,go_sem,seval]
 ·rintro i ⟨hi,hno⟩;refine Wj ?_;refine cD ?_ ?_<;>intro h<;>simp (disch:=omega) only [Sh.out h,go_sem,seval,↓reduceIte]
  ·have hi2:i<x.before.length:=Za
   have hgo:U8 S l (nth x.before i)=true-> ∀j,j<i+1->U8 S l (nth x.before j)=true:=fun e=>Zm.2 ⟨hno,e⟩;have hbad:U8 S l (nth x.before i)=false->x.before.all (U8 S l)=false:=fun e=>G4 hi2 e;have hdef:U8 S l (nth x.before i)=(!nHas S (nth x.before i).2||(nHas S (nth x.before i).1&&(List.range l.length).all fun j=>(List.range j).all fun k=> !JG l (nth x.before i).1 (nth x.before i).2 j k)):=rfl;generalize U8 S l (nth x.before i)=R at hgo hbad hdef;generalize nth x.before i=p at hdef ⊢;refine (Km S p.2 hS).use (Wp ?_)
   refine ZP ?_ ?_<;>intro h2
   ·have h3:nHas S p.2=false:=by grind
    exact ⟨i+1,⟨Za,hgo (by grind)⟩,Za,wk⟩
   ·have h3:nHas S p.2=true:=by grind
    refine (Km S p.1 hS).use (Wp ?_);refine cD ?_ ?_<;>intro h4<;>simp (disch:=omega) only [Sh.out h4,go_sem,seval]
    ·grind
    ·have h5:nHas S p.1=true:=by grind
     rw [h3,h5] at hdef;simp only [Vw,Bool.false_or,W9] at hdef;refine Zk [1,2,3,7,8,9] (fun k:Nat=> [(10,.p (.int .i64 k))]) (fun _=> [Zj x]) (fun k=>k<=l.length/\ ∀j,j<k-> ∀q,q<j->JG l p.1 p.2 j q=false) (fun k=>l.length-k) 0 Zb (Weak.mk ?_) ?_
     ·simp (disch:=omega) only [Zj,go_sem,seval]
     ·rintro j ⟨hj,hnj⟩;refine Wj ?_;refine ZP ?_ ?_<;>intro h6
      ·have hj2:j<l.length:=Za
       refine Zk [1,2,3,7,8,9,10] (fun k:Nat=> [(11,.p (.int .i64 k))]) (fun _=> [Zj x]) (fun k=>k<=j/\ ∀q,q<k->JG l p.1 p.2 j q=false) (fun k=>j-k) 0 Zb (Weak.mk ?_) ?_
       ·simp (disch:=omega) only [Zj,go_sem,seval]
       ·rintro k ⟨hk,hnk⟩;refine Wj ?_;refine ZP ?_ ?_<;>intro h7
        ·have hk2:k<j:=Za
         refine QB ?_ ?_<;>intro h8
         ·refine ZP ?_ ?_<;>intro h9
          ·rw [hbad (by
            rw [hdef,List.all_eq_false];refine ⟨j,by grind,?_⟩;rw [VP,List.all_eq_false]
            exact ⟨k,by grind,by simp [JG,h8,h9]⟩)]
          ·exact ⟨k+1,⟨Za,Zm.2 ⟨hnk,by simp [JG,h9]⟩⟩,Za,wk⟩
         ·exact ⟨k+1,⟨Za,Zm.2 ⟨hnk,by simp [JG,h8]⟩⟩,Za,wk⟩
        ·have hkl:k=j:=Za
         subst hkl;exact ⟨k+1,⟨Za,(Zm (p:=fun j=> ∀q,q<j->JG l p.1 p.2 j q=false)).2 ⟨hnj,hnk⟩⟩,Za,wk⟩
      ·have hjl:j=l.length:=Za
       subst hjl;refine ⟨i+1,⟨Za,hgo ?_⟩,Za,wk⟩
       grind
  grind [Ov]
theorem Ib (S:Nat) (i:Int):sHas (S:Int) i=nHas S i:=by
 by_cases h:0<=i/\i<=62
 ·obtain ⟨k,rfl⟩: ∃k:Nat,i=(k:Int):=⟨i.toNat,Za⟩
  grind [Wh,eU]
 ·have h2:nHas S i=false:=by simp only [nHas,h,Jh,U2]
  grind [sHas]
theorem EA {S:Nat} {i:Int} :nHas S i=true↔0<=i/\i<=62/\S.testBit i.toNat=true:=by simp [nHas,and_assoc]
theorem Nc {S n i:Nat} (h:S / pw n=0) (hi:S.testBit i=true):i<n:=by
 rcases Wy i n with h2 | h2
 ·exact h2
 ·have h3:S<2^n:=by
   have:=(Nat.div_eq_zero_iff).1 h;rcases this with h4 | h4
   ·grind [H5]
   ·exact h4
  grind [Uy,Ys,Cq]
theorem QK {S:Nat} {a:Int} :a∈XO (S:Int) 63↔ ∃i:Nat,a=(i:Int)/\i<63/\S.testBit i=true:=by
 simp only [XO,XD,U3,ZL]
 constructor
 ·rintro ⟨i,⟨h1,h2⟩,rfl⟩;rw [Wh S i Za] at h2
  grind
 ·rintro ⟨i,rfl,h1,h2⟩;exact ⟨i,⟨h1,by grind [Wh]⟩,rfl⟩
structure Alw (x:Inst) (S:Nat):Prop where
 off: ∀i,i<x.orders.length->S.testBit i=true->(nth x.orders i).off=false
 apart:apB x S=false
 closed: ∀p∈x.before,nHas S p.2=true->nHas S p.1=true
 acyc: ∀i,i<x.orders.length->S.testBit i=true-> ¬Ch x.before i i
theorem W7 {c:Prop} [Decidable c] {a b:Int} (ha:a≠0):(if c then a else b)=0↔ ¬c/\b=0:=by
 grind
theorem CT {x:Inst} {S:Nat} (hn:x.orders.length<=60) (hS:S / pw x.orders.length=0) (hv:Val x.orders.length x.before):Wk x.orders x.apart x.before (S:Int)=0↔Alw x S:=by
 have hlt: ∀i,S.testBit i=true->i<x.orders.length:=fun i h=>Nc hS h
 have e0: ¬(S:Int)<0:=Za
 unfold Wk;rw [if_neg e0,W7 Za,W7 Za,W7 Za,W7 Za,W7 Za];simp only [and_true]
 constructor
 ·rintro ⟨_,h2,h3,h4,h5⟩;simp only [VP] at h2 h3 h4 h5;rw [XS] at h2 h4 h5;refine ⟨fun i hi hb=> ?_,?_,fun p hp hb=> ?_,fun i hi hb hc=> ?_⟩
  ·have:=h2 (i:Int) (QK.2 ⟨i,rfl,Za,hb⟩)
   grind
  ·grind [apB,Ib]
  ·have:=h4 p hp
   simp_all [Ib]
  ·have:=h5 (i:Int) (QK.2 ⟨i,rfl,Za,hb⟩)
   grind [Wh,Uc]
 ·rintro ⟨h1,h2,h3,h4⟩;refine ⟨?_,?_,?_,?_,?_⟩
  ·simp only [VP];rw [XS];intro a ha;obtain ⟨i,rfl,h5,h6⟩:=QK.1 ha
   grind
  ·simp only [VP];rw [XS];intro a ha;obtain ⟨i,rfl,h5,h6⟩:=QK.1 ha
   grind
  ·simp only [Ib,VP];exact h2
  ·simp only [VP]
   grind [Ib]
  ·simp only [VP];rw [XS];intro a ha;obtain ⟨i,rfl,h5,h6⟩:=QK.1 ha
   grind [Wh,Uc]
theorem F7 {f g:Nat->Bool} {b:Nat} : ∀(l:List Nat),(∀a,f a=true->g a=true)->f b=false->g b=true->b∈l->(l.filter f).length<(l.filter g).length
 | [],_,_,_,h=>by simp at h
 | x::l,hfg,hf,hg,h=>by
  have hle: ∀l:List Nat,(l.filter f).length<=(l.filter g).length:=by
   intro l
   induction l with
   | nil=>simp
   | cons y l ih =>
    grind
  simp only [List.filter_cons];rcases Xs.1 h with rfl | h
  ·grind
  ·have:=F7 l hfg hf hg h
   grind
theorem No {n:Nat} {be:List (Int×Int)} (hv:Val n be) {P:Nat->Prop} (hP: ∀i,P i->i<n/\ ¬Ch be i i) {i:Nat} (hi:P i): ∃i,P i/\ ∀p∈be,p.2=(i:Int)-> ¬P p.1.toNat:=by
 suffices h: ∀(k i:Nat),P i->((List.range n).filter fun a=>(nth (JE n be) i).testBit a).length<k-> ∃i,P i/\ ∀p∈be,p.2=(i:Int)-> ¬P p.1.toNat from h _ i hi (Nat.lt_succ_self _)
 intro k
 induction k with
 | zero=>omega
 | succ k ih =>
  intro i hi hk
  by_cases h: ∃p∈be,p.2=(i:Int)/\P p.1.toNat
  ·obtain ⟨p,hp,h1,h2⟩:=h;obtain ⟨v1,v2,v3,v4⟩:=hv p hp;have hE:Ed be p.1.toNat i:=⟨p,hp,Za,h1⟩;refine ih p.1.toNat h2 (Uy (F7 (b:=p.1.toNat) _ (fun a ha=> ?_) ?_ ?_ ?_) (by omega:((List.range n).filter fun a=>(nth (JE n be) i).testBit a).length<=k))
   ·exact (Uc hv a i (hP i hi).1).2 (((Uc hv a _ (hP _ h2).1).1 ha).more hE)
   ·grind [Uc]
   ·exact (Uc hv _ i (hP i hi).1).2 (.one hE)
   grind
  grind
theorem WG {l:List Vis} {v:Vis} :0<=vIx l v↔v∈l:=by
 grind [Np,vIx]
theorem ZbR {l:List Vis} {v:Vis} :vIx l v<0↔v ∉ l:=by rw [<- WG];omega
theorem Re {l own:List Vis} :Uk l own=true↔ ∀w∈own,w∈l:=by
 grind [Uk,WG]
theorem aA {os:List Ord} {l:List Vis} {o:Int} {p:Int×Int} :DY os l o p=true↔(p.2=o-> ∀w∈Z0 os p.1.toNat,w∈l):=by
 rw [DY,Wf,Re,Zl]
 grind
theorem aB {x:Inst} {l:List Vis} {o:Int} :x.before.all (DY x.orders l o)=true↔ ∀p∈x.before,p.2=o-> ∀w∈Z0 x.orders p.1.toNat,w∈l:=by
 simp_all [aA]
def Vne (x:Inst):Prop:= ∀i,i<x.orders.length->Z0 x.orders i≠ []
inductive Gr (x:Inst) (S:Nat):List Vis->Prop where
 | nil:Gr x S []
 | snoc {l:List Vis} {v:Vis} (h:Gr x S l) (hv:v∈nextU x S l x.orders.length):Gr x S (l++ [v])
theorem Oe (os:List Ord) (i:Nat):(Z0 os i).Nodup:=by
 grind [JD]
theorem gE {os:List Ord} {i:Nat} {l:List Vis} {v:Vis} (hv:v∈Z0 os i):BN l v (Z0 os i)=true↔(v.drp=true->⟨i,false⟩∈Z0 os i->⟨i,false⟩∈l):=by
 rcases JD os i with h | h | h | h<;>rw [h] at hv ⊢ <;>simp at hv
 ·grind [BN]
 ·grind [BN]
 ·rcases hv with rfl | rfl
  ·simp [BN]
  ·simp [BN,WG]
theorem UI {x:Inst} {l:List Vis} {v:Vis} {i:Nat} (hv:v∈Z0 x.orders i):UH x l v=true↔v ∉ l/\(v.drp=true->⟨i,false⟩∈Z0 x.orders i->⟨i,false⟩∈l)/\ ∀p∈x.before,p.2=(i:Int)-> ∀w∈Z0 x.orders p.1.toNat,w∈l:=by
 have h:=YM hv;rw [UH,h,X3,Zt,Zt,Zl,ZbR,gE hv,aB,and_assoc]
theorem UF {x:Inst} {S:Nat} {l:List Vis} {v:Vis} {k:Nat} :v∈nextU x S l k↔ ∃i,i<k/\S.testBit i=true/\(nth x.orders i).off=false/\v∈Z0 x.orders i/\UH x l v=true:=by
 rw [nextU,We]
 constructor
 ·grind [JH]
 ·rintro ⟨i,hi,h1,h2,h3,h4⟩;exact ⟨i,by grind,by simp_all [JH]⟩
def AY (x:Inst) (S k:Nat):List Vis:=(List.range k).flatMap fun i=>if S.testBit i=true then Z0 x.orders i else []
theorem FP (x S k):AY x S (k+1)=AY x S k++if S.testBit k=true then Z0 x.orders k else []:=by simp [AY,Yu]
theorem JS (x S): ∀k,(AY x S k).length=AS x S k
 | 0=>by rfl
 | k+1=>by
  rw [FP,Ab,Zw,JS x S k]
  split<;>simp
theorem Va {x S k v} :v∈AY x S k↔ ∃i,i<k/\S.testBit i=true/\v∈Z0 x.orders i:=by
 simp_all [AY]
theorem DS (x S): ∀k,(AY x S k).Nodup
 | 0=>by simp [AY]
 | k+1=>by
  rw [FP,List.nodup_append];refine ⟨DS x S k,?_,fun a ha b hb=> ?_⟩
  ·grind [Oe]
  ·obtain ⟨i,hi,_,h2⟩:=Va.1 ha
   split at hb
   ·have h3:=YM h2;have h4:=YM hb
    grind
   ·simp at hb
theorem Gr.nodup {x S l} (h:Gr x S l):l.Nodup:=by
 induction h with
 | nil=>simp
 | snoc _ hv ih =>
  obtain ⟨i,_,_,_,h4,h5⟩:=UF.1 hv;rw [List.nodup_append];refine ⟨ih,Zb,fun a ha b hb=> ?_⟩;simp at hb;subst hb;exact fun e=>((UI h4).1 h5).1 (e ▸ ha)
theorem Gr.sub {x S l} (h:Gr x S l): ∀v∈l,v∈AY x S x.orders.length:=by
 induction h with
 | nil=>simp
 | snoc _ hv ih =>
  obtain ⟨i,h1,h2,_,h4,_⟩:=UF.1 hv;intro w hw;rcases Xr.1 hw with hw | hw
  ·exact ih w hw
  ·simp at hw;subst hw;exact Va.2 ⟨i,h1,h2,h4⟩
theorem Ig {α:Type} [DecidableEq α] {l m:List α} (hl:l.Nodup) (h: ∀v∈l,v∈m):l.length<=m.length:=List.Nodup.length_le_of_subset hl h
theorem ZbH {α:Type} [DecidableEq α] {l m:List α} (hl:l.Nodup) (h: ∀v∈l,v∈m) (hm:m.length<=l.length): ∀v∈m,v∈l:=fun v hv=>by
 refine AH fun hno=> ?_
 have:(v::l).length<=m.length:=Ig (by grind) (fun w hw=>by
  grind)
 grind
theorem Gr.len {x S l} (h:Gr x S l):l.length<=AS x S x.orders.length:=by
 rw [<- JS];exact Ig h.nodup h.sub
theorem Gr.full {x S l} (h:Gr x S l) (hl:l.length=AS x S x.orders.length): ∀v∈AY x S x.orders.length,v∈l:=ZbH h.nodup h.sub (by rw [JS];omega)
theorem Gr.more {x S l} (ha:Alw x S) (hn:x.orders.length<=60) (hv:Val x.orders.length x.before) (hm: ∃v∈AY x S x.orders.length,v ∉ l): ∃v,v∈nextU x S l x.orders.length:=by
 obtain ⟨v,hva,hvl⟩:=hm;obtain ⟨i,h1,h2,h3⟩:=Va.1 hva;obtain ⟨j,⟨j1,j2,w,j3,j4⟩,hj⟩:=No hv (P:=fun i=>i<x.orders.length/\S.testBit i=true/\ ∃w∈Z0 x.orders i,w ∉ l) (fun i hi=>⟨hi.1,ha.acyc i hi.1 hi.2.1⟩) ⟨h1,h2,v,h3,hvl⟩
 have hpre: ∀p∈x.before,p.2=(j:Int)-> ∀w∈Z0 x.orders p.1.toNat,w∈l:=fun p hp e w hw=>by
  refine AH fun hno=> ?_;obtain ⟨v1,v2,v3,v4⟩:=hv p hp;have:=ha.closed p hp (EA.2 ⟨Za,Za,by grind⟩);exact hj p hp e ⟨Za,(EA.1 this).2.2,w,hw,hno⟩
 by_cases hf:(⟨j,false⟩:Vis)∈Z0 x.orders j/\(⟨j,false⟩:Vis) ∉ l
 ·exact ⟨⟨j,false⟩,UF.2 ⟨j,j1,j2,ha.off j j1 j2,hf.1,(UI hf.1).2 ⟨hf.2,Zb,hpre⟩⟩⟩
 ·refine ⟨w,UF.2 ⟨j,j1,j2,ha.off j j1 j2,j3,(UI j3).2 ⟨j4,fun _ hq=> ?_,hpre⟩⟩⟩
  grind
theorem Gr.next_nil {x S l} (h:Gr x S l) (ha:Alw x S) (hn:x.orders.length<=60) (hv:Val x.orders.length x.before):nextU x S l x.orders.length= []↔l.length=AS x S x.orders.length:=by
 constructor
 ·intro e;refine AH fun hno=> ?_
  have hex: ∃v∈AY x S x.orders.length,v ∉ l:=AH fun hno2=>hno (by
   have h1: ∀v∈AY x S x.orders.length,v∈l:=fun v hv=>AH fun h3=>hno2 ⟨v,hv,h3⟩;have:=Ig (DS x S _) h1;rw [JS] at this;have:=h.len
   omega)
  obtain ⟨v,hv⟩:=Gr.more (l:=l) ha hn hv hex
  grind
 ·intro e;rw [List.eq_nil_iff_forall_not_mem];intro v hv;obtain ⟨i,h1,h2,_,h4,h5⟩:=UF.1 hv;exact ((UI h4).1 h5).1 (h.full e v (Va.2 ⟨i,h1,h2,h4⟩))
theorem PS {x:Inst} {S:Nat} (hne:Vne x) (hS:S / pw x.orders.length=0) (h0:S≠0):0<AS x S x.orders.length:=by
 have: ∃i,S.testBit i=true:=by
  refine AH fun hno=>h0 (Bw fun i=> ?_)
  grind
 obtain ⟨i,hi⟩:=this;have hlt:=Nc hS hi;obtain ⟨v,hv⟩:=List.exists_mem_of_ne_nil _ (hne i hlt);have hm:v∈AY x S x.orders.length:=Va.2 ⟨i,hlt,hi,hv⟩
 grind [JS]
def ext (nx:List Vis->List Vis):Nat->List Vis->List (List Vis)->List (List Vis)
 | 0,l,outs=>if 8192<outs.length then outs else outs++ [l]
 | f+1,l,outs=>if 8192<outs.length then outs else (nx l).foldl (fun acc v=>ext nx f (l++ [v]) acc) outs
theorem Rx {S n:Nat} (hS:S<9223372036854775808) (h: ∀j,j<63->S.testBit j=true->j<n):S / pw n=0:=by
 refine Je ?_;refine Nat.lt_pow_two_of_testBit S fun i hi=> ?_;rcases Wy i 63 with h2 | h2
 ·grind
 ·exact Cq (Uy hS (Ys Za h2:2^63<=2^i))
def LW (x:Inst) (l:List Vis):Int :=
 if l.any (VG x)=true then 2
 else if l.length=0 then 2
 else if (l.any fun v=>(nth x.orders v.order.toNat).off)=true then 9
 else if ((List.range l.length).any fun i=>decide (vIx l (nth l i)≠(i:Int)))=true then 6
 else if l.all (pairB x.orders l)=false then 19
 else if apB x (XP l)=true then 20
 else if x.before.all (U8 (XP l) l)=false then 21
 else 0
theorem NZ (x:Inst) (r:Rte) (ho:x.orders.length<=60) (hl:r.visits.length<=1048576) (hap:x.apart.length<=1048576) (hbe:x.before.length<=1048576) (hp:Plc x) :
  PC 86 [.p (ZF x),.p (WA r)] (.int .i64 (LW x r.visits)):=by
 refine Zc Tryz.func86 rfl Zg3 ?_;simp (disch:=omega) only [Tryz.f86,go_sem,seval];refine Zk [2,3,5] (fun k:Nat=> [(6,.p (.int .i64 k))]) (fun _=> [Zj x,Xb r]) (fun k=>k<=r.visits.length/\ ∀j,j<k->VG x (nth r.visits j)=false) (fun k=>r.visits.length-k) 0 Zb (Weak.mk ?_) ?_
 ·simp (disch:=omega) only [Zj,Xb,go_sem,seval]
 ·rintro k ⟨hk,hno⟩;refine C7 ?_;refine cD ?_ ?_<;>intro h<;>simp (disch:=omega) only [Sh.out h,go_sem,seval,↓reduceIte]
  ·have hk2:k<r.visits.length:=Za
   refine XH (Wp ?_);refine gF ?_ ?_<;>intro h2<;>simp (disch:=omega) only [Sh.out h2,go_sem,seval,↓reduceIte]
   ·have:VG x (nth r.visits k)=true:=by simp [VG];omega
    rw [LW,if_pos (W0 hk2 this)]
   ·refine ZP ?_ ?_<;>intro h3
    ·have:VG x (nth r.visits k)=true:=by simp [VG];omega
     rw [LW,if_pos (W0 hk2 this)]
    ·exact ⟨k+1,⟨Za,Zm.2 ⟨hno,by simp [VG];omega⟩⟩,Za,wk⟩
  ·have hkl:k=r.visits.length:=Za
   subst hkl
   have hr1:LW x r.visits=if r.visits.length=0 then 2 else if (r.visits.any fun v=>(nth x.orders v.order.toNat).off)=true then 9 else if ((List.range r.visits.length).any fun i=>decide (vIx r.visits (nth r.visits i)≠(i:Int)))=true then 6 else if r.visits.all (pairB x.orders r.visits)=false then 19 else if apB x (XP r.visits)=true then 20 else if x.before.all (U8 (XP r.visits) r.visits)=false then 21 else 0:=by
    rw [LW,if_neg (by rw [Qe hno];simp)]
   have hin: ∀j,j<r.visits.length->0<=(nth r.visits j).order/\(nth r.visits j).order<x.orders.length:=fun j hj=>by
    grind [VG]
   have hmem: ∀v∈r.visits,0<=v.order/\v.order<x.orders.length:=fun v hv=>by
    obtain ⟨j,hj,rfl⟩:=ZN.1 hv
    grind [Ze]
   have hord:Ju r.visits=(((XP r.visits:Nat):Int),0):=by
    rw [Ju,if_pos]
    grind [Fz]
   have hlt:XP r.visits<9223372036854775808:=by
    have:=K6 r.visits.length (l:=r.visits) (Xg _) (fun v hv=>by
     grind [Fz])
    grind
   have hoc:=SR r hl;rw [hord] at hoc;refine CP hoc (Wp ?_);refine cD ?_ ?_<;>intro h3<;>simp (disch:=omega) only [Sh.out h3,go_sem,seval]
   ·grind
   ·rw [hr1,if_neg Za];clear hno hr1 h3 h hk;refine Zk [2,5,7] (fun k:Nat=> [(9,.p (.int .i64 k))]) (fun _=> [Zj x,Xb r]) (fun k=>k<=r.visits.length/\ ∀j,j<k->(nth x.orders (nth r.visits j).order.toNat).off=false) (fun k=>r.visits.length-k) 0 Zb (Weak.mk ?_) ?_
    ·simp (disch:=omega) only [Zj,Xb,go_sem,seval]
    ·rintro k ⟨hk,hno⟩;refine C7 ?_;refine cD ?_ ?_<;>intro h<;>simp (disch:=omega) only [Sh.out h,go_sem,seval,↓reduceIte]
     ·have hk2:k<r.visits.length:=Za
      obtain ⟨i1,i2⟩:=hin k hk2
      have i3:(nth r.visits k).order.toNat<x.orders.length:=Za
      refine XH (Wp ?_);refine ZP ?_ ?_<;>intro h4
      ·rw [if_pos (W0 hk2 h4)]
      ·exact ⟨k+1,⟨Za,Zm.2 ⟨hno,h4⟩⟩,Za,wk⟩
     ·have hkl:k=r.visits.length:=Za
      subst hkl;have e9:(r.visits.any fun v=>(nth x.orders v.order.toNat).off)=false:=Qe hno;rw [e9,if_neg Zb];clear hno h hk;refine Zk [2,5,7] (fun k:Nat=> [(10,.p (.int .i64 k))]) (fun _=> [Zj x,Xb r]) (fun k=>k<=r.visits.length/\ ∀j,j<k->vIx r.visits (nth r.visits j)=(j:Int)) (fun k=>r.visits.length-k) 0 Zb (Weak.mk ?_) ?_
      ·simp (disch:=omega) only [Zj,Xb,go_sem,seval]
      ·rintro k ⟨hk,hno⟩;refine C7 ?_;refine cD ?_ ?_<;>intro h<;>simp (disch:=omega) only [Sh.out h,go_sem,seval,↓reduceIte]
       ·have hk2:k<r.visits.length:=Za
        refine (Kn r.visits r.visits_c (nth r.visits k) hl).use (Wp ?_);refine ZP ?_ ?_<;>intro h4
        ·have:((List.range r.visits.length).any fun i=>decide (vIx r.visits (nth r.visits i)≠(i:Int)))=true:=by
          grind
         grind
        ·exact ⟨k+1,⟨Za,Zm.2 ⟨hno,Za⟩⟩,Za,wk⟩
       ·have hkl:k=r.visits.length:=Za
        subst hkl
        have:((List.range r.visits.length).any fun i=>decide (vIx r.visits (nth r.visits i)≠(i:Int)))=false:=by
         grind
        rw [this,if_neg Zb];refine (Zi1 x r.visits r.visits_c hl Za hp hmem).use (Wp ?_);refine cD ?_ ?_<;>intro h4<;>simp (disch:=omega) only [Sh.out h4,go_sem,seval,↓reduceIte]
        ·grind
        ·rw [if_neg (by grind)];refine (gM x (XP r.visits) hlt hap).use (Wp ?_);refine cD ?_ ?_<;>intro h5<;>simp (disch:=omega) only [Sh.out h5,go_sem,seval,↓reduceIte]
         ·grind
         ·rw [if_neg (by grind)];refine (SM x (XP r.visits) r.visits r.visits_c hlt hl hbe).use (Wp ?_);refine cD ?_ ?_<;>intro h6<;>simp (disch:=omega) only [Sh.out h6,go_sem,seval]
          ·grind
          grind
structure IFacts (x:Inst):Prop where
 len:x.orders.length<=10
 plc:Plc x
 vne:Vne x
 val:Val x.orders.length x.before
 ne: ∀p∈x.before,p.1≠p.2
 aval:Val x.orders.length x.apart
theorem cL {n:Int} {word:List UInt8} {sm:Int×Int->Int×Int->Bool} {l:List (Int×Int)} (h:JK n word sm l l.length= []): ∀p∈l,nG n p=true:=by
 intro p hp;obtain ⟨i,hi,rfl⟩:=ZN.1 hp;have h2:=(Qn.1 h).2;rw [List.flatMap_eq_nil_iff] at h2;have h3:=h2 i (by grind)
 grind [Tx,Ze]
theorem YV {x:Inst} (h:InstOk x):IFacts x:=by
 have ho:=h.orders;obtain ⟨h1,h2⟩:=Qn.1 h.rules;have ha:=cL h1;have hb:=cL h2
 have hpl:Plc x:=fun o hm=>by
  obtain ⟨i,hi,rfl⟩:=ZN.1 hm;have:=ho.2 i hi;rw [<- Ze hi];exact ⟨this.pick.1,this.drp.1⟩
 have val: ∀l:List (Int×Int),(∀p∈l,nG x.orders.length p=true)->Val x.orders.length l:=fun l h p hp=>by
  grind [nG]
 refine ⟨ho.1,hpl,fun i hi=> ?_,val _ hb,fun p hp=> ?_,val _ ha⟩
 ·have h3:=ho.2 i hi;have h4:=hpl _ (Zq hi);have h5:=h3.one
  grind [Z0]
 grind [nG]
theorem XL {l:List Vis} {o:Int} :hasO l o=true↔ ∃v∈l,v.order=o:=by simp [hasO]
theorem BH : ∀(l:List Vis) (i:Nat),(XP l).testBit i=true↔ ∃v∈l,v.order.toNat=i:=by
 have key: ∀(l:List Vis) (s i:Nat),(l.foldl (fun s v=>s|||pw v.order.toNat) s).testBit i=true↔s.testBit i=true\/ ∃v∈l,v.order.toNat=i:=by
  intro l
  induction l with
  | nil=>simp
  | cons v l ih =>
   intro s i;rw [Yt,ih,KW,JC,Wf,Zl,or_assoc];simp
 grind [XP]
def Inr (x:Inst) (l:List Vis):Prop:= ∀v∈l,0<=v.order/\v.order<x.orders.length
theorem Kf {x:Inst} {l:List Vis} (hi:Inr x l) (hn:x.orders.length<=60) (o:Int) (h:0<=o/\o<=62):nHas (XP l) o=hasO l o:=by
 rw [YY,EA,BH,XL]
 constructor
 ·rintro ⟨h1,h2,v,hv,h3⟩;have:=hi v hv
  grind
 grind
theorem AV {l:List Vis} (hd:l.Nodup) {k:Nat} (hk:k<l.length):vIx l (nth l k)=(k:Int):=by
 refine Hy hk Zb fun j hj=> ?_
 grind [Ze,Br]
theorem PZ {l:List Vis} {v:Vis} (h:0<=vIx l v):(vIx l v).toNat<l.length/\nth l (vIx l v).toNat=v:=by
 grind [vIx,F6,VO,Ze]
theorem ZbQ {l:List Vis} {k:Nat} (hk:k<l.length):0<=vIx l (nth l k)/\vIx l (nth l k)<=(k:Int):=by
 grind [vIx,nth,Zq,F6,VO]
theorem QR {l:List Vis} {v:Vis} {i:Nat} (h:v∈l.take i): ∃j,j<i/\j<l.length/\nth l j=v:=by
 obtain ⟨j,hj,rfl⟩:=ZN.1 h;simp at hj;exact ⟨j,Za,Za,by grind [Ze]⟩
theorem Ex {l:List Vis} {i j:Nat} (h:j<i) (hl:j<l.length):nth l j∈l.take i:=by
 grind [Ze,ZN]
theorem AT {l:List Vis} :Kx l=false↔l.Nodup:=by
 rw [Kx,XS]
 constructor
 ·intro h;rw [List.nodup_iff_pairwise_ne,Br];intro i j hi hj hij e;have:=h j (by grind);simp only [Zl,WG] at this;refine this ?_;rw [Ze hj,<- e,<- Ze hi];exact Ex hij hi
 ·intro h j hj;simp only [Zl,WG]
  grind [QR,AV]
theorem Th {l:List Vis} :((List.range l.length).any fun i=>decide (vIx l (nth l i)≠(i:Int)))=Kx l:=by
 rw [YY]
 constructor
 ·grind [AV,AT]
 ·intro h;rw [Kx,UC] at h;obtain ⟨j,hj,h2⟩:=h;simp only [Zl,WG] at h2;obtain ⟨i,h3,h4,h5⟩:=QR h2
  grind
def EG (l:List Vis) (b:Int):Int:=F6 (fun v=>decide (v.order=b)) l
theorem HR {l:List Vis} {b:Int} :0<=EG l b↔ ∃v∈l,v.order=b:=by
 grind [Np,EG]
theorem Dx {l:List Vis} {b:Int} (h:0<=EG l b):(EG l b).toNat<l.length/\(nth l (EG l b).toNat).order=b/\ ∀j,j<(EG l b).toNat->(nth l j).order≠b:=by
 unfold EG F6 at h ⊢
 grind [VO,Ze]
theorem Zbe {l:List Vis} {b:Int} {k:Nat} (hk:k<l.length) (h:(nth l k).order=b):0<=EG l b/\EG l b<=(k:Int):=by
 have h0:0<=EG l b:=HR.2 ⟨_,Zq hk,h⟩;refine ⟨h0,?_⟩;obtain ⟨h1,h2,h3⟩:=Dx h0
 grind
theorem CW {l:List Vis} {a b:Int} :beforeB l a b=true↔(0<=EG l b->(∃v∈l,v.order=a)/\ ∀j,j<l.length->(nth l j).order=a->(j:Int)<EG l b):=by
 unfold beforeB;rw [show F6 (fun v=>decide (v.order=b)) l=EG l b from rfl]
 by_cases h:EG l b<0
 ·grind
 ·rw [if_neg h,Zt,XL]
  have h0:0<=EG l b:=Za
  obtain ⟨h1,h2,h3⟩:=Dx h0
  have hd:(!hasO (l.drop (EG l b).toNat) a)=true↔ ∀j,j<l.length->(nth l j).order=a->(j:Int)<EG l b:=by
   rw [Yr,<- VP,XL]
   constructor
   ·intro hno j hj e;rcases Int.lt_or_le (j:Int) (EG l b) with h4 | h4
    ·exact h4
    ·refine absurd ⟨nth l j,?_,e⟩ hno;rw [Ze hj];exact ZN.2 ⟨j-(EG l b).toNat,by simp;omega,by grind⟩
   ·rintro hall ⟨v,hv,e⟩;obtain ⟨j,hj,rfl⟩:=ZN.1 hv
    grind [Ze]
  grind
theorem M8 {x:Inst} {l:List Vis} (hi:Inr x l) (hn:x.orders.length<=60) {p:Int×Int} (h1:0<=p.1/\p.1<x.orders.length) (h2:0<=p.2/\p.2<x.orders.length) (hne:p.1≠p.2):U8 (XP l) l p=beforeB l p.1 p.2:=by
 rw [YY,CW,U8,Kf hi hn _ Za,Kf hi hn _ Za];simp only [Wf,Yr,Zt];rw [<- VP,XL,XL,<- HR,<- HR (b:=p.1)]
 constructor
 ·rintro (h | ⟨h3,h4⟩) h0
  ·omega
  ·refine ⟨h3,fun j hj e=> ?_⟩;rw [Zy] at h4;have h5:=h4 j (by grind);rw [Zy] at h5;obtain ⟨g1,g2,g3⟩:=Dx h0;rcases Int.lt_or_le (j:Int) (EG l p.2) with h6 | h6
   ·exact h6
   ·have hne2:j≠(EG l p.2).toNat:=fun e2=>hne (by grind);have:=h5 (EG l p.2).toNat (by simp;omega)
    grind [JG]
 ·intro h
  by_cases h0:0<=EG l p.2
  ·obtain ⟨h3,h4⟩:=h h0;refine .inr ⟨h3,?_⟩;rw [Zy];intro j hj;rw [Zy];intro k hk;simp at hj hk
   cases hb:JG l p.1 p.2 j k with
   | false=>rfl
   | true =>
    simp [JG] at hb;have h5:=h4 j hj hb.1;have h6:=(Zbe Za hb.2).2;omega
  omega
theorem oE {x:Inst} (hf:IFacts x) (l:List Vis):LW x l=Xi x l:=by
 by_cases ho:l.any (VG x)=true
 ·simp_all [LW,Xi]
 ·have ho':l.any (VG x)=false:=by grind
  have hi:Inr x l:=fun v hv=>by
   grind [VG]
  have hn:x.orders.length<=60:=by have:=hf.len;omega
  rw [LW,if_neg ho,Xi]
  by_cases h0:l.length=0
  ·omega
  ·have hc: ¬(l.length=0\/l.any (VG x)=true):=fun h=>h.elim h0 ho;rw [if_neg h0,if_neg hc,Th]
   have e1:apB x (XP l)=x.apart.any fun p=>hasO l p.1&&hasO l p.2:=by
    rw [apB,YY,UC,UC]
    have: ∀p∈x.apart,(nHas (XP l) p.1&&nHas (XP l) p.2)=(hasO l p.1&&hasO l p.2):=fun p hp=>by
     have:=hf.aval p hp
     grind [Kf]
    grind
   have e2:(x.before.all (U8 (XP l) l)=false)=((x.before.any fun p=> !beforeB l p.1 p.2)=true):=by
    have: ∀p∈x.before,U8 (XP l) l p=beforeB l p.1 p.2:=fun p hp=>by
     have:=hf.val p hp;exact M8 hi hn Za Za (hf.ne p hp)
    grind
   grind
def Yf (p:Pln):AM.Obj:= .cells [.p (.list p.routes_c (p.routes.map WA)),.p (.list p.unserved_c (p.unserved.map eI))]
def L6 (r:Rte):Prop:=r.visits.length<=1048576/\r.rests.length<=1048576
def YG (f:Nat->Int) (n:Nat):List Int:=(List.range n).map f
theorem BT {f n} :(YG f n).length=n:=by simp [YG]
theorem Ko {f:Nat->Int} {n j:Nat} (h:j<n):nth (YG f n) j=f j:=by grind [Ze,YG]
theorem H6 {f g:Nat->Int} {n:Nat} (h: ∀i,i<n->f i=g i):YG f n=YG g n:=YX fun i hi=>h i (ZL.1 hi)
theorem LZ {f n j v} :(YG f n).set j v=YG (fun i=>if i=j then v else f i) n:=by
 refine U1 (by simp [YG]) fun i h1 h2=> ?_
 have hi:i<n:=by grind [YG]
 rw [List.getElem_set];simp only [YG,List.getElem_map,List.getElem_range];omega
def ZZ (rs:List Rte):Nat->Nat->Int
 | 0,_=> -1
 | k+1,o=>if hasO (nth rs k).visits (o:Int)=true then (k:Int) else ZZ rs k o
theorem Uf {rs:List Rte} {o:Nat} : ∀k:Nat,-1<=ZZ rs k o/\ZZ rs k o<(k:Int)
 | 0=>by simp [ZZ]
 | k+1=>by
  have:=Uf (rs:=rs) (o:=o) k
  grind [ZZ]
def Qs (rs:List Rte) (k:Nat) (l:List Vis) (o:Nat):Int:=if hasO l (o:Int)=true then (k:Int) else ZZ rs k o
def Od (n:Nat) (v:Vis):Bool:=decide (v.order<0)||decide ((n:Int)<=v.order)
def Ah (x:Inst) (r:Rte):Bool:=(decide (r.typ<0)||decide ((x.types.length:Int)<=r.typ))||r.visits.any (Od x.orders.length)
def PW (rs:List Rte) (k:Nat) (l:List Vis):Bool:=l.any fun v=>decide (0<=ZZ rs k v.order.toNat)
def Mz (rs:List Rte):Nat->Bool
 | 0=>false
 | k+1=>Mz rs k||PW rs k (nth rs k).visits
def V2 (x:Inst) (p:Pln):Int:=if p.routes.any (Ah x)=true then 2 else if Mz p.routes p.routes.length=true then 6 else 0
def UT (rs:List Rte) (i:Int):Int:=if 0<=i then (nth rs i.toNat).typ else-1
def US (x:Inst) (p:Pln):List Int:=YG (fun o=>UT p.routes (ZZ p.routes p.routes.length o)) x.orders.length
theorem Bn {x p} :(US x p).length=x.orders.length:=BT
theorem R3 {l:List Vis} {v:Vis} {o:Int} :hasO (l++ [v]) o=(hasO l o||decide (v.order=o)):=by simp [hasO]
theorem Sj {rs:List Rte} {k:Nat} {l:List Vis} {v:Vis} {n:Nat} (h:0<=v.order/\v.order<(n:Int)):(YG (Qs rs k l) n).set v.order.toNat (k:Int)=YG (Qs rs k (l++ [v])) n:=by
 rw [LZ];refine H6 fun i hi=> ?_;rw [Qs,Qs,R3]
 grind
theorem eE {rs:List Rte} {k:Nat} :Qs rs k (nth rs k).visits=ZZ rs (k+1):=funext fun o=>rfl
theorem Zhl {rs:List Rte} {k:Nat} :Qs rs k []=ZZ rs k:=funext fun o=>by rfl
theorem eG {rs:List Rte} {k:Nat} {l:List Vis} {o:Nat} : -1<=Qs rs k l o/\Qs rs k l o<=(k:Int):=by
 have:=Uf (rs:=rs) (o:=o) k
 grind [Qs]
theorem iQ {rs:List Rte} {k:Nat} {l:List Vis} {v:Vis} (h:0<=v.order) {b:Bool} :((b||PW rs k l)||(decide (Qs rs k l v.order.toNat≠ -1)&&decide (Qs rs k l v.order.toNat≠(k:Int))))=(b||PW rs k (l++ [v])):=by
 have hr:=Uf (rs:=rs) (o:=v.order.toNat) k
 have e:PW rs k (l++ [v])=(PW rs k l||decide (0<=ZZ rs k v.order.toNat)):=by simp [PW]
 rw [e,Qs]
 by_cases c:hasO l (v.order.toNat:Int)=true
 ·rw [if_pos c]
  grind [PW,XL]
 grind
theorem Ls {x:Inst} {p:Pln} {k:Nat} (h:k<p.routes.length) (hb:Ah x (nth p.routes k)=true):V2 x p=2:=by
 rw [V2,if_pos (UC.2 ⟨_,Zq h,hb⟩)]
theorem oD {x:Inst} {p:Pln} (h: ∀j,j<p.routes.length->Ah x (nth p.routes j)=false):p.routes.any (Ah x)=false:=by
 rw [XS];intro r hr;obtain ⟨j,hj,rfl⟩:=ZN.1 hr
 grind [Ze]
theorem HF {x:Inst} {p:Pln} (h: ∀j,j<p.routes.length->Ah x (nth p.routes j)=false):V2 x p=if Mz p.routes p.routes.length=true then 6 else 0:=by
 rw [V2,oD h];simp
set_option maxRecDepth 60000
def Sb : List Rte->Int->Int
 | [],_=> -1
 | r::t,o=>if hasO r.visits o=true then r.typ else Sb t o
theorem bR {α:Type} [Inhabited α] {l:List α} {k:Nat} (h:k<l.length):l.drop k=nth l k::l.drop (k+1):=by rw [Uv h,Ze h]
theorem R2 {v:Vis} {l:List Vis} {o:Int} :hasO (v::l) o=(decide (v.order=o)||hasO l o):=rfl
theorem Zba {P Q:Prop} (h:Q) (e:Q->P:=by intro h;simp (disch:=omega) only [Yf,go_sem,seval];exact h):P:=e h
theorem Zdv (p:Pln) (o:Int) (hr:p.routes.length<=1048576) (hv: ∀r∈p.routes,r.visits.length<=1048576) :
  PC 133 [.p (UR p),.p (.int .i64 o)] (.int .i64 (Sb p.routes o)):=by
 refine Zc Tryz.func133 rfl wR ?_;simp (disch:=omega) only [Tryz.f133,go_sem,seval];refine Zk [1,2] (fun k:Nat=> [(5,.p (.int .i64 k))]) (fun _=> [Yf p]) (fun k=>k<=p.routes.length/\Sb p.routes o=Sb (p.routes.drop k) o) (fun k=>p.routes.length-k) 0 Zb (Weak.mk ?_) ?_
 ·simp (disch:=omega) only [Yf,go_sem,seval]
 ·rintro k ⟨hk,he⟩;refine Zba ?_;refine cD ?_ ?_<;>intro h<;>simp (disch:=omega) only [Sh.out h,go_sem,seval,↓reduceIte]
  ·have hk2:k<p.routes.length:=Za
   have hvl:=hv _ (Zq hk2);rw [bR hk2,Sb] at he;refine Zk [1,2,5] (fun q:Nat=> [(6,.p (.int .i64 q))]) (fun _=> [Yf p]) (fun q=>q<=(nth p.routes k).visits.length/\hasO (nth p.routes k).visits o=hasO ((nth p.routes k).visits.drop q) o) (fun q=>(nth p.routes k).visits.length-q) 0 Zb (Weak.mk ?_) ?_
   ·simp (disch:=omega) only [Yf,go_sem,seval]
   ·rintro q ⟨hq,hh⟩;refine Zba ?_;refine ZP ?_ ?_<;>intro h2
    ·have hq2:q<(nth p.routes k).visits.length:=Za
     rw [bR hq2,R2] at hh;refine ZP ?_ ?_<;>intro h3
     ·grind
     ·rw [YZ h3,Bool.false_or] at hh;exact ⟨q+1,⟨Za,hh⟩,Za,wk⟩
    ·have hql:q=(nth p.routes k).visits.length:=Za
     rw [hql,U0] at hh;rw [if_neg (by grind [hasO])] at he;exact ⟨k+1,⟨Za,he⟩,Za,wk⟩
  grind [Sb]
def nW (rs:List Rte) (o:Int):Nat->Nat
 | 0=>0
 | k+1=>nW rs o k+if hasO (nth rs k).visits o=true then 1 else 0
theorem Zhq {rs:List Rte} {o:Int} : ∀k,nW rs o k<=k
 | 0=>by simp [nW]
 | k+1=>by have:=Zhq (rs:=rs) (o:=o) k;rw [nW];split<;>omega
theorem Cu {rs:List Rte} {o:Int} : ∀ {k:Nat},1<=nW rs o k↔ ∃a,a<k/\hasO (nth rs a).visits o=true
 | 0=>by simp [nW]
 | k+1=>by
  rw [nW]
  constructor
  ·intro h
   by_cases c:hasO (nth rs k).visits o=true
   ·grind
   ·rw [if_neg c] at h;obtain ⟨a,h1,h2⟩:=Cu.1 (show 1<=nW rs o k by omega);exact ⟨a,Za,h2⟩
  ·rintro ⟨a,h1,h2⟩
   by_cases c:a=k
   ·grind
   ·have:=Cu.2 ⟨a,show a<k by omega,h2⟩;omega
theorem eV {rs:List Rte} {o:Int} : ∀ {k:Nat},2<=nW rs o k↔ ∃a b,a<b/\b<k/\hasO (nth rs a).visits o=true/\hasO (nth rs b).visits o=true
 | 0=>by simp [nW]
 | k+1=>by
  rw [nW]
  constructor
  ·intro h
   by_cases c:hasO (nth rs k).visits o=true
   ·rw [if_pos c] at h
    grind [Cu]
   ·rw [if_neg c] at h;obtain ⟨a,b,h1,h2,h3⟩:=eV.1 (show 2<=nW rs o k by omega);exact ⟨a,b,h1,Za,h3⟩
  ·rintro ⟨a,b,h1,h2,h3,h4⟩
   by_cases c:b=k
   ·subst c;have:=Cu.2 ⟨a,h1,h3⟩
    grind
   ·have:=eV.2 ⟨a,b,h1,show b<k by omega,h3,h4⟩;omega
theorem KN {rs:List Rte} {o:Nat} : ∀ {k:Nat},0<=ZZ rs k o↔ ∃a,a<k/\hasO (nth rs a).visits (o:Int)=true
 | 0=>by simp [ZZ]
 | k+1=>by
  rw [ZZ]
  constructor
  ·intro h
   by_cases c:hasO (nth rs k).visits (o:Int)=true
   ·grind
   ·rw [if_neg c] at h;obtain ⟨a,h1,h2⟩:=KN.1 h;exact ⟨a,Za,h2⟩
  ·rintro ⟨a,h1,h2⟩
   by_cases c:hasO (nth rs k).visits (o:Int)=true
   ·grind
   ·rw [if_neg c];refine KN.2 ⟨a,?_,h2⟩
    grind
theorem Il {rs:List Rte} : ∀ {k:Nat},(∀j,j<k-> ∀v∈(nth rs j).visits,0<=v.order)->(Mz rs k=true↔ ∃o:Nat,2<=nW rs (o:Int) k/\ ∃j,j<k/\hasO (nth rs j).visits (o:Int)=true)
 | 0,_=>by simp [Mz,nW]
 | k+1,h=>by
  rw [Mz,Wf,Il fun j hj=>h j Za]
  constructor
  ·rintro (⟨o,h1,j,h2,h3⟩ | h1)
   ·grind [nW]
   ·rw [PW,UC] at h1;obtain ⟨v,hv,h2⟩:=h1;have h3:=KN.1 (KS h2);have h4:=Cu.2 h3;have h5:hasO (nth rs k).visits (v.order.toNat:Int)=true:=XL.2 ⟨v,hv,by grind⟩;exact ⟨v.order.toNat,by simp_all [nW],k,Za,h5⟩
  ·rintro ⟨o,h1,_⟩;rw [nW] at h1
   by_cases c:hasO (nth rs k).visits (o:Int)=true
   ·rw [if_pos c] at h1;refine .inr ?_;obtain ⟨v,hv,e⟩:=XL.1 c;rw [PW,UC];refine ⟨v,hv,YJ ?_⟩
    simp_all [KN,Cu]
   grind
theorem R8 {x:Inst} {p:Pln} (h:V2 x p=0):(∀r∈p.routes,Ah x r=false)/\Mz p.routes p.routes.length=false:=by
 grind [V2]
theorem Kk {x:Inst} {r:Rte} (h:Ah x r=false):(0<=r.typ/\r.typ<(x.types.length:Int))/\ ∀v∈r.visits,0<=v.order/\v.order<(x.orders.length:Int):=by
 simp_all [Ah,Od]
def Qu {α:Type} (f:Nat->α) (n:Nat):List α:=(List.range n).map f
section
variable {α : Type} {f g : Nat -> α} {n j : Nat}
theorem YS : (Qu f n).length=n:=by simp [Qu]
theorem UJ [Inhabited α] (h:j<n):nth (Qu f n) j=f j:=by grind [Ze,Qu]
theorem Jw (h: ∀i,i<n->f i=g i):Qu f n=Qu g n:=YX fun i hi=>h i (ZL.1 hi)
theorem L4 {v:α} :(Qu f n).set j v=Qu (fun i=>if i=j then v else f i) n:=by
 refine U1 (by simp [Qu]) fun i h1 h2=> ?_;rw [List.getElem_set];simp only [Qu,List.getElem_map,List.getElem_range]
 grind
theorem SV [Inhabited α] {l:List α} :Qu (nth l) l.length=l:=by
 refine U1 YS fun i h1 h2=> ?_;rw [<- Ze h1,UJ h2,Ze h2]
end
def J1 (l:List Ord) (s:List UInt8):Int:=match l.findIdx? (fun o=>decide (o.name=s)) with | some i=>(i:Int) | none=> -1
theorem mL {l:List Ord} {s:List UInt8} {k:Nat} (hk:k<l.length) (h:(nth l k).name=s) (hno: ∀j,j<k->(nth l j).name≠s):J1 l s=(k:Int):=by
 have:l.findIdx? (fun o=>decide (o.name=s))=some k:=by
  grind [VO,Ze]
 simp [J1,this]
theorem mM {l:List Ord} {s:List UInt8} (hno: ∀j,j<l.length->(nth l j).name≠s):J1 l s= -1:=by
 have:l.findIdx? (fun o=>decide (o.name=s))=none:=by
  rw [List.findIdx?_eq_none_iff];intro x hx;obtain ⟨j,hj,rfl⟩:=ZN.1 hx
  grind [Ze]
 simp [J1,this]
theorem Eg {l:List Ord} {s:List UInt8} : -1<=J1 l s/\J1 l s<(l.length:Int):=by
 grind [J1,VO]
def sU : Inst:=⟨⟨true,[],true,[]⟩,true,[],true,[],true,[],true,[]⟩
def Ej (x:Inst) (j:Nat):Ord:= { nth x.orders j with now:= -1 }
def JX (x b:Inst) (p:Pln) (j:Nat):Ord :=
 if 0<=J1 b.orders (nth x.orders j).name/\0<=nth (US b p) (J1 b.orders (nth x.orders j).name).toNat then { Ej x j with last:=nth (US b p) (J1 b.orders (nth x.orders j).name).toNat } else Ej x j
def Fw (x b:Inst) (p:Pln):Inst:= { x with orders_c:=false,orders:=Qu (JX x b p) x.orders.length }
def Tu (x b:Inst) (p:Pln):Int:=if x.types.length=b.types.length then V2 b p else 2
def crT (x b:Inst) (p:Pln):V:= .tup [.p (ZF (if Tu x b p=0 then Fw x b p else sU)),.p (.int .i64 (Tu x b p))]
theorem dS {x:Inst} {p:Pln} (h:V2 x p=0) {j:Nat} (hj:j<x.orders.length): -1<=nth (US x p) j/\nth (US x p) j<(x.types.length:Int):=by
 obtain ⟨h1,_⟩:=R8 h;rw [US,Ko hj,UT];have hr:=Uf (rs:=p.routes) (o:=j) p.routes.length
 split
 ·have:=(Kk (h1 _ (Zq (show (ZZ p.routes p.routes.length j).toNat<p.routes.length by omega)))).1;omega
 ·omega
theorem Hr {x b:Inst} {p:Pln} {j:Nat} : ∃v:Int,JX x b p j= { nth x.orders j with now:= -1,last:=v } /\((v=(nth x.orders j).last)\/(V2 b p=0->0<=v/\v<(b.types.length:Int))):=by
 rw [JX]
 split
 ·rename_i h;refine ⟨_,rfl,.inr fun h0=> ?_⟩;have:=dS h0 (j:=(J1 b.orders (nth x.orders j).name).toNat) (by simp_all [Eg]);omega
 ·exact ⟨_,rfl,.inl rfl⟩
theorem bJ {x b:Inst} {p:Pln} (hx:InstOk x) (h:Tu x b p=0):InstOk (Fw x b p):=by
 rw [Tu] at h
 split at h
 rotate_left
 ·omega
 rename_i ht;have hlen:(Fw x b p).orders.length=x.orders.length:=YS;have hn: ∀i,i<x.orders.length->nth (Fw x b p).orders i=JX x b p i:=fun i hi=>UJ hi;refine ⟨hx.net,hx.types,⟨by rw [hlen];exact hx.orders.1,fun i hi=> ?_⟩,by rw [hlen];exact hx.rules⟩;rw [hlen] at hi;have ho:=hx.orders.2 i hi;obtain ⟨v,e,hv⟩:=Hr (x:=x) (b:=b) (p:=p) (j:=i)
 constructor
 ·rw [hn i hi,e];exact ho.name
 ·intro j hj;obtain ⟨v2,e2,_⟩:=Hr (x:=x) (b:=b) (p:=p) (j:=j);rw [hn i hi,hn j Za,e,e2];exact ho.twin j hj
 ·rw [hn i hi,e];exact ho.load
 ·rw [hn i hi,e];exact ho.pick
 ·rw [hn i hi,e];exact ho.drp
 ·rw [hn i hi,e];exact ho.one
 ·rw [hn i hi,e];exact ho.pstp
 ·rw [hn i hi,e];exact ho.dstp
 ·rw [hn i hi,e];exact ho.skills
 ·rw [hn i hi,e];have ha:=ho.arg
  show argOk _ (x.types.length:Int)=true
  simp only [argOk,Zt,Zl] at ha ⊢;obtain ⟨⟨a1,a2⟩,a3,a4,a5,a6,a7⟩:=ha;refine ⟨⟨a1,a2⟩,a3,?_⟩;omega
end Go.Proofs.YtiigdaohjanidaaGreatDoor.K
namespace Go.Proofs.YtiigdaohjanidaaGreatDoor.K
section
variable {L : Type} (fin : L -> Int) (beats : L -> L -> Bool) (nxt : Nat -> L -> Bool -> Option L) (choices : Nat -> List Bool)
def Vj : Option L->List L->Option L
 | b,[]=>b
 | none,x::l=>Vj (some x) l
 | some m,x::l=>if fin x<fin m then Vj (some x) l else Vj (some m) l
theorem KK : ∀(b:Option L) (l r:List L),Vj fin b (l++r)=Vj fin (Vj fin b l) r
 | b,[],r=>by rfl
 | none,x::l,r=>by rw [ZY,Vj,Vj,KK]
 | some m,x::l,r=>by
  rw [ZY,Vj,Vj]
  split
  ·rw [KK]
  ·rw [KK]
theorem QF : ∀(l:List L) (m:L),∃z,Vj fin (some m) l=some z/\fin z<=fin m/\ ∀y∈l,fin z<=fin y
 | [],m=>⟨m,rfl,Za,Zb⟩
 | x::l,m=>by
  rw [Vj]
  split
  ·rename_i h;obtain ⟨z,e,h1,h2⟩:=QF l x
   grind
  ·rename_i h;obtain ⟨z,e,h1,h2⟩:=QF l m
   grind
theorem Lh : ∀(l:List L) (m:L),(∀y∈l,fin m<=fin y)->Vj fin (some m) l=some m
 | [],m,_=>rfl
 | x::l,m,h=>by
  have:=h x List.mem_cons_self;rw [Vj,if_neg Za];exact Lh l m fun y hy=>h y (Ym _ hy)
theorem RY (A B:List L) (h: ∀y∈B,∃z∈A,fin z<=fin y):Vj fin none (A++B)=Vj fin none A:=by
 rw [KK]
 cases A with
 | nil=>cases B with
  | nil=>rfl
  | cons y B=>grind [List.mem_cons_self]
 | cons a A =>
  rw [Vj];obtain ⟨z,e,h1,h2⟩:=QF fin A a;rw [e];refine Lh fin B z fun y hy=> ?_
  grind
def XU : List L->List L->List L
 | out,[]=>out
 | out,x::l=>if out.any (fun m=>beats m x)=true then XU out l else XU (out++ [x]) l
theorem Ci {R:L->List L} : ∀(c out:List L),(∀x∈out++c,∀m∈out++c,beats m x=true-> ∀y∈R x,∃z∈R m,fin z<=fin y)->Vj fin none ((XU beats out c).flatMap R)=Vj fin none ((out++c).flatMap R)
 | [],out,_=>by simp [XU]
 | x::c,out,h=>by
  rw [XU]
  split
  ·rename_i hb;obtain ⟨m,hm,hb⟩:=UC.1 hb
   have hb:beats m x=true:=by simpa using hb
   rw [Ci c out (fun a ha b hb=>h a (by simp only [Xr,Xs] at ha ⊢;rcases ha with h | h<;>simp [h]) b (by simp only [Xr,Xs] at hb ⊢;rcases hb with h | h<;>simp [h]))];rw [List.flatMap_append,List.flatMap_append,Jc,<- Uz,KK,KK (l:=out.flatMap R++R x)];rw [RY fin (out.flatMap R) (R x)];intro y hy;obtain ⟨z,hz,hle⟩:=h x Zb m (by simp [hm]) hb y hy;exact ⟨z,We.2 ⟨m,hm,hz⟩,hle⟩
  ·rw [Ci c (out++ [x]) (by simpa using h)];simp
theorem K7 : ∀(c out:List L),∀x∈XU beats out c,x∈out++c
 | [],out,x,h=>by grind [XU]
 | a::c,out,x,h=>by
  rw [XU] at h
  split at h
  ·have:=K7 c out x h;simp only [Xr,Xs] at this ⊢;rcases this with h | h<;>simp [h]
  ·have:=K7 c (out++ [a]) x h;simpa using this
def Hx : Nat->Nat->List (List Bool)
 | 0,_=> [[]]
 | j+1,k=>(choices k).flatMap fun b=>(Hx j (k+1)).map (b:: ·)
def Vi : Nat->L->List Bool->Option L
 | _,x,[]=>some x
 | k,x,b::bs=>match nxt k x b with
  | some y=>Vi (k+1) y bs
  | none=>none
def Vb (j k:Nat) (x:L):List L:=(Hx choices j k).filterMap (Vi nxt k x)
def WS (k:Nat) (l:List L):List L:=l.flatMap fun x=>(choices k).filterMap (nxt k x)
def JF : Nat->Nat->List L->List L
 | 0,_,l=>l
 | j+1,k,l=>JF j (k+1) (XU beats [] (WS nxt choices k l))
theorem N1 (k:Nat) (x:L):Vb nxt choices 0 k x= [x]:=rfl
theorem EQ (j k:Nat) (x:L):Vb nxt choices (j+1) k x=((choices k).filterMap (nxt k x)).flatMap (Vb nxt choices j (k+1)):=by
 unfold Vb;rw [Hx]
 induction choices k with
 | nil=>rfl
 | cons b bs ih =>
  rw [Jc,List.filterMap_append,ih,List.filterMap_cons]
  cases h:nxt k x b with
  | none =>
   simp_all [Vi]
  | some y =>
   rw [List.filterMap_map]
   have:(Vi nxt k x∘fun l=>b::l)=Vi nxt (k+1) y:=by grind [Vi]
   grind
theorem GF {n:Nat} {Inv:Nat->L->Prop} (hI: ∀k x b y,Inv k x->nxt k x b=some y->Inv (k+1) y) (hd: ∀k m x b y,Inv k m->Inv k x->beats m x=true->nxt k x b=some y-> ∃z,nxt k m b=some z/\beats z y=true)
  (he: ∀m x,Inv n m->Inv n x->beats m x=true->fin m<=fin x): ∀(j k:Nat) (m x:L),k+j=n->Inv k m->Inv k x->beats m x=true-> ∀y∈Vb nxt choices j k x,∃z∈Vb nxt choices j k m,fin z<=fin y
 | 0,k,m,x,hk,h1,h2,hb,y,hy=>by
  grind [N1]
 | j+1,k,m,x,hk,h1,h2,hb,y,hy=>by
  rw [EQ] at hy ⊢;obtain ⟨q,hq,hy⟩:=We.1 hy;obtain ⟨b,hbm,hn⟩:=By.1 hq;obtain ⟨z,hz,hzb⟩:=hd k m x b q h1 h2 hb hn;obtain ⟨u,hu,hle⟩:=GF hI hd he j (k+1) z q Za (hI k m b z h1 hz) (hI k x b q h2 hn) hzb y hy
  grind
theorem Pd {n:Nat} {Inv:Nat->L->Prop} (hI: ∀k x b y,Inv k x->nxt k x b=some y->Inv (k+1) y) (hd: ∀k m x b y,Inv k m->Inv k x->beats m x=true->nxt k x b=some y-> ∃z,nxt k m b=some z/\beats z y=true)
  (he: ∀m x,Inv n m->Inv n x->beats m x=true->fin m<=fin x): ∀(j k:Nat) (l:List L),k+j=n->(∀x∈l,Inv k x)->Vj fin none (JF beats nxt choices j k l)=Vj fin none (l.flatMap (Vb nxt choices j k))
 | 0,k,l,hk,hl=>by
  have:l.flatMap (Vb nxt choices 0 k)=l:=by
   have:Vb nxt choices 0 k=fun x=> [x]:=by rfl
   rw [this];simp
  rw [this];rfl
 | j+1,k,l,hk,hl=>by
  have hc: ∀x∈WS nxt choices k l,Inv (k+1) x:=fun x hx=>by
   obtain ⟨q,hq,hx⟩:=We.1 hx
   grind
  have e:l.flatMap (Vb nxt choices (j+1) k)=(WS nxt choices k l).flatMap (Vb nxt choices j (k+1)):=by
   rw [WS,List.flatMap_assoc]
   congr 1
   grind [EQ]
  rw [JF,Pd hI hd he j (k+1) _ Za (fun x hx=>hc x (by simpa using K7 beats _ _ x hx)),Ci fin beats _ _ (fun x hx m hm hb y hy=> ?_),e]
  ·simp
  ·exact GF fin beats nxt choices hI hd he j (k+1) m x Za (hc m (by grind)) (hc x (by grind)) hb y hy
def Y5 : List Bool->List (List Bool)
 | []=> [[]]
 | b::bs=>if b then (Y5 bs).map (true:: ·) else (Y5 bs).map (false:: ·)++(Y5 (List.replicate bs.length false)).map (true:: ·)
termination_by l => l.length
decreasing_by all_goals simp
def Yd : List Bool->Option (List Bool)
 | []=>none
 | b::bs=>match Yd bs with
  | some l=>some (b::l)
  | none=>if b then none else some (true::List.replicate bs.length false)
theorem fromB_next : ∀l:List Bool,Y5 l=l::(match Yd l with | some r=>Y5 r | none=> [])
 | []=>by simp [Y5,Yd]
 | b::bs=>by
  have ih:=fromB_next bs
  have e0: ∀l:List Bool,Y5 (true::l)=(Y5 l).map (true:: ·):=fun l=>by rw [Y5];simp
  have e1: ∀l:List Bool,Y5 (false::l)=(Y5 l).map (false:: ·)++(Y5 (List.replicate l.length false)).map (true:: ·):=fun l=>by rw [Y5];simp
  cases b with
  | true =>
   rw [e0,ih,Yd]
   cases h:Yd bs with
   | none=>simp
   | some r=>simp [e0]
  | false =>
   rw [e1,ih,Yd]
   cases h:Yd bs with
   | none=>simp [e0]
   | some r =>
    have hl:r.length=bs.length:=nlen bs r h;simp [e1,hl]
where nlen : ∀(l r:List Bool),Yd l=some r->r.length=l.length
 | [],r,h=>by simp [Yd] at h
 | b::bs,r,h=>by
  rw [Yd] at h
  cases h2:Yd bs with
  | none =>
   grind
  | some q =>
   rw [h2] at h;simp at h;subst h;simp [nlen bs q h2]
theorem I6 {n:Nat} : ∀(j k:Nat),(∀q,k<=q->choices q= [false,true])->Hx choices j k=Y5 (List.replicate j false)
 | 0,k,_=>by simp [Hx,Y5]
 | j+1,k,h=>by
  rw [Hx,h k (Xg _),I6 (n:=n) j (k+1) (fun q hq=>h q Za),AI,Y5];simp
end
end Go.Proofs.YtiigdaohjanidaaGreatDoor.K
namespace Go.Proofs.YtiigdaohjanidaaGreatDoor.K
open Go Go.AM Go.Proofs
def FE (x:Inst) (l:List Vis) (n i:Nat):Bool:=(l.take n).foldl (fun on v=>if v.order=(i:Int) then !v.drp else on) (decide ((nth x.orders i).pick.place<0))
theorem fC {x:Inst} {l:List Vis} {i:Nat} :FE x l 0 i=decide ((nth x.orders i).pick.place<0):=by simp [FE]
theorem EI {x:Inst} {l:List Vis} {n i:Nat} (h:n<l.length):FE x l (n+1) i=if (nth l n).order=(i:Int) then !(nth l n).drp else FE x l n i:=by
 grind [FE,Xm,Ze]
structure SqOk (x:Inst) (l:List Vis):Prop where
 ne:l≠ []
 inr:Inr x l
 nd:l.Nodup
 pair: ∀v∈l,pairB x.orders l v=true
theorem Ua {x:Inst} {l:List Vis} (h:Xi x l=0):SqOk x l:=by
 unfold Xi at h
 split at h
 ·simp at h
 ·rename_i h1
  split at h
  ·simp at h
  ·split at h
   ·simp at h
   ·rename_i h3
    split at h
    ·simp at h
    ·rename_i h4;refine ⟨fun e=>h1 (.inl (by simp [e])),fun v hv=> ?_,AT.1 (by grind),fun v hv=> ?_⟩
     ·grind [VG]
     grind
structure OwnV (x:Inst) (l:List Vis) (i:Nat):Prop where
 pick:0<=(nth x.orders i).pick.place->(⟨i,false⟩:Vis)∈l
 drp:0<=(nth x.orders i).drp.place->(⟨i,true⟩:Vis)∈l
 both:0<=(nth x.orders i).pick.place->0<=(nth x.orders i).drp.place->vIx l ⟨i,false⟩<vIx l ⟨i,true⟩
 isP:(⟨i,false⟩:Vis)∈l->0<=(nth x.orders i).pick.place
 isD:(⟨i,true⟩:Vis)∈l->0<=(nth x.orders i).drp.place
theorem SqOk.own {x:Inst} {l:List Vis} (h:SqOk x l) {i:Nat} (hi: ∃v∈l,v.order=(i:Int)):OwnV x l i:=by
 obtain ⟨v0,hv0,ho⟩:=hi
 have key: ∀v∈l,v.order=(i:Int)->v∈Z0 x.orders i/\Qf l (-1) (Z0 x.orders i)=true:=fun v hv hvo=>by
  have:=h.pair v hv;simp only [pairB,hvo,X3,Zt,Zl] at this;exact ⟨WG.1 this.1,this.2⟩
 obtain ⟨_,hasc⟩:=key v0 hv0 ho;have mem: ∀b:Bool,(⟨i,b⟩:Vis)∈l->(⟨i,b⟩:Vis)∈Z0 x.orders i:=fun b hb=>(key _ hb rfl).1
 have hp:(⟨i,false⟩:Vis)∈Z0 x.orders i->0<=(nth x.orders i).pick.place:=fun hm=>by
  unfold Z0 at hm
  grind
 have hd:(⟨i,true⟩:Vis)∈Z0 x.orders i->0<=(nth x.orders i).drp.place:=fun hm=>by
  unfold Z0 at hm
  grind
 have m1: ∀v,-1<vIx l v->v∈l:=fun v hv=>WG.1 Za;unfold Z0 at hasc
 by_cases c1:0<=(nth x.orders i).pick.place<;>by_cases c2:0<=(nth x.orders i).drp.place
 ·simp only [c1,c2,if_true,ZY,Xh,Qf,Jg,Zt,Zl] at hasc;exact ⟨fun _=>m1 _ hasc.1,fun _=>m1 _ Za,fun _ _=>hasc.2,fun _=>c1,fun _=>c2⟩
 ·simp only [c1,c2,if_true,Yv,Qq,Qf,Jg,Zl] at hasc;exact ⟨fun _=>m1 _ hasc,fun h=>absurd h c2,fun _ h=>absurd h c2,fun _=>c1,fun hm=>hd (mem _ hm)⟩
 ·simp only [c1,c2,if_true,Yv,Xh,Qf,Jg,Zl] at hasc;exact ⟨fun h=>absurd h c1,fun _=>m1 _ hasc,fun h=>absurd h c1,fun hm=>hp (mem _ hm),fun _=>c2⟩
 ·exact ⟨fun h=>absurd h c1,fun h=>absurd h c2,fun h=>absurd h c1,fun hm=>hp (mem _ hm),fun hm=>hd (mem _ hm)⟩
theorem QQ {l:List Vis} (hn:l.Nodup) {v:Vis} {n:Nat} :v∈l.take n↔0<=vIx l v/\vIx l v<(n:Int):=by
 constructor
 ·intro h;obtain ⟨j,h1,h2,rfl⟩:=QR h
  grind [AV]
 ·intro ⟨h1,h2⟩;obtain ⟨h3,h4⟩:=PZ h1
  grind [Ex]
theorem fB {x:Inst} {l:List Vis} (h:SqOk x l) (i:Nat): ∀n,n<=l.length->FE x l n i=if (⟨i,true⟩:Vis)∈l.take n then false else if (⟨i,false⟩:Vis)∈l.take n then true else decide ((nth x.orders i).pick.place<0)
 | 0,_=>by simp [FE]
 | n+1,hn=>by
  have hk:n<l.length:=Za
  have hat:=AV h.nd hk;rw [EI hk,fB h i n Za]
  by_cases c:(nth l n).order=(i:Int)
  ·rw [if_pos c];have ho:=h.own (i:=i) ⟨nth l n,Zq hk,c⟩
   cases hd:(nth l n).drp with
   | true =>
    have hv:nth l n=⟨i,true⟩:=by rw [<- c,<- hd]
    rw [hv] at hat;have:(⟨i,true⟩:Vis)∈l.take (n+1):=(QQ h.nd).2 Za;rw [if_pos this];rfl
   | false =>
    have hv:nth l n=⟨i,false⟩:=by rw [<- c,<- hd]
    rw [hv] at hat;have h1:(⟨i,false⟩:Vis)∈l.take (n+1):=(QQ h.nd).2 Za
    have h2: ¬(⟨i,true⟩:Vis)∈l.take (n+1):=fun hm=>by
     have h3:=Jm hm;have h4:=(QQ h.nd).1 hm;have h5:=ho.both (ho.isP (Jm h1)) (ho.isD h3);omega
    rw [if_neg h2,if_pos h1];rfl
  ·rw [if_neg c]
   have e: ∀b:Bool,((⟨i,b⟩:Vis)∈l.take (n+1))=((⟨i,b⟩:Vis)∈l.take n):=fun b=>by
    rw [Xm hk,Xr,<- Ze hk];refine propext ⟨fun hm=>hm.resolve_right fun hm=> ?_,.inl⟩;simp at hm;exact c (by rw [<- hm])
   simp only [e]
theorem Zbi {x:Inst} {l:List Vis} (h:SqOk x l) {k i:Nat} (hk:k<l.length) (hi:(nth l k).order=(i:Int)):FE x l k i=(nth l k).drp:=by
 have hat:=AV h.nd hk;have ho:=h.own (i:=i) ⟨nth l k,Zq hk,hi⟩;have hm:=Zq hk;rw [fB h i k Za]
 cases hd:(nth l k).drp with
 | true =>
  have hv:nth l k=⟨i,true⟩:=by rw [<- hi,<- hd]
  rw [hv] at hat hm
  have h1: ¬(⟨i,true⟩:Vis)∈l.take k:=fun hm=>by have:=(QQ h.nd).1 hm;omega
  rw [if_neg h1]
  by_cases c:0<=(nth x.orders i).pick.place
  ·have h2:=ho.both c (ho.isD hm);have h3:(⟨i,false⟩:Vis)∈l.take k:=(QQ h.nd).2 ⟨WG.2 (ho.pick c),Za⟩
   grind
  grind
 | false =>
  have hv:nth l k=⟨i,false⟩:=by rw [<- hi,<- hd]
  rw [hv] at hat hm;have hp:=ho.isP hm
  have h1: ¬(⟨i,false⟩:Vis)∈l.take k:=fun hm=>by have:=(QQ h.nd).1 hm;omega
  grind
theorem oX {f g:Nat->Int} {i:Nat} (h: ∀q,q≠i->f q=g q): ∀n,i<n->((List.range n).map f).sum=((List.range n).map g).sum+(f i-g i):=by
 have same: ∀n,n<=i->((List.range n).map f).sum=((List.range n).map g).sum:=fun n hn=>by
  grind [YX]
 intro n
 induction n with
 | zero=>omega
 | succ n ih =>
  intro hi;simp only [Yu,XY,ZG,Zo,List.sum_append,KX,List.sum_nil]
  grind
theorem PQ {f:Nat->Int} {b:Int} (hb:0<=b) (h: ∀q,0<=f q/\f q<=b): ∀n:Nat,0<=((List.range n).map f).sum/\((List.range n).map f).sum<=b*n
 | 0=>Zb
 | n+1=>by
  have ih:=PQ hb h n
  grind [Yu]
theorem JA {p:Nat->Bool} {f:Nat->Int} : ∀l:List Nat,((l.filter p).map f).sum=(l.map fun i=>if p i=true then f i else 0).sum
 | []=>rfl
 | a::l=>by
  rw [List.filter_cons,ZG,KX]
  by_cases h:p a=true
  ·rw [if_pos h,ZG,KX,JA l,if_pos h]
  ·rw [if_neg h,JA l,if_neg h];omega
def Dg (x:Inst) (l:List Vis) (n j:Nat):Int:=((List.range x.orders.length).map fun i=>if (FE x l n i&&hasO l i)=true then nth (nth x.orders i).load j else 0).sum
theorem GK {x:Inst} {l:List Vis} (h:SqOk x l) {k j:Nat} (hk:k<l.length):Dg x l (k+1) j=if (nth l k).drp=true then Dg x l k j-nth (nth x.orders (nth l k).order.toNat).load j else Dg x l k j+nth (nth x.orders (nth l k).order.toNat).load j:=by
 obtain ⟨v1,v2⟩:=h.inr _ (Zq hk);obtain ⟨i,hi⟩: ∃i:Nat,(nth l k).order=(i:Int):=⟨(nth l k).order.toNat,Za⟩;have hh:hasO l (i:Int)=true:=XL.2 ⟨_,Zq hk,hi⟩;have h1:=Zbi h hk hi
 have h2:FE x l (k+1) i= !(nth l k).drp:=by simp_all [EI]
 unfold Dg
 rw [oX (f:=fun i=>if (FE x l (k+1) i&&hasO l i)=true then nth (nth x.orders i).load j else 0) (g:=fun i=>if (FE x l k i&&hasO l i)=true then nth (nth x.orders i).load j else 0) (i:=i) (fun q hq=>by
  have:FE x l (k+1) q=FE x l k q:=by rw [EI hk,if_neg Za]
  grind) x.orders.length Za]
 grind
def Wb (x:Inst) (l:List Vis) (n:Nat):List Int:=(List.range (dimsOf x.types).toNat).map fun j=>Dg x l n j
def DL (a b:List Int):List Int:=(List.range a.length).map fun j=>nth a j+nth b j
def oU (a b:List Int):List Int:=(List.range a.length).map fun j=>nth a j-nth b j
theorem DN {x:Inst} {l:List Vis} {n:Nat} :(Wb x l n).length=(dimsOf x.types).toNat:=by simp [Wb]
theorem Kb {f:Nat->Int} {n j:Nat} (h:j<n):nth ((List.range n).map f) j=f j:=by
 grind [Ze]
theorem Rc {x:Inst} {l:List Vis} (h:SqOk x l) {k:Nat} (hk:k<l.length):Wb x l (k+1)=if (nth l k).drp=true then oU (Wb x l k) (nth x.orders (nth l k).order.toNat).load else DL (Wb x l k) (nth x.orders (nth l k).order.toNat).load:=by
 have key: ∀g:Nat->Int,(∀j,j<(dimsOf x.types).toNat->Dg x l (k+1) j=g j)->Wb x l (k+1)=(List.range (dimsOf x.types).toNat).map g:=fun g hg =>
  YX fun j hj=>hg j (ZL.1 hj)
 split
 ·simp_all [oU,GK,Wb,Kb]
 simp_all [DL,GK,Wb,Kb]
end Go.Proofs.YtiigdaohjanidaaGreatDoor.K
