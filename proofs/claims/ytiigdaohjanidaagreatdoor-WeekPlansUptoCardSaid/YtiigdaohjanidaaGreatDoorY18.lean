/- Declarations that the closing texts need, part 18: joined by tools/slim.py. -/
import Derived.Test.YtiigdaohjanidaaGreatDoorY17
import Derived.Test.YtiigdaohjanidaaGreatDoorRows
namespace Go.Proofs.YtiigdaohjanidaaGreatDoor.K
open Go Go.AM Go.Proofs
theorem Rv : Tryz.prog.cellsOf 3=1:=Zd
theorem ZlJ : Tryz.prog.cellsOf 4=1:=Zd
theorem Zgv : Tryz.prog.cellsOf 9=1:=Zd
theorem rA : Tryz.prog.cellsOf 31=1:=Zd
theorem Zgn : Tryz.prog.cellsOf 35=1:=Zd
theorem Zgo : Tryz.prog.cellsOf 36=1:=Zd
theorem rB : Tryz.prog.cellsOf 38=2:=Zd
theorem ZhY : Ff Tryz.prog 38=some [(0,35),(1,36)]:=Zd
theorem Zgp : Tryz.prog.cellsOf 39=1:=Zd
theorem Zgq : Tryz.prog.cellsOf 40=1:=Zd
theorem Zgr : Tryz.prog.cellsOf 41=1:=Zd
theorem Zgs : Tryz.prog.cellsOf 43=6:=Zd
theorem rS : Ff Tryz.prog 43=some [(0,38),(2,39),(3,40),(4,41),(5,41)]:=Zd
theorem rC : Tryz.prog.cellsOf 57=4:=Zd
theorem ZhZ : Ff Tryz.prog 57=some [(0,3),(1,3),(2,3),(3,3)]:=Zd
theorem Zgt : Tryz.prog.cellsOf 59=16:=Zd
theorem rT : Ff Tryz.prog 59=some [(0,9),(1,31),(2,57),(6,57),(10,3),(11,3),(12,3),(13,3),(14,3),(15,4)]:=Zd
theorem Zgu : Tryz.prog.cellsOf 82=14:=Zd
theorem rU : Ff Tryz.prog 82=some [(0,9),(1,3),(2,3),(3,3),(4,31),(5,3),(6,3),(7,3),(8,3),(9,3),(10,3),(11,3),(12,3),(13,3)]:=Zd
theorem uC : Tryz.prog.cellsOf 127=1:=Zd
theorem uD : Tryz.prog.cellsOf 129=6:=Zd
theorem fA : Ff Tryz.prog 129=some [(0,3),(1,3),(2,3),(3,3),(4,127),(5,127)]:=Zd
theorem uE : Tryz.prog.cellsOf 132=2:=Zd
theorem fB : Ff Tryz.prog 132=some [(0,3),(1,3)]:=Zd
theorem uF : Tryz.prog.cellsOf 188=2:=Zd
theorem fC : Ff Tryz.prog 188=some [(0,3),(1,3)]:=Zd
set_option linter.unusedVariables false
set_option linter.unusedSimpArgs false
mutual
theorem Ni {H:Type} :(d:DataW H)->dsz d<=Rows.uptoBulk d
 | .lit l=>by cases l<;>simp [dsz,Rows.uptoBulk]
 | .nil=>by simp [dsz,Rows.uptoBulk]
 | .ptr d=>by have:=Ni d;simp only [dsz,Rows.uptoBulk];omega
 | .slice es sp=>by have:=A7 es;have:=A7 sp;simp only [dsz,Rows.uptoBulk];omega
 | .agg ps=>by have:=A7 ps;simp only [dsz,Rows.uptoBulk];omega
 | .iface _ d=>by have:=Ni d;simp only [dsz,Rows.uptoBulk];omega
 | .map es=>by simp only [dsz,Rows.uptoBulk];omega
 | .held h=>by simp [dsz,Rows.uptoBulk]
theorem A7 {H:Type} :(l:List (DataW H))->J5 l<=Rows.uptoBulkAll l
 | []=>by simp [J5,Rows.uptoBulkAll]
 | d::r=>by have:=Ni d;have:=A7 r;simp only [J5,Rows.uptoBulkAll];omega
end
theorem N9 {H:Type} {l:List (DataW H)} (h:Rows.uptoSmall H l=true):J5 l<=1048576:=by
 have h1:=A7 l;have h2:Rows.uptoBulkAll l<=1048576:=KP h;omega
abbrev UR (n:Int):Prop:= -9223372036854775808<=n/\n<=9223372036854775807
def eI (n:Int):PV:= .int .i64 n
def eB (b:Bool):PV:= .bool b
def eS (s:List UInt8):PV:= .str s
def eP (p:Int×Int):PV:= .agg [.int .i64 p.1,.int .i64 p.2]
@[go_sem] theorem Zof (n:Int):eI n= .int .i64 n:=Zw rfl rfl
@[go_sem] theorem Zod (b:Bool):eB b= .bool b:=Zw rfl rfl
@[go_sem] theorem Zoj (s:List UInt8):eS s= .str s:=Zw rfl rfl
@[go_sem] theorem Zoh (p:Int×Int):eP p= .agg [.int .i64 p.1,.int .i64 p.2]:=Zw rfl rfl
@[go_sem] theorem Zmt (l:List Int):Ak 1 (l.map eI)=true:=Bz fun _=>rfl
@[go_sem] theorem Zjy (l:List Bool):AX 1 (l.map eB)=true:=AY (f:=eB) (S:=1) (fun _=>rfl) l
@[go_sem] theorem Zmr (l:List Bool):Ak 1 (l.map eB)=true:=Bz fun _=>rfl
theorem Le {B xs} (h: ∀y∈xs,FitV Tryz.prog B 3 y): ∃l:List Int,xs=l.map eI/\ ∀n∈l,UR n :=
 Vh (f:=eI) fun y hy=>by
  obtain ⟨n,rfl,w⟩:=lR Tryz.underlying3 (h y hy);exact ⟨n,rfl,Xs w⟩
theorem bL {B xs} (h: ∀y∈xs,FitV Tryz.prog B 9 y): ∃l:List (List UInt8),xs=l.map eS/\ ∀s∈l,s.length<=B :=
 Vh (f:=eS) fun y hy=>by
  obtain ⟨s,rfl,w,_⟩:=lS Tryz.underlying9 (h y hy);exact ⟨s,rfl,w⟩
theorem Za5 {α:Type} {l:List α} (h:l.length=2): ∃a0 a1,l= [a0,a1]:=by
 match l,h with | [a0,a1],_=>simp
theorem ZhC {α:Type} {l:List α} (h:l.length=6): ∃a0 a1 a2 a3 a4 a5,l= [a0,a1,a2,a3,a4,a5]:=by
 match l,h with | [a0,a1,a2,a3,a4,a5],_=>simp
theorem ZhA {α:Type} {l:List α} (h:l.length=14): ∃a0 a1 a2 a3 a4 a5 a6 a7 a8 a9 a10 a11 a12 a13,l= [a0,a1,a2,a3,a4,a5,a6,a7,a8,a9,a10,a11,a12,a13]:=by
 match l,h with | [a0,a1,a2,a3,a4,a5,a6,a7,a8,a9,a10,a11,a12,a13],_=>simp
theorem Zmg {α:Type} {l:List α} (h:l.length=4): ∃a0 a1 a2 a3,l= [a0,a1,a2,a3]:=by
 match l,h with | [a0,a1,a2,a3],_=>simp
theorem ZhB {α:Type} {l:List α} (h:l.length=16): ∃a0 a1 a2 a3 a4 a5 a6 a7 a8 a9 a10 a11 a12 a13 a14 a15,l= [a0,a1,a2,a3,a4,a5,a6,a7,a8,a9,a10,a11,a12,a13,a14,a15]:=by
 match l,h with | [a0,a1,a2,a3,a4,a5,a6,a7,a8,a9,a10,a11,a12,a13,a14,a15],_=>grind
structure Pt where
 t:Int
 a:Int
 deriving Inhabited
def cPt (x:Pt):List PV:= [.int .i64 x.t,.int .i64 x.a]
def Fe (x:Pt):PV:= .agg [.int .i64 x.t,.int .i64 x.a]
@[go_sem] theorem ZlK (x:Pt):Fe x= .agg [.int .i64 x.t,.int .i64 x.a]:=Zw rfl rfl
def Pt.wf (B:Nat) (x:Pt):Prop:=UR x.t/\UR x.a
theorem lU {B m cs} (h:Y5 Tryz.prog B m 188 cs): ∃x:Pt,cs=cPt x/\x.wf B:=by
 obtain ⟨h1,m',h2⟩:=VI fC uF h;obtain ⟨a0,a1,rfl⟩:=Za5 h1;obtain ⟨n0,e0,w0⟩:=ZY Tryz.underlying3 (h2 (0,3) Zb);obtain ⟨n1,e1,w1⟩:=ZY Tryz.underlying3 (h2 (1,3) Zb);simp [Rv] at e0 e1;subst e0;subst e1;exact ⟨⟨n0,n1⟩,rfl,Xs w0,Xs w1⟩
theorem bK {B v} (h:FitV Tryz.prog B 188 v): ∃x:Pt,v=Fe x/\x.wf B:=by
 obtain ⟨k,cs,h,e⟩:=h.out;obtain ⟨x,rfl,hw⟩:=lU h;exact ⟨x,e.trans (by rw [Jy,if_pos (VQ fC)];rfl),hw⟩
structure Arc where
 src:Int
 dst:Int
 prof:Int
 miles:Int
 travel_c:Bool
 travel:List (Pt)
 slow_c:Bool
 slow:List (Pt)
 deriving Inhabited
def ZlH (x:Arc):List PV:= [.int .i64 x.src,.int .i64 x.dst,.int .i64 x.prof,.int .i64 x.miles,.list x.travel_c (x.travel.map Fe),.list x.slow_c (x.slow.map Fe)]
def VW (x:Arc):PV:= .agg [.int .i64 x.src,.int .i64 x.dst,.int .i64 x.prof,.int .i64 x.miles,.list x.travel_c (x.travel.map Fe),.list x.slow_c (x.slow.map Fe)]
@[go_sem] theorem ZjH (x:Arc):VW x= .agg [.int .i64 x.src,.int .i64 x.dst,.int .i64 x.prof,.int .i64 x.miles,.list x.travel_c (x.travel.map Fe),.list x.slow_c (x.slow.map Fe)]:=Zw rfl rfl
def Arc.wf (B:Nat) (x:Arc):Prop:=UR x.src/\UR x.dst/\UR x.prof/\UR x.miles/\x.travel.length<=B/\(∀y∈x.travel,Pt.wf B y)/\x.slow.length<=B/\(∀y∈x.slow,Pt.wf B y)
theorem bO {B m cs} (h:Y5 Tryz.prog B m 129 cs): ∃x:Arc,cs=ZlH x/\x.wf B:=by
 obtain ⟨h1,m',h2⟩:=VI fA uD h;obtain ⟨a0,a1,a2,a3,a4,a5,rfl⟩:=ZhC h1;obtain ⟨n0,e0,w0⟩:=ZY Tryz.underlying3 (h2 (0,3) Zb);obtain ⟨n1,e1,w1⟩:=ZY Tryz.underlying3 (h2 (1,3) Zb);obtain ⟨n2,e2,w2⟩:=ZY Tryz.underlying3 (h2 (2,3) Zb);obtain ⟨n3,e3,w3⟩:=ZY Tryz.underlying3 (h2 (3,3) Zb);obtain ⟨y4,e4,w4,_,z4⟩:=X9 Tryz.underlying127 (h2 (4,127) Zb);obtain ⟨n4,rfl,u4⟩:=Vh (f:=Fe) fun y hy=>bK (z4 y hy);obtain ⟨y5,e5,w5,_,z5⟩:=X9 Tryz.underlying127 (h2 (5,127) Zb)
 obtain ⟨n5,rfl,u5⟩:=Vh (f:=Fe) fun y hy=>bK (z5 y hy);simp [uC,Rv] at e0 e1 e2 e3 e4 e5;subst e0;subst e1;subst e2;subst e3;subst e4;subst e5;exact ⟨⟨n0,n1,n2,n3,false,n4,false,n5⟩,rfl,Xs w0,Xs w1,Xs w2,Xs w3,by grind,u4,by grind,u5⟩
theorem lO {B v} (h:FitV Tryz.prog B 129 v): ∃x:Arc,v=VW x/\x.wf B:=by
 obtain ⟨k,cs,h,e⟩:=h.out;obtain ⟨x,rfl,hw⟩:=bO h;exact ⟨x,e.trans (by rw [Jy,if_pos (VQ fA)];rfl),hw⟩
structure Net where
 places_c:Bool
 places:List (List UInt8)
 arcs_c:Bool
 arcs:List (Arc)
 deriving Inhabited
def Zgm (x:Net):List PV:= [.list x.places_c (x.places.map eS),.list x.arcs_c (x.arcs.map VW)]
def Ai (x:Net):PV:= .agg [.list x.places_c (x.places.map eS),.list x.arcs_c (x.arcs.map VW)]
@[go_sem] theorem ZjL (x:Net):Ai x= .agg [.list x.places_c (x.places.map eS),.list x.arcs_c (x.arcs.map VW)]:=Zw rfl rfl
def Net.wf (B:Nat) (x:Net):Prop:=x.places.length<=B/\(∀s∈x.places,s.length<=B)/\x.arcs.length<=B/\(∀y∈x.arcs,Arc.wf B y)
theorem bP {B m cs} (h:Y5 Tryz.prog B m 38 cs): ∃x:Net,cs=Zgm x/\x.wf B:=by
 obtain ⟨h1,m',h2⟩:=VI ZhY rB h;obtain ⟨a0,a1,rfl⟩:=Za5 h1;obtain ⟨y0,e0,w0,_,z0⟩:=X9 Tryz.underlying35 (h2 (0,35) Zb);obtain ⟨n0,rfl,u0⟩:=bL z0;obtain ⟨y1,e1,w1,_,z1⟩:=X9 Tryz.underlying36 (h2 (1,36) Zb);obtain ⟨n1,rfl,u1⟩:=Vh (f:=VW) fun y hy=>lO (z1 y hy);simp [Zgo,Zgn] at e0 e1;subst e0;subst e1;exact ⟨⟨false,n0,false,n1⟩,rfl,by grind,u0,by grind,u1⟩
structure Typ where
 name:List UInt8
 count:Int
 src:Int
 dst:Int
 cap_c:Bool
 cap:List (Int)
 skills:Int
 prof:Int
 opn:Int
 cls:Int
 drive:Int
 rest:Int
 fixed:Int
 perMile:Int
 perTick:Int
 deriving Inhabited
def J1 (x:Typ):List PV:= [.str x.name,.int .i64 x.count,.int .i64 x.src,.int .i64 x.dst,.list x.cap_c (x.cap.map eI),.int .i64 x.skills,.int .i64 x.prof,.int .i64 x.opn,.int .i64 x.cls,.int .i64 x.drive,.int .i64 x.rest,.int .i64 x.fixed,.int .i64 x.perMile,.int .i64 x.perTick]
def Vr (x:Typ):PV:= .agg [.str x.name,.int .i64 x.count,.int .i64 x.src,.int .i64 x.dst,.list x.cap_c (x.cap.map eI),.int .i64 x.skills,.int .i64 x.prof,.int .i64 x.opn,.int .i64 x.cls,.int .i64 x.drive,.int .i64 x.rest,.int .i64 x.fixed,.int .i64 x.perMile,.int .i64 x.perTick]
@[go_sem] theorem ZjU (x:Typ):Vr x= .agg [.str x.name,.int .i64 x.count,.int .i64 x.src,.int .i64 x.dst,.list x.cap_c (x.cap.map eI),.int .i64 x.skills,.int .i64 x.prof,.int .i64 x.opn,.int .i64 x.cls,.int .i64 x.drive,.int .i64 x.rest,.int .i64 x.fixed,.int .i64 x.perMile,.int .i64 x.perTick]:=Zw rfl rfl
def Typ.wf (B:Nat) (x:Typ):Prop:=x.name.length<=B/\UR x.count/\UR x.src/\UR x.dst/\x.cap.length<=B/\(∀n∈x.cap,UR n)/\UR x.skills/\UR x.prof/\UR x.opn/\UR x.cls/\UR x.drive/\UR x.rest/\UR x.fixed/\UR x.perMile/\UR x.perTick
theorem bR {B m cs} (h:Y5 Tryz.prog B m 82 cs): ∃x:Typ,cs=J1 x/\x.wf B:=by
 obtain ⟨h1,m',h2⟩:=VI rU Zgu h;obtain ⟨a0,a1,a2,a3,a4,a5,a6,a7,a8,a9,a10,a11,a12,a13,rfl⟩:=ZhA h1;obtain ⟨n0,e0,w0,_⟩:=Ea Tryz.underlying9 (h2 (0,9) Zb);obtain ⟨n1,e1,w1⟩:=ZY Tryz.underlying3 (h2 (1,3) Zb);obtain ⟨n2,e2,w2⟩:=ZY Tryz.underlying3 (h2 (2,3) Zb);obtain ⟨n3,e3,w3⟩:=ZY Tryz.underlying3 (h2 (3,3) Zb);obtain ⟨y4,e4,w4,_,z4⟩:=X9 Tryz.underlying31 (h2 (4,31) Zb);obtain ⟨n4,rfl,u4⟩:=Le z4;obtain ⟨n5,e5,w5⟩:=ZY Tryz.underlying3 (h2 (5,3) Zb)
 obtain ⟨n6,e6,w6⟩:=ZY Tryz.underlying3 (h2 (6,3) Zb);obtain ⟨n7,e7,w7⟩:=ZY Tryz.underlying3 (h2 (7,3) Zb);obtain ⟨n8,e8,w8⟩:=ZY Tryz.underlying3 (h2 (8,3) Zb);obtain ⟨n9,e9,w9⟩:=ZY Tryz.underlying3 (h2 (9,3) Zb);obtain ⟨n10,e10,w10⟩:=ZY Tryz.underlying3 (h2 (10,3) Zb);obtain ⟨n11,e11,w11⟩:=ZY Tryz.underlying3 (h2 (11,3) Zb);obtain ⟨n12,e12,w12⟩:=ZY Tryz.underlying3 (h2 (12,3) Zb);obtain ⟨n13,e13,w13⟩:=ZY Tryz.underlying3 (h2 (13,3) Zb);simp [rA,Rv,Zgv] at e0 e1 e2 e3 e4 e5 e6 e7 e8 e9 e10 e11 e12 e13
 subst e0;subst e1;subst e2;subst e3;subst e4;subst e5;subst e6;subst e7;subst e8;subst e9;subst e10;subst e11;subst e12;subst e13;exact ⟨⟨n0,n1,n2,n3,false,n4,n5,n6,n7,n8,n9,n10,n11,n12,n13⟩,rfl,w0,Xs w1,Xs w2,Xs w3,by grind,u4,Xs w5,Xs w6,Xs w7,Xs w8,Xs w9,Xs w10,Xs w11,Xs w12,Xs w13⟩
theorem lQ {B v} (h:FitV Tryz.prog B 82 v): ∃x:Typ,v=Vr x/\x.wf B:=by
 obtain ⟨k,cs,h,e⟩:=h.out;obtain ⟨x,rfl,hw⟩:=bR h;exact ⟨x,e.trans (by rw [Jy,if_pos (VQ rU)];rfl),hw⟩
structure Stp where
 place:Int
 opn:Int
 cls:Int
 serv:Int
 deriving Inhabited
def Af (x:Stp):List PV:= [.int .i64 x.place,.int .i64 x.opn,.int .i64 x.cls,.int .i64 x.serv]
def D4 (x:Stp):PV:= .agg [.int .i64 x.place,.int .i64 x.opn,.int .i64 x.cls,.int .i64 x.serv]
@[go_sem] theorem ZjR (x:Stp):D4 x= .agg [.int .i64 x.place,.int .i64 x.opn,.int .i64 x.cls,.int .i64 x.serv]:=Zw rfl rfl
def Stp.wf (B:Nat) (x:Stp):Prop:=UR x.place/\UR x.opn/\UR x.cls/\UR x.serv
theorem Lf {B m cs} (h:Y5 Tryz.prog B m 57 cs): ∃x:Stp,cs=Af x/\x.wf B:=by
 obtain ⟨h1,m',h2⟩:=VI ZhZ rC h;obtain ⟨a0,a1,a2,a3,rfl⟩:=Zmg h1;obtain ⟨n0,e0,w0⟩:=ZY Tryz.underlying3 (h2 (0,3) Zb);obtain ⟨n1,e1,w1⟩:=ZY Tryz.underlying3 (h2 (1,3) Zb);obtain ⟨n2,e2,w2⟩:=ZY Tryz.underlying3 (h2 (2,3) Zb);obtain ⟨n3,e3,w3⟩:=ZY Tryz.underlying3 (h2 (3,3) Zb);simp [Rv] at e0 e1 e2 e3;subst e0;subst e1;subst e2;subst e3;exact ⟨⟨n0,n1,n2,n3⟩,rfl,Xs w0,Xs w1,Xs w2,Xs w3⟩
theorem rD {B v} (h:FitV Tryz.prog B 132 v): ∃x:Int×Int,v=eP x/\UR x.1/\UR x.2:=by
 obtain ⟨k,cs,h,e⟩:=h.out;obtain ⟨h1,m',h2⟩:=VI fB uE h;obtain ⟨a,b,rfl⟩:=Za5 h1;obtain ⟨n0,e0,w0⟩:=ZY Tryz.underlying3 (h2 (0,3) Zb);obtain ⟨n1,e1,w1⟩:=ZY Tryz.underlying3 (h2 (1,3) Zb);simp [Rv] at e0 e1;subst e0;subst e1;exact ⟨(n0,n1),e.trans (by rw [Jy,if_pos (VQ fB)];rfl),Xs w0,Xs w1⟩
structure Ord where
 name:List UInt8
 load_c:Bool
 load:List (Int)
 pick:Stp
 drp:Stp
 skills:Int
 penalty:Int
 split:Int
 last:Int
 now:Int
 off:Bool
 deriving Inhabited
def ZlI (x:Ord):List PV:= [.str x.name,.list x.load_c (x.load.map eI),.int .i64 x.pick.place,.int .i64 x.pick.opn,.int .i64 x.pick.cls,.int .i64 x.pick.serv,.int .i64 x.drp.place,.int .i64 x.drp.opn,.int .i64 x.drp.cls,.int .i64 x.drp.serv,.int .i64 x.skills,.int .i64 x.penalty,.int .i64 x.split,.int .i64 x.last,.int .i64 x.now,.bool x.off]
def eOrd (x:Ord):PV:= .agg [.str x.name,.list x.load_c (x.load.map eI),.int .i64 x.pick.place,.int .i64 x.pick.opn,.int .i64 x.pick.cls,.int .i64 x.pick.serv,.int .i64 x.drp.place,.int .i64 x.drp.opn,.int .i64 x.drp.cls,.int .i64 x.drp.serv,.int .i64 x.skills,.int .i64 x.penalty,.int .i64 x.split,.int .i64 x.last,.int .i64 x.now,.bool x.off]
@[go_sem] theorem Hu (x:Ord):eOrd x= .agg [.str x.name,.list x.load_c (x.load.map eI),.int .i64 x.pick.place,.int .i64 x.pick.opn,.int .i64 x.pick.cls,.int .i64 x.pick.serv,.int .i64 x.drp.place,.int .i64 x.drp.opn,.int .i64 x.drp.cls,.int .i64 x.drp.serv,.int .i64 x.skills,.int .i64 x.penalty,.int .i64 x.split,.int .i64 x.last,.int .i64 x.now,.bool x.off]:=Zw rfl rfl
def Ord.wf (B:Nat) (x:Ord):Prop:=x.name.length<=B/\x.load.length<=B/\(∀n∈x.load,UR n)/\Stp.wf B x.pick/\Stp.wf B x.drp/\UR x.skills/\UR x.penalty/\UR x.split/\UR x.last/\UR x.now
theorem bQ {B m cs} (h:Y5 Tryz.prog B m 59 cs): ∃x:Ord,cs=ZlI x/\x.wf B:=by
 obtain ⟨h1,m',h2⟩:=VI rT Zgt h;obtain ⟨a0,a1,a2,a3,a4,a5,a6,a7,a8,a9,a10,a11,a12,a13,a14,a15,rfl⟩:=ZhB h1;obtain ⟨n0,e0,w0,_⟩:=Ea Tryz.underlying9 (h2 (0,9) Zb);obtain ⟨y1,e1,w1,_,z1⟩:=X9 Tryz.underlying31 (h2 (1,31) Zb);obtain ⟨n1,rfl,u1⟩:=Le z1;obtain ⟨n2,e2,w2⟩:=Lf (h2 (2,57) Zb);obtain ⟨n3,e3,w3⟩:=Lf (h2 (6,57) Zb);obtain ⟨n4,e4,w4⟩:=ZY Tryz.underlying3 (h2 (10,3) Zb);obtain ⟨n5,e5,w5⟩:=ZY Tryz.underlying3 (h2 (11,3) Zb);obtain ⟨n6,e6,w6⟩:=ZY Tryz.underlying3 (h2 (12,3) Zb)
 obtain ⟨n7,e7,w7⟩:=ZY Tryz.underlying3 (h2 (13,3) Zb);obtain ⟨n8,e8,w8⟩:=ZY Tryz.underlying3 (h2 (14,3) Zb);obtain ⟨n9,e9⟩:=RL Tryz.underlying4 (h2 (15,4) Zb);simp [rA,rC,ZlJ,Rv,Zgv,Af,Af] at e0 e1 e2 e3 e4 e5 e6 e7 e8 e9;subst e0;subst e1;obtain ⟨rfl,rfl,rfl,rfl⟩:=e2;obtain ⟨rfl,rfl,rfl,rfl⟩:=e3;subst e4;subst e5;subst e6;subst e7;subst e8;subst e9;exact ⟨⟨n0,false,n1,n2,n3,n4,n5,n6,n7,n8,n9⟩,rfl,w0,by grind,u1,w2,w3,Xs w4,Xs w5,Xs w6,Xs w7,Xs w8⟩
theorem lP {B v} (h:FitV Tryz.prog B 59 v): ∃x:Ord,v=eOrd x/\x.wf B:=by
 obtain ⟨k,cs,h,e⟩:=h.out;obtain ⟨x,rfl,hw⟩:=bQ h;exact ⟨x,e.trans (by rw [Jy,if_pos (VQ rT)];rfl),hw⟩
structure Inst where
 net:Net
 types_c:Bool
 types:List (Typ)
 orders_c:Bool
 orders:List (Ord)
 apart_c:Bool
 apart:List (Int×Int)
 before_c:Bool
 before:List (Int×Int)
 deriving Inhabited
def Zgl (x:Inst):List PV:= [.list x.net.places_c (x.net.places.map eS),.list x.net.arcs_c (x.net.arcs.map VW),.list x.types_c (x.types.map Vr),.list x.orders_c (x.orders.map eOrd),.list x.apart_c (x.apart.map eP),.list x.before_c (x.before.map eP)]
def Zs (x:Inst):PV:= .agg [.list x.net.places_c (x.net.places.map eS),.list x.net.arcs_c (x.net.arcs.map VW),.list x.types_c (x.types.map Vr),.list x.orders_c (x.orders.map eOrd),.list x.apart_c (x.apart.map eP),.list x.before_c (x.before.map eP)]
@[go_sem] theorem Zgy (x:Inst):Zs x= .agg [.list x.net.places_c (x.net.places.map eS),.list x.net.arcs_c (x.net.arcs.map VW),.list x.types_c (x.types.map Vr),.list x.orders_c (x.orders.map eOrd),.list x.apart_c (x.apart.map eP),.list x.before_c (x.before.map eP)]:=Zw rfl rfl
def Inst.wf (B:Nat) (x:Inst):Prop:=Net.wf B x.net/\x.types.length<=B/\(∀y∈x.types,Typ.wf B y)/\x.orders.length<=B/\(∀y∈x.orders,Ord.wf B y)/\x.apart.length<=B/\(∀p∈x.apart,UR p.1/\UR p.2)/\x.before.length<=B/\(∀p∈x.before,UR p.1/\UR p.2)
theorem RK {B m cs} (h:Y5 Tryz.prog B m 43 cs): ∃x:Inst,cs=Zgl x/\x.wf B:=by
 obtain ⟨h1,m',h2⟩:=VI rS Zgs h;obtain ⟨a0,a1,a2,a3,a4,a5,rfl⟩:=ZhC h1;obtain ⟨n0,e0,w0⟩:=bP (h2 (0,38) Zb);obtain ⟨y1,e1,w1,_,z1⟩:=X9 Tryz.underlying39 (h2 (2,39) Zb);obtain ⟨n1,rfl,u1⟩:=Vh (f:=Vr) fun y hy=>lQ (z1 y hy);obtain ⟨y2,e2,w2,_,z2⟩:=X9 Tryz.underlying40 (h2 (3,40) Zb);obtain ⟨n2,rfl,u2⟩:=Vh (f:=eOrd) fun y hy=>lP (z2 y hy);obtain ⟨y3,e3,w3,_,z3⟩:=X9 Tryz.underlying41 (h2 (4,41) Zb);obtain ⟨n3,rfl,u3⟩:=Vh (f:=eP) fun y hy=>rD (z3 y hy)
 obtain ⟨y4,e4,w4,_,z4⟩:=X9 Tryz.underlying41 (h2 (5,41) Zb);obtain ⟨n4,rfl,u4⟩:=Vh (f:=eP) fun y hy=>rD (z4 y hy);simp [Zgr,Zgq,Zgp,rB,Zgm] at e0 e1 e2 e3 e4;obtain ⟨rfl,rfl⟩:=e0;subst e1;subst e2;subst e3;subst e4;exact ⟨⟨n0,false,n1,false,n2,false,n3,false,n4⟩,rfl,w0,by grind,u1,by grind,u2,by grind,u3,by grind,u4⟩
theorem bJ {B v} (h:FitV Tryz.prog B 43 v): ∃x:Inst,v=Zs x/\x.wf B:=by
 obtain ⟨k,cs,h,e⟩:=h.out;obtain ⟨x,rfl,hw⟩:=RK h;exact ⟨x,e.trans (by rw [Jy,if_pos (VQ rS)];rfl),hw⟩
structure Vis where
 order:Int
 drp:Bool
 deriving Inhabited
def Z2 (x:Vis):PV:= .agg [.int .i64 x.order,.bool x.drp]
@[go_sem] theorem OO (x:Vis):Z2 x= .agg [.int .i64 x.order,.bool x.drp]:=Zw rfl rfl
@[go_sem] theorem Zcx (l:List Vis):AX 2 (l.map Z2)=true:=AY (f:=Z2) (S:=2) (fun _=>rfl) l
@[go_sem] theorem ZhT (l:List Vis):Ak 2 (l.map Z2)=true:=Bz fun _=>rfl
structure Rte where
 typ:Int
 start:Int
 rests_c:Bool
 rests:List (Bool)
 visits_c:Bool
 visits:List (Vis)
 deriving Inhabited
def YJ (x:Rte):PV:= .agg [.int .i64 x.typ,.int .i64 x.start,.list x.rests_c (x.rests.map eB),.list x.visits_c (x.visits.map Z2)]
@[go_sem] theorem ZjN (x:Rte):YJ x= .agg [.int .i64 x.typ,.int .i64 x.start,.list x.rests_c (x.rests.map eB),.list x.visits_c (x.visits.map Z2)]:=Zw rfl rfl
@[go_sem] theorem Zcw (l:List Rte):AX 4 (l.map YJ)=true:=AY (f:=YJ) (S:=4) (fun _=>rfl) l
structure Tim where
 arr:Int
 beg:Int
 dep:Int
 rest:Bool
 deriving Inhabited
def eTim (x:Tim):PV:= .agg [.int .i64 x.arr,.int .i64 x.beg,.int .i64 x.dep,.bool x.rest]
@[go_sem] theorem ZjS (x:Tim):eTim x= .agg [.int .i64 x.arr,.int .i64 x.beg,.int .i64 x.dep,.bool x.rest]:=Zw rfl rfl
@[go_sem] theorem ZhS (l:List Tim):Ak 4 (l.map eTim)=true:=Bz fun _=>rfl
structure She where
 rest:Bool
 dep:Int
 times_c:Bool
 times:List (Tim)
 fin:Int
 miles:Int
 deriving Inhabited
def D2 (x:She):PV:= .agg [.bool x.rest,.int .i64 x.dep,.list x.times_c (x.times.map eTim),.int .i64 x.fin,.int .i64 x.miles]
@[go_sem] theorem ZjP (x:She):D2 x= .agg [.bool x.rest,.int .i64 x.dep,.list x.times_c (x.times.map eTim),.int .i64 x.fin,.int .i64 x.miles]:=Zw rfl rfl
structure Sco where
 cost:Int
 moved:Int
 other:Int
 work:Int
 deriving Inhabited
def Df (x:Sco):PV:= .agg [.int .i64 x.cost,.int .i64 x.moved,.int .i64 x.other,.int .i64 x.work]
@[go_sem] theorem ZjO (x:Sco):Df x= .agg [.int .i64 x.cost,.int .i64 x.moved,.int .i64 x.other,.int .i64 x.work]:=Zw rfl rfl
structure Pln where
 routes_c:Bool
 routes:List (Rte)
 unserved_c:Bool
 unserved:List (Int)
 deriving Inhabited
def W2 (x:Pln):PV:= .agg [.list x.routes_c (x.routes.map YJ),.list x.unserved_c (x.unserved.map eI)]
@[go_sem] theorem ZjM (x:Pln):W2 x= .agg [.list x.routes_c (x.routes.map YJ),.list x.unserved_c (x.unserved.map eI)]:=Zw rfl rfl
structure Col where
 typ:Int
 set:Int
 price:Int
 route:Rte
 deriving Inhabited
def Fp (x:Col):List PV:= [.int .i64 x.typ,.int .i64 x.set,.int .i64 x.price,.int .i64 x.route.typ,.int .i64 x.route.start,.list x.route.rests_c (x.route.rests.map eB),.list x.route.visits_c (x.route.visits.map Z2)]
def Xg (x:Col):PV:= .agg [.int .i64 x.typ,.int .i64 x.set,.int .i64 x.price,.int .i64 x.route.typ,.int .i64 x.route.start,.list x.route.rests_c (x.route.rests.map eB),.list x.route.visits_c (x.route.visits.map Z2)]
@[go_sem] theorem ZjJ (x:Col):Xg x= .agg [.int .i64 x.typ,.int .i64 x.set,.int .i64 x.price,.int .i64 x.route.typ,.int .i64 x.route.start,.list x.route.rests_c (x.route.rests.map eB),.list x.route.visits_c (x.route.visits.map Z2)]:=Zw rfl rfl
theorem own : ownKnob Tryz.prog.godebug=none:=Zd
theorem mD : laidOutB Tryz.prog=true:=Zd
abbrev Flt := Int×List UInt8
def eF (f:Flt):PV:= .agg [.int .i64 f.1,.str f.2]
@[go_sem] theorem Zoe (f:Flt):eF f= .agg [.int .i64 f.1,.str f.2]:=Zw rfl rfl
@[go_sem] theorem Zms (l:List Flt):Ak 2 (l.map eF)=true:=Bz fun _=>rfl
def dec (n:Nat):List UInt8:=if h:n<10 then [UInt8.ofNat (48+n)] else dec (n / 10)++ [UInt8.ofNat (48+n%10)]
termination_by n
decreasing_by omega
theorem OL : ∀(k n:Nat),n<k->(dec n).length<=n+1:=by
 intro k
 induction k with
 | zero=>omega
 | succ k ih =>
  grind [dec]
theorem AA : ∀(d n:Nat),n<10^(d+1)->(dec n).length<=d+1:=by
 intro d
 induction d with
 | zero=>simp_all [dec]
 | succ d ih =>
  grind [dec]
def Ah (n:Int):List UInt8:=if n<0 then 45::dec n.natAbs else dec n.natAbs
theorem QC (n:Int) (h:UR n):(Ah n).length<=20:=by
 have h1:n.natAbs<10^(18+1):=Za
 have:=AA 18 n.natAbs h1
 grind [Ah]
structure FR {α:Type} (p:α->Prop) (C:Prop) (b:Nat) (l:List α):Prop where
 len:l.length<=b
 emp:l= []↔C
 all: ∀x∈l,p x
theorem FR.nil {α:Type} {p:α->Prop} {C:Prop} {b:Nat} (h:C):FR p C b []:=⟨Zb,by simp [h],Zb⟩
theorem FR.no {α:Type} {p:α->Prop} {C c:Prop} {b:Nat} {l:List α} (h:FR p C b l) (hc:c):FR p (C/\c) (b+1) l:=⟨by have:=h.len;omega,by rw [h.emp];simp [hc],h.all⟩
theorem FR.yes {α:Type} {p:α->Prop} {C c:Prop} {b:Nat} {l:List α} {x:α} (h:FR p C b l) (hc: ¬c) (hx:p x):FR p (C/\c) (b+1) (l++ [x]) :=
 ⟨by have:=h.len;simp;omega,by simp [hc],fun y hy=>by
  rcases Xy.1 hy with hy | hy
  ·exact h.all y hy
  grind⟩
theorem FR.app {α:Type} {p:α->Prop} {C D:Prop} {b d:Nat} {l m:List α} (h:FR p C b l) (k:FR p D d m):FR p (C/\D) (b+d) (l++m) :=
 ⟨by have:=h.len;have:=k.len;simp;omega,by rw [Jq,h.emp,k.emp],fun y hy=>by
  rcases Xy.1 hy with hy | hy
  ·exact h.all y hy
  ·exact k.all y hy⟩
theorem FR.to {α:Type} {p:α->Prop} {C D:Prop} {b d:Nat} {l:List α} (h:FR p C b l) (hb:b<=d) (hc:C↔D):FR p D d l:=⟨KW h.len hb,h.emp.trans hc,h.all⟩
theorem Zn {p:Nat->Prop} {k:Nat} :(∀j,j<k+1->p j)↔((∀j,j<k->p j)/\p k) :=
 ⟨fun h=>⟨fun j hj=>h j Za,h k Za⟩,fun h j hj=>by
  grind⟩
def Je (c:UInt8):Bool:=decide (48<=c.toNat/\c.toNat<=57)
def QG (c:UInt8):Bool:=decide (97<=c.toNat/\c.toNat<=122)||decide (65<=c.toNat/\c.toNat<=90)||decide (c.toNat=95)
def nameOk (s:List UInt8):Bool:=decide (1<=s.length)&&decide (s.length<=16)&& !Je (nth s 0)&&s.all fun c=>QG c||Je c
def rng (n lo hi:Int):Bool:=decide (lo<=n/\n<=hi)
def If (n:Int):Bool:=rng n 0 4096
def fL (l:List Pt) (i:Nat):Prop:=(0<=(nth l i).t/\(nth l i).t<=4096/\(nth l i).t<=(nth l i).a/\(nth l i).a<=(nth l i).t+4096)/\(0<i->(nth l (i-1)).t<(nth l i).t/\(nth l (i-1)).a<=(nth l i).a)
def WZ (l:List Pt):Prop:=(1<=l.length/\l.length<=16)/\ ∀i,i<l.length->fL l i
def Ku (l:List Pt) (i:Nat):Prop:=If (nth l i).t=true/\If (nth l i).a=true/\(0<i->(nth l (i-1)).t<(nth l i).t)
def IC (n:Net) (i:Nat):Prop :=
 ((((((0<=(nth n.arcs i).src/\(nth n.arcs i).src<n.places.length/\0<=(nth n.arcs i).dst/\(nth n.arcs i).dst<n.places.length) /\
 (0<=(nth n.arcs i).prof/\(nth n.arcs i).prof<=7/\0<=(nth n.arcs i).miles/\(nth n.arcs i).miles<=10000/\(nth n.arcs i).src≠(nth n.arcs i).dst)) /\
 (∀k,k<i-> ¬((nth n.arcs i).src=(nth n.arcs k).src/\(nth n.arcs i).dst=(nth n.arcs k).dst/\(nth n.arcs i).prof=(nth n.arcs k).prof))) /\
 WZ (nth n.arcs i).travel)/\(nth n.arcs i).slow.length<=16)/\ ∀k,k<(nth n.arcs i).slow.length->Ku (nth n.arcs i).slow k)
def NM (n:Net) (i:Nat):Prop:=nameOk (nth n.places i)=true/\ ∀k,k<i->nth n.places k≠nth n.places i
def Km (n:Net):Prop:=n.places.length<=24/\ ∀i,i<n.places.length->NM n i
def netOk (n:Net):Prop:=(Km n/\n.arcs.length<=1024)/\ ∀i,i<n.arcs.length->IC n i
set_option maxRecDepth 8000
set_option maxHeartbeats 4000000
theorem ON (c:UInt8):PC 274 [.p (.int .u8 (c.toNat:Nat))] (.bool (Je c)):=by
 refine Zc Tryz.func274 rfl zU ?_;simp (disch:=omega) only [Tryz.f274,go_sem,seval];refine gT ?_ ?_<;>intro h<;>simp (disch:=omega) only [Sh.out h,go_sem,seval,↓reduceIte]
 all_goals (simp [Je];first | done | omega | grind)
theorem dE (c:UInt8):PC 275 [.p (.int .u8 (c.toNat:Nat))] (.bool (QG c)):=by
 refine Zc Tryz.func275 rfl zV ?_;simp (disch:=omega) only [Tryz.f275,go_sem,seval]
 repeat' (first | (refine gT ?_ ?_<;>intro hq<;>simp (disch:=omega) only [Sh.out hq,go_sem,seval,↓reduceIte]) | (refine gF ?_ ?_<;>intro hq<;>simp (disch:=omega) only [Sh.out hq,go_sem,seval,↓reduceIte]) | (refine UT (fun hq=> ?_) (fun hq=> ?_)<;>(try simp only [Zl,X3,Xk] at hq)<;>simp (disch:=omega) only [Sh.out hq,go_sem,seval]))
 all_goals (simp [QG];first | done | omega | (rw [Wu];simp;omega))
theorem ND (s:List UInt8) (hs:s.length<=1048576):PC 226 [.p (.str s)] (.bool (nameOk s)):=by
 refine Zc Tryz.func226 rfl yG ?_;simp (disch:=omega) only [Tryz.f226,go_sem,seval];refine gF ?_ ?_<;>intro h<;>simp (disch:=omega) only [Sh.out h,go_sem,seval,↓reduceIte]
 ·grind [nameOk]
 ·refine gF ?_ ?_<;>intro h2<;>simp (disch:=omega) only [Sh.out h2,go_sem,seval]
  ·grind [nameOk]
  ·have g1:1<=s.length:=Za
   have g2:s.length<=16:=Za
   refine (ON (nth s 0)).use (Yv ?_);refine cD ?_ ?_<;>intro h3<;>simp (disch:=omega) only [Sh.out h3,go_sem,seval]
   ·simp [nameOk,h3]
   ·refine Zj [0] (fun k:Nat=> [(3,.p (.int .i64 k))]) (fun _=> []) (fun k=>k<=s.length/\ ∀j,j<k->(QG (nth s j)||Je (nth s j))=true) (fun k=>s.length-k) 0 Zb (Weak.mk ?_) ?_
    ·simp (disch:=omega) only [go_sem,seval,↓reduceIte]
    ·rintro k ⟨hk,hno⟩;refine Yv ?_
     have hall: ∀j,j<s.length->(QG (nth s j)||Je (nth s j))=false->nameOk s=false:=fun j hj e=>by
      grind [Zi,nameOk]
     refine cD ?_ ?_<;>intro h4<;>simp (disch:=omega) only [Sh.out h4,go_sem,seval,↓reduceIte]
     ·have hk2:k<s.length:=Za
      refine (dE (nth s k)).use (Yv ?_);refine gT ?_ ?_<;>intro h5<;>simp (disch:=omega) only [Sh.out h5,go_sem,seval,↓reduceIte]
      ·refine (ON (nth s k)).use (Yv ?_);refine cD ?_ ?_<;>intro h6<;>simp (disch:=omega) only [Sh.out h6,go_sem,seval,↓reduceIte]
       ·grind
       ·simp only [Xt] at h6;exact ⟨k+1,⟨Za,Zn.2 ⟨hno,by simp [h6]⟩⟩,Za,wk⟩
      ·simp only [Xt] at h5;exact ⟨k+1,⟨Za,Zn.2 ⟨hno,by simp [h5]⟩⟩,Za,wk⟩
     ·have:s.all (fun c=>QG c||Je c)=true:=by
       rw [ZC];intro c hc;obtain ⟨j,hj,rfl⟩:=ZD.1 hc
       grind [Zi]
      grind [nameOk]
theorem KF (n:Int) (hn:UR n):PC 174 [.p (.int .i64 n)] (.str (Ah n)):=by
 refine Zc Tryz.func174 rfl xF ?_;simp (disch:=omega) only [Tryz.f174,go_sem,seval]
 have h19:n.natAbs<10^(18+1):=Za
 have hdl:=AA 18 n.natAbs h19
 refine ZS [7] [0] (fun q:Int×List UInt8×Bool=> [(3,.p (.str q.2.1)),(4,.p (.int .i64 q.1)),(5,.p (.bool q.2.2))]) (fun _=> [])
  (fun q=>UR q.1/\(q.2.2=true->dec q.1.natAbs++q.2.1=dec n.natAbs)/\(q.2.2=false->q.2.1=dec n.natAbs)) (fun q=>if q.2.2 then q.1.natAbs+1 else 0) (n,[],true) (by simp;omega) (Weak.mk ?_) ?_
 ·simp (disch:=omega) only [go_sem,seval,↓reduceIte]
 ·rintro ⟨m,s,again⟩ ⟨hm,h1,h2⟩;simp only at hm h1 h2;refine Yv ?_
  cases again with
  | false =>
   refine Yv ?_;have h2:=h2 rfl
   have hl2:([45]:List UInt8).length+(dec n.natAbs).length<=9223372036854775807:=by simp;omega
   refine cD ?_ ?_<;>intro h3<;>simp (disch:=omega) only [Sh.out h3,go_sem,seval]
   ·simp (disch:=omega) only [Ah,h2,h3,gK hl2,go_sem,seval,↓reduceIte]
   ·simp (disch:=omega) only [Ah,h2,h3,go_sem,seval,↓reduceIte]
  | true =>
   have h1:=h1 rfl
   have hls:(dec m.natAbs).length+s.length=(dec n.natAbs).length:=by grind
   refine Yv ?_
   have e1:(m.tmod 10).natAbs=m.natAbs%10:=Zb
   have e2:(m.tdiv 10).natAbs=m.natAbs / 10:=by grind
   have e3:m.tmod 10<10/\ -10<m.tmod 10:=⟨Int.tmod_lt_of_pos _ (by decide),Za⟩;refine ZJ [0,3,4] (fun _:Unit=> [(6,.p (.int .i64 ((m.natAbs%10:Nat):Int)))]) (fun _=> []) (fun _=>True) ?_ ?_
   ·refine Yv ?_;refine cD ?_ ?_<;>intro h3<;>simp (disch:=omega) only [Sh.out h3,go_sem,seval,↓reduceIte]
    ·exact ⟨(),Weak.mk (by refine Yv ?_;simp;omega)⟩
    ·exact ⟨(),Weak.mk (by refine Yv ?_;simp;omega)⟩
   ·intro _ _;refine Zf [] _ _ _ _ ?_;simp (disch:=first | omega | (simp only [Zz,ZQ,Zm,Zu,Zy,ZK]<;>omega)) only [go_sem,seval,↓reduceIte]
    have e4:(48+((m.natAbs%10:Nat):Int)).toNat=48+m.natAbs%10:=Za
    refine ⟨(m.tdiv 10,UInt8.ofNat (48+m.natAbs%10)::s,decide (m.tdiv 10≠0)),⟨?_,?_,?_⟩,?_,Weak.mk ?_⟩
    ·omega
    ·simp only [Zl];intro hne
     have h10: ¬m.natAbs<10:=Za
     rw [e2,<- h1,dec.eq_def m.natAbs,dif_neg h10];simp
    ·simp only [X3,Xk];intro hz
     have h10:m.natAbs<10:=Za
     rw [<- h1,dec.eq_def m.natAbs,dif_pos h10,KQ h10];simp
    ·grind
    ·simp (disch:=omega) only [e4,go_sem,seval]
def pF (k:Nat) (f:Flt):Prop:=f.2.length<=k
theorem Xd {P:Program} {id:Nat} {l:List Oper} {fr:List V} {H:List AM.Obj} {Q:Exit->List V->List AM.Obj->Prop} {t} (h:hs P (l.map (·.dst)) H (Zv (fun fr'=>Q .normal (MO fr') H) ⟨⟩) l (MO fr)) (hm:P.follows .mixedOrders=true:=by exact mixed) (hB:Va (List.toArray l) l.length=true:=by kernel_rfl) (hR:Ko (List.toArray l) l.length=true:=by kernel_rfl):AWP P (.region id (Zv (List.toArray l) t) true) fr H Q:=M1 hm hB hR h
theorem aH (l:List Pt) (c:Bool) (hl:l.length<=1048576):ACalls Tryz.prog 227 [.p (.list c (l.map Fe))] [] fun x H'=> ∃m:List Flt,FR (pF 20) (WZ l) (2*l.length+1) m/\x= .sl 0 0 m.length m.length/\H'= [.elems 2 (m.map eF)]:=by
 refine Z6 [2] Tryz.func227 rfl yH ?_;simp (disch:=omega) only [Tryz.f227,go_sem,seval];refine Zp (Weak.ofNil 3 2 (by simp (disch:=omega) only [go_sem,seval]) Zb (Weak.refl _ _ _)) ?_;refine ZJ [0] (fun m:List Flt=> [(3,.sl 0 0 m.length m.length)]) (fun m=> [.elems 2 (m.map eF)]) (fun m=>FR (pF 20) (1<=l.length/\l.length<=16) 1 m) ?_ ?_
 ·refine Yv ?_
  repeat' (first | (refine VF (fun hq=> ?_) (fun hq=> ?_)<;>(try simp only [Zl,X3,Xk] at hq)<;>simp (disch:=omega) only [Sh.out hq,go_sem,seval]) | (refine gF ?_ ?_<;>intro hq<;>simp (disch:=omega) only [Sh.out hq,go_sem,seval,↓reduceIte]) | (refine cD ?_ ?_<;>intro hq<;>simp (disch:=omega) only [Sh.out hq,go_sem,seval,↓reduceIte]))
  ·exact ⟨[(4,[])],⟨Zb,by simp;omega,by simp [pF]⟩,wk⟩
  ·exact ⟨[(4,[])],⟨Zb,by simp;omega,by simp [pF]⟩,wk⟩
  ·exact ⟨[],FR.nil Za,wk⟩
 ·intro m hm;refine Zf [] _ _ _ _ (Yv ?_);refine ZS [8] [0] (fun q:Nat×List Flt=> [(3,.sl 0 0 q.2.length q.2.length),(4,.p (.int .i64 q.1))]) (fun q=> [.elems 2 (q.2.map eF)]) (fun q=>q.1<=l.length/\FR (pF 20) ((1<=l.length/\l.length<=16)/\ ∀j,j<q.1->fL l j) (2*q.1+1) q.2) (fun q=>l.length-q.1) (0,m) ⟨Zb,hm.to Zb Zb⟩ (Weak.mk ?_) ?_
  ·simp (disch:=omega) only [go_sem,seval,↓reduceIte]
  ·rintro ⟨k,m⟩ ⟨hk,hm⟩;simp only at hk hm;have hml:=hm.len;refine Yv ?_;refine cD ?_ ?_<;>intro h<;>simp (disch:=omega) only [Sh.out h,go_sem,seval,↓reduceIte]
   ·have hk2:k<l.length:=Za
    refine ZJ [0,4,5] (fun m:List Flt=> [(3,.sl 0 0 m.length m.length)]) (fun m=> [.elems 2 (m.map eF),.cells [.p (.int .i64 (nth l k).t),.p (.int .i64 (nth l k).a)]])
     (fun m=>FR (pF 20) (((1<=l.length/\l.length<=16)/\ ∀j,j<k->fL l j)/\(0<=(nth l k).t/\(nth l k).t<=4096/\(nth l k).t<=(nth l k).a/\(nth l k).a<=(nth l k).t+4096)) (2*k+1+1) m) ?_ ?_
    ·refine Yv ?_
     have hI:UR (k:Int):=Za
     have hdl:=QC k hI
     repeat' (first | (refine VF (fun hq=> ?_) (fun hq=> ?_)<;>(try simp only [Zl,X3,Xk] at hq)<;>simp (disch:=omega) only [Sh.out hq,go_sem,seval]) | (refine gF ?_ ?_<;>intro hq<;>simp (disch:=omega) only [Sh.out hq,go_sem,seval,↓reduceIte]) | (refine cD ?_ ?_<;>intro hq<;>simp (disch:=omega) only [Sh.out hq,go_sem,seval,↓reduceIte]))
     all_goals try exact ⟨m,hm.no Za,wk⟩
     all_goals
      refine (KF k hI).use ?_;simp (disch:=omega) only [go_sem,seval,↓reduceIte];exact ⟨m++ [(2,Ah k)],hm.yes Za (by simp only [pF];omega),wk⟩
    ·intro m hm;have hml:=hm.len;refine Zf [] _ _ _ _ (Yv ?_)
     have hI:UR (k:Int):=Za
     have hdl:=QC k hI;refine Xd (Yv ?_)
     repeat' (first | (refine gT ?_ ?_<;>intro hq<;>simp (disch:=omega) only [Sh.out hq,go_sem,seval,↓reduceIte]) | (refine gF ?_ ?_<;>intro hq<;>simp (disch:=omega) only [Sh.out hq,go_sem,seval,↓reduceIte]) | (refine cD ?_ ?_<;>intro hq<;>simp (disch:=omega) only [Sh.out hq,go_sem,seval,↓reduceIte]))
     all_goals try exact ⟨(k+1,m),⟨by simp only;omega,(hm.no (c:=0<k->(nth l (k-1)).t<(nth l k).t/\(nth l (k-1)).a<=(nth l k).a) Za).to (by simp only;omega) (by simp only [Zn,fL,and_assoc])⟩,by simp only;omega,wk⟩
     all_goals
      refine (KF k hI).use ?_;simp (disch:=omega) only [go_sem,seval,↓reduceIte];exact ⟨(k+1,m++ [(13,Ah k)]),⟨by simp only;omega,(hm.yes (c:=0<k->(nth l (k-1)).t<(nth l k).t/\(nth l (k-1)).a<=(nth l k).a) Za (by simp only [pF];omega)).to (by simp only;omega) (by simp only [Zn,fL,and_assoc])⟩,by simp only;omega,wk⟩
   ·have hkn:k=l.length:=Za
    subst hkn;exact ⟨m,hm.to Za (by rw [WZ]),0,by simp (disch:=omega) only [go_sem,seval]⟩
set_option maxHeartbeats 8000000
theorem pF.mono {j k:Nat} (h:j<=k) {f:Flt} (hf:pF j f):pF k f:=KW hf h
theorem FR.pmono {α:Type} {p q:α->Prop} {C:Prop} {b:Nat} {l:List α} (h:FR p C b l) (hp: ∀x,p x->q x):FR q C b l:=⟨h.len,h.emp,fun x hx=>hp x (h.all x hx)⟩
theorem Mx (n:Int):PC 228 [.p (.int .i64 n)] (.bool (If n)):=by
 refine Zc Tryz.func228 rfl yI ?_;simp (disch:=omega) only [Tryz.f228,go_sem,seval]
 repeat' (first | (refine gT ?_ ?_<;>intro hq<;>simp (disch:=omega) only [Sh.out hq,go_sem,seval,↓reduceIte]) | (refine Um (fun hq=> ?_) (fun hq=> ?_)<;>(try simp only [Zl,X3,Xk] at hq)<;>simp (disch:=omega) only [Sh.out hq,go_sem,seval]) | (refine UT (fun hq=> ?_) (fun hq=> ?_)<;>(try simp only [Zl,X3,Xk] at hq)<;>simp (disch:=omega) only [Sh.out hq,go_sem,seval]))
 all_goals (simp [If,rng];first | done | omega | (rw [Wu];simp;omega))
def ZW (n:Net):List AM.Obj:= [.cells [.p (.list n.places_c (n.places.map eS)),.p (.list n.arcs_c (n.arcs.map VW))]]
theorem C3 {P Q:Prop} (h:Q) (e:Q->P:=by intro h;simp (disch:=omega) only [ZW,go_sem,seval];exact h):P:=e h
theorem Ng (n:Net) (hp:n.places.length<=1048576) (hs: ∀s∈n.places,s.length<=1048576):ACalls Tryz.prog 170 [.p (Ai n)] [] fun x H'=> ∃m:List Flt,FR (pF 26) (Km n) (n.places.length+1) m/\x= .sl 0 0 m.length m.length/\H'= [.elems 2 (m.map eF)]:=by
 refine Z6 [2] Tryz.func170 rfl xB ?_;simp (disch:=omega) only [Tryz.f170,go_sem,seval];refine Zp (Weak.ofNil 3 2 (by simp (disch:=omega) only [go_sem,seval]) Zb (Weak.refl _ _ _)) ?_;refine ZJ [1] (fun m:List Flt=> [(3,.sl 1 0 m.length m.length)]) (fun m=>ZW n++ [.elems 2 (m.map eF)]) (fun m=>FR (pF 26) (n.places.length<=24) 1 m) ?_ ?_
 ·refine Yv ?_;refine ZH ?_ ?_<;>intro h
  ·exact ⟨[(4,[112,108,97,99,101,115])],⟨Zb,by simp;omega,by simp [pF]⟩,Weak.mk (by simp (disch:=omega) only [ZW,go_sem,seval])⟩
  ·exact ⟨[],FR.nil Za,Weak.mk (by simp (disch:=omega) only [ZW,go_sem,seval])⟩
 ·intro m hm;refine Zf [] _ _ _ _ (C3 ?_);refine Zj [1] (fun q:Nat×List Flt=> [(3,.sl 1 0 q.2.length q.2.length),(4,.p (.int .i64 q.1))]) (fun q=>ZW n++ [.elems 2 (q.2.map eF)]) (fun q=>q.1<=n.places.length/\FR (pF 26) (n.places.length<=24/\ ∀j,j<q.1->NM n j) (q.1+1) q.2) (fun q=>n.places.length-q.1) (0,m) ⟨Zb,hm.to Zb Zb⟩ (Weak.mk ?_) ?_
  ·simp (disch:=omega) only [ZW,go_sem,seval]
  ·rintro ⟨k,m⟩ ⟨hk,hm⟩;simp only at hk hm;have hml:=hm.len;refine C3 ?_;refine cD ?_ ?_<;>intro h<;>simp (disch:=omega) only [Sh.out h,go_sem,seval,↓reduceIte]
   ·have hk2:k<n.places.length:=Za
    have hI:UR (k:Int):=Za
    have hdl:=QC k hI;refine (KF k hI).use (Yv ?_);simp (disch:=first | omega | (simp only [Zz,ZQ,Zm,Zu,Zy,ZK]<;>omega)) only [go_sem,seval,↓reduceIte];refine (ND (nth n.places k) (hs _ (by grind [Zi]))).use (Yv ?_);refine ZH ?_ ?_<;>intro h2
    ·simp only [XR] at h2;exact ⟨(k+1,m++ [(5,[112,108,97,99,101,32]++Ah k)]),⟨Za,(hm.yes (c:=NM n k) (by rw [NM,h2];simp) (by simp [pF];omega)).to Zb (by grind)⟩,Za,wk⟩
    ·simp only [Xt] at h2;refine Zj [1,3,4,5] (fun q:Nat×Bool=> [(6,.p (.bool q.2)),(7,.p (.int .i64 q.1))]) (fun _=>ZW n++ [.elems 2 (m.map eF)]) (fun q=>q.1<=k/\(q.2=false↔ ∀j,j<q.1->nth n.places j≠nth n.places k)) (fun q=>k-q.1) (0,false) Zb (Weak.mk ?_) ?_
     ·simp (disch:=omega) only [ZW,go_sem,seval]
     ·rintro ⟨j,b⟩ ⟨hj,hb⟩;simp only at hj hb;refine C3 ?_;refine cD ?_ ?_<;>intro h3<;>simp (disch:=omega) only [Sh.out h3,go_sem,seval,↓reduceIte]
      ·refine Z1 14 mixed Zd Zd (Yv ?_)
       have hjn:j<n.places.length:=Za
       cases b with
       | true =>
        refine Yv ?_;exact ⟨(j+1,true),⟨Za,by grind⟩,Za,wk⟩
       | false =>
        refine Yv ?_;refine ⟨(j+1,decide (nth n.places j=nth n.places k)),⟨Za,by grind⟩,Za,wk⟩
      ·have hjk:j=k:=Za
       subst hjk
       cases b with
       | true =>
        refine Yv ?_
        have hno: ¬NM n j:=fun h5=>by have:=hb.2 h5.2;cases this
        exact ⟨(j+1,m++ [(6,[112,108,97,99,101,32]++Ah j)]),⟨Za,(hm.yes (c:=NM n j) hno (by simp [pF];omega)).to Zb (by grind)⟩,Za,wk⟩
       | false =>
        refine Yv ?_;exact ⟨(j+1,m),⟨Za,(hm.no (c:=NM n j) ⟨h2,hb.1 rfl⟩).to Zb (by grind)⟩,Za,wk⟩
   ·have hkn:k=n.places.length:=Za
    subst hkn;exact ⟨m,hm.to Za (by rw [Km]),1,by simp (disch:=omega) only [go_sem,seval]⟩
set_option maxHeartbeats 16000000
def WJ (a:Arc):AM.Obj:= .cells [.p (.int .i64 a.src),.p (.int .i64 a.dst),.p (.int .i64 a.prof),.p (.int .i64 a.miles),.p (.list a.travel_c (a.travel.map Fe)),.p (.list a.slow_c (a.slow.map Fe))]
abbrev Wh (a b:Arc):Prop:=a.src=b.src/\a.dst=b.dst/\a.prof=b.prof
theorem ZbR {P Q:Prop} (h:Q) (e:Q->P:=by intro h;simp (disch:=omega) only [ZW,WJ,go_sem,seval];exact h):P:=e h
theorem lB (n:Net) (i:Nat) (hi:i<n.arcs.length) (hp:n.places.length<=1048576) (ha:n.arcs.length<=1048576) (ht:(nth n.arcs i).travel.length<=1048576) (hsl:(nth n.arcs i).slow.length<=1048576) :
  ACalls Tryz.prog 171 [.p (Ai n),.p (.int .i64 (i:Nat))] [] fun x H'=> ∃m:List Flt,FR (pF 26) (IC n i) 4000000 m/\x= .sl 0 0 m.length m.length/\H'= [.elems 2 (m.map eF)]:=by
 refine Z6 [4] Tryz.func171 rfl xC ?_;simp (disch:=omega) only [Tryz.f171,go_sem,seval]
 have hI:UR (i:Int):=Za
 have hdl:=QC i hI;refine (KF i hI).use (Yv ?_);simp (disch:=first | omega | (simp only [Zz,ZQ,Zm,Zu,Zy,ZK]<;>omega)) only [go_sem,seval,↓reduceIte]
 have hat:(97::114::99::32::Ah i).length<=26:=by simp;omega
 generalize hga:nth n.arcs i=a at ht hsl ⊢;generalize 97::114::99::32::Ah i=at' at hat ⊢;refine Zp (Weak.ofNil 5 2 (by simp (disch:=omega) only [go_sem,seval]) Zb (Weak.refl _ _ _)) ?_;refine ZJ [1,2,6,7] (fun m:List Flt=> [(5,.sl 2 0 m.length m.length)]) (fun m=>ZW n++ [WJ a,.elems 2 (m.map eF)]) (fun m=>FR (pF 26) (0<=a.src/\a.src<n.places.length/\0<=a.dst/\a.dst<n.places.length) 1 m) ?_ ?_
 ·refine Yv ?_
  repeat' (first | (refine VF (fun hq=> ?_) (fun hq=> ?_)<;>(try simp only [Zl,X3,Xk] at hq)<;>simp (disch:=omega) only [Sh.out hq,go_sem,seval]) | (refine gF ?_ ?_<;>intro hq<;>simp (disch:=omega) only [Sh.out hq,go_sem,seval]) | (refine cD ?_ ?_<;>intro hq<;>simp (disch:=omega) only [Sh.out hq,go_sem,seval]))
  all_goals try exact ⟨[],FR.nil Za,Weak.mk (by simp (disch:=omega) only [ZW,WJ,go_sem,seval])⟩
  all_goals exact ⟨[(11,at')],⟨Zb,by simp;omega,by simpa [pF] using hat⟩,Weak.mk (by simp (disch:=omega) only [ZW,WJ,go_sem,seval])⟩
 ·intro m hm;refine Zf [6] _ _ _ _ (ZbR ?_);have hml:=hm.len
  refine ZJ [1,2,6,7] (fun m:List Flt=> [(5,.sl 2 0 m.length m.length)]) (fun m=>ZW n++ [WJ a,.elems 2 (m.map eF)])
   (fun m=>FR (pF 26) ((0<=a.src/\a.src<n.places.length/\0<=a.dst/\a.dst<n.places.length)/\(0<=a.prof/\a.prof<=7/\0<=a.miles/\a.miles<=10000/\a.src≠a.dst)) 2 m) ?_ ?_
  ·refine Yv ?_
   repeat' (first | (refine VF (fun hq=> ?_) (fun hq=> ?_)<;>(try simp only [Zl,X3,Xk] at hq)<;>simp (disch:=omega) only [Sh.out hq,go_sem,seval]) | (refine gF ?_ ?_<;>intro hq<;>simp (disch:=omega) only [Sh.out hq,go_sem,seval]) | (refine cD ?_ ?_<;>intro hq<;>simp (disch:=omega) only [Sh.out hq,go_sem,seval]))
   all_goals try exact ⟨m,hm.no Za,Weak.mk (by simp (disch:=omega) only [ZW,WJ,go_sem,seval])⟩
   all_goals exact ⟨m++ [(2,at')],hm.yes Za (by simpa [pF] using hat),Weak.mk (by simp (disch:=omega) only [ZW,WJ,go_sem,seval])⟩
  ·clear hm hml;intro m hm;refine Zf [14] _ _ _ _ (ZbR ?_);have hml:=hm.len;refine ZS [14] [1,2,5,6,7] (fun q:Nat×Bool=> [(8,.p (.bool q.2)),(9,.p (.int .i64 q.1))]) (fun _=>ZW n++ [WJ a,.elems 2 (m.map eF)]) (fun q=>q.1<=i/\(q.2=false↔ ∀j,j<q.1-> ¬Wh a (nth n.arcs j))) (fun q=>i-q.1) (0,false) Zb (Weak.mk ?_) ?_
   ·simp (disch:=omega) only [ZW,WJ,go_sem,seval]
   ·rintro ⟨k,b⟩ ⟨hk,hb⟩;simp only at hk hb;refine ZbR ?_;refine cD ?_ ?_<;>intro h<;>simp (disch:=omega) only [Sh.out h,go_sem,seval,↓reduceIte]
    ·have hkn:k<n.arcs.length:=Za
     cases b with
     | true =>
      refine Yv ?_;exact ⟨(k+1,true),⟨Za,by grind⟩,Za,wk⟩
     | false =>
      refine Yv ?_
      repeat' (first | (refine gT ?_ ?_<;>intro hq<;>simp (disch:=omega) only [Sh.out hq,go_sem,seval]) | (refine Um (fun hq=> ?_) (fun hq=> ?_)<;>(try simp only [Zl,X3,Xk] at hq)<;>simp (disch:=omega) only [Sh.out hq,go_sem,seval]) | (refine UT (fun hq=> ?_) (fun hq=> ?_)<;>(try simp only [Zl,X3,Xk] at hq)<;>simp (disch:=omega) only [Sh.out hq,go_sem,seval]))
      all_goals refine ⟨(k+1,decide (Wh a (nth n.arcs k))),⟨by simp only;omega,by rw [Zn,<- hb];simp⟩,by simp only;omega,Weak.mk ?_⟩
      all_goals simp (disch:=omega) only [go_sem,seval]
      all_goals simp [Wh, *]
    ·have hki:k=i:=Za
     subst hki;have htw:(b=false↔ ∀j,j<k-> ¬Wh a (nth n.arcs j)):=hb;clear hb hk h
     refine ZJ [6,7] (fun m:List Flt=> [(5,.sl 2 0 m.length m.length)]) (fun m=>ZW n++ [WJ a,.elems 2 (m.map eF)])
      (fun m=>FR (pF 26) (((0<=a.src/\a.src<n.places.length/\0<=a.dst/\a.dst<n.places.length)/\(0<=a.prof/\a.prof<=7/\0<=a.miles/\a.miles<=10000/\a.src≠a.dst))/\ ∀j,j<k-> ¬Wh a (nth n.arcs j)) 3 m) ?_ ?_
     ·refine Yv ?_
      cases b with
      | true =>
       refine Yv ?_;exact ⟨m++ [(6,at')],hm.yes (by grind) (by grind [pF]),Weak.mk (by simp (disch:=omega) only [ZW,WJ,go_sem,seval])⟩
      | false =>
       refine Yv ?_;exact ⟨m,hm.no (htw.1 rfl),Weak.mk (by simp (disch:=omega) only [ZW,WJ,go_sem,seval])⟩
     ·clear hm hml;intro m hm;refine Zf [21] _ _ _ _ (ZbR ?_);have hml:=hm.len;refine ((aH a.travel a.travel_c ht).frozenE).useV fun lt hlt=>Yv ?_;have hltl:=hlt.len
      refine ZS [21] [6,7,11] (fun q:Nat×List Flt=> [(5,.sl 2 0 q.2.length q.2.length),(12,.p (.int .i64 q.1))]) (fun q=>ZW n++ [WJ a,.elems 2 (q.2.map eF)])
       (fun q=>q.1<=lt.length/\FR (pF 26) ((((0<=a.src/\a.src<n.places.length/\0<=a.dst/\a.dst<n.places.length)/\(0<=a.prof/\a.prof<=7/\0<=a.miles/\a.miles<=10000/\a.src≠a.dst))/\ ∀j,j<k-> ¬Wh a (nth n.arcs j))/\q.1=0) (3+q.1) q.2) (fun q=>lt.length-q.1) (0,m) ⟨Zb,hm.to Zb Zb⟩ (Weak.mk ?_) ?_
      ·simp (disch:=omega) only [ZW,WJ,go_sem,seval]
      ·clear hm hml;rintro ⟨j,m⟩ ⟨hj,hm⟩;simp only at hj hm;have hml:=hm.len;refine ZbR ?_;refine ZH ?_ ?_<;>intro h
       ·have hj2:j<lt.length:=Za
        exact ⟨(j+1,m++ [((nth lt j).1,at')]),⟨Za,(hm.yes (c:=False) Zb (by grind [pF])).to Za Zb⟩,Za,wk⟩
       ·have hjl:j=lt.length:=Za
        subst hjl;have hm2:=hm.to (d:=3+lt.length) (D:=(((0<=a.src/\a.src<n.places.length/\0<=a.dst/\a.dst<n.places.length)/\(0<=a.prof/\a.prof<=7/\0<=a.miles/\a.miles<=10000/\a.src≠a.dst))/\ ∀j,j<k-> ¬Wh a (nth n.arcs j))/\WZ a.travel) (ZL _) (by rw [<- hlt.emp,List.eq_nil_iff_length_eq_zero]);clear hm
        refine ZJ [6,7] (fun m:List Flt=> [(5,.sl 2 0 m.length m.length)]) (fun m=>ZW n++ [WJ a,.elems 2 (m.map eF)])
         (fun m=>FR (pF 26) (((((0<=a.src/\a.src<n.places.length/\0<=a.dst/\a.dst<n.places.length)/\(0<=a.prof/\a.prof<=7/\0<=a.miles/\a.miles<=10000/\a.src≠a.dst))/\ ∀j,j<k-> ¬Wh a (nth n.arcs j))/\WZ a.travel)/\a.slow.length<=16) (4+lt.length) m) ?_ ?_
        ·refine Yv ?_;refine ZH ?_ ?_<;>intro h2
         ·exact ⟨m++ [(4,at')],(hm2.yes Za (by grind [pF])).to Za Iff.rfl,Weak.mk (by simp (disch:=omega) only [ZW,WJ,go_sem,seval])⟩
         ·exact ⟨m,(hm2.no Za).to Za Iff.rfl,Weak.mk (by simp (disch:=omega) only [ZW,WJ,go_sem,seval])⟩
        ·clear hm2 hml h hj;intro m hm;refine Zf [] _ _ _ _ (ZbR ?_)
         refine Zj [6,7] (fun q:Nat×List Flt=> [(5,.sl 2 0 q.2.length q.2.length),(13,.p (.int .i64 q.1))]) (fun q=>ZW n++ [WJ a,.elems 2 (q.2.map eF)])
          (fun q=>q.1<=a.slow.length/\FR (pF 26) ((((((0<=a.src/\a.src<n.places.length/\0<=a.dst/\a.dst<n.places.length)/\(0<=a.prof/\a.prof<=7/\0<=a.miles/\a.miles<=10000/\a.src≠a.dst))/\ ∀j,j<k-> ¬Wh a (nth n.arcs j))/\WZ a.travel)/\a.slow.length<=16)/\ ∀j,j<q.1->Ku a.slow j) (4+lt.length+q.1) q.2) (fun q=>a.slow.length-q.1) (0,m) ⟨Zb,hm.to Zb Zb⟩ (Weak.mk ?_) ?_
         ·simp (disch:=omega) only [ZW,WJ,go_sem,seval]
         ·clear hm;rintro ⟨j,m⟩ ⟨hj,hm⟩;simp only at hj hm;have hml:=hm.len;refine ZbR ?_;refine cD ?_ ?_<;>intro h<;>simp (disch:=omega) only [Sh.out h,go_sem,seval,↓reduceIte]
          ·have hj2:j<a.slow.length:=Za
           refine Xd (Yv ?_);refine Zo (Mx (nth a.slow j).t) (Yv ?_);have hslo:Ku a.slow j↔(If (nth a.slow j).t=true/\If (nth a.slow j).a=true/\(0<j->(nth a.slow (j-1)).t<(nth a.slow j).t)):=Iff.rfl;have hyes: ¬Ku a.slow j->_:=fun hs=>(hm.yes (x:=(2,at')) hs (by grind [pF])).to (D:=(((((0<=a.src/\a.src<n.places.length/\0<=a.dst/\a.dst<n.places.length)/\(0<=a.prof/\a.prof<=7/\0<=a.miles/\a.miles<=10000/\a.src≠a.dst))/\ ∀j,j<k-> ¬Wh a (nth n.arcs j))/\WZ a.travel)/\a.slow.length<=16)/\ ∀i,i<j+1->Ku a.slow i) (d:=4+lt.length+(j+1)) Za (by grind)
           have hno:Ku a.slow j->_:=fun hs=>(hm.no hs).to (D:=(((((0<=a.src/\a.src<n.places.length/\0<=a.dst/\a.dst<n.places.length)/\(0<=a.prof/\a.prof<=7/\0<=a.miles/\a.miles<=10000/\a.src≠a.dst))/\ ∀j,j<k-> ¬Wh a (nth n.arcs j))/\WZ a.travel)/\a.slow.length<=16)/\ ∀i,i<j+1->Ku a.slow i) (d:=4+lt.length+(j+1)) Za (by grind)
           cases ht1:If (nth a.slow j).t with
           | false =>
            refine Yv ?_;exact ⟨(j+1,m++ [(2,at')]),⟨Za,hyes (by grind)⟩,Za,wk⟩
           | true =>
            refine Yv ?_;refine Zo (Mx (nth a.slow j).a) (Yv ?_)
            cases ht2:If (nth a.slow j).a with
            | false =>
             refine Yv ?_;exact ⟨(j+1,m++ [(2,at')]),⟨Za,hyes (by grind)⟩,Za,wk⟩
            | true =>
             refine Yv ?_
             repeat' (first | (refine gT ?_ ?_<;>intro hq<;>simp (disch:=omega) only [Sh.out hq,go_sem,seval]) | (refine Um (fun hq=> ?_) (fun hq=> ?_)<;>(try simp only [Zl,X3,Xk] at hq)<;>simp (disch:=omega) only [Sh.out hq,go_sem,seval]) | (refine cD ?_ ?_<;>intro hq<;>simp (disch:=omega) only [Sh.out hq,go_sem,seval]))
             ·exact ⟨(j+1,m++ [(2,at')]),⟨Za,hyes (by grind)⟩,Za,wk⟩
             ·exact ⟨(j+1,m),⟨Za,hno (by grind)⟩,Za,wk⟩
             ·exact ⟨(j+1,m),⟨Za,hno (by grind)⟩,Za,wk⟩
          ·have hjn:j=a.slow.length:=Za
           subst hjn;exact ⟨m,hm.to Za (by rw [IC,hga]),2,by simp (disch:=omega) only [go_sem,seval]⟩
theorem Zq {α:Type} [Inhabited α] {l:List α} {i:Nat} (h:i<l.length):nth l i∈l:=by grind [Zi]
theorem uL (n:Net) (hw:n.wf 1048576):ACalls Tryz.prog 126 [.p (Ai n)] [] fun x H'=> ∃m:List Flt,FR (pF 26) (netOk n) 4194306000000 m/\x= .sl 0 0 m.length m.length/\H'= [.elems 2 (m.map eF)]:=by
 obtain ⟨w1,w2,w3,w4⟩:=hw;refine Z6 [2] Tryz.func126 rfl vV ?_;simp (disch:=omega) only [Tryz.f126,go_sem,seval];refine (Ng n w1 w2).useE fun m hm=>Yv ?_;have hml:=hm.len;refine ZJ [1] (fun m:List Flt=> [(3,.sl 1 0 m.length m.length)]) (fun m=>ZW n++ [.elems 2 (m.map eF)]) (fun m=>FR (pF 26) (Km n/\n.arcs.length<=1024) (n.places.length+2) m) ?_ ?_
 ·refine Yv ?_;refine ZH ?_ ?_<;>intro h
  ·exact ⟨m++ [(4,[97,114,99,115])],hm.yes Za (by simp [pF]),Weak.mk (by simp (disch:=omega) only [ZW,go_sem,seval])⟩
  ·exact ⟨m,hm.no Za,Weak.mk (by simp (disch:=omega) only [ZW,go_sem,seval])⟩
 ·clear hm hml;intro m hm;refine Zf [] _ _ _ _ (C3 ?_);refine Zj [1] (fun q:Nat×List Flt=> [(3,.sl 1 0 q.2.length q.2.length),(4,.p (.int .i64 q.1))]) (fun q=>ZW n++ [.elems 2 (q.2.map eF)]) (fun q=>q.1<=n.arcs.length/\FR (pF 26) ((Km n/\n.arcs.length<=1024)/\ ∀j,j<q.1->IC n j) (n.places.length+2+q.1*4000000) q.2) (fun q=>n.arcs.length-q.1) (0,m) ⟨Zb,hm.to Zb Zb⟩ (Weak.mk ?_) ?_
  ·simp (disch:=omega) only [ZW,go_sem,seval]
  ·clear hm;rintro ⟨k,m⟩ ⟨hk,hm⟩;simp only at hk hm;have hml:=hm.len;refine C3 ?_;refine cD ?_ ?_<;>intro h<;>simp (disch:=omega) only [Sh.out h,go_sem,seval,↓reduceIte]
   ·have hk2:k<n.arcs.length:=Za
    have ha:=w4 _ (Zq hk2);refine (lB n k hk2 w1 w3 ha.2.2.2.2.1 ha.2.2.2.2.2.2.1).useE fun f hf=>Yv ?_;have hfl:=hf.len
    have q1:(m.length+f.length)*24<=140737488355328:=Za
    have q2:m.length+f.length<=140737488355328:=Za
    simp (disch:=omega) only [q1,q2,go_sem,seval];refine ⟨(k+1,m++f),⟨Za,(hm.app hf).to Za (by grind)⟩,Za,Weak.mk ?_⟩;simp (disch:=omega) only [Zm,Xi,go_sem,seval]
   ·have hkn:k=n.arcs.length:=Za
    subst hkn;exact ⟨m,hm.to Za (by rw [netOk]),1,by simp (disch:=omega) only [go_sem,seval]⟩
theorem Vb (n lo hi:Int):PC 172 [.p (.int .i64 n),.p (.int .i64 lo),.p (.int .i64 hi)] (.bool (rng n lo hi)):=by
 refine Zc Tryz.func172 rfl xD ?_;simp (disch:=omega) only [Tryz.f172,go_sem,seval];refine gT ?_ ?_<;>intro h<;>simp (disch:=omega) only [Sh.out h,go_sem,seval,↓reduceIte]
 all_goals (simp [rng];first | done | omega | (rw [Wu];simp;omega))
def Us (l:List Int) (d:Int):Bool:=rng l.length 1 3&&decide ((l.length:Int)=d)&&l.all fun n=>rng n 0 1000
theorem Nb (l:List Int) (c:Bool) (d:Int) (hl:l.length<=1048576):PC 230 [.p (.list c (l.map eI)),.p (.int .i64 d)] (.bool (Us l d)):=by
 refine Zc Tryz.func230 rfl yK ?_;simp (disch:=omega) only [Tryz.f230,go_sem,seval];refine (Vb l.length 1 3).use (Yv ?_);refine gF ?_ ?_<;>intro h<;>simp (disch:=omega) only [Sh.out h,go_sem,seval,↓reduceIte]
 ·grind [Us]
 ·simp only [Xt] at h;refine cD ?_ ?_<;>intro h2<;>simp (disch:=omega) only [Sh.out h2,go_sem,seval]
  ·simp [Us,h,h2]
  ·simp only [Xk] at h2;subst h2;refine Zj [0] (fun k:Nat=> [(5,.p (.int .i64 k))]) (fun _=> []) (fun k=>k<=l.length/\ ∀j,j<k->rng (nth l j) 0 1000=true) (fun k=>l.length-k) 0 Zb (Weak.mk ?_) ?_
   ·simp (disch:=omega) only [go_sem,seval,↓reduceIte]
   ·rintro k ⟨hk,hno⟩;refine Yv ?_;refine cD ?_ ?_<;>intro h3<;>simp (disch:=omega) only [Sh.out h3,go_sem,seval,↓reduceIte]
    ·have hk2:k<l.length:=Za
     refine (Vb (nth l k) 0 1000).use (Yv ?_);refine cD ?_ ?_<;>intro h4<;>simp (disch:=omega) only [Sh.out h4,go_sem,seval,↓reduceIte]
     ·grind [Zq,Us]
     ·simp only [Xt] at h4;exact ⟨k+1,⟨Za,Zn.2 ⟨hno,h4⟩⟩,Za,wk⟩
    ·have:l.all (fun n=>rng n 0 1000)=true:=by
      rw [ZC];intro x hx;obtain ⟨j,hj,rfl⟩:=ZD.1 hx
      grind [Zi]
     grind [Us]
def Nz (l:List Typ) (i:Nat) (s:List UInt8):Bool:=(List.range i).any fun j=>decide ((nth l j).name=s)
theorem Ue {l:List Typ} {i:Nat} {s:List UInt8} :Nz l i s=false↔ ∀j,j<i->(nth l j).name≠s:=by
 grind [Nz]
theorem R0 (l:List Typ) (c:Bool) (i:Nat) (s:List UInt8) (hi:i<=l.length) (hl:l.length<=1048576):PC 229 [.p (.list c (l.map Vr)),.p (.int .i64 (i:Nat)),.p (.str s)] (.bool (Nz l i s)):=by
 refine Zc Tryz.func229 rfl yJ ?_;simp (disch:=omega) only [Tryz.f229,go_sem,seval];refine Zj [0,1,2] (fun k:Nat=> [(7,.p (.int .i64 k))]) (fun _=> []) (fun k=>k<=i/\ ∀j,j<k->(nth l j).name≠s) (fun k=>i-k) 0 Zb (Weak.mk ?_) ?_
 ·simp (disch:=omega) only [go_sem,seval,↓reduceIte]
 ·rintro k ⟨hk,hno⟩;refine Yv ?_;refine cD ?_ ?_<;>intro h3<;>simp (disch:=omega) only [Sh.out h3,go_sem,seval,↓reduceIte]
  ·have hk2:k<l.length:=Za
   refine cD ?_ ?_<;>intro h4<;>simp (disch:=omega) only [Sh.out h4,go_sem,seval,↓reduceIte]
   ·grind [Ue]
   ·exact ⟨k+1,⟨Za,Zn.2 ⟨hno,h4⟩⟩,Za,wk⟩
  grind [Ue]
def dimsOf (l:List Typ):Int:=if l.length=0 then 0 else ((nth l 0).cap.length:Int)
theorem I3 (l:List Typ) (c:Bool) (hl:l.length<=1048576):PC 129 [.p (.list c (l.map Vr))] (.int .i64 (dimsOf l)):=by
 refine Zc Tryz.func129 rfl vY ?_;simp (disch:=omega) only [Tryz.f129,go_sem,seval];refine cD ?_ ?_<;>intro h<;>simp (disch:=omega) only [Sh.out h,go_sem,seval,↓reduceIte]
 ·grind [dimsOf]
 ·have h0:0<l.length:=Za
  have h1:l.length≠0:=Za
  simp (disch:=first | omega | (simp only [Zz,ZQ,Zm,Zu,Zy,ZK]<;>omega)) only [dimsOf,h1,go_sem,seval,↓reduceIte]
def XV (t:Typ):AM.Obj:= .cells [.p (.str t.name),.p (.int .i64 t.count),.p (.int .i64 t.src),.p (.int .i64 t.dst),.p (.list t.cap_c (t.cap.map eI)),.p (.int .i64 t.skills),.p (.int .i64 t.prof),.p (.int .i64 t.opn),.p (.int .i64 t.cls),.p (.int .i64 t.drive),.p (.int .i64 t.rest),.p (.int .i64 t.fixed),.p (.int .i64 t.perMile),.p (.int .i64 t.perTick)]
def Au (n:Net) (l:List Typ) (i:Nat):Prop:=((((((((nameOk (nth l i).name=true)/\(∀j,j<i->(nth l j).name≠(nth l i).name))/\rng (nth l i).count 0 10=true)/\(rng (nth l i).src 0 (n.places.length-1)=true/\rng (nth l i).dst 0 (n.places.length-1)=true))/\Us (nth l i).cap (dimsOf l)=true)/\rng (nth l i).skills 0 1073741823=true)/\(rng (nth l i).opn 0 (nth l i).cls=true/\(nth l i).cls<=4096))/\(rng (nth l i).drive 1 4096=true/\rng (nth l i).rest 0 4096=true))/\(rng (nth l i).prof 0 7=true/\rng (nth l i).fixed 0 100000=true/\rng (nth l i).perMile 0 100=true/\rng (nth l i).perTick 0 100=true)
theorem ZcR {P Q:Prop} (h:Q) (e:Q->P:=by intro h;simp (disch:=omega) only [ZW,XV,go_sem,seval];exact h):P:=e h
theorem SQ (n:Net) (l:List Typ) (c:Bool) (i:Nat) (hi:i<l.length) (hl:l.length<=1048576) (hw:n.wf 1048576) (ht:(nth l i).wf 1048576) :
  ACalls Tryz.prog 173 [.p (Ai n),.p (.list c (l.map Vr)),.p (.int .i64 (i:Nat))] [] fun x H'=> ∃m:List Int,FR (fun _=>True) (Au n l i) 9 m/\x= .sl 0 0 m.length m.length/\H'= [.elems 1 (m.map eI)]:=by
 obtain ⟨w1,w2,w3,w4⟩:=hw;refine Z6 [3] Tryz.func173 rfl xE ?_;simp (disch:=omega) only [Tryz.f173,go_sem,seval];have hty:Au n l i↔((((((((nameOk (nth l i).name=true)/\(∀j,j<i->(nth l j).name≠(nth l i).name))/\rng (nth l i).count 0 10=true)/\(rng (nth l i).src 0 (n.places.length-1)=true/\rng (nth l i).dst 0 (n.places.length-1)=true))/\Us (nth l i).cap (dimsOf l)=true)/\rng (nth l i).skills 0 1073741823=true)/\(rng (nth l i).opn 0 (nth l i).cls=true/\(nth l i).cls<=4096))/\(rng (nth l i).drive 1 4096=true/\rng (nth l i).rest 0 4096=true))/\(rng (nth l i).prof 0 7=true/\rng (nth l i).fixed 0 100000=true/\rng (nth l i).perMile 0 100=true/\rng (nth l i).perTick 0 100=true):=Iff.rfl
 generalize hga:nth l i=t at ht hty ⊢;have hname:=ht.1;have hcap:=ht.2.2.2.2.1;refine Zp (Weak.ofNil 8 1 (by simp (disch:=omega) only [go_sem,seval]) Zb (Weak.refl _ _ _)) ?_;refine ZJ [1,2,3,7] (fun m:List Int=> [(8,.sl 2 0 m.length m.length)]) (fun m=>ZW n++ [XV t,.elems 1 (m.map eI)]) (fun m=>FR (fun _=>True) (nameOk t.name=true) 1 m) ?_ ?_
 ·refine Yv ?_;refine (ND t.name hname).use (Yv ?_);refine ZH ?_ ?_<;>intro h0
  ·simp only [XR] at h0;exact ⟨[5],⟨Zb,by simp [h0],Zb⟩,Weak.mk (by simp (disch:=omega) only [ZW,XV,go_sem,seval])⟩
  ·simp only [Xt] at h0;exact ⟨[],FR.nil (by simp [h0]),Weak.mk (by simp (disch:=omega) only [ZW,XV,go_sem,seval])⟩
 ·skip
  intro m hm;refine Zf [5] _ _ _ _ (ZcR ?_);have hml:=hm.len;refine ZJ [1,3,7] (fun m:List Int=> [(8,.sl 2 0 m.length m.length)]) (fun m=>ZW n++ [XV t,.elems 1 (m.map eI)]) (fun m=>FR (fun _=>True) ((nameOk t.name=true)/\(∀j,j<i->(nth l j).name≠t.name)) 2 m) ?_ ?_
  ·refine Yv ?_;refine (R0 l c i t.name Za hl).use (Yv ?_);refine ZH ?_ ?_<;>intro h
   ·exact ⟨m++ [6],hm.yes (by grind [Ue]) trivial,Weak.mk (by simp (disch:=omega) only [ZW,XV,go_sem,seval])⟩
   ·exact ⟨m,hm.no (by exact Ue.1 h),Weak.mk (by simp (disch:=omega) only [ZW,XV,go_sem,seval])⟩
  ·clear hm hml;intro m hm;refine Zf [7] _ _ _ _ (ZcR ?_);have hml:=hm.len;refine ZJ [1,3,7] (fun m:List Int=> [(8,.sl 2 0 m.length m.length)]) (fun m=>ZW n++ [XV t,.elems 1 (m.map eI)]) (fun m=>FR (fun _=>True) (((nameOk t.name=true)/\(∀j,j<i->(nth l j).name≠t.name))/\rng t.count 0 10=true) 3 m) ?_ ?_
   ·refine Yv ?_;refine (Vb t.count 0 10).use (Yv ?_);refine ZH ?_ ?_<;>intro h0
    ·simp only [XR] at h0;exact ⟨m++ [22],hm.yes (by simp [h0]) trivial,Weak.mk (by simp (disch:=omega) only [ZW,XV,go_sem,seval])⟩
    ·simp only [Xt] at h0;exact ⟨m,hm.no (by simp [h0]),Weak.mk (by simp (disch:=omega) only [ZW,XV,go_sem,seval])⟩
   ·clear hm hml;intro m hm;refine Zf [9] _ _ _ _ (ZcR ?_);have hml:=hm.len;refine ZJ [1,7] (fun m:List Int=> [(8,.sl 2 0 m.length m.length)]) (fun m=>ZW n++ [XV t,.elems 1 (m.map eI)]) (fun m=>FR (fun _=>True) ((((nameOk t.name=true)/\(∀j,j<i->(nth l j).name≠t.name))/\rng t.count 0 10=true)/\(rng t.src 0 (n.places.length-1)=true/\rng t.dst 0 (n.places.length-1)=true)) 4 m) ?_ ?_
    ·refine Yv ?_;refine (Vb t.src 0 (n.places.length-1)).use (Yv ?_);refine Ag ?_ ?_<;>intro h0
     ·simp only [XR] at h0;exact ⟨m++ [11],hm.yes (by simp [h0]) trivial,Weak.mk (by simp (disch:=omega) only [ZW,XV,go_sem,seval])⟩
     ·simp only [Xt] at h0;refine (Vb t.dst 0 (n.places.length-1)).use (Yv ?_);refine ZH ?_ ?_<;>intro h1
      ·simp only [XR] at h1;exact ⟨m++ [11],hm.yes (by simp [h1]) trivial,Weak.mk (by simp (disch:=omega) only [ZW,XV,go_sem,seval])⟩
      ·simp only [Xt] at h1;exact ⟨m,hm.no (by simp [h0,h1]),Weak.mk (by simp (disch:=omega) only [ZW,XV,go_sem,seval])⟩
    ·clear hm hml;intro m hm;refine Zf [11] _ _ _ _ (ZcR ?_);have hml:=hm.len;refine ZJ [7] (fun m:List Int=> [(8,.sl 2 0 m.length m.length)]) (fun m=>ZW n++ [XV t,.elems 1 (m.map eI)]) (fun m=>FR (fun _=>True) (((((nameOk t.name=true)/\(∀j,j<i->(nth l j).name≠t.name))/\rng t.count 0 10=true)/\(rng t.src 0 (n.places.length-1)=true/\rng t.dst 0 (n.places.length-1)=true))/\Us t.cap (dimsOf l)=true) 5 m) ?_ ?_
     ·refine Yv ?_;refine Xd (Yv ?_);refine Zo (I3 l c hl) (Yv ?_);refine Zo (Nb t.cap t.cap_c (dimsOf l) hcap) (Yv ?_);refine ZH ?_ ?_<;>intro h
      ·simp only [XR] at h;exact ⟨m++ [17],hm.yes (by simp [h]) trivial,Weak.mk (by simp (disch:=omega) only [ZW,XV,go_sem,seval])⟩
      ·simp only [Xt] at h;exact ⟨m,hm.no (by simp [h]),Weak.mk (by simp (disch:=omega) only [ZW,XV,go_sem,seval])⟩
     ·clear hm hml;intro m hm;refine Zf [13] _ _ _ _ (ZcR ?_);have hml:=hm.len;refine ZJ [7] (fun m:List Int=> [(8,.sl 2 0 m.length m.length)]) (fun m=>ZW n++ [XV t,.elems 1 (m.map eI)]) (fun m=>FR (fun _=>True) ((((((nameOk t.name=true)/\(∀j,j<i->(nth l j).name≠t.name))/\rng t.count 0 10=true)/\(rng t.src 0 (n.places.length-1)=true/\rng t.dst 0 (n.places.length-1)=true))/\Us t.cap (dimsOf l)=true)/\rng t.skills 0 1073741823=true) 6 m) ?_ ?_
      ·refine Yv ?_;refine (Vb t.skills 0 1073741823).use (Yv ?_);refine ZH ?_ ?_<;>intro h0
       ·simp only [XR] at h0;exact ⟨m++ [18],hm.yes (by simp [h0]) trivial,Weak.mk (by simp (disch:=omega) only [ZW,XV,go_sem,seval])⟩
       ·simp only [Xt] at h0;exact ⟨m,hm.no (by simp [h0]),Weak.mk (by simp (disch:=omega) only [ZW,XV,go_sem,seval])⟩
      ·clear hm hml;intro m hm;refine Zf [15] _ _ _ _ (ZcR ?_);have hml:=hm.len;refine ZJ [7] (fun m:List Int=> [(8,.sl 2 0 m.length m.length)]) (fun m=>ZW n++ [XV t,.elems 1 (m.map eI)]) (fun m=>FR (fun _=>True) (((((((nameOk t.name=true)/\(∀j,j<i->(nth l j).name≠t.name))/\rng t.count 0 10=true)/\(rng t.src 0 (n.places.length-1)=true/\rng t.dst 0 (n.places.length-1)=true))/\Us t.cap (dimsOf l)=true)/\rng t.skills 0 1073741823=true)/\(rng t.opn 0 t.cls=true/\t.cls<=4096)) 7 m) ?_ ?_
       ·refine Yv ?_;refine (Vb t.opn 0 t.cls).use (Yv ?_);refine Ag ?_ ?_<;>intro h0
        ·simp only [XR] at h0;exact ⟨m++ [15],hm.yes (by simp [h0]) trivial,Weak.mk (by simp (disch:=omega) only [ZW,XV,go_sem,seval])⟩
        ·simp only [Xt] at h0;refine ZH ?_ ?_<;>intro h1
         ·exact ⟨m++ [15],hm.yes Za trivial,Weak.mk (by simp (disch:=omega) only [ZW,XV,go_sem,seval])⟩
         ·exact ⟨m,hm.no (by grind),Weak.mk (by simp (disch:=omega) only [ZW,XV,go_sem,seval])⟩
       ·clear hm hml;intro m hm;refine Zf [17] _ _ _ _ (ZcR ?_);have hml:=hm.len;refine ZJ [7] (fun m:List Int=> [(8,.sl 2 0 m.length m.length)]) (fun m=>ZW n++ [XV t,.elems 1 (m.map eI)]) (fun m=>FR (fun _=>True) ((((((((nameOk t.name=true)/\(∀j,j<i->(nth l j).name≠t.name))/\rng t.count 0 10=true)/\(rng t.src 0 (n.places.length-1)=true/\rng t.dst 0 (n.places.length-1)=true))/\Us t.cap (dimsOf l)=true)/\rng t.skills 0 1073741823=true)/\(rng t.opn 0 t.cls=true/\t.cls<=4096))/\(rng t.drive 1 4096=true/\rng t.rest 0 4096=true)) 8 m) ?_ ?_
        ·refine Yv ?_;refine (Vb t.drive 1 4096).use (Yv ?_);refine Ag ?_ ?_<;>intro h0
         ·simp only [XR] at h0;exact ⟨m++ [16],hm.yes (by simp [h0]) trivial,Weak.mk (by simp (disch:=omega) only [ZW,XV,go_sem,seval])⟩
         ·simp only [Xt] at h0;refine (Vb t.rest 0 4096).use (Yv ?_);refine ZH ?_ ?_<;>intro h1
          ·simp only [XR] at h1;exact ⟨m++ [16],hm.yes (by simp [h1]) trivial,Weak.mk (by simp (disch:=omega) only [ZW,XV,go_sem,seval])⟩
          ·simp only [Xt] at h1;exact ⟨m,hm.no (by simp [h0,h1]),Weak.mk (by simp (disch:=omega) only [ZW,XV,go_sem,seval])⟩
        ·clear hm hml;intro m hm;refine Zf [19] _ _ _ _ (ZcR ?_);have hml:=hm.len;refine ZJ [] (fun m:List Int=> [(8,.sl 2 0 m.length m.length)]) (fun m=>ZW n++ [XV t,.elems 1 (m.map eI)]) (fun m=>FR (fun _=>True) (((((((((nameOk t.name=true)/\(∀j,j<i->(nth l j).name≠t.name))/\rng t.count 0 10=true)/\(rng t.src 0 (n.places.length-1)=true/\rng t.dst 0 (n.places.length-1)=true))/\Us t.cap (dimsOf l)=true)/\rng t.skills 0 1073741823=true)/\(rng t.opn 0 t.cls=true/\t.cls<=4096))/\(rng t.drive 1 4096=true/\rng t.rest 0 4096=true))/\(rng t.prof 0 7=true/\rng t.fixed 0 100000=true/\rng t.perMile 0 100=true/\rng t.perTick 0 100=true)) 9 m) ?_ ?_
         ·refine Yv ?_;refine (Vb t.prof 0 7).use (Yv ?_);refine gF ?_ ?_<;>intro h0<;>simp (disch:=omega) only [Sh.out h0,go_sem,seval,↓reduceIte]
          ·simp only [XR] at h0;exact ⟨m++ [2],hm.yes (by simp [h0]) trivial,Weak.mk (by simp (disch:=omega) only [ZW,XV,go_sem,seval])⟩
          ·simp only [Xt] at h0;refine (Vb t.fixed 0 100000).use (Yv ?_);refine gF ?_ ?_<;>intro h1<;>simp (disch:=omega) only [Sh.out h1,go_sem,seval,↓reduceIte]
           ·simp only [XR] at h1;exact ⟨m++ [2],hm.yes (by simp [h1]) trivial,Weak.mk (by simp (disch:=omega) only [ZW,XV,go_sem,seval])⟩
           ·simp only [Xt] at h1;refine (Vb t.perMile 0 100).use (Yv ?_);refine gF ?_ ?_<;>intro h2<;>simp (disch:=omega) only [Sh.out h2,go_sem,seval,↓reduceIte]
            ·simp only [XR] at h2;exact ⟨m++ [2],hm.yes (by simp [h2]) trivial,Weak.mk (by simp (disch:=omega) only [ZW,XV,go_sem,seval])⟩
            ·simp only [Xt] at h2;refine (Vb t.perTick 0 100).use (Yv ?_);refine cD ?_ ?_<;>intro h3<;>simp (disch:=omega) only [Sh.out h3,go_sem,seval,↓reduceIte]
             ·simp only [XR] at h3;exact ⟨m++ [2],hm.yes (by simp [h3]) trivial,Weak.mk (by simp (disch:=omega) only [ZW,XV,go_sem,seval])⟩
             ·simp only [Xt] at h3;exact ⟨m,hm.no (by grind),Weak.mk (by simp (disch:=omega) only [ZW,XV,go_sem,seval])⟩
         ·clear hm hml;intro m hm;refine Zf [] _ _ _ _ (ZcR ?_);have hml:=hm.len;exact ⟨m,hm.to Za (by rw [hty]),2,by simp (disch:=omega) only [go_sem,seval]⟩
def typesOk (n:Net) (l:List Typ):Prop:=rng l.length 1 6=true/\ ∀i,i<l.length->Au n l i
theorem uM (n:Net) (l:List Typ) (c:Bool) (hw:n.wf 1048576) (hl:l.length<=1048576) (hlw: ∀t∈l,t.wf 1048576) :
  ACalls Tryz.prog 127 [.p (Ai n),.p (.list c (l.map Vr))] [] fun x H'=> ∃m:List Flt,FR (pF 20) (typesOk n l) (1+9*l.length) m/\x= .sl 0 0 m.length m.length/\H'= [.elems 2 (m.map eF)]:=by
 refine Z6 [2] Tryz.func127 rfl vW ?_;simp (disch:=omega) only [Tryz.f127,go_sem,seval];refine Zp (Weak.ofNil 5 2 (by simp (disch:=omega) only [go_sem,seval]) Zb (Weak.refl _ _ _)) ?_;refine ZJ [1,2] (fun m:List Flt=> [(5,.sl 1 0 m.length m.length)]) (fun m=>ZW n++ [.elems 2 (m.map eF)]) (fun m=>FR (pF 20) (rng l.length 1 6=true) 1 m) ?_ ?_
 ·refine Yv ?_;refine (Vb l.length 1 6).use (Yv ?_);refine ZH ?_ ?_<;>intro h
  ·simp only [XR] at h;exact ⟨[(4,[])],⟨Zb,by simp [h],by simp [pF]⟩,Weak.mk (by simp (disch:=omega) only [ZW,go_sem,seval])⟩
  ·simp only [Xt] at h;exact ⟨[],FR.nil h,Weak.mk (by simp (disch:=omega) only [ZW,go_sem,seval])⟩
 ·intro m hm;refine Zf [] _ _ _ _ (C3 ?_);refine Zj [1,2] (fun q:Nat×List Flt=> [(5,.sl 1 0 q.2.length q.2.length),(6,.p (.int .i64 q.1))]) (fun q=>ZW n++ [.elems 2 (q.2.map eF)]) (fun q=>q.1<=l.length/\FR (pF 20) (rng l.length 1 6=true/\ ∀j,j<q.1->Au n l j) (1+9*q.1) q.2) (fun q=>l.length-q.1) (0,m) ⟨Zb,hm.to Zb Zb⟩ (Weak.mk ?_) ?_
  ·simp (disch:=omega) only [ZW,go_sem,seval]
  ·clear hm;rintro ⟨k,m⟩ ⟨hk,hm⟩;simp only at hk hm;have hml:=hm.len;refine C3 ?_;refine cD ?_ ?_<;>intro h<;>simp (disch:=omega) only [Sh.out h,go_sem,seval,↓reduceIte]
   ·have hk2:k<l.length:=Za
    have hI:UR (k:Int):=Za
    have hdl:=QC k hI;refine ((SQ n l c k hk2 hl hw (hlw _ (Zq hk2))).frozenE).useV fun e he=>Yv ?_;have hel:=he.len;refine Zj [1,2,6,7] (fun q:Nat×List Flt=> [(5,.sl 1 0 q.2.length q.2.length),(8,.p (.int .i64 q.1))]) (fun q=>ZW n++ [.elems 2 (q.2.map eF)]) (fun q=>q.1<=e.length/\FR (pF 20) ((rng l.length 1 6=true/\ ∀j,j<k->Au n l j)/\q.1=0) (1+9*k+q.1) q.2) (fun q=>e.length-q.1) (0,m) ⟨Zb,hm.to Zb Zb⟩ (Weak.mk ?_) ?_
    ·simp (disch:=omega) only [ZW,go_sem,seval]
    ·clear hm hml;rintro ⟨j,m⟩ ⟨hj,hm⟩;simp only at hj hm;have hml:=hm.len;refine C3 ?_;refine ZH ?_ ?_<;>intro h2
     ·have hj2:j<e.length:=Za
      refine Z1 9 mixed Zd Zd (Yv ?_);refine Zo (KF k hI) (Yv ?_);exact ⟨(j+1,m++ [(nth e j,Ah k)]),⟨Za,(hm.yes (c:=False) Zb (by grind [pF])).to Za Zb⟩,Za,wk⟩
     ·have hjl:j=e.length:=Za
      subst hjl;exact ⟨(k+1,m),⟨Za,hm.to Za (by simp only [Zn,and_assoc];rw [<- he.emp,List.eq_nil_iff_length_eq_zero])⟩,Za,wk⟩
   ·have hkn:k=l.length:=Za
    subst hkn;exact ⟨m,hm.to Za (by rw [typesOk]),1,by simp (disch:=omega) only [go_sem,seval]⟩
theorem Ek (n lo hi:Int):PC 232 [.p (.int .i64 n),.p (.int .i64 lo),.p (.int .i64 hi)] (.bool (rng n lo hi)):=by
 refine Zc Tryz.func232 rfl yM ?_;simp (disch:=omega) only [Tryz.f232,go_sem,seval];refine gT ?_ ?_<;>intro h<;>simp (disch:=omega) only [Sh.out h,go_sem,seval,↓reduceIte]
 all_goals (simp [rng];first | done | omega | (rw [Wu];simp;omega))
def loadOk (l:List Int) (d:Int):Bool:=decide ((l.length:Int)=d)&&l.all fun n=>rng n 0 1000
theorem SE (l:List Int) (c:Bool) (d:Int) (hl:l.length<=1048576):PC 231 [.p (.list c (l.map eI)),.p (.int .i64 d)] (.bool (loadOk l d)):=by
 refine Zc Tryz.func231 rfl yL ?_;simp (disch:=omega) only [Tryz.f231,go_sem,seval];refine cD ?_ ?_<;>intro h2<;>simp (disch:=omega) only [Sh.out h2,go_sem,seval]
 ·simp [loadOk,h2]
 ·simp only [Xk] at h2;subst h2;refine Zj [0] (fun k:Nat=> [(5,.p (.int .i64 k))]) (fun _=> []) (fun k=>k<=l.length/\ ∀j,j<k->rng (nth l j) 0 1000=true) (fun k=>l.length-k) 0 Zb (Weak.mk ?_) ?_
  ·simp (disch:=omega) only [go_sem,seval,↓reduceIte]
  ·rintro k ⟨hk,hno⟩;refine Yv ?_;refine cD ?_ ?_<;>intro h3<;>simp (disch:=omega) only [Sh.out h3,go_sem,seval,↓reduceIte]
   ·have hk2:k<l.length:=Za
    have hbad:rng (nth l k) 0 1000=false->loadOk l l.length=false:=fun h4=>by
     grind [Zq,loadOk]
    repeat' (first | (refine VF (fun hq=> ?_) (fun hq=> ?_)<;>(try simp only [Zl,X3,Xk] at hq)<;>simp (disch:=omega) only [Sh.out hq,go_sem,seval]) | (refine gF ?_ ?_<;>intro hq<;>simp (disch:=omega) only [Sh.out hq,go_sem,seval,↓reduceIte]) | (refine cD ?_ ?_<;>intro hq<;>simp (disch:=omega) only [Sh.out hq,go_sem,seval,↓reduceIte]))
    all_goals first
     | (rw [hbad (by simp [rng];omega)])
     | exact ⟨k+1,⟨Za,Zn.2 ⟨hno,by simp [rng];omega⟩⟩,Za,wk⟩
   ·have:l.all (fun n=>rng n 0 1000)=true:=by
     rw [ZC];intro x hx;obtain ⟨j,hj,rfl⟩:=ZD.1 hx
     grind [Zi]
    simp [loadOk,this]
def stpOk (s:Stp):Bool:=decide ((s.place= -1/\s.opn=0/\s.cls=0/\s.serv=0)\/(0<=s.place/\0<=s.opn/\s.opn<=s.cls/\s.cls<=4096/\0<=s.serv/\s.serv<=4096))
def S5 (s:Stp):Int:=if stpOk s=true then 0 else 2
theorem aI (s:Stp):PC 233 [.p (D4 s)] (.int .i64 (S5 s)):=by
 refine Zc Tryz.func233 rfl yN ?_;simp (disch:=omega) only [Tryz.f233,go_sem,seval]
 repeat' (first | (refine gT ?_ ?_<;>intro hq<;>simp (disch:=omega) only [Sh.out hq,go_sem,seval,↓reduceIte]) | (refine gF ?_ ?_<;>intro hq<;>simp (disch:=omega) only [Sh.out hq,go_sem,seval,↓reduceIte]) | (refine cD ?_ ?_<;>intro hq<;>simp (disch:=omega) only [Sh.out hq,go_sem,seval,↓reduceIte]))
 all_goals (simp only [S5,stpOk,Zl])
 all_goals first
  | (exfalso;omega)
  | (rw [if_pos Za])
  | (rw [if_neg Za])
def UJ (l:List Ord) (i:Nat):Bool:=(List.range i).all fun j=>decide ((nth l j).name≠(nth l i).name)
theorem Kh {l:List Ord} {i:Nat} :UJ l i=true↔ ∀j,j<i->(nth l j).name≠(nth l i).name:=by simp [UJ]
def W1 (b:Bool) (e:Int):List Int:=if b=true then [] else [e]
theorem Uh (b:Bool) (e:Int):(W1 b e).length<=1:=by grind [W1]
theorem U8 {b:Bool} {e:Int} {m p:List Int} (h:m=p) (hb:b=true):m=p++W1 b e:=by simp [W1,hb,h]
theorem V6 {b:Bool} {e:Int} {m p:List Int} (h:m=p) (hb:b=false):m++ [e]=p++W1 b e:=by simp [W1,hb,h]
def Yp (t:Ord):AM.Obj:= .cells [.p (.str t.name),.p (.list t.load_c (t.load.map eI)),.p (.int .i64 t.pick.place),.p (.int .i64 t.pick.opn),.p (.int .i64 t.pick.cls),.p (.int .i64 t.pick.serv),.p (.int .i64 t.drp.place),.p (.int .i64 t.drp.opn),.p (.int .i64 t.drp.cls),.p (.int .i64 t.drp.serv),.p (.int .i64 t.skills),.p (.int .i64 t.penalty),.p (.int .i64 t.split),.p (.int .i64 t.last),.p (.int .i64 t.now),.p (.bool t.off)]
def Hl (t:Ord):Bool:=decide (t.pick.place≠ -1)&&decide (t.drp.place≠ -1)
def argOk (t:Ord) (ty:Int):Bool:=rng t.penalty (-1) 1000000&&rng t.split 1 4&&decide (¬(1<t.split/\Hl t=true)/\ -1<=t.last/\t.last<ty/\ -1<=t.now/\t.now<ty)
def YU (np:Nat) (d ty:Int) (l:List Ord) (i:Nat):List Int:=W1 (nameOk (nth l i).name) 5++W1 (UJ l i) 6++W1 (loadOk (nth l i).load d) 17++W1 ((rng (nth l i).pick.place (-1) ((np:Int)-1)&&rng (nth l i).drp.place (-1) ((np:Int)-1))) 11++W1 (decide (¬((nth l i).pick.place= -1/\(nth l i).drp.place= -1))) 19++W1 ((stpOk (nth l i).pick&&stpOk (nth l i).drp)) 14++W1 (rng (nth l i).skills 0 1073741823) 18++W1 (argOk (nth l i) ty) 2
theorem BA (np:Nat) (d ty:Int) (l:List Ord) (i:Nat):(YU np d ty l i).length<=8:=by
 grind [Uh,YU,Zm]
theorem E3 {P Q:Prop} (h:Q) (e:Q->P:=by intro h;simp (disch:=omega) only [Yp,go_sem,seval];exact h):P:=e h
theorem SR (np:Nat) (d ty:Int) (l:List Ord) (c:Bool) (i:Nat) (hi:i<l.length) (hl:l.length<=1048576) (hnp:np<=1048576) (ht:(nth l i).wf 1048576) :
  ACalls Tryz.prog 175 [.p (.int .i64 (np:Nat)),.p (.int .i64 d),.p (.int .i64 ty),.p (.list c (l.map eOrd)),.p (.int .i64 (i:Nat))] [] fun x H'=>x= .sl 0 0 (YU np d ty l i).length (YU np d ty l i).length/\H'= [.elems 1 ((YU np d ty l i).map eI)]:=by
 suffices hh:ACalls Tryz.prog 175 [.p (.int .i64 (np:Nat)),.p (.int .i64 d),.p (.int .i64 ty),.p (.list c (l.map eOrd)),.p (.int .i64 (i:Nat))] [] fun x H'=> ∃m:List Int,m=YU np d ty l i/\x= .sl 0 0 m.length m.length/\H'= [.elems 1 (m.map eI)] by
  grind
 refine Z6 [3] Tryz.func175 rfl xG ?_;simp (disch:=omega) only [Tryz.f175,go_sem,seval];have hty:YU np d ty l i=W1 (nameOk (nth l i).name) 5++W1 (UJ l i) 6++W1 (loadOk (nth l i).load d) 17++W1 ((rng (nth l i).pick.place (-1) ((np:Int)-1)&&rng (nth l i).drp.place (-1) ((np:Int)-1))) 11++W1 (decide (¬((nth l i).pick.place= -1/\(nth l i).drp.place= -1))) 19++W1 ((stpOk (nth l i).pick&&stpOk (nth l i).drp)) 14++W1 (rng (nth l i).skills 0 1073741823) 18++W1 (argOk (nth l i) ty) 2:=rfl
 have hleng: ∀m:List Int,∀p:List Int,m=p->p.length<=8->m.length<=8:=fun m p h1 h2=>by grind
 generalize hga:nth l i=t at ht hty ⊢;have hname:=ht.1;have hload:=ht.2.1;refine Zp (Weak.ofNil 11 1 (by simp (disch:=omega) only [go_sem,seval]) Zb (Weak.refl _ _ _)) ?_;refine ZJ [0,1,2,3,4,12] (fun m:List Int=> [(11,.sl 1 0 m.length m.length)]) (fun m=> [Yp t,.elems 1 (m.map eI)]) (fun m=>m=W1 (nameOk t.name) 5) ?_ ?_
 ·refine Yv ?_;refine (ND t.name hname).use (Yv ?_);refine cD ?_ ?_<;>intro h<;>simp (disch:=omega) only [Sh.out h,go_sem,seval,↓reduceIte]
  ·simp only [XR] at h;exact ⟨[5],by simp [W1,h],Weak.mk (by simp (disch:=omega) only [Yp,go_sem,seval])⟩
  ·simp only [Xt] at h;exact ⟨[],by simp [W1,h],Weak.mk (by simp (disch:=omega) only [Yp,go_sem,seval])⟩
 ·skip
  intro m hm;refine Zf [5] _ _ _ _ (E3 ?_)
  have hml:m.length<=8:=by
   grind [Uh]
  refine ZJ [0,1,2,12] (fun m:List Int=> [(11,.sl 1 0 m.length m.length)]) (fun m=> [Yp t,.elems 1 (m.map eI)]) (fun m=>m=W1 (nameOk t.name) 5++W1 (UJ l i) 6) ?_ ?_
  ·refine Yv ?_;refine Zj [0,1,2,3,4,11,12] (fun k:Nat=> [(13,.p (.int .i64 k))]) (fun _=> [Yp t,.elems 1 (m.map eI)]) (fun k=>k<=i/\ ∀j,j<k->(nth l j).name≠(nth l i).name) (fun k=>i-k) 0 Zb (Weak.mk ?_) ?_
   ·simp (disch:=omega) only [Yp,go_sem,seval,↓reduceIte]
   ·rintro k ⟨hk,hno⟩;refine E3 ?_;refine cD ?_ ?_<;>intro h3<;>simp (disch:=omega) only [Sh.out h3,go_sem,seval,↓reduceIte]
    ·have hk2:k<l.length:=Za
     refine Xd (Yv ?_);refine ZH ?_ ?_<;>intro h4
     ·exact ⟨m++ [6],V6 hm (by grind [Kh]),wk⟩
     ·exact ⟨k+1,⟨Za,Zn.2 ⟨hno,by grind⟩⟩,Za,wk⟩
    ·have hki:k=i:=Za
     subst hki;exact ⟨m,U8 hm (Kh.2 hno),wk⟩
  ·clear hm hml;intro m hm;refine Zf [10] _ _ _ _ (E3 ?_)
   have hml:m.length<=8:=by
    grind [Uh]
   refine ZJ [0,2,12] (fun m:List Int=> [(11,.sl 1 0 m.length m.length)]) (fun m=> [Yp t,.elems 1 (m.map eI)]) (fun m=>m=W1 (nameOk t.name) 5++W1 (UJ l i) 6++W1 (loadOk t.load d) 17) ?_ ?_
   ·refine Yv ?_;refine (SE t.load t.load_c d hload).use (Yv ?_);refine cD ?_ ?_<;>intro h<;>simp (disch:=omega) only [Sh.out h,go_sem,seval,↓reduceIte]
    ·simp only [XR] at h;exact ⟨m++ [17],V6 hm (h),Weak.mk (by simp (disch:=omega) only [Yp,go_sem,seval])⟩
    ·simp only [Xt] at h;exact ⟨m,U8 hm (h),Weak.mk (by simp (disch:=omega) only [Yp,go_sem,seval])⟩
   ·clear hm hml;intro m hm;refine Zf [12] _ _ _ _ (E3 ?_)
    have hml:m.length<=8:=by
     grind [Zm,Uh]
    refine ZJ [2,12] (fun m:List Int=> [(11,.sl 1 0 m.length m.length)]) (fun m=> [Yp t,.elems 1 (m.map eI)]) (fun m=>m=W1 (nameOk t.name) 5++W1 (UJ l i) 6++W1 (loadOk t.load d) 17++W1 ((rng t.pick.place (-1) ((np:Int)-1)&&rng t.drp.place (-1) ((np:Int)-1))) 11) ?_ ?_
    ·refine Yv ?_;refine (Ek t.pick.place (-1) ((np:Int)-1)).use (Yv ?_);refine Ag ?_ ?_<;>intro h
     ·simp only [XR] at h;exact ⟨m++ [11],V6 hm (by simp [h]),Weak.mk (by simp (disch:=omega) only [Yp,go_sem,seval])⟩
     ·simp only [Xt] at h;refine (Ek t.drp.place (-1) ((np:Int)-1)).use (Yv ?_);refine ZH ?_ ?_<;>intro h2
      ·simp only [XR] at h2;exact ⟨m++ [11],V6 hm (by simp [h2]),Weak.mk (by simp (disch:=omega) only [Yp,go_sem,seval])⟩
      ·simp only [Xt] at h2;exact ⟨m,U8 hm (by simp [h,h2]),Weak.mk (by simp (disch:=omega) only [Yp,go_sem,seval])⟩
    ·clear hm hml;intro m hm;refine Zf [14] _ _ _ _ (E3 ?_)
     have hml:m.length<=8:=by
      grind [Zm,Uh]
     refine ZJ [2,12] (fun m:List Int=> [(11,.sl 1 0 m.length m.length)]) (fun m=> [Yp t,.elems 1 (m.map eI)]) (fun m=>m=W1 (nameOk t.name) 5++W1 (UJ l i) 6++W1 (loadOk t.load d) 17++W1 ((rng t.pick.place (-1) ((np:Int)-1)&&rng t.drp.place (-1) ((np:Int)-1))) 11++W1 (decide (¬(t.pick.place= -1/\t.drp.place= -1))) 19) ?_ ?_
     ·refine Yv ?_
      repeat' (first | (refine gT ?_ ?_<;>intro hq<;>simp (disch:=omega) only [Sh.out hq,go_sem,seval]) | (refine Um (fun hq=> ?_) (fun hq=> ?_)<;>(try simp only [Zl,X3,Xk] at hq)<;>simp (disch:=omega) only [Sh.out hq,go_sem,seval]) | (refine cD ?_ ?_<;>intro hq<;>simp (disch:=omega) only [Sh.out hq,go_sem,seval]))
      all_goals first
       | exact ⟨m++ [19],V6 hm (by first | (simp;done) | (simp;omega)),Weak.mk (by simp (disch:=omega) only [Yp,go_sem,seval])⟩
       | exact ⟨m,U8 hm (by first | (simp;done) | (simp;omega)),Weak.mk (by simp (disch:=omega) only [Yp,go_sem,seval])⟩
     ·clear hm hml;intro m hm;refine Zf [16] _ _ _ _ (E3 ?_)
      have hml:m.length<=8:=by
       grind [Zm,Uh]
      refine ZJ [2,12] (fun m:List Int=> [(11,.sl 1 0 m.length m.length)]) (fun m=> [Yp t,.elems 1 (m.map eI)]) (fun m=>m=W1 (nameOk t.name) 5++W1 (UJ l i) 6++W1 (loadOk t.load d) 17++W1 ((rng t.pick.place (-1) ((np:Int)-1)&&rng t.drp.place (-1) ((np:Int)-1))) 11++W1 (decide (¬(t.pick.place= -1/\t.drp.place= -1))) 19++W1 ((stpOk t.pick&&stpOk t.drp)) 14) ?_ ?_
      ·refine Yv ?_;refine (aI t.pick).use (Yv ?_)
       cases h:stpOk t.pick with
       | false =>
        simp (disch:=omega) only [S5,h,go_sem,seval];exact ⟨m++ [14],V6 hm (by simp []),Weak.mk (by simp (disch:=omega) only [Yp,go_sem,seval])⟩
       | true =>
        simp (disch:=omega) only [S5,h,go_sem,seval];refine (aI t.drp).use (Yv ?_)
        cases h2:stpOk t.drp with
        | false =>
         simp (disch:=omega) only [S5,h2,go_sem,seval];exact ⟨m++ [14],V6 hm (by simp []),Weak.mk (by simp (disch:=omega) only [Yp,go_sem,seval])⟩
        | true =>
         simp (disch:=omega) only [S5,h2,go_sem,seval];exact ⟨m,U8 hm (by simp []),Weak.mk (by simp (disch:=omega) only [Yp,go_sem,seval])⟩
      ·clear hm hml;intro m hm;refine Zf [18] _ _ _ _ (E3 ?_)
       have hml:m.length<=8:=by
        grind [Zm,Uh]
       refine ZJ [2,12] (fun m:List Int=> [(11,.sl 1 0 m.length m.length)]) (fun m=> [Yp t,.elems 1 (m.map eI)]) (fun m=>m=W1 (nameOk t.name) 5++W1 (UJ l i) 6++W1 (loadOk t.load d) 17++W1 ((rng t.pick.place (-1) ((np:Int)-1)&&rng t.drp.place (-1) ((np:Int)-1))) 11++W1 (decide (¬(t.pick.place= -1/\t.drp.place= -1))) 19++W1 ((stpOk t.pick&&stpOk t.drp)) 14++W1 (rng t.skills 0 1073741823) 18) ?_ ?_
       ·refine Yv ?_;refine (Ek t.skills 0 1073741823).use (Yv ?_);refine ZH ?_ ?_<;>intro h
        ·simp only [XR] at h;exact ⟨m++ [18],V6 hm (h),Weak.mk (by simp (disch:=omega) only [Yp,go_sem,seval])⟩
        ·simp only [Xt] at h;exact ⟨m,U8 hm (h),Weak.mk (by simp (disch:=omega) only [Yp,go_sem,seval])⟩
       ·clear hm hml;intro m hm;refine Zf [20] _ _ _ _ (E3 ?_)
        have hml:m.length<=8:=by
         grind [Zm,Uh]
        refine ZJ [2,11,12] (fun b:Bool=> [(14,.p (.bool b))]) (fun _=> [Yp t,.elems 1 (m.map eI)]) (fun b=>b=Hl t) ?_ ?_
        ·refine Yv ?_
         repeat' (first | (refine VF (fun hq=> ?_) (fun hq=> ?_)<;>(try simp only [Zl,X3,Xk] at hq)<;>simp (disch:=omega) only [Sh.out hq,go_sem,seval]) | (refine Um (fun hq=> ?_) (fun hq=> ?_)<;>(try simp only [Zl,X3,Xk] at hq)<;>simp (disch:=omega) only [Sh.out hq,go_sem,seval]) | (refine UT (fun hq=> ?_) (fun hq=> ?_)<;>(try simp only [Zl,X3,Xk] at hq)<;>simp (disch:=omega) only [Sh.out hq,go_sem,seval]))
         all_goals refine ⟨Hl t,rfl,Weak.mk ?_⟩
         all_goals (simp (disch:=omega) only [Yp,go_sem,seval];simp [Hl, *])
        ·rintro b hb;refine Zf [21] _ _ _ _ (E3 ?_);refine ZJ [] (fun m:List Int=> [(11,.sl 1 0 m.length m.length)]) (fun m=> [Yp t,.elems 1 (m.map eI)]) (fun m=>m=W1 (nameOk t.name) 5++W1 (UJ l i) 6++W1 (loadOk t.load d) 17++W1 ((rng t.pick.place (-1) ((np:Int)-1)&&rng t.drp.place (-1) ((np:Int)-1))) 11++W1 (decide (¬(t.pick.place= -1/\t.drp.place= -1))) 19++W1 ((stpOk t.pick&&stpOk t.drp)) 14++W1 (rng t.skills 0 1073741823) 18++W1 (argOk t ty) 2) ?_ ?_
         ·refine Yv ?_;refine (Ek t.penalty (-1) 1000000).use (Yv ?_);refine gF ?_ ?_<;>intro h<;>simp (disch:=omega) only [Sh.out h,go_sem,seval,↓reduceIte]
          ·simp only [XR] at h;exact ⟨m++ [2],V6 hm (by simp [argOk,h]),Weak.mk (by simp (disch:=omega) only [Yp,go_sem,seval])⟩
          ·simp only [Xt] at h;refine (Ek t.split 1 4).use (Yv ?_);refine gF ?_ ?_<;>intro h2<;>simp (disch:=omega) only [Sh.out h2,go_sem,seval,↓reduceIte]
           ·simp only [XR] at h2;exact ⟨m++ [2],V6 hm (by simp [argOk,h2]),Weak.mk (by simp (disch:=omega) only [Yp,go_sem,seval])⟩
           ·simp only [Xt] at h2
            cases b with
            | true =>
             repeat' (first | (refine gT ?_ ?_<;>intro hq<;>simp (disch:=omega) only [Sh.out hq,go_sem,seval,↓reduceIte]) | (refine gF ?_ ?_<;>intro hq<;>simp (disch:=omega) only [Sh.out hq,go_sem,seval,↓reduceIte]) | (refine cD ?_ ?_<;>intro hq<;>simp (disch:=omega) only [Sh.out hq,go_sem,seval,↓reduceIte]))
             all_goals first
              | exact ⟨m++ [2],V6 hm (by rw [argOk,<- hb];first | (simp;done) | (simp;omega)),Weak.mk (by simp (disch:=omega) only [Yp,go_sem,seval])⟩
              | exact ⟨m,U8 hm (by grind [argOk]),Weak.mk (by simp (disch:=omega) only [Yp,go_sem,seval])⟩
            | false =>
             repeat' (first | (refine gT ?_ ?_<;>intro hq<;>simp (disch:=omega) only [Sh.out hq,go_sem,seval,↓reduceIte]) | (refine gF ?_ ?_<;>intro hq<;>simp (disch:=omega) only [Sh.out hq,go_sem,seval,↓reduceIte]) | (refine cD ?_ ?_<;>intro hq<;>simp (disch:=omega) only [Sh.out hq,go_sem,seval,↓reduceIte]))
             all_goals first
              | exact ⟨m++ [2],V6 hm (by rw [argOk,<- hb];first | (simp;done) | (simp;omega)),Weak.mk (by simp (disch:=omega) only [Yp,go_sem,seval])⟩
              | exact ⟨m,U8 hm (by rw [argOk,<- hb,h,h2];first | (simp;done) | (simp;omega)),Weak.mk (by simp (disch:=omega) only [Yp,go_sem,seval])⟩
         ·clear hm hml;intro m hm;refine Zf [] _ _ _ _ (E3 ?_)
          have hml:m.length<=8:=by
           grind [Zm,Uh]
          exact ⟨m,by rw [hm,hty],1,by simp (disch:=omega) only [go_sem,seval]⟩
def XP (np:Nat) (d ty:Int) (l:List Ord) (k:Nat):List Flt:=(if l.length<=10 then [] else [(4,[])])++(List.range k).flatMap fun i=>(YU np d ty l i).map fun e=>(e,Ah i)
theorem BC (np:Nat) (d ty:Int) (l:List Ord) (k:Nat):XP np d ty l (k+1)=XP np d ty l k++(YU np d ty l k).map fun e=>(e,Ah k):=by
 simp [XP,Wt]
theorem U6 (np:Nat) (d ty:Int) (l:List Ord): ∀k,(XP np d ty l k).length<=1+8*k
 | 0=>by simp [XP];grind
 | k+1=>by
  have h1:=U6 np d ty l k;have h2:=BA np d ty l k;rw [BC];simp;omega
theorem uN (n:Net) (d ty:Int) (l:List Ord) (c:Bool) (hw:n.wf 1048576) (hl:l.length<=1048576) (hlw: ∀t∈l,t.wf 1048576) :
  ACalls Tryz.prog 128 [.p (Ai n),.p (.int .i64 d),.p (.int .i64 ty),.p (.list c (l.map eOrd))] [] fun x H'=>x= .sl 0 0 (XP n.places.length d ty l l.length).length (XP n.places.length d ty l l.length).length/\H'= [.elems 2 ((XP n.places.length d ty l l.length).map eF)]:=by
 obtain ⟨w1,w2,w3,w4⟩:=hw
 suffices hh:ACalls Tryz.prog 128 [.p (Ai n),.p (.int .i64 d),.p (.int .i64 ty),.p (.list c (l.map eOrd))] [] fun x H'=> ∃m:List Flt,m=XP n.places.length d ty l l.length/\x= .sl 0 0 m.length m.length/\H'= [.elems 2 (m.map eF)] by
  grind
 refine Z6 [2] Tryz.func128 rfl vX ?_;simp (disch:=omega) only [Tryz.f128,go_sem,seval];refine Zp (Weak.ofNil 9 2 (by simp (disch:=omega) only [go_sem,seval]) Zb (Weak.refl _ _ _)) ?_;refine ZJ [1,2,3,4] (fun m:List Flt=> [(9,.sl 1 0 m.length m.length)]) (fun m=>ZW n++ [.elems 2 (m.map eF)]) (fun m=>m=XP n.places.length d ty l 0) ?_ ?_
 ·refine Yv ?_;refine ZH ?_ ?_<;>intro h
  ·exact ⟨[(4,[])],by rw [XP,if_neg Za];rfl,Weak.mk (by simp (disch:=omega) only [ZW,go_sem,seval])⟩
  ·exact ⟨[],by rw [XP,if_pos Za];rfl,Weak.mk (by simp (disch:=omega) only [ZW,go_sem,seval])⟩
 ·intro m hm;refine Zf [] _ _ _ _ (C3 ?_);refine Zj [1,2,3,4] (fun q:Nat×List Flt=> [(9,.sl 1 0 q.2.length q.2.length),(10,.p (.int .i64 q.1))]) (fun q=>ZW n++ [.elems 2 (q.2.map eF)]) (fun q=>q.1<=l.length/\q.2=XP n.places.length d ty l q.1) (fun q=>l.length-q.1) (0,m) ⟨Zb,hm⟩ (Weak.mk ?_) ?_
  ·simp (disch:=omega) only [ZW,go_sem,seval]
  ·clear hm;rintro ⟨k,m⟩ ⟨hk,hm⟩;simp only at hk hm;have hml:=U6 n.places.length d ty l k;rw [<- hm] at hml;refine C3 ?_;refine cD ?_ ?_<;>intro h<;>simp (disch:=omega) only [Sh.out h,go_sem,seval,↓reduceIte]
   ·have hk2:k<l.length:=Za
    have hI:UR (k:Int):=Za
    have hrl:=BA n.places.length d ty l k;refine ((SR n.places.length d ty l c k hk2 hl w1 (hlw _ (Zq hk2))).frozen Zb).use (Yv ?_);generalize hre:YU n.places.length d ty l k=e at hrl ⊢;refine Zj [1,2,3,4,10,11] (fun q:Nat×List Flt=> [(9,.sl 1 0 q.2.length q.2.length),(12,.p (.int .i64 q.1))]) (fun q=>ZW n++ [.elems 2 (q.2.map eF)]) (fun q=>q.1<=e.length/\q.2=XP n.places.length d ty l k++(e.take q.1).map fun e=>(e,Ah k)) (fun q=>e.length-q.1) (0,m) ⟨Zb,by simp [hm]⟩ (Weak.mk ?_) ?_
    ·simp (disch:=omega) only [ZW,go_sem,seval]
    ·clear hm hml;rintro ⟨j,m⟩ ⟨hj,hm⟩;simp only at hj hm;have hml:=U6 n.places.length d ty l k
     have hml2:m.length<=1+8*k+8:=by grind
     refine C3 ?_;refine ZH ?_ ?_<;>intro h2
     ·have hj2:j<e.length:=Za
      refine Z1 9 mixed Zd Zd (Yv ?_);refine Zo (KF k hI) (Yv ?_);refine ⟨(j+1,m++ [(nth e j,Ah k)]),⟨Za,?_⟩,Za,wk⟩
      grind [ZE,Zi]
     ·have hjl:j=e.length:=Za
      subst hjl;refine ⟨(k+1,m),⟨Za,?_⟩,Za,wk⟩
      grind [BC]
   ·have hkn:k=l.length:=Za
    subst hkn;exact ⟨m,hm,1,by simp (disch:=omega) only [go_sem,seval]⟩
structure OrdOk (np:Nat) (d ty:Int) (l:List Ord) (i:Nat):Prop where
 name:nameOk (nth l i).name=true
 twin: ∀j,j<i->(nth l j).name≠(nth l i).name
 load:loadOk (nth l i).load d=true
 pick: -1<=(nth l i).pick.place/\(nth l i).pick.place<np
 drp: -1<=(nth l i).drp.place/\(nth l i).drp.place<np
 one: ¬((nth l i).pick.place= -1/\(nth l i).drp.place= -1)
 pstp:stpOk (nth l i).pick=true
 dstp:stpOk (nth l i).drp=true
 skills:0<=(nth l i).skills/\(nth l i).skills<=1073741823
 arg:argOk (nth l i) ty=true
theorem nS {b:Bool} {e:Int} :W1 b e= []↔b=true:=by grind [W1]
theorem HS {np:Nat} {d ty:Int} {l:List Ord} {i:Nat} :YU np d ty l i= []↔OrdOk np d ty l i:=by
 simp only [YU,Jq,nS,ZG,Zl,rng,Kh]
 constructor
 ·rintro ⟨⟨⟨⟨⟨⟨⟨a1,a2⟩,a3⟩,a4⟩,a5⟩,a6⟩,a7⟩,a8⟩;exact ⟨a1,a2,a3,Za,Za,a5,a6.1,a6.2,a7,a8⟩
 ·intro h;obtain ⟨b1,b2⟩:=h.pick;obtain ⟨b3,b4⟩:=h.drp;exact ⟨⟨⟨⟨⟨⟨⟨h.name,h.twin⟩,h.load⟩,Za,Za⟩,h.one⟩,h.pstp,h.dstp⟩,h.skills⟩,h.arg⟩
def ordersOk (np:Nat) (d ty:Int) (l:List Ord):Prop:=l.length<=10/\ ∀i,i<l.length->OrdOk np d ty l i
theorem LS {np:Nat} {d ty:Int} {l:List Ord} :XP np d ty l l.length= []↔ordersOk np d ty l:=by
 simp_all [XP,HS,ordersOk]
theorem NI {np:Nat} {d ty:Int} {l:List Ord} (hl:l.length<=1048576): ∀f∈XP np d ty l l.length,pF 20 f:=by
 intro f hf;simp only [XP,Xy,Yk,Xa,Xz] at hf;rcases hf with hf | ⟨i,hi,e,he,rfl⟩
 ·grind [pF]
 ·exact QC i Za
theorem NX (n:Int) (h0:0<=n) (hn:n<=4611686018427387904):PC 234 [.p (.int .i64 n)] (.str (dec n.toNat)):=by
 refine Zc Tryz.func234 rfl yO ?_;simp (disch:=omega) only [Tryz.f234,go_sem,seval];refine Zj [] (fun q:Int×List UInt8=> [(0,.p (.int .i64 q.1)),(3,.p (.str q.2))]) (fun _=> []) (fun q=>0<=q.1/\q.1<=n/\dec q.1.toNat++q.2=dec n.toNat) (fun q=>q.1.toNat) (n,[]) (by simp [h0]) (Weak.mk ?_) ?_
 ·simp (disch:=omega) only [go_sem,seval]
 ·rintro ⟨m,s⟩ ⟨hm,hmn,hs⟩;simp only at hm hmn hs;have hl:=OL _ n.toNat (Nat.lt_succ_self _)
  have hl2:(dec m.toNat).length+s.length=(dec n.toNat).length:=by grind
  simp (disch:=first | omega | (simp only [Zz,ZQ,Zm,Zu,Zy,ZK]<;>omega)) only [go_sem,seval];refine cD ?_ ?_<;>intro h<;>simp (disch:=omega) only [Sh.out h,go_sem,seval,↓reduceIte]
  ·simp (disch:=first | omega | (simp only [Zz,ZQ,Zm,Zu,Zy,ZK]<;>omega)) only [go_sem,seval]
   have h2: ¬m.toNat<10:=Za
   have e1:(48+m%10).toNat=48+m.toNat%10:=Za
   have e2:(m / 10).toNat=m.toNat / 10:=Za
   refine ⟨(m / 10,UInt8.ofNat (48+m%10).toNat::s),⟨Za,Za,?_⟩,Za,Weak.mk ?_⟩
   ·simp only [e1,e2];rw [<- hs,dec.eq_def m.toNat,dif_neg h2];simp
   ·simp (disch:=omega) only [go_sem,seval]
  ·simp (disch:=first | omega | (simp only [Zz,ZQ,Zm,Zu,Zy,ZK]<;>omega)) only [go_sem,seval]
   have h2:m.toNat<10:=Za
   have e1:(48+m).toNat=48+m.toNat:=Za
   rw [<- hs,dec.eq_def m.toNat,dif_pos h2,e1]
   rfl
def mO (n:Int) (p:Int×Int):Bool:=decide (0<=p.1/\p.1<n)&&decide (0<=p.2/\p.2<n)&&decide (¬p.1=p.2)
def atW (word:List UInt8) (i:Nat):List UInt8:=word++ [32]++dec i
def Tj (n:Int) (word:List UInt8) (sm:Int×Int->Int×Int->Bool) (l:List (Int×Int)) (i:Nat):List (Int×List UInt8) :=
 if mO n (nth l i)=false then [(2,atW word i)] else if (l.take i).any (sm (nth l i)) then [(6,atW word i)] else []
def MN (word:List UInt8) (l:List (Int×Int)):List (Int×List UInt8):=if 16<l.length then [(4,word)] else []
def JN (n:Int) (word:List UInt8) (sm:Int×Int->Int×Int->Bool) (l:List (Int×Int)) (k:Nat):List (Int×List UInt8):=MN word l++(List.range k).flatMap (Tj n word sm l)
theorem F2 (n word sm l k):JN n word sm l (k+1)=JN n word sm l k++Tj n word sm l k:=by grind [JN,Wt]
theorem F3 (n word sm l):JN n word sm l 0=MN word l:=by simp [JN]
theorem lV (n word sm l i):(Tj n word sm l i).length<=1:=by grind [Tj]
theorem Bc (n word sm l): ∀k,(JN n word sm l k).length<=k+1:=by
 intro k
 induction k with
 | zero=>grind [F3,MN]
 | succ k ih=>grind [F2,lV]
def chk (n:Int) (ap be:List (Int×Int)):List (Int×List UInt8) :=
 JN n [97,112,97,114,116] (fun p q=>decide (p=q\/(p.1=q.2/\p.2=q.1))) ap ap.length++JN n [98,101,102,111,114,101] (fun p q=>decide (p=q)) be be.length
def DE (turned:Bool) (p q:Int×Int):Bool:=decide (q.1=p.1/\q.2=p.2)||(turned&&decide (q.1=p.2/\q.2=p.1))
theorem gQ : DE true=fun p q=>decide (p=q\/(p.1=q.2/\p.2=q.1)):=by
 funext p q
 simp only [DE,Zge,Zbj]
 grind
theorem SX : DE false=fun p q=>decide (p=q):=by
 funext p q
 simp only [DE,Jw,Bool.or_false]
 grind
def tw (turned:Bool) (l:List (Int×Int)) (p:Int×Int) (j:Nat):Bool:=(l.take j).any (DE turned p)
theorem oL (turned l p):tw turned l p 0=false:=by simp [tw]
theorem oK (turned:Bool) (l:List (Int×Int)) (p:Int×Int) (j:Nat) (h:j<l.length):tw turned l p (j+1)=(tw turned l p j||DE turned p (nth l j)):=by
 rw [tw,tw,ZE h,List.any_append,Zi h];simp
theorem I9 (n:Int) (word:List UInt8) (l:List (Int×Int)) (c:Bool) (turned:Bool) (hw:word.length<=1000) (hl:l.length<=1048576) :
  ACalls Tryz.prog 176 [.p (.int .i64 n),.p (.list c (l.map eP)),.p (.str word),.p (.bool turned)] [] fun x H'=>x= .sl 0 0 (JN n word (DE turned) l l.length).length (JN n word (DE turned) l l.length).length/\H'= [.elems 2 ((JN n word (DE turned) l l.length).map eF)]:=by
 refine Fk [2] (fn:=Tryz.f176) Zb Tryz.func176 rfl xH ?_;simp (disch:=omega) only [Tryz.f176,go_sem,seval];refine Zp (Weak.ofNil 9 2 (by simp (disch:=omega) only [go_sem,seval]) Zb (Weak.refl _ _ _)) (Yv ?_);refine ZJ [0,1,2,3] (fun _:Unit=> [(9,.sl 0 0 (MN word l).length (MN word l).length)]) (fun _=> [.elems 2 ((MN word l).map eF)]) (fun _=>True) ?_ ?_
 ·refine Yv ?_;refine cD ?_ ?_<;>intro h<;>simp (disch:=omega) only [Sh.out h,go_sem,seval,↓reduceIte]
  ·refine ⟨(),Weak.mk ?_⟩
   have h2:16<l.length:=Za
   simp (disch:=omega) only [MN,h2,go_sem,seval,↓reduceIte]
  ·refine ⟨(),Weak.mk ?_⟩
   have h2: ¬ 16<l.length:=Za
   simp (disch:=omega) only [MN,h2,go_sem,seval,↓reduceIte]
 ·intro _ _;refine Zf [] _ _ _ _ (Yv ?_);refine Zj [0,1,2,3] (fun k:Nat=> [(9,.sl 0 0 (JN n word (DE turned) l k).length (JN n word (DE turned) l k).length),(10,.p (.int .i64 k))]) (fun k=> [.elems 2 ((JN n word (DE turned) l k).map eF)]) (fun k=>k<=l.length) (fun k=>l.length-k) 0 Zb (Weak.mk ?_) ?_
  ·simp (disch:=omega) only [F3,go_sem,seval,↓reduceIte]
  ·intro k hk;have hfl:=Bc n word (DE turned) l k;have hdl:=OL _ k (Nat.lt_succ_self _);refine Yv ?_;refine cD ?_ ?_<;>intro h<;>simp (disch:=omega) only [Sh.out h,go_sem,seval,↓reduceIte]
   ·have hk2:k<l.length:=Za
    simp (disch:=first | omega | (simp only [Zz,ZQ,Zm,Zu,Zy,ZK]<;>omega)) only [go_sem,seval];refine (NX (k:Int) Za Za).use ?_;simp (disch:=first | omega | (simp only [Zz,ZQ,Zm,Zu,Zy,ZK]<;>omega)) only [go_sem,seval];have hs:=F2 n word (DE turned) l k
    have hbad:mO n (nth l k)=false->Tj n word (DE turned) l k= [(2,word++ [32]++dec k)]:=fun e=>by simp [Tj,e,atW]
    repeat' (first | (refine VF (fun hq=> ?_) (fun hq=> ?_)<;>(try simp only [Zl,X3,Xk] at hq)<;>simp (disch:=omega) only [Sh.out hq,go_sem,seval]) | (refine gF ?_ ?_<;>intro hq<;>simp (disch:=omega) only [Sh.out hq,go_sem,seval,↓reduceIte]) | (refine cD ?_ ?_<;>intro hq<;>simp (disch:=omega) only [Sh.out hq,go_sem,seval,↓reduceIte]))
    all_goals try (
     have e:=hbad (by simp [mO];omega)
     exact ⟨k+1,Za,Za,Weak.mk (by simp (disch:=omega) only [hs,e,go_sem,seval])⟩)
    have hok:mO n (nth l k)=true:=by simp [mO];omega
    refine Zj [0,1,2,3,9,10,11,12,13] (fun j:Nat=> [(14,.p (.bool (tw turned l (nth l k) j))),(15,.p (.int .i64 j))]) (fun _=> [.elems 2 ((JN n word (DE turned) l k).map eF)]) (fun j=>j<=k) (fun j=>k-j) 0 Zb (Weak.mk ?_) ?_
    ·simp (disch:=omega) only [oL,go_sem,seval,↓reduceIte]
    ·intro j hj;refine Yv ?_;refine cD ?_ ?_<;>intro h4<;>simp (disch:=omega) only [Sh.out h4,go_sem,seval,↓reduceIte]
     ·have hts:=oK turned l (nth l k) j Za;generalize tw turned l (nth l k) j=q at hts ⊢
      repeat' (first | (refine gT ?_ ?_<;>intro hq<;>simp (disch:=omega) only [Sh.out hq,go_sem,seval,↓reduceIte]) | (refine gF ?_ ?_<;>intro hq<;>simp (disch:=omega) only [Sh.out hq,go_sem,seval,↓reduceIte]) | (refine UT (fun hq=> ?_) (fun hq=> ?_)<;>(try simp only [Zl,X3,Xk] at hq)<;>simp (disch:=omega) only [Sh.out hq,go_sem,seval]))
      all_goals refine ⟨j+1,Za,Za,Weak.mk ?_⟩
      all_goals clear hs hbad hfl hdl
      all_goals simp (disch:=omega) only [hts,go_sem,seval]
      all_goals simp [DE, *]
      all_goals first | omega | (simp [DE, *] at hts;exact hts)
     ·have hjk:j=k:=Za
      subst hjk;refine cD ?_ ?_<;>intro h5<;>simp (disch:=omega) only [Sh.out h5,go_sem,seval,↓reduceIte]
      ·have e:Tj n word (DE turned) l j= [(6,word++ [32]++dec j)]:=by
        have h6:(l.take j).any (DE turned (nth l j))=true:=h5
        grind [Tj,atW]
       exact ⟨j+1,Za,Za,Weak.mk (by simp (disch:=omega) only [hs,e,go_sem,seval])⟩
      ·have e:Tj n word (DE turned) l j= []:=by
        have h6:(l.take j).any (DE turned (nth l j))=false:=h5
        simp_all [Tj]
       exact ⟨j+1,Za,Za,Weak.mk (by simp (disch:=omega) only [hs,e,go_sem,seval])⟩
   ·have:k=l.length:=Za
    subst this;exact ⟨0,by simp (disch:=omega) only [go_sem,seval]⟩
theorem fP (n:Int) (ap be:List (Int×Int)) (c c':Bool) (hl:ap.length<=1048576) (hl2:be.length<=1048576) :
  ACalls Tryz.prog 130 [.p (.int .i64 n),.p (.list c (ap.map eP)),.p (.list c' (be.map eP))] [] fun x H'=>x= .sl 0 0 (chk n ap be).length (chk n ap be).length/\H'= [.elems 2 ((chk n ap be).map eF)]:=by
 refine Ub (fn:=Tryz.f130) Zb Tryz.func130 rfl vZ ?_;simp (disch:=omega) only [Tryz.f130,go_sem,seval];have h1:=Bc n [97,112,97,114,116] (DE true) ap ap.length;have h2:=Bc n [98,101,102,111,114,101] (DE false) be be.length;refine (I9 n _ ap c true (by decide) hl).useF (Yv ?_);refine (I9 n _ be c' false (by decide) hl2).useF (Yv ?_);refine ⟨0,?_⟩;rw [chk,<- gQ,<- SX];simp (disch:=omega) only [go_sem,seval]
@[go_sem] theorem ZcF {H:List AM.Obj} {β:Type} {S b o n:Nat} {xs:List PV} {g:β->PV} {m:List β} (hb:(n+m.length)*b<=140737488355328) (hb2:n+m.length<=140737488355328) :
  Ud H (some (S,b)) (.elems S xs) o n (some (m.map g))=if xs.length=n/\Ak S (m.map g)=true then some (.sl o 0 (n+m.length) (n+m.length),EB H o (.elems S (xs++m.map g))) else none:=by
 simp_all [TQ]
def und (word:List UInt8) (f:Flt):Flt:=(f.1,if f.2= [] then word else word++ [32]++f.2)
theorem Ae (word:List UInt8) (l:List Flt) (c:Bool) (hword:word.length<=100) (hl:l.length<=4194306000000) (hp: ∀f∈l,pF 100 f) :
  ACalls Tryz.prog 125 [.p (.str word),.p (.list c (l.map eF))] [] fun x H'=>x= .sl 0 0 (l.map (und word)).length (l.map (und word)).length/\H'= [.elems 2 ((l.map (und word)).map eF)]:=by
 suffices hh:ACalls Tryz.prog 125 [.p (.str word),.p (.list c (l.map eF))] [] fun x H'=> ∃m:List Flt,m=l.map (und word)/\x= .sl 0 0 m.length m.length/\H'= [.elems 2 (m.map eF)] by
  grind
 refine Z6 [2] Tryz.func125 rfl vU ?_;simp (disch:=omega) only [Tryz.f125,go_sem,seval];refine Zp (Weak.ofNil 5 2 (by simp (disch:=omega) only [go_sem,seval]) Zb (Weak.refl _ _ _)) ?_;refine Zf [] _ _ _ _ (Yv ?_);refine Zj [0,1] (fun q:Nat×List Flt=> [(5,.sl 0 0 q.2.length q.2.length),(6,.p (.int .i64 q.1))]) (fun q=> [.elems 2 (q.2.map eF)]) (fun q=>q.1<=l.length/\q.2=(l.take q.1).map (und word)) (fun q=>l.length-q.1) (0,[]) ⟨Zb,Zb⟩ (Weak.mk ?_) ?_
 ·simp (disch:=omega) only [go_sem,seval,↓reduceIte]
 ·rintro ⟨k,m⟩ ⟨hk,hm⟩;simp only at hk hm
  have hml:m.length<=k:=by grind
  refine Yv ?_;refine cD ?_ ?_<;>intro h<;>simp (disch:=omega) only [Sh.out h,go_sem,seval,↓reduceIte]
  ·have hk2:k<l.length:=Za
   have hpk:=hp _ (Zq hk2);unfold pF at hpk
   have hnext: ∀f,f=und word (nth l k)->m++ [f]=(l.take (k+1)).map (und word):=fun f hf=>by
    grind [ZE,Zi]
   refine cD ?_ ?_<;>intro h2<;>simp (disch:=omega) only [Sh.out h2,go_sem,seval,↓reduceIte]
   ·have h3: ¬(nth l k).2= []:=Za
    simp (disch:=first | omega | (simp only [Zz,ZQ,Zm,Zu,Zy,ZK]<;>omega)) only [go_sem,seval,↓reduceIte];refine ⟨(k+1,m++ [((nth l k).1,word++ [32]++(nth l k).2)]),⟨Za,hnext _ (by simp [und,h3])⟩,Za,Weak.mk (by simp (disch:=first | omega | (simp only [Zz,ZQ,Zm,Zu,Zy,ZK]<;>omega)) only [go_sem,seval])⟩
   ·have h3:(nth l k).2= []:=by grind
    refine ⟨(k+1,m++ [((nth l k).1,word)]),⟨Za,hnext _ (by simp [und,h3])⟩,Za,Weak.mk (by simp (disch:=first | omega | (simp only [Zz,ZQ,Zm,Zu,Zy,ZK]<;>omega)) only [go_sem,seval])⟩
  ·have hkn:k=l.length:=Za
   subst hkn;exact ⟨m,by grind,0,by simp (disch:=omega) only [go_sem,seval]⟩
theorem uJ {n:Int} {ap be:List (Int×Int)} (ha:ap.length<=1048576) (hb:be.length<=1048576): ∀f∈chk n ap be,pF 100 f:=by
 have key: ∀(word:List UInt8) (sm:Int×Int->Int×Int->Bool) (l:List (Int×Int)),word.length<=6->l.length<=1048576-> ∀f∈JN n word sm l l.length,pF 100 f:=fun word sm l hw hl f hf=>by
  simp only [JN,Xy,Yk,Xa] at hf;rcases hf with hf | ⟨i,hi,hf⟩
  ·grind [MN,pF]
  ·have hd:=AA 6 i Za
   grind [pF,atW,Tj]
 intro f hf;rcases Xy.1 hf with hf | hf
 ·grind
 grind
theorem kW {n:Int} {ap be:List (Int×Int)} :(chk n ap be).length<=ap.length+be.length+2:=by
 grind [Bc,chk]
structure InstOk (x:Inst):Prop where
 net:netOk x.net
 types:typesOk x.net x.types
 orders:ordersOk x.net.places.length (dimsOf x.types) x.types.length x.orders
 rules:chk x.orders.length x.apart x.before= []
theorem FR.und {p:Flt->Prop} {C:Prop} {b:Nat} {l:List Flt} (h:FR p C b l) (word:List UInt8):FR (fun _=>True) C b (l.map (und word)) :=
 ⟨by simpa using h.len,by rw [List.map_eq_nil_iff];exact h.emp,fun _ _=>trivial⟩
theorem uO (x:Inst) (hw:x.wf 1048576):ACalls Tryz.prog 78 [.p (Zs x)] [] fun y H'=> ∃m:List Flt,FR (fun _=>True) (InstOk x) 4194400000000 m/\y= .sl 0 0 m.length m.length/\H'= [.elems 2 (m.map eF)]:=by
 obtain ⟨w1,w2,w3,w4,w5,w6,w7,w8,w9⟩:=hw;refine Z6 [] Tryz.func78 rfl Zhh ?_;simp (disch:=omega) only [Tryz.f78,go_sem,seval];have ol:=U6 x.net.places.length (dimsOf x.types) x.types.length x.orders x.orders.length;have oat:=NI (np:=x.net.places.length) (d:=dimsOf x.types) (ty:=x.types.length) w4;have onil:=LS (np:=x.net.places.length) (d:=dimsOf x.types) (ty:=x.types.length) (l:=x.orders);have cl:=kW (n:=x.orders.length) (ap:=x.apart) (be:=x.before);have cat:=uJ (n:=x.orders.length) w6 w8;refine ((uL x.net w1).frozenE).useV fun m1 h1=> ?_
 refine Yv ?_;have h1p:=h1.pmono (q:=pF 100) fun f hf=>hf.mono Za;have u1:=Ae [110,101,116] m1 false Zb h1.len h1p.all;have f1:=h1.und [110,101,116];generalize m1.map (und [110,101,116])=q1 at u1 f1;have f1l:=f1.len;refine (u1).useF (Yv ?_);refine ((uM x.net x.types x.types_c w1 w2 w3).frozenE).useV fun m2 h2=>Yv ?_;have h2p:=h2.pmono (q:=pF 100) fun f hf=>hf.mono Za;have h2l:=h2.len;have u2:=(Ae [116,121,112,101,115] m2 false Zb Za h2p.all).frozen Zb;have f2:=h2.und [116,121,112,101,115]
 generalize m2.map (und [116,121,112,101,115])=q2 at u2 f2;have f2l:=f2.len;refine (u2).use (Yv ?_);have u3:=(Ae [111,114,100,101,114,115] (XP x.net.places.length (dimsOf x.types) x.types.length x.orders x.orders.length) false Zb Za fun f hf=>(oat f hf).mono Za).frozen Zb;have f3:=(show FR (fun _=>True) (ordersOk x.net.places.length (dimsOf x.types) x.types.length x.orders) (1+8*x.orders.length) (XP x.net.places.length (dimsOf x.types) x.types.length x.orders x.orders.length) from ⟨ol,onil,fun _ _=>trivial⟩).und [111,114,100,101,114,115]
 generalize (XP x.net.places.length (dimsOf x.types) x.types.length x.orders x.orders.length).map (und [111,114,100,101,114,115])=q3 at u3 f3;have f3l:=f3.len;refine Z1 13 mixed Zd Zd (Yv ?_);refine Zo (I3 x.types x.types_c w2) (Yv ?_);refine Zo ((uN x.net (dimsOf x.types) x.types.length x.orders x.orders_c w1 w4 w5).frozen Zb) (Yv ?_);refine Zo (u3) (Yv ?_);have u4:=(Ae [114,117,108,101,115] (chk x.orders.length x.apart x.before) false Zb Za cat).frozen Zb
 have f4:=(show FR (fun _=>True) (chk x.orders.length x.apart x.before= []) (x.apart.length+x.before.length+2) (chk x.orders.length x.apart x.before) from ⟨cl,Iff.rfl,fun _ _=>trivial⟩).und [114,117,108,101,115];generalize (chk x.orders.length x.apart x.before).map (und [114,117,108,101,115])=q4 at u4 f4;have f4l:=f4.len;refine ((fP x.orders.length x.apart x.before x.apart_c x.before_c w6 w8).frozen Zb).use (Yv ?_);refine (u4).use (Yv ?_);refine ⟨q1++q2++q3++q4,((f1.app f2).app f3 |>.app f4).to Za ⟨fun ⟨⟨⟨a,b⟩,c⟩,d⟩=>⟨a,b,c,d⟩,fun h=>⟨⟨⟨h.net,h.types⟩,h.orders⟩,h.rules⟩⟩,1,?_⟩
 simp (disch:=omega) only [go_sem,seval]
def Zg (x:Inst):AM.Obj:= .cells [.p (.list x.net.places_c (x.net.places.map eS)),.p (.list x.net.arcs_c (x.net.arcs.map VW)),.p (.list x.types_c (x.types.map Vr)),.p (.list x.orders_c (x.orders.map eOrd)),.p (.list x.apart_c (x.apart.map eP)),.p (.list x.before_c (x.before.map eP))]
def zSco : Sco:=⟨0,0,0,0⟩
theorem jK (a:Int):IntKind.i64.wrap ((BitVec.ofInt 64 a&&&BitVec.ofInt 64 1).toNat:Int)=a%2:=by
 grind [BitVec.toNat_ofInt,IntWalk.i64_in]
def sHas (s i:Int):Bool:=decide (0<=i)&&decide (i<=62)&&decide (s.fdiv (2^i.toNat)%2=1)
theorem CT (s i:Int):PC 95 [.p (.int .i64 s),.p (.int .i64 i)] (.bool (sHas s i)):=by
 refine Zc Tryz.func95 rfl Zhu ?_;simp (disch:=omega) only [Tryz.f95,go_sem,seval];refine gT ?_ ?_<;>intro h<;>simp (disch:=omega) only [Sh.out h,go_sem,seval,↓reduceIte]
 ·refine gT ?_ ?_<;>intro h1<;>simp (disch:=omega) only [Sh.out h1,go_sem,seval,↓reduceIte]
  ·have:min i.toNat 64=i.toNat:=Za
   rw [this]
   erw [jK]
   simp [sHas,h,h1]
  grind [sHas]
 ·simp [sHas,h]
def XN (s:Int) (k:Nat):List Int:=((List.range k).filter fun (i:Nat)=>sHas s (i:Int)).map fun (i:Nat)=>(i:Int)
theorem R4 (s:Int):XN s 0= []:=by simp [XN]
theorem LG {s:Int} {k:Nat} (h:sHas s (k:Int)=true):XN s (k+1)=XN s k++ [(k:Int)]:=by grind [XN,Wt]
theorem Pk {s:Int} {k:Nat} (h:sHas s (k:Int)=false):XN s (k+1)=XN s k:=by grind [XN,Wt]
theorem Bu (s:Int) (k:Nat):(XN s k).length<=k:=by
 grind [XN]
theorem Cq (s:Int):ACalls Tryz.prog 60 [.p (.int .i64 s)] [] fun x H'=>x= .sl 0 0 (XN s 63).length (XN s 63).length/\H'= [.elems 1 ((XN s 63).map eI)]:=by
 refine Ub (fn:=Tryz.f60) Zb Tryz.func60 rfl Zhd ?_;simp (disch:=omega) only [Tryz.f60,go_sem,seval];refine Zj [0] (fun k:Nat=> [(3,.sl 0 0 (XN s k).length (XN s k).length),(5,.p (.int .i64 k))]) (fun k=> [.elems 1 ((XN s k).map eI)]) (fun k=>k<=63) (fun k=>63-k) 0 Zb (Weak.ofNil 3 1 (by simp (disch:=omega) only [go_sem,seval]) Zb (Weak.mk ?_)) ?_
 ·simp (disch:=omega) only [R4,go_sem,seval,↓reduceIte]
 ·intro k hk;have hl:=Bu s k;refine Yv ?_;refine cD ?_ ?_<;>intro h<;>simp (disch:=omega) only [Sh.out h,go_sem,seval,↓reduceIte]
  ·refine (CT s k).use (Yv ?_);refine cD ?_ ?_<;>intro h2<;>simp (disch:=omega) only [Sh.out h2,go_sem,seval,↓reduceIte]
   ·refine ⟨k+1,Za,Za,Weak.mk ?_⟩;simp (disch:=omega) only [LG h2,go_sem,seval]
   ·exact ⟨k+1,Za,Za,Weak.mk (by simp (disch:=omega) only [Pk h2,go_sem,seval])⟩
  ·have:k=63:=Za
   subst this;exact ⟨0,by simp (disch:=omega) only [go_sem,seval]⟩
def eN (n:Nat):PV:= .int .i64 (n:Int)
@[go_sem] theorem Zog (n:Nat):eN n= .int .i64 (n:Int):=Zw rfl rfl
theorem T9 (n:Nat) (be:List (Int×Int)) (c:Bool) (hn:n<=60) (hl:be.length<=1048576) (hv:Val n be) :
  ACalls Tryz.prog 235 [.p (.int .i64 (n:Int)),.p (.list c (be.map eP))] [] fun x H'=>x= .sl 0 0 n n/\H'= [.elems 1 ((JG n be).map eN)]:=by
 refine Ub (fn:=Tryz.f235) (by simpa using (D0 hv).len) Tryz.func235 rfl yP ?_;simp (disch:=omega) only [Tryz.f235,go_sem,seval];have hp60:pw n<=pw 62:=JK Za;have h62:=EH;refine Zj [0,1] (fun q:List Nat×Bool=> [(5,.sl 0 0 n n),(6,.p (.bool q.2))]) (fun q=> [.elems 1 (q.1.map eN)]) (fun q=>Snd n be q.1/\(q.2=false->tot (Dz q.1 be)=tot q.1)) (fun q=>2*(n*pw n-tot q.1)+(if q.2 then 1 else 0)) (List.replicate n 0,true) ⟨Snd.zero n be,Zb⟩ (Weak.mk ?_) ?_
 ·simp (disch:=omega) only [Bp,go_sem,seval,↓reduceIte]
 ·rintro ⟨out,more⟩ ⟨hs,hm⟩;simp only at hs hm;refine Yv ?_;refine cD ?_ ?_<;>intro h<;>simp (disch:=omega) only [Sh.out h,go_sem,seval,↓reduceIte]
  ·have hrs: ∀i,Snd n be (Dz out (be.take i)):=fun i=>hs.rnd hv _ fun p hp=>Jr hp
   have hsuc: ∀i,i<be.length->Dz out (be.take (i+1))=De (Dz out (be.take i)) (nth be i):=fun i hi=>by
    rw [ZE hi,NL,<- Zi hi];rfl
   refine Zj [0,1,16,17] (fun i:Nat=> [(5,.sl 0 0 n n),(6,.p (.bool (decide (tot out<tot (Dz out (be.take i)))))),(18,.p (.int .i64 i))]) (fun i=> [.elems 1 ((Dz out (be.take i)).map eN)]) (fun i=>i<=be.length) (fun i=>be.length-i) 0 Zb (Weak.mk ?_) ?_
   ·simp (disch:=omega) only [Dz,UF,V2,go_sem,seval];simp
   ·intro i hi;have hsi:=hrs i;generalize hgo:Dz out (be.take i)=o at hsi ⊢;have hlo:=hsi.len;refine Yv ?_;refine cD ?_ ?_<;>intro h2<;>simp (disch:=omega) only [Sh.out h2,go_sem,seval,↓reduceIte]
    ·have hib:i<be.length:=Za
     have hvi:=hv (nth be i) (by grind [Zi])
     have g1: ¬(nth be i).1<0:=Za
     have g2: ¬(nth be i).2<0:=Za
     have g3: ¬(n:Int)<=(nth be i).1:=Za
     have g4: ¬(n:Int)<=(nth be i).2:=Za
     have g5:(nth be i).1.toNat<n:=Za
     have g6:(nth be i).2.toNat<n:=Za
     have b1:=hsi.lt _ g5;have b2:=hsi.lt _ g6;have b3:nth o (nth be i).2.toNat|||nth o (nth be i).1.toNat<pw n:=Qo b2 b1;have b4:pw (nth be i).1.toNat<=pw 62:=JK Za;have hst:=OJ o (nth be i) Za;have hnx:=hsuc i hib;rw [hgo] at hnx;refine DT mixed Zd ?_;simp (disch:=omega) only [hlo,g1,g2,g3,g4,go_sem,seval];refine DT mixed Zd ?_;simp (disch:=first | omega | (simp only [Zz,ZQ,Zm,Zu,Zy,ZK]<;>omega)) only [hlo,g5,g6,Yx,go_sem,seval,↓reduceIte]
     have htm:tot out<=tot o:=by
      grind [BE]
     have hsv:o.set (nth be i).2.toNat (nth o (nth be i).2.toNat|||nth o (nth be i).1.toNat|||pw (nth be i).1.toNat)=De o (nth be i):=rfl;refine cD ?_ ?_<;>intro h3<;>simp (disch:=omega) only [Sh.out h3,go_sem,seval,↓reduceIte]
     ·have hne: ¬De o (nth be i)=o:=fun e=>by
       apply h3
       have e2:nth (De o (nth be i)) (nth be i).2.toNat=nth o (nth be i).2.toNat:=by rw [e]
       rw [De,Dy _ _ _ _ Za] at e2
       grind
      have hlt:tot out<tot (De o (nth be i)):=by
       grind
      simp (disch:=first | omega | (simp only [Zz,ZQ,Zm,Zu,Zy,ZK]<;>omega)) only [go_sem,seval,↓reduceIte];refine ⟨i+1,Za,Za,Weak.mk ?_⟩;simp (disch:=omega) only [hnx,hlt,go_sem,seval];rw [<- hsv,V4]
      rfl
     ·have heq:De o (nth be i)=o:=by
       have e:nth o (nth be i).2.toNat|||nth o (nth be i).1.toNat|||pw (nth be i).1.toNat=nth o (nth be i).2.toNat:=Za
       rw [<- hsv,e];apply Qp Zb
       simp_all [Zi]
      refine ⟨i+1,Za,Za,Weak.mk ?_⟩;simp (disch:=omega) only [hnx,heq,go_sem,seval]
    ·have hi2:i=be.length:=Za
     subst hi2;rw [UB] at hgo;subst hgo;have hpt:=BE hv be out (fun _ h=>h) hs;have hbd:=hsi.bound;refine ⟨(Dz out be,decide (tot out<tot (Dz out be))),⟨hsi,fun e=> ?_⟩,?_,Weak.mk ?_⟩
     ·grind
     ·grind
     ·simp (disch:=omega) only [go_sem,seval]
  ·refine ⟨0,?_⟩;have:out=JG n be:=(aJ hv (hs.clo hv (hm h))).symm;rw [this];simp (disch:=omega) only [go_sem,seval]
def hv (s k:Nat):Nat:=s / pw k
theorem O5 (s:Nat):hv s 0=s:=by simp [hv,pw]
theorem O4 (s k:Nat):hv s (k+1)=hv s k / 2:=by grind [hv,DB,Nat.div_div_eq_div_mul]
theorem rG (s k:Nat):hv s k<=s:=Nat.div_le_self _ _
theorem cK (s k:Nat):s.testBit k=decide (hv s k%2=1):=by
 rw [Nat.testBit_eq_decide_div_mod_eq]
 rfl
theorem Wg (s i:Nat) (hi:i<=62):sHas (s:Int) (i:Int)=s.testBit i:=by
 rw [cK,hv]
 have h1:(0:Int)<=i:=Za
 have h2:(i:Int)<=62:=Za
 simp only [sHas,h1,h2,WG,Zge,XK]
 have e:((s:Int)).fdiv (2^i)=((s / pw i:Nat):Int):=by
  grind [pw]
 grind
theorem W6 {α:Type} [Inhabited α] {l:List α} {f:α->Bool} {k:Nat} (h:k<l.length) (hf:f (nth l k)=true):l.any f=true:=by
 grind [Zi]
theorem Qe {α:Type} [Inhabited α] {l:List α} {f:α->Bool} (h: ∀j,j<l.length->f (nth l j)=false):l.any f=false:=by
 rw [YG];intro x hx;obtain ⟨j,hj,rfl⟩:=ZD.1 hx
 grind [Zi]
theorem YX {p:Nat->Prop} {k:Nat} (h: ∀j,j<k->p j) (hk:p k): ∀j,j<k+1->p j:=fun j hj=>by
 grind
theorem ZhG {s:Int} {k:Nat} {x:Int} (h:x∈XN s k):0<=x/\x<k:=by
 simp only [XN,Xz,U2,Xa] at h;omega
noncomputable def Zfw (os:List Ord) (ap be:List (Int×Int)) (s:Int):Int :=
 if s<0 then 2
 else if (XN s 63).any (fun i=>decide ((os.length:Int)<=i)) then 2
 else if (XN s 63).any (fun i=>(nth os i.toNat).off) then 9
 else if ap.any (fun p=>sHas s p.1&&sHas s p.2) then 20
 else if be.any (fun p=>sHas s p.2&& !sHas s p.1) then 21
 else if (XN s 63).any (fun i=>sHas ((nth (JG os.length be) i.toNat:Nat):Int) i) then 21
 else 0
theorem X6 {P Q:Prop} (h:Q) (e:Q->P:=by intro h;simp (disch:=omega) only [Zg,go_sem,seval];exact h):P:=e h
theorem Ra (net:Net) (tyc:Bool) (tys:List Typ) (c1 c2 c3:Bool) (os:List Ord) (ap be:List (Int×Int)) (s:Int) (hn:os.length<=60) (hla:ap.length<=1048576) (hl:be.length<=1048576) (hv:Val os.length be) :
  PC 177 [.p (Zs ⟨net,tyc,tys,c1,os,c2,ap,c3,be⟩),.p (.int .i64 s)] (.int .i64 (Zfw os ap be s)):=by
 have hc:=D0 hv;have hlen:=hc.len;have hm:=Bu s 63;refine Zc Tryz.func177 rfl xI ?_;simp (disch:=omega) only [Tryz.f177,go_sem,seval];refine cD ?_ ?_<;>intro hs0<;>simp (disch:=omega) only [Sh.out hs0,go_sem,seval]
 ·simp [Zfw,hs0]
 ·refine ((Cq s).frozen Zb).use (Yv ?_);generalize hgm:XN s 63=m at hm ⊢
  have hnn: ∀k,k<m.length->0<=nth m k/\nth m k<63:=fun k hk=>by
   grind [XN,Zi,Jv]
  have e0: ¬s<0:=hs0;refine Zj [1,2,5,21,22] (fun k:Nat=> [(23,.p (.int .i64 k))]) (fun _=> [Zg ⟨net,tyc,tys,c1,os,c2,ap,c3,be⟩]) (fun k=>k<=m.length/\ ∀j,j<k->decide ((os.length:Int)<=nth m j)=false) (fun k=>m.length-k) 0 Zb (Weak.mk ?_) ?_
  ·simp (disch:=omega) only [Zg,go_sem,seval]
  ·rintro k ⟨hk,hno⟩;refine X6 ?_;refine cD ?_ ?_<;>intro h<;>simp (disch:=omega) only [Sh.out h,go_sem,seval,↓reduceIte]
   ·have hk2:k<m.length:=Za
    refine ZH ?_ ?_<;>intro h4
    ·grind [W6,Zfw]
    ·exact ⟨k+1,⟨Za,YX hno (by simp [h4])⟩,Za,wk⟩
   ·have hkm:k=m.length:=Za
    subst hkm;have e1:m.any (fun i=>decide ((os.length:Int)<=i))=false:=Qe hno
    have hin: ∀j,j<m.length->(nth m j).toNat<os.length:=fun j hj=>by
     grind
    clear hno hk h;refine Zj [1,2,5,33,34] (fun k:Nat=> [(35,.p (.int .i64 k))]) (fun _=> [Zg ⟨net,tyc,tys,c1,os,c2,ap,c3,be⟩]) (fun k=>k<=m.length/\ ∀j,j<k->(nth os (nth m j).toNat).off=false) (fun k=>m.length-k) 0 Zb (Weak.mk ?_) ?_
    ·simp (disch:=omega) only [Zg,go_sem,seval]
    ·rintro k ⟨hk,hno⟩;refine X6 ?_;refine cD ?_ ?_<;>intro h<;>simp (disch:=omega) only [Sh.out h,go_sem,seval,↓reduceIte]
     ·have hk2:k<m.length:=Za
      have g1:=hin k hk2;have g2:=hnn k hk2;refine Yv ?_;refine ZH ?_ ?_<;>intro h4
      ·grind [W6,Zfw]
      ·exact ⟨k+1,⟨Za,YX hno h4⟩,Za,wk⟩
     ·have hkm:k=m.length:=Za
      subst hkm;have e2:m.any (fun i=>(nth os i.toNat).off)=false:=Qe hno;clear hno hk h;refine Zj [1,2,5,47,48] (fun k:Nat=> [(49,.p (.int .i64 k))]) (fun _=> [Zg ⟨net,tyc,tys,c1,os,c2,ap,c3,be⟩]) (fun k=>k<=ap.length/\ ∀j,j<k->(sHas s (nth ap j).1&&sHas s (nth ap j).2)=false) (fun k=>ap.length-k) 0 Zb (Weak.mk ?_) ?_
      ·simp (disch:=omega) only [Zg,go_sem,seval]
      ·rintro k ⟨hk,hno⟩;refine X6 ?_;refine cD ?_ ?_<;>intro h<;>simp (disch:=omega) only [Sh.out h,go_sem,seval,↓reduceIte]
       ·have hk2:k<ap.length:=Za
        refine (CT s (nth ap k).1).use (Yv ?_);refine US ?_ ?_<;>intro h5
        ·refine (CT s (nth ap k).2).use (Yv ?_);refine ZH ?_ ?_<;>intro h6
         ·grind [W6,Zfw]
         ·exact ⟨k+1,⟨Za,YX hno (by simp [h5,h6])⟩,Za,wk⟩
        ·exact ⟨k+1,⟨Za,YX hno (by simp [h5])⟩,Za,wk⟩
       ·have hkm:k=ap.length:=Za
        subst hkm;have e3:ap.any (fun p=>sHas s p.1&&sHas s p.2)=false:=Qe hno;clear hno hk h;refine Zj [1,2,5,65,66] (fun k:Nat=> [(67,.p (.int .i64 k))]) (fun _=> [Zg ⟨net,tyc,tys,c1,os,c2,ap,c3,be⟩]) (fun k=>k<=be.length/\ ∀j,j<k->(sHas s (nth be j).2&& !sHas s (nth be j).1)=false) (fun k=>be.length-k) 0 Zb (Weak.mk ?_) ?_
        ·simp (disch:=omega) only [Zg,go_sem,seval]
        ·rintro k ⟨hk,hno⟩;refine X6 ?_;refine cD ?_ ?_<;>intro h<;>simp (disch:=omega) only [Sh.out h,go_sem,seval,↓reduceIte]
         ·have hk2:k<be.length:=Za
          refine (CT s (nth be k).2).use (Yv ?_);refine US ?_ ?_<;>intro h5
          ·refine (CT s (nth be k).1).use (Yv ?_);refine ZH ?_ ?_<;>intro h6
           ·grind [W6,Zfw]
           ·exact ⟨k+1,⟨Za,YX hno (by simp [h5,h6])⟩,Za,wk⟩
          ·exact ⟨k+1,⟨Za,YX hno (by simp [h5])⟩,Za,wk⟩
         ·have hkm:k=be.length:=Za
          subst hkm;have e4:be.any (fun p=>sHas s p.2&& !sHas s p.1)=false:=Qe hno;clear hno hk h;refine ((T9 os.length be c3 hn hl hv).frozen (by grind)).use (Yv ?_);refine Zj [5,14,89,90] (fun k:Nat=> [(91,.p (.int .i64 k))]) (fun _=> [Zg ⟨net,tyc,tys,c1,os,c2,ap,c3,be⟩]) (fun k=>k<=m.length/\ ∀j,j<k->sHas ((nth (JG os.length be) (nth m j).toNat:Nat):Int) (nth m j)=false) (fun k=>m.length-k) 0 Zb (Weak.mk ?_) ?_
          ·simp (disch:=omega) only [Zg,go_sem,seval]
          ·rintro k ⟨hk,hno⟩;refine X6 ?_;refine cD ?_ ?_<;>intro h<;>simp (disch:=omega) only [Sh.out h,go_sem,seval,↓reduceIte]
           ·have hk2:k<m.length:=Za
            have g1:=hin k hk2;have g2:=hnn k hk2;refine Yv ?_;refine (CT ((nth (JG os.length be) (nth m k).toNat:Nat):Int) (nth m k)).use (Yv ?_);refine ZH ?_ ?_<;>intro h6
            ·grind [W6,Zfw]
            ·exact ⟨k+1,⟨Za,YX hno h6⟩,Za,wk⟩
           grind [JG,Qe,Zfw]
deriving instance DecidableEq for Vis
theorem CK {v w:Vis} :v=w↔v.order=w.order/\v.drp=w.drp:=by cases v;cases w;simp
def FZ (f:Vis->Bool) (l:List Vis):Int:=match l.findIdx? f with | some i=>(i:Int) | none=> -1
def vIx (l:List Vis) (v:Vis):Int:=FZ (fun w=>decide (v=w)) l
theorem Hw {f:Vis->Bool} {l:List Vis} {k:Nat} (hk:k<l.length) (h:f (nth l k)=true) (hno: ∀j,j<k->f (nth l j)=false):FZ f l=(k:Int):=by
 have:l.findIdx? f=some k:=by
  grind [VY,Zi]
 simp [FZ,this]
theorem Np {f:Vis->Bool} {l:List Vis} (hno: ∀j,j<l.length->f (nth l j)=false):FZ f l= -1:=by
 have:l.findIdx? f=none:=by
  rw [List.findIdx?_eq_none_iff];intro x hx;obtain ⟨j,hj,rfl⟩:=ZD.1 hx
  grind [Zi]
 simp [FZ,this]
theorem No {f:Vis->Bool} {l:List Vis} :decide (0<=FZ f l)=l.any f:=by
 grind [FZ]
theorem bH {f:Vis->Bool} {l:List Vis} :FZ f l<l.length/\ -1<=FZ f l:=by
 grind [FZ,VY]
theorem O6 (l:List Vis) (c:Bool) (v:Vis) (hl:l.length<=1048576):PC 308 [.p (.list c (l.map Z2)),.p (Z2 v)] (.int .i64 (vIx l v)):=by
 refine Zc Tryz.func308 rfl ZaB ?_;simp (disch:=omega) only [Tryz.f308,go_sem,seval];refine Zj [0,3,7] (fun k:Nat=> [(8,.p (.int .i64 k))]) (fun _=> [.cells [.p (.int .i64 v.order),.p (.bool v.drp)]]) (fun k=>k<=l.length/\ ∀j,j<k->decide (v=nth l j)=false) (fun k=>l.length-k) 0 Zb (Weak.mk ?_) ?_
 ·simp (disch:=omega) only [go_sem,seval,↓reduceIte]
 ·rintro k ⟨hk,hno⟩;refine Yv ?_;refine cD ?_ ?_<;>intro h<;>simp (disch:=omega) only [Sh.out h,go_sem,seval,↓reduceIte]
  ·have hk2:k<l.length:=Za
   refine Xd (Yv ?_);refine cD ?_ ?_<;>intro h2<;>simp (disch:=omega) only [Sh.out h2,go_sem,seval,↓reduceIte]
   ·grind [CK,vIx,Hw]
   ·have: ¬v=nth l k:=by grind
    exact ⟨k+1,⟨Za,Zn.2 ⟨hno,by grind⟩⟩,Za,wk⟩
  grind [vIx,Np]
theorem BF (l:List Vis) (c:Bool) (v:Vis) (hl:l.length<=1048576):PC 286 [.p (.list c (l.map Z2)),.p (Z2 v)] (.int .i64 (vIx l v)):=by
 refine Zc Tryz.func286 rfl Zaf ?_;simp (disch:=omega) only [Tryz.f286,go_sem,seval];refine (O6 l c v hl).use ?_;simp (disch:=omega) only [go_sem,seval]
theorem Hs (l:List Vis) (c:Bool) (v:Vis) (hl:l.length<=1048576):PC 287 [.p (.list c (l.map Z2)),.p (Z2 v)] (.bool (decide (0<=vIx l v))):=by
 refine Zc Tryz.func287 rfl Zag ?_;simp (disch:=omega) only [Tryz.f287,go_sem,seval];refine (O6 l c v hl).use ?_;simp (disch:=omega) only [go_sem,seval]
theorem oH (l:List Ord) (c:Bool) (n:Int) (hl:l.length<=1048576):PC 236 [.p (.list c (l.map eOrd)),.p (.int .i64 n)] (.bool (decide (0<=n/\n<l.length))):=by
 refine Zc Tryz.func236 rfl cQ ?_;simp (disch:=omega) only [Tryz.f236,go_sem,seval];refine gT ?_ ?_<;>intro h<;>simp (disch:=omega) only [Sh.out h,go_sem,seval,↓reduceIte]
 all_goals (try simp [h])
def ZT (l:List Ord) (i:Nat):List Vis:=(if 0<=(nth l i).pick.place then [⟨i,false⟩] else [])++(if 0<=(nth l i).drp.place then [⟨i,true⟩] else [])
theorem Wi (l:List Ord) (i:Nat):(ZT l i).length<=2:=by grind [ZT]
theorem Yf {l:List Ord} {i:Nat} {v:Vis} (h:v∈ZT l i):v.order=i:=by
 grind [ZT]
theorem Od (l:List Ord) (c:Bool) (i:Nat) (hi:i<l.length) (hl:l.length<=1048576):ACalls Tryz.prog 178 [.p (.list c (l.map eOrd)),.p (.int .i64 (i:Nat))] [] fun x H'=>x= .sl 0 0 (ZT l i).length (ZT l i).length/\H'= [.elems 2 ((ZT l i).map Z2)]:=by
 suffices hh:ACalls Tryz.prog 178 [.p (.list c (l.map eOrd)),.p (.int .i64 (i:Nat))] [] fun x H'=> ∃m:List Vis,m=ZT l i/\x= .sl 0 0 m.length m.length/\H'= [.elems 2 (m.map Z2)] by
  grind
 refine Z6 [2] Tryz.func178 rfl xJ ?_;simp (disch:=omega) only [Tryz.f178,go_sem,seval];refine Zp (Weak.ofNil 5 2 (by simp (disch:=omega) only [go_sem,seval]) Zb (Weak.refl _ _ _)) ?_;refine Zf [4] _ _ _ _ (Yv ?_);refine (oH l c i hl).use (Yv ?_)
 have h0:(0:Int)<=(i:Int)/\(i:Int)<(l.length:Int):=Za
 simp (disch:=omega) only [h0,go_sem,seval];refine ZJ [0,1] (fun m:List Vis=> [(5,.sl 0 0 m.length m.length)]) (fun m=> [.elems 2 (m.map Z2)]) (fun m=>m=(if 0<=(nth l i).pick.place then [⟨i,false⟩] else [])) ?_ ?_
 ·refine Yv ?_;refine cD ?_ ?_<;>intro h<;>simp (disch:=omega) only [Sh.out h,go_sem,seval,↓reduceIte]
  ·exact ⟨[⟨i,false⟩],by simp [],wk⟩
  ·exact ⟨[],by simp [],wk⟩
 ·intro m hm
  have hml:m.length<=1:=by grind
  refine Zf [] _ _ _ _ (Yv ?_);refine cD ?_ ?_<;>intro h<;>simp (disch:=omega) only [Sh.out h,go_sem,seval,↓reduceIte]
  ·exact ⟨m++ [⟨i,true⟩],by simp_all [ZT],0,by simp (disch:=omega) only [go_sem,seval]⟩
  ·exact ⟨m,by simp_all [ZT],0,by simp (disch:=omega) only [go_sem,seval]⟩
theorem visits_c (l:List Ord) (c:Bool) (i:Nat) (hi:i<l.length) (hl:l.length<=1048576):PC 178 [.p (.list c (l.map eOrd)),.p (.int .i64 (i:Nat))] (.list false ((ZT l i).map Z2)) :=
 (Od l c i hi hl).frozen Zb
def Kx (l:List Vis):Bool:=(List.range l.length).any fun i=>decide (0<=vIx (l.take i) (nth l i))
theorem oM (l:List Vis) (c:Bool) (hl:l.length<=1048576):PC 260 [.p (.list c (l.map Z2))] (.bool (Kx l)):=by
 refine Zc Tryz.func260 rfl zG ?_;simp (disch:=omega) only [Tryz.f260,go_sem,seval];refine Zj [0,5,6] (fun k:Nat=> [(7,.p (.int .i64 k))]) (fun _=> []) (fun k=>k<=l.length/\ ∀j,j<k->decide (0<=vIx (l.take j) (nth l j))=false) (fun k=>l.length-k) 0 Zb (Weak.mk ?_) ?_
 ·simp (disch:=omega) only [go_sem,seval,↓reduceIte]
 ·rintro k ⟨hk,hno⟩;refine Yv ?_;refine cD ?_ ?_<;>intro h<;>simp (disch:=omega) only [Sh.out h,go_sem,seval,↓reduceIte]
  ·have hk2:k<l.length:=Za
   refine Xd (Yv ?_);refine Zo (BF (l.take k) _ (nth l k) (by simp;omega)) (Yv ?_);refine cD ?_ ?_<;>intro h2<;>simp (disch:=omega) only [Sh.out h2,go_sem,seval,↓reduceIte]
   ·grind [Kx]
   ·exact ⟨k+1,⟨Za,Zn.2 ⟨hno,by grind⟩⟩,Za,wk⟩
  grind [Kx]
theorem CU (l:List Vis) (c:Bool) (g:FuncId) (caps:List V) (H:List AM.Obj) (f:Vis->Bool) (hl:l.length<=1048576) (hW:MH H H.length H H) (hc:Xb H.length caps=true)
  (hg: ∀v∈l,ACalls Tryz.prog g (.p (Z2 v)::caps) H fun x H'=>x= .p (.bool (f v))/\H'=H) :
  ACalls Tryz.prog 225 [.p (.list c (l.map Z2)),.fn (.func g) [] caps] H fun x H'=>x= .p (.int .i64 (FZ f l))/\H'=H:=by
 refine X7 Tryz.func225 rfl yF (Zf [] _ _ _ _ ?_);simp (disch:=omega) only [Tryz.f225,go_sem,seval];refine Zj [0,1,7] (fun k:Nat=> [(8,.p (.int .i64 k))]) (fun _=>H) (fun k=>k<=l.length/\ ∀j,j<k->f (nth l j)=false) (fun k=>l.length-k) 0 Zb (Weak.mk ?_) ?_
 ·simp (disch:=omega) only [hW,hc,go_sem,seval];simp
 ·rintro k ⟨hk,hno⟩;refine Yv ?_;refine cD ?_ ?_<;>intro h<;>simp (disch:=omega) only [Sh.out h,go_sem,seval,↓reduceIte]
  ·have hk2:k<l.length:=Za
   refine (hg (nth l k) (Zq hk2)).useH (Yv ?_);refine cD ?_ ?_<;>intro h2<;>simp (disch:=omega) only [Sh.out h2,go_sem,seval,↓reduceIte]
   ·grind [Hw]
   ·have h3:f (nth l k)=false:=Za
    refine ⟨k+1,⟨Za,Zn.2 ⟨hno,h3⟩⟩,Za,Weak.mk ?_⟩;simp (disch:=omega) only [hW,hc,go_sem,seval];simp
  grind [Np]
theorem Ut (l:List Vis) (c:Bool) (g:FuncId) (caps:List V) (H:List AM.Obj) (f:Vis->Bool) (hl:l.length<=1048576) (hW:MH H H.length H H) (hc:Xb H.length caps=true)
  (hg: ∀v∈l,ACalls Tryz.prog g (.p (Z2 v)::caps) H fun x H'=>x= .p (.bool (f v))/\H'=H) :
  ACalls Tryz.prog 167 [.p (.list c (l.map Z2)),.fn (.func g) [] caps] H fun x H'=>x= .p (.bool (l.any f))/\H'=H:=by
 refine X7 Tryz.func167 rfl xA (Zf [] _ _ _ _ ?_);simp (disch:=omega) only [Tryz.f167,go_sem,seval];refine (CU l c g caps H f hl hW hc hg).useH (Yv ?_);rw [No]
def hasO (l:List Vis) (o:Int):Bool:=l.any fun v=>decide (v.order=o)
theorem vG (v:Vis) (o:Int):ACalls Tryz.prog 288 [.p (Z2 v),.ptr 0 0] [.cells [.p (.int .i64 o)]] fun x H'=>x= .p (.bool (decide (v.order=o)))/\H'= [.cells [.p (.int .i64 o)]]:=by
 refine Ze [] Tryz.func288 rfl Zah ?_;simp (disch:=omega) only [Tryz.f288,go_sem,seval];exact we
theorem Rn (v:Vis) (o:Int):ACalls Tryz.prog 289 [.p (Z2 v),.ptr 0 0] [.cells [.p (.int .i64 o)]] fun x H'=>x= .p (.bool (decide (v.order=o)))/\H'= [.cells [.p (.int .i64 o)]]:=by
 refine Ze [] Tryz.func289 rfl Zai ?_;simp (disch:=omega) only [Tryz.f289,go_sem,seval];exact we
theorem BT (l:List Vis) (c:Bool) (o:Int) (hl:l.length<=1048576):PC 262 [.p (.list c (l.map Z2)),.p (.int .i64 o)] (.bool (hasO l o)):=by
 refine Zc Tryz.func262 rfl zJ ?_;simp (disch:=omega) only [Tryz.f262,go_sem,seval];refine (Ut l c 288 [.ptr 0 0] [.cells [.p (.int .i64 o)]] (fun v=>decide (v.order=o)) hl (by simp (disch:=omega) only [go_sem,seval]) (by rfl) (fun v _=>vG v o)).useH (Yv ?_);rw [hasO]
def beforeB (l:List Vis) (a b:Int):Bool:=if FZ (fun v=>decide (v.order=b)) l<0 then true else hasO l a&& !hasO (l.drop (FZ (fun v=>decide (v.order=b)) l).toNat) a
theorem Mi (l:List Vis) (c:Bool) (a b:Int) (hl:l.length<=1048576):PC 263 [.p (.list c (l.map Z2)),.p (.int .i64 a),.p (.int .i64 b)] (.bool (beforeB l a b)):=by
 refine Zc Tryz.func263 rfl zK ?_;simp (disch:=omega) only [Tryz.f263,go_sem,seval];refine (CU l c 289 [.ptr 0 0] [.cells [.p (.int .i64 b)]] (fun v=>decide (v.order=b)) hl (by simp (disch:=omega) only [go_sem,seval]) (by rfl) (fun v _=>Rn v b)).useH ?_;have hlt:=bH (f:=fun v=>decide (v.order=b)) (l:=l);refine Yv ?_;refine cD ?_ ?_<;>intro h<;>simp (disch:=omega) only [Sh.out h,go_sem,seval]
 ·rw [beforeB,if_pos h]
 ·refine (BT l c a hl).use (Yv ?_);generalize hq:FZ (fun v=>decide (v.order=b)) l=q at hlt h ⊢
  cases h2:hasO l a with
  | false =>
   refine Yv ?_
   simp_all [beforeB]
  | true =>
   simp (disch:=omega) only [UB,go_sem,seval];refine (BT (l.drop q.toNat) _ a (by simp;omega)).use (Yv ?_)
   simp_all [beforeB,if_neg]
def Qf (l:List Vis):Int->List Vis->Bool
 | _,[]=>true
 | last,w::r=>decide (last<vIx l w)&&Qf l (vIx l w) r
def pairB (os:List Ord) (l:List Vis) (v:Vis):Bool:=decide (0<=vIx (ZT os v.order.toNat) v)&&Qf l (-1) (ZT os v.order.toNat)
theorem Mk (x:Inst) (l:List Vis) (c:Bool) (hl:l.length<=1048576) (ho:x.orders.length<=1048576) (hv: ∀v∈l,0<=v.order/\v.order<x.orders.length) :
  PC 261 [.p (Zs x),.p (.list c (l.map Z2))] (.bool (l.all (pairB x.orders l))):=by
 refine Zc Tryz.func261 rfl zH ?_;simp (disch:=omega) only [Tryz.f261,go_sem,seval];refine Zj [1,2,12,13] (fun k:Nat=> [(14,.p (.int .i64 k))]) (fun _=> [Zg x]) (fun k=>k<=l.length/\ ∀j,j<k->pairB x.orders l (nth l j)=true) (fun k=>l.length-k) 0 Zb (Weak.mk ?_) ?_
 ·simp (disch:=omega) only [Zg,go_sem,seval]
 ·rintro k ⟨hk,hno⟩;refine X6 ?_;refine cD ?_ ?_<;>intro h<;>simp (disch:=omega) only [Sh.out h,go_sem,seval,↓reduceIte]
  ·have hk2:k<l.length:=Za
   obtain ⟨v1,v2⟩:=hv _ (Zq hk2)
   have hbad:pairB x.orders l (nth l k)=false->l.all (pairB x.orders l)=false:=fun h4=>by
    grind [Zq]
   obtain ⟨i,hi⟩: ∃i:Nat,(nth l k).order=(i:Int):=⟨(nth l k).order.toNat,Za⟩
   have hp:pairB x.orders l (nth l k)=(decide (0<=vIx (ZT x.orders i) (nth l k))&&Qf l (-1) (ZT x.orders i)):=by rw [pairB,hi];rfl
   rw [hi] at v1 v2;simp (disch:=omega) only [hi,go_sem,seval];refine (visits_c x.orders x.orders_c i Za ho).use (Yv ?_);have hvl:=Wi x.orders i;have hcon:=Hs (ZT x.orders i) false (nth l k) Za;rw [OO,hi] at hcon;refine (hcon).use (Yv ?_);refine cD ?_ ?_<;>intro h2<;>simp (disch:=omega) only [Sh.out h2,go_sem,seval]
   ·grind
   ·have h2':0<=vIx (ZT x.orders i) (nth l k):=Za
    generalize hown:ZT x.orders i=own at hvl hp h2' ⊢
    have hp2:pairB x.orders l (nth l k)=Qf l (-1) own:=by grind
    refine Zj [1,2,12,13,14,27,28] (fun q:Nat×Int=> [(8,.p (.int .i64 q.2)),(29,.p (.int .i64 q.1))]) (fun _=> [Zg x,.cells [.p (.int .i64 (i:Int)),.p (.bool (nth l k).drp)]]) (fun q=>q.1<=own.length/\Qf l (-1) own=Qf l q.2 (own.drop q.1)) (fun q=>own.length-q.1) (0,-1) Zb (Weak.mk ?_) ?_
    ·simp (disch:=omega) only [Zg,go_sem,seval]
    ·rintro ⟨j,last⟩ ⟨hj,ha⟩;simp only at hj ha;refine X6 ?_;refine ZH ?_ ?_<;>intro h3
     ·have hj2:j<own.length:=Za
      have hd:own.drop j=nth own j::own.drop (j+1):=by rw [Wc hj2,Zi hj2]
      rw [hd] at ha;refine (BF l c (nth own j) hl).use (Yv ?_);refine ZH ?_ ?_<;>intro h4
      ·grind [Qf]
      ·have h5:last<vIx l (nth own j):=Za
       exact ⟨(j+1,vIx l (nth own j)),⟨Za,by grind [Qf]⟩,Za,wk⟩
     ·have hjl:j=own.length:=Za
      subst hjl;exact ⟨k+1,⟨Za,Zn.2 ⟨hno,by grind [Qf]⟩⟩,Za,wk⟩
  ·have hkl:k=l.length:=Za
   subst hkl
   have:l.all (pairB x.orders l)=true:=by
    rw [ZC];intro v hv;obtain ⟨j,hj,rfl⟩:=ZD.1 hv
    grind [Zi]
   rw [this]
def Z5 (r:Rte):AM.Obj:= .cells [.p (.int .i64 r.typ),.p (.int .i64 r.start),.p (.list r.rests_c (r.rests.map eB)),.p (.list r.visits_c (r.visits.map Z2))]
def VP (x:Inst) (v:Vis):Bool:= !decide (0<=v.order/\v.order<(x.orders.length:Int))
theorem aC (x:Inst) (r:Rte) (v:Vis) (ho:x.orders.length<=1048576):ACalls Tryz.prog 258 [.p (Z2 v),.ptr 0 0] [Zg x,Z5 r] fun y H'=>y= .p (.bool (VP x v))/\H'= [Zg x,Z5 r]:=by
 refine Ze [] Tryz.func258 rfl zD ?_;simp (disch:=omega) only [Tryz.f258,Zg,Z5,go_sem,seval];refine gF ?_ ?_<;>intro h<;>simp (disch:=omega) only [Sh.out h,go_sem,seval,↓reduceIte]
 ·have e:VP x v=true:=by
   grind [VP]
  rw [e];exact we
 ·have e:VP x v=decide ((x.orders.length:Int)<=v.order):=by
   have h0:0<=v.order:=Za
   rw [Wu];simp [VP,h0]
  rw [e];exact we
theorem aD (x:Inst) (r:Rte) (v:Vis) (ho:x.orders.length<=1048576) (h1:0<=v.order) (h2:v.order<x.orders.length):ACalls Tryz.prog 259 [.p (Z2 v),.ptr 0 0] [Zg x,Z5 r] fun y H'=>y= .p (.bool (nth x.orders v.order.toNat).off)/\H'= [Zg x,Z5 r]:=by
 have h3:v.order.toNat<x.orders.length:=Za
 refine Ze [] Tryz.func259 rfl zF ?_;simp (disch:=omega) only [Tryz.f259,Zg,Z5,go_sem,seval];exact we
def Xm (x:Inst) (l:List Vis):Int :=
 if l.length=0\/l.any (VP x)=true then 2
 else if (l.any fun v=>(nth x.orders v.order.toNat).off)=true then 9
 else if Kx l=true then 6
 else if l.all (pairB x.orders l)=false then 19
 else if (x.apart.any fun p=>hasO l p.1&&hasO l p.2)=true then 20
 else if (x.before.any fun p=> !beforeB l p.1 p.2)=true then 21
 else 0
theorem C2 {P Q:Prop} (h:Q) (e:Q->P:=by intro h;simp (disch:=omega) only [Zg,Z5,go_sem,seval];exact h):P:=e h
theorem N7 (x:Inst) (r:Rte) (ho:x.orders.length<=1048576) (hl:r.visits.length<=1048576) (hap:x.apart.length<=1048576) (hbe:x.before.length<=1048576) :
  PC 218 [.p (Zs x),.p (YJ r)] (.int .i64 (Xm x r.visits)):=by
 refine Zc Tryz.func218 rfl yA ?_;simp (disch:=omega) only [Tryz.f218,go_sem,seval];refine gF ?_ ?_<;>intro h0<;>simp (disch:=omega) only [Sh.out h0,go_sem,seval]
 ·grind [Xm]
 ·have h00: ¬r.visits.length=0:=Za
  refine (Ut r.visits r.visits_c 258 [.ptr 0 0] [Zg x,Z5 r] (VP x) hl (by simp (disch:=omega) only [Zg,Z5,go_sem,seval]) (by rfl) (fun v _=>aC x r v ho)).useH (C2 ?_);refine cD ?_ ?_<;>intro h1<;>simp (disch:=omega) only [Sh.out h1,go_sem,seval]
  ·simp_all [Xm]
  ·have h1':r.visits.any (VP x)=false:=Za
   have c1: ¬(r.visits.length=0\/r.visits.any (VP x)=true):=by grind
   have hin: ∀v∈r.visits,0<=v.order/\v.order<x.orders.length:=fun v hv=>by
    grind [VP]
   refine (Ut r.visits r.visits_c 259 [.ptr 0 0] [Zg x,Z5 r] (fun v=>(nth x.orders v.order.toNat).off) hl (by simp (disch:=omega) only [Zg,Z5,go_sem,seval]) (by rfl) (fun v hv=>aD x r v ho (hin v hv).1 (hin v hv).2)).useH (C2 ?_);refine cD ?_ ?_<;>intro h2<;>simp (disch:=omega) only [Sh.out h2,go_sem,seval]
   ·simp_all [Xm]
   ·refine (oM r.visits r.visits_c hl).use (Yv ?_);refine cD ?_ ?_<;>intro h3<;>simp (disch:=omega) only [Sh.out h3,go_sem,seval,↓reduceIte]
    ·simp_all [Xm,if_neg]
    ·refine (Mk x r.visits r.visits_c hl ho hin).use (Yv ?_);refine cD ?_ ?_<;>intro h4<;>simp (disch:=omega) only [Sh.out h4,go_sem,seval,↓reduceIte]
     ·simp_all [Xm,if_neg]
     ·have h4':r.visits.all (pairB x.orders r.visits)=true:=by grind
      have hc:Xm x r.visits=if (x.apart.any fun p=>hasO r.visits p.1&&hasO r.visits p.2)=true then 20 else if (x.before.any fun p=> !beforeB r.visits p.1 p.2)=true then 21 else 0:=by
       rw [Xm,if_neg c1,if_neg (by grind),if_neg (by grind),if_neg (by grind)]
      clear h4 h4' h3 h2 c1 h1' h1 h0;refine Zj [2,5,33,34] (fun k:Nat=> [(35,.p (.int .i64 k))]) (fun _=> [Zg x,Z5 r]) (fun k=>k<=x.apart.length/\ ∀j,j<k->(hasO r.visits (nth x.apart j).1&&hasO r.visits (nth x.apart j).2)=false) (fun k=>x.apart.length-k) 0 Zb (Weak.mk ?_) ?_
      ·simp (disch:=omega) only [Zg,Z5,go_sem,seval]
      ·rintro k ⟨hk,hno⟩;refine C2 ?_;refine cD ?_ ?_<;>intro h<;>simp (disch:=omega) only [Sh.out h,go_sem,seval,↓reduceIte]
       ·have hk2:k<x.apart.length:=Za
        refine (BT r.visits r.visits_c (nth x.apart k).1 hl).use (Yv ?_);refine US ?_ ?_<;>intro h2
        ·refine (BT r.visits r.visits_c (nth x.apart k).2 hl).use (Yv ?_);refine ZH ?_ ?_<;>intro h3
         ·rw [hc,if_pos (W6 hk2 (by grind))]
         ·exact ⟨k+1,⟨Za,Zn.2 ⟨hno,by grind⟩⟩,Za,wk⟩
        ·exact ⟨k+1,⟨Za,Zn.2 ⟨hno,by simp [h2]⟩⟩,Za,wk⟩
       ·have hkl:k=x.apart.length:=Za
        subst hkl;rw [hc,Qe hno];clear hno hk h hc;rw [if_neg Zb];refine Zj [5,51,52] (fun k:Nat=> [(53,.p (.int .i64 k))]) (fun _=> [Zg x,Z5 r]) (fun k=>k<=x.before.length/\ ∀j,j<k->(!beforeB r.visits (nth x.before j).1 (nth x.before j).2)=false) (fun k=>x.before.length-k) 0 Zb (Weak.mk ?_) ?_
        ·simp (disch:=omega) only [Zg,Z5,go_sem,seval]
        ·rintro k ⟨hk,hno⟩;refine C2 ?_;refine cD ?_ ?_<;>intro h<;>simp (disch:=omega) only [Sh.out h,go_sem,seval,↓reduceIte]
         ·have hk2:k<x.before.length:=Za
          refine (Mi r.visits r.visits_c (nth x.before k).1 (nth x.before k).2 hl).use (Yv ?_);refine ZH ?_ ?_<;>intro h2
          ·have h3:(!beforeB r.visits (nth x.before k).1 (nth x.before k).2)=true:=Za
           rw [if_pos (W6 hk2 h3)]
          ·have h3:(!beforeB r.visits (nth x.before k).1 (nth x.before k).2)=false:=Za
           exact ⟨k+1,⟨Za,Zn.2 ⟨hno,h3⟩⟩,Za,wk⟩
         grind [Qe]
@[go_sem] theorem Zjh {H:List AM.Obj} {n cs cs'} :E9 H n (.tup cs) (.tup cs')=(cs'=cs/\Xb n cs=true):=by simp [E9,jA,refB]
@[go_sem] theorem NZ {a b:V} :Vg [a,b]= .tup [a,b]:=Zw rfl rfl
theorem Qv {g:FuncId} {args:List V} {a b:PV} {H:List AM.Obj} {K:V->List AM.Obj->Prop} (h:ACalls Tryz.prog g args [] fun x H'=>x= .tup [.p a,.p b]/\H'= []) (k:K (.tup [.p a,.p b]) H) (ha:Xb 0 args=true:=by rfl):ACalls Tryz.prog g args H K :=
 (h.behind ha H).mono fun x H' hq=>by
  obtain ⟨y,H1,⟨rfl,rfl⟩,rfl,rfl⟩:=hq
  grind [shV,shVs]
def XZ (l:List Vis):Nat:=l.foldl (fun s v=>s|||pw v.order.toNat) 0
def Fv (v:Vis):Bool:=decide (0<=v.order/\v.order<=62)
theorem Cv {l:List Vis} {k:Nat} (hk:k<l.length):XZ (l.take (k+1))=XZ (l.take k)|||pw (nth l k).order.toNat:=by
 grind [ZE,XZ,Zi]
theorem K4 : ∀(k:Nat) {l:List Vis},k<=l.length->(∀v∈l.take k,Fv v=true)->XZ (l.take k)<9223372036854775808
 | 0,l,_,_=>by simp [XZ]
 | k+1,l,hk,h=>by
  have hk2:k<l.length:=Za
  have ih:=K4 k (l:=l) Za fun v hv=>h v (List.take_subset_take_left l Za hv);have hv:=h (nth l k) (by rw [Zi hk2];exact ZD.2 ⟨k,by simp;omega,Zb⟩);simp only [Fv,Zl] at hv;have h2:pw (nth l k).order.toNat<=pw 62:=JK Za;have h3:=EH;rw [Cv hk2];exact Qo (n:=63) Za Za
def Qu (l:List Vis):Int×Int:=if l.all Fv=true then (((XZ l:Nat):Int),0) else (0,2)
theorem Mj (r:Rte) (hl:r.visits.length<=1048576):PT 59 [.p (YJ r)] [.p (.int .i64 (Qu r.visits).1),.p (.int .i64 (Qu r.visits).2)]:=by
 refine Ze [] Tryz.func59 rfl Zhc ?_;simp (disch:=omega) only [Tryz.f59,go_sem,seval];refine Zj [8,9] (fun k:Nat=> [(4,.p (.int .i64 (XZ (r.visits.take k):Nat))),(10,.p (.int .i64 k))]) (fun _=> [Z5 r]) (fun k=>k<=r.visits.length/\ ∀j,j<k->Fv (nth r.visits j)=true) (fun k=>r.visits.length-k) 0 Zb (Weak.mk ?_) ?_
 ·simp (disch:=omega) only [Z5,XZ,UF,V2,go_sem,seval]
 ·rintro k ⟨hk,hno⟩
  have hlt:=K4 k hk fun v hv=>by
   obtain ⟨j,hj,rfl⟩:=ZD.1 hv
   grind [Zi]
  simp (disch:=omega) only [Z5,go_sem,seval];refine cD ?_ ?_<;>intro h<;>simp (disch:=omega) only [Sh.out h,go_sem,seval,↓reduceIte]
  ·have hk2:k<r.visits.length:=Za
   have hbad:Fv (nth r.visits k)=false->Qu r.visits=(0,2):=fun h4=>by
    grind [Zq,Qu]
   have hs:=Cv hk2
   have hp:(nth r.visits k).order<=62->pw (nth r.visits k).order.toNat<=4611686018427387904:=fun h=>by rw [<- EH];exact JK Za
   refine gF ?_ ?_<;>intro h1<;>simp (disch:=omega) only [Sh.out h1,go_sem,seval,↓reduceIte]
   ·have e:=hbad (by simp [Fv];omega);rw [e];exact we
   ·refine ZH ?_ ?_<;>intro h2
    ·have e:=hbad (by simp [Fv];omega);rw [e];exact we
    ·exact ⟨k+1,⟨Za,Zn.2 ⟨hno,by simp [Fv];omega⟩⟩,Za,Weak.mk (by simp (disch:=omega) only [hs,go_sem,seval])⟩
  ·have hkl:k=r.visits.length:=Za
   subst hkl
   have:r.visits.all Fv=true:=by
    rw [ZC];intro v hv;obtain ⟨j,hj,rfl⟩:=ZD.1 hv
    grind [Zi]
   have e:Qu r.visits=(((XZ r.visits:Nat):Int),0):=by simp [Qu,this]
   rw [e,UB];exact we
theorem UH {α:Type} [Inhabited α] {a b:List α} (hl:a.length=b.length) (h: ∀j,j<a.length->nth a j=nth b j):a=b:=by
 grind [Qp,Zi]
def Vq (a b:Int):Int:=if a<b then-1 else if b<a then 1 else 0
theorem Pa (a:Int):PC 158 [.p (.int .i64 a)] (.bool false):=by
 refine Zc Tryz.func158 rfl wW ?_;simp (disch:=omega) only [Tryz.f158,go_sem,seval]
 try simp
theorem FU (a b:Int):PC 106 [.p (.int .i64 a),.p (.int .i64 b)] (.int .i64 (Vq a b)):=by
 refine Zc Tryz.func106 rfl vP ?_;simp (disch:=omega) only [Tryz.f106,go_sem,seval];refine (Pa a).use (Yv ?_);refine (Pa b).use (Yv ?_);refine cD ?_ ?_<;>intro h<;>simp (disch:=omega) only [Sh.out h,go_sem,seval]
 ·simp [Vq,h]
 ·refine cD ?_ ?_<;>intro h2<;>simp (disch:=omega) only [Sh.out h2,go_sem,seval]
  ·simp [Vq,h,h2]
  grind [Vq]
def mS (l:List Int):Int:=(l.find? fun n=>decide (n≠0)).getD 0
theorem Zbg {l:List Int} {k:Nat} (hk:k<l.length) (h:nth l k≠0) (hno: ∀j,j<k->nth l j=0):mS l=nth l k:=by
 grind [nth,List.find?_eq_some_iff_getElem,mS]
theorem Zbh {l:List Int} (hno: ∀j,j<l.length->nth l j=0):mS l=0:=by
 have:l.find? (fun n=>decide (n≠0))=none:=by
  rw [KN];intro x hx;obtain ⟨j,hj,rfl⟩:=ZD.1 hx
  grind [Zi]
 grind [mS]
theorem Zbi (l:List Int) (c:Bool) (hl:l.length<=100):PC 105 [.p (.list c (l.map eI))] (.int .i64 (mS l)):=by
 refine Zc Tryz.func105 rfl vO ?_;simp (disch:=omega) only [Tryz.f105,go_sem,seval];refine Zj [3,6,7] (fun k:Nat=> [(8,.p (.int .i64 k))]) (fun _=> []) (fun k=>k<=l.length/\ ∀j,j<k->nth l j=0) (fun k=>l.length-k) 0 Zb (Weak.mk ?_) ?_
 ·simp (disch:=omega) only [go_sem,seval]
 ·rintro k ⟨hk,hno⟩;refine Yv ?_;refine cD ?_ ?_<;>intro h<;>simp (disch:=omega) only [Sh.out h,go_sem,seval,↓reduceIte]
  ·have hk2:k<l.length:=Za
   refine ZH ?_ ?_<;>intro h2
   ·grind [Zbg]
   ·exact ⟨k+1,⟨Za,Zn.2 ⟨hno,Za⟩⟩,Za,wk⟩
  grind [Zbh]
theorem HR (a b:Int):mS [a,b]=if a=0 then b else a:=by
 grind [mS]
def dn (v:Vis):Int:=if v.drp=true then 1 else 0
theorem LN (v:Vis):PC 315 [.p (Z2 v)] (.int .i64 (dn v)):=by
 refine Zc Tryz.func315 rfl ZaI ?_;simp (disch:=omega) only [Tryz.f315,go_sem,seval];refine cD ?_ ?_<;>intro h<;>simp (disch:=omega) only [Sh.out h,go_sem,seval]
 ·simp [dn,h]
 ·simp [dn,h]
def Ce (a b:Vis):Int:=if Vq a.order b.order=0 then Vq (dn a) (dn b) else Vq a.order b.order
theorem RE (a b:Vis):PC 300 [.p (Z2 a),.p (Z2 b)] (.int .i64 (Ce a b)):=by
 refine Zc Tryz.func300 rfl Zat ?_;simp (disch:=omega) only [Tryz.f300,go_sem,seval];refine Xd (Yv ?_);refine Zo (FU a.order b.order) (Yv ?_);refine Zo (LN a) (Yv ?_);refine Zo (LN b) (Yv ?_);refine Zo (FU (dn a) (dn b)) (Yv ?_);refine Zo (Zbi [Vq a.order b.order,Vq (dn a) (dn b)] false Zb) (Yv ?_);rw [HR,Ce]
def AE : List Vis->List Vis->Int
 | [],[]=>0
 | [],_::_=> -1
 | _::_,[]=>1
 | a::r,b::s=>if Ce a b=0 then AE r s else Ce a b
theorem Uu {α:Type} [Inhabited α] {l:List α} {k:Nat} (h:k<l.length):l.drop k=nth l k::l.drop (k+1):=by rw [Wc h,Zi h]
theorem Fq (a b:List Vis) (c d:Bool) (ha:a.length<=1048576) (hb:b.length<=1048576) :
  PC 299 [.p (.list c (a.map Z2)),.p (.list d (b.map Z2)),.fn (.func 300) [] []] (.int .i64 (AE a b)):=by
 refine Zc Tryz.func299 rfl Zas ?_;simp (disch:=omega) only [Tryz.f299,go_sem,seval];refine Zj [0,1,2,11,12] (fun k:Nat=> [(13,.p (.int .i64 k))]) (fun _=> []) (fun k=>k<=a.length/\k<=b.length/\AE a b=AE (a.drop k) (b.drop k)) (fun k=>a.length-k) 0 Zb (Weak.mk ?_) ?_
 ·simp (disch:=omega) only [go_sem,seval,↓reduceIte]
 ·rintro k ⟨hk,hkb,hle⟩;refine Yv ?_;refine cD ?_ ?_<;>intro h<;>simp (disch:=omega) only [Sh.out h,go_sem,seval,↓reduceIte]
  ·have hk2:k<a.length:=Za
   rw [Uu hk2] at hle;refine cD ?_ ?_<;>intro h2<;>simp (disch:=omega) only [Sh.out h2,go_sem,seval,↓reduceIte]
   ·have:b.drop k= []:=KJ Za;rw [hle,this];rfl
   ·have hk3:k<b.length:=Za
    rw [Uu hk3] at hle;refine (RE (nth a k) (nth b k)).use (Yv ?_);refine cD ?_ ?_<;>intro h3<;>simp (disch:=omega) only [Sh.out h3,go_sem,seval,↓reduceIte]
    ·simp_all [AE]
    ·have h4:Ce (nth a k) (nth b k)=0:=Za
     exact ⟨k+1,⟨Za,Za,by simp_all [AE]⟩,Za,wk⟩
  ·have hkl:k=a.length:=Za
   subst hkl;rw [V1] at hle;refine cD ?_ ?_<;>intro h2<;>simp (disch:=omega) only [Sh.out h2,go_sem,seval]
   ·rw [Uu Za] at hle;rw [hle];rfl
   ·have:b.drop a.length= []:=KJ Za;rw [hle,this];rfl
theorem Zkf (a b:List Vis) (c d:Bool) (ha:a.length<=1048576) (hb:b.length<=1048576):PC 276 [.p (.list c (a.map Z2)),.p (.list d (b.map Z2))] (.bool (decide (AE a b<0))):=by
 refine Zc Tryz.func276 rfl zW ?_;simp (disch:=omega) only [Tryz.f276,go_sem,seval];refine (Fq a b c d ha hb).use ?_;simp (disch:=omega) only [go_sem,seval]
def JQ (l:List Vis) (v:Vis):List Vis->Bool
 | []=>true
 | w::r=>if w=v then true else decide (0<=vIx l w)&&JQ l v r
def VH (l own:List Vis):Bool:=own.all fun w=>decide (0<=vIx l w)
def J0 (os:List Ord) (l:List Vis) (o:Int) (p:Int×Int):Bool:=decide (p.2≠o)||VH l (ZT os p.1.toNat)
def YH (x:Inst) (l:List Vis) (v:Vis):Bool:=decide (vIx l v<0)&&JQ l v (ZT x.orders v.order.toNat)&&x.before.all (J0 x.orders l v.order)
def Qb (v:Vis):AM.Obj:= .cells [.p (.int .i64 v.order),.p (.bool v.drp)]
theorem iD {l:List Vis} {v:Vis} : -1<=vIx l v/\vIx l v<l.length:=by
 simp_all [bH,vIx]
theorem N8 (x:Inst) (l:List Vis) (c:Bool) (v:Vis) (hl:l.length<=1048576) (ho:x.orders.length<=1048576) (hbl:x.before.length<=1048576) (hv:0<=v.order/\v.order<x.orders.length) (hb: ∀p∈x.before,0<=p.1/\p.1<x.orders.length) :
  PC 277 [.p (Zs x),.p (.list c (l.map Z2)),.p (Z2 v)] (.bool (YH x l v)):=by
 refine AT [3] Tryz.func277 rfl zX ?_;simp (disch:=omega) only [Tryz.f277,go_sem,seval];refine (BF l c v hl).use (Yv ?_);refine cD ?_ ?_<;>intro h<;>simp (disch:=omega) only [Sh.out h,go_sem,seval]
 ·grind [YH]
 ·have h1:vIx l v<0:=Za
  obtain ⟨i,hi⟩: ∃i:Nat,v.order=(i:Int):=⟨v.order.toNat,Za⟩
  have hr:YH x l v=(JQ l v (ZT x.orders i)&&x.before.all (J0 x.orders l v.order)):=by
   grind [YH]
  have hvi:=visits_c x.orders x.orders_c i Za ho;rw [<- hi] at hvi;refine ZJ [1,3,5] (fun _:Unit=> []) (fun _=> [Zg x,Qb v]) (fun _=>JQ l v (ZT x.orders i)=true) ?_ ?_
  ·refine Yv ?_;refine (hvi).use (Yv ?_);have hvl:=Wi x.orders i;generalize hown:ZT x.orders i=own at hvl hr ⊢;refine Zj [1,3,5,21,22] (fun k:Nat=> [(23,.p (.int .i64 k))]) (fun _=> [Zg x,Qb v]) (fun k=>k<=own.length/\JQ l v own=JQ l v (own.drop k)) (fun k=>own.length-k) 0 Zb (Weak.mk ?_) ?_
   ·simp (disch:=omega) only [Zg,Qb,go_sem,seval]
   ·rintro k ⟨hk,hp⟩;simp (disch:=omega) only [Zg,Qb,go_sem,seval];refine ZH ?_ ?_<;>intro h2
    ·have hk2:k<own.length:=Za
     rw [Uu hk2] at hp;refine ZH ?_ ?_<;>intro h3
     ·have h4:nth own k=v:=by grind [CK]
      exact ⟨(),by simp_all [JQ],wk⟩
     ·have h4: ¬nth own k=v:=by grind
      refine (BF l c (nth own k) hl).use (Yv ?_);refine ZH ?_ ?_<;>intro h5
      ·have h6: ¬ 0<=vIx l (nth own k):=Za
       simp_all [JQ]
      ·have h6:0<=vIx l (nth own k):=Za
       exact ⟨k+1,⟨Za,by simp_all [JQ]⟩,Za,wk⟩
    ·have hkl:k=own.length:=Za
     subst hkl;exact ⟨(),by rw [hp,V1];rfl,wk⟩
  ·rintro _ hpre;rw [hpre,Zge] at hr;refine Zf [] _ _ _ _ ?_;simp (disch:=omega) only [Zg,Qb,go_sem,seval];refine Zj [1,3,5,36,37] (fun k:Nat=> [(38,.p (.int .i64 k))]) (fun _=> [Zg x,Qb v]) (fun k=>k<=x.before.length/\ ∀j,j<k->J0 x.orders l v.order (nth x.before j)=true) (fun k=>x.before.length-k) 0 Zb (Weak.mk ?_) ?_
   ·simp (disch:=omega) only [Zg,Qb,go_sem,seval]
   ·rintro k ⟨hk,hno⟩;simp (disch:=omega) only [Zg,Qb,go_sem,seval];refine cD ?_ ?_<;>intro h2<;>simp (disch:=omega) only [Sh.out h2,go_sem,seval,↓reduceIte]
    ·have hk2:k<x.before.length:=Za
     have hbk:=hb _ (Zq hk2)
     have hbad:J0 x.orders l v.order (nth x.before k)=false->YH x l v=false:=fun h4=>by
      grind [Zq]
     refine ZH ?_ ?_<;>intro h3
     ·exact ⟨k+1,⟨Za,Zn.2 ⟨hno,by simp [J0,h3]⟩⟩,Za,wk⟩
     ·obtain ⟨a,hao⟩: ∃a:Nat,(nth x.before k).1=(a:Int):=⟨(nth x.before k).1.toNat,Za⟩;have hva:=visits_c x.orders x.orders_c a Za ho;rw [<- hao] at hva
      have h3':(nth x.before k).2=v.order:=Za
      have hbe:J0 x.orders l v.order (nth x.before k)=VH l (ZT x.orders a):=by grind [J0]
      refine (hva).use (Yv ?_);have hvl:=Wi x.orders a;generalize hown:ZT x.orders a=own at hvl hbe ⊢;refine Zj [1,3,5,36,37,38,51,52] (fun k:Nat=> [(53,.p (.int .i64 k))]) (fun _=> [Zg x,Qb v,.cells [.p (.int .i64 (nth x.before k).1),.p (.int .i64 (nth x.before k).2)]]) (fun q=>q<=own.length/\ ∀j,j<q->decide (0<=vIx l (nth own j))=true) (fun k=>own.length-k) 0 Zb (Weak.mk ?_) ?_
      ·simp (disch:=omega) only [Zg,Qb,go_sem,seval]
      ·rintro q ⟨hq,hnq⟩;simp (disch:=omega) only [Zg,Qb,go_sem,seval];refine ZH ?_ ?_<;>intro h4
       ·have hq2:q<own.length:=Za
        refine (BF l c (nth own q) hl).use (Yv ?_);refine ZH ?_ ?_<;>intro h5
        ·grind [VH,Zq]
        ·exact ⟨q+1,⟨Za,Zn.2 ⟨hnq,by simp;omega⟩⟩,Za,wk⟩
       ·have hql:q=own.length:=Za
        subst hql
        have:VH l own=true:=by
         rw [VH,ZC];intro w hw;obtain ⟨j,hj,rfl⟩:=ZD.1 hw
         grind [Zi]
        exact ⟨k+1,⟨Za,Zn.2 ⟨hno,by grind⟩⟩,Za,wk⟩
    ·have hkl:k=x.before.length:=Za
     subst hkl
     have:x.before.all (J0 x.orders l v.order)=true:=by
      rw [ZC];intro w hw;obtain ⟨j,hj,rfl⟩:=ZD.1 hw
      grind [Zi]
     rw [hr,this]
def VM (x:Inst) (S:Nat) (l:List Vis) (i:Nat):List Vis:=if S.testBit i=true/\(nth x.orders i).off=false then (ZT x.orders i).filter (YH x l) else []
def nextU (x:Inst) (S:Nat) (l:List Vis) (k:Nat):List Vis:=(List.range k).flatMap (VM x S l)
theorem AF (x S l k):nextU x S l (k+1)=nextU x S l k++VM x S l k:=by simp [nextU,Wt]
theorem Sa (x S l i):(VM x S l i).length<=2:=by
 grind [VM,Wi]
theorem QN (x S l): ∀k,(nextU x S l k).length<=2*k
 | 0=>by simp [nextU]
 | k+1=>by
  have h1:=QN x S l k;have h2:=Sa x S l k;rw [AF,Zm];omega
theorem SU (x:Inst) (S:Nat) (l:List Vis) (c:Bool) (hS:S<9223372036854775808) (hl:l.length<=1048576) (ho:x.orders.length<=60) (hbl:x.before.length<=1048576) (hb: ∀p∈x.before,0<=p.1/\p.1<x.orders.length) :
  PC 240 [.p (Zs x),.p (.int .i64 (S:Nat)),.p (.list c (l.map Z2))] (.list false ((nextU x S l x.orders.length).map Z2)):=by
 refine ACalls.frozen (S:=2) (n:=(nextU x S l x.orders.length).length) Zb ?_
 suffices hh:ACalls Tryz.prog 240 [.p (Zs x),.p (.int .i64 (S:Nat)),.p (.list c (l.map Z2))] [] fun y H'=> ∃m:List Vis,m=nextU x S l x.orders.length/\y= .sl 0 0 m.length m.length/\H'= [.elems 2 (m.map Z2)] by
  grind
 refine Z6 [2] Tryz.func240 rfl yT ?_;simp (disch:=omega) only [Tryz.f240,go_sem,seval];refine Zp (Weak.ofNil 7 2 (by simp (disch:=omega) only [go_sem,seval]) Zb (Weak.refl _ _ _)) ?_;refine Zf [] _ _ _ _ (Yv ?_);refine Zj [1,2,3,13,14] (fun q:Nat×List Vis=> [(7,.sl 1 0 q.2.length q.2.length),(15,.p (.int .i64 q.1))]) (fun q=> [Zg x,.elems 2 (q.2.map Z2)]) (fun q=>q.1<=x.orders.length/\q.2=nextU x S l q.1) (fun q=>x.orders.length-q.1) (0,[]) ⟨Zb,by simp [nextU]⟩ (Weak.mk ?_) ?_
 ·simp (disch:=omega) only [Zg,go_sem,seval]
 ·rintro ⟨k,m⟩ ⟨hk,hm⟩;simp only at hk hm
  have hml:m.length<=2*k:=by grind [QN]
  have hsc:=AF x S l k;refine X6 ?_;refine cD ?_ ?_<;>intro h<;>simp (disch:=omega) only [Sh.out h,go_sem,seval,↓reduceIte]
  ·have hk2:k<x.orders.length:=Za
   refine Ag ?_ ?_<;>intro h62
   ·omega
   refine Ag ?_ ?_<;>intro h2
   ·have hbit:S.testBit k=false:=by grind [Hi]
    have e:VM x S l k= []:=by simp [VM,hbit]
    exact ⟨(k+1,m),⟨Za,by grind⟩,Za,wk⟩
   ·have hbit:S.testBit k=true:=by
     grind [Hi]
    refine ZH ?_ ?_<;>intro h3
    ·have e:VM x S l k= []:=by simp [VM,h3]
     exact ⟨(k+1,m),⟨Za,by grind⟩,Za,wk⟩
    ·have h3':(nth x.orders k).off=false:=Za
     have e:VM x S l k=(ZT x.orders k).filter (YH x l):=by grind [VM]
     refine (visits_c x.orders x.orders_c k hk2 Za).use (Yv ?_);have hvl:=Wi x.orders k;have hvo: ∀v∈ZT x.orders k,v.order=k:=fun v hv=>Yf hv;generalize hown:ZT x.orders k=own at hvl e hvo ⊢;refine Zj [1,2,3,13,14,15,36,37] (fun q:Nat×List Vis=> [(7,.sl 1 0 q.2.length q.2.length),(38,.p (.int .i64 q.1))]) (fun q=> [Zg x,.elems 2 (q.2.map Z2),Yp (nth x.orders k)]) (fun q=>q.1<=own.length/\q.2=m++(own.take q.1).filter (YH x l)) (fun q=>own.length-q.1) (0,m) ⟨Zb,Zb⟩ (Weak.mk ?_) ?_
     ·simp (disch:=omega) only [Zg,Yp,h3',go_sem,seval]
     ·rintro ⟨j,m2⟩ ⟨hj,hm2⟩;simp only at hj hm2
      have hm2l:m2.length<=2*k+2:=by
       grind
      simp (disch:=omega) only [Zg,Yp,h3',go_sem,seval];refine ZH ?_ ?_<;>intro h4
      ·have hj2:j<own.length:=Za
       have hvj:=hvo _ (Zq hj2)
       have htk:own.take (j+1)=own.take j++ [nth own j]:=by rw [ZE hj2,Zi hj2]
       have hrd:=N8 x l c (nth own j) hl Za hbl Za hb;refine (hrd).use (Yv ?_);refine ZH ?_ ?_<;>intro h5
       ·exact ⟨(j+1,m2++ [nth own j]),⟨Za,by grind⟩,Za,Weak.mk (by simp (disch:=omega) only [h3',go_sem,seval])⟩
       ·exact ⟨(j+1,m2),⟨Za,by grind⟩,Za,Weak.mk (by simp (disch:=omega) only [h3',go_sem,seval])⟩
      ·have hjl:j=own.length:=Za
       subst hjl;exact ⟨(k+1,m2),⟨Za,by grind⟩,Za,wk⟩
  ·have hkn:k=x.orders.length:=Za
   subst hkn;exact ⟨m,hm,1,by simp (disch:=omega) only [go_sem,seval]⟩
theorem uP (l:List Vis) (c:Bool) (hl:l.length<=1048576):PC 243 [.p (.list c (l.map Z2))] (.list true (l.map Z2)):=by
 refine Zc Tryz.func243 rfl yW ?_;simp (disch:=omega) only [Tryz.f243,go_sem,seval,↓reduceIte]
@[go_sem] theorem ZlX {H:List AM.Obj} {u2:TypeId} {xs:List PV} {y:V} {k:V->List AM.Obj->Prop} {tt} :OP Tryz.prog H 47 u2 (.p (.list true xs)) y (Zv k tt)=AJ ((Rc (some (2,16)) xs (YA (Tryz.prog.underlying u2) H y)).map .p) (Zv (fun v=>k v H) ⟨⟩):=Nl TS
def Zn1 (nx:List Vis->List Vis):Nat->List Vis->List (List Vis)->List (List Vis)×Bool
 | 0,l,outs=>(outs++ [l],decide (outs.length+1<=8192))
 | f+1,l,outs=>(nx l).foldl (fun acc v=>if acc.2=true then Zn1 nx f (l++ [v]) acc.1 else acc) (outs,true)
def Am (x:Inst) (S k:Nat):Nat:=((List.range k).map fun i=>if S.testBit i=true then (ZT x.orders i).length else 0).sum
theorem Ac (x S k):Am x S (k+1)=Am x S k+if S.testBit k=true then (ZT x.orders k).length else 0:=by simp [Am,Wt]
theorem BX (x S): ∀k,Am x S k<=2*k
 | 0=>by simp [Am]
 | k+1=>by
  have h1:=BX x S k;have h2:=Wi x.orders k;rw [Ac]
  split<;>omega
def nHas (S:Nat) (i:Int):Bool:=decide (0<=i/\i<=62)&&S.testBit i.toNat
theorem LH {S i:Nat} (h:i<=62):nHas S (i:Int)=S.testBit i:=by
 grind [nHas]
theorem QR (S:Nat) (i:Int) (hS:S<9223372036854775808):PC 92 [.p (.int .i64 (S:Nat)),.p (.int .i64 i)] (.bool (nHas S i)):=by
 refine Zc Tryz.func92 rfl Zht ?_;simp (disch:=omega) only [Tryz.f92,go_sem,seval];refine gT ?_ ?_<;>intro h<;>simp (disch:=omega) only [Sh.out h,go_sem,seval,↓reduceIte]
 ·refine gT ?_ ?_<;>intro h1<;>simp (disch:=omega) only [Sh.out h1,go_sem,seval,↓reduceIte]
  ·refine gT ?_ ?_<;>intro h2<;>simp (disch:=omega) only [Sh.out h2,go_sem,seval,↓reduceIte]
   ·have e:((S / pw i.toNat:Nat):Int).tmod 2=((S / pw i.toNat%2:Nat):Int):=by rfl
    rw [e];have h3:(((S / pw i.toNat%2:Nat):Int)=1)=(S.testBit i.toNat=true):=Hj
    simp_all [nHas]
   ·simp [nHas,h2]
  ·simp [nHas,h1]
 ·omega
theorem Md (x:Inst) (i:Nat) (hi:i<x.orders.length) (hl:x.orders.length<=1048576) (hpl: ∀o∈x.orders,-1<=o.pick.place/\ -1<=o.drp.place):ACalls Tryz.prog 183 [.p (Zs x),.p (.int .i64 (i:Nat))] [] fun y H'=>y= .sl 0 0 (ZT x.orders i).length (ZT x.orders i).length/\H'= [.elems 2 ((ZT x.orders i).map Z2)]:=by
 suffices hh:ACalls Tryz.prog 183 [.p (Zs x),.p (.int .i64 (i:Nat))] [] fun y H'=> ∃m:List Vis,m=ZT x.orders i/\y= .sl 0 0 m.length m.length/\H'= [.elems 2 (m.map Z2)] by
  grind
 obtain ⟨h1,h2⟩:=hpl _ (Zq hi);refine Z6 [2] Tryz.func183 rfl xL ?_;simp (disch:=omega) only [Tryz.f183,go_sem,seval];refine Zp (Weak.ofNil 5 2 (by simp (disch:=omega) only [go_sem,seval]) Zb (Weak.refl _ _ _)) ?_;refine ZJ [1,2] (fun m:List Vis=> [(5,.sl 1 0 m.length m.length)]) (fun m=> [Zg x,.elems 2 (m.map Z2)]) (fun m=>m=(if 0<=(nth x.orders i).pick.place then [⟨i,false⟩] else [])) ?_ ?_
 ·refine Yv ?_;refine ZH ?_ ?_<;>intro h
  ·exact ⟨[⟨i,false⟩],by grind,Weak.mk (by simp (disch:=omega) only [Zg,go_sem,seval])⟩
  ·exact ⟨[],by grind,Weak.mk (by simp (disch:=omega) only [Zg,go_sem,seval])⟩
 ·intro m hm
  have hml:m.length<=1:=by grind
  refine Zf [] _ _ _ _ (X6 ?_);refine cD ?_ ?_<;>intro h<;>simp (disch:=omega) only [Sh.out h,go_sem,seval,↓reduceIte]
  ·exact ⟨m++ [⟨i,true⟩],by rw [ZT,hm,if_pos (c:=0<=(nth x.orders i).drp.place) Za],1,by simp (disch:=omega) only [go_sem,seval]⟩
  ·exact ⟨m,by simp_all [ZT],1,by simp (disch:=omega) only [go_sem,seval]⟩
theorem CD (x:Inst) (i:Nat) (hi:i<x.orders.length) (hl:x.orders.length<=1048576) (hpl: ∀o∈x.orders,-1<=o.pick.place/\ -1<=o.drp.place):PC 183 [.p (Zs x),.p (.int .i64 (i:Nat))] (.list false ((ZT x.orders i).map Z2)) :=
 (Md x i hi hl hpl).frozen Zb
theorem UL (l:List Vis) (c:Bool) (v:Vis) (hl:l.length<=1048576):PC 135 [.p (.list c (l.map Z2)),.p (Z2 v)] (.int .i64 (vIx l v)):=by
 refine Zc Tryz.func135 rfl wE ?_;simp (disch:=omega) only [Tryz.f135,go_sem,seval];refine Zj [0,3] (fun k:Nat=> [(5,.p (.int .i64 k))]) (fun _=> [Qb v]) (fun k=>k<=l.length/\ ∀j,j<k->decide (v=nth l j)=false) (fun k=>l.length-k) 0 Zb (Weak.mk ?_) ?_
 ·simp (disch:=omega) only [Qb,go_sem,seval,↓reduceIte]
 ·rintro k ⟨hk,hno⟩;simp (disch:=omega) only [Qb,go_sem,seval];refine cD ?_ ?_<;>intro h<;>simp (disch:=omega) only [Sh.out h,go_sem,seval,↓reduceIte]
  ·have hk2:k<l.length:=Za
   refine Xd (Yv ?_);refine cD ?_ ?_<;>intro h2<;>simp (disch:=omega) only [Sh.out h2,go_sem,seval,↓reduceIte]
   ·have:v=nth l k:=Eq.symm (by grind [CK])
    grind [vIx,Hw]
   ·have: ¬v=nth l k:=fun e=>by grind
    exact ⟨k+1,⟨Za,Zn.2 ⟨hno,by grind⟩⟩,Za,wk⟩
  grind [vIx,Np]
theorem CY (l s:List Vis) (c d:Bool) (hl:l.length<=1048576) (hs:s.length<=1048576):PC 184 [.p (.list c (l.map Z2)),.p (.list d (s.map Z2))] (.bool (VH l s)):=by
 refine Zc Tryz.func184 rfl xM ?_;simp (disch:=omega) only [Tryz.f184,go_sem,seval];refine Zj [0,1] (fun k:Nat=> [(5,.p (.int .i64 k))]) (fun _=> []) (fun k=>k<=s.length/\ ∀j,j<k->decide (0<=vIx l (nth s j))=true) (fun k=>s.length-k) 0 Zb (Weak.mk ?_) ?_
 ·simp (disch:=omega) only [go_sem,seval,↓reduceIte]
 ·rintro k ⟨hk,hno⟩;refine Yv ?_;refine cD ?_ ?_<;>intro h<;>simp (disch:=omega) only [Sh.out h,go_sem,seval,↓reduceIte]
  ·have hk2:k<s.length:=Za
   refine (UL l c (nth s k) hl).use (Yv ?_);refine cD ?_ ?_<;>intro h2<;>simp (disch:=omega) only [Sh.out h2,go_sem,seval,↓reduceIte]
   ·grind [VH,Zq]
   ·exact ⟨k+1,⟨Za,Zn.2 ⟨hno,by simp;omega⟩⟩,Za,wk⟩
  ·have hkl:k=s.length:=Za
   subst hkl
   have:VH l s=true:=by
    rw [VH,ZC];intro w hw;obtain ⟨j,hj,rfl⟩:=ZD.1 hw
    grind [Zi]
   rw [this]
theorem fU (a b:Vis):PC 306 [.p (Z2 a),.p (Z2 b)] (.bool (decide (Ce a b<0))):=by
 refine Zc Tryz.func306 rfl Zaz ?_;simp (disch:=omega) only [Tryz.f306,go_sem,seval]
 repeat' (first | (refine gT ?_ ?_<;>intro hq<;>simp (disch:=omega) only [Sh.out hq,go_sem,seval,↓reduceIte]) | (refine gF ?_ ?_<;>intro hq<;>simp (disch:=omega) only [Sh.out hq,go_sem,seval,↓reduceIte]) | (refine UT (fun hq=> ?_) (fun hq=> ?_)<;>(try simp only [Zl,X3,Xk] at hq)<;>simp (disch:=omega) only [Sh.out hq,go_sem,seval]))
 ·simp_all [Ce,Vq]
 ·rename_i h1 h2
  have ha:a.drp=false:=by grind
  cases hb:b.drp<;>simp [Ce,Vq,dn,h2,ha,hb]
 ·grind [Ce,Vq,dn]
 grind [Ce,Vq]
theorem RC {a b:Int} :Vq a b=0↔a=b:=by grind [Vq]
theorem uU {a b:Vis} :dn a=dn b↔a.drp=b.drp:=by grind [dn]
theorem FT {a b:Vis} :Ce a b=0↔a=b:=by
 grind [Ce,CK,RC,uU]
theorem nN (a b:List Vis) (c d:Bool) (ha:a.length<=1048576) (hb:b.length<=1048576):PC 282 [.p (.list c (a.map Z2)),.p (.list d (b.map Z2))] (.bool (decide (AE a b<0))):=by
 refine Zc Tryz.func282 rfl Zac ?_;simp (disch:=omega) only [Tryz.f282,go_sem,seval];refine Zj [0,1] (fun k:Nat=> [(5,.p (.int .i64 k))]) (fun _=> []) (fun k=>k<=a.length/\k<=b.length/\AE a b=AE (a.drop k) (b.drop k)) (fun k=>a.length-k) 0 Zb (Weak.mk ?_) ?_
 ·simp (disch:=omega) only [go_sem,seval,↓reduceIte]
 ·rintro k ⟨hk,hkb,hle⟩;refine Yv ?_;refine gT ?_ ?_<;>intro h<;>simp (disch:=omega) only [Sh.out h,go_sem,seval,↓reduceIte]
  ·refine cD ?_ ?_<;>intro h2<;>simp (disch:=omega) only [Sh.out h2,go_sem,seval,↓reduceIte]
   ·have hk2:k<a.length:=Za
    have hk3:k<b.length:=Za
    rw [Uu hk2,Uu hk3,AE] at hle;refine Xd (Yv ?_);refine cD ?_ ?_<;>intro h3<;>simp (disch:=omega) only [Sh.out h3,go_sem,seval,↓reduceIte]
    ·have hne:Ce (nth a k) (nth b k)≠0:=fun e=>by
      grind [FT]
     refine Xd (Yv ?_);refine Zo (fU (nth a k) (nth b k)) (Yv ?_)
     grind
    ·have e2:nth a k=nth b k:=by
      grind [CK]
     exact ⟨k+1,⟨Za,Za,by simp_all [FT]⟩,Za,wk⟩
   grind [Uu,AE]
  ·have:a.drop k= []:=KJ Za;rw [hle,this]
   cases hb:b.drop k with
   | nil =>
    have:b.length<=k:=List.drop_eq_nil_iff.1 hb;simp [AE];omega
   | cons x r =>
    have:k<b.length:=by
     grind
    simp [AE];omega
theorem Sn {S n:Nat} (h:S.testBit n=true):S|||pw n=S:=by
 apply Bo
 grind [JE]
theorem eK {S n:Nat} (h:S.testBit n=false):S|||pw n=S+pw n:=by
 have e:S%2^(n+1)=S%2^n+2^n*(S / 2^n%2):=Nat.mod_pow_succ;rw [Nat.testBit_eq_decide_div_mod_eq] at h
 have h0:S / 2^n%2=0:=by grind
 rw [h0,Nat.mul_zero,V5] at e;have hp:0<2^n:=Nat.two_pow_pos n
 have hs:2^(n+1)=2^n+2^n:=Za
 have r1:S%2^(n+1)<2^n:=Za
 have e1:=Nat.two_pow_add_eq_or_of_lt (i:=n) r1 1;have e2:=Nat.two_pow_add_eq_or_of_lt (i:=n+1) (b:=2^n*1+S%2^(n+1)) Za (S / 2^(n+1));have e3:=Nat.two_pow_add_eq_or_of_lt (i:=n+1) (b:=S%2^(n+1)) Za (S / 2^(n+1));have e4:=Nat.div_add_mod S (2^(n+1));rw [pw]
 grind
theorem GB (r:Rte) (hl:r.visits.length<=1048576):PT 55 [.p (YJ r)] [.p (.int .i64 (Qu r.visits).1),.p (.int .i64 (Qu r.visits).2)]:=by
 refine Ze [] Tryz.func55 rfl Zhb ?_;simp (disch:=omega) only [Tryz.f55,go_sem,seval];refine Zj [1] (fun k:Nat=> [(4,.p (.int .i64 (XZ (r.visits.take k):Nat))),(5,.p (.int .i64 k))]) (fun _=> [Z5 r]) (fun k=>k<=r.visits.length/\ ∀j,j<k->Fv (nth r.visits j)=true) (fun k=>r.visits.length-k) 0 Zb (Weak.mk ?_) ?_
 ·simp (disch:=omega) only [Z5,XZ,UF,V2,go_sem,seval]
 ·rintro k ⟨hk,hno⟩
  have hlt:=K4 k hk fun v hv=>by
   obtain ⟨j,hj,rfl⟩:=ZD.1 hv
   grind [Zi]
  simp (disch:=omega) only [Z5,go_sem,seval];refine cD ?_ ?_<;>intro h<;>simp (disch:=omega) only [Sh.out h,go_sem,seval,↓reduceIte]
  ·have hk2:k<r.visits.length:=Za
   have hbad:Fv (nth r.visits k)=false->Qu r.visits=(0,2):=fun h4=>by
    grind [Zq,Qu]
   have hs:=Cv hk2
   have hp:(nth r.visits k).order<=62->pw (nth r.visits k).order.toNat<=4611686018427387904:=fun h=>by rw [<- EH];exact JK Za
   refine gF ?_ ?_<;>intro h1<;>simp (disch:=omega) only [Sh.out h1,go_sem,seval,↓reduceIte]
   ·have e:=hbad (by simp [Fv];omega);rw [e];exact we
   ·refine cD ?_ ?_<;>intro h2<;>simp (disch:=omega) only [Sh.out h2,go_sem,seval]
    ·have e:=hbad (by simp [Fv];omega);rw [e];exact we
    ·have h4:=hp Za;refine (QR (XZ (r.visits.take k)) (nth r.visits k).order hlt).use (Yv ?_)
     have hin:0<=(nth r.visits k).order/\(nth r.visits k).order<=62:=Za
     have hnh:nHas (XZ (r.visits.take k)) (nth r.visits k).order=(XZ (r.visits.take k)).testBit (nth r.visits k).order.toNat:=by simp [nHas,hin]
     rw [hnh];have hno2:=(Zn (p:=fun j=>Fv (nth r.visits j)=true)).2 ⟨hno,by simp [Fv];omega⟩
     have hlt2:=K4 (k+1) hk2 fun v hv=>by
      obtain ⟨j,hj,rfl⟩:=ZD.1 hv
      grind [Zi]
     refine ZH ?_ ?_<;>intro h5
     ·have h6:(XZ (r.visits.take k)).testBit (nth r.visits k).order.toNat=false:=by grind
      rw [eK h6] at hs;rw [hs] at hlt2;exact ⟨k+1,⟨Za,hno2⟩,Za,Weak.mk (by simp (disch:=omega) only [hs,Int.natCast_add,go_sem,seval])⟩
     ·have h6:(XZ (r.visits.take k)).testBit (nth r.visits k).order.toNat=true:=by grind
      rw [Sn h6] at hs;exact ⟨k+1,⟨Za,hno2⟩,Za,Weak.mk (by simp (disch:=omega) only [hs,go_sem,seval])⟩
  ·have hkl:k=r.visits.length:=Za
   subst hkl
   have:r.visits.all Fv=true:=by
    rw [ZC];intro v hv;obtain ⟨j,hj,rfl⟩:=ZD.1 hv
    grind [Zi]
   have e:Qu r.visits=(((XZ r.visits:Nat):Int),0):=by simp [Qu,this]
   rw [e,UB];exact we
def Plc (x:Inst):Prop:= ∀o∈x.orders,-1<=o.pick.place/\ -1<=o.drp.place
theorem oN {l:List Vis} {v w:Vis} (h:vIx l v=vIx l w) (h0:0<=vIx l v):v=w:=by
 unfold vIx FZ at h h0
 cases hv:l.findIdx? (fun u=>decide (v=u)) with
 | none=>grind
 | some i =>
  grind [VY]
theorem JF (os:List Ord) (i:Nat):ZT os i= []\/ZT os i= [⟨i,false⟩]\/ZT os i= [⟨i,true⟩]\/ZT os i= [⟨i,false⟩,⟨i,true⟩]:=by
 grind [ZT]
theorem eY {l own:List Vis} (ho:own= []\/(∃v,own= [v])\/ ∃v w,own= [v,w]/\v≠w) :
  Qf l (-1) own=(VH l own&& !(decide (own.length=2)&&decide (vIx l (nth own 1)<vIx l (nth own 0)))):=by
 rcases ho with rfl | ⟨v,rfl⟩ | ⟨v,w,rfl,hne⟩
 ·rfl
 ·grind [Qf,VH]
 ·have hne2:0<=vIx l v->vIx l v≠vIx l w:=fun h0 h=>hne (oN h h0);have h1:= @iD l v;have h2:= @iD l w;rw [Wu];simp [Qf,VH,nth];omega
theorem ME (os:List Ord) (i:Nat):ZT os i= []\/(∃v,ZT os i= [v])\/ ∃v w,ZT os i= [v,w]/\v≠w:=by
 grind [JF]
theorem DO {α:Type} [Inhabited α] {l:List α} {f:α->Bool} {k:Nat} (hk:k<l.length) (h:f (nth l k)=false):l.all f=false:=by
 grind [Zq]
theorem G6 {α:Type} [Inhabited α] {l:List α} {f:α->Bool} (h: ∀j,j<l.length->f (nth l j)=true):l.all f=true:=by
 rw [ZC];intro v hv;obtain ⟨j,hj,rfl⟩:=ZD.1 hv
 grind [Zi]
theorem SN (x:Inst) (l:List Vis) (c:Bool) (hl:l.length<=1048576) (ho:x.orders.length<=1048576) (hp:Plc x) (hv: ∀v∈l,0<=v.order/\v.order<x.orders.length) :
  PC 136 [.p (Zs x),.p (.list c (l.map Z2))] (.bool (l.all (pairB x.orders l))):=by
 refine Zc Tryz.func136 rfl wF ?_;simp (disch:=omega) only [Tryz.f136,go_sem,seval];refine Zj [1,2] (fun k:Nat=> [(5,.p (.int .i64 k))]) (fun _=> [Zg x]) (fun k=>k<=l.length/\ ∀j,j<k->pairB x.orders l (nth l j)=true) (fun k=>l.length-k) 0 Zb (Weak.mk ?_) ?_
 ·simp (disch:=omega) only [Zg,go_sem,seval]
 ·rintro k ⟨hk,hno⟩;refine X6 ?_;refine cD ?_ ?_<;>intro h<;>simp (disch:=omega) only [Sh.out h,go_sem,seval,↓reduceIte]
  ·have hk2:k<l.length:=Za
   obtain ⟨v1,v2⟩:=hv _ (Zq hk2);obtain ⟨i,hi⟩: ∃i:Nat,(nth l k).order=(i:Int):=⟨(nth l k).order.toNat,Za⟩;rw [hi] at v1 v2
   have hpb:pairB x.orders l (nth l k)=(decide (0<=vIx (ZT x.orders i) (nth l k))&&Qf l (-1) (ZT x.orders i)):=by rw [pairB,hi];rfl
   have hown:=ME x.orders i;rw [eY hown] at hpb;refine Xd ?_;simp (disch:=omega) only [hi,go_sem,seval];refine Zo (CD x i Za ho hp) (Yv ?_);have hvl:=Wi x.orders i;generalize ZT x.orders i=own at hvl hpb;have hix:=UL own false (nth l k) Za;rw [OO,hi] at hix;refine Xd ?_;simp (disch:=omega) only [hi,go_sem,seval];refine Zo (hix) (Yv ?_);refine gF ?_ ?_<;>intro h2<;>simp (disch:=omega) only [Sh.out h2,go_sem,seval]
   ·grind [DO]
   ·have h3:0<=vIx own (nth l k):=Za
    have hgo:pairB x.orders l (nth l k)=true-> ∀j,j<k+1->pairB x.orders l (nth l j)=true:=fun e=>Zn.2 ⟨hno,e⟩;refine Zo (CY l own c false hl Za) (Yv ?_);refine gF ?_ ?_<;>intro h4<;>simp (disch:=omega) only [Sh.out h4,go_sem,seval]
    ·grind [DO]
    ·have h5:VH l own=true:=by grind
     rw [h5] at hpb;refine US ?_ ?_<;>intro h6
     ·have h7:own.length=2:=Za
      refine Zo (UL l c (nth own 0) hl) (Yv ?_);refine Zo (UL l c (nth own 1) hl) (Yv ?_);refine ZH ?_ ?_<;>intro h8
      ·grind [DO]
      ·exact ⟨k+1,⟨Za,hgo (by grind)⟩,Za,wk⟩
     ·exact ⟨k+1,⟨Za,hgo (by grind)⟩,Za,wk⟩
  grind [G6]
def apB (x:Inst) (S:Nat):Bool:=x.apart.any fun p=>nHas S p.1&&nHas S p.2
theorem fN (x:Inst) (S:Nat) (hS:S<9223372036854775808) (ha:x.apart.length<=1048576):PC 137 [.p (Zs x),.p (.int .i64 (S:Nat))] (.bool (!apB x S)):=by
 refine Zc Tryz.func137 rfl wG ?_;simp (disch:=omega) only [Tryz.f137,go_sem,seval];refine Zj [1,2] (fun k:Nat=> [(5,.p (.int .i64 k))]) (fun _=> [Zg x]) (fun k=>k<=x.apart.length/\ ∀j,j<k->(nHas S (nth x.apart j).1&&nHas S (nth x.apart j).2)=false) (fun k=>x.apart.length-k) 0 Zb (Weak.mk ?_) ?_
 ·simp (disch:=omega) only [Zg,go_sem,seval]
 ·rintro k ⟨hk,hno⟩;refine X6 ?_;refine cD ?_ ?_<;>intro h<;>simp (disch:=omega) only [Sh.out h,go_sem,seval,↓reduceIte]
  ·have hk2:k<x.apart.length:=Za
   refine (QR S (nth x.apart k).1 hS).use (Yv ?_);refine US ?_ ?_<;>intro h2
   ·refine (QR S (nth x.apart k).2 hS).use (Yv ?_);refine ZH ?_ ?_<;>intro h3
    ·grind [apB,W6]
    ·exact ⟨k+1,⟨Za,Zn.2 ⟨hno,by grind⟩⟩,Za,wk⟩
   ·exact ⟨k+1,⟨Za,Zn.2 ⟨hno,by rw [h2];rfl⟩⟩,Za,wk⟩
  grind [apB,Qe]
def JI (l:List Vis) (a b:Int) (j k:Nat):Bool:=decide ((nth l j).order=a)&&decide ((nth l k).order=b)
def U7 (S:Nat) (l:List Vis) (p:Int×Int):Bool:= !nHas S p.2||(nHas S p.1&&(List.range l.length).all fun j=>(List.range j).all fun k=> !JI l p.1 p.2 j k)
theorem SB (x:Inst) (S:Nat) (l:List Vis) (c:Bool) (hS:S<9223372036854775808) (hl:l.length<=1048576) (hb:x.before.length<=1048576):PC 138 [.p (Zs x),.p (.int .i64 (S:Nat)),.p (.list c (l.map Z2))] (.bool (x.before.all (U7 S l))):=by
 refine Zc Tryz.func138 rfl wH ?_;simp (disch:=omega) only [Tryz.f138,go_sem,seval];refine Zj [1,2,3] (fun k:Nat=> [(7,.p (.int .i64 k))]) (fun _=> [Zg x]) (fun k=>k<=x.before.length/\ ∀j,j<k->U7 S l (nth x.before j)=true) (fun k=>x.before.length-k) 0 Zb (Weak.mk ?_) ?_
 ·simp (disch:=omega) only [Zg,go_sem,seval]
 ·rintro i ⟨hi,hno⟩;refine X6 ?_;refine cD ?_ ?_<;>intro h<;>simp (disch:=omega) only [Sh.out h,go_sem,seval,↓reduceIte]
  ·have hi2:i<x.before.length:=Za
   have hgo:U7 S l (nth x.before i)=true-> ∀j,j<i+1->U7 S l (nth x.before j)=true:=fun e=>Zn.2 ⟨hno,e⟩;have hbad:U7 S l (nth x.before i)=false->x.before.all (U7 S l)=false:=fun e=>DO hi2 e;have hdef:U7 S l (nth x.before i)=(!nHas S (nth x.before i).2||(nHas S (nth x.before i).1&&(List.range l.length).all fun j=>(List.range j).all fun k=> !JI l (nth x.before i).1 (nth x.before i).2 j k)):=rfl;generalize U7 S l (nth x.before i)=R at hgo hbad hdef;generalize nth x.before i=p at hdef ⊢;refine (QR S p.2 hS).use (Yv ?_)
   refine ZH ?_ ?_<;>intro h2
   ·have h3:nHas S p.2=false:=by grind
    exact ⟨i+1,⟨Za,hgo (by grind)⟩,Za,wk⟩
   ·have h3:nHas S p.2=true:=by grind
    refine (QR S p.1 hS).use (Yv ?_);refine cD ?_ ?_<;>intro h4<;>simp (disch:=omega) only [Sh.out h4,go_sem,seval]
    ·grind
    ·have h5:nHas S p.1=true:=by grind
     rw [h3,h5] at hdef;simp only [Uy,Bool.false_or,Zge] at hdef;refine Zj [1,2,3,7,8,9] (fun k:Nat=> [(10,.p (.int .i64 k))]) (fun _=> [Zg x]) (fun k=>k<=l.length/\ ∀j,j<k-> ∀q,q<j->JI l p.1 p.2 j q=false) (fun k=>l.length-k) 0 Zb (Weak.mk ?_) ?_
     ·simp (disch:=omega) only [Zg,go_sem,seval]
     ·rintro j ⟨hj,hnj⟩;refine X6 ?_;refine ZH ?_ ?_<;>intro h6
      ·have hj2:j<l.length:=Za
       refine Zj [1,2,3,7,8,9,10] (fun k:Nat=> [(11,.p (.int .i64 k))]) (fun _=> [Zg x]) (fun k=>k<=j/\ ∀q,q<k->JI l p.1 p.2 j q=false) (fun k=>j-k) 0 Zb (Weak.mk ?_) ?_
       ·simp (disch:=omega) only [Zg,go_sem,seval]
       ·rintro k ⟨hk,hnk⟩;refine X6 ?_;refine ZH ?_ ?_<;>intro h7
        ·have hk2:k<j:=Za
         refine US ?_ ?_<;>intro h8
         ·refine ZH ?_ ?_<;>intro h9
          ·rw [hbad (by
            rw [hdef,List.all_eq_false];refine ⟨j,by grind,?_⟩;rw [V0,List.all_eq_false]
            exact ⟨k,by grind,by simp [JI,h8,h9]⟩)]
          ·exact ⟨k+1,⟨Za,Zn.2 ⟨hnk,by simp [JI,h9]⟩⟩,Za,wk⟩
         ·exact ⟨k+1,⟨Za,Zn.2 ⟨hnk,by simp [JI,h8]⟩⟩,Za,wk⟩
        ·have hkl:k=j:=Za
         subst hkl;exact ⟨k+1,⟨Za,(Zn (p:=fun j=> ∀q,q<j->JI l p.1 p.2 j q=false)).2 ⟨hnj,hnk⟩⟩,Za,wk⟩
      ·have hjl:j=l.length:=Za
       subst hjl;refine ⟨i+1,⟨Za,hgo ?_⟩,Za,wk⟩
       grind
  grind [G6]
theorem fX (x:Inst) (i:Nat) (l:List Vis) (c:Bool) (hl:l.length<=1048576) (ho:x.orders.length<=1048576) (hbl:x.before.length<=1048576) (hp:Plc x) (hb: ∀p∈x.before,0<=p.1/\p.1<x.orders.length) (hi:i<=1048576) :
  PC 281 [.p (Zs x),.p (.int .i64 (i:Nat)),.p (.list c (l.map Z2))] (.bool (x.before.all (J0 x.orders l (i:Int)))):=by
 refine Zc Tryz.func281 rfl Zab ?_;simp (disch:=omega) only [Tryz.f281,go_sem,seval];refine Zj [1,2,3] (fun k:Nat=> [(7,.p (.int .i64 k))]) (fun _=> [Zg x]) (fun k=>k<=x.before.length/\ ∀j,j<k->J0 x.orders l (i:Int) (nth x.before j)=true) (fun k=>x.before.length-k) 0 Zb (Weak.mk ?_) ?_
 ·simp (disch:=omega) only [Zg,go_sem,seval]
 ·rintro k ⟨hk,hno⟩;refine X6 ?_;refine cD ?_ ?_<;>intro h<;>simp (disch:=omega) only [Sh.out h,go_sem,seval,↓reduceIte]
  ·have hk2:k<x.before.length:=Za
   obtain ⟨b1,b2⟩:=hb _ (Zq hk2);obtain ⟨a,hao⟩: ∃a:Nat,(nth x.before k).1=(a:Int):=⟨(nth x.before k).1.toNat,Za⟩;have hva:=CD x a Za ho hp;rw [<- hao] at hva
   have hdef:J0 x.orders l (i:Int) (nth x.before k)=(decide ((nth x.before k).2≠(i:Int))||VH l (ZT x.orders a)):=by rw [J0,hao];rfl
   refine US ?_ ?_<;>intro h2
   ·refine gF ?_ ?_<;>intro h3<;>simp (disch:=omega) only [Sh.out h3,go_sem,seval,↓reduceIte]
    ·omega
    ·refine gF ?_ ?_<;>intro h4<;>simp (disch:=omega) only [Sh.out h4,go_sem,seval,↓reduceIte]
     ·omega
     ·refine (hva).use (Yv ?_);have hvl:=Wi x.orders a;refine (CY l (ZT x.orders a) c false hl Za).use (Yv ?_);refine ZH ?_ ?_<;>intro h5
      ·grind [DO]
      ·have h6:VH l (ZT x.orders a)=true:=by grind
       exact ⟨k+1,⟨Za,Zn.2 ⟨hno,by grind⟩⟩,Za,wk⟩
   ·exact ⟨k+1,⟨Za,Zn.2 ⟨hno,by grind⟩⟩,Za,wk⟩
  grind [G6]
theorem H8 (S:Nat) (i:Int):sHas (S:Int) i=nHas S i:=by
 by_cases h:0<=i/\i<=62
 ·obtain ⟨k,rfl⟩: ∃k:Nat,i=(k:Int):=⟨i.toNat,Za⟩
  grind [Wg,LH]
 ·have h2:nHas S i=false:=by simp only [nHas,h,Jn,Jw]
  grind [sHas]
theorem Ev {S:Nat} {i:Int} :nHas S i=true↔0<=i/\i<=62/\S.testBit i.toNat=true:=by simp [nHas,and_assoc]
theorem Na {S n i:Nat} (h:S / pw n=0) (hi:S.testBit i=true):i<n:=by
 rcases Ww i n with h2 | h2
 ·exact h2
 ·have h3:S<2^n:=by
   have:=(Nat.div_eq_zero_iff).1 h;rcases this with h4 | h4
   ·grind [EI]
   ·exact h4
  grind [Qn,Yi,KK]
theorem QM {S:Nat} {a:Int} :a∈XN (S:Int) 63↔ ∃i:Nat,a=(i:Int)/\i<63/\S.testBit i=true:=by
 simp only [XN,Xz,U2,Xa]
 constructor
 ·rintro ⟨i,⟨h1,h2⟩,rfl⟩;rw [Wg S i Za] at h2
  grind
 ·rintro ⟨i,rfl,h1,h2⟩;exact ⟨i,⟨h1,by grind [Wg]⟩,rfl⟩
structure Alw (x:Inst) (S:Nat):Prop where
 off: ∀i,i<x.orders.length->S.testBit i=true->(nth x.orders i).off=false
 apart:apB x S=false
 closed: ∀p∈x.before,nHas S p.2=true->nHas S p.1=true
 acyc: ∀i,i<x.orders.length->S.testBit i=true-> ¬Ch x.before i i
theorem Vc {c:Prop} [Decidable c] {a b:Int} (ha:a≠0):(if c then a else b)=0↔ ¬c/\b=0:=by
 grind
theorem Iz {x:Inst} {S:Nat} (hn:x.orders.length<=60) (hS:S / pw x.orders.length=0) (hv:Val x.orders.length x.before):Zfw x.orders x.apart x.before (S:Int)=0↔Alw x S:=by
 have hlt: ∀i,S.testBit i=true->i<x.orders.length:=fun i h=>Na hS h
 have e0: ¬(S:Int)<0:=Za
 unfold Zfw;rw [if_neg e0,Vc Za,Vc Za,Vc Za,Vc Za,Vc Za];simp only [and_true]
 constructor
 ·rintro ⟨_,h2,h3,h4,h5⟩;simp only [V0] at h2 h3 h4 h5;rw [YG] at h2 h4 h5;refine ⟨fun i hi hb=> ?_,?_,fun p hp hb=> ?_,fun i hi hb hc=> ?_⟩
  ·have:=h2 (i:Int) (QM.2 ⟨i,rfl,Za,hb⟩)
   grind
  ·grind [apB,H8]
  ·have:=h4 p hp
   simp_all [H8]
  ·have:=h5 (i:Int) (QM.2 ⟨i,rfl,Za,hb⟩)
   grind [Wg,Ui]
 ·rintro ⟨h1,h2,h3,h4⟩;refine ⟨?_,?_,?_,?_,?_⟩
  ·simp only [V0];rw [YG];intro a ha;obtain ⟨i,rfl,h5,h6⟩:=QM.1 ha
   grind
  ·simp only [V0];rw [YG];intro a ha;obtain ⟨i,rfl,h5,h6⟩:=QM.1 ha
   grind
  ·simp only [H8,V0];exact h2
  ·simp only [V0]
   grind [H8]
  ·simp only [V0];rw [YG];intro a ha;obtain ⟨i,rfl,h5,h6⟩:=QM.1 ha
   grind [Wg,Ui]
theorem F0 {f g:Nat->Bool} {b:Nat} : ∀(l:List Nat),(∀a,f a=true->g a=true)->f b=false->g b=true->b∈l->(l.filter f).length<(l.filter g).length
 | [],_,_,_,h=>by simp at h
 | x::l,hfg,hf,hg,h=>by
  have hle: ∀l:List Nat,(l.filter f).length<=(l.filter g).length:=by
   intro l
   induction l with
   | nil=>simp
   | cons y l ih =>
    grind
  simp only [List.filter_cons];rcases Xq.1 h with rfl | h
  ·grind
  ·have:=F0 l hfg hf hg h
   grind
theorem Nn {n:Nat} {be:List (Int×Int)} (hv:Val n be) {P:Nat->Prop} (hP: ∀i,P i->i<n/\ ¬Ch be i i) {i:Nat} (hi:P i): ∃i,P i/\ ∀p∈be,p.2=(i:Int)-> ¬P p.1.toNat:=by
 suffices h: ∀(k i:Nat),P i->((List.range n).filter fun a=>(nth (JG n be) i).testBit a).length<k-> ∃i,P i/\ ∀p∈be,p.2=(i:Int)-> ¬P p.1.toNat from h _ i hi (Nat.lt_succ_self _)
 intro k
 induction k with
 | zero=>omega
 | succ k ih =>
  intro i hi hk
  by_cases h: ∃p∈be,p.2=(i:Int)/\P p.1.toNat
  ·obtain ⟨p,hp,h1,h2⟩:=h;obtain ⟨v1,v2,v3,v4⟩:=hv p hp;have hE:Ed be p.1.toNat i:=⟨p,hp,Za,h1⟩;refine ih p.1.toNat h2 (Qn (F0 (b:=p.1.toNat) _ (fun a ha=> ?_) ?_ ?_ ?_) (by omega:((List.range n).filter fun a=>(nth (JG n be) i).testBit a).length<=k))
   ·exact (Ui hv a i (hP i hi).1).2 (((Ui hv a _ (hP _ h2).1).1 ha).more hE)
   ·grind [Ui]
   ·exact (Ui hv _ i (hP i hi).1).2 (.one hE)
   grind
  grind
theorem WH {l:List Vis} {v:Vis} :0<=vIx l v↔v∈l:=by
 grind [No,vIx]
theorem ZbQ {l:List Vis} {v:Vis} :vIx l v<0↔v ∉ l:=by rw [<- WH];omega
theorem P9 {l own:List Vis} :VH l own=true↔ ∀w∈own,w∈l:=by
 grind [VH,WH]
theorem T0 {os:List Ord} {l:List Vis} {o:Int} {p:Int×Int} :J0 os l o p=true↔(p.2=o-> ∀w∈ZT os p.1.toNat,w∈l):=by
 rw [J0,Wd,P9,Zl]
 grind
theorem T1 {x:Inst} {l:List Vis} {o:Int} :x.before.all (J0 x.orders l o)=true↔ ∀p∈x.before,p.2=o-> ∀w∈ZT x.orders p.1.toNat,w∈l:=by
 simp_all [T0]
def Vne (x:Inst):Prop:= ∀i,i<x.orders.length->ZT x.orders i≠ []
theorem fI {l own:List Vis} (ho:own= []\/(∃v,own= [v])\/ ∃v w,own= [v,w]/\v≠w) {k:Nat} (hk:k<own.length):JQ l (nth own k) own=(decide (k=0)||decide (0<=vIx l (nth own 0))):=by
 rcases ho with rfl | ⟨v,rfl⟩ | ⟨v,w,rfl,hne⟩
 ·simp at hk
 ·grind [JQ,nth]
 ·have:k=0\/k=1:=by grind
  rcases this with rfl | rfl
  ·simp [JQ,nth]
  grind [JQ,nth]
theorem SI (x:Inst) (S:Nat) (l:List Vis) (c:Bool) (hS:S<9223372036854775808) (hl:l.length<=1048576) (ho:x.orders.length<=60) (hbl:x.before.length<=1048576) (hp:Plc x) (hb: ∀p∈x.before,0<=p.1/\p.1<x.orders.length) :
  ACalls Tryz.prog 245 [.p (Zs x),.p (.int .i64 (S:Nat)),.p (.list c (l.map Z2))] [] fun y H'=> ∃m:List Vis,m=nextU x S l x.orders.length/\y= .sl 0 0 m.length m.length/\H'= [.elems 2 (m.map Z2)]:=by
 refine Z6 [2] Tryz.func245 rfl yX ?_;simp (disch:=omega) only [Tryz.f245,go_sem,seval];refine Zp (Weak.ofNil 7 2 (by simp (disch:=omega) only [go_sem,seval]) Zb (Weak.refl _ _ _)) ?_;refine Zf [] _ _ _ _ (Yv ?_);refine Zj [1,2,3] (fun q:Nat×List Vis=> [(7,.sl 1 0 q.2.length q.2.length),(8,.p (.int .i64 q.1))]) (fun q=> [Zg x,.elems 2 (q.2.map Z2)]) (fun q=>q.1<=x.orders.length/\q.2=nextU x S l q.1) (fun q=>x.orders.length-q.1) (0,[]) ⟨Zb,by simp [nextU]⟩ (Weak.mk ?_) ?_
 ·simp (disch:=omega) only [Zg,go_sem,seval]
 ·rintro ⟨i,m⟩ ⟨hi,hm⟩;simp only at hi hm
  have hml:m.length<=2*i:=by grind [QN]
  have hsc:=AF x S l i;refine X6 ?_;refine cD ?_ ?_<;>intro h<;>simp (disch:=omega) only [Sh.out h,go_sem,seval,↓reduceIte]
  ·have hi2:i<x.orders.length:=Za
   have hskip:VM x S l i= []->(i+1,m).2=nextU x S l (i+1):=fun e=>by grind
   refine (QR S (i:Int) hS).use (Yv ?_);rw [LH Za];refine Ag ?_ ?_<;>intro h2
   ·have hbit:S.testBit i=false:=by grind
    exact ⟨(i+1,m),⟨Za,hskip (by simp [VM,hbit])⟩,Za,wk⟩
   ·have hbit:S.testBit i=true:=by grind
    refine Ag ?_ ?_<;>intro h3
    ·exact ⟨(i+1,m),⟨Za,hskip (by simp [VM,h3])⟩,Za,wk⟩
    ·have e:VM x S l i=(ZT x.orders i).filter (YH x l):=by grind [VM]
     refine (fX x i l c hl Za hbl hp hb Za).use (Yv ?_);refine ZH ?_ ?_<;>intro h4
     ·have h5:x.before.all (J0 x.orders l (i:Int))=false:=by grind
      refine ⟨(i+1,m),⟨Za,hskip ?_⟩,Za,wk⟩
      grind [List.filter_eq_nil_iff,YH,Yf]
     ·have h5:x.before.all (J0 x.orders l (i:Int))=true:=by grind
      refine (CD x i hi2 Za hp).use (Yv ?_);have hvl:=Wi x.orders i;have hvo: ∀v∈ZT x.orders i,v.order=i:=fun v hv=>Yf hv;have htwo:=ME x.orders i
      have hrd: ∀k,k<(ZT x.orders i).length->YH x l (nth (ZT x.orders i) k)=(decide (vIx l (nth (ZT x.orders i) k)<0)&&(decide (k=0)||decide (0<=vIx l (nth (ZT x.orders i) 0)))):=fun k hk=>by
       simp_all [YH,Zq,fI]
      generalize hown:ZT x.orders i=own at hvl e hvo hrd ⊢;refine Zj [1,2,3,8,9] (fun q:Nat×List Vis=> [(7,.sl 1 0 q.2.length q.2.length),(10,.p (.int .i64 q.1))]) (fun q=> [Zg x,.elems 2 (q.2.map Z2)]) (fun q=>q.1<=own.length/\q.2=m++(own.take q.1).filter (YH x l)) (fun q=>own.length-q.1) (0,m) ⟨Zb,Zb⟩ (Weak.mk ?_) ?_
      ·simp (disch:=omega) only [Zg,go_sem,seval]
      ·rintro ⟨j,m2⟩ ⟨hj,hm2⟩;simp only at hj hm2
       have hm2l:m2.length<=2*i+2:=by
        grind
       refine X6 ?_;refine ZH ?_ ?_<;>intro h6
       ·have hj2:j<own.length:=Za
        have htk:own.take (j+1)=own.take j++ [nth own j]:=by rw [ZE hj2,Zi hj2]
        have hr:=hrd j hj2
        have hyes:YH x l (nth own j)=true->((j+1,m2++ [nth own j]):Nat×List Vis).2=m++(own.take (j+1)).filter (YH x l):=fun h7=>by
         grind
        have hno:YH x l (nth own j)=false->((j+1,m2):Nat×List Vis).2=m++(own.take (j+1)).filter (YH x l):=fun h7=>by
         grind
        refine (UL l c (nth own j) hl).use (Yv ?_);refine US ?_ ?_<;>intro h7
        ·refine Ag ?_ ?_<;>intro h8
         ·exact ⟨(j+1,m2++ [nth own j]),⟨Za,hyes (by grind)⟩,Za,wk⟩
         ·refine (UL l c (nth own 0) hl).use (Yv ?_);refine ZH ?_ ?_<;>intro h9
          ·exact ⟨(j+1,m2++ [nth own j]),⟨Za,hyes (by grind)⟩,Za,wk⟩
          ·exact ⟨(j+1,m2),⟨Za,hno (by grind)⟩,Za,wk⟩
        ·exact ⟨(j+1,m2),⟨Za,hno (by grind)⟩,Za,wk⟩
       ·have hjl:j=own.length:=Za
        subst hjl;exact ⟨(i+1,m2),⟨Za,by grind⟩,Za,wk⟩
  ·have hkn:i=x.orders.length:=Za
   subst hkn;exact ⟨m,hm,1,by simp (disch:=omega) only [go_sem,seval]⟩
theorem Py (x:Inst) (S:Nat) (l:List Vis) (c:Bool) (hS:S<9223372036854775808) (hl:l.length<=1048576) (ho:x.orders.length<=60) (hbl:x.before.length<=1048576) (hp:Plc x) (hb: ∀p∈x.before,0<=p.1/\p.1<x.orders.length) :
  PC 245 [.p (Zs x),.p (.int .i64 (S:Nat)),.p (.list c (l.map Z2))] (.list false ((nextU x S l x.orders.length).map Z2)) :=
 ACalls.frozen (S:=2) (n:=(nextU x S l x.orders.length).length) Zb ((SI x S l c hS hl ho hbl hp hb).mono fun y H' ⟨m,hm,h1,h2⟩=>by grind)
inductive Gr (x:Inst) (S:Nat):List Vis->Prop where
 | nil:Gr x S []
 | snoc {l:List Vis} {v:Vis} (h:Gr x S l) (hv:v∈nextU x S l x.orders.length):Gr x S (l++ [v])
theorem Oc (os:List Ord) (i:Nat):(ZT os i).Nodup:=by
 grind [JF]
theorem fH {os:List Ord} {i:Nat} {l:List Vis} {v:Vis} (hv:v∈ZT os i):JQ l v (ZT os i)=true↔(v.drp=true->⟨i,false⟩∈ZT os i->⟨i,false⟩∈l):=by
 rcases JF os i with h | h | h | h<;>rw [h] at hv ⊢ <;>simp at hv
 ·grind [JQ]
 ·grind [JQ]
 ·rcases hv with rfl | rfl
  ·simp [JQ]
  ·simp [JQ,WH]
theorem Vx {x:Inst} {l:List Vis} {v:Vis} {i:Nat} (hv:v∈ZT x.orders i):YH x l v=true↔v ∉ l/\(v.drp=true->⟨i,false⟩∈ZT x.orders i->⟨i,false⟩∈l)/\ ∀p∈x.before,p.2=(i:Int)-> ∀w∈ZT x.orders p.1.toNat,w∈l:=by
 have h:=Yf hv;rw [YH,h,XK,ZG,ZG,Zl,ZbQ,fH hv,T1,and_assoc]
theorem VL {x:Inst} {S:Nat} {l:List Vis} {v:Vis} {k:Nat} :v∈nextU x S l k↔ ∃i,i<k/\S.testBit i=true/\(nth x.orders i).off=false/\v∈ZT x.orders i/\YH x l v=true:=by
 rw [nextU,Yk]
 constructor
 ·grind [VM]
 ·rintro ⟨i,hi,h1,h2,h3,h4⟩;exact ⟨i,by grind,by simp_all [VM]⟩
def AZ (x:Inst) (S k:Nat):List Vis:=(List.range k).flatMap fun i=>if S.testBit i=true then ZT x.orders i else []
theorem FJ (x S k):AZ x S (k+1)=AZ x S k++if S.testBit k=true then ZT x.orders k else []:=by simp [AZ,Wt]
theorem JX (x S): ∀k,(AZ x S k).length=Am x S k
 | 0=>by rfl
 | k+1=>by
  rw [FJ,Ac,Zm,JX x S k]
  split<;>simp
theorem WB {x S k v} :v∈AZ x S k↔ ∃i,i<k/\S.testBit i=true/\v∈ZT x.orders i:=by
 simp_all [AZ]
theorem DN (x S): ∀k,(AZ x S k).Nodup
 | 0=>by simp [AZ]
 | k+1=>by
  rw [FJ,List.nodup_append];refine ⟨DN x S k,?_,fun a ha b hb=> ?_⟩
  ·grind [Oc]
  ·obtain ⟨i,hi,_,h2⟩:=WB.1 ha
   split at hb
   ·have h3:=Yf h2;have h4:=Yf hb
    grind
   ·simp at hb
theorem Gr.nodup {x S l} (h:Gr x S l):l.Nodup:=by
 induction h with
 | nil=>simp
 | snoc _ hv ih =>
  obtain ⟨i,_,_,_,h4,h5⟩:=VL.1 hv;rw [List.nodup_append];refine ⟨ih,Zb,fun a ha b hb=> ?_⟩;simp at hb;subst hb;exact fun e=>((Vx h4).1 h5).1 (e ▸ ha)
theorem Gr.sub {x S l} (h:Gr x S l): ∀v∈l,v∈AZ x S x.orders.length:=by
 induction h with
 | nil=>simp
 | snoc _ hv ih =>
  obtain ⟨i,h1,h2,_,h4,_⟩:=VL.1 hv;intro w hw;rcases Xy.1 hw with hw | hw
  ·exact ih w hw
  ·simp at hw;subst hw;exact WB.2 ⟨i,h1,h2,h4⟩
theorem Ic {α:Type} [DecidableEq α] {l m:List α} (hl:l.Nodup) (h: ∀v∈l,v∈m):l.length<=m.length:=List.Nodup.length_le_of_subset hl h
theorem ZbF {α:Type} [DecidableEq α] {l m:List α} (hl:l.Nodup) (h: ∀v∈l,v∈m) (hm:m.length<=l.length): ∀v∈m,v∈l:=fun v hv=>by
 refine Ka fun hno=> ?_
 have:(v::l).length<=m.length:=Ic (by grind) (fun w hw=>by
  grind)
 grind
theorem Gr.len {x S l} (h:Gr x S l):l.length<=Am x S x.orders.length:=by
 rw [<- JX];exact Ic h.nodup h.sub
theorem Gr.full {x S l} (h:Gr x S l) (hl:l.length=Am x S x.orders.length): ∀v∈AZ x S x.orders.length,v∈l:=ZbF h.nodup h.sub (by rw [JX];omega)
theorem Gr.more {x S l} (ha:Alw x S) (hn:x.orders.length<=60) (hv:Val x.orders.length x.before) (hm: ∃v∈AZ x S x.orders.length,v ∉ l): ∃v,v∈nextU x S l x.orders.length:=by
 obtain ⟨v,hva,hvl⟩:=hm;obtain ⟨i,h1,h2,h3⟩:=WB.1 hva;obtain ⟨j,⟨j1,j2,w,j3,j4⟩,hj⟩:=Nn hv (P:=fun i=>i<x.orders.length/\S.testBit i=true/\ ∃w∈ZT x.orders i,w ∉ l) (fun i hi=>⟨hi.1,ha.acyc i hi.1 hi.2.1⟩) ⟨h1,h2,v,h3,hvl⟩
 have hpre: ∀p∈x.before,p.2=(j:Int)-> ∀w∈ZT x.orders p.1.toNat,w∈l:=fun p hp e w hw=>by
  refine Ka fun hno=> ?_;obtain ⟨v1,v2,v3,v4⟩:=hv p hp;have:=ha.closed p hp (Ev.2 ⟨Za,Za,by grind⟩);exact hj p hp e ⟨Za,(Ev.1 this).2.2,w,hw,hno⟩
 by_cases hf:(⟨j,false⟩:Vis)∈ZT x.orders j/\(⟨j,false⟩:Vis) ∉ l
 ·exact ⟨⟨j,false⟩,VL.2 ⟨j,j1,j2,ha.off j j1 j2,hf.1,(Vx hf.1).2 ⟨hf.2,Zb,hpre⟩⟩⟩
 ·refine ⟨w,VL.2 ⟨j,j1,j2,ha.off j j1 j2,j3,(Vx j3).2 ⟨j4,fun _ hq=> ?_,hpre⟩⟩⟩
  grind
theorem Gr.next_nil {x S l} (h:Gr x S l) (ha:Alw x S) (hn:x.orders.length<=60) (hv:Val x.orders.length x.before):nextU x S l x.orders.length= []↔l.length=Am x S x.orders.length:=by
 constructor
 ·intro e;refine Ka fun hno=> ?_
  have hex: ∃v∈AZ x S x.orders.length,v ∉ l:=Ka fun hno2=>hno (by
   have h1: ∀v∈AZ x S x.orders.length,v∈l:=fun v hv=>Ka fun h3=>hno2 ⟨v,hv,h3⟩;have:=Ic (DN x S _) h1;rw [JX] at this;have:=h.len
   omega)
  obtain ⟨v,hv⟩:=Gr.more (l:=l) ha hn hv hex
  grind
 ·intro e;rw [List.eq_nil_iff_forall_not_mem];intro v hv;obtain ⟨i,h1,h2,_,h4,h5⟩:=VL.1 hv;exact ((Vx h4).1 h5).1 (h.full e v (WB.2 ⟨i,h1,h2,h4⟩))
theorem PL {x:Inst} {S:Nat} (hne:Vne x) (hS:S / pw x.orders.length=0) (h0:S≠0):0<Am x S x.orders.length:=by
 have: ∃i,S.testBit i=true:=by
  refine Ka fun hno=>h0 (Bo fun i=> ?_)
  grind
 obtain ⟨i,hi⟩:=this;have hlt:=Na hS hi;obtain ⟨v,hv⟩:=List.exists_mem_of_ne_nil _ (hne i hlt);have hm:v∈AZ x S x.orders.length:=WB.2 ⟨i,hlt,hi,hv⟩
 grind [JX]
def ext (nx:List Vis->List Vis):Nat->List Vis->List (List Vis)->List (List Vis)
 | 0,l,outs=>if 8192<outs.length then outs else outs++ [l]
 | f+1,l,outs=>if 8192<outs.length then outs else (nx l).foldl (fun acc v=>ext nx f (l++ [v]) acc) outs
theorem Rr {S n:Nat} (hS:S<9223372036854775808) (h: ∀j,j<63->S.testBit j=true->j<n):S / pw n=0:=by
 refine U0 ?_;refine Nat.lt_pow_two_of_testBit S fun i hi=> ?_;rcases Ww i 63 with h2 | h2
 ·grind
 ·exact KK (Qn hS (Yi Za h2:2^63<=2^i))
def LW (x:Inst) (l:List Vis):Int :=
 if l.any (VP x)=true then 2
 else if l.length=0 then 2
 else if (l.any fun v=>(nth x.orders v.order.toNat).off)=true then 9
 else if ((List.range l.length).any fun i=>decide (vIx l (nth l i)≠(i:Int)))=true then 6
 else if l.all (pairB x.orders l)=false then 19
 else if apB x (XZ l)=true then 20
 else if x.before.all (U7 (XZ l) l)=false then 21
 else 0
theorem NW (x:Inst) (r:Rte) (ho:x.orders.length<=60) (hl:r.visits.length<=1048576) (hap:x.apart.length<=1048576) (hbe:x.before.length<=1048576) (hp:Plc x) :
  PC 86 [.p (Zs x),.p (YJ r)] (.int .i64 (LW x r.visits)):=by
 refine Zc Tryz.func86 rfl Zhp ?_;simp (disch:=omega) only [Tryz.f86,go_sem,seval];refine Zj [2,3,5] (fun k:Nat=> [(6,.p (.int .i64 k))]) (fun _=> [Zg x,Z5 r]) (fun k=>k<=r.visits.length/\ ∀j,j<k->VP x (nth r.visits j)=false) (fun k=>r.visits.length-k) 0 Zb (Weak.mk ?_) ?_
 ·simp (disch:=omega) only [Zg,Z5,go_sem,seval]
 ·rintro k ⟨hk,hno⟩;refine C2 ?_;refine cD ?_ ?_<;>intro h<;>simp (disch:=omega) only [Sh.out h,go_sem,seval,↓reduceIte]
  ·have hk2:k<r.visits.length:=Za
   refine Xd (Yv ?_);refine gF ?_ ?_<;>intro h2<;>simp (disch:=omega) only [Sh.out h2,go_sem,seval,↓reduceIte]
   ·have:VP x (nth r.visits k)=true:=by simp [VP];omega
    rw [LW,if_pos (W6 hk2 this)]
   ·refine ZH ?_ ?_<;>intro h3
    ·have:VP x (nth r.visits k)=true:=by simp [VP];omega
     rw [LW,if_pos (W6 hk2 this)]
    ·exact ⟨k+1,⟨Za,Zn.2 ⟨hno,by simp [VP];omega⟩⟩,Za,wk⟩
  ·have hkl:k=r.visits.length:=Za
   subst hkl
   have hr1:LW x r.visits=if r.visits.length=0 then 2 else if (r.visits.any fun v=>(nth x.orders v.order.toNat).off)=true then 9 else if ((List.range r.visits.length).any fun i=>decide (vIx r.visits (nth r.visits i)≠(i:Int)))=true then 6 else if r.visits.all (pairB x.orders r.visits)=false then 19 else if apB x (XZ r.visits)=true then 20 else if x.before.all (U7 (XZ r.visits) r.visits)=false then 21 else 0:=by
    rw [LW,if_neg (by rw [Qe hno];simp)]
   have hin: ∀j,j<r.visits.length->0<=(nth r.visits j).order/\(nth r.visits j).order<x.orders.length:=fun j hj=>by
    grind [VP]
   have hmem: ∀v∈r.visits,0<=v.order/\v.order<x.orders.length:=fun v hv=>by
    obtain ⟨j,hj,rfl⟩:=ZD.1 hv
    grind [Zi]
   have hord:Qu r.visits=(((XZ r.visits:Nat):Int),0):=by
    rw [Qu,if_pos]
    grind [Fv]
   have hlt:XZ r.visits<9223372036854775808:=by
    have:=K4 r.visits.length (l:=r.visits) (ZL _) (fun v hv=>by
     grind [Fv])
    grind
   have hoc:=GB r hl;rw [hord] at hoc;refine Qv hoc (Yv ?_);refine cD ?_ ?_<;>intro h3<;>simp (disch:=omega) only [Sh.out h3,go_sem,seval]
   ·grind
   ·rw [hr1,if_neg Za];clear hno hr1 h3 h hk;refine Zj [2,5,7] (fun k:Nat=> [(9,.p (.int .i64 k))]) (fun _=> [Zg x,Z5 r]) (fun k=>k<=r.visits.length/\ ∀j,j<k->(nth x.orders (nth r.visits j).order.toNat).off=false) (fun k=>r.visits.length-k) 0 Zb (Weak.mk ?_) ?_
    ·simp (disch:=omega) only [Zg,Z5,go_sem,seval]
    ·rintro k ⟨hk,hno⟩;refine C2 ?_;refine cD ?_ ?_<;>intro h<;>simp (disch:=omega) only [Sh.out h,go_sem,seval,↓reduceIte]
     ·have hk2:k<r.visits.length:=Za
      obtain ⟨i1,i2⟩:=hin k hk2
      have i3:(nth r.visits k).order.toNat<x.orders.length:=Za
      refine Xd (Yv ?_);refine ZH ?_ ?_<;>intro h4
      ·rw [if_pos (W6 hk2 h4)]
      ·exact ⟨k+1,⟨Za,Zn.2 ⟨hno,h4⟩⟩,Za,wk⟩
     ·have hkl:k=r.visits.length:=Za
      subst hkl;have e9:(r.visits.any fun v=>(nth x.orders v.order.toNat).off)=false:=Qe hno;rw [e9,if_neg Zb];clear hno h hk;refine Zj [2,5,7] (fun k:Nat=> [(10,.p (.int .i64 k))]) (fun _=> [Zg x,Z5 r]) (fun k=>k<=r.visits.length/\ ∀j,j<k->vIx r.visits (nth r.visits j)=(j:Int)) (fun k=>r.visits.length-k) 0 Zb (Weak.mk ?_) ?_
      ·simp (disch:=omega) only [Zg,Z5,go_sem,seval]
      ·rintro k ⟨hk,hno⟩;refine C2 ?_;refine cD ?_ ?_<;>intro h<;>simp (disch:=omega) only [Sh.out h,go_sem,seval,↓reduceIte]
       ·have hk2:k<r.visits.length:=Za
        refine (UL r.visits r.visits_c (nth r.visits k) hl).use (Yv ?_);refine ZH ?_ ?_<;>intro h4
        ·have:((List.range r.visits.length).any fun i=>decide (vIx r.visits (nth r.visits i)≠(i:Int)))=true:=by
          grind
         grind
        ·exact ⟨k+1,⟨Za,Zn.2 ⟨hno,Za⟩⟩,Za,wk⟩
       ·have hkl:k=r.visits.length:=Za
        subst hkl
        have:((List.range r.visits.length).any fun i=>decide (vIx r.visits (nth r.visits i)≠(i:Int)))=false:=by
         grind
        rw [this,if_neg Zb];refine (SN x r.visits r.visits_c hl Za hp hmem).use (Yv ?_);refine cD ?_ ?_<;>intro h4<;>simp (disch:=omega) only [Sh.out h4,go_sem,seval,↓reduceIte]
        ·grind
        ·rw [if_neg (by grind)];refine (fN x (XZ r.visits) hlt hap).use (Yv ?_);refine cD ?_ ?_<;>intro h5<;>simp (disch:=omega) only [Sh.out h5,go_sem,seval,↓reduceIte]
         ·grind
         ·rw [if_neg (by grind)];refine (SB x (XZ r.visits) r.visits r.visits_c hlt hl hbe).use (Yv ?_);refine cD ?_ ?_<;>intro h6<;>simp (disch:=omega) only [Sh.out h6,go_sem,seval]
          ·grind
          grind
structure IFacts (x:Inst):Prop where
 len:x.orders.length<=10
 plc:Plc x
 vne:Vne x
 val:Val x.orders.length x.before
 ne: ∀p∈x.before,p.1≠p.2
 aval:Val x.orders.length x.apart
theorem bS {n:Int} {word:List UInt8} {sm:Int×Int->Int×Int->Bool} {l:List (Int×Int)} (h:JN n word sm l l.length= []): ∀p∈l,mO n p=true:=by
 intro p hp;obtain ⟨i,hi,rfl⟩:=ZD.1 hp;have h2:=(Jq.1 h).2;rw [List.flatMap_eq_nil_iff] at h2;have h3:=h2 i (by grind)
 grind [Tj,Zi]
theorem Ym {x:Inst} (h:InstOk x):IFacts x:=by
 have ho:=h.orders;obtain ⟨h1,h2⟩:=Jq.1 h.rules;have ha:=bS h1;have hb:=bS h2
 have hpl:Plc x:=fun o hm=>by
  obtain ⟨i,hi,rfl⟩:=ZD.1 hm;have:=ho.2 i hi;rw [<- Zi hi];exact ⟨this.pick.1,this.drp.1⟩
 have val: ∀l:List (Int×Int),(∀p∈l,mO x.orders.length p=true)->Val x.orders.length l:=fun l h p hp=>by
  grind [mO]
 refine ⟨ho.1,hpl,fun i hi=> ?_,val _ hb,fun p hp=> ?_,val _ ha⟩
 ·have h3:=ho.2 i hi;have h4:=hpl _ (Zq hi);have h5:=h3.one
  grind [ZT]
 grind [mO]
theorem YC {l:List Vis} {o:Int} :hasO l o=true↔ ∃v∈l,v.order=o:=by simp [hasO]
theorem BB : ∀(l:List Vis) (i:Nat),(XZ l).testBit i=true↔ ∃v∈l,v.order.toNat=i:=by
 have key: ∀(l:List Vis) (s i:Nat),(l.foldl (fun s v=>s|||pw v.order.toNat) s).testBit i=true↔s.testBit i=true\/ ∃v∈l,v.order.toNat=i:=by
  intro l
  induction l with
  | nil=>simp
  | cons v l ih =>
   intro s i;rw [XF,ih,KU,JE,Wd,Zl,or_assoc];simp
 grind [XZ]
def Inr (x:Inst) (l:List Vis):Prop:= ∀v∈l,0<=v.order/\v.order<x.orders.length
theorem VO {x:Inst} {l:List Vis} (hi:Inr x l) (hn:x.orders.length<=60) (o:Int) (h:0<=o/\o<=62):nHas (XZ l) o=hasO l o:=by
 rw [Wu,Ev,BB,YC]
 constructor
 ·rintro ⟨h1,h2,v,hv,h3⟩;have:=hi v hv
  grind
 grind
theorem AR {l:List Vis} (hd:l.Nodup) {k:Nat} (hk:k<l.length):vIx l (nth l k)=(k:Int):=by
 refine Hw hk Zb fun j hj=> ?_
 grind [Zi,Dq]
theorem PS {l:List Vis} {v:Vis} (h:0<=vIx l v):(vIx l v).toNat<l.length/\nth l (vIx l v).toNat=v:=by
 grind [vIx,FZ,VY,Zi]
theorem ZbP {l:List Vis} {k:Nat} (hk:k<l.length):0<=vIx l (nth l k)/\vIx l (nth l k)<=(k:Int):=by
 grind [vIx,nth,Zq,FZ,VY]
theorem QX {l:List Vis} {v:Vis} {i:Nat} (h:v∈l.take i): ∃j,j<i/\j<l.length/\nth l j=v:=by
 obtain ⟨j,hj,rfl⟩:=ZD.1 h;simp at hj;exact ⟨j,Za,Za,by grind [Zi]⟩
theorem Es {l:List Vis} {i j:Nat} (h:j<i) (hl:j<l.length):nth l j∈l.take i:=by
 grind [Zi,ZD]
theorem AQ {l:List Vis} :Kx l=false↔l.Nodup:=by
 rw [Kx,YG]
 constructor
 ·intro h;rw [List.nodup_iff_pairwise_ne,Dq];intro i j hi hj hij e;have:=h j (by grind);simp only [Zl,WH] at this;refine this ?_;rw [Zi hj,<- e,<- Zi hi];exact Es hij hi
 ·intro h j hj;simp only [Zl,WH]
  grind [QX,AR]
theorem S7 {l:List Vis} :((List.range l.length).any fun i=>decide (vIx l (nth l i)≠(i:Int)))=Kx l:=by
 rw [Wu]
 constructor
 ·grind [AR,AQ]
 ·intro h;rw [Kx,UE] at h;obtain ⟨j,hj,h2⟩:=h;simp only [Zl,WH] at h2;obtain ⟨i,h3,h4,h5⟩:=QX h2
  grind
def AG (l:List Vis) (b:Int):Int:=FZ (fun v=>decide (v.order=b)) l
theorem K1 {l:List Vis} {b:Int} :0<=AG l b↔ ∃v∈l,v.order=b:=by
 grind [No,AG]
theorem By {l:List Vis} {b:Int} (h:0<=AG l b):(AG l b).toNat<l.length/\(nth l (AG l b).toNat).order=b/\ ∀j,j<(AG l b).toNat->(nth l j).order≠b:=by
 unfold AG FZ at h ⊢
 grind [VY,Zi]
theorem Zbb {l:List Vis} {b:Int} {k:Nat} (hk:k<l.length) (h:(nth l k).order=b):0<=AG l b/\AG l b<=(k:Int):=by
 have h0:0<=AG l b:=K1.2 ⟨_,Zq hk,h⟩;refine ⟨h0,?_⟩;obtain ⟨h1,h2,h3⟩:=By h0
 grind
theorem UV {l:List Vis} {a b:Int} :beforeB l a b=true↔(0<=AG l b->(∃v∈l,v.order=a)/\ ∀j,j<l.length->(nth l j).order=a->(j:Int)<AG l b):=by
 unfold beforeB;rw [show FZ (fun v=>decide (v.order=b)) l=AG l b from rfl]
 by_cases h:AG l b<0
 ·grind
 ·rw [if_neg h,ZG,YC]
  have h0:0<=AG l b:=Za
  obtain ⟨h1,h2,h3⟩:=By h0
  have hd:(!hasO (l.drop (AG l b).toNat) a)=true↔ ∀j,j<l.length->(nth l j).order=a->(j:Int)<AG l b:=by
   rw [XR,<- V0,YC]
   constructor
   ·intro hno j hj e;rcases Int.lt_or_le (j:Int) (AG l b) with h4 | h4
    ·exact h4
    ·refine absurd ⟨nth l j,?_,e⟩ hno;rw [Zi hj];exact ZD.2 ⟨j-(AG l b).toNat,by simp;omega,by grind⟩
   ·rintro hall ⟨v,hv,e⟩;obtain ⟨j,hj,rfl⟩:=ZD.1 hv
    grind [Zi]
  grind
theorem M5 {x:Inst} {l:List Vis} (hi:Inr x l) (hn:x.orders.length<=60) {p:Int×Int} (h1:0<=p.1/\p.1<x.orders.length) (h2:0<=p.2/\p.2<x.orders.length) (hne:p.1≠p.2):U7 (XZ l) l p=beforeB l p.1 p.2:=by
 rw [Wu,UV,U7,VO hi hn _ Za,VO hi hn _ Za];simp only [Wd,XR,ZG];rw [<- V0,YC,YC,<- K1,<- K1 (b:=p.1)]
 constructor
 ·rintro (h | ⟨h3,h4⟩) h0
  ·omega
  ·refine ⟨h3,fun j hj e=> ?_⟩;rw [ZC] at h4;have h5:=h4 j (by grind);rw [ZC] at h5;obtain ⟨g1,g2,g3⟩:=By h0;rcases Int.lt_or_le (j:Int) (AG l p.2) with h6 | h6
   ·exact h6
   ·have hne2:j≠(AG l p.2).toNat:=fun e2=>hne (by grind);have:=h5 (AG l p.2).toNat (by simp;omega)
    grind [JI]
 ·intro h
  by_cases h0:0<=AG l p.2
  ·obtain ⟨h3,h4⟩:=h h0;refine .inr ⟨h3,?_⟩;rw [ZC];intro j hj;rw [ZC];intro k hk;simp at hj hk
   cases hb:JI l p.1 p.2 j k with
   | false=>rfl
   | true =>
    simp [JI] at hb;have h5:=h4 j hj hb.1;have h6:=(Zbb Za hb.2).2;omega
  omega
theorem nJ {x:Inst} (hf:IFacts x) (l:List Vis):LW x l=Xm x l:=by
 by_cases ho:l.any (VP x)=true
 ·simp_all [LW,Xm]
 ·have ho':l.any (VP x)=false:=by grind
  have hi:Inr x l:=fun v hv=>by
   grind [VP]
  have hn:x.orders.length<=60:=by have:=hf.len;omega
  rw [LW,if_neg ho,Xm]
  by_cases h0:l.length=0
  ·omega
  ·have hc: ¬(l.length=0\/l.any (VP x)=true):=fun h=>h.elim h0 ho;rw [if_neg h0,if_neg hc,S7]
   have e1:apB x (XZ l)=x.apart.any fun p=>hasO l p.1&&hasO l p.2:=by
    rw [apB,Wu,UE,UE]
    have: ∀p∈x.apart,(nHas (XZ l) p.1&&nHas (XZ l) p.2)=(hasO l p.1&&hasO l p.2):=fun p hp=>by
     have:=hf.aval p hp
     grind [VO]
    grind
   have e2:(x.before.all (U7 (XZ l) l)=false)=((x.before.any fun p=> !beforeB l p.1 p.2)=true):=by
    have: ∀p∈x.before,U7 (XZ l) l p=beforeB l p.1 p.2:=fun p hp=>by
     have:=hf.val p hp;exact M5 hi hn Za Za (hf.ne p hp)
    grind
   grind
def YP (p:Pln):AM.Obj:= .cells [.p (.list p.routes_c (p.routes.map YJ)),.p (.list p.unserved_c (p.unserved.map eI))]
def FA (r:Rte):Prop:=r.visits.length<=1048576/\r.rests.length<=1048576
def Y8 (f:Nat->Int) (n:Nat):List Int:=(List.range n).map f
theorem EM {f n} :(Y8 f n).length=n:=by simp [Y8]
theorem EN {f:Nat->Int} {n j:Nat} (h:j<n):nth (Y8 f n) j=f j:=by grind [Zi,Y8]
theorem DC {f g:Nat->Int} {n:Nat} (h: ∀i,i<n->f i=g i):Y8 f n=Y8 g n:=Vt fun i hi=>h i (Xa.1 hi)
theorem LY {f n j v} :(Y8 f n).set j v=Y8 (fun i=>if i=j then v else f i) n:=by
 refine Qp (by simp [Y8]) fun i h1 h2=> ?_
 have hi:i<n:=by grind [Y8]
 rw [List.getElem_set];simp only [Y8,List.getElem_map,List.getElem_range];omega
def Xo (rs:List Rte):Nat->Nat->Int
 | 0,_=> -1
 | k+1,o=>if hasO (nth rs k).visits (o:Int)=true then (k:Int) else Xo rs k o
theorem QI {rs:List Rte} {o:Nat} : ∀k:Nat,-1<=Xo rs k o/\Xo rs k o<(k:Int)
 | 0=>by simp [Xo]
 | k+1=>by
  have:=QI (rs:=rs) (o:=o) k
  grind [Xo]
def Qr (rs:List Rte) (k:Nat) (l:List Vis) (o:Nat):Int:=if hasO l (o:Int)=true then (k:Int) else Xo rs k o
def E5 (n:Nat) (v:Vis):Bool:=decide (v.order<0)||decide ((n:Int)<=v.order)
def QP (x:Inst) (r:Rte):Bool:=(decide (r.typ<0)||decide ((x.types.length:Int)<=r.typ))||r.visits.any (E5 x.orders.length)
def PO (rs:List Rte) (k:Nat) (l:List Vis):Bool:=l.any fun v=>decide (0<=Xo rs k v.order.toNat)
def Mz (rs:List Rte):Nat->Bool
 | 0=>false
 | k+1=>Mz rs k||PO rs k (nth rs k).visits
def Vl (x:Inst) (p:Pln):Int:=if p.routes.any (QP x)=true then 2 else if Mz p.routes p.routes.length=true then 6 else 0
def Jg (rs:List Rte) (i:Int):Int:=if 0<=i then (nth rs i.toNat).typ else-1
def Cl (x:Inst) (p:Pln):List Int:=Y8 (fun o=>Jg p.routes (Xo p.routes p.routes.length o)) x.orders.length
theorem En {x p} :(Cl x p).length=x.orders.length:=EM
theorem RT {l:List Vis} {v:Vis} {o:Int} :hasO (l++ [v]) o=(hasO l o||decide (v.order=o)):=by simp [hasO]
theorem R7 {rs:List Rte} {k:Nat} {l:List Vis} {v:Vis} {n:Nat} (h:0<=v.order/\v.order<(n:Int)):(Y8 (Qr rs k l) n).set v.order.toNat (k:Int)=Y8 (Qr rs k (l++ [v])) n:=by
 rw [LY];refine DC fun i hi=> ?_;rw [Qr,Qr,RT]
 grind
theorem dI {rs:List Rte} {k:Nat} :Qr rs k (nth rs k).visits=Xo rs (k+1):=funext fun o=>rfl
theorem ZhH {rs:List Rte} {k:Nat} :Qr rs k []=Xo rs k:=funext fun o=>by rfl
theorem dJ {rs:List Rte} {k:Nat} {l:List Vis} {o:Nat} : -1<=Qr rs k l o/\Qr rs k l o<=(k:Int):=by
 have:=QI (rs:=rs) (o:=o) k
 grind [Qr]
theorem iB {rs:List Rte} {k:Nat} {l:List Vis} {v:Vis} (h:0<=v.order) {b:Bool} :((b||PO rs k l)||(decide (Qr rs k l v.order.toNat≠ -1)&&decide (Qr rs k l v.order.toNat≠(k:Int))))=(b||PO rs k (l++ [v])):=by
 have hr:=QI (rs:=rs) (o:=v.order.toNat) k
 have e:PO rs k (l++ [v])=(PO rs k l||decide (0<=Xo rs k v.order.toNat)):=by simp [PO]
 rw [e,Qr]
 by_cases c:hasO l (v.order.toNat:Int)=true
 ·rw [if_pos c]
  grind [PO,YC]
 grind
theorem Bh {x:Inst} {p:Pln} {k:Nat} (h:k<p.routes.length) (hb:QP x (nth p.routes k)=true):Vl x p=2:=by
 rw [Vl,if_pos (UE.2 ⟨_,Zq h,hb⟩)]
theorem nI {x:Inst} {p:Pln} (h: ∀j,j<p.routes.length->QP x (nth p.routes j)=false):p.routes.any (QP x)=false:=by
 rw [YG];intro r hr;obtain ⟨j,hj,rfl⟩:=ZD.1 hr
 grind [Zi]
theorem HE {x:Inst} {p:Pln} (h: ∀j,j<p.routes.length->QP x (nth p.routes j)=false):Vl x p=if Mz p.routes p.routes.length=true then 6 else 0:=by
 rw [Vl,nI h];simp
set_option maxRecDepth 60000
def Jf : List Rte->Int->Int
 | [],_=> -1
 | r::t,o=>if hasO r.visits o=true then r.typ else Jf t o
theorem CR {α:Type} [Inhabited α] {l:List α} {k:Nat} (h:k<l.length):l.drop k=nth l k::l.drop (k+1):=by rw [Wc h,Zi h]
theorem RS {v:Vis} {l:List Vis} {o:Int} :hasO (v::l) o=(decide (v.order=o)||hasO l o):=rfl
theorem GA (p:Pln) (o:Int) (hr:p.routes.length<=1048576) (hv: ∀r∈p.routes,r.visits.length<=1048576) :
  PC 133 [.p (W2 p),.p (.int .i64 o)] (.int .i64 (Jf p.routes o)):=by
 refine Zc Tryz.func133 rfl wC ?_;simp (disch:=omega) only [Tryz.f133,go_sem,seval];refine Zj [1,2] (fun k:Nat=> [(5,.p (.int .i64 k))]) (fun _=> [YP p]) (fun k=>k<=p.routes.length/\Jf p.routes o=Jf (p.routes.drop k) o) (fun k=>p.routes.length-k) 0 Zb (Weak.mk ?_) ?_
 ·simp (disch:=omega) only [YP,go_sem,seval]
 ·rintro k ⟨hk,he⟩;simp (disch:=omega) only [YP,go_sem,seval];refine cD ?_ ?_<;>intro h<;>simp (disch:=omega) only [Sh.out h,go_sem,seval,↓reduceIte]
  ·have hk2:k<p.routes.length:=Za
   have hvl:=hv _ (Zq hk2);rw [CR hk2,Jf] at he;refine Zj [1,2,5] (fun q:Nat=> [(6,.p (.int .i64 q))]) (fun _=> [YP p]) (fun q=>q<=(nth p.routes k).visits.length/\hasO (nth p.routes k).visits o=hasO ((nth p.routes k).visits.drop q) o) (fun q=>(nth p.routes k).visits.length-q) 0 Zb (Weak.mk ?_) ?_
   ·simp (disch:=omega) only [YP,go_sem,seval]
   ·rintro q ⟨hq,hh⟩;simp (disch:=omega) only [YP,go_sem,seval];refine ZH ?_ ?_<;>intro h2
    ·have hq2:q<(nth p.routes k).visits.length:=Za
     rw [CR hq2,RS] at hh;refine ZH ?_ ?_<;>intro h3
     ·grind
     ·rw [UG h3,Bool.false_or] at hh;exact ⟨q+1,⟨Za,hh⟩,Za,wk⟩
    ·have hql:q=(nth p.routes k).visits.length:=Za
     rw [hql,V1] at hh;rw [if_neg (by grind [hasO])] at he;exact ⟨k+1,⟨Za,he⟩,Za,wk⟩
  grind [Jf]
def nW (rs:List Rte) (o:Int):Nat->Nat
 | 0=>0
 | k+1=>nW rs o k+if hasO (nth rs k).visits o=true then 1 else 0
theorem rP {rs:List Rte} {o:Int} : ∀k,nW rs o k<=k
 | 0=>by simp [nW]
 | k+1=>by have:=rP (rs:=rs) (o:=o) k;rw [nW];split<;>omega
theorem Qs {rs:List Rte} {o:Int} : ∀ {k:Nat},1<=nW rs o k↔ ∃a,a<k/\hasO (nth rs a).visits o=true
 | 0=>by simp [nW]
 | k+1=>by
  rw [nW]
  constructor
  ·intro h
   by_cases c:hasO (nth rs k).visits o=true
   ·grind
   ·rw [if_neg c] at h;obtain ⟨a,h1,h2⟩:=Qs.1 (show 1<=nW rs o k by omega);exact ⟨a,Za,h2⟩
  ·rintro ⟨a,h1,h2⟩
   by_cases c:a=k
   ·grind
   ·have:=Qs.2 ⟨a,show a<k by omega,h2⟩;omega
theorem dQ {rs:List Rte} {o:Int} : ∀ {k:Nat},2<=nW rs o k↔ ∃a b,a<b/\b<k/\hasO (nth rs a).visits o=true/\hasO (nth rs b).visits o=true
 | 0=>by simp [nW]
 | k+1=>by
  rw [nW]
  constructor
  ·intro h
   by_cases c:hasO (nth rs k).visits o=true
   ·rw [if_pos c] at h
    grind [Qs]
   ·rw [if_neg c] at h;obtain ⟨a,b,h1,h2,h3⟩:=dQ.1 (show 2<=nW rs o k by omega);exact ⟨a,b,h1,Za,h3⟩
  ·rintro ⟨a,b,h1,h2,h3,h4⟩
   by_cases c:b=k
   ·subst c;have:=Qs.2 ⟨a,h1,h3⟩
    grind
   ·have:=dQ.2 ⟨a,b,h1,show b<k by omega,h3,h4⟩;omega
theorem QH {rs:List Rte} {o:Nat} : ∀ {k:Nat},0<=Xo rs k o↔ ∃a,a<k/\hasO (nth rs a).visits (o:Int)=true
 | 0=>by simp [Xo]
 | k+1=>by
  rw [Xo]
  constructor
  ·intro h
   by_cases c:hasO (nth rs k).visits (o:Int)=true
   ·grind
   ·rw [if_neg c] at h;obtain ⟨a,h1,h2⟩:=QH.1 h;exact ⟨a,Za,h2⟩
  ·rintro ⟨a,h1,h2⟩
   by_cases c:hasO (nth rs k).visits (o:Int)=true
   ·grind
   ·rw [if_neg c];refine QH.2 ⟨a,?_,h2⟩
    grind
theorem DF {rs:List Rte} : ∀ {k:Nat},(∀j,j<k-> ∀v∈(nth rs j).visits,0<=v.order)->(Mz rs k=true↔ ∃o:Nat,2<=nW rs (o:Int) k/\ ∃j,j<k/\hasO (nth rs j).visits (o:Int)=true)
 | 0,_=>by simp [Mz,nW]
 | k+1,h=>by
  rw [Mz,Wd,DF fun j hj=>h j Za]
  constructor
  ·rintro (⟨o,h1,j,h2,h3⟩ | h1)
   ·grind [nW]
   ·rw [PO,UE] at h1;obtain ⟨v,hv,h2⟩:=h1;have h3:=QH.1 (KP h2);have h4:=Qs.2 h3;have h5:hasO (nth rs k).visits (v.order.toNat:Int)=true:=YC.2 ⟨v,hv,by grind⟩;exact ⟨v.order.toNat,by simp_all [nW],k,Za,h5⟩
  ·rintro ⟨o,h1,_⟩;rw [nW] at h1
   by_cases c:hasO (nth rs k).visits (o:Int)=true
   ·rw [if_pos c] at h1;refine .inr ?_;obtain ⟨v,hv,e⟩:=YC.1 c;rw [PO,UE];refine ⟨v,hv,Wv ?_⟩
    simp_all [QH,Qs]
   grind
theorem Gb {o:Int} {r:Rte} : ∀ {a:List Rte},Jf (a++ [r]) o=if (a.any fun r=>hasO r.visits o)=true then Jf a o else if hasO r.visits o=true then r.typ else-1
 | []=>by simp [Jf]
 | s::t=>by
  rw [ZP,Jf,Jf,Gb]
  by_cases c:hasO s.visits o=true
  ·simp [c]
  ·simp [c]
theorem Ga {rs:List Rte} {o:Nat} : ∀ {k:Nat},k<=rs.length->nW rs (o:Int) k<=1->Jf (rs.take k) (o:Int)=Jg rs (Xo rs k o)
 | 0,_,_=>by rfl
 | k+1,hk,h=>by
  have hk2:k<rs.length:=Za
  rw [nW] at h;rw [ZE hk2,<- Zi hk2,Gb,Xo]
  have hany:((rs.take k).any fun r=>hasO r.visits (o:Int))=true↔1<=nW rs (o:Int) k:=by
   rw [Qs,UE]
   constructor
   ·rintro ⟨r,hr,h1⟩;obtain ⟨a,ha,rfl⟩:=ZD.1 hr;rw [Zy] at ha;rw [List.getElem_take] at h1;exact ⟨a,Za,by grind [Zi]⟩
   ·rintro ⟨a,ha,h1⟩;refine ⟨nth rs a,?_,h1⟩;rw [Zi Za,List.mem_take_iff_getElem]
    grind
  by_cases c:hasO (nth rs k).visits (o:Int)=true
  ·simp_all [Jg]
  ·rw [if_neg c] at h;have ih:=Ga (rs:=rs) (o:=o) (k:=k) Za Za
   simp_all [Qs,QH,Jg]
theorem F9 {x:Inst} {p:Pln} (h:Vl x p=0):(∀r∈p.routes,QP x r=false)/\Mz p.routes p.routes.length=false:=by
 grind [Vl]
theorem QQ {x:Inst} {r:Rte} (h:QP x r=false):(0<=r.typ/\r.typ<(x.types.length:Int))/\ ∀v∈r.visits,0<=v.order/\v.order<(x.orders.length:Int):=by
 simp_all [QP,E5]
theorem cZ {x:Inst} {p:Pln} (h:Vl x p=0):Y8 (fun i=>Jf p.routes (i:Int)) x.orders.length=Cl x p:=by
 obtain ⟨h1,h2⟩:=F9 h;refine DC fun i _=> ?_
 have h3:nW p.routes (i:Int) p.routes.length<=1:=by
  refine Nat.le_of_not_lt fun h4=> ?_;have h5:=(DF (rs:=p.routes) (k:=p.routes.length) fun j hj v hv=>((QQ (h1 _ (Zq hj))).2 v hv).1).2 ⟨i,h4,by grind [Qs]⟩
  grind
 have:=Ga (rs:=p.routes) (o:=i) (k:=p.routes.length) (ZL _) h3
 grind
def W3 {α:Type} (f:Nat->α) (n:Nat):List α:=(List.range n).map f
section
variable {α : Type} {f g : Nat -> α} {n j : Nat}
theorem YV : (W3 f n).length=n:=by simp [W3]
theorem Kp [Inhabited α] (h:j<n):nth (W3 f n) j=f j:=by grind [Zi,W3]
theorem Jz (h: ∀i,i<n->f i=g i):W3 f n=W3 g n:=Vt fun i hi=>h i (Xa.1 hi)
theorem L3 {v:α} :(W3 f n).set j v=W3 (fun i=>if i=j then v else f i) n:=by
 refine Qp (by simp [W3]) fun i h1 h2=> ?_;rw [List.getElem_set];simp only [W3,List.getElem_map,List.getElem_range]
 grind
theorem GC : W3 f (n+1)=W3 f n++ [f n]:=by simp [W3,Wt]
theorem SM [Inhabited α] {l:List α} :W3 (nth l) l.length=l:=by
 refine Qp YV fun i h1 h2=> ?_;rw [<- Zi h1,Kp h2,Zi h2]
end
def AB (l:List Ord) (s:List UInt8):Int:=match l.findIdx? (fun o=>decide (o.name=s)) with | some i=>(i:Int) | none=> -1
theorem OS {l:List Ord} {s:List UInt8} {k:Nat} (hk:k<l.length) (h:(nth l k).name=s) (hno: ∀j,j<k->(nth l j).name≠s):AB l s=(k:Int):=by
 have:l.findIdx? (fun o=>decide (o.name=s))=some k:=by
  grind [VY,Zi]
 simp [AB,this]
theorem OT {l:List Ord} {s:List UInt8} (hno: ∀j,j<l.length->(nth l j).name≠s):AB l s= -1:=by
 have:l.findIdx? (fun o=>decide (o.name=s))=none:=by
  rw [List.findIdx?_eq_none_iff];intro x hx;obtain ⟨j,hj,rfl⟩:=ZD.1 hx
  grind [Zi]
 simp [AB,this]
theorem Eb {l:List Ord} {s:List UInt8} : -1<=AB l s/\AB l s<(l.length:Int):=by
 grind [AB,VY]
def iQ : Inst:=⟨⟨true,[],true,[]⟩,true,[],true,[],true,[],true,[]⟩
def AC (x:Inst) (j:Nat):Ord:= { nth x.orders j with now:= -1 }
def Qg (x b:Inst) (p:Pln) (j:Nat):Ord :=
 if 0<=AB b.orders (nth x.orders j).name/\0<=nth (Cl b p) (AB b.orders (nth x.orders j).name).toNat then { AC x j with last:=nth (Cl b p) (AB b.orders (nth x.orders j).name).toNat } else AC x j
def RG (x b:Inst) (p:Pln):Inst:= { x with orders_c:=false,orders:=W3 (Qg x b p) x.orders.length }
def I1 (x b:Inst) (p:Pln):Int:=if x.types.length=b.types.length then Vl b p else 2
def Th (x b:Inst) (p:Pln):V:= .tup [.p (Zs (if I1 x b p=0 then RG x b p else iQ)),.p (.int .i64 (I1 x b p))]
theorem dA {x:Inst} {p:Pln} (h:Vl x p=0) {j:Nat} (hj:j<x.orders.length): -1<=nth (Cl x p) j/\nth (Cl x p) j<(x.types.length:Int):=by
 obtain ⟨h1,_⟩:=F9 h;rw [Cl,EN hj,Jg];have hr:=QI (rs:=p.routes) (o:=j) p.routes.length
 split
 ·have:=(QQ (h1 _ (Zq (show (Xo p.routes p.routes.length j).toNat<p.routes.length by omega)))).1;omega
 ·omega
theorem Hp {x b:Inst} {p:Pln} {j:Nat} : ∃v:Int,Qg x b p j= { nth x.orders j with now:= -1,last:=v } /\((v=(nth x.orders j).last)\/(Vl b p=0->0<=v/\v<(b.types.length:Int))):=by
 rw [Qg]
 split
 ·rename_i h;refine ⟨_,rfl,.inr fun h0=> ?_⟩;have:=dA h0 (j:=(AB b.orders (nth x.orders j).name).toNat) (by simp_all [Eb]);omega
 ·exact ⟨_,rfl,.inl rfl⟩
theorem aR {x b:Inst} {p:Pln} (hx:InstOk x) (h:I1 x b p=0):InstOk (RG x b p):=by
 rw [I1] at h
 split at h
 rotate_left
 ·omega
 rename_i ht;have hlen:(RG x b p).orders.length=x.orders.length:=YV;have hn: ∀i,i<x.orders.length->nth (RG x b p).orders i=Qg x b p i:=fun i hi=>Kp hi;refine ⟨hx.net,hx.types,⟨by rw [hlen];exact hx.orders.1,fun i hi=> ?_⟩,by rw [hlen];exact hx.rules⟩;rw [hlen] at hi;have ho:=hx.orders.2 i hi;obtain ⟨v,e,hv⟩:=Hp (x:=x) (b:=b) (p:=p) (j:=i)
 constructor
 ·rw [hn i hi,e];exact ho.name
 ·intro j hj;obtain ⟨v2,e2,_⟩:=Hp (x:=x) (b:=b) (p:=p) (j:=j);rw [hn i hi,hn j Za,e,e2];exact ho.twin j hj
 ·rw [hn i hi,e];exact ho.load
 ·rw [hn i hi,e];exact ho.pick
 ·rw [hn i hi,e];exact ho.drp
 ·rw [hn i hi,e];exact ho.one
 ·rw [hn i hi,e];exact ho.pstp
 ·rw [hn i hi,e];exact ho.dstp
 ·rw [hn i hi,e];exact ho.skills
 ·rw [hn i hi,e];have ha:=ho.arg
  show argOk _ (x.types.length:Int)=true
  simp only [argOk,ZG,Zl] at ha ⊢;obtain ⟨⟨a1,a2⟩,a3,a4,a5,a6,a7⟩:=ha;refine ⟨⟨a1,a2⟩,a3,?_⟩;omega
end Go.Proofs.YtiigdaohjanidaaGreatDoor.K
