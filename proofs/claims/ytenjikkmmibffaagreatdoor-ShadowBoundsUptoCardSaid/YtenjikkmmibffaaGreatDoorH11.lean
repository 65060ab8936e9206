/- Declarations that the closing texts need, part 11: joined by tools/slim.py. -/
import Derived.Test.YtenjikkmmibffaaGreatDoorH10
import Derived.Test.YtenjikkmmibffaaGreatDoorRows
namespace Go.Proofs.YtenjikkmmibffaaGreatDoor.K
open Go Go.AM Go.Proofs
theorem LA : Tryz.prog.cellsOf 3=1:=Zd
theorem ZiL : Tryz.prog.cellsOf 4=1:=Zd
theorem ZiR : Tryz.prog.cellsOf 9=1:=Zd
theorem ZiC : Tryz.prog.cellsOf 22=1:=Zd
theorem ZiD : Tryz.prog.cellsOf 23=1:=Zd
theorem yS : Tryz.prog.cellsOf 25=2:=Zd
theorem ZkO : EB Tryz.prog 25=some [(0,22),(1,23)]:=Zd
theorem ZiE : Tryz.prog.cellsOf 26=1:=Zd
theorem ZiF : Tryz.prog.cellsOf 27=1:=Zd
theorem ZiG : Tryz.prog.cellsOf 28=1:=Zd
theorem ZiH : Tryz.prog.cellsOf 30=6:=Zd
theorem zN : EB Tryz.prog 30=some [(0,25),(2,26),(3,27),(4,28),(5,28)]:=Zd
theorem ZiI : Tryz.prog.cellsOf 32=2:=Zd
theorem zO : EB Tryz.prog 32=some [(0,3),(1,3)]:=Zd
theorem ZiJ : Tryz.prog.cellsOf 33=1:=Zd
theorem iU : Tryz.prog.cellsOf 34=1:=Zd
theorem ZiK : Tryz.prog.cellsOf 36=2:=Zd
theorem zP : EB Tryz.prog 36=some [(0,33),(1,34)]:=Zd
theorem ZiM : Tryz.prog.cellsOf 40=1:=Zd
theorem ZiN : Tryz.prog.cellsOf 41=1:=Zd
theorem ZiO : Tryz.prog.cellsOf 43=4:=Zd
theorem zQ : EB Tryz.prog 43=some [(0,3),(1,3),(2,40),(3,41)]:=Zd
theorem ZiP : Tryz.prog.cellsOf 71=14:=Zd
theorem zR : EB Tryz.prog 71=some [(0,9),(1,3),(2,3),(3,3),(4,34),(5,3),(6,3),(7,3),(8,3),(9,3),(10,3),(11,3),(12,3),(13,3)]:=Zd
theorem yT : Tryz.prog.cellsOf 73=4:=Zd
theorem ZkP : EB Tryz.prog 73=some [(0,3),(1,3),(2,3),(3,3)]:=Zd
theorem ZiQ : Tryz.prog.cellsOf 75=16:=Zd
theorem zS : EB Tryz.prog 75=some [(0,9),(1,34),(2,73),(6,73),(10,3),(11,3),(12,3),(13,3),(14,3),(15,4)]:=Zd
theorem ZaV : Tryz.prog.cellsOf 105=2:=Zd
theorem oB : EB Tryz.prog 105=some [(0,3),(1,3)]:=Zd
theorem ZaW : Tryz.prog.cellsOf 158=2:=Zd
theorem oC : EB Tryz.prog 158=some [(0,3),(1,4)]:=Zd
theorem ZaX : Tryz.prog.cellsOf 182=1:=Zd
theorem ZaY : Tryz.prog.cellsOf 184=6:=Zd
theorem oD : EB Tryz.prog 184=some [(0,3),(1,3),(2,3),(3,3),(4,182),(5,182)]:=Zd
theorem ZaZ : Tryz.prog.cellsOf 187=2:=Zd
theorem oE : EB Tryz.prog 187=some [(0,3),(1,3)]:=Zd
set_option linter.unusedVariables false
set_option linter.unusedSimpArgs false
mutual
theorem PY {H:Type} :(d:DataW H)->Hj d<=Rows.uptoBulk d
 | .lit l=>by cases l<;>simp [Hj,Rows.uptoBulk]
 | .nil=>by simp [Hj,Rows.uptoBulk]
 | .ptr d=>by have:=PY d;simp only [Hj,Rows.uptoBulk];omega
 | .slice es sp=>by have:=Cv es;have:=Cv sp;simp only [Hj,Rows.uptoBulk];omega
 | .agg ps=>by have:=Cv ps;simp only [Hj,Rows.uptoBulk];omega
 | .iface _ d=>by have:=PY d;simp only [Hj,Rows.uptoBulk];omega
 | .map es=>by simp only [Hj,Rows.uptoBulk];omega
 | .held h=>by simp [Hj,Rows.uptoBulk]
theorem Cv {H:Type} :(l:List (DataW H))->KW l<=Rows.uptoBulkAll l
 | []=>by simp [KW,Rows.uptoBulkAll]
 | d::r=>by have:=PY d;have:=Cv r;simp only [KW,Rows.uptoBulkAll];omega
end
theorem RS {H:Type} {l:List (DataW H)} (h:Rows.uptoSmall H l=true):KW l<=1048576:=by
 have h1:=Cv l;have h2:Rows.uptoBulkAll l<=1048576:=AQ h;omega
abbrev UF (n:Int):Prop:= -9223372036854775808<=n/\n<=9223372036854775807
def eI (n:Int):PV:= .int .i64 n
def eB (b:Bool):PV:= .bool b
def eS (s:List UInt8):PV:= .str s
def eP (p:Int×Int):PV:= .agg [.int .i64 p.1,.int .i64 p.2]
@[go_sem] theorem ZqU (n:Int):eI n= .int .i64 n:=Zl rfl rfl
@[go_sem] theorem ZqS (b:Bool):eB b= .bool b:=Zl rfl rfl
@[go_sem] theorem ZqY (s:List UInt8):eS s= .str s:=Zl rfl rfl
@[go_sem] theorem ZqW (p:Int×Int):eP p= .agg [.int .i64 p.1,.int .i64 p.2]:=Zl rfl rfl
@[go_sem] theorem Zo8 (l:List Int):A3 1 (l.map eI)=true:=Kq fun _=>rfl
@[go_sem] theorem Zmo (l:List Bool):Ci 1 (l.map eB)=true:=Cj (f:=eB) (S:=1) (fun _=>rfl) l
@[go_sem] theorem Zo6 (l:List Bool):A3 1 (l.map eB)=true:=Kq fun _=>rfl
theorem Gb {B xs} (h: ∀y∈xs,FitV Tryz.prog B 3 y): ∃l:List Int,xs=l.map eI/\ ∀n∈l,UF n :=
 W0 (f:=eI) fun y hy=>by
  obtain ⟨n,rfl,w⟩:=tY Tryz.underlying3 (h y hy);exact ⟨n,rfl,Xr w⟩
theorem bM {B xs} (h: ∀y∈xs,FitV Tryz.prog B 4 y): ∃l:List Bool,xs=l.map eB/\ ∀b∈l,True :=
 W0 (f:=eB) fun y hy=>by
  obtain ⟨b,rfl⟩:=kJ Tryz.underlying4 (h y hy);exact ⟨b,rfl,trivial⟩
theorem kK {B xs} (h: ∀y∈xs,FitV Tryz.prog B 9 y): ∃l:List (List UInt8),xs=l.map eS/\ ∀s∈l,s.length<=B :=
 W0 (f:=eS) fun y hy=>by
  obtain ⟨s,rfl,w,_⟩:=tZ Tryz.underlying9 (h y hy);exact ⟨s,rfl,w⟩
theorem cH {α:Type} {l:List α} (h:l.length=2): ∃a0 a1,l= [a0,a1]:=by
 match l,h with | [a0,a1],_=>simp
theorem Zkt {α:Type} {l:List α} (h:l.length=6): ∃a0 a1 a2 a3 a4 a5,l= [a0,a1,a2,a3,a4,a5]:=by
 match l,h with | [a0,a1,a2,a3,a4,a5],_=>simp
theorem Zkq {α:Type} {l:List α} (h:l.length=14): ∃a0 a1 a2 a3 a4 a5 a6 a7 a8 a9 a10 a11 a12 a13,l= [a0,a1,a2,a3,a4,a5,a6,a7,a8,a9,a10,a11,a12,a13]:=by
 match l,h with | [a0,a1,a2,a3,a4,a5,a6,a7,a8,a9,a10,a11,a12,a13],_=>simp
theorem Zks {α:Type} {l:List α} (h:l.length=4): ∃a0 a1 a2 a3,l= [a0,a1,a2,a3]:=by
 match l,h with | [a0,a1,a2,a3],_=>simp
theorem Zkr {α:Type} {l:List α} (h:l.length=16): ∃a0 a1 a2 a3 a4 a5 a6 a7 a8 a9 a10 a11 a12 a13 a14 a15,l= [a0,a1,a2,a3,a4,a5,a6,a7,a8,a9,a10,a11,a12,a13,a14,a15]:=by
 match l,h with | [a0,a1,a2,a3,a4,a5,a6,a7,a8,a9,a10,a11,a12,a13,a14,a15],_=>grind
structure Pt where
 t:Int
 a:Int
 deriving Inhabited
def cPt (x:Pt):List PV:= [.int .i64 x.t,.int .i64 x.a]
def H4 (x:Pt):PV:= .agg [.int .i64 x.t,.int .i64 x.a]
@[go_sem] theorem Zor (x:Pt):H4 x= .agg [.int .i64 x.t,.int .i64 x.a]:=Zl rfl rfl
def Pt.wf (B:Nat) (x:Pt):Prop:=UF x.t/\UF x.a
theorem uB {B m cs} (h:Y6 Tryz.prog B m 187 cs): ∃x:Pt,cs=cPt x/\x.wf B:=by
 obtain ⟨h1,m',h2⟩:=Wo oE ZaZ h;obtain ⟨a0,a1,rfl⟩:=cH h1;obtain ⟨n0,e0,w0⟩:=ZR Tryz.underlying3 (h2 (0,3) Zb);obtain ⟨n1,e1,w1⟩:=ZR Tryz.underlying3 (h2 (1,3) Zb);simp [LA] at e0 e1;subst e0;subst e1;exact ⟨⟨n0,n1⟩,rfl,Xr w0,Xr w1⟩
theorem kI {B v} (h:FitV Tryz.prog B 187 v): ∃x:Pt,v=H4 x/\x.wf B:=by
 obtain ⟨k,cs,h,e⟩:=h.out;obtain ⟨x,rfl,hw⟩:=uB h;exact ⟨x,e.trans (by rw [Qw,if_pos (Wr oE)];rfl),hw⟩
structure Arc where
 src:Int
 dst:Int
 prof:Int
 miles:Int
 travel_c:Bool
 travel:List (Pt)
 slow_c:Bool
 slow:List (Pt)
 deriving Inhabited
def Zol (x:Arc):List PV:= [.int .i64 x.src,.int .i64 x.dst,.int .i64 x.prof,.int .i64 x.miles,.list x.travel_c (x.travel.map H4),.list x.slow_c (x.slow.map H4)]
def V2 (x:Arc):PV:= .agg [.int .i64 x.src,.int .i64 x.dst,.int .i64 x.prof,.int .i64 x.miles,.list x.travel_c (x.travel.map H4),.list x.slow_c (x.slow.map H4)]
@[go_sem] theorem Zmx (x:Arc):V2 x= .agg [.int .i64 x.src,.int .i64 x.dst,.int .i64 x.prof,.int .i64 x.miles,.list x.travel_c (x.travel.map H4),.list x.slow_c (x.slow.map H4)]:=Zl rfl rfl
def Arc.wf (B:Nat) (x:Arc):Prop:=UF x.src/\UF x.dst/\UF x.prof/\UF x.miles/\x.travel.length<=B/\(∀y∈x.travel,Pt.wf B y)/\x.slow.length<=B/\(∀y∈x.slow,Pt.wf B y)
theorem kN {B m cs} (h:Y6 Tryz.prog B m 184 cs): ∃x:Arc,cs=Zol x/\x.wf B:=by
 obtain ⟨h1,m',h2⟩:=Wo oD ZaY h;obtain ⟨a0,a1,a2,a3,a4,a5,rfl⟩:=Zkt h1;obtain ⟨n0,e0,w0⟩:=ZR Tryz.underlying3 (h2 (0,3) Zb);obtain ⟨n1,e1,w1⟩:=ZR Tryz.underlying3 (h2 (1,3) Zb);obtain ⟨n2,e2,w2⟩:=ZR Tryz.underlying3 (h2 (2,3) Zb);obtain ⟨n3,e3,w3⟩:=ZR Tryz.underlying3 (h2 (3,3) Zb);obtain ⟨y4,e4,w4,_,z4⟩:=XW Tryz.underlying182 (h2 (4,182) Zb);obtain ⟨n4,rfl,u4⟩:=W0 (f:=H4) fun y hy=>kI (z4 y hy);obtain ⟨y5,e5,w5,_,z5⟩:=XW Tryz.underlying182 (h2 (5,182) Zb)
 obtain ⟨n5,rfl,u5⟩:=W0 (f:=H4) fun y hy=>kI (z5 y hy);simp [ZaX,LA] at e0 e1 e2 e3 e4 e5;subst e0;subst e1;subst e2;subst e3;subst e4;subst e5;exact ⟨⟨n0,n1,n2,n3,false,n4,false,n5⟩,rfl,Xr w0,Xr w1,Xr w2,Xr w3,by grind,u4,by grind,u5⟩
theorem tR {B v} (h:FitV Tryz.prog B 184 v): ∃x:Arc,v=V2 x/\x.wf B:=by
 obtain ⟨k,cs,h,e⟩:=h.out;obtain ⟨x,rfl,hw⟩:=kN h;exact ⟨x,e.trans (by rw [Qw,if_pos (Wr oD)];rfl),hw⟩
structure Net where
 places_c:Bool
 places:List (List UInt8)
 arcs_c:Bool
 arcs:List (Arc)
 deriving Inhabited
def ZiB (x:Net):List PV:= [.list x.places_c (x.places.map eS),.list x.arcs_c (x.arcs.map V2)]
def Cw (x:Net):PV:= .agg [.list x.places_c (x.places.map eS),.list x.arcs_c (x.arcs.map V2)]
@[go_sem] theorem ZmC (x:Net):Cw x= .agg [.list x.places_c (x.places.map eS),.list x.arcs_c (x.arcs.map V2)]:=Zl rfl rfl
def Net.wf (B:Nat) (x:Net):Prop:=x.places.length<=B/\(∀s∈x.places,s.length<=B)/\x.arcs.length<=B/\(∀y∈x.arcs,Arc.wf B y)
theorem kP {B m cs} (h:Y6 Tryz.prog B m 25 cs): ∃x:Net,cs=ZiB x/\x.wf B:=by
 obtain ⟨h1,m',h2⟩:=Wo ZkO yS h;obtain ⟨a0,a1,rfl⟩:=cH h1;obtain ⟨y0,e0,w0,_,z0⟩:=XW Tryz.underlying22 (h2 (0,22) Zb);obtain ⟨n0,rfl,u0⟩:=kK z0;obtain ⟨y1,e1,w1,_,z1⟩:=XW Tryz.underlying23 (h2 (1,23) Zb);obtain ⟨n1,rfl,u1⟩:=W0 (f:=V2) fun y hy=>tR (z1 y hy);simp [ZiD,ZiC] at e0 e1;subst e0;subst e1;exact ⟨⟨false,n0,false,n1⟩,rfl,by grind,u0,by grind,u1⟩
structure Typ where
 name:List UInt8
 count:Int
 src:Int
 dst:Int
 cap_c:Bool
 cap:List (Int)
 skills:Int
 prof:Int
 opn:Int
 cls:Int
 drive:Int
 rest:Int
 fixed:Int
 perMile:Int
 perTick:Int
 deriving Inhabited
def KS (x:Typ):List PV:= [.str x.name,.int .i64 x.count,.int .i64 x.src,.int .i64 x.dst,.list x.cap_c (x.cap.map eI),.int .i64 x.skills,.int .i64 x.prof,.int .i64 x.opn,.int .i64 x.cls,.int .i64 x.drive,.int .i64 x.rest,.int .i64 x.fixed,.int .i64 x.perMile,.int .i64 x.perTick]
def X8 (x:Typ):PV:= .agg [.str x.name,.int .i64 x.count,.int .i64 x.src,.int .i64 x.dst,.list x.cap_c (x.cap.map eI),.int .i64 x.skills,.int .i64 x.prof,.int .i64 x.opn,.int .i64 x.cls,.int .i64 x.drive,.int .i64 x.rest,.int .i64 x.fixed,.int .i64 x.perMile,.int .i64 x.perTick]
@[go_sem] theorem ZmM (x:Typ):X8 x= .agg [.str x.name,.int .i64 x.count,.int .i64 x.src,.int .i64 x.dst,.list x.cap_c (x.cap.map eI),.int .i64 x.skills,.int .i64 x.prof,.int .i64 x.opn,.int .i64 x.cls,.int .i64 x.drive,.int .i64 x.rest,.int .i64 x.fixed,.int .i64 x.perMile,.int .i64 x.perTick]:=Zl rfl rfl
@[go_sem] theorem ZkI (l:List Typ):A3 14 (l.map X8)=true:=Kq fun _=>rfl
def Typ.wf (B:Nat) (x:Typ):Prop:=x.name.length<=B/\UF x.count/\UF x.src/\UF x.dst/\x.cap.length<=B/\(∀n∈x.cap,UF n)/\UF x.skills/\UF x.prof/\UF x.opn/\UF x.cls/\UF x.drive/\UF x.rest/\UF x.fixed/\UF x.perMile/\UF x.perTick
theorem kT {B m cs} (h:Y6 Tryz.prog B m 71 cs): ∃x:Typ,cs=KS x/\x.wf B:=by
 obtain ⟨h1,m',h2⟩:=Wo zR ZiP h;obtain ⟨a0,a1,a2,a3,a4,a5,a6,a7,a8,a9,a10,a11,a12,a13,rfl⟩:=Zkq h1;obtain ⟨n0,e0,w0,_⟩:=Gc Tryz.underlying9 (h2 (0,9) Zb);obtain ⟨n1,e1,w1⟩:=ZR Tryz.underlying3 (h2 (1,3) Zb);obtain ⟨n2,e2,w2⟩:=ZR Tryz.underlying3 (h2 (2,3) Zb);obtain ⟨n3,e3,w3⟩:=ZR Tryz.underlying3 (h2 (3,3) Zb);obtain ⟨y4,e4,w4,_,z4⟩:=XW Tryz.underlying34 (h2 (4,34) Zb);obtain ⟨n4,rfl,u4⟩:=Gb z4;obtain ⟨n5,e5,w5⟩:=ZR Tryz.underlying3 (h2 (5,3) Zb)
 obtain ⟨n6,e6,w6⟩:=ZR Tryz.underlying3 (h2 (6,3) Zb);obtain ⟨n7,e7,w7⟩:=ZR Tryz.underlying3 (h2 (7,3) Zb);obtain ⟨n8,e8,w8⟩:=ZR Tryz.underlying3 (h2 (8,3) Zb);obtain ⟨n9,e9,w9⟩:=ZR Tryz.underlying3 (h2 (9,3) Zb);obtain ⟨n10,e10,w10⟩:=ZR Tryz.underlying3 (h2 (10,3) Zb);obtain ⟨n11,e11,w11⟩:=ZR Tryz.underlying3 (h2 (11,3) Zb);obtain ⟨n12,e12,w12⟩:=ZR Tryz.underlying3 (h2 (12,3) Zb);obtain ⟨n13,e13,w13⟩:=ZR Tryz.underlying3 (h2 (13,3) Zb);simp [iU,LA,ZiR] at e0 e1 e2 e3 e4 e5 e6 e7 e8 e9 e10 e11 e12 e13
 subst e0;subst e1;subst e2;subst e3;subst e4;subst e5;subst e6;subst e7;subst e8;subst e9;subst e10;subst e11;subst e12;subst e13;exact ⟨⟨n0,n1,n2,n3,false,n4,n5,n6,n7,n8,n9,n10,n11,n12,n13⟩,rfl,w0,Xr w1,Xr w2,Xr w3,by grind,u4,Xr w5,Xr w6,Xr w7,Xr w8,Xr w9,Xr w10,Xr w11,Xr w12,Xr w13⟩
theorem tW {B v} (h:FitV Tryz.prog B 71 v): ∃x:Typ,v=X8 x/\x.wf B:=by
 obtain ⟨k,cs,h,e⟩:=h.out;obtain ⟨x,rfl,hw⟩:=kT h;exact ⟨x,e.trans (by rw [Qw,if_pos (Wr zR)];rfl),hw⟩
structure Stp where
 place:Int
 opn:Int
 cls:Int
 serv:Int
 deriving Inhabited
def Bj (x:Stp):List PV:= [.int .i64 x.place,.int .i64 x.opn,.int .i64 x.cls,.int .i64 x.serv]
def F4 (x:Stp):PV:= .agg [.int .i64 x.place,.int .i64 x.opn,.int .i64 x.cls,.int .i64 x.serv]
@[go_sem] theorem ZmJ (x:Stp):F4 x= .agg [.int .i64 x.place,.int .i64 x.opn,.int .i64 x.cls,.int .i64 x.serv]:=Zl rfl rfl
def Stp.wf (B:Nat) (x:Stp):Prop:=UF x.place/\UF x.opn/\UF x.cls/\UF x.serv
theorem NG {B m cs} (h:Y6 Tryz.prog B m 73 cs): ∃x:Stp,cs=Bj x/\x.wf B:=by
 obtain ⟨h1,m',h2⟩:=Wo ZkP yT h;obtain ⟨a0,a1,a2,a3,rfl⟩:=Zks h1;obtain ⟨n0,e0,w0⟩:=ZR Tryz.underlying3 (h2 (0,3) Zb);obtain ⟨n1,e1,w1⟩:=ZR Tryz.underlying3 (h2 (1,3) Zb);obtain ⟨n2,e2,w2⟩:=ZR Tryz.underlying3 (h2 (2,3) Zb);obtain ⟨n3,e3,w3⟩:=ZR Tryz.underlying3 (h2 (3,3) Zb);simp [LA] at e0 e1 e2 e3;subst e0;subst e1;subst e2;subst e3;exact ⟨⟨n0,n1,n2,n3⟩,rfl,Xr w0,Xr w1,Xr w2,Xr w3⟩
theorem yU {B v} (h:FitV Tryz.prog B 105 v): ∃x:Int×Int,v=eP x/\UF x.1/\UF x.2:=by
 obtain ⟨k,cs,h,e⟩:=h.out;obtain ⟨h1,m',h2⟩:=Wo oB ZaV h;obtain ⟨a,b,rfl⟩:=cH h1;obtain ⟨n0,e0,w0⟩:=ZR Tryz.underlying3 (h2 (0,3) Zb);obtain ⟨n1,e1,w1⟩:=ZR Tryz.underlying3 (h2 (1,3) Zb);simp [LA] at e0 e1;subst e0;subst e1;exact ⟨(n0,n1),e.trans (by rw [Qw,if_pos (Wr oB)];rfl),Xr w0,Xr w1⟩
structure Ord where
 name:List UInt8
 load_c:Bool
 load:List (Int)
 pick:Stp
 drp:Stp
 skills:Int
 penalty:Int
 split:Int
 last:Int
 now:Int
 off:Bool
 deriving Inhabited
def Zon (x:Ord):List PV:= [.str x.name,.list x.load_c (x.load.map eI),.int .i64 x.pick.place,.int .i64 x.pick.opn,.int .i64 x.pick.cls,.int .i64 x.pick.serv,.int .i64 x.drp.place,.int .i64 x.drp.opn,.int .i64 x.drp.cls,.int .i64 x.drp.serv,.int .i64 x.skills,.int .i64 x.penalty,.int .i64 x.split,.int .i64 x.last,.int .i64 x.now,.bool x.off]
def Yo (x:Ord):PV:= .agg [.str x.name,.list x.load_c (x.load.map eI),.int .i64 x.pick.place,.int .i64 x.pick.opn,.int .i64 x.pick.cls,.int .i64 x.pick.serv,.int .i64 x.drp.place,.int .i64 x.drp.opn,.int .i64 x.drp.cls,.int .i64 x.drp.serv,.int .i64 x.skills,.int .i64 x.penalty,.int .i64 x.split,.int .i64 x.last,.int .i64 x.now,.bool x.off]
@[go_sem] theorem ZmD (x:Ord):Yo x= .agg [.str x.name,.list x.load_c (x.load.map eI),.int .i64 x.pick.place,.int .i64 x.pick.opn,.int .i64 x.pick.cls,.int .i64 x.pick.serv,.int .i64 x.drp.place,.int .i64 x.drp.opn,.int .i64 x.drp.cls,.int .i64 x.drp.serv,.int .i64 x.skills,.int .i64 x.penalty,.int .i64 x.split,.int .i64 x.last,.int .i64 x.now,.bool x.off]:=Zl rfl rfl
@[go_sem] theorem ZkG (l:List Ord):A3 16 (l.map Yo)=true:=Kq fun _=>rfl
def Ord.wf (B:Nat) (x:Ord):Prop:=x.name.length<=B/\x.load.length<=B/\(∀n∈x.load,UF n)/\Stp.wf B x.pick/\Stp.wf B x.drp/\UF x.skills/\UF x.penalty/\UF x.split/\UF x.last/\UF x.now
theorem kQ {B m cs} (h:Y6 Tryz.prog B m 75 cs): ∃x:Ord,cs=Zon x/\x.wf B:=by
 obtain ⟨h1,m',h2⟩:=Wo zS ZiQ h;obtain ⟨a0,a1,a2,a3,a4,a5,a6,a7,a8,a9,a10,a11,a12,a13,a14,a15,rfl⟩:=Zkr h1;obtain ⟨n0,e0,w0,_⟩:=Gc Tryz.underlying9 (h2 (0,9) Zb);obtain ⟨y1,e1,w1,_,z1⟩:=XW Tryz.underlying34 (h2 (1,34) Zb);obtain ⟨n1,rfl,u1⟩:=Gb z1;obtain ⟨n2,e2,w2⟩:=NG (h2 (2,73) Zb);obtain ⟨n3,e3,w3⟩:=NG (h2 (6,73) Zb);obtain ⟨n4,e4,w4⟩:=ZR Tryz.underlying3 (h2 (10,3) Zb);obtain ⟨n5,e5,w5⟩:=ZR Tryz.underlying3 (h2 (11,3) Zb);obtain ⟨n6,e6,w6⟩:=ZR Tryz.underlying3 (h2 (12,3) Zb)
 obtain ⟨n7,e7,w7⟩:=ZR Tryz.underlying3 (h2 (13,3) Zb);obtain ⟨n8,e8,w8⟩:=ZR Tryz.underlying3 (h2 (14,3) Zb);obtain ⟨n9,e9⟩:=DK Tryz.underlying4 (h2 (15,4) Zb);simp [iU,yT,ZiL,LA,ZiR,Bj,Bj] at e0 e1 e2 e3 e4 e5 e6 e7 e8 e9;subst e0;subst e1;obtain ⟨rfl,rfl,rfl,rfl⟩:=e2;obtain ⟨rfl,rfl,rfl,rfl⟩:=e3;subst e4;subst e5;subst e6;subst e7;subst e8;subst e9;exact ⟨⟨n0,false,n1,n2,n3,n4,n5,n6,n7,n8,n9⟩,rfl,w0,by grind,u1,w2,w3,Xr w4,Xr w5,Xr w6,Xr w7,Xr w8⟩
theorem tT {B v} (h:FitV Tryz.prog B 75 v): ∃x:Ord,v=Yo x/\x.wf B:=by
 obtain ⟨k,cs,h,e⟩:=h.out;obtain ⟨x,rfl,hw⟩:=kQ h;exact ⟨x,e.trans (by rw [Qw,if_pos (Wr zS)];rfl),hw⟩
structure Inst where
 net:Net
 types_c:Bool
 types:List (Typ)
 orders_c:Bool
 orders:List (Ord)
 apart_c:Bool
 apart:List (Int×Int)
 before_c:Bool
 before:List (Int×Int)
 deriving Inhabited
def ZiA (x:Inst):List PV:= [.list x.net.places_c (x.net.places.map eS),.list x.net.arcs_c (x.net.arcs.map V2),.list x.types_c (x.types.map X8),.list x.orders_c (x.orders.map Yo),.list x.apart_c (x.apart.map eP),.list x.before_c (x.before.map eP)]
def Zv (x:Inst):PV:= .agg [.list x.net.places_c (x.net.places.map eS),.list x.net.arcs_c (x.net.arcs.map V2),.list x.types_c (x.types.map X8),.list x.orders_c (x.orders.map Yo),.list x.apart_c (x.apart.map eP),.list x.before_c (x.before.map eP)]
@[go_sem] theorem ZiT (x:Inst):Zv x= .agg [.list x.net.places_c (x.net.places.map eS),.list x.net.arcs_c (x.net.arcs.map V2),.list x.types_c (x.types.map X8),.list x.orders_c (x.orders.map Yo),.list x.apart_c (x.apart.map eP),.list x.before_c (x.before.map eP)]:=Zl rfl rfl
def Inst.wf (B:Nat) (x:Inst):Prop:=Net.wf B x.net/\x.types.length<=B/\(∀y∈x.types,Typ.wf B y)/\x.orders.length<=B/\(∀y∈x.orders,Ord.wf B y)/\x.apart.length<=B/\(∀p∈x.apart,UF p.1/\UF p.2)/\x.before.length<=B/\(∀p∈x.before,UF p.1/\UF p.2)
theorem bO {B m cs} (h:Y6 Tryz.prog B m 30 cs): ∃x:Inst,cs=ZiA x/\x.wf B:=by
 obtain ⟨h1,m',h2⟩:=Wo zN ZiH h;obtain ⟨a0,a1,a2,a3,a4,a5,rfl⟩:=Zkt h1;obtain ⟨n0,e0,w0⟩:=kP (h2 (0,25) Zb);obtain ⟨y1,e1,w1,_,z1⟩:=XW Tryz.underlying26 (h2 (2,26) Zb);obtain ⟨n1,rfl,u1⟩:=W0 (f:=X8) fun y hy=>tW (z1 y hy);obtain ⟨y2,e2,w2,_,z2⟩:=XW Tryz.underlying27 (h2 (3,27) Zb);obtain ⟨n2,rfl,u2⟩:=W0 (f:=Yo) fun y hy=>tT (z2 y hy);obtain ⟨y3,e3,w3,_,z3⟩:=XW Tryz.underlying28 (h2 (4,28) Zb);obtain ⟨n3,rfl,u3⟩:=W0 (f:=eP) fun y hy=>yU (z3 y hy)
 obtain ⟨y4,e4,w4,_,z4⟩:=XW Tryz.underlying28 (h2 (5,28) Zb);obtain ⟨n4,rfl,u4⟩:=W0 (f:=eP) fun y hy=>yU (z4 y hy);simp [ZiG,ZiF,ZiE,yS,ZiB] at e0 e1 e2 e3 e4;obtain ⟨rfl,rfl⟩:=e0;subst e1;subst e2;subst e3;subst e4;exact ⟨⟨n0,false,n1,false,n2,false,n3,false,n4⟩,rfl,w0,by grind,u1,by grind,u2,by grind,u3,by grind,u4⟩
theorem kH {B v} (h:FitV Tryz.prog B 30 v): ∃x:Inst,v=Zv x/\x.wf B:=by
 obtain ⟨k,cs,h,e⟩:=h.out;obtain ⟨x,rfl,hw⟩:=bO h;exact ⟨x,e.trans (by rw [Qw,if_pos (Wr zN)];rfl),hw⟩
structure Vis where
 order:Int
 drp:Bool
 deriving Inhabited
def Zoq (x:Vis):List PV:= [.int .i64 x.order,.bool x.drp]
def Z7 (x:Vis):PV:= .agg [.int .i64 x.order,.bool x.drp]
@[go_sem] theorem SD (x:Vis):Z7 x= .agg [.int .i64 x.order,.bool x.drp]:=Zl rfl rfl
@[go_sem] theorem Zfh (l:List Vis):Ci 2 (l.map Z7)=true:=Cj (f:=Z7) (S:=2) (fun _=>rfl) l
@[go_sem] theorem ZkJ (l:List Vis):A3 2 (l.map Z7)=true:=Kq fun _=>rfl
def Vis.wf (B:Nat) (x:Vis):Prop:=UF x.order
theorem kU {B m cs} (h:Y6 Tryz.prog B m 158 cs): ∃x:Vis,cs=Zoq x/\x.wf B:=by
 obtain ⟨h1,m',h2⟩:=Wo oC ZaW h;obtain ⟨a0,a1,rfl⟩:=cH h1;obtain ⟨n0,e0,w0⟩:=ZR Tryz.underlying3 (h2 (0,3) Zb);obtain ⟨n1,e1⟩:=DK Tryz.underlying4 (h2 (1,4) Zb);simp [ZiL,LA] at e0 e1;subst e0;subst e1;exact ⟨⟨n0,n1⟩,rfl,Xr w0⟩
theorem tX {B v} (h:FitV Tryz.prog B 158 v): ∃x:Vis,v=Z7 x/\x.wf B:=by
 obtain ⟨k,cs,h,e⟩:=h.out;obtain ⟨x,rfl,hw⟩:=kU h;exact ⟨x,e.trans (by rw [Qw,if_pos (Wr oC)];rfl),hw⟩
structure Rte where
 typ:Int
 start:Int
 rests_c:Bool
 rests:List (Bool)
 visits_c:Bool
 visits:List (Vis)
 deriving Inhabited
def Zop (x:Rte):List PV:= [.int .i64 x.typ,.int .i64 x.start,.list x.rests_c (x.rests.map eB),.list x.visits_c (x.visits.map Z7)]
def Wd (x:Rte):PV:= .agg [.int .i64 x.typ,.int .i64 x.start,.list x.rests_c (x.rests.map eB),.list x.visits_c (x.visits.map Z7)]
@[go_sem] theorem ZmF (x:Rte):Wd x= .agg [.int .i64 x.typ,.int .i64 x.start,.list x.rests_c (x.rests.map eB),.list x.visits_c (x.visits.map Z7)]:=Zl rfl rfl
def Rte.wf (B:Nat) (x:Rte):Prop:=UF x.typ/\UF x.start/\x.rests.length<=B/\(∀b∈x.rests,True)/\x.visits.length<=B/\(∀y∈x.visits,Vis.wf B y)
theorem kS {B m cs} (h:Y6 Tryz.prog B m 43 cs): ∃x:Rte,cs=Zop x/\x.wf B:=by
 obtain ⟨h1,m',h2⟩:=Wo zQ ZiO h;obtain ⟨a0,a1,a2,a3,rfl⟩:=Zks h1;obtain ⟨n0,e0,w0⟩:=ZR Tryz.underlying3 (h2 (0,3) Zb);obtain ⟨n1,e1,w1⟩:=ZR Tryz.underlying3 (h2 (1,3) Zb);obtain ⟨y2,e2,w2,_,z2⟩:=XW Tryz.underlying40 (h2 (2,40) Zb);obtain ⟨n2,rfl,u2⟩:=bM z2;obtain ⟨y3,e3,w3,_,z3⟩:=XW Tryz.underlying41 (h2 (3,41) Zb);obtain ⟨n3,rfl,u3⟩:=W0 (f:=Z7) fun y hy=>tX (z3 y hy);simp [ZiN,ZiM,LA] at e0 e1 e2 e3;subst e0;subst e1;subst e2;subst e3;exact ⟨⟨n0,n1,false,n2,false,n3⟩,rfl,Xr w0,Xr w1,by grind,u2,by grind,u3⟩
theorem tV {B v} (h:FitV Tryz.prog B 43 v): ∃x:Rte,v=Wd x/\x.wf B:=by
 obtain ⟨k,cs,h,e⟩:=h.out;obtain ⟨x,rfl,hw⟩:=kS h;exact ⟨x,e.trans (by rw [Qw,if_pos (Wr zQ)];rfl),hw⟩
structure Tim where
 arr:Int
 beg:Int
 dep:Int
 rest:Bool
 deriving Inhabited
def eTim (x:Tim):PV:= .agg [.int .i64 x.arr,.int .i64 x.beg,.int .i64 x.dep,.bool x.rest]
@[go_sem] theorem ZmK (x:Tim):eTim x= .agg [.int .i64 x.arr,.int .i64 x.beg,.int .i64 x.dep,.bool x.rest]:=Zl rfl rfl
@[go_sem] theorem ZkH (l:List Tim):A3 4 (l.map eTim)=true:=Kq fun _=>rfl
structure She where
 rest:Bool
 dep:Int
 times_c:Bool
 times:List (Tim)
 fin:Int
 miles:Int
 deriving Inhabited
def F2 (x:She):PV:= .agg [.bool x.rest,.int .i64 x.dep,.list x.times_c (x.times.map eTim),.int .i64 x.fin,.int .i64 x.miles]
@[go_sem] theorem ZmH (x:She):F2 x= .agg [.bool x.rest,.int .i64 x.dep,.list x.times_c (x.times.map eTim),.int .i64 x.fin,.int .i64 x.miles]:=Zl rfl rfl
structure Sco where
 cost:Int
 moved:Int
 other:Int
 work:Int
 deriving Inhabited
def Bl (x:Sco):PV:= .agg [.int .i64 x.cost,.int .i64 x.moved,.int .i64 x.other,.int .i64 x.work]
@[go_sem] theorem ZmG (x:Sco):Bl x= .agg [.int .i64 x.cost,.int .i64 x.moved,.int .i64 x.other,.int .i64 x.work]:=Zl rfl rfl
structure Pln where
 routes_c:Bool
 routes:List (Rte)
 unserved_c:Bool
 unserved:List (Int)
 deriving Inhabited
def Zoo (x:Pln):List PV:= [.list x.routes_c (x.routes.map Wd),.list x.unserved_c (x.unserved.map eI)]
def Ut (x:Pln):PV:= .agg [.list x.routes_c (x.routes.map Wd),.list x.unserved_c (x.unserved.map eI)]
@[go_sem] theorem ZmE (x:Pln):Ut x= .agg [.list x.routes_c (x.routes.map Wd),.list x.unserved_c (x.unserved.map eI)]:=Zl rfl rfl
def Pln.wf (B:Nat) (x:Pln):Prop:=x.routes.length<=B/\(∀y∈x.routes,Rte.wf B y)/\x.unserved.length<=B/\(∀n∈x.unserved,UF n)
theorem kR {B m cs} (h:Y6 Tryz.prog B m 36 cs): ∃x:Pln,cs=Zoo x/\x.wf B:=by
 obtain ⟨h1,m',h2⟩:=Wo zP ZiK h;obtain ⟨a0,a1,rfl⟩:=cH h1;obtain ⟨y0,e0,w0,_,z0⟩:=XW Tryz.underlying33 (h2 (0,33) Zb);obtain ⟨n0,rfl,u0⟩:=W0 (f:=Wd) fun y hy=>tV (z0 y hy);obtain ⟨y1,e1,w1,_,z1⟩:=XW Tryz.underlying34 (h2 (1,34) Zb);obtain ⟨n1,rfl,u1⟩:=Gb z1;simp [ZiJ,iU] at e0 e1;subst e0;subst e1;exact ⟨⟨false,n0,false,n1⟩,rfl,by grind,u0,by grind,u1⟩
theorem tU {B v} (h:FitV Tryz.prog B 36 v): ∃x:Pln,v=Ut x/\x.wf B:=by
 obtain ⟨k,cs,h,e⟩:=h.out;obtain ⟨x,rfl,hw⟩:=kR h;exact ⟨x,e.trans (by rw [Qw,if_pos (Wr zP)];rfl),hw⟩
structure Col where
 typ:Int
 set:Int
 price:Int
 route:Rte
 deriving Inhabited
def Hr (x:Col):List PV:= [.int .i64 x.typ,.int .i64 x.set,.int .i64 x.price,.int .i64 x.route.typ,.int .i64 x.route.start,.list x.route.rests_c (x.route.rests.map eB),.list x.route.visits_c (x.route.visits.map Z7)]
def Xx (x:Col):PV:= .agg [.int .i64 x.typ,.int .i64 x.set,.int .i64 x.price,.int .i64 x.route.typ,.int .i64 x.route.start,.list x.route.rests_c (x.route.rests.map eB),.list x.route.visits_c (x.route.visits.map Z7)]
@[go_sem] theorem Zmz (x:Col):Xx x= .agg [.int .i64 x.typ,.int .i64 x.set,.int .i64 x.price,.int .i64 x.route.typ,.int .i64 x.route.start,.list x.route.rests_c (x.route.rests.map eB),.list x.route.visits_c (x.route.visits.map Z7)]:=Zl rfl rfl
structure Itm where
 kind:Int
 a:Int
 deriving Inhabited
def Zom (x:Itm):List PV:= [.int .i64 x.kind,.int .i64 x.a]
def YL (x:Itm):PV:= .agg [.int .i64 x.kind,.int .i64 x.a]
@[go_sem] theorem ZmA (x:Itm):YL x= .agg [.int .i64 x.kind,.int .i64 x.a]:=Zl rfl rfl
@[go_sem] theorem Zff (l:List Itm):Ci 2 (l.map YL)=true:=Cj (f:=YL) (S:=2) (fun _=>rfl) l
def Itm.wf (B:Nat) (x:Itm):Prop:=UF x.kind/\UF x.a
theorem kO {B m cs} (h:Y6 Tryz.prog B m 32 cs): ∃x:Itm,cs=Zom x/\x.wf B:=by
 obtain ⟨h1,m',h2⟩:=Wo zO ZiI h;obtain ⟨a0,a1,rfl⟩:=cH h1;obtain ⟨n0,e0,w0⟩:=ZR Tryz.underlying3 (h2 (0,3) Zb);obtain ⟨n1,e1,w1⟩:=ZR Tryz.underlying3 (h2 (1,3) Zb);simp [LA] at e0 e1;subst e0;subst e1;exact ⟨⟨n0,n1⟩,rfl,Xr w0,Xr w1⟩
theorem tS {B v} (h:FitV Tryz.prog B 32 v): ∃x:Itm,v=YL x/\x.wf B:=by
 obtain ⟨k,cs,h,e⟩:=h.out;obtain ⟨x,rfl,hw⟩:=kO h;exact ⟨x,e.trans (by rw [Qw,if_pos (Wr zO)];rfl),hw⟩
theorem own : ownKnob Tryz.prog.godebug=none:=Zd
theorem uS : laidOutB Tryz.prog=true:=Zd
def zeroI : Inst:=⟨⟨true,[],true,[]⟩,true,[],true,[],true,[],true,[]⟩
abbrev Flt := Int×List UInt8
def eF (f:Flt):PV:= .agg [.int .i64 f.1,.str f.2]
@[go_sem] theorem ZqT (f:Flt):eF f= .agg [.int .i64 f.1,.str f.2]:=Zl rfl rfl
@[go_sem] theorem Zo7 (l:List Flt):A3 2 (l.map eF)=true:=Kq fun _=>rfl
def dec (n:Nat):List UInt8:=if h:n<10 then [UInt8.ofNat (48+n)] else dec (n / 10)++ [UInt8.ofNat (48+n%10)]
termination_by n
decreasing_by omega
theorem Sz : ∀(k n:Nat),n<k->(dec n).length<=n+1:=by
 intro k
 induction k with
 | zero=>omega
 | succ k ih =>
  grind [dec]
theorem BH : ∀(d n:Nat),n<10^(d+1)->(dec n).length<=d+1:=by
 intro d
 induction d with
 | zero=>simp_all [dec]
 | succ d ih =>
  grind [dec]
def Bk (n:Int):List UInt8:=if n<0 then 45::dec n.natAbs else dec n.natAbs
theorem JB (n:Int) (h:UF n):(Bk n).length<=20:=by
 have h1:n.natAbs<10^(18+1):=Za
 have:=BH 18 n.natAbs h1
 grind [Bk]
structure FR {α:Type} (p:α->Prop) (C:Prop) (b:Nat) (l:List α):Prop where
 len:l.length<=b
 emp:l= []↔C
 all: ∀x∈l,p x
theorem FR.nil {α:Type} {p:α->Prop} {C:Prop} {b:Nat} (h:C):FR p C b []:=⟨Zb,by simp [h],Zb⟩
theorem FR.no {α:Type} {p:α->Prop} {C c:Prop} {b:Nat} {l:List α} (h:FR p C b l) (hc:c):FR p (C/\c) (b+1) l:=⟨by have:=h.len;omega,by rw [h.emp];simp [hc],h.all⟩
theorem FR.yes {α:Type} {p:α->Prop} {C c:Prop} {b:Nat} {l:List α} {x:α} (h:FR p C b l) (hc: ¬c) (hx:p x):FR p (C/\c) (b+1) (l++ [x]) :=
 ⟨by have:=h.len;simp;omega,by simp [hc],fun y hy=>by
  rcases Xj.1 hy with hy | hy
  ·exact h.all y hy
  grind⟩
theorem FR.app {α:Type} {p:α->Prop} {C D:Prop} {b d:Nat} {l m:List α} (h:FR p C b l) (k:FR p D d m):FR p (C/\D) (b+d) (l++m) :=
 ⟨by have:=h.len;have:=k.len;simp;omega,by rw [Ue,h.emp,k.emp],fun y hy=>by
  rcases Xj.1 hy with hy | hy
  ·exact h.all y hy
  ·exact k.all y hy⟩
theorem FR.to {α:Type} {p:α->Prop} {C D:Prop} {b d:Nat} {l:List α} (h:FR p C b l) (hb:b<=d) (hc:C↔D):FR p D d l:=⟨AX h.len hb,h.emp.trans hc,h.all⟩
theorem Zp {p:Nat->Prop} {k:Nat} :(∀j,j<k+1->p j)↔((∀j,j<k->p j)/\p k) :=
 ⟨fun h=>⟨fun j hj=>h j Za,h k Za⟩,fun h j hj=>by
  grind⟩
def J9 (c:UInt8):Bool:=decide (48<=c.toNat/\c.toNat<=57)
def JG (c:UInt8):Bool:=decide (97<=c.toNat/\c.toNat<=122)||decide (65<=c.toNat/\c.toNat<=90)||decide (c.toNat=95)
def nameOk (s:List UInt8):Bool:=decide (1<=s.length)&&decide (s.length<=16)&& !J9 (nth s 0)&&s.all fun c=>JG c||J9 c
def rng (n lo hi:Int):Bool:=decide (lo<=n/\n<=hi)
def MH (n:Int):Bool:=rng n 0 4096
def oN (l:List Pt) (i:Nat):Prop:=(0<=(nth l i).t/\(nth l i).t<=4096/\(nth l i).t<=(nth l i).a/\(nth l i).a<=(nth l i).t+4096)/\(0<i->(nth l (i-1)).t<(nth l i).t/\(nth l (i-1)).a<=(nth l i).a)
def Vg (l:List Pt):Prop:=(1<=l.length/\l.length<=16)/\ ∀i,i<l.length->oN l i
def Ak (l:List Pt) (i:Nat):Prop:=MH (nth l i).t=true/\MH (nth l i).a=true/\(0<i->(nth l (i-1)).t<(nth l i).t)
def M5 (n:Net) (i:Nat):Prop :=
 ((((((0<=(nth n.arcs i).src/\(nth n.arcs i).src<n.places.length/\0<=(nth n.arcs i).dst/\(nth n.arcs i).dst<n.places.length) /\
 (0<=(nth n.arcs i).prof/\(nth n.arcs i).prof<=7/\0<=(nth n.arcs i).miles/\(nth n.arcs i).miles<=10000/\(nth n.arcs i).src≠(nth n.arcs i).dst)) /\
 (∀k,k<i-> ¬((nth n.arcs i).src=(nth n.arcs k).src/\(nth n.arcs i).dst=(nth n.arcs k).dst/\(nth n.arcs i).prof=(nth n.arcs k).prof))) /\
 Vg (nth n.arcs i).travel)/\(nth n.arcs i).slow.length<=16)/\ ∀k,k<(nth n.arcs i).slow.length->Ak (nth n.arcs i).slow k)
def Rv (n:Net) (i:Nat):Prop:=nameOk (nth n.places i)=true/\ ∀k,k<i->nth n.places k≠nth n.places i
def Ad (n:Net):Prop:=n.places.length<=24/\ ∀i,i<n.places.length->Rv n i
def netOk (n:Net):Prop:=(Ad n/\n.arcs.length<=1024)/\ ∀i,i<n.arcs.length->M5 n i
set_option maxRecDepth 8000
set_option maxHeartbeats 4000000
theorem SB (c:UInt8):PC 157 [.p (.int .u8 (c.toNat:Nat))] (.bool (J9 c)):=by
 refine Ze Tryz.func157 rfl ZbY ?_;simp (disch:=omega) only [Tryz.f157,go_sem,seval];refine gT ?_ ?_<;>intro h<;>simp (disch:=omega) only [Sh.out h,go_sem,seval,↓reduceIte]
 all_goals (simp [J9];first | done | omega | grind)
theorem mM (c:UInt8):PC 158 [.p (.int .u8 (c.toNat:Nat))] (.bool (JG c)):=by
 refine Ze Tryz.func158 rfl ZbZ ?_;simp (disch:=omega) only [Tryz.f158,go_sem,seval]
 repeat' (first | (refine gT ?_ ?_<;>intro hq<;>simp (disch:=omega) only [Sh.out hq,go_sem,seval,↓reduceIte]) | (refine gF ?_ ?_<;>intro hq<;>simp (disch:=omega) only [Sh.out hq,go_sem,seval,↓reduceIte]) | (refine U0 (fun hq=> ?_) (fun hq=> ?_)<;>(try simp only [Zs,XX,Z3] at hq)<;>simp (disch:=omega) only [Sh.out hq,go_sem,seval]))
 all_goals (simp [JG];first | done | omega | (rw [Wf];simp;omega))
theorem Rm (s:List UInt8) (hs:s.length<=1048576):PC 109 [.p (.str s)] (.bool (nameOk s)):=by
 refine Ze Tryz.func109 rfl Zbq ?_;simp (disch:=omega) only [Tryz.f109,go_sem,seval];refine gF ?_ ?_<;>intro h<;>simp (disch:=omega) only [Sh.out h,go_sem,seval,↓reduceIte]
 ·grind [nameOk]
 ·refine gF ?_ ?_<;>intro h2<;>simp (disch:=omega) only [Sh.out h2,go_sem,seval]
  ·grind [nameOk]
  ·have g1:1<=s.length:=Za
   have g2:s.length<=16:=Za
   refine (SB (nth s 0)).use (Zc ?_);refine cD ?_ ?_<;>intro h3<;>simp (disch:=omega) only [Sh.out h3,go_sem,seval]
   ·simp [nameOk,h3]
   ·refine Zk [0] (fun k:Nat=> [(3,.p (.int .i64 k))]) (fun _=> []) (fun k=>k<=s.length/\ ∀j,j<k->(JG (nth s j)||J9 (nth s j))=true) (fun k=>s.length-k) 0 Zb (Weak.mk ?_) ?_
    ·simp (disch:=omega) only [go_sem,seval,↓reduceIte]
    ·rintro k ⟨hk,hno⟩;refine Zc ?_
     have hall: ∀j,j<s.length->(JG (nth s j)||J9 (nth s j))=false->nameOk s=false:=fun j hj e=>by
      grind [Zh,nameOk]
     refine cD ?_ ?_<;>intro h4<;>simp (disch:=omega) only [Sh.out h4,go_sem,seval,↓reduceIte]
     ·have hk2:k<s.length:=Za
      refine (mM (nth s k)).use (Zc ?_);refine gT ?_ ?_<;>intro h5<;>simp (disch:=omega) only [Sh.out h5,go_sem,seval,↓reduceIte]
      ·refine (SB (nth s k)).use (Zc ?_);refine cD ?_ ?_<;>intro h6<;>simp (disch:=omega) only [Sh.out h6,go_sem,seval,↓reduceIte]
       ·grind
       ·simp only [XR] at h6;exact ⟨k+1,⟨Za,Zp.2 ⟨hno,by simp [h6]⟩⟩,Za,wk⟩
      ·simp only [XR] at h5;exact ⟨k+1,⟨Za,Zp.2 ⟨hno,by simp [h5]⟩⟩,Za,wk⟩
     ·have:s.all (fun c=>JG c||J9 c)=true:=by
       rw [Zx];intro c hc;obtain ⟨j,hj,rfl⟩:=ZN.1 hc
       grind [Zh]
      grind [nameOk]
theorem AA (n:Int) (hn:UF n):PC 76 [.p (.int .i64 n)] (.str (Bk n)):=by
 refine Ze Tryz.func76 rfl Zj6 ?_;simp (disch:=omega) only [Tryz.f76,go_sem,seval]
 have h19:n.natAbs<10^(18+1):=Za
 have hdl:=BH 18 n.natAbs h19
 refine ZZ [7] [0] (fun q:Int×List UInt8×Bool=> [(3,.p (.str q.2.1)),(4,.p (.int .i64 q.1)),(5,.p (.bool q.2.2))]) (fun _=> [])
  (fun q=>UF q.1/\(q.2.2=true->dec q.1.natAbs++q.2.1=dec n.natAbs)/\(q.2.2=false->q.2.1=dec n.natAbs)) (fun q=>if q.2.2 then q.1.natAbs+1 else 0) (n,[],true) (by simp;omega) (Weak.mk ?_) ?_
 ·simp (disch:=omega) only [go_sem,seval,↓reduceIte]
 ·rintro ⟨m,s,again⟩ ⟨hm,h1,h2⟩;simp only at hm h1 h2;refine Zc ?_
  cases again with
  | false =>
   refine Zc ?_;have h2:=h2 rfl
   have hl2:([45]:List UInt8).length+(dec n.natAbs).length<=9223372036854775807:=by simp;omega
   refine cD ?_ ?_<;>intro h3<;>simp (disch:=omega) only [Sh.out h3,go_sem,seval]
   ·simp (disch:=omega) only [Bk,h2,h3,pE hl2,go_sem,seval,↓reduceIte]
   ·simp (disch:=omega) only [Bk,h2,h3,go_sem,seval,↓reduceIte]
  | true =>
   have h1:=h1 rfl
   have hls:(dec m.natAbs).length+s.length=(dec n.natAbs).length:=by grind
   refine Zc ?_
   have e1:(m.tmod 10).natAbs=m.natAbs%10:=Zb
   have e2:(m.tdiv 10).natAbs=m.natAbs / 10:=by grind
   have e3:m.tmod 10<10/\ -10<m.tmod 10:=⟨Int.tmod_lt_of_pos _ (by decide),Za⟩;refine ZI [0,3,4] (fun _:Unit=> [(6,.p (.int .i64 ((m.natAbs%10:Nat):Int)))]) (fun _=> []) (fun _=>True) ?_ ?_
   ·refine Zc ?_;refine cD ?_ ?_<;>intro h3<;>simp (disch:=omega) only [Sh.out h3,go_sem,seval,↓reduceIte]
    ·exact ⟨(),Weak.mk (by refine Zc ?_;simp;omega)⟩
    ·exact ⟨(),Weak.mk (by refine Zc ?_;simp;omega)⟩
   ·intro _ _;refine Zg [] _ _ _ _ ?_;simp (disch:=first | omega | (simp only [ZC,ZG,ZJ,Z2,Xi,XN]<;>omega)) only [go_sem,seval,↓reduceIte]
    have e4:(48+((m.natAbs%10:Nat):Int)).toNat=48+m.natAbs%10:=Za
    refine ⟨(m.tdiv 10,UInt8.ofNat (48+m.natAbs%10)::s,decide (m.tdiv 10≠0)),⟨?_,?_,?_⟩,?_,Weak.mk ?_⟩
    ·omega
    ·simp only [Zs];intro hne
     have h10: ¬m.natAbs<10:=Za
     rw [e2,<- h1,dec.eq_def m.natAbs,dif_neg h10];simp
    ·simp only [XX,Z3];intro hz
     have h10:m.natAbs<10:=Za
     rw [<- h1,dec.eq_def m.natAbs,dif_pos h10,CW h10];simp
    ·grind
    ·simp (disch:=omega) only [e4,go_sem,seval]
def pF (k:Nat) (f:Flt):Prop:=f.2.length<=k
theorem Xq {P:Program} {id:Nat} {l:List Oper} {fr:List V} {H:List AM.Obj} {Q:Exit->List V->List AM.Obj->Prop} {t} (h:hs P (l.map (·.dst)) H (Zu (fun fr'=>Q .normal (LW fr') H) ⟨⟩) l (LW fr)) (hm:P.follows .mixedOrders=true:=by exact mixed) (hB:Ve (List.toArray l) l.length=true:=by kernel_rfl) (hR:Ag (List.toArray l) l.length=true:=by kernel_rfl):AWP P (.region id (Zu (List.toArray l) t) true) fr H Q:=Px hm hB hR h
theorem jE (l:List Pt) (c:Bool) (hl:l.length<=1048576):ACalls Tryz.prog 110 [.p (.list c (l.map H4))] [] fun x H'=> ∃m:List Flt,FR (pF 20) (Vg l) (2*l.length+1) m/\x= .sl 0 0 m.length m.length/\H'= [.elems 2 (m.map eF)]:=by
 refine ZX [2] Tryz.func110 rfl Zbr ?_;simp (disch:=omega) only [Tryz.f110,go_sem,seval];refine Zq (Weak.ofNil 3 2 (by simp (disch:=omega) only [go_sem,seval]) Zb (Weak.refl _ _ _)) ?_;refine ZI [0] (fun m:List Flt=> [(3,.sl 0 0 m.length m.length)]) (fun m=> [.elems 2 (m.map eF)]) (fun m=>FR (pF 20) (1<=l.length/\l.length<=16) 1 m) ?_ ?_
 ·refine Zc ?_
  repeat' (first | (refine VE (fun hq=> ?_) (fun hq=> ?_)<;>(try simp only [Zs,XX,Z3] at hq)<;>simp (disch:=omega) only [Sh.out hq,go_sem,seval]) | (refine gF ?_ ?_<;>intro hq<;>simp (disch:=omega) only [Sh.out hq,go_sem,seval,↓reduceIte]) | (refine cD ?_ ?_<;>intro hq<;>simp (disch:=omega) only [Sh.out hq,go_sem,seval,↓reduceIte]))
  ·exact ⟨[(4,[])],⟨Zb,by simp;omega,by simp [pF]⟩,wk⟩
  ·exact ⟨[(4,[])],⟨Zb,by simp;omega,by simp [pF]⟩,wk⟩
  ·exact ⟨[],FR.nil Za,wk⟩
 ·intro m hm;refine Zg [] _ _ _ _ (Zc ?_);refine ZZ [8] [0] (fun q:Nat×List Flt=> [(3,.sl 0 0 q.2.length q.2.length),(4,.p (.int .i64 q.1))]) (fun q=> [.elems 2 (q.2.map eF)]) (fun q=>q.1<=l.length/\FR (pF 20) ((1<=l.length/\l.length<=16)/\ ∀j,j<q.1->oN l j) (2*q.1+1) q.2) (fun q=>l.length-q.1) (0,m) ⟨Zb,hm.to Zb Zb⟩ (Weak.mk ?_) ?_
  ·simp (disch:=omega) only [go_sem,seval,↓reduceIte]
  ·rintro ⟨k,m⟩ ⟨hk,hm⟩;simp only at hk hm;have hml:=hm.len;refine Zc ?_;refine cD ?_ ?_<;>intro h<;>simp (disch:=omega) only [Sh.out h,go_sem,seval,↓reduceIte]
   ·have hk2:k<l.length:=Za
    refine ZI [0,4,5] (fun m:List Flt=> [(3,.sl 0 0 m.length m.length)]) (fun m=> [.elems 2 (m.map eF),.cells [.p (.int .i64 (nth l k).t),.p (.int .i64 (nth l k).a)]])
     (fun m=>FR (pF 20) (((1<=l.length/\l.length<=16)/\ ∀j,j<k->oN l j)/\(0<=(nth l k).t/\(nth l k).t<=4096/\(nth l k).t<=(nth l k).a/\(nth l k).a<=(nth l k).t+4096)) (2*k+1+1) m) ?_ ?_
    ·refine Zc ?_
     have hI:UF (k:Int):=Za
     have hdl:=JB k hI
     repeat' (first | (refine VE (fun hq=> ?_) (fun hq=> ?_)<;>(try simp only [Zs,XX,Z3] at hq)<;>simp (disch:=omega) only [Sh.out hq,go_sem,seval]) | (refine gF ?_ ?_<;>intro hq<;>simp (disch:=omega) only [Sh.out hq,go_sem,seval,↓reduceIte]) | (refine cD ?_ ?_<;>intro hq<;>simp (disch:=omega) only [Sh.out hq,go_sem,seval,↓reduceIte]))
     all_goals try exact ⟨m,hm.no Za,wk⟩
     all_goals
      refine (AA k hI).use ?_;simp (disch:=omega) only [go_sem,seval,↓reduceIte];exact ⟨m++ [(2,Bk k)],hm.yes Za (by simp only [pF];omega),wk⟩
    ·intro m hm;have hml:=hm.len;refine Zg [] _ _ _ _ (Zc ?_)
     have hI:UF (k:Int):=Za
     have hdl:=JB k hI;refine Xq (Zc ?_)
     repeat' (first | (refine gT ?_ ?_<;>intro hq<;>simp (disch:=omega) only [Sh.out hq,go_sem,seval,↓reduceIte]) | (refine gF ?_ ?_<;>intro hq<;>simp (disch:=omega) only [Sh.out hq,go_sem,seval,↓reduceIte]) | (refine cD ?_ ?_<;>intro hq<;>simp (disch:=omega) only [Sh.out hq,go_sem,seval,↓reduceIte]))
     all_goals try exact ⟨(k+1,m),⟨by simp only;omega,(hm.no (c:=0<k->(nth l (k-1)).t<(nth l k).t/\(nth l (k-1)).a<=(nth l k).a) Za).to (by simp only;omega) (by simp only [Zp,oN,and_assoc])⟩,by simp only;omega,wk⟩
     all_goals
      refine (AA k hI).use ?_;simp (disch:=omega) only [go_sem,seval,↓reduceIte];exact ⟨(k+1,m++ [(13,Bk k)]),⟨by simp only;omega,(hm.yes (c:=0<k->(nth l (k-1)).t<(nth l k).t/\(nth l (k-1)).a<=(nth l k).a) Za (by simp only [pF];omega)).to (by simp only;omega) (by simp only [Zp,oN,and_assoc])⟩,by simp only;omega,wk⟩
   ·have hkn:k=l.length:=Za
    subst hkn;exact ⟨m,hm.to Za (by rw [Vg]),0,by simp (disch:=omega) only [go_sem,seval]⟩
set_option maxHeartbeats 8000000
theorem pF.mono {j k:Nat} (h:j<=k) {f:Flt} (hf:pF j f):pF k f:=AX hf h
theorem FR.pmono {α:Type} {p q:α->Prop} {C:Prop} {b:Nat} {l:List α} (h:FR p C b l) (hp: ∀x,p x->q x):FR q C b l:=⟨h.len,h.emp,fun x hx=>hp x (h.all x hx)⟩
theorem O2 (n:Int):PC 111 [.p (.int .i64 n)] (.bool (MH n)):=by
 refine Ze Tryz.func111 rfl Zbs ?_;simp (disch:=omega) only [Tryz.f111,go_sem,seval]
 repeat' (first | (refine gT ?_ ?_<;>intro hq<;>simp (disch:=omega) only [Sh.out hq,go_sem,seval,↓reduceIte]) | (refine Up (fun hq=> ?_) (fun hq=> ?_)<;>(try simp only [Zs,XX,Z3] at hq)<;>simp (disch:=omega) only [Sh.out hq,go_sem,seval]) | (refine U0 (fun hq=> ?_) (fun hq=> ?_)<;>(try simp only [Zs,XX,Z3] at hq)<;>simp (disch:=omega) only [Sh.out hq,go_sem,seval]))
 all_goals (simp [MH,rng];first | done | omega | (rw [Wf];simp;omega))
def Z9 (n:Net):List AM.Obj:= [.cells [.p (.list n.places_c (n.places.map eS)),.p (.list n.arcs_c (n.arcs.map V2))]]
theorem An {P Q:Prop} (h:Q) (e:Q->P:=by intro h;simp (disch:=omega) only [Z9,go_sem,seval];exact h):P:=e h
theorem PS (n:Net) (hp:n.places.length<=1048576) (hs: ∀s∈n.places,s.length<=1048576):ACalls Tryz.prog 72 [.p (Cw n)] [] fun x H'=> ∃m:List Flt,FR (pF 26) (Ad n) (n.places.length+1) m/\x= .sl 0 0 m.length m.length/\H'= [.elems 2 (m.map eF)]:=by
 refine ZX [2] Tryz.func72 rfl Zj2 ?_;simp (disch:=omega) only [Tryz.f72,go_sem,seval];refine Zq (Weak.ofNil 3 2 (by simp (disch:=omega) only [go_sem,seval]) Zb (Weak.refl _ _ _)) ?_;refine ZI [1] (fun m:List Flt=> [(3,.sl 1 0 m.length m.length)]) (fun m=>Z9 n++ [.elems 2 (m.map eF)]) (fun m=>FR (pF 26) (n.places.length<=24) 1 m) ?_ ?_
 ·refine Zc ?_;refine ZK ?_ ?_<;>intro h
  ·exact ⟨[(4,[112,108,97,99,101,115])],⟨Zb,by simp;omega,by simp [pF]⟩,Weak.mk (by simp (disch:=omega) only [Z9,go_sem,seval])⟩
  ·exact ⟨[],FR.nil Za,Weak.mk (by simp (disch:=omega) only [Z9,go_sem,seval])⟩
 ·intro m hm;refine Zg [] _ _ _ _ (An ?_);refine Zk [1] (fun q:Nat×List Flt=> [(3,.sl 1 0 q.2.length q.2.length),(4,.p (.int .i64 q.1))]) (fun q=>Z9 n++ [.elems 2 (q.2.map eF)]) (fun q=>q.1<=n.places.length/\FR (pF 26) (n.places.length<=24/\ ∀j,j<q.1->Rv n j) (q.1+1) q.2) (fun q=>n.places.length-q.1) (0,m) ⟨Zb,hm.to Zb Zb⟩ (Weak.mk ?_) ?_
  ·simp (disch:=omega) only [Z9,go_sem,seval]
  ·rintro ⟨k,m⟩ ⟨hk,hm⟩;simp only at hk hm;have hml:=hm.len;refine An ?_;refine cD ?_ ?_<;>intro h<;>simp (disch:=omega) only [Sh.out h,go_sem,seval,↓reduceIte]
   ·have hk2:k<n.places.length:=Za
    have hI:UF (k:Int):=Za
    have hdl:=JB k hI;refine (AA k hI).use (Zc ?_);simp (disch:=first | omega | (simp only [ZC,ZG,ZJ,Z2,Xi,XN]<;>omega)) only [go_sem,seval,↓reduceIte];refine (Rm (nth n.places k) (hs _ (by grind [Zh]))).use (Zc ?_);refine ZK ?_ ?_<;>intro h2
    ·simp only [XM] at h2;exact ⟨(k+1,m++ [(5,[112,108,97,99,101,32]++Bk k)]),⟨Za,(hm.yes (c:=Rv n k) (by rw [Rv,h2];simp) (by simp [pF];omega)).to Zb (by grind)⟩,Za,wk⟩
    ·simp only [XR] at h2;refine Zk [1,3,4,5] (fun q:Nat×Bool=> [(6,.p (.bool q.2)),(7,.p (.int .i64 q.1))]) (fun _=>Z9 n++ [.elems 2 (m.map eF)]) (fun q=>q.1<=k/\(q.2=false↔ ∀j,j<q.1->nth n.places j≠nth n.places k)) (fun q=>k-q.1) (0,false) Zb (Weak.mk ?_) ?_
     ·simp (disch:=omega) only [Z9,go_sem,seval]
     ·rintro ⟨j,b⟩ ⟨hj,hb⟩;simp only at hj hb;refine An ?_;refine cD ?_ ?_<;>intro h3<;>simp (disch:=omega) only [Sh.out h3,go_sem,seval,↓reduceIte]
      ·refine ZB 14 mixed Zd Zd (Zc ?_)
       have hjn:j<n.places.length:=Za
       cases b with
       | true =>
        refine Zc ?_;exact ⟨(j+1,true),⟨Za,by grind⟩,Za,wk⟩
       | false =>
        refine Zc ?_;refine ⟨(j+1,decide (nth n.places j=nth n.places k)),⟨Za,by grind⟩,Za,wk⟩
      ·have hjk:j=k:=Za
       subst hjk
       cases b with
       | true =>
        refine Zc ?_
        have hno: ¬Rv n j:=fun h5=>by have:=hb.2 h5.2;cases this
        exact ⟨(j+1,m++ [(6,[112,108,97,99,101,32]++Bk j)]),⟨Za,(hm.yes (c:=Rv n j) hno (by simp [pF];omega)).to Zb (by grind)⟩,Za,wk⟩
       | false =>
        refine Zc ?_;exact ⟨(j+1,m),⟨Za,(hm.no (c:=Rv n j) ⟨h2,hb.1 rfl⟩).to Zb (by grind)⟩,Za,wk⟩
   ·have hkn:k=n.places.length:=Za
    subst hkn;exact ⟨m,hm.to Za (by rw [Ad]),1,by simp (disch:=omega) only [go_sem,seval]⟩
set_option maxHeartbeats 16000000
def Vk (a:Arc):AM.Obj:= .cells [.p (.int .i64 a.src),.p (.int .i64 a.dst),.p (.int .i64 a.prof),.p (.int .i64 a.miles),.p (.list a.travel_c (a.travel.map H4)),.p (.list a.slow_c (a.slow.map H4))]
abbrev WR (a b:Arc):Prop:=a.src=b.src/\a.dst=b.dst/\a.prof=b.prof
theorem B6 {P Q:Prop} (h:Q) (e:Q->P:=by intro h;simp (disch:=omega) only [Z9,Vk,go_sem,seval];exact h):P:=e h
theorem sY (n:Net) (i:Nat) (hi:i<n.arcs.length) (hp:n.places.length<=1048576) (ha:n.arcs.length<=1048576) (ht:(nth n.arcs i).travel.length<=1048576) (hsl:(nth n.arcs i).slow.length<=1048576) :
  ACalls Tryz.prog 73 [.p (Cw n),.p (.int .i64 (i:Nat))] [] fun x H'=> ∃m:List Flt,FR (pF 26) (M5 n i) 4000000 m/\x= .sl 0 0 m.length m.length/\H'= [.elems 2 (m.map eF)]:=by
 refine ZX [4] Tryz.func73 rfl Zj3 ?_;simp (disch:=omega) only [Tryz.f73,go_sem,seval]
 have hI:UF (i:Int):=Za
 have hdl:=JB i hI;refine (AA i hI).use (Zc ?_);simp (disch:=first | omega | (simp only [ZC,ZG,ZJ,Z2,Xi,XN]<;>omega)) only [go_sem,seval,↓reduceIte]
 have hat:(97::114::99::32::Bk i).length<=26:=by simp;omega
 generalize hga:nth n.arcs i=a at ht hsl ⊢;generalize 97::114::99::32::Bk i=at' at hat ⊢;refine Zq (Weak.ofNil 5 2 (by simp (disch:=omega) only [go_sem,seval]) Zb (Weak.refl _ _ _)) ?_;refine ZI [1,2,6,7] (fun m:List Flt=> [(5,.sl 2 0 m.length m.length)]) (fun m=>Z9 n++ [Vk a,.elems 2 (m.map eF)]) (fun m=>FR (pF 26) (0<=a.src/\a.src<n.places.length/\0<=a.dst/\a.dst<n.places.length) 1 m) ?_ ?_
 ·refine Zc ?_
  repeat' (first | (refine VE (fun hq=> ?_) (fun hq=> ?_)<;>(try simp only [Zs,XX,Z3] at hq)<;>simp (disch:=omega) only [Sh.out hq,go_sem,seval]) | (refine gF ?_ ?_<;>intro hq<;>simp (disch:=omega) only [Sh.out hq,go_sem,seval]) | (refine cD ?_ ?_<;>intro hq<;>simp (disch:=omega) only [Sh.out hq,go_sem,seval]))
  all_goals try exact ⟨[],FR.nil Za,Weak.mk (by simp (disch:=omega) only [Z9,Vk,go_sem,seval])⟩
  all_goals exact ⟨[(11,at')],⟨Zb,by simp;omega,by simpa [pF] using hat⟩,Weak.mk (by simp (disch:=omega) only [Z9,Vk,go_sem,seval])⟩
 ·intro m hm;refine Zg [6] _ _ _ _ (B6 ?_);have hml:=hm.len
  refine ZI [1,2,6,7] (fun m:List Flt=> [(5,.sl 2 0 m.length m.length)]) (fun m=>Z9 n++ [Vk a,.elems 2 (m.map eF)])
   (fun m=>FR (pF 26) ((0<=a.src/\a.src<n.places.length/\0<=a.dst/\a.dst<n.places.length)/\(0<=a.prof/\a.prof<=7/\0<=a.miles/\a.miles<=10000/\a.src≠a.dst)) 2 m) ?_ ?_
  ·refine Zc ?_
   repeat' (first | (refine VE (fun hq=> ?_) (fun hq=> ?_)<;>(try simp only [Zs,XX,Z3] at hq)<;>simp (disch:=omega) only [Sh.out hq,go_sem,seval]) | (refine gF ?_ ?_<;>intro hq<;>simp (disch:=omega) only [Sh.out hq,go_sem,seval]) | (refine cD ?_ ?_<;>intro hq<;>simp (disch:=omega) only [Sh.out hq,go_sem,seval]))
   all_goals try exact ⟨m,hm.no Za,Weak.mk (by simp (disch:=omega) only [Z9,Vk,go_sem,seval])⟩
   all_goals exact ⟨m++ [(2,at')],hm.yes Za (by simpa [pF] using hat),Weak.mk (by simp (disch:=omega) only [Z9,Vk,go_sem,seval])⟩
  ·clear hm hml;intro m hm;refine Zg [14] _ _ _ _ (B6 ?_);have hml:=hm.len;refine ZZ [14] [1,2,5,6,7] (fun q:Nat×Bool=> [(8,.p (.bool q.2)),(9,.p (.int .i64 q.1))]) (fun _=>Z9 n++ [Vk a,.elems 2 (m.map eF)]) (fun q=>q.1<=i/\(q.2=false↔ ∀j,j<q.1-> ¬WR a (nth n.arcs j))) (fun q=>i-q.1) (0,false) Zb (Weak.mk ?_) ?_
   ·simp (disch:=omega) only [Z9,Vk,go_sem,seval]
   ·rintro ⟨k,b⟩ ⟨hk,hb⟩;simp only at hk hb;refine B6 ?_;refine cD ?_ ?_<;>intro h<;>simp (disch:=omega) only [Sh.out h,go_sem,seval,↓reduceIte]
    ·have hkn:k<n.arcs.length:=Za
     cases b with
     | true =>
      refine Zc ?_;exact ⟨(k+1,true),⟨Za,by grind⟩,Za,wk⟩
     | false =>
      refine Zc ?_
      repeat' (first | (refine gT ?_ ?_<;>intro hq<;>simp (disch:=omega) only [Sh.out hq,go_sem,seval]) | (refine Up (fun hq=> ?_) (fun hq=> ?_)<;>(try simp only [Zs,XX,Z3] at hq)<;>simp (disch:=omega) only [Sh.out hq,go_sem,seval]) | (refine U0 (fun hq=> ?_) (fun hq=> ?_)<;>(try simp only [Zs,XX,Z3] at hq)<;>simp (disch:=omega) only [Sh.out hq,go_sem,seval]))
      all_goals refine ⟨(k+1,decide (WR a (nth n.arcs k))),⟨by simp only;omega,by rw [Zp,<- hb];simp⟩,by simp only;omega,Weak.mk ?_⟩
      all_goals simp (disch:=omega) only [go_sem,seval]
      all_goals simp [WR, *]
    ·have hki:k=i:=Za
     subst hki;have htw:(b=false↔ ∀j,j<k-> ¬WR a (nth n.arcs j)):=hb;clear hb hk h
     refine ZI [6,7] (fun m:List Flt=> [(5,.sl 2 0 m.length m.length)]) (fun m=>Z9 n++ [Vk a,.elems 2 (m.map eF)])
      (fun m=>FR (pF 26) (((0<=a.src/\a.src<n.places.length/\0<=a.dst/\a.dst<n.places.length)/\(0<=a.prof/\a.prof<=7/\0<=a.miles/\a.miles<=10000/\a.src≠a.dst))/\ ∀j,j<k-> ¬WR a (nth n.arcs j)) 3 m) ?_ ?_
     ·refine Zc ?_
      cases b with
      | true =>
       refine Zc ?_;exact ⟨m++ [(6,at')],hm.yes (by grind) (by grind [pF]),Weak.mk (by simp (disch:=omega) only [Z9,Vk,go_sem,seval])⟩
      | false =>
       refine Zc ?_;exact ⟨m,hm.no (htw.1 rfl),Weak.mk (by simp (disch:=omega) only [Z9,Vk,go_sem,seval])⟩
     ·clear hm hml;intro m hm;refine Zg [21] _ _ _ _ (B6 ?_);have hml:=hm.len;refine ((jE a.travel a.travel_c ht).frozenE).useV fun lt hlt=>Zc ?_;have hltl:=hlt.len
      refine ZZ [21] [6,7,11] (fun q:Nat×List Flt=> [(5,.sl 2 0 q.2.length q.2.length),(12,.p (.int .i64 q.1))]) (fun q=>Z9 n++ [Vk a,.elems 2 (q.2.map eF)])
       (fun q=>q.1<=lt.length/\FR (pF 26) ((((0<=a.src/\a.src<n.places.length/\0<=a.dst/\a.dst<n.places.length)/\(0<=a.prof/\a.prof<=7/\0<=a.miles/\a.miles<=10000/\a.src≠a.dst))/\ ∀j,j<k-> ¬WR a (nth n.arcs j))/\q.1=0) (3+q.1) q.2) (fun q=>lt.length-q.1) (0,m) ⟨Zb,hm.to Zb Zb⟩ (Weak.mk ?_) ?_
      ·simp (disch:=omega) only [Z9,Vk,go_sem,seval]
      ·clear hm hml;rintro ⟨j,m⟩ ⟨hj,hm⟩;simp only at hj hm;have hml:=hm.len;refine B6 ?_;refine ZK ?_ ?_<;>intro h
       ·have hj2:j<lt.length:=Za
        exact ⟨(j+1,m++ [((nth lt j).1,at')]),⟨Za,(hm.yes (c:=False) Zb (by grind [pF])).to Za Zb⟩,Za,wk⟩
       ·have hjl:j=lt.length:=Za
        subst hjl;have hm2:=hm.to (d:=3+lt.length) (D:=(((0<=a.src/\a.src<n.places.length/\0<=a.dst/\a.dst<n.places.length)/\(0<=a.prof/\a.prof<=7/\0<=a.miles/\a.miles<=10000/\a.src≠a.dst))/\ ∀j,j<k-> ¬WR a (nth n.arcs j))/\Vg a.travel) (Zw _) (by rw [<- hlt.emp,List.eq_nil_iff_length_eq_zero]);clear hm
        refine ZI [6,7] (fun m:List Flt=> [(5,.sl 2 0 m.length m.length)]) (fun m=>Z9 n++ [Vk a,.elems 2 (m.map eF)])
         (fun m=>FR (pF 26) (((((0<=a.src/\a.src<n.places.length/\0<=a.dst/\a.dst<n.places.length)/\(0<=a.prof/\a.prof<=7/\0<=a.miles/\a.miles<=10000/\a.src≠a.dst))/\ ∀j,j<k-> ¬WR a (nth n.arcs j))/\Vg a.travel)/\a.slow.length<=16) (4+lt.length) m) ?_ ?_
        ·refine Zc ?_;refine ZK ?_ ?_<;>intro h2
         ·exact ⟨m++ [(4,at')],(hm2.yes Za (by grind [pF])).to Za Iff.rfl,Weak.mk (by simp (disch:=omega) only [Z9,Vk,go_sem,seval])⟩
         ·exact ⟨m,(hm2.no Za).to Za Iff.rfl,Weak.mk (by simp (disch:=omega) only [Z9,Vk,go_sem,seval])⟩
        ·clear hm2 hml h hj;intro m hm;refine Zg [] _ _ _ _ (B6 ?_)
         refine Zk [6,7] (fun q:Nat×List Flt=> [(5,.sl 2 0 q.2.length q.2.length),(13,.p (.int .i64 q.1))]) (fun q=>Z9 n++ [Vk a,.elems 2 (q.2.map eF)])
          (fun q=>q.1<=a.slow.length/\FR (pF 26) ((((((0<=a.src/\a.src<n.places.length/\0<=a.dst/\a.dst<n.places.length)/\(0<=a.prof/\a.prof<=7/\0<=a.miles/\a.miles<=10000/\a.src≠a.dst))/\ ∀j,j<k-> ¬WR a (nth n.arcs j))/\Vg a.travel)/\a.slow.length<=16)/\ ∀j,j<q.1->Ak a.slow j) (4+lt.length+q.1) q.2) (fun q=>a.slow.length-q.1) (0,m) ⟨Zb,hm.to Zb Zb⟩ (Weak.mk ?_) ?_
         ·simp (disch:=omega) only [Z9,Vk,go_sem,seval]
         ·clear hm;rintro ⟨j,m⟩ ⟨hj,hm⟩;simp only at hj hm;have hml:=hm.len;refine B6 ?_;refine cD ?_ ?_<;>intro h<;>simp (disch:=omega) only [Sh.out h,go_sem,seval,↓reduceIte]
          ·have hj2:j<a.slow.length:=Za
           refine Xq (Zc ?_);refine Zo (O2 (nth a.slow j).t) (Zc ?_);have hslo:Ak a.slow j↔(MH (nth a.slow j).t=true/\MH (nth a.slow j).a=true/\(0<j->(nth a.slow (j-1)).t<(nth a.slow j).t)):=Iff.rfl;have hyes: ¬Ak a.slow j->_:=fun hs=>(hm.yes (x:=(2,at')) hs (by grind [pF])).to (D:=(((((0<=a.src/\a.src<n.places.length/\0<=a.dst/\a.dst<n.places.length)/\(0<=a.prof/\a.prof<=7/\0<=a.miles/\a.miles<=10000/\a.src≠a.dst))/\ ∀j,j<k-> ¬WR a (nth n.arcs j))/\Vg a.travel)/\a.slow.length<=16)/\ ∀i,i<j+1->Ak a.slow i) (d:=4+lt.length+(j+1)) Za (by grind)
           have hno:Ak a.slow j->_:=fun hs=>(hm.no hs).to (D:=(((((0<=a.src/\a.src<n.places.length/\0<=a.dst/\a.dst<n.places.length)/\(0<=a.prof/\a.prof<=7/\0<=a.miles/\a.miles<=10000/\a.src≠a.dst))/\ ∀j,j<k-> ¬WR a (nth n.arcs j))/\Vg a.travel)/\a.slow.length<=16)/\ ∀i,i<j+1->Ak a.slow i) (d:=4+lt.length+(j+1)) Za (by grind)
           cases ht1:MH (nth a.slow j).t with
           | false =>
            refine Zc ?_;exact ⟨(j+1,m++ [(2,at')]),⟨Za,hyes (by grind)⟩,Za,wk⟩
           | true =>
            refine Zc ?_;refine Zo (O2 (nth a.slow j).a) (Zc ?_)
            cases ht2:MH (nth a.slow j).a with
            | false =>
             refine Zc ?_;exact ⟨(j+1,m++ [(2,at')]),⟨Za,hyes (by grind)⟩,Za,wk⟩
            | true =>
             refine Zc ?_
             repeat' (first | (refine gT ?_ ?_<;>intro hq<;>simp (disch:=omega) only [Sh.out hq,go_sem,seval]) | (refine Up (fun hq=> ?_) (fun hq=> ?_)<;>(try simp only [Zs,XX,Z3] at hq)<;>simp (disch:=omega) only [Sh.out hq,go_sem,seval]) | (refine cD ?_ ?_<;>intro hq<;>simp (disch:=omega) only [Sh.out hq,go_sem,seval]))
             ·exact ⟨(j+1,m++ [(2,at')]),⟨Za,hyes (by grind)⟩,Za,wk⟩
             ·exact ⟨(j+1,m),⟨Za,hno (by grind)⟩,Za,wk⟩
             ·exact ⟨(j+1,m),⟨Za,hno (by grind)⟩,Za,wk⟩
          ·have hjn:j=a.slow.length:=Za
           subst hjn;exact ⟨m,hm.to Za (by rw [M5,hga]),2,by simp (disch:=omega) only [go_sem,seval]⟩
theorem Zt {α:Type} [Inhabited α] {l:List α} {i:Nat} (h:i<l.length):nth l i∈l:=by grind [Zh]
theorem Za4 (n:Net) (hw:n.wf 1048576):ACalls Tryz.prog 41 [.p (Cw n)] [] fun x H'=> ∃m:List Flt,FR (pF 26) (netOk n) 4194306000000 m/\x= .sl 0 0 m.length m.length/\H'= [.elems 2 (m.map eF)]:=by
 obtain ⟨w1,w2,w3,w4⟩:=hw;refine ZX [2] Tryz.func41 rfl ZjB ?_;simp (disch:=omega) only [Tryz.f41,go_sem,seval];refine (PS n w1 w2).useE fun m hm=>Zc ?_;have hml:=hm.len;refine ZI [1] (fun m:List Flt=> [(3,.sl 1 0 m.length m.length)]) (fun m=>Z9 n++ [.elems 2 (m.map eF)]) (fun m=>FR (pF 26) (Ad n/\n.arcs.length<=1024) (n.places.length+2) m) ?_ ?_
 ·refine Zc ?_;refine ZK ?_ ?_<;>intro h
  ·exact ⟨m++ [(4,[97,114,99,115])],hm.yes Za (by simp [pF]),Weak.mk (by simp (disch:=omega) only [Z9,go_sem,seval])⟩
  ·exact ⟨m,hm.no Za,Weak.mk (by simp (disch:=omega) only [Z9,go_sem,seval])⟩
 ·clear hm hml;intro m hm;refine Zg [] _ _ _ _ (An ?_);refine Zk [1] (fun q:Nat×List Flt=> [(3,.sl 1 0 q.2.length q.2.length),(4,.p (.int .i64 q.1))]) (fun q=>Z9 n++ [.elems 2 (q.2.map eF)]) (fun q=>q.1<=n.arcs.length/\FR (pF 26) ((Ad n/\n.arcs.length<=1024)/\ ∀j,j<q.1->M5 n j) (n.places.length+2+q.1*4000000) q.2) (fun q=>n.arcs.length-q.1) (0,m) ⟨Zb,hm.to Zb Zb⟩ (Weak.mk ?_) ?_
  ·simp (disch:=omega) only [Z9,go_sem,seval]
  ·clear hm;rintro ⟨k,m⟩ ⟨hk,hm⟩;simp only at hk hm;have hml:=hm.len;refine An ?_;refine cD ?_ ?_<;>intro h<;>simp (disch:=omega) only [Sh.out h,go_sem,seval,↓reduceIte]
   ·have hk2:k<n.arcs.length:=Za
    have ha:=w4 _ (Zt hk2);refine (sY n k hk2 w1 w3 ha.2.2.2.2.1 ha.2.2.2.2.2.2.1).useE fun f hf=>Zc ?_;have hfl:=hf.len
    have q1:(m.length+f.length)*24<=140737488355328:=Za
    have q2:m.length+f.length<=140737488355328:=Za
    simp (disch:=omega) only [q1,q2,go_sem,seval];refine ⟨(k+1,m++f),⟨Za,(hm.app hf).to Za (by grind)⟩,Za,Weak.mk ?_⟩;simp (disch:=omega) only [ZJ,XD,go_sem,seval]
   ·have hkn:k=n.arcs.length:=Za
    subst hkn;exact ⟨m,hm.to Za (by rw [netOk]),1,by simp (disch:=omega) only [go_sem,seval]⟩
theorem VL (n lo hi:Int):PC 74 [.p (.int .i64 n),.p (.int .i64 lo),.p (.int .i64 hi)] (.bool (rng n lo hi)):=by
 refine Ze Tryz.func74 rfl Zj4 ?_;simp (disch:=omega) only [Tryz.f74,go_sem,seval];refine gT ?_ ?_<;>intro h<;>simp (disch:=omega) only [Sh.out h,go_sem,seval,↓reduceIte]
 all_goals (simp [rng];first | done | omega | (rw [Wf];simp;omega))
def VH (l:List Int) (d:Int):Bool:=rng l.length 1 3&&decide ((l.length:Int)=d)&&l.all fun n=>rng n 0 1000
theorem PO (l:List Int) (c:Bool) (d:Int) (hl:l.length<=1048576):PC 113 [.p (.list c (l.map eI)),.p (.int .i64 d)] (.bool (VH l d)):=by
 refine Ze Tryz.func113 rfl Zbu ?_;simp (disch:=omega) only [Tryz.f113,go_sem,seval];refine (VL l.length 1 3).use (Zc ?_);refine gF ?_ ?_<;>intro h<;>simp (disch:=omega) only [Sh.out h,go_sem,seval,↓reduceIte]
 ·grind [VH]
 ·simp only [XR] at h;refine cD ?_ ?_<;>intro h2<;>simp (disch:=omega) only [Sh.out h2,go_sem,seval]
  ·simp [VH,h,h2]
  ·simp only [Z3] at h2;subst h2;refine Zk [0] (fun k:Nat=> [(5,.p (.int .i64 k))]) (fun _=> []) (fun k=>k<=l.length/\ ∀j,j<k->rng (nth l j) 0 1000=true) (fun k=>l.length-k) 0 Zb (Weak.mk ?_) ?_
   ·simp (disch:=omega) only [go_sem,seval,↓reduceIte]
   ·rintro k ⟨hk,hno⟩;refine Zc ?_;refine cD ?_ ?_<;>intro h3<;>simp (disch:=omega) only [Sh.out h3,go_sem,seval,↓reduceIte]
    ·have hk2:k<l.length:=Za
     refine (VL (nth l k) 0 1000).use (Zc ?_);refine cD ?_ ?_<;>intro h4<;>simp (disch:=omega) only [Sh.out h4,go_sem,seval,↓reduceIte]
     ·grind [Zt,VH]
     ·simp only [XR] at h4;exact ⟨k+1,⟨Za,Zp.2 ⟨hno,h4⟩⟩,Za,wk⟩
    ·have:l.all (fun n=>rng n 0 1000)=true:=by
      rw [Zx];intro x hx;obtain ⟨j,hj,rfl⟩:=ZN.1 hx
      grind [Zh]
     grind [VH]
def Ri (l:List Typ) (i:Nat) (s:List UInt8):Bool:=(List.range i).any fun j=>decide ((nth l j).name=s)
theorem U5 {l:List Typ} {i:Nat} {s:List UInt8} :Ri l i s=false↔ ∀j,j<i->(nth l j).name≠s:=by
 grind [Ri]
theorem cF (l:List Typ) (c:Bool) (i:Nat) (s:List UInt8) (hi:i<=l.length) (hl:l.length<=1048576):PC 112 [.p (.list c (l.map X8)),.p (.int .i64 (i:Nat)),.p (.str s)] (.bool (Ri l i s)):=by
 refine Ze Tryz.func112 rfl Zbt ?_;simp (disch:=omega) only [Tryz.f112,go_sem,seval];refine Zk [0,1,2] (fun k:Nat=> [(7,.p (.int .i64 k))]) (fun _=> []) (fun k=>k<=i/\ ∀j,j<k->(nth l j).name≠s) (fun k=>i-k) 0 Zb (Weak.mk ?_) ?_
 ·simp (disch:=omega) only [go_sem,seval,↓reduceIte]
 ·rintro k ⟨hk,hno⟩;refine Zc ?_;refine cD ?_ ?_<;>intro h3<;>simp (disch:=omega) only [Sh.out h3,go_sem,seval,↓reduceIte]
  ·have hk2:k<l.length:=Za
   refine cD ?_ ?_<;>intro h4<;>simp (disch:=omega) only [Sh.out h4,go_sem,seval,↓reduceIte]
   ·grind [U5]
   ·exact ⟨k+1,⟨Za,Zp.2 ⟨hno,h4⟩⟩,Za,wk⟩
  grind [U5]
def dimsOf (l:List Typ):Int:=if l.length=0 then 0 else ((nth l 0).cap.length:Int)
theorem Nv (l:List Typ) (c:Bool) (hl:l.length<=1048576):PC 44 [.p (.list c (l.map X8))] (.int .i64 (dimsOf l)):=by
 refine Ze Tryz.func44 rfl ZjE ?_;simp (disch:=omega) only [Tryz.f44,go_sem,seval];refine cD ?_ ?_<;>intro h<;>simp (disch:=omega) only [Sh.out h,go_sem,seval,↓reduceIte]
 ·grind [dimsOf]
 ·have h0:0<l.length:=Za
  have h1:l.length≠0:=Za
  simp (disch:=first | omega | (simp only [ZC,ZG,ZJ,Z2,Xi,XN]<;>omega)) only [dimsOf,h1,go_sem,seval,↓reduceIte]
def Ym (t:Typ):AM.Obj:= .cells [.p (.str t.name),.p (.int .i64 t.count),.p (.int .i64 t.src),.p (.int .i64 t.dst),.p (.list t.cap_c (t.cap.map eI)),.p (.int .i64 t.skills),.p (.int .i64 t.prof),.p (.int .i64 t.opn),.p (.int .i64 t.cls),.p (.int .i64 t.drive),.p (.int .i64 t.rest),.p (.int .i64 t.fixed),.p (.int .i64 t.perMile),.p (.int .i64 t.perTick)]
def UD (n:Net) (l:List Typ) (i:Nat):Prop:=((((((((nameOk (nth l i).name=true)/\(∀j,j<i->(nth l j).name≠(nth l i).name))/\rng (nth l i).count 0 10=true)/\(rng (nth l i).src 0 (n.places.length-1)=true/\rng (nth l i).dst 0 (n.places.length-1)=true))/\VH (nth l i).cap (dimsOf l)=true)/\rng (nth l i).skills 0 1073741823=true)/\(rng (nth l i).opn 0 (nth l i).cls=true/\(nth l i).cls<=4096))/\(rng (nth l i).drive 1 4096=true/\rng (nth l i).rest 0 4096=true))/\(rng (nth l i).prof 0 7=true/\rng (nth l i).fixed 0 100000=true/\rng (nth l i).perMile 0 100=true/\rng (nth l i).perTick 0 100=true)
theorem Ds {P Q:Prop} (h:Q) (e:Q->P:=by intro h;simp (disch:=omega) only [Z9,Ym,go_sem,seval];exact h):P:=e h
theorem eD (n:Net) (l:List Typ) (c:Bool) (i:Nat) (hi:i<l.length) (hl:l.length<=1048576) (hw:n.wf 1048576) (ht:(nth l i).wf 1048576) :
  ACalls Tryz.prog 75 [.p (Cw n),.p (.list c (l.map X8)),.p (.int .i64 (i:Nat))] [] fun x H'=> ∃m:List Int,FR (fun _=>True) (UD n l i) 9 m/\x= .sl 0 0 m.length m.length/\H'= [.elems 1 (m.map eI)]:=by
 obtain ⟨w1,w2,w3,w4⟩:=hw;refine ZX [3] Tryz.func75 rfl Zj5 ?_;simp (disch:=omega) only [Tryz.f75,go_sem,seval];have hty:UD n l i↔((((((((nameOk (nth l i).name=true)/\(∀j,j<i->(nth l j).name≠(nth l i).name))/\rng (nth l i).count 0 10=true)/\(rng (nth l i).src 0 (n.places.length-1)=true/\rng (nth l i).dst 0 (n.places.length-1)=true))/\VH (nth l i).cap (dimsOf l)=true)/\rng (nth l i).skills 0 1073741823=true)/\(rng (nth l i).opn 0 (nth l i).cls=true/\(nth l i).cls<=4096))/\(rng (nth l i).drive 1 4096=true/\rng (nth l i).rest 0 4096=true))/\(rng (nth l i).prof 0 7=true/\rng (nth l i).fixed 0 100000=true/\rng (nth l i).perMile 0 100=true/\rng (nth l i).perTick 0 100=true):=Iff.rfl
 generalize hga:nth l i=t at ht hty ⊢;have hname:=ht.1;have hcap:=ht.2.2.2.2.1;refine Zq (Weak.ofNil 8 1 (by simp (disch:=omega) only [go_sem,seval]) Zb (Weak.refl _ _ _)) ?_;refine ZI [1,2,3,7] (fun m:List Int=> [(8,.sl 2 0 m.length m.length)]) (fun m=>Z9 n++ [Ym t,.elems 1 (m.map eI)]) (fun m=>FR (fun _=>True) (nameOk t.name=true) 1 m) ?_ ?_
 ·refine Zc ?_;refine (Rm t.name hname).use (Zc ?_);refine ZK ?_ ?_<;>intro h0
  ·simp only [XM] at h0;exact ⟨[5],⟨Zb,by simp [h0],Zb⟩,Weak.mk (by simp (disch:=omega) only [Z9,Ym,go_sem,seval])⟩
  ·simp only [XR] at h0;exact ⟨[],FR.nil (by simp [h0]),Weak.mk (by simp (disch:=omega) only [Z9,Ym,go_sem,seval])⟩
 ·skip
  intro m hm;refine Zg [5] _ _ _ _ (Ds ?_);have hml:=hm.len;refine ZI [1,3,7] (fun m:List Int=> [(8,.sl 2 0 m.length m.length)]) (fun m=>Z9 n++ [Ym t,.elems 1 (m.map eI)]) (fun m=>FR (fun _=>True) ((nameOk t.name=true)/\(∀j,j<i->(nth l j).name≠t.name)) 2 m) ?_ ?_
  ·refine Zc ?_;refine (cF l c i t.name Za hl).use (Zc ?_);refine ZK ?_ ?_<;>intro h
   ·exact ⟨m++ [6],hm.yes (by grind [U5]) trivial,Weak.mk (by simp (disch:=omega) only [Z9,Ym,go_sem,seval])⟩
   ·exact ⟨m,hm.no (by exact U5.1 h),Weak.mk (by simp (disch:=omega) only [Z9,Ym,go_sem,seval])⟩
  ·clear hm hml;intro m hm;refine Zg [7] _ _ _ _ (Ds ?_);have hml:=hm.len;refine ZI [1,3,7] (fun m:List Int=> [(8,.sl 2 0 m.length m.length)]) (fun m=>Z9 n++ [Ym t,.elems 1 (m.map eI)]) (fun m=>FR (fun _=>True) (((nameOk t.name=true)/\(∀j,j<i->(nth l j).name≠t.name))/\rng t.count 0 10=true) 3 m) ?_ ?_
   ·refine Zc ?_;refine (VL t.count 0 10).use (Zc ?_);refine ZK ?_ ?_<;>intro h0
    ·simp only [XM] at h0;exact ⟨m++ [22],hm.yes (by simp [h0]) trivial,Weak.mk (by simp (disch:=omega) only [Z9,Ym,go_sem,seval])⟩
    ·simp only [XR] at h0;exact ⟨m,hm.no (by simp [h0]),Weak.mk (by simp (disch:=omega) only [Z9,Ym,go_sem,seval])⟩
   ·clear hm hml;intro m hm;refine Zg [9] _ _ _ _ (Ds ?_);have hml:=hm.len;refine ZI [1,7] (fun m:List Int=> [(8,.sl 2 0 m.length m.length)]) (fun m=>Z9 n++ [Ym t,.elems 1 (m.map eI)]) (fun m=>FR (fun _=>True) ((((nameOk t.name=true)/\(∀j,j<i->(nth l j).name≠t.name))/\rng t.count 0 10=true)/\(rng t.src 0 (n.places.length-1)=true/\rng t.dst 0 (n.places.length-1)=true)) 4 m) ?_ ?_
    ·refine Zc ?_;refine (VL t.src 0 (n.places.length-1)).use (Zc ?_);refine LD ?_ ?_<;>intro h0
     ·simp only [XM] at h0;exact ⟨m++ [11],hm.yes (by simp [h0]) trivial,Weak.mk (by simp (disch:=omega) only [Z9,Ym,go_sem,seval])⟩
     ·simp only [XR] at h0;refine (VL t.dst 0 (n.places.length-1)).use (Zc ?_);refine ZK ?_ ?_<;>intro h1
      ·simp only [XM] at h1;exact ⟨m++ [11],hm.yes (by simp [h1]) trivial,Weak.mk (by simp (disch:=omega) only [Z9,Ym,go_sem,seval])⟩
      ·simp only [XR] at h1;exact ⟨m,hm.no (by simp [h0,h1]),Weak.mk (by simp (disch:=omega) only [Z9,Ym,go_sem,seval])⟩
    ·clear hm hml;intro m hm;refine Zg [11] _ _ _ _ (Ds ?_);have hml:=hm.len;refine ZI [7] (fun m:List Int=> [(8,.sl 2 0 m.length m.length)]) (fun m=>Z9 n++ [Ym t,.elems 1 (m.map eI)]) (fun m=>FR (fun _=>True) (((((nameOk t.name=true)/\(∀j,j<i->(nth l j).name≠t.name))/\rng t.count 0 10=true)/\(rng t.src 0 (n.places.length-1)=true/\rng t.dst 0 (n.places.length-1)=true))/\VH t.cap (dimsOf l)=true) 5 m) ?_ ?_
     ·refine Zc ?_;refine Xq (Zc ?_);refine Zo (Nv l c hl) (Zc ?_);refine Zo (PO t.cap t.cap_c (dimsOf l) hcap) (Zc ?_);refine ZK ?_ ?_<;>intro h
      ·simp only [XM] at h;exact ⟨m++ [17],hm.yes (by simp [h]) trivial,Weak.mk (by simp (disch:=omega) only [Z9,Ym,go_sem,seval])⟩
      ·simp only [XR] at h;exact ⟨m,hm.no (by simp [h]),Weak.mk (by simp (disch:=omega) only [Z9,Ym,go_sem,seval])⟩
     ·clear hm hml;intro m hm;refine Zg [13] _ _ _ _ (Ds ?_);have hml:=hm.len;refine ZI [7] (fun m:List Int=> [(8,.sl 2 0 m.length m.length)]) (fun m=>Z9 n++ [Ym t,.elems 1 (m.map eI)]) (fun m=>FR (fun _=>True) ((((((nameOk t.name=true)/\(∀j,j<i->(nth l j).name≠t.name))/\rng t.count 0 10=true)/\(rng t.src 0 (n.places.length-1)=true/\rng t.dst 0 (n.places.length-1)=true))/\VH t.cap (dimsOf l)=true)/\rng t.skills 0 1073741823=true) 6 m) ?_ ?_
      ·refine Zc ?_;refine (VL t.skills 0 1073741823).use (Zc ?_);refine ZK ?_ ?_<;>intro h0
       ·simp only [XM] at h0;exact ⟨m++ [18],hm.yes (by simp [h0]) trivial,Weak.mk (by simp (disch:=omega) only [Z9,Ym,go_sem,seval])⟩
       ·simp only [XR] at h0;exact ⟨m,hm.no (by simp [h0]),Weak.mk (by simp (disch:=omega) only [Z9,Ym,go_sem,seval])⟩
      ·clear hm hml;intro m hm;refine Zg [15] _ _ _ _ (Ds ?_);have hml:=hm.len;refine ZI [7] (fun m:List Int=> [(8,.sl 2 0 m.length m.length)]) (fun m=>Z9 n++ [Ym t,.elems 1 (m.map eI)]) (fun m=>FR (fun _=>True) (((((((nameOk t.name=true)/\(∀j,j<i->(nth l j).name≠t.name))/\rng t.count 0 10=true)/\(rng t.src 0 (n.places.length-1)=true/\rng t.dst 0 (n.places.length-1)=true))/\VH t.cap (dimsOf l)=true)/\rng t.skills 0 1073741823=true)/\(rng t.opn 0 t.cls=true/\t.cls<=4096)) 7 m) ?_ ?_
       ·refine Zc ?_;refine (VL t.opn 0 t.cls).use (Zc ?_);refine LD ?_ ?_<;>intro h0
        ·simp only [XM] at h0;exact ⟨m++ [15],hm.yes (by simp [h0]) trivial,Weak.mk (by simp (disch:=omega) only [Z9,Ym,go_sem,seval])⟩
        ·simp only [XR] at h0;refine ZK ?_ ?_<;>intro h1
         ·exact ⟨m++ [15],hm.yes Za trivial,Weak.mk (by simp (disch:=omega) only [Z9,Ym,go_sem,seval])⟩
         ·exact ⟨m,hm.no (by grind),Weak.mk (by simp (disch:=omega) only [Z9,Ym,go_sem,seval])⟩
       ·clear hm hml;intro m hm;refine Zg [17] _ _ _ _ (Ds ?_);have hml:=hm.len;refine ZI [7] (fun m:List Int=> [(8,.sl 2 0 m.length m.length)]) (fun m=>Z9 n++ [Ym t,.elems 1 (m.map eI)]) (fun m=>FR (fun _=>True) ((((((((nameOk t.name=true)/\(∀j,j<i->(nth l j).name≠t.name))/\rng t.count 0 10=true)/\(rng t.src 0 (n.places.length-1)=true/\rng t.dst 0 (n.places.length-1)=true))/\VH t.cap (dimsOf l)=true)/\rng t.skills 0 1073741823=true)/\(rng t.opn 0 t.cls=true/\t.cls<=4096))/\(rng t.drive 1 4096=true/\rng t.rest 0 4096=true)) 8 m) ?_ ?_
        ·refine Zc ?_;refine (VL t.drive 1 4096).use (Zc ?_);refine LD ?_ ?_<;>intro h0
         ·simp only [XM] at h0;exact ⟨m++ [16],hm.yes (by simp [h0]) trivial,Weak.mk (by simp (disch:=omega) only [Z9,Ym,go_sem,seval])⟩
         ·simp only [XR] at h0;refine (VL t.rest 0 4096).use (Zc ?_);refine ZK ?_ ?_<;>intro h1
          ·simp only [XM] at h1;exact ⟨m++ [16],hm.yes (by simp [h1]) trivial,Weak.mk (by simp (disch:=omega) only [Z9,Ym,go_sem,seval])⟩
          ·simp only [XR] at h1;exact ⟨m,hm.no (by simp [h0,h1]),Weak.mk (by simp (disch:=omega) only [Z9,Ym,go_sem,seval])⟩
        ·clear hm hml;intro m hm;refine Zg [19] _ _ _ _ (Ds ?_);have hml:=hm.len;refine ZI [] (fun m:List Int=> [(8,.sl 2 0 m.length m.length)]) (fun m=>Z9 n++ [Ym t,.elems 1 (m.map eI)]) (fun m=>FR (fun _=>True) (((((((((nameOk t.name=true)/\(∀j,j<i->(nth l j).name≠t.name))/\rng t.count 0 10=true)/\(rng t.src 0 (n.places.length-1)=true/\rng t.dst 0 (n.places.length-1)=true))/\VH t.cap (dimsOf l)=true)/\rng t.skills 0 1073741823=true)/\(rng t.opn 0 t.cls=true/\t.cls<=4096))/\(rng t.drive 1 4096=true/\rng t.rest 0 4096=true))/\(rng t.prof 0 7=true/\rng t.fixed 0 100000=true/\rng t.perMile 0 100=true/\rng t.perTick 0 100=true)) 9 m) ?_ ?_
         ·refine Zc ?_;refine (VL t.prof 0 7).use (Zc ?_);refine gF ?_ ?_<;>intro h0<;>simp (disch:=omega) only [Sh.out h0,go_sem,seval,↓reduceIte]
          ·simp only [XM] at h0;exact ⟨m++ [2],hm.yes (by simp [h0]) trivial,Weak.mk (by simp (disch:=omega) only [Z9,Ym,go_sem,seval])⟩
          ·simp only [XR] at h0;refine (VL t.fixed 0 100000).use (Zc ?_);refine gF ?_ ?_<;>intro h1<;>simp (disch:=omega) only [Sh.out h1,go_sem,seval,↓reduceIte]
           ·simp only [XM] at h1;exact ⟨m++ [2],hm.yes (by simp [h1]) trivial,Weak.mk (by simp (disch:=omega) only [Z9,Ym,go_sem,seval])⟩
           ·simp only [XR] at h1;refine (VL t.perMile 0 100).use (Zc ?_);refine gF ?_ ?_<;>intro h2<;>simp (disch:=omega) only [Sh.out h2,go_sem,seval,↓reduceIte]
            ·simp only [XM] at h2;exact ⟨m++ [2],hm.yes (by simp [h2]) trivial,Weak.mk (by simp (disch:=omega) only [Z9,Ym,go_sem,seval])⟩
            ·simp only [XR] at h2;refine (VL t.perTick 0 100).use (Zc ?_);refine cD ?_ ?_<;>intro h3<;>simp (disch:=omega) only [Sh.out h3,go_sem,seval,↓reduceIte]
             ·simp only [XM] at h3;exact ⟨m++ [2],hm.yes (by simp [h3]) trivial,Weak.mk (by simp (disch:=omega) only [Z9,Ym,go_sem,seval])⟩
             ·simp only [XR] at h3;exact ⟨m,hm.no (by grind),Weak.mk (by simp (disch:=omega) only [Z9,Ym,go_sem,seval])⟩
         ·clear hm hml;intro m hm;refine Zg [] _ _ _ _ (Ds ?_);have hml:=hm.len;exact ⟨m,hm.to Za (by rw [hty]),2,by simp (disch:=omega) only [go_sem,seval]⟩
def typesOk (n:Net) (l:List Typ):Prop:=rng l.length 1 6=true/\ ∀i,i<l.length->UD n l i
theorem Za5 (n:Net) (l:List Typ) (c:Bool) (hw:n.wf 1048576) (hl:l.length<=1048576) (hlw: ∀t∈l,t.wf 1048576) :
  ACalls Tryz.prog 42 [.p (Cw n),.p (.list c (l.map X8))] [] fun x H'=> ∃m:List Flt,FR (pF 20) (typesOk n l) (1+9*l.length) m/\x= .sl 0 0 m.length m.length/\H'= [.elems 2 (m.map eF)]:=by
 refine ZX [2] Tryz.func42 rfl ZjC ?_;simp (disch:=omega) only [Tryz.f42,go_sem,seval];refine Zq (Weak.ofNil 5 2 (by simp (disch:=omega) only [go_sem,seval]) Zb (Weak.refl _ _ _)) ?_;refine ZI [1,2] (fun m:List Flt=> [(5,.sl 1 0 m.length m.length)]) (fun m=>Z9 n++ [.elems 2 (m.map eF)]) (fun m=>FR (pF 20) (rng l.length 1 6=true) 1 m) ?_ ?_
 ·refine Zc ?_;refine (VL l.length 1 6).use (Zc ?_);refine ZK ?_ ?_<;>intro h
  ·simp only [XM] at h;exact ⟨[(4,[])],⟨Zb,by simp [h],by simp [pF]⟩,Weak.mk (by simp (disch:=omega) only [Z9,go_sem,seval])⟩
  ·simp only [XR] at h;exact ⟨[],FR.nil h,Weak.mk (by simp (disch:=omega) only [Z9,go_sem,seval])⟩
 ·intro m hm;refine Zg [] _ _ _ _ (An ?_);refine Zk [1,2] (fun q:Nat×List Flt=> [(5,.sl 1 0 q.2.length q.2.length),(6,.p (.int .i64 q.1))]) (fun q=>Z9 n++ [.elems 2 (q.2.map eF)]) (fun q=>q.1<=l.length/\FR (pF 20) (rng l.length 1 6=true/\ ∀j,j<q.1->UD n l j) (1+9*q.1) q.2) (fun q=>l.length-q.1) (0,m) ⟨Zb,hm.to Zb Zb⟩ (Weak.mk ?_) ?_
  ·simp (disch:=omega) only [Z9,go_sem,seval]
  ·clear hm;rintro ⟨k,m⟩ ⟨hk,hm⟩;simp only at hk hm;have hml:=hm.len;refine An ?_;refine cD ?_ ?_<;>intro h<;>simp (disch:=omega) only [Sh.out h,go_sem,seval,↓reduceIte]
   ·have hk2:k<l.length:=Za
    have hI:UF (k:Int):=Za
    have hdl:=JB k hI;refine ((eD n l c k hk2 hl hw (hlw _ (Zt hk2))).frozenE).useV fun e he=>Zc ?_;have hel:=he.len;refine Zk [1,2,6,7] (fun q:Nat×List Flt=> [(5,.sl 1 0 q.2.length q.2.length),(8,.p (.int .i64 q.1))]) (fun q=>Z9 n++ [.elems 2 (q.2.map eF)]) (fun q=>q.1<=e.length/\FR (pF 20) ((rng l.length 1 6=true/\ ∀j,j<k->UD n l j)/\q.1=0) (1+9*k+q.1) q.2) (fun q=>e.length-q.1) (0,m) ⟨Zb,hm.to Zb Zb⟩ (Weak.mk ?_) ?_
    ·simp (disch:=omega) only [Z9,go_sem,seval]
    ·clear hm hml;rintro ⟨j,m⟩ ⟨hj,hm⟩;simp only at hj hm;have hml:=hm.len;refine An ?_;refine ZK ?_ ?_<;>intro h2
     ·have hj2:j<e.length:=Za
      refine ZB 9 mixed Zd Zd (Zc ?_);refine Zo (AA k hI) (Zc ?_);exact ⟨(j+1,m++ [(nth e j,Bk k)]),⟨Za,(hm.yes (c:=False) Zb (by grind [pF])).to Za Zb⟩,Za,wk⟩
     ·have hjl:j=e.length:=Za
      subst hjl;exact ⟨(k+1,m),⟨Za,hm.to Za (by simp only [Zp,and_assoc];rw [<- he.emp,List.eq_nil_iff_length_eq_zero])⟩,Za,wk⟩
   ·have hkn:k=l.length:=Za
    subst hkn;exact ⟨m,hm.to Za (by rw [typesOk]),1,by simp (disch:=omega) only [go_sem,seval]⟩
theorem Gl (n lo hi:Int):PC 115 [.p (.int .i64 n),.p (.int .i64 lo),.p (.int .i64 hi)] (.bool (rng n lo hi)):=by
 refine Ze Tryz.func115 rfl Zbw ?_;simp (disch:=omega) only [Tryz.f115,go_sem,seval];refine gT ?_ ?_<;>intro h<;>simp (disch:=omega) only [Sh.out h,go_sem,seval,↓reduceIte]
 all_goals (simp [rng];first | done | omega | (rw [Wf];simp;omega))
def loadOk (l:List Int) (d:Int):Bool:=decide ((l.length:Int)=d)&&l.all fun n=>rng n 0 1000
theorem dT (l:List Int) (c:Bool) (d:Int) (hl:l.length<=1048576):PC 114 [.p (.list c (l.map eI)),.p (.int .i64 d)] (.bool (loadOk l d)):=by
 refine Ze Tryz.func114 rfl Zbv ?_;simp (disch:=omega) only [Tryz.f114,go_sem,seval];refine cD ?_ ?_<;>intro h2<;>simp (disch:=omega) only [Sh.out h2,go_sem,seval]
 ·simp [loadOk,h2]
 ·simp only [Z3] at h2;subst h2;refine Zk [0] (fun k:Nat=> [(5,.p (.int .i64 k))]) (fun _=> []) (fun k=>k<=l.length/\ ∀j,j<k->rng (nth l j) 0 1000=true) (fun k=>l.length-k) 0 Zb (Weak.mk ?_) ?_
  ·simp (disch:=omega) only [go_sem,seval,↓reduceIte]
  ·rintro k ⟨hk,hno⟩;refine Zc ?_;refine cD ?_ ?_<;>intro h3<;>simp (disch:=omega) only [Sh.out h3,go_sem,seval,↓reduceIte]
   ·have hk2:k<l.length:=Za
    have hbad:rng (nth l k) 0 1000=false->loadOk l l.length=false:=fun h4=>by
     grind [Zt,loadOk]
    repeat' (first | (refine VE (fun hq=> ?_) (fun hq=> ?_)<;>(try simp only [Zs,XX,Z3] at hq)<;>simp (disch:=omega) only [Sh.out hq,go_sem,seval]) | (refine gF ?_ ?_<;>intro hq<;>simp (disch:=omega) only [Sh.out hq,go_sem,seval,↓reduceIte]) | (refine cD ?_ ?_<;>intro hq<;>simp (disch:=omega) only [Sh.out hq,go_sem,seval,↓reduceIte]))
    all_goals first
     | (rw [hbad (by simp [rng];omega)])
     | exact ⟨k+1,⟨Za,Zp.2 ⟨hno,by simp [rng];omega⟩⟩,Za,wk⟩
   ·have:l.all (fun n=>rng n 0 1000)=true:=by
     rw [Zx];intro x hx;obtain ⟨j,hj,rfl⟩:=ZN.1 hx
     grind [Zh]
    simp [loadOk,this]
def stpOk (s:Stp):Bool:=decide ((s.place= -1/\s.opn=0/\s.cls=0/\s.serv=0)\/(0<=s.place/\0<=s.opn/\s.opn<=s.cls/\s.cls<=4096/\0<=s.serv/\s.serv<=4096))
def fB (s:Stp):Int:=if stpOk s=true then 0 else 2
theorem jF (s:Stp):PC 116 [.p (F4 s)] (.int .i64 (fB s)):=by
 refine Ze Tryz.func116 rfl Zbx ?_;simp (disch:=omega) only [Tryz.f116,go_sem,seval]
 repeat' (first | (refine gT ?_ ?_<;>intro hq<;>simp (disch:=omega) only [Sh.out hq,go_sem,seval,↓reduceIte]) | (refine gF ?_ ?_<;>intro hq<;>simp (disch:=omega) only [Sh.out hq,go_sem,seval,↓reduceIte]) | (refine cD ?_ ?_<;>intro hq<;>simp (disch:=omega) only [Sh.out hq,go_sem,seval,↓reduceIte]))
 all_goals (simp only [fB,stpOk,Zs])
 all_goals first
  | (exfalso;omega)
  | (rw [if_pos Za])
  | (rw [if_neg Za])
def Qx (l:List Ord) (i:Nat):Bool:=(List.range i).all fun j=>decide ((nth l j).name≠(nth l i).name)
theorem K9 {l:List Ord} {i:Nat} :Qx l i=true↔ ∀j,j<i->(nth l j).name≠(nth l i).name:=by simp [Qx]
def Vz (b:Bool) (e:Int):List Int:=if b=true then [] else [e]
theorem Qb (b:Bool) (e:Int):(Vz b e).length<=1:=by grind [Vz]
theorem Q4 {b:Bool} {e:Int} {m p:List Int} (h:m=p) (hb:b=true):m=p++Vz b e:=by simp [Vz,hb,h]
theorem UR {b:Bool} {e:Int} {m p:List Int} (h:m=p) (hb:b=false):m++ [e]=p++Vz b e:=by simp [Vz,hb,h]
def Wg (t:Ord):AM.Obj:= .cells [.p (.str t.name),.p (.list t.load_c (t.load.map eI)),.p (.int .i64 t.pick.place),.p (.int .i64 t.pick.opn),.p (.int .i64 t.pick.cls),.p (.int .i64 t.pick.serv),.p (.int .i64 t.drp.place),.p (.int .i64 t.drp.opn),.p (.int .i64 t.drp.cls),.p (.int .i64 t.drp.serv),.p (.int .i64 t.skills),.p (.int .i64 t.penalty),.p (.int .i64 t.split),.p (.int .i64 t.last),.p (.int .i64 t.now),.p (.bool t.off)]
def Lw (t:Ord):Bool:=decide (t.pick.place≠ -1)&&decide (t.drp.place≠ -1)
def argOk (t:Ord) (ty:Int):Bool:=rng t.penalty (-1) 1000000&&rng t.split 1 4&&decide (¬(1<t.split/\Lw t=true)/\ -1<=t.last/\t.last<ty/\ -1<=t.now/\t.now<ty)
def Wq (np:Nat) (d ty:Int) (l:List Ord) (i:Nat):List Int:=Vz (nameOk (nth l i).name) 5++Vz (Qx l i) 6++Vz (loadOk (nth l i).load d) 17++Vz ((rng (nth l i).pick.place (-1) ((np:Int)-1)&&rng (nth l i).drp.place (-1) ((np:Int)-1))) 11++Vz (decide (¬((nth l i).pick.place= -1/\(nth l i).drp.place= -1))) 19++Vz ((stpOk (nth l i).pick&&stpOk (nth l i).drp)) 14++Vz (rng (nth l i).skills 0 1073741823) 18++Vz (argOk (nth l i) ty) 2
theorem C6 (np:Nat) (d ty:Int) (l:List Ord) (i:Nat):(Wq np d ty l i).length<=8:=by
 grind [Qb,Wq,ZJ]
theorem Bw {P Q:Prop} (h:Q) (e:Q->P:=by intro h;simp (disch:=omega) only [Wg,go_sem,seval];exact h):P:=e h
theorem eE (np:Nat) (d ty:Int) (l:List Ord) (c:Bool) (i:Nat) (hi:i<l.length) (hl:l.length<=1048576) (hnp:np<=1048576) (ht:(nth l i).wf 1048576) :
  ACalls Tryz.prog 77 [.p (.int .i64 (np:Nat)),.p (.int .i64 d),.p (.int .i64 ty),.p (.list c (l.map Yo)),.p (.int .i64 (i:Nat))] [] fun x H'=>x= .sl 0 0 (Wq np d ty l i).length (Wq np d ty l i).length/\H'= [.elems 1 ((Wq np d ty l i).map eI)]:=by
 suffices hh:ACalls Tryz.prog 77 [.p (.int .i64 (np:Nat)),.p (.int .i64 d),.p (.int .i64 ty),.p (.list c (l.map Yo)),.p (.int .i64 (i:Nat))] [] fun x H'=> ∃m:List Int,m=Wq np d ty l i/\x= .sl 0 0 m.length m.length/\H'= [.elems 1 (m.map eI)] by
  grind
 refine ZX [3] Tryz.func77 rfl Zj7 ?_;simp (disch:=omega) only [Tryz.f77,go_sem,seval];have hty:Wq np d ty l i=Vz (nameOk (nth l i).name) 5++Vz (Qx l i) 6++Vz (loadOk (nth l i).load d) 17++Vz ((rng (nth l i).pick.place (-1) ((np:Int)-1)&&rng (nth l i).drp.place (-1) ((np:Int)-1))) 11++Vz (decide (¬((nth l i).pick.place= -1/\(nth l i).drp.place= -1))) 19++Vz ((stpOk (nth l i).pick&&stpOk (nth l i).drp)) 14++Vz (rng (nth l i).skills 0 1073741823) 18++Vz (argOk (nth l i) ty) 2:=rfl
 have hleng: ∀m:List Int,∀p:List Int,m=p->p.length<=8->m.length<=8:=fun m p h1 h2=>by grind
 generalize hga:nth l i=t at ht hty ⊢;have hname:=ht.1;have hload:=ht.2.1;refine Zq (Weak.ofNil 11 1 (by simp (disch:=omega) only [go_sem,seval]) Zb (Weak.refl _ _ _)) ?_;refine ZI [0,1,2,3,4,12] (fun m:List Int=> [(11,.sl 1 0 m.length m.length)]) (fun m=> [Wg t,.elems 1 (m.map eI)]) (fun m=>m=Vz (nameOk t.name) 5) ?_ ?_
 ·refine Zc ?_;refine (Rm t.name hname).use (Zc ?_);refine cD ?_ ?_<;>intro h<;>simp (disch:=omega) only [Sh.out h,go_sem,seval,↓reduceIte]
  ·simp only [XM] at h;exact ⟨[5],by simp [Vz,h],Weak.mk (by simp (disch:=omega) only [Wg,go_sem,seval])⟩
  ·simp only [XR] at h;exact ⟨[],by simp [Vz,h],Weak.mk (by simp (disch:=omega) only [Wg,go_sem,seval])⟩
 ·skip
  intro m hm;refine Zg [5] _ _ _ _ (Bw ?_)
  have hml:m.length<=8:=by
   grind [Qb]
  refine ZI [0,1,2,12] (fun m:List Int=> [(11,.sl 1 0 m.length m.length)]) (fun m=> [Wg t,.elems 1 (m.map eI)]) (fun m=>m=Vz (nameOk t.name) 5++Vz (Qx l i) 6) ?_ ?_
  ·refine Zc ?_;refine Zk [0,1,2,3,4,11,12] (fun k:Nat=> [(13,.p (.int .i64 k))]) (fun _=> [Wg t,.elems 1 (m.map eI)]) (fun k=>k<=i/\ ∀j,j<k->(nth l j).name≠(nth l i).name) (fun k=>i-k) 0 Zb (Weak.mk ?_) ?_
   ·simp (disch:=omega) only [Wg,go_sem,seval,↓reduceIte]
   ·rintro k ⟨hk,hno⟩;refine Bw ?_;refine cD ?_ ?_<;>intro h3<;>simp (disch:=omega) only [Sh.out h3,go_sem,seval,↓reduceIte]
    ·have hk2:k<l.length:=Za
     refine Xq (Zc ?_);refine ZK ?_ ?_<;>intro h4
     ·exact ⟨m++ [6],UR hm (by grind [K9]),wk⟩
     ·exact ⟨k+1,⟨Za,Zp.2 ⟨hno,by grind⟩⟩,Za,wk⟩
    ·have hki:k=i:=Za
     subst hki;exact ⟨m,Q4 hm (K9.2 hno),wk⟩
  ·clear hm hml;intro m hm;refine Zg [10] _ _ _ _ (Bw ?_)
   have hml:m.length<=8:=by
    grind [Qb]
   refine ZI [0,2,12] (fun m:List Int=> [(11,.sl 1 0 m.length m.length)]) (fun m=> [Wg t,.elems 1 (m.map eI)]) (fun m=>m=Vz (nameOk t.name) 5++Vz (Qx l i) 6++Vz (loadOk t.load d) 17) ?_ ?_
   ·refine Zc ?_;refine (dT t.load t.load_c d hload).use (Zc ?_);refine cD ?_ ?_<;>intro h<;>simp (disch:=omega) only [Sh.out h,go_sem,seval,↓reduceIte]
    ·simp only [XM] at h;exact ⟨m++ [17],UR hm (h),Weak.mk (by simp (disch:=omega) only [Wg,go_sem,seval])⟩
    ·simp only [XR] at h;exact ⟨m,Q4 hm (h),Weak.mk (by simp (disch:=omega) only [Wg,go_sem,seval])⟩
   ·clear hm hml;intro m hm;refine Zg [12] _ _ _ _ (Bw ?_)
    have hml:m.length<=8:=by
     grind [ZJ,Qb]
    refine ZI [2,12] (fun m:List Int=> [(11,.sl 1 0 m.length m.length)]) (fun m=> [Wg t,.elems 1 (m.map eI)]) (fun m=>m=Vz (nameOk t.name) 5++Vz (Qx l i) 6++Vz (loadOk t.load d) 17++Vz ((rng t.pick.place (-1) ((np:Int)-1)&&rng t.drp.place (-1) ((np:Int)-1))) 11) ?_ ?_
    ·refine Zc ?_;refine (Gl t.pick.place (-1) ((np:Int)-1)).use (Zc ?_);refine LD ?_ ?_<;>intro h
     ·simp only [XM] at h;exact ⟨m++ [11],UR hm (by simp [h]),Weak.mk (by simp (disch:=omega) only [Wg,go_sem,seval])⟩
     ·simp only [XR] at h;refine (Gl t.drp.place (-1) ((np:Int)-1)).use (Zc ?_);refine ZK ?_ ?_<;>intro h2
      ·simp only [XM] at h2;exact ⟨m++ [11],UR hm (by simp [h2]),Weak.mk (by simp (disch:=omega) only [Wg,go_sem,seval])⟩
      ·simp only [XR] at h2;exact ⟨m,Q4 hm (by simp [h,h2]),Weak.mk (by simp (disch:=omega) only [Wg,go_sem,seval])⟩
    ·clear hm hml;intro m hm;refine Zg [14] _ _ _ _ (Bw ?_)
     have hml:m.length<=8:=by
      grind [ZJ,Qb]
     refine ZI [2,12] (fun m:List Int=> [(11,.sl 1 0 m.length m.length)]) (fun m=> [Wg t,.elems 1 (m.map eI)]) (fun m=>m=Vz (nameOk t.name) 5++Vz (Qx l i) 6++Vz (loadOk t.load d) 17++Vz ((rng t.pick.place (-1) ((np:Int)-1)&&rng t.drp.place (-1) ((np:Int)-1))) 11++Vz (decide (¬(t.pick.place= -1/\t.drp.place= -1))) 19) ?_ ?_
     ·refine Zc ?_
      repeat' (first | (refine gT ?_ ?_<;>intro hq<;>simp (disch:=omega) only [Sh.out hq,go_sem,seval]) | (refine Up (fun hq=> ?_) (fun hq=> ?_)<;>(try simp only [Zs,XX,Z3] at hq)<;>simp (disch:=omega) only [Sh.out hq,go_sem,seval]) | (refine cD ?_ ?_<;>intro hq<;>simp (disch:=omega) only [Sh.out hq,go_sem,seval]))
      all_goals first
       | exact ⟨m++ [19],UR hm (by first | (simp;done) | (simp;omega)),Weak.mk (by simp (disch:=omega) only [Wg,go_sem,seval])⟩
       | exact ⟨m,Q4 hm (by first | (simp;done) | (simp;omega)),Weak.mk (by simp (disch:=omega) only [Wg,go_sem,seval])⟩
     ·clear hm hml;intro m hm;refine Zg [16] _ _ _ _ (Bw ?_)
      have hml:m.length<=8:=by
       grind [ZJ,Qb]
      refine ZI [2,12] (fun m:List Int=> [(11,.sl 1 0 m.length m.length)]) (fun m=> [Wg t,.elems 1 (m.map eI)]) (fun m=>m=Vz (nameOk t.name) 5++Vz (Qx l i) 6++Vz (loadOk t.load d) 17++Vz ((rng t.pick.place (-1) ((np:Int)-1)&&rng t.drp.place (-1) ((np:Int)-1))) 11++Vz (decide (¬(t.pick.place= -1/\t.drp.place= -1))) 19++Vz ((stpOk t.pick&&stpOk t.drp)) 14) ?_ ?_
      ·refine Zc ?_;refine (jF t.pick).use (Zc ?_)
       cases h:stpOk t.pick with
       | false =>
        simp (disch:=omega) only [fB,h,go_sem,seval];exact ⟨m++ [14],UR hm (by simp []),Weak.mk (by simp (disch:=omega) only [Wg,go_sem,seval])⟩
       | true =>
        simp (disch:=omega) only [fB,h,go_sem,seval];refine (jF t.drp).use (Zc ?_)
        cases h2:stpOk t.drp with
        | false =>
         simp (disch:=omega) only [fB,h2,go_sem,seval];exact ⟨m++ [14],UR hm (by simp []),Weak.mk (by simp (disch:=omega) only [Wg,go_sem,seval])⟩
        | true =>
         simp (disch:=omega) only [fB,h2,go_sem,seval];exact ⟨m,Q4 hm (by simp []),Weak.mk (by simp (disch:=omega) only [Wg,go_sem,seval])⟩
      ·clear hm hml;intro m hm;refine Zg [18] _ _ _ _ (Bw ?_)
       have hml:m.length<=8:=by
        grind [ZJ,Qb]
       refine ZI [2,12] (fun m:List Int=> [(11,.sl 1 0 m.length m.length)]) (fun m=> [Wg t,.elems 1 (m.map eI)]) (fun m=>m=Vz (nameOk t.name) 5++Vz (Qx l i) 6++Vz (loadOk t.load d) 17++Vz ((rng t.pick.place (-1) ((np:Int)-1)&&rng t.drp.place (-1) ((np:Int)-1))) 11++Vz (decide (¬(t.pick.place= -1/\t.drp.place= -1))) 19++Vz ((stpOk t.pick&&stpOk t.drp)) 14++Vz (rng t.skills 0 1073741823) 18) ?_ ?_
       ·refine Zc ?_;refine (Gl t.skills 0 1073741823).use (Zc ?_);refine ZK ?_ ?_<;>intro h
        ·simp only [XM] at h;exact ⟨m++ [18],UR hm (h),Weak.mk (by simp (disch:=omega) only [Wg,go_sem,seval])⟩
        ·simp only [XR] at h;exact ⟨m,Q4 hm (h),Weak.mk (by simp (disch:=omega) only [Wg,go_sem,seval])⟩
       ·clear hm hml;intro m hm;refine Zg [20] _ _ _ _ (Bw ?_)
        have hml:m.length<=8:=by
         grind [ZJ,Qb]
        refine ZI [2,11,12] (fun b:Bool=> [(14,.p (.bool b))]) (fun _=> [Wg t,.elems 1 (m.map eI)]) (fun b=>b=Lw t) ?_ ?_
        ·refine Zc ?_
         repeat' (first | (refine VE (fun hq=> ?_) (fun hq=> ?_)<;>(try simp only [Zs,XX,Z3] at hq)<;>simp (disch:=omega) only [Sh.out hq,go_sem,seval]) | (refine Up (fun hq=> ?_) (fun hq=> ?_)<;>(try simp only [Zs,XX,Z3] at hq)<;>simp (disch:=omega) only [Sh.out hq,go_sem,seval]) | (refine U0 (fun hq=> ?_) (fun hq=> ?_)<;>(try simp only [Zs,XX,Z3] at hq)<;>simp (disch:=omega) only [Sh.out hq,go_sem,seval]))
         all_goals refine ⟨Lw t,rfl,Weak.mk ?_⟩
         all_goals (simp (disch:=omega) only [Wg,go_sem,seval];simp [Lw, *])
        ·rintro b hb;refine Zg [21] _ _ _ _ (Bw ?_);refine ZI [] (fun m:List Int=> [(11,.sl 1 0 m.length m.length)]) (fun m=> [Wg t,.elems 1 (m.map eI)]) (fun m=>m=Vz (nameOk t.name) 5++Vz (Qx l i) 6++Vz (loadOk t.load d) 17++Vz ((rng t.pick.place (-1) ((np:Int)-1)&&rng t.drp.place (-1) ((np:Int)-1))) 11++Vz (decide (¬(t.pick.place= -1/\t.drp.place= -1))) 19++Vz ((stpOk t.pick&&stpOk t.drp)) 14++Vz (rng t.skills 0 1073741823) 18++Vz (argOk t ty) 2) ?_ ?_
         ·refine Zc ?_;refine (Gl t.penalty (-1) 1000000).use (Zc ?_);refine gF ?_ ?_<;>intro h<;>simp (disch:=omega) only [Sh.out h,go_sem,seval,↓reduceIte]
          ·simp only [XM] at h;exact ⟨m++ [2],UR hm (by simp [argOk,h]),Weak.mk (by simp (disch:=omega) only [Wg,go_sem,seval])⟩
          ·simp only [XR] at h;refine (Gl t.split 1 4).use (Zc ?_);refine gF ?_ ?_<;>intro h2<;>simp (disch:=omega) only [Sh.out h2,go_sem,seval,↓reduceIte]
           ·simp only [XM] at h2;exact ⟨m++ [2],UR hm (by simp [argOk,h2]),Weak.mk (by simp (disch:=omega) only [Wg,go_sem,seval])⟩
           ·simp only [XR] at h2
            cases b with
            | true =>
             repeat' (first | (refine gT ?_ ?_<;>intro hq<;>simp (disch:=omega) only [Sh.out hq,go_sem,seval,↓reduceIte]) | (refine gF ?_ ?_<;>intro hq<;>simp (disch:=omega) only [Sh.out hq,go_sem,seval,↓reduceIte]) | (refine cD ?_ ?_<;>intro hq<;>simp (disch:=omega) only [Sh.out hq,go_sem,seval,↓reduceIte]))
             all_goals first
              | exact ⟨m++ [2],UR hm (by rw [argOk,<- hb];first | (simp;done) | (simp;omega)),Weak.mk (by simp (disch:=omega) only [Wg,go_sem,seval])⟩
              | exact ⟨m,Q4 hm (by grind [argOk]),Weak.mk (by simp (disch:=omega) only [Wg,go_sem,seval])⟩
            | false =>
             repeat' (first | (refine gT ?_ ?_<;>intro hq<;>simp (disch:=omega) only [Sh.out hq,go_sem,seval,↓reduceIte]) | (refine gF ?_ ?_<;>intro hq<;>simp (disch:=omega) only [Sh.out hq,go_sem,seval,↓reduceIte]) | (refine cD ?_ ?_<;>intro hq<;>simp (disch:=omega) only [Sh.out hq,go_sem,seval,↓reduceIte]))
             all_goals first
              | exact ⟨m++ [2],UR hm (by rw [argOk,<- hb];first | (simp;done) | (simp;omega)),Weak.mk (by simp (disch:=omega) only [Wg,go_sem,seval])⟩
              | exact ⟨m,Q4 hm (by rw [argOk,<- hb,h,h2];first | (simp;done) | (simp;omega)),Weak.mk (by simp (disch:=omega) only [Wg,go_sem,seval])⟩
         ·clear hm hml;intro m hm;refine Zg [] _ _ _ _ (Bw ?_)
          have hml:m.length<=8:=by
           grind [ZJ,Qb]
          exact ⟨m,by rw [hm,hty],1,by simp (disch:=omega) only [go_sem,seval]⟩
def Ya (np:Nat) (d ty:Int) (l:List Ord) (k:Nat):List Flt:=(if l.length<=10 then [] else [(4,[])])++(List.range k).flatMap fun i=>(Wq np d ty l i).map fun e=>(e,Bk i)
theorem C8 (np:Nat) (d ty:Int) (l:List Ord) (k:Nat):Ya np d ty l (k+1)=Ya np d ty l k++(Wq np d ty l k).map fun e=>(e,Bk k):=by
 simp [Ya,X6]
theorem Q2 (np:Nat) (d ty:Int) (l:List Ord): ∀k,(Ya np d ty l k).length<=1+8*k
 | 0=>by simp [Ya];grind
 | k+1=>by
  have h1:=Q2 np d ty l k;have h2:=C6 np d ty l k;rw [C8];simp;omega
theorem Za6 (n:Net) (d ty:Int) (l:List Ord) (c:Bool) (hw:n.wf 1048576) (hl:l.length<=1048576) (hlw: ∀t∈l,t.wf 1048576) :
  ACalls Tryz.prog 43 [.p (Cw n),.p (.int .i64 d),.p (.int .i64 ty),.p (.list c (l.map Yo))] [] fun x H'=>x= .sl 0 0 (Ya n.places.length d ty l l.length).length (Ya n.places.length d ty l l.length).length/\H'= [.elems 2 ((Ya n.places.length d ty l l.length).map eF)]:=by
 obtain ⟨w1,w2,w3,w4⟩:=hw
 suffices hh:ACalls Tryz.prog 43 [.p (Cw n),.p (.int .i64 d),.p (.int .i64 ty),.p (.list c (l.map Yo))] [] fun x H'=> ∃m:List Flt,m=Ya n.places.length d ty l l.length/\x= .sl 0 0 m.length m.length/\H'= [.elems 2 (m.map eF)] by
  grind
 refine ZX [2] Tryz.func43 rfl ZjD ?_;simp (disch:=omega) only [Tryz.f43,go_sem,seval];refine Zq (Weak.ofNil 9 2 (by simp (disch:=omega) only [go_sem,seval]) Zb (Weak.refl _ _ _)) ?_;refine ZI [1,2,3,4] (fun m:List Flt=> [(9,.sl 1 0 m.length m.length)]) (fun m=>Z9 n++ [.elems 2 (m.map eF)]) (fun m=>m=Ya n.places.length d ty l 0) ?_ ?_
 ·refine Zc ?_;refine ZK ?_ ?_<;>intro h
  ·exact ⟨[(4,[])],by rw [Ya,if_neg Za];rfl,Weak.mk (by simp (disch:=omega) only [Z9,go_sem,seval])⟩
  ·exact ⟨[],by rw [Ya,if_pos Za];rfl,Weak.mk (by simp (disch:=omega) only [Z9,go_sem,seval])⟩
 ·intro m hm;refine Zg [] _ _ _ _ (An ?_);refine Zk [1,2,3,4] (fun q:Nat×List Flt=> [(9,.sl 1 0 q.2.length q.2.length),(10,.p (.int .i64 q.1))]) (fun q=>Z9 n++ [.elems 2 (q.2.map eF)]) (fun q=>q.1<=l.length/\q.2=Ya n.places.length d ty l q.1) (fun q=>l.length-q.1) (0,m) ⟨Zb,hm⟩ (Weak.mk ?_) ?_
  ·simp (disch:=omega) only [Z9,go_sem,seval]
  ·clear hm;rintro ⟨k,m⟩ ⟨hk,hm⟩;simp only at hk hm;have hml:=Q2 n.places.length d ty l k;rw [<- hm] at hml;refine An ?_;refine cD ?_ ?_<;>intro h<;>simp (disch:=omega) only [Sh.out h,go_sem,seval,↓reduceIte]
   ·have hk2:k<l.length:=Za
    have hI:UF (k:Int):=Za
    have hrl:=C6 n.places.length d ty l k;refine ((eE n.places.length d ty l c k hk2 hl w1 (hlw _ (Zt hk2))).frozen Zb).use (Zc ?_);generalize hre:Wq n.places.length d ty l k=e at hrl ⊢;refine Zk [1,2,3,4,10,11] (fun q:Nat×List Flt=> [(9,.sl 1 0 q.2.length q.2.length),(12,.p (.int .i64 q.1))]) (fun q=>Z9 n++ [.elems 2 (q.2.map eF)]) (fun q=>q.1<=e.length/\q.2=Ya n.places.length d ty l k++(e.take q.1).map fun e=>(e,Bk k)) (fun q=>e.length-q.1) (0,m) ⟨Zb,by simp [hm]⟩ (Weak.mk ?_) ?_
    ·simp (disch:=omega) only [Z9,go_sem,seval]
    ·clear hm hml;rintro ⟨j,m⟩ ⟨hj,hm⟩;simp only at hj hm;have hml:=Q2 n.places.length d ty l k
     have hml2:m.length<=1+8*k+8:=by grind
     refine An ?_;refine ZK ?_ ?_<;>intro h2
     ·have hj2:j<e.length:=Za
      refine ZB 9 mixed Zd Zd (Zc ?_);refine Zo (AA k hI) (Zc ?_);refine ⟨(j+1,m++ [(nth e j,Bk k)]),⟨Za,?_⟩,Za,wk⟩
      grind [XZ,Zh]
     ·have hjl:j=e.length:=Za
      subst hjl;refine ⟨(k+1,m),⟨Za,?_⟩,Za,wk⟩
      grind [C8]
   ·have hkn:k=l.length:=Za
    subst hkn;exact ⟨m,hm,1,by simp (disch:=omega) only [go_sem,seval]⟩
theorem fC {s:Stp} :stpOk s=true↔((s.place= -1/\s.opn=0/\s.cls=0/\s.serv=0)\/(0<=s.place/\0<=s.opn/\s.opn<=s.cls/\s.cls<=4096/\0<=s.serv/\s.serv<=4096)):=by simp [stpOk]
structure OrdOk (np:Nat) (d ty:Int) (l:List Ord) (i:Nat):Prop where
 name:nameOk (nth l i).name=true
 twin: ∀j,j<i->(nth l j).name≠(nth l i).name
 load:loadOk (nth l i).load d=true
 pick: -1<=(nth l i).pick.place/\(nth l i).pick.place<np
 drp: -1<=(nth l i).drp.place/\(nth l i).drp.place<np
 one: ¬((nth l i).pick.place= -1/\(nth l i).drp.place= -1)
 pstp:stpOk (nth l i).pick=true
 dstp:stpOk (nth l i).drp=true
 skills:0<=(nth l i).skills/\(nth l i).skills<=1073741823
 arg:argOk (nth l i) ty=true
theorem wP {b:Bool} {e:Int} :Vz b e= []↔b=true:=by grind [Vz]
theorem Mi {np:Nat} {d ty:Int} {l:List Ord} {i:Nat} :Wq np d ty l i= []↔OrdOk np d ty l i:=by
 simp only [Wq,Ue,wP,ZE,Zs,rng,K9]
 constructor
 ·rintro ⟨⟨⟨⟨⟨⟨⟨a1,a2⟩,a3⟩,a4⟩,a5⟩,a6⟩,a7⟩,a8⟩;exact ⟨a1,a2,a3,Za,Za,a5,a6.1,a6.2,a7,a8⟩
 ·intro h;obtain ⟨b1,b2⟩:=h.pick;obtain ⟨b3,b4⟩:=h.drp;exact ⟨⟨⟨⟨⟨⟨⟨h.name,h.twin⟩,h.load⟩,Za,Za⟩,h.one⟩,h.pstp,h.dstp⟩,h.skills⟩,h.arg⟩
def ordersOk (np:Nat) (d ty:Int) (l:List Ord):Prop:=l.length<=10/\ ∀i,i<l.length->OrdOk np d ty l i
theorem EA {np:Nat} {d ty:Int} {l:List Ord} :Ya np d ty l l.length= []↔ordersOk np d ty l:=by
 simp_all [Ya,Mi,ordersOk]
theorem Rs {np:Nat} {d ty:Int} {l:List Ord} (hl:l.length<=1048576): ∀f∈Ya np d ty l l.length,pF 20 f:=by
 intro f hf;simp only [Ya,Xj,XS,Zz,Xn] at hf;rcases hf with hf | ⟨i,hi,e,he,rfl⟩
 ·grind [pF]
 ·exact JB i Za
theorem RH (n:Int) (h0:0<=n) (hn:n<=4611686018427387904):PC 117 [.p (.int .i64 n)] (.str (dec n.toNat)):=by
 refine Ze Tryz.func117 rfl Zby ?_;simp (disch:=omega) only [Tryz.f117,go_sem,seval];refine Zk [] (fun q:Int×List UInt8=> [(0,.p (.int .i64 q.1)),(3,.p (.str q.2))]) (fun _=> []) (fun q=>0<=q.1/\q.1<=n/\dec q.1.toNat++q.2=dec n.toNat) (fun q=>q.1.toNat) (n,[]) (by simp [h0]) (Weak.mk ?_) ?_
 ·simp (disch:=omega) only [go_sem,seval]
 ·rintro ⟨m,s⟩ ⟨hm,hmn,hs⟩;simp only at hm hmn hs;have hl:=Sz _ n.toNat (Nat.lt_succ_self _)
  have hl2:(dec m.toNat).length+s.length=(dec n.toNat).length:=by grind
  simp (disch:=first | omega | (simp only [ZC,ZG,ZJ,Z2,Xi,XN]<;>omega)) only [go_sem,seval];refine cD ?_ ?_<;>intro h<;>simp (disch:=omega) only [Sh.out h,go_sem,seval,↓reduceIte]
  ·simp (disch:=first | omega | (simp only [ZC,ZG,ZJ,Z2,Xi,XN]<;>omega)) only [go_sem,seval]
   have h2: ¬m.toNat<10:=Za
   have e1:(48+m%10).toNat=48+m.toNat%10:=Za
   have e2:(m / 10).toNat=m.toNat / 10:=Za
   refine ⟨(m / 10,UInt8.ofNat (48+m%10).toNat::s),⟨Za,Za,?_⟩,Za,Weak.mk ?_⟩
   ·simp only [e1,e2];rw [<- hs,dec.eq_def m.toNat,dif_neg h2];simp
   ·simp (disch:=omega) only [go_sem,seval]
  ·simp (disch:=first | omega | (simp only [ZC,ZG,ZJ,Z2,Xi,XN]<;>omega)) only [go_sem,seval]
   have h2:m.toNat<10:=Za
   have e1:(48+m).toNat=48+m.toNat:=Za
   rw [<- hs,dec.eq_def m.toNat,dif_pos h2,e1]
   rfl
def cW (n:Int) (p:Int×Int):Bool:=decide (0<=p.1/\p.1<n)&&decide (0<=p.2/\p.2<n)&&decide (¬p.1=p.2)
def atW (word:List UInt8) (i:Nat):List UInt8:=word++ [32]++dec i
def SK (n:Int) (word:List UInt8) (sm:Int×Int->Int×Int->Bool) (l:List (Int×Int)) (i:Nat):List (Int×List UInt8) :=
 if cW n (nth l i)=false then [(2,atW word i)] else if (l.take i).any (sm (nth l i)) then [(6,atW word i)] else []
def HA (word:List UInt8) (l:List (Int×Int)):List (Int×List UInt8):=if 16<l.length then [(4,word)] else []
def JF (n:Int) (word:List UInt8) (sm:Int×Int->Int×Int->Bool) (l:List (Int×Int)) (k:Nat):List (Int×List UInt8):=HA word l++(List.range k).flatMap (SK n word sm l)
theorem Ib (n word sm l k):JF n word sm l (k+1)=JF n word sm l k++SK n word sm l k:=by grind [JF,X6]
theorem Ic (n word sm l):JF n word sm l 0=HA word l:=by simp [JF]
theorem uC (n word sm l i):(SK n word sm l i).length<=1:=by grind [SK]
theorem Cz (n word sm l): ∀k,(JF n word sm l k).length<=k+1:=by
 intro k
 induction k with
 | zero=>grind [Ic,HA]
 | succ k ih=>grind [Ib,uC]
def chk (n:Int) (ap be:List (Int×Int)):List (Int×List UInt8) :=
 JF n [97,112,97,114,116] (fun p q=>decide (p=q\/(p.1=q.2/\p.2=q.1))) ap ap.length++JF n [98,101,102,111,114,101] (fun p q=>decide (p=q)) be be.length
def Fw (turned:Bool) (p q:Int×Int):Bool:=decide (q.1=p.1/\q.2=p.2)||(turned&&decide (q.1=p.2/\q.2=p.1))
theorem pN : Fw true=fun p q=>decide (p=q\/(p.1=q.2/\p.2=q.1)):=by
 funext p q
 simp only [Fw,VS,Zd6]
 grind
theorem eQ : Fw false=fun p q=>decide (p=q):=by
 funext p q
 simp only [Fw,QU,Bool.or_false]
 grind
def tw (turned:Bool) (l:List (Int×Int)) (p:Int×Int) (j:Nat):Bool:=(l.take j).any (Fw turned p)
theorem xK (turned l p):tw turned l p 0=false:=by simp [tw]
theorem xJ (turned:Bool) (l:List (Int×Int)) (p:Int×Int) (j:Nat) (h:j<l.length):tw turned l p (j+1)=(tw turned l p j||Fw turned p (nth l j)):=by
 rw [tw,tw,XZ h,List.any_append,Zh h];simp
theorem NC (n:Int) (word:List UInt8) (l:List (Int×Int)) (c:Bool) (turned:Bool) (hw:word.length<=1000) (hl:l.length<=1048576) :
  ACalls Tryz.prog 78 [.p (.int .i64 n),.p (.list c (l.map eP)),.p (.str word),.p (.bool turned)] [] fun x H'=>x= .sl 0 0 (JF n word (Fw turned) l l.length).length (JF n word (Fw turned) l l.length).length/\H'= [.elems 2 ((JF n word (Fw turned) l l.length).map eF)]:=by
 refine Hm [2] (fn:=Tryz.f78) Zb Tryz.func78 rfl Zj8 ?_;simp (disch:=omega) only [Tryz.f78,go_sem,seval];refine Zq (Weak.ofNil 9 2 (by simp (disch:=omega) only [go_sem,seval]) Zb (Weak.refl _ _ _)) (Zc ?_);refine ZI [0,1,2,3] (fun _:Unit=> [(9,.sl 0 0 (HA word l).length (HA word l).length)]) (fun _=> [.elems 2 ((HA word l).map eF)]) (fun _=>True) ?_ ?_
 ·refine Zc ?_;refine cD ?_ ?_<;>intro h<;>simp (disch:=omega) only [Sh.out h,go_sem,seval,↓reduceIte]
  ·refine ⟨(),Weak.mk ?_⟩
   have h2:16<l.length:=Za
   simp (disch:=omega) only [HA,h2,go_sem,seval,↓reduceIte]
  ·refine ⟨(),Weak.mk ?_⟩
   have h2: ¬ 16<l.length:=Za
   simp (disch:=omega) only [HA,h2,go_sem,seval,↓reduceIte]
 ·intro _ _;refine Zg [] _ _ _ _ (Zc ?_);refine Zk [0,1,2,3] (fun k:Nat=> [(9,.sl 0 0 (JF n word (Fw turned) l k).length (JF n word (Fw turned) l k).length),(10,.p (.int .i64 k))]) (fun k=> [.elems 2 ((JF n word (Fw turned) l k).map eF)]) (fun k=>k<=l.length) (fun k=>l.length-k) 0 Zb (Weak.mk ?_) ?_
  ·simp (disch:=omega) only [Ic,go_sem,seval,↓reduceIte]
  ·intro k hk;have hfl:=Cz n word (Fw turned) l k;have hdl:=Sz _ k (Nat.lt_succ_self _);refine Zc ?_;refine cD ?_ ?_<;>intro h<;>simp (disch:=omega) only [Sh.out h,go_sem,seval,↓reduceIte]
   ·have hk2:k<l.length:=Za
    simp (disch:=first | omega | (simp only [ZC,ZG,ZJ,Z2,Xi,XN]<;>omega)) only [go_sem,seval];refine (RH (k:Int) Za Za).use ?_;simp (disch:=first | omega | (simp only [ZC,ZG,ZJ,Z2,Xi,XN]<;>omega)) only [go_sem,seval];have hs:=Ib n word (Fw turned) l k
    have hbad:cW n (nth l k)=false->SK n word (Fw turned) l k= [(2,word++ [32]++dec k)]:=fun e=>by simp [SK,e,atW]
    repeat' (first | (refine VE (fun hq=> ?_) (fun hq=> ?_)<;>(try simp only [Zs,XX,Z3] at hq)<;>simp (disch:=omega) only [Sh.out hq,go_sem,seval]) | (refine gF ?_ ?_<;>intro hq<;>simp (disch:=omega) only [Sh.out hq,go_sem,seval,↓reduceIte]) | (refine cD ?_ ?_<;>intro hq<;>simp (disch:=omega) only [Sh.out hq,go_sem,seval,↓reduceIte]))
    all_goals try (
     have e:=hbad (by simp [cW];omega)
     exact ⟨k+1,Za,Za,Weak.mk (by simp (disch:=omega) only [hs,e,go_sem,seval])⟩)
    have hok:cW n (nth l k)=true:=by simp [cW];omega
    refine Zk [0,1,2,3,9,10,11,12,13] (fun j:Nat=> [(14,.p (.bool (tw turned l (nth l k) j))),(15,.p (.int .i64 j))]) (fun _=> [.elems 2 ((JF n word (Fw turned) l k).map eF)]) (fun j=>j<=k) (fun j=>k-j) 0 Zb (Weak.mk ?_) ?_
    ·simp (disch:=omega) only [xK,go_sem,seval,↓reduceIte]
    ·intro j hj;refine Zc ?_;refine cD ?_ ?_<;>intro h4<;>simp (disch:=omega) only [Sh.out h4,go_sem,seval,↓reduceIte]
     ·have hts:=xJ turned l (nth l k) j Za;generalize tw turned l (nth l k) j=q at hts ⊢
      repeat' (first | (refine gT ?_ ?_<;>intro hq<;>simp (disch:=omega) only [Sh.out hq,go_sem,seval,↓reduceIte]) | (refine gF ?_ ?_<;>intro hq<;>simp (disch:=omega) only [Sh.out hq,go_sem,seval,↓reduceIte]) | (refine U0 (fun hq=> ?_) (fun hq=> ?_)<;>(try simp only [Zs,XX,Z3] at hq)<;>simp (disch:=omega) only [Sh.out hq,go_sem,seval]))
      all_goals refine ⟨j+1,Za,Za,Weak.mk ?_⟩
      all_goals clear hs hbad hfl hdl
      all_goals simp (disch:=omega) only [hts,go_sem,seval]
      all_goals simp [Fw, *]
      all_goals first | omega | (simp [Fw, *] at hts;exact hts)
     ·have hjk:j=k:=Za
      subst hjk;refine cD ?_ ?_<;>intro h5<;>simp (disch:=omega) only [Sh.out h5,go_sem,seval,↓reduceIte]
      ·have e:SK n word (Fw turned) l j= [(6,word++ [32]++dec j)]:=by
        have h6:(l.take j).any (Fw turned (nth l j))=true:=h5
        grind [SK,atW]
       exact ⟨j+1,Za,Za,Weak.mk (by simp (disch:=omega) only [hs,e,go_sem,seval])⟩
      ·have e:SK n word (Fw turned) l j= []:=by
        have h6:(l.take j).any (Fw turned (nth l j))=false:=h5
        simp_all [SK]
       exact ⟨j+1,Za,Za,Weak.mk (by simp (disch:=omega) only [hs,e,go_sem,seval])⟩
   ·have:k=l.length:=Za
    subst this;exact ⟨0,by simp (disch:=omega) only [go_sem,seval]⟩
theorem oQ (n:Int) (ap be:List (Int×Int)) (c c':Bool) (hl:ap.length<=1048576) (hl2:be.length<=1048576) :
  ACalls Tryz.prog 45 [.p (.int .i64 n),.p (.list c (ap.map eP)),.p (.list c' (be.map eP))] [] fun x H'=>x= .sl 0 0 (chk n ap be).length (chk n ap be).length/\H'= [.elems 2 ((chk n ap be).map eF)]:=by
 refine UY (fn:=Tryz.f45) Zb Tryz.func45 rfl ZjF ?_;simp (disch:=omega) only [Tryz.f45,go_sem,seval];have h1:=Cz n [97,112,97,114,116] (Fw true) ap ap.length;have h2:=Cz n [98,101,102,111,114,101] (Fw false) be be.length;refine (NC n _ ap c true (by decide) hl).useF (Zc ?_);refine (NC n _ be c' false (by decide) hl2).useF (Zc ?_);refine ⟨0,?_⟩;rw [chk,<- pN,<- eQ];simp (disch:=omega) only [go_sem,seval]
@[go_sem] theorem Zfp {H:List AM.Obj} {β:Type} {S b o n:Nat} {xs:List PV} {g:β->PV} {m:List β} (hb:(n+m.length)*b<=140737488355328) (hb2:n+m.length<=140737488355328) :
  UH H (some (S,b)) (.elems S xs) o n (some (m.map g))=if xs.length=n/\A3 S (m.map g)=true then some (.sl o 0 (n+m.length) (n+m.length),GD H o (.elems S (xs++m.map g))) else none:=by
 simp_all [gW]
def und (word:List UInt8) (f:Flt):Flt:=(f.1,if f.2= [] then word else word++ [32]++f.2)
theorem Bg (word:List UInt8) (l:List Flt) (c:Bool) (hword:word.length<=100) (hl:l.length<=4194306000000) (hp: ∀f∈l,pF 100 f) :
  ACalls Tryz.prog 40 [.p (.str word),.p (.list c (l.map eF))] [] fun x H'=>x= .sl 0 0 (l.map (und word)).length (l.map (und word)).length/\H'= [.elems 2 ((l.map (und word)).map eF)]:=by
 suffices hh:ACalls Tryz.prog 40 [.p (.str word),.p (.list c (l.map eF))] [] fun x H'=> ∃m:List Flt,m=l.map (und word)/\x= .sl 0 0 m.length m.length/\H'= [.elems 2 (m.map eF)] by
  grind
 refine ZX [2] Tryz.func40 rfl ZjA ?_;simp (disch:=omega) only [Tryz.f40,go_sem,seval];refine Zq (Weak.ofNil 5 2 (by simp (disch:=omega) only [go_sem,seval]) Zb (Weak.refl _ _ _)) ?_;refine Zg [] _ _ _ _ (Zc ?_);refine Zk [0,1] (fun q:Nat×List Flt=> [(5,.sl 0 0 q.2.length q.2.length),(6,.p (.int .i64 q.1))]) (fun q=> [.elems 2 (q.2.map eF)]) (fun q=>q.1<=l.length/\q.2=(l.take q.1).map (und word)) (fun q=>l.length-q.1) (0,[]) ⟨Zb,Zb⟩ (Weak.mk ?_) ?_
 ·simp (disch:=omega) only [go_sem,seval,↓reduceIte]
 ·rintro ⟨k,m⟩ ⟨hk,hm⟩;simp only at hk hm
  have hml:m.length<=k:=by grind
  refine Zc ?_;refine cD ?_ ?_<;>intro h<;>simp (disch:=omega) only [Sh.out h,go_sem,seval,↓reduceIte]
  ·have hk2:k<l.length:=Za
   have hpk:=hp _ (Zt hk2);unfold pF at hpk
   have hnext: ∀f,f=und word (nth l k)->m++ [f]=(l.take (k+1)).map (und word):=fun f hf=>by
    grind [XZ,Zh]
   refine cD ?_ ?_<;>intro h2<;>simp (disch:=omega) only [Sh.out h2,go_sem,seval,↓reduceIte]
   ·have h3: ¬(nth l k).2= []:=Za
    simp (disch:=first | omega | (simp only [ZC,ZG,ZJ,Z2,Xi,XN]<;>omega)) only [go_sem,seval,↓reduceIte];refine ⟨(k+1,m++ [((nth l k).1,word++ [32]++(nth l k).2)]),⟨Za,hnext _ (by simp [und,h3])⟩,Za,Weak.mk (by simp (disch:=first | omega | (simp only [ZC,ZG,ZJ,Z2,Xi,XN]<;>omega)) only [go_sem,seval])⟩
   ·have h3:(nth l k).2= []:=by grind
    refine ⟨(k+1,m++ [((nth l k).1,word)]),⟨Za,hnext _ (by simp [und,h3])⟩,Za,Weak.mk (by simp (disch:=first | omega | (simp only [ZC,ZG,ZJ,Z2,Xi,XN]<;>omega)) only [go_sem,seval])⟩
  ·have hkn:k=l.length:=Za
   subst hkn;exact ⟨m,by grind,0,by simp (disch:=omega) only [go_sem,seval]⟩
theorem Za3 {n:Int} {ap be:List (Int×Int)} (ha:ap.length<=1048576) (hb:be.length<=1048576): ∀f∈chk n ap be,pF 100 f:=by
 have key: ∀(word:List UInt8) (sm:Int×Int->Int×Int->Bool) (l:List (Int×Int)),word.length<=6->l.length<=1048576-> ∀f∈JF n word sm l l.length,pF 100 f:=fun word sm l hw hl f hf=>by
  simp only [JF,Xj,XS,Zz] at hf;rcases hf with hf | ⟨i,hi,hf⟩
  ·grind [HA,pF]
  ·have hd:=BH 6 i Za
   grind [pF,atW,SK]
 intro f hf;rcases Xj.1 hf with hf | hf
 ·grind
 grind
theorem sW {n:Int} {ap be:List (Int×Int)} :(chk n ap be).length<=ap.length+be.length+2:=by
 grind [Cz,chk]
structure InstOk (x:Inst):Prop where
 net:netOk x.net
 types:typesOk x.net x.types
 orders:ordersOk x.net.places.length (dimsOf x.types) x.types.length x.orders
 rules:chk x.orders.length x.apart x.before= []
theorem FR.und {p:Flt->Prop} {C:Prop} {b:Nat} {l:List Flt} (h:FR p C b l) (word:List UInt8):FR (fun _=>True) C b (l.map (und word)) :=
 ⟨by simpa using h.len,by rw [List.map_eq_nil_iff];exact h.emp,fun _ _=>trivial⟩
theorem Za7 (x:Inst) (hw:x.wf 1048576):ACalls Tryz.prog 21 [.p (Zv x)] [] fun y H'=> ∃m:List Flt,FR (fun _=>True) (InstOk x) 4194400000000 m/\y= .sl 0 0 m.length m.length/\H'= [.elems 2 (m.map eF)]:=by
 obtain ⟨w1,w2,w3,w4,w5,w6,w7,w8,w9⟩:=hw;refine ZX [] Tryz.func21 rfl Zjl ?_;simp (disch:=omega) only [Tryz.f21,go_sem,seval];have ol:=Q2 x.net.places.length (dimsOf x.types) x.types.length x.orders x.orders.length;have oat:=Rs (np:=x.net.places.length) (d:=dimsOf x.types) (ty:=x.types.length) w4;have onil:=EA (np:=x.net.places.length) (d:=dimsOf x.types) (ty:=x.types.length) (l:=x.orders);have cl:=sW (n:=x.orders.length) (ap:=x.apart) (be:=x.before);have cat:=Za3 (n:=x.orders.length) w6 w8;refine ((Za4 x.net w1).frozenE).useV fun m1 h1=> ?_
 refine Zc ?_;have h1p:=h1.pmono (q:=pF 100) fun f hf=>hf.mono Za;have u1:=Bg [110,101,116] m1 false Zb h1.len h1p.all;have f1:=h1.und [110,101,116];generalize m1.map (und [110,101,116])=q1 at u1 f1;have f1l:=f1.len;refine (u1).useF (Zc ?_);refine ((Za5 x.net x.types x.types_c w1 w2 w3).frozenE).useV fun m2 h2=>Zc ?_;have h2p:=h2.pmono (q:=pF 100) fun f hf=>hf.mono Za;have h2l:=h2.len;have u2:=(Bg [116,121,112,101,115] m2 false Zb Za h2p.all).frozen Zb;have f2:=h2.und [116,121,112,101,115]
 generalize m2.map (und [116,121,112,101,115])=q2 at u2 f2;have f2l:=f2.len;refine (u2).use (Zc ?_);have u3:=(Bg [111,114,100,101,114,115] (Ya x.net.places.length (dimsOf x.types) x.types.length x.orders x.orders.length) false Zb Za fun f hf=>(oat f hf).mono Za).frozen Zb;have f3:=(show FR (fun _=>True) (ordersOk x.net.places.length (dimsOf x.types) x.types.length x.orders) (1+8*x.orders.length) (Ya x.net.places.length (dimsOf x.types) x.types.length x.orders x.orders.length) from ⟨ol,onil,fun _ _=>trivial⟩).und [111,114,100,101,114,115]
 generalize (Ya x.net.places.length (dimsOf x.types) x.types.length x.orders x.orders.length).map (und [111,114,100,101,114,115])=q3 at u3 f3;have f3l:=f3.len;refine ZB 13 mixed Zd Zd (Zc ?_);refine Zo (Nv x.types x.types_c w2) (Zc ?_);refine Zo ((Za6 x.net (dimsOf x.types) x.types.length x.orders x.orders_c w1 w4 w5).frozen Zb) (Zc ?_);refine Zo (u3) (Zc ?_);have u4:=(Bg [114,117,108,101,115] (chk x.orders.length x.apart x.before) false Zb Za cat).frozen Zb
 have f4:=(show FR (fun _=>True) (chk x.orders.length x.apart x.before= []) (x.apart.length+x.before.length+2) (chk x.orders.length x.apart x.before) from ⟨cl,Iff.rfl,fun _ _=>trivial⟩).und [114,117,108,101,115];generalize (chk x.orders.length x.apart x.before).map (und [114,117,108,101,115])=q4 at u4 f4;have f4l:=f4.len;refine ((oQ x.orders.length x.apart x.before x.apart_c x.before_c w6 w8).frozen Zb).use (Zc ?_);refine (u4).use (Zc ?_);refine ⟨q1++q2++q3++q4,((f1.app f2).app f3 |>.app f4).to Za ⟨fun ⟨⟨⟨a,b⟩,c⟩,d⟩=>⟨a,b,c,d⟩,fun h=>⟨⟨⟨h.net,h.types⟩,h.orders⟩,h.rules⟩⟩,1,?_⟩
 simp (disch:=omega) only [go_sem,seval]
def Zi (x:Inst):AM.Obj:= .cells [.p (.list x.net.places_c (x.net.places.map eS)),.p (.list x.net.arcs_c (x.net.arcs.map V2)),.p (.list x.types_c (x.types.map X8)),.p (.list x.orders_c (x.orders.map Yo)),.p (.list x.apart_c (x.apart.map eP)),.p (.list x.before_c (x.before.map eP))]
def zSco : Sco:=⟨0,0,0,0⟩
theorem rJ (a:Int):IntKind.i64.wrap ((BitVec.ofInt 64 a&&&BitVec.ofInt 64 1).toNat:Int)=a%2:=by
 grind [BitVec.toNat_ofInt,IntWalk.i64_in]
def sHas (s i:Int):Bool:=decide (0<=i)&&decide (i<=62)&&decide (s.fdiv (2^i.toNat)%2=1)
theorem Ew (s i:Int):PC 169 [.p (.int .i64 s),.p (.int .i64 i)] (.bool (sHas s i)):=by
 refine Ze Tryz.func169 rfl Zb8 ?_;simp (disch:=omega) only [Tryz.f169,go_sem,seval];refine gT ?_ ?_<;>intro h<;>simp (disch:=omega) only [Sh.out h,go_sem,seval,↓reduceIte]
 ·refine gT ?_ ?_<;>intro h1<;>simp (disch:=omega) only [Sh.out h1,go_sem,seval,↓reduceIte]
  ·have:min i.toNat 64=i.toNat:=Za
   rw [this]
   erw [rJ]
   simp [sHas,h,h1]
  grind [sHas]
 ·simp [sHas,h]
def X7 (s:Int) (k:Nat):List Int:=((List.range k).filter fun (i:Nat)=>sHas s (i:Int)).map fun (i:Nat)=>(i:Int)
theorem cJ (s:Int):X7 s 0= []:=by simp [X7]
theorem N7 {s:Int} {k:Nat} (h:sHas s (k:Int)=true):X7 s (k+1)=X7 s k++ [(k:Int)]:=by grind [X7,X6]
theorem Tc {s:Int} {k:Nat} (h:sHas s (k:Int)=false):X7 s (k+1)=X7 s k:=by grind [X7,X6]
theorem C0 (s:Int) (k:Nat):(X7 s k).length<=k:=by
 grind [X7]
theorem DU (s:Int):ACalls Tryz.prog 160 [.p (.int .i64 s)] [] fun x H'=>x= .sl 0 0 (X7 s 63).length (X7 s 63).length/\H'= [.elems 1 ((X7 s 63).map eI)]:=by
 refine UY (fn:=Tryz.f160) Zb Tryz.func160 rfl Zb1 ?_;simp (disch:=omega) only [Tryz.f160,go_sem,seval];refine Zk [0] (fun k:Nat=> [(3,.sl 0 0 (X7 s k).length (X7 s k).length),(5,.p (.int .i64 k))]) (fun k=> [.elems 1 ((X7 s k).map eI)]) (fun k=>k<=63) (fun k=>63-k) 0 Zb (Weak.ofNil 3 1 (by simp (disch:=omega) only [go_sem,seval]) Zb (Weak.mk ?_)) ?_
 ·simp (disch:=omega) only [cJ,go_sem,seval,↓reduceIte]
 ·intro k hk;have hl:=C0 s k;refine Zc ?_;refine cD ?_ ?_<;>intro h<;>simp (disch:=omega) only [Sh.out h,go_sem,seval,↓reduceIte]
  ·refine (Ew s k).use (Zc ?_);refine cD ?_ ?_<;>intro h2<;>simp (disch:=omega) only [Sh.out h2,go_sem,seval,↓reduceIte]
   ·refine ⟨k+1,Za,Za,Weak.mk ?_⟩;simp (disch:=omega) only [N7 h2,go_sem,seval]
   ·exact ⟨k+1,Za,Za,Weak.mk (by simp (disch:=omega) only [Tc h2,go_sem,seval])⟩
  ·have:k=63:=Za
   subst this;exact ⟨0,by simp (disch:=omega) only [go_sem,seval]⟩
def eN (n:Nat):PV:= .int .i64 (n:Int)
@[go_sem] theorem ZqV (n:Nat):eN n= .int .i64 (n:Int):=Zl rfl rfl
theorem iV (n:Nat) (be:List (Int×Int)) (c:Bool) (hn:n<=60) (hl:be.length<=1048576) (hv:Val n be) :
  ACalls Tryz.prog 187 [.p (.int .i64 (n:Int)),.p (.list c (be.map eP))] [] fun x H'=>x= .sl 0 0 n n/\H'= [.elems 1 ((Kz n be).map eN)]:=by
 refine UY (fn:=Tryz.f187) (by simpa using (FZ hv).len) Tryz.func187 rfl Zcl ?_;simp (disch:=omega) only [Tryz.f187,go_sem,seval];have hp60:pw n<=pw 62:=KD Za;have h62:=GJ;refine Zk [0,1] (fun q:List Nat×Bool=> [(5,.sl 0 0 n n),(6,.p (.bool q.2))]) (fun q=> [.elems 1 (q.1.map eN)]) (fun q=>Snd n be q.1/\(q.2=false->tot (Fs q.1 be)=tot q.1)) (fun q=>2*(n*pw n-tot q.1)+(if q.2 then 1 else 0)) (List.replicate n 0,true) ⟨Snd.zero n be,Zb⟩ (Weak.mk ?_) ?_
 ·simp (disch:=omega) only [AO,go_sem,seval,↓reduceIte]
 ·rintro ⟨out,more⟩ ⟨hs,hm⟩;simp only at hs hm;refine Zc ?_;refine cD ?_ ?_<;>intro h<;>simp (disch:=omega) only [Sh.out h,go_sem,seval,↓reduceIte]
  ·have hrs: ∀i,Snd n be (Fs out (be.take i)):=fun i=>hs.rnd hv _ fun p hp=>Kn hp
   have hsuc: ∀i,i<be.length->Fs out (be.take (i+1))=EO (Fs out (be.take i)) (nth be i):=fun i hi=>by
    rw [XZ hi,Ru,<- Zh hi];rfl
   refine Zk [0,1,16,17] (fun i:Nat=> [(5,.sl 0 0 n n),(6,.p (.bool (decide (tot out<tot (Fs out (be.take i)))))),(18,.p (.int .i64 i))]) (fun i=> [.elems 1 ((Fs out (be.take i)).map eN)]) (fun i=>i<=be.length) (fun i=>be.length-i) 0 Zb (Weak.mk ?_) ?_
   ·simp (disch:=omega) only [Fs,Vq,VR,go_sem,seval];simp
   ·intro i hi;have hsi:=hrs i;generalize hgo:Fs out (be.take i)=o at hsi ⊢;have hlo:=hsi.len;refine Zc ?_;refine cD ?_ ?_<;>intro h2<;>simp (disch:=omega) only [Sh.out h2,go_sem,seval,↓reduceIte]
    ·have hib:i<be.length:=Za
     have hvi:=hv (nth be i) (by grind [Zh])
     have g1: ¬(nth be i).1<0:=Za
     have g2: ¬(nth be i).2<0:=Za
     have g3: ¬(n:Int)<=(nth be i).1:=Za
     have g4: ¬(n:Int)<=(nth be i).2:=Za
     have g5:(nth be i).1.toNat<n:=Za
     have g6:(nth be i).2.toNat<n:=Za
     have b1:=hsi.lt _ g5;have b2:=hsi.lt _ g6;have b3:nth o (nth be i).2.toNat|||nth o (nth be i).1.toNat<pw n:=Jn b2 b1;have b4:pw (nth be i).1.toNat<=pw 62:=KD Za;have hst:=Sy o (nth be i) Za;have hnx:=hsuc i hib;rw [hgo] at hnx;refine FQ mixed Zd ?_;simp (disch:=omega) only [hlo,g1,g2,g3,g4,go_sem,seval];refine FQ mixed Zd ?_;simp (disch:=first | omega | (simp only [ZC,ZG,ZJ,Z2,Xi,XN]<;>omega)) only [hlo,g5,g6,U4,go_sem,seval,↓reduceIte]
     have htm:tot out<=tot o:=by
      grind [Da]
     have hsv:o.set (nth be i).2.toNat (nth o (nth be i).2.toNat|||nth o (nth be i).1.toNat|||pw (nth be i).1.toNat)=EO o (nth be i):=rfl;refine cD ?_ ?_<;>intro h3<;>simp (disch:=omega) only [Sh.out h3,go_sem,seval,↓reduceIte]
     ·have hne: ¬EO o (nth be i)=o:=fun e=>by
       apply h3
       have e2:nth (EO o (nth be i)) (nth be i).2.toNat=nth o (nth be i).2.toNat:=by rw [e]
       rw [EO,Fm _ _ _ _ Za] at e2
       grind
      have hlt:tot out<tot (EO o (nth be i)):=by
       grind
      simp (disch:=first | omega | (simp only [ZC,ZG,ZJ,Z2,Xi,XN]<;>omega)) only [go_sem,seval,↓reduceIte];refine ⟨i+1,Za,Za,Weak.mk ?_⟩;simp (disch:=omega) only [hnx,hlt,go_sem,seval];rw [<- hsv,U6]
      rfl
     ·have heq:EO o (nth be i)=o:=by
       have e:nth o (nth be i).2.toNat|||nth o (nth be i).1.toNat|||pw (nth be i).1.toNat=nth o (nth be i).2.toNat:=Za
       rw [<- hsv,e];apply Jo Zb
       simp_all [Zh]
      refine ⟨i+1,Za,Za,Weak.mk ?_⟩;simp (disch:=omega) only [hnx,heq,go_sem,seval]
    ·have hi2:i=be.length:=Za
     subst hi2;rw [X5] at hgo;subst hgo;have hpt:=Da hv be out (fun _ h=>h) hs;have hbd:=hsi.bound;refine ⟨(Fs out be,decide (tot out<tot (Fs out be))),⟨hsi,fun e=> ?_⟩,?_,Weak.mk ?_⟩
     ·grind
     ·grind
     ·simp (disch:=omega) only [go_sem,seval]
  ·refine ⟨0,?_⟩;have:out=Kz n be:=(jG hv (hs.clo hv (hm h))).symm;rw [this];simp (disch:=omega) only [go_sem,seval]
def hv (s k:Nat):Nat:=s / pw k
theorem SS (s:Nat):hv s 0=s:=by simp [hv,pw]
theorem SR (s k:Nat):hv s (k+1)=hv s k / 2:=by grind [hv,Fu,Nat.div_div_eq_div_mul]
theorem yW (s k:Nat):hv s k<=s:=Nat.div_le_self _ _
theorem lV (s k:Nat):s.testBit k=decide (hv s k%2=1):=by
 rw [Nat.testBit_eq_decide_div_mod_eq]
 rfl
theorem WQ (s i:Nat) (hi:i<=62):sHas (s:Int) (i:Int)=s.testBit i:=by
 rw [lV,hv]
 have h1:(0:Int)<=i:=Za
 have h2:(i:Int)<=62:=Za
 simp only [sHas,h1,h2,Um,VS,XY]
 have e:((s:Int)).fdiv (2^i)=((s / pw i:Nat):Int):=by
  grind [pw]
 grind
theorem VF {α:Type} [Inhabited α] {l:List α} {f:α->Bool} {k:Nat} (h:k<l.length) (hf:f (nth l k)=true):l.any f=true:=by
 grind [Zh]
theorem Jb {α:Type} [Inhabited α] {l:List α} {f:α->Bool} (h: ∀j,j<l.length->f (nth l j)=false):l.any f=false:=by
 rw [YQ];intro x hx;obtain ⟨j,hj,rfl⟩:=ZN.1 hx
 grind [Zh]
theorem Wu {p:Nat->Prop} {k:Nat} (h: ∀j,j<k->p j) (hk:p k): ∀j,j<k+1->p j:=fun j hj=>by
 grind
theorem Zkx {s:Int} {k:Nat} {x:Int} (h:x∈X7 s k):0<=x/\x<k:=by
 simp only [X7,Xn,QX,Zz] at h;omega
noncomputable def WC (os:List Ord) (ap be:List (Int×Int)) (s:Int):Int :=
 if s<0 then 2
 else if (X7 s 63).any (fun i=>decide ((os.length:Int)<=i)) then 2
 else if (X7 s 63).any (fun i=>(nth os i.toNat).off) then 9
 else if ap.any (fun p=>sHas s p.1&&sHas s p.2) then 20
 else if be.any (fun p=>sHas s p.2&& !sHas s p.1) then 21
 else if (X7 s 63).any (fun i=>sHas ((nth (Kz os.length be) i.toNat:Nat):Int) i) then 21
 else 0
theorem Yl {P Q:Prop} (h:Q) (e:Q->P:=by intro h;simp (disch:=omega) only [Zi,go_sem,seval];exact h):P:=e h
theorem T8 (net:Net) (tyc:Bool) (tys:List Typ) (c1 c2 c3:Bool) (os:List Ord) (ap be:List (Int×Int)) (s:Int) (hn:os.length<=60) (hla:ap.length<=1048576) (hl:be.length<=1048576) (hv:Val os.length be) :
  PC 159 [.p (Zv ⟨net,tyc,tys,c1,os,c2,ap,c3,be⟩),.p (.int .i64 s)] (.int .i64 (WC os ap be s)):=by
 have hc:=FZ hv;have hlen:=hc.len;have hm:=C0 s 63;refine Ze Tryz.func159 rfl Zb0 ?_;simp (disch:=omega) only [Tryz.f159,go_sem,seval];refine cD ?_ ?_<;>intro hs0<;>simp (disch:=omega) only [Sh.out hs0,go_sem,seval]
 ·simp [WC,hs0]
 ·refine ((DU s).frozen Zb).use (Zc ?_);generalize hgm:X7 s 63=m at hm ⊢
  have hnn: ∀k,k<m.length->0<=nth m k/\nth m k<63:=fun k hk=>by
   grind [X7,Zh,QS]
  have e0: ¬s<0:=hs0;refine Zk [1,2,5,21,22] (fun k:Nat=> [(23,.p (.int .i64 k))]) (fun _=> [Zi ⟨net,tyc,tys,c1,os,c2,ap,c3,be⟩]) (fun k=>k<=m.length/\ ∀j,j<k->decide ((os.length:Int)<=nth m j)=false) (fun k=>m.length-k) 0 Zb (Weak.mk ?_) ?_
  ·simp (disch:=omega) only [Zi,go_sem,seval]
  ·rintro k ⟨hk,hno⟩;refine Yl ?_;refine cD ?_ ?_<;>intro h<;>simp (disch:=omega) only [Sh.out h,go_sem,seval,↓reduceIte]
   ·have hk2:k<m.length:=Za
    refine ZK ?_ ?_<;>intro h4
    ·grind [VF,WC]
    ·exact ⟨k+1,⟨Za,Wu hno (by simp [h4])⟩,Za,wk⟩
   ·have hkm:k=m.length:=Za
    subst hkm;have e1:m.any (fun i=>decide ((os.length:Int)<=i))=false:=Jb hno
    have hin: ∀j,j<m.length->(nth m j).toNat<os.length:=fun j hj=>by
     grind
    clear hno hk h;refine Zk [1,2,5,33,34] (fun k:Nat=> [(35,.p (.int .i64 k))]) (fun _=> [Zi ⟨net,tyc,tys,c1,os,c2,ap,c3,be⟩]) (fun k=>k<=m.length/\ ∀j,j<k->(nth os (nth m j).toNat).off=false) (fun k=>m.length-k) 0 Zb (Weak.mk ?_) ?_
    ·simp (disch:=omega) only [Zi,go_sem,seval]
    ·rintro k ⟨hk,hno⟩;refine Yl ?_;refine cD ?_ ?_<;>intro h<;>simp (disch:=omega) only [Sh.out h,go_sem,seval,↓reduceIte]
     ·have hk2:k<m.length:=Za
      have g1:=hin k hk2;have g2:=hnn k hk2;refine Zc ?_;refine ZK ?_ ?_<;>intro h4
      ·grind [VF,WC]
      ·exact ⟨k+1,⟨Za,Wu hno h4⟩,Za,wk⟩
     ·have hkm:k=m.length:=Za
      subst hkm;have e2:m.any (fun i=>(nth os i.toNat).off)=false:=Jb hno;clear hno hk h;refine Zk [1,2,5,47,48] (fun k:Nat=> [(49,.p (.int .i64 k))]) (fun _=> [Zi ⟨net,tyc,tys,c1,os,c2,ap,c3,be⟩]) (fun k=>k<=ap.length/\ ∀j,j<k->(sHas s (nth ap j).1&&sHas s (nth ap j).2)=false) (fun k=>ap.length-k) 0 Zb (Weak.mk ?_) ?_
      ·simp (disch:=omega) only [Zi,go_sem,seval]
      ·rintro k ⟨hk,hno⟩;refine Yl ?_;refine cD ?_ ?_<;>intro h<;>simp (disch:=omega) only [Sh.out h,go_sem,seval,↓reduceIte]
       ·have hk2:k<ap.length:=Za
        refine (Ew s (nth ap k).1).use (Zc ?_);refine Ql ?_ ?_<;>intro h5
        ·refine (Ew s (nth ap k).2).use (Zc ?_);refine ZK ?_ ?_<;>intro h6
         ·grind [VF,WC]
         ·exact ⟨k+1,⟨Za,Wu hno (by simp [h5,h6])⟩,Za,wk⟩
        ·exact ⟨k+1,⟨Za,Wu hno (by simp [h5])⟩,Za,wk⟩
       ·have hkm:k=ap.length:=Za
        subst hkm;have e3:ap.any (fun p=>sHas s p.1&&sHas s p.2)=false:=Jb hno;clear hno hk h;refine Zk [1,2,5,65,66] (fun k:Nat=> [(67,.p (.int .i64 k))]) (fun _=> [Zi ⟨net,tyc,tys,c1,os,c2,ap,c3,be⟩]) (fun k=>k<=be.length/\ ∀j,j<k->(sHas s (nth be j).2&& !sHas s (nth be j).1)=false) (fun k=>be.length-k) 0 Zb (Weak.mk ?_) ?_
        ·simp (disch:=omega) only [Zi,go_sem,seval]
        ·rintro k ⟨hk,hno⟩;refine Yl ?_;refine cD ?_ ?_<;>intro h<;>simp (disch:=omega) only [Sh.out h,go_sem,seval,↓reduceIte]
         ·have hk2:k<be.length:=Za
          refine (Ew s (nth be k).2).use (Zc ?_);refine Ql ?_ ?_<;>intro h5
          ·refine (Ew s (nth be k).1).use (Zc ?_);refine ZK ?_ ?_<;>intro h6
           ·grind [VF,WC]
           ·exact ⟨k+1,⟨Za,Wu hno (by simp [h5,h6])⟩,Za,wk⟩
          ·exact ⟨k+1,⟨Za,Wu hno (by simp [h5])⟩,Za,wk⟩
         ·have hkm:k=be.length:=Za
          subst hkm;have e4:be.any (fun p=>sHas s p.2&& !sHas s p.1)=false:=Jb hno;clear hno hk h;refine ((iV os.length be c3 hn hl hv).frozen (by grind)).use (Zc ?_);refine Zk [5,14,89,90] (fun k:Nat=> [(91,.p (.int .i64 k))]) (fun _=> [Zi ⟨net,tyc,tys,c1,os,c2,ap,c3,be⟩]) (fun k=>k<=m.length/\ ∀j,j<k->sHas ((nth (Kz os.length be) (nth m j).toNat:Nat):Int) (nth m j)=false) (fun k=>m.length-k) 0 Zb (Weak.mk ?_) ?_
          ·simp (disch:=omega) only [Zi,go_sem,seval]
          ·rintro k ⟨hk,hno⟩;refine Yl ?_;refine cD ?_ ?_<;>intro h<;>simp (disch:=omega) only [Sh.out h,go_sem,seval,↓reduceIte]
           ·have hk2:k<m.length:=Za
            have g1:=hin k hk2;have g2:=hnn k hk2;refine Zc ?_;refine (Ew ((nth (Kz os.length be) (nth m k).toNat:Nat):Int) (nth m k)).use (Zc ?_);refine ZK ?_ ?_<;>intro h6
            ·grind [VF,WC]
            ·exact ⟨k+1,⟨Za,Wu hno h6⟩,Za,wk⟩
           grind [Kz,Jb,WC]
deriving instance DecidableEq for Vis
theorem En {v w:Vis} :v=w↔v.order=w.order/\v.drp=w.drp:=by cases v;cases w;simp
def H7 (f:Vis->Bool) (l:List Vis):Int:=match l.findIdx? f with | some i=>(i:Int) | none=> -1
def vIx (l:List Vis) (v:Vis):Int:=H7 (fun w=>decide (v=w)) l
theorem LL {f:Vis->Bool} {l:List Vis} {k:Nat} (hk:k<l.length) (h:f (nth l k)=true) (hno: ∀j,j<k->f (nth l j)=false):H7 f l=(k:Int):=by
 have:l.findIdx? f=some k:=by
  grind [UK,Zh]
 simp [H7,this]
theorem P6 {f:Vis->Bool} {l:List Vis} (hno: ∀j,j<l.length->f (nth l j)=false):H7 f l= -1:=by
 have:l.findIdx? f=none:=by
  rw [List.findIdx?_eq_none_iff];intro x hx;obtain ⟨j,hj,rfl⟩:=ZN.1 hx
  grind [Zh]
 simp [H7,this]
theorem P5 {f:Vis->Bool} {l:List Vis} :decide (0<=H7 f l)=l.any f:=by
 grind [H7]
theorem kE {f:Vis->Bool} {l:List Vis} :H7 f l<l.length/\ -1<=H7 f l:=by
 grind [H7,UK]
theorem SU (l:List Vis) (c:Bool) (v:Vis) (hl:l.length<=1048576):PC 262 [.p (.list c (l.map Z7)),.p (Z7 v)] (.int .i64 (vIx l v)):=by
 refine Ze Tryz.func262 rfl Zdg ?_;simp (disch:=omega) only [Tryz.f262,go_sem,seval];refine Zk [0,3,7] (fun k:Nat=> [(8,.p (.int .i64 k))]) (fun _=> [.cells [.p (.int .i64 v.order),.p (.bool v.drp)]]) (fun k=>k<=l.length/\ ∀j,j<k->decide (v=nth l j)=false) (fun k=>l.length-k) 0 Zb (Weak.mk ?_) ?_
 ·simp (disch:=omega) only [go_sem,seval,↓reduceIte]
 ·rintro k ⟨hk,hno⟩;refine Zc ?_;refine cD ?_ ?_<;>intro h<;>simp (disch:=omega) only [Sh.out h,go_sem,seval,↓reduceIte]
  ·have hk2:k<l.length:=Za
   refine Xq (Zc ?_);refine cD ?_ ?_<;>intro h2<;>simp (disch:=omega) only [Sh.out h2,go_sem,seval,↓reduceIte]
   ·grind [En,vIx,LL]
   ·have: ¬v=nth l k:=by grind
    exact ⟨k+1,⟨Za,Zp.2 ⟨hno,by grind⟩⟩,Za,wk⟩
  grind [vIx,P6]
theorem Db (l:List Vis) (c:Bool) (v:Vis) (hl:l.length<=1048576):PC 236 [.p (.list c (l.map Z7)),.p (Z7 v)] (.int .i64 (vIx l v)):=by
 refine Ze Tryz.func236 rfl ZcS ?_;simp (disch:=omega) only [Tryz.f236,go_sem,seval];refine (SU l c v hl).use ?_;simp (disch:=omega) only [go_sem,seval]
theorem LG (l:List Vis) (c:Bool) (v:Vis) (hl:l.length<=1048576):PC 269 [.p (.list c (l.map Z7)),.p (Z7 v)] (.bool (decide (0<=vIx l v))):=by
 refine Ze Tryz.func269 rfl Zdn ?_;simp (disch:=omega) only [Tryz.f269,go_sem,seval];refine (SU l c v hl).use ?_;simp (disch:=omega) only [go_sem,seval]
theorem xG (l:List Ord) (c:Bool) (n:Int) (hl:l.length<=1048576):PC 188 [.p (.list c (l.map Yo)),.p (.int .i64 n)] (.bool (decide (0<=n/\n<l.length))):=by
 refine Ze Tryz.func188 rfl lZ ?_;simp (disch:=omega) only [Tryz.f188,go_sem,seval];refine gT ?_ ?_<;>intro h<;>simp (disch:=omega) only [Sh.out h,go_sem,seval,↓reduceIte]
 all_goals (try simp [h])
def ZW (l:List Ord) (i:Nat):List Vis:=(if 0<=(nth l i).pick.place then [⟨i,false⟩] else [])++(if 0<=(nth l i).drp.place then [⟨i,true⟩] else [])
theorem WV (l:List Ord) (i:Nat):(ZW l i).length<=2:=by grind [ZW]
theorem Yj {l:List Ord} {i:Nat} {v:Vis} (h:v∈ZW l i):v.order=i:=by
 grind [ZW]
theorem R1 (l:List Ord) (c:Bool) (i:Nat) (hi:i<l.length) (hl:l.length<=1048576):ACalls Tryz.prog 161 [.p (.list c (l.map Yo)),.p (.int .i64 (i:Nat))] [] fun x H'=>x= .sl 0 0 (ZW l i).length (ZW l i).length/\H'= [.elems 2 ((ZW l i).map Z7)]:=by
 suffices hh:ACalls Tryz.prog 161 [.p (.list c (l.map Yo)),.p (.int .i64 (i:Nat))] [] fun x H'=> ∃m:List Vis,m=ZW l i/\x= .sl 0 0 m.length m.length/\H'= [.elems 2 (m.map Z7)] by
  grind
 refine ZX [2] Tryz.func161 rfl Zb2 ?_;simp (disch:=omega) only [Tryz.f161,go_sem,seval];refine Zq (Weak.ofNil 5 2 (by simp (disch:=omega) only [go_sem,seval]) Zb (Weak.refl _ _ _)) ?_;refine Zg [4] _ _ _ _ (Zc ?_);refine (xG l c i hl).use (Zc ?_)
 have h0:(0:Int)<=(i:Int)/\(i:Int)<(l.length:Int):=Za
 simp (disch:=omega) only [h0,go_sem,seval];refine ZI [0,1] (fun m:List Vis=> [(5,.sl 0 0 m.length m.length)]) (fun m=> [.elems 2 (m.map Z7)]) (fun m=>m=(if 0<=(nth l i).pick.place then [⟨i,false⟩] else [])) ?_ ?_
 ·refine Zc ?_;refine cD ?_ ?_<;>intro h<;>simp (disch:=omega) only [Sh.out h,go_sem,seval,↓reduceIte]
  ·exact ⟨[⟨i,false⟩],by simp [],wk⟩
  ·exact ⟨[],by simp [],wk⟩
 ·intro m hm
  have hml:m.length<=1:=by grind
  refine Zg [] _ _ _ _ (Zc ?_);refine cD ?_ ?_<;>intro h<;>simp (disch:=omega) only [Sh.out h,go_sem,seval,↓reduceIte]
  ·exact ⟨m++ [⟨i,true⟩],by simp_all [ZW],0,by simp (disch:=omega) only [go_sem,seval]⟩
  ·exact ⟨m,by simp_all [ZW],0,by simp (disch:=omega) only [go_sem,seval]⟩
theorem visits_c (l:List Ord) (c:Bool) (i:Nat) (hi:i<l.length) (hl:l.length<=1048576):PC 161 [.p (.list c (l.map Yo)),.p (.int .i64 (i:Nat))] (.list false ((ZW l i).map Z7)) :=
 (R1 l c i hi hl).frozen Zb
def Ar (l:List Vis):Bool:=(List.range l.length).any fun i=>decide (0<=vIx (l.take i) (nth l i))
theorem xL (l:List Vis) (c:Bool) (hl:l.length<=1048576):PC 247 [.p (.list c (l.map Z7))] (.bool (Ar l)):=by
 refine Ze Tryz.func247 rfl Zc2 ?_;simp (disch:=omega) only [Tryz.f247,go_sem,seval];refine Zk [0,5,6] (fun k:Nat=> [(7,.p (.int .i64 k))]) (fun _=> []) (fun k=>k<=l.length/\ ∀j,j<k->decide (0<=vIx (l.take j) (nth l j))=false) (fun k=>l.length-k) 0 Zb (Weak.mk ?_) ?_
 ·simp (disch:=omega) only [go_sem,seval,↓reduceIte]
 ·rintro k ⟨hk,hno⟩;refine Zc ?_;refine cD ?_ ?_<;>intro h<;>simp (disch:=omega) only [Sh.out h,go_sem,seval,↓reduceIte]
  ·have hk2:k<l.length:=Za
   refine Xq (Zc ?_);refine Zo (Db (l.take k) _ (nth l k) (by simp;omega)) (Zc ?_);refine cD ?_ ?_<;>intro h2<;>simp (disch:=omega) only [Sh.out h2,go_sem,seval,↓reduceIte]
   ·grind [Ar]
   ·exact ⟨k+1,⟨Za,Zp.2 ⟨hno,by grind⟩⟩,Za,wk⟩
  grind [Ar]
theorem Ex (l:List Vis) (c:Bool) (g:FuncId) (caps:List V) (H:List AM.Obj) (f:Vis->Bool) (hl:l.length<=1048576) (hW:Pc H H.length H H) (hc:Xv H.length caps=true)
  (hg: ∀v∈l,ACalls Tryz.prog g (.p (Z7 v)::caps) H fun x H'=>x= .p (.bool (f v))/\H'=H) :
  ACalls Tryz.prog 268 [.p (.list c (l.map Z7)),.fn (.func g) [] caps] H fun x H'=>x= .p (.int .i64 (H7 f l))/\H'=H:=by
 refine YI Tryz.func268 rfl Zdm (Zg [] _ _ _ _ ?_);simp (disch:=omega) only [Tryz.f268,go_sem,seval];refine Zk [0,1,7] (fun k:Nat=> [(8,.p (.int .i64 k))]) (fun _=>H) (fun k=>k<=l.length/\ ∀j,j<k->f (nth l j)=false) (fun k=>l.length-k) 0 Zb (Weak.mk ?_) ?_
 ·simp (disch:=omega) only [hW,hc,go_sem,seval];simp
 ·rintro k ⟨hk,hno⟩;refine Zc ?_;refine cD ?_ ?_<;>intro h<;>simp (disch:=omega) only [Sh.out h,go_sem,seval,↓reduceIte]
  ·have hk2:k<l.length:=Za
   refine (hg (nth l k) (Zt hk2)).useH (Zc ?_);refine cD ?_ ?_<;>intro h2<;>simp (disch:=omega) only [Sh.out h2,go_sem,seval,↓reduceIte]
   ·grind [LL]
   ·have h3:f (nth l k)=false:=Za
    refine ⟨k+1,⟨Za,Zp.2 ⟨hno,h3⟩⟩,Za,Weak.mk ?_⟩;simp (disch:=omega) only [hW,hc,go_sem,seval];simp
  grind [P6]
theorem Qm (l:List Vis) (c:Bool) (g:FuncId) (caps:List V) (H:List AM.Obj) (f:Vis->Bool) (hl:l.length<=1048576) (hW:Pc H H.length H H) (hc:Xv H.length caps=true)
  (hg: ∀v∈l,ACalls Tryz.prog g (.p (Z7 v)::caps) H fun x H'=>x= .p (.bool (f v))/\H'=H) :
  ACalls Tryz.prog 244 [.p (.list c (l.map Z7)),.fn (.func g) [] caps] H fun x H'=>x= .p (.bool (l.any f))/\H'=H:=by
 refine YI Tryz.func244 rfl ZcZ (Zg [] _ _ _ _ ?_);simp (disch:=omega) only [Tryz.f244,go_sem,seval];refine (Ex l c g caps H f hl hW hc hg).useH (Zc ?_);rw [P5]
def hasO (l:List Vis) (o:Int):Bool:=l.any fun v=>decide (v.order=o)
theorem Zbl (v:Vis) (o:Int):ACalls Tryz.prog 270 [.p (Z7 v),.ptr 0 0] [.cells [.p (.int .i64 o)]] fun x H'=>x= .p (.bool (decide (v.order=o)))/\H'= [.cells [.p (.int .i64 o)]]:=by
 refine Zf [] Tryz.func270 rfl Zdo ?_;simp (disch:=omega) only [Tryz.f270,go_sem,seval];exact we
theorem aM (v:Vis) (o:Int):ACalls Tryz.prog 271 [.p (Z7 v),.ptr 0 0] [.cells [.p (.int .i64 o)]] fun x H'=>x= .p (.bool (decide (v.order=o)))/\H'= [.cells [.p (.int .i64 o)]]:=by
 refine Zf [] Tryz.func271 rfl Zdp ?_;simp (disch:=omega) only [Tryz.f271,go_sem,seval];exact we
theorem Do (l:List Vis) (c:Bool) (o:Int) (hl:l.length<=1048576):PC 249 [.p (.list c (l.map Z7)),.p (.int .i64 o)] (.bool (hasO l o)):=by
 refine Ze Tryz.func249 rfl Zc4 ?_;simp (disch:=omega) only [Tryz.f249,go_sem,seval];refine (Qm l c 270 [.ptr 0 0] [.cells [.p (.int .i64 o)]] (fun v=>decide (v.order=o)) hl (by simp (disch:=omega) only [go_sem,seval]) (by rfl) (fun v _=>Zbl v o)).useH (Zc ?_);rw [hasO]
def beforeB (l:List Vis) (a b:Int):Bool:=if H7 (fun v=>decide (v.order=b)) l<0 then true else hasO l a&& !hasO (l.drop (H7 (fun v=>decide (v.order=b)) l).toNat) a
theorem OL (l:List Vis) (c:Bool) (a b:Int) (hl:l.length<=1048576):PC 250 [.p (.list c (l.map Z7)),.p (.int .i64 a),.p (.int .i64 b)] (.bool (beforeB l a b)):=by
 refine Ze Tryz.func250 rfl Zc5 ?_;simp (disch:=omega) only [Tryz.f250,go_sem,seval];refine (Ex l c 271 [.ptr 0 0] [.cells [.p (.int .i64 b)]] (fun v=>decide (v.order=b)) hl (by simp (disch:=omega) only [go_sem,seval]) (by rfl) (fun v _=>aM v b)).useH ?_;have hlt:=kE (f:=fun v=>decide (v.order=b)) (l:=l);refine Zc ?_;refine cD ?_ ?_<;>intro h<;>simp (disch:=omega) only [Sh.out h,go_sem,seval]
 ·rw [beforeB,if_pos h]
 ·refine (Do l c a hl).use (Zc ?_);generalize hq:H7 (fun v=>decide (v.order=b)) l=q at hlt h ⊢
  cases h2:hasO l a with
  | false =>
   refine Zc ?_
   simp_all [beforeB]
  | true =>
   simp (disch:=omega) only [X5,go_sem,seval];refine (Do (l.drop q.toNat) _ a (by simp;omega)).use (Zc ?_)
   simp_all [beforeB,if_neg]
def Jd (l:List Vis):Int->List Vis->Bool
 | _,[]=>true
 | last,w::r=>decide (last<vIx l w)&&Jd l (vIx l w) r
def pairB (os:List Ord) (l:List Vis) (v:Vis):Bool:=decide (0<=vIx (ZW os v.order.toNat) v)&&Jd l (-1) (ZW os v.order.toNat)
theorem OO (x:Inst) (l:List Vis) (c:Bool) (hl:l.length<=1048576) (ho:x.orders.length<=1048576) (hv: ∀v∈l,0<=v.order/\v.order<x.orders.length) :
  PC 248 [.p (Zv x),.p (.list c (l.map Z7))] (.bool (l.all (pairB x.orders l))):=by
 refine Ze Tryz.func248 rfl Zc3 ?_;simp (disch:=omega) only [Tryz.f248,go_sem,seval];refine Zk [1,2,12,13] (fun k:Nat=> [(14,.p (.int .i64 k))]) (fun _=> [Zi x]) (fun k=>k<=l.length/\ ∀j,j<k->pairB x.orders l (nth l j)=true) (fun k=>l.length-k) 0 Zb (Weak.mk ?_) ?_
 ·simp (disch:=omega) only [Zi,go_sem,seval]
 ·rintro k ⟨hk,hno⟩;refine Yl ?_;refine cD ?_ ?_<;>intro h<;>simp (disch:=omega) only [Sh.out h,go_sem,seval,↓reduceIte]
  ·have hk2:k<l.length:=Za
   obtain ⟨v1,v2⟩:=hv _ (Zt hk2)
   have hbad:pairB x.orders l (nth l k)=false->l.all (pairB x.orders l)=false:=fun h4=>by
    grind [Zt]
   obtain ⟨i,hi⟩: ∃i:Nat,(nth l k).order=(i:Int):=⟨(nth l k).order.toNat,Za⟩
   have hp:pairB x.orders l (nth l k)=(decide (0<=vIx (ZW x.orders i) (nth l k))&&Jd l (-1) (ZW x.orders i)):=by rw [pairB,hi];rfl
   rw [hi] at v1 v2;simp (disch:=omega) only [hi,go_sem,seval];refine (visits_c x.orders x.orders_c i Za ho).use (Zc ?_);have hvl:=WV x.orders i;have hcon:=LG (ZW x.orders i) false (nth l k) Za;rw [SD,hi] at hcon;refine (hcon).use (Zc ?_);refine cD ?_ ?_<;>intro h2<;>simp (disch:=omega) only [Sh.out h2,go_sem,seval]
   ·grind
   ·have h2':0<=vIx (ZW x.orders i) (nth l k):=Za
    generalize hown:ZW x.orders i=own at hvl hp h2' ⊢
    have hp2:pairB x.orders l (nth l k)=Jd l (-1) own:=by grind
    refine Zk [1,2,12,13,14,27,28] (fun q:Nat×Int=> [(8,.p (.int .i64 q.2)),(29,.p (.int .i64 q.1))]) (fun _=> [Zi x,.cells [.p (.int .i64 (i:Int)),.p (.bool (nth l k).drp)]]) (fun q=>q.1<=own.length/\Jd l (-1) own=Jd l q.2 (own.drop q.1)) (fun q=>own.length-q.1) (0,-1) Zb (Weak.mk ?_) ?_
    ·simp (disch:=omega) only [Zi,go_sem,seval]
    ·rintro ⟨j,last⟩ ⟨hj,ha⟩;simp only at hj ha;refine Yl ?_;refine ZK ?_ ?_<;>intro h3
     ·have hj2:j<own.length:=Za
      have hd:own.drop j=nth own j::own.drop (j+1):=by rw [Ud hj2,Zh hj2]
      rw [hd] at ha;refine (Db l c (nth own j) hl).use (Zc ?_);refine ZK ?_ ?_<;>intro h4
      ·grind [Jd]
      ·have h5:last<vIx l (nth own j):=Za
       exact ⟨(j+1,vIx l (nth own j)),⟨Za,by grind [Jd]⟩,Za,wk⟩
     ·have hjl:j=own.length:=Za
      subst hjl;exact ⟨k+1,⟨Za,Zp.2 ⟨hno,by grind [Jd]⟩⟩,Za,wk⟩
  ·have hkl:k=l.length:=Za
   subst hkl
   have:l.all (pairB x.orders l)=true:=by
    rw [Zx];intro v hv;obtain ⟨j,hj,rfl⟩:=ZN.1 hv
    grind [Zh]
   rw [this]
def XA (r:Rte):AM.Obj:= .cells [.p (.int .i64 r.typ),.p (.int .i64 r.start),.p (.list r.rests_c (r.rests.map eB)),.p (.list r.visits_c (r.visits.map Z7))]
def Va (x:Inst) (v:Vis):Bool:= !decide (0<=v.order/\v.order<(x.orders.length:Int))
theorem iZ (x:Inst) (r:Rte) (v:Vis) (ho:x.orders.length<=1048576):ACalls Tryz.prog 245 [.p (Z7 v),.ptr 0 0] [Zi x,XA r] fun y H'=>y= .p (.bool (Va x v))/\H'= [Zi x,XA r]:=by
 refine Zf [] Tryz.func245 rfl Zc0 ?_;simp (disch:=omega) only [Tryz.f245,Zi,XA,go_sem,seval];refine gF ?_ ?_<;>intro h<;>simp (disch:=omega) only [Sh.out h,go_sem,seval,↓reduceIte]
 ·have e:Va x v=true:=by
   grind [Va]
  rw [e];exact we
 ·have e:Va x v=decide ((x.orders.length:Int)<=v.order):=by
   have h0:0<=v.order:=Za
   rw [Wf];simp [Va,h0]
  rw [e];exact we
theorem jA (x:Inst) (r:Rte) (v:Vis) (ho:x.orders.length<=1048576) (h1:0<=v.order) (h2:v.order<x.orders.length):ACalls Tryz.prog 246 [.p (Z7 v),.ptr 0 0] [Zi x,XA r] fun y H'=>y= .p (.bool (nth x.orders v.order.toNat).off)/\H'= [Zi x,XA r]:=by
 have h3:v.order.toNat<x.orders.length:=Za
 refine Zf [] Tryz.func246 rfl Zc1 ?_;simp (disch:=omega) only [Tryz.f246,Zi,XA,go_sem,seval];exact we
def Xk (x:Inst) (l:List Vis):Int :=
 if l.length=0\/l.any (Va x)=true then 2
 else if (l.any fun v=>(nth x.orders v.order.toNat).off)=true then 9
 else if Ar l=true then 6
 else if l.all (pairB x.orders l)=false then 19
 else if (x.apart.any fun p=>hasO l p.1&&hasO l p.2)=true then 20
 else if (x.before.any fun p=> !beforeB l p.1 p.2)=true then 21
 else 0
theorem Am {P Q:Prop} (h:Q) (e:Q->P:=by intro h;simp (disch:=omega) only [Zi,XA,go_sem,seval];exact h):P:=e h
theorem RQ (x:Inst) (r:Rte) (ho:x.orders.length<=1048576) (hl:r.visits.length<=1048576) (hap:x.apart.length<=1048576) (hbe:x.before.length<=1048576) :
  PC 229 [.p (Zv x),.p (Wd r)] (.int .i64 (Xk x r.visits)):=by
 refine Ze Tryz.func229 rfl ZcL ?_;simp (disch:=omega) only [Tryz.f229,go_sem,seval];refine gF ?_ ?_<;>intro h0<;>simp (disch:=omega) only [Sh.out h0,go_sem,seval]
 ·grind [Xk]
 ·have h00: ¬r.visits.length=0:=Za
  refine (Qm r.visits r.visits_c 245 [.ptr 0 0] [Zi x,XA r] (Va x) hl (by simp (disch:=omega) only [Zi,XA,go_sem,seval]) (by rfl) (fun v _=>iZ x r v ho)).useH (Am ?_);refine cD ?_ ?_<;>intro h1<;>simp (disch:=omega) only [Sh.out h1,go_sem,seval]
  ·simp_all [Xk]
  ·have h1':r.visits.any (Va x)=false:=Za
   have c1: ¬(r.visits.length=0\/r.visits.any (Va x)=true):=by grind
   have hin: ∀v∈r.visits,0<=v.order/\v.order<x.orders.length:=fun v hv=>by
    grind [Va]
   refine (Qm r.visits r.visits_c 246 [.ptr 0 0] [Zi x,XA r] (fun v=>(nth x.orders v.order.toNat).off) hl (by simp (disch:=omega) only [Zi,XA,go_sem,seval]) (by rfl) (fun v hv=>jA x r v ho (hin v hv).1 (hin v hv).2)).useH (Am ?_);refine cD ?_ ?_<;>intro h2<;>simp (disch:=omega) only [Sh.out h2,go_sem,seval]
   ·simp_all [Xk]
   ·refine (xL r.visits r.visits_c hl).use (Zc ?_);refine cD ?_ ?_<;>intro h3<;>simp (disch:=omega) only [Sh.out h3,go_sem,seval,↓reduceIte]
    ·simp_all [Xk,if_neg]
    ·refine (OO x r.visits r.visits_c hl ho hin).use (Zc ?_);refine cD ?_ ?_<;>intro h4<;>simp (disch:=omega) only [Sh.out h4,go_sem,seval,↓reduceIte]
     ·simp_all [Xk,if_neg]
     ·have h4':r.visits.all (pairB x.orders r.visits)=true:=by grind
      have hc:Xk x r.visits=if (x.apart.any fun p=>hasO r.visits p.1&&hasO r.visits p.2)=true then 20 else if (x.before.any fun p=> !beforeB r.visits p.1 p.2)=true then 21 else 0:=by
       rw [Xk,if_neg c1,if_neg (by grind),if_neg (by grind),if_neg (by grind)]
      clear h4 h4' h3 h2 c1 h1' h1 h0;refine Zk [2,5,33,34] (fun k:Nat=> [(35,.p (.int .i64 k))]) (fun _=> [Zi x,XA r]) (fun k=>k<=x.apart.length/\ ∀j,j<k->(hasO r.visits (nth x.apart j).1&&hasO r.visits (nth x.apart j).2)=false) (fun k=>x.apart.length-k) 0 Zb (Weak.mk ?_) ?_
      ·simp (disch:=omega) only [Zi,XA,go_sem,seval]
      ·rintro k ⟨hk,hno⟩;refine Am ?_;refine cD ?_ ?_<;>intro h<;>simp (disch:=omega) only [Sh.out h,go_sem,seval,↓reduceIte]
       ·have hk2:k<x.apart.length:=Za
        refine (Do r.visits r.visits_c (nth x.apart k).1 hl).use (Zc ?_);refine Ql ?_ ?_<;>intro h2
        ·refine (Do r.visits r.visits_c (nth x.apart k).2 hl).use (Zc ?_);refine ZK ?_ ?_<;>intro h3
         ·rw [hc,if_pos (VF hk2 (by grind))]
         ·exact ⟨k+1,⟨Za,Zp.2 ⟨hno,by grind⟩⟩,Za,wk⟩
        ·exact ⟨k+1,⟨Za,Zp.2 ⟨hno,by simp [h2]⟩⟩,Za,wk⟩
       ·have hkl:k=x.apart.length:=Za
        subst hkl;rw [hc,Jb hno];clear hno hk h hc;rw [if_neg Zb];refine Zk [5,51,52] (fun k:Nat=> [(53,.p (.int .i64 k))]) (fun _=> [Zi x,XA r]) (fun k=>k<=x.before.length/\ ∀j,j<k->(!beforeB r.visits (nth x.before j).1 (nth x.before j).2)=false) (fun k=>x.before.length-k) 0 Zb (Weak.mk ?_) ?_
        ·simp (disch:=omega) only [Zi,XA,go_sem,seval]
        ·rintro k ⟨hk,hno⟩;refine Am ?_;refine cD ?_ ?_<;>intro h<;>simp (disch:=omega) only [Sh.out h,go_sem,seval,↓reduceIte]
         ·have hk2:k<x.before.length:=Za
          refine (OL r.visits r.visits_c (nth x.before k).1 (nth x.before k).2 hl).use (Zc ?_);refine ZK ?_ ?_<;>intro h2
          ·have h3:(!beforeB r.visits (nth x.before k).1 (nth x.before k).2)=true:=Za
           rw [if_pos (VF hk2 h3)]
          ·have h3:(!beforeB r.visits (nth x.before k).1 (nth x.before k).2)=false:=Za
           exact ⟨k+1,⟨Za,Zp.2 ⟨hno,h3⟩⟩,Za,wk⟩
         grind [Jb]
@[go_sem] theorem Zl7 {H:List AM.Obj} {n cs cs'} :Ep H n (.tup cs) (.tup cs')=(cs'=cs/\Xv n cs=true):=by simp [Ep,fP,refB]
@[go_sem] theorem RJ {a b:V} :Jq [a,b]= .tup [a,b]:=Zl rfl rfl
theorem Vi {g:FuncId} {args:List V} {a b:PV} {H:List AM.Obj} {K:V->List AM.Obj->Prop} (h:ACalls Tryz.prog g args [] fun x H'=>x= .tup [.p a,.p b]/\H'= []) (k:K (.tup [.p a,.p b]) H) (ha:Xv 0 args=true:=by rfl):ACalls Tryz.prog g args H K :=
 (h.behind ha H).mono fun x H' hq=>by
  obtain ⟨y,H1,⟨rfl,rfl⟩,rfl,rfl⟩:=hq
  grind [shV,shVs]
def Xo (l:List Vis):Nat:=l.foldl (fun s v=>s|||pw v.order.toNat) 0
def HB (v:Vis):Bool:=decide (0<=v.order/\v.order<=62)
theorem DZ {l:List Vis} {k:Nat} (hk:k<l.length):Xo (l.take (k+1))=Xo (l.take k)|||pw (nth l k).order.toNat:=by
 grind [XZ,Xo,Zh]
theorem A5 : ∀(k:Nat) {l:List Vis},k<=l.length->(∀v∈l.take k,HB v=true)->Xo (l.take k)<9223372036854775808
 | 0,l,_,_=>by simp [Xo]
 | k+1,l,hk,h=>by
  have hk2:k<l.length:=Za
  have ih:=A5 k (l:=l) Za fun v hv=>h v (List.take_subset_take_left l Za hv);have hv:=h (nth l k) (by rw [Zh hk2];exact ZN.2 ⟨k,by simp;omega,Zb⟩);simp only [HB,Zs] at hv;have h2:pw (nth l k).order.toNat<=pw 62:=KD Za;have h3:=GJ;rw [DZ hk2];exact Jn (n:=63) Za Za
def Jp (l:List Vis):Int×Int:=if l.all HB=true then (((Xo l:Nat):Int),0) else (0,2)
theorem ON (r:Rte) (hl:r.visits.length<=1048576):PT 272 [.p (Wd r)] [.p (.int .i64 (Jp r.visits).1),.p (.int .i64 (Jp r.visits).2)]:=by
 refine Zf [] Tryz.func272 rfl Zdq ?_;simp (disch:=omega) only [Tryz.f272,go_sem,seval];refine Zk [8,9] (fun k:Nat=> [(4,.p (.int .i64 (Xo (r.visits.take k):Nat))),(10,.p (.int .i64 k))]) (fun _=> [XA r]) (fun k=>k<=r.visits.length/\ ∀j,j<k->HB (nth r.visits j)=true) (fun k=>r.visits.length-k) 0 Zb (Weak.mk ?_) ?_
 ·simp (disch:=omega) only [XA,Xo,Vq,VR,go_sem,seval]
 ·rintro k ⟨hk,hno⟩
  have hlt:=A5 k hk fun v hv=>by
   obtain ⟨j,hj,rfl⟩:=ZN.1 hv
   grind [Zh]
  simp (disch:=omega) only [XA,go_sem,seval];refine cD ?_ ?_<;>intro h<;>simp (disch:=omega) only [Sh.out h,go_sem,seval,↓reduceIte]
  ·have hk2:k<r.visits.length:=Za
   have hbad:HB (nth r.visits k)=false->Jp r.visits=(0,2):=fun h4=>by
    grind [Zt,Jp]
   have hs:=DZ hk2
   have hp:(nth r.visits k).order<=62->pw (nth r.visits k).order.toNat<=4611686018427387904:=fun h=>by rw [<- GJ];exact KD Za
   refine gF ?_ ?_<;>intro h1<;>simp (disch:=omega) only [Sh.out h1,go_sem,seval,↓reduceIte]
   ·have e:=hbad (by simp [HB];omega);rw [e];exact we
   ·refine ZK ?_ ?_<;>intro h2
    ·have e:=hbad (by simp [HB];omega);rw [e];exact we
    ·exact ⟨k+1,⟨Za,Zp.2 ⟨hno,by simp [HB];omega⟩⟩,Za,Weak.mk (by simp (disch:=omega) only [hs,go_sem,seval])⟩
  ·have hkl:k=r.visits.length:=Za
   subst hkl
   have:r.visits.all HB=true:=by
    rw [Zx];intro v hv;obtain ⟨j,hj,rfl⟩:=ZN.1 hv
    grind [Zh]
   have e:Jp r.visits=(((Xo r.visits:Nat):Int),0):=by simp [Jp,this]
   rw [e,X5];exact we
theorem Qu {α:Type} [Inhabited α] {a b:List α} (hl:a.length=b.length) (h: ∀j,j<a.length->nth a j=nth b j):a=b:=by
 grind [Jo,Zh]
def Y5 (a b:Int):Int:=if a<b then-1 else if b<a then 1 else 0
theorem SZ (a:Int):PC 108 [.p (.int .i64 a)] (.bool false):=by
 refine Ze Tryz.func108 rfl Zbp ?_;simp (disch:=omega) only [Tryz.f108,go_sem,seval]
 try simp
theorem Ev (a b:Int):PC 69 [.p (.int .i64 a),.p (.int .i64 b)] (.int .i64 (Y5 a b)):=by
 refine Ze Tryz.func69 rfl Zj0 ?_;simp (disch:=omega) only [Tryz.f69,go_sem,seval];refine (SZ a).use (Zc ?_);refine (SZ b).use (Zc ?_);refine cD ?_ ?_<;>intro h<;>simp (disch:=omega) only [Sh.out h,go_sem,seval]
 ·simp [Y5,h]
 ·refine cD ?_ ?_<;>intro h2<;>simp (disch:=omega) only [Sh.out h2,go_sem,seval]
  ·simp [Y5,h,h2]
  grind [Y5]
def vK (l:List Int):Int:=(l.find? fun n=>decide (n≠0)).getD 0
theorem Zd4 {l:List Int} {k:Nat} (hk:k<l.length) (h:nth l k≠0) (hno: ∀j,j<k->nth l j=0):vK l=nth l k:=by
 grind [nth,E9,vK]
theorem Zd5 {l:List Int} (hno: ∀j,j<l.length->nth l j=0):vK l=0:=by
 have:l.find? (fun n=>decide (n≠0))=none:=by
  rw [AN];intro x hx;obtain ⟨j,hj,rfl⟩:=ZN.1 hx
  grind [Zh]
 grind [vK]
theorem vL (l:List Int) (c:Bool) (hl:l.length<=100):PC 97 [.p (.list c (l.map eI))] (.int .i64 (vK l)):=by
 refine Ze Tryz.func97 rfl Zkm ?_;simp (disch:=omega) only [Tryz.f97,go_sem,seval];refine Zk [3,6,7] (fun k:Nat=> [(8,.p (.int .i64 k))]) (fun _=> []) (fun k=>k<=l.length/\ ∀j,j<k->nth l j=0) (fun k=>l.length-k) 0 Zb (Weak.mk ?_) ?_
 ·simp (disch:=omega) only [go_sem,seval]
 ·rintro k ⟨hk,hno⟩;refine Zc ?_;refine cD ?_ ?_<;>intro h<;>simp (disch:=omega) only [Sh.out h,go_sem,seval,↓reduceIte]
  ·have hk2:k<l.length:=Za
   refine ZK ?_ ?_<;>intro h2
   ·grind [Zd4]
   ·exact ⟨k+1,⟨Za,Zp.2 ⟨hno,Za⟩⟩,Za,wk⟩
  grind [Zd5]
theorem Fq (a b:Int):vK [a,b]=if a=0 then b else a:=by
 grind [vK]
def dn (v:Vis):Int:=if v.drp=true then 1 else 0
theorem Od (v:Vis):PC 261 [.p (Z7 v)] (.int .i64 (dn v)):=by
 refine Ze Tryz.func261 rfl Zdf ?_;simp (disch:=omega) only [Tryz.f261,go_sem,seval];refine cD ?_ ?_<;>intro h<;>simp (disch:=omega) only [Sh.out h,go_sem,seval]
 ·simp [dn,h]
 ·simp [dn,h]
def DJ (a b:Vis):Int:=if Y5 a.order b.order=0 then Y5 (dn a) (dn b) else Y5 a.order b.order
theorem bE (a b:Vis):PC 235 [.p (Z7 a),.p (Z7 b)] (.int .i64 (DJ a b)):=by
 refine Ze Tryz.func235 rfl ZcR ?_;simp (disch:=omega) only [Tryz.f235,go_sem,seval];refine Xq (Zc ?_);refine Zo (Ev a.order b.order) (Zc ?_);refine Zo (Od a) (Zc ?_);refine Zo (Od b) (Zc ?_);refine Zo (Ev (dn a) (dn b)) (Zc ?_);refine Zo (vL [Y5 a.order b.order,Y5 (dn a) (dn b)] false Zb) (Zc ?_);rw [Fq,DJ]
def BO : List Vis->List Vis->Int
 | [],[]=>0
 | [],_::_=> -1
 | _::_,[]=>1
 | a::r,b::s=>if DJ a b=0 then BO r s else DJ a b
theorem Qn {α:Type} [Inhabited α] {l:List α} {k:Nat} (h:k<l.length):l.drop k=nth l k::l.drop (k+1):=by rw [Ud h,Zh h]
theorem Hv (a b:List Vis) (c d:Bool) (ha:a.length<=1048576) (hb:b.length<=1048576) :
  PC 234 [.p (.list c (a.map Z7)),.p (.list d (b.map Z7)),.fn (.func 235) [] []] (.int .i64 (BO a b)):=by
 refine Ze Tryz.func234 rfl ZcQ ?_;simp (disch:=omega) only [Tryz.f234,go_sem,seval];refine Zk [0,1,2,11,12] (fun k:Nat=> [(13,.p (.int .i64 k))]) (fun _=> []) (fun k=>k<=a.length/\k<=b.length/\BO a b=BO (a.drop k) (b.drop k)) (fun k=>a.length-k) 0 Zb (Weak.mk ?_) ?_
 ·simp (disch:=omega) only [go_sem,seval,↓reduceIte]
 ·rintro k ⟨hk,hkb,hle⟩;refine Zc ?_;refine cD ?_ ?_<;>intro h<;>simp (disch:=omega) only [Sh.out h,go_sem,seval,↓reduceIte]
  ·have hk2:k<a.length:=Za
   rw [Qn hk2] at hle;refine cD ?_ ?_<;>intro h2<;>simp (disch:=omega) only [Sh.out h2,go_sem,seval,↓reduceIte]
   ·have:b.drop k= []:=CO Za;rw [hle,this];rfl
   ·have hk3:k<b.length:=Za
    rw [Qn hk3] at hle;refine (bE (nth a k) (nth b k)).use (Zc ?_);refine cD ?_ ?_<;>intro h3<;>simp (disch:=omega) only [Sh.out h3,go_sem,seval,↓reduceIte]
    ·simp_all [BO]
    ·have h4:DJ (nth a k) (nth b k)=0:=Za
     exact ⟨k+1,⟨Za,Za,by simp_all [BO]⟩,Za,wk⟩
  ·have hkl:k=a.length:=Za
   subst hkl;rw [Qs] at hle;refine cD ?_ ?_<;>intro h2<;>simp (disch:=omega) only [Sh.out h2,go_sem,seval]
   ·rw [Qn Za] at hle;rw [hle];rfl
   ·have:b.drop a.length= []:=CO Za;rw [hle,this];rfl
theorem eJ (a b:List Vis) (c d:Bool) (ha:a.length<=1048576) (hb:b.length<=1048576):PC 219 [.p (.list c (a.map Z7)),.p (.list d (b.map Z7))] (.bool (decide (BO a b<0))):=by
 refine Ze Tryz.func219 rfl ZcE ?_;simp (disch:=omega) only [Tryz.f219,go_sem,seval];refine (Hv a b c d ha hb).use ?_;simp (disch:=omega) only [go_sem,seval]
def KI (l:List Vis) (v:Vis):List Vis->Bool
 | []=>true
 | w::r=>if w=v then true else decide (0<=vIx l w)&&KI l v r
def Ur (l own:List Vis):Bool:=own.all fun w=>decide (0<=vIx l w)
def KR (os:List Ord) (l:List Vis) (o:Int) (p:Int×Int):Bool:=decide (p.2≠o)||Ur l (ZW os p.1.toNat)
def Y2 (x:Inst) (l:List Vis) (v:Vis):Bool:=decide (vIx l v<0)&&KI l v (ZW x.orders v.order.toNat)&&x.before.all (KR x.orders l v.order)
def Q8 (v:Vis):AM.Obj:= .cells [.p (.int .i64 v.order),.p (.bool v.drp)]
theorem qH {l:List Vis} {v:Vis} : -1<=vIx l v/\vIx l v<l.length:=by
 simp_all [kE,vIx]
theorem RR (x:Inst) (l:List Vis) (c:Bool) (v:Vis) (hl:l.length<=1048576) (ho:x.orders.length<=1048576) (hbl:x.before.length<=1048576) (hv:0<=v.order/\v.order<x.orders.length) (hb: ∀p∈x.before,0<=p.1/\p.1<x.orders.length) :
  PC 220 [.p (Zv x),.p (.list c (l.map Z7)),.p (Z7 v)] (.bool (Y2 x l v)):=by
 refine UZ [3] Tryz.func220 rfl ZcF ?_;simp (disch:=omega) only [Tryz.f220,go_sem,seval];refine (Db l c v hl).use (Zc ?_);refine cD ?_ ?_<;>intro h<;>simp (disch:=omega) only [Sh.out h,go_sem,seval]
 ·grind [Y2]
 ·have h1:vIx l v<0:=Za
  obtain ⟨i,hi⟩: ∃i:Nat,v.order=(i:Int):=⟨v.order.toNat,Za⟩
  have hr:Y2 x l v=(KI l v (ZW x.orders i)&&x.before.all (KR x.orders l v.order)):=by
   grind [Y2]
  have hvi:=visits_c x.orders x.orders_c i Za ho;rw [<- hi] at hvi;refine ZI [1,3,5] (fun _:Unit=> []) (fun _=> [Zi x,Q8 v]) (fun _=>KI l v (ZW x.orders i)=true) ?_ ?_
  ·refine Zc ?_;refine (hvi).use (Zc ?_);have hvl:=WV x.orders i;generalize hown:ZW x.orders i=own at hvl hr ⊢;refine Zk [1,3,5,21,22] (fun k:Nat=> [(23,.p (.int .i64 k))]) (fun _=> [Zi x,Q8 v]) (fun k=>k<=own.length/\KI l v own=KI l v (own.drop k)) (fun k=>own.length-k) 0 Zb (Weak.mk ?_) ?_
   ·simp (disch:=omega) only [Zi,Q8,go_sem,seval]
   ·rintro k ⟨hk,hp⟩;simp (disch:=omega) only [Zi,Q8,go_sem,seval];refine ZK ?_ ?_<;>intro h2
    ·have hk2:k<own.length:=Za
     rw [Qn hk2] at hp;refine ZK ?_ ?_<;>intro h3
     ·have h4:nth own k=v:=by grind [En]
      exact ⟨(),by simp_all [KI],wk⟩
     ·have h4: ¬nth own k=v:=by grind
      refine (Db l c (nth own k) hl).use (Zc ?_);refine ZK ?_ ?_<;>intro h5
      ·have h6: ¬ 0<=vIx l (nth own k):=Za
       simp_all [KI]
      ·have h6:0<=vIx l (nth own k):=Za
       exact ⟨k+1,⟨Za,by simp_all [KI]⟩,Za,wk⟩
    ·have hkl:k=own.length:=Za
     subst hkl;exact ⟨(),by rw [hp,Qs];rfl,wk⟩
  ·rintro _ hpre;rw [hpre,VS] at hr;refine Zg [] _ _ _ _ ?_;simp (disch:=omega) only [Zi,Q8,go_sem,seval];refine Zk [1,3,5,36,37] (fun k:Nat=> [(38,.p (.int .i64 k))]) (fun _=> [Zi x,Q8 v]) (fun k=>k<=x.before.length/\ ∀j,j<k->KR x.orders l v.order (nth x.before j)=true) (fun k=>x.before.length-k) 0 Zb (Weak.mk ?_) ?_
   ·simp (disch:=omega) only [Zi,Q8,go_sem,seval]
   ·rintro k ⟨hk,hno⟩;simp (disch:=omega) only [Zi,Q8,go_sem,seval];refine cD ?_ ?_<;>intro h2<;>simp (disch:=omega) only [Sh.out h2,go_sem,seval,↓reduceIte]
    ·have hk2:k<x.before.length:=Za
     have hbk:=hb _ (Zt hk2)
     have hbad:KR x.orders l v.order (nth x.before k)=false->Y2 x l v=false:=fun h4=>by
      grind [Zt]
     refine ZK ?_ ?_<;>intro h3
     ·exact ⟨k+1,⟨Za,Zp.2 ⟨hno,by simp [KR,h3]⟩⟩,Za,wk⟩
     ·obtain ⟨a,hao⟩: ∃a:Nat,(nth x.before k).1=(a:Int):=⟨(nth x.before k).1.toNat,Za⟩;have hva:=visits_c x.orders x.orders_c a Za ho;rw [<- hao] at hva
      have h3':(nth x.before k).2=v.order:=Za
      have hbe:KR x.orders l v.order (nth x.before k)=Ur l (ZW x.orders a):=by grind [KR]
      refine (hva).use (Zc ?_);have hvl:=WV x.orders a;generalize hown:ZW x.orders a=own at hvl hbe ⊢;refine Zk [1,3,5,36,37,38,51,52] (fun k:Nat=> [(53,.p (.int .i64 k))]) (fun _=> [Zi x,Q8 v,.cells [.p (.int .i64 (nth x.before k).1),.p (.int .i64 (nth x.before k).2)]]) (fun q=>q<=own.length/\ ∀j,j<q->decide (0<=vIx l (nth own j))=true) (fun k=>own.length-k) 0 Zb (Weak.mk ?_) ?_
      ·simp (disch:=omega) only [Zi,Q8,go_sem,seval]
      ·rintro q ⟨hq,hnq⟩;simp (disch:=omega) only [Zi,Q8,go_sem,seval];refine ZK ?_ ?_<;>intro h4
       ·have hq2:q<own.length:=Za
        refine (Db l c (nth own q) hl).use (Zc ?_);refine ZK ?_ ?_<;>intro h5
        ·grind [Ur,Zt]
        ·exact ⟨q+1,⟨Za,Zp.2 ⟨hnq,by simp;omega⟩⟩,Za,wk⟩
       ·have hql:q=own.length:=Za
        subst hql
        have:Ur l own=true:=by
         rw [Ur,Zx];intro w hw;obtain ⟨j,hj,rfl⟩:=ZN.1 hw
         grind [Zh]
        exact ⟨k+1,⟨Za,Zp.2 ⟨hno,by grind⟩⟩,Za,wk⟩
    ·have hkl:k=x.before.length:=Za
     subst hkl
     have:x.before.all (KR x.orders l v.order)=true:=by
      rw [Zx];intro w hw;obtain ⟨j,hj,rfl⟩:=ZN.1 hw
      grind [Zh]
     rw [hr,this]
def Uw (x:Inst) (S:Nat) (l:List Vis) (i:Nat):List Vis:=if S.testBit i=true/\(nth x.orders i).off=false then (ZW x.orders i).filter (Y2 x l) else []
def nextU (x:Inst) (S:Nat) (l:List Vis) (k:Nat):List Vis:=(List.range k).flatMap (Uw x S l)
theorem BQ (x S l k):nextU x S l (k+1)=nextU x S l k++Uw x S l k:=by simp [nextU,X6]
theorem cM (x S l i):(Uw x S l i).length<=2:=by
 grind [Uw,WV]
theorem JL (x S l): ∀k,(nextU x S l k).length<=2*k
 | 0=>by simp [nextU]
 | k+1=>by
  have h1:=JL x S l k;have h2:=cM x S l k;rw [BQ,ZJ];omega
theorem eK (x:Inst) (S:Nat) (l:List Vis) (c:Bool) (hS:S<9223372036854775808) (hl:l.length<=1048576) (ho:x.orders.length<=60) (hbl:x.before.length<=1048576) (hb: ∀p∈x.before,0<=p.1/\p.1<x.orders.length) :
  PC 192 [.p (Zv x),.p (.int .i64 (S:Nat)),.p (.list c (l.map Z7))] (.list false ((nextU x S l x.orders.length).map Z7)):=by
 refine ACalls.frozen (S:=2) (n:=(nextU x S l x.orders.length).length) Zb ?_
 suffices hh:ACalls Tryz.prog 192 [.p (Zv x),.p (.int .i64 (S:Nat)),.p (.list c (l.map Z7))] [] fun y H'=> ∃m:List Vis,m=nextU x S l x.orders.length/\y= .sl 0 0 m.length m.length/\H'= [.elems 2 (m.map Z7)] by
  grind
 refine ZX [2] Tryz.func192 rfl Zcp ?_;simp (disch:=omega) only [Tryz.f192,go_sem,seval];refine Zq (Weak.ofNil 7 2 (by simp (disch:=omega) only [go_sem,seval]) Zb (Weak.refl _ _ _)) ?_;refine Zg [] _ _ _ _ (Zc ?_);refine Zk [1,2,3,13,14] (fun q:Nat×List Vis=> [(7,.sl 1 0 q.2.length q.2.length),(15,.p (.int .i64 q.1))]) (fun q=> [Zi x,.elems 2 (q.2.map Z7)]) (fun q=>q.1<=x.orders.length/\q.2=nextU x S l q.1) (fun q=>x.orders.length-q.1) (0,[]) ⟨Zb,by simp [nextU]⟩ (Weak.mk ?_) ?_
 ·simp (disch:=omega) only [Zi,go_sem,seval]
 ·rintro ⟨k,m⟩ ⟨hk,hm⟩;simp only at hk hm
  have hml:m.length<=2*k:=by grind [JL]
  have hsc:=BQ x S l k;refine Yl ?_;refine cD ?_ ?_<;>intro h<;>simp (disch:=omega) only [Sh.out h,go_sem,seval,↓reduceIte]
  ·have hk2:k<x.orders.length:=Za
   refine LD ?_ ?_<;>intro h62
   ·omega
   refine LD ?_ ?_<;>intro h2
   ·have hbit:S.testBit k=false:=by grind [Lt]
    have e:Uw x S l k= []:=by simp [Uw,hbit]
    exact ⟨(k+1,m),⟨Za,by grind⟩,Za,wk⟩
   ·have hbit:S.testBit k=true:=by
     grind [Lt]
    refine ZK ?_ ?_<;>intro h3
    ·have e:Uw x S l k= []:=by simp [Uw,h3]
     exact ⟨(k+1,m),⟨Za,by grind⟩,Za,wk⟩
    ·have h3':(nth x.orders k).off=false:=Za
     have e:Uw x S l k=(ZW x.orders k).filter (Y2 x l):=by grind [Uw]
     refine (visits_c x.orders x.orders_c k hk2 Za).use (Zc ?_);have hvl:=WV x.orders k;have hvo: ∀v∈ZW x.orders k,v.order=k:=fun v hv=>Yj hv;generalize hown:ZW x.orders k=own at hvl e hvo ⊢;refine Zk [1,2,3,13,14,15,36,37] (fun q:Nat×List Vis=> [(7,.sl 1 0 q.2.length q.2.length),(38,.p (.int .i64 q.1))]) (fun q=> [Zi x,.elems 2 (q.2.map Z7),Wg (nth x.orders k)]) (fun q=>q.1<=own.length/\q.2=m++(own.take q.1).filter (Y2 x l)) (fun q=>own.length-q.1) (0,m) ⟨Zb,Zb⟩ (Weak.mk ?_) ?_
     ·simp (disch:=omega) only [Zi,Wg,h3',go_sem,seval]
     ·rintro ⟨j,m2⟩ ⟨hj,hm2⟩;simp only at hj hm2
      have hm2l:m2.length<=2*k+2:=by
       grind
      simp (disch:=omega) only [Zi,Wg,h3',go_sem,seval];refine ZK ?_ ?_<;>intro h4
      ·have hj2:j<own.length:=Za
       have hvj:=hvo _ (Zt hj2)
       have htk:own.take (j+1)=own.take j++ [nth own j]:=by rw [XZ hj2,Zh hj2]
       have hrd:=RR x l c (nth own j) hl Za hbl Za hb;refine (hrd).use (Zc ?_);refine ZK ?_ ?_<;>intro h5
       ·exact ⟨(j+1,m2++ [nth own j]),⟨Za,by grind⟩,Za,Weak.mk (by simp (disch:=omega) only [h3',go_sem,seval])⟩
       ·exact ⟨(j+1,m2),⟨Za,by grind⟩,Za,Weak.mk (by simp (disch:=omega) only [h3',go_sem,seval])⟩
      ·have hjl:j=own.length:=Za
       subst hjl;exact ⟨(k+1,m2),⟨Za,by grind⟩,Za,wk⟩
  ·have hkn:k=x.orders.length:=Za
   subst hkn;exact ⟨m,hm,1,by simp (disch:=omega) only [go_sem,seval]⟩
theorem Za8 (l:List Vis) (c:Bool) (hl:l.length<=1048576):PC 195 [.p (.list c (l.map Z7))] (.list true (l.map Z7)):=by
 refine Ze Tryz.func195 rfl Zcs ?_;simp (disch:=omega) only [Tryz.f195,go_sem,seval,↓reduceIte]
@[go_sem] theorem ZoB {H:List AM.Obj} {u2:TypeId} {xs:List PV} {y:V} {k:V->List AM.Obj->Prop} {tt} :SH Tryz.prog H 41 u2 (.p (.list true xs)) y (Zu k tt)=BU ((aA (some (2,16)) xs (YR (Tryz.prog.underlying u2) H y)).map .p) (Zu (fun v=>k v H) ⟨⟩):=P1 gY
def ZqG (nx:List Vis->List Vis):Nat->List Vis->List (List Vis)->List (List Vis)×Bool
 | 0,l,outs=>(outs++ [l],decide (outs.length+1<=8192))
 | f+1,l,outs=>(nx l).foldl (fun acc v=>if acc.2=true then ZqG nx f (l++ [v]) acc.1 else acc) (outs,true)
def Ap (x:Inst) (S k:Nat):Nat:=((List.range k).map fun i=>if S.testBit i=true then (ZW x.orders i).length else 0).sum
theorem Bd (x S k):Ap x S (k+1)=Ap x S k+if S.testBit k=true then (ZW x.orders k).length else 0:=by simp [Ap,X6]
theorem Dv (x S): ∀k,Ap x S k<=2*k
 | 0=>by simp [Ap]
 | k+1=>by
  have h1:=Dv x S k;have h2:=WV x.orders k;rw [Bd]
  split<;>omega
def nHas (S:Nat) (i:Int):Bool:=decide (0<=i/\i<=62)&&S.testBit i.toNat
theorem Ob {S i:Nat} (h:i<=62):nHas S (i:Int)=S.testBit i:=by
 grind [nHas]
theorem JN (S:Nat) (i:Int) (hS:S<9223372036854775808):PC 175 [.p (.int .i64 (S:Nat)),.p (.int .i64 i)] (.bool (nHas S i)):=by
 refine Ze Tryz.func175 rfl Zcd ?_;simp (disch:=omega) only [Tryz.f175,go_sem,seval];refine gT ?_ ?_<;>intro h<;>simp (disch:=omega) only [Sh.out h,go_sem,seval,↓reduceIte]
 ·refine gT ?_ ?_<;>intro h1<;>simp (disch:=omega) only [Sh.out h1,go_sem,seval,↓reduceIte]
  ·refine gT ?_ ?_<;>intro h2<;>simp (disch:=omega) only [Sh.out h2,go_sem,seval,↓reduceIte]
   ·have e:((S / pw i.toNat:Nat):Int).tmod 2=((S / pw i.toNat%2:Nat):Int):=by rfl
    rw [e];have h3:(((S / pw i.toNat%2:Nat):Int)=1)=(S.testBit i.toNat=true):=Lu
    simp_all [nHas]
   ·simp [nHas,h2]
  ·simp [nHas,h1]
 ·omega
theorem OI (x:Inst) (i:Nat) (hi:i<x.orders.length) (hl:x.orders.length<=1048576) (hpl: ∀o∈x.orders,-1<=o.pick.place/\ -1<=o.drp.place):ACalls Tryz.prog 177 [.p (Zv x),.p (.int .i64 (i:Nat))] [] fun y H'=>y= .sl 0 0 (ZW x.orders i).length (ZW x.orders i).length/\H'= [.elems 2 ((ZW x.orders i).map Z7)]:=by
 suffices hh:ACalls Tryz.prog 177 [.p (Zv x),.p (.int .i64 (i:Nat))] [] fun y H'=> ∃m:List Vis,m=ZW x.orders i/\y= .sl 0 0 m.length m.length/\H'= [.elems 2 (m.map Z7)] by
  grind
 obtain ⟨h1,h2⟩:=hpl _ (Zt hi);refine ZX [2] Tryz.func177 rfl Zcf ?_;simp (disch:=omega) only [Tryz.f177,go_sem,seval];refine Zq (Weak.ofNil 5 2 (by simp (disch:=omega) only [go_sem,seval]) Zb (Weak.refl _ _ _)) ?_;refine ZI [1,2] (fun m:List Vis=> [(5,.sl 1 0 m.length m.length)]) (fun m=> [Zi x,.elems 2 (m.map Z7)]) (fun m=>m=(if 0<=(nth x.orders i).pick.place then [⟨i,false⟩] else [])) ?_ ?_
 ·refine Zc ?_;refine ZK ?_ ?_<;>intro h
  ·exact ⟨[⟨i,false⟩],by grind,Weak.mk (by simp (disch:=omega) only [Zi,go_sem,seval])⟩
  ·exact ⟨[],by grind,Weak.mk (by simp (disch:=omega) only [Zi,go_sem,seval])⟩
 ·intro m hm
  have hml:m.length<=1:=by grind
  refine Zg [] _ _ _ _ (Yl ?_);refine cD ?_ ?_<;>intro h<;>simp (disch:=omega) only [Sh.out h,go_sem,seval,↓reduceIte]
  ·exact ⟨m++ [⟨i,true⟩],by rw [ZW,hm,if_pos (c:=0<=(nth x.orders i).drp.place) Za],1,by simp (disch:=omega) only [go_sem,seval]⟩
  ·exact ⟨m,by simp_all [ZW],1,by simp (disch:=omega) only [go_sem,seval]⟩
theorem Ea (x:Inst) (i:Nat) (hi:i<x.orders.length) (hl:x.orders.length<=1048576) (hpl: ∀o∈x.orders,-1<=o.pick.place/\ -1<=o.drp.place):PC 177 [.p (Zv x),.p (.int .i64 (i:Nat))] (.list false ((ZW x.orders i).map Z7)) :=
 (OI x i hi hl hpl).frozen Zb
theorem QD (l:List Vis) (c:Bool) (v:Vis) (hl:l.length<=1048576):PC 134 [.p (.list c (l.map Z7)),.p (Z7 v)] (.int .i64 (vIx l v)):=by
 refine Ze Tryz.func134 rfl ZbO ?_;simp (disch:=omega) only [Tryz.f134,go_sem,seval];refine Zk [0,3] (fun k:Nat=> [(5,.p (.int .i64 k))]) (fun _=> [Q8 v]) (fun k=>k<=l.length/\ ∀j,j<k->decide (v=nth l j)=false) (fun k=>l.length-k) 0 Zb (Weak.mk ?_) ?_
 ·simp (disch:=omega) only [Q8,go_sem,seval,↓reduceIte]
 ·rintro k ⟨hk,hno⟩;simp (disch:=omega) only [Q8,go_sem,seval];refine cD ?_ ?_<;>intro h<;>simp (disch:=omega) only [Sh.out h,go_sem,seval,↓reduceIte]
  ·have hk2:k<l.length:=Za
   refine Xq (Zc ?_);refine cD ?_ ?_<;>intro h2<;>simp (disch:=omega) only [Sh.out h2,go_sem,seval,↓reduceIte]
   ·have:v=nth l k:=Eq.symm (by grind [En])
    grind [vIx,LL]
   ·have: ¬v=nth l k:=fun e=>by grind
    exact ⟨k+1,⟨Za,Zp.2 ⟨hno,by grind⟩⟩,Za,wk⟩
  grind [vIx,P6]
theorem EC (l s:List Vis) (c d:Bool) (hl:l.length<=1048576) (hs:s.length<=1048576):PC 179 [.p (.list c (l.map Z7)),.p (.list d (s.map Z7))] (.bool (Ur l s)):=by
 refine Ze Tryz.func179 rfl Zch ?_;simp (disch:=omega) only [Tryz.f179,go_sem,seval];refine Zk [0,1] (fun k:Nat=> [(5,.p (.int .i64 k))]) (fun _=> []) (fun k=>k<=s.length/\ ∀j,j<k->decide (0<=vIx l (nth s j))=true) (fun k=>s.length-k) 0 Zb (Weak.mk ?_) ?_
 ·simp (disch:=omega) only [go_sem,seval,↓reduceIte]
 ·rintro k ⟨hk,hno⟩;refine Zc ?_;refine cD ?_ ?_<;>intro h<;>simp (disch:=omega) only [Sh.out h,go_sem,seval,↓reduceIte]
  ·have hk2:k<s.length:=Za
   refine (QD l c (nth s k) hl).use (Zc ?_);refine cD ?_ ?_<;>intro h2<;>simp (disch:=omega) only [Sh.out h2,go_sem,seval,↓reduceIte]
   ·grind [Ur,Zt]
   ·exact ⟨k+1,⟨Za,Zp.2 ⟨hno,by simp;omega⟩⟩,Za,wk⟩
  ·have hkl:k=s.length:=Za
   subst hkl
   have:Ur l s=true:=by
    rw [Ur,Zx];intro w hw;obtain ⟨j,hj,rfl⟩:=ZN.1 hw
    grind [Zh]
   rw [this]
theorem oV (a b:Vis):PC 212 [.p (Z7 a),.p (Z7 b)] (.bool (decide (DJ a b<0))):=by
 refine Ze Tryz.func212 rfl Zcy ?_;simp (disch:=omega) only [Tryz.f212,go_sem,seval]
 repeat' (first | (refine gT ?_ ?_<;>intro hq<;>simp (disch:=omega) only [Sh.out hq,go_sem,seval,↓reduceIte]) | (refine gF ?_ ?_<;>intro hq<;>simp (disch:=omega) only [Sh.out hq,go_sem,seval,↓reduceIte]) | (refine U0 (fun hq=> ?_) (fun hq=> ?_)<;>(try simp only [Zs,XX,Z3] at hq)<;>simp (disch:=omega) only [Sh.out hq,go_sem,seval]))
 ·simp_all [DJ,Y5]
 ·rename_i h1 h2
  have ha:a.drp=false:=by grind
  cases hb:b.drp<;>simp [DJ,Y5,dn,h2,ha,hb]
 ·grind [DJ,Y5,dn]
 grind [DJ,Y5]
theorem HV {a b:Int} :Y5 a b=0↔a=b:=by grind [Y5]
theorem Zbc {a b:Vis} :dn a=dn b↔a.drp=b.drp:=by grind [dn]
theorem HW {a b:Vis} :DJ a b=0↔a=b:=by
 grind [DJ,En,HV,Zbc]
theorem wK (a b:List Vis) (c d:Bool) (ha:a.length<=1048576) (hb:b.length<=1048576):PC 178 [.p (.list c (a.map Z7)),.p (.list d (b.map Z7))] (.bool (decide (BO a b<0))):=by
 refine Ze Tryz.func178 rfl Zcg ?_;simp (disch:=omega) only [Tryz.f178,go_sem,seval];refine Zk [0,1] (fun k:Nat=> [(5,.p (.int .i64 k))]) (fun _=> []) (fun k=>k<=a.length/\k<=b.length/\BO a b=BO (a.drop k) (b.drop k)) (fun k=>a.length-k) 0 Zb (Weak.mk ?_) ?_
 ·simp (disch:=omega) only [go_sem,seval,↓reduceIte]
 ·rintro k ⟨hk,hkb,hle⟩;refine Zc ?_;refine gT ?_ ?_<;>intro h<;>simp (disch:=omega) only [Sh.out h,go_sem,seval,↓reduceIte]
  ·refine cD ?_ ?_<;>intro h2<;>simp (disch:=omega) only [Sh.out h2,go_sem,seval,↓reduceIte]
   ·have hk2:k<a.length:=Za
    have hk3:k<b.length:=Za
    rw [Qn hk2,Qn hk3,BO] at hle;refine Xq (Zc ?_);refine cD ?_ ?_<;>intro h3<;>simp (disch:=omega) only [Sh.out h3,go_sem,seval,↓reduceIte]
    ·have hne:DJ (nth a k) (nth b k)≠0:=fun e=>by
      grind [HW]
     refine Xq (Zc ?_);refine Zo (oV (nth a k) (nth b k)) (Zc ?_)
     grind
    ·have e2:nth a k=nth b k:=by
      grind [En]
     exact ⟨k+1,⟨Za,Za,by simp_all [HW]⟩,Za,wk⟩
   grind [Qn,BO]
  ·have:a.drop k= []:=CO Za;rw [hle,this]
   cases hb:b.drop k with
   | nil =>
    have:b.length<=k:=List.drop_eq_nil_iff.1 hb;simp [BO];omega
   | cons x r =>
    have:k<b.length:=by
     grind
    simp [BO];omega
theorem dD {S n:Nat} (h:S.testBit n=true):S|||pw n=S:=by
 apply CT
 grind [Kx]
theorem nO {S n:Nat} (h:S.testBit n=false):S|||pw n=S+pw n:=by
 have e:S%2^(n+1)=S%2^n+2^n*(S / 2^n%2):=Nat.mod_pow_succ;rw [Nat.testBit_eq_decide_div_mod_eq] at h
 have h0:S / 2^n%2=0:=by grind
 rw [h0,Nat.mul_zero,VN] at e;have hp:0<2^n:=Nat.two_pow_pos n
 have hs:2^(n+1)=2^n+2^n:=Za
 have r1:S%2^(n+1)<2^n:=Za
 have e1:=Nat.two_pow_add_eq_or_of_lt (i:=n) r1 1;have e2:=Nat.two_pow_add_eq_or_of_lt (i:=n+1) (b:=2^n*1+S%2^(n+1)) Za (S / 2^(n+1));have e3:=Nat.two_pow_add_eq_or_of_lt (i:=n+1) (b:=S%2^(n+1)) Za (S / 2^(n+1));have e4:=Nat.div_add_mod S (2^(n+1));rw [pw]
 grind
theorem IG (r:Rte) (hl:r.visits.length<=1048576):PT 127 [.p (Wd r)] [.p (.int .i64 (Jp r.visits).1),.p (.int .i64 (Jp r.visits).2)]:=by
 refine Zf [] Tryz.func127 rfl ZbH ?_;simp (disch:=omega) only [Tryz.f127,go_sem,seval];refine Zk [1] (fun k:Nat=> [(4,.p (.int .i64 (Xo (r.visits.take k):Nat))),(5,.p (.int .i64 k))]) (fun _=> [XA r]) (fun k=>k<=r.visits.length/\ ∀j,j<k->HB (nth r.visits j)=true) (fun k=>r.visits.length-k) 0 Zb (Weak.mk ?_) ?_
 ·simp (disch:=omega) only [XA,Xo,Vq,VR,go_sem,seval]
 ·rintro k ⟨hk,hno⟩
  have hlt:=A5 k hk fun v hv=>by
   obtain ⟨j,hj,rfl⟩:=ZN.1 hv
   grind [Zh]
  simp (disch:=omega) only [XA,go_sem,seval];refine cD ?_ ?_<;>intro h<;>simp (disch:=omega) only [Sh.out h,go_sem,seval,↓reduceIte]
  ·have hk2:k<r.visits.length:=Za
   have hbad:HB (nth r.visits k)=false->Jp r.visits=(0,2):=fun h4=>by
    grind [Zt,Jp]
   have hs:=DZ hk2
   have hp:(nth r.visits k).order<=62->pw (nth r.visits k).order.toNat<=4611686018427387904:=fun h=>by rw [<- GJ];exact KD Za
   refine gF ?_ ?_<;>intro h1<;>simp (disch:=omega) only [Sh.out h1,go_sem,seval,↓reduceIte]
   ·have e:=hbad (by simp [HB];omega);rw [e];exact we
   ·refine cD ?_ ?_<;>intro h2<;>simp (disch:=omega) only [Sh.out h2,go_sem,seval]
    ·have e:=hbad (by simp [HB];omega);rw [e];exact we
    ·have h4:=hp Za;refine (JN (Xo (r.visits.take k)) (nth r.visits k).order hlt).use (Zc ?_)
     have hin:0<=(nth r.visits k).order/\(nth r.visits k).order<=62:=Za
     have hnh:nHas (Xo (r.visits.take k)) (nth r.visits k).order=(Xo (r.visits.take k)).testBit (nth r.visits k).order.toNat:=by simp [nHas,hin]
     rw [hnh];have hno2:=(Zp (p:=fun j=>HB (nth r.visits j)=true)).2 ⟨hno,by simp [HB];omega⟩
     have hlt2:=A5 (k+1) hk2 fun v hv=>by
      obtain ⟨j,hj,rfl⟩:=ZN.1 hv
      grind [Zh]
     refine ZK ?_ ?_<;>intro h5
     ·have h6:(Xo (r.visits.take k)).testBit (nth r.visits k).order.toNat=false:=by grind
      rw [nO h6] at hs;rw [hs] at hlt2;exact ⟨k+1,⟨Za,hno2⟩,Za,Weak.mk (by simp (disch:=omega) only [hs,Int.natCast_add,go_sem,seval])⟩
     ·have h6:(Xo (r.visits.take k)).testBit (nth r.visits k).order.toNat=true:=by grind
      rw [dD h6] at hs;exact ⟨k+1,⟨Za,hno2⟩,Za,Weak.mk (by simp (disch:=omega) only [hs,go_sem,seval])⟩
  ·have hkl:k=r.visits.length:=Za
   subst hkl
   have:r.visits.all HB=true:=by
    rw [Zx];intro v hv;obtain ⟨j,hj,rfl⟩:=ZN.1 hv
    grind [Zh]
   have e:Jp r.visits=(((Xo r.visits:Nat):Int),0):=by simp [Jp,this]
   rw [e,X5];exact we
def Plc (x:Inst):Prop:= ∀o∈x.orders,-1<=o.pick.place/\ -1<=o.drp.place
theorem xM {l:List Vis} {v w:Vis} (h:vIx l v=vIx l w) (h0:0<=vIx l v):v=w:=by
 unfold vIx H7 at h h0
 cases hv:l.findIdx? (fun u=>decide (v=u)) with
 | none=>grind
 | some i =>
  grind [UK]
theorem Ky (os:List Ord) (i:Nat):ZW os i= []\/ZW os i= [⟨i,false⟩]\/ZW os i= [⟨i,true⟩]\/ZW os i= [⟨i,false⟩,⟨i,true⟩]:=by
 grind [ZW]
theorem nZ {l own:List Vis} (ho:own= []\/(∃v,own= [v])\/ ∃v w,own= [v,w]/\v≠w) :
  Jd l (-1) own=(Ur l own&& !(decide (own.length=2)&&decide (vIx l (nth own 1)<vIx l (nth own 0)))):=by
 rcases ho with rfl | ⟨v,rfl⟩ | ⟨v,w,rfl,hne⟩
 ·rfl
 ·grind [Jd,Ur]
 ·have hne2:0<=vIx l v->vIx l v≠vIx l w:=fun h0 h=>hne (xM h h0);have h1:= @qH l v;have h2:= @qH l w;rw [Wf];simp [Jd,Ur,nth];omega
theorem O8 (os:List Ord) (i:Nat):ZW os i= []\/(∃v,ZW os i= [v])\/ ∃v w,ZW os i= [v,w]/\v≠w:=by
 grind [Ky]
theorem FK {α:Type} [Inhabited α] {l:List α} {f:α->Bool} {k:Nat} (hk:k<l.length) (h:f (nth l k)=false):l.all f=false:=by
 grind [Zt]
theorem Le {α:Type} [Inhabited α] {l:List α} {f:α->Bool} (h: ∀j,j<l.length->f (nth l j)=true):l.all f=true:=by
 rw [Zx];intro v hv;obtain ⟨j,hj,rfl⟩:=ZN.1 hv
 grind [Zh]
theorem eA (x:Inst) (l:List Vis) (c:Bool) (hl:l.length<=1048576) (ho:x.orders.length<=1048576) (hp:Plc x) (hv: ∀v∈l,0<=v.order/\v.order<x.orders.length) :
  PC 135 [.p (Zv x),.p (.list c (l.map Z7))] (.bool (l.all (pairB x.orders l))):=by
 refine Ze Tryz.func135 rfl ZbP ?_;simp (disch:=omega) only [Tryz.f135,go_sem,seval];refine Zk [1,2] (fun k:Nat=> [(5,.p (.int .i64 k))]) (fun _=> [Zi x]) (fun k=>k<=l.length/\ ∀j,j<k->pairB x.orders l (nth l j)=true) (fun k=>l.length-k) 0 Zb (Weak.mk ?_) ?_
 ·simp (disch:=omega) only [Zi,go_sem,seval]
 ·rintro k ⟨hk,hno⟩;refine Yl ?_;refine cD ?_ ?_<;>intro h<;>simp (disch:=omega) only [Sh.out h,go_sem,seval,↓reduceIte]
  ·have hk2:k<l.length:=Za
   obtain ⟨v1,v2⟩:=hv _ (Zt hk2);obtain ⟨i,hi⟩: ∃i:Nat,(nth l k).order=(i:Int):=⟨(nth l k).order.toNat,Za⟩;rw [hi] at v1 v2
   have hpb:pairB x.orders l (nth l k)=(decide (0<=vIx (ZW x.orders i) (nth l k))&&Jd l (-1) (ZW x.orders i)):=by rw [pairB,hi];rfl
   have hown:=O8 x.orders i;rw [nZ hown] at hpb;refine Xq ?_;simp (disch:=omega) only [hi,go_sem,seval];refine Zo (Ea x i Za ho hp) (Zc ?_);have hvl:=WV x.orders i;generalize ZW x.orders i=own at hvl hpb;have hix:=QD own false (nth l k) Za;rw [SD,hi] at hix;refine Xq ?_;simp (disch:=omega) only [hi,go_sem,seval];refine Zo (hix) (Zc ?_);refine gF ?_ ?_<;>intro h2<;>simp (disch:=omega) only [Sh.out h2,go_sem,seval]
   ·grind [FK]
   ·have h3:0<=vIx own (nth l k):=Za
    have hgo:pairB x.orders l (nth l k)=true-> ∀j,j<k+1->pairB x.orders l (nth l j)=true:=fun e=>Zp.2 ⟨hno,e⟩;refine Zo (EC l own c false hl Za) (Zc ?_);refine gF ?_ ?_<;>intro h4<;>simp (disch:=omega) only [Sh.out h4,go_sem,seval]
    ·grind [FK]
    ·have h5:Ur l own=true:=by grind
     rw [h5] at hpb;refine Ql ?_ ?_<;>intro h6
     ·have h7:own.length=2:=Za
      refine Zo (QD l c (nth own 0) hl) (Zc ?_);refine Zo (QD l c (nth own 1) hl) (Zc ?_);refine ZK ?_ ?_<;>intro h8
      ·grind [FK]
      ·exact ⟨k+1,⟨Za,hgo (by grind)⟩,Za,wk⟩
     ·exact ⟨k+1,⟨Za,hgo (by grind)⟩,Za,wk⟩
  grind [Le]
def apB (x:Inst) (S:Nat):Bool:=x.apart.any fun p=>nHas S p.1&&nHas S p.2
theorem oP (x:Inst) (S:Nat) (hS:S<9223372036854775808) (ha:x.apart.length<=1048576):PC 136 [.p (Zv x),.p (.int .i64 (S:Nat))] (.bool (!apB x S)):=by
 refine Ze Tryz.func136 rfl ZbQ ?_;simp (disch:=omega) only [Tryz.f136,go_sem,seval];refine Zk [1,2] (fun k:Nat=> [(5,.p (.int .i64 k))]) (fun _=> [Zi x]) (fun k=>k<=x.apart.length/\ ∀j,j<k->(nHas S (nth x.apart j).1&&nHas S (nth x.apart j).2)=false) (fun k=>x.apart.length-k) 0 Zb (Weak.mk ?_) ?_
 ·simp (disch:=omega) only [Zi,go_sem,seval]
 ·rintro k ⟨hk,hno⟩;refine Yl ?_;refine cD ?_ ?_<;>intro h<;>simp (disch:=omega) only [Sh.out h,go_sem,seval,↓reduceIte]
  ·have hk2:k<x.apart.length:=Za
   refine (JN S (nth x.apart k).1 hS).use (Zc ?_);refine Ql ?_ ?_<;>intro h2
   ·refine (JN S (nth x.apart k).2 hS).use (Zc ?_);refine ZK ?_ ?_<;>intro h3
    ·grind [apB,VF]
    ·exact ⟨k+1,⟨Za,Zp.2 ⟨hno,by grind⟩⟩,Za,wk⟩
   ·exact ⟨k+1,⟨Za,Zp.2 ⟨hno,by rw [h2];rfl⟩⟩,Za,wk⟩
  grind [apB,Jb]
def KB (l:List Vis) (a b:Int) (j k:Nat):Bool:=decide ((nth l j).order=a)&&decide ((nth l k).order=b)
def Q3 (S:Nat) (l:List Vis) (p:Int×Int):Bool:= !nHas S p.2||(nHas S p.1&&(List.range l.length).all fun j=>(List.range j).all fun k=> !KB l p.1 p.2 j k)
theorem dR (x:Inst) (S:Nat) (l:List Vis) (c:Bool) (hS:S<9223372036854775808) (hl:l.length<=1048576) (hb:x.before.length<=1048576):PC 137 [.p (Zv x),.p (.int .i64 (S:Nat)),.p (.list c (l.map Z7))] (.bool (x.before.all (Q3 S l))):=by
 refine Ze Tryz.func137 rfl ZbR ?_;simp (disch:=omega) only [Tryz.f137,go_sem,seval];refine Zk [1,2,3] (fun k:Nat=> [(7,.p (.int .i64 k))]) (fun _=> [Zi x]) (fun k=>k<=x.before.length/\ ∀j,j<k->Q3 S l (nth x.before j)=true) (fun k=>x.before.length-k) 0 Zb (Weak.mk ?_) ?_
 ·simp (disch:=omega) only [Zi,go_sem,seval]
 ·rintro i ⟨hi,hno⟩;refine Yl ?_;refine cD ?_ ?_<;>intro h<;>simp (disch:=omega) only [Sh.out h,go_sem,seval,↓reduceIte]
  ·have hi2:i<x.before.length:=Za
   have hgo:Q3 S l (nth x.before i)=true-> ∀j,j<i+1->Q3 S l (nth x.before j)=true:=fun e=>Zp.2 ⟨hno,e⟩;have hbad:Q3 S l (nth x.before i)=false->x.before.all (Q3 S l)=false:=fun e=>FK hi2 e;have hdef:Q3 S l (nth x.before i)=(!nHas S (nth x.before i).2||(nHas S (nth x.before i).1&&(List.range l.length).all fun j=>(List.range j).all fun k=> !KB l (nth x.before i).1 (nth x.before i).2 j k)):=rfl;generalize Q3 S l (nth x.before i)=R at hgo hbad hdef;generalize nth x.before i=p at hdef ⊢;refine (JN S p.2 hS).use (Zc ?_)
   refine ZK ?_ ?_<;>intro h2
   ·have h3:nHas S p.2=false:=by grind
    exact ⟨i+1,⟨Za,hgo (by grind)⟩,Za,wk⟩
   ·have h3:nHas S p.2=true:=by grind
    refine (JN S p.1 hS).use (Zc ?_);refine cD ?_ ?_<;>intro h4<;>simp (disch:=omega) only [Sh.out h4,go_sem,seval]
    ·grind
    ·have h5:nHas S p.1=true:=by grind
     rw [h3,h5] at hdef;simp only [YB,Bool.false_or,VS] at hdef;refine Zk [1,2,3,7,8,9] (fun k:Nat=> [(10,.p (.int .i64 k))]) (fun _=> [Zi x]) (fun k=>k<=l.length/\ ∀j,j<k-> ∀q,q<j->KB l p.1 p.2 j q=false) (fun k=>l.length-k) 0 Zb (Weak.mk ?_) ?_
     ·simp (disch:=omega) only [Zi,go_sem,seval]
     ·rintro j ⟨hj,hnj⟩;refine Yl ?_;refine ZK ?_ ?_<;>intro h6
      ·have hj2:j<l.length:=Za
       refine Zk [1,2,3,7,8,9,10] (fun k:Nat=> [(11,.p (.int .i64 k))]) (fun _=> [Zi x]) (fun k=>k<=j/\ ∀q,q<k->KB l p.1 p.2 j q=false) (fun k=>j-k) 0 Zb (Weak.mk ?_) ?_
       ·simp (disch:=omega) only [Zi,go_sem,seval]
       ·rintro k ⟨hk,hnk⟩;refine Yl ?_;refine ZK ?_ ?_<;>intro h7
        ·have hk2:k<j:=Za
         refine Ql ?_ ?_<;>intro h8
         ·refine ZK ?_ ?_<;>intro h9
          ·rw [hbad (by
            rw [hdef,List.all_eq_false];refine ⟨j,by grind,?_⟩;rw [UN,List.all_eq_false]
            exact ⟨k,by grind,by simp [KB,h8,h9]⟩)]
          ·exact ⟨k+1,⟨Za,Zp.2 ⟨hnk,by simp [KB,h9]⟩⟩,Za,wk⟩
         ·exact ⟨k+1,⟨Za,Zp.2 ⟨hnk,by simp [KB,h8]⟩⟩,Za,wk⟩
        ·have hkl:k=j:=Za
         subst hkl;exact ⟨k+1,⟨Za,(Zp (p:=fun j=> ∀q,q<j->KB l p.1 p.2 j q=false)).2 ⟨hnj,hnk⟩⟩,Za,wk⟩
      ·have hjl:j=l.length:=Za
       subst hjl;refine ⟨i+1,⟨Za,hgo ?_⟩,Za,wk⟩
       grind
  grind [Le]
theorem oY (x:Inst) (i:Nat) (l:List Vis) (c:Bool) (hl:l.length<=1048576) (ho:x.orders.length<=1048576) (hbl:x.before.length<=1048576) (hp:Plc x) (hb: ∀p∈x.before,0<=p.1/\p.1<x.orders.length) (hi:i<=1048576) :
  PC 176 [.p (Zv x),.p (.int .i64 (i:Nat)),.p (.list c (l.map Z7))] (.bool (x.before.all (KR x.orders l (i:Int)))):=by
 refine Ze Tryz.func176 rfl Zce ?_;simp (disch:=omega) only [Tryz.f176,go_sem,seval];refine Zk [1,2,3] (fun k:Nat=> [(7,.p (.int .i64 k))]) (fun _=> [Zi x]) (fun k=>k<=x.before.length/\ ∀j,j<k->KR x.orders l (i:Int) (nth x.before j)=true) (fun k=>x.before.length-k) 0 Zb (Weak.mk ?_) ?_
 ·simp (disch:=omega) only [Zi,go_sem,seval]
 ·rintro k ⟨hk,hno⟩;refine Yl ?_;refine cD ?_ ?_<;>intro h<;>simp (disch:=omega) only [Sh.out h,go_sem,seval,↓reduceIte]
  ·have hk2:k<x.before.length:=Za
   obtain ⟨b1,b2⟩:=hb _ (Zt hk2);obtain ⟨a,hao⟩: ∃a:Nat,(nth x.before k).1=(a:Int):=⟨(nth x.before k).1.toNat,Za⟩;have hva:=Ea x a Za ho hp;rw [<- hao] at hva
   have hdef:KR x.orders l (i:Int) (nth x.before k)=(decide ((nth x.before k).2≠(i:Int))||Ur l (ZW x.orders a)):=by rw [KR,hao];rfl
   refine Ql ?_ ?_<;>intro h2
   ·refine gF ?_ ?_<;>intro h3<;>simp (disch:=omega) only [Sh.out h3,go_sem,seval,↓reduceIte]
    ·omega
    ·refine gF ?_ ?_<;>intro h4<;>simp (disch:=omega) only [Sh.out h4,go_sem,seval,↓reduceIte]
     ·omega
     ·refine (hva).use (Zc ?_);have hvl:=WV x.orders a;refine (EC l (ZW x.orders a) c false hl Za).use (Zc ?_);refine ZK ?_ ?_<;>intro h5
      ·grind [FK]
      ·have h6:Ur l (ZW x.orders a)=true:=by grind
       exact ⟨k+1,⟨Za,Zp.2 ⟨hno,by grind⟩⟩,Za,wk⟩
   ·exact ⟨k+1,⟨Za,Zp.2 ⟨hno,by grind⟩⟩,Za,wk⟩
  grind [Le]
theorem Mx (S:Nat) (i:Int):sHas (S:Int) i=nHas S i:=by
 by_cases h:0<=i/\i<=62
 ·obtain ⟨k,rfl⟩: ∃k:Nat,i=(k:Int):=⟨i.toNat,Za⟩
  grind [WQ,Ob]
 ·have h2:nHas S i=false:=by simp only [nHas,h,Kg,QU]
  grind [sHas]
theorem Gu {S:Nat} {i:Int} :nHas S i=true↔0<=i/\i<=62/\S.testBit i.toNat=true:=by simp [nHas,and_assoc]
theorem PL {S n i:Nat} (h:S / pw n=0) (hi:S.testBit i=true):i<n:=by
 rcases WM i n with h2 | h2
 ·exact h2
 ·have h3:S<2^n:=by
   have:=(Nat.div_eq_zero_iff).1 h;rcases this with h4 | h4
   ·grind [GK]
   ·exact h4
  grind [UM,YA,AK]
theorem JJ {S:Nat} {a:Int} :a∈X7 (S:Int) 63↔ ∃i:Nat,a=(i:Int)/\i<63/\S.testBit i=true:=by
 simp only [X7,Xn,QX,Zz]
 constructor
 ·rintro ⟨i,⟨h1,h2⟩,rfl⟩;rw [WQ S i Za] at h2
  grind
 ·rintro ⟨i,rfl,h1,h2⟩;exact ⟨i,⟨h1,by grind [WQ]⟩,rfl⟩
structure Alw (x:Inst) (S:Nat):Prop where
 off: ∀i,i<x.orders.length->S.testBit i=true->(nth x.orders i).off=false
 apart:apB x S=false
 closed: ∀p∈x.before,nHas S p.2=true->nHas S p.1=true
 acyc: ∀i,i<x.orders.length->S.testBit i=true-> ¬Ch x.before i i
theorem VM {c:Prop} [Decidable c] {a b:Int} (ha:a≠0):(if c then a else b)=0↔ ¬c/\b=0:=by
 grind
theorem QN {x:Inst} {S:Nat} (hn:x.orders.length<=60) (hS:S / pw x.orders.length=0) (hv:Val x.orders.length x.before):WC x.orders x.apart x.before (S:Int)=0↔Alw x S:=by
 have hlt: ∀i,S.testBit i=true->i<x.orders.length:=fun i h=>PL hS h
 have e0: ¬(S:Int)<0:=Za
 unfold WC;rw [if_neg e0,VM Za,VM Za,VM Za,VM Za,VM Za];simp only [and_true]
 constructor
 ·rintro ⟨_,h2,h3,h4,h5⟩;simp only [UN] at h2 h3 h4 h5;rw [YQ] at h2 h4 h5;refine ⟨fun i hi hb=> ?_,?_,fun p hp hb=> ?_,fun i hi hb hc=> ?_⟩
  ·have:=h2 (i:Int) (JJ.2 ⟨i,rfl,Za,hb⟩)
   grind
  ·grind [apB,Mx]
  ·have:=h4 p hp
   simp_all [Mx]
  ·have:=h5 (i:Int) (JJ.2 ⟨i,rfl,Za,hb⟩)
   grind [WQ,Qe]
 ·rintro ⟨h1,h2,h3,h4⟩;refine ⟨?_,?_,?_,?_,?_⟩
  ·simp only [UN];rw [YQ];intro a ha;obtain ⟨i,rfl,h5,h6⟩:=JJ.1 ha
   grind
  ·simp only [UN];rw [YQ];intro a ha;obtain ⟨i,rfl,h5,h6⟩:=JJ.1 ha
   grind
  ·simp only [Mx,UN];exact h2
  ·simp only [UN]
   grind [Mx]
  ·simp only [UN];rw [YQ];intro a ha;obtain ⟨i,rfl,h5,h6⟩:=JJ.1 ha
   grind [WQ,Qe]
theorem H8 {f g:Nat->Bool} {b:Nat} : ∀(l:List Nat),(∀a,f a=true->g a=true)->f b=false->g b=true->b∈l->(l.filter f).length<(l.filter g).length
 | [],_,_,_,h=>by simp at h
 | x::l,hfg,hf,hg,h=>by
  have hle: ∀l:List Nat,(l.filter f).length<=(l.filter g).length:=by
   intro l
   induction l with
   | nil=>simp
   | cons y l ih =>
    grind
  simp only [CU];rcases Z4.1 h with rfl | h
  ·grind
  ·have:=H8 l hfg hf hg h
   grind
theorem P4 {n:Nat} {be:List (Int×Int)} (hv:Val n be) {P:Nat->Prop} (hP: ∀i,P i->i<n/\ ¬Ch be i i) {i:Nat} (hi:P i): ∃i,P i/\ ∀p∈be,p.2=(i:Int)-> ¬P p.1.toNat:=by
 suffices h: ∀(k i:Nat),P i->((List.range n).filter fun a=>(nth (Kz n be) i).testBit a).length<k-> ∃i,P i/\ ∀p∈be,p.2=(i:Int)-> ¬P p.1.toNat from h _ i hi (Nat.lt_succ_self _)
 intro k
 induction k with
 | zero=>omega
 | succ k ih =>
  intro i hi hk
  by_cases h: ∃p∈be,p.2=(i:Int)/\P p.1.toNat
  ·obtain ⟨p,hp,h1,h2⟩:=h;obtain ⟨v1,v2,v3,v4⟩:=hv p hp;have hE:Ed be p.1.toNat i:=⟨p,hp,Za,h1⟩;refine ih p.1.toNat h2 (UM (H8 (b:=p.1.toNat) _ (fun a ha=> ?_) ?_ ?_ ?_) (by omega:((List.range n).filter fun a=>(nth (Kz n be) i).testBit a).length<=k))
   ·exact (Qe hv a i (hP i hi).1).2 (((Qe hv a _ (hP _ h2).1).1 ha).more hE)
   ·grind [Qe]
   ·exact (Qe hv _ i (hP i hi).1).2 (.one hE)
   grind
  grind
theorem WG {l:List Vis} {v:Vis} :0<=vIx l v↔v∈l:=by
 grind [P5,vIx]
theorem ZeG {l:List Vis} {v:Vis} :vIx l v<0↔v ∉ l:=by rw [<- WG];omega
theorem T7 {l own:List Vis} :Ur l own=true↔ ∀w∈own,w∈l:=by
 grind [Ur,WG]
theorem iJ {os:List Ord} {l:List Vis} {o:Int} {p:Int×Int} :KR os l o p=true↔(p.2=o-> ∀w∈ZW os p.1.toNat,w∈l):=by
 rw [KR,W8,T7,Zs]
 grind
theorem iK {x:Inst} {l:List Vis} {o:Int} :x.before.all (KR x.orders l o)=true↔ ∀p∈x.before,p.2=o-> ∀w∈ZW x.orders p.1.toNat,w∈l:=by
 simp_all [iJ]
def Vne (x:Inst):Prop:= ∀i,i<x.orders.length->ZW x.orders i≠ []
theorem oK {l own:List Vis} (ho:own= []\/(∃v,own= [v])\/ ∃v w,own= [v,w]/\v≠w) {k:Nat} (hk:k<own.length):KI l (nth own k) own=(decide (k=0)||decide (0<=vIx l (nth own 0))):=by
 rcases ho with rfl | ⟨v,rfl⟩ | ⟨v,w,rfl,hne⟩
 ·simp at hk
 ·grind [KI,nth]
 ·have:k=0\/k=1:=by grind
  rcases this with rfl | rfl
  ·simp [KI,nth]
  grind [KI,nth]
theorem dX (x:Inst) (S:Nat) (l:List Vis) (c:Bool) (hS:S<9223372036854775808) (hl:l.length<=1048576) (ho:x.orders.length<=60) (hbl:x.before.length<=1048576) (hp:Plc x) (hb: ∀p∈x.before,0<=p.1/\p.1<x.orders.length) :
  ACalls Tryz.prog 126 [.p (Zv x),.p (.int .i64 (S:Nat)),.p (.list c (l.map Z7))] [] fun y H'=> ∃m:List Vis,m=nextU x S l x.orders.length/\y= .sl 0 0 m.length m.length/\H'= [.elems 2 (m.map Z7)]:=by
 refine ZX [2] Tryz.func126 rfl ZbG ?_;simp (disch:=omega) only [Tryz.f126,go_sem,seval];refine Zq (Weak.ofNil 7 2 (by simp (disch:=omega) only [go_sem,seval]) Zb (Weak.refl _ _ _)) ?_;refine Zg [] _ _ _ _ (Zc ?_);refine Zk [1,2,3] (fun q:Nat×List Vis=> [(7,.sl 1 0 q.2.length q.2.length),(8,.p (.int .i64 q.1))]) (fun q=> [Zi x,.elems 2 (q.2.map Z7)]) (fun q=>q.1<=x.orders.length/\q.2=nextU x S l q.1) (fun q=>x.orders.length-q.1) (0,[]) ⟨Zb,by simp [nextU]⟩ (Weak.mk ?_) ?_
 ·simp (disch:=omega) only [Zi,go_sem,seval]
 ·rintro ⟨i,m⟩ ⟨hi,hm⟩;simp only at hi hm
  have hml:m.length<=2*i:=by grind [JL]
  have hsc:=BQ x S l i;refine Yl ?_;refine cD ?_ ?_<;>intro h<;>simp (disch:=omega) only [Sh.out h,go_sem,seval,↓reduceIte]
  ·have hi2:i<x.orders.length:=Za
   have hskip:Uw x S l i= []->(i+1,m).2=nextU x S l (i+1):=fun e=>by grind
   refine (JN S (i:Int) hS).use (Zc ?_);rw [Ob Za];refine LD ?_ ?_<;>intro h2
   ·have hbit:S.testBit i=false:=by grind
    exact ⟨(i+1,m),⟨Za,hskip (by simp [Uw,hbit])⟩,Za,wk⟩
   ·have hbit:S.testBit i=true:=by grind
    refine LD ?_ ?_<;>intro h3
    ·exact ⟨(i+1,m),⟨Za,hskip (by simp [Uw,h3])⟩,Za,wk⟩
    ·have e:Uw x S l i=(ZW x.orders i).filter (Y2 x l):=by grind [Uw]
     refine (oY x i l c hl Za hbl hp hb Za).use (Zc ?_);refine ZK ?_ ?_<;>intro h4
     ·have h5:x.before.all (KR x.orders l (i:Int))=false:=by grind
      refine ⟨(i+1,m),⟨Za,hskip ?_⟩,Za,wk⟩
      grind [List.filter_eq_nil_iff,Y2,Yj]
     ·have h5:x.before.all (KR x.orders l (i:Int))=true:=by grind
      refine (Ea x i hi2 Za hp).use (Zc ?_);have hvl:=WV x.orders i;have hvo: ∀v∈ZW x.orders i,v.order=i:=fun v hv=>Yj hv;have htwo:=O8 x.orders i
      have hrd: ∀k,k<(ZW x.orders i).length->Y2 x l (nth (ZW x.orders i) k)=(decide (vIx l (nth (ZW x.orders i) k)<0)&&(decide (k=0)||decide (0<=vIx l (nth (ZW x.orders i) 0)))):=fun k hk=>by
       simp_all [Y2,Zt,oK]
      generalize hown:ZW x.orders i=own at hvl e hvo hrd ⊢;refine Zk [1,2,3,8,9] (fun q:Nat×List Vis=> [(7,.sl 1 0 q.2.length q.2.length),(10,.p (.int .i64 q.1))]) (fun q=> [Zi x,.elems 2 (q.2.map Z7)]) (fun q=>q.1<=own.length/\q.2=m++(own.take q.1).filter (Y2 x l)) (fun q=>own.length-q.1) (0,m) ⟨Zb,Zb⟩ (Weak.mk ?_) ?_
      ·simp (disch:=omega) only [Zi,go_sem,seval]
      ·rintro ⟨j,m2⟩ ⟨hj,hm2⟩;simp only at hj hm2
       have hm2l:m2.length<=2*i+2:=by
        grind
       refine Yl ?_;refine ZK ?_ ?_<;>intro h6
       ·have hj2:j<own.length:=Za
        have htk:own.take (j+1)=own.take j++ [nth own j]:=by rw [XZ hj2,Zh hj2]
        have hr:=hrd j hj2
        have hyes:Y2 x l (nth own j)=true->((j+1,m2++ [nth own j]):Nat×List Vis).2=m++(own.take (j+1)).filter (Y2 x l):=fun h7=>by
         grind
        have hno:Y2 x l (nth own j)=false->((j+1,m2):Nat×List Vis).2=m++(own.take (j+1)).filter (Y2 x l):=fun h7=>by
         grind
        refine (QD l c (nth own j) hl).use (Zc ?_);refine Ql ?_ ?_<;>intro h7
        ·refine LD ?_ ?_<;>intro h8
         ·exact ⟨(j+1,m2++ [nth own j]),⟨Za,hyes (by grind)⟩,Za,wk⟩
         ·refine (QD l c (nth own 0) hl).use (Zc ?_);refine ZK ?_ ?_<;>intro h9
          ·exact ⟨(j+1,m2++ [nth own j]),⟨Za,hyes (by grind)⟩,Za,wk⟩
          ·exact ⟨(j+1,m2),⟨Za,hno (by grind)⟩,Za,wk⟩
        ·exact ⟨(j+1,m2),⟨Za,hno (by grind)⟩,Za,wk⟩
       ·have hjl:j=own.length:=Za
        subst hjl;exact ⟨(i+1,m2),⟨Za,by grind⟩,Za,wk⟩
  ·have hkn:i=x.orders.length:=Za
   subst hkn;exact ⟨m,hm,1,by simp (disch:=omega) only [go_sem,seval]⟩
theorem Tx (x:Inst) (S:Nat) (l:List Vis) (c:Bool) (hS:S<9223372036854775808) (hl:l.length<=1048576) (ho:x.orders.length<=60) (hbl:x.before.length<=1048576) (hp:Plc x) (hb: ∀p∈x.before,0<=p.1/\p.1<x.orders.length) :
  PC 126 [.p (Zv x),.p (.int .i64 (S:Nat)),.p (.list c (l.map Z7))] (.list false ((nextU x S l x.orders.length).map Z7)) :=
 ACalls.frozen (S:=2) (n:=(nextU x S l x.orders.length).length) Zb ((dX x S l c hS hl ho hbl hp hb).mono fun y H' ⟨m,hm,h1,h2⟩=>by grind)
inductive Gr (x:Inst) (S:Nat):List Vis->Prop where
 | nil:Gr x S []
 | snoc {l:List Vis} {v:Vis} (h:Gr x S l) (hv:v∈nextU x S l x.orders.length):Gr x S (l++ [v])
theorem R0 (os:List Ord) (i:Nat):(ZW os i).Nodup:=by
 grind [Ky]
theorem oJ {os:List Ord} {i:Nat} {l:List Vis} {v:Vis} (hv:v∈ZW os i):KI l v (ZW os i)=true↔(v.drp=true->⟨i,false⟩∈ZW os i->⟨i,false⟩∈l):=by
 rcases Ky os i with h | h | h | h<;>rw [h] at hv ⊢ <;>simp at hv
 ·grind [KI]
 ·grind [KI]
 ·rcases hv with rfl | rfl
  ·simp [KI]
  ·simp [KI,WG]
theorem Vs {x:Inst} {l:List Vis} {v:Vis} {i:Nat} (hv:v∈ZW x.orders i):Y2 x l v=true↔v ∉ l/\(v.drp=true->⟨i,false⟩∈ZW x.orders i->⟨i,false⟩∈l)/\ ∀p∈x.before,p.2=(i:Int)-> ∀w∈ZW x.orders p.1.toNat,w∈l:=by
 have h:=Yj hv;rw [Y2,h,XY,ZE,ZE,Zs,ZeG,oJ hv,iK,and_assoc]
theorem VT {x:Inst} {S:Nat} {l:List Vis} {v:Vis} {k:Nat} :v∈nextU x S l k↔ ∃i,i<k/\S.testBit i=true/\(nth x.orders i).off=false/\v∈ZW x.orders i/\Y2 x l v=true:=by
 rw [nextU,XS]
 constructor
 ·grind [Uw]
 ·rintro ⟨i,hi,h1,h2,h3,h4⟩;exact ⟨i,by grind,by simp_all [Uw]⟩
def BA (x:Inst) (S k:Nat):List Vis:=(List.range k).flatMap fun i=>if S.testBit i=true then ZW x.orders i else []
theorem HM (x S k):BA x S (k+1)=BA x S k++if S.testBit k=true then ZW x.orders k else []:=by simp [BA,X6]
theorem Jw (x S): ∀k,(BA x S k).length=Ap x S k
 | 0=>by rfl
 | k+1=>by
  rw [HM,Bd,ZJ,Jw x S k]
  split<;>simp
theorem WN {x S k v} :v∈BA x S k↔ ∃i,i<k/\S.testBit i=true/\v∈ZW x.orders i:=by
 simp_all [BA]
theorem BB (x S): ∀k,(BA x S k).Nodup
 | 0=>by simp [BA]
 | k+1=>by
  rw [HM,CV];refine ⟨BB x S k,?_,fun a ha b hb=> ?_⟩
  ·grind [R0]
  ·obtain ⟨i,hi,_,h2⟩:=WN.1 ha
   split at hb
   ·have h3:=Yj h2;have h4:=Yj hb
    grind
   ·simp at hb
theorem Gr.nodup {x S l} (h:Gr x S l):l.Nodup:=by
 induction h with
 | nil=>simp
 | snoc _ hv ih =>
  obtain ⟨i,_,_,_,h4,h5⟩:=VT.1 hv;rw [CV];refine ⟨ih,Zb,fun a ha b hb=> ?_⟩;simp at hb;subst hb;exact fun e=>((Vs h4).1 h5).1 (e ▸ ha)
theorem Gr.sub {x S l} (h:Gr x S l): ∀v∈l,v∈BA x S x.orders.length:=by
 induction h with
 | nil=>simp
 | snoc _ hv ih =>
  obtain ⟨i,h1,h2,_,h4,_⟩:=VT.1 hv;intro w hw;rcases Xj.1 hw with hw | hw
  ·exact ih w hw
  ·simp at hw;subst hw;exact WN.2 ⟨i,h1,h2,h4⟩
theorem Fz {α:Type} [DecidableEq α] {l m:List α} (hl:l.Nodup) (h: ∀v∈l,v∈m):l.length<=m.length:=List.Nodup.length_le_of_subset hl h
theorem Zev {α:Type} [DecidableEq α] {l m:List α} (hl:l.Nodup) (h: ∀v∈l,v∈m) (hm:m.length<=l.length): ∀v∈m,v∈l:=fun v hv=>by
 refine Kj fun hno=> ?_
 have:(v::l).length<=m.length:=Fz (by grind) (fun w hw=>by
  grind)
 grind
theorem Gr.len {x S l} (h:Gr x S l):l.length<=Ap x S x.orders.length:=by
 rw [<- Jw];exact Fz h.nodup h.sub
theorem Gr.full {x S l} (h:Gr x S l) (hl:l.length=Ap x S x.orders.length): ∀v∈BA x S x.orders.length,v∈l:=Zev h.nodup h.sub (by rw [Jw];omega)
theorem Gr.more {x S l} (ha:Alw x S) (hn:x.orders.length<=60) (hv:Val x.orders.length x.before) (hm: ∃v∈BA x S x.orders.length,v ∉ l): ∃v,v∈nextU x S l x.orders.length:=by
 obtain ⟨v,hva,hvl⟩:=hm;obtain ⟨i,h1,h2,h3⟩:=WN.1 hva;obtain ⟨j,⟨j1,j2,w,j3,j4⟩,hj⟩:=P4 hv (P:=fun i=>i<x.orders.length/\S.testBit i=true/\ ∃w∈ZW x.orders i,w ∉ l) (fun i hi=>⟨hi.1,ha.acyc i hi.1 hi.2.1⟩) ⟨h1,h2,v,h3,hvl⟩
 have hpre: ∀p∈x.before,p.2=(j:Int)-> ∀w∈ZW x.orders p.1.toNat,w∈l:=fun p hp e w hw=>by
  refine Kj fun hno=> ?_;obtain ⟨v1,v2,v3,v4⟩:=hv p hp;have:=ha.closed p hp (Gu.2 ⟨Za,Za,by grind⟩);exact hj p hp e ⟨Za,(Gu.1 this).2.2,w,hw,hno⟩
 by_cases hf:(⟨j,false⟩:Vis)∈ZW x.orders j/\(⟨j,false⟩:Vis) ∉ l
 ·exact ⟨⟨j,false⟩,VT.2 ⟨j,j1,j2,ha.off j j1 j2,hf.1,(Vs hf.1).2 ⟨hf.2,Zb,hpre⟩⟩⟩
 ·refine ⟨w,VT.2 ⟨j,j1,j2,ha.off j j1 j2,j3,(Vs j3).2 ⟨j4,fun _ hq=> ?_,hpre⟩⟩⟩
  grind
theorem Gr.next_nil {x S l} (h:Gr x S l) (ha:Alw x S) (hn:x.orders.length<=60) (hv:Val x.orders.length x.before):nextU x S l x.orders.length= []↔l.length=Ap x S x.orders.length:=by
 constructor
 ·intro e;refine Kj fun hno=> ?_
  have hex: ∃v∈BA x S x.orders.length,v ∉ l:=Kj fun hno2=>hno (by
   have h1: ∀v∈BA x S x.orders.length,v∈l:=fun v hv=>Kj fun h3=>hno2 ⟨v,hv,h3⟩;have:=Fz (BB x S _) h1;rw [Jw] at this;have:=h.len
   omega)
  obtain ⟨v,hv⟩:=Gr.more (l:=l) ha hn hv hex
  grind
 ·intro e;rw [List.eq_nil_iff_forall_not_mem];intro v hv;obtain ⟨i,h1,h2,_,h4,h5⟩:=VT.1 hv;exact ((Vs h4).1 h5).1 (h.full e v (WN.2 ⟨i,h1,h2,h4⟩))
theorem TQ {x:Inst} {S:Nat} (hne:Vne x) (hS:S / pw x.orders.length=0) (h0:S≠0):0<Ap x S x.orders.length:=by
 have: ∃i,S.testBit i=true:=by
  refine Kj fun hno=>h0 (CT fun i=> ?_)
  grind
 obtain ⟨i,hi⟩:=this;have hlt:=PL hS hi;obtain ⟨v,hv⟩:=List.exists_mem_of_ne_nil _ (hne i hlt);have hm:v∈BA x S x.orders.length:=WN.2 ⟨i,hlt,hi,hv⟩
 grind [Jw]
def ext (nx:List Vis->List Vis):Nat->List Vis->List (List Vis)->List (List Vis)
 | 0,l,outs=>if 8192<outs.length then outs else outs++ [l]
 | f+1,l,outs=>if 8192<outs.length then outs else (nx l).foldl (fun acc v=>ext nx f (l++ [v]) acc) outs
theorem aQ {S n:Nat} (hS:S<9223372036854775808) (h: ∀j,j<63->S.testBit j=true->j<n):S / pw n=0:=by
 refine QT ?_;refine Nat.lt_pow_two_of_testBit S fun i hi=> ?_;rcases WM i 63 with h2 | h2
 ·grind
 ·exact AK (UM hS (YA Za h2:2^63<=2^i))
def Ow (x:Inst) (l:List Vis):Int :=
 if l.any (Va x)=true then 2
 else if l.length=0 then 2
 else if (l.any fun v=>(nth x.orders v.order.toNat).off)=true then 9
 else if ((List.range l.length).any fun i=>decide (vIx l (nth l i)≠(i:Int)))=true then 6
 else if l.all (pairB x.orders l)=false then 19
 else if apB x (Xo l)=true then 20
 else if x.before.all (Q3 (Xo l) l)=false then 21
 else 0
theorem RG (x:Inst) (r:Rte) (ho:x.orders.length<=60) (hl:r.visits.length<=1048576) (hap:x.apart.length<=1048576) (hbe:x.before.length<=1048576) (hp:Plc x) :
  PC 88 [.p (Zv x),.p (Wd r)] (.int .i64 (Ow x r.visits)):=by
 refine Ze Tryz.func88 rfl Zkg ?_;simp (disch:=omega) only [Tryz.f88,go_sem,seval];refine Zk [2,3,5] (fun k:Nat=> [(6,.p (.int .i64 k))]) (fun _=> [Zi x,XA r]) (fun k=>k<=r.visits.length/\ ∀j,j<k->Va x (nth r.visits j)=false) (fun k=>r.visits.length-k) 0 Zb (Weak.mk ?_) ?_
 ·simp (disch:=omega) only [Zi,XA,go_sem,seval]
 ·rintro k ⟨hk,hno⟩;refine Am ?_;refine cD ?_ ?_<;>intro h<;>simp (disch:=omega) only [Sh.out h,go_sem,seval,↓reduceIte]
  ·have hk2:k<r.visits.length:=Za
   refine Xq (Zc ?_);refine gF ?_ ?_<;>intro h2<;>simp (disch:=omega) only [Sh.out h2,go_sem,seval,↓reduceIte]
   ·have:Va x (nth r.visits k)=true:=by simp [Va];omega
    rw [Ow,if_pos (VF hk2 this)]
   ·refine ZK ?_ ?_<;>intro h3
    ·have:Va x (nth r.visits k)=true:=by simp [Va];omega
     rw [Ow,if_pos (VF hk2 this)]
    ·exact ⟨k+1,⟨Za,Zp.2 ⟨hno,by simp [Va];omega⟩⟩,Za,wk⟩
  ·have hkl:k=r.visits.length:=Za
   subst hkl
   have hr1:Ow x r.visits=if r.visits.length=0 then 2 else if (r.visits.any fun v=>(nth x.orders v.order.toNat).off)=true then 9 else if ((List.range r.visits.length).any fun i=>decide (vIx r.visits (nth r.visits i)≠(i:Int)))=true then 6 else if r.visits.all (pairB x.orders r.visits)=false then 19 else if apB x (Xo r.visits)=true then 20 else if x.before.all (Q3 (Xo r.visits) r.visits)=false then 21 else 0:=by
    rw [Ow,if_neg (by rw [Jb hno];simp)]
   have hin: ∀j,j<r.visits.length->0<=(nth r.visits j).order/\(nth r.visits j).order<x.orders.length:=fun j hj=>by
    grind [Va]
   have hmem: ∀v∈r.visits,0<=v.order/\v.order<x.orders.length:=fun v hv=>by
    obtain ⟨j,hj,rfl⟩:=ZN.1 hv
    grind [Zh]
   have hord:Jp r.visits=(((Xo r.visits:Nat):Int),0):=by
    rw [Jp,if_pos]
    grind [HB]
   have hlt:Xo r.visits<9223372036854775808:=by
    have:=A5 r.visits.length (l:=r.visits) (Zw _) (fun v hv=>by
     grind [HB])
    grind
   have hoc:=IG r hl;rw [hord] at hoc;refine Vi hoc (Zc ?_);refine cD ?_ ?_<;>intro h3<;>simp (disch:=omega) only [Sh.out h3,go_sem,seval]
   ·grind
   ·rw [hr1,if_neg Za];clear hno hr1 h3 h hk;refine Zk [2,5,7] (fun k:Nat=> [(9,.p (.int .i64 k))]) (fun _=> [Zi x,XA r]) (fun k=>k<=r.visits.length/\ ∀j,j<k->(nth x.orders (nth r.visits j).order.toNat).off=false) (fun k=>r.visits.length-k) 0 Zb (Weak.mk ?_) ?_
    ·simp (disch:=omega) only [Zi,XA,go_sem,seval]
    ·rintro k ⟨hk,hno⟩;refine Am ?_;refine cD ?_ ?_<;>intro h<;>simp (disch:=omega) only [Sh.out h,go_sem,seval,↓reduceIte]
     ·have hk2:k<r.visits.length:=Za
      obtain ⟨i1,i2⟩:=hin k hk2
      have i3:(nth r.visits k).order.toNat<x.orders.length:=Za
      refine Xq (Zc ?_);refine ZK ?_ ?_<;>intro h4
      ·rw [if_pos (VF hk2 h4)]
      ·exact ⟨k+1,⟨Za,Zp.2 ⟨hno,h4⟩⟩,Za,wk⟩
     ·have hkl:k=r.visits.length:=Za
      subst hkl;have e9:(r.visits.any fun v=>(nth x.orders v.order.toNat).off)=false:=Jb hno;rw [e9,if_neg Zb];clear hno h hk;refine Zk [2,5,7] (fun k:Nat=> [(10,.p (.int .i64 k))]) (fun _=> [Zi x,XA r]) (fun k=>k<=r.visits.length/\ ∀j,j<k->vIx r.visits (nth r.visits j)=(j:Int)) (fun k=>r.visits.length-k) 0 Zb (Weak.mk ?_) ?_
      ·simp (disch:=omega) only [Zi,XA,go_sem,seval]
      ·rintro k ⟨hk,hno⟩;refine Am ?_;refine cD ?_ ?_<;>intro h<;>simp (disch:=omega) only [Sh.out h,go_sem,seval,↓reduceIte]
       ·have hk2:k<r.visits.length:=Za
        refine (QD r.visits r.visits_c (nth r.visits k) hl).use (Zc ?_);refine ZK ?_ ?_<;>intro h4
        ·have:((List.range r.visits.length).any fun i=>decide (vIx r.visits (nth r.visits i)≠(i:Int)))=true:=by
          grind
         grind
        ·exact ⟨k+1,⟨Za,Zp.2 ⟨hno,Za⟩⟩,Za,wk⟩
       ·have hkl:k=r.visits.length:=Za
        subst hkl
        have:((List.range r.visits.length).any fun i=>decide (vIx r.visits (nth r.visits i)≠(i:Int)))=false:=by
         grind
        rw [this,if_neg Zb];refine (eA x r.visits r.visits_c hl Za hp hmem).use (Zc ?_);refine cD ?_ ?_<;>intro h4<;>simp (disch:=omega) only [Sh.out h4,go_sem,seval,↓reduceIte]
        ·grind
        ·rw [if_neg (by grind)];refine (oP x (Xo r.visits) hlt hap).use (Zc ?_);refine cD ?_ ?_<;>intro h5<;>simp (disch:=omega) only [Sh.out h5,go_sem,seval,↓reduceIte]
         ·grind
         ·rw [if_neg (by grind)];refine (dR x (Xo r.visits) r.visits r.visits_c hlt hl hbe).use (Zc ?_);refine cD ?_ ?_<;>intro h6<;>simp (disch:=omega) only [Sh.out h6,go_sem,seval]
          ·grind
          grind
structure IFacts (x:Inst):Prop where
 len:x.orders.length<=10
 plc:Plc x
 vne:Vne x
 val:Val x.orders.length x.before
 ne: ∀p∈x.before,p.1≠p.2
 aval:Val x.orders.length x.apart
theorem kW {n:Int} {word:List UInt8} {sm:Int×Int->Int×Int->Bool} {l:List (Int×Int)} (h:JF n word sm l l.length= []): ∀p∈l,cW n p=true:=by
 intro p hp;obtain ⟨i,hi,rfl⟩:=ZN.1 hp;have h2:=(Ue.1 h).2;rw [List.flatMap_eq_nil_iff] at h2;have h3:=h2 i (by grind)
 grind [SK,Zh]
theorem Xz {x:Inst} (h:InstOk x):IFacts x:=by
 have ho:=h.orders;obtain ⟨h1,h2⟩:=Ue.1 h.rules;have ha:=kW h1;have hb:=kW h2
 have hpl:Plc x:=fun o hm=>by
  obtain ⟨i,hi,rfl⟩:=ZN.1 hm;have:=ho.2 i hi;rw [<- Zh hi];exact ⟨this.pick.1,this.drp.1⟩
 have val: ∀l:List (Int×Int),(∀p∈l,cW x.orders.length p=true)->Val x.orders.length l:=fun l h p hp=>by
  grind [cW]
 refine ⟨ho.1,hpl,fun i hi=> ?_,val _ hb,fun p hp=> ?_,val _ ha⟩
 ·have h3:=ho.2 i hi;have h4:=hpl _ (Zt hi);have h5:=h3.one
  grind [ZW]
 grind [cW]
theorem Yd {l:List Vis} {o:Int} :hasO l o=true↔ ∃v∈l,v.order=o:=by simp [hasO]
theorem C7 : ∀(l:List Vis) (i:Nat),(Xo l).testBit i=true↔ ∃v∈l,v.order.toNat=i:=by
 have key: ∀(l:List Vis) (s i:Nat),(l.foldl (fun s v=>s|||pw v.order.toNat) s).testBit i=true↔s.testBit i=true\/ ∃v∈l,v.order.toNat=i:=by
  intro l
  induction l with
  | nil=>simp
  | cons v l ih =>
   intro s i;rw [XO,ih,AT,Kx,W8,Zs,or_assoc];simp
 grind [Xo]
def Inr (x:Inst) (l:List Vis):Prop:= ∀v∈l,0<=v.order/\v.order<x.orders.length
theorem Uy {x:Inst} {l:List Vis} (hi:Inr x l) (hn:x.orders.length<=60) (o:Int) (h:0<=o/\o<=62):nHas (Xo l) o=hasO l o:=by
 rw [Wf,Gu,C7,Yd]
 constructor
 ·rintro ⟨h1,h2,v,hv,h3⟩;have:=hi v hv
  grind
 grind
theorem Jt {l:List Vis} (hd:l.Nodup) {k:Nat} (hk:k<l.length):vIx l (nth l k)=(k:Int):=by
 refine LL hk Zb fun j hj=> ?_
 grind [Zh,VP]
theorem FA {l:List Vis} {v:Vis} (h:0<=vIx l v):(vIx l v).toNat<l.length/\nth l (vIx l v).toNat=v:=by
 grind [vIx,H7,UK,Zh]
theorem ZeF {l:List Vis} {k:Nat} (hk:k<l.length):0<=vIx l (nth l k)/\vIx l (nth l k)<=(k:Int):=by
 grind [vIx,nth,Zt,H7,UK]
theorem QG {l:List Vis} {v:Vis} {i:Nat} (h:v∈l.take i): ∃j,j<i/\j<l.length/\nth l j=v:=by
 obtain ⟨j,hj,rfl⟩:=ZN.1 h;simp at hj;exact ⟨j,Za,Za,by grind [Zh]⟩
theorem K6 {l:List Vis} {i j:Nat} (h:j<i) (hl:j<l.length):nth l j∈l.take i:=by
 grind [Zh,ZN]
theorem B8 {l:List Vis} :Ar l=false↔l.Nodup:=by
 rw [Ar,YQ]
 constructor
 ·intro h;rw [List.nodup_iff_pairwise_ne,VP];intro i j hi hj hij e;have:=h j (by grind);simp only [Zs,WG] at this;refine this ?_;rw [Zh hj,<- e,<- Zh hi];exact K6 hij hi
 ·intro h j hj;simp only [Zs,WG]
  grind [QG,Jt]
theorem fD {l:List Vis} :((List.range l.length).any fun i=>decide (vIx l (nth l i)≠(i:Int)))=Ar l:=by
 rw [Wf]
 constructor
 ·grind [Jt,B8]
 ·intro h;rw [Ar,Wx] at h;obtain ⟨j,hj,h2⟩:=h;simp only [Zs,WG] at h2;obtain ⟨i,h3,h4,h5⟩:=QG h2
  grind
def BR (l:List Vis) (b:Int):Int:=H7 (fun v=>decide (v.order=b)) l
theorem A2 {l:List Vis} {b:Int} :0<=BR l b↔ ∃v∈l,v.order=b:=by
 grind [P5,BR]
theorem C4 {l:List Vis} {b:Int} (h:0<=BR l b):(BR l b).toNat<l.length/\(nth l (BR l b).toNat).order=b/\ ∀j,j<(BR l b).toNat->(nth l j).order≠b:=by
 unfold BR H7 at h ⊢
 grind [UK,Zh]
theorem nE {l:List Vis} {b:Int} {k:Nat} (hk:k<l.length) (h:(nth l k).order=b):0<=BR l b/\BR l b<=(k:Int):=by
 have h0:0<=BR l b:=A2.2 ⟨_,Zt hk,h⟩;refine ⟨h0,?_⟩;obtain ⟨h1,h2,h3⟩:=C4 h0
 grind
theorem Us {l:List Vis} {a b:Int} :beforeB l a b=true↔(0<=BR l b->(∃v∈l,v.order=a)/\ ∀j,j<l.length->(nth l j).order=a->(j:Int)<BR l b):=by
 unfold beforeB;rw [show H7 (fun v=>decide (v.order=b)) l=BR l b from rfl]
 by_cases h:BR l b<0
 ·grind
 ·rw [if_neg h,ZE,Yd]
  have h0:0<=BR l b:=Za
  obtain ⟨h1,h2,h3⟩:=C4 h0
  have hd:(!hasO (l.drop (BR l b).toNat) a)=true↔ ∀j,j<l.length->(nth l j).order=a->(j:Int)<BR l b:=by
   rw [XM,<- UN,Yd]
   constructor
   ·intro hno j hj e;rcases Int.lt_or_le (j:Int) (BR l b) with h4 | h4
    ·exact h4
    ·refine absurd ⟨nth l j,?_,e⟩ hno;rw [Zh hj];exact ZN.2 ⟨j-(BR l b).toNat,by simp;omega,by grind⟩
   ·rintro hall ⟨v,hv,e⟩;obtain ⟨j,hj,rfl⟩:=ZN.1 hv
    grind [Zh]
  grind
theorem PD {x:Inst} {l:List Vis} (hi:Inr x l) (hn:x.orders.length<=60) {p:Int×Int} (h1:0<=p.1/\p.1<x.orders.length) (h2:0<=p.2/\p.2<x.orders.length) (hne:p.1≠p.2):Q3 (Xo l) l p=beforeB l p.1 p.2:=by
 rw [Wf,Us,Q3,Uy hi hn _ Za,Uy hi hn _ Za];simp only [W8,XM,ZE];rw [<- UN,Yd,Yd,<- A2,<- A2 (b:=p.1)]
 constructor
 ·rintro (h | ⟨h3,h4⟩) h0
  ·omega
  ·refine ⟨h3,fun j hj e=> ?_⟩;rw [Zx] at h4;have h5:=h4 j (by grind);rw [Zx] at h5;obtain ⟨g1,g2,g3⟩:=C4 h0;rcases Int.lt_or_le (j:Int) (BR l p.2) with h6 | h6
   ·exact h6
   ·have hne2:j≠(BR l p.2).toNat:=fun e2=>hne (by grind);have:=h5 (BR l p.2).toNat (by simp;omega)
    grind [KB]
 ·intro h
  by_cases h0:0<=BR l p.2
  ·obtain ⟨h3,h4⟩:=h h0;refine .inr ⟨h3,?_⟩;rw [Zx];intro j hj;rw [Zx];intro k hk;simp at hj hk
   cases hb:KB l p.1 p.2 j k with
   | false=>rfl
   | true =>
    simp [KB] at hb;have h5:=h4 j hj hb.1;have h6:=(nE Za hb.2).2;omega
  omega
theorem wE {x:Inst} (hf:IFacts x) (l:List Vis):Ow x l=Xk x l:=by
 by_cases ho:l.any (Va x)=true
 ·simp_all [Ow,Xk]
 ·have ho':l.any (Va x)=false:=by grind
  have hi:Inr x l:=fun v hv=>by
   grind [Va]
  have hn:x.orders.length<=60:=by have:=hf.len;omega
  rw [Ow,if_neg ho,Xk]
  by_cases h0:l.length=0
  ·omega
  ·have hc: ¬(l.length=0\/l.any (Va x)=true):=fun h=>h.elim h0 ho;rw [if_neg h0,if_neg hc,fD]
   have e1:apB x (Xo l)=x.apart.any fun p=>hasO l p.1&&hasO l p.2:=by
    rw [apB,Wf,Wx,Wx]
    have: ∀p∈x.apart,(nHas (Xo l) p.1&&nHas (Xo l) p.2)=(hasO l p.1&&hasO l p.2):=fun p hp=>by
     have:=hf.aval p hp
     grind [Uy]
    grind
   have e2:(x.before.all (Q3 (Xo l) l)=false)=((x.before.any fun p=> !beforeB l p.1 p.2)=true):=by
    have: ∀p∈x.before,Q3 (Xo l) l p=beforeB l p.1 p.2:=fun p hp=>by
     have:=hf.val p hp;exact PD hi hn Za Za (hf.ne p hp)
    grind
   grind
structure RightV (x:Inst) (l:List Vis):Prop where
 ne:l≠ []
 inr:Inr x l
 off: ∀v∈l,(nth x.orders v.order.toNat).off=false
 nodup:l.Nodup
 pair: ∀v∈l,pairB x.orders l v=true
 apart: ∀p∈x.apart,¬(hasO l p.1=true/\hasO l p.2=true)
 before: ∀p∈x.before,beforeB l p.1 p.2=true
theorem dW {x:Inst} {l:List Vis} :Xk x l=0↔RightV x l:=by
 unfold Xk;rw [VM Za,VM Za,VM Za,VM Za,VM Za,VM Za];simp only [and_true,UN,B8]
 have hin:l.any (Va x)=false↔Inr x l:=by
  rw [YQ];exact ⟨fun h v hv=>by grind [Va],fun h v hv=>by simpa [Va] using h v hv⟩
 constructor
 ·rintro ⟨h1,h2,h3,h4,h5,h6⟩;rw [not_or,UN,hin] at h1;rw [YQ] at h2 h5 h6;refine ⟨fun e=>h1.1 (by rw [e];rfl),h1.2,fun v hv=>by grind,h3,?_,fun p hp=>by grind,fun p hp=>by grind⟩
  grind
 ·intro h;refine ⟨?_,?_,h.nodup,?_,?_,?_⟩
  ·rw [not_or,UN,hin];exact ⟨fun e=>h.ne (YG e),h.inr⟩
  ·rw [YQ];intro v hv;simp [h.off v hv]
  ·rw [Zx.2 h.pair];simp
  ·rw [YQ];intro p hp;simpa using h.apart p hp
  ·rw [YQ];intro p hp;simpa using h.before p hp
theorem IA {os:List Ord} {l:List Vis} {v:Vis} {i:Nat} (h:v.order=(i:Int)):pairB os l v=true↔v∈ZW os i/\(∀w∈ZW os i,w∈l)/\((⟨i,false⟩:Vis)∈ZW os i->(⟨i,true⟩:Vis)∈ZW os i->vIx l ⟨i,false⟩<vIx l ⟨i,true⟩):=by
 rw [pairB,h,XY,ZE,Zs,WG];refine and_congr Iff.rfl ?_
 have hm: ∀w:Vis,-1<vIx l w↔w∈l:=fun w=>by grind [WG]
 rcases Ky os i with e | e | e | e<;>rw [e]
 ·simp [Jd]
 ·simp [Jd,hm]
 ·simp [Jd,hm]
 ·simp only [Jd,QY,ZE,Zs,hm,Z4,We,Wz,forall_eq_or_imp,forall_eq]
  grind
section
variable {x : Inst} {l : List Vis}
theorem RightV.bit (h:RightV x l) (i:Nat):(Xo l).testBit i=true↔ ∃v∈l,v.order=(i:Int):=by
 rw [C7];exact ⟨fun ⟨v,hv,e⟩=>⟨v,hv,by have:=h.inr v hv;omega⟩,fun ⟨v,hv,e⟩=>⟨v,hv,Za⟩⟩
theorem RightV.lt (h:RightV x l) (hf:IFacts x):Xo l<9223372036854775808/\Xo l / pw x.orders.length=0:=by
 have h1:Xo l<9223372036854775808:=by
  have:=A5 l.length (l:=l) (Zw _) (fun v hv=>by
   rw [X5] at hv;have:=h.inr v hv;have:=hf.len
   simp [HB];omega)
  grind
 refine ⟨h1,aQ h1 fun j _ hj=> ?_⟩;obtain ⟨v,hv,e⟩:=(h.bit j).1 hj;have:=h.inr v hv;omega
theorem RightV.ord (h:RightV x l) (hf:IFacts x):Jp l=(((Xo l:Nat):Int),0):=by
 rw [Jp,if_pos];rw [Zx];intro v hv;have:=h.inr v hv;have:=hf.len;simp [HB];omega
theorem RightV.pairs (h:RightV x l) {v:Vis} (hv:v∈l): ∃i:Nat,v.order=(i:Int)/\i<x.orders.length/\v∈ZW x.orders i/\(∀w∈ZW x.orders i,w∈l)/\((⟨i,false⟩:Vis)∈ZW x.orders i->(⟨i,true⟩:Vis)∈ZW x.orders i->vIx l ⟨i,false⟩<vIx l ⟨i,true⟩):=by
 have h1:=h.inr v hv
 have e:v.order=(v.order.toNat:Int):=Za
 exact ⟨v.order.toNat,e,Za,(IA e).1 (h.pair v hv)⟩
theorem RightV.step (h:RightV x l) {a b:Nat} (hE:Ed x.before a b) (hb:0<=BR l b):0<=BR l a/\BR l a<BR l b:=by
 obtain ⟨p,hp,e1,e2⟩:=hE;have hbe:=Us.1 (h.before p hp);rw [e1,e2] at hbe;obtain ⟨h1,h2⟩:=hbe hb;have h0:=A2.2 h1;obtain ⟨g1,g2,_⟩:=C4 h0
 grind
theorem RightV.chain (h:RightV x l) {a b:Nat} (hc:Ch x.before a b) (hb:0<=BR l b):0<=BR l a/\BR l a<BR l b:=by
 induction hc with
 | one hE=>exact h.step hE hb
 | more _ hE ih =>
  have h1:=h.step hE hb;omega
theorem RightV.alw (h:RightV x l) (hf:IFacts x):Alw x (Xo l):=by
 have hn:x.orders.length<=60:=by have:=hf.len;omega
 refine ⟨fun i hi hb=> ?_,?_,fun p hp hb=> ?_,fun i hi hb hc=> ?_⟩
 ·obtain ⟨v,hv,e⟩:=(h.bit i).1 hb;have:=h.off v hv
  grind
 ·rw [apB,YQ];intro p hp;have hv:=hf.aval p hp;rw [Uy h.inr hn _ Za,Uy h.inr hn _ Za,ZE];exact h.apart p hp
 ·have hv:=hf.val p hp;rw [Uy h.inr hn _ Za] at hb ⊢;rw [Yd] at hb ⊢;exact (Us.1 (h.before p hp) (A2.2 hb)).1
 ·have hb2:=A2.2 ((h.bit i).1 hb);have:=(h.chain hc hb2).2;omega
theorem RightV.gr (h:RightV x l) (hf:IFacts x): ∀k,k<=l.length->Gr x (Xo l) (l.take k)
 | 0,_=>by simpa using Gr.nil
 | k+1,hk=>by
  have hk2:k<l.length:=Za
  have ih:=h.gr hf k Za
  have e:l.take (k+1)=l.take k++ [nth l k]:=by rw [XZ hk2,Zh hk2]
  rw [e];obtain ⟨i,e1,hi,h1,h2,h3⟩:=h.pairs (Zt hk2);refine .snoc ih (VT.2 ⟨i,hi,(h.bit i).2 ⟨_,Zt hk2,e1⟩,?_,h1,(Vs h1).2 ⟨?_,?_,?_⟩⟩)
  ·have:=h.off _ (Zt hk2)
   grind
  ·intro hm;obtain ⟨j,j1,j2,j3⟩:=QG hm;have q1:=Jt h.nodup j2;have q2:=Jt h.nodup hk2
   grind
  ·intro hd hq
   have e2:nth l k=⟨i,true⟩:=by rw [En];grind
   have h4:=h3 hq (by grind);rw [<- e2,Jt h.nodup hk2] at h4;have h5:=WG.2 (h2 _ hq);obtain ⟨g1,g2⟩:=FA h5;rw [<- g2];exact K6 Za g1
  ·intro p hp hpe w hw;obtain ⟨v1,v2,v3,v4⟩:=hf.val p hp;have hoi:=nE hk2 e1;have hbe:=Us.1 (h.before p hp);rw [hpe] at hbe;obtain ⟨⟨v,hv,ev⟩,h5⟩:=hbe hoi.1;obtain ⟨a,a1,a2,a3,a4,a5⟩:=h.pairs hv
   have:a=p.1.toNat:=Za
   subst this;have hwl:=a4 w hw;obtain ⟨g1,g2⟩:=FA (WG.2 hwl);have h6:=h5 _ g1 (by rw [g2,Yj hw];omega);rw [<- g2];exact K6 Za g1
theorem RightV.len (h:RightV x l) (hf:IFacts x):l.length=Ap x (Xo l) x.orders.length:=by
 have h1:=h.gr hf l.length (Zw _);rw [X5] at h1;have h2:=h1.len
 have h3: ∀v∈BA x (Xo l) x.orders.length,v∈l:=fun v hv=>by
  obtain ⟨i,i1,i2,i3⟩:=WN.1 hv;obtain ⟨w,hw,e⟩:=(h.bit i).1 i2;obtain ⟨a,a1,a2,a3,a4,a5⟩:=h.pairs hw
  grind
 have h4:=Fz (BB _ _ _) h3;rw [Jw] at h4;omega
theorem Gr.at {S:Nat} (h:Gr x S l): ∀k,k<l.length->nth l k∈nextU x S (l.take k) x.orders.length:=by
 induction h with
 | nil=>simp
 | snoc h hv ih =>
  rename_i l v;intro k hk;simp at hk;rcases WM k l.length with h2 | h2
  ·grind [Zh]
  ·have:k=l.length:=Za
   simp_all [Zh]
theorem Gr.right {S:Nat} (h:Gr x S l) (hf:IFacts x) (ha:Alw x S) (h0:S≠0) (hS:S / pw x.orders.length=0) (hl:l.length=Ap x S x.orders.length):RightV x l/\Xo l=S:=by
 have hn:x.orders.length<=60:=by have:=hf.len;omega
 have hfull:=h.full hl
 have hsub: ∀v∈l,∃i:Nat,v.order=(i:Int)/\i<x.orders.length/\S.testBit i=true/\v∈ZW x.orders i:=fun v hv=>by
  obtain ⟨i,i1,i2,i3⟩:=WN.1 (h.sub v hv);exact ⟨i,Yj i3,i1,i2,i3⟩
 have hinr:Inr x l:=fun v hv=>by grind
 have hgo: ∀k,k<l.length-> ∃i:Nat,(nth l k).order=(i:Int)/\nth l k∈ZW x.orders i/\nth l k ∉ l.take k/\((nth l k).drp=true->(⟨i,false⟩:Vis)∈ZW x.orders i->(⟨i,false⟩:Vis)∈l.take k)/\ ∀p∈x.before,p.2=(i:Int)-> ∀w∈ZW x.orders p.1.toNat,w∈l.take k:=fun k hk=>by
  obtain ⟨i,i1,i2,i3,i4,i5⟩:=VT.1 (h.at k hk);obtain ⟨r1,r2,r3⟩:=(Vs i4).1 i5;exact ⟨i,Yj i4,i4,r1,r2,r3⟩
 have hbit:Xo l=S:=CT fun i=>by
  rw [Wf,C7]
  constructor
  ·grind
  ·intro hb;have hi:=PL hS hb;obtain ⟨w,hw⟩:=List.exists_mem_of_ne_nil _ (hf.vne i hi);have:=Yj hw;exact ⟨w,hfull w (WN.2 ⟨i,hi,hb,hw⟩),Za⟩
 refine ⟨⟨fun e=> ?_,hinr,fun v hv=> ?_,h.nodup,fun v hv=> ?_,fun p hp=> ?_,fun p hp=> ?_⟩,hbit⟩
 ·have:=TQ hf.vne hS h0
  grind
 ·obtain ⟨i,i1,i2,i3,i4⟩:=hsub v hv;rw [i1,XY];exact ha.off i i2 i3
 ·obtain ⟨i,i1,i2,i3,i4⟩:=hsub v hv;refine (IA i1).2 ⟨i4,fun w hw=>hfull w (WN.2 ⟨i,i2,i3,hw⟩),fun hq1 hq2=> ?_⟩;have m2:=WG.2 (hfull _ (WN.2 ⟨i,i2,i3,hq2⟩));obtain ⟨g1,g2⟩:=FA m2;obtain ⟨j,j1,j2,j3,j4,j5⟩:=hgo _ g1;rw [g2] at j1 j4
  have:j=i:=by grind
  subst this;obtain ⟨q,q1,q2,q3⟩:=QG (j4 rfl hq1);have:=(ZeF q2).2
  grind
 ·have:=ha.apart;rw [apB,YQ] at this;have h2:=this p hp;have hv:=hf.aval p hp;rw [<- hbit,Uy hinr hn _ Za,Uy hinr hn _ Za,ZE] at h2;exact h2
 ·rw [Us];intro hb;have hv:=hf.val p hp;obtain ⟨g1,g2,g3⟩:=C4 hb;obtain ⟨j,j1,j2,j3,j4,j5⟩:=hgo _ g1;have hall:=j5 p hp Za;refine ⟨?_,fun q hq e=> ?_⟩
  ·obtain ⟨w,hw⟩:=List.exists_mem_of_ne_nil _ (hf.vne p.1.toNat Za);exact ⟨w,Kn (hall w hw),by rw [Yj hw];omega⟩
  ·obtain ⟨i,i1,i2,i3,i4⟩:=hsub _ (Zt hq)
   have:i=p.1.toNat:=Za
   subst this;obtain ⟨q2,r1,r2,r3⟩:=QG (hall _ i4);have e1:=Jt h.nodup r2;have e2:=Jt h.nodup hq
   grind
end
theorem sZ {a b:Int} :Y5 a b<0↔a<b:=by grind [Y5]
def YU (p:Pln):AM.Obj:= .cells [.p (.list p.routes_c (p.routes.map Wd)),.p (.list p.unserved_c (p.unserved.map eI))]
def Mu (r:Rte):Prop:=r.visits.length<=1048576/\r.rests.length<=1048576
end Go.Proofs.YtenjikkmmibffaaGreatDoor.K
