/- Declarations that the closing texts need, part 12: joined by tools/slim.py. -/
import Derived.Test.YtjkkdmeebhjaiaaGreatDoorI11
import Derived.Test.YtjkkdmeebhjaiaaGreatDoorRows
namespace Go.Proofs.YtjkkdmeebhjaiaaGreatDoor.K
open Go Go.AM Go.Proofs
theorem Re : Tryz.prog.cellsOf 3=1:=Ze
theorem ZiV : Tryz.prog.cellsOf 4=1:=Ze
theorem ZdS : Tryz.prog.cellsOf 9=1:=Ze
theorem ZdJ : Tryz.prog.cellsOf 22=1:=Ze
theorem ZdK : Tryz.prog.cellsOf 23=1:=Ze
theorem pB : Tryz.prog.cellsOf 25=2:=Ze
theorem ZfB : Fb Tryz.prog 25=some [(0,22),(1,23)]:=Ze
theorem ZdL : Tryz.prog.cellsOf 26=1:=Ze
theorem ZdM : Tryz.prog.cellsOf 27=1:=Ze
theorem ZdN : Tryz.prog.cellsOf 28=1:=Ze
theorem ZdO : Tryz.prog.cellsOf 30=6:=Ze
theorem pS : Fb Tryz.prog 30=some [(0,25),(2,26),(3,27),(4,28),(5,28)]:=Ze
theorem pC : Tryz.prog.cellsOf 55=1:=Ze
theorem ZdP : Tryz.prog.cellsOf 63=14:=Ze
theorem pT : Fb Tryz.prog 63=some [(0,9),(1,3),(2,3),(3,3),(4,55),(5,3),(6,3),(7,3),(8,3),(9,3),(10,3),(11,3),(12,3),(13,3)]:=Ze
theorem pD : Tryz.prog.cellsOf 65=4:=Ze
theorem ZfC : Fb Tryz.prog 65=some [(0,3),(1,3),(2,3),(3,3)]:=Ze
theorem ZdQ : Tryz.prog.cellsOf 67=16:=Ze
theorem pU : Fb Tryz.prog 67=some [(0,9),(1,55),(2,65),(6,65),(10,3),(11,3),(12,3),(13,3),(14,3),(15,4)]:=Ze
theorem ZdR : Tryz.prog.cellsOf 89=2:=Ze
theorem pV : Fb Tryz.prog 89=some [(0,3),(1,3)]:=Ze
theorem ZdT : Tryz.prog.cellsOf 99=1:=Ze
theorem rY : Tryz.prog.cellsOf 101=6:=Ze
theorem dM : Fb Tryz.prog 101=some [(0,3),(1,3),(2,3),(3,3),(4,99),(5,99)]:=Ze
theorem rZ : Tryz.prog.cellsOf 139=2:=Ze
theorem dN : Fb Tryz.prog 139=some [(0,3),(1,3)]:=Ze
set_option linter.unusedVariables false
set_option linter.unusedSimpArgs false
mutual
theorem MT {H:Type} :(d:DataW H)->Fa d<=Rows.uptoBulk d
 | .lit l=>by cases l<;>simp [Fa,Rows.uptoBulk]
 | .nil=>by simp [Fa,Rows.uptoBulk]
 | .ptr d=>by have:=MT d;simp only [Fa,Rows.uptoBulk];omega
 | .slice es sp=>by have:=AK es;have:=AK sp;simp only [Fa,Rows.uptoBulk];omega
 | .agg ps=>by have:=AK ps;simp only [Fa,Rows.uptoBulk];omega
 | .iface _ d=>by have:=MT d;simp only [Fa,Rows.uptoBulk];omega
 | .map es=>by simp only [Fa,Rows.uptoBulk];omega
 | .held h=>by simp [Fa,Rows.uptoBulk]
theorem AK {H:Type} :(l:List (DataW H))->JD l<=Rows.uptoBulkAll l
 | []=>by simp [JD,Rows.uptoBulkAll]
 | d::r=>by have:=MT d;have:=AK r;simp only [JD,Rows.uptoBulkAll];omega
end
theorem NK {H:Type} {l:List (DataW H)} (h:Rows.uptoSmall H l=true):JD l<=1048576:=by
 have h1:=AK l;have h2:Rows.uptoBulkAll l<=1048576:=Ba h;omega
abbrev UH (n:Int):Prop:= -9223372036854775808<=n/\n<=9223372036854775807
def eI (n:Int):PV:= .int .i64 n
def eB (b:Bool):PV:= .bool b
def eS (s:List UInt8):PV:= .str s
def eP (p:Int×Int):PV:= .agg [.int .i64 p.1,.int .i64 p.2]
@[go_sem] theorem Zlo (n:Int):eI n= .int .i64 n:=Zi rfl rfl
@[go_sem] theorem Zlm (b:Bool):eB b= .bool b:=Zi rfl rfl
@[go_sem] theorem Zlr (s:List UInt8):eS s= .str s:=Zi rfl rfl
@[go_sem] theorem Zlq (p:Int×Int):eP p= .agg [.int .i64 p.1,.int .i64 p.2]:=Zi rfl rfl
@[go_sem] theorem ZjD (l:List Int):Ks 1 (l.map eI)=true:=Jd fun _=>rfl
@[go_sem] theorem ZgZ (l:List Bool):AA 1 (l.map eB)=true:=AB (f:=eB) (S:=1) (fun _=>rfl) l
theorem I0 {B xs} (h: ∀y∈xs,FitV Tryz.prog B 3 y): ∃l:List Int,xs=l.map eI/\ ∀n∈l,UH n :=
 W4 (f:=eI) fun y hy=>by
  obtain ⟨n,rfl,w⟩:=kP Tryz.underlying3 (h y hy);exact ⟨n,rfl,Xr w⟩
theorem Rw {B xs} (h: ∀y∈xs,FitV Tryz.prog B 4 y): ∃l:List Bool,xs=l.map eB/\ ∀b∈l,True :=
 W4 (f:=eB) fun y hy=>by
  obtain ⟨b,rfl⟩:=aF Tryz.underlying4 (h y hy);exact ⟨b,rfl,trivial⟩
theorem aG {B xs} (h: ∀y∈xs,FitV Tryz.prog B 9 y): ∃l:List (List UInt8),xs=l.map eS/\ ∀s∈l,s.length<=B :=
 W4 (f:=eS) fun y hy=>by
  obtain ⟨s,rfl,w,_⟩:=kQ Tryz.underlying9 (h y hy);exact ⟨s,rfl,w⟩
theorem xJ {α:Type} {l:List α} (h:l.length=2): ∃a0 a1,l= [a0,a1]:=by
 match l,h with | [a0,a1],_=>simp
theorem Zff {α:Type} {l:List α} (h:l.length=6): ∃a0 a1 a2 a3 a4 a5,l= [a0,a1,a2,a3,a4,a5]:=by
 match l,h with | [a0,a1,a2,a3,a4,a5],_=>simp
theorem Zfd {α:Type} {l:List α} (h:l.length=14): ∃a0 a1 a2 a3 a4 a5 a6 a7 a8 a9 a10 a11 a12 a13,l= [a0,a1,a2,a3,a4,a5,a6,a7,a8,a9,a10,a11,a12,a13]:=by
 match l,h with | [a0,a1,a2,a3,a4,a5,a6,a7,a8,a9,a10,a11,a12,a13],_=>simp
theorem Zjp {α:Type} {l:List α} (h:l.length=4): ∃a0 a1 a2 a3,l= [a0,a1,a2,a3]:=by
 match l,h with | [a0,a1,a2,a3],_=>simp
theorem Zfe {α:Type} {l:List α} (h:l.length=16): ∃a0 a1 a2 a3 a4 a5 a6 a7 a8 a9 a10 a11 a12 a13 a14 a15,l= [a0,a1,a2,a3,a4,a5,a6,a7,a8,a9,a10,a11,a12,a13,a14,a15]:=by
 match l,h with | [a0,a1,a2,a3,a4,a5,a6,a7,a8,a9,a10,a11,a12,a13,a14,a15],_=>grind
structure Pt where
 t:Int
 a:Int
 deriving Inhabited
def cPt (x:Pt):List PV:= [.int .i64 x.t,.int .i64 x.a]
def Fs (x:Pt):PV:= .agg [.int .i64 x.t,.int .i64 x.a]
@[go_sem] theorem ZiW (x:Pt):Fs x= .agg [.int .i64 x.t,.int .i64 x.a]:=Zi rfl rfl
def Pt.wf (B:Nat) (x:Pt):Prop:=UH x.t/\UH x.a
theorem kS {B m cs} (h:Y8 Tryz.prog B m 139 cs): ∃x:Pt,cs=cPt x/\x.wf B:=by
 obtain ⟨h1,m',h2⟩:=Vv dN rZ h;obtain ⟨a0,a1,rfl⟩:=xJ h1;obtain ⟨n0,e0,w0⟩:=ZT Tryz.underlying3 (h2 (0,3) Zb);obtain ⟨n1,e1,w1⟩:=ZT Tryz.underlying3 (h2 (1,3) Zb);simp [Re] at e0 e1;subst e0;subst e1;exact ⟨⟨n0,n1⟩,rfl,Xr w0,Xr w1⟩
theorem aD {B v} (h:FitV Tryz.prog B 139 v): ∃x:Pt,v=Fs x/\x.wf B:=by
 obtain ⟨k,cs,h,e⟩:=h.out;obtain ⟨x,rfl,hw⟩:=kS h;exact ⟨x,e.trans (by rw [Jc,if_pos (VC dN)];rfl),hw⟩
structure Arc where
 src:Int
 dst:Int
 prof:Int
 miles:Int
 travel_c:Bool
 travel:List (Pt)
 slow_c:Bool
 slow:List (Pt)
 deriving Inhabited
def ZiT (x:Arc):List PV:= [.int .i64 x.src,.int .i64 x.dst,.int .i64 x.prof,.int .i64 x.miles,.list x.travel_c (x.travel.map Fs),.list x.slow_c (x.slow.map Fs)]
def Um (x:Arc):PV:= .agg [.int .i64 x.src,.int .i64 x.dst,.int .i64 x.prof,.int .i64 x.miles,.list x.travel_c (x.travel.map Fs),.list x.slow_c (x.slow.map Fs)]
@[go_sem] theorem Zg8 (x:Arc):Um x= .agg [.int .i64 x.src,.int .i64 x.dst,.int .i64 x.prof,.int .i64 x.miles,.list x.travel_c (x.travel.map Fs),.list x.slow_c (x.slow.map Fs)]:=Zi rfl rfl
def Arc.wf (B:Nat) (x:Arc):Prop:=UH x.src/\UH x.dst/\UH x.prof/\UH x.miles/\x.travel.length<=B/\(∀y∈x.travel,Pt.wf B y)/\x.slow.length<=B/\(∀y∈x.slow,Pt.wf B y)
theorem aH {B m cs} (h:Y8 Tryz.prog B m 101 cs): ∃x:Arc,cs=ZiT x/\x.wf B:=by
 obtain ⟨h1,m',h2⟩:=Vv dM rY h;obtain ⟨a0,a1,a2,a3,a4,a5,rfl⟩:=Zff h1;obtain ⟨n0,e0,w0⟩:=ZT Tryz.underlying3 (h2 (0,3) Zb);obtain ⟨n1,e1,w1⟩:=ZT Tryz.underlying3 (h2 (1,3) Zb);obtain ⟨n2,e2,w2⟩:=ZT Tryz.underlying3 (h2 (2,3) Zb);obtain ⟨n3,e3,w3⟩:=ZT Tryz.underlying3 (h2 (3,3) Zb);obtain ⟨y4,e4,w4,_,z4⟩:=X1 Tryz.underlying99 (h2 (4,99) Zb);obtain ⟨n4,rfl,u4⟩:=W4 (f:=Fs) fun y hy=>aD (z4 y hy);obtain ⟨y5,e5,w5,_,z5⟩:=X1 Tryz.underlying99 (h2 (5,99) Zb)
 obtain ⟨n5,rfl,u5⟩:=W4 (f:=Fs) fun y hy=>aD (z5 y hy);simp [ZdT,Re] at e0 e1 e2 e3 e4 e5;subst e0;subst e1;subst e2;subst e3;subst e4;subst e5;exact ⟨⟨n0,n1,n2,n3,false,n4,false,n5⟩,rfl,Xr w0,Xr w1,Xr w2,Xr w3,by grind,u4,by grind,u5⟩
theorem kM {B v} (h:FitV Tryz.prog B 101 v): ∃x:Arc,v=Um x/\x.wf B:=by
 obtain ⟨k,cs,h,e⟩:=h.out;obtain ⟨x,rfl,hw⟩:=aH h;exact ⟨x,e.trans (by rw [Jc,if_pos (VC dM)];rfl),hw⟩
structure Net where
 places_c:Bool
 places:List (List UInt8)
 arcs_c:Bool
 arcs:List (Arc)
 deriving Inhabited
def ZdI (x:Net):List PV:= [.list x.places_c (x.places.map eS),.list x.arcs_c (x.arcs.map Um)]
def B1 (x:Net):PV:= .agg [.list x.places_c (x.places.map eS),.list x.arcs_c (x.arcs.map Um)]
@[go_sem] theorem Zhc (x:Net):B1 x= .agg [.list x.places_c (x.places.map eS),.list x.arcs_c (x.arcs.map Um)]:=Zi rfl rfl
def Net.wf (B:Nat) (x:Net):Prop:=x.places.length<=B/\(∀s∈x.places,s.length<=B)/\x.arcs.length<=B/\(∀y∈x.arcs,Arc.wf B y)
theorem aI {B m cs} (h:Y8 Tryz.prog B m 25 cs): ∃x:Net,cs=ZdI x/\x.wf B:=by
 obtain ⟨h1,m',h2⟩:=Vv ZfB pB h;obtain ⟨a0,a1,rfl⟩:=xJ h1;obtain ⟨y0,e0,w0,_,z0⟩:=X1 Tryz.underlying22 (h2 (0,22) Zb);obtain ⟨n0,rfl,u0⟩:=aG z0;obtain ⟨y1,e1,w1,_,z1⟩:=X1 Tryz.underlying23 (h2 (1,23) Zb);obtain ⟨n1,rfl,u1⟩:=W4 (f:=Um) fun y hy=>kM (z1 y hy);simp [ZdK,ZdJ] at e0 e1;subst e0;subst e1;exact ⟨⟨false,n0,false,n1⟩,rfl,by grind,u0,by grind,u1⟩
structure Typ where
 name:List UInt8
 count:Int
 src:Int
 dst:Int
 cap_c:Bool
 cap:List (Int)
 skills:Int
 prof:Int
 opn:Int
 cls:Int
 drive:Int
 rest:Int
 fixed:Int
 perMile:Int
 perTick:Int
 deriving Inhabited
def JB (x:Typ):List PV:= [.str x.name,.int .i64 x.count,.int .i64 x.src,.int .i64 x.dst,.list x.cap_c (x.cap.map eI),.int .i64 x.skills,.int .i64 x.prof,.int .i64 x.opn,.int .i64 x.cls,.int .i64 x.drive,.int .i64 x.rest,.int .i64 x.fixed,.int .i64 x.perMile,.int .i64 x.perTick]
def XY (x:Typ):PV:= .agg [.str x.name,.int .i64 x.count,.int .i64 x.src,.int .i64 x.dst,.list x.cap_c (x.cap.map eI),.int .i64 x.skills,.int .i64 x.prof,.int .i64 x.opn,.int .i64 x.cls,.int .i64 x.drive,.int .i64 x.rest,.int .i64 x.fixed,.int .i64 x.perMile,.int .i64 x.perTick]
@[go_sem] theorem Zhl (x:Typ):XY x= .agg [.str x.name,.int .i64 x.count,.int .i64 x.src,.int .i64 x.dst,.list x.cap_c (x.cap.map eI),.int .i64 x.skills,.int .i64 x.prof,.int .i64 x.opn,.int .i64 x.cls,.int .i64 x.drive,.int .i64 x.rest,.int .i64 x.fixed,.int .i64 x.perMile,.int .i64 x.perTick]:=Zi rfl rfl
@[go_sem] theorem Zfu (l:List Typ):Ks 14 (l.map XY)=true:=Jd fun _=>rfl
def Typ.wf (B:Nat) (x:Typ):Prop:=x.name.length<=B/\UH x.count/\UH x.src/\UH x.dst/\x.cap.length<=B/\(∀n∈x.cap,UH n)/\UH x.skills/\UH x.prof/\UH x.opn/\UH x.cls/\UH x.drive/\UH x.rest/\UH x.fixed/\UH x.perMile/\UH x.perTick
theorem aK {B m cs} (h:Y8 Tryz.prog B m 63 cs): ∃x:Typ,cs=JB x/\x.wf B:=by
 obtain ⟨h1,m',h2⟩:=Vv pT ZdP h;obtain ⟨a0,a1,a2,a3,a4,a5,a6,a7,a8,a9,a10,a11,a12,a13,rfl⟩:=Zfd h1;obtain ⟨n0,e0,w0,_⟩:=D6 Tryz.underlying9 (h2 (0,9) Zb);obtain ⟨n1,e1,w1⟩:=ZT Tryz.underlying3 (h2 (1,3) Zb);obtain ⟨n2,e2,w2⟩:=ZT Tryz.underlying3 (h2 (2,3) Zb);obtain ⟨n3,e3,w3⟩:=ZT Tryz.underlying3 (h2 (3,3) Zb);obtain ⟨y4,e4,w4,_,z4⟩:=X1 Tryz.underlying55 (h2 (4,55) Zb);obtain ⟨n4,rfl,u4⟩:=I0 z4;obtain ⟨n5,e5,w5⟩:=ZT Tryz.underlying3 (h2 (5,3) Zb)
 obtain ⟨n6,e6,w6⟩:=ZT Tryz.underlying3 (h2 (6,3) Zb);obtain ⟨n7,e7,w7⟩:=ZT Tryz.underlying3 (h2 (7,3) Zb);obtain ⟨n8,e8,w8⟩:=ZT Tryz.underlying3 (h2 (8,3) Zb);obtain ⟨n9,e9,w9⟩:=ZT Tryz.underlying3 (h2 (9,3) Zb);obtain ⟨n10,e10,w10⟩:=ZT Tryz.underlying3 (h2 (10,3) Zb);obtain ⟨n11,e11,w11⟩:=ZT Tryz.underlying3 (h2 (11,3) Zb);obtain ⟨n12,e12,w12⟩:=ZT Tryz.underlying3 (h2 (12,3) Zb);obtain ⟨n13,e13,w13⟩:=ZT Tryz.underlying3 (h2 (13,3) Zb);simp [pC,Re,ZdS] at e0 e1 e2 e3 e4 e5 e6 e7 e8 e9 e10 e11 e12 e13
 subst e0;subst e1;subst e2;subst e3;subst e4;subst e5;subst e6;subst e7;subst e8;subst e9;subst e10;subst e11;subst e12;subst e13;exact ⟨⟨n0,n1,n2,n3,false,n4,n5,n6,n7,n8,n9,n10,n11,n12,n13⟩,rfl,w0,Xr w1,Xr w2,Xr w3,by grind,u4,Xr w5,Xr w6,Xr w7,Xr w8,Xr w9,Xr w10,Xr w11,Xr w12,Xr w13⟩
theorem kO {B v} (h:FitV Tryz.prog B 63 v): ∃x:Typ,v=XY x/\x.wf B:=by
 obtain ⟨k,cs,h,e⟩:=h.out;obtain ⟨x,rfl,hw⟩:=aK h;exact ⟨x,e.trans (by rw [Jc,if_pos (VC pT)];rfl),hw⟩
structure Stp where
 place:Int
 opn:Int
 cls:Int
 serv:Int
 deriving Inhabited
def KM (x:Stp):List PV:= [.int .i64 x.place,.int .i64 x.opn,.int .i64 x.cls,.int .i64 x.serv]
def Ft (x:Stp):PV:= .agg [.int .i64 x.place,.int .i64 x.opn,.int .i64 x.cls,.int .i64 x.serv]
@[go_sem] theorem Zhi (x:Stp):Ft x= .agg [.int .i64 x.place,.int .i64 x.opn,.int .i64 x.cls,.int .i64 x.serv]:=Zi rfl rfl
def Stp.wf (B:Nat) (x:Stp):Prop:=UH x.place/\UH x.opn/\UH x.cls/\UH x.serv
theorem I1 {B m cs} (h:Y8 Tryz.prog B m 65 cs): ∃x:Stp,cs=KM x/\x.wf B:=by
 obtain ⟨h1,m',h2⟩:=Vv ZfC pD h;obtain ⟨a0,a1,a2,a3,rfl⟩:=Zjp h1;obtain ⟨n0,e0,w0⟩:=ZT Tryz.underlying3 (h2 (0,3) Zb);obtain ⟨n1,e1,w1⟩:=ZT Tryz.underlying3 (h2 (1,3) Zb);obtain ⟨n2,e2,w2⟩:=ZT Tryz.underlying3 (h2 (2,3) Zb);obtain ⟨n3,e3,w3⟩:=ZT Tryz.underlying3 (h2 (3,3) Zb);simp [Re] at e0 e1 e2 e3;subst e0;subst e1;subst e2;subst e3;exact ⟨⟨n0,n1,n2,n3⟩,rfl,Xr w0,Xr w1,Xr w2,Xr w3⟩
theorem pG {B v} (h:FitV Tryz.prog B 89 v): ∃x:Int×Int,v=eP x/\UH x.1/\UH x.2:=by
 obtain ⟨k,cs,h,e⟩:=h.out;obtain ⟨h1,m',h2⟩:=Vv pV ZdR h;obtain ⟨a,b,rfl⟩:=xJ h1;obtain ⟨n0,e0,w0⟩:=ZT Tryz.underlying3 (h2 (0,3) Zb);obtain ⟨n1,e1,w1⟩:=ZT Tryz.underlying3 (h2 (1,3) Zb);simp [Re] at e0 e1;subst e0;subst e1;exact ⟨(n0,n1),e.trans (by rw [Jc,if_pos (VC pV)];rfl),Xr w0,Xr w1⟩
structure Ord where
 name:List UInt8
 load_c:Bool
 load:List (Int)
 pick:Stp
 drp:Stp
 skills:Int
 penalty:Int
 split:Int
 last:Int
 now:Int
 off:Bool
 deriving Inhabited
def ZiU (x:Ord):List PV:= [.str x.name,.list x.load_c (x.load.map eI),.int .i64 x.pick.place,.int .i64 x.pick.opn,.int .i64 x.pick.cls,.int .i64 x.pick.serv,.int .i64 x.drp.place,.int .i64 x.drp.opn,.int .i64 x.drp.cls,.int .i64 x.drp.serv,.int .i64 x.skills,.int .i64 x.penalty,.int .i64 x.split,.int .i64 x.last,.int .i64 x.now,.bool x.off]
def Yc (x:Ord):PV:= .agg [.str x.name,.list x.load_c (x.load.map eI),.int .i64 x.pick.place,.int .i64 x.pick.opn,.int .i64 x.pick.cls,.int .i64 x.pick.serv,.int .i64 x.drp.place,.int .i64 x.drp.opn,.int .i64 x.drp.cls,.int .i64 x.drp.serv,.int .i64 x.skills,.int .i64 x.penalty,.int .i64 x.split,.int .i64 x.last,.int .i64 x.now,.bool x.off]
@[go_sem] theorem Zhd (x:Ord):Yc x= .agg [.str x.name,.list x.load_c (x.load.map eI),.int .i64 x.pick.place,.int .i64 x.pick.opn,.int .i64 x.pick.cls,.int .i64 x.pick.serv,.int .i64 x.drp.place,.int .i64 x.drp.opn,.int .i64 x.drp.cls,.int .i64 x.drp.serv,.int .i64 x.skills,.int .i64 x.penalty,.int .i64 x.split,.int .i64 x.last,.int .i64 x.now,.bool x.off]:=Zi rfl rfl
@[go_sem] theorem Zfs (l:List Ord):Ks 16 (l.map Yc)=true:=Jd fun _=>rfl
def Ord.wf (B:Nat) (x:Ord):Prop:=x.name.length<=B/\x.load.length<=B/\(∀n∈x.load,UH n)/\Stp.wf B x.pick/\Stp.wf B x.drp/\UH x.skills/\UH x.penalty/\UH x.split/\UH x.last/\UH x.now
theorem aJ {B m cs} (h:Y8 Tryz.prog B m 67 cs): ∃x:Ord,cs=ZiU x/\x.wf B:=by
 obtain ⟨h1,m',h2⟩:=Vv pU ZdQ h;obtain ⟨a0,a1,a2,a3,a4,a5,a6,a7,a8,a9,a10,a11,a12,a13,a14,a15,rfl⟩:=Zfe h1;obtain ⟨n0,e0,w0,_⟩:=D6 Tryz.underlying9 (h2 (0,9) Zb);obtain ⟨y1,e1,w1,_,z1⟩:=X1 Tryz.underlying55 (h2 (1,55) Zb);obtain ⟨n1,rfl,u1⟩:=I0 z1;obtain ⟨n2,e2,w2⟩:=I1 (h2 (2,65) Zb);obtain ⟨n3,e3,w3⟩:=I1 (h2 (6,65) Zb);obtain ⟨n4,e4,w4⟩:=ZT Tryz.underlying3 (h2 (10,3) Zb);obtain ⟨n5,e5,w5⟩:=ZT Tryz.underlying3 (h2 (11,3) Zb);obtain ⟨n6,e6,w6⟩:=ZT Tryz.underlying3 (h2 (12,3) Zb)
 obtain ⟨n7,e7,w7⟩:=ZT Tryz.underlying3 (h2 (13,3) Zb);obtain ⟨n8,e8,w8⟩:=ZT Tryz.underlying3 (h2 (14,3) Zb);obtain ⟨n9,e9⟩:=FS Tryz.underlying4 (h2 (15,4) Zb);simp [pC,pD,ZiV,Re,ZdS,KM,KM] at e0 e1 e2 e3 e4 e5 e6 e7 e8 e9;subst e0;subst e1;obtain ⟨rfl,rfl,rfl,rfl⟩:=e2;obtain ⟨rfl,rfl,rfl,rfl⟩:=e3;subst e4;subst e5;subst e6;subst e7;subst e8;subst e9;exact ⟨⟨n0,false,n1,n2,n3,n4,n5,n6,n7,n8,n9⟩,rfl,w0,by grind,u1,w2,w3,Xr w4,Xr w5,Xr w6,Xr w7,Xr w8⟩
theorem kN {B v} (h:FitV Tryz.prog B 67 v): ∃x:Ord,v=Yc x/\x.wf B:=by
 obtain ⟨k,cs,h,e⟩:=h.out;obtain ⟨x,rfl,hw⟩:=aJ h;exact ⟨x,e.trans (by rw [Jc,if_pos (VC pU)];rfl),hw⟩
structure Inst where
 net:Net
 types_c:Bool
 types:List (Typ)
 orders_c:Bool
 orders:List (Ord)
 apart_c:Bool
 apart:List (Int×Int)
 before_c:Bool
 before:List (Int×Int)
 deriving Inhabited
def ZdH (x:Inst):List PV:= [.list x.net.places_c (x.net.places.map eS),.list x.net.arcs_c (x.net.arcs.map Um),.list x.types_c (x.types.map XY),.list x.orders_c (x.orders.map Yc),.list x.apart_c (x.apart.map eP),.list x.before_c (x.before.map eP)]
def ZW (x:Inst):PV:= .agg [.list x.net.places_c (x.net.places.map eS),.list x.net.arcs_c (x.net.arcs.map Um),.list x.types_c (x.types.map XY),.list x.orders_c (x.orders.map Yc),.list x.apart_c (x.apart.map eP),.list x.before_c (x.before.map eP)]
@[go_sem] theorem ZdV (x:Inst):ZW x= .agg [.list x.net.places_c (x.net.places.map eS),.list x.net.arcs_c (x.net.arcs.map Um),.list x.types_c (x.types.map XY),.list x.orders_c (x.orders.map Yc),.list x.apart_c (x.apart.map eP),.list x.before_c (x.before.map eP)]:=Zi rfl rfl
def Inst.wf (B:Nat) (x:Inst):Prop:=Net.wf B x.net/\x.types.length<=B/\(∀y∈x.types,Typ.wf B y)/\x.orders.length<=B/\(∀y∈x.orders,Ord.wf B y)/\x.apart.length<=B/\(∀p∈x.apart,UH p.1/\UH p.2)/\x.before.length<=B/\(∀p∈x.before,UH p.1/\UH p.2)
theorem Rz {B m cs} (h:Y8 Tryz.prog B m 30 cs): ∃x:Inst,cs=ZdH x/\x.wf B:=by
 obtain ⟨h1,m',h2⟩:=Vv pS ZdO h;obtain ⟨a0,a1,a2,a3,a4,a5,rfl⟩:=Zff h1;obtain ⟨n0,e0,w0⟩:=aI (h2 (0,25) Zb);obtain ⟨y1,e1,w1,_,z1⟩:=X1 Tryz.underlying26 (h2 (2,26) Zb);obtain ⟨n1,rfl,u1⟩:=W4 (f:=XY) fun y hy=>kO (z1 y hy);obtain ⟨y2,e2,w2,_,z2⟩:=X1 Tryz.underlying27 (h2 (3,27) Zb);obtain ⟨n2,rfl,u2⟩:=W4 (f:=Yc) fun y hy=>kN (z2 y hy);obtain ⟨y3,e3,w3,_,z3⟩:=X1 Tryz.underlying28 (h2 (4,28) Zb);obtain ⟨n3,rfl,u3⟩:=W4 (f:=eP) fun y hy=>pG (z3 y hy)
 obtain ⟨y4,e4,w4,_,z4⟩:=X1 Tryz.underlying28 (h2 (5,28) Zb);obtain ⟨n4,rfl,u4⟩:=W4 (f:=eP) fun y hy=>pG (z4 y hy);simp [ZdN,ZdM,ZdL,pB,ZdI] at e0 e1 e2 e3 e4;obtain ⟨rfl,rfl⟩:=e0;subst e1;subst e2;subst e3;subst e4;exact ⟨⟨n0,false,n1,false,n2,false,n3,false,n4⟩,rfl,w0,by grind,u1,by grind,u2,by grind,u3,by grind,u4⟩
theorem aC {B v} (h:FitV Tryz.prog B 30 v): ∃x:Inst,v=ZW x/\x.wf B:=by
 obtain ⟨k,cs,h,e⟩:=h.out;obtain ⟨x,rfl,hw⟩:=Rz h;exact ⟨x,e.trans (by rw [Jc,if_pos (VC pS)];rfl),hw⟩
structure Vis where
 order:Int
 drp:Bool
 deriving Inhabited
def XB (x:Vis):PV:= .agg [.int .i64 x.order,.bool x.drp]
@[go_sem] theorem kA (x:Vis):XB x= .agg [.int .i64 x.order,.bool x.drp]:=Zi rfl rfl
@[go_sem] theorem Zav (l:List Vis):AA 2 (l.map XB)=true:=AB (f:=XB) (S:=2) (fun _=>rfl) l
@[go_sem] theorem Zfv (l:List Vis):Ks 2 (l.map XB)=true:=Jd fun _=>rfl
structure Rte where
 typ:Int
 start:Int
 rests_c:Bool
 rests:List (Bool)
 visits_c:Bool
 visits:List (Vis)
 deriving Inhabited
def KO (x:Rte):PV:= .agg [.int .i64 x.typ,.int .i64 x.start,.list x.rests_c (x.rests.map eB),.list x.visits_c (x.visits.map XB)]
@[go_sem] theorem Zhf (x:Rte):KO x= .agg [.int .i64 x.typ,.int .i64 x.start,.list x.rests_c (x.rests.map eB),.list x.visits_c (x.visits.map XB)]:=Zi rfl rfl
structure Tim where
 arr:Int
 beg:Int
 dep:Int
 rest:Bool
 deriving Inhabited
def eTim (x:Tim):PV:= .agg [.int .i64 x.arr,.int .i64 x.beg,.int .i64 x.dep,.bool x.rest]
@[go_sem] theorem Zhj (x:Tim):eTim x= .agg [.int .i64 x.arr,.int .i64 x.beg,.int .i64 x.dep,.bool x.rest]:=Zi rfl rfl
@[go_sem] theorem Zft (l:List Tim):Ks 4 (l.map eTim)=true:=Jd fun _=>rfl
structure She where
 rest:Bool
 dep:Int
 times_c:Bool
 times:List (Tim)
 fin:Int
 miles:Int
 deriving Inhabited
def Rr (x:She):PV:= .agg [.bool x.rest,.int .i64 x.dep,.list x.times_c (x.times.map eTim),.int .i64 x.fin,.int .i64 x.miles]
@[go_sem] theorem Zhh (x:She):Rr x= .agg [.bool x.rest,.int .i64 x.dep,.list x.times_c (x.times.map eTim),.int .i64 x.fin,.int .i64 x.miles]:=Zi rfl rfl
structure Sco where
 cost:Int
 moved:Int
 other:Int
 work:Int
 deriving Inhabited
def IS (x:Sco):PV:= .agg [.int .i64 x.cost,.int .i64 x.moved,.int .i64 x.other,.int .i64 x.work]
@[go_sem] theorem Zhg (x:Sco):IS x= .agg [.int .i64 x.cost,.int .i64 x.moved,.int .i64 x.other,.int .i64 x.work]:=Zi rfl rfl
structure Pln where
 routes_c:Bool
 routes:List (Rte)
 unserved_c:Bool
 unserved:List (Int)
 deriving Inhabited
def C1 (x:Pln):PV:= .agg [.list x.routes_c (x.routes.map KO),.list x.unserved_c (x.unserved.map eI)]
@[go_sem] theorem Zhe (x:Pln):C1 x= .agg [.list x.routes_c (x.routes.map KO),.list x.unserved_c (x.unserved.map eI)]:=Zi rfl rfl
structure Col where
 typ:Int
 set:Int
 price:Int
 route:Rte
 deriving Inhabited
def jN (x:Col):List PV:= [.int .i64 x.typ,.int .i64 x.set,.int .i64 x.price,.int .i64 x.route.typ,.int .i64 x.route.start,.list x.route.rests_c (x.route.rests.map eB),.list x.route.visits_c (x.route.visits.map XB)]
def Ya (x:Col):PV:= .agg [.int .i64 x.typ,.int .i64 x.set,.int .i64 x.price,.int .i64 x.route.typ,.int .i64 x.route.start,.list x.route.rests_c (x.route.rests.map eB),.list x.route.visits_c (x.route.visits.map XB)]
@[go_sem] theorem Zg9 (x:Col):Ya x= .agg [.int .i64 x.typ,.int .i64 x.set,.int .i64 x.price,.int .i64 x.route.typ,.int .i64 x.route.start,.list x.route.rests_c (x.route.rests.map eB),.list x.route.visits_c (x.route.visits.map XB)]:=Zi rfl rfl
structure Itm where
 kind:Int
 a:Int
 deriving Inhabited
def Yb (x:Itm):PV:= .agg [.int .i64 x.kind,.int .i64 x.a]
@[go_sem] theorem Zha (x:Itm):Yb x= .agg [.int .i64 x.kind,.int .i64 x.a]:=Zi rfl rfl
@[go_sem] theorem Zat (l:List Itm):AA 2 (l.map Yb)=true:=AB (f:=Yb) (S:=2) (fun _=>rfl) l
@[go_sem] theorem Zfr (l:List Itm):Ks 2 (l.map Yb)=true:=Jd fun _=>rfl
theorem own : ownKnob Tryz.prog.godebug=none:=Ze
theorem lG : laidOutB Tryz.prog=true:=Ze
def zeroI : Inst:=⟨⟨true,[],true,[]⟩,true,[],true,[],true,[],true,[]⟩
abbrev Flt := Int×List UInt8
def eF (f:Flt):PV:= .agg [.int .i64 f.1,.str f.2]
@[go_sem] theorem Zln (f:Flt):eF f= .agg [.int .i64 f.1,.str f.2]:=Zi rfl rfl
@[go_sem] theorem ZjC (l:List Flt):Ks 2 (l.map eF)=true:=Jd fun _=>rfl
def dec (n:Nat):List UInt8:=if h:n<10 then [UInt8.ofNat (48+n)] else dec (n / 10)++ [UInt8.ofNat (48+n%10)]
termination_by n
decreasing_by omega
theorem Oq : ∀(k n:Nat),n<k->(dec n).length<=n+1:=by
 intro k
 induction k with
 | zero=>omega
 | succ k ih =>
  grind [dec]
theorem Ab : ∀(d n:Nat),n<10^(d+1)->(dec n).length<=d+1:=by
 intro d
 induction d with
 | zero=>simp_all [dec]
 | succ d ih =>
  grind [dec]
def KN (n:Int):List UInt8:=if n<0 then 45::dec n.natAbs else dec n.natAbs
theorem Qq (n:Int) (h:UH n):(KN n).length<=20:=by
 have h1:n.natAbs<10^(18+1):=Za
 have:=Ab 18 n.natAbs h1
 grind [KN]
structure FR {α:Type} (p:α->Prop) (C:Prop) (b:Nat) (l:List α):Prop where
 len:l.length<=b
 emp:l= []↔C
 all: ∀x∈l,p x
theorem FR.nil {α:Type} {p:α->Prop} {C:Prop} {b:Nat} (h:C):FR p C b []:=⟨Zb,by simp [h],Zb⟩
theorem FR.no {α:Type} {p:α->Prop} {C c:Prop} {b:Nat} {l:List α} (h:FR p C b l) (hc:c):FR p (C/\c) (b+1) l:=⟨by have:=h.len;omega,by rw [h.emp];simp [hc],h.all⟩
theorem FR.yes {α:Type} {p:α->Prop} {C c:Prop} {b:Nat} {l:List α} {x:α} (h:FR p C b l) (hc: ¬c) (hx:p x):FR p (C/\c) (b+1) (l++ [x]) :=
 ⟨by have:=h.len;simp;omega,by simp [hc],fun y hy=>by
  rcases Z5.1 hy with hy | hy
  ·exact h.all y hy
  grind⟩
theorem FR.app {α:Type} {p:α->Prop} {C D:Prop} {b d:Nat} {l m:List α} (h:FR p C b l) (k:FR p D d m):FR p (C/\D) (b+d) (l++m) :=
 ⟨by have:=h.len;have:=k.len;simp;omega,by rw [Uq,h.emp,k.emp],fun y hy=>by
  rcases Z5.1 hy with hy | hy
  ·exact h.all y hy
  ·exact k.all y hy⟩
theorem FR.to {α:Type} {p:α->Prop} {C D:Prop} {b d:Nat} {l:List α} (h:FR p C b l) (hb:b<=d) (hc:C↔D):FR p D d l:=⟨UO h.len hb,h.emp.trans hc,h.all⟩
theorem ZR {p:Nat->Prop} {k:Nat} :(∀j,j<k+1->p j)↔((∀j,j<k->p j)/\p k) :=
 ⟨fun h=>⟨fun j hj=>h j Za,h k Za⟩,fun h j hj=>by
  grind⟩
def QY (c:UInt8):Bool:=decide (48<=c.toNat/\c.toNat<=57)
def Qu (c:UInt8):Bool:=decide (97<=c.toNat/\c.toNat<=122)||decide (65<=c.toNat/\c.toNat<=90)||decide (c.toNat=95)
def nameOk (s:List UInt8):Bool:=decide (1<=s.length)&&decide (s.length<=16)&& !QY (nth s 0)&&s.all fun c=>Qu c||QY c
def rng (n lo hi:Int):Bool:=decide (lo<=n/\n<=hi)
def Ie (n:Int):Bool:=rng n 0 4096
def eA (l:List Pt) (i:Nat):Prop:=(0<=(nth l i).t/\(nth l i).t<=4096/\(nth l i).t<=(nth l i).a/\(nth l i).a<=(nth l i).t+4096)/\(0<i->(nth l (i-1)).t<(nth l i).t/\(nth l (i-1)).a<=(nth l i).a)
def WM (l:List Pt):Prop:=(1<=l.length/\l.length<=16)/\ ∀i,i<l.length->eA l i
def JZ (l:List Pt) (i:Nat):Prop:=Ie (nth l i).t=true/\Ie (nth l i).a=true/\(0<i->(nth l (i-1)).t<(nth l i).t)
def Iw (n:Net) (i:Nat):Prop :=
 ((((((0<=(nth n.arcs i).src/\(nth n.arcs i).src<n.places.length/\0<=(nth n.arcs i).dst/\(nth n.arcs i).dst<n.places.length) /\
 (0<=(nth n.arcs i).prof/\(nth n.arcs i).prof<=7/\0<=(nth n.arcs i).miles/\(nth n.arcs i).miles<=10000/\(nth n.arcs i).src≠(nth n.arcs i).dst)) /\
 (∀k,k<i-> ¬((nth n.arcs i).src=(nth n.arcs k).src/\(nth n.arcs i).dst=(nth n.arcs k).dst/\(nth n.arcs i).prof=(nth n.arcs k).prof))) /\
 WM (nth n.arcs i).travel)/\(nth n.arcs i).slow.length<=16)/\ ∀k,k<(nth n.arcs i).slow.length->JZ (nth n.arcs i).slow k)
def Nq (n:Net) (i:Nat):Prop:=nameOk (nth n.places i)=true/\ ∀k,k<i->nth n.places k≠nth n.places i
def JV (n:Net):Prop:=n.places.length<=24/\ ∀i,i<n.places.length->Nq n i
def netOk (n:Net):Prop:=(JV n/\n.arcs.length<=1024)/\ ∀i,i<n.arcs.length->Iw n i
set_option maxRecDepth 8000
set_option maxHeartbeats 4000000
theorem Ou (c:UInt8):PC 128 [.p (.int .u8 (c.toNat:Nat))] (.bool (QY c)):=by
 refine Zc Tryz.func128 rfl tL ?_;simp (disch:=omega) only [Tryz.f128,go_sem,seval];refine gT ?_ ?_<;>intro h<;>simp (disch:=omega) only [Sh.out h,go_sem,seval,↓reduceIte]
 all_goals (simp [QY];first | done | omega | grind)
theorem bX (c:UInt8):PC 129 [.p (.int .u8 (c.toNat:Nat))] (.bool (Qu c)):=by
 refine Zc Tryz.func129 rfl tM ?_;simp (disch:=omega) only [Tryz.f129,go_sem,seval]
 repeat' (first | (refine gT ?_ ?_<;>intro hq<;>simp (disch:=omega) only [Sh.out hq,go_sem,seval,↓reduceIte]) | (refine gF ?_ ?_<;>intro hq<;>simp (disch:=omega) only [Sh.out hq,go_sem,seval,↓reduceIte]) | (refine QK (fun hq=> ?_) (fun hq=> ?_)<;>(try simp only [Zp,XQ,XD] at hq)<;>simp (disch:=omega) only [Sh.out hq,go_sem,seval]))
 all_goals (simp [Qu];first | done | omega | (rw [W1];simp;omega))
theorem Ni (s:List UInt8) (hs:s.length<=1048576):PC 95 [.p (.str s)] (.bool (nameOk s)):=by
 refine Zc Tryz.func95 rfl Ze5 ?_;simp (disch:=omega) only [Tryz.f95,go_sem,seval];refine gF ?_ ?_<;>intro h<;>simp (disch:=omega) only [Sh.out h,go_sem,seval,↓reduceIte]
 ·grind [nameOk]
 ·refine gF ?_ ?_<;>intro h2<;>simp (disch:=omega) only [Sh.out h2,go_sem,seval]
  ·grind [nameOk]
  ·have g1:1<=s.length:=Za
   have g2:s.length<=16:=Za
   refine (Ou (nth s 0)).use (Zd ?_);refine cD ?_ ?_<;>intro h3<;>simp (disch:=omega) only [Sh.out h3,go_sem,seval]
   ·simp [nameOk,h3]
   ·refine Zn [0] (fun k:Nat=> [(3,.p (.int .i64 k))]) (fun _=> []) (fun k=>k<=s.length/\ ∀j,j<k->(Qu (nth s j)||QY (nth s j))=true) (fun k=>s.length-k) 0 Zb (Weak.mk ?_) ?_
    ·simp (disch:=omega) only [go_sem,seval,↓reduceIte]
    ·rintro k ⟨hk,hno⟩;refine Zd ?_
     have hall: ∀j,j<s.length->(Qu (nth s j)||QY (nth s j))=false->nameOk s=false:=fun j hj e=>by
      grind [Zg,nameOk]
     refine cD ?_ ?_<;>intro h4<;>simp (disch:=omega) only [Sh.out h4,go_sem,seval,↓reduceIte]
     ·have hk2:k<s.length:=Za
      refine (bX (nth s k)).use (Zd ?_);refine gT ?_ ?_<;>intro h5<;>simp (disch:=omega) only [Sh.out h5,go_sem,seval,↓reduceIte]
      ·refine (Ou (nth s k)).use (Zd ?_);refine cD ?_ ?_<;>intro h6<;>simp (disch:=omega) only [Sh.out h6,go_sem,seval,↓reduceIte]
       ·grind
       ·simp only [XC] at h6;exact ⟨k+1,⟨Za,ZR.2 ⟨hno,by simp [h6]⟩⟩,Za,wk⟩
      ·simp only [XC] at h5;exact ⟨k+1,⟨Za,ZR.2 ⟨hno,by simp [h5]⟩⟩,Za,wk⟩
     ·have:s.all (fun c=>Qu c||QY c)=true:=by
       rw [ZH];intro c hc;obtain ⟨j,hj,rfl⟩:=Z1.1 hc
       grind [Zg]
      grind [nameOk]
theorem J8 (n:Int) (hn:UH n):PC 74 [.p (.int .i64 n)] (.str (KN n)):=by
 refine Zc Tryz.func74 rfl ZeV ?_;simp (disch:=omega) only [Tryz.f74,go_sem,seval]
 have h19:n.natAbs<10^(18+1):=Za
 have hdl:=Ab 18 n.natAbs h19
 refine XG [7] [0] (fun q:Int×List UInt8×Bool=> [(3,.p (.str q.2.1)),(4,.p (.int .i64 q.1)),(5,.p (.bool q.2.2))]) (fun _=> [])
  (fun q=>UH q.1/\(q.2.2=true->dec q.1.natAbs++q.2.1=dec n.natAbs)/\(q.2.2=false->q.2.1=dec n.natAbs)) (fun q=>if q.2.2 then q.1.natAbs+1 else 0) (n,[],true) (by simp;omega) (Weak.mk ?_) ?_
 ·simp (disch:=omega) only [go_sem,seval,↓reduceIte]
 ·rintro ⟨m,s,again⟩ ⟨hm,h1,h2⟩;simp only at hm h1 h2;refine Zd ?_
  cases again with
  | false =>
   refine Zd ?_;have h2:=h2 rfl
   have hl2:([45]:List UInt8).length+(dec n.natAbs).length<=9223372036854775807:=by simp;omega
   refine cD ?_ ?_<;>intro h3<;>simp (disch:=omega) only [Sh.out h3,go_sem,seval]
   ·simp (disch:=omega) only [KN,h2,h3,fD hl2,go_sem,seval,↓reduceIte]
   ·simp (disch:=omega) only [KN,h2,h3,go_sem,seval,↓reduceIte]
  | true =>
   have h1:=h1 rfl
   have hls:(dec m.natAbs).length+s.length=(dec n.natAbs).length:=by grind
   refine Zd ?_
   have e1:(m.tmod 10).natAbs=m.natAbs%10:=Zb
   have e2:(m.tdiv 10).natAbs=m.natAbs / 10:=by grind
   have e3:m.tmod 10<10/\ -10<m.tmod 10:=⟨Int.tmod_lt_of_pos _ (by decide),Za⟩;refine ZD [0,3,4] (fun _:Unit=> [(6,.p (.int .i64 ((m.natAbs%10:Nat):Int)))]) (fun _=> []) (fun _=>True) ?_ ?_
   ·refine Zd ?_;refine cD ?_ ?_<;>intro h3<;>simp (disch:=omega) only [Sh.out h3,go_sem,seval,↓reduceIte]
    ·exact ⟨(),Weak.mk (by refine Zd ?_;simp;omega)⟩
    ·exact ⟨(),Weak.mk (by refine Zd ?_;simp;omega)⟩
   ·intro _ _;refine Zf [] _ _ _ _ ?_;simp (disch:=first | omega | (simp only [ZL,ZY,Zy,ZB,Xy,XR]<;>omega)) only [go_sem,seval,↓reduceIte]
    have e4:(48+((m.natAbs%10:Nat):Int)).toNat=48+m.natAbs%10:=Za
    refine ⟨(m.tdiv 10,UInt8.ofNat (48+m.natAbs%10)::s,decide (m.tdiv 10≠0)),⟨?_,?_,?_⟩,?_,Weak.mk ?_⟩
    ·omega
    ·simp only [Zp];intro hne
     have h10: ¬m.natAbs<10:=Za
     rw [e2,<- h1,dec.eq_def m.natAbs,dif_neg h10];simp
    ·simp only [XQ,XD];intro hz
     have h10:m.natAbs<10:=Za
     rw [<- h1,dec.eq_def m.natAbs,dif_pos h10,Bc h10];simp
    ·grind
    ·simp (disch:=omega) only [e4,go_sem,seval]
def pF (k:Nat) (f:Flt):Prop:=f.2.length<=k
theorem XN {P:Program} {id:Nat} {l:List Oper} {fr:List V} {H:List AM.Obj} {Q:Exit->List V->List AM.Obj->Prop} {t} (h:hs P (l.map (·.dst)) H (Zq (fun fr'=>Q .normal (Mp fr') H) ⟨⟩) l (Mp fr)) (hm:P.follows .mixedOrders=true:=by exact mixed) (hB:Vy (List.toArray l) l.length=true:=by kernel_rfl) (hR:Al (List.toArray l) l.length=true:=by kernel_rfl):AWP P (.region id (Zq (List.toArray l) t) true) fr H Q:=ME hm hB hR h
theorem sE (l:List Pt) (c:Bool) (hl:l.length<=1048576):ACalls Tryz.prog 96 [.p (.list c (l.map Fs))] [] fun x H'=> ∃m:List Flt,FR (pF 20) (WM l) (2*l.length+1) m/\x= .sl 0 0 m.length m.length/\H'= [.elems 2 (m.map eF)]:=by
 refine ZM [2] Tryz.func96 rfl Ze6 ?_;simp (disch:=omega) only [Tryz.f96,go_sem,seval];refine Zr (Weak.ofNil 3 2 (by simp (disch:=omega) only [go_sem,seval]) Zb (Weak.refl _ _ _)) ?_;refine ZD [0] (fun m:List Flt=> [(3,.sl 0 0 m.length m.length)]) (fun m=> [.elems 2 (m.map eF)]) (fun m=>FR (pF 20) (1<=l.length/\l.length<=16) 1 m) ?_ ?_
 ·refine Zd ?_
  repeat' (first | (refine Vs (fun hq=> ?_) (fun hq=> ?_)<;>(try simp only [Zp,XQ,XD] at hq)<;>simp (disch:=omega) only [Sh.out hq,go_sem,seval]) | (refine gF ?_ ?_<;>intro hq<;>simp (disch:=omega) only [Sh.out hq,go_sem,seval,↓reduceIte]) | (refine cD ?_ ?_<;>intro hq<;>simp (disch:=omega) only [Sh.out hq,go_sem,seval,↓reduceIte]))
  ·exact ⟨[(4,[])],⟨Zb,by simp;omega,by simp [pF]⟩,wk⟩
  ·exact ⟨[(4,[])],⟨Zb,by simp;omega,by simp [pF]⟩,wk⟩
  ·exact ⟨[],FR.nil Za,wk⟩
 ·intro m hm;refine Zf [] _ _ _ _ (Zd ?_);refine XG [8] [0] (fun q:Nat×List Flt=> [(3,.sl 0 0 q.2.length q.2.length),(4,.p (.int .i64 q.1))]) (fun q=> [.elems 2 (q.2.map eF)]) (fun q=>q.1<=l.length/\FR (pF 20) ((1<=l.length/\l.length<=16)/\ ∀j,j<q.1->eA l j) (2*q.1+1) q.2) (fun q=>l.length-q.1) (0,m) ⟨Zb,hm.to Zb Zb⟩ (Weak.mk ?_) ?_
  ·simp (disch:=omega) only [go_sem,seval,↓reduceIte]
  ·rintro ⟨k,m⟩ ⟨hk,hm⟩;simp only at hk hm;have hml:=hm.len;refine Zd ?_;refine cD ?_ ?_<;>intro h<;>simp (disch:=omega) only [Sh.out h,go_sem,seval,↓reduceIte]
   ·have hk2:k<l.length:=Za
    refine ZD [0,4,5] (fun m:List Flt=> [(3,.sl 0 0 m.length m.length)]) (fun m=> [.elems 2 (m.map eF),.cells [.p (.int .i64 (nth l k).t),.p (.int .i64 (nth l k).a)]])
     (fun m=>FR (pF 20) (((1<=l.length/\l.length<=16)/\ ∀j,j<k->eA l j)/\(0<=(nth l k).t/\(nth l k).t<=4096/\(nth l k).t<=(nth l k).a/\(nth l k).a<=(nth l k).t+4096)) (2*k+1+1) m) ?_ ?_
    ·refine Zd ?_
     have hI:UH (k:Int):=Za
     have hdl:=Qq k hI
     repeat' (first | (refine Vs (fun hq=> ?_) (fun hq=> ?_)<;>(try simp only [Zp,XQ,XD] at hq)<;>simp (disch:=omega) only [Sh.out hq,go_sem,seval]) | (refine gF ?_ ?_<;>intro hq<;>simp (disch:=omega) only [Sh.out hq,go_sem,seval,↓reduceIte]) | (refine cD ?_ ?_<;>intro hq<;>simp (disch:=omega) only [Sh.out hq,go_sem,seval,↓reduceIte]))
     all_goals try exact ⟨m,hm.no Za,wk⟩
     all_goals
      refine (J8 k hI).use ?_;simp (disch:=omega) only [go_sem,seval,↓reduceIte];exact ⟨m++ [(2,KN k)],hm.yes Za (by simp only [pF];omega),wk⟩
    ·intro m hm;have hml:=hm.len;refine Zf [] _ _ _ _ (Zd ?_)
     have hI:UH (k:Int):=Za
     have hdl:=Qq k hI;refine XN (Zd ?_)
     repeat' (first | (refine gT ?_ ?_<;>intro hq<;>simp (disch:=omega) only [Sh.out hq,go_sem,seval,↓reduceIte]) | (refine gF ?_ ?_<;>intro hq<;>simp (disch:=omega) only [Sh.out hq,go_sem,seval,↓reduceIte]) | (refine cD ?_ ?_<;>intro hq<;>simp (disch:=omega) only [Sh.out hq,go_sem,seval,↓reduceIte]))
     all_goals try exact ⟨(k+1,m),⟨by simp only;omega,(hm.no (c:=0<k->(nth l (k-1)).t<(nth l k).t/\(nth l (k-1)).a<=(nth l k).a) Za).to (by simp only;omega) (by simp only [ZR,eA,UP])⟩,by simp only;omega,wk⟩
     all_goals
      refine (J8 k hI).use ?_;simp (disch:=omega) only [go_sem,seval,↓reduceIte];exact ⟨(k+1,m++ [(13,KN k)]),⟨by simp only;omega,(hm.yes (c:=0<k->(nth l (k-1)).t<(nth l k).t/\(nth l (k-1)).a<=(nth l k).a) Za (by simp only [pF];omega)).to (by simp only;omega) (by simp only [ZR,eA,UP])⟩,by simp only;omega,wk⟩
   ·have hkn:k=l.length:=Za
    subst hkn;exact ⟨m,hm.to Za (by rw [WM]),0,by simp (disch:=omega) only [go_sem,seval]⟩
set_option maxHeartbeats 8000000
theorem pF.mono {j k:Nat} (h:j<=k) {f:Flt} (hf:pF j f):pF k f:=UO hf h
theorem FR.pmono {α:Type} {p q:α->Prop} {C:Prop} {b:Nat} {l:List α} (h:FR p C b l) (hp: ∀x,p x->q x):FR q C b l:=⟨h.len,h.emp,fun x hx=>hp x (h.all x hx)⟩
theorem Mc (n:Int):PC 97 [.p (.int .i64 n)] (.bool (Ie n)):=by
 refine Zc Tryz.func97 rfl Ze7 ?_;simp (disch:=omega) only [Tryz.f97,go_sem,seval]
 repeat' (first | (refine gT ?_ ?_<;>intro hq<;>simp (disch:=omega) only [Sh.out hq,go_sem,seval,↓reduceIte]) | (refine Ui (fun hq=> ?_) (fun hq=> ?_)<;>(try simp only [Zp,XQ,XD] at hq)<;>simp (disch:=omega) only [Sh.out hq,go_sem,seval]) | (refine QK (fun hq=> ?_) (fun hq=> ?_)<;>(try simp only [Zp,XQ,XD] at hq)<;>simp (disch:=omega) only [Sh.out hq,go_sem,seval]))
 all_goals (simp [Ie,rng];first | done | omega | (rw [W1];simp;omega))
def ZU (n:Net):List AM.Obj:= [.cells [.p (.list n.places_c (n.places.map eS)),.p (.list n.arcs_c (n.arcs.map Um))]]
theorem J0 {P Q:Prop} (h:Q) (e:Q->P:=by intro h;simp (disch:=omega) only [ZU,go_sem,seval];exact h):P:=e h
theorem MQ (n:Net) (hp:n.places.length<=1048576) (hs: ∀s∈n.places,s.length<=1048576):ACalls Tryz.prog 70 [.p (B1 n)] [] fun x H'=> ∃m:List Flt,FR (pF 26) (JV n) (n.places.length+1) m/\x= .sl 0 0 m.length m.length/\H'= [.elems 2 (m.map eF)]:=by
 refine ZM [2] Tryz.func70 rfl ZeR ?_;simp (disch:=omega) only [Tryz.f70,go_sem,seval];refine Zr (Weak.ofNil 3 2 (by simp (disch:=omega) only [go_sem,seval]) Zb (Weak.refl _ _ _)) ?_;refine ZD [1] (fun m:List Flt=> [(3,.sl 1 0 m.length m.length)]) (fun m=>ZU n++ [.elems 2 (m.map eF)]) (fun m=>FR (pF 26) (n.places.length<=24) 1 m) ?_ ?_
 ·refine Zd ?_;refine Xm ?_ ?_<;>intro h
  ·exact ⟨[(4,[112,108,97,99,101,115])],⟨Zb,by simp;omega,by simp [pF]⟩,Weak.mk (by simp (disch:=omega) only [ZU,go_sem,seval])⟩
  ·exact ⟨[],FR.nil Za,Weak.mk (by simp (disch:=omega) only [ZU,go_sem,seval])⟩
 ·intro m hm;refine Zf [] _ _ _ _ (J0 ?_);refine Zn [1] (fun q:Nat×List Flt=> [(3,.sl 1 0 q.2.length q.2.length),(4,.p (.int .i64 q.1))]) (fun q=>ZU n++ [.elems 2 (q.2.map eF)]) (fun q=>q.1<=n.places.length/\FR (pF 26) (n.places.length<=24/\ ∀j,j<q.1->Nq n j) (q.1+1) q.2) (fun q=>n.places.length-q.1) (0,m) ⟨Zb,hm.to Zb Zb⟩ (Weak.mk ?_) ?_
  ·simp (disch:=omega) only [ZU,go_sem,seval]
  ·rintro ⟨k,m⟩ ⟨hk,hm⟩;simp only at hk hm;have hml:=hm.len;refine J0 ?_;refine cD ?_ ?_<;>intro h<;>simp (disch:=omega) only [Sh.out h,go_sem,seval,↓reduceIte]
   ·have hk2:k<n.places.length:=Za
    have hI:UH (k:Int):=Za
    have hdl:=Qq k hI;refine (J8 k hI).use (Zd ?_);simp (disch:=first | omega | (simp only [ZL,ZY,Zy,ZB,Xy,XR]<;>omega)) only [go_sem,seval,↓reduceIte];refine (Ni (nth n.places k) (hs _ (by grind [Zg]))).use (Zd ?_);refine Xm ?_ ?_<;>intro h2
    ·simp only [XE] at h2;exact ⟨(k+1,m++ [(5,[112,108,97,99,101,32]++KN k)]),⟨Za,(hm.yes (c:=Nq n k) (by rw [Nq,h2];simp) (by simp [pF];omega)).to Zb (by grind)⟩,Za,wk⟩
    ·simp only [XC] at h2;refine Zn [1,3,4,5] (fun q:Nat×Bool=> [(6,.p (.bool q.2)),(7,.p (.int .i64 q.1))]) (fun _=>ZU n++ [.elems 2 (m.map eF)]) (fun q=>q.1<=k/\(q.2=false↔ ∀j,j<q.1->nth n.places j≠nth n.places k)) (fun q=>k-q.1) (0,false) Zb (Weak.mk ?_) ?_
     ·simp (disch:=omega) only [ZU,go_sem,seval]
     ·rintro ⟨j,b⟩ ⟨hj,hb⟩;simp only at hj hb;refine J0 ?_;refine cD ?_ ?_<;>intro h3<;>simp (disch:=omega) only [Sh.out h3,go_sem,seval,↓reduceIte]
      ·refine ZK 14 mixed Ze Ze (Zd ?_)
       have hjn:j<n.places.length:=Za
       cases b with
       | true =>
        refine Zd ?_;exact ⟨(j+1,true),⟨Za,by grind⟩,Za,wk⟩
       | false =>
        refine Zd ?_;refine ⟨(j+1,decide (nth n.places j=nth n.places k)),⟨Za,by grind⟩,Za,wk⟩
      ·have hjk:j=k:=Za
       subst hjk
       cases b with
       | true =>
        refine Zd ?_
        have hno: ¬Nq n j:=fun h5=>by have:=hb.2 h5.2;cases this
        exact ⟨(j+1,m++ [(6,[112,108,97,99,101,32]++KN j)]),⟨Za,(hm.yes (c:=Nq n j) hno (by simp [pF];omega)).to Zb (by grind)⟩,Za,wk⟩
       | false =>
        refine Zd ?_;exact ⟨(j+1,m),⟨Za,(hm.no (c:=Nq n j) ⟨h2,hb.1 rfl⟩).to Zb (by grind)⟩,Za,wk⟩
   ·have hkn:k=n.places.length:=Za
    subst hkn;exact ⟨m,hm.to Za (by rw [JV]),1,by simp (disch:=omega) only [go_sem,seval]⟩
set_option maxHeartbeats 16000000
def VI (a:Arc):AM.Obj:= .cells [.p (.int .i64 a.src),.p (.int .i64 a.dst),.p (.int .i64 a.prof),.p (.int .i64 a.miles),.p (.list a.travel_c (a.travel.map Fs)),.p (.list a.slow_c (a.slow.map Fs))]
abbrev Wf (a b:Arc):Prop:=a.src=b.src/\a.dst=b.dst/\a.prof=b.prof
theorem E3 {P Q:Prop} (h:Q) (e:Q->P:=by intro h;simp (disch:=omega) only [ZU,VI,go_sem,seval];exact h):P:=e h
theorem jV (n:Net) (i:Nat) (hi:i<n.arcs.length) (hp:n.places.length<=1048576) (ha:n.arcs.length<=1048576) (ht:(nth n.arcs i).travel.length<=1048576) (hsl:(nth n.arcs i).slow.length<=1048576) :
  ACalls Tryz.prog 71 [.p (B1 n),.p (.int .i64 (i:Nat))] [] fun x H'=> ∃m:List Flt,FR (pF 26) (Iw n i) 4000000 m/\x= .sl 0 0 m.length m.length/\H'= [.elems 2 (m.map eF)]:=by
 refine ZM [4] Tryz.func71 rfl ZeS ?_;simp (disch:=omega) only [Tryz.f71,go_sem,seval]
 have hI:UH (i:Int):=Za
 have hdl:=Qq i hI;refine (J8 i hI).use (Zd ?_);simp (disch:=first | omega | (simp only [ZL,ZY,Zy,ZB,Xy,XR]<;>omega)) only [go_sem,seval,↓reduceIte]
 have hat:(97::114::99::32::KN i).length<=26:=by simp;omega
 generalize hga:nth n.arcs i=a at ht hsl ⊢;generalize 97::114::99::32::KN i=at' at hat ⊢;refine Zr (Weak.ofNil 5 2 (by simp (disch:=omega) only [go_sem,seval]) Zb (Weak.refl _ _ _)) ?_;refine ZD [1,2,6,7] (fun m:List Flt=> [(5,.sl 2 0 m.length m.length)]) (fun m=>ZU n++ [VI a,.elems 2 (m.map eF)]) (fun m=>FR (pF 26) (0<=a.src/\a.src<n.places.length/\0<=a.dst/\a.dst<n.places.length) 1 m) ?_ ?_
 ·refine Zd ?_
  repeat' (first | (refine Vs (fun hq=> ?_) (fun hq=> ?_)<;>(try simp only [Zp,XQ,XD] at hq)<;>simp (disch:=omega) only [Sh.out hq,go_sem,seval]) | (refine gF ?_ ?_<;>intro hq<;>simp (disch:=omega) only [Sh.out hq,go_sem,seval]) | (refine cD ?_ ?_<;>intro hq<;>simp (disch:=omega) only [Sh.out hq,go_sem,seval]))
  all_goals try exact ⟨[],FR.nil Za,Weak.mk (by simp (disch:=omega) only [ZU,VI,go_sem,seval])⟩
  all_goals exact ⟨[(11,at')],⟨Zb,by simp;omega,by simpa [pF] using hat⟩,Weak.mk (by simp (disch:=omega) only [ZU,VI,go_sem,seval])⟩
 ·intro m hm;refine Zf [6] _ _ _ _ (E3 ?_);have hml:=hm.len
  refine ZD [1,2,6,7] (fun m:List Flt=> [(5,.sl 2 0 m.length m.length)]) (fun m=>ZU n++ [VI a,.elems 2 (m.map eF)])
   (fun m=>FR (pF 26) ((0<=a.src/\a.src<n.places.length/\0<=a.dst/\a.dst<n.places.length)/\(0<=a.prof/\a.prof<=7/\0<=a.miles/\a.miles<=10000/\a.src≠a.dst)) 2 m) ?_ ?_
  ·refine Zd ?_
   repeat' (first | (refine Vs (fun hq=> ?_) (fun hq=> ?_)<;>(try simp only [Zp,XQ,XD] at hq)<;>simp (disch:=omega) only [Sh.out hq,go_sem,seval]) | (refine gF ?_ ?_<;>intro hq<;>simp (disch:=omega) only [Sh.out hq,go_sem,seval]) | (refine cD ?_ ?_<;>intro hq<;>simp (disch:=omega) only [Sh.out hq,go_sem,seval]))
   all_goals try exact ⟨m,hm.no Za,Weak.mk (by simp (disch:=omega) only [ZU,VI,go_sem,seval])⟩
   all_goals exact ⟨m++ [(2,at')],hm.yes Za (by simpa [pF] using hat),Weak.mk (by simp (disch:=omega) only [ZU,VI,go_sem,seval])⟩
  ·clear hm hml;intro m hm;refine Zf [14] _ _ _ _ (E3 ?_);have hml:=hm.len;refine XG [14] [1,2,5,6,7] (fun q:Nat×Bool=> [(8,.p (.bool q.2)),(9,.p (.int .i64 q.1))]) (fun _=>ZU n++ [VI a,.elems 2 (m.map eF)]) (fun q=>q.1<=i/\(q.2=false↔ ∀j,j<q.1-> ¬Wf a (nth n.arcs j))) (fun q=>i-q.1) (0,false) Zb (Weak.mk ?_) ?_
   ·simp (disch:=omega) only [ZU,VI,go_sem,seval]
   ·rintro ⟨k,b⟩ ⟨hk,hb⟩;simp only at hk hb;refine E3 ?_;refine cD ?_ ?_<;>intro h<;>simp (disch:=omega) only [Sh.out h,go_sem,seval,↓reduceIte]
    ·have hkn:k<n.arcs.length:=Za
     cases b with
     | true =>
      refine Zd ?_;exact ⟨(k+1,true),⟨Za,by grind⟩,Za,wk⟩
     | false =>
      refine Zd ?_
      repeat' (first | (refine gT ?_ ?_<;>intro hq<;>simp (disch:=omega) only [Sh.out hq,go_sem,seval]) | (refine Ui (fun hq=> ?_) (fun hq=> ?_)<;>(try simp only [Zp,XQ,XD] at hq)<;>simp (disch:=omega) only [Sh.out hq,go_sem,seval]) | (refine QK (fun hq=> ?_) (fun hq=> ?_)<;>(try simp only [Zp,XQ,XD] at hq)<;>simp (disch:=omega) only [Sh.out hq,go_sem,seval]))
      all_goals refine ⟨(k+1,decide (Wf a (nth n.arcs k))),⟨by simp only;omega,by rw [ZR,<- hb];simp⟩,by simp only;omega,Weak.mk ?_⟩
      all_goals simp (disch:=omega) only [go_sem,seval]
      all_goals simp [Wf, *]
    ·have hki:k=i:=Za
     subst hki;have htw:(b=false↔ ∀j,j<k-> ¬Wf a (nth n.arcs j)):=hb;clear hb hk h
     refine ZD [6,7] (fun m:List Flt=> [(5,.sl 2 0 m.length m.length)]) (fun m=>ZU n++ [VI a,.elems 2 (m.map eF)])
      (fun m=>FR (pF 26) (((0<=a.src/\a.src<n.places.length/\0<=a.dst/\a.dst<n.places.length)/\(0<=a.prof/\a.prof<=7/\0<=a.miles/\a.miles<=10000/\a.src≠a.dst))/\ ∀j,j<k-> ¬Wf a (nth n.arcs j)) 3 m) ?_ ?_
     ·refine Zd ?_
      cases b with
      | true =>
       refine Zd ?_;exact ⟨m++ [(6,at')],hm.yes (by grind) (by grind [pF]),Weak.mk (by simp (disch:=omega) only [ZU,VI,go_sem,seval])⟩
      | false =>
       refine Zd ?_;exact ⟨m,hm.no (htw.1 rfl),Weak.mk (by simp (disch:=omega) only [ZU,VI,go_sem,seval])⟩
     ·clear hm hml;intro m hm;refine Zf [21] _ _ _ _ (E3 ?_);have hml:=hm.len;refine ((sE a.travel a.travel_c ht).frozenE).useV fun lt hlt=>Zd ?_;have hltl:=hlt.len
      refine XG [21] [6,7,11] (fun q:Nat×List Flt=> [(5,.sl 2 0 q.2.length q.2.length),(12,.p (.int .i64 q.1))]) (fun q=>ZU n++ [VI a,.elems 2 (q.2.map eF)])
       (fun q=>q.1<=lt.length/\FR (pF 26) ((((0<=a.src/\a.src<n.places.length/\0<=a.dst/\a.dst<n.places.length)/\(0<=a.prof/\a.prof<=7/\0<=a.miles/\a.miles<=10000/\a.src≠a.dst))/\ ∀j,j<k-> ¬Wf a (nth n.arcs j))/\q.1=0) (3+q.1) q.2) (fun q=>lt.length-q.1) (0,m) ⟨Zb,hm.to Zb Zb⟩ (Weak.mk ?_) ?_
      ·simp (disch:=omega) only [ZU,VI,go_sem,seval]
      ·clear hm hml;rintro ⟨j,m⟩ ⟨hj,hm⟩;simp only at hj hm;have hml:=hm.len;refine E3 ?_;refine Xm ?_ ?_<;>intro h
       ·have hj2:j<lt.length:=Za
        exact ⟨(j+1,m++ [((nth lt j).1,at')]),⟨Za,(hm.yes (c:=False) Zb (by grind [pF])).to Za Zb⟩,Za,wk⟩
       ·have hjl:j=lt.length:=Za
        subst hjl;have hm2:=hm.to (d:=3+lt.length) (D:=(((0<=a.src/\a.src<n.places.length/\0<=a.dst/\a.dst<n.places.length)/\(0<=a.prof/\a.prof<=7/\0<=a.miles/\a.miles<=10000/\a.src≠a.dst))/\ ∀j,j<k-> ¬Wf a (nth n.arcs j))/\WM a.travel) (Zw _) (by rw [<- hlt.emp,List.eq_nil_iff_length_eq_zero]);clear hm
        refine ZD [6,7] (fun m:List Flt=> [(5,.sl 2 0 m.length m.length)]) (fun m=>ZU n++ [VI a,.elems 2 (m.map eF)])
         (fun m=>FR (pF 26) (((((0<=a.src/\a.src<n.places.length/\0<=a.dst/\a.dst<n.places.length)/\(0<=a.prof/\a.prof<=7/\0<=a.miles/\a.miles<=10000/\a.src≠a.dst))/\ ∀j,j<k-> ¬Wf a (nth n.arcs j))/\WM a.travel)/\a.slow.length<=16) (4+lt.length) m) ?_ ?_
        ·refine Zd ?_;refine Xm ?_ ?_<;>intro h2
         ·exact ⟨m++ [(4,at')],(hm2.yes Za (by grind [pF])).to Za Iff.rfl,Weak.mk (by simp (disch:=omega) only [ZU,VI,go_sem,seval])⟩
         ·exact ⟨m,(hm2.no Za).to Za Iff.rfl,Weak.mk (by simp (disch:=omega) only [ZU,VI,go_sem,seval])⟩
        ·clear hm2 hml h hj;intro m hm;refine Zf [] _ _ _ _ (E3 ?_)
         refine Zn [6,7] (fun q:Nat×List Flt=> [(5,.sl 2 0 q.2.length q.2.length),(13,.p (.int .i64 q.1))]) (fun q=>ZU n++ [VI a,.elems 2 (q.2.map eF)])
          (fun q=>q.1<=a.slow.length/\FR (pF 26) ((((((0<=a.src/\a.src<n.places.length/\0<=a.dst/\a.dst<n.places.length)/\(0<=a.prof/\a.prof<=7/\0<=a.miles/\a.miles<=10000/\a.src≠a.dst))/\ ∀j,j<k-> ¬Wf a (nth n.arcs j))/\WM a.travel)/\a.slow.length<=16)/\ ∀j,j<q.1->JZ a.slow j) (4+lt.length+q.1) q.2) (fun q=>a.slow.length-q.1) (0,m) ⟨Zb,hm.to Zb Zb⟩ (Weak.mk ?_) ?_
         ·simp (disch:=omega) only [ZU,VI,go_sem,seval]
         ·clear hm;rintro ⟨j,m⟩ ⟨hj,hm⟩;simp only at hj hm;have hml:=hm.len;refine E3 ?_;refine cD ?_ ?_<;>intro h<;>simp (disch:=omega) only [Sh.out h,go_sem,seval,↓reduceIte]
          ·have hj2:j<a.slow.length:=Za
           refine XN (Zd ?_);refine Zo (Mc (nth a.slow j).t) (Zd ?_);have hslo:JZ a.slow j↔(Ie (nth a.slow j).t=true/\Ie (nth a.slow j).a=true/\(0<j->(nth a.slow (j-1)).t<(nth a.slow j).t)):=Iff.rfl;have hyes: ¬JZ a.slow j->_:=fun hs=>(hm.yes (x:=(2,at')) hs (by grind [pF])).to (D:=(((((0<=a.src/\a.src<n.places.length/\0<=a.dst/\a.dst<n.places.length)/\(0<=a.prof/\a.prof<=7/\0<=a.miles/\a.miles<=10000/\a.src≠a.dst))/\ ∀j,j<k-> ¬Wf a (nth n.arcs j))/\WM a.travel)/\a.slow.length<=16)/\ ∀i,i<j+1->JZ a.slow i) (d:=4+lt.length+(j+1)) Za (by grind)
           have hno:JZ a.slow j->_:=fun hs=>(hm.no hs).to (D:=(((((0<=a.src/\a.src<n.places.length/\0<=a.dst/\a.dst<n.places.length)/\(0<=a.prof/\a.prof<=7/\0<=a.miles/\a.miles<=10000/\a.src≠a.dst))/\ ∀j,j<k-> ¬Wf a (nth n.arcs j))/\WM a.travel)/\a.slow.length<=16)/\ ∀i,i<j+1->JZ a.slow i) (d:=4+lt.length+(j+1)) Za (by grind)
           cases ht1:Ie (nth a.slow j).t with
           | false =>
            refine Zd ?_;exact ⟨(j+1,m++ [(2,at')]),⟨Za,hyes (by grind)⟩,Za,wk⟩
           | true =>
            refine Zd ?_;refine Zo (Mc (nth a.slow j).a) (Zd ?_)
            cases ht2:Ie (nth a.slow j).a with
            | false =>
             refine Zd ?_;exact ⟨(j+1,m++ [(2,at')]),⟨Za,hyes (by grind)⟩,Za,wk⟩
            | true =>
             refine Zd ?_
             repeat' (first | (refine gT ?_ ?_<;>intro hq<;>simp (disch:=omega) only [Sh.out hq,go_sem,seval]) | (refine Ui (fun hq=> ?_) (fun hq=> ?_)<;>(try simp only [Zp,XQ,XD] at hq)<;>simp (disch:=omega) only [Sh.out hq,go_sem,seval]) | (refine cD ?_ ?_<;>intro hq<;>simp (disch:=omega) only [Sh.out hq,go_sem,seval]))
             ·exact ⟨(j+1,m++ [(2,at')]),⟨Za,hyes (by grind)⟩,Za,wk⟩
             ·exact ⟨(j+1,m),⟨Za,hno (by grind)⟩,Za,wk⟩
             ·exact ⟨(j+1,m),⟨Za,hno (by grind)⟩,Za,wk⟩
          ·have hjn:j=a.slow.length:=Za
           subst hjn;exact ⟨m,hm.to Za (by rw [Iw,hga]),2,by simp (disch:=omega) only [go_sem,seval]⟩
theorem Zz {α:Type} [Inhabited α] {l:List α} {i:Nat} (h:i<l.length):nth l i∈l:=by grind [Zg]
theorem sF (n:Net) (hw:n.wf 1048576):ACalls Tryz.prog 38 [.p (B1 n)] [] fun x H'=> ∃m:List Flt,FR (pF 26) (netOk n) 4194306000000 m/\x= .sl 0 0 m.length m.length/\H'= [.elems 2 (m.map eF)]:=by
 obtain ⟨w1,w2,w3,w4⟩:=hw;refine ZM [2] Tryz.func38 rfl Zew ?_;simp (disch:=omega) only [Tryz.f38,go_sem,seval];refine (MQ n w1 w2).useE fun m hm=>Zd ?_;have hml:=hm.len;refine ZD [1] (fun m:List Flt=> [(3,.sl 1 0 m.length m.length)]) (fun m=>ZU n++ [.elems 2 (m.map eF)]) (fun m=>FR (pF 26) (JV n/\n.arcs.length<=1024) (n.places.length+2) m) ?_ ?_
 ·refine Zd ?_;refine Xm ?_ ?_<;>intro h
  ·exact ⟨m++ [(4,[97,114,99,115])],hm.yes Za (by simp [pF]),Weak.mk (by simp (disch:=omega) only [ZU,go_sem,seval])⟩
  ·exact ⟨m,hm.no Za,Weak.mk (by simp (disch:=omega) only [ZU,go_sem,seval])⟩
 ·clear hm hml;intro m hm;refine Zf [] _ _ _ _ (J0 ?_);refine Zn [1] (fun q:Nat×List Flt=> [(3,.sl 1 0 q.2.length q.2.length),(4,.p (.int .i64 q.1))]) (fun q=>ZU n++ [.elems 2 (q.2.map eF)]) (fun q=>q.1<=n.arcs.length/\FR (pF 26) ((JV n/\n.arcs.length<=1024)/\ ∀j,j<q.1->Iw n j) (n.places.length+2+q.1*4000000) q.2) (fun q=>n.arcs.length-q.1) (0,m) ⟨Zb,hm.to Zb Zb⟩ (Weak.mk ?_) ?_
  ·simp (disch:=omega) only [ZU,go_sem,seval]
  ·clear hm;rintro ⟨k,m⟩ ⟨hk,hm⟩;simp only at hk hm;have hml:=hm.len;refine J0 ?_;refine cD ?_ ?_<;>intro h<;>simp (disch:=omega) only [Sh.out h,go_sem,seval,↓reduceIte]
   ·have hk2:k<n.arcs.length:=Za
    have ha:=w4 _ (Zz hk2);refine (jV n k hk2 w1 w3 ha.2.2.2.2.1 ha.2.2.2.2.2.2.1).useE fun f hf=>Zd ?_;have hfl:=hf.len
    have q1:(m.length+f.length)*24<=140737488355328:=Za
    have q2:m.length+f.length<=140737488355328:=Za
    simp (disch:=omega) only [q1,q2,go_sem,seval];refine ⟨(k+1,m++f),⟨Za,(hm.app hf).to Za (by grind)⟩,Za,Weak.mk ?_⟩;simp (disch:=omega) only [Zy,Yg,go_sem,seval]
   ·have hkn:k=n.arcs.length:=Za
    subst hkn;exact ⟨m,hm.to Za (by rw [netOk]),1,by simp (disch:=omega) only [go_sem,seval]⟩
theorem WX (n lo hi:Int):PC 72 [.p (.int .i64 n),.p (.int .i64 lo),.p (.int .i64 hi)] (.bool (rng n lo hi)):=by
 refine Zc Tryz.func72 rfl ZeT ?_;simp (disch:=omega) only [Tryz.f72,go_sem,seval];refine gT ?_ ?_<;>intro h<;>simp (disch:=omega) only [Sh.out h,go_sem,seval,↓reduceIte]
 all_goals (simp [rng];first | done | omega | (rw [W1];simp;omega))
def Va (l:List Int) (d:Int):Bool:=rng l.length 1 3&&decide ((l.length:Int)=d)&&l.all fun n=>rng n 0 1000
theorem MO (l:List Int) (c:Bool) (d:Int) (hl:l.length<=1048576):PC 99 [.p (.list c (l.map eI)),.p (.int .i64 d)] (.bool (Va l d)):=by
 refine Zc Tryz.func99 rfl Ze9 ?_;simp (disch:=omega) only [Tryz.f99,go_sem,seval];refine (WX l.length 1 3).use (Zd ?_);refine gF ?_ ?_<;>intro h<;>simp (disch:=omega) only [Sh.out h,go_sem,seval,↓reduceIte]
 ·grind [Va]
 ·simp only [XC] at h;refine cD ?_ ?_<;>intro h2<;>simp (disch:=omega) only [Sh.out h2,go_sem,seval]
  ·simp [Va,h,h2]
  ·simp only [XD] at h2;subst h2;refine Zn [0] (fun k:Nat=> [(5,.p (.int .i64 k))]) (fun _=> []) (fun k=>k<=l.length/\ ∀j,j<k->rng (nth l j) 0 1000=true) (fun k=>l.length-k) 0 Zb (Weak.mk ?_) ?_
   ·simp (disch:=omega) only [go_sem,seval,↓reduceIte]
   ·rintro k ⟨hk,hno⟩;refine Zd ?_;refine cD ?_ ?_<;>intro h3<;>simp (disch:=omega) only [Sh.out h3,go_sem,seval,↓reduceIte]
    ·have hk2:k<l.length:=Za
     refine (WX (nth l k) 0 1000).use (Zd ?_);refine cD ?_ ?_<;>intro h4<;>simp (disch:=omega) only [Sh.out h4,go_sem,seval,↓reduceIte]
     ·grind [Zz,Va]
     ·simp only [XC] at h4;exact ⟨k+1,⟨Za,ZR.2 ⟨hno,h4⟩⟩,Za,wk⟩
    ·have:l.all (fun n=>rng n 0 1000)=true:=by
      rw [ZH];intro x hx;obtain ⟨j,hj,rfl⟩:=Z1.1 hx
      grind [Zg]
     grind [Va]
def Na (l:List Typ) (i:Nat) (s:List UInt8):Bool:=(List.range i).any fun j=>decide ((nth l j).name=s)
theorem V2 {l:List Typ} {i:Nat} {s:List UInt8} :Na l i s=false↔ ∀j,j<i->(nth l j).name≠s:=by
 grind [Na]
theorem RO (l:List Typ) (c:Bool) (i:Nat) (s:List UInt8) (hi:i<=l.length) (hl:l.length<=1048576):PC 98 [.p (.list c (l.map XY)),.p (.int .i64 (i:Nat)),.p (.str s)] (.bool (Na l i s)):=by
 refine Zc Tryz.func98 rfl Ze8 ?_;simp (disch:=omega) only [Tryz.f98,go_sem,seval];refine Zn [0,1,2] (fun k:Nat=> [(7,.p (.int .i64 k))]) (fun _=> []) (fun k=>k<=i/\ ∀j,j<k->(nth l j).name≠s) (fun k=>i-k) 0 Zb (Weak.mk ?_) ?_
 ·simp (disch:=omega) only [go_sem,seval,↓reduceIte]
 ·rintro k ⟨hk,hno⟩;refine Zd ?_;refine cD ?_ ?_<;>intro h3<;>simp (disch:=omega) only [Sh.out h3,go_sem,seval,↓reduceIte]
  ·have hk2:k<l.length:=Za
   refine cD ?_ ?_<;>intro h4<;>simp (disch:=omega) only [Sh.out h4,go_sem,seval,↓reduceIte]
   ·grind [V2]
   ·exact ⟨k+1,⟨Za,ZR.2 ⟨hno,h4⟩⟩,Za,wk⟩
  grind [V2]
def dimsOf (l:List Typ):Int:=if l.length=0 then 0 else ((nth l 0).cap.length:Int)
theorem IP (l:List Typ) (c:Bool) (hl:l.length<=1048576):PC 41 [.p (.list c (l.map XY))] (.int .i64 (dimsOf l)):=by
 refine Zc Tryz.func41 rfl Zez ?_;simp (disch:=omega) only [Tryz.f41,go_sem,seval];refine cD ?_ ?_<;>intro h<;>simp (disch:=omega) only [Sh.out h,go_sem,seval,↓reduceIte]
 ·grind [dimsOf]
 ·have h0:0<l.length:=Za
  have h1:l.length≠0:=Za
  simp (disch:=first | omega | (simp only [ZL,ZY,Zy,ZB,Xy,XR]<;>omega)) only [dimsOf,h1,go_sem,seval,↓reduceIte]
def YG (t:Typ):AM.Obj:= .cells [.p (.str t.name),.p (.int .i64 t.count),.p (.int .i64 t.src),.p (.int .i64 t.dst),.p (.list t.cap_c (t.cap.map eI)),.p (.int .i64 t.skills),.p (.int .i64 t.prof),.p (.int .i64 t.opn),.p (.int .i64 t.cls),.p (.int .i64 t.drive),.p (.int .i64 t.rest),.p (.int .i64 t.fixed),.p (.int .i64 t.perMile),.p (.int .i64 t.perTick)]
def VW (n:Net) (l:List Typ) (i:Nat):Prop:=((((((((nameOk (nth l i).name=true)/\(∀j,j<i->(nth l j).name≠(nth l i).name))/\rng (nth l i).count 0 10=true)/\(rng (nth l i).src 0 (n.places.length-1)=true/\rng (nth l i).dst 0 (n.places.length-1)=true))/\Va (nth l i).cap (dimsOf l)=true)/\rng (nth l i).skills 0 1073741823=true)/\(rng (nth l i).opn 0 (nth l i).cls=true/\(nth l i).cls<=4096))/\(rng (nth l i).drive 1 4096=true/\rng (nth l i).rest 0 4096=true))/\(rng (nth l i).prof 0 7=true/\rng (nth l i).fixed 0 100000=true/\rng (nth l i).perMile 0 100=true/\rng (nth l i).perTick 0 100=true)
theorem BN {P Q:Prop} (h:Q) (e:Q->P:=by intro h;simp (disch:=omega) only [ZU,YG,go_sem,seval];exact h):P:=e h
theorem Sw (n:Net) (l:List Typ) (c:Bool) (i:Nat) (hi:i<l.length) (hl:l.length<=1048576) (hw:n.wf 1048576) (ht:(nth l i).wf 1048576) :
  ACalls Tryz.prog 73 [.p (B1 n),.p (.list c (l.map XY)),.p (.int .i64 (i:Nat))] [] fun x H'=> ∃m:List Int,FR (fun _=>True) (VW n l i) 9 m/\x= .sl 0 0 m.length m.length/\H'= [.elems 1 (m.map eI)]:=by
 obtain ⟨w1,w2,w3,w4⟩:=hw;refine ZM [3] Tryz.func73 rfl ZeU ?_;simp (disch:=omega) only [Tryz.f73,go_sem,seval];have hty:VW n l i↔((((((((nameOk (nth l i).name=true)/\(∀j,j<i->(nth l j).name≠(nth l i).name))/\rng (nth l i).count 0 10=true)/\(rng (nth l i).src 0 (n.places.length-1)=true/\rng (nth l i).dst 0 (n.places.length-1)=true))/\Va (nth l i).cap (dimsOf l)=true)/\rng (nth l i).skills 0 1073741823=true)/\(rng (nth l i).opn 0 (nth l i).cls=true/\(nth l i).cls<=4096))/\(rng (nth l i).drive 1 4096=true/\rng (nth l i).rest 0 4096=true))/\(rng (nth l i).prof 0 7=true/\rng (nth l i).fixed 0 100000=true/\rng (nth l i).perMile 0 100=true/\rng (nth l i).perTick 0 100=true):=Iff.rfl
 generalize hga:nth l i=t at ht hty ⊢;have hname:=ht.1;have hcap:=ht.2.2.2.2.1;refine Zr (Weak.ofNil 8 1 (by simp (disch:=omega) only [go_sem,seval]) Zb (Weak.refl _ _ _)) ?_;refine ZD [1,2,3,7] (fun m:List Int=> [(8,.sl 2 0 m.length m.length)]) (fun m=>ZU n++ [YG t,.elems 1 (m.map eI)]) (fun m=>FR (fun _=>True) (nameOk t.name=true) 1 m) ?_ ?_
 ·refine Zd ?_;refine (Ni t.name hname).use (Zd ?_);refine Xm ?_ ?_<;>intro h0
  ·simp only [XE] at h0;exact ⟨[5],⟨Zb,by simp [h0],Zb⟩,Weak.mk (by simp (disch:=omega) only [ZU,YG,go_sem,seval])⟩
  ·simp only [XC] at h0;exact ⟨[],FR.nil (by simp [h0]),Weak.mk (by simp (disch:=omega) only [ZU,YG,go_sem,seval])⟩
 ·skip
  intro m hm;refine Zf [5] _ _ _ _ (BN ?_);have hml:=hm.len;refine ZD [1,3,7] (fun m:List Int=> [(8,.sl 2 0 m.length m.length)]) (fun m=>ZU n++ [YG t,.elems 1 (m.map eI)]) (fun m=>FR (fun _=>True) ((nameOk t.name=true)/\(∀j,j<i->(nth l j).name≠t.name)) 2 m) ?_ ?_
  ·refine Zd ?_;refine (RO l c i t.name Za hl).use (Zd ?_);refine Xm ?_ ?_<;>intro h
   ·exact ⟨m++ [6],hm.yes (by grind [V2]) trivial,Weak.mk (by simp (disch:=omega) only [ZU,YG,go_sem,seval])⟩
   ·exact ⟨m,hm.no (by exact V2.1 h),Weak.mk (by simp (disch:=omega) only [ZU,YG,go_sem,seval])⟩
  ·clear hm hml;intro m hm;refine Zf [7] _ _ _ _ (BN ?_);have hml:=hm.len;refine ZD [1,3,7] (fun m:List Int=> [(8,.sl 2 0 m.length m.length)]) (fun m=>ZU n++ [YG t,.elems 1 (m.map eI)]) (fun m=>FR (fun _=>True) (((nameOk t.name=true)/\(∀j,j<i->(nth l j).name≠t.name))/\rng t.count 0 10=true) 3 m) ?_ ?_
   ·refine Zd ?_;refine (WX t.count 0 10).use (Zd ?_);refine Xm ?_ ?_<;>intro h0
    ·simp only [XE] at h0;exact ⟨m++ [22],hm.yes (by simp [h0]) trivial,Weak.mk (by simp (disch:=omega) only [ZU,YG,go_sem,seval])⟩
    ·simp only [XC] at h0;exact ⟨m,hm.no (by simp [h0]),Weak.mk (by simp (disch:=omega) only [ZU,YG,go_sem,seval])⟩
   ·clear hm hml;intro m hm;refine Zf [9] _ _ _ _ (BN ?_);have hml:=hm.len;refine ZD [1,7] (fun m:List Int=> [(8,.sl 2 0 m.length m.length)]) (fun m=>ZU n++ [YG t,.elems 1 (m.map eI)]) (fun m=>FR (fun _=>True) ((((nameOk t.name=true)/\(∀j,j<i->(nth l j).name≠t.name))/\rng t.count 0 10=true)/\(rng t.src 0 (n.places.length-1)=true/\rng t.dst 0 (n.places.length-1)=true)) 4 m) ?_ ?_
    ·refine Zd ?_;refine (WX t.src 0 (n.places.length-1)).use (Zd ?_);refine Rk ?_ ?_<;>intro h0
     ·simp only [XE] at h0;exact ⟨m++ [11],hm.yes (by simp [h0]) trivial,Weak.mk (by simp (disch:=omega) only [ZU,YG,go_sem,seval])⟩
     ·simp only [XC] at h0;refine (WX t.dst 0 (n.places.length-1)).use (Zd ?_);refine Xm ?_ ?_<;>intro h1
      ·simp only [XE] at h1;exact ⟨m++ [11],hm.yes (by simp [h1]) trivial,Weak.mk (by simp (disch:=omega) only [ZU,YG,go_sem,seval])⟩
      ·simp only [XC] at h1;exact ⟨m,hm.no (by simp [h0,h1]),Weak.mk (by simp (disch:=omega) only [ZU,YG,go_sem,seval])⟩
    ·clear hm hml;intro m hm;refine Zf [11] _ _ _ _ (BN ?_);have hml:=hm.len;refine ZD [7] (fun m:List Int=> [(8,.sl 2 0 m.length m.length)]) (fun m=>ZU n++ [YG t,.elems 1 (m.map eI)]) (fun m=>FR (fun _=>True) (((((nameOk t.name=true)/\(∀j,j<i->(nth l j).name≠t.name))/\rng t.count 0 10=true)/\(rng t.src 0 (n.places.length-1)=true/\rng t.dst 0 (n.places.length-1)=true))/\Va t.cap (dimsOf l)=true) 5 m) ?_ ?_
     ·refine Zd ?_;refine XN (Zd ?_);refine Zo (IP l c hl) (Zd ?_);refine Zo (MO t.cap t.cap_c (dimsOf l) hcap) (Zd ?_);refine Xm ?_ ?_<;>intro h
      ·simp only [XE] at h;exact ⟨m++ [17],hm.yes (by simp [h]) trivial,Weak.mk (by simp (disch:=omega) only [ZU,YG,go_sem,seval])⟩
      ·simp only [XC] at h;exact ⟨m,hm.no (by simp [h]),Weak.mk (by simp (disch:=omega) only [ZU,YG,go_sem,seval])⟩
     ·clear hm hml;intro m hm;refine Zf [13] _ _ _ _ (BN ?_);have hml:=hm.len;refine ZD [7] (fun m:List Int=> [(8,.sl 2 0 m.length m.length)]) (fun m=>ZU n++ [YG t,.elems 1 (m.map eI)]) (fun m=>FR (fun _=>True) ((((((nameOk t.name=true)/\(∀j,j<i->(nth l j).name≠t.name))/\rng t.count 0 10=true)/\(rng t.src 0 (n.places.length-1)=true/\rng t.dst 0 (n.places.length-1)=true))/\Va t.cap (dimsOf l)=true)/\rng t.skills 0 1073741823=true) 6 m) ?_ ?_
      ·refine Zd ?_;refine (WX t.skills 0 1073741823).use (Zd ?_);refine Xm ?_ ?_<;>intro h0
       ·simp only [XE] at h0;exact ⟨m++ [18],hm.yes (by simp [h0]) trivial,Weak.mk (by simp (disch:=omega) only [ZU,YG,go_sem,seval])⟩
       ·simp only [XC] at h0;exact ⟨m,hm.no (by simp [h0]),Weak.mk (by simp (disch:=omega) only [ZU,YG,go_sem,seval])⟩
      ·clear hm hml;intro m hm;refine Zf [15] _ _ _ _ (BN ?_);have hml:=hm.len;refine ZD [7] (fun m:List Int=> [(8,.sl 2 0 m.length m.length)]) (fun m=>ZU n++ [YG t,.elems 1 (m.map eI)]) (fun m=>FR (fun _=>True) (((((((nameOk t.name=true)/\(∀j,j<i->(nth l j).name≠t.name))/\rng t.count 0 10=true)/\(rng t.src 0 (n.places.length-1)=true/\rng t.dst 0 (n.places.length-1)=true))/\Va t.cap (dimsOf l)=true)/\rng t.skills 0 1073741823=true)/\(rng t.opn 0 t.cls=true/\t.cls<=4096)) 7 m) ?_ ?_
       ·refine Zd ?_;refine (WX t.opn 0 t.cls).use (Zd ?_);refine Rk ?_ ?_<;>intro h0
        ·simp only [XE] at h0;exact ⟨m++ [15],hm.yes (by simp [h0]) trivial,Weak.mk (by simp (disch:=omega) only [ZU,YG,go_sem,seval])⟩
        ·simp only [XC] at h0;refine Xm ?_ ?_<;>intro h1
         ·exact ⟨m++ [15],hm.yes Za trivial,Weak.mk (by simp (disch:=omega) only [ZU,YG,go_sem,seval])⟩
         ·exact ⟨m,hm.no (by grind),Weak.mk (by simp (disch:=omega) only [ZU,YG,go_sem,seval])⟩
       ·clear hm hml;intro m hm;refine Zf [17] _ _ _ _ (BN ?_);have hml:=hm.len;refine ZD [7] (fun m:List Int=> [(8,.sl 2 0 m.length m.length)]) (fun m=>ZU n++ [YG t,.elems 1 (m.map eI)]) (fun m=>FR (fun _=>True) ((((((((nameOk t.name=true)/\(∀j,j<i->(nth l j).name≠t.name))/\rng t.count 0 10=true)/\(rng t.src 0 (n.places.length-1)=true/\rng t.dst 0 (n.places.length-1)=true))/\Va t.cap (dimsOf l)=true)/\rng t.skills 0 1073741823=true)/\(rng t.opn 0 t.cls=true/\t.cls<=4096))/\(rng t.drive 1 4096=true/\rng t.rest 0 4096=true)) 8 m) ?_ ?_
        ·refine Zd ?_;refine (WX t.drive 1 4096).use (Zd ?_);refine Rk ?_ ?_<;>intro h0
         ·simp only [XE] at h0;exact ⟨m++ [16],hm.yes (by simp [h0]) trivial,Weak.mk (by simp (disch:=omega) only [ZU,YG,go_sem,seval])⟩
         ·simp only [XC] at h0;refine (WX t.rest 0 4096).use (Zd ?_);refine Xm ?_ ?_<;>intro h1
          ·simp only [XE] at h1;exact ⟨m++ [16],hm.yes (by simp [h1]) trivial,Weak.mk (by simp (disch:=omega) only [ZU,YG,go_sem,seval])⟩
          ·simp only [XC] at h1;exact ⟨m,hm.no (by simp [h0,h1]),Weak.mk (by simp (disch:=omega) only [ZU,YG,go_sem,seval])⟩
        ·clear hm hml;intro m hm;refine Zf [19] _ _ _ _ (BN ?_);have hml:=hm.len;refine ZD [] (fun m:List Int=> [(8,.sl 2 0 m.length m.length)]) (fun m=>ZU n++ [YG t,.elems 1 (m.map eI)]) (fun m=>FR (fun _=>True) (((((((((nameOk t.name=true)/\(∀j,j<i->(nth l j).name≠t.name))/\rng t.count 0 10=true)/\(rng t.src 0 (n.places.length-1)=true/\rng t.dst 0 (n.places.length-1)=true))/\Va t.cap (dimsOf l)=true)/\rng t.skills 0 1073741823=true)/\(rng t.opn 0 t.cls=true/\t.cls<=4096))/\(rng t.drive 1 4096=true/\rng t.rest 0 4096=true))/\(rng t.prof 0 7=true/\rng t.fixed 0 100000=true/\rng t.perMile 0 100=true/\rng t.perTick 0 100=true)) 9 m) ?_ ?_
         ·refine Zd ?_;refine (WX t.prof 0 7).use (Zd ?_);refine gF ?_ ?_<;>intro h0<;>simp (disch:=omega) only [Sh.out h0,go_sem,seval,↓reduceIte]
          ·simp only [XE] at h0;exact ⟨m++ [2],hm.yes (by simp [h0]) trivial,Weak.mk (by simp (disch:=omega) only [ZU,YG,go_sem,seval])⟩
          ·simp only [XC] at h0;refine (WX t.fixed 0 100000).use (Zd ?_);refine gF ?_ ?_<;>intro h1<;>simp (disch:=omega) only [Sh.out h1,go_sem,seval,↓reduceIte]
           ·simp only [XE] at h1;exact ⟨m++ [2],hm.yes (by simp [h1]) trivial,Weak.mk (by simp (disch:=omega) only [ZU,YG,go_sem,seval])⟩
           ·simp only [XC] at h1;refine (WX t.perMile 0 100).use (Zd ?_);refine gF ?_ ?_<;>intro h2<;>simp (disch:=omega) only [Sh.out h2,go_sem,seval,↓reduceIte]
            ·simp only [XE] at h2;exact ⟨m++ [2],hm.yes (by simp [h2]) trivial,Weak.mk (by simp (disch:=omega) only [ZU,YG,go_sem,seval])⟩
            ·simp only [XC] at h2;refine (WX t.perTick 0 100).use (Zd ?_);refine cD ?_ ?_<;>intro h3<;>simp (disch:=omega) only [Sh.out h3,go_sem,seval,↓reduceIte]
             ·simp only [XE] at h3;exact ⟨m++ [2],hm.yes (by simp [h3]) trivial,Weak.mk (by simp (disch:=omega) only [ZU,YG,go_sem,seval])⟩
             ·simp only [XC] at h3;exact ⟨m,hm.no (by grind),Weak.mk (by simp (disch:=omega) only [ZU,YG,go_sem,seval])⟩
         ·clear hm hml;intro m hm;refine Zf [] _ _ _ _ (BN ?_);have hml:=hm.len;exact ⟨m,hm.to Za (by rw [hty]),2,by simp (disch:=omega) only [go_sem,seval]⟩
def typesOk (n:Net) (l:List Typ):Prop:=rng l.length 1 6=true/\ ∀i,i<l.length->VW n l i
theorem sG (n:Net) (l:List Typ) (c:Bool) (hw:n.wf 1048576) (hl:l.length<=1048576) (hlw: ∀t∈l,t.wf 1048576) :
  ACalls Tryz.prog 39 [.p (B1 n),.p (.list c (l.map XY))] [] fun x H'=> ∃m:List Flt,FR (pF 20) (typesOk n l) (1+9*l.length) m/\x= .sl 0 0 m.length m.length/\H'= [.elems 2 (m.map eF)]:=by
 refine ZM [2] Tryz.func39 rfl Zex ?_;simp (disch:=omega) only [Tryz.f39,go_sem,seval];refine Zr (Weak.ofNil 5 2 (by simp (disch:=omega) only [go_sem,seval]) Zb (Weak.refl _ _ _)) ?_;refine ZD [1,2] (fun m:List Flt=> [(5,.sl 1 0 m.length m.length)]) (fun m=>ZU n++ [.elems 2 (m.map eF)]) (fun m=>FR (pF 20) (rng l.length 1 6=true) 1 m) ?_ ?_
 ·refine Zd ?_;refine (WX l.length 1 6).use (Zd ?_);refine Xm ?_ ?_<;>intro h
  ·simp only [XE] at h;exact ⟨[(4,[])],⟨Zb,by simp [h],by simp [pF]⟩,Weak.mk (by simp (disch:=omega) only [ZU,go_sem,seval])⟩
  ·simp only [XC] at h;exact ⟨[],FR.nil h,Weak.mk (by simp (disch:=omega) only [ZU,go_sem,seval])⟩
 ·intro m hm;refine Zf [] _ _ _ _ (J0 ?_);refine Zn [1,2] (fun q:Nat×List Flt=> [(5,.sl 1 0 q.2.length q.2.length),(6,.p (.int .i64 q.1))]) (fun q=>ZU n++ [.elems 2 (q.2.map eF)]) (fun q=>q.1<=l.length/\FR (pF 20) (rng l.length 1 6=true/\ ∀j,j<q.1->VW n l j) (1+9*q.1) q.2) (fun q=>l.length-q.1) (0,m) ⟨Zb,hm.to Zb Zb⟩ (Weak.mk ?_) ?_
  ·simp (disch:=omega) only [ZU,go_sem,seval]
  ·clear hm;rintro ⟨k,m⟩ ⟨hk,hm⟩;simp only at hk hm;have hml:=hm.len;refine J0 ?_;refine cD ?_ ?_<;>intro h<;>simp (disch:=omega) only [Sh.out h,go_sem,seval,↓reduceIte]
   ·have hk2:k<l.length:=Za
    have hI:UH (k:Int):=Za
    have hdl:=Qq k hI;refine ((Sw n l c k hk2 hl hw (hlw _ (Zz hk2))).frozenE).useV fun e he=>Zd ?_;have hel:=he.len;refine Zn [1,2,6,7] (fun q:Nat×List Flt=> [(5,.sl 1 0 q.2.length q.2.length),(8,.p (.int .i64 q.1))]) (fun q=>ZU n++ [.elems 2 (q.2.map eF)]) (fun q=>q.1<=e.length/\FR (pF 20) ((rng l.length 1 6=true/\ ∀j,j<k->VW n l j)/\q.1=0) (1+9*k+q.1) q.2) (fun q=>e.length-q.1) (0,m) ⟨Zb,hm.to Zb Zb⟩ (Weak.mk ?_) ?_
    ·simp (disch:=omega) only [ZU,go_sem,seval]
    ·clear hm hml;rintro ⟨j,m⟩ ⟨hj,hm⟩;simp only at hj hm;have hml:=hm.len;refine J0 ?_;refine Xm ?_ ?_<;>intro h2
     ·have hj2:j<e.length:=Za
      refine ZK 9 mixed Ze Ze (Zd ?_);refine Zo (J8 k hI) (Zd ?_);exact ⟨(j+1,m++ [(nth e j,KN k)]),⟨Za,(hm.yes (c:=False) Zb (by grind [pF])).to Za Zb⟩,Za,wk⟩
     ·have hjl:j=e.length:=Za
      subst hjl;exact ⟨(k+1,m),⟨Za,hm.to Za (by simp only [ZR,UP];rw [<- he.emp,List.eq_nil_iff_length_eq_zero])⟩,Za,wk⟩
   ·have hkn:k=l.length:=Za
    subst hkn;exact ⟨m,hm.to Za (by rw [typesOk]),1,by simp (disch:=omega) only [go_sem,seval]⟩
theorem Ef (n lo hi:Int):PC 101 [.p (.int .i64 n),.p (.int .i64 lo),.p (.int .i64 hi)] (.bool (rng n lo hi)):=by
 refine Zc Tryz.func101 rfl tA ?_;simp (disch:=omega) only [Tryz.f101,go_sem,seval];refine gT ?_ ?_<;>intro h<;>simp (disch:=omega) only [Sh.out h,go_sem,seval,↓reduceIte]
 all_goals (simp [rng];first | done | omega | (rw [W1];simp;omega))
def loadOk (l:List Int) (d:Int):Bool:=decide ((l.length:Int)=d)&&l.all fun n=>rng n 0 1000
theorem So (l:List Int) (c:Bool) (d:Int) (hl:l.length<=1048576):PC 100 [.p (.list c (l.map eI)),.p (.int .i64 d)] (.bool (loadOk l d)):=by
 refine Zc Tryz.func100 rfl sZ ?_;simp (disch:=omega) only [Tryz.f100,go_sem,seval];refine cD ?_ ?_<;>intro h2<;>simp (disch:=omega) only [Sh.out h2,go_sem,seval]
 ·simp [loadOk,h2]
 ·simp only [XD] at h2;subst h2;refine Zn [0] (fun k:Nat=> [(5,.p (.int .i64 k))]) (fun _=> []) (fun k=>k<=l.length/\ ∀j,j<k->rng (nth l j) 0 1000=true) (fun k=>l.length-k) 0 Zb (Weak.mk ?_) ?_
  ·simp (disch:=omega) only [go_sem,seval,↓reduceIte]
  ·rintro k ⟨hk,hno⟩;refine Zd ?_;refine cD ?_ ?_<;>intro h3<;>simp (disch:=omega) only [Sh.out h3,go_sem,seval,↓reduceIte]
   ·have hk2:k<l.length:=Za
    have hbad:rng (nth l k) 0 1000=false->loadOk l l.length=false:=fun h4=>by
     grind [Zz,loadOk]
    repeat' (first | (refine Vs (fun hq=> ?_) (fun hq=> ?_)<;>(try simp only [Zp,XQ,XD] at hq)<;>simp (disch:=omega) only [Sh.out hq,go_sem,seval]) | (refine gF ?_ ?_<;>intro hq<;>simp (disch:=omega) only [Sh.out hq,go_sem,seval,↓reduceIte]) | (refine cD ?_ ?_<;>intro hq<;>simp (disch:=omega) only [Sh.out hq,go_sem,seval,↓reduceIte]))
    all_goals first
     | (rw [hbad (by simp [rng];omega)])
     | exact ⟨k+1,⟨Za,ZR.2 ⟨hno,by simp [rng];omega⟩⟩,Za,wk⟩
   ·have:l.all (fun n=>rng n 0 1000)=true:=by
     rw [ZH];intro x hx;obtain ⟨j,hj,rfl⟩:=Z1.1 hx
     grind [Zg]
    simp [loadOk,this]
def stpOk (s:Stp):Bool:=decide ((s.place= -1/\s.opn=0/\s.cls=0/\s.serv=0)\/(0<=s.place/\0<=s.opn/\s.opn<=s.cls/\s.cls<=4096/\0<=s.serv/\s.serv<=4096))
def SH (s:Stp):Int:=if stpOk s=true then 0 else 2
theorem TM (s:Stp):PC 102 [.p (Ft s)] (.int .i64 (SH s)):=by
 refine Zc Tryz.func102 rfl tB ?_;simp (disch:=omega) only [Tryz.f102,go_sem,seval]
 repeat' (first | (refine gT ?_ ?_<;>intro hq<;>simp (disch:=omega) only [Sh.out hq,go_sem,seval,↓reduceIte]) | (refine gF ?_ ?_<;>intro hq<;>simp (disch:=omega) only [Sh.out hq,go_sem,seval,↓reduceIte]) | (refine cD ?_ ?_<;>intro hq<;>simp (disch:=omega) only [Sh.out hq,go_sem,seval,↓reduceIte]))
 all_goals (simp only [SH,stpOk,Zp])
 all_goals first
  | (exfalso;omega)
  | (rw [if_pos Za])
  | (rw [if_neg Za])
def Uw (l:List Ord) (i:Nat):Bool:=(List.range i).all fun j=>decide ((nth l j).name≠(nth l i).name)
theorem JQ {l:List Ord} {i:Nat} :Uw l i=true↔ ∀j,j<i->(nth l j).name≠(nth l i).name:=by simp [Uw]
def WO (b:Bool) (e:Int):List Int:=if b=true then [] else [e]
theorem V8 (b:Bool) (e:Int):(WO b e).length<=1:=by grind [WO]
theorem US {b:Bool} {e:Int} {m p:List Int} (h:m=p) (hb:b=true):m=p++WO b e:=by simp [WO,hb,h]
theorem VO {b:Bool} {e:Int} {m p:List Int} (h:m=p) (hb:b=false):m++ [e]=p++WO b e:=by simp [WO,hb,h]
def YF (t:Ord):AM.Obj:= .cells [.p (.str t.name),.p (.list t.load_c (t.load.map eI)),.p (.int .i64 t.pick.place),.p (.int .i64 t.pick.opn),.p (.int .i64 t.pick.cls),.p (.int .i64 t.pick.serv),.p (.int .i64 t.drp.place),.p (.int .i64 t.drp.opn),.p (.int .i64 t.drp.cls),.p (.int .i64 t.drp.serv),.p (.int .i64 t.skills),.p (.int .i64 t.penalty),.p (.int .i64 t.split),.p (.int .i64 t.last),.p (.int .i64 t.now),.p (.bool t.off)]
def Ha (t:Ord):Bool:=decide (t.pick.place≠ -1)&&decide (t.drp.place≠ -1)
def argOk (t:Ord) (ty:Int):Bool:=rng t.penalty (-1) 1000000&&rng t.split 1 4&&decide (¬(1<t.split/\Ha t=true)/\ -1<=t.last/\t.last<ty/\ -1<=t.now/\t.now<ty)
def YW (np:Nat) (d ty:Int) (l:List Ord) (i:Nat):List Int:=WO (nameOk (nth l i).name) 5++WO (Uw l i) 6++WO (loadOk (nth l i).load d) 17++WO ((rng (nth l i).pick.place (-1) ((np:Int)-1)&&rng (nth l i).drp.place (-1) ((np:Int)-1))) 11++WO (decide (¬((nth l i).pick.place= -1/\(nth l i).drp.place= -1))) 19++WO ((stpOk (nth l i).pick&&stpOk (nth l i).drp)) 14++WO (rng (nth l i).skills 0 1073741823) 18++WO (argOk (nth l i) ty) 2
theorem Bo (np:Nat) (d ty:Int) (l:List Ord) (i:Nat):(YW np d ty l i).length<=8:=by
 grind [V8,YW,Zy]
theorem K0 {P Q:Prop} (h:Q) (e:Q->P:=by intro h;simp (disch:=omega) only [YF,go_sem,seval];exact h):P:=e h
theorem Sx (np:Nat) (d ty:Int) (l:List Ord) (c:Bool) (i:Nat) (hi:i<l.length) (hl:l.length<=1048576) (hnp:np<=1048576) (ht:(nth l i).wf 1048576) :
  ACalls Tryz.prog 75 [.p (.int .i64 (np:Nat)),.p (.int .i64 d),.p (.int .i64 ty),.p (.list c (l.map Yc)),.p (.int .i64 (i:Nat))] [] fun x H'=>x= .sl 0 0 (YW np d ty l i).length (YW np d ty l i).length/\H'= [.elems 1 ((YW np d ty l i).map eI)]:=by
 suffices hh:ACalls Tryz.prog 75 [.p (.int .i64 (np:Nat)),.p (.int .i64 d),.p (.int .i64 ty),.p (.list c (l.map Yc)),.p (.int .i64 (i:Nat))] [] fun x H'=> ∃m:List Int,m=YW np d ty l i/\x= .sl 0 0 m.length m.length/\H'= [.elems 1 (m.map eI)] by
  grind
 refine ZM [3] Tryz.func75 rfl ZeW ?_;simp (disch:=omega) only [Tryz.f75,go_sem,seval];have hty:YW np d ty l i=WO (nameOk (nth l i).name) 5++WO (Uw l i) 6++WO (loadOk (nth l i).load d) 17++WO ((rng (nth l i).pick.place (-1) ((np:Int)-1)&&rng (nth l i).drp.place (-1) ((np:Int)-1))) 11++WO (decide (¬((nth l i).pick.place= -1/\(nth l i).drp.place= -1))) 19++WO ((stpOk (nth l i).pick&&stpOk (nth l i).drp)) 14++WO (rng (nth l i).skills 0 1073741823) 18++WO (argOk (nth l i) ty) 2:=rfl
 have hleng: ∀m:List Int,∀p:List Int,m=p->p.length<=8->m.length<=8:=fun m p h1 h2=>by grind
 generalize hga:nth l i=t at ht hty ⊢;have hname:=ht.1;have hload:=ht.2.1;refine Zr (Weak.ofNil 11 1 (by simp (disch:=omega) only [go_sem,seval]) Zb (Weak.refl _ _ _)) ?_;refine ZD [0,1,2,3,4,12] (fun m:List Int=> [(11,.sl 1 0 m.length m.length)]) (fun m=> [YF t,.elems 1 (m.map eI)]) (fun m=>m=WO (nameOk t.name) 5) ?_ ?_
 ·refine Zd ?_;refine (Ni t.name hname).use (Zd ?_);refine cD ?_ ?_<;>intro h<;>simp (disch:=omega) only [Sh.out h,go_sem,seval,↓reduceIte]
  ·simp only [XE] at h;exact ⟨[5],by simp [WO,h],Weak.mk (by simp (disch:=omega) only [YF,go_sem,seval])⟩
  ·simp only [XC] at h;exact ⟨[],by simp [WO,h],Weak.mk (by simp (disch:=omega) only [YF,go_sem,seval])⟩
 ·skip
  intro m hm;refine Zf [5] _ _ _ _ (K0 ?_)
  have hml:m.length<=8:=by
   grind [V8]
  refine ZD [0,1,2,12] (fun m:List Int=> [(11,.sl 1 0 m.length m.length)]) (fun m=> [YF t,.elems 1 (m.map eI)]) (fun m=>m=WO (nameOk t.name) 5++WO (Uw l i) 6) ?_ ?_
  ·refine Zd ?_;refine Zn [0,1,2,3,4,11,12] (fun k:Nat=> [(13,.p (.int .i64 k))]) (fun _=> [YF t,.elems 1 (m.map eI)]) (fun k=>k<=i/\ ∀j,j<k->(nth l j).name≠(nth l i).name) (fun k=>i-k) 0 Zb (Weak.mk ?_) ?_
   ·simp (disch:=omega) only [YF,go_sem,seval,↓reduceIte]
   ·rintro k ⟨hk,hno⟩;refine K0 ?_;refine cD ?_ ?_<;>intro h3<;>simp (disch:=omega) only [Sh.out h3,go_sem,seval,↓reduceIte]
    ·have hk2:k<l.length:=Za
     refine XN (Zd ?_);refine Xm ?_ ?_<;>intro h4
     ·exact ⟨m++ [6],VO hm (by grind [JQ]),wk⟩
     ·exact ⟨k+1,⟨Za,ZR.2 ⟨hno,by grind⟩⟩,Za,wk⟩
    ·have hki:k=i:=Za
     subst hki;exact ⟨m,US hm (JQ.2 hno),wk⟩
  ·clear hm hml;intro m hm;refine Zf [10] _ _ _ _ (K0 ?_)
   have hml:m.length<=8:=by
    grind [V8]
   refine ZD [0,2,12] (fun m:List Int=> [(11,.sl 1 0 m.length m.length)]) (fun m=> [YF t,.elems 1 (m.map eI)]) (fun m=>m=WO (nameOk t.name) 5++WO (Uw l i) 6++WO (loadOk t.load d) 17) ?_ ?_
   ·refine Zd ?_;refine (So t.load t.load_c d hload).use (Zd ?_);refine cD ?_ ?_<;>intro h<;>simp (disch:=omega) only [Sh.out h,go_sem,seval,↓reduceIte]
    ·simp only [XE] at h;exact ⟨m++ [17],VO hm (h),Weak.mk (by simp (disch:=omega) only [YF,go_sem,seval])⟩
    ·simp only [XC] at h;exact ⟨m,US hm (h),Weak.mk (by simp (disch:=omega) only [YF,go_sem,seval])⟩
   ·clear hm hml;intro m hm;refine Zf [12] _ _ _ _ (K0 ?_)
    have hml:m.length<=8:=by
     grind [Zy,V8]
    refine ZD [2,12] (fun m:List Int=> [(11,.sl 1 0 m.length m.length)]) (fun m=> [YF t,.elems 1 (m.map eI)]) (fun m=>m=WO (nameOk t.name) 5++WO (Uw l i) 6++WO (loadOk t.load d) 17++WO ((rng t.pick.place (-1) ((np:Int)-1)&&rng t.drp.place (-1) ((np:Int)-1))) 11) ?_ ?_
    ·refine Zd ?_;refine (Ef t.pick.place (-1) ((np:Int)-1)).use (Zd ?_);refine Rk ?_ ?_<;>intro h
     ·simp only [XE] at h;exact ⟨m++ [11],VO hm (by simp [h]),Weak.mk (by simp (disch:=omega) only [YF,go_sem,seval])⟩
     ·simp only [XC] at h;refine (Ef t.drp.place (-1) ((np:Int)-1)).use (Zd ?_);refine Xm ?_ ?_<;>intro h2
      ·simp only [XE] at h2;exact ⟨m++ [11],VO hm (by simp [h2]),Weak.mk (by simp (disch:=omega) only [YF,go_sem,seval])⟩
      ·simp only [XC] at h2;exact ⟨m,US hm (by simp [h,h2]),Weak.mk (by simp (disch:=omega) only [YF,go_sem,seval])⟩
    ·clear hm hml;intro m hm;refine Zf [14] _ _ _ _ (K0 ?_)
     have hml:m.length<=8:=by
      grind [Zy,V8]
     refine ZD [2,12] (fun m:List Int=> [(11,.sl 1 0 m.length m.length)]) (fun m=> [YF t,.elems 1 (m.map eI)]) (fun m=>m=WO (nameOk t.name) 5++WO (Uw l i) 6++WO (loadOk t.load d) 17++WO ((rng t.pick.place (-1) ((np:Int)-1)&&rng t.drp.place (-1) ((np:Int)-1))) 11++WO (decide (¬(t.pick.place= -1/\t.drp.place= -1))) 19) ?_ ?_
     ·refine Zd ?_
      repeat' (first | (refine gT ?_ ?_<;>intro hq<;>simp (disch:=omega) only [Sh.out hq,go_sem,seval]) | (refine Ui (fun hq=> ?_) (fun hq=> ?_)<;>(try simp only [Zp,XQ,XD] at hq)<;>simp (disch:=omega) only [Sh.out hq,go_sem,seval]) | (refine cD ?_ ?_<;>intro hq<;>simp (disch:=omega) only [Sh.out hq,go_sem,seval]))
      all_goals first
       | exact ⟨m++ [19],VO hm (by first | (simp;done) | (simp;omega)),Weak.mk (by simp (disch:=omega) only [YF,go_sem,seval])⟩
       | exact ⟨m,US hm (by first | (simp;done) | (simp;omega)),Weak.mk (by simp (disch:=omega) only [YF,go_sem,seval])⟩
     ·clear hm hml;intro m hm;refine Zf [16] _ _ _ _ (K0 ?_)
      have hml:m.length<=8:=by
       grind [Zy,V8]
      refine ZD [2,12] (fun m:List Int=> [(11,.sl 1 0 m.length m.length)]) (fun m=> [YF t,.elems 1 (m.map eI)]) (fun m=>m=WO (nameOk t.name) 5++WO (Uw l i) 6++WO (loadOk t.load d) 17++WO ((rng t.pick.place (-1) ((np:Int)-1)&&rng t.drp.place (-1) ((np:Int)-1))) 11++WO (decide (¬(t.pick.place= -1/\t.drp.place= -1))) 19++WO ((stpOk t.pick&&stpOk t.drp)) 14) ?_ ?_
      ·refine Zd ?_;refine (TM t.pick).use (Zd ?_)
       cases h:stpOk t.pick with
       | false =>
        simp (disch:=omega) only [SH,h,go_sem,seval];exact ⟨m++ [14],VO hm (by simp []),Weak.mk (by simp (disch:=omega) only [YF,go_sem,seval])⟩
       | true =>
        simp (disch:=omega) only [SH,h,go_sem,seval];refine (TM t.drp).use (Zd ?_)
        cases h2:stpOk t.drp with
        | false =>
         simp (disch:=omega) only [SH,h2,go_sem,seval];exact ⟨m++ [14],VO hm (by simp []),Weak.mk (by simp (disch:=omega) only [YF,go_sem,seval])⟩
        | true =>
         simp (disch:=omega) only [SH,h2,go_sem,seval];exact ⟨m,US hm (by simp []),Weak.mk (by simp (disch:=omega) only [YF,go_sem,seval])⟩
      ·clear hm hml;intro m hm;refine Zf [18] _ _ _ _ (K0 ?_)
       have hml:m.length<=8:=by
        grind [Zy,V8]
       refine ZD [2,12] (fun m:List Int=> [(11,.sl 1 0 m.length m.length)]) (fun m=> [YF t,.elems 1 (m.map eI)]) (fun m=>m=WO (nameOk t.name) 5++WO (Uw l i) 6++WO (loadOk t.load d) 17++WO ((rng t.pick.place (-1) ((np:Int)-1)&&rng t.drp.place (-1) ((np:Int)-1))) 11++WO (decide (¬(t.pick.place= -1/\t.drp.place= -1))) 19++WO ((stpOk t.pick&&stpOk t.drp)) 14++WO (rng t.skills 0 1073741823) 18) ?_ ?_
       ·refine Zd ?_;refine (Ef t.skills 0 1073741823).use (Zd ?_);refine Xm ?_ ?_<;>intro h
        ·simp only [XE] at h;exact ⟨m++ [18],VO hm (h),Weak.mk (by simp (disch:=omega) only [YF,go_sem,seval])⟩
        ·simp only [XC] at h;exact ⟨m,US hm (h),Weak.mk (by simp (disch:=omega) only [YF,go_sem,seval])⟩
       ·clear hm hml;intro m hm;refine Zf [20] _ _ _ _ (K0 ?_)
        have hml:m.length<=8:=by
         grind [Zy,V8]
        refine ZD [2,11,12] (fun b:Bool=> [(14,.p (.bool b))]) (fun _=> [YF t,.elems 1 (m.map eI)]) (fun b=>b=Ha t) ?_ ?_
        ·refine Zd ?_
         repeat' (first | (refine Vs (fun hq=> ?_) (fun hq=> ?_)<;>(try simp only [Zp,XQ,XD] at hq)<;>simp (disch:=omega) only [Sh.out hq,go_sem,seval]) | (refine Ui (fun hq=> ?_) (fun hq=> ?_)<;>(try simp only [Zp,XQ,XD] at hq)<;>simp (disch:=omega) only [Sh.out hq,go_sem,seval]) | (refine QK (fun hq=> ?_) (fun hq=> ?_)<;>(try simp only [Zp,XQ,XD] at hq)<;>simp (disch:=omega) only [Sh.out hq,go_sem,seval]))
         all_goals refine ⟨Ha t,rfl,Weak.mk ?_⟩
         all_goals (simp (disch:=omega) only [YF,go_sem,seval];simp [Ha, *])
        ·rintro b hb;refine Zf [21] _ _ _ _ (K0 ?_);refine ZD [] (fun m:List Int=> [(11,.sl 1 0 m.length m.length)]) (fun m=> [YF t,.elems 1 (m.map eI)]) (fun m=>m=WO (nameOk t.name) 5++WO (Uw l i) 6++WO (loadOk t.load d) 17++WO ((rng t.pick.place (-1) ((np:Int)-1)&&rng t.drp.place (-1) ((np:Int)-1))) 11++WO (decide (¬(t.pick.place= -1/\t.drp.place= -1))) 19++WO ((stpOk t.pick&&stpOk t.drp)) 14++WO (rng t.skills 0 1073741823) 18++WO (argOk t ty) 2) ?_ ?_
         ·refine Zd ?_;refine (Ef t.penalty (-1) 1000000).use (Zd ?_);refine gF ?_ ?_<;>intro h<;>simp (disch:=omega) only [Sh.out h,go_sem,seval,↓reduceIte]
          ·simp only [XE] at h;exact ⟨m++ [2],VO hm (by simp [argOk,h]),Weak.mk (by simp (disch:=omega) only [YF,go_sem,seval])⟩
          ·simp only [XC] at h;refine (Ef t.split 1 4).use (Zd ?_);refine gF ?_ ?_<;>intro h2<;>simp (disch:=omega) only [Sh.out h2,go_sem,seval,↓reduceIte]
           ·simp only [XE] at h2;exact ⟨m++ [2],VO hm (by simp [argOk,h2]),Weak.mk (by simp (disch:=omega) only [YF,go_sem,seval])⟩
           ·simp only [XC] at h2
            cases b with
            | true =>
             repeat' (first | (refine gT ?_ ?_<;>intro hq<;>simp (disch:=omega) only [Sh.out hq,go_sem,seval,↓reduceIte]) | (refine gF ?_ ?_<;>intro hq<;>simp (disch:=omega) only [Sh.out hq,go_sem,seval,↓reduceIte]) | (refine cD ?_ ?_<;>intro hq<;>simp (disch:=omega) only [Sh.out hq,go_sem,seval,↓reduceIte]))
             all_goals first
              | exact ⟨m++ [2],VO hm (by rw [argOk,<- hb];first | (simp;done) | (simp;omega)),Weak.mk (by simp (disch:=omega) only [YF,go_sem,seval])⟩
              | exact ⟨m,US hm (by grind [argOk]),Weak.mk (by simp (disch:=omega) only [YF,go_sem,seval])⟩
            | false =>
             repeat' (first | (refine gT ?_ ?_<;>intro hq<;>simp (disch:=omega) only [Sh.out hq,go_sem,seval,↓reduceIte]) | (refine gF ?_ ?_<;>intro hq<;>simp (disch:=omega) only [Sh.out hq,go_sem,seval,↓reduceIte]) | (refine cD ?_ ?_<;>intro hq<;>simp (disch:=omega) only [Sh.out hq,go_sem,seval,↓reduceIte]))
             all_goals first
              | exact ⟨m++ [2],VO hm (by rw [argOk,<- hb];first | (simp;done) | (simp;omega)),Weak.mk (by simp (disch:=omega) only [YF,go_sem,seval])⟩
              | exact ⟨m,US hm (by rw [argOk,<- hb,h,h2];first | (simp;done) | (simp;omega)),Weak.mk (by simp (disch:=omega) only [YF,go_sem,seval])⟩
         ·clear hm hml;intro m hm;refine Zf [] _ _ _ _ (K0 ?_)
          have hml:m.length<=8:=by
           grind [Zy,V8]
          exact ⟨m,by rw [hm,hty],1,by simp (disch:=omega) only [go_sem,seval]⟩
def XK (np:Nat) (d ty:Int) (l:List Ord) (k:Nat):List Flt:=(if l.length<=10 then [] else [(4,[])])++(List.range k).flatMap fun i=>(YW np d ty l i).map fun e=>(e,KN i)
theorem Br (np:Nat) (d ty:Int) (l:List Ord) (k:Nat):XK np d ty l (k+1)=XK np d ty l k++(YW np d ty l k).map fun e=>(e,KN k):=by
 simp [XK,Yq]
theorem UR (np:Nat) (d ty:Int) (l:List Ord): ∀k,(XK np d ty l k).length<=1+8*k
 | 0=>by simp [XK];grind
 | k+1=>by
  have h1:=UR np d ty l k;have h2:=Bo np d ty l k;rw [Br];simp;omega
theorem sH (n:Net) (d ty:Int) (l:List Ord) (c:Bool) (hw:n.wf 1048576) (hl:l.length<=1048576) (hlw: ∀t∈l,t.wf 1048576) :
  ACalls Tryz.prog 40 [.p (B1 n),.p (.int .i64 d),.p (.int .i64 ty),.p (.list c (l.map Yc))] [] fun x H'=>x= .sl 0 0 (XK n.places.length d ty l l.length).length (XK n.places.length d ty l l.length).length/\H'= [.elems 2 ((XK n.places.length d ty l l.length).map eF)]:=by
 obtain ⟨w1,w2,w3,w4⟩:=hw
 suffices hh:ACalls Tryz.prog 40 [.p (B1 n),.p (.int .i64 d),.p (.int .i64 ty),.p (.list c (l.map Yc))] [] fun x H'=> ∃m:List Flt,m=XK n.places.length d ty l l.length/\x= .sl 0 0 m.length m.length/\H'= [.elems 2 (m.map eF)] by
  grind
 refine ZM [2] Tryz.func40 rfl Zey ?_;simp (disch:=omega) only [Tryz.f40,go_sem,seval];refine Zr (Weak.ofNil 9 2 (by simp (disch:=omega) only [go_sem,seval]) Zb (Weak.refl _ _ _)) ?_;refine ZD [1,2,3,4] (fun m:List Flt=> [(9,.sl 1 0 m.length m.length)]) (fun m=>ZU n++ [.elems 2 (m.map eF)]) (fun m=>m=XK n.places.length d ty l 0) ?_ ?_
 ·refine Zd ?_;refine Xm ?_ ?_<;>intro h
  ·exact ⟨[(4,[])],by rw [XK,if_neg Za];rfl,Weak.mk (by simp (disch:=omega) only [ZU,go_sem,seval])⟩
  ·exact ⟨[],by rw [XK,if_pos Za];rfl,Weak.mk (by simp (disch:=omega) only [ZU,go_sem,seval])⟩
 ·intro m hm;refine Zf [] _ _ _ _ (J0 ?_);refine Zn [1,2,3,4] (fun q:Nat×List Flt=> [(9,.sl 1 0 q.2.length q.2.length),(10,.p (.int .i64 q.1))]) (fun q=>ZU n++ [.elems 2 (q.2.map eF)]) (fun q=>q.1<=l.length/\q.2=XK n.places.length d ty l q.1) (fun q=>l.length-q.1) (0,m) ⟨Zb,hm⟩ (Weak.mk ?_) ?_
  ·simp (disch:=omega) only [ZU,go_sem,seval]
  ·clear hm;rintro ⟨k,m⟩ ⟨hk,hm⟩;simp only at hk hm;have hml:=UR n.places.length d ty l k;rw [<- hm] at hml;refine J0 ?_;refine cD ?_ ?_<;>intro h<;>simp (disch:=omega) only [Sh.out h,go_sem,seval,↓reduceIte]
   ·have hk2:k<l.length:=Za
    have hI:UH (k:Int):=Za
    have hrl:=Bo n.places.length d ty l k;refine ((Sx n.places.length d ty l c k hk2 hl w1 (hlw _ (Zz hk2))).frozen Zb).use (Zd ?_);generalize hre:YW n.places.length d ty l k=e at hrl ⊢;refine Zn [1,2,3,4,10,11] (fun q:Nat×List Flt=> [(9,.sl 1 0 q.2.length q.2.length),(12,.p (.int .i64 q.1))]) (fun q=>ZU n++ [.elems 2 (q.2.map eF)]) (fun q=>q.1<=e.length/\q.2=XK n.places.length d ty l k++(e.take q.1).map fun e=>(e,KN k)) (fun q=>e.length-q.1) (0,m) ⟨Zb,by simp [hm]⟩ (Weak.mk ?_) ?_
    ·simp (disch:=omega) only [ZU,go_sem,seval]
    ·clear hm hml;rintro ⟨j,m⟩ ⟨hj,hm⟩;simp only at hj hm;have hml:=UR n.places.length d ty l k
     have hml2:m.length<=1+8*k+8:=by grind
     refine J0 ?_;refine Xm ?_ ?_<;>intro h2
     ·have hj2:j<e.length:=Za
      refine ZK 9 mixed Ze Ze (Zd ?_);refine Zo (J8 k hI) (Zd ?_);refine ⟨(j+1,m++ [(nth e j,KN k)]),⟨Za,?_⟩,Za,wk⟩
      grind [Yu,Zg]
     ·have hjl:j=e.length:=Za
      subst hjl;refine ⟨(k+1,m),⟨Za,?_⟩,Za,wk⟩
      grind [Br]
   ·have hkn:k=l.length:=Za
    subst hkn;exact ⟨m,hm,1,by simp (disch:=omega) only [go_sem,seval]⟩
theorem SI {s:Stp} :stpOk s=true↔((s.place= -1/\s.opn=0/\s.cls=0/\s.serv=0)\/(0<=s.place/\0<=s.opn/\s.opn<=s.cls/\s.cls<=4096/\0<=s.serv/\s.serv<=4096)):=by simp [stpOk]
structure OrdOk (np:Nat) (d ty:Int) (l:List Ord) (i:Nat):Prop where
 name:nameOk (nth l i).name=true
 twin: ∀j,j<i->(nth l j).name≠(nth l i).name
 load:loadOk (nth l i).load d=true
 pick: -1<=(nth l i).pick.place/\(nth l i).pick.place<np
 drp: -1<=(nth l i).drp.place/\(nth l i).drp.place<np
 one: ¬((nth l i).pick.place= -1/\(nth l i).drp.place= -1)
 pstp:stpOk (nth l i).pick=true
 dstp:stpOk (nth l i).drp=true
 skills:0<=(nth l i).skills/\(nth l i).skills<=1073741823
 arg:argOk (nth l i) ty=true
theorem nD {b:Bool} {e:Int} :WO b e= []↔b=true:=by grind [WO]
theorem HM {np:Nat} {d ty:Int} {l:List Ord} {i:Nat} :YW np d ty l i= []↔OrdOk np d ty l i:=by
 simp only [YW,Uq,nD,Zs,Zp,rng,JQ]
 constructor
 ·rintro ⟨⟨⟨⟨⟨⟨⟨a1,a2⟩,a3⟩,a4⟩,a5⟩,a6⟩,a7⟩,a8⟩;exact ⟨a1,a2,a3,Za,Za,a5,a6.1,a6.2,a7,a8⟩
 ·intro h;obtain ⟨b1,b2⟩:=h.pick;obtain ⟨b3,b4⟩:=h.drp;exact ⟨⟨⟨⟨⟨⟨⟨h.name,h.twin⟩,h.load⟩,Za,Za⟩,h.one⟩,h.pstp,h.dstp⟩,h.skills⟩,h.arg⟩
def ordersOk (np:Nat) (d ty:Int) (l:List Ord):Prop:=l.length<=10/\ ∀i,i<l.length->OrdOk np d ty l i
theorem CU {np:Nat} {d ty:Int} {l:List Ord} :XK np d ty l l.length= []↔ordersOk np d ty l:=by
 simp_all [XK,HM,ordersOk]
theorem Nn {np:Nat} {d ty:Int} {l:List Ord} (hl:l.length<=1048576): ∀f∈XK np d ty l l.length,pF 20 f:=by
 intro f hf;simp only [XK,Z5,XS,ZO,Xj] at hf;rcases hf with hf | ⟨i,hi,e,he,rfl⟩
 ·grind [pF]
 ·exact Qq i Za
theorem NA (n:Int) (h0:0<=n) (hn:n<=4611686018427387904):PC 103 [.p (.int .i64 n)] (.str (dec n.toNat)):=by
 refine Zc Tryz.func103 rfl tC ?_;simp (disch:=omega) only [Tryz.f103,go_sem,seval];refine Zn [] (fun q:Int×List UInt8=> [(0,.p (.int .i64 q.1)),(3,.p (.str q.2))]) (fun _=> []) (fun q=>0<=q.1/\q.1<=n/\dec q.1.toNat++q.2=dec n.toNat) (fun q=>q.1.toNat) (n,[]) (by simp [h0]) (Weak.mk ?_) ?_
 ·simp (disch:=omega) only [go_sem,seval]
 ·rintro ⟨m,s⟩ ⟨hm,hmn,hs⟩;simp only at hm hmn hs;have hl:=Oq _ n.toNat (Nat.lt_succ_self _)
  have hl2:(dec m.toNat).length+s.length=(dec n.toNat).length:=by grind
  simp (disch:=first | omega | (simp only [ZL,ZY,Zy,ZB,Xy,XR]<;>omega)) only [go_sem,seval];refine cD ?_ ?_<;>intro h<;>simp (disch:=omega) only [Sh.out h,go_sem,seval,↓reduceIte]
  ·simp (disch:=first | omega | (simp only [ZL,ZY,Zy,ZB,Xy,XR]<;>omega)) only [go_sem,seval]
   have h2: ¬m.toNat<10:=Za
   have e1:(48+m%10).toNat=48+m.toNat%10:=Za
   have e2:(m / 10).toNat=m.toNat / 10:=Za
   refine ⟨(m / 10,UInt8.ofNat (48+m%10).toNat::s),⟨Za,Za,?_⟩,Za,Weak.mk ?_⟩
   ·simp only [e1,e2];rw [<- hs,dec.eq_def m.toNat,dif_neg h2];simp
   ·simp (disch:=omega) only [go_sem,seval]
  ·simp (disch:=first | omega | (simp only [ZL,ZY,Zy,ZB,Xy,XR]<;>omega)) only [go_sem,seval]
   have h2:m.toNat<10:=Za
   have e1:(48+m).toNat=48+m.toNat:=Za
   rw [<- hs,dec.eq_def m.toNat,dif_pos h2,e1]
   rfl
def R5 (n:Int) (p:Int×Int):Bool:=decide (0<=p.1/\p.1<n)&&decide (0<=p.2/\p.2<n)&&decide (¬p.1=p.2)
def atW (word:List UInt8) (i:Nat):List UInt8:=word++ [32]++dec i
def Oz (n:Int) (word:List UInt8) (sm:Int×Int->Int×Int->Bool) (l:List (Int×Int)) (i:Nat):List (Int×List UInt8) :=
 if R5 n (nth l i)=false then [(2,atW word i)] else if (l.take i).any (sm (nth l i)) then [(6,atW word i)] else []
def Mo (word:List UInt8) (l:List (Int×Int)):List (Int×List UInt8):=if 16<l.length then [(4,word)] else []
def Qs (n:Int) (word:List UInt8) (sm:Int×Int->Int×Int->Bool) (l:List (Int×Int)) (k:Nat):List (Int×List UInt8):=Mo word l++(List.range k).flatMap (Oz n word sm l)
theorem FV (n word sm l k):Qs n word sm l (k+1)=Qs n word sm l k++Oz n word sm l k:=by grind [Qs,Yq]
theorem FW (n word sm l):Qs n word sm l 0=Mo word l:=by simp [Qs]
theorem kT (n word sm l i):(Oz n word sm l i).length<=1:=by grind [Oz]
theorem AP (n word sm l): ∀k,(Qs n word sm l k).length<=k+1:=by
 intro k
 induction k with
 | zero=>grind [FW,Mo]
 | succ k ih=>grind [FV,kT]
def chk (n:Int) (ap be:List (Int×Int)):List (Int×List UInt8) :=
 Qs n [97,112,97,114,116] (fun p q=>decide (p=q\/(p.1=q.2/\p.2=q.1))) ap ap.length++Qs n [98,101,102,111,114,101] (fun p q=>decide (p=q)) be be.length
def Dy (turned:Bool) (p q:Int×Int):Bool:=decide (q.1=p.1/\q.2=p.2)||(turned&&decide (q.1=p.2/\q.2=p.1))
theorem fI : Dy true=fun p q=>decide (p=q\/(p.1=q.2/\p.2=q.1)):=by
 funext p q
 simp only [Dy,VN,xV]
 grind
theorem SC : Dy false=fun p q=>decide (p=q):=by
 funext p q
 simp only [Dy,Dk,Bool.or_false]
 grind
def tw (turned:Bool) (l:List (Int×Int)) (p:Int×Int) (j:Nat):Bool:=(l.take j).any (Dy turned p)
theorem nT (turned l p):tw turned l p 0=false:=by simp [tw]
theorem nS (turned:Bool) (l:List (Int×Int)) (p:Int×Int) (j:Nat) (h:j<l.length):tw turned l p (j+1)=(tw turned l p j||Dy turned p (nth l j)):=by
 rw [tw,tw,Yu h,List.any_append,Zg h];simp
theorem IY (n:Int) (word:List UInt8) (l:List (Int×Int)) (c:Bool) (turned:Bool) (hw:word.length<=1000) (hl:l.length<=1048576) :
  ACalls Tryz.prog 76 [.p (.int .i64 n),.p (.list c (l.map eP)),.p (.str word),.p (.bool turned)] [] fun x H'=>x= .sl 0 0 (Qs n word (Dy turned) l l.length).length (Qs n word (Dy turned) l l.length).length/\H'= [.elems 2 ((Qs n word (Dy turned) l l.length).map eF)]:=by
 refine Fg [2] (fn:=Tryz.f76) Zb Tryz.func76 rfl ZeX ?_;simp (disch:=omega) only [Tryz.f76,go_sem,seval];refine Zr (Weak.ofNil 9 2 (by simp (disch:=omega) only [go_sem,seval]) Zb (Weak.refl _ _ _)) (Zd ?_);refine ZD [0,1,2,3] (fun _:Unit=> [(9,.sl 0 0 (Mo word l).length (Mo word l).length)]) (fun _=> [.elems 2 ((Mo word l).map eF)]) (fun _=>True) ?_ ?_
 ·refine Zd ?_;refine cD ?_ ?_<;>intro h<;>simp (disch:=omega) only [Sh.out h,go_sem,seval,↓reduceIte]
  ·refine ⟨(),Weak.mk ?_⟩
   have h2:16<l.length:=Za
   simp (disch:=omega) only [Mo,h2,go_sem,seval,↓reduceIte]
  ·refine ⟨(),Weak.mk ?_⟩
   have h2: ¬ 16<l.length:=Za
   simp (disch:=omega) only [Mo,h2,go_sem,seval,↓reduceIte]
 ·intro _ _;refine Zf [] _ _ _ _ (Zd ?_);refine Zn [0,1,2,3] (fun k:Nat=> [(9,.sl 0 0 (Qs n word (Dy turned) l k).length (Qs n word (Dy turned) l k).length),(10,.p (.int .i64 k))]) (fun k=> [.elems 2 ((Qs n word (Dy turned) l k).map eF)]) (fun k=>k<=l.length) (fun k=>l.length-k) 0 Zb (Weak.mk ?_) ?_
  ·simp (disch:=omega) only [FW,go_sem,seval,↓reduceIte]
  ·intro k hk;have hfl:=AP n word (Dy turned) l k;have hdl:=Oq _ k (Nat.lt_succ_self _);refine Zd ?_;refine cD ?_ ?_<;>intro h<;>simp (disch:=omega) only [Sh.out h,go_sem,seval,↓reduceIte]
   ·have hk2:k<l.length:=Za
    simp (disch:=first | omega | (simp only [ZL,ZY,Zy,ZB,Xy,XR]<;>omega)) only [go_sem,seval];refine (NA (k:Int) Za Za).use ?_;simp (disch:=first | omega | (simp only [ZL,ZY,Zy,ZB,Xy,XR]<;>omega)) only [go_sem,seval];have hs:=FV n word (Dy turned) l k
    have hbad:R5 n (nth l k)=false->Oz n word (Dy turned) l k= [(2,word++ [32]++dec k)]:=fun e=>by simp [Oz,e,atW]
    repeat' (first | (refine Vs (fun hq=> ?_) (fun hq=> ?_)<;>(try simp only [Zp,XQ,XD] at hq)<;>simp (disch:=omega) only [Sh.out hq,go_sem,seval]) | (refine gF ?_ ?_<;>intro hq<;>simp (disch:=omega) only [Sh.out hq,go_sem,seval,↓reduceIte]) | (refine cD ?_ ?_<;>intro hq<;>simp (disch:=omega) only [Sh.out hq,go_sem,seval,↓reduceIte]))
    all_goals try (
     have e:=hbad (by simp [R5];omega)
     exact ⟨k+1,Za,Za,Weak.mk (by simp (disch:=omega) only [hs,e,go_sem,seval])⟩)
    have hok:R5 n (nth l k)=true:=by simp [R5];omega
    refine Zn [0,1,2,3,9,10,11,12,13] (fun j:Nat=> [(14,.p (.bool (tw turned l (nth l k) j))),(15,.p (.int .i64 j))]) (fun _=> [.elems 2 ((Qs n word (Dy turned) l k).map eF)]) (fun j=>j<=k) (fun j=>k-j) 0 Zb (Weak.mk ?_) ?_
    ·simp (disch:=omega) only [nT,go_sem,seval,↓reduceIte]
    ·intro j hj;refine Zd ?_;refine cD ?_ ?_<;>intro h4<;>simp (disch:=omega) only [Sh.out h4,go_sem,seval,↓reduceIte]
     ·have hts:=nS turned l (nth l k) j Za;generalize tw turned l (nth l k) j=q at hts ⊢
      repeat' (first | (refine gT ?_ ?_<;>intro hq<;>simp (disch:=omega) only [Sh.out hq,go_sem,seval,↓reduceIte]) | (refine gF ?_ ?_<;>intro hq<;>simp (disch:=omega) only [Sh.out hq,go_sem,seval,↓reduceIte]) | (refine QK (fun hq=> ?_) (fun hq=> ?_)<;>(try simp only [Zp,XQ,XD] at hq)<;>simp (disch:=omega) only [Sh.out hq,go_sem,seval]))
      all_goals refine ⟨j+1,Za,Za,Weak.mk ?_⟩
      all_goals clear hs hbad hfl hdl
      all_goals simp (disch:=omega) only [hts,go_sem,seval]
      all_goals simp [Dy, *]
      all_goals first | omega | (simp [Dy, *] at hts;exact hts)
     ·have hjk:j=k:=Za
      subst hjk;refine cD ?_ ?_<;>intro h5<;>simp (disch:=omega) only [Sh.out h5,go_sem,seval,↓reduceIte]
      ·have e:Oz n word (Dy turned) l j= [(6,word++ [32]++dec j)]:=by
        have h6:(l.take j).any (Dy turned (nth l j))=true:=h5
        grind [Oz,atW]
       exact ⟨j+1,Za,Za,Weak.mk (by simp (disch:=omega) only [hs,e,go_sem,seval])⟩
      ·have e:Oz n word (Dy turned) l j= []:=by
        have h6:(l.take j).any (Dy turned (nth l j))=false:=h5
        simp_all [Oz]
       exact ⟨j+1,Za,Za,Weak.mk (by simp (disch:=omega) only [hs,e,go_sem,seval])⟩
   ·have:k=l.length:=Za
    subst this;exact ⟨0,by simp (disch:=omega) only [go_sem,seval]⟩
theorem eE (n:Int) (ap be:List (Int×Int)) (c c':Bool) (hl:ap.length<=1048576) (hl2:be.length<=1048576) :
  ACalls Tryz.prog 42 [.p (.int .i64 n),.p (.list c (ap.map eP)),.p (.list c' (be.map eP))] [] fun x H'=>x= .sl 0 0 (chk n ap be).length (chk n ap be).length/\H'= [.elems 2 ((chk n ap be).map eF)]:=by
 refine VX (fn:=Tryz.f42) Zb Tryz.func42 rfl ZeA ?_;simp (disch:=omega) only [Tryz.f42,go_sem,seval];have h1:=AP n [97,112,97,114,116] (Dy true) ap ap.length;have h2:=AP n [98,101,102,111,114,101] (Dy false) be be.length;refine (IY n _ ap c true (by decide) hl).useF (Zd ?_);refine (IY n _ be c' false (by decide) hl2).useF (Zd ?_);refine ⟨0,?_⟩;rw [chk,<- fI,<- SC];simp (disch:=omega) only [go_sem,seval]
@[go_sem] theorem ZaD {H:List AM.Obj} {β:Type} {S b o n:Nat} {xs:List PV} {g:β->PV} {m:List β} (hb:(n+m.length)*b<=140737488355328) (hb2:n+m.length<=140737488355328) :
  VH H (some (S,b)) (.elems S xs) o n (some (m.map g))=if xs.length=n/\Ks S (m.map g)=true then some (.sl o 0 (n+m.length) (n+m.length),ED H o (.elems S (xs++m.map g))) else none:=by
 simp_all [Tj]
def und (word:List UInt8) (f:Flt):Flt:=(f.1,if f.2= [] then word else word++ [32]++f.2)
theorem KI (word:List UInt8) (l:List Flt) (c:Bool) (hword:word.length<=100) (hl:l.length<=4194306000000) (hp: ∀f∈l,pF 100 f) :
  ACalls Tryz.prog 37 [.p (.str word),.p (.list c (l.map eF))] [] fun x H'=>x= .sl 0 0 (l.map (und word)).length (l.map (und word)).length/\H'= [.elems 2 ((l.map (und word)).map eF)]:=by
 suffices hh:ACalls Tryz.prog 37 [.p (.str word),.p (.list c (l.map eF))] [] fun x H'=> ∃m:List Flt,m=l.map (und word)/\x= .sl 0 0 m.length m.length/\H'= [.elems 2 (m.map eF)] by
  grind
 refine ZM [2] Tryz.func37 rfl Zev ?_;simp (disch:=omega) only [Tryz.f37,go_sem,seval];refine Zr (Weak.ofNil 5 2 (by simp (disch:=omega) only [go_sem,seval]) Zb (Weak.refl _ _ _)) ?_;refine Zf [] _ _ _ _ (Zd ?_);refine Zn [0,1] (fun q:Nat×List Flt=> [(5,.sl 0 0 q.2.length q.2.length),(6,.p (.int .i64 q.1))]) (fun q=> [.elems 2 (q.2.map eF)]) (fun q=>q.1<=l.length/\q.2=(l.take q.1).map (und word)) (fun q=>l.length-q.1) (0,[]) ⟨Zb,Zb⟩ (Weak.mk ?_) ?_
 ·simp (disch:=omega) only [go_sem,seval,↓reduceIte]
 ·rintro ⟨k,m⟩ ⟨hk,hm⟩;simp only at hk hm
  have hml:m.length<=k:=by grind
  refine Zd ?_;refine cD ?_ ?_<;>intro h<;>simp (disch:=omega) only [Sh.out h,go_sem,seval,↓reduceIte]
  ·have hk2:k<l.length:=Za
   have hpk:=hp _ (Zz hk2);unfold pF at hpk
   have hnext: ∀f,f=und word (nth l k)->m++ [f]=(l.take (k+1)).map (und word):=fun f hf=>by
    grind [Yu,Zg]
   refine cD ?_ ?_<;>intro h2<;>simp (disch:=omega) only [Sh.out h2,go_sem,seval,↓reduceIte]
   ·have h3: ¬(nth l k).2= []:=Za
    simp (disch:=first | omega | (simp only [ZL,ZY,Zy,ZB,Xy,XR]<;>omega)) only [go_sem,seval,↓reduceIte];refine ⟨(k+1,m++ [((nth l k).1,word++ [32]++(nth l k).2)]),⟨Za,hnext _ (by simp [und,h3])⟩,Za,Weak.mk (by simp (disch:=first | omega | (simp only [ZL,ZY,Zy,ZB,Xy,XR]<;>omega)) only [go_sem,seval])⟩
   ·have h3:(nth l k).2= []:=by grind
    refine ⟨(k+1,m++ [((nth l k).1,word)]),⟨Za,hnext _ (by simp [und,h3])⟩,Za,Weak.mk (by simp (disch:=first | omega | (simp only [ZL,ZY,Zy,ZB,Xy,XR]<;>omega)) only [go_sem,seval])⟩
  ·have hkn:k=l.length:=Za
   subst hkn;exact ⟨m,by grind,0,by simp (disch:=omega) only [go_sem,seval]⟩
theorem sD {n:Int} {ap be:List (Int×Int)} (ha:ap.length<=1048576) (hb:be.length<=1048576): ∀f∈chk n ap be,pF 100 f:=by
 have key: ∀(word:List UInt8) (sm:Int×Int->Int×Int->Bool) (l:List (Int×Int)),word.length<=6->l.length<=1048576-> ∀f∈Qs n word sm l l.length,pF 100 f:=fun word sm l hw hl f hf=>by
  simp only [Qs,Z5,XS,ZO] at hf;rcases hf with hf | ⟨i,hi,hf⟩
  ·grind [Mo,pF]
  ·have hd:=Ab 6 i Za
   grind [pF,atW,Oz]
 intro f hf;rcases Z5.1 hf with hf | hf
 ·grind
 grind
theorem jR {n:Int} {ap be:List (Int×Int)} :(chk n ap be).length<=ap.length+be.length+2:=by
 grind [AP,chk]
structure InstOk (x:Inst):Prop where
 net:netOk x.net
 types:typesOk x.net x.types
 orders:ordersOk x.net.places.length (dimsOf x.types) x.types.length x.orders
 rules:chk x.orders.length x.apart x.before= []
theorem FR.und {p:Flt->Prop} {C:Prop} {b:Nat} {l:List Flt} (h:FR p C b l) (word:List UInt8):FR (fun _=>True) C b (l.map (und word)) :=
 ⟨by simpa using h.len,by rw [List.map_eq_nil_iff];exact h.emp,fun _ _=>trivial⟩
theorem TN (x:Inst) (hw:x.wf 1048576):ACalls Tryz.prog 13 [.p (ZW x)] [] fun y H'=> ∃m:List Flt,FR (fun _=>True) (InstOk x) 4194400000000 m/\y= .sl 0 0 m.length m.length/\H'= [.elems 2 (m.map eF)]:=by
 obtain ⟨w1,w2,w3,w4,w5,w6,w7,w8,w9⟩:=hw;refine ZM [] Tryz.func13 rfl Zej ?_;simp (disch:=omega) only [Tryz.f13,go_sem,seval];have ol:=UR x.net.places.length (dimsOf x.types) x.types.length x.orders x.orders.length;have oat:=Nn (np:=x.net.places.length) (d:=dimsOf x.types) (ty:=x.types.length) w4;have onil:=CU (np:=x.net.places.length) (d:=dimsOf x.types) (ty:=x.types.length) (l:=x.orders);have cl:=jR (n:=x.orders.length) (ap:=x.apart) (be:=x.before);have cat:=sD (n:=x.orders.length) w6 w8;refine ((sF x.net w1).frozenE).useV fun m1 h1=> ?_
 refine Zd ?_;have h1p:=h1.pmono (q:=pF 100) fun f hf=>hf.mono Za;have u1:=KI [110,101,116] m1 false Zb h1.len h1p.all;have f1:=h1.und [110,101,116];generalize m1.map (und [110,101,116])=q1 at u1 f1;have f1l:=f1.len;refine (u1).useF (Zd ?_);refine ((sG x.net x.types x.types_c w1 w2 w3).frozenE).useV fun m2 h2=>Zd ?_;have h2p:=h2.pmono (q:=pF 100) fun f hf=>hf.mono Za;have h2l:=h2.len;have u2:=(KI [116,121,112,101,115] m2 false Zb Za h2p.all).frozen Zb;have f2:=h2.und [116,121,112,101,115]
 generalize m2.map (und [116,121,112,101,115])=q2 at u2 f2;have f2l:=f2.len;refine (u2).use (Zd ?_);have u3:=(KI [111,114,100,101,114,115] (XK x.net.places.length (dimsOf x.types) x.types.length x.orders x.orders.length) false Zb Za fun f hf=>(oat f hf).mono Za).frozen Zb;have f3:=(show FR (fun _=>True) (ordersOk x.net.places.length (dimsOf x.types) x.types.length x.orders) (1+8*x.orders.length) (XK x.net.places.length (dimsOf x.types) x.types.length x.orders x.orders.length) from ⟨ol,onil,fun _ _=>trivial⟩).und [111,114,100,101,114,115]
 generalize (XK x.net.places.length (dimsOf x.types) x.types.length x.orders x.orders.length).map (und [111,114,100,101,114,115])=q3 at u3 f3;have f3l:=f3.len;refine ZK 13 mixed Ze Ze (Zd ?_);refine Zo (IP x.types x.types_c w2) (Zd ?_);refine Zo ((sH x.net (dimsOf x.types) x.types.length x.orders x.orders_c w1 w4 w5).frozen Zb) (Zd ?_);refine Zo (u3) (Zd ?_);have u4:=(KI [114,117,108,101,115] (chk x.orders.length x.apart x.before) false Zb Za cat).frozen Zb
 have f4:=(show FR (fun _=>True) (chk x.orders.length x.apart x.before= []) (x.apart.length+x.before.length+2) (chk x.orders.length x.apart x.before) from ⟨cl,Iff.rfl,fun _ _=>trivial⟩).und [114,117,108,101,115];generalize (chk x.orders.length x.apart x.before).map (und [114,117,108,101,115])=q4 at u4 f4;have f4l:=f4.len;refine ((eE x.orders.length x.apart x.before x.apart_c x.before_c w6 w8).frozen Zb).use (Zd ?_);refine (u4).use (Zd ?_);refine ⟨q1++q2++q3++q4,((f1.app f2).app f3 |>.app f4).to Za ⟨fun ⟨⟨⟨a,b⟩,c⟩,d⟩=>⟨a,b,c,d⟩,fun h=>⟨⟨⟨h.net,h.types⟩,h.orders⟩,h.rules⟩⟩,1,?_⟩
 simp (disch:=omega) only [go_sem,seval]
def Zh (x:Inst):AM.Obj:= .cells [.p (.list x.net.places_c (x.net.places.map eS)),.p (.list x.net.arcs_c (x.net.arcs.map Um)),.p (.list x.types_c (x.types.map XY)),.p (.list x.orders_c (x.orders.map Yc)),.p (.list x.apart_c (x.apart.map eP)),.p (.list x.before_c (x.before.map eP))]
def zSco : Sco:=⟨0,0,0,0⟩
theorem iE (a:Int):IntKind.i64.wrap ((BitVec.ofInt 64 a&&&BitVec.ofInt 64 1).toNat:Int)=a%2:=by
 grind [BitVec.toNat_ofInt,IntWalk.i64_in]
def sHas (s i:Int):Bool:=decide (0<=i)&&decide (i<=62)&&decide (s.fdiv (2^i.toNat)%2=1)
theorem CQ (s i:Int):PC 140 [.p (.int .i64 s),.p (.int .i64 i)] (.bool (sHas s i)):=by
 refine Zc Tryz.func140 rfl tV ?_;simp (disch:=omega) only [Tryz.f140,go_sem,seval];refine gT ?_ ?_<;>intro h<;>simp (disch:=omega) only [Sh.out h,go_sem,seval,↓reduceIte]
 ·refine gT ?_ ?_<;>intro h1<;>simp (disch:=omega) only [Sh.out h1,go_sem,seval,↓reduceIte]
  ·have:min i.toNat 64=i.toNat:=Za
   rw [this]
   erw [iE]
   simp [sHas,h,h1]
  grind [sHas]
 ·simp [sHas,h]
def XJ (s:Int) (k:Nat):List Int:=((List.range k).filter fun (i:Nat)=>sHas s (i:Int)).map fun (i:Nat)=>(i:Int)
theorem RT (s:Int):XJ s 0= []:=by simp [XJ]
theorem Lp {s:Int} {k:Nat} (h:sHas s (k:Int)=true):XJ s (k+1)=XJ s k++ [(k:Int)]:=by grind [XJ,Yq]
theorem OW {s:Int} {k:Nat} (h:sHas s (k:Int)=false):XJ s (k+1)=XJ s k:=by grind [XJ,Yq]
theorem Bg (s:Int) (k:Nat):(XJ s k).length<=k:=by
 grind [XJ]
theorem Cf (s:Int):ACalls Tryz.prog 131 [.p (.int .i64 s)] [] fun x H'=>x= .sl 0 0 (XJ s 63).length (XJ s 63).length/\H'= [.elems 1 ((XJ s 63).map eI)]:=by
 refine VX (fn:=Tryz.f131) Zb Tryz.func131 rfl tO ?_;simp (disch:=omega) only [Tryz.f131,go_sem,seval];refine Zn [0] (fun k:Nat=> [(3,.sl 0 0 (XJ s k).length (XJ s k).length),(5,.p (.int .i64 k))]) (fun k=> [.elems 1 ((XJ s k).map eI)]) (fun k=>k<=63) (fun k=>63-k) 0 Zb (Weak.ofNil 3 1 (by simp (disch:=omega) only [go_sem,seval]) Zb (Weak.mk ?_)) ?_
 ·simp (disch:=omega) only [RT,go_sem,seval,↓reduceIte]
 ·intro k hk;have hl:=Bg s k;refine Zd ?_;refine cD ?_ ?_<;>intro h<;>simp (disch:=omega) only [Sh.out h,go_sem,seval,↓reduceIte]
  ·refine (CQ s k).use (Zd ?_);refine cD ?_ ?_<;>intro h2<;>simp (disch:=omega) only [Sh.out h2,go_sem,seval,↓reduceIte]
   ·refine ⟨k+1,Za,Za,Weak.mk ?_⟩;simp (disch:=omega) only [Lp h2,go_sem,seval]
   ·exact ⟨k+1,Za,Za,Weak.mk (by simp (disch:=omega) only [OW h2,go_sem,seval])⟩
  ·have:k=63:=Za
   subst this;exact ⟨0,by simp (disch:=omega) only [go_sem,seval]⟩
def eN (n:Nat):PV:= .int .i64 (n:Int)
@[go_sem] theorem Zlp (n:Nat):eN n= .int .i64 (n:Int):=Zi rfl rfl
theorem TF (n:Nat) (be:List (Int×Int)) (c:Bool) (hn:n<=60) (hl:be.length<=1048576) (hv:Val n be) :
  ACalls Tryz.prog 162 [.p (.int .i64 (n:Int)),.p (.list c (be.map eP))] [] fun x H'=>x= .sl 0 0 n n/\H'= [.elems 1 ((Jn n be).map eN)]:=by
 refine VX (fn:=Tryz.f162) (by simpa using (DV hv).len) Tryz.func162 rfl uA ?_;simp (disch:=omega) only [Tryz.f162,go_sem,seval];have hp60:pw n<=pw 62:=Gq Za;have h62:=Pd;refine Zn [0,1] (fun q:List Nat×Bool=> [(5,.sl 0 0 n n),(6,.p (.bool q.2))]) (fun q=> [.elems 1 (q.1.map eN)]) (fun q=>Snd n be q.1/\(q.2=false->tot (Dv q.1 be)=tot q.1)) (fun q=>2*(n*pw n-tot q.1)+(if q.2 then 1 else 0)) (List.replicate n 0,true) ⟨Snd.zero n be,Zb⟩ (Weak.mk ?_) ?_
 ·simp (disch:=omega) only [A7,go_sem,seval,↓reduceIte]
 ·rintro ⟨out,more⟩ ⟨hs,hm⟩;simp only at hs hm;refine Zd ?_;refine cD ?_ ?_<;>intro h<;>simp (disch:=omega) only [Sh.out h,go_sem,seval,↓reduceIte]
  ·have hrs: ∀i,Snd n be (Dv out (be.take i)):=fun i=>hs.rnd hv _ fun p hp=>Q8 hp
   have hsuc: ∀i,i<be.length->Dv out (be.take (i+1))=C0 (Dv out (be.take i)) (nth be i):=fun i hi=>by
    rw [Yu hi,Np,<- Zg hi];rfl
   refine Zn [0,1,16,17] (fun i:Nat=> [(5,.sl 0 0 n n),(6,.p (.bool (decide (tot out<tot (Dv out (be.take i)))))),(18,.p (.int .i64 i))]) (fun i=> [.elems 1 ((Dv out (be.take i)).map eN)]) (fun i=>i<=be.length) (fun i=>be.length-i) 0 Zb (Weak.mk ?_) ?_
   ·simp (disch:=omega) only [Dv,Q3,Bd,go_sem,seval];simp
   ·intro i hi;have hsi:=hrs i;generalize hgo:Dv out (be.take i)=o at hsi ⊢;have hlo:=hsi.len;refine Zd ?_;refine cD ?_ ?_<;>intro h2<;>simp (disch:=omega) only [Sh.out h2,go_sem,seval,↓reduceIte]
    ·have hib:i<be.length:=Za
     have hvi:=hv (nth be i) (by grind [Zg])
     have g1: ¬(nth be i).1<0:=Za
     have g2: ¬(nth be i).2<0:=Za
     have g3: ¬(n:Int)<=(nth be i).1:=Za
     have g4: ¬(n:Int)<=(nth be i).2:=Za
     have g5:(nth be i).1.toNat<n:=Za
     have g6:(nth be i).2.toNat<n:=Za
     have b1:=hsi.lt _ g5;have b2:=hsi.lt _ g6;have b3:nth o (nth be i).2.toNat|||nth o (nth be i).1.toNat<pw n:=Qa b2 b1;have b4:pw (nth be i).1.toNat<=pw 62:=Gq Za;have hst:=Oo o (nth be i) Za;have hnx:=hsuc i hib;rw [hgo] at hnx;refine DO mixed Ze ?_;simp (disch:=omega) only [hlo,g1,g2,g3,g4,go_sem,seval];refine DO mixed Ze ?_;simp (disch:=first | omega | (simp only [ZL,ZY,Zy,ZB,Xy,XR]<;>omega)) only [hlo,g5,g6,QT,go_sem,seval,↓reduceIte]
     have htm:tot out<=tot o:=by
      grind [Bu]
     have hsv:o.set (nth be i).2.toNat (nth o (nth be i).2.toNat|||nth o (nth be i).1.toNat|||pw (nth be i).1.toNat)=C0 o (nth be i):=rfl;refine cD ?_ ?_<;>intro h3<;>simp (disch:=omega) only [Sh.out h3,go_sem,seval,↓reduceIte]
     ·have hne: ¬C0 o (nth be i)=o:=fun e=>by
       apply h3
       have e2:nth (C0 o (nth be i)) (nth be i).2.toNat=nth o (nth be i).2.toNat:=by rw [e]
       rw [C0,Dp _ _ _ _ Za] at e2
       grind
      have hlt:tot out<tot (C0 o (nth be i)):=by
       grind
      simp (disch:=first | omega | (simp only [ZL,ZY,Zy,ZB,Xy,XR]<;>omega)) only [go_sem,seval,↓reduceIte];refine ⟨i+1,Za,Za,Weak.mk ?_⟩;simp (disch:=omega) only [hnx,hlt,go_sem,seval];rw [<- hsv,UN]
      rfl
     ·have heq:C0 o (nth be i)=o:=by
       have e:nth o (nth be i).2.toNat|||nth o (nth be i).1.toNat|||pw (nth be i).1.toNat=nth o (nth be i).2.toNat:=Za
       rw [<- hsv,e];apply Us Zb
       simp_all [Zg]
      refine ⟨i+1,Za,Za,Weak.mk ?_⟩;simp (disch:=omega) only [hnx,heq,go_sem,seval]
    ·have hi2:i=be.length:=Za
     subst hi2;rw [X5] at hgo;subst hgo;have hpt:=Bu hv be out (fun _ h=>h) hs;have hbd:=hsi.bound;refine ⟨(Dv out be,decide (tot out<tot (Dv out be))),⟨hsi,fun e=> ?_⟩,?_,Weak.mk ?_⟩
     ·grind
     ·grind
     ·simp (disch:=omega) only [go_sem,seval]
  ·refine ⟨0,?_⟩;have:out=Jn n be:=(TO hv (hs.clo hv (hm h))).symm;rw [this];simp (disch:=omega) only [go_sem,seval]
def hv (s k:Nat):Nat:=s / pw k
theorem sY (s k:Nat):s.testBit k=decide (hv s k%2=1):=by
 rw [Nat.testBit_eq_decide_div_mod_eq]
 rfl
theorem We (s i:Nat) (hi:i<=62):sHas (s:Int) (i:Int)=s.testBit i:=by
 rw [sY,hv]
 have h1:(0:Int)<=i:=Za
 have h2:(i:Int)<=62:=Za
 simp only [sHas,h1,h2,V4,VN,Xn]
 have e:((s:Int)).fdiv (2^i)=((s / pw i:Nat):Int):=by
  grind [pw]
 grind
theorem QM {α:Type} [Inhabited α] {l:List α} {f:α->Bool} {k:Nat} (h:k<l.length) (hf:f (nth l k)=true):l.any f=true:=by
 grind [Zg]
theorem K7 {α:Type} [Inhabited α] {l:List α} {f:α->Bool} (h: ∀j,j<l.length->f (nth l j)=false):l.any f=false:=by
 rw [WC];intro x hx;obtain ⟨j,hj,rfl⟩:=Z1.1 hx
 grind [Zg]
theorem Vp {p:Nat->Prop} {k:Nat} (h: ∀j,j<k->p j) (hk:p k): ∀j,j<k+1->p j:=fun j hj=>by
 grind
theorem Zfj {s:Int} {k:Nat} {x:Int} (h:x∈XJ s k):0<=x/\x<k:=by
 simp only [XJ,Xj,Ja,ZO] at h;omega
noncomputable def Y6 (os:List Ord) (ap be:List (Int×Int)) (s:Int):Int :=
 if s<0 then 2
 else if (XJ s 63).any (fun i=>decide ((os.length:Int)<=i)) then 2
 else if (XJ s 63).any (fun i=>(nth os i.toNat).off) then 9
 else if ap.any (fun p=>sHas s p.1&&sHas s p.2) then 20
 else if be.any (fun p=>sHas s p.2&& !sHas s p.1) then 21
 else if (XJ s 63).any (fun i=>sHas ((nth (Jn os.length be) i.toNat:Nat):Int) i) then 21
 else 0
theorem UE {P Q:Prop} (h:Q) (e:Q->P:=by intro h;simp (disch:=omega) only [Zh,go_sem,seval];exact h):P:=e h
theorem PN (net:Net) (tyc:Bool) (tys:List Typ) (c1 c2 c3:Bool) (os:List Ord) (ap be:List (Int×Int)) (s:Int) (hn:os.length<=60) (hla:ap.length<=1048576) (hl:be.length<=1048576) (hv:Val os.length be) :
  PC 130 [.p (ZW ⟨net,tyc,tys,c1,os,c2,ap,c3,be⟩),.p (.int .i64 s)] (.int .i64 (Y6 os ap be s)):=by
 have hc:=DV hv;have hlen:=hc.len;have hm:=Bg s 63;refine Zc Tryz.func130 rfl tN ?_;simp (disch:=omega) only [Tryz.f130,go_sem,seval];refine cD ?_ ?_<;>intro hs0<;>simp (disch:=omega) only [Sh.out hs0,go_sem,seval]
 ·simp [Y6,hs0]
 ·refine ((Cf s).frozen Zb).use (Zd ?_);generalize hgm:XJ s 63=m at hm ⊢
  have hnn: ∀k,k<m.length->0<=nth m k/\nth m k<63:=fun k hk=>by
   grind [XJ,Zg,Q2]
  have e0: ¬s<0:=hs0;refine Zn [1,2,5,21,22] (fun k:Nat=> [(23,.p (.int .i64 k))]) (fun _=> [Zh ⟨net,tyc,tys,c1,os,c2,ap,c3,be⟩]) (fun k=>k<=m.length/\ ∀j,j<k->decide ((os.length:Int)<=nth m j)=false) (fun k=>m.length-k) 0 Zb (Weak.mk ?_) ?_
  ·simp (disch:=omega) only [Zh,go_sem,seval]
  ·rintro k ⟨hk,hno⟩;refine UE ?_;refine cD ?_ ?_<;>intro h<;>simp (disch:=omega) only [Sh.out h,go_sem,seval,↓reduceIte]
   ·have hk2:k<m.length:=Za
    refine Xm ?_ ?_<;>intro h4
    ·grind [QM,Y6]
    ·exact ⟨k+1,⟨Za,Vp hno (by simp [h4])⟩,Za,wk⟩
   ·have hkm:k=m.length:=Za
    subst hkm;have e1:m.any (fun i=>decide ((os.length:Int)<=i))=false:=K7 hno
    have hin: ∀j,j<m.length->(nth m j).toNat<os.length:=fun j hj=>by
     grind
    clear hno hk h;refine Zn [1,2,5,33,34] (fun k:Nat=> [(35,.p (.int .i64 k))]) (fun _=> [Zh ⟨net,tyc,tys,c1,os,c2,ap,c3,be⟩]) (fun k=>k<=m.length/\ ∀j,j<k->(nth os (nth m j).toNat).off=false) (fun k=>m.length-k) 0 Zb (Weak.mk ?_) ?_
    ·simp (disch:=omega) only [Zh,go_sem,seval]
    ·rintro k ⟨hk,hno⟩;refine UE ?_;refine cD ?_ ?_<;>intro h<;>simp (disch:=omega) only [Sh.out h,go_sem,seval,↓reduceIte]
     ·have hk2:k<m.length:=Za
      have g1:=hin k hk2;have g2:=hnn k hk2;refine Zd ?_;refine Xm ?_ ?_<;>intro h4
      ·grind [QM,Y6]
      ·exact ⟨k+1,⟨Za,Vp hno h4⟩,Za,wk⟩
     ·have hkm:k=m.length:=Za
      subst hkm;have e2:m.any (fun i=>(nth os i.toNat).off)=false:=K7 hno;clear hno hk h;refine Zn [1,2,5,47,48] (fun k:Nat=> [(49,.p (.int .i64 k))]) (fun _=> [Zh ⟨net,tyc,tys,c1,os,c2,ap,c3,be⟩]) (fun k=>k<=ap.length/\ ∀j,j<k->(sHas s (nth ap j).1&&sHas s (nth ap j).2)=false) (fun k=>ap.length-k) 0 Zb (Weak.mk ?_) ?_
      ·simp (disch:=omega) only [Zh,go_sem,seval]
      ·rintro k ⟨hk,hno⟩;refine UE ?_;refine cD ?_ ?_<;>intro h<;>simp (disch:=omega) only [Sh.out h,go_sem,seval,↓reduceIte]
       ·have hk2:k<ap.length:=Za
        refine (CQ s (nth ap k).1).use (Zd ?_);refine TV ?_ ?_<;>intro h5
        ·refine (CQ s (nth ap k).2).use (Zd ?_);refine Xm ?_ ?_<;>intro h6
         ·grind [QM,Y6]
         ·exact ⟨k+1,⟨Za,Vp hno (by simp [h5,h6])⟩,Za,wk⟩
        ·exact ⟨k+1,⟨Za,Vp hno (by simp [h5])⟩,Za,wk⟩
       ·have hkm:k=ap.length:=Za
        subst hkm;have e3:ap.any (fun p=>sHas s p.1&&sHas s p.2)=false:=K7 hno;clear hno hk h;refine Zn [1,2,5,65,66] (fun k:Nat=> [(67,.p (.int .i64 k))]) (fun _=> [Zh ⟨net,tyc,tys,c1,os,c2,ap,c3,be⟩]) (fun k=>k<=be.length/\ ∀j,j<k->(sHas s (nth be j).2&& !sHas s (nth be j).1)=false) (fun k=>be.length-k) 0 Zb (Weak.mk ?_) ?_
        ·simp (disch:=omega) only [Zh,go_sem,seval]
        ·rintro k ⟨hk,hno⟩;refine UE ?_;refine cD ?_ ?_<;>intro h<;>simp (disch:=omega) only [Sh.out h,go_sem,seval,↓reduceIte]
         ·have hk2:k<be.length:=Za
          refine (CQ s (nth be k).2).use (Zd ?_);refine TV ?_ ?_<;>intro h5
          ·refine (CQ s (nth be k).1).use (Zd ?_);refine Xm ?_ ?_<;>intro h6
           ·grind [QM,Y6]
           ·exact ⟨k+1,⟨Za,Vp hno (by simp [h5,h6])⟩,Za,wk⟩
          ·exact ⟨k+1,⟨Za,Vp hno (by simp [h5])⟩,Za,wk⟩
         ·have hkm:k=be.length:=Za
          subst hkm;have e4:be.any (fun p=>sHas s p.2&& !sHas s p.1)=false:=K7 hno;clear hno hk h;refine ((TF os.length be c3 hn hl hv).frozen (by grind)).use (Zd ?_);refine Zn [5,14,89,90] (fun k:Nat=> [(91,.p (.int .i64 k))]) (fun _=> [Zh ⟨net,tyc,tys,c1,os,c2,ap,c3,be⟩]) (fun k=>k<=m.length/\ ∀j,j<k->sHas ((nth (Jn os.length be) (nth m j).toNat:Nat):Int) (nth m j)=false) (fun k=>m.length-k) 0 Zb (Weak.mk ?_) ?_
          ·simp (disch:=omega) only [Zh,go_sem,seval]
          ·rintro k ⟨hk,hno⟩;refine UE ?_;refine cD ?_ ?_<;>intro h<;>simp (disch:=omega) only [Sh.out h,go_sem,seval,↓reduceIte]
           ·have hk2:k<m.length:=Za
            have g1:=hin k hk2;have g2:=hnn k hk2;refine Zd ?_;refine (CQ ((nth (Jn os.length be) (nth m k).toNat:Nat):Int) (nth m k)).use (Zd ?_);refine Xm ?_ ?_<;>intro h6
            ·grind [QM,Y6]
            ·exact ⟨k+1,⟨Za,Vp hno h6⟩,Za,wk⟩
           grind [Jn,K7,Y6]
deriving instance DecidableEq for Vis
theorem NR {v w:Vis} :v=w↔v.order=w.order/\v.drp=w.drp:=by cases v;cases w;simp
def Hl (f:Vis->Bool) (l:List Vis):Int:=match l.findIdx? f with | some i=>(i:Int) | none=> -1
def vIx (l:List Vis) (v:Vis):Int:=Hl (fun w=>decide (v=w)) l
theorem MY {f:Vis->Bool} {l:List Vis} {k:Nat} (hk:k<l.length) (h:f (nth l k)=true) (hno: ∀j,j<k->f (nth l j)=false):Hl f l=(k:Int):=by
 have:l.findIdx? f=some k:=by
  grind [Un,Zg]
 simp [Hl,this]
theorem T8 {f:Vis->Bool} {l:List Vis} (hno: ∀j,j<l.length->f (nth l j)=false):Hl f l= -1:=by
 have:l.findIdx? f=none:=by
  rw [Db];intro x hx;obtain ⟨j,hj,rfl⟩:=Z1.1 hx
  grind [Zg]
 simp [Hl,this]
theorem MZ {f:Vis->Bool} {l:List Vis} :decide (0<=Hl f l)=l.any f:=by
 grind [Hl]
theorem sQ {f:Vis->Bool} {l:List Vis} :Hl f l<l.length/\ -1<=Hl f l:=by
 grind [Hl,Un]
theorem OI (l:List Vis) (c:Bool) (v:Vis) (hl:l.length<=1048576):PC 252 [.p (.list c (l.map XB)),.p (XB v)] (.int .i64 (vIx l v)):=by
 refine Zc Tryz.func252 rfl vX ?_;simp (disch:=omega) only [Tryz.f252,go_sem,seval];refine Zn [0,3,7] (fun k:Nat=> [(8,.p (.int .i64 k))]) (fun _=> [.cells [.p (.int .i64 v.order),.p (.bool v.drp)]]) (fun k=>k<=l.length/\ ∀j,j<k->decide (v=nth l j)=false) (fun k=>l.length-k) 0 Zb (Weak.mk ?_) ?_
 ·simp (disch:=omega) only [go_sem,seval,↓reduceIte]
 ·rintro k ⟨hk,hno⟩;refine Zd ?_;refine cD ?_ ?_<;>intro h<;>simp (disch:=omega) only [Sh.out h,go_sem,seval,↓reduceIte]
  ·have hk2:k<l.length:=Za
   refine XN (Zd ?_);refine cD ?_ ?_<;>intro h2<;>simp (disch:=omega) only [Sh.out h2,go_sem,seval,↓reduceIte]
   ·grind [NR,vIx,MY]
   ·have: ¬v=nth l k:=by grind
    exact ⟨k+1,⟨Za,ZR.2 ⟨hno,by grind⟩⟩,Za,wk⟩
  grind [vIx,T8]
theorem Bv (l:List Vis) (c:Bool) (v:Vis) (hl:l.length<=1048576):PC 218 [.p (.list c (l.map XB)),.p (XB v)] (.int .i64 (vIx l v)):=by
 refine Zc Tryz.func218 rfl vA ?_;simp (disch:=omega) only [Tryz.f218,go_sem,seval];refine (OI l c v hl).use ?_;simp (disch:=omega) only [go_sem,seval]
theorem Hf (l:List Vis) (c:Bool) (v:Vis) (hl:l.length<=1048576):PC 259 [.p (.list c (l.map XB)),.p (XB v)] (.bool (decide (0<=vIx l v))):=by
 refine Zc Tryz.func259 rfl wB ?_;simp (disch:=omega) only [Tryz.f259,go_sem,seval];refine (OI l c v hl).use ?_;simp (disch:=omega) only [go_sem,seval]
theorem nR (l:List Ord) (c:Bool) (n:Int) (hl:l.length<=1048576):PC 163 [.p (.list c (l.map Yc)),.p (.int .i64 n)] (.bool (decide (0<=n/\n<l.length))):=by
 refine Zc Tryz.func163 rfl bI ?_;simp (disch:=omega) only [Tryz.f163,go_sem,seval];refine gT ?_ ?_<;>intro h<;>simp (disch:=omega) only [Sh.out h,go_sem,seval,↓reduceIte]
 all_goals (try simp [h])
def Z2 (l:List Ord) (i:Nat):List Vis:=(if 0<=(nth l i).pick.place then [⟨i,false⟩] else [])++(if 0<=(nth l i).drp.place then [⟨i,true⟩] else [])
theorem VF (l:List Ord) (i:Nat):(Z2 l i).length<=2:=by grind [Z2]
theorem Yt {l:List Ord} {i:Nat} {v:Vis} (h:v∈Z2 l i):v.order=i:=by
 grind [Z2]
theorem NS (l:List Ord) (c:Bool) (i:Nat) (hi:i<l.length) (hl:l.length<=1048576):ACalls Tryz.prog 132 [.p (.list c (l.map Yc)),.p (.int .i64 (i:Nat))] [] fun x H'=>x= .sl 0 0 (Z2 l i).length (Z2 l i).length/\H'= [.elems 2 ((Z2 l i).map XB)]:=by
 suffices hh:ACalls Tryz.prog 132 [.p (.list c (l.map Yc)),.p (.int .i64 (i:Nat))] [] fun x H'=> ∃m:List Vis,m=Z2 l i/\x= .sl 0 0 m.length m.length/\H'= [.elems 2 (m.map XB)] by
  grind
 refine ZM [2] Tryz.func132 rfl tP ?_;simp (disch:=omega) only [Tryz.f132,go_sem,seval];refine Zr (Weak.ofNil 5 2 (by simp (disch:=omega) only [go_sem,seval]) Zb (Weak.refl _ _ _)) ?_;refine Zf [4] _ _ _ _ (Zd ?_);refine (nR l c i hl).use (Zd ?_)
 have h0:(0:Int)<=(i:Int)/\(i:Int)<(l.length:Int):=Za
 simp (disch:=omega) only [h0,go_sem,seval];refine ZD [0,1] (fun m:List Vis=> [(5,.sl 0 0 m.length m.length)]) (fun m=> [.elems 2 (m.map XB)]) (fun m=>m=(if 0<=(nth l i).pick.place then [⟨i,false⟩] else [])) ?_ ?_
 ·refine Zd ?_;refine cD ?_ ?_<;>intro h<;>simp (disch:=omega) only [Sh.out h,go_sem,seval,↓reduceIte]
  ·exact ⟨[⟨i,false⟩],by simp [],wk⟩
  ·exact ⟨[],by simp [],wk⟩
 ·intro m hm
  have hml:m.length<=1:=by grind
  refine Zf [] _ _ _ _ (Zd ?_);refine cD ?_ ?_<;>intro h<;>simp (disch:=omega) only [Sh.out h,go_sem,seval,↓reduceIte]
  ·exact ⟨m++ [⟨i,true⟩],by simp_all [Z2],0,by simp (disch:=omega) only [go_sem,seval]⟩
  ·exact ⟨m,by simp_all [Z2],0,by simp (disch:=omega) only [go_sem,seval]⟩
theorem visits_c (l:List Ord) (c:Bool) (i:Nat) (hi:i<l.length) (hl:l.length<=1048576):PC 132 [.p (.list c (l.map Yc)),.p (.int .i64 (i:Nat))] (.list false ((Z2 l i).map XB)) :=
 (NS l c i hi hl).frozen Zb
def CD (l:List Vis):Bool:=(List.range l.length).any fun i=>decide (0<=vIx (l.take i) (nth l i))
theorem nU (l:List Vis) (c:Bool) (hl:l.length<=1048576):PC 237 [.p (.list c (l.map XB))] (.bool (CD l)):=by
 refine Zc Tryz.func237 rfl vJ ?_;simp (disch:=omega) only [Tryz.f237,go_sem,seval];refine Zn [0,5,6] (fun k:Nat=> [(7,.p (.int .i64 k))]) (fun _=> []) (fun k=>k<=l.length/\ ∀j,j<k->decide (0<=vIx (l.take j) (nth l j))=false) (fun k=>l.length-k) 0 Zb (Weak.mk ?_) ?_
 ·simp (disch:=omega) only [go_sem,seval,↓reduceIte]
 ·rintro k ⟨hk,hno⟩;refine Zd ?_;refine cD ?_ ?_<;>intro h<;>simp (disch:=omega) only [Sh.out h,go_sem,seval,↓reduceIte]
  ·have hk2:k<l.length:=Za
   refine XN (Zd ?_);refine Zo (Bv (l.take k) _ (nth l k) (by simp;omega)) (Zd ?_);refine cD ?_ ?_<;>intro h2<;>simp (disch:=omega) only [Sh.out h2,go_sem,seval,↓reduceIte]
   ·grind [CD]
   ·exact ⟨k+1,⟨Za,ZR.2 ⟨hno,by grind⟩⟩,Za,wk⟩
  grind [CD]
theorem CR (l:List Vis) (c:Bool) (g:FuncId) (caps:List V) (H:List AM.Obj) (f:Vis->Bool) (hl:l.length<=1048576) (hW:Mj H H.length H H) (hc:Xk H.length caps=true)
  (hg: ∀v∈l,ACalls Tryz.prog g (.p (XB v)::caps) H fun x H'=>x= .p (.bool (f v))/\H'=H) :
  ACalls Tryz.prog 258 [.p (.list c (l.map XB)),.fn (.func g) [] caps] H fun x H'=>x= .p (.int .i64 (Hl f l))/\H'=H:=by
 refine Yz Tryz.func258 rfl wA (Zf [] _ _ _ _ ?_);simp (disch:=omega) only [Tryz.f258,go_sem,seval];refine Zn [0,1,7] (fun k:Nat=> [(8,.p (.int .i64 k))]) (fun _=>H) (fun k=>k<=l.length/\ ∀j,j<k->f (nth l j)=false) (fun k=>l.length-k) 0 Zb (Weak.mk ?_) ?_
 ·simp (disch:=omega) only [hW,hc,go_sem,seval];simp
 ·rintro k ⟨hk,hno⟩;refine Zd ?_;refine cD ?_ ?_<;>intro h<;>simp (disch:=omega) only [Sh.out h,go_sem,seval,↓reduceIte]
  ·have hk2:k<l.length:=Za
   refine (hg (nth l k) (Zz hk2)).useH (Zd ?_);refine cD ?_ ?_<;>intro h2<;>simp (disch:=omega) only [Sh.out h2,go_sem,seval,↓reduceIte]
   ·grind [MY]
   ·have h3:f (nth l k)=false:=Za
    refine ⟨k+1,⟨Za,ZR.2 ⟨hno,h3⟩⟩,Za,Weak.mk ?_⟩;simp (disch:=omega) only [hW,hc,go_sem,seval];simp
  grind [T8]
theorem Ul (l:List Vis) (c:Bool) (g:FuncId) (caps:List V) (H:List AM.Obj) (f:Vis->Bool) (hl:l.length<=1048576) (hW:Mj H H.length H H) (hc:Xk H.length caps=true)
  (hg: ∀v∈l,ACalls Tryz.prog g (.p (XB v)::caps) H fun x H'=>x= .p (.bool (f v))/\H'=H) :
  ACalls Tryz.prog 234 [.p (.list c (l.map XB)),.fn (.func g) [] caps] H fun x H'=>x= .p (.bool (l.any f))/\H'=H:=by
 refine Yz Tryz.func234 rfl vG (Zf [] _ _ _ _ ?_);simp (disch:=omega) only [Tryz.f234,go_sem,seval];refine (CR l c g caps H f hl hW hc hg).useH (Zd ?_);rw [MZ]
def hasO (l:List Vis) (o:Int):Bool:=l.any fun v=>decide (v.order=o)
theorem sU (v:Vis) (o:Int):ACalls Tryz.prog 260 [.p (XB v),.ptr 0 0] [.cells [.p (.int .i64 o)]] fun x H'=>x= .p (.bool (decide (v.order=o)))/\H'= [.cells [.p (.int .i64 o)]]:=by
 refine Zj [] Tryz.func260 rfl wC ?_;simp (disch:=omega) only [Tryz.f260,go_sem,seval];exact we
theorem P7 (v:Vis) (o:Int):ACalls Tryz.prog 261 [.p (XB v),.ptr 0 0] [.cells [.p (.int .i64 o)]] fun x H'=>x= .p (.bool (decide (v.order=o)))/\H'= [.cells [.p (.int .i64 o)]]:=by
 refine Zj [] Tryz.func261 rfl wD ?_;simp (disch:=omega) only [Tryz.f261,go_sem,seval];exact we
theorem BH (l:List Vis) (c:Bool) (o:Int) (hl:l.length<=1048576):PC 239 [.p (.list c (l.map XB)),.p (.int .i64 o)] (.bool (hasO l o)):=by
 refine Zc Tryz.func239 rfl vL ?_;simp (disch:=omega) only [Tryz.f239,go_sem,seval];refine (Ul l c 260 [.ptr 0 0] [.cells [.p (.int .i64 o)]] (fun v=>decide (v.order=o)) hl (by simp (disch:=omega) only [go_sem,seval]) (by rfl) (fun v _=>sU v o)).useH (Zd ?_);rw [hasO]
def beforeB (l:List Vis) (a b:Int):Bool:=if Hl (fun v=>decide (v.order=b)) l<0 then true else hasO l a&& !hasO (l.drop (Hl (fun v=>decide (v.order=b)) l).toNat) a
theorem LX (l:List Vis) (c:Bool) (a b:Int) (hl:l.length<=1048576):PC 240 [.p (.list c (l.map XB)),.p (.int .i64 a),.p (.int .i64 b)] (.bool (beforeB l a b)):=by
 refine Zc Tryz.func240 rfl vM ?_;simp (disch:=omega) only [Tryz.f240,go_sem,seval];refine (CR l c 261 [.ptr 0 0] [.cells [.p (.int .i64 b)]] (fun v=>decide (v.order=b)) hl (by simp (disch:=omega) only [go_sem,seval]) (by rfl) (fun v _=>P7 v b)).useH ?_;have hlt:=sQ (f:=fun v=>decide (v.order=b)) (l:=l);refine Zd ?_;refine cD ?_ ?_<;>intro h<;>simp (disch:=omega) only [Sh.out h,go_sem,seval]
 ·rw [beforeB,if_pos h]
 ·refine (BH l c a hl).use (Zd ?_);generalize hq:Hl (fun v=>decide (v.order=b)) l=q at hlt h ⊢
  cases h2:hasO l a with
  | false =>
   refine Zd ?_
   simp_all [beforeB]
  | true =>
   simp (disch:=omega) only [X5,go_sem,seval];refine (BH (l.drop q.toNat) _ a (by simp;omega)).use (Zd ?_)
   simp_all [beforeB,if_neg]
def Jz (l:List Vis):Int->List Vis->Bool
 | _,[]=>true
 | last,w::r=>decide (last<vIx l w)&&Jz l (vIx l w) r
def pairB (os:List Ord) (l:List Vis) (v:Vis):Bool:=decide (0<=vIx (Z2 os v.order.toNat) v)&&Jz l (-1) (Z2 os v.order.toNat)
theorem L0 (x:Inst) (l:List Vis) (c:Bool) (hl:l.length<=1048576) (ho:x.orders.length<=1048576) (hv: ∀v∈l,0<=v.order/\v.order<x.orders.length) :
  PC 238 [.p (ZW x),.p (.list c (l.map XB))] (.bool (l.all (pairB x.orders l))):=by
 refine Zc Tryz.func238 rfl vK ?_;simp (disch:=omega) only [Tryz.f238,go_sem,seval];refine Zn [1,2,12,13] (fun k:Nat=> [(14,.p (.int .i64 k))]) (fun _=> [Zh x]) (fun k=>k<=l.length/\ ∀j,j<k->pairB x.orders l (nth l j)=true) (fun k=>l.length-k) 0 Zb (Weak.mk ?_) ?_
 ·simp (disch:=omega) only [Zh,go_sem,seval]
 ·rintro k ⟨hk,hno⟩;refine UE ?_;refine cD ?_ ?_<;>intro h<;>simp (disch:=omega) only [Sh.out h,go_sem,seval,↓reduceIte]
  ·have hk2:k<l.length:=Za
   obtain ⟨v1,v2⟩:=hv _ (Zz hk2)
   have hbad:pairB x.orders l (nth l k)=false->l.all (pairB x.orders l)=false:=fun h4=>by
    grind [Zz]
   obtain ⟨i,hi⟩: ∃i:Nat,(nth l k).order=(i:Int):=⟨(nth l k).order.toNat,Za⟩
   have hp:pairB x.orders l (nth l k)=(decide (0<=vIx (Z2 x.orders i) (nth l k))&&Jz l (-1) (Z2 x.orders i)):=by rw [pairB,hi];rfl
   rw [hi] at v1 v2;simp (disch:=omega) only [hi,go_sem,seval];refine (visits_c x.orders x.orders_c i Za ho).use (Zd ?_);have hvl:=VF x.orders i;have hcon:=Hf (Z2 x.orders i) false (nth l k) Za;rw [kA,hi] at hcon;refine (hcon).use (Zd ?_);refine cD ?_ ?_<;>intro h2<;>simp (disch:=omega) only [Sh.out h2,go_sem,seval]
   ·grind
   ·have h2':0<=vIx (Z2 x.orders i) (nth l k):=Za
    generalize hown:Z2 x.orders i=own at hvl hp h2' ⊢
    have hp2:pairB x.orders l (nth l k)=Jz l (-1) own:=by grind
    refine Zn [1,2,12,13,14,27,28] (fun q:Nat×Int=> [(8,.p (.int .i64 q.2)),(29,.p (.int .i64 q.1))]) (fun _=> [Zh x,.cells [.p (.int .i64 (i:Int)),.p (.bool (nth l k).drp)]]) (fun q=>q.1<=own.length/\Jz l (-1) own=Jz l q.2 (own.drop q.1)) (fun q=>own.length-q.1) (0,-1) Zb (Weak.mk ?_) ?_
    ·simp (disch:=omega) only [Zh,go_sem,seval]
    ·rintro ⟨j,last⟩ ⟨hj,ha⟩;simp only at hj ha;refine UE ?_;refine Xm ?_ ?_<;>intro h3
     ·have hj2:j<own.length:=Za
      have hd:own.drop j=nth own j::own.drop (j+1):=by rw [U6 hj2,Zg hj2]
      rw [hd] at ha;refine (Bv l c (nth own j) hl).use (Zd ?_);refine Xm ?_ ?_<;>intro h4
      ·grind [Jz]
      ·have h5:last<vIx l (nth own j):=Za
       exact ⟨(j+1,vIx l (nth own j)),⟨Za,by grind [Jz]⟩,Za,wk⟩
     ·have hjl:j=own.length:=Za
      subst hjl;exact ⟨k+1,⟨Za,ZR.2 ⟨hno,by grind [Jz]⟩⟩,Za,wk⟩
  ·have hkl:k=l.length:=Za
   subst hkl
   have:l.all (pairB x.orders l)=true:=by
    rw [ZH];intro v hv;obtain ⟨j,hj,rfl⟩:=Z1.1 hv
    grind [Zg]
   rw [this]
def YJ (r:Rte):AM.Obj:= .cells [.p (.int .i64 r.typ),.p (.int .i64 r.start),.p (.list r.rests_c (r.rests.map eB)),.p (.list r.visits_c (r.visits.map XB))]
def V7 (x:Inst) (v:Vis):Bool:= !decide (0<=v.order/\v.order<(x.orders.length:Int))
theorem TI (x:Inst) (r:Rte) (v:Vis) (ho:x.orders.length<=1048576):ACalls Tryz.prog 235 [.p (XB v),.ptr 0 0] [Zh x,YJ r] fun y H'=>y= .p (.bool (V7 x v))/\H'= [Zh x,YJ r]:=by
 refine Zj [] Tryz.func235 rfl vH ?_;simp (disch:=omega) only [Tryz.f235,Zh,YJ,go_sem,seval];refine gF ?_ ?_<;>intro h<;>simp (disch:=omega) only [Sh.out h,go_sem,seval,↓reduceIte]
 ·have e:V7 x v=true:=by
   grind [V7]
  rw [e];exact we
 ·have e:V7 x v=decide ((x.orders.length:Int)<=v.order):=by
   have h0:0<=v.order:=Za
   rw [W1];simp [V7,h0]
  rw [e];exact we
theorem TJ (x:Inst) (r:Rte) (v:Vis) (ho:x.orders.length<=1048576) (h1:0<=v.order) (h2:v.order<x.orders.length):ACalls Tryz.prog 236 [.p (XB v),.ptr 0 0] [Zh x,YJ r] fun y H'=>y= .p (.bool (nth x.orders v.order.toNat).off)/\H'= [Zh x,YJ r]:=by
 have h3:v.order.toNat<x.orders.length:=Za
 refine Zj [] Tryz.func236 rfl vI ?_;simp (disch:=omega) only [Tryz.f236,Zh,YJ,go_sem,seval];exact we
def Xt (x:Inst) (l:List Vis):Int :=
 if l.length=0\/l.any (V7 x)=true then 2
 else if (l.any fun v=>(nth x.orders v.order.toNat).off)=true then 9
 else if CD l=true then 6
 else if l.all (pairB x.orders l)=false then 19
 else if (x.apart.any fun p=>hasO l p.1&&hasO l p.2)=true then 20
 else if (x.before.any fun p=> !beforeB l p.1 p.2)=true then 21
 else 0
theorem GB {P Q:Prop} (h:Q) (e:Q->P:=by intro h;simp (disch:=omega) only [Zh,YJ,go_sem,seval];exact h):P:=e h
theorem NI (x:Inst) (r:Rte) (ho:x.orders.length<=1048576) (hl:r.visits.length<=1048576) (hap:x.apart.length<=1048576) (hbe:x.before.length<=1048576) :
  PC 211 [.p (ZW x),.p (KO r)] (.int .i64 (Xt x r.visits)):=by
 refine Zc Tryz.func211 rfl uT ?_;simp (disch:=omega) only [Tryz.f211,go_sem,seval];refine gF ?_ ?_<;>intro h0<;>simp (disch:=omega) only [Sh.out h0,go_sem,seval]
 ·grind [Xt]
 ·have h00: ¬r.visits.length=0:=Za
  refine (Ul r.visits r.visits_c 235 [.ptr 0 0] [Zh x,YJ r] (V7 x) hl (by simp (disch:=omega) only [Zh,YJ,go_sem,seval]) (by rfl) (fun v _=>TI x r v ho)).useH (GB ?_);refine cD ?_ ?_<;>intro h1<;>simp (disch:=omega) only [Sh.out h1,go_sem,seval]
  ·simp_all [Xt]
  ·have h1':r.visits.any (V7 x)=false:=Za
   have c1: ¬(r.visits.length=0\/r.visits.any (V7 x)=true):=by grind
   have hin: ∀v∈r.visits,0<=v.order/\v.order<x.orders.length:=fun v hv=>by
    grind [V7]
   refine (Ul r.visits r.visits_c 236 [.ptr 0 0] [Zh x,YJ r] (fun v=>(nth x.orders v.order.toNat).off) hl (by simp (disch:=omega) only [Zh,YJ,go_sem,seval]) (by rfl) (fun v hv=>TJ x r v ho (hin v hv).1 (hin v hv).2)).useH (GB ?_);refine cD ?_ ?_<;>intro h2<;>simp (disch:=omega) only [Sh.out h2,go_sem,seval]
   ·simp_all [Xt]
   ·refine (nU r.visits r.visits_c hl).use (Zd ?_);refine cD ?_ ?_<;>intro h3<;>simp (disch:=omega) only [Sh.out h3,go_sem,seval,↓reduceIte]
    ·simp_all [Xt,if_neg]
    ·refine (L0 x r.visits r.visits_c hl ho hin).use (Zd ?_);refine cD ?_ ?_<;>intro h4<;>simp (disch:=omega) only [Sh.out h4,go_sem,seval,↓reduceIte]
     ·simp_all [Xt,if_neg]
     ·have h4':r.visits.all (pairB x.orders r.visits)=true:=by grind
      have hc:Xt x r.visits=if (x.apart.any fun p=>hasO r.visits p.1&&hasO r.visits p.2)=true then 20 else if (x.before.any fun p=> !beforeB r.visits p.1 p.2)=true then 21 else 0:=by
       rw [Xt,if_neg c1,if_neg (by grind),if_neg (by grind),if_neg (by grind)]
      clear h4 h4' h3 h2 c1 h1' h1 h0;refine Zn [2,5,33,34] (fun k:Nat=> [(35,.p (.int .i64 k))]) (fun _=> [Zh x,YJ r]) (fun k=>k<=x.apart.length/\ ∀j,j<k->(hasO r.visits (nth x.apart j).1&&hasO r.visits (nth x.apart j).2)=false) (fun k=>x.apart.length-k) 0 Zb (Weak.mk ?_) ?_
      ·simp (disch:=omega) only [Zh,YJ,go_sem,seval]
      ·rintro k ⟨hk,hno⟩;refine GB ?_;refine cD ?_ ?_<;>intro h<;>simp (disch:=omega) only [Sh.out h,go_sem,seval,↓reduceIte]
       ·have hk2:k<x.apart.length:=Za
        refine (BH r.visits r.visits_c (nth x.apart k).1 hl).use (Zd ?_);refine TV ?_ ?_<;>intro h2
        ·refine (BH r.visits r.visits_c (nth x.apart k).2 hl).use (Zd ?_);refine Xm ?_ ?_<;>intro h3
         ·rw [hc,if_pos (QM hk2 (by grind))]
         ·exact ⟨k+1,⟨Za,ZR.2 ⟨hno,by grind⟩⟩,Za,wk⟩
        ·exact ⟨k+1,⟨Za,ZR.2 ⟨hno,by simp [h2]⟩⟩,Za,wk⟩
       ·have hkl:k=x.apart.length:=Za
        subst hkl;rw [hc,K7 hno];clear hno hk h hc;rw [if_neg Zb];refine Zn [5,51,52] (fun k:Nat=> [(53,.p (.int .i64 k))]) (fun _=> [Zh x,YJ r]) (fun k=>k<=x.before.length/\ ∀j,j<k->(!beforeB r.visits (nth x.before j).1 (nth x.before j).2)=false) (fun k=>x.before.length-k) 0 Zb (Weak.mk ?_) ?_
        ·simp (disch:=omega) only [Zh,YJ,go_sem,seval]
        ·rintro k ⟨hk,hno⟩;refine GB ?_;refine cD ?_ ?_<;>intro h<;>simp (disch:=omega) only [Sh.out h,go_sem,seval,↓reduceIte]
         ·have hk2:k<x.before.length:=Za
          refine (LX r.visits r.visits_c (nth x.before k).1 (nth x.before k).2 hl).use (Zd ?_);refine Xm ?_ ?_<;>intro h2
          ·have h3:(!beforeB r.visits (nth x.before k).1 (nth x.before k).2)=true:=Za
           rw [if_pos (QM hk2 h3)]
          ·have h3:(!beforeB r.visits (nth x.before k).1 (nth x.before k).2)=false:=Za
           exact ⟨k+1,⟨Za,ZR.2 ⟨hno,h3⟩⟩,Za,wk⟩
         grind [K7]
@[go_sem] theorem ZgJ {H:List AM.Obj} {n cs cs'} :CI H n (.tup cs) (.tup cs')=(cs'=cs/\Xk n cs=true):=by simp [CI,SS,refB]
@[go_sem] theorem NC {a b:V} :Qg [a,b]= .tup [a,b]:=Zi rfl rfl
theorem J2 {g:FuncId} {args:List V} {a b:PV} {H:List AM.Obj} {K:V->List AM.Obj->Prop} (h:ACalls Tryz.prog g args [] fun x H'=>x= .tup [.p a,.p b]/\H'= []) (k:K (.tup [.p a,.p b]) H) (ha:Xk 0 args=true:=by rfl):ACalls Tryz.prog g args H K :=
 (h.behind ha H).mono fun x H' hq=>by
  obtain ⟨y,H1,⟨rfl,rfl⟩,rfl,rfl⟩:=hq
  grind [shV,shVs]
def Ye (l:List Vis):Nat:=l.foldl (fun s v=>s|||pw v.order.toNat) 0
def SU (v:Vis):Bool:=decide (0<=v.order/\v.order<=62)
theorem Gh {l:List Vis} {k:Nat} (hk:k<l.length):Ye (l.take (k+1))=Ye (l.take k)|||pw (nth l k).order.toNat:=by
 grind [Yu,Ye,Zg]
theorem HN : ∀(k:Nat) {l:List Vis},k<=l.length->(∀v∈l.take k,SU v=true)->Ye (l.take k)<9223372036854775808
 | 0,l,_,_=>by simp [Ye]
 | k+1,l,hk,h=>by
  have hk2:k<l.length:=Za
  have ih:=HN k (l:=l) Za fun v hv=>h v (List.take_subset_take_left l Za hv);have hv:=h (nth l k) (by rw [Zg hk2];exact Z1.2 ⟨k,by simp;omega,Zb⟩);simp only [SU,Zp] at hv;have h2:pw (nth l k).order.toNat<=pw 62:=Gq Za;have h3:=Pd;rw [Gh hk2];exact Qa (n:=63) Za Za
def EC (l:List Vis):Int×Int:=if l.all SU=true then (((Ye l:Nat):Int),0) else (0,2)
theorem LZ (r:Rte) (hl:r.visits.length<=1048576):PT 262 [.p (KO r)] [.p (.int .i64 (EC r.visits).1),.p (.int .i64 (EC r.visits).2)]:=by
 refine Zj [] Tryz.func262 rfl wE ?_;simp (disch:=omega) only [Tryz.f262,go_sem,seval];refine Zn [8,9] (fun k:Nat=> [(4,.p (.int .i64 (Ye (r.visits.take k):Nat))),(10,.p (.int .i64 k))]) (fun _=> [YJ r]) (fun k=>k<=r.visits.length/\ ∀j,j<k->SU (nth r.visits j)=true) (fun k=>r.visits.length-k) 0 Zb (Weak.mk ?_) ?_
 ·simp (disch:=omega) only [YJ,Ye,Q3,Bd,go_sem,seval]
 ·rintro k ⟨hk,hno⟩
  have hlt:=HN k hk fun v hv=>by
   obtain ⟨j,hj,rfl⟩:=Z1.1 hv
   grind [Zg]
  simp (disch:=omega) only [YJ,go_sem,seval];refine cD ?_ ?_<;>intro h<;>simp (disch:=omega) only [Sh.out h,go_sem,seval,↓reduceIte]
  ·have hk2:k<r.visits.length:=Za
   have hbad:SU (nth r.visits k)=false->EC r.visits=(0,2):=fun h4=>by
    grind [Zz,EC]
   have hs:=Gh hk2
   have hp:(nth r.visits k).order<=62->pw (nth r.visits k).order.toNat<=4611686018427387904:=fun h=>by rw [<- Pd];exact Gq Za
   refine gF ?_ ?_<;>intro h1<;>simp (disch:=omega) only [Sh.out h1,go_sem,seval,↓reduceIte]
   ·have e:=hbad (by simp [SU];omega);rw [e];exact we
   ·refine Xm ?_ ?_<;>intro h2
    ·have e:=hbad (by simp [SU];omega);rw [e];exact we
    ·exact ⟨k+1,⟨Za,ZR.2 ⟨hno,by simp [SU];omega⟩⟩,Za,Weak.mk (by simp (disch:=omega) only [hs,go_sem,seval])⟩
  ·have hkl:k=r.visits.length:=Za
   subst hkl
   have:r.visits.all SU=true:=by
    rw [ZH];intro v hv;obtain ⟨j,hj,rfl⟩:=Z1.1 hv
    grind [Zg]
   have e:EC r.visits=(((Ye r.visits:Nat):Int),0):=by simp [EC,this]
   rw [e,X5];exact we
def WS (a b:Int):Int:=if a<b then-1 else if b<a then 1 else 0
theorem OM (a:Int):PC 127 [.p (.int .i64 a)] (.bool false):=by
 refine Zc Tryz.func127 rfl tK ?_;simp (disch:=omega) only [Tryz.f127,go_sem,seval]
 try simp
theorem CO (a b:Int):PC 92 [.p (.int .i64 a),.p (.int .i64 b)] (.int .i64 (WS a b)):=by
 refine Zc Tryz.func92 rfl Ze3 ?_;simp (disch:=omega) only [Tryz.f92,go_sem,seval];refine (OM a).use (Zd ?_);refine (OM b).use (Zd ?_);refine cD ?_ ?_<;>intro h<;>simp (disch:=omega) only [Sh.out h,go_sem,seval]
 ·simp [WS,h]
 ·refine cD ?_ ?_<;>intro h2<;>simp (disch:=omega) only [Sh.out h2,go_sem,seval]
  ·simp [WS,h,h2]
  grind [WS]
def lY (l:List Int):Int:=(l.find? fun n=>decide (n≠0)).getD 0
theorem xT {l:List Int} {k:Nat} (hk:k<l.length) (h:nth l k≠0) (hno: ∀j,j<k->nth l j=0):lY l=nth l k:=by
 grind [nth,HB,lY]
theorem xU {l:List Int} (hno: ∀j,j<l.length->nth l j=0):lY l=0:=by
 have:l.find? (fun n=>decide (n≠0))=none:=by
  rw [Af];intro x hx;obtain ⟨j,hj,rfl⟩:=Z1.1 hx
  grind [Zg]
 grind [lY]
theorem lZ (l:List Int) (c:Bool) (hl:l.length<=100):PC 91 [.p (.list c (l.map eI))] (.int .i64 (lY l)):=by
 refine Zc Tryz.func91 rfl Ze2 ?_;simp (disch:=omega) only [Tryz.f91,go_sem,seval];refine Zn [3,6,7] (fun k:Nat=> [(8,.p (.int .i64 k))]) (fun _=> []) (fun k=>k<=l.length/\ ∀j,j<k->nth l j=0) (fun k=>l.length-k) 0 Zb (Weak.mk ?_) ?_
 ·simp (disch:=omega) only [go_sem,seval]
 ·rintro k ⟨hk,hno⟩;refine Zd ?_;refine cD ?_ ?_<;>intro h<;>simp (disch:=omega) only [Sh.out h,go_sem,seval,↓reduceIte]
  ·have hk2:k<l.length:=Za
   refine Xm ?_ ?_<;>intro h2
   ·grind [xT]
   ·exact ⟨k+1,⟨Za,ZR.2 ⟨hno,Za⟩⟩,Za,wk⟩
  grind [xU]
theorem Du (a b:Int):lY [a,b]=if a=0 then b else a:=by
 grind [lY]
def dn (v:Vis):Int:=if v.drp=true then 1 else 0
theorem Lv (v:Vis):PC 251 [.p (XB v)] (.int .i64 (dn v)):=by
 refine Zc Tryz.func251 rfl vW ?_;simp (disch:=omega) only [Tryz.f251,go_sem,seval];refine cD ?_ ?_<;>intro h<;>simp (disch:=omega) only [Sh.out h,go_sem,seval]
 ·simp [dn,h]
 ·simp [dn,h]
def TU (a b:Vis):Int:=if WS a.order b.order=0 then WS (dn a) (dn b) else WS a.order b.order
theorem Rp (a b:Vis):PC 217 [.p (XB a),.p (XB b)] (.int .i64 (TU a b)):=by
 refine Zc Tryz.func217 rfl uZ ?_;simp (disch:=omega) only [Tryz.f217,go_sem,seval];refine XN (Zd ?_);refine Zo (CO a.order b.order) (Zd ?_);refine Zo (Lv a) (Zd ?_);refine Zo (Lv b) (Zd ?_);refine Zo (CO (dn a) (dn b)) (Zd ?_);refine Zo (lZ [WS a.order b.order,WS (dn a) (dn b)] false Zb) (Zd ?_);rw [Du,TU]
def Lh : List Vis->List Vis->Int
 | [],[]=>0
 | [],_::_=> -1
 | _::_,[]=>1
 | a::r,b::s=>if TU a b=0 then Lh r s else TU a b
theorem AJ {α:Type} [Inhabited α] {l:List α} {k:Nat} (h:k<l.length):l.drop k=nth l k::l.drop (k+1):=by rw [U6 h,Zg h]
theorem Fo (a b:List Vis) (c d:Bool) (ha:a.length<=1048576) (hb:b.length<=1048576) :
  PC 216 [.p (.list c (a.map XB)),.p (.list d (b.map XB)),.fn (.func 217) [] []] (.int .i64 (Lh a b)):=by
 refine Zc Tryz.func216 rfl uY ?_;simp (disch:=omega) only [Tryz.f216,go_sem,seval];refine Zn [0,1,2,11,12] (fun k:Nat=> [(13,.p (.int .i64 k))]) (fun _=> []) (fun k=>k<=a.length/\k<=b.length/\Lh a b=Lh (a.drop k) (b.drop k)) (fun k=>a.length-k) 0 Zb (Weak.mk ?_) ?_
 ·simp (disch:=omega) only [go_sem,seval,↓reduceIte]
 ·rintro k ⟨hk,hkb,hle⟩;refine Zd ?_;refine cD ?_ ?_<;>intro h<;>simp (disch:=omega) only [Sh.out h,go_sem,seval,↓reduceIte]
  ·have hk2:k<a.length:=Za
   rw [AJ hk2] at hle;refine cD ?_ ?_<;>intro h2<;>simp (disch:=omega) only [Sh.out h2,go_sem,seval,↓reduceIte]
   ·have:b.drop k= []:=List.drop_eq_nil_of_le Za;rw [hle,this];rfl
   ·have hk3:k<b.length:=Za
    rw [AJ hk3] at hle;refine (Rp (nth a k) (nth b k)).use (Zd ?_);refine cD ?_ ?_<;>intro h3<;>simp (disch:=omega) only [Sh.out h3,go_sem,seval,↓reduceIte]
    ·simp_all [Lh]
    ·have h4:TU (nth a k) (nth b k)=0:=Za
     exact ⟨k+1,⟨Za,Za,by simp_all [Lh]⟩,Za,wk⟩
  ·have hkl:k=a.length:=Za
   subst hkl;rw [JL] at hle;refine cD ?_ ?_<;>intro h2<;>simp (disch:=omega) only [Sh.out h2,go_sem,seval]
   ·rw [AJ Za] at hle;rw [hle];rfl
   ·have:b.drop a.length= []:=List.drop_eq_nil_of_le Za;rw [hle,this];rfl
theorem Sz (a b:List Vis) (c d:Bool) (ha:a.length<=1048576) (hb:b.length<=1048576):PC 196 [.p (.list c (a.map XB)),.p (.list d (b.map XB))] (.bool (decide (Lh a b<0))):=by
 refine Zc Tryz.func196 rfl uO ?_;simp (disch:=omega) only [Tryz.f196,go_sem,seval];refine (Fo a b c d ha hb).use ?_;simp (disch:=omega) only [go_sem,seval]
def Bw (l:List Vis) (v:Vis):List Vis->Bool
 | []=>true
 | w::r=>if w=v then true else decide (0<=vIx l w)&&Bw l v r
def DI (l own:List Vis):Bool:=own.all fun w=>decide (0<=vIx l w)
def DQ (os:List Ord) (l:List Vis) (o:Int) (p:Int×Int):Bool:=decide (p.2≠o)||DI l (Z2 os p.1.toNat)
def UB (x:Inst) (l:List Vis) (v:Vis):Bool:=decide (vIx l v<0)&&Bw l v (Z2 x.orders v.order.toNat)&&x.before.all (DQ x.orders l v.order)
def J3 (v:Vis):AM.Obj:= .cells [.p (.int .i64 v.order),.p (.bool v.drp)]
theorem NJ (x:Inst) (l:List Vis) (c:Bool) (v:Vis) (hl:l.length<=1048576) (ho:x.orders.length<=1048576) (hbl:x.before.length<=1048576) (hv:0<=v.order/\v.order<x.orders.length) (hb: ∀p∈x.before,0<=p.1/\p.1<x.orders.length) :
  PC 197 [.p (ZW x),.p (.list c (l.map XB)),.p (XB v)] (.bool (UB x l v)):=by
 refine QI [3] Tryz.func197 rfl uP ?_;simp (disch:=omega) only [Tryz.f197,go_sem,seval];refine (Bv l c v hl).use (Zd ?_);refine cD ?_ ?_<;>intro h<;>simp (disch:=omega) only [Sh.out h,go_sem,seval]
 ·grind [UB]
 ·have h1:vIx l v<0:=Za
  obtain ⟨i,hi⟩: ∃i:Nat,v.order=(i:Int):=⟨v.order.toNat,Za⟩
  have hr:UB x l v=(Bw l v (Z2 x.orders i)&&x.before.all (DQ x.orders l v.order)):=by
   grind [UB]
  have hvi:=visits_c x.orders x.orders_c i Za ho;rw [<- hi] at hvi;refine ZD [1,3,5] (fun _:Unit=> []) (fun _=> [Zh x,J3 v]) (fun _=>Bw l v (Z2 x.orders i)=true) ?_ ?_
  ·refine Zd ?_;refine (hvi).use (Zd ?_);have hvl:=VF x.orders i;generalize hown:Z2 x.orders i=own at hvl hr ⊢;refine Zn [1,3,5,21,22] (fun k:Nat=> [(23,.p (.int .i64 k))]) (fun _=> [Zh x,J3 v]) (fun k=>k<=own.length/\Bw l v own=Bw l v (own.drop k)) (fun k=>own.length-k) 0 Zb (Weak.mk ?_) ?_
   ·simp (disch:=omega) only [Zh,J3,go_sem,seval]
   ·rintro k ⟨hk,hp⟩;simp (disch:=omega) only [Zh,J3,go_sem,seval];refine Xm ?_ ?_<;>intro h2
    ·have hk2:k<own.length:=Za
     rw [AJ hk2] at hp;refine Xm ?_ ?_<;>intro h3
     ·have h4:nth own k=v:=by grind [NR]
      exact ⟨(),by simp_all [Bw],wk⟩
     ·have h4: ¬nth own k=v:=by grind
      refine (Bv l c (nth own k) hl).use (Zd ?_);refine Xm ?_ ?_<;>intro h5
      ·have h6: ¬ 0<=vIx l (nth own k):=Za
       simp_all [Bw]
      ·have h6:0<=vIx l (nth own k):=Za
       exact ⟨k+1,⟨Za,by simp_all [Bw]⟩,Za,wk⟩
    ·have hkl:k=own.length:=Za
     subst hkl;exact ⟨(),by rw [hp,JL];rfl,wk⟩
  ·rintro _ hpre;rw [hpre,VN] at hr;refine Zf [] _ _ _ _ ?_;simp (disch:=omega) only [Zh,J3,go_sem,seval];refine Zn [1,3,5,36,37] (fun k:Nat=> [(38,.p (.int .i64 k))]) (fun _=> [Zh x,J3 v]) (fun k=>k<=x.before.length/\ ∀j,j<k->DQ x.orders l v.order (nth x.before j)=true) (fun k=>x.before.length-k) 0 Zb (Weak.mk ?_) ?_
   ·simp (disch:=omega) only [Zh,J3,go_sem,seval]
   ·rintro k ⟨hk,hno⟩;simp (disch:=omega) only [Zh,J3,go_sem,seval];refine cD ?_ ?_<;>intro h2<;>simp (disch:=omega) only [Sh.out h2,go_sem,seval,↓reduceIte]
    ·have hk2:k<x.before.length:=Za
     have hbk:=hb _ (Zz hk2)
     have hbad:DQ x.orders l v.order (nth x.before k)=false->UB x l v=false:=fun h4=>by
      grind [Zz]
     refine Xm ?_ ?_<;>intro h3
     ·exact ⟨k+1,⟨Za,ZR.2 ⟨hno,by simp [DQ,h3]⟩⟩,Za,wk⟩
     ·obtain ⟨a,hao⟩: ∃a:Nat,(nth x.before k).1=(a:Int):=⟨(nth x.before k).1.toNat,Za⟩;have hva:=visits_c x.orders x.orders_c a Za ho;rw [<- hao] at hva
      have h3':(nth x.before k).2=v.order:=Za
      have hbe:DQ x.orders l v.order (nth x.before k)=DI l (Z2 x.orders a):=by grind [DQ]
      refine (hva).use (Zd ?_);have hvl:=VF x.orders a;generalize hown:Z2 x.orders a=own at hvl hbe ⊢;refine Zn [1,3,5,36,37,38,51,52] (fun k:Nat=> [(53,.p (.int .i64 k))]) (fun _=> [Zh x,J3 v,.cells [.p (.int .i64 (nth x.before k).1),.p (.int .i64 (nth x.before k).2)]]) (fun q=>q<=own.length/\ ∀j,j<q->decide (0<=vIx l (nth own j))=true) (fun k=>own.length-k) 0 Zb (Weak.mk ?_) ?_
      ·simp (disch:=omega) only [Zh,J3,go_sem,seval]
      ·rintro q ⟨hq,hnq⟩;simp (disch:=omega) only [Zh,J3,go_sem,seval];refine Xm ?_ ?_<;>intro h4
       ·have hq2:q<own.length:=Za
        refine (Bv l c (nth own q) hl).use (Zd ?_);refine Xm ?_ ?_<;>intro h5
        ·grind [DI,Zz]
        ·exact ⟨q+1,⟨Za,ZR.2 ⟨hnq,by simp;omega⟩⟩,Za,wk⟩
       ·have hql:q=own.length:=Za
        subst hql
        have:DI l own=true:=by
         rw [DI,ZH];intro w hw;obtain ⟨j,hj,rfl⟩:=Z1.1 hw
         grind [Zg]
        exact ⟨k+1,⟨Za,ZR.2 ⟨hno,by grind⟩⟩,Za,wk⟩
    ·have hkl:k=x.before.length:=Za
     subst hkl
     have:x.before.all (DQ x.orders l v.order)=true:=by
      rw [ZH];intro w hw;obtain ⟨j,hj,rfl⟩:=Z1.1 hw
      grind [Zg]
     rw [hr,this]
def Jr (x:Inst) (S:Nat) (l:List Vis) (i:Nat):List Vis:=if S.testBit i=true/\(nth x.orders i).off=false then (Z2 x.orders i).filter (UB x l) else []
def nextU (x:Inst) (S:Nat) (l:List Vis) (k:Nat):List Vis:=(List.range k).flatMap (Jr x S l)
theorem Eu (x S l k):nextU x S l (k+1)=nextU x S l k++Jr x S l k:=by simp [nextU,Yq]
theorem R0 (x S l i):(Jr x S l i).length<=2:=by
 grind [Jr,VF]
theorem Cj (x S l): ∀k,(nextU x S l k).length<=2*k
 | 0=>by simp [nextU]
 | k+1=>by
  have h1:=Cj x S l k;have h2:=R0 x S l k;rw [Eu,Zy];omega
theorem SA (x:Inst) (S:Nat) (l:List Vis) (c:Bool) (hS:S<9223372036854775808) (hl:l.length<=1048576) (ho:x.orders.length<=60) (hbl:x.before.length<=1048576) (hb: ∀p∈x.before,0<=p.1/\p.1<x.orders.length) :
  PC 167 [.p (ZW x),.p (.int .i64 (S:Nat)),.p (.list c (l.map XB))] (.list false ((nextU x S l x.orders.length).map XB)):=by
 refine ACalls.frozen (S:=2) (n:=(nextU x S l x.orders.length).length) Zb ?_
 suffices hh:ACalls Tryz.prog 167 [.p (ZW x),.p (.int .i64 (S:Nat)),.p (.list c (l.map XB))] [] fun y H'=> ∃m:List Vis,m=nextU x S l x.orders.length/\y= .sl 0 0 m.length m.length/\H'= [.elems 2 (m.map XB)] by
  grind
 refine ZM [2] Tryz.func167 rfl uE ?_;simp (disch:=omega) only [Tryz.f167,go_sem,seval];refine Zr (Weak.ofNil 7 2 (by simp (disch:=omega) only [go_sem,seval]) Zb (Weak.refl _ _ _)) ?_;refine Zf [] _ _ _ _ (Zd ?_);refine Zn [1,2,3,13,14] (fun q:Nat×List Vis=> [(7,.sl 1 0 q.2.length q.2.length),(15,.p (.int .i64 q.1))]) (fun q=> [Zh x,.elems 2 (q.2.map XB)]) (fun q=>q.1<=x.orders.length/\q.2=nextU x S l q.1) (fun q=>x.orders.length-q.1) (0,[]) ⟨Zb,by simp [nextU]⟩ (Weak.mk ?_) ?_
 ·simp (disch:=omega) only [Zh,go_sem,seval]
 ·rintro ⟨k,m⟩ ⟨hk,hm⟩;simp only at hk hm
  have hml:m.length<=2*k:=by grind [Cj]
  have hsc:=Eu x S l k;refine UE ?_;refine cD ?_ ?_<;>intro h<;>simp (disch:=omega) only [Sh.out h,go_sem,seval,↓reduceIte]
  ·have hk2:k<x.orders.length:=Za
   refine Rk ?_ ?_<;>intro h62
   ·omega
   refine Rk ?_ ?_<;>intro h2
   ·have hbit:S.testBit k=false:=by grind [Of]
    have e:Jr x S l k= []:=by simp [Jr,hbit]
    exact ⟨(k+1,m),⟨Za,by grind⟩,Za,wk⟩
   ·have hbit:S.testBit k=true:=by
     grind [Of]
    refine Xm ?_ ?_<;>intro h3
    ·have e:Jr x S l k= []:=by simp [Jr,h3]
     exact ⟨(k+1,m),⟨Za,by grind⟩,Za,wk⟩
    ·have h3':(nth x.orders k).off=false:=Za
     have e:Jr x S l k=(Z2 x.orders k).filter (UB x l):=by grind [Jr]
     refine (visits_c x.orders x.orders_c k hk2 Za).use (Zd ?_);have hvl:=VF x.orders k;have hvo: ∀v∈Z2 x.orders k,v.order=k:=fun v hv=>Yt hv;generalize hown:Z2 x.orders k=own at hvl e hvo ⊢;refine Zn [1,2,3,13,14,15,36,37] (fun q:Nat×List Vis=> [(7,.sl 1 0 q.2.length q.2.length),(38,.p (.int .i64 q.1))]) (fun q=> [Zh x,.elems 2 (q.2.map XB),YF (nth x.orders k)]) (fun q=>q.1<=own.length/\q.2=m++(own.take q.1).filter (UB x l)) (fun q=>own.length-q.1) (0,m) ⟨Zb,Zb⟩ (Weak.mk ?_) ?_
     ·simp (disch:=omega) only [Zh,YF,h3',go_sem,seval]
     ·rintro ⟨j,m2⟩ ⟨hj,hm2⟩;simp only at hj hm2
      have hm2l:m2.length<=2*k+2:=by
       grind
      simp (disch:=omega) only [Zh,YF,h3',go_sem,seval];refine Xm ?_ ?_<;>intro h4
      ·have hj2:j<own.length:=Za
       have hvj:=hvo _ (Zz hj2)
       have htk:own.take (j+1)=own.take j++ [nth own j]:=by rw [Yu hj2,Zg hj2]
       have hrd:=NJ x l c (nth own j) hl Za hbl Za hb;refine (hrd).use (Zd ?_);refine Xm ?_ ?_<;>intro h5
       ·exact ⟨(j+1,m2++ [nth own j]),⟨Za,by grind⟩,Za,Weak.mk (by simp (disch:=omega) only [h3',go_sem,seval])⟩
       ·exact ⟨(j+1,m2),⟨Za,by grind⟩,Za,Weak.mk (by simp (disch:=omega) only [h3',go_sem,seval])⟩
      ·have hjl:j=own.length:=Za
       subst hjl;exact ⟨(k+1,m2),⟨Za,by grind⟩,Za,wk⟩
  ·have hkn:k=x.orders.length:=Za
   subst hkn;exact ⟨m,hm,1,by simp (disch:=omega) only [go_sem,seval]⟩
theorem sI (l:List Vis) (c:Bool) (hl:l.length<=1048576):PC 170 [.p (.list c (l.map XB))] (.list true (l.map XB)):=by
 refine Zc Tryz.func170 rfl uH ?_;simp (disch:=omega) only [Tryz.f170,go_sem,seval,↓reduceIte]
@[go_sem] theorem Zi7 {H:List AM.Obj} {u2:TypeId} {xs:List PV} {y:V} {k:V->List AM.Obj->Prop} {tt} :Ow Tryz.prog H 117 u2 (.p (.list true xs)) y (Zq k tt)=Ak ((PQ (some (2,16)) xs (YL (Tryz.prog.underlying u2) H y)).map .p) (Zq (fun v=>k v H) ⟨⟩):=MW N4
def Zk8 (nx:List Vis->List Vis):Nat->List Vis->List (List Vis)->List (List Vis)×Bool
 | 0,l,outs=>(outs++ [l],decide (outs.length+1<=8192))
 | f+1,l,outs=>(nx l).foldl (fun acc v=>if acc.2=true then Zk8 nx f (l++ [v]) acc.1 else acc) (outs,true)
def KT (x:Inst) (S k:Nat):Nat:=((List.range k).map fun i=>if S.testBit i=true then (Z2 x.orders i).length else 0).sum
theorem KF (x S k):KT x S (k+1)=KT x S k+if S.testBit k=true then (Z2 x.orders k).length else 0:=by simp [KT,Yq]
theorem If (x S): ∀k,KT x S k<=2*k
 | 0=>by simp [KT]
 | k+1=>by
  have h1:=If x S k;have h2:=VF x.orders k;rw [KF]
  split<;>omega
def nHas (S:Nat) (i:Int):Bool:=decide (0<=i/\i<=62)&&S.testBit i.toNat
theorem cL {S i:Nat} (h:i<=62):nHas S (i:Int)=S.testBit i:=by
 grind [nHas]
theorem FJ {a b:Int} :WS a b=0↔a=b:=by grind [WS]
def Plc (x:Inst):Prop:= ∀o∈x.orders,-1<=o.pick.place/\ -1<=o.drp.place
theorem Av (os:List Ord) (i:Nat):Z2 os i= []\/Z2 os i= [⟨i,false⟩]\/Z2 os i= [⟨i,true⟩]\/Z2 os i= [⟨i,false⟩,⟨i,true⟩]:=by
 grind [Z2]
def apB (x:Inst) (S:Nat):Bool:=x.apart.any fun p=>nHas S p.1&&nHas S p.2
theorem H5 (S:Nat) (i:Int):sHas (S:Int) i=nHas S i:=by
 by_cases h:0<=i/\i<=62
 ·obtain ⟨k,rfl⟩: ∃k:Nat,i=(k:Int):=⟨i.toNat,Za⟩
  grind [We,cL]
 ·have h2:nHas S i=false:=by simp only [nHas,h,Q6,Dk]
  grind [sHas]
theorem Et {S:Nat} {i:Int} :nHas S i=true↔0<=i/\i<=62/\S.testBit i.toNat=true:=by simp [nHas,UP]
theorem MN {S n i:Nat} (h:S / pw n=0) (hi:S.testBit i=true):i<n:=by
 rcases Wr i n with h2 | h2
 ·exact h2
 ·have h3:S<2^n:=by
   have:=(Nat.div_eq_zero_iff).1 h;rcases this with h4 | h4
   ·grind [eD]
   ·exact h4
  grind [U9,YD,Cd]
theorem Qz {S:Nat} {a:Int} :a∈XJ (S:Int) 63↔ ∃i:Nat,a=(i:Int)/\i<63/\S.testBit i=true:=by
 simp only [XJ,Xj,Ja,ZO]
 constructor
 ·rintro ⟨i,⟨h1,h2⟩,rfl⟩;rw [We S i Za] at h2
  grind
 ·rintro ⟨i,rfl,h1,h2⟩;exact ⟨i,⟨h1,by grind [We]⟩,rfl⟩
structure Alw (x:Inst) (S:Nat):Prop where
 off: ∀i,i<x.orders.length->S.testBit i=true->(nth x.orders i).off=false
 apart:apB x S=false
 closed: ∀p∈x.before,nHas S p.2=true->nHas S p.1=true
 acyc: ∀i,i<x.orders.length->S.testBit i=true-> ¬Ch x.before i i
theorem WY {c:Prop} [Decidable c] {a b:Int} (ha:a≠0):(if c then a else b)=0↔ ¬c/\b=0:=by
 grind
theorem Jx {x:Inst} {S:Nat} (hn:x.orders.length<=60) (hS:S / pw x.orders.length=0) (hv:Val x.orders.length x.before):Y6 x.orders x.apart x.before (S:Int)=0↔Alw x S:=by
 have hlt: ∀i,S.testBit i=true->i<x.orders.length:=fun i h=>MN hS h
 have e0: ¬(S:Int)<0:=Za
 unfold Y6;rw [if_neg e0,WY Za,WY Za,WY Za,WY Za,WY Za];simp only [and_true]
 constructor
 ·rintro ⟨_,h2,h3,h4,h5⟩;simp only [Qc] at h2 h3 h4 h5;rw [WC] at h2 h4 h5;refine ⟨fun i hi hb=> ?_,?_,fun p hp hb=> ?_,fun i hi hb hc=> ?_⟩
  ·have:=h2 (i:Int) (Qz.2 ⟨i,rfl,Za,hb⟩)
   grind
  ·grind [apB,H5]
  ·have:=h4 p hp
   simp_all [H5]
  ·have:=h5 (i:Int) (Qz.2 ⟨i,rfl,Za,hb⟩)
   grind [We,Ub]
 ·rintro ⟨h1,h2,h3,h4⟩;refine ⟨?_,?_,?_,?_,?_⟩
  ·simp only [Qc];rw [WC];intro a ha;obtain ⟨i,rfl,h5,h6⟩:=Qz.1 ha
   grind
  ·simp only [Qc];rw [WC];intro a ha;obtain ⟨i,rfl,h5,h6⟩:=Qz.1 ha
   grind
  ·simp only [H5,Qc];exact h2
  ·simp only [Qc]
   grind [H5]
  ·simp only [Qc];rw [WC];intro a ha;obtain ⟨i,rfl,h5,h6⟩:=Qz.1 ha
   grind [We,Ub]
theorem FQ {f g:Nat->Bool} {b:Nat} : ∀(l:List Nat),(∀a,f a=true->g a=true)->f b=false->g b=true->b∈l->(l.filter f).length<(l.filter g).length
 | [],_,_,_,h=>by simp at h
 | x::l,hfg,hf,hg,h=>by
  have hle: ∀l:List Nat,(l.filter f).length<=(l.filter g).length:=by
   intro l
   induction l with
   | nil=>simp
   | cons y l ih =>
    grind
  simp only [Dh];rcases Z4.1 h with rfl | h
  ·grind
  ·have:=FQ l hfg hf hg h
   grind
theorem MX {n:Nat} {be:List (Int×Int)} (hv:Val n be) {P:Nat->Prop} (hP: ∀i,P i->i<n/\ ¬Ch be i i) {i:Nat} (hi:P i): ∃i,P i/\ ∀p∈be,p.2=(i:Int)-> ¬P p.1.toNat:=by
 suffices h: ∀(k i:Nat),P i->((List.range n).filter fun a=>(nth (Jn n be) i).testBit a).length<k-> ∃i,P i/\ ∀p∈be,p.2=(i:Int)-> ¬P p.1.toNat from h _ i hi (Nat.lt_succ_self _)
 intro k
 induction k with
 | zero=>omega
 | succ k ih =>
  intro i hi hk
  by_cases h: ∃p∈be,p.2=(i:Int)/\P p.1.toNat
  ·obtain ⟨p,hp,h1,h2⟩:=h;obtain ⟨v1,v2,v3,v4⟩:=hv p hp;have hE:Ed be p.1.toNat i:=⟨p,hp,Za,h1⟩;refine ih p.1.toNat h2 (U9 (FQ (b:=p.1.toNat) _ (fun a ha=> ?_) ?_ ?_ ?_) (by omega:((List.range n).filter fun a=>(nth (Jn n be) i).testBit a).length<=k))
   ·exact (Ub hv a i (hP i hi).1).2 (((Ub hv a _ (hP _ h2).1).1 ha).more hE)
   ·grind [Ub]
   ·exact (Ub hv _ i (hP i hi).1).2 (.one hE)
   grind
  grind
theorem Wn {l:List Vis} {v:Vis} :0<=vIx l v↔v∈l:=by
 grind [MZ,vIx]
theorem zG {l:List Vis} {v:Vis} :vIx l v<0↔v ∉ l:=by rw [<- Wn];omega
theorem PM {l own:List Vis} :DI l own=true↔ ∀w∈own,w∈l:=by
 grind [DI,Wn]
theorem Tz {os:List Ord} {l:List Vis} {o:Int} {p:Int×Int} :DQ os l o p=true↔(p.2=o-> ∀w∈Z2 os p.1.toNat,w∈l):=by
 rw [DQ,Vk,PM,Zp]
 grind
theorem TA {x:Inst} {l:List Vis} {o:Int} :x.before.all (DQ x.orders l o)=true↔ ∀p∈x.before,p.2=o-> ∀w∈Z2 x.orders p.1.toNat,w∈l:=by
 simp_all [Tz]
def Vne (x:Inst):Prop:= ∀i,i<x.orders.length->Z2 x.orders i≠ []
inductive Gr (x:Inst) (S:Nat):List Vis->Prop where
 | nil:Gr x S []
 | snoc {l:List Vis} {v:Vis} (h:Gr x S l) (hv:v∈nextU x S l x.orders.length):Gr x S (l++ [v])
theorem NQ (os:List Ord) (i:Nat):(Z2 os i).Nodup:=by
 grind [Av]
theorem dX {os:List Ord} {i:Nat} {l:List Vis} {v:Vis} (hv:v∈Z2 os i):Bw l v (Z2 os i)=true↔(v.drp=true->⟨i,false⟩∈Z2 os i->⟨i,false⟩∈l):=by
 rcases Av os i with h | h | h | h<;>rw [h] at hv ⊢ <;>simp at hv
 ·grind [Bw]
 ·grind [Bw]
 ·rcases hv with rfl | rfl
  ·simp [Bw]
  ·simp [Bw,Wn]
theorem Vo {x:Inst} {l:List Vis} {v:Vis} {i:Nat} (hv:v∈Z2 x.orders i):UB x l v=true↔v ∉ l/\(v.drp=true->⟨i,false⟩∈Z2 x.orders i->⟨i,false⟩∈l)/\ ∀p∈x.before,p.2=(i:Int)-> ∀w∈Z2 x.orders p.1.toNat,w∈l:=by
 have h:=Yt hv;rw [UB,h,Xn,Zs,Zs,Zp,zG,dX hv,TA,UP]
theorem VA {x:Inst} {S:Nat} {l:List Vis} {v:Vis} {k:Nat} :v∈nextU x S l k↔ ∃i,i<k/\S.testBit i=true/\(nth x.orders i).off=false/\v∈Z2 x.orders i/\UB x l v=true:=by
 rw [nextU,XS]
 constructor
 ·grind [Jr]
 ·rintro ⟨i,hi,h1,h2,h3,h4⟩;exact ⟨i,by grind,by simp_all [Jr]⟩
def K5 (x:Inst) (S k:Nat):List Vis:=(List.range k).flatMap fun i=>if S.testBit i=true then Z2 x.orders i else []
theorem FB (x S k):K5 x S (k+1)=K5 x S k++if S.testBit k=true then Z2 x.orders k else []:=by simp [K5,Yq]
theorem Qk (x S): ∀k,(K5 x S k).length=KT x S k
 | 0=>by rfl
 | k+1=>by
  rw [FB,KF,Zy,Qk x S k]
  split<;>simp
theorem Wv {x S k v} :v∈K5 x S k↔ ∃i,i<k/\S.testBit i=true/\v∈Z2 x.orders i:=by
 simp_all [K5]
theorem K6 (x S): ∀k,(K5 x S k).Nodup
 | 0=>by simp [K5]
 | k+1=>by
  rw [FB,A9];refine ⟨K6 x S k,?_,fun a ha b hb=> ?_⟩
  ·grind [NQ]
  ·obtain ⟨i,hi,_,h2⟩:=Wv.1 ha
   split at hb
   ·have h3:=Yt h2;have h4:=Yt hb
    grind
   ·simp at hb
theorem Gr.nodup {x S l} (h:Gr x S l):l.Nodup:=by
 induction h with
 | nil=>simp
 | snoc _ hv ih =>
  obtain ⟨i,_,_,_,h4,h5⟩:=VA.1 hv;rw [A9];refine ⟨ih,Zb,fun a ha b hb=> ?_⟩;simp at hb;subst hb;exact fun e=>((Vo h4).1 h5).1 (e ▸ ha)
theorem Gr.sub {x S l} (h:Gr x S l): ∀v∈l,v∈K5 x S x.orders.length:=by
 induction h with
 | nil=>simp
 | snoc _ hv ih =>
  obtain ⟨i,h1,h2,_,h4,_⟩:=VA.1 hv;intro w hw;rcases Z5.1 hw with hw | hw
  ·exact ih w hw
  ·simp at hw;subst hw;exact Wv.2 ⟨i,h1,h2,h4⟩
theorem Dz {α:Type} [DecidableEq α] {l m:List α} (hl:l.Nodup) (h: ∀v∈l,v∈m):l.length<=m.length:=List.Nodup.length_le_of_subset hl h
theorem yR {α:Type} [DecidableEq α] {l m:List α} (hl:l.Nodup) (h: ∀v∈l,v∈m) (hm:m.length<=l.length): ∀v∈m,v∈l:=fun v hv=>by
 refine Ae fun hno=> ?_
 have:(v::l).length<=m.length:=Dz (by grind) (fun w hw=>by
  grind)
 grind
theorem Gr.len {x S l} (h:Gr x S l):l.length<=KT x S x.orders.length:=by
 rw [<- Qk];exact Dz h.nodup h.sub
theorem Gr.full {x S l} (h:Gr x S l) (hl:l.length=KT x S x.orders.length): ∀v∈K5 x S x.orders.length,v∈l:=yR h.nodup h.sub (by rw [Qk];omega)
theorem Gr.more {x S l} (ha:Alw x S) (hn:x.orders.length<=60) (hv:Val x.orders.length x.before) (hm: ∃v∈K5 x S x.orders.length,v ∉ l): ∃v,v∈nextU x S l x.orders.length:=by
 obtain ⟨v,hva,hvl⟩:=hm;obtain ⟨i,h1,h2,h3⟩:=Wv.1 hva;obtain ⟨j,⟨j1,j2,w,j3,j4⟩,hj⟩:=MX hv (P:=fun i=>i<x.orders.length/\S.testBit i=true/\ ∃w∈Z2 x.orders i,w ∉ l) (fun i hi=>⟨hi.1,ha.acyc i hi.1 hi.2.1⟩) ⟨h1,h2,v,h3,hvl⟩
 have hpre: ∀p∈x.before,p.2=(j:Int)-> ∀w∈Z2 x.orders p.1.toNat,w∈l:=fun p hp e w hw=>by
  refine Ae fun hno=> ?_;obtain ⟨v1,v2,v3,v4⟩:=hv p hp;have:=ha.closed p hp (Et.2 ⟨Za,Za,by grind⟩);exact hj p hp e ⟨Za,(Et.1 this).2.2,w,hw,hno⟩
 by_cases hf:(⟨j,false⟩:Vis)∈Z2 x.orders j/\(⟨j,false⟩:Vis) ∉ l
 ·exact ⟨⟨j,false⟩,VA.2 ⟨j,j1,j2,ha.off j j1 j2,hf.1,(Vo hf.1).2 ⟨hf.2,Zb,hpre⟩⟩⟩
 ·refine ⟨w,VA.2 ⟨j,j1,j2,ha.off j j1 j2,j3,(Vo j3).2 ⟨j4,fun _ hq=> ?_,hpre⟩⟩⟩
  grind
theorem Gr.next_nil {x S l} (h:Gr x S l) (ha:Alw x S) (hn:x.orders.length<=60) (hv:Val x.orders.length x.before):nextU x S l x.orders.length= []↔l.length=KT x S x.orders.length:=by
 constructor
 ·intro e;refine Ae fun hno=> ?_
  have hex: ∃v∈K5 x S x.orders.length,v ∉ l:=Ae fun hno2=>hno (by
   have h1: ∀v∈K5 x S x.orders.length,v∈l:=fun v hv=>Ae fun h3=>hno2 ⟨v,hv,h3⟩;have:=Dz (K6 x S _) h1;rw [Qk] at this;have:=h.len
   omega)
  obtain ⟨v,hv⟩:=Gr.more (l:=l) ha hn hv hex
  grind
 ·intro e;rw [List.eq_nil_iff_forall_not_mem];intro v hv;obtain ⟨i,h1,h2,_,h4,h5⟩:=VA.1 hv;exact ((Vo h4).1 h5).1 (h.full e v (Wv.2 ⟨i,h1,h2,h4⟩))
theorem Pw {x:Inst} {S:Nat} (hne:Vne x) (hS:S / pw x.orders.length=0) (h0:S≠0):0<KT x S x.orders.length:=by
 have: ∃i,S.testBit i=true:=by
  refine Ae fun hno=>h0 (Dj fun i=> ?_)
  grind
 obtain ⟨i,hi⟩:=this;have hlt:=MN hS hi;obtain ⟨v,hv⟩:=List.exists_mem_of_ne_nil _ (hne i hlt);have hm:v∈K5 x S x.orders.length:=Wv.2 ⟨i,hlt,hi,hv⟩
 grind [Qk]
def ext (nx:List Vis->List Vis):Nat->List Vis->List (List Vis)->List (List Vis)
 | 0,l,outs=>if 8192<outs.length then outs else outs++ [l]
 | f+1,l,outs=>if 8192<outs.length then outs else (nx l).foldl (fun acc v=>ext nx f (l++ [v]) acc) outs
theorem Ra {S n:Nat} (hS:S<9223372036854775808) (h: ∀j,j<63->S.testBit j=true->j<n):S / pw n=0:=by
 refine Kj ?_;refine Nat.lt_pow_two_of_testBit S fun i hi=> ?_;rcases Wr i 63 with h2 | h2
 ·grind
 ·exact Cd (U9 hS (YD Za h2:2^63<=2^i))
structure IFacts (x:Inst):Prop where
 len:x.orders.length<=10
 plc:Plc x
 vne:Vne x
 val:Val x.orders.length x.before
 ne: ∀p∈x.before,p.1≠p.2
 aval:Val x.orders.length x.apart
theorem aL {n:Int} {word:List UInt8} {sm:Int×Int->Int×Int->Bool} {l:List (Int×Int)} (h:Qs n word sm l l.length= []): ∀p∈l,R5 n p=true:=by
 intro p hp;obtain ⟨i,hi,rfl⟩:=Z1.1 hp;have h2:=(Uq.1 h).2;rw [List.flatMap_eq_nil_iff] at h2;have h3:=h2 i (by grind)
 grind [Oz,Zg]
theorem YB {x:Inst} (h:InstOk x):IFacts x:=by
 have ho:=h.orders;obtain ⟨h1,h2⟩:=Uq.1 h.rules;have ha:=aL h1;have hb:=aL h2
 have hpl:Plc x:=fun o hm=>by
  obtain ⟨i,hi,rfl⟩:=Z1.1 hm;have:=ho.2 i hi;rw [<- Zg hi];exact ⟨this.pick.1,this.drp.1⟩
 have val: ∀l:List (Int×Int),(∀p∈l,R5 x.orders.length p=true)->Val x.orders.length l:=fun l h p hp=>by
  grind [R5]
 refine ⟨ho.1,hpl,fun i hi=> ?_,val _ hb,fun p hp=> ?_,val _ ha⟩
 ·have h3:=ho.2 i hi;have h4:=hpl _ (Zz hi);have h5:=h3.one
  grind [Z2]
 grind [R5]
theorem Vx {l:List Vis} {o:Int} :hasO l o=true↔ ∃v∈l,v.order=o:=by simp [hasO]
theorem Bp : ∀(l:List Vis) (i:Nat),(Ye l).testBit i=true↔ ∃v∈l,v.order.toNat=i:=by
 have key: ∀(l:List Vis) (s i:Nat),(l.foldl (fun s v=>s|||pw v.order.toNat) s).testBit i=true↔s.testBit i=true\/ ∃v∈l,v.order.toNat=i:=by
  intro l
  induction l with
  | nil=>simp
  | cons v l ih =>
   intro s i;rw [Yh,ih,Kn,Au,Vk,Zp,or_assoc];simp
 grind [Ye]
def Inr (x:Inst) (l:List Vis):Prop:= ∀v∈l,0<=v.order/\v.order<x.orders.length
theorem JU {x:Inst} {l:List Vis} (hi:Inr x l) (hn:x.orders.length<=60) (o:Int) (h:0<=o/\o<=62):nHas (Ye l) o=hasO l o:=by
 rw [W1,Et,Bp,Vx]
 constructor
 ·rintro ⟨h1,h2,v,hv,h3⟩;have:=hi v hv
  grind
 grind
theorem Jj {l:List Vis} (hd:l.Nodup) {k:Nat} (hk:k<l.length):vIx l (nth l k)=(k:Int):=by
 refine MY hk Zb fun j hj=> ?_
 grind [Zg,JI]
theorem DA {l:List Vis} {v:Vis} (h:0<=vIx l v):(vIx l v).toNat<l.length/\nth l (vIx l v).toNat=v:=by
 grind [vIx,Hl,Un,Zg]
theorem zF {l:List Vis} {k:Nat} (hk:k<l.length):0<=vIx l (nth l k)/\vIx l (nth l k)<=(k:Int):=by
 grind [vIx,nth,Zz,Hl,Un]
theorem J1 {l:List Vis} {v:Vis} {i:Nat} (h:v∈l.take i): ∃j,j<i/\j<l.length/\nth l j=v:=by
 obtain ⟨j,hj,rfl⟩:=Z1.1 h;simp at hj;exact ⟨j,Za,Za,by grind [Zg]⟩
theorem Bk {l:List Vis} {i j:Nat} (h:j<i) (hl:j<l.length):nth l j∈l.take i:=by
 grind [Zg,Z1]
theorem E4 {l:List Vis} :CD l=false↔l.Nodup:=by
 rw [CD,WC]
 constructor
 ·intro h;rw [List.nodup_iff_pairwise_ne,JI];intro i j hi hj hij e;have:=h j (by grind);simp only [Zp,Wn] at this;refine this ?_;rw [Zg hj,<- e,<- Zg hi];exact Bk hij hi
 ·intro h j hj;simp only [Zp,Wn]
  grind [J1,Jj]
def Cl (l:List Vis) (b:Int):Int:=Hl (fun v=>decide (v.order=b)) l
theorem Dr {l:List Vis} {b:Int} :0<=Cl l b↔ ∃v∈l,v.order=b:=by
 grind [MZ,Cl]
theorem Dq {l:List Vis} {b:Int} (h:0<=Cl l b):(Cl l b).toNat<l.length/\(nth l (Cl l b).toNat).order=b/\ ∀j,j<(Cl l b).toNat->(nth l j).order≠b:=by
 unfold Cl Hl at h ⊢
 grind [Un,Zg]
theorem xO {l:List Vis} {b:Int} {k:Nat} (hk:k<l.length) (h:(nth l k).order=b):0<=Cl l b/\Cl l b<=(k:Int):=by
 have h0:0<=Cl l b:=Dr.2 ⟨_,Zz hk,h⟩;refine ⟨h0,?_⟩;obtain ⟨h1,h2,h3⟩:=Dq h0
 grind
theorem UK {l:List Vis} {a b:Int} :beforeB l a b=true↔(0<=Cl l b->(∃v∈l,v.order=a)/\ ∀j,j<l.length->(nth l j).order=a->(j:Int)<Cl l b):=by
 unfold beforeB;rw [show Hl (fun v=>decide (v.order=b)) l=Cl l b from rfl]
 by_cases h:Cl l b<0
 ·grind
 ·rw [if_neg h,Zs,Vx]
  have h0:0<=Cl l b:=Za
  obtain ⟨h1,h2,h3⟩:=Dq h0
  have hd:(!hasO (l.drop (Cl l b).toNat) a)=true↔ ∀j,j<l.length->(nth l j).order=a->(j:Int)<Cl l b:=by
   rw [XE,<- Qc,Vx]
   constructor
   ·intro hno j hj e;rcases Int.lt_or_le (j:Int) (Cl l b) with h4 | h4
    ·exact h4
    ·refine absurd ⟨nth l j,?_,e⟩ hno;rw [Zg hj];exact Z1.2 ⟨j-(Cl l b).toNat,by simp;omega,by grind⟩
   ·rintro hall ⟨v,hv,e⟩;obtain ⟨j,hj,rfl⟩:=Z1.1 hv
    grind [Zg]
  grind
structure RightV (x:Inst) (l:List Vis):Prop where
 ne:l≠ []
 inr:Inr x l
 off: ∀v∈l,(nth x.orders v.order.toNat).off=false
 nodup:l.Nodup
 pair: ∀v∈l,pairB x.orders l v=true
 apart: ∀p∈x.apart,¬(hasO l p.1=true/\hasO l p.2=true)
 before: ∀p∈x.before,beforeB l p.1 p.2=true
theorem Sq {x:Inst} {l:List Vis} :Xt x l=0↔RightV x l:=by
 unfold Xt;rw [WY Za,WY Za,WY Za,WY Za,WY Za,WY Za];simp only [and_true,Qc,E4]
 have hin:l.any (V7 x)=false↔Inr x l:=by
  rw [WC];exact ⟨fun h v hv=>by grind [V7],fun h v hv=>by simpa [V7] using h v hv⟩
 constructor
 ·rintro ⟨h1,h2,h3,h4,h5,h6⟩;rw [not_or,Qc,hin] at h1;rw [WC] at h2 h5 h6;refine ⟨fun e=>h1.1 (by rw [e];rfl),h1.2,fun v hv=>by grind,h3,?_,fun p hp=>by grind,fun p hp=>by grind⟩
  grind
 ·intro h;refine ⟨?_,?_,h.nodup,?_,?_,?_⟩
  ·rw [not_or,Qc,hin];exact ⟨fun e=>h.ne (Yo e),h.inr⟩
  ·rw [WC];intro v hv;simp [h.off v hv]
  ·rw [ZH.2 h.pair];simp
  ·rw [WC];intro p hp;simpa using h.apart p hp
  ·rw [WC];intro p hp;simpa using h.before p hp
theorem Gk {os:List Ord} {l:List Vis} {v:Vis} {i:Nat} (h:v.order=(i:Int)):pairB os l v=true↔v∈Z2 os i/\(∀w∈Z2 os i,w∈l)/\((⟨i,false⟩:Vis)∈Z2 os i->(⟨i,true⟩:Vis)∈Z2 os i->vIx l ⟨i,false⟩<vIx l ⟨i,true⟩):=by
 rw [pairB,h,Xn,Zs,Zp,Wn];refine and_congr Iff.rfl ?_
 have hm: ∀w:Vis,-1<vIx l w↔w∈l:=fun w=>by grind [Wn]
 rcases Av os i with e | e | e | e<;>rw [e]
 ·simp [Jz]
 ·simp [Jz,hm]
 ·simp [Jz,hm]
 ·simp only [Jz,UM,Zs,Zp,hm,Z4,W0,Wl,forall_eq_or_imp,forall_eq]
  grind
section
variable {x : Inst} {l : List Vis}
theorem RightV.bit (h:RightV x l) (i:Nat):(Ye l).testBit i=true↔ ∃v∈l,v.order=(i:Int):=by
 rw [Bp];exact ⟨fun ⟨v,hv,e⟩=>⟨v,hv,by have:=h.inr v hv;omega⟩,fun ⟨v,hv,e⟩=>⟨v,hv,Za⟩⟩
theorem RightV.lt (h:RightV x l) (hf:IFacts x):Ye l<9223372036854775808/\Ye l / pw x.orders.length=0:=by
 have h1:Ye l<9223372036854775808:=by
  have:=HN l.length (l:=l) (Zw _) (fun v hv=>by
   rw [X5] at hv;have:=h.inr v hv;have:=hf.len
   simp [SU];omega)
  grind
 refine ⟨h1,Ra h1 fun j _ hj=> ?_⟩;obtain ⟨v,hv,e⟩:=(h.bit j).1 hj;have:=h.inr v hv;omega
theorem RightV.ord (h:RightV x l) (hf:IFacts x):EC l=(((Ye l:Nat):Int),0):=by
 rw [EC,if_pos];rw [ZH];intro v hv;have:=h.inr v hv;have:=hf.len;simp [SU];omega
theorem RightV.pairs (h:RightV x l) {v:Vis} (hv:v∈l): ∃i:Nat,v.order=(i:Int)/\i<x.orders.length/\v∈Z2 x.orders i/\(∀w∈Z2 x.orders i,w∈l)/\((⟨i,false⟩:Vis)∈Z2 x.orders i->(⟨i,true⟩:Vis)∈Z2 x.orders i->vIx l ⟨i,false⟩<vIx l ⟨i,true⟩):=by
 have h1:=h.inr v hv
 have e:v.order=(v.order.toNat:Int):=Za
 exact ⟨v.order.toNat,e,Za,(Gk e).1 (h.pair v hv)⟩
theorem RightV.step (h:RightV x l) {a b:Nat} (hE:Ed x.before a b) (hb:0<=Cl l b):0<=Cl l a/\Cl l a<Cl l b:=by
 obtain ⟨p,hp,e1,e2⟩:=hE;have hbe:=UK.1 (h.before p hp);rw [e1,e2] at hbe;obtain ⟨h1,h2⟩:=hbe hb;have h0:=Dr.2 h1;obtain ⟨g1,g2,_⟩:=Dq h0
 grind
theorem RightV.chain (h:RightV x l) {a b:Nat} (hc:Ch x.before a b) (hb:0<=Cl l b):0<=Cl l a/\Cl l a<Cl l b:=by
 induction hc with
 | one hE=>exact h.step hE hb
 | more _ hE ih =>
  have h1:=h.step hE hb;omega
theorem RightV.alw (h:RightV x l) (hf:IFacts x):Alw x (Ye l):=by
 have hn:x.orders.length<=60:=by have:=hf.len;omega
 refine ⟨fun i hi hb=> ?_,?_,fun p hp hb=> ?_,fun i hi hb hc=> ?_⟩
 ·obtain ⟨v,hv,e⟩:=(h.bit i).1 hb;have:=h.off v hv
  grind
 ·rw [apB,WC];intro p hp;have hv:=hf.aval p hp;rw [JU h.inr hn _ Za,JU h.inr hn _ Za,Zs];exact h.apart p hp
 ·have hv:=hf.val p hp;rw [JU h.inr hn _ Za] at hb ⊢;rw [Vx] at hb ⊢;exact (UK.1 (h.before p hp) (Dr.2 hb)).1
 ·have hb2:=Dr.2 ((h.bit i).1 hb);have:=(h.chain hc hb2).2;omega
theorem RightV.gr (h:RightV x l) (hf:IFacts x): ∀k,k<=l.length->Gr x (Ye l) (l.take k)
 | 0,_=>by simpa using Gr.nil
 | k+1,hk=>by
  have hk2:k<l.length:=Za
  have ih:=h.gr hf k Za
  have e:l.take (k+1)=l.take k++ [nth l k]:=by rw [Yu hk2,Zg hk2]
  rw [e];obtain ⟨i,e1,hi,h1,h2,h3⟩:=h.pairs (Zz hk2);refine .snoc ih (VA.2 ⟨i,hi,(h.bit i).2 ⟨_,Zz hk2,e1⟩,?_,h1,(Vo h1).2 ⟨?_,?_,?_⟩⟩)
  ·have:=h.off _ (Zz hk2)
   grind
  ·intro hm;obtain ⟨j,j1,j2,j3⟩:=J1 hm;have q1:=Jj h.nodup j2;have q2:=Jj h.nodup hk2
   grind
  ·intro hd hq
   have e2:nth l k=⟨i,true⟩:=by rw [NR];grind
   have h4:=h3 hq (by grind);rw [<- e2,Jj h.nodup hk2] at h4;have h5:=Wn.2 (h2 _ hq);obtain ⟨g1,g2⟩:=DA h5;rw [<- g2];exact Bk Za g1
  ·intro p hp hpe w hw;obtain ⟨v1,v2,v3,v4⟩:=hf.val p hp;have hoi:=xO hk2 e1;have hbe:=UK.1 (h.before p hp);rw [hpe] at hbe;obtain ⟨⟨v,hv,ev⟩,h5⟩:=hbe hoi.1;obtain ⟨a,a1,a2,a3,a4,a5⟩:=h.pairs hv
   have:a=p.1.toNat:=Za
   subst this;have hwl:=a4 w hw;obtain ⟨g1,g2⟩:=DA (Wn.2 hwl);have h6:=h5 _ g1 (by rw [g2,Yt hw];omega);rw [<- g2];exact Bk Za g1
theorem RightV.len (h:RightV x l) (hf:IFacts x):l.length=KT x (Ye l) x.orders.length:=by
 have h1:=h.gr hf l.length (Zw _);rw [X5] at h1;have h2:=h1.len
 have h3: ∀v∈K5 x (Ye l) x.orders.length,v∈l:=fun v hv=>by
  obtain ⟨i,i1,i2,i3⟩:=Wv.1 hv;obtain ⟨w,hw,e⟩:=(h.bit i).1 i2;obtain ⟨a,a1,a2,a3,a4,a5⟩:=h.pairs hw
  grind
 have h4:=Dz (K6 _ _ _) h3;rw [Qk] at h4;omega
theorem Gr.at {S:Nat} (h:Gr x S l): ∀k,k<l.length->nth l k∈nextU x S (l.take k) x.orders.length:=by
 induction h with
 | nil=>simp
 | snoc h hv ih =>
  rename_i l v;intro k hk;simp at hk;rcases Wr k l.length with h2 | h2
  ·grind [Zg]
  ·have:k=l.length:=Za
   simp_all [Zg]
theorem Gr.right {S:Nat} (h:Gr x S l) (hf:IFacts x) (ha:Alw x S) (h0:S≠0) (hS:S / pw x.orders.length=0) (hl:l.length=KT x S x.orders.length):RightV x l/\Ye l=S:=by
 have hn:x.orders.length<=60:=by have:=hf.len;omega
 have hfull:=h.full hl
 have hsub: ∀v∈l,∃i:Nat,v.order=(i:Int)/\i<x.orders.length/\S.testBit i=true/\v∈Z2 x.orders i:=fun v hv=>by
  obtain ⟨i,i1,i2,i3⟩:=Wv.1 (h.sub v hv);exact ⟨i,Yt i3,i1,i2,i3⟩
 have hinr:Inr x l:=fun v hv=>by grind
 have hgo: ∀k,k<l.length-> ∃i:Nat,(nth l k).order=(i:Int)/\nth l k∈Z2 x.orders i/\nth l k ∉ l.take k/\((nth l k).drp=true->(⟨i,false⟩:Vis)∈Z2 x.orders i->(⟨i,false⟩:Vis)∈l.take k)/\ ∀p∈x.before,p.2=(i:Int)-> ∀w∈Z2 x.orders p.1.toNat,w∈l.take k:=fun k hk=>by
  obtain ⟨i,i1,i2,i3,i4,i5⟩:=VA.1 (h.at k hk);obtain ⟨r1,r2,r3⟩:=(Vo i4).1 i5;exact ⟨i,Yt i4,i4,r1,r2,r3⟩
 have hbit:Ye l=S:=Dj fun i=>by
  rw [W1,Bp]
  constructor
  ·grind
  ·intro hb;have hi:=MN hS hb;obtain ⟨w,hw⟩:=List.exists_mem_of_ne_nil _ (hf.vne i hi);have:=Yt hw;exact ⟨w,hfull w (Wv.2 ⟨i,hi,hb,hw⟩),Za⟩
 refine ⟨⟨fun e=> ?_,hinr,fun v hv=> ?_,h.nodup,fun v hv=> ?_,fun p hp=> ?_,fun p hp=> ?_⟩,hbit⟩
 ·have:=Pw hf.vne hS h0
  grind
 ·obtain ⟨i,i1,i2,i3,i4⟩:=hsub v hv;rw [i1,Xn];exact ha.off i i2 i3
 ·obtain ⟨i,i1,i2,i3,i4⟩:=hsub v hv;refine (Gk i1).2 ⟨i4,fun w hw=>hfull w (Wv.2 ⟨i,i2,i3,hw⟩),fun hq1 hq2=> ?_⟩;have m2:=Wn.2 (hfull _ (Wv.2 ⟨i,i2,i3,hq2⟩));obtain ⟨g1,g2⟩:=DA m2;obtain ⟨j,j1,j2,j3,j4,j5⟩:=hgo _ g1;rw [g2] at j1 j4
  have:j=i:=by grind
  subst this;obtain ⟨q,q1,q2,q3⟩:=J1 (j4 rfl hq1);have:=(zF q2).2
  grind
 ·have:=ha.apart;rw [apB,WC] at this;have h2:=this p hp;have hv:=hf.aval p hp;rw [<- hbit,JU hinr hn _ Za,JU hinr hn _ Za,Zs] at h2;exact h2
 ·rw [UK];intro hb;have hv:=hf.val p hp;obtain ⟨g1,g2,g3⟩:=Dq hb;obtain ⟨j,j1,j2,j3,j4,j5⟩:=hgo _ g1;have hall:=j5 p hp Za;refine ⟨?_,fun q hq e=> ?_⟩
  ·obtain ⟨w,hw⟩:=List.exists_mem_of_ne_nil _ (hf.vne p.1.toNat Za);exact ⟨w,Q8 (hall w hw),by rw [Yt hw];omega⟩
  ·obtain ⟨i,i1,i2,i3,i4⟩:=hsub _ (Zz hq)
   have:i=p.1.toNat:=Za
   subst this;obtain ⟨q2,r1,r2,r3⟩:=J1 (hall _ i4);have e1:=Jj h.nodup r2;have e2:=Jj h.nodup hq
   grind
end
theorem Om {a b:Int} :WS a b<0↔a<b:=by grind [WS]
def ZfK (r:Rte):Prop:=r.visits.length<=1048576/\r.rests.length<=1048576
end Go.Proofs.YtjkkdmeebhjaiaaGreatDoor.K
namespace Go.Proofs.YtjkkdmeebhjaiaaGreatDoor.K
section
variable {L : Type} (fin : L -> Int) (beats : L -> L -> Bool) (nxt : Nat -> L -> Bool -> Option L) (choices : Nat -> List Bool)
def WU : Option L->List L->Option L
 | b,[]=>b
 | none,x::l=>WU (some x) l
 | some m,x::l=>if fin x<fin m then WU (some x) l else WU (some m) l
theorem Kc : ∀(b:Option L) (l r:List L),WU fin b (l++r)=WU fin (WU fin b l) r
 | b,[],r=>by rfl
 | none,x::l,r=>by rw [ZP,WU,WU,Kc]
 | some m,x::l,r=>by
  rw [ZP,WU,WU]
  split
  ·rw [Kc]
  ·rw [Kc]
theorem WV : ∀(l:List L) (m:L),∃z,WU fin (some m) l=some z/\fin z<=fin m/\ ∀y∈l,fin z<=fin y
 | [],m=>⟨m,rfl,Za,Zb⟩
 | x::l,m=>by
  rw [WU]
  split
  ·rename_i h;obtain ⟨z,e,h1,h2⟩:=WV l x
   grind
  ·rename_i h;obtain ⟨z,e,h1,h2⟩:=WV l m
   grind
theorem I4 : ∀(l:List L) (m:L),(∀y∈l,fin m<=fin y)->WU fin (some m) l=some m
 | [],m,_=>rfl
 | x::l,m,h=>by
  have:=h x List.mem_cons_self;rw [WU,if_neg Za];exact I4 l m fun y hy=>h y (Yp _ hy)
theorem RB (A B:List L) (h: ∀y∈B,∃z∈A,fin z<=fin y):WU fin none (A++B)=WU fin none A:=by
 rw [Kc]
 cases A with
 | nil=>cases B with
  | nil=>rfl
  | cons y B=>grind [List.mem_cons_self]
 | cons a A =>
  rw [WU];obtain ⟨z,e,h1,h2⟩:=WV fin A a;rw [e];refine I4 fin B z fun y hy=> ?_
  grind
def XL : List L->List L->List L
 | out,[]=>out
 | out,x::l=>if out.any (fun m=>beats m x)=true then XL out l else XL (out++ [x]) l
theorem B5 {R:L->List L} : ∀(c out:List L),(∀x∈out++c,∀m∈out++c,beats m x=true-> ∀y∈R x,∃z∈R m,fin z<=fin y)->WU fin none ((XL beats out c).flatMap R)=WU fin none ((out++c).flatMap R)
 | [],out,_=>by simp [XL]
 | x::c,out,h=>by
  rw [XL]
  split
  ·rename_i hb;obtain ⟨m,hm,hb⟩:=Vj.1 hb
   have hb:beats m x=true:=by simpa using hb
   rw [B5 c out (fun a ha b hb=>h a (by simp only [Z5,Z4] at ha ⊢;rcases ha with h | h<;>simp [h]) b (by simp only [Z5,Z4] at hb ⊢;rcases hb with h | h<;>simp [h]))];rw [List.flatMap_append,List.flatMap_append,VL,<- WZ,Kc,Kc (l:=out.flatMap R++R x)];rw [RB fin (out.flatMap R) (R x)];intro y hy;obtain ⟨z,hz,hle⟩:=h x Zb m (by simp [hm]) hb y hy;exact ⟨z,XS.2 ⟨m,hm,hz⟩,hle⟩
  ·rw [B5 c (out++ [x]) (by simpa using h)];simp
theorem Kw : ∀(c out:List L),∀x∈XL beats out c,x∈out++c
 | [],out,x,h=>by grind [XL]
 | a::c,out,x,h=>by
  rw [XL] at h
  split at h
  ·have:=Kw c out x h;simp only [Z5,Z4] at this ⊢;rcases this with h | h<;>simp [h]
  ·have:=Kw c (out++ [a]) x h;simpa using this
def Hk : Nat->Nat->List (List Bool)
 | 0,_=> [[]]
 | j+1,k=>(choices k).flatMap fun b=>(Hk j (k+1)).map (b:: ·)
def WG : Nat->L->List Bool->Option L
 | _,x,[]=>some x
 | k,x,b::bs=>match nxt k x b with
  | some y=>WG (k+1) y bs
  | none=>none
def W2 (j k:Nat) (x:L):List L:=(Hk choices j k).filterMap (WG nxt k x)
def WK (k:Nat) (l:List L):List L:=l.flatMap fun x=>(choices k).filterMap (nxt k x)
def Jp : Nat->Nat->List L->List L
 | 0,_,l=>l
 | j+1,k,l=>Jp j (k+1) (XL beats [] (WK nxt choices k l))
theorem NB (k:Nat) (x:L):W2 nxt choices 0 k x= [x]:=rfl
theorem EK (j k:Nat) (x:L):W2 nxt choices (j+1) k x=((choices k).filterMap (nxt k x)).flatMap (W2 nxt choices j (k+1)):=by
 unfold W2;rw [Hk]
 induction choices k with
 | nil=>rfl
 | cons b bs ih =>
  rw [VL,List.filterMap_append,ih,List.filterMap_cons]
  cases h:nxt k x b with
  | none =>
   simp_all [WG]
  | some y =>
   rw [List.filterMap_map]
   have:(WG nxt k x∘fun l=>b::l)=WG nxt (k+1) y:=by grind [WG]
   grind
theorem Gs {n:Nat} {Inv:Nat->L->Prop} (hI: ∀k x b y,Inv k x->nxt k x b=some y->Inv (k+1) y) (hd: ∀k m x b y,Inv k m->Inv k x->beats m x=true->nxt k x b=some y-> ∃z,nxt k m b=some z/\beats z y=true)
  (he: ∀m x,Inv n m->Inv n x->beats m x=true->fin m<=fin x): ∀(j k:Nat) (m x:L),k+j=n->Inv k m->Inv k x->beats m x=true-> ∀y∈W2 nxt choices j k x,∃z∈W2 nxt choices j k m,fin z<=fin y
 | 0,k,m,x,hk,h1,h2,hb,y,hy=>by
  grind [NB]
 | j+1,k,m,x,hk,h1,h2,hb,y,hy=>by
  rw [EK] at hy ⊢;obtain ⟨q,hq,hy⟩:=XS.1 hy;obtain ⟨b,hbm,hn⟩:=Ur.1 hq;obtain ⟨z,hz,hzb⟩:=hd k m x b q h1 h2 hb hn;obtain ⟨u,hu,hle⟩:=Gs hI hd he j (k+1) z q Za (hI k m b z h1 hz) (hI k x b q h2 hn) hzb y hy
  grind
theorem OO {n:Nat} {Inv:Nat->L->Prop} (hI: ∀k x b y,Inv k x->nxt k x b=some y->Inv (k+1) y) (hd: ∀k m x b y,Inv k m->Inv k x->beats m x=true->nxt k x b=some y-> ∃z,nxt k m b=some z/\beats z y=true)
  (he: ∀m x,Inv n m->Inv n x->beats m x=true->fin m<=fin x): ∀(j k:Nat) (l:List L),k+j=n->(∀x∈l,Inv k x)->WU fin none (Jp beats nxt choices j k l)=WU fin none (l.flatMap (W2 nxt choices j k))
 | 0,k,l,hk,hl=>by
  have:l.flatMap (W2 nxt choices 0 k)=l:=by
   have:W2 nxt choices 0 k=fun x=> [x]:=by rfl
   rw [this];simp
  rw [this];rfl
 | j+1,k,l,hk,hl=>by
  have hc: ∀x∈WK nxt choices k l,Inv (k+1) x:=fun x hx=>by
   obtain ⟨q,hq,hx⟩:=XS.1 hx
   grind
  have e:l.flatMap (W2 nxt choices (j+1) k)=(WK nxt choices k l).flatMap (W2 nxt choices j (k+1)):=by
   rw [WK,List.flatMap_assoc]
   congr 1
   grind [EK]
  rw [Jp,OO hI hd he j (k+1) _ Za (fun x hx=>hc x (by simpa using Kw beats _ _ x hx)),B5 fin beats _ _ (fun x hx m hm hb y hy=> ?_),e]
  ·simp
  ·exact Gs fin beats nxt choices hI hd he j (k+1) m x Za (hc m (by grind)) (hc x (by grind)) hb y hy
def YM : List Bool->List (List Bool)
 | []=> [[]]
 | b::bs=>if b then (YM bs).map (true:: ·) else (YM bs).map (false:: ·)++(YM (List.replicate bs.length false)).map (true:: ·)
termination_by l => l.length
decreasing_by all_goals simp
def JP : List Bool->Option (List Bool)
 | []=>none
 | b::bs=>match JP bs with
  | some l=>some (b::l)
  | none=>if b then none else some (true::List.replicate bs.length false)
theorem Vh : ∀l:List Bool,YM l=l::(match JP l with | some r=>YM r | none=> [])
 | []=>by simp [YM,JP]
 | b::bs=>by
  have ih:=Vh bs
  have e0: ∀l:List Bool,YM (true::l)=(YM l).map (true:: ·):=fun l=>by rw [YM];simp
  have e1: ∀l:List Bool,YM (false::l)=(YM l).map (false:: ·)++(YM (List.replicate l.length false)).map (true:: ·):=fun l=>by rw [YM];simp
  cases b with
  | true =>
   rw [e0,ih,JP]
   cases h:JP bs with
   | none=>simp
   | some r=>simp [e0]
  | false =>
   rw [e1,ih,JP]
   cases h:JP bs with
   | none=>simp [e0]
   | some r =>
    have hl:r.length=bs.length:=nlen bs r h;simp [e1,hl]
where nlen : ∀(l r:List Bool),JP l=some r->r.length=l.length
 | [],r,h=>by simp [JP] at h
 | b::bs,r,h=>by
  rw [JP] at h
  cases h2:JP bs with
  | none =>
   grind
  | some q =>
   rw [h2] at h;simp at h;subst h;simp [nlen bs q h2]
theorem IX {n:Nat} : ∀(j k:Nat),(∀q,k<=q->choices q= [false,true])->Hk choices j k=YM (List.replicate j false)
 | 0,k,_=>by simp [Hk,YM]
 | j+1,k,h=>by
  rw [Hk,h k (Zw _),IX (n:=n) j (k+1) (fun q hq=>h q Za),Ki,YM];simp
end
end Go.Proofs.YtjkkdmeebhjaiaaGreatDoor.K
namespace Go.Proofs.YtjkkdmeebhjaiaaGreatDoor.K
open Go Go.AM Go.Proofs
def Gf (x:Inst) (l:List Vis) (n i:Nat):Bool:=(l.take n).foldl (fun on v=>if v.order=(i:Int) then !v.drp else on) (decide ((nth x.orders i).pick.place<0))
theorem cU {x:Inst} {l:List Vis} {i:Nat} :Gf x l 0 i=decide ((nth x.orders i).pick.place<0):=by simp [Gf]
theorem EA {x:Inst} {l:List Vis} {n i:Nat} (h:n<l.length):Gf x l (n+1) i=if (nth l n).order=(i:Int) then !(nth l n).drp else Gf x l n i:=by
 grind [Gf,Yu,Zg]
structure SqOk (x:Inst) (l:List Vis):Prop where
 ne:l≠ []
 inr:Inr x l
 nd:l.Nodup
 pair: ∀v∈l,pairB x.orders l v=true
theorem Vr {x:Inst} {l:List Vis} (h:Xt x l=0):SqOk x l:=by
 unfold Xt at h
 split at h
 ·simp at h
 ·rename_i h1
  split at h
  ·simp at h
  ·split at h
   ·simp at h
   ·rename_i h3
    split at h
    ·simp at h
    ·rename_i h4;refine ⟨fun e=>h1 (.inl (by simp [e])),fun v hv=> ?_,E4.1 (by grind),fun v hv=> ?_⟩
     ·grind [V7]
     grind
structure OwnV (x:Inst) (l:List Vis) (i:Nat):Prop where
 pick:0<=(nth x.orders i).pick.place->(⟨i,false⟩:Vis)∈l
 drp:0<=(nth x.orders i).drp.place->(⟨i,true⟩:Vis)∈l
 both:0<=(nth x.orders i).pick.place->0<=(nth x.orders i).drp.place->vIx l ⟨i,false⟩<vIx l ⟨i,true⟩
 isP:(⟨i,false⟩:Vis)∈l->0<=(nth x.orders i).pick.place
 isD:(⟨i,true⟩:Vis)∈l->0<=(nth x.orders i).drp.place
theorem SqOk.own {x:Inst} {l:List Vis} (h:SqOk x l) {i:Nat} (hi: ∃v∈l,v.order=(i:Int)):OwnV x l i:=by
 obtain ⟨v0,hv0,ho⟩:=hi
 have key: ∀v∈l,v.order=(i:Int)->v∈Z2 x.orders i/\Jz l (-1) (Z2 x.orders i)=true:=fun v hv hvo=>by
  have:=h.pair v hv;simp only [pairB,hvo,Xn,Zs,Zp] at this;exact ⟨Wn.1 this.1,this.2⟩
 obtain ⟨_,hasc⟩:=key v0 hv0 ho;have mem: ∀b:Bool,(⟨i,b⟩:Vis)∈l->(⟨i,b⟩:Vis)∈Z2 x.orders i:=fun b hb=>(key _ hb rfl).1
 have hp:(⟨i,false⟩:Vis)∈Z2 x.orders i->0<=(nth x.orders i).pick.place:=fun hm=>by
  unfold Z2 at hm
  grind
 have hd:(⟨i,true⟩:Vis)∈Z2 x.orders i->0<=(nth x.orders i).drp.place:=fun hm=>by
  unfold Z2 at hm
  grind
 have m1: ∀v,-1<vIx l v->v∈l:=fun v hv=>Wn.1 Za;unfold Z2 at hasc
 by_cases c1:0<=(nth x.orders i).pick.place<;>by_cases c2:0<=(nth x.orders i).drp.place
 ·simp only [c1,c2,if_true,ZP,ZA,Jz,UM,Zs,Zp] at hasc;exact ⟨fun _=>m1 _ hasc.1,fun _=>m1 _ Za,fun _ _=>hasc.2,fun _=>c1,fun _=>c2⟩
 ·simp only [c1,c2,if_true,Ys,VM,Jz,UM,Zp] at hasc;exact ⟨fun _=>m1 _ hasc,fun h=>absurd h c2,fun _ h=>absurd h c2,fun _=>c1,fun hm=>hd (mem _ hm)⟩
 ·simp only [c1,c2,if_true,Ys,ZA,Jz,UM,Zp] at hasc;exact ⟨fun h=>absurd h c1,fun _=>m1 _ hasc,fun h=>absurd h c1,fun hm=>hp (mem _ hm),fun _=>c2⟩
 ·exact ⟨fun h=>absurd h c1,fun h=>absurd h c2,fun h=>absurd h c1,fun hm=>hp (mem _ hm),fun hm=>hd (mem _ hm)⟩
theorem QF {l:List Vis} (hn:l.Nodup) {v:Vis} {n:Nat} :v∈l.take n↔0<=vIx l v/\vIx l v<(n:Int):=by
 constructor
 ·intro h;obtain ⟨j,h1,h2,rfl⟩:=J1 h
  grind [Jj]
 ·intro ⟨h1,h2⟩;obtain ⟨h3,h4⟩:=DA h1
  grind [Bk]
theorem cR {x:Inst} {l:List Vis} (h:SqOk x l) (i:Nat): ∀n,n<=l.length->Gf x l n i=if (⟨i,true⟩:Vis)∈l.take n then false else if (⟨i,false⟩:Vis)∈l.take n then true else decide ((nth x.orders i).pick.place<0)
 | 0,_=>by simp [Gf]
 | n+1,hn=>by
  have hk:n<l.length:=Za
  have hat:=Jj h.nd hk;rw [EA hk,cR h i n Za]
  by_cases c:(nth l n).order=(i:Int)
  ·rw [if_pos c];have ho:=h.own (i:=i) ⟨nth l n,Zz hk,c⟩
   cases hd:(nth l n).drp with
   | true =>
    have hv:nth l n=⟨i,true⟩:=by rw [<- c,<- hd]
    rw [hv] at hat;have:(⟨i,true⟩:Vis)∈l.take (n+1):=(QF h.nd).2 Za;rw [if_pos this];rfl
   | false =>
    have hv:nth l n=⟨i,false⟩:=by rw [<- c,<- hd]
    rw [hv] at hat;have h1:(⟨i,false⟩:Vis)∈l.take (n+1):=(QF h.nd).2 Za
    have h2: ¬(⟨i,true⟩:Vis)∈l.take (n+1):=fun hm=>by
     have h3:=Q8 hm;have h4:=(QF h.nd).1 hm;have h5:=ho.both (ho.isP (Q8 h1)) (ho.isD h3);omega
    rw [if_neg h2,if_pos h1];rfl
  ·rw [if_neg c]
   have e: ∀b:Bool,((⟨i,b⟩:Vis)∈l.take (n+1))=((⟨i,b⟩:Vis)∈l.take n):=fun b=>by
    rw [Yu hk,Z5,<- Zg hk];refine propext ⟨fun hm=>hm.resolve_right fun hm=> ?_,.inl⟩;simp at hm;exact c (by rw [<- hm])
   simp only [e]
theorem xS {x:Inst} {l:List Vis} (h:SqOk x l) {k i:Nat} (hk:k<l.length) (hi:(nth l k).order=(i:Int)):Gf x l k i=(nth l k).drp:=by
 have hat:=Jj h.nd hk;have ho:=h.own (i:=i) ⟨nth l k,Zz hk,hi⟩;have hm:=Zz hk;rw [cR h i k Za]
 cases hd:(nth l k).drp with
 | true =>
  have hv:nth l k=⟨i,true⟩:=by rw [<- hi,<- hd]
  rw [hv] at hat hm
  have h1: ¬(⟨i,true⟩:Vis)∈l.take k:=fun hm=>by have:=(QF h.nd).1 hm;omega
  rw [if_neg h1]
  by_cases c:0<=(nth x.orders i).pick.place
  ·have h2:=ho.both c (ho.isD hm);have h3:(⟨i,false⟩:Vis)∈l.take k:=(QF h.nd).2 ⟨Wn.2 (ho.pick c),Za⟩
   grind
  grind
 | false =>
  have hv:nth l k=⟨i,false⟩:=by rw [<- hi,<- hd]
  rw [hv] at hat hm;have hp:=ho.isP hm
  have h1: ¬(⟨i,false⟩:Vis)∈l.take k:=fun hm=>by have:=(QF h.nd).1 hm;omega
  grind
theorem nO {f g:Nat->Int} {i:Nat} (h: ∀q,q≠i->f q=g q): ∀n,i<n->((List.range n).map f).sum=((List.range n).map g).sum+(f i-g i):=by
 have same: ∀n,n<=i->((List.range n).map f).sum=((List.range n).map g).sum:=fun n hn=>by
  grind [Y3]
 intro n
 induction n with
 | zero=>omega
 | succ n ih =>
  intro hi;simp only [Yq,Yg,Zt,Zm,List.sum_append,List.sum_cons,List.sum_nil]
  grind
theorem Pv {f:Nat->Int} {b:Int} (hb:0<=b) (h: ∀q,0<=f q/\f q<=b): ∀n:Nat,0<=((List.range n).map f).sum/\((List.range n).map f).sum<=b*n
 | 0=>Zb
 | n+1=>by
  have ih:=Pv hb h n
  grind [Yq]
theorem As {p:Nat->Bool} {f:Nat->Int} : ∀l:List Nat,((l.filter p).map f).sum=(l.map fun i=>if p i=true then f i else 0).sum
 | []=>rfl
 | a::l=>by
  rw [Dh,Zt,List.sum_cons]
  by_cases h:p a=true
  ·rw [if_pos h,Zt,List.sum_cons,As l,if_pos h]
  ·rw [if_neg h,As l,if_neg h];omega
def CA (x:Inst) (l:List Vis) (n j:Nat):Int:=((List.range x.orders.length).map fun i=>if (Gf x l n i&&hasO l i)=true then nth (nth x.orders i).load j else 0).sum
theorem GD {x:Inst} {l:List Vis} (h:SqOk x l) {k j:Nat} (hk:k<l.length):CA x l (k+1) j=if (nth l k).drp=true then CA x l k j-nth (nth x.orders (nth l k).order.toNat).load j else CA x l k j+nth (nth x.orders (nth l k).order.toNat).load j:=by
 obtain ⟨v1,v2⟩:=h.inr _ (Zz hk);obtain ⟨i,hi⟩: ∃i:Nat,(nth l k).order=(i:Int):=⟨(nth l k).order.toNat,Za⟩;have hh:hasO l (i:Int)=true:=Vx.2 ⟨_,Zz hk,hi⟩;have h1:=xS h hk hi
 have h2:Gf x l (k+1) i= !(nth l k).drp:=by simp_all [EA]
 unfold CA
 rw [nO (f:=fun i=>if (Gf x l (k+1) i&&hasO l i)=true then nth (nth x.orders i).load j else 0) (g:=fun i=>if (Gf x l k i&&hasO l i)=true then nth (nth x.orders i).load j else 0) (i:=i) (fun q hq=>by
  have:Gf x l (k+1) q=Gf x l k q:=by rw [EA hk,if_neg Za]
  grind) x.orders.length Za]
 grind
def Wy (x:Inst) (l:List Vis) (n:Nat):List Int:=(List.range (dimsOf x.types).toNat).map fun j=>CA x l n j
def DF (a b:List Int):List Int:=(List.range a.length).map fun j=>nth a j+nth b j
def nN (a b:List Int):List Int:=(List.range a.length).map fun j=>nth a j-nth b j
theorem Io {x:Inst} {l:List Vis} {n:Nat} :(Wy x l n).length=(dimsOf x.types).toNat:=by simp [Wy]
theorem JS {f:Nat->Int} {n j:Nat} (h:j<n):nth ((List.range n).map f) j=f j:=by
 grind [Zg]
theorem PJ {x:Inst} {l:List Vis} (h:SqOk x l) {k:Nat} (hk:k<l.length):Wy x l (k+1)=if (nth l k).drp=true then nN (Wy x l k) (nth x.orders (nth l k).order.toNat).load else DF (Wy x l k) (nth x.orders (nth l k).order.toNat).load:=by
 have key: ∀g:Nat->Int,(∀j,j<(dimsOf x.types).toNat->CA x l (k+1) j=g j)->Wy x l (k+1)=(List.range (dimsOf x.types).toNat).map g:=fun g hg =>
  Y3 fun j hj=>hg j (ZO.1 hj)
 split
 ·simp_all [nN,GD,Wy,JS]
 simp_all [DF,GD,Wy,JS]
set_option maxRecDepth 8000
section
variable {σ : Type}
def Mq (nx:List Vis->List Vis):Nat->List Vis->List (List Vis)
 | 0,l=> [l]
 | f+1,l=>if nx l= [] then [l] else (nx l).flatMap fun v=>Mq nx f (l++ [v])
def xL (nx:List Vis->List Vis) (go:σ->Vis->σ) (emp:σ->Bool):Nat->List Vis->σ->List (List Vis)
 | 0,l,_=> [l]
 | f+1,l,s=>(nx l).flatMap fun v=>if emp (go s v)=true then [] else xL nx go emp f (l++ [v]) (go s v)
theorem OU {nx:List Vis->List Vis} : ∀(f:Nat) (l m:List Vis),m∈Mq nx f l-> ∃r,m=l++r
 | 0,l,m,h=>by simp_all [Mq]
 | f+1,l,m,h=>by
  rw [Mq] at h
  split at h
  ·simp_all
  ·obtain ⟨v,_,h⟩:=XS.1 h;obtain ⟨r,rfl⟩:=OU f _ m h;simp
theorem VJ {α β:Type} {p:β->Bool} {g:α->List β} : ∀l:List α,(l.flatMap g).filter p=l.flatMap fun a=>(g a).filter p
 | []=>rfl
 | a::l=>by rw [VL,VL,List.filter_append,VJ l]
theorem AO {α β:Type} {g h:α->List β} : ∀ {l:List α},(∀a∈l,g a=h a)->l.flatMap g=l.flatMap h
 | [],_=>rfl
 | a::l,e=>by rw [VL,VL,e a Zb,AO fun b hb=>e b (Yp _ hb)]
theorem pP {nx:List Vis->List Vis} {go:σ->Vis->σ} {emp:σ->Bool} {ok:List Vis->Bool} {G:List Vis->Prop} {R:List Vis->σ->Prop} {tot:Nat}
  (hG: ∀l v,G l->v∈nx l->G (l++ [v])) (hR: ∀l s v,G l->R l s->v∈nx l->R (l++ [v]) (go s v)) (hE: ∀l s,G l->R l s->emp s=true-> ∀r,ok (l++r)=false)
  (hN: ∀l,G l->l.length<tot->nx l≠ []): ∀(f:Nat) (l:List Vis) (s:σ),G l->R l s->l.length+f=tot->(Mq nx f l).filter ok=(xL nx go emp f l s).filter ok
 | 0,l,s,_,_,_=>rfl
 | f+1,l,s,hl,hs,ht=>by
  rw [Mq,xL,if_neg (hN l hl Za),VJ,VJ];refine AO fun v hv=> ?_;have h1:=hG l v hl hv;have h2:=hR l s v hl hs hv
  split
  ·rename_i he;rw [List.filter_nil,List.filter_eq_nil_iff];intro m hm;obtain ⟨r,rfl⟩:=OU f _ m hm
   grind
  ·exact pP hG hR hE hN f _ _ h1 h2 (by simp;omega)
def Wm (ok:List Vis->Bool) (col:List Vis->Col) (better:Col->Col->Bool) (b:Col×Bool) (l:List Vis):Col×Bool:=if ok l=true/\(b.2=false\/better (col l) b.1=true) then (col l,true) else b
theorem UU {ok:List Vis->Bool} {col:List Vis->Col} {better:Col->Col->Bool} : ∀(L:List (List Vis)) (b:Col×Bool),L.foldl (Wm ok col better) b=(L.filter ok).foldl (Wm ok col better) b
 | [],b=>rfl
 | l::L,b=>by
  rw [Yh,Dh]
  split
  ·rw [Yh];exact UU L _
  ·rename_i h;rw [Wm,if_neg (fun g=>h g.1)];exact UU L b
end
set_option maxHeartbeats 8000000
theorem EH (l:List Pt) (c d:Bool) (hl:l.length<=1048576):PC 68 [.p (.list c (l.map Fs)),.p (.list d (l.map Fs))] (.bool true):=by
 refine Zc Tryz.func68 rfl ZeP ?_;simp (disch:=omega) only [Tryz.f68,go_sem,seval];refine Zn [0,1] (fun k:Nat=> [(5,.p (.int .i64 k))]) (fun _=> []) (fun k=>k<=l.length) (fun k=>l.length-k) 0 Zb (Weak.mk ?_) ?_
 ·simp (disch:=omega) only [go_sem,seval,↓reduceIte]
 ·intro k hk;refine Zd ?_;refine cD ?_ ?_<;>intro h<;>simp (disch:=omega) only [Sh.out h,go_sem,seval,↓reduceIte]
  ·have hk2:k<l.length:=Za
   refine XN (Zd ?_);exact ⟨k+1,Za,Za,wk⟩
theorem Gl (l:List (Int×Int)) (c d:Bool) (hl:l.length<=1048576):PC 36 [.p (.list c (l.map eP)),.p (.list d (l.map eP))] (.bool true):=by
 refine Zc Tryz.func36 rfl Zeu ?_;simp (disch:=omega) only [Tryz.f36,go_sem,seval];refine Zn [0,1] (fun k:Nat=> [(5,.p (.int .i64 k))]) (fun _=> []) (fun k=>k<=l.length) (fun k=>l.length-k) 0 Zb (Weak.mk ?_) ?_
 ·simp (disch:=omega) only [go_sem,seval,↓reduceIte]
 ·intro k hk;refine Zd ?_;refine cD ?_ ?_<;>intro h<;>simp (disch:=omega) only [Sh.out h,go_sem,seval,↓reduceIte]
  ·have hk2:k<l.length:=Za
   refine XN (Zd ?_);exact ⟨k+1,Za,Za,wk⟩
theorem Sy (l:List Int) (c d:Bool) (hl:l.length<=1048576):PC 69 [.p (.list c (l.map eI)),.p (.list d (l.map eI))] (.bool true):=by
 refine Zc Tryz.func69 rfl ZeQ ?_;simp (disch:=omega) only [Tryz.f69,go_sem,seval];refine Zn [0,1] (fun k:Nat=> [(5,.p (.int .i64 k))]) (fun _=> []) (fun k=>k<=l.length) (fun k=>l.length-k) 0 Zb (Weak.mk ?_) ?_
 ·simp (disch:=omega) only [go_sem,seval,↓reduceIte]
 ·intro k hk;refine Zd ?_;refine cD ?_ ?_<;>intro h<;>simp (disch:=omega) only [Sh.out h,go_sem,seval,↓reduceIte]
  ·have hk2:k<l.length:=Za
   refine XN (Zd ?_);exact ⟨k+1,Za,Za,wk⟩
theorem fA (t:Typ) (c d:Bool) (hl:t.cap.length<=1048576):PC 34 [.p (XY { t with cap_c:=c }),.p (XY { t with cap_c:=d })] (.bool true):=by
 refine Zc Tryz.func34 rfl Zes ?_;simp (disch:=omega) only [Tryz.f34,go_sem,seval];refine XG [8] [2,3] (fun k:Nat=> [(5,.p (.int .i64 k))]) (fun _=> [YG { t with cap_c:=c },YG { t with cap_c:=d }]) (fun k=>k<=t.cap.length) (fun k=>t.cap.length-k) 0 Zb (Weak.mk ?_) ?_
 ·simp (disch:=omega) only [YG,go_sem,seval]
 ·intro k hk;simp (disch:=omega) only [YG,go_sem,seval];refine cD ?_ ?_<;>intro h<;>simp (maxSteps:=3000000) (disch:=omega) only [Sh.out h,go_sem,seval,↓reduceIte]
  ·have hk2:k<t.cap.length:=Za
   refine XN (Zd ?_);exact ⟨k+1,Za,Za,wk⟩
theorem fB (o:Ord) (hl:o.load.length<=1048576):PC 35 [.p (Yc o),.p (Yc o)] (.bool true):=by
 refine Zc Tryz.func35 rfl Zet ?_;simp (maxSteps:=3000000) (disch:=omega) only [Tryz.f35,go_sem,seval,↓reduceIte];refine (Sy o.load o.load_c o.load_c hl).use ?_;simp (maxSteps:=3000000) (disch:=omega) only [go_sem,seval,↓reduceIte]
theorem cM (n:Net) (hw:n.wf 1048576):PC 33 [.p (B1 n),.p (B1 n)] (.bool true):=by
 have hp:=hw.1;have ha:=hw.2.2.1;have haw:=hw.2.2.2;refine Zc Tryz.func33 rfl Zer ?_;simp (disch:=omega) only [Tryz.f33,go_sem,seval];refine Zn [2,3] (fun k:Nat=> [(5,.p (.int .i64 k))]) (fun _=>ZU n++ZU n) (fun k=>k<=n.places.length) (fun k=>n.places.length-k) 0 Zb (Weak.mk ?_) ?_
 ·simp (disch:=omega) only [ZU,ZP,ZA,go_sem,seval]
 ·intro k hk;simp (disch:=omega) only [ZU,ZP,ZA,go_sem,seval];refine cD ?_ ?_<;>intro h<;>simp (disch:=omega) only [Sh.out h,go_sem,seval,↓reduceIte]
  ·have hk2:k<n.places.length:=Za
   refine XN (Zd ?_);exact ⟨k+1,Za,Za,wk⟩
  ·have hkl:k=n.places.length:=Za
   subst hkl;clear hk h;refine Zn [2,3] (fun k:Nat=> [(6,.p (.int .i64 k))]) (fun _=>ZU n++ZU n) (fun k=>k<=n.arcs.length) (fun k=>n.arcs.length-k) 0 Zb (Weak.mk ?_) ?_
   ·simp (disch:=omega) only [ZU,ZP,ZA,go_sem,seval]
   ·intro k hk;simp (disch:=omega) only [ZU,ZP,ZA,go_sem,seval];refine cD ?_ ?_<;>intro h<;>simp (disch:=omega) only [Sh.out h,go_sem,seval,↓reduceIte]
    ·have hk2:k<n.arcs.length:=Za
     have hak:=haw _ (Zz hk2);have ht:(nth n.arcs k).travel.length<=1048576:=hak.2.2.2.2.1;have hs:(nth n.arcs k).slow.length<=1048576:=hak.2.2.2.2.2.2.1;refine (EH (nth n.arcs k).travel (nth n.arcs k).travel_c (nth n.arcs k).travel_c ht).use (Zd ?_);refine (EH (nth n.arcs k).slow (nth n.arcs k).slow_c (nth n.arcs k).slow_c hs).use (Zd ?_);exact ⟨k+1,Za,Za,wk⟩
theorem fC (n:Net) (ts us:List Typ) (os:List Ord) (ap be:List (Int×Int)) (c1 c2 c3 c4 d1 d2 d3 d4:Bool) (hn:n.wf 1048576) (htl:ts.length=us.length) (hts: ∀k,k<ts.length->(∃c,nth ts k= { nth us k with cap_c:=c })/\(nth us k).cap.length<=1048576)
  (hl:us.length<=1048576) (ho:os.length<=1048576) (how: ∀o∈os,o.load.length<=1048576) (ha:ap.length<=1048576) (hb:be.length<=1048576) :
  PC 12 [.p (ZW ⟨n,c1,ts,c2,os,c3,ap,c4,be⟩),.p (ZW ⟨n,d1,us,d2,os,d3,ap,d4,be⟩)] (.bool true):=by
 refine Zc Tryz.func12 rfl Zei ?_;simp (disch:=omega) only [Tryz.f12,go_sem,seval];refine (cM n hn).use (Zd ?_);simp (disch:=omega) only [htl,go_sem,seval];refine Zn [2,3] (fun k:Nat=> [(5,.p (.int .i64 k))]) (fun _=> [Zh ⟨n,c1,ts,c2,os,c3,ap,c4,be⟩,Zh ⟨n,d1,us,d2,os,d3,ap,d4,be⟩]) (fun k=>k<=ts.length) (fun k=>ts.length-k) 0 Zb (Weak.mk ?_) ?_
 ·simp (disch:=omega) only [Zh,go_sem,seval]
 ·intro k hk;refine UE ?_;refine cD ?_ ?_<;>intro h<;>simp (disch:=omega) only [Sh.out h,go_sem,seval,↓reduceIte]
  ·have hk2:k<ts.length:=Za
   obtain ⟨⟨c,e⟩,hcl⟩:=hts k hk2;have c10:=fA (nth us k) c (nth us k).cap_c hcl;rw [<- e] at c10;refine XN (Zd ?_);refine Zo (c10) (Zd ?_);exact ⟨k+1,Za,Za,wk⟩
  ·refine Zn [2,3] (fun k:Nat=> [(6,.p (.int .i64 k))]) (fun _=> [Zh ⟨n,c1,ts,c2,os,c3,ap,c4,be⟩,Zh ⟨n,d1,us,d2,os,d3,ap,d4,be⟩]) (fun k=>k<=os.length) (fun k=>os.length-k) 0 Zb (Weak.mk ?_) ?_
   ·simp (disch:=omega) only [Zh,go_sem,seval]
   ·intro k hk;refine UE ?_;refine cD ?_ ?_<;>intro h<;>simp (disch:=omega) only [Sh.out h,go_sem,seval,↓reduceIte]
    ·have hk2:k<os.length:=Za
     refine XN (Zd ?_);refine Zo (fB (nth os k) (how _ (Zz hk2))) (Zd ?_);exact ⟨k+1,Za,Za,wk⟩
    ·refine (Gl ap c3 d3 ha).use (Zd ?_);refine (Gl be c4 d4 hb).use ?_;simp (disch:=omega) only [go_sem,seval,↓reduceIte]
def BG (l:List Pt) (t:Int) (i:Nat):Bool:=decide ((nth l i).t<=t)&&decide (t<(nth l (i+1)).t)
def H7 (p q:Pt) (t:Int):Int:=p.a+((t-p.t)*(q.a-p.a)+q.t-p.t-1) / (q.t-p.t)
def Jy (l:List Pt) (t:Int):Int:=match (List.range (l.length-1)).find? (BG l t) with
 | some i=>H7 (nth l i) (nth l (i+1)) t
 | none=>if (nth l 0).t<t then t+(nth l (l.length-1)).a-(nth l (l.length-1)).t else t+(nth l 0).a-(nth l 0).t
theorem N7 {l:List Pt} {t:Int} {i:Nat} (hi:i+1<l.length) (hno: ∀j,j<i->BG l t j=false) (h:BG l t i=true):Jy l t=H7 (nth l i) (nth l (i+1)) t:=by
 have:(List.range (l.length-1)).find? (BG l t)=some i:=by
  grind [HB]
 rw [Jy,this]
theorem G2 {l:List Pt} {t:Int} (hno: ∀j,j+1<l.length->BG l t j=false):Jy l t=if (nth l 0).t<t then t+(nth l (l.length-1)).a-(nth l (l.length-1)).t else t+(nth l 0).a-(nth l 0).t:=by
 grind [Jy]
theorem LW {p q:Pt} {t:Int} (h1:p.t<=t) (h2:t<q.t) (hp:0<=p.t) (hq:q.t<=4096) (ha:p.a<=q.a) (hpa:0<=p.a) (hqa:q.a<=8192):0<=(t-p.t)*(q.a-p.a)/\(t-p.t)*(q.a-p.a)<=33554432:=by
 refine ⟨Qd Za Za,?_⟩;have:(t-p.t)*(q.a-p.a)<=4096*8192:=Uu Za Za Za Za;omega
theorem Z0 {α:Type} [Inhabited α] {l:List α} {i:Nat} (h:i<l.length):nth l i∈l:=by grind [Zg]
def rC (a:Arc):Prop:=WM a.travel/\a.slow.length<=16/\ ∀p∈a.slow,0<=p.t/\p.t<=4096/\0<=p.a/\p.a<=4096
def KZ (l:List Pt) (t:Int) (k:Nat):Int:=(l.take k).foldl (fun s p=>if p.t<=t then s+p.a else s) 0
def PU (a:Arc) (t:Int):Int:=Jy a.travel t+KZ a.slow t a.slow.length
theorem E0 {l:List Pt} {t:Int} {k:Nat} (h:k<l.length):KZ l t (k+1)=if (nth l k).t<=t then KZ l t k+(nth l k).a else KZ l t k:=by
 grind [KZ,Yu,Zg]
theorem KB {l:List Pt} {t:Int} (hl: ∀p∈l,0<=p.a/\p.a<=4096): ∀k,k<=l.length->0<=KZ l t k/\KZ l t k<=4096*k
 | 0,_=>by simp [KZ]
 | k+1,h=>by
  have ih:=KB (t:=t) hl k Za
  grind [Z0,E0]
theorem Ix {l:List Pt} {t:Int} (hl:WM l) (ht:0<=t/\t<=1073741824):0<=Jy l t/\Jy l t<=1107304448:=by
 obtain ⟨⟨hl1,hl2⟩,hpt⟩:=hl;unfold Jy
 split
 ·rename_i i hi;have hm:=U7 hi;have hs:=Q5 hi;simp at hm;simp only [BG,Zs,Zp] at hs;obtain ⟨⟨p1,p2,p3,p4⟩,_⟩:=hpt i Za;obtain ⟨⟨q1,q2,q3,q4⟩,q5⟩:=hpt (i+1) Za;obtain ⟨r1,r2⟩:=q5 Za;rw [Nat.add_sub_cancel] at r1 r2;obtain ⟨s1,s2⟩:=LW hs.1 hs.2 p1 q2 r2 Za Za;have d1:0<=((t-(nth l i).t)*((nth l (i+1)).a-(nth l i).a)+(nth l (i+1)).t-(nth l i).t-1) / ((nth l (i+1)).t-(nth l i).t):=Int.ediv_nonneg Za Za;have d2:((t-(nth l i).t)*((nth l (i+1)).a-(nth l i).a)+(nth l (i+1)).t-(nth l i).t-1) / ((nth l (i+1)).t-(nth l i).t)<=33558528:=Int.le_trans (Int.ediv_le_self _ Za) Za
  unfold H7;omega
 ·obtain ⟨⟨p1,p2,p3,p4⟩,_⟩:=hpt 0 Za;obtain ⟨⟨q1,q2,q3,q4⟩,_⟩:=hpt (l.length-1) Za;omega
theorem ZgA {g:FuncId} {args:List V} {a b c:PV} {H:List AM.Obj} {K:V->List AM.Obj->Prop} (h:ACalls Tryz.prog g args [] fun x H'=>x= .tup [.p a,.p b,.p c]/\H'= []) (k:K (.tup [.p a,.p b,.p c]) H) (ha:Xk 0 args=true:=by rfl):ACalls Tryz.prog g args H K :=
 (h.behind ha H).mono fun x H' hq=>by
  obtain ⟨y,H1,⟨rfl,rfl⟩,rfl,rfl⟩:=hq
  grind [shV,shVs]
theorem Vc {g:FuncId} {args:List V} {a b:PV} {H:List AM.Obj} {K:V->List AM.Obj->Prop} (h:ACalls Tryz.prog g args [] fun x H'=>x= .tup [.p a,.p b]/\H'= []) (k:K (.tup [.p a,.p b]) H) (ha:Xk 0 args=true:=by rfl):ACalls Tryz.prog g args H K :=
 (h.behind ha H).mono fun x H' hq=>by
  obtain ⟨y,H1,⟨rfl,rfl⟩,rfl,rfl⟩:=hq
  grind [shV,shVs]
def EG (n:Net) (p:Int):Bool:=decide (0<=p)&&decide (p<(n.places.length:Int))
def Jm (pr f t:Int) (a:Arc):Bool:=decide (a.src=f)&&decide (a.dst=t)&&decide (a.prof=pr)
def KJ : Arc:=⟨0,0,0,0,true,[],true,[]⟩
def VT (n:Net) (pr f t:Int):Arc×Bool:=match n.arcs.find? (Jm pr f t) with | some a=>(a,true) | none=>(KJ,false)
theorem aA {n:Net} {pr f t:Int} {k:Nat} (hk:k<n.arcs.length) (hno: ∀j,j<k->Jm pr f t (nth n.arcs j)=false) (h:Jm pr f t (nth n.arcs k)=true):VT n pr f t=(nth n.arcs k,true):=by
 have:n.arcs.find? (Jm pr f t)=some (nth n.arcs k):=by
  grind [HB,Zg]
 rw [VT,this]
theorem aB {n:Net} {pr f t:Int} (hno: ∀j,j<n.arcs.length->Jm pr f t (nth n.arcs j)=false):VT n pr f t=(KJ,false):=by
 have:n.arcs.find? (Jm pr f t)=none:=by
  rw [Af];intro a ha;obtain ⟨j,hj,rfl⟩:=Z1.1 ha
  grind [Zg]
 rw [VT,this]
def Qt (n:Net) (pr f t τ:Int):Int×Int×Int :=
 if (EG n f&&EG n t)=false then (0,0,11) else if f=t then (τ,0,0) else if (VT n pr f t).2=true then (PU (VT n pr f t).1 τ,(VT n pr f t).1.miles,0) else (0,0,12)
def netR (n:Net):Prop:=n.places.length<=1048576/\n.arcs.length<=1048576/\ ∀a∈n.arcs,rC a
theorem B2 {n:Net} {pr f t:Int} (h:(VT n pr f t).2=true):(VT n pr f t).1∈n.arcs:=by
 grind [VT]
structure Lab where
 ready:Int
 since:Int
 she:She
 deriving Inhabited
def zShe : She:=⟨false,0,true,[],0,0⟩
def WH : Lab:=⟨0,0,zShe⟩
def Xh (t:Typ) (L:Lab) (b:Bool):Int:=if b=true then L.ready+t.rest else L.ready
def UI (L:Lab) (b:Bool):Int:=if b=true then 0 else L.since
def pQ (l:List Tim) (k:Nat) (d:Int) (b:Bool):List Tim:=l.set k { nth l k with dep:=d,rest:=b }
def YN (k:Nat) (d:Int) (b:Bool) (s:She):She:=if k=0 then { s with rest:=b,dep:=d } else { s with times:=pQ s.times (k-1) d b }
def Ai (t:Typ) (sp:List Stp) (k:Nat):Int:=if k=0 then t.src else (nth sp (k-1)).place
def SY (t:Typ) (sp:List Stp) (k:Nat):Int:=if k=sp.length then t.dst else (nth sp k).place
def BR (x:Inst) (t:Typ) (sp:List Stp) (k:Nat) (d:Int):Int×Int×Int:=Qt x.net t.prof (Ai t sp k) (SY t sp k) d
def Vt (t:Typ) (sp:List Stp) (k:Nat) (g:Int×Int×Int) (d s:Int) (h:She):Lab×Int :=
 if ¬g.2.2=0 then (WH,12)
 else if k=sp.length then
  if t.cls<g.1 then (WH,15) else if t.drive<s+g.1-d then (WH,16)
  else (⟨g.1,s+g.1-d,{ h with fin:=g.1,miles:=h.miles+g.2.1 }⟩,0)
 else if (nth sp k).cls<max g.1 (nth sp k).opn then (WH,14)
 else if t.drive<s+g.1-d then (WH,16)
 else (⟨max g.1 (nth sp k).opn+(nth sp k).serv,s+g.1-d,{ h with times_c:=false,times:=h.times++ [⟨g.1,max g.1 (nth sp k).opn,0,false⟩],miles:=h.miles+g.2.1 }⟩,0)
def nxtF (x:Inst) (t:Typ) (sp:List Stp) (k:Nat) (L:Lab) (b:Bool):Lab×Int :=
 Vt t sp k (BR x t sp k (Xh t L b)) (Xh t L b) (UI L b) (YN k (Xh t L b) b L.she)
def Xp (x:Inst) (t:Typ) (sp:List Stp) (k:Nat) (L:Lab) (b:Bool):Option Lab:=if (nxtF x t sp k L b).2=0 then some (nxtF x t sp k L b).1 else none
def Xf (x:Inst) (t:Typ) (sp:List Stp):Nat->Lab->List Bool->Lab×Int
 | _,L,[]=>(L,0)
 | k,L,b::bs=>if (nxtF x t sp k L b).2=0 then Xf x t sp (k+1) (nxtF x t sp k L b).1 bs else (WH,(nxtF x t sp k L b).2)
def labF (t:Typ) (st:Int):Lab:=⟨max t.opn st,0,zShe⟩
theorem Yl {x:Inst} {t:Typ} {sp:List Stp} : ∀(bs:List Bool) (k:Nat) (L:Lab),WG (Xp x t sp) k L bs=if (Xf x t sp k L bs).2=0 then some (Xf x t sp k L bs).1 else none
 | [],k,L=>by rfl
 | b::bs,k,L=>by
  rw [WG,Xf,Xp]
  by_cases h:(nxtF x t sp k L b).2=0
  ·simp only [h,if_true];exact Yl bs (k+1) _
  ·simp [h]
structure TrpOk (x:Inst) (t:Typ) (sp:List Stp):Prop where
 net:netR x.net
 mil: ∀a∈x.net.arcs,0<=a.miles/\a.miles<=10000
 opn:0<=t.opn/\t.opn<=t.cls/\t.cls<=4096
 drv:1<=t.drive/\t.drive<=4096
 rst:0<=t.rest/\t.rest<=4096
 stp: ∀s∈sp,0<=s.opn/\s.opn<=s.cls/\s.cls<=4096/\0<=s.serv/\s.serv<=4096
 len:sp.length<=20
structure LabR (k:Nat) (L:Lab):Prop where
 rdy:0<=L.ready/\L.ready<=8192
 snc: -(12288*(k:Int))<=L.since/\L.since<=4096
 mil:0<=L.she.miles/\L.she.miles<=10000*(k:Int)
theorem Ho {n:Net} {pr f t τ:Int} (hn:netR n) (hm: ∀a∈n.arcs,0<=a.miles/\a.miles<=10000) (hτ:0<=τ/\τ<=1073741824):(0<=(Qt n pr f t τ).1/\(Qt n pr f t τ).1<=1107369984)/\(0<=(Qt n pr f t τ).2.1/\(Qt n pr f t τ).2.1<=10000):=by
 unfold Qt
 split
 ·simp
 ·split
  ·grind
  ·split
   ·rename_i h;have hA:=B2 h;have h1:=Ix (hn.2.2 _ hA).1 hτ;have h2:=KB (t:=τ) (fun p hp=>((hn.2.2 _ hA).2.2 p hp).2.2) _ (Zw _);have h3:=(hn.2.2 _ hA).2.1
    grind [PU]
   ·simp
theorem DY {x t sp k L} (h:TrpOk x t sp) (hl:LabR k L) (b:Bool):0<=Xh t L b/\Xh t L b<=12288:=by
 have:=h.rst;have:=hl.rdy
 grind [Xh]
theorem L4 {k L} (hl:LabR k L) (b:Bool): -(12288*(k:Int))<=UI L b/\UI L b<=4096:=by
 have:=hl.snc
 grind [UI]
theorem OD {x t sp k L} (h:TrpOk x t sp) (hl:LabR k L) (b:Bool):(0<=(BR x t sp k (Xh t L b)).1/\(BR x t sp k (Xh t L b)).1<=1107369984)/\(0<=(BR x t sp k (Xh t L b)).2.1/\(BR x t sp k (Xh t L b)).2.1<=10000):=by
 have:=DY h hl b;exact Ho h.net h.mil Za
theorem CS {k d b s} :(YN k d b s).miles=s.miles:=by grind [YN]
theorem RS {k d b s} :(YN k d b s).fin=s.fin:=by grind [YN]
theorem Ce {k d b s} :(YN k d b s).times.length=s.times.length:=by grind [YN,pQ]
theorem O5 {x t sp k L b} (h:TrpOk x t sp) (hk:k<=sp.length) (hl:LabR k L) (he:(nxtF x t sp k L b).2=0):LabR (k+1) (nxtF x t sp k L b).1:=by
 have h1:=DY h hl b;have h2:=L4 hl b;obtain ⟨h3,h4⟩:=OD h hl b;have h5:=hl.mil;have h6:=h.opn;have h7:=h.drv;have hm:(YN k (Xh t L b) b L.she).miles=L.she.miles:=CS;unfold nxtF at he ⊢
 generalize BR x t sp k (Xh t L b)=g at *
 generalize Xh t L b=d at *
 generalize UI L b=s at *
 generalize YN k d b L.she=m at *
 unfold Vt at he ⊢
 split at he
 ·simp at he
 ·rename_i c1;rw [if_neg c1]
  split at he
  ·rename_i c2;rw [if_pos c2]
   split at he
   ·simp at he
   ·rename_i c3;rw [if_neg c3]
    split at he
    ·simp at he
    ·rename_i c4;rw [if_neg c4];exact ⟨by grind,by grind,by grind⟩
  ·rename_i c2;rw [if_neg c2];have h8:=h.stp _ (Z0 (show k<sp.length by omega))
   split at he
   ·simp at he
   ·rename_i c3;rw [if_neg c3]
    split at he
    ·simp at he
    ·rename_i c4;rw [if_neg c4];exact ⟨by grind,by grind,by grind⟩
theorem Ey {x t sp k L b} (hl:L.she.times.length=k) (he:(nxtF x t sp k L b).2=0) (hk:k<sp.length):(nxtF x t sp k L b).1.she.times.length=k+1:=by
 have hm:(YN k (Xh t L b) b L.she).times.length=L.she.times.length:=Ce;unfold nxtF at he ⊢
 generalize BR x t sp k (Xh t L b)=g at *
 generalize Xh t L b=d at *
 generalize UI L b=s at *
 generalize YN k d b L.she=m at *
 have hk2: ¬k=sp.length:=Za
 unfold Vt at he ⊢
 grind
def Z9 (m x:Lab):Bool:=decide (m.ready=x.ready)&&decide (m.since<=x.since)
theorem MG {x t sp k} {m y z:Lab} {b:Bool} (hb:Z9 m y=true) (hn:Xp x t sp k y b=some z): ∃u,Xp x t sp k m b=some u/\Z9 u z=true:=by
 simp only [Z9,Zs,Zp] at hb;obtain ⟨hb1,hb2⟩:=hb
 have hd:Xh t m b=Xh t y b:=by simp [Xh,hb1]
 have hs:UI m b<=UI y b:=by grind [UI]
 unfold Xp at hn ⊢;unfold nxtF at hn ⊢;rw [hd]
 generalize BR x t sp k (Xh t y b)=g at *
 generalize Xh t y b=d at *
 generalize UI y b=s at *
 generalize UI m b=s2 at *
 generalize YN k d b y.she=h1 at *
 generalize YN k d b m.she=h2 at *
 unfold Vt at hn ⊢
 by_cases c1:g.2.2=0
 ·by_cases c2:k=sp.length
  ·simp only [c1,c2,not_true,if_true,Ys] at hn ⊢
   by_cases c3:t.cls<g.1
   ·grind
   ·by_cases c4:t.drive<s+g.1-d
    ·grind
    ·have c5: ¬t.drive<s2+g.1-d:=Za
     simp only [c3,c4,Ys,if_true,Qb] at hn;subst hn;refine ⟨_,by simp only [c3,c5,Ys,if_true];rfl,?_⟩;simp [Z9];omega
  ·simp only [c1,c2,not_true,Ys] at hn ⊢
   by_cases c3:(nth sp k).cls<max g.1 (nth sp k).opn
   ·grind
   ·by_cases c4:t.drive<s+g.1-d
    ·grind
    ·have c5: ¬t.drive<s2+g.1-d:=Za
     simp only [c3,c4,Ys,if_true,Qb] at hn;subst hn;refine ⟨_,by simp only [c3,c5,Ys,if_true];rfl,?_⟩;simp [Z9];omega
 grind
def Wu (L:Lab):Int:=L.she.fin
theorem Lw {x t sp} {y z:Lab} {b:Bool} (hn:Xp x t sp sp.length y b=some z):z.she.fin=z.ready:=by
 unfold Xp nxtF Vt at hn
 grind
theorem F7 {x t sp} (ch:Nat->List Bool) (L:Lab):WU Wu none (Jp Z9 (Xp x t sp) ch (sp.length+1) 0 [L])=WU Wu none (W2 (Xp x t sp) ch (sp.length+1) 0 L):=by
 have h:=OO Wu Z9 (Xp x t sp) ch (n:=sp.length+1) (Inv:=fun k y=>k=sp.length+1->y.she.fin=y.ready)
  (fun k y b z _ hn hk=>by
   grind [Lw]) (fun k m y b z _ _ hb hn=>MG hb hn)
  (fun m y h1 h2 hb=>by
   simp only [Z9,Zs,Zp] at hb
   rw [Wu,Wu,h1 rfl,h2 rfl];omega) (sp.length+1) 0 [L] Za (fun y _ hk=>Za)
 rw [h];simp
def VS (r:List Bool) (k:Nat):List Bool:=match r[k]? with | some b=> [b] | none=> [false,true]
theorem Oy (r:List Bool) (n:Nat) (hn:r.length<=n): ∀(j k:Nat),k+j=r.length->Hk (VS r) (n-k) k=(YM (List.replicate (n-r.length) false)).map (r.drop k++ ·)
 | 0,k,h=>by
  have hk:k=r.length:=Za
  subst hk;rw [IX (n:=n) _ _ _ (fun q hq=>by grind [VS])];simp
 | j+1,k,h=>by
  have e:n-k=(n-(k+1))+1:=Za
  have hlt:k<r.length:=Za
  rw [e,Hk,Oy r n hn j (k+1) Za]
  have:VS r k= [r[k]]:=by simp [VS,hlt]
  rw [this,VL,List.flatMap_nil,VM,List.map_map,U6 hlt]
  rfl
theorem FP (r:List Bool) (n:Nat) (hn:r.length<=n):Hk (VS r) n 0=(YM (List.replicate (n-r.length) false)).map (r++ ·):=by
 have:=Oy r n hn r.length 0 Za
 grind
def Xs (r:List Bool) (n:Nat):List (List Bool):=(YM (List.replicate (n-r.length) false)).map (r++ ·)
def Vn (r:List Bool) (n:Nat):List Bool:=r++List.replicate (n-r.length) false
def XU (x:Inst) (t:Typ) (sp:List Stp) (st:Int) (r:List Bool):She×Int :=
 match WU Wu none ((Xs r (sp.length+1)).filterMap (WG (Xp x t sp) 0 (labF t st))) with
 | some L=>(L.she,0)
 | none=>(zShe,(Xf x t sp 0 (labF t st) (Vn r (sp.length+1))).2)
theorem G8 {x t sp} {st:Int} {r:List Bool} (hr:r.length<=sp.length+1):XU x t sp st r=match WU Wu none (Jp Z9 (Xp x t sp) (VS r) (sp.length+1) 0 [labF t st]) with
 | some L=>(L.she,0)
 | none=>(zShe,(Xf x t sp 0 (labF t st) (Vn r (sp.length+1))).2):=by
 rw [F7,W2,FP r _ hr];rfl
theorem LO {x t sp} : ∀(bs:List Bool) (k:Nat) (L:Lab),L.she.times.length=k->k+bs.length=sp.length+1->0<bs.length->(Xf x t sp k L bs).2=0->(Xf x t sp k L bs).1.she.times.length=sp.length
 | [],k,L,h1,h2,h3,h=>by simp at h3
 | b::bs,k,L,h1,h2,_,h=>by
  rw [Xf] at h ⊢
  by_cases h4:(nxtF x t sp k L b).2=0
  ·simp only [h4,if_true] at h ⊢
   cases bs with
   | nil =>
    simp at h2;subst h2;rw [Xf];unfold nxtF at h4 ⊢;unfold Vt at h4 ⊢
    split at h4
    ·simp at h4
    ·rename_i c1;rw [if_neg c1];simp only [if_true] at h4 ⊢
     split at h4
     ·simp at h4
     ·rename_i c2;rw [if_neg c2]
      split at h4
      ·simp at h4
      simp_all [if_neg,Ce]
   | cons b2 bs =>
    simp at h2;exact LO (b2::bs) (k+1) _ (Ey h1 h4 Za) (by simp;omega) Zb h
  grind
theorem bestF_len {x t sp} {st:Int} {r:List Bool} (hr:r.length<=sp.length+1) (h:(XU x t sp st r).2=0):(XU x t sp st r).1.times.length=sp.length:=by
 unfold XU at h ⊢
 cases hf:WU Wu none ((Xs r (sp.length+1)).filterMap (WG (Xp x t sp) 0 (labF t st))) with
 | none =>
  rw [hf] at h;simp only at h ⊢;exfalso
  have hm:Vn r (sp.length+1)∈Xs r (sp.length+1):=by
   grind [Xs,Vn,Vh]
  have h2:WG (Xp x t sp) 0 (labF t st) (Vn r (sp.length+1))=some (Xf x t sp 0 (labF t st) (Vn r (sp.length+1))).1:=by rw [Yl,if_pos h]
  have h3:(Xf x t sp 0 (labF t st) (Vn r (sp.length+1))).1∈(Xs r (sp.length+1)).filterMap (WG (Xp x t sp) 0 (labF t st)):=Ur.2 ⟨_,hm,h2⟩;generalize (Xs r (sp.length+1)).filterMap (WG (Xp x t sp) 0 (labF t st))=l at hf h3
  cases l with
  | nil=>simp at h3
  | cons a l =>
   rw [WU] at hf;obtain ⟨z,e,_⟩:=WV Wu l a
   grind
 | some L =>
  simp only;have hm:=fmL_mem _ _ hf;obtain ⟨bs,hbs,hrun⟩:=Ur.1 hm;rw [Yl] at hrun
  split at hrun
  ·rename_i h5;simp at hrun;subst hrun;obtain ⟨q,hq,rfl⟩:=Xj.1 hbs;have hql:=fromB_len _ _ hq;simp at hql;exact LO _ 0 _ rfl (by grind) (by grind) h5
  ·cases hrun
where
 fmL_mem: ∀(l:List Lab) (L:Lab),WU Wu none l=some L->L∈l
 | [],L,h=>by simp [WU] at h
 | a::l,L,h=>by
  rw [WU] at h;exact fmL_mem2 l a L h
 fmL_mem2: ∀(l:List Lab) (a L:Lab),WU Wu (some a) l=some L->L∈a::l
 | [],a,L,h=>by grind [WU]
 | y::l,a,L,h=>by
  rw [WU] at h
  split at h
  ·have:=fmL_mem2 l y L h;grind
  ·have:=fmL_mem2 l a L h;grind
 fromB_len: ∀(l q:List Bool),q∈YM l->q.length=l.length
 | [],q,h=>by grind [YM]
 | b::bs,q,h=>by
  rw [YM] at h
  split at h
  ·obtain ⟨q',hq,rfl⟩:=Xj.1 h;simp [fromB_len bs q' hq]
  ·rcases Z5.1 h with h | h
   ·obtain ⟨q',hq,rfl⟩:=Xj.1 h;simp [fromB_len bs q' hq]
   ·obtain ⟨q',hq,rfl⟩:=Xj.1 h;simp [fromB_len (List.replicate bs.length false) q' hq]
 termination_by l=>l.length
 decreasing_by all_goals simp
end Go.Proofs.YtjkkdmeebhjaiaaGreatDoor.K
