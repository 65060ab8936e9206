/- Declarations that the closing texts need, part 12: joined by tools/slim.py. -/
import Derived.Test.YtjkkdmeebhjaiaaGreatDoorY11
import Derived.Test.YtjkkdmeebhjaiaaGreatDoorRows
namespace Go.Proofs.YtjkkdmeebhjaiaaGreatDoor.K
open Go Go.AM Go.Proofs
theorem SZ : Tryz.prog.cellsOf 3=1:=Zg
theorem Zmb : Tryz.prog.cellsOf 4=1:=Zg
theorem ZgK : Tryz.prog.cellsOf 9=1:=Zg
theorem ZgB : Tryz.prog.cellsOf 22=1:=Zg
theorem ZgC : Tryz.prog.cellsOf 23=1:=Zg
theorem tI : Tryz.prog.cellsOf 25=2:=Zg
theorem ZiL : Gj Tryz.prog 25=some [(0,22),(1,23)]:=Zg
theorem ZgD : Tryz.prog.cellsOf 26=1:=Zg
theorem ZgE : Tryz.prog.cellsOf 27=1:=Zg
theorem ZgF : Tryz.prog.cellsOf 28=1:=Zg
theorem ZgG : Tryz.prog.cellsOf 30=6:=Zg
theorem tZ : Gj Tryz.prog 30=some [(0,25),(2,26),(3,27),(4,28),(5,28)]:=Zg
theorem tJ : Tryz.prog.cellsOf 55=1:=Zg
theorem ZgH : Tryz.prog.cellsOf 63=14:=Zg
theorem uA : Gj Tryz.prog 63=some [(0,9),(1,3),(2,3),(3,3),(4,55),(5,3),(6,3),(7,3),(8,3),(9,3),(10,3),(11,3),(12,3),(13,3)]:=Zg
theorem tK : Tryz.prog.cellsOf 65=4:=Zg
theorem ZiM : Gj Tryz.prog 65=some [(0,3),(1,3),(2,3),(3,3)]:=Zg
theorem ZgI : Tryz.prog.cellsOf 67=16:=Zg
theorem uB : Gj Tryz.prog 67=some [(0,9),(1,55),(2,65),(6,65),(10,3),(11,3),(12,3),(13,3),(14,3),(15,4)]:=Zg
theorem ZgJ : Tryz.prog.cellsOf 89=2:=Zg
theorem uC : Gj Tryz.prog 89=some [(0,3),(1,3)]:=Zg
theorem ZgL : Tryz.prog.cellsOf 99=1:=Zg
theorem wH : Tryz.prog.cellsOf 101=6:=Zg
theorem jU : Gj Tryz.prog 101=some [(0,3),(1,3),(2,3),(3,3),(4,99),(5,99)]:=Zg
theorem wI : Tryz.prog.cellsOf 139=2:=Zg
theorem jV : Gj Tryz.prog 139=some [(0,3),(1,3)]:=Zg
set_option linter.unusedVariables false
set_option linter.unusedSimpArgs false
mutual
theorem OG {H:Type} :(d:DataW H)->Gi d<=Rows.uptoBulk d
 | .lit l=>by cases l<;>simp [Gi,Rows.uptoBulk]
 | .nil=>by simp [Gi,Rows.uptoBulk]
 | .ptr d=>by have:=OG d;simp only [Gi,Rows.uptoBulk];omega
 | .slice es sp=>by have:=BF es;have:=BF sp;simp only [Gi,Rows.uptoBulk];omega
 | .agg ps=>by have:=BF ps;simp only [Gi,Rows.uptoBulk];omega
 | .iface _ d=>by have:=OG d;simp only [Gi,Rows.uptoBulk];omega
 | .map es=>by simp only [Gi,Rows.uptoBulk];omega
 | .held h=>by simp [Gi,Rows.uptoBulk]
theorem BF {H:Type} :(l:List (DataW H))->Kr l<=Rows.uptoBulkAll l
 | []=>by simp [Kr,Rows.uptoBulkAll]
 | d::r=>by have:=OG d;have:=BF r;simp only [Kr,Rows.uptoBulkAll];omega
end
theorem PB {H:Type} {l:List (DataW H)} (h:Rows.uptoSmall H l=true):Kr l<=1048576:=by
 have h1:=BF l;have h2:Rows.uptoBulkAll l<=1048576:=of_decide_eq_true h;omega
abbrev Qf (n:Int):Prop:= -9223372036854775808<=n/\n<=9223372036854775807
def eI (n:Int):PV:= .int .i64 n
def eB (b:Bool):PV:= .bool b
def eS (s:List UInt8):PV:= .str s
def eP (p:Int×Int):PV:= .agg [.int .i64 p.1,.int .i64 p.2]
@[go_sem] theorem ZoE (n:Int):eI n= .int .i64 n:=Zm rfl rfl
@[go_sem] theorem ZoC (b:Bool):eB b= .bool b:=Zm rfl rfl
@[go_sem] theorem ZoI (s:List UInt8):eS s= .str s:=Zm rfl rfl
@[go_sem] theorem ZoG (p:Int×Int):eP p= .agg [.int .i64 p.1,.int .i64 p.2]:=Zm rfl rfl
@[go_sem] theorem ZmQ (l:List Int):KD 1 (l.map eI)=true:=Qu fun _=>rfl
@[go_sem] theorem Zkd (l:List Bool):Bt 1 (l.map eB)=true:=Bu (f:=eB) (S:=1) (fun _=>rfl) l
@[go_sem] theorem ZmO (l:List Bool):KD 1 (l.map eB)=true:=Qu fun _=>rfl
theorem Mu {B xs} (h: ∀y∈xs,FitV Tryz.prog B 3 y): ∃l:List Int,xs=l.map eI/\ ∀n∈l,Qf n :=
 VN (f:=eI) fun y hy=>by
  obtain ⟨n,rfl,w⟩:=Rq Tryz.underlying3 (h y hy);exact ⟨n,rfl,Xv w⟩
theorem fJ {B xs} (h: ∀y∈xs,FitV Tryz.prog B 9 y): ∃l:List (List UInt8),xs=l.map eS/\ ∀s∈l,s.length<=B :=
 VN (f:=eS) fun y hy=>by
  obtain ⟨s,rfl,w,_⟩:=oX Tryz.underlying9 (h y hy);exact ⟨s,rfl,w⟩
theorem ZbK {α:Type} {l:List α} (h:l.length=2): ∃a0 a1,l= [a0,a1]:=by
 match l,h with | [a0,a1],_=>simp
theorem Zio {α:Type} {l:List α} (h:l.length=6): ∃a0 a1 a2 a3 a4 a5,l= [a0,a1,a2,a3,a4,a5]:=by
 match l,h with | [a0,a1,a2,a3,a4,a5],_=>simp
theorem Zim {α:Type} {l:List α} (h:l.length=14): ∃a0 a1 a2 a3 a4 a5 a6 a7 a8 a9 a10 a11 a12 a13,l= [a0,a1,a2,a3,a4,a5,a6,a7,a8,a9,a10,a11,a12,a13]:=by
 match l,h with | [a0,a1,a2,a3,a4,a5,a6,a7,a8,a9,a10,a11,a12,a13],_=>simp
theorem ZmC {α:Type} {l:List α} (h:l.length=4): ∃a0 a1 a2 a3,l= [a0,a1,a2,a3]:=by
 match l,h with | [a0,a1,a2,a3],_=>simp
theorem Zin {α:Type} {l:List α} (h:l.length=16): ∃a0 a1 a2 a3 a4 a5 a6 a7 a8 a9 a10 a11 a12 a13 a14 a15,l= [a0,a1,a2,a3,a4,a5,a6,a7,a8,a9,a10,a11,a12,a13,a14,a15]:=by
 match l,h with | [a0,a1,a2,a3,a4,a5,a6,a7,a8,a9,a10,a11,a12,a13,a14,a15],_=>grind
structure Pt where
 t:Int
 a:Int
 deriving Inhabited
def cPt (x:Pt):List PV:= [.int .i64 x.t,.int .i64 x.a]
def GZ (x:Pt):PV:= .agg [.int .i64 x.t,.int .i64 x.a]
@[go_sem] theorem Zmc (x:Pt):GZ x= .agg [.int .i64 x.t,.int .i64 x.a]:=Zm rfl rfl
def Pt.wf (B:Nat) (x:Pt):Prop:=Qf x.t/\Qf x.a
theorem oZ {B m cs} (h:Wc Tryz.prog B m 139 cs): ∃x:Pt,cs=cPt x/\x.wf B:=by
 obtain ⟨h1,m',h2⟩:=VU jV wI h;obtain ⟨a0,a1,rfl⟩:=ZbK h1;obtain ⟨n0,e0,w0⟩:=ZZ Tryz.underlying3 (h2 (0,3) Zb);obtain ⟨n1,e1,w1⟩:=ZZ Tryz.underlying3 (h2 (1,3) Zb);simp [SZ] at e0 e1;subst e0;subst e1;exact ⟨⟨n0,n1⟩,rfl,Xv w0,Xv w1⟩
theorem fI {B v} (h:FitV Tryz.prog B 139 v): ∃x:Pt,v=GZ x/\x.wf B:=by
 obtain ⟨k,cs,h,e⟩:=h.out;obtain ⟨x,rfl,hw⟩:=oZ h;exact ⟨x,e.trans (by rw [JY,if_pos (V2 jV)];rfl),hw⟩
structure Arc where
 src:Int
 dst:Int
 prof:Int
 miles:Int
 travel_c:Bool
 travel:List (Pt)
 slow_c:Bool
 slow:List (Pt)
 deriving Inhabited
def Zl9 (x:Arc):List PV:= [.int .i64 x.src,.int .i64 x.dst,.int .i64 x.prof,.int .i64 x.miles,.list x.travel_c (x.travel.map GZ),.list x.slow_c (x.slow.map GZ)]
def Vs (x:Arc):PV:= .agg [.int .i64 x.src,.int .i64 x.dst,.int .i64 x.prof,.int .i64 x.miles,.list x.travel_c (x.travel.map GZ),.list x.slow_c (x.slow.map GZ)]
@[go_sem] theorem Zkm (x:Arc):Vs x= .agg [.int .i64 x.src,.int .i64 x.dst,.int .i64 x.prof,.int .i64 x.miles,.list x.travel_c (x.travel.map GZ),.list x.slow_c (x.slow.map GZ)]:=Zm rfl rfl
def Arc.wf (B:Nat) (x:Arc):Prop:=Qf x.src/\Qf x.dst/\Qf x.prof/\Qf x.miles/\x.travel.length<=B/\(∀y∈x.travel,Pt.wf B y)/\x.slow.length<=B/\(∀y∈x.slow,Pt.wf B y)
theorem fM {B m cs} (h:Wc Tryz.prog B m 101 cs): ∃x:Arc,cs=Zl9 x/\x.wf B:=by
 obtain ⟨h1,m',h2⟩:=VU jU wH h;obtain ⟨a0,a1,a2,a3,a4,a5,rfl⟩:=Zio h1;obtain ⟨n0,e0,w0⟩:=ZZ Tryz.underlying3 (h2 (0,3) Zb);obtain ⟨n1,e1,w1⟩:=ZZ Tryz.underlying3 (h2 (1,3) Zb);obtain ⟨n2,e2,w2⟩:=ZZ Tryz.underlying3 (h2 (2,3) Zb);obtain ⟨n3,e3,w3⟩:=ZZ Tryz.underlying3 (h2 (3,3) Zb);obtain ⟨y4,e4,w4,_,z4⟩:=YB Tryz.underlying99 (h2 (4,99) Zb);obtain ⟨n4,rfl,u4⟩:=VN (f:=GZ) fun y hy=>fI (z4 y hy);obtain ⟨y5,e5,w5,_,z5⟩:=YB Tryz.underlying99 (h2 (5,99) Zb)
 obtain ⟨n5,rfl,u5⟩:=VN (f:=GZ) fun y hy=>fI (z5 y hy);simp [ZgL,SZ] at e0 e1 e2 e3 e4 e5;subst e0;subst e1;subst e2;subst e3;subst e4;subst e5;exact ⟨⟨n0,n1,n2,n3,false,n4,false,n5⟩,rfl,Xv w0,Xv w1,Xv w2,Xv w3,by grind,u4,by grind,u5⟩
theorem oU {B v} (h:FitV Tryz.prog B 101 v): ∃x:Arc,v=Vs x/\x.wf B:=by
 obtain ⟨k,cs,h,e⟩:=h.out;obtain ⟨x,rfl,hw⟩:=fM h;exact ⟨x,e.trans (by rw [JY,if_pos (V2 jU)];rfl),hw⟩
structure Net where
 places_c:Bool
 places:List (List UInt8)
 arcs_c:Bool
 arcs:List (Arc)
 deriving Inhabited
def ZgA (x:Net):List PV:= [.list x.places_c (x.places.map eS),.list x.arcs_c (x.arcs.map Vs)]
def BG (x:Net):PV:= .agg [.list x.places_c (x.places.map eS),.list x.arcs_c (x.arcs.map Vs)]
@[go_sem] theorem Zkr (x:Net):BG x= .agg [.list x.places_c (x.places.map eS),.list x.arcs_c (x.arcs.map Vs)]:=Zm rfl rfl
def Net.wf (B:Nat) (x:Net):Prop:=x.places.length<=B/\(∀s∈x.places,s.length<=B)/\x.arcs.length<=B/\(∀y∈x.arcs,Arc.wf B y)
theorem fN {B m cs} (h:Wc Tryz.prog B m 25 cs): ∃x:Net,cs=ZgA x/\x.wf B:=by
 obtain ⟨h1,m',h2⟩:=VU ZiL tI h;obtain ⟨a0,a1,rfl⟩:=ZbK h1;obtain ⟨y0,e0,w0,_,z0⟩:=YB Tryz.underlying22 (h2 (0,22) Zb);obtain ⟨n0,rfl,u0⟩:=fJ z0;obtain ⟨y1,e1,w1,_,z1⟩:=YB Tryz.underlying23 (h2 (1,23) Zb);obtain ⟨n1,rfl,u1⟩:=VN (f:=Vs) fun y hy=>oU (z1 y hy);simp [ZgC,ZgB] at e0 e1;subst e0;subst e1;exact ⟨⟨false,n0,false,n1⟩,rfl,by grind,u0,by grind,u1⟩
structure Typ where
 name:List UInt8
 count:Int
 src:Int
 dst:Int
 cap_c:Bool
 cap:List (Int)
 skills:Int
 prof:Int
 opn:Int
 cls:Int
 drive:Int
 rest:Int
 fixed:Int
 perMile:Int
 perTick:Int
 deriving Inhabited
def Ko (x:Typ):List PV:= [.str x.name,.int .i64 x.count,.int .i64 x.src,.int .i64 x.dst,.list x.cap_c (x.cap.map eI),.int .i64 x.skills,.int .i64 x.prof,.int .i64 x.opn,.int .i64 x.cls,.int .i64 x.drive,.int .i64 x.rest,.int .i64 x.fixed,.int .i64 x.perMile,.int .i64 x.perTick]
def XU (x:Typ):PV:= .agg [.str x.name,.int .i64 x.count,.int .i64 x.src,.int .i64 x.dst,.list x.cap_c (x.cap.map eI),.int .i64 x.skills,.int .i64 x.prof,.int .i64 x.opn,.int .i64 x.cls,.int .i64 x.drive,.int .i64 x.rest,.int .i64 x.fixed,.int .i64 x.perMile,.int .i64 x.perTick]
@[go_sem] theorem ZkA (x:Typ):XU x= .agg [.str x.name,.int .i64 x.count,.int .i64 x.src,.int .i64 x.dst,.list x.cap_c (x.cap.map eI),.int .i64 x.skills,.int .i64 x.prof,.int .i64 x.opn,.int .i64 x.cls,.int .i64 x.drive,.int .i64 x.rest,.int .i64 x.fixed,.int .i64 x.perMile,.int .i64 x.perTick]:=Zm rfl rfl
@[go_sem] theorem ZiF (l:List Typ):KD 14 (l.map XU)=true:=Qu fun _=>rfl
def Typ.wf (B:Nat) (x:Typ):Prop:=x.name.length<=B/\Qf x.count/\Qf x.src/\Qf x.dst/\x.cap.length<=B/\(∀n∈x.cap,Qf n)/\Qf x.skills/\Qf x.prof/\Qf x.opn/\Qf x.cls/\Qf x.drive/\Qf x.rest/\Qf x.fixed/\Qf x.perMile/\Qf x.perTick
theorem fP {B m cs} (h:Wc Tryz.prog B m 63 cs): ∃x:Typ,cs=Ko x/\x.wf B:=by
 obtain ⟨h1,m',h2⟩:=VU uA ZgH h;obtain ⟨a0,a1,a2,a3,a4,a5,a6,a7,a8,a9,a10,a11,a12,a13,rfl⟩:=Zim h1;obtain ⟨n0,e0,w0,_⟩:=E9 Tryz.underlying9 (h2 (0,9) Zb);obtain ⟨n1,e1,w1⟩:=ZZ Tryz.underlying3 (h2 (1,3) Zb);obtain ⟨n2,e2,w2⟩:=ZZ Tryz.underlying3 (h2 (2,3) Zb);obtain ⟨n3,e3,w3⟩:=ZZ Tryz.underlying3 (h2 (3,3) Zb);obtain ⟨y4,e4,w4,_,z4⟩:=YB Tryz.underlying55 (h2 (4,55) Zb);obtain ⟨n4,rfl,u4⟩:=Mu z4;obtain ⟨n5,e5,w5⟩:=ZZ Tryz.underlying3 (h2 (5,3) Zb)
 obtain ⟨n6,e6,w6⟩:=ZZ Tryz.underlying3 (h2 (6,3) Zb);obtain ⟨n7,e7,w7⟩:=ZZ Tryz.underlying3 (h2 (7,3) Zb);obtain ⟨n8,e8,w8⟩:=ZZ Tryz.underlying3 (h2 (8,3) Zb);obtain ⟨n9,e9,w9⟩:=ZZ Tryz.underlying3 (h2 (9,3) Zb);obtain ⟨n10,e10,w10⟩:=ZZ Tryz.underlying3 (h2 (10,3) Zb);obtain ⟨n11,e11,w11⟩:=ZZ Tryz.underlying3 (h2 (11,3) Zb);obtain ⟨n12,e12,w12⟩:=ZZ Tryz.underlying3 (h2 (12,3) Zb);obtain ⟨n13,e13,w13⟩:=ZZ Tryz.underlying3 (h2 (13,3) Zb);simp [tJ,SZ,ZgK] at e0 e1 e2 e3 e4 e5 e6 e7 e8 e9 e10 e11 e12 e13
 subst e0;subst e1;subst e2;subst e3;subst e4;subst e5;subst e6;subst e7;subst e8;subst e9;subst e10;subst e11;subst e12;subst e13;exact ⟨⟨n0,n1,n2,n3,false,n4,n5,n6,n7,n8,n9,n10,n11,n12,n13⟩,rfl,w0,Xv w1,Xv w2,Xv w3,by grind,u4,Xv w5,Xv w6,Xv w7,Xv w8,Xv w9,Xv w10,Xv w11,Xv w12,Xv w13⟩
theorem oW {B v} (h:FitV Tryz.prog B 63 v): ∃x:Typ,v=XU x/\x.wf B:=by
 obtain ⟨k,cs,h,e⟩:=h.out;obtain ⟨x,rfl,hw⟩:=fP h;exact ⟨x,e.trans (by rw [JY,if_pos (V2 uA)];rfl),hw⟩
structure Stp where
 place:Int
 opn:Int
 cls:Int
 serv:Int
 deriving Inhabited
def AG (x:Stp):List PV:= [.int .i64 x.place,.int .i64 x.opn,.int .i64 x.cls,.int .i64 x.serv]
def E3 (x:Stp):PV:= .agg [.int .i64 x.place,.int .i64 x.opn,.int .i64 x.cls,.int .i64 x.serv]
@[go_sem] theorem Zkx (x:Stp):E3 x= .agg [.int .i64 x.place,.int .i64 x.opn,.int .i64 x.cls,.int .i64 x.serv]:=Zm rfl rfl
def Stp.wf (B:Nat) (x:Stp):Prop:=Qf x.place/\Qf x.opn/\Qf x.cls/\Qf x.serv
theorem Mv {B m cs} (h:Wc Tryz.prog B m 65 cs): ∃x:Stp,cs=AG x/\x.wf B:=by
 obtain ⟨h1,m',h2⟩:=VU ZiM tK h;obtain ⟨a0,a1,a2,a3,rfl⟩:=ZmC h1;obtain ⟨n0,e0,w0⟩:=ZZ Tryz.underlying3 (h2 (0,3) Zb);obtain ⟨n1,e1,w1⟩:=ZZ Tryz.underlying3 (h2 (1,3) Zb);obtain ⟨n2,e2,w2⟩:=ZZ Tryz.underlying3 (h2 (2,3) Zb);obtain ⟨n3,e3,w3⟩:=ZZ Tryz.underlying3 (h2 (3,3) Zb);simp [SZ] at e0 e1 e2 e3;subst e0;subst e1;subst e2;subst e3;exact ⟨⟨n0,n1,n2,n3⟩,rfl,Xv w0,Xv w1,Xv w2,Xv w3⟩
theorem tL {B v} (h:FitV Tryz.prog B 89 v): ∃x:Int×Int,v=eP x/\Qf x.1/\Qf x.2:=by
 obtain ⟨k,cs,h,e⟩:=h.out;obtain ⟨h1,m',h2⟩:=VU uC ZgJ h;obtain ⟨a,b,rfl⟩:=ZbK h1;obtain ⟨n0,e0,w0⟩:=ZZ Tryz.underlying3 (h2 (0,3) Zb);obtain ⟨n1,e1,w1⟩:=ZZ Tryz.underlying3 (h2 (1,3) Zb);simp [SZ] at e0 e1;subst e0;subst e1;exact ⟨(n0,n1),e.trans (by rw [JY,if_pos (V2 uC)];rfl),Xv w0,Xv w1⟩
structure Ord where
 name:List UInt8
 load_c:Bool
 load:List (Int)
 pick:Stp
 drp:Stp
 skills:Int
 penalty:Int
 split:Int
 last:Int
 now:Int
 off:Bool
 deriving Inhabited
def Zma (x:Ord):List PV:= [.str x.name,.list x.load_c (x.load.map eI),.int .i64 x.pick.place,.int .i64 x.pick.opn,.int .i64 x.pick.cls,.int .i64 x.pick.serv,.int .i64 x.drp.place,.int .i64 x.drp.opn,.int .i64 x.drp.cls,.int .i64 x.drp.serv,.int .i64 x.skills,.int .i64 x.penalty,.int .i64 x.split,.int .i64 x.last,.int .i64 x.now,.bool x.off]
def eOrd (x:Ord):PV:= .agg [.str x.name,.list x.load_c (x.load.map eI),.int .i64 x.pick.place,.int .i64 x.pick.opn,.int .i64 x.pick.cls,.int .i64 x.pick.serv,.int .i64 x.drp.place,.int .i64 x.drp.opn,.int .i64 x.drp.cls,.int .i64 x.drp.serv,.int .i64 x.skills,.int .i64 x.penalty,.int .i64 x.split,.int .i64 x.last,.int .i64 x.now,.bool x.off]
@[go_sem] theorem Rl (x:Ord):eOrd x= .agg [.str x.name,.list x.load_c (x.load.map eI),.int .i64 x.pick.place,.int .i64 x.pick.opn,.int .i64 x.pick.cls,.int .i64 x.pick.serv,.int .i64 x.drp.place,.int .i64 x.drp.opn,.int .i64 x.drp.cls,.int .i64 x.drp.serv,.int .i64 x.skills,.int .i64 x.penalty,.int .i64 x.split,.int .i64 x.last,.int .i64 x.now,.bool x.off]:=Zm rfl rfl
@[go_sem] theorem ZiD (l:List Ord):KD 16 (l.map eOrd)=true:=Qu fun _=>rfl
def Ord.wf (B:Nat) (x:Ord):Prop:=x.name.length<=B/\x.load.length<=B/\(∀n∈x.load,Qf n)/\Stp.wf B x.pick/\Stp.wf B x.drp/\Qf x.skills/\Qf x.penalty/\Qf x.split/\Qf x.last/\Qf x.now
theorem fO {B m cs} (h:Wc Tryz.prog B m 67 cs): ∃x:Ord,cs=Zma x/\x.wf B:=by
 obtain ⟨h1,m',h2⟩:=VU uB ZgI h;obtain ⟨a0,a1,a2,a3,a4,a5,a6,a7,a8,a9,a10,a11,a12,a13,a14,a15,rfl⟩:=Zin h1;obtain ⟨n0,e0,w0,_⟩:=E9 Tryz.underlying9 (h2 (0,9) Zb);obtain ⟨y1,e1,w1,_,z1⟩:=YB Tryz.underlying55 (h2 (1,55) Zb);obtain ⟨n1,rfl,u1⟩:=Mu z1;obtain ⟨n2,e2,w2⟩:=Mv (h2 (2,65) Zb);obtain ⟨n3,e3,w3⟩:=Mv (h2 (6,65) Zb);obtain ⟨n4,e4,w4⟩:=ZZ Tryz.underlying3 (h2 (10,3) Zb);obtain ⟨n5,e5,w5⟩:=ZZ Tryz.underlying3 (h2 (11,3) Zb);obtain ⟨n6,e6,w6⟩:=ZZ Tryz.underlying3 (h2 (12,3) Zb)
 obtain ⟨n7,e7,w7⟩:=ZZ Tryz.underlying3 (h2 (13,3) Zb);obtain ⟨n8,e8,w8⟩:=ZZ Tryz.underlying3 (h2 (14,3) Zb);obtain ⟨n9,e9⟩:=Ti Tryz.underlying4 (h2 (15,4) Zb);simp [tJ,tK,Zmb,SZ,ZgK,AG,AG] at e0 e1 e2 e3 e4 e5 e6 e7 e8 e9;subst e0;subst e1;obtain ⟨rfl,rfl,rfl,rfl⟩:=e2;obtain ⟨rfl,rfl,rfl,rfl⟩:=e3;subst e4;subst e5;subst e6;subst e7;subst e8;subst e9;exact ⟨⟨n0,false,n1,n2,n3,n4,n5,n6,n7,n8,n9⟩,rfl,w0,by grind,u1,w2,w3,Xv w4,Xv w5,Xv w6,Xv w7,Xv w8⟩
theorem oV {B v} (h:FitV Tryz.prog B 67 v): ∃x:Ord,v=eOrd x/\x.wf B:=by
 obtain ⟨k,cs,h,e⟩:=h.out;obtain ⟨x,rfl,hw⟩:=fO h;exact ⟨x,e.trans (by rw [JY,if_pos (V2 uB)];rfl),hw⟩
structure Inst where
 net:Net
 types_c:Bool
 types:List (Typ)
 orders_c:Bool
 orders:List (Ord)
 apart_c:Bool
 apart:List (Int×Int)
 before_c:Bool
 before:List (Int×Int)
 deriving Inhabited
def Zgz (x:Inst):List PV:= [.list x.net.places_c (x.net.places.map eS),.list x.net.arcs_c (x.net.arcs.map Vs),.list x.types_c (x.types.map XU),.list x.orders_c (x.orders.map eOrd),.list x.apart_c (x.apart.map eP),.list x.before_c (x.before.map eP)]
def Zr (x:Inst):PV:= .agg [.list x.net.places_c (x.net.places.map eS),.list x.net.arcs_c (x.net.arcs.map Vs),.list x.types_c (x.types.map XU),.list x.orders_c (x.orders.map eOrd),.list x.apart_c (x.apart.map eP),.list x.before_c (x.before.map eP)]
@[go_sem] theorem ZgN (x:Inst):Zr x= .agg [.list x.net.places_c (x.net.places.map eS),.list x.net.arcs_c (x.net.arcs.map Vs),.list x.types_c (x.types.map XU),.list x.orders_c (x.orders.map eOrd),.list x.apart_c (x.apart.map eP),.list x.before_c (x.before.map eP)]:=Zm rfl rfl
def Inst.wf (B:Nat) (x:Inst):Prop:=Net.wf B x.net/\x.types.length<=B/\(∀y∈x.types,Typ.wf B y)/\x.orders.length<=B/\(∀y∈x.orders,Ord.wf B y)/\x.apart.length<=B/\(∀p∈x.apart,Qf p.1/\Qf p.2)/\x.before.length<=B/\(∀p∈x.before,Qf p.1/\Qf p.2)
theorem Th {B m cs} (h:Wc Tryz.prog B m 30 cs): ∃x:Inst,cs=Zgz x/\x.wf B:=by
 obtain ⟨h1,m',h2⟩:=VU tZ ZgG h;obtain ⟨a0,a1,a2,a3,a4,a5,rfl⟩:=Zio h1;obtain ⟨n0,e0,w0⟩:=fN (h2 (0,25) Zb);obtain ⟨y1,e1,w1,_,z1⟩:=YB Tryz.underlying26 (h2 (2,26) Zb);obtain ⟨n1,rfl,u1⟩:=VN (f:=XU) fun y hy=>oW (z1 y hy);obtain ⟨y2,e2,w2,_,z2⟩:=YB Tryz.underlying27 (h2 (3,27) Zb);obtain ⟨n2,rfl,u2⟩:=VN (f:=eOrd) fun y hy=>oV (z2 y hy);obtain ⟨y3,e3,w3,_,z3⟩:=YB Tryz.underlying28 (h2 (4,28) Zb);obtain ⟨n3,rfl,u3⟩:=VN (f:=eP) fun y hy=>tL (z3 y hy)
 obtain ⟨y4,e4,w4,_,z4⟩:=YB Tryz.underlying28 (h2 (5,28) Zb);obtain ⟨n4,rfl,u4⟩:=VN (f:=eP) fun y hy=>tL (z4 y hy);simp [ZgF,ZgE,ZgD,tI,ZgA] at e0 e1 e2 e3 e4;obtain ⟨rfl,rfl⟩:=e0;subst e1;subst e2;subst e3;subst e4;exact ⟨⟨n0,false,n1,false,n2,false,n3,false,n4⟩,rfl,w0,by grind,u1,by grind,u2,by grind,u3,by grind,u4⟩
theorem fH {B v} (h:FitV Tryz.prog B 30 v): ∃x:Inst,v=Zr x/\x.wf B:=by
 obtain ⟨k,cs,h,e⟩:=h.out;obtain ⟨x,rfl,hw⟩:=Th h;exact ⟨x,e.trans (by rw [JY,if_pos (V2 tZ)];rfl),hw⟩
structure Vis where
 order:Int
 drp:Bool
 deriving Inhabited
def Z3 (x:Vis):PV:= .agg [.int .i64 x.order,.bool x.drp]
@[go_sem] theorem Rm (x:Vis):Z3 x= .agg [.int .i64 x.order,.bool x.drp]:=Zm rfl rfl
@[go_sem] theorem Zc9 (l:List Vis):Bt 2 (l.map Z3)=true:=Bu (f:=Z3) (S:=2) (fun _=>rfl) l
@[go_sem] theorem ZiG (l:List Vis):KD 2 (l.map Z3)=true:=Qu fun _=>rfl
structure Rte where
 typ:Int
 start:Int
 rests_c:Bool
 rests:List (Bool)
 visits_c:Bool
 visits:List (Vis)
 deriving Inhabited
def Wg (x:Rte):PV:= .agg [.int .i64 x.typ,.int .i64 x.start,.list x.rests_c (x.rests.map eB),.list x.visits_c (x.visits.map Z3)]
@[go_sem] theorem Zkt (x:Rte):Wg x= .agg [.int .i64 x.typ,.int .i64 x.start,.list x.rests_c (x.rests.map eB),.list x.visits_c (x.visits.map Z3)]:=Zm rfl rfl
structure Tim where
 arr:Int
 beg:Int
 dep:Int
 rest:Bool
 deriving Inhabited
def eTim (x:Tim):PV:= .agg [.int .i64 x.arr,.int .i64 x.beg,.int .i64 x.dep,.bool x.rest]
@[go_sem] theorem Zky (x:Tim):eTim x= .agg [.int .i64 x.arr,.int .i64 x.beg,.int .i64 x.dep,.bool x.rest]:=Zm rfl rfl
@[go_sem] theorem ZiE (l:List Tim):KD 4 (l.map eTim)=true:=Qu fun _=>rfl
structure She where
 rest:Bool
 dep:Int
 times_c:Bool
 times:List (Tim)
 fin:Int
 miles:Int
 deriving Inhabited
def E1 (x:She):PV:= .agg [.bool x.rest,.int .i64 x.dep,.list x.times_c (x.times.map eTim),.int .i64 x.fin,.int .i64 x.miles]
@[go_sem] theorem Zkv (x:She):E1 x= .agg [.bool x.rest,.int .i64 x.dep,.list x.times_c (x.times.map eTim),.int .i64 x.fin,.int .i64 x.miles]:=Zm rfl rfl
structure Sco where
 cost:Int
 moved:Int
 other:Int
 work:Int
 deriving Inhabited
def DV (x:Sco):PV:= .agg [.int .i64 x.cost,.int .i64 x.moved,.int .i64 x.other,.int .i64 x.work]
@[go_sem] theorem Zku (x:Sco):DV x= .agg [.int .i64 x.cost,.int .i64 x.moved,.int .i64 x.other,.int .i64 x.work]:=Zm rfl rfl
structure Pln where
 routes_c:Bool
 routes:List (Rte)
 unserved_c:Bool
 unserved:List (Int)
 deriving Inhabited
def Jy (x:Pln):PV:= .agg [.list x.routes_c (x.routes.map Wg),.list x.unserved_c (x.unserved.map eI)]
@[go_sem] theorem Zks (x:Pln):Jy x= .agg [.list x.routes_c (x.routes.map Wg),.list x.unserved_c (x.unserved.map eI)]:=Zm rfl rfl
structure Col where
 typ:Int
 set:Int
 price:Int
 route:Rte
 deriving Inhabited
def Gu (x:Col):List PV:= [.int .i64 x.typ,.int .i64 x.set,.int .i64 x.price,.int .i64 x.route.typ,.int .i64 x.route.start,.list x.route.rests_c (x.route.rests.map eB),.list x.route.visits_c (x.route.visits.map Z3)]
def Xj (x:Col):PV:= .agg [.int .i64 x.typ,.int .i64 x.set,.int .i64 x.price,.int .i64 x.route.typ,.int .i64 x.route.start,.list x.route.rests_c (x.route.rests.map eB),.list x.route.visits_c (x.route.visits.map Z3)]
@[go_sem] theorem Zko (x:Col):Xj x= .agg [.int .i64 x.typ,.int .i64 x.set,.int .i64 x.price,.int .i64 x.route.typ,.int .i64 x.route.start,.list x.route.rests_c (x.route.rests.map eB),.list x.route.visits_c (x.route.visits.map Z3)]:=Zm rfl rfl
structure Itm where
 kind:Int
 a:Int
 deriving Inhabited
def Xe (x:Itm):PV:= .agg [.int .i64 x.kind,.int .i64 x.a]
@[go_sem] theorem Zkp (x:Itm):Xe x= .agg [.int .i64 x.kind,.int .i64 x.a]:=Zm rfl rfl
@[go_sem] theorem Zc7 (l:List Itm):Bt 2 (l.map Xe)=true:=Bu (f:=Xe) (S:=2) (fun _=>rfl) l
@[go_sem] theorem ZiC (l:List Itm):KD 2 (l.map Xe)=true:=Qu fun _=>rfl
theorem own : ownKnob Tryz.prog.godebug=none:=Zg
theorem pL : laidOutB Tryz.prog=true:=Zg
def zeroI : Inst:=⟨⟨true,[],true,[]⟩,true,[],true,[],true,[],true,[]⟩
abbrev Flt := Int×List UInt8
def eF (f:Flt):PV:= .agg [.int .i64 f.1,.str f.2]
@[go_sem] theorem ZoD (f:Flt):eF f= .agg [.int .i64 f.1,.str f.2]:=Zm rfl rfl
@[go_sem] theorem ZmP (l:List Flt):KD 2 (l.map eF)=true:=Qu fun _=>rfl
def dec (n:Nat):List UInt8:=if h:n<10 then [UInt8.ofNat (48+n)] else dec (n / 10)++ [UInt8.ofNat (48+n%10)]
termination_by n
decreasing_by omega
theorem Rh : ∀(k n:Nat),n<k->(dec n).length<=n+1:=by
 intro k
 induction k with
 | zero=>omega
 | succ k ih =>
  grind [dec]
theorem A0 : ∀(d n:Nat),n<10^(d+1)->(dec n).length<=d+1:=by
 intro d
 induction d with
 | zero=>simp_all [dec]
 | succ d ih =>
  grind [dec]
def AH (n:Int):List UInt8:=if n<0 then 45::dec n.natAbs else dec n.natAbs
theorem Q4 (n:Int) (h:Qf n):(AH n).length<=20:=by
 have h1:n.natAbs<10^(18+1):=Za
 have:=A0 18 n.natAbs h1
 grind [AH]
structure FR {α:Type} (p:α->Prop) (C:Prop) (b:Nat) (l:List α):Prop where
 len:l.length<=b
 emp:l= []↔C
 all: ∀x∈l,p x
theorem FR.nil {α:Type} {p:α->Prop} {C:Prop} {b:Nat} (h:C):FR p C b []:=⟨Zb,by simp [h],Zb⟩
theorem FR.no {α:Type} {p:α->Prop} {C c:Prop} {b:Nat} {l:List α} (h:FR p C b l) (hc:c):FR p (C/\c) (b+1) l:=⟨by have:=h.len;omega,by rw [h.emp];simp [hc],h.all⟩
theorem FR.yes {α:Type} {p:α->Prop} {C c:Prop} {b:Nat} {l:List α} {x:α} (h:FR p C b l) (hc: ¬c) (hx:p x):FR p (C/\c) (b+1) (l++ [x]) :=
 ⟨by have:=h.len;simp;omega,by simp [hc],fun y hy=>by
  rcases Xg.1 hy with hy | hy
  ·exact h.all y hy
  grind⟩
theorem FR.app {α:Type} {p:α->Prop} {C D:Prop} {b d:Nat} {l m:List α} (h:FR p C b l) (k:FR p D d m):FR p (C/\D) (b+d) (l++m) :=
 ⟨by have:=h.len;have:=k.len;simp;omega,by rw [Ug,h.emp,k.emp],fun y hy=>by
  rcases Xg.1 hy with hy | hy
  ·exact h.all y hy
  ·exact k.all y hy⟩
theorem FR.to {α:Type} {p:α->Prop} {C D:Prop} {b d:Nat} {l:List α} (h:FR p C b l) (hb:b<=d) (hc:C↔D):FR p D d l:=⟨JM h.len hb,h.emp.trans hc,h.all⟩
theorem Zp {p:Nat->Prop} {k:Nat} :(∀j,j<k+1->p j)↔((∀j,j<k->p j)/\p k) :=
 ⟨fun h=>⟨fun j hj=>h j Za,h k Za⟩,fun h j hj=>by
  grind⟩
def JD (c:UInt8):Bool:=decide (48<=c.toNat/\c.toNat<=57)
def Ja (c:UInt8):Bool:=decide (97<=c.toNat/\c.toNat<=122)||decide (65<=c.toNat/\c.toNat<=90)||decide (c.toNat=95)
def nameOk (s:List UInt8):Bool:=decide (1<=s.length)&&decide (s.length<=16)&& !JD (nth s 0)&&s.all fun c=>Ja c||JD c
def rng (n lo hi:Int):Bool:=decide (lo<=n/\n<=hi)
def Ly (n:Int):Bool:=rng n 0 4096
def kC (l:List Pt) (i:Nat):Prop:=(0<=(nth l i).t/\(nth l i).t<=4096/\(nth l i).t<=(nth l i).a/\(nth l i).a<=(nth l i).t+4096)/\(0<i->(nth l (i-1)).t<(nth l i).t/\(nth l (i-1)).a<=(nth l i).a)
def WS (l:List Pt):Prop:=(1<=l.length/\l.length<=16)/\ ∀i,i<l.length->kC l i
def KP (l:List Pt) (i:Nat):Prop:=Ly (nth l i).t=true/\Ly (nth l i).a=true/\(0<i->(nth l (i-1)).t<(nth l i).t)
def LV (n:Net) (i:Nat):Prop :=
 ((((((0<=(nth n.arcs i).src/\(nth n.arcs i).src<n.places.length/\0<=(nth n.arcs i).dst/\(nth n.arcs i).dst<n.places.length) /\
 (0<=(nth n.arcs i).prof/\(nth n.arcs i).prof<=7/\0<=(nth n.arcs i).miles/\(nth n.arcs i).miles<=10000/\(nth n.arcs i).src≠(nth n.arcs i).dst)) /\
 (∀k,k<i-> ¬((nth n.arcs i).src=(nth n.arcs k).src/\(nth n.arcs i).dst=(nth n.arcs k).dst/\(nth n.arcs i).prof=(nth n.arcs k).prof))) /\
 WS (nth n.arcs i).travel)/\(nth n.arcs i).slow.length<=16)/\ ∀k,k<(nth n.arcs i).slow.length->KP (nth n.arcs i).slow k)
def Pd (n:Net) (i:Nat):Prop:=nameOk (nth n.places i)=true/\ ∀k,k<i->nth n.places k≠nth n.places i
def KH (n:Net):Prop:=n.places.length<=24/\ ∀i,i<n.places.length->Pd n i
def netOk (n:Net):Prop:=(KH n/\n.arcs.length<=1024)/\ ∀i,i<n.arcs.length->LV n i
set_option maxRecDepth 8000
set_option maxHeartbeats 4000000
theorem Rj (c:UInt8):PC 128 [.p (.int .u8 (c.toNat:Nat))] (.bool (JD c)):=by
 refine Zc Tryz.func128 rfl xY ?_;simp (disch:=omega) only [Tryz.f128,go_sem,seval];refine gT ?_ ?_<;>intro h<;>simp (disch:=omega) only [Sh.out h,go_sem,seval,↓reduceIte]
 all_goals (simp [JD];first | done | omega | grind)
theorem iF (c:UInt8):PC 129 [.p (.int .u8 (c.toNat:Nat))] (.bool (Ja c)):=by
 refine Zc Tryz.func129 rfl xZ ?_;simp (disch:=omega) only [Tryz.f129,go_sem,seval]
 repeat' (first | (refine gT ?_ ?_<;>intro hq<;>simp (disch:=omega) only [Sh.out hq,go_sem,seval,↓reduceIte]) | (refine gF ?_ ?_<;>intro hq<;>simp (disch:=omega) only [Sh.out hq,go_sem,seval,↓reduceIte]) | (refine Qj (fun hq=> ?_) (fun hq=> ?_)<;>(try simp only [Zs,XX,Z4] at hq)<;>simp (disch:=omega) only [Sh.out hq,go_sem,seval]))
 all_goals (simp [Ja];first | done | omega | (rw [Wl];simp;omega))
theorem O4 (s:List UInt8) (hs:s.length<=1048576):PC 95 [.p (.str s)] (.bool (nameOk s)):=by
 refine Zc Tryz.func95 rfl Zie ?_;simp (disch:=omega) only [Tryz.f95,go_sem,seval];refine gF ?_ ?_<;>intro h<;>simp (disch:=omega) only [Sh.out h,go_sem,seval,↓reduceIte]
 ·grind [nameOk]
 ·refine gF ?_ ?_<;>intro h2<;>simp (disch:=omega) only [Sh.out h2,go_sem,seval]
  ·grind [nameOk]
  ·have g1:1<=s.length:=Za
   have g2:s.length<=16:=Za
   refine (Rj (nth s 0)).use (Zd ?_);refine cD ?_ ?_<;>intro h3<;>simp (disch:=omega) only [Sh.out h3,go_sem,seval]
   ·simp [nameOk,h3]
   ·refine Zl [0] (fun k:Nat=> [(3,.p (.int .i64 k))]) (fun _=> []) (fun k=>k<=s.length/\ ∀j,j<k->(Ja (nth s j)||JD (nth s j))=true) (fun k=>s.length-k) 0 Zb (Weak.mk ?_) ?_
    ·simp (disch:=omega) only [go_sem,seval,↓reduceIte]
    ·rintro k ⟨hk,hno⟩;refine Zd ?_
     have hall: ∀j,j<s.length->(Ja (nth s j)||JD (nth s j))=false->nameOk s=false:=fun j hj e=>by
      grind [Zk,nameOk]
     refine cD ?_ ?_<;>intro h4<;>simp (disch:=omega) only [Sh.out h4,go_sem,seval,↓reduceIte]
     ·have hk2:k<s.length:=Za
      refine (iF (nth s k)).use (Zd ?_);refine gT ?_ ?_<;>intro h5<;>simp (disch:=omega) only [Sh.out h5,go_sem,seval,↓reduceIte]
      ·refine (Rj (nth s k)).use (Zd ?_);refine cD ?_ ?_<;>intro h6<;>simp (disch:=omega) only [Sh.out h6,go_sem,seval,↓reduceIte]
       ·grind
       ·simp only [XB] at h6;exact ⟨k+1,⟨Za,Zp.2 ⟨hno,by simp [h6]⟩⟩,Za,wk⟩
      ·simp only [XB] at h5;exact ⟨k+1,⟨Za,Zp.2 ⟨hno,by simp [h5]⟩⟩,Za,wk⟩
     ·have:s.all (fun c=>Ja c||JD c)=true:=by
       rw [ZC];intro c hc;obtain ⟨j,hj,rfl⟩:=ZN.1 hc
       grind [Zk]
      grind [nameOk]
theorem K0 (n:Int) (hn:Qf n):PC 74 [.p (.int .i64 n)] (.str (AH n)):=by
 refine Zc Tryz.func74 rfl ZhW ?_;simp (disch:=omega) only [Tryz.f74,go_sem,seval]
 have h19:n.natAbs<10^(18+1):=Za
 have hdl:=A0 18 n.natAbs h19
 refine ZV [7] [0] (fun q:Int×List UInt8×Bool=> [(3,.p (.str q.2.1)),(4,.p (.int .i64 q.1)),(5,.p (.bool q.2.2))]) (fun _=> [])
  (fun q=>Qf q.1/\(q.2.2=true->dec q.1.natAbs++q.2.1=dec n.natAbs)/\(q.2.2=false->q.2.1=dec n.natAbs)) (fun q=>if q.2.2 then q.1.natAbs+1 else 0) (n,[],true) (by simp;omega) (Weak.mk ?_) ?_
 ·simp (disch:=omega) only [go_sem,seval,↓reduceIte]
 ·rintro ⟨m,s,again⟩ ⟨hm,h1,h2⟩;simp only at hm h1 h2;refine Zd ?_
  cases again with
  | false =>
   refine Zd ?_;have h2:=h2 rfl
   have hl2:([45]:List UInt8).length+(dec n.natAbs).length<=9223372036854775807:=by simp;omega
   refine cD ?_ ?_<;>intro h3<;>simp (disch:=omega) only [Sh.out h3,go_sem,seval]
   ·simp (disch:=omega) only [AH,h2,h3,kR hl2,go_sem,seval,↓reduceIte]
   ·simp (disch:=omega) only [AH,h2,h3,go_sem,seval,↓reduceIte]
  | true =>
   have h1:=h1 rfl
   have hls:(dec m.natAbs).length+s.length=(dec n.natAbs).length:=by grind
   refine Zd ?_
   have e1:(m.tmod 10).natAbs=m.natAbs%10:=Zb
   have e2:(m.tdiv 10).natAbs=m.natAbs / 10:=by grind
   have e3:m.tmod 10<10/\ -10<m.tmod 10:=⟨Int.tmod_lt_of_pos _ (by decide),Za⟩;refine ZH [0,3,4] (fun _:Unit=> [(6,.p (.int .i64 ((m.natAbs%10:Nat):Int)))]) (fun _=> []) (fun _=>True) ?_ ?_
   ·refine Zd ?_;refine cD ?_ ?_<;>intro h3<;>simp (disch:=omega) only [Sh.out h3,go_sem,seval,↓reduceIte]
    ·exact ⟨(),Weak.mk (by refine Zd ?_;simp;omega)⟩
    ·exact ⟨(),Weak.mk (by refine Zd ?_;simp;omega)⟩
   ·intro _ _;refine Zh [] _ _ _ _ ?_;simp (disch:=first | omega | (simp only [ZA,ZF,Zz,Zy,Z6,Xt]<;>omega)) only [go_sem,seval,↓reduceIte]
    have e4:(48+((m.natAbs%10:Nat):Int)).toNat=48+m.natAbs%10:=Za
    refine ⟨(m.tdiv 10,UInt8.ofNat (48+m.natAbs%10)::s,decide (m.tdiv 10≠0)),⟨?_,?_,?_⟩,?_,Weak.mk ?_⟩
    ·omega
    ·simp only [Zs];intro hne
     have h10: ¬m.natAbs<10:=Za
     rw [e2,<- h1,dec.eq_def m.natAbs,dif_neg h10];simp
    ·simp only [XX,Z4];intro hz
     have h10:m.natAbs<10:=Za
     rw [<- h1,dec.eq_def m.natAbs,dif_pos h10,B8 h10];simp
    ·grind
    ·simp (disch:=omega) only [e4,go_sem,seval]
def pF (k:Nat) (f:Flt):Prop:=f.2.length<=k
theorem Xd {P:Program} {id:Nat} {l:List Oper} {fr:List V} {H:List AM.Obj} {Q:Exit->List V->List AM.Obj->Prop} {t} (h:hs P (l.map (·.dst)) H (Zt (fun fr'=>Q .normal (IJ fr') H) ⟨⟩) l (IJ fr)) (hm:P.follows .mixedOrders=true:=by exact mixed) (hB:WO (List.toArray l) l.length=true:=by kernel_rfl) (hR:KJ (List.toArray l) l.length=true:=by kernel_rfl):AWP P (.region id (Zt (List.toArray l) t) true) fr H Q:=Om hm hB hR h
theorem dZ (l:List Pt) (c:Bool) (hl:l.length<=1048576):ACalls Tryz.prog 96 [.p (.list c (l.map GZ))] [] fun x H'=> ∃m:List Flt,FR (pF 20) (WS l) (2*l.length+1) m/\x= .sl 0 0 m.length m.length/\H'= [.elems 2 (m.map eF)]:=by
 refine ZE [2] Tryz.func96 rfl Zif ?_;simp (disch:=omega) only [Tryz.f96,go_sem,seval];refine Zo (Weak.ofNil 3 2 (by simp (disch:=omega) only [go_sem,seval]) Zb (Weak.refl _ _ _)) ?_;refine ZH [0] (fun m:List Flt=> [(3,.sl 0 0 m.length m.length)]) (fun m=> [.elems 2 (m.map eF)]) (fun m=>FR (pF 20) (1<=l.length/\l.length<=16) 1 m) ?_ ?_
 ·refine Zd ?_
  repeat' (first | (refine VQ (fun hq=> ?_) (fun hq=> ?_)<;>(try simp only [Zs,XX,Z4] at hq)<;>simp (disch:=omega) only [Sh.out hq,go_sem,seval]) | (refine gF ?_ ?_<;>intro hq<;>simp (disch:=omega) only [Sh.out hq,go_sem,seval,↓reduceIte]) | (refine cD ?_ ?_<;>intro hq<;>simp (disch:=omega) only [Sh.out hq,go_sem,seval,↓reduceIte]))
  ·exact ⟨[(4,[])],⟨Zb,by simp;omega,by simp [pF]⟩,wk⟩
  ·exact ⟨[(4,[])],⟨Zb,by simp;omega,by simp [pF]⟩,wk⟩
  ·exact ⟨[],FR.nil Za,wk⟩
 ·intro m hm;refine Zh [] _ _ _ _ (Zd ?_);refine ZV [8] [0] (fun q:Nat×List Flt=> [(3,.sl 0 0 q.2.length q.2.length),(4,.p (.int .i64 q.1))]) (fun q=> [.elems 2 (q.2.map eF)]) (fun q=>q.1<=l.length/\FR (pF 20) ((1<=l.length/\l.length<=16)/\ ∀j,j<q.1->kC l j) (2*q.1+1) q.2) (fun q=>l.length-q.1) (0,m) ⟨Zb,hm.to Zb Zb⟩ (Weak.mk ?_) ?_
  ·simp (disch:=omega) only [go_sem,seval,↓reduceIte]
  ·rintro ⟨k,m⟩ ⟨hk,hm⟩;simp only at hk hm;have hml:=hm.len;refine Zd ?_;refine cD ?_ ?_<;>intro h<;>simp (disch:=omega) only [Sh.out h,go_sem,seval,↓reduceIte]
   ·have hk2:k<l.length:=Za
    refine ZH [0,4,5] (fun m:List Flt=> [(3,.sl 0 0 m.length m.length)]) (fun m=> [.elems 2 (m.map eF),.cells [.p (.int .i64 (nth l k).t),.p (.int .i64 (nth l k).a)]])
     (fun m=>FR (pF 20) (((1<=l.length/\l.length<=16)/\ ∀j,j<k->kC l j)/\(0<=(nth l k).t/\(nth l k).t<=4096/\(nth l k).t<=(nth l k).a/\(nth l k).a<=(nth l k).t+4096)) (2*k+1+1) m) ?_ ?_
    ·refine Zd ?_
     have hI:Qf (k:Int):=Za
     have hdl:=Q4 k hI
     repeat' (first | (refine VQ (fun hq=> ?_) (fun hq=> ?_)<;>(try simp only [Zs,XX,Z4] at hq)<;>simp (disch:=omega) only [Sh.out hq,go_sem,seval]) | (refine gF ?_ ?_<;>intro hq<;>simp (disch:=omega) only [Sh.out hq,go_sem,seval,↓reduceIte]) | (refine cD ?_ ?_<;>intro hq<;>simp (disch:=omega) only [Sh.out hq,go_sem,seval,↓reduceIte]))
     all_goals try exact ⟨m,hm.no Za,wk⟩
     all_goals
      refine (K0 k hI).use ?_;simp (disch:=omega) only [go_sem,seval,↓reduceIte];exact ⟨m++ [(2,AH k)],hm.yes Za (by simp only [pF];omega),wk⟩
    ·intro m hm;have hml:=hm.len;refine Zh [] _ _ _ _ (Zd ?_)
     have hI:Qf (k:Int):=Za
     have hdl:=Q4 k hI;refine Xd (Zd ?_)
     repeat' (first | (refine gT ?_ ?_<;>intro hq<;>simp (disch:=omega) only [Sh.out hq,go_sem,seval,↓reduceIte]) | (refine gF ?_ ?_<;>intro hq<;>simp (disch:=omega) only [Sh.out hq,go_sem,seval,↓reduceIte]) | (refine cD ?_ ?_<;>intro hq<;>simp (disch:=omega) only [Sh.out hq,go_sem,seval,↓reduceIte]))
     all_goals try exact ⟨(k+1,m),⟨by simp only;omega,(hm.no (c:=0<k->(nth l (k-1)).t<(nth l k).t/\(nth l (k-1)).a<=(nth l k).a) Za).to (by simp only;omega) (by simp only [Zp,kC,and_assoc])⟩,by simp only;omega,wk⟩
     all_goals
      refine (K0 k hI).use ?_;simp (disch:=omega) only [go_sem,seval,↓reduceIte];exact ⟨(k+1,m++ [(13,AH k)]),⟨by simp only;omega,(hm.yes (c:=0<k->(nth l (k-1)).t<(nth l k).t/\(nth l (k-1)).a<=(nth l k).a) Za (by simp only [pF];omega)).to (by simp only;omega) (by simp only [Zp,kC,and_assoc])⟩,by simp only;omega,wk⟩
   ·have hkn:k=l.length:=Za
    subst hkn;exact ⟨m,hm.to Za (by rw [WS]),0,by simp (disch:=omega) only [go_sem,seval]⟩
set_option maxHeartbeats 8000000
theorem pF.mono {j k:Nat} (h:j<=k) {f:Flt} (hf:pF j f):pF k f:=JM hf h
theorem FR.pmono {α:Type} {p q:α->Prop} {C:Prop} {b:Nat} {l:List α} (h:FR p C b l) (hp: ∀x,p x->q x):FR q C b l:=⟨h.len,h.emp,fun x hx=>hp x (h.all x hx)⟩
theorem NQ (n:Int):PC 97 [.p (.int .i64 n)] (.bool (Ly n)):=by
 refine Zc Tryz.func97 rfl Zig ?_;simp (disch:=omega) only [Tryz.f97,go_sem,seval]
 repeat' (first | (refine gT ?_ ?_<;>intro hq<;>simp (disch:=omega) only [Sh.out hq,go_sem,seval,↓reduceIte]) | (refine UU (fun hq=> ?_) (fun hq=> ?_)<;>(try simp only [Zs,XX,Z4] at hq)<;>simp (disch:=omega) only [Sh.out hq,go_sem,seval]) | (refine Qj (fun hq=> ?_) (fun hq=> ?_)<;>(try simp only [Zs,XX,Z4] at hq)<;>simp (disch:=omega) only [Sh.out hq,go_sem,seval]))
 all_goals (simp [Ly,rng];first | done | omega | (rw [Wl];simp;omega))
def Z2 (n:Net):List AM.Obj:= [.cells [.p (.list n.places_c (n.places.map eS)),.p (.list n.arcs_c (n.arcs.map Vs))]]
theorem KR {P Q:Prop} (h:Q) (e:Q->P:=by intro h;simp (disch:=omega) only [Z2,go_sem,seval];exact h):P:=e h
theorem OD (n:Net) (hp:n.places.length<=1048576) (hs: ∀s∈n.places,s.length<=1048576):ACalls Tryz.prog 70 [.p (BG n)] [] fun x H'=> ∃m:List Flt,FR (pF 26) (KH n) (n.places.length+1) m/\x= .sl 0 0 m.length m.length/\H'= [.elems 2 (m.map eF)]:=by
 refine ZE [2] Tryz.func70 rfl ZhS ?_;simp (disch:=omega) only [Tryz.f70,go_sem,seval];refine Zo (Weak.ofNil 3 2 (by simp (disch:=omega) only [go_sem,seval]) Zb (Weak.refl _ _ _)) ?_;refine ZH [1] (fun m:List Flt=> [(3,.sl 1 0 m.length m.length)]) (fun m=>Z2 n++ [.elems 2 (m.map eF)]) (fun m=>FR (pF 26) (n.places.length<=24) 1 m) ?_ ?_
 ·refine Zd ?_;refine ZU ?_ ?_<;>intro h
  ·exact ⟨[(4,[112,108,97,99,101,115])],⟨Zb,by simp;omega,by simp [pF]⟩,Weak.mk (by simp (disch:=omega) only [Z2,go_sem,seval])⟩
  ·exact ⟨[],FR.nil Za,Weak.mk (by simp (disch:=omega) only [Z2,go_sem,seval])⟩
 ·intro m hm;refine Zh [] _ _ _ _ (KR ?_);refine Zl [1] (fun q:Nat×List Flt=> [(3,.sl 1 0 q.2.length q.2.length),(4,.p (.int .i64 q.1))]) (fun q=>Z2 n++ [.elems 2 (q.2.map eF)]) (fun q=>q.1<=n.places.length/\FR (pF 26) (n.places.length<=24/\ ∀j,j<q.1->Pd n j) (q.1+1) q.2) (fun q=>n.places.length-q.1) (0,m) ⟨Zb,hm.to Zb Zb⟩ (Weak.mk ?_) ?_
  ·simp (disch:=omega) only [Z2,go_sem,seval]
  ·rintro ⟨k,m⟩ ⟨hk,hm⟩;simp only at hk hm;have hml:=hm.len;refine KR ?_;refine cD ?_ ?_<;>intro h<;>simp (disch:=omega) only [Sh.out h,go_sem,seval,↓reduceIte]
   ·have hk2:k<n.places.length:=Za
    have hI:Qf (k:Int):=Za
    have hdl:=Q4 k hI;refine (K0 k hI).use (Zd ?_);simp (disch:=first | omega | (simp only [ZA,ZF,Zz,Zy,Z6,Xt]<;>omega)) only [go_sem,seval,↓reduceIte];refine (O4 (nth n.places k) (hs _ (by grind [Zk]))).use (Zd ?_);refine ZU ?_ ?_<;>intro h2
    ·simp only [XN] at h2;exact ⟨(k+1,m++ [(5,[112,108,97,99,101,32]++AH k)]),⟨Za,(hm.yes (c:=Pd n k) (by rw [Pd,h2];simp) (by simp [pF];omega)).to Zb (by grind)⟩,Za,wk⟩
    ·simp only [XB] at h2;refine Zl [1,3,4,5] (fun q:Nat×Bool=> [(6,.p (.bool q.2)),(7,.p (.int .i64 q.1))]) (fun _=>Z2 n++ [.elems 2 (m.map eF)]) (fun q=>q.1<=k/\(q.2=false↔ ∀j,j<q.1->nth n.places j≠nth n.places k)) (fun q=>k-q.1) (0,false) Zb (Weak.mk ?_) ?_
     ·simp (disch:=omega) only [Z2,go_sem,seval]
     ·rintro ⟨j,b⟩ ⟨hj,hb⟩;simp only at hj hb;refine KR ?_;refine cD ?_ ?_<;>intro h3<;>simp (disch:=omega) only [Sh.out h3,go_sem,seval,↓reduceIte]
      ·refine ZB 14 mixed Zg Zg (Zd ?_)
       have hjn:j<n.places.length:=Za
       cases b with
       | true =>
        refine Zd ?_;exact ⟨(j+1,true),⟨Za,by grind⟩,Za,wk⟩
       | false =>
        refine Zd ?_;refine ⟨(j+1,decide (nth n.places j=nth n.places k)),⟨Za,by grind⟩,Za,wk⟩
      ·have hjk:j=k:=Za
       subst hjk
       cases b with
       | true =>
        refine Zd ?_
        have hno: ¬Pd n j:=fun h5=>by have:=hb.2 h5.2;cases this
        exact ⟨(j+1,m++ [(6,[112,108,97,99,101,32]++AH j)]),⟨Za,(hm.yes (c:=Pd n j) hno (by simp [pF];omega)).to Zb (by grind)⟩,Za,wk⟩
       | false =>
        refine Zd ?_;exact ⟨(j+1,m),⟨Za,(hm.no (c:=Pd n j) ⟨h2,hb.1 rfl⟩).to Zb (by grind)⟩,Za,wk⟩
   ·have hkn:k=n.places.length:=Za
    subst hkn;exact ⟨m,hm.to Za (by rw [KH]),1,by simp (disch:=omega) only [go_sem,seval]⟩
set_option maxHeartbeats 16000000
def WW (a:Arc):AM.Obj:= .cells [.p (.int .i64 a.src),.p (.int .i64 a.dst),.p (.int .i64 a.prof),.p (.int .i64 a.miles),.p (.list a.travel_c (a.travel.map GZ)),.p (.list a.slow_c (a.slow.map GZ))]
abbrev Wp (a b:Arc):Prop:=a.src=b.src/\a.dst=b.dst/\a.prof=b.prof
theorem Bk {P Q:Prop} (h:Q) (e:Q->P:=by intro h;simp (disch:=omega) only [Z2,WW,go_sem,seval];exact h):P:=e h
theorem oI (n:Net) (i:Nat) (hi:i<n.arcs.length) (hp:n.places.length<=1048576) (ha:n.arcs.length<=1048576) (ht:(nth n.arcs i).travel.length<=1048576) (hsl:(nth n.arcs i).slow.length<=1048576) :
  ACalls Tryz.prog 71 [.p (BG n),.p (.int .i64 (i:Nat))] [] fun x H'=> ∃m:List Flt,FR (pF 26) (LV n i) 4000000 m/\x= .sl 0 0 m.length m.length/\H'= [.elems 2 (m.map eF)]:=by
 refine ZE [4] Tryz.func71 rfl ZhT ?_;simp (disch:=omega) only [Tryz.f71,go_sem,seval]
 have hI:Qf (i:Int):=Za
 have hdl:=Q4 i hI;refine (K0 i hI).use (Zd ?_);simp (disch:=first | omega | (simp only [ZA,ZF,Zz,Zy,Z6,Xt]<;>omega)) only [go_sem,seval,↓reduceIte]
 have hat:(97::114::99::32::AH i).length<=26:=by simp;omega
 generalize hga:nth n.arcs i=a at ht hsl ⊢;generalize 97::114::99::32::AH i=at' at hat ⊢;refine Zo (Weak.ofNil 5 2 (by simp (disch:=omega) only [go_sem,seval]) Zb (Weak.refl _ _ _)) ?_;refine ZH [1,2,6,7] (fun m:List Flt=> [(5,.sl 2 0 m.length m.length)]) (fun m=>Z2 n++ [WW a,.elems 2 (m.map eF)]) (fun m=>FR (pF 26) (0<=a.src/\a.src<n.places.length/\0<=a.dst/\a.dst<n.places.length) 1 m) ?_ ?_
 ·refine Zd ?_
  repeat' (first | (refine VQ (fun hq=> ?_) (fun hq=> ?_)<;>(try simp only [Zs,XX,Z4] at hq)<;>simp (disch:=omega) only [Sh.out hq,go_sem,seval]) | (refine gF ?_ ?_<;>intro hq<;>simp (disch:=omega) only [Sh.out hq,go_sem,seval]) | (refine cD ?_ ?_<;>intro hq<;>simp (disch:=omega) only [Sh.out hq,go_sem,seval]))
  all_goals try exact ⟨[],FR.nil Za,Weak.mk (by simp (disch:=omega) only [Z2,WW,go_sem,seval])⟩
  all_goals exact ⟨[(11,at')],⟨Zb,by simp;omega,by simpa [pF] using hat⟩,Weak.mk (by simp (disch:=omega) only [Z2,WW,go_sem,seval])⟩
 ·intro m hm;refine Zh [6] _ _ _ _ (Bk ?_);have hml:=hm.len
  refine ZH [1,2,6,7] (fun m:List Flt=> [(5,.sl 2 0 m.length m.length)]) (fun m=>Z2 n++ [WW a,.elems 2 (m.map eF)])
   (fun m=>FR (pF 26) ((0<=a.src/\a.src<n.places.length/\0<=a.dst/\a.dst<n.places.length)/\(0<=a.prof/\a.prof<=7/\0<=a.miles/\a.miles<=10000/\a.src≠a.dst)) 2 m) ?_ ?_
  ·refine Zd ?_
   repeat' (first | (refine VQ (fun hq=> ?_) (fun hq=> ?_)<;>(try simp only [Zs,XX,Z4] at hq)<;>simp (disch:=omega) only [Sh.out hq,go_sem,seval]) | (refine gF ?_ ?_<;>intro hq<;>simp (disch:=omega) only [Sh.out hq,go_sem,seval]) | (refine cD ?_ ?_<;>intro hq<;>simp (disch:=omega) only [Sh.out hq,go_sem,seval]))
   all_goals try exact ⟨m,hm.no Za,Weak.mk (by simp (disch:=omega) only [Z2,WW,go_sem,seval])⟩
   all_goals exact ⟨m++ [(2,at')],hm.yes Za (by simpa [pF] using hat),Weak.mk (by simp (disch:=omega) only [Z2,WW,go_sem,seval])⟩
  ·clear hm hml;intro m hm;refine Zh [14] _ _ _ _ (Bk ?_);have hml:=hm.len;refine ZV [14] [1,2,5,6,7] (fun q:Nat×Bool=> [(8,.p (.bool q.2)),(9,.p (.int .i64 q.1))]) (fun _=>Z2 n++ [WW a,.elems 2 (m.map eF)]) (fun q=>q.1<=i/\(q.2=false↔ ∀j,j<q.1-> ¬Wp a (nth n.arcs j))) (fun q=>i-q.1) (0,false) Zb (Weak.mk ?_) ?_
   ·simp (disch:=omega) only [Z2,WW,go_sem,seval]
   ·rintro ⟨k,b⟩ ⟨hk,hb⟩;simp only at hk hb;refine Bk ?_;refine cD ?_ ?_<;>intro h<;>simp (disch:=omega) only [Sh.out h,go_sem,seval,↓reduceIte]
    ·have hkn:k<n.arcs.length:=Za
     cases b with
     | true =>
      refine Zd ?_;exact ⟨(k+1,true),⟨Za,by grind⟩,Za,wk⟩
     | false =>
      refine Zd ?_
      repeat' (first | (refine gT ?_ ?_<;>intro hq<;>simp (disch:=omega) only [Sh.out hq,go_sem,seval]) | (refine UU (fun hq=> ?_) (fun hq=> ?_)<;>(try simp only [Zs,XX,Z4] at hq)<;>simp (disch:=omega) only [Sh.out hq,go_sem,seval]) | (refine Qj (fun hq=> ?_) (fun hq=> ?_)<;>(try simp only [Zs,XX,Z4] at hq)<;>simp (disch:=omega) only [Sh.out hq,go_sem,seval]))
      all_goals refine ⟨(k+1,decide (Wp a (nth n.arcs k))),⟨by simp only;omega,by rw [Zp,<- hb];simp⟩,by simp only;omega,Weak.mk ?_⟩
      all_goals simp (disch:=omega) only [go_sem,seval]
      all_goals simp [Wp, *]
    ·have hki:k=i:=Za
     subst hki;have htw:(b=false↔ ∀j,j<k-> ¬Wp a (nth n.arcs j)):=hb;clear hb hk h
     refine ZH [6,7] (fun m:List Flt=> [(5,.sl 2 0 m.length m.length)]) (fun m=>Z2 n++ [WW a,.elems 2 (m.map eF)])
      (fun m=>FR (pF 26) (((0<=a.src/\a.src<n.places.length/\0<=a.dst/\a.dst<n.places.length)/\(0<=a.prof/\a.prof<=7/\0<=a.miles/\a.miles<=10000/\a.src≠a.dst))/\ ∀j,j<k-> ¬Wp a (nth n.arcs j)) 3 m) ?_ ?_
     ·refine Zd ?_
      cases b with
      | true =>
       refine Zd ?_;exact ⟨m++ [(6,at')],hm.yes (by grind) (by grind [pF]),Weak.mk (by simp (disch:=omega) only [Z2,WW,go_sem,seval])⟩
      | false =>
       refine Zd ?_;exact ⟨m,hm.no (htw.1 rfl),Weak.mk (by simp (disch:=omega) only [Z2,WW,go_sem,seval])⟩
     ·clear hm hml;intro m hm;refine Zh [21] _ _ _ _ (Bk ?_);have hml:=hm.len;refine ((dZ a.travel a.travel_c ht).frozenE).useV fun lt hlt=>Zd ?_;have hltl:=hlt.len
      refine ZV [21] [6,7,11] (fun q:Nat×List Flt=> [(5,.sl 2 0 q.2.length q.2.length),(12,.p (.int .i64 q.1))]) (fun q=>Z2 n++ [WW a,.elems 2 (q.2.map eF)])
       (fun q=>q.1<=lt.length/\FR (pF 26) ((((0<=a.src/\a.src<n.places.length/\0<=a.dst/\a.dst<n.places.length)/\(0<=a.prof/\a.prof<=7/\0<=a.miles/\a.miles<=10000/\a.src≠a.dst))/\ ∀j,j<k-> ¬Wp a (nth n.arcs j))/\q.1=0) (3+q.1) q.2) (fun q=>lt.length-q.1) (0,m) ⟨Zb,hm.to Zb Zb⟩ (Weak.mk ?_) ?_
      ·simp (disch:=omega) only [Z2,WW,go_sem,seval]
      ·clear hm hml;rintro ⟨j,m⟩ ⟨hj,hm⟩;simp only at hj hm;have hml:=hm.len;refine Bk ?_;refine ZU ?_ ?_<;>intro h
       ·have hj2:j<lt.length:=Za
        exact ⟨(j+1,m++ [((nth lt j).1,at')]),⟨Za,(hm.yes (c:=False) Zb (by grind [pF])).to Za Zb⟩,Za,wk⟩
       ·have hjl:j=lt.length:=Za
        subst hjl;have hm2:=hm.to (d:=3+lt.length) (D:=(((0<=a.src/\a.src<n.places.length/\0<=a.dst/\a.dst<n.places.length)/\(0<=a.prof/\a.prof<=7/\0<=a.miles/\a.miles<=10000/\a.src≠a.dst))/\ ∀j,j<k-> ¬Wp a (nth n.arcs j))/\WS a.travel) (ZI _) (by rw [<- hlt.emp,List.eq_nil_iff_length_eq_zero]);clear hm
        refine ZH [6,7] (fun m:List Flt=> [(5,.sl 2 0 m.length m.length)]) (fun m=>Z2 n++ [WW a,.elems 2 (m.map eF)])
         (fun m=>FR (pF 26) (((((0<=a.src/\a.src<n.places.length/\0<=a.dst/\a.dst<n.places.length)/\(0<=a.prof/\a.prof<=7/\0<=a.miles/\a.miles<=10000/\a.src≠a.dst))/\ ∀j,j<k-> ¬Wp a (nth n.arcs j))/\WS a.travel)/\a.slow.length<=16) (4+lt.length) m) ?_ ?_
        ·refine Zd ?_;refine ZU ?_ ?_<;>intro h2
         ·exact ⟨m++ [(4,at')],(hm2.yes Za (by grind [pF])).to Za Iff.rfl,Weak.mk (by simp (disch:=omega) only [Z2,WW,go_sem,seval])⟩
         ·exact ⟨m,(hm2.no Za).to Za Iff.rfl,Weak.mk (by simp (disch:=omega) only [Z2,WW,go_sem,seval])⟩
        ·clear hm2 hml h hj;intro m hm;refine Zh [] _ _ _ _ (Bk ?_)
         refine Zl [6,7] (fun q:Nat×List Flt=> [(5,.sl 2 0 q.2.length q.2.length),(13,.p (.int .i64 q.1))]) (fun q=>Z2 n++ [WW a,.elems 2 (q.2.map eF)])
          (fun q=>q.1<=a.slow.length/\FR (pF 26) ((((((0<=a.src/\a.src<n.places.length/\0<=a.dst/\a.dst<n.places.length)/\(0<=a.prof/\a.prof<=7/\0<=a.miles/\a.miles<=10000/\a.src≠a.dst))/\ ∀j,j<k-> ¬Wp a (nth n.arcs j))/\WS a.travel)/\a.slow.length<=16)/\ ∀j,j<q.1->KP a.slow j) (4+lt.length+q.1) q.2) (fun q=>a.slow.length-q.1) (0,m) ⟨Zb,hm.to Zb Zb⟩ (Weak.mk ?_) ?_
         ·simp (disch:=omega) only [Z2,WW,go_sem,seval]
         ·clear hm;rintro ⟨j,m⟩ ⟨hj,hm⟩;simp only at hj hm;have hml:=hm.len;refine Bk ?_;refine cD ?_ ?_<;>intro h<;>simp (disch:=omega) only [Sh.out h,go_sem,seval,↓reduceIte]
          ·have hj2:j<a.slow.length:=Za
           refine Xd (Zd ?_);refine Zn (NQ (nth a.slow j).t) (Zd ?_);have hslo:KP a.slow j↔(Ly (nth a.slow j).t=true/\Ly (nth a.slow j).a=true/\(0<j->(nth a.slow (j-1)).t<(nth a.slow j).t)):=Iff.rfl;have hyes: ¬KP a.slow j->_:=fun hs=>(hm.yes (x:=(2,at')) hs (by grind [pF])).to (D:=(((((0<=a.src/\a.src<n.places.length/\0<=a.dst/\a.dst<n.places.length)/\(0<=a.prof/\a.prof<=7/\0<=a.miles/\a.miles<=10000/\a.src≠a.dst))/\ ∀j,j<k-> ¬Wp a (nth n.arcs j))/\WS a.travel)/\a.slow.length<=16)/\ ∀i,i<j+1->KP a.slow i) (d:=4+lt.length+(j+1)) Za (by grind)
           have hno:KP a.slow j->_:=fun hs=>(hm.no hs).to (D:=(((((0<=a.src/\a.src<n.places.length/\0<=a.dst/\a.dst<n.places.length)/\(0<=a.prof/\a.prof<=7/\0<=a.miles/\a.miles<=10000/\a.src≠a.dst))/\ ∀j,j<k-> ¬Wp a (nth n.arcs j))/\WS a.travel)/\a.slow.length<=16)/\ ∀i,i<j+1->KP a.slow i) (d:=4+lt.length+(j+1)) Za (by grind)
           cases ht1:Ly (nth a.slow j).t with
           | false =>
            refine Zd ?_;exact ⟨(j+1,m++ [(2,at')]),⟨Za,hyes (by grind)⟩,Za,wk⟩
           | true =>
            refine Zd ?_;refine Zn (NQ (nth a.slow j).a) (Zd ?_)
            cases ht2:Ly (nth a.slow j).a with
            | false =>
             refine Zd ?_;exact ⟨(j+1,m++ [(2,at')]),⟨Za,hyes (by grind)⟩,Za,wk⟩
            | true =>
             refine Zd ?_
             repeat' (first | (refine gT ?_ ?_<;>intro hq<;>simp (disch:=omega) only [Sh.out hq,go_sem,seval]) | (refine UU (fun hq=> ?_) (fun hq=> ?_)<;>(try simp only [Zs,XX,Z4] at hq)<;>simp (disch:=omega) only [Sh.out hq,go_sem,seval]) | (refine cD ?_ ?_<;>intro hq<;>simp (disch:=omega) only [Sh.out hq,go_sem,seval]))
             ·exact ⟨(j+1,m++ [(2,at')]),⟨Za,hyes (by grind)⟩,Za,wk⟩
             ·exact ⟨(j+1,m),⟨Za,hno (by grind)⟩,Za,wk⟩
             ·exact ⟨(j+1,m),⟨Za,hno (by grind)⟩,Za,wk⟩
          ·have hjn:j=a.slow.length:=Za
           subst hjn;exact ⟨m,hm.to Za (by rw [LV,hga]),2,by simp (disch:=omega) only [go_sem,seval]⟩
theorem Zu {α:Type} [Inhabited α] {l:List α} {i:Nat} (h:i<l.length):nth l i∈l:=by grind [Zk]
theorem wN (n:Net) (hw:n.wf 1048576):ACalls Tryz.prog 38 [.p (BG n)] [] fun x H'=> ∃m:List Flt,FR (pF 26) (netOk n) 4194306000000 m/\x= .sl 0 0 m.length m.length/\H'= [.elems 2 (m.map eF)]:=by
 obtain ⟨w1,w2,w3,w4⟩:=hw;refine ZE [2] Tryz.func38 rfl Zhp ?_;simp (disch:=omega) only [Tryz.f38,go_sem,seval];refine (OD n w1 w2).useE fun m hm=>Zd ?_;have hml:=hm.len;refine ZH [1] (fun m:List Flt=> [(3,.sl 1 0 m.length m.length)]) (fun m=>Z2 n++ [.elems 2 (m.map eF)]) (fun m=>FR (pF 26) (KH n/\n.arcs.length<=1024) (n.places.length+2) m) ?_ ?_
 ·refine Zd ?_;refine ZU ?_ ?_<;>intro h
  ·exact ⟨m++ [(4,[97,114,99,115])],hm.yes Za (by simp [pF]),Weak.mk (by simp (disch:=omega) only [Z2,go_sem,seval])⟩
  ·exact ⟨m,hm.no Za,Weak.mk (by simp (disch:=omega) only [Z2,go_sem,seval])⟩
 ·clear hm hml;intro m hm;refine Zh [] _ _ _ _ (KR ?_);refine Zl [1] (fun q:Nat×List Flt=> [(3,.sl 1 0 q.2.length q.2.length),(4,.p (.int .i64 q.1))]) (fun q=>Z2 n++ [.elems 2 (q.2.map eF)]) (fun q=>q.1<=n.arcs.length/\FR (pF 26) ((KH n/\n.arcs.length<=1024)/\ ∀j,j<q.1->LV n j) (n.places.length+2+q.1*4000000) q.2) (fun q=>n.arcs.length-q.1) (0,m) ⟨Zb,hm.to Zb Zb⟩ (Weak.mk ?_) ?_
  ·simp (disch:=omega) only [Z2,go_sem,seval]
  ·clear hm;rintro ⟨k,m⟩ ⟨hk,hm⟩;simp only at hk hm;have hml:=hm.len;refine KR ?_;refine cD ?_ ?_<;>intro h<;>simp (disch:=omega) only [Sh.out h,go_sem,seval,↓reduceIte]
   ·have hk2:k<n.arcs.length:=Za
    have ha:=w4 _ (Zu hk2);refine (oI n k hk2 w1 w3 ha.2.2.2.2.1 ha.2.2.2.2.2.2.1).useE fun f hf=>Zd ?_;have hfl:=hf.len
    have q1:(m.length+f.length)*24<=140737488355328:=Za
    have q2:m.length+f.length<=140737488355328:=Za
    simp (disch:=omega) only [q1,q2,go_sem,seval];refine ⟨(k+1,m++f),⟨Za,(hm.app hf).to Za (by grind)⟩,Za,Weak.mk ?_⟩;simp (disch:=omega) only [Zz,Xn,go_sem,seval]
   ·have hkn:k=n.arcs.length:=Za
    subst hkn;exact ⟨m,hm.to Za (by rw [netOk]),1,by simp (disch:=omega) only [go_sem,seval]⟩
theorem Vg (n lo hi:Int):PC 72 [.p (.int .i64 n),.p (.int .i64 lo),.p (.int .i64 hi)] (.bool (rng n lo hi)):=by
 refine Zc Tryz.func72 rfl ZhU ?_;simp (disch:=omega) only [Tryz.f72,go_sem,seval];refine gT ?_ ?_<;>intro h<;>simp (disch:=omega) only [Sh.out h,go_sem,seval,↓reduceIte]
 all_goals (simp [rng];first | done | omega | (rw [Wl];simp;omega))
def Vd (l:List Int) (d:Int):Bool:=rng l.length 1 3&&decide ((l.length:Int)=d)&&l.all fun n=>rng n 0 1000
theorem OA (l:List Int) (c:Bool) (d:Int) (hl:l.length<=1048576):PC 99 [.p (.list c (l.map eI)),.p (.int .i64 d)] (.bool (Vd l d)):=by
 refine Zc Tryz.func99 rfl Zii ?_;simp (disch:=omega) only [Tryz.f99,go_sem,seval];refine (Vg l.length 1 3).use (Zd ?_);refine gF ?_ ?_<;>intro h<;>simp (disch:=omega) only [Sh.out h,go_sem,seval,↓reduceIte]
 ·grind [Vd]
 ·simp only [XB] at h;refine cD ?_ ?_<;>intro h2<;>simp (disch:=omega) only [Sh.out h2,go_sem,seval]
  ·simp [Vd,h,h2]
  ·simp only [Z4] at h2;subst h2;refine Zl [0] (fun k:Nat=> [(5,.p (.int .i64 k))]) (fun _=> []) (fun k=>k<=l.length/\ ∀j,j<k->rng (nth l j) 0 1000=true) (fun k=>l.length-k) 0 Zb (Weak.mk ?_) ?_
   ·simp (disch:=omega) only [go_sem,seval,↓reduceIte]
   ·rintro k ⟨hk,hno⟩;refine Zd ?_;refine cD ?_ ?_<;>intro h3<;>simp (disch:=omega) only [Sh.out h3,go_sem,seval,↓reduceIte]
    ·have hk2:k<l.length:=Za
     refine (Vg (nth l k) 0 1000).use (Zd ?_);refine cD ?_ ?_<;>intro h4<;>simp (disch:=omega) only [Sh.out h4,go_sem,seval,↓reduceIte]
     ·grind [Zu,Vd]
     ·simp only [XB] at h4;exact ⟨k+1,⟨Za,Zp.2 ⟨hno,h4⟩⟩,Za,wk⟩
    ·have:l.all (fun n=>rng n 0 1000)=true:=by
      rw [ZC];intro x hx;obtain ⟨j,hj,rfl⟩:=ZN.1 hx
      grind [Zk]
     grind [Vd]
def OZ (l:List Typ) (i:Nat) (s:List UInt8):Bool:=(List.range i).any fun j=>decide ((nth l j).name=s)
theorem UH {l:List Typ} {i:Nat} {s:List UInt8} :OZ l i s=false↔ ∀j,j<i->(nth l j).name≠s:=by
 grind [OZ]
theorem TB (l:List Typ) (c:Bool) (i:Nat) (s:List UInt8) (hi:i<=l.length) (hl:l.length<=1048576):PC 98 [.p (.list c (l.map XU)),.p (.int .i64 (i:Nat)),.p (.str s)] (.bool (OZ l i s)):=by
 refine Zc Tryz.func98 rfl Zih ?_;simp (disch:=omega) only [Tryz.f98,go_sem,seval];refine Zl [0,1,2] (fun k:Nat=> [(7,.p (.int .i64 k))]) (fun _=> []) (fun k=>k<=i/\ ∀j,j<k->(nth l j).name≠s) (fun k=>i-k) 0 Zb (Weak.mk ?_) ?_
 ·simp (disch:=omega) only [go_sem,seval,↓reduceIte]
 ·rintro k ⟨hk,hno⟩;refine Zd ?_;refine cD ?_ ?_<;>intro h3<;>simp (disch:=omega) only [Sh.out h3,go_sem,seval,↓reduceIte]
  ·have hk2:k<l.length:=Za
   refine cD ?_ ?_<;>intro h4<;>simp (disch:=omega) only [Sh.out h4,go_sem,seval,↓reduceIte]
   ·grind [UH]
   ·exact ⟨k+1,⟨Za,Zp.2 ⟨hno,h4⟩⟩,Za,wk⟩
  grind [UH]
def dimsOf (l:List Typ):Int:=if l.length=0 then 0 else ((nth l 0).cap.length:Int)
theorem Mi (l:List Typ) (c:Bool) (hl:l.length<=1048576):PC 41 [.p (.list c (l.map XU))] (.int .i64 (dimsOf l)):=by
 refine Zc Tryz.func41 rfl Zhs ?_;simp (disch:=omega) only [Tryz.f41,go_sem,seval];refine cD ?_ ?_<;>intro h<;>simp (disch:=omega) only [Sh.out h,go_sem,seval,↓reduceIte]
 ·grind [dimsOf]
 ·have h0:0<l.length:=Za
  have h1:l.length≠0:=Za
  simp (disch:=first | omega | (simp only [ZA,ZF,Zz,Zy,Z6,Xt]<;>omega)) only [dimsOf,h1,go_sem,seval,↓reduceIte]
def X5 (t:Typ):AM.Obj:= .cells [.p (.str t.name),.p (.int .i64 t.count),.p (.int .i64 t.src),.p (.int .i64 t.dst),.p (.list t.cap_c (t.cap.map eI)),.p (.int .i64 t.skills),.p (.int .i64 t.prof),.p (.int .i64 t.opn),.p (.int .i64 t.cls),.p (.int .i64 t.drive),.p (.int .i64 t.rest),.p (.int .i64 t.fixed),.p (.int .i64 t.perMile),.p (.int .i64 t.perTick)]
def Jo (n:Net) (l:List Typ) (i:Nat):Prop:=((((((((nameOk (nth l i).name=true)/\(∀j,j<i->(nth l j).name≠(nth l i).name))/\rng (nth l i).count 0 10=true)/\(rng (nth l i).src 0 (n.places.length-1)=true/\rng (nth l i).dst 0 (n.places.length-1)=true))/\Vd (nth l i).cap (dimsOf l)=true)/\rng (nth l i).skills 0 1073741823=true)/\(rng (nth l i).opn 0 (nth l i).cls=true/\(nth l i).cls<=4096))/\(rng (nth l i).drive 1 4096=true/\rng (nth l i).rest 0 4096=true))/\(rng (nth l i).prof 0 7=true/\rng (nth l i).fixed 0 100000=true/\rng (nth l i).perMile 0 100=true/\rng (nth l i).perTick 0 100=true)
theorem CI {P Q:Prop} (h:Q) (e:Q->P:=by intro h;simp (disch:=omega) only [Z2,X5,go_sem,seval];exact h):P:=e h
theorem aN (n:Net) (l:List Typ) (c:Bool) (i:Nat) (hi:i<l.length) (hl:l.length<=1048576) (hw:n.wf 1048576) (ht:(nth l i).wf 1048576) :
  ACalls Tryz.prog 73 [.p (BG n),.p (.list c (l.map XU)),.p (.int .i64 (i:Nat))] [] fun x H'=> ∃m:List Int,FR (fun _=>True) (Jo n l i) 9 m/\x= .sl 0 0 m.length m.length/\H'= [.elems 1 (m.map eI)]:=by
 obtain ⟨w1,w2,w3,w4⟩:=hw;refine ZE [3] Tryz.func73 rfl ZhV ?_;simp (disch:=omega) only [Tryz.f73,go_sem,seval];have hty:Jo n l i↔((((((((nameOk (nth l i).name=true)/\(∀j,j<i->(nth l j).name≠(nth l i).name))/\rng (nth l i).count 0 10=true)/\(rng (nth l i).src 0 (n.places.length-1)=true/\rng (nth l i).dst 0 (n.places.length-1)=true))/\Vd (nth l i).cap (dimsOf l)=true)/\rng (nth l i).skills 0 1073741823=true)/\(rng (nth l i).opn 0 (nth l i).cls=true/\(nth l i).cls<=4096))/\(rng (nth l i).drive 1 4096=true/\rng (nth l i).rest 0 4096=true))/\(rng (nth l i).prof 0 7=true/\rng (nth l i).fixed 0 100000=true/\rng (nth l i).perMile 0 100=true/\rng (nth l i).perTick 0 100=true):=Iff.rfl
 generalize hga:nth l i=t at ht hty ⊢;have hname:=ht.1;have hcap:=ht.2.2.2.2.1;refine Zo (Weak.ofNil 8 1 (by simp (disch:=omega) only [go_sem,seval]) Zb (Weak.refl _ _ _)) ?_;refine ZH [1,2,3,7] (fun m:List Int=> [(8,.sl 2 0 m.length m.length)]) (fun m=>Z2 n++ [X5 t,.elems 1 (m.map eI)]) (fun m=>FR (fun _=>True) (nameOk t.name=true) 1 m) ?_ ?_
 ·refine Zd ?_;refine (O4 t.name hname).use (Zd ?_);refine ZU ?_ ?_<;>intro h0
  ·simp only [XN] at h0;exact ⟨[5],⟨Zb,by simp [h0],Zb⟩,Weak.mk (by simp (disch:=omega) only [Z2,X5,go_sem,seval])⟩
  ·simp only [XB] at h0;exact ⟨[],FR.nil (by simp [h0]),Weak.mk (by simp (disch:=omega) only [Z2,X5,go_sem,seval])⟩
 ·skip
  intro m hm;refine Zh [5] _ _ _ _ (CI ?_);have hml:=hm.len;refine ZH [1,3,7] (fun m:List Int=> [(8,.sl 2 0 m.length m.length)]) (fun m=>Z2 n++ [X5 t,.elems 1 (m.map eI)]) (fun m=>FR (fun _=>True) ((nameOk t.name=true)/\(∀j,j<i->(nth l j).name≠t.name)) 2 m) ?_ ?_
  ·refine Zd ?_;refine (TB l c i t.name Za hl).use (Zd ?_);refine ZU ?_ ?_<;>intro h
   ·exact ⟨m++ [6],hm.yes (by grind [UH]) trivial,Weak.mk (by simp (disch:=omega) only [Z2,X5,go_sem,seval])⟩
   ·exact ⟨m,hm.no (by exact UH.1 h),Weak.mk (by simp (disch:=omega) only [Z2,X5,go_sem,seval])⟩
  ·clear hm hml;intro m hm;refine Zh [7] _ _ _ _ (CI ?_);have hml:=hm.len;refine ZH [1,3,7] (fun m:List Int=> [(8,.sl 2 0 m.length m.length)]) (fun m=>Z2 n++ [X5 t,.elems 1 (m.map eI)]) (fun m=>FR (fun _=>True) (((nameOk t.name=true)/\(∀j,j<i->(nth l j).name≠t.name))/\rng t.count 0 10=true) 3 m) ?_ ?_
   ·refine Zd ?_;refine (Vg t.count 0 10).use (Zd ?_);refine ZU ?_ ?_<;>intro h0
    ·simp only [XN] at h0;exact ⟨m++ [22],hm.yes (by simp [h0]) trivial,Weak.mk (by simp (disch:=omega) only [Z2,X5,go_sem,seval])⟩
    ·simp only [XB] at h0;exact ⟨m,hm.no (by simp [h0]),Weak.mk (by simp (disch:=omega) only [Z2,X5,go_sem,seval])⟩
   ·clear hm hml;intro m hm;refine Zh [9] _ _ _ _ (CI ?_);have hml:=hm.len;refine ZH [1,7] (fun m:List Int=> [(8,.sl 2 0 m.length m.length)]) (fun m=>Z2 n++ [X5 t,.elems 1 (m.map eI)]) (fun m=>FR (fun _=>True) ((((nameOk t.name=true)/\(∀j,j<i->(nth l j).name≠t.name))/\rng t.count 0 10=true)/\(rng t.src 0 (n.places.length-1)=true/\rng t.dst 0 (n.places.length-1)=true)) 4 m) ?_ ?_
    ·refine Zd ?_;refine (Vg t.src 0 (n.places.length-1)).use (Zd ?_);refine Iu ?_ ?_<;>intro h0
     ·simp only [XN] at h0;exact ⟨m++ [11],hm.yes (by simp [h0]) trivial,Weak.mk (by simp (disch:=omega) only [Z2,X5,go_sem,seval])⟩
     ·simp only [XB] at h0;refine (Vg t.dst 0 (n.places.length-1)).use (Zd ?_);refine ZU ?_ ?_<;>intro h1
      ·simp only [XN] at h1;exact ⟨m++ [11],hm.yes (by simp [h1]) trivial,Weak.mk (by simp (disch:=omega) only [Z2,X5,go_sem,seval])⟩
      ·simp only [XB] at h1;exact ⟨m,hm.no (by simp [h0,h1]),Weak.mk (by simp (disch:=omega) only [Z2,X5,go_sem,seval])⟩
    ·clear hm hml;intro m hm;refine Zh [11] _ _ _ _ (CI ?_);have hml:=hm.len;refine ZH [7] (fun m:List Int=> [(8,.sl 2 0 m.length m.length)]) (fun m=>Z2 n++ [X5 t,.elems 1 (m.map eI)]) (fun m=>FR (fun _=>True) (((((nameOk t.name=true)/\(∀j,j<i->(nth l j).name≠t.name))/\rng t.count 0 10=true)/\(rng t.src 0 (n.places.length-1)=true/\rng t.dst 0 (n.places.length-1)=true))/\Vd t.cap (dimsOf l)=true) 5 m) ?_ ?_
     ·refine Zd ?_;refine Xd (Zd ?_);refine Zn (Mi l c hl) (Zd ?_);refine Zn (OA t.cap t.cap_c (dimsOf l) hcap) (Zd ?_);refine ZU ?_ ?_<;>intro h
      ·simp only [XN] at h;exact ⟨m++ [17],hm.yes (by simp [h]) trivial,Weak.mk (by simp (disch:=omega) only [Z2,X5,go_sem,seval])⟩
      ·simp only [XB] at h;exact ⟨m,hm.no (by simp [h]),Weak.mk (by simp (disch:=omega) only [Z2,X5,go_sem,seval])⟩
     ·clear hm hml;intro m hm;refine Zh [13] _ _ _ _ (CI ?_);have hml:=hm.len;refine ZH [7] (fun m:List Int=> [(8,.sl 2 0 m.length m.length)]) (fun m=>Z2 n++ [X5 t,.elems 1 (m.map eI)]) (fun m=>FR (fun _=>True) ((((((nameOk t.name=true)/\(∀j,j<i->(nth l j).name≠t.name))/\rng t.count 0 10=true)/\(rng t.src 0 (n.places.length-1)=true/\rng t.dst 0 (n.places.length-1)=true))/\Vd t.cap (dimsOf l)=true)/\rng t.skills 0 1073741823=true) 6 m) ?_ ?_
      ·refine Zd ?_;refine (Vg t.skills 0 1073741823).use (Zd ?_);refine ZU ?_ ?_<;>intro h0
       ·simp only [XN] at h0;exact ⟨m++ [18],hm.yes (by simp [h0]) trivial,Weak.mk (by simp (disch:=omega) only [Z2,X5,go_sem,seval])⟩
       ·simp only [XB] at h0;exact ⟨m,hm.no (by simp [h0]),Weak.mk (by simp (disch:=omega) only [Z2,X5,go_sem,seval])⟩
      ·clear hm hml;intro m hm;refine Zh [15] _ _ _ _ (CI ?_);have hml:=hm.len;refine ZH [7] (fun m:List Int=> [(8,.sl 2 0 m.length m.length)]) (fun m=>Z2 n++ [X5 t,.elems 1 (m.map eI)]) (fun m=>FR (fun _=>True) (((((((nameOk t.name=true)/\(∀j,j<i->(nth l j).name≠t.name))/\rng t.count 0 10=true)/\(rng t.src 0 (n.places.length-1)=true/\rng t.dst 0 (n.places.length-1)=true))/\Vd t.cap (dimsOf l)=true)/\rng t.skills 0 1073741823=true)/\(rng t.opn 0 t.cls=true/\t.cls<=4096)) 7 m) ?_ ?_
       ·refine Zd ?_;refine (Vg t.opn 0 t.cls).use (Zd ?_);refine Iu ?_ ?_<;>intro h0
        ·simp only [XN] at h0;exact ⟨m++ [15],hm.yes (by simp [h0]) trivial,Weak.mk (by simp (disch:=omega) only [Z2,X5,go_sem,seval])⟩
        ·simp only [XB] at h0;refine ZU ?_ ?_<;>intro h1
         ·exact ⟨m++ [15],hm.yes Za trivial,Weak.mk (by simp (disch:=omega) only [Z2,X5,go_sem,seval])⟩
         ·exact ⟨m,hm.no (by grind),Weak.mk (by simp (disch:=omega) only [Z2,X5,go_sem,seval])⟩
       ·clear hm hml;intro m hm;refine Zh [17] _ _ _ _ (CI ?_);have hml:=hm.len;refine ZH [7] (fun m:List Int=> [(8,.sl 2 0 m.length m.length)]) (fun m=>Z2 n++ [X5 t,.elems 1 (m.map eI)]) (fun m=>FR (fun _=>True) ((((((((nameOk t.name=true)/\(∀j,j<i->(nth l j).name≠t.name))/\rng t.count 0 10=true)/\(rng t.src 0 (n.places.length-1)=true/\rng t.dst 0 (n.places.length-1)=true))/\Vd t.cap (dimsOf l)=true)/\rng t.skills 0 1073741823=true)/\(rng t.opn 0 t.cls=true/\t.cls<=4096))/\(rng t.drive 1 4096=true/\rng t.rest 0 4096=true)) 8 m) ?_ ?_
        ·refine Zd ?_;refine (Vg t.drive 1 4096).use (Zd ?_);refine Iu ?_ ?_<;>intro h0
         ·simp only [XN] at h0;exact ⟨m++ [16],hm.yes (by simp [h0]) trivial,Weak.mk (by simp (disch:=omega) only [Z2,X5,go_sem,seval])⟩
         ·simp only [XB] at h0;refine (Vg t.rest 0 4096).use (Zd ?_);refine ZU ?_ ?_<;>intro h1
          ·simp only [XN] at h1;exact ⟨m++ [16],hm.yes (by simp [h1]) trivial,Weak.mk (by simp (disch:=omega) only [Z2,X5,go_sem,seval])⟩
          ·simp only [XB] at h1;exact ⟨m,hm.no (by simp [h0,h1]),Weak.mk (by simp (disch:=omega) only [Z2,X5,go_sem,seval])⟩
        ·clear hm hml;intro m hm;refine Zh [19] _ _ _ _ (CI ?_);have hml:=hm.len;refine ZH [] (fun m:List Int=> [(8,.sl 2 0 m.length m.length)]) (fun m=>Z2 n++ [X5 t,.elems 1 (m.map eI)]) (fun m=>FR (fun _=>True) (((((((((nameOk t.name=true)/\(∀j,j<i->(nth l j).name≠t.name))/\rng t.count 0 10=true)/\(rng t.src 0 (n.places.length-1)=true/\rng t.dst 0 (n.places.length-1)=true))/\Vd t.cap (dimsOf l)=true)/\rng t.skills 0 1073741823=true)/\(rng t.opn 0 t.cls=true/\t.cls<=4096))/\(rng t.drive 1 4096=true/\rng t.rest 0 4096=true))/\(rng t.prof 0 7=true/\rng t.fixed 0 100000=true/\rng t.perMile 0 100=true/\rng t.perTick 0 100=true)) 9 m) ?_ ?_
         ·refine Zd ?_;refine (Vg t.prof 0 7).use (Zd ?_);refine gF ?_ ?_<;>intro h0<;>simp (disch:=omega) only [Sh.out h0,go_sem,seval,↓reduceIte]
          ·simp only [XN] at h0;exact ⟨m++ [2],hm.yes (by simp [h0]) trivial,Weak.mk (by simp (disch:=omega) only [Z2,X5,go_sem,seval])⟩
          ·simp only [XB] at h0;refine (Vg t.fixed 0 100000).use (Zd ?_);refine gF ?_ ?_<;>intro h1<;>simp (disch:=omega) only [Sh.out h1,go_sem,seval,↓reduceIte]
           ·simp only [XN] at h1;exact ⟨m++ [2],hm.yes (by simp [h1]) trivial,Weak.mk (by simp (disch:=omega) only [Z2,X5,go_sem,seval])⟩
           ·simp only [XB] at h1;refine (Vg t.perMile 0 100).use (Zd ?_);refine gF ?_ ?_<;>intro h2<;>simp (disch:=omega) only [Sh.out h2,go_sem,seval,↓reduceIte]
            ·simp only [XN] at h2;exact ⟨m++ [2],hm.yes (by simp [h2]) trivial,Weak.mk (by simp (disch:=omega) only [Z2,X5,go_sem,seval])⟩
            ·simp only [XB] at h2;refine (Vg t.perTick 0 100).use (Zd ?_);refine cD ?_ ?_<;>intro h3<;>simp (disch:=omega) only [Sh.out h3,go_sem,seval,↓reduceIte]
             ·simp only [XN] at h3;exact ⟨m++ [2],hm.yes (by simp [h3]) trivial,Weak.mk (by simp (disch:=omega) only [Z2,X5,go_sem,seval])⟩
             ·simp only [XB] at h3;exact ⟨m,hm.no (by grind),Weak.mk (by simp (disch:=omega) only [Z2,X5,go_sem,seval])⟩
         ·clear hm hml;intro m hm;refine Zh [] _ _ _ _ (CI ?_);have hml:=hm.len;exact ⟨m,hm.to Za (by rw [hty]),2,by simp (disch:=omega) only [go_sem,seval]⟩
def typesOk (n:Net) (l:List Typ):Prop:=rng l.length 1 6=true/\ ∀i,i<l.length->Jo n l i
theorem wO (n:Net) (l:List Typ) (c:Bool) (hw:n.wf 1048576) (hl:l.length<=1048576) (hlw: ∀t∈l,t.wf 1048576) :
  ACalls Tryz.prog 39 [.p (BG n),.p (.list c (l.map XU))] [] fun x H'=> ∃m:List Flt,FR (pF 20) (typesOk n l) (1+9*l.length) m/\x= .sl 0 0 m.length m.length/\H'= [.elems 2 (m.map eF)]:=by
 refine ZE [2] Tryz.func39 rfl Zhq ?_;simp (disch:=omega) only [Tryz.f39,go_sem,seval];refine Zo (Weak.ofNil 5 2 (by simp (disch:=omega) only [go_sem,seval]) Zb (Weak.refl _ _ _)) ?_;refine ZH [1,2] (fun m:List Flt=> [(5,.sl 1 0 m.length m.length)]) (fun m=>Z2 n++ [.elems 2 (m.map eF)]) (fun m=>FR (pF 20) (rng l.length 1 6=true) 1 m) ?_ ?_
 ·refine Zd ?_;refine (Vg l.length 1 6).use (Zd ?_);refine ZU ?_ ?_<;>intro h
  ·simp only [XN] at h;exact ⟨[(4,[])],⟨Zb,by simp [h],by simp [pF]⟩,Weak.mk (by simp (disch:=omega) only [Z2,go_sem,seval])⟩
  ·simp only [XB] at h;exact ⟨[],FR.nil h,Weak.mk (by simp (disch:=omega) only [Z2,go_sem,seval])⟩
 ·intro m hm;refine Zh [] _ _ _ _ (KR ?_);refine Zl [1,2] (fun q:Nat×List Flt=> [(5,.sl 1 0 q.2.length q.2.length),(6,.p (.int .i64 q.1))]) (fun q=>Z2 n++ [.elems 2 (q.2.map eF)]) (fun q=>q.1<=l.length/\FR (pF 20) (rng l.length 1 6=true/\ ∀j,j<q.1->Jo n l j) (1+9*q.1) q.2) (fun q=>l.length-q.1) (0,m) ⟨Zb,hm.to Zb Zb⟩ (Weak.mk ?_) ?_
  ·simp (disch:=omega) only [Z2,go_sem,seval]
  ·clear hm;rintro ⟨k,m⟩ ⟨hk,hm⟩;simp only at hk hm;have hml:=hm.len;refine KR ?_;refine cD ?_ ?_<;>intro h<;>simp (disch:=omega) only [Sh.out h,go_sem,seval,↓reduceIte]
   ·have hk2:k<l.length:=Za
    have hI:Qf (k:Int):=Za
    have hdl:=Q4 k hI;refine ((aN n l c k hk2 hl hw (hlw _ (Zu hk2))).frozenE).useV fun e he=>Zd ?_;have hel:=he.len;refine Zl [1,2,6,7] (fun q:Nat×List Flt=> [(5,.sl 1 0 q.2.length q.2.length),(8,.p (.int .i64 q.1))]) (fun q=>Z2 n++ [.elems 2 (q.2.map eF)]) (fun q=>q.1<=e.length/\FR (pF 20) ((rng l.length 1 6=true/\ ∀j,j<k->Jo n l j)/\q.1=0) (1+9*k+q.1) q.2) (fun q=>e.length-q.1) (0,m) ⟨Zb,hm.to Zb Zb⟩ (Weak.mk ?_) ?_
    ·simp (disch:=omega) only [Z2,go_sem,seval]
    ·clear hm hml;rintro ⟨j,m⟩ ⟨hj,hm⟩;simp only at hj hm;have hml:=hm.len;refine KR ?_;refine ZU ?_ ?_<;>intro h2
     ·have hj2:j<e.length:=Za
      refine ZB 9 mixed Zg Zg (Zd ?_);refine Zn (K0 k hI) (Zd ?_);exact ⟨(j+1,m++ [(nth e j,AH k)]),⟨Za,(hm.yes (c:=False) Zb (by grind [pF])).to Za Zb⟩,Za,wk⟩
     ·have hjl:j=e.length:=Za
      subst hjl;exact ⟨(k+1,m),⟨Za,hm.to Za (by simp only [Zp,and_assoc];rw [<- he.emp,List.eq_nil_iff_length_eq_zero])⟩,Za,wk⟩
   ·have hkn:k=l.length:=Za
    subst hkn;exact ⟨m,hm.to Za (by rw [typesOk]),1,by simp (disch:=omega) only [go_sem,seval]⟩
theorem Fh (n lo hi:Int):PC 101 [.p (.int .i64 n),.p (.int .i64 lo),.p (.int .i64 hi)] (.bool (rng n lo hi)):=by
 refine Zc Tryz.func101 rfl xL ?_;simp (disch:=omega) only [Tryz.f101,go_sem,seval];refine gT ?_ ?_<;>intro h<;>simp (disch:=omega) only [Sh.out h,go_sem,seval,↓reduceIte]
 all_goals (simp [rng];first | done | omega | (rw [Wl];simp;omega))
def loadOk (l:List Int) (d:Int):Bool:=decide ((l.length:Int)=d)&&l.all fun n=>rng n 0 1000
theorem aC (l:List Int) (c:Bool) (d:Int) (hl:l.length<=1048576):PC 100 [.p (.list c (l.map eI)),.p (.int .i64 d)] (.bool (loadOk l d)):=by
 refine Zc Tryz.func100 rfl xK ?_;simp (disch:=omega) only [Tryz.f100,go_sem,seval];refine cD ?_ ?_<;>intro h2<;>simp (disch:=omega) only [Sh.out h2,go_sem,seval]
 ·simp [loadOk,h2]
 ·simp only [Z4] at h2;subst h2;refine Zl [0] (fun k:Nat=> [(5,.p (.int .i64 k))]) (fun _=> []) (fun k=>k<=l.length/\ ∀j,j<k->rng (nth l j) 0 1000=true) (fun k=>l.length-k) 0 Zb (Weak.mk ?_) ?_
  ·simp (disch:=omega) only [go_sem,seval,↓reduceIte]
  ·rintro k ⟨hk,hno⟩;refine Zd ?_;refine cD ?_ ?_<;>intro h3<;>simp (disch:=omega) only [Sh.out h3,go_sem,seval,↓reduceIte]
   ·have hk2:k<l.length:=Za
    have hbad:rng (nth l k) 0 1000=false->loadOk l l.length=false:=fun h4=>by
     grind [Zu,loadOk]
    repeat' (first | (refine VQ (fun hq=> ?_) (fun hq=> ?_)<;>(try simp only [Zs,XX,Z4] at hq)<;>simp (disch:=omega) only [Sh.out hq,go_sem,seval]) | (refine gF ?_ ?_<;>intro hq<;>simp (disch:=omega) only [Sh.out hq,go_sem,seval,↓reduceIte]) | (refine cD ?_ ?_<;>intro hq<;>simp (disch:=omega) only [Sh.out hq,go_sem,seval,↓reduceIte]))
    all_goals first
     | (rw [hbad (by simp [rng];omega)])
     | exact ⟨k+1,⟨Za,Zp.2 ⟨hno,by simp [rng];omega⟩⟩,Za,wk⟩
   ·have:l.all (fun n=>rng n 0 1000)=true:=by
     rw [ZC];intro x hx;obtain ⟨j,hj,rfl⟩:=ZN.1 hx
     grind [Zk]
    simp [loadOk,this]
def stpOk (s:Stp):Bool:=decide ((s.place= -1/\s.opn=0/\s.cls=0/\s.serv=0)\/(0<=s.place/\0<=s.opn/\s.opn<=s.cls/\s.cls<=4096/\0<=s.serv/\s.serv<=4096))
def bA (s:Stp):Int:=if stpOk s=true then 0 else 2
theorem eA (s:Stp):PC 102 [.p (E3 s)] (.int .i64 (bA s)):=by
 refine Zc Tryz.func102 rfl xM ?_;simp (disch:=omega) only [Tryz.f102,go_sem,seval]
 repeat' (first | (refine gT ?_ ?_<;>intro hq<;>simp (disch:=omega) only [Sh.out hq,go_sem,seval,↓reduceIte]) | (refine gF ?_ ?_<;>intro hq<;>simp (disch:=omega) only [Sh.out hq,go_sem,seval,↓reduceIte]) | (refine cD ?_ ?_<;>intro hq<;>simp (disch:=omega) only [Sh.out hq,go_sem,seval,↓reduceIte]))
 all_goals (simp only [bA,stpOk,Zs])
 all_goals first
  | (exfalso;omega)
  | (rw [if_pos Za])
  | (rw [if_neg Za])
def U4 (l:List Ord) (i:Nat):Bool:=(List.range i).all fun j=>decide ((nth l j).name≠(nth l i).name)
theorem KB {l:List Ord} {i:Nat} :U4 l i=true↔ ∀j,j<i->(nth l j).name≠(nth l i).name:=by simp [U4]
def W8 (b:Bool) (e:Int):List Int:=if b=true then [] else [e]
theorem UM (b:Bool) (e:Int):(W8 b e).length<=1:=by grind [W8]
theorem Qx {b:Bool} {e:Int} {m p:List Int} (h:m=p) (hb:b=true):m=p++W8 b e:=by simp [W8,hb,h]
theorem Uq {b:Bool} {e:Int} {m p:List Int} (h:m=p) (hb:b=false):m++ [e]=p++W8 b e:=by simp [W8,hb,h]
def YA (t:Ord):AM.Obj:= .cells [.p (.str t.name),.p (.list t.load_c (t.load.map eI)),.p (.int .i64 t.pick.place),.p (.int .i64 t.pick.opn),.p (.int .i64 t.pick.cls),.p (.int .i64 t.pick.serv),.p (.int .i64 t.drp.place),.p (.int .i64 t.drp.opn),.p (.int .i64 t.drp.cls),.p (.int .i64 t.drp.serv),.p (.int .i64 t.skills),.p (.int .i64 t.penalty),.p (.int .i64 t.split),.p (.int .i64 t.last),.p (.int .i64 t.now),.p (.bool t.off)]
def EV (t:Ord):Bool:=decide (t.pick.place≠ -1)&&decide (t.drp.place≠ -1)
def argOk (t:Ord) (ty:Int):Bool:=rng t.penalty (-1) 1000000&&rng t.split 1 4&&decide (¬(1<t.split/\EV t=true)/\ -1<=t.last/\t.last<ty/\ -1<=t.now/\t.now<ty)
def YZ (np:Nat) (d ty:Int) (l:List Ord) (i:Nat):List Int:=W8 (nameOk (nth l i).name) 5++W8 (U4 l i) 6++W8 (loadOk (nth l i).load d) 17++W8 ((rng (nth l i).pick.place (-1) ((np:Int)-1)&&rng (nth l i).drp.place (-1) ((np:Int)-1))) 11++W8 (decide (¬((nth l i).pick.place= -1/\(nth l i).drp.place= -1))) 19++W8 ((stpOk (nth l i).pick&&stpOk (nth l i).drp)) 14++W8 (rng (nth l i).skills 0 1073741823) 18++W8 (argOk (nth l i) ty) 2
theorem Ck (np:Nat) (d ty:Int) (l:List Ord) (i:Nat):(YZ np d ty l i).length<=8:=by
 grind [UM,YZ,Zz]
theorem AT {P Q:Prop} (h:Q) (e:Q->P:=by intro h;simp (disch:=omega) only [YA,go_sem,seval];exact h):P:=e h
theorem aO (np:Nat) (d ty:Int) (l:List Ord) (c:Bool) (i:Nat) (hi:i<l.length) (hl:l.length<=1048576) (hnp:np<=1048576) (ht:(nth l i).wf 1048576) :
  ACalls Tryz.prog 75 [.p (.int .i64 (np:Nat)),.p (.int .i64 d),.p (.int .i64 ty),.p (.list c (l.map eOrd)),.p (.int .i64 (i:Nat))] [] fun x H'=>x= .sl 0 0 (YZ np d ty l i).length (YZ np d ty l i).length/\H'= [.elems 1 ((YZ np d ty l i).map eI)]:=by
 suffices hh:ACalls Tryz.prog 75 [.p (.int .i64 (np:Nat)),.p (.int .i64 d),.p (.int .i64 ty),.p (.list c (l.map eOrd)),.p (.int .i64 (i:Nat))] [] fun x H'=> ∃m:List Int,m=YZ np d ty l i/\x= .sl 0 0 m.length m.length/\H'= [.elems 1 (m.map eI)] by
  grind
 refine ZE [3] Tryz.func75 rfl ZhX ?_;simp (disch:=omega) only [Tryz.f75,go_sem,seval];have hty:YZ np d ty l i=W8 (nameOk (nth l i).name) 5++W8 (U4 l i) 6++W8 (loadOk (nth l i).load d) 17++W8 ((rng (nth l i).pick.place (-1) ((np:Int)-1)&&rng (nth l i).drp.place (-1) ((np:Int)-1))) 11++W8 (decide (¬((nth l i).pick.place= -1/\(nth l i).drp.place= -1))) 19++W8 ((stpOk (nth l i).pick&&stpOk (nth l i).drp)) 14++W8 (rng (nth l i).skills 0 1073741823) 18++W8 (argOk (nth l i) ty) 2:=rfl
 have hleng: ∀m:List Int,∀p:List Int,m=p->p.length<=8->m.length<=8:=fun m p h1 h2=>by grind
 generalize hga:nth l i=t at ht hty ⊢;have hname:=ht.1;have hload:=ht.2.1;refine Zo (Weak.ofNil 11 1 (by simp (disch:=omega) only [go_sem,seval]) Zb (Weak.refl _ _ _)) ?_;refine ZH [0,1,2,3,4,12] (fun m:List Int=> [(11,.sl 1 0 m.length m.length)]) (fun m=> [YA t,.elems 1 (m.map eI)]) (fun m=>m=W8 (nameOk t.name) 5) ?_ ?_
 ·refine Zd ?_;refine (O4 t.name hname).use (Zd ?_);refine cD ?_ ?_<;>intro h<;>simp (disch:=omega) only [Sh.out h,go_sem,seval,↓reduceIte]
  ·simp only [XN] at h;exact ⟨[5],by simp [W8,h],Weak.mk (by simp (disch:=omega) only [YA,go_sem,seval])⟩
  ·simp only [XB] at h;exact ⟨[],by simp [W8,h],Weak.mk (by simp (disch:=omega) only [YA,go_sem,seval])⟩
 ·skip
  intro m hm;refine Zh [5] _ _ _ _ (AT ?_)
  have hml:m.length<=8:=by
   grind [UM]
  refine ZH [0,1,2,12] (fun m:List Int=> [(11,.sl 1 0 m.length m.length)]) (fun m=> [YA t,.elems 1 (m.map eI)]) (fun m=>m=W8 (nameOk t.name) 5++W8 (U4 l i) 6) ?_ ?_
  ·refine Zd ?_;refine Zl [0,1,2,3,4,11,12] (fun k:Nat=> [(13,.p (.int .i64 k))]) (fun _=> [YA t,.elems 1 (m.map eI)]) (fun k=>k<=i/\ ∀j,j<k->(nth l j).name≠(nth l i).name) (fun k=>i-k) 0 Zb (Weak.mk ?_) ?_
   ·simp (disch:=omega) only [YA,go_sem,seval,↓reduceIte]
   ·rintro k ⟨hk,hno⟩;refine AT ?_;refine cD ?_ ?_<;>intro h3<;>simp (disch:=omega) only [Sh.out h3,go_sem,seval,↓reduceIte]
    ·have hk2:k<l.length:=Za
     refine Xd (Zd ?_);refine ZU ?_ ?_<;>intro h4
     ·exact ⟨m++ [6],Uq hm (by grind [KB]),wk⟩
     ·exact ⟨k+1,⟨Za,Zp.2 ⟨hno,by grind⟩⟩,Za,wk⟩
    ·have hki:k=i:=Za
     subst hki;exact ⟨m,Qx hm (KB.2 hno),wk⟩
  ·clear hm hml;intro m hm;refine Zh [10] _ _ _ _ (AT ?_)
   have hml:m.length<=8:=by
    grind [UM]
   refine ZH [0,2,12] (fun m:List Int=> [(11,.sl 1 0 m.length m.length)]) (fun m=> [YA t,.elems 1 (m.map eI)]) (fun m=>m=W8 (nameOk t.name) 5++W8 (U4 l i) 6++W8 (loadOk t.load d) 17) ?_ ?_
   ·refine Zd ?_;refine (aC t.load t.load_c d hload).use (Zd ?_);refine cD ?_ ?_<;>intro h<;>simp (disch:=omega) only [Sh.out h,go_sem,seval,↓reduceIte]
    ·simp only [XN] at h;exact ⟨m++ [17],Uq hm (h),Weak.mk (by simp (disch:=omega) only [YA,go_sem,seval])⟩
    ·simp only [XB] at h;exact ⟨m,Qx hm (h),Weak.mk (by simp (disch:=omega) only [YA,go_sem,seval])⟩
   ·clear hm hml;intro m hm;refine Zh [12] _ _ _ _ (AT ?_)
    have hml:m.length<=8:=by
     grind [Zz,UM]
    refine ZH [2,12] (fun m:List Int=> [(11,.sl 1 0 m.length m.length)]) (fun m=> [YA t,.elems 1 (m.map eI)]) (fun m=>m=W8 (nameOk t.name) 5++W8 (U4 l i) 6++W8 (loadOk t.load d) 17++W8 ((rng t.pick.place (-1) ((np:Int)-1)&&rng t.drp.place (-1) ((np:Int)-1))) 11) ?_ ?_
    ·refine Zd ?_;refine (Fh t.pick.place (-1) ((np:Int)-1)).use (Zd ?_);refine Iu ?_ ?_<;>intro h
     ·simp only [XN] at h;exact ⟨m++ [11],Uq hm (by simp [h]),Weak.mk (by simp (disch:=omega) only [YA,go_sem,seval])⟩
     ·simp only [XB] at h;refine (Fh t.drp.place (-1) ((np:Int)-1)).use (Zd ?_);refine ZU ?_ ?_<;>intro h2
      ·simp only [XN] at h2;exact ⟨m++ [11],Uq hm (by simp [h2]),Weak.mk (by simp (disch:=omega) only [YA,go_sem,seval])⟩
      ·simp only [XB] at h2;exact ⟨m,Qx hm (by simp [h,h2]),Weak.mk (by simp (disch:=omega) only [YA,go_sem,seval])⟩
    ·clear hm hml;intro m hm;refine Zh [14] _ _ _ _ (AT ?_)
     have hml:m.length<=8:=by
      grind [Zz,UM]
     refine ZH [2,12] (fun m:List Int=> [(11,.sl 1 0 m.length m.length)]) (fun m=> [YA t,.elems 1 (m.map eI)]) (fun m=>m=W8 (nameOk t.name) 5++W8 (U4 l i) 6++W8 (loadOk t.load d) 17++W8 ((rng t.pick.place (-1) ((np:Int)-1)&&rng t.drp.place (-1) ((np:Int)-1))) 11++W8 (decide (¬(t.pick.place= -1/\t.drp.place= -1))) 19) ?_ ?_
     ·refine Zd ?_
      repeat' (first | (refine gT ?_ ?_<;>intro hq<;>simp (disch:=omega) only [Sh.out hq,go_sem,seval]) | (refine UU (fun hq=> ?_) (fun hq=> ?_)<;>(try simp only [Zs,XX,Z4] at hq)<;>simp (disch:=omega) only [Sh.out hq,go_sem,seval]) | (refine cD ?_ ?_<;>intro hq<;>simp (disch:=omega) only [Sh.out hq,go_sem,seval]))
      all_goals first
       | exact ⟨m++ [19],Uq hm (by first | (simp;done) | (simp;omega)),Weak.mk (by simp (disch:=omega) only [YA,go_sem,seval])⟩
       | exact ⟨m,Qx hm (by first | (simp;done) | (simp;omega)),Weak.mk (by simp (disch:=omega) only [YA,go_sem,seval])⟩
     ·clear hm hml;intro m hm;refine Zh [16] _ _ _ _ (AT ?_)
      have hml:m.length<=8:=by
       grind [Zz,UM]
      refine ZH [2,12] (fun m:List Int=> [(11,.sl 1 0 m.length m.length)]) (fun m=> [YA t,.elems 1 (m.map eI)]) (fun m=>m=W8 (nameOk t.name) 5++W8 (U4 l i) 6++W8 (loadOk t.load d) 17++W8 ((rng t.pick.place (-1) ((np:Int)-1)&&rng t.drp.place (-1) ((np:Int)-1))) 11++W8 (decide (¬(t.pick.place= -1/\t.drp.place= -1))) 19++W8 ((stpOk t.pick&&stpOk t.drp)) 14) ?_ ?_
      ·refine Zd ?_;refine (eA t.pick).use (Zd ?_)
       cases h:stpOk t.pick with
       | false =>
        simp (disch:=omega) only [bA,h,go_sem,seval];exact ⟨m++ [14],Uq hm (by simp []),Weak.mk (by simp (disch:=omega) only [YA,go_sem,seval])⟩
       | true =>
        simp (disch:=omega) only [bA,h,go_sem,seval];refine (eA t.drp).use (Zd ?_)
        cases h2:stpOk t.drp with
        | false =>
         simp (disch:=omega) only [bA,h2,go_sem,seval];exact ⟨m++ [14],Uq hm (by simp []),Weak.mk (by simp (disch:=omega) only [YA,go_sem,seval])⟩
        | true =>
         simp (disch:=omega) only [bA,h2,go_sem,seval];exact ⟨m,Qx hm (by simp []),Weak.mk (by simp (disch:=omega) only [YA,go_sem,seval])⟩
      ·clear hm hml;intro m hm;refine Zh [18] _ _ _ _ (AT ?_)
       have hml:m.length<=8:=by
        grind [Zz,UM]
       refine ZH [2,12] (fun m:List Int=> [(11,.sl 1 0 m.length m.length)]) (fun m=> [YA t,.elems 1 (m.map eI)]) (fun m=>m=W8 (nameOk t.name) 5++W8 (U4 l i) 6++W8 (loadOk t.load d) 17++W8 ((rng t.pick.place (-1) ((np:Int)-1)&&rng t.drp.place (-1) ((np:Int)-1))) 11++W8 (decide (¬(t.pick.place= -1/\t.drp.place= -1))) 19++W8 ((stpOk t.pick&&stpOk t.drp)) 14++W8 (rng t.skills 0 1073741823) 18) ?_ ?_
       ·refine Zd ?_;refine (Fh t.skills 0 1073741823).use (Zd ?_);refine ZU ?_ ?_<;>intro h
        ·simp only [XN] at h;exact ⟨m++ [18],Uq hm (h),Weak.mk (by simp (disch:=omega) only [YA,go_sem,seval])⟩
        ·simp only [XB] at h;exact ⟨m,Qx hm (h),Weak.mk (by simp (disch:=omega) only [YA,go_sem,seval])⟩
       ·clear hm hml;intro m hm;refine Zh [20] _ _ _ _ (AT ?_)
        have hml:m.length<=8:=by
         grind [Zz,UM]
        refine ZH [2,11,12] (fun b:Bool=> [(14,.p (.bool b))]) (fun _=> [YA t,.elems 1 (m.map eI)]) (fun b=>b=EV t) ?_ ?_
        ·refine Zd ?_
         repeat' (first | (refine VQ (fun hq=> ?_) (fun hq=> ?_)<;>(try simp only [Zs,XX,Z4] at hq)<;>simp (disch:=omega) only [Sh.out hq,go_sem,seval]) | (refine UU (fun hq=> ?_) (fun hq=> ?_)<;>(try simp only [Zs,XX,Z4] at hq)<;>simp (disch:=omega) only [Sh.out hq,go_sem,seval]) | (refine Qj (fun hq=> ?_) (fun hq=> ?_)<;>(try simp only [Zs,XX,Z4] at hq)<;>simp (disch:=omega) only [Sh.out hq,go_sem,seval]))
         all_goals refine ⟨EV t,rfl,Weak.mk ?_⟩
         all_goals (simp (disch:=omega) only [YA,go_sem,seval];simp [EV, *])
        ·rintro b hb;refine Zh [21] _ _ _ _ (AT ?_);refine ZH [] (fun m:List Int=> [(11,.sl 1 0 m.length m.length)]) (fun m=> [YA t,.elems 1 (m.map eI)]) (fun m=>m=W8 (nameOk t.name) 5++W8 (U4 l i) 6++W8 (loadOk t.load d) 17++W8 ((rng t.pick.place (-1) ((np:Int)-1)&&rng t.drp.place (-1) ((np:Int)-1))) 11++W8 (decide (¬(t.pick.place= -1/\t.drp.place= -1))) 19++W8 ((stpOk t.pick&&stpOk t.drp)) 14++W8 (rng t.skills 0 1073741823) 18++W8 (argOk t ty) 2) ?_ ?_
         ·refine Zd ?_;refine (Fh t.penalty (-1) 1000000).use (Zd ?_);refine gF ?_ ?_<;>intro h<;>simp (disch:=omega) only [Sh.out h,go_sem,seval,↓reduceIte]
          ·simp only [XN] at h;exact ⟨m++ [2],Uq hm (by simp [argOk,h]),Weak.mk (by simp (disch:=omega) only [YA,go_sem,seval])⟩
          ·simp only [XB] at h;refine (Fh t.split 1 4).use (Zd ?_);refine gF ?_ ?_<;>intro h2<;>simp (disch:=omega) only [Sh.out h2,go_sem,seval,↓reduceIte]
           ·simp only [XN] at h2;exact ⟨m++ [2],Uq hm (by simp [argOk,h2]),Weak.mk (by simp (disch:=omega) only [YA,go_sem,seval])⟩
           ·simp only [XB] at h2
            cases b with
            | true =>
             repeat' (first | (refine gT ?_ ?_<;>intro hq<;>simp (disch:=omega) only [Sh.out hq,go_sem,seval,↓reduceIte]) | (refine gF ?_ ?_<;>intro hq<;>simp (disch:=omega) only [Sh.out hq,go_sem,seval,↓reduceIte]) | (refine cD ?_ ?_<;>intro hq<;>simp (disch:=omega) only [Sh.out hq,go_sem,seval,↓reduceIte]))
             all_goals first
              | exact ⟨m++ [2],Uq hm (by rw [argOk,<- hb];first | (simp;done) | (simp;omega)),Weak.mk (by simp (disch:=omega) only [YA,go_sem,seval])⟩
              | exact ⟨m,Qx hm (by grind [argOk]),Weak.mk (by simp (disch:=omega) only [YA,go_sem,seval])⟩
            | false =>
             repeat' (first | (refine gT ?_ ?_<;>intro hq<;>simp (disch:=omega) only [Sh.out hq,go_sem,seval,↓reduceIte]) | (refine gF ?_ ?_<;>intro hq<;>simp (disch:=omega) only [Sh.out hq,go_sem,seval,↓reduceIte]) | (refine cD ?_ ?_<;>intro hq<;>simp (disch:=omega) only [Sh.out hq,go_sem,seval,↓reduceIte]))
             all_goals first
              | exact ⟨m++ [2],Uq hm (by rw [argOk,<- hb];first | (simp;done) | (simp;omega)),Weak.mk (by simp (disch:=omega) only [YA,go_sem,seval])⟩
              | exact ⟨m,Qx hm (by rw [argOk,<- hb,h,h2];first | (simp;done) | (simp;omega)),Weak.mk (by simp (disch:=omega) only [YA,go_sem,seval])⟩
         ·clear hm hml;intro m hm;refine Zh [] _ _ _ _ (AT ?_)
          have hml:m.length<=8:=by
           grind [Zz,UM]
          exact ⟨m,by rw [hm,hty],1,by simp (disch:=omega) only [go_sem,seval]⟩
def XV (np:Nat) (d ty:Int) (l:List Ord) (k:Nat):List Flt:=(if l.length<=10 then [] else [(4,[])])++(List.range k).flatMap fun i=>(YZ np d ty l i).map fun e=>(e,AH i)
theorem Co (np:Nat) (d ty:Int) (l:List Ord) (k:Nat):XV np d ty l (k+1)=XV np d ty l k++(YZ np d ty l k).map fun e=>(e,AH k):=by
 simp [XV,X4]
theorem Qv (np:Nat) (d ty:Int) (l:List Ord): ∀k,(XV np d ty l k).length<=1+8*k
 | 0=>by simp [XV];grind
 | k+1=>by
  have h1:=Qv np d ty l k;have h2:=Ck np d ty l k;rw [Co];simp;omega
theorem wP (n:Net) (d ty:Int) (l:List Ord) (c:Bool) (hw:n.wf 1048576) (hl:l.length<=1048576) (hlw: ∀t∈l,t.wf 1048576) :
  ACalls Tryz.prog 40 [.p (BG n),.p (.int .i64 d),.p (.int .i64 ty),.p (.list c (l.map eOrd))] [] fun x H'=>x= .sl 0 0 (XV n.places.length d ty l l.length).length (XV n.places.length d ty l l.length).length/\H'= [.elems 2 ((XV n.places.length d ty l l.length).map eF)]:=by
 obtain ⟨w1,w2,w3,w4⟩:=hw
 suffices hh:ACalls Tryz.prog 40 [.p (BG n),.p (.int .i64 d),.p (.int .i64 ty),.p (.list c (l.map eOrd))] [] fun x H'=> ∃m:List Flt,m=XV n.places.length d ty l l.length/\x= .sl 0 0 m.length m.length/\H'= [.elems 2 (m.map eF)] by
  grind
 refine ZE [2] Tryz.func40 rfl Zhr ?_;simp (disch:=omega) only [Tryz.f40,go_sem,seval];refine Zo (Weak.ofNil 9 2 (by simp (disch:=omega) only [go_sem,seval]) Zb (Weak.refl _ _ _)) ?_;refine ZH [1,2,3,4] (fun m:List Flt=> [(9,.sl 1 0 m.length m.length)]) (fun m=>Z2 n++ [.elems 2 (m.map eF)]) (fun m=>m=XV n.places.length d ty l 0) ?_ ?_
 ·refine Zd ?_;refine ZU ?_ ?_<;>intro h
  ·exact ⟨[(4,[])],by rw [XV,if_neg Za];rfl,Weak.mk (by simp (disch:=omega) only [Z2,go_sem,seval])⟩
  ·exact ⟨[],by rw [XV,if_pos Za];rfl,Weak.mk (by simp (disch:=omega) only [Z2,go_sem,seval])⟩
 ·intro m hm;refine Zh [] _ _ _ _ (KR ?_);refine Zl [1,2,3,4] (fun q:Nat×List Flt=> [(9,.sl 1 0 q.2.length q.2.length),(10,.p (.int .i64 q.1))]) (fun q=>Z2 n++ [.elems 2 (q.2.map eF)]) (fun q=>q.1<=l.length/\q.2=XV n.places.length d ty l q.1) (fun q=>l.length-q.1) (0,m) ⟨Zb,hm⟩ (Weak.mk ?_) ?_
  ·simp (disch:=omega) only [Z2,go_sem,seval]
  ·clear hm;rintro ⟨k,m⟩ ⟨hk,hm⟩;simp only at hk hm;have hml:=Qv n.places.length d ty l k;rw [<- hm] at hml;refine KR ?_;refine cD ?_ ?_<;>intro h<;>simp (disch:=omega) only [Sh.out h,go_sem,seval,↓reduceIte]
   ·have hk2:k<l.length:=Za
    have hI:Qf (k:Int):=Za
    have hrl:=Ck n.places.length d ty l k;refine ((aO n.places.length d ty l c k hk2 hl w1 (hlw _ (Zu hk2))).frozen Zb).use (Zd ?_);generalize hre:YZ n.places.length d ty l k=e at hrl ⊢;refine Zl [1,2,3,4,10,11] (fun q:Nat×List Flt=> [(9,.sl 1 0 q.2.length q.2.length),(12,.p (.int .i64 q.1))]) (fun q=>Z2 n++ [.elems 2 (q.2.map eF)]) (fun q=>q.1<=e.length/\q.2=XV n.places.length d ty l k++(e.take q.1).map fun e=>(e,AH k)) (fun q=>e.length-q.1) (0,m) ⟨Zb,by simp [hm]⟩ (Weak.mk ?_) ?_
    ·simp (disch:=omega) only [Z2,go_sem,seval]
    ·clear hm hml;rintro ⟨j,m⟩ ⟨hj,hm⟩;simp only at hj hm;have hml:=Qv n.places.length d ty l k
     have hml2:m.length<=1+8*k+8:=by grind
     refine KR ?_;refine ZU ?_ ?_<;>intro h2
     ·have hj2:j<e.length:=Za
      refine ZB 9 mixed Zg Zg (Zd ?_);refine Zn (K0 k hI) (Zd ?_);refine ⟨(j+1,m++ [(nth e j,AH k)]),⟨Za,?_⟩,Za,wk⟩
      grind [Xm,Zk]
     ·have hjl:j=e.length:=Za
      subst hjl;refine ⟨(k+1,m),⟨Za,?_⟩,Za,wk⟩
      grind [Co]
   ·have hkn:k=l.length:=Za
    subst hkn;exact ⟨m,hm,1,by simp (disch:=omega) only [go_sem,seval]⟩
theorem bB {s:Stp} :stpOk s=true↔((s.place= -1/\s.opn=0/\s.cls=0/\s.serv=0)\/(0<=s.place/\0<=s.opn/\s.opn<=s.cls/\s.cls<=4096/\0<=s.serv/\s.serv<=4096)):=by simp [stpOk]
structure OrdOk (np:Nat) (d ty:Int) (l:List Ord) (i:Nat):Prop where
 name:nameOk (nth l i).name=true
 twin: ∀j,j<i->(nth l j).name≠(nth l i).name
 load:loadOk (nth l i).load d=true
 pick: -1<=(nth l i).pick.place/\(nth l i).pick.place<np
 drp: -1<=(nth l i).drp.place/\(nth l i).drp.place<np
 one: ¬((nth l i).pick.place= -1/\(nth l i).drp.place= -1)
 pstp:stpOk (nth l i).pick=true
 dstp:stpOk (nth l i).drp=true
 skills:0<=(nth l i).skills/\(nth l i).skills<=1073741823
 arg:argOk (nth l i) ty=true
theorem rF {b:Bool} {e:Int} :W8 b e= []↔b=true:=by grind [W8]
theorem I7 {np:Nat} {d ty:Int} {l:List Ord} {i:Nat} :YZ np d ty l i= []↔OrdOk np d ty l i:=by
 simp only [YZ,Ug,rF,Zw,Zs,rng,KB]
 constructor
 ·rintro ⟨⟨⟨⟨⟨⟨⟨a1,a2⟩,a3⟩,a4⟩,a5⟩,a6⟩,a7⟩,a8⟩;exact ⟨a1,a2,a3,Za,Za,a5,a6.1,a6.2,a7,a8⟩
 ·intro h;obtain ⟨b1,b2⟩:=h.pick;obtain ⟨b3,b4⟩:=h.drp;exact ⟨⟨⟨⟨⟨⟨⟨h.name,h.twin⟩,h.load⟩,Za,Za⟩,h.one⟩,h.pstp,h.dstp⟩,h.skills⟩,h.arg⟩
def ordersOk (np:Nat) (d ty:Int) (l:List Ord):Prop:=l.length<=10/\ ∀i,i<l.length->OrdOk np d ty l i
theorem Nc {np:Nat} {d ty:Int} {l:List Ord} :XV np d ty l l.length= []↔ordersOk np d ty l:=by
 simp_all [XV,I7,ordersOk]
theorem Pa {np:Nat} {d ty:Int} {l:List Ord} (hl:l.length<=1048576): ∀f∈XV np d ty l l.length,pF 20 f:=by
 intro f hf;simp only [XV,Xg,X2,ZR,XO] at hf;rcases hf with hf | ⟨i,hi,e,he,rfl⟩
 ·grind [pF]
 ·exact Q4 i Za
theorem Pp (n:Int) (h0:0<=n) (hn:n<=4611686018427387904):PC 103 [.p (.int .i64 n)] (.str (dec n.toNat)):=by
 refine Zc Tryz.func103 rfl xN ?_;simp (disch:=omega) only [Tryz.f103,go_sem,seval];refine Zl [] (fun q:Int×List UInt8=> [(0,.p (.int .i64 q.1)),(3,.p (.str q.2))]) (fun _=> []) (fun q=>0<=q.1/\q.1<=n/\dec q.1.toNat++q.2=dec n.toNat) (fun q=>q.1.toNat) (n,[]) (by simp [h0]) (Weak.mk ?_) ?_
 ·simp (disch:=omega) only [go_sem,seval]
 ·rintro ⟨m,s⟩ ⟨hm,hmn,hs⟩;simp only at hm hmn hs;have hl:=Rh _ n.toNat (Nat.lt_succ_self _)
  have hl2:(dec m.toNat).length+s.length=(dec n.toNat).length:=by grind
  simp (disch:=first | omega | (simp only [ZA,ZF,Zz,Zy,Z6,Xt]<;>omega)) only [go_sem,seval];refine cD ?_ ?_<;>intro h<;>simp (disch:=omega) only [Sh.out h,go_sem,seval,↓reduceIte]
  ·simp (disch:=first | omega | (simp only [ZA,ZF,Zz,Zy,Z6,Xt]<;>omega)) only [go_sem,seval]
   have h2: ¬m.toNat<10:=Za
   have e1:(48+m%10).toNat=48+m.toNat%10:=Za
   have e2:(m / 10).toNat=m.toNat / 10:=Za
   refine ⟨(m / 10,UInt8.ofNat (48+m%10).toNat::s),⟨Za,Za,?_⟩,Za,Weak.mk ?_⟩
   ·simp only [e1,e2];rw [<- hs,dec.eq_def m.toNat,dif_neg h2];simp
   ·simp (disch:=omega) only [go_sem,seval]
  ·simp (disch:=first | omega | (simp only [ZA,ZF,Zz,Zy,Z6,Xt]<;>omega)) only [go_sem,seval]
   have h2:m.toNat<10:=Za
   have e1:(48+m).toNat=48+m.toNat:=Za
   rw [<- hs,dec.eq_def m.toNat,dif_pos h2,e1]
   rfl
def TP (n:Int) (p:Int×Int):Bool:=decide (0<=p.1/\p.1<n)&&decide (0<=p.2/\p.2<n)&&decide (¬p.1=p.2)
def atW (word:List UInt8) (i:Nat):List UInt8:=word++ [32]++dec i
def Rr (n:Int) (word:List UInt8) (sm:Int×Int->Int×Int->Bool) (l:List (Int×Int)) (i:Nat):List (Int×List UInt8) :=
 if TP n (nth l i)=false then [(2,atW word i)] else if (l.take i).any (sm (nth l i)) then [(6,atW word i)] else []
def MF (word:List UInt8) (l:List (Int×Int)):List (Int×List UInt8):=if 16<l.length then [(4,word)] else []
def Q8 (n:Int) (word:List UInt8) (sm:Int×Int->Int×Int->Bool) (l:List (Int×Int)) (k:Nat):List (Int×List UInt8):=MF word l++(List.range k).flatMap (Rr n word sm l)
theorem G6 (n word sm l k):Q8 n word sm l (k+1)=Q8 n word sm l k++Rr n word sm l k:=by grind [Q8,X4]
theorem G7 (n word sm l):Q8 n word sm l 0=MF word l:=by simp [Q8]
theorem pA (n word sm l i):(Rr n word sm l i).length<=1:=by grind [Rr]
theorem BM (n word sm l): ∀k,(Q8 n word sm l k).length<=k+1:=by
 intro k
 induction k with
 | zero=>grind [G7,MF]
 | succ k ih=>grind [G6,pA]
def chk (n:Int) (ap be:List (Int×Int)):List (Int×List UInt8) :=
 Q8 n [97,112,97,114,116] (fun p q=>decide (p=q\/(p.1=q.2/\p.2=q.1))) ap ap.length++Q8 n [98,101,102,111,114,101] (fun p q=>decide (p=q)) be be.length
def Ez (turned:Bool) (p q:Int×Int):Bool:=decide (q.1=p.1/\q.2=p.2)||(turned&&decide (q.1=p.2/\q.2=p.1))
theorem kX : Ez true=fun p q=>decide (p=q\/(p.1=q.2/\p.2=q.1)):=by
 funext p q
 simp only [Ez,Vl,ZbW]
 grind
theorem aT : Ez false=fun p q=>decide (p=q):=by
 funext p q
 simp only [Ez,Qp,Bool.or_false]
 grind
def tw (turned:Bool) (l:List (Int×Int)) (p:Int×Int) (j:Nat):Bool:=(l.take j).any (Ez turned p)
theorem rZ (turned l p):tw turned l p 0=false:=by simp [tw]
theorem rY (turned:Bool) (l:List (Int×Int)) (p:Int×Int) (j:Nat) (h:j<l.length):tw turned l p (j+1)=(tw turned l p j||Ez turned p (nth l j)):=by
 rw [tw,tw,Xm h,List.any_append,Zk h];simp
theorem Mp (n:Int) (word:List UInt8) (l:List (Int×Int)) (c:Bool) (turned:Bool) (hw:word.length<=1000) (hl:l.length<=1048576) :
  ACalls Tryz.prog 76 [.p (.int .i64 n),.p (.list c (l.map eP)),.p (.str word),.p (.bool turned)] [] fun x H'=>x= .sl 0 0 (Q8 n word (Ez turned) l l.length).length (Q8 n word (Ez turned) l l.length).length/\H'= [.elems 2 ((Q8 n word (Ez turned) l l.length).map eF)]:=by
 refine Gn [2] (fn:=Tryz.f76) Zb Tryz.func76 rfl ZhY ?_;simp (disch:=omega) only [Tryz.f76,go_sem,seval];refine Zo (Weak.ofNil 9 2 (by simp (disch:=omega) only [go_sem,seval]) Zb (Weak.refl _ _ _)) (Zd ?_);refine ZH [0,1,2,3] (fun _:Unit=> [(9,.sl 0 0 (MF word l).length (MF word l).length)]) (fun _=> [.elems 2 ((MF word l).map eF)]) (fun _=>True) ?_ ?_
 ·refine Zd ?_;refine cD ?_ ?_<;>intro h<;>simp (disch:=omega) only [Sh.out h,go_sem,seval,↓reduceIte]
  ·refine ⟨(),Weak.mk ?_⟩
   have h2:16<l.length:=Za
   simp (disch:=omega) only [MF,h2,go_sem,seval,↓reduceIte]
  ·refine ⟨(),Weak.mk ?_⟩
   have h2: ¬ 16<l.length:=Za
   simp (disch:=omega) only [MF,h2,go_sem,seval,↓reduceIte]
 ·intro _ _;refine Zh [] _ _ _ _ (Zd ?_);refine Zl [0,1,2,3] (fun k:Nat=> [(9,.sl 0 0 (Q8 n word (Ez turned) l k).length (Q8 n word (Ez turned) l k).length),(10,.p (.int .i64 k))]) (fun k=> [.elems 2 ((Q8 n word (Ez turned) l k).map eF)]) (fun k=>k<=l.length) (fun k=>l.length-k) 0 Zb (Weak.mk ?_) ?_
  ·simp (disch:=omega) only [G7,go_sem,seval,↓reduceIte]
  ·intro k hk;have hfl:=BM n word (Ez turned) l k;have hdl:=Rh _ k (Nat.lt_succ_self _);refine Zd ?_;refine cD ?_ ?_<;>intro h<;>simp (disch:=omega) only [Sh.out h,go_sem,seval,↓reduceIte]
   ·have hk2:k<l.length:=Za
    simp (disch:=first | omega | (simp only [ZA,ZF,Zz,Zy,Z6,Xt]<;>omega)) only [go_sem,seval];refine (Pp (k:Int) Za Za).use ?_;simp (disch:=first | omega | (simp only [ZA,ZF,Zz,Zy,Z6,Xt]<;>omega)) only [go_sem,seval];have hs:=G6 n word (Ez turned) l k
    have hbad:TP n (nth l k)=false->Rr n word (Ez turned) l k= [(2,word++ [32]++dec k)]:=fun e=>by simp [Rr,e,atW]
    repeat' (first | (refine VQ (fun hq=> ?_) (fun hq=> ?_)<;>(try simp only [Zs,XX,Z4] at hq)<;>simp (disch:=omega) only [Sh.out hq,go_sem,seval]) | (refine gF ?_ ?_<;>intro hq<;>simp (disch:=omega) only [Sh.out hq,go_sem,seval,↓reduceIte]) | (refine cD ?_ ?_<;>intro hq<;>simp (disch:=omega) only [Sh.out hq,go_sem,seval,↓reduceIte]))
    all_goals try (
     have e:=hbad (by simp [TP];omega)
     exact ⟨k+1,Za,Za,Weak.mk (by simp (disch:=omega) only [hs,e,go_sem,seval])⟩)
    have hok:TP n (nth l k)=true:=by simp [TP];omega
    refine Zl [0,1,2,3,9,10,11,12,13] (fun j:Nat=> [(14,.p (.bool (tw turned l (nth l k) j))),(15,.p (.int .i64 j))]) (fun _=> [.elems 2 ((Q8 n word (Ez turned) l k).map eF)]) (fun j=>j<=k) (fun j=>k-j) 0 Zb (Weak.mk ?_) ?_
    ·simp (disch:=omega) only [rZ,go_sem,seval,↓reduceIte]
    ·intro j hj;refine Zd ?_;refine cD ?_ ?_<;>intro h4<;>simp (disch:=omega) only [Sh.out h4,go_sem,seval,↓reduceIte]
     ·have hts:=rY turned l (nth l k) j Za;generalize tw turned l (nth l k) j=q at hts ⊢
      repeat' (first | (refine gT ?_ ?_<;>intro hq<;>simp (disch:=omega) only [Sh.out hq,go_sem,seval,↓reduceIte]) | (refine gF ?_ ?_<;>intro hq<;>simp (disch:=omega) only [Sh.out hq,go_sem,seval,↓reduceIte]) | (refine Qj (fun hq=> ?_) (fun hq=> ?_)<;>(try simp only [Zs,XX,Z4] at hq)<;>simp (disch:=omega) only [Sh.out hq,go_sem,seval]))
      all_goals refine ⟨j+1,Za,Za,Weak.mk ?_⟩
      all_goals clear hs hbad hfl hdl
      all_goals simp (disch:=omega) only [hts,go_sem,seval]
      all_goals simp [Ez, *]
      all_goals first | omega | (simp [Ez, *] at hts;exact hts)
     ·have hjk:j=k:=Za
      subst hjk;refine cD ?_ ?_<;>intro h5<;>simp (disch:=omega) only [Sh.out h5,go_sem,seval,↓reduceIte]
      ·have e:Rr n word (Ez turned) l j= [(6,word++ [32]++dec j)]:=by
        have h6:(l.take j).any (Ez turned (nth l j))=true:=h5
        grind [Rr,atW]
       exact ⟨j+1,Za,Za,Weak.mk (by simp (disch:=omega) only [hs,e,go_sem,seval])⟩
      ·have e:Rr n word (Ez turned) l j= []:=by
        have h6:(l.take j).any (Ez turned (nth l j))=false:=h5
        simp_all [Rr]
       exact ⟨j+1,Za,Za,Weak.mk (by simp (disch:=omega) only [hs,e,go_sem,seval])⟩
   ·have:k=l.length:=Za
    subst this;exact ⟨0,by simp (disch:=omega) only [go_sem,seval]⟩
theorem kF (n:Int) (ap be:List (Int×Int)) (c c':Bool) (hl:ap.length<=1048576) (hl2:be.length<=1048576) :
  ACalls Tryz.prog 42 [.p (.int .i64 n),.p (.list c (ap.map eP)),.p (.list c' (be.map eP))] [] fun x H'=>x= .sl 0 0 (chk n ap be).length (chk n ap be).length/\H'= [.elems 2 ((chk n ap be).map eF)]:=by
 refine Uw (fn:=Tryz.f42) Zb Tryz.func42 rfl Zht ?_;simp (disch:=omega) only [Tryz.f42,go_sem,seval];have h1:=BM n [97,112,97,114,116] (Ez true) ap ap.length;have h2:=BM n [98,101,102,111,114,101] (Ez false) be be.length;refine (Mp n _ ap c true (by decide) hl).useF (Zd ?_);refine (Mp n _ be c' false (by decide) hl2).useF (Zd ?_);refine ⟨0,?_⟩;rw [chk,<- kX,<- aT];simp (disch:=omega) only [go_sem,seval]
@[go_sem] theorem Zdh {H:List AM.Obj} {β:Type} {S b o n:Nat} {xs:List PV} {g:β->PV} {m:List β} (hb:(n+m.length)*b<=140737488355328) (hb2:n+m.length<=140737488355328) :
  VT H (some (S,b)) (.elems S xs) o n (some (m.map g))=if xs.length=n/\KD S (m.map g)=true then some (.sl o 0 (n+m.length) (n+m.length),FC H o (.elems S (xs++m.map g))) else none:=by
 simp_all [cV]
def und (word:List UInt8) (f:Flt):Flt:=(f.1,if f.2= [] then word else word++ [32]++f.2)
theorem AD (word:List UInt8) (l:List Flt) (c:Bool) (hword:word.length<=100) (hl:l.length<=4194306000000) (hp: ∀f∈l,pF 100 f) :
  ACalls Tryz.prog 37 [.p (.str word),.p (.list c (l.map eF))] [] fun x H'=>x= .sl 0 0 (l.map (und word)).length (l.map (und word)).length/\H'= [.elems 2 ((l.map (und word)).map eF)]:=by
 suffices hh:ACalls Tryz.prog 37 [.p (.str word),.p (.list c (l.map eF))] [] fun x H'=> ∃m:List Flt,m=l.map (und word)/\x= .sl 0 0 m.length m.length/\H'= [.elems 2 (m.map eF)] by
  grind
 refine ZE [2] Tryz.func37 rfl Zho ?_;simp (disch:=omega) only [Tryz.f37,go_sem,seval];refine Zo (Weak.ofNil 5 2 (by simp (disch:=omega) only [go_sem,seval]) Zb (Weak.refl _ _ _)) ?_;refine Zh [] _ _ _ _ (Zd ?_);refine Zl [0,1] (fun q:Nat×List Flt=> [(5,.sl 0 0 q.2.length q.2.length),(6,.p (.int .i64 q.1))]) (fun q=> [.elems 2 (q.2.map eF)]) (fun q=>q.1<=l.length/\q.2=(l.take q.1).map (und word)) (fun q=>l.length-q.1) (0,[]) ⟨Zb,Zb⟩ (Weak.mk ?_) ?_
 ·simp (disch:=omega) only [go_sem,seval,↓reduceIte]
 ·rintro ⟨k,m⟩ ⟨hk,hm⟩;simp only at hk hm
  have hml:m.length<=k:=by grind
  refine Zd ?_;refine cD ?_ ?_<;>intro h<;>simp (disch:=omega) only [Sh.out h,go_sem,seval,↓reduceIte]
  ·have hk2:k<l.length:=Za
   have hpk:=hp _ (Zu hk2);unfold pF at hpk
   have hnext: ∀f,f=und word (nth l k)->m++ [f]=(l.take (k+1)).map (und word):=fun f hf=>by
    grind [Xm,Zk]
   refine cD ?_ ?_<;>intro h2<;>simp (disch:=omega) only [Sh.out h2,go_sem,seval,↓reduceIte]
   ·have h3: ¬(nth l k).2= []:=Za
    simp (disch:=first | omega | (simp only [ZA,ZF,Zz,Zy,Z6,Xt]<;>omega)) only [go_sem,seval,↓reduceIte];refine ⟨(k+1,m++ [((nth l k).1,word++ [32]++(nth l k).2)]),⟨Za,hnext _ (by simp [und,h3])⟩,Za,Weak.mk (by simp (disch:=first | omega | (simp only [ZA,ZF,Zz,Zy,Z6,Xt]<;>omega)) only [go_sem,seval])⟩
   ·have h3:(nth l k).2= []:=by grind
    refine ⟨(k+1,m++ [((nth l k).1,word)]),⟨Za,hnext _ (by simp [und,h3])⟩,Za,Weak.mk (by simp (disch:=first | omega | (simp only [ZA,ZF,Zz,Zy,Z6,Xt]<;>omega)) only [go_sem,seval])⟩
  ·have hkn:k=l.length:=Za
   subst hkn;exact ⟨m,by grind,0,by simp (disch:=omega) only [go_sem,seval]⟩
theorem wM {n:Int} {ap be:List (Int×Int)} (ha:ap.length<=1048576) (hb:be.length<=1048576): ∀f∈chk n ap be,pF 100 f:=by
 have key: ∀(word:List UInt8) (sm:Int×Int->Int×Int->Bool) (l:List (Int×Int)),word.length<=6->l.length<=1048576-> ∀f∈Q8 n word sm l l.length,pF 100 f:=fun word sm l hw hl f hf=>by
  simp only [Q8,Xg,X2,ZR] at hf;rcases hf with hf | ⟨i,hi,hf⟩
  ·grind [MF,pF]
  ·have hd:=A0 6 i Za
   grind [pF,atW,Rr]
 intro f hf;rcases Xg.1 hf with hf | hf
 ·grind
 grind
theorem oE {n:Int} {ap be:List (Int×Int)} :(chk n ap be).length<=ap.length+be.length+2:=by
 grind [BM,chk]
structure InstOk (x:Inst):Prop where
 net:netOk x.net
 types:typesOk x.net x.types
 orders:ordersOk x.net.places.length (dimsOf x.types) x.types.length x.orders
 rules:chk x.orders.length x.apart x.before= []
theorem FR.und {p:Flt->Prop} {C:Prop} {b:Nat} {l:List Flt} (h:FR p C b l) (word:List UInt8):FR (fun _=>True) C b (l.map (und word)) :=
 ⟨by simpa using h.len,by rw [List.map_eq_nil_iff];exact h.emp,fun _ _=>trivial⟩
theorem wQ (x:Inst) (hw:x.wf 1048576):ACalls Tryz.prog 13 [.p (Zr x)] [] fun y H'=> ∃m:List Flt,FR (fun _=>True) (InstOk x) 4194400000000 m/\y= .sl 0 0 m.length m.length/\H'= [.elems 2 (m.map eF)]:=by
 obtain ⟨w1,w2,w3,w4,w5,w6,w7,w8,w9⟩:=hw;refine ZE [] Tryz.func13 rfl Zg9 ?_;simp (disch:=omega) only [Tryz.f13,go_sem,seval];have ol:=Qv x.net.places.length (dimsOf x.types) x.types.length x.orders x.orders.length;have oat:=Pa (np:=x.net.places.length) (d:=dimsOf x.types) (ty:=x.types.length) w4;have onil:=Nc (np:=x.net.places.length) (d:=dimsOf x.types) (ty:=x.types.length) (l:=x.orders);have cl:=oE (n:=x.orders.length) (ap:=x.apart) (be:=x.before);have cat:=wM (n:=x.orders.length) w6 w8;refine ((wN x.net w1).frozenE).useV fun m1 h1=> ?_
 refine Zd ?_;have h1p:=h1.pmono (q:=pF 100) fun f hf=>hf.mono Za;have u1:=AD [110,101,116] m1 false Zb h1.len h1p.all;have f1:=h1.und [110,101,116];generalize m1.map (und [110,101,116])=q1 at u1 f1;have f1l:=f1.len;refine (u1).useF (Zd ?_);refine ((wO x.net x.types x.types_c w1 w2 w3).frozenE).useV fun m2 h2=>Zd ?_;have h2p:=h2.pmono (q:=pF 100) fun f hf=>hf.mono Za;have h2l:=h2.len;have u2:=(AD [116,121,112,101,115] m2 false Zb Za h2p.all).frozen Zb;have f2:=h2.und [116,121,112,101,115]
 generalize m2.map (und [116,121,112,101,115])=q2 at u2 f2;have f2l:=f2.len;refine (u2).use (Zd ?_);have u3:=(AD [111,114,100,101,114,115] (XV x.net.places.length (dimsOf x.types) x.types.length x.orders x.orders.length) false Zb Za fun f hf=>(oat f hf).mono Za).frozen Zb;have f3:=(show FR (fun _=>True) (ordersOk x.net.places.length (dimsOf x.types) x.types.length x.orders) (1+8*x.orders.length) (XV x.net.places.length (dimsOf x.types) x.types.length x.orders x.orders.length) from ⟨ol,onil,fun _ _=>trivial⟩).und [111,114,100,101,114,115]
 generalize (XV x.net.places.length (dimsOf x.types) x.types.length x.orders x.orders.length).map (und [111,114,100,101,114,115])=q3 at u3 f3;have f3l:=f3.len;refine ZB 13 mixed Zg Zg (Zd ?_);refine Zn (Mi x.types x.types_c w2) (Zd ?_);refine Zn ((wP x.net (dimsOf x.types) x.types.length x.orders x.orders_c w1 w4 w5).frozen Zb) (Zd ?_);refine Zn (u3) (Zd ?_);have u4:=(AD [114,117,108,101,115] (chk x.orders.length x.apart x.before) false Zb Za cat).frozen Zb
 have f4:=(show FR (fun _=>True) (chk x.orders.length x.apart x.before= []) (x.apart.length+x.before.length+2) (chk x.orders.length x.apart x.before) from ⟨cl,Iff.rfl,fun _ _=>trivial⟩).und [114,117,108,101,115];generalize (chk x.orders.length x.apart x.before).map (und [114,117,108,101,115])=q4 at u4 f4;have f4l:=f4.len;refine ((kF x.orders.length x.apart x.before x.apart_c x.before_c w6 w8).frozen Zb).use (Zd ?_);refine (u4).use (Zd ?_);refine ⟨q1++q2++q3++q4,((f1.app f2).app f3 |>.app f4).to Za ⟨fun ⟨⟨⟨a,b⟩,c⟩,d⟩=>⟨a,b,c,d⟩,fun h=>⟨⟨⟨h.net,h.types⟩,h.orders⟩,h.rules⟩⟩,1,?_⟩
 simp (disch:=omega) only [go_sem,seval]
def Zf (x:Inst):AM.Obj:= .cells [.p (.list x.net.places_c (x.net.places.map eS)),.p (.list x.net.arcs_c (x.net.arcs.map Vs)),.p (.list x.types_c (x.types.map XU)),.p (.list x.orders_c (x.orders.map eOrd)),.p (.list x.apart_c (x.apart.map eP)),.p (.list x.before_c (x.before.map eP))]
def zSco : Sco:=⟨0,0,0,0⟩
theorem mQ (a:Int):IntKind.i64.wrap ((BitVec.ofInt 64 a&&&BitVec.ofInt 64 1).toNat:Int)=a%2:=by
 grind [BitVec.toNat_ofInt,IntWalk.i64_in]
def sHas (s i:Int):Bool:=decide (0<=i)&&decide (i<=62)&&decide (s.fdiv (2^i.toNat)%2=1)
theorem DF (s i:Int):PC 140 [.p (.int .i64 s),.p (.int .i64 i)] (.bool (sHas s i)):=by
 refine Zc Tryz.func140 rfl yI ?_;simp (disch:=omega) only [Tryz.f140,go_sem,seval];refine gT ?_ ?_<;>intro h<;>simp (disch:=omega) only [Sh.out h,go_sem,seval,↓reduceIte]
 ·refine gT ?_ ?_<;>intro h1<;>simp (disch:=omega) only [Sh.out h1,go_sem,seval,↓reduceIte]
  ·have:min i.toNat 64=i.toNat:=Za
   rw [this]
   erw [mQ]
   simp [sHas,h,h1]
  grind [sHas]
 ·simp [sHas,h]
def XT (s:Int) (k:Nat):List Int:=((List.range k).filter fun (i:Nat)=>sHas s (i:Int)).map fun (i:Nat)=>(i:Int)
theorem TG (s:Int):XT s 0= []:=by simp [XT]
theorem MX {s:Int} {k:Nat} (h:sHas s (k:Int)=true):XT s (k+1)=XT s k++ [(k:Int)]:=by grind [XT,X4]
theorem RR {s:Int} {k:Nat} (h:sHas s (k:Int)=false):XT s (k+1)=XT s k:=by grind [XT,X4]
theorem Cc (s:Int) (k:Nat):(XT s k).length<=k:=by
 grind [XT]
theorem C9 (s:Int):ACalls Tryz.prog 131 [.p (.int .i64 s)] [] fun x H'=>x= .sl 0 0 (XT s 63).length (XT s 63).length/\H'= [.elems 1 ((XT s 63).map eI)]:=by
 refine Uw (fn:=Tryz.f131) Zb Tryz.func131 rfl yB ?_;simp (disch:=omega) only [Tryz.f131,go_sem,seval];refine Zl [0] (fun k:Nat=> [(3,.sl 0 0 (XT s k).length (XT s k).length),(5,.p (.int .i64 k))]) (fun k=> [.elems 1 ((XT s k).map eI)]) (fun k=>k<=63) (fun k=>63-k) 0 Zb (Weak.ofNil 3 1 (by simp (disch:=omega) only [go_sem,seval]) Zb (Weak.mk ?_)) ?_
 ·simp (disch:=omega) only [TG,go_sem,seval,↓reduceIte]
 ·intro k hk;have hl:=Cc s k;refine Zd ?_;refine cD ?_ ?_<;>intro h<;>simp (disch:=omega) only [Sh.out h,go_sem,seval,↓reduceIte]
  ·refine (DF s k).use (Zd ?_);refine cD ?_ ?_<;>intro h2<;>simp (disch:=omega) only [Sh.out h2,go_sem,seval,↓reduceIte]
   ·refine ⟨k+1,Za,Za,Weak.mk ?_⟩;simp (disch:=omega) only [MX h2,go_sem,seval]
   ·exact ⟨k+1,Za,Za,Weak.mk (by simp (disch:=omega) only [RR h2,go_sem,seval])⟩
  ·have:k=63:=Za
   subst this;exact ⟨0,by simp (disch:=omega) only [go_sem,seval]⟩
def eN (n:Nat):PV:= .int .i64 (n:Int)
@[go_sem] theorem ZoF (n:Nat):eN n= .int .i64 (n:Int):=Zm rfl rfl
theorem dR (n:Nat) (be:List (Int×Int)) (c:Bool) (hn:n<=60) (hl:be.length<=1048576) (hv:Val n be) :
  ACalls Tryz.prog 162 [.p (.int .i64 (n:Int)),.p (.list c (be.map eP))] [] fun x H'=>x= .sl 0 0 n n/\H'= [.elems 1 ((J8 n be).map eN)]:=by
 refine Uw (fn:=Tryz.f162) (by simpa using (EY hv).len) Tryz.func162 rfl yY ?_;simp (disch:=omega) only [Tryz.f162,go_sem,seval];have hp60:pw n<=pw 62:=Kc Za;have h62:=FJ;refine Zl [0,1] (fun q:List Nat×Bool=> [(5,.sl 0 0 n n),(6,.p (.bool q.2))]) (fun q=> [.elems 1 (q.1.map eN)]) (fun q=>Snd n be q.1/\(q.2=false->tot (Ev q.1 be)=tot q.1)) (fun q=>2*(n*pw n-tot q.1)+(if q.2 then 1 else 0)) (List.replicate n 0,true) ⟨Snd.zero n be,Zb⟩ (Weak.mk ?_) ?_
 ·simp (disch:=omega) only [B4,go_sem,seval,↓reduceIte]
 ·rintro ⟨out,more⟩ ⟨hs,hm⟩;simp only at hs hm;refine Zd ?_;refine cD ?_ ?_<;>intro h<;>simp (disch:=omega) only [Sh.out h,go_sem,seval,↓reduceIte]
  ·have hrs: ∀i,Snd n be (Ev out (be.take i)):=fun i=>hs.rnd hv _ fun p hp=>JT hp
   have hsuc: ∀i,i<be.length->Ev out (be.take (i+1))=DU (Ev out (be.take i)) (nth be i):=fun i hi=>by
    rw [Xm hi,Pc,<- Zk hi];rfl
   refine Zl [0,1,16,17] (fun i:Nat=> [(5,.sl 0 0 n n),(6,.p (.bool (decide (tot out<tot (Ev out (be.take i)))))),(18,.p (.int .i64 i))]) (fun i=> [.elems 1 ((Ev out (be.take i)).map eN)]) (fun i=>i<=be.length) (fun i=>be.length-i) 0 Zb (Weak.mk ?_) ?_
   ·simp (disch:=omega) only [Ev,QS,Um,go_sem,seval];simp
   ·intro i hi;have hsi:=hrs i;generalize hgo:Ev out (be.take i)=o at hsi ⊢;have hlo:=hsi.len;refine Zd ?_;refine cD ?_ ?_<;>intro h2<;>simp (disch:=omega) only [Sh.out h2,go_sem,seval,↓reduceIte]
    ·have hib:i<be.length:=Za
     have hvi:=hv (nth be i) (by grind [Zk])
     have g1: ¬(nth be i).1<0:=Za
     have g2: ¬(nth be i).2<0:=Za
     have g3: ¬(n:Int)<=(nth be i).1:=Za
     have g4: ¬(n:Int)<=(nth be i).2:=Za
     have g5:(nth be i).1.toNat<n:=Za
     have g6:(nth be i).2.toNat<n:=Za
     have b1:=hsi.lt _ g5;have b2:=hsi.lt _ g6;have b3:nth o (nth be i).2.toNat|||nth o (nth be i).1.toNat<pw n:=QQ b2 b1;have b4:pw (nth be i).1.toNat<=pw 62:=Kc Za;have hst:=Rg o (nth be i) Za;have hnx:=hsuc i hib;rw [hgo] at hnx;refine EP mixed Zg ?_;simp (disch:=omega) only [hlo,g1,g2,g3,g4,go_sem,seval];refine EP mixed Zg ?_;simp (disch:=first | omega | (simp only [ZA,ZF,Zz,Zy,Z6,Xt]<;>omega)) only [hlo,g5,g6,Ve,go_sem,seval,↓reduceIte]
     have htm:tot out<=tot o:=by
      grind [Cq]
     have hsv:o.set (nth be i).2.toNat (nth o (nth be i).2.toNat|||nth o (nth be i).1.toNat|||pw (nth be i).1.toNat)=DU o (nth be i):=rfl;refine cD ?_ ?_<;>intro h3<;>simp (disch:=omega) only [Sh.out h3,go_sem,seval,↓reduceIte]
     ·have hne: ¬DU o (nth be i)=o:=fun e=>by
       apply h3
       have e2:nth (DU o (nth be i)) (nth be i).2.toNat=nth o (nth be i).2.toNat:=by rw [e]
       rw [DU,Es _ _ _ _ Za] at e2
       grind
      have hlt:tot out<tot (DU o (nth be i)):=by
       grind
      simp (disch:=first | omega | (simp only [ZA,ZF,Zz,Zy,Z6,Xt]<;>omega)) only [go_sem,seval,↓reduceIte];refine ⟨i+1,Za,Za,Weak.mk ?_⟩;simp (disch:=omega) only [hnx,hlt,go_sem,seval];rw [<- hsv,Up]
      rfl
     ·have heq:DU o (nth be i)=o:=by
       have e:nth o (nth be i).2.toNat|||nth o (nth be i).1.toNat|||pw (nth be i).1.toNat=nth o (nth be i).2.toNat:=Za
       rw [<- hsv,e];apply QR Zb
       simp_all [Zk]
      refine ⟨i+1,Za,Za,Weak.mk ?_⟩;simp (disch:=omega) only [hnx,heq,go_sem,seval]
    ·have hi2:i=be.length:=Za
     subst hi2;rw [X3] at hgo;subst hgo;have hpt:=Cq hv be out (fun _ h=>h) hs;have hbd:=hsi.bound;refine ⟨(Ev out be,decide (tot out<tot (Ev out be))),⟨hsi,fun e=> ?_⟩,?_,Weak.mk ?_⟩
     ·grind
     ·grind
     ·simp (disch:=omega) only [go_sem,seval]
  ·refine ⟨0,?_⟩;have:out=J8 n be:=(eC hv (hs.clo hv (hm h))).symm;rw [this];simp (disch:=omega) only [go_sem,seval]
def hv (s k:Nat):Nat:=s / pw k
theorem Rz (s:Nat):hv s 0=s:=by simp [hv,pw]
theorem Ry (s k:Nat):hv s (k+1)=hv s k / 2:=by grind [hv,Ex,Nat.div_div_eq_div_mul]
theorem tN (s k:Nat):hv s k<=s:=Nat.div_le_self _ _
theorem gG (s k:Nat):s.testBit k=decide (hv s k%2=1):=by
 rw [Nat.testBit_eq_decide_div_mod_eq]
 rfl
theorem Wo (s i:Nat) (hi:i<=62):sHas (s:Int) (i:Int)=s.testBit i:=by
 rw [gG,hv]
 have h1:(0:Int)<=i:=Za
 have h2:(i:Int)<=62:=Za
 simp only [sHas,h1,h2,WU,Vl,XS]
 have e:((s:Int)).fdiv (2^i)=((s / pw i:Nat):Int):=by
  grind [pw]
 grind
theorem Vb {α:Type} [Inhabited α] {l:List α} {f:α->Bool} {k:Nat} (h:k<l.length) (hf:f (nth l k)=true):l.any f=true:=by
 grind [Zk]
theorem QF {α:Type} [Inhabited α] {l:List α} {f:α->Bool} (h: ∀j,j<l.length->f (nth l j)=false):l.any f=false:=by
 rw [WD];intro x hx;obtain ⟨j,hj,rfl⟩:=ZN.1 hx
 grind [Zk]
theorem Y2 {p:Nat->Prop} {k:Nat} (h: ∀j,j<k->p j) (hk:p k): ∀j,j<k+1->p j:=fun j hj=>by
 grind
theorem Zit {s:Int} {k:Nat} {x:Int} (h:x∈XT s k):0<=x/\x<k:=by
 simp only [XT,XO,JV,ZR] at h;omega
noncomputable def Wt (os:List Ord) (ap be:List (Int×Int)) (s:Int):Int :=
 if s<0 then 2
 else if (XT s 63).any (fun i=>decide ((os.length:Int)<=i)) then 2
 else if (XT s 63).any (fun i=>(nth os i.toNat).off) then 9
 else if ap.any (fun p=>sHas s p.1&&sHas s p.2) then 20
 else if be.any (fun p=>sHas s p.2&& !sHas s p.1) then 21
 else if (XT s 63).any (fun i=>sHas ((nth (J8 os.length be) i.toNat:Nat):Int) i) then 21
 else 0
theorem YD {P Q:Prop} (h:Q) (e:Q->P:=by intro h;simp (disch:=omega) only [Zf,go_sem,seval];exact h):P:=e h
theorem SE (net:Net) (tyc:Bool) (tys:List Typ) (c1 c2 c3:Bool) (os:List Ord) (ap be:List (Int×Int)) (s:Int) (hn:os.length<=60) (hla:ap.length<=1048576) (hl:be.length<=1048576) (hv:Val os.length be) :
  PC 130 [.p (Zr ⟨net,tyc,tys,c1,os,c2,ap,c3,be⟩),.p (.int .i64 s)] (.int .i64 (Wt os ap be s)):=by
 have hc:=EY hv;have hlen:=hc.len;have hm:=Cc s 63;refine Zc Tryz.func130 rfl yA ?_;simp (disch:=omega) only [Tryz.f130,go_sem,seval];refine cD ?_ ?_<;>intro hs0<;>simp (disch:=omega) only [Sh.out hs0,go_sem,seval]
 ·simp [Wt,hs0]
 ·refine ((C9 s).frozen Zb).use (Zd ?_);generalize hgm:XT s 63=m at hm ⊢
  have hnn: ∀k,k<m.length->0<=nth m k/\nth m k<63:=fun k hk=>by
   grind [XT,Zk,JI]
  have e0: ¬s<0:=hs0;refine Zl [1,2,5,21,22] (fun k:Nat=> [(23,.p (.int .i64 k))]) (fun _=> [Zf ⟨net,tyc,tys,c1,os,c2,ap,c3,be⟩]) (fun k=>k<=m.length/\ ∀j,j<k->decide ((os.length:Int)<=nth m j)=false) (fun k=>m.length-k) 0 Zb (Weak.mk ?_) ?_
  ·simp (disch:=omega) only [Zf,go_sem,seval]
  ·rintro k ⟨hk,hno⟩;refine YD ?_;refine cD ?_ ?_<;>intro h<;>simp (disch:=omega) only [Sh.out h,go_sem,seval,↓reduceIte]
   ·have hk2:k<m.length:=Za
    refine ZU ?_ ?_<;>intro h4
    ·grind [Vb,Wt]
    ·exact ⟨k+1,⟨Za,Y2 hno (by simp [h4])⟩,Za,wk⟩
   ·have hkm:k=m.length:=Za
    subst hkm;have e1:m.any (fun i=>decide ((os.length:Int)<=i))=false:=QF hno
    have hin: ∀j,j<m.length->(nth m j).toNat<os.length:=fun j hj=>by
     grind
    clear hno hk h;refine Zl [1,2,5,33,34] (fun k:Nat=> [(35,.p (.int .i64 k))]) (fun _=> [Zf ⟨net,tyc,tys,c1,os,c2,ap,c3,be⟩]) (fun k=>k<=m.length/\ ∀j,j<k->(nth os (nth m j).toNat).off=false) (fun k=>m.length-k) 0 Zb (Weak.mk ?_) ?_
    ·simp (disch:=omega) only [Zf,go_sem,seval]
    ·rintro k ⟨hk,hno⟩;refine YD ?_;refine cD ?_ ?_<;>intro h<;>simp (disch:=omega) only [Sh.out h,go_sem,seval,↓reduceIte]
     ·have hk2:k<m.length:=Za
      have g1:=hin k hk2;have g2:=hnn k hk2;refine Zd ?_;refine ZU ?_ ?_<;>intro h4
      ·grind [Vb,Wt]
      ·exact ⟨k+1,⟨Za,Y2 hno h4⟩,Za,wk⟩
     ·have hkm:k=m.length:=Za
      subst hkm;have e2:m.any (fun i=>(nth os i.toNat).off)=false:=QF hno;clear hno hk h;refine Zl [1,2,5,47,48] (fun k:Nat=> [(49,.p (.int .i64 k))]) (fun _=> [Zf ⟨net,tyc,tys,c1,os,c2,ap,c3,be⟩]) (fun k=>k<=ap.length/\ ∀j,j<k->(sHas s (nth ap j).1&&sHas s (nth ap j).2)=false) (fun k=>ap.length-k) 0 Zb (Weak.mk ?_) ?_
      ·simp (disch:=omega) only [Zf,go_sem,seval]
      ·rintro k ⟨hk,hno⟩;refine YD ?_;refine cD ?_ ?_<;>intro h<;>simp (disch:=omega) only [Sh.out h,go_sem,seval,↓reduceIte]
       ·have hk2:k<ap.length:=Za
        refine (DF s (nth ap k).1).use (Zd ?_);refine Q3 ?_ ?_<;>intro h5
        ·refine (DF s (nth ap k).2).use (Zd ?_);refine ZU ?_ ?_<;>intro h6
         ·grind [Vb,Wt]
         ·exact ⟨k+1,⟨Za,Y2 hno (by simp [h5,h6])⟩,Za,wk⟩
        ·exact ⟨k+1,⟨Za,Y2 hno (by simp [h5])⟩,Za,wk⟩
       ·have hkm:k=ap.length:=Za
        subst hkm;have e3:ap.any (fun p=>sHas s p.1&&sHas s p.2)=false:=QF hno;clear hno hk h;refine Zl [1,2,5,65,66] (fun k:Nat=> [(67,.p (.int .i64 k))]) (fun _=> [Zf ⟨net,tyc,tys,c1,os,c2,ap,c3,be⟩]) (fun k=>k<=be.length/\ ∀j,j<k->(sHas s (nth be j).2&& !sHas s (nth be j).1)=false) (fun k=>be.length-k) 0 Zb (Weak.mk ?_) ?_
        ·simp (disch:=omega) only [Zf,go_sem,seval]
        ·rintro k ⟨hk,hno⟩;refine YD ?_;refine cD ?_ ?_<;>intro h<;>simp (disch:=omega) only [Sh.out h,go_sem,seval,↓reduceIte]
         ·have hk2:k<be.length:=Za
          refine (DF s (nth be k).2).use (Zd ?_);refine Q3 ?_ ?_<;>intro h5
          ·refine (DF s (nth be k).1).use (Zd ?_);refine ZU ?_ ?_<;>intro h6
           ·grind [Vb,Wt]
           ·exact ⟨k+1,⟨Za,Y2 hno (by simp [h5,h6])⟩,Za,wk⟩
          ·exact ⟨k+1,⟨Za,Y2 hno (by simp [h5])⟩,Za,wk⟩
         ·have hkm:k=be.length:=Za
          subst hkm;have e4:be.any (fun p=>sHas s p.2&& !sHas s p.1)=false:=QF hno;clear hno hk h;refine ((dR os.length be c3 hn hl hv).frozen (by grind)).use (Zd ?_);refine Zl [5,14,89,90] (fun k:Nat=> [(91,.p (.int .i64 k))]) (fun _=> [Zf ⟨net,tyc,tys,c1,os,c2,ap,c3,be⟩]) (fun k=>k<=m.length/\ ∀j,j<k->sHas ((nth (J8 os.length be) (nth m j).toNat:Nat):Int) (nth m j)=false) (fun k=>m.length-k) 0 Zb (Weak.mk ?_) ?_
          ·simp (disch:=omega) only [Zf,go_sem,seval]
          ·rintro k ⟨hk,hno⟩;refine YD ?_;refine cD ?_ ?_<;>intro h<;>simp (disch:=omega) only [Sh.out h,go_sem,seval,↓reduceIte]
           ·have hk2:k<m.length:=Za
            have g1:=hin k hk2;have g2:=hnn k hk2;refine Zd ?_;refine (DF ((nth (J8 os.length be) (nth m k).toNat:Nat):Int) (nth m k)).use (Zd ?_);refine ZU ?_ ?_<;>intro h6
            ·grind [Vb,Wt]
            ·exact ⟨k+1,⟨Za,Y2 hno h6⟩,Za,wk⟩
           grind [J8,QF,Wt]
deriving instance DecidableEq for Vis
theorem Gd {v w:Vis} :v=w↔v.order=w.order/\v.drp=w.drp:=by cases v;cases w;simp
def G2 (f:Vis->Bool) (l:List Vis):Int:=match l.findIdx? f with | some i=>(i:Int) | none=> -1
def vIx (l:List Vis) (v:Vis):Int:=G2 (fun w=>decide (v=w)) l
theorem Iz {f:Vis->Bool} {l:List Vis} {k:Nat} (hk:k<l.length) (h:f (nth l k)=true) (hno: ∀j,j<k->f (nth l j)=false):G2 f l=(k:Int):=by
 have:l.findIdx? f=some k:=by
  grind [VC,Zk]
 simp [G2,this]
theorem OO {f:Vis->Bool} {l:List Vis} (hno: ∀j,j<l.length->f (nth l j)=false):G2 f l= -1:=by
 have:l.findIdx? f=none:=by
  rw [Ee];intro x hx;obtain ⟨j,hj,rfl⟩:=ZN.1 hx
  grind [Zk]
 simp [G2,this]
theorem ON {f:Vis->Bool} {l:List Vis} :decide (0<=G2 f l)=l.any f:=by
 grind [G2]
theorem fF {f:Vis->Bool} {l:List Vis} :G2 f l<l.length/\ -1<=G2 f l:=by
 grind [G2,VC]
theorem RB (l:List Vis) (c:Bool) (v:Vis) (hl:l.length<=1048576):PC 252 [.p (.list c (l.map Z3)),.p (Z3 v)] (.int .i64 (vIx l v)):=by
 refine Zc Tryz.func252 rfl ZaT ?_;simp (disch:=omega) only [Tryz.f252,go_sem,seval];refine Zl [0,3,7] (fun k:Nat=> [(8,.p (.int .i64 k))]) (fun _=> [.cells [.p (.int .i64 v.order),.p (.bool v.drp)]]) (fun k=>k<=l.length/\ ∀j,j<k->decide (v=nth l j)=false) (fun k=>l.length-k) 0 Zb (Weak.mk ?_) ?_
 ·simp (disch:=omega) only [go_sem,seval,↓reduceIte]
 ·rintro k ⟨hk,hno⟩;refine Zd ?_;refine cD ?_ ?_<;>intro h<;>simp (disch:=omega) only [Sh.out h,go_sem,seval,↓reduceIte]
  ·have hk2:k<l.length:=Za
   refine Xd (Zd ?_);refine cD ?_ ?_<;>intro h2<;>simp (disch:=omega) only [Sh.out h2,go_sem,seval,↓reduceIte]
   ·grind [Gd,vIx,Iz]
   ·have: ¬v=nth l k:=by grind
    exact ⟨k+1,⟨Za,Zp.2 ⟨hno,by grind⟩⟩,Za,wk⟩
  grind [vIx,OO]
theorem Cr (l:List Vis) (c:Bool) (v:Vis) (hl:l.length<=1048576):PC 218 [.p (.list c (l.map Z3)),.p (Z3 v)] (.int .i64 (vIx l v)):=by
 refine Zc Tryz.func218 rfl Zan ?_;simp (disch:=omega) only [Tryz.f218,go_sem,seval];refine (RB l c v hl).use ?_;simp (disch:=omega) only [go_sem,seval]
theorem Iw (l:List Vis) (c:Bool) (v:Vis) (hl:l.length<=1048576):PC 259 [.p (.list c (l.map Z3)),.p (Z3 v)] (.bool (decide (0<=vIx l v))):=by
 refine Zc Tryz.func259 rfl Za0 ?_;simp (disch:=omega) only [Tryz.f259,go_sem,seval];refine (RB l c v hl).use ?_;simp (disch:=omega) only [go_sem,seval]
theorem rV (l:List Ord) (c:Bool) (n:Int) (hl:l.length<=1048576):PC 163 [.p (.list c (l.map eOrd)),.p (.int .i64 n)] (.bool (decide (0<=n/\n<l.length))):=by
 refine Zc Tryz.func163 rfl gQ ?_;simp (disch:=omega) only [Tryz.f163,go_sem,seval];refine gT ?_ ?_<;>intro h<;>simp (disch:=omega) only [Sh.out h,go_sem,seval,↓reduceIte]
 all_goals (try simp [h])
def ZW (l:List Ord) (i:Nat):List Vis:=(if 0<=(nth l i).pick.place then [⟨i,false⟩] else [])++(if 0<=(nth l i).drp.place then [⟨i,true⟩] else [])
theorem Wq (l:List Ord) (i:Nat):(ZW l i).length<=2:=by grind [ZW]
theorem Yq {l:List Ord} {i:Nat} {v:Vis} (h:v∈ZW l i):v.order=i:=by
 grind [ZW]
theorem PJ (l:List Ord) (c:Bool) (i:Nat) (hi:i<l.length) (hl:l.length<=1048576):ACalls Tryz.prog 132 [.p (.list c (l.map eOrd)),.p (.int .i64 (i:Nat))] [] fun x H'=>x= .sl 0 0 (ZW l i).length (ZW l i).length/\H'= [.elems 2 ((ZW l i).map Z3)]:=by
 suffices hh:ACalls Tryz.prog 132 [.p (.list c (l.map eOrd)),.p (.int .i64 (i:Nat))] [] fun x H'=> ∃m:List Vis,m=ZW l i/\x= .sl 0 0 m.length m.length/\H'= [.elems 2 (m.map Z3)] by
  grind
 refine ZE [2] Tryz.func132 rfl yC ?_;simp (disch:=omega) only [Tryz.f132,go_sem,seval];refine Zo (Weak.ofNil 5 2 (by simp (disch:=omega) only [go_sem,seval]) Zb (Weak.refl _ _ _)) ?_;refine Zh [4] _ _ _ _ (Zd ?_);refine (rV l c i hl).use (Zd ?_)
 have h0:(0:Int)<=(i:Int)/\(i:Int)<(l.length:Int):=Za
 simp (disch:=omega) only [h0,go_sem,seval];refine ZH [0,1] (fun m:List Vis=> [(5,.sl 0 0 m.length m.length)]) (fun m=> [.elems 2 (m.map Z3)]) (fun m=>m=(if 0<=(nth l i).pick.place then [⟨i,false⟩] else [])) ?_ ?_
 ·refine Zd ?_;refine cD ?_ ?_<;>intro h<;>simp (disch:=omega) only [Sh.out h,go_sem,seval,↓reduceIte]
  ·exact ⟨[⟨i,false⟩],by simp [],wk⟩
  ·exact ⟨[],by simp [],wk⟩
 ·intro m hm
  have hml:m.length<=1:=by grind
  refine Zh [] _ _ _ _ (Zd ?_);refine cD ?_ ?_<;>intro h<;>simp (disch:=omega) only [Sh.out h,go_sem,seval,↓reduceIte]
  ·exact ⟨m++ [⟨i,true⟩],by simp_all [ZW],0,by simp (disch:=omega) only [go_sem,seval]⟩
  ·exact ⟨m,by simp_all [ZW],0,by simp (disch:=omega) only [go_sem,seval]⟩
theorem visits_c (l:List Ord) (c:Bool) (i:Nat) (hi:i<l.length) (hl:l.length<=1048576):PC 132 [.p (.list c (l.map eOrd)),.p (.int .i64 (i:Nat))] (.list false ((ZW l i).map Z3)) :=
 (PJ l c i hi hl).frozen Zb
def KT (l:List Vis):Bool:=(List.range l.length).any fun i=>decide (0<=vIx (l.take i) (nth l i))
theorem sA (l:List Vis) (c:Bool) (hl:l.length<=1048576):PC 237 [.p (.list c (l.map Z3))] (.bool (KT l)):=by
 refine Zc Tryz.func237 rfl ZaF ?_;simp (disch:=omega) only [Tryz.f237,go_sem,seval];refine Zl [0,5,6] (fun k:Nat=> [(7,.p (.int .i64 k))]) (fun _=> []) (fun k=>k<=l.length/\ ∀j,j<k->decide (0<=vIx (l.take j) (nth l j))=false) (fun k=>l.length-k) 0 Zb (Weak.mk ?_) ?_
 ·simp (disch:=omega) only [go_sem,seval,↓reduceIte]
 ·rintro k ⟨hk,hno⟩;refine Zd ?_;refine cD ?_ ?_<;>intro h<;>simp (disch:=omega) only [Sh.out h,go_sem,seval,↓reduceIte]
  ·have hk2:k<l.length:=Za
   refine Xd (Zd ?_);refine Zn (Cr (l.take k) _ (nth l k) (by simp;omega)) (Zd ?_);refine cD ?_ ?_<;>intro h2<;>simp (disch:=omega) only [Sh.out h2,go_sem,seval,↓reduceIte]
   ·grind [KT]
   ·exact ⟨k+1,⟨Za,Zp.2 ⟨hno,by grind⟩⟩,Za,wk⟩
  grind [KT]
theorem DG (l:List Vis) (c:Bool) (g:FuncId) (caps:List V) (H:List AM.Obj) (f:Vis->Bool) (hl:l.length<=1048576) (hW:N3 H H.length H H) (hc:Xi H.length caps=true)
  (hg: ∀v∈l,ACalls Tryz.prog g (.p (Z3 v)::caps) H fun x H'=>x= .p (.bool (f v))/\H'=H) :
  ACalls Tryz.prog 258 [.p (.list c (l.map Z3)),.fn (.func g) [] caps] H fun x H'=>x= .p (.int .i64 (G2 f l))/\H'=H:=by
 refine YG Tryz.func258 rfl ZaZ (Zh [] _ _ _ _ ?_);simp (disch:=omega) only [Tryz.f258,go_sem,seval];refine Zl [0,1,7] (fun k:Nat=> [(8,.p (.int .i64 k))]) (fun _=>H) (fun k=>k<=l.length/\ ∀j,j<k->f (nth l j)=false) (fun k=>l.length-k) 0 Zb (Weak.mk ?_) ?_
 ·simp (disch:=omega) only [hW,hc,go_sem,seval];simp
 ·rintro k ⟨hk,hno⟩;refine Zd ?_;refine cD ?_ ?_<;>intro h<;>simp (disch:=omega) only [Sh.out h,go_sem,seval,↓reduceIte]
  ·have hk2:k<l.length:=Za
   refine (hg (nth l k) (Zu hk2)).useH (Zd ?_);refine cD ?_ ?_<;>intro h2<;>simp (disch:=omega) only [Sh.out h2,go_sem,seval,↓reduceIte]
   ·grind [Iz]
   ·have h3:f (nth l k)=false:=Za
    refine ⟨k+1,⟨Za,Zp.2 ⟨hno,h3⟩⟩,Za,Weak.mk ?_⟩;simp (disch:=omega) only [hW,hc,go_sem,seval];simp
  grind [OO]
theorem UX (l:List Vis) (c:Bool) (g:FuncId) (caps:List V) (H:List AM.Obj) (f:Vis->Bool) (hl:l.length<=1048576) (hW:N3 H H.length H H) (hc:Xi H.length caps=true)
  (hg: ∀v∈l,ACalls Tryz.prog g (.p (Z3 v)::caps) H fun x H'=>x= .p (.bool (f v))/\H'=H) :
  ACalls Tryz.prog 234 [.p (.list c (l.map Z3)),.fn (.func g) [] caps] H fun x H'=>x= .p (.bool (l.any f))/\H'=H:=by
 refine YG Tryz.func234 rfl ZaC (Zh [] _ _ _ _ ?_);simp (disch:=omega) only [Tryz.f234,go_sem,seval];refine (DG l c g caps H f hl hW hc hg).useH (Zd ?_);rw [ON]
def hasO (l:List Vis) (o:Int):Bool:=l.any fun v=>decide (v.order=o)
theorem xG (v:Vis) (o:Int):ACalls Tryz.prog 260 [.p (Z3 v),.ptr 0 0] [.cells [.p (.int .i64 o)]] fun x H'=>x= .p (.bool (decide (v.order=o)))/\H'= [.cells [.p (.int .i64 o)]]:=by
 refine Ze [] Tryz.func260 rfl Za1 ?_;simp (disch:=omega) only [Tryz.f260,go_sem,seval];exact we
theorem SR (v:Vis) (o:Int):ACalls Tryz.prog 261 [.p (Z3 v),.ptr 0 0] [.cells [.p (.int .i64 o)]] fun x H'=>x= .p (.bool (decide (v.order=o)))/\H'= [.cells [.p (.int .i64 o)]]:=by
 refine Ze [] Tryz.func261 rfl Za2 ?_;simp (disch:=omega) only [Tryz.f261,go_sem,seval];exact we
theorem CD (l:List Vis) (c:Bool) (o:Int) (hl:l.length<=1048576):PC 239 [.p (.list c (l.map Z3)),.p (.int .i64 o)] (.bool (hasO l o)):=by
 refine Zc Tryz.func239 rfl ZaH ?_;simp (disch:=omega) only [Tryz.f239,go_sem,seval];refine (UX l c 260 [.ptr 0 0] [.cells [.p (.int .i64 o)]] (fun v=>decide (v.order=o)) hl (by simp (disch:=omega) only [go_sem,seval]) (by rfl) (fun v _=>xG v o)).useH (Zd ?_);rw [hasO]
def beforeB (l:List Vis) (a b:Int):Bool:=if G2 (fun v=>decide (v.order=b)) l<0 then true else hasO l a&& !hasO (l.drop (G2 (fun v=>decide (v.order=b)) l).toNat) a
theorem NC (l:List Vis) (c:Bool) (a b:Int) (hl:l.length<=1048576):PC 240 [.p (.list c (l.map Z3)),.p (.int .i64 a),.p (.int .i64 b)] (.bool (beforeB l a b)):=by
 refine Zc Tryz.func240 rfl ZaI ?_;simp (disch:=omega) only [Tryz.f240,go_sem,seval];refine (DG l c 261 [.ptr 0 0] [.cells [.p (.int .i64 b)]] (fun v=>decide (v.order=b)) hl (by simp (disch:=omega) only [go_sem,seval]) (by rfl) (fun v _=>SR v b)).useH ?_;have hlt:=fF (f:=fun v=>decide (v.order=b)) (l:=l);refine Zd ?_;refine cD ?_ ?_<;>intro h<;>simp (disch:=omega) only [Sh.out h,go_sem,seval]
 ·rw [beforeB,if_pos h]
 ·refine (CD l c a hl).use (Zd ?_);generalize hq:G2 (fun v=>decide (v.order=b)) l=q at hlt h ⊢
  cases h2:hasO l a with
  | false =>
   refine Zd ?_
   simp_all [beforeB]
  | true =>
   simp (disch:=omega) only [X3,go_sem,seval];refine (CD (l.drop q.toNat) _ a (by simp;omega)).use (Zd ?_)
   simp_all [beforeB,if_neg]
def QG (l:List Vis):Int->List Vis->Bool
 | _,[]=>true
 | last,w::r=>decide (last<vIx l w)&&QG l (vIx l w) r
def pairB (os:List Ord) (l:List Vis) (v:Vis):Bool:=decide (0<=vIx (ZW os v.order.toNat) v)&&QG l (-1) (ZW os v.order.toNat)
theorem NE (x:Inst) (l:List Vis) (c:Bool) (hl:l.length<=1048576) (ho:x.orders.length<=1048576) (hv: ∀v∈l,0<=v.order/\v.order<x.orders.length) :
  PC 238 [.p (Zr x),.p (.list c (l.map Z3))] (.bool (l.all (pairB x.orders l))):=by
 refine Zc Tryz.func238 rfl ZaG ?_;simp (disch:=omega) only [Tryz.f238,go_sem,seval];refine Zl [1,2,12,13] (fun k:Nat=> [(14,.p (.int .i64 k))]) (fun _=> [Zf x]) (fun k=>k<=l.length/\ ∀j,j<k->pairB x.orders l (nth l j)=true) (fun k=>l.length-k) 0 Zb (Weak.mk ?_) ?_
 ·simp (disch:=omega) only [Zf,go_sem,seval]
 ·rintro k ⟨hk,hno⟩;refine YD ?_;refine cD ?_ ?_<;>intro h<;>simp (disch:=omega) only [Sh.out h,go_sem,seval,↓reduceIte]
  ·have hk2:k<l.length:=Za
   obtain ⟨v1,v2⟩:=hv _ (Zu hk2)
   have hbad:pairB x.orders l (nth l k)=false->l.all (pairB x.orders l)=false:=fun h4=>by
    grind [Zu]
   obtain ⟨i,hi⟩: ∃i:Nat,(nth l k).order=(i:Int):=⟨(nth l k).order.toNat,Za⟩
   have hp:pairB x.orders l (nth l k)=(decide (0<=vIx (ZW x.orders i) (nth l k))&&QG l (-1) (ZW x.orders i)):=by rw [pairB,hi];rfl
   rw [hi] at v1 v2;simp (disch:=omega) only [hi,go_sem,seval];refine (visits_c x.orders x.orders_c i Za ho).use (Zd ?_);have hvl:=Wq x.orders i;have hcon:=Iw (ZW x.orders i) false (nth l k) Za;rw [Rm,hi] at hcon;refine (hcon).use (Zd ?_);refine cD ?_ ?_<;>intro h2<;>simp (disch:=omega) only [Sh.out h2,go_sem,seval]
   ·grind
   ·have h2':0<=vIx (ZW x.orders i) (nth l k):=Za
    generalize hown:ZW x.orders i=own at hvl hp h2' ⊢
    have hp2:pairB x.orders l (nth l k)=QG l (-1) own:=by grind
    refine Zl [1,2,12,13,14,27,28] (fun q:Nat×Int=> [(8,.p (.int .i64 q.2)),(29,.p (.int .i64 q.1))]) (fun _=> [Zf x,.cells [.p (.int .i64 (i:Int)),.p (.bool (nth l k).drp)]]) (fun q=>q.1<=own.length/\QG l (-1) own=QG l q.2 (own.drop q.1)) (fun q=>own.length-q.1) (0,-1) Zb (Weak.mk ?_) ?_
    ·simp (disch:=omega) only [Zf,go_sem,seval]
    ·rintro ⟨j,last⟩ ⟨hj,ha⟩;simp only at hj ha;refine YD ?_;refine ZU ?_ ?_<;>intro h3
     ·have hj2:j<own.length:=Za
      have hd:own.drop j=nth own j::own.drop (j+1):=by rw [VD hj2,Zk hj2]
      rw [hd] at ha;refine (Cr l c (nth own j) hl).use (Zd ?_);refine ZU ?_ ?_<;>intro h4
      ·grind [QG]
      ·have h5:last<vIx l (nth own j):=Za
       exact ⟨(j+1,vIx l (nth own j)),⟨Za,by grind [QG]⟩,Za,wk⟩
     ·have hjl:j=own.length:=Za
      subst hjl;exact ⟨k+1,⟨Za,Zp.2 ⟨hno,by grind [QG]⟩⟩,Za,wk⟩
  ·have hkl:k=l.length:=Za
   subst hkl
   have:l.all (pairB x.orders l)=true:=by
    rw [ZC];intro v hv;obtain ⟨j,hj,rfl⟩:=ZN.1 hv
    grind [Zk]
   rw [this]
def Xo (r:Rte):AM.Obj:= .cells [.p (.int .i64 r.typ),.p (.int .i64 r.start),.p (.list r.rests_c (r.rests.map eB)),.p (.list r.visits_c (r.visits.map Z3))]
def V1 (x:Inst) (v:Vis):Bool:= !decide (0<=v.order/\v.order<(x.orders.length:Int))
theorem dU (x:Inst) (r:Rte) (v:Vis) (ho:x.orders.length<=1048576):ACalls Tryz.prog 235 [.p (Z3 v),.ptr 0 0] [Zf x,Xo r] fun y H'=>y= .p (.bool (V1 x v))/\H'= [Zf x,Xo r]:=by
 refine Ze [] Tryz.func235 rfl ZaD ?_;simp (disch:=omega) only [Tryz.f235,Zf,Xo,go_sem,seval];refine gF ?_ ?_<;>intro h<;>simp (disch:=omega) only [Sh.out h,go_sem,seval,↓reduceIte]
 ·have e:V1 x v=true:=by
   grind [V1]
  rw [e];exact we
 ·have e:V1 x v=decide ((x.orders.length:Int)<=v.order):=by
   have h0:0<=v.order:=Za
   rw [Wl];simp [V1,h0]
  rw [e];exact we
theorem dV (x:Inst) (r:Rte) (v:Vis) (ho:x.orders.length<=1048576) (h1:0<=v.order) (h2:v.order<x.orders.length):ACalls Tryz.prog 236 [.p (Z3 v),.ptr 0 0] [Zf x,Xo r] fun y H'=>y= .p (.bool (nth x.orders v.order.toNat).off)/\H'= [Zf x,Xo r]:=by
 have h3:v.order.toNat<x.orders.length:=Za
 refine Ze [] Tryz.func236 rfl ZaE ?_;simp (disch:=omega) only [Tryz.f236,Zf,Xo,go_sem,seval];exact we
def Xr (x:Inst) (l:List Vis):Int :=
 if l.length=0\/l.any (V1 x)=true then 2
 else if (l.any fun v=>(nth x.orders v.order.toNat).off)=true then 9
 else if KT l=true then 6
 else if l.all (pairB x.orders l)=false then 19
 else if (x.apart.any fun p=>hasO l p.1&&hasO l p.2)=true then 20
 else if (x.before.any fun p=> !beforeB l p.1 p.2)=true then 21
 else 0
theorem KQ {P Q:Prop} (h:Q) (e:Q->P:=by intro h;simp (disch:=omega) only [Zf,Xo,go_sem,seval];exact h):P:=e h
theorem Pz (x:Inst) (r:Rte) (ho:x.orders.length<=1048576) (hl:r.visits.length<=1048576) (hap:x.apart.length<=1048576) (hbe:x.before.length<=1048576) :
  PC 211 [.p (Zr x),.p (Wg r)] (.int .i64 (Xr x r.visits)):=by
 refine Zc Tryz.func211 rfl Zag ?_;simp (disch:=omega) only [Tryz.f211,go_sem,seval];refine gF ?_ ?_<;>intro h0<;>simp (disch:=omega) only [Sh.out h0,go_sem,seval]
 ·grind [Xr]
 ·have h00: ¬r.visits.length=0:=Za
  refine (UX r.visits r.visits_c 235 [.ptr 0 0] [Zf x,Xo r] (V1 x) hl (by simp (disch:=omega) only [Zf,Xo,go_sem,seval]) (by rfl) (fun v _=>dU x r v ho)).useH (KQ ?_);refine cD ?_ ?_<;>intro h1<;>simp (disch:=omega) only [Sh.out h1,go_sem,seval]
  ·simp_all [Xr]
  ·have h1':r.visits.any (V1 x)=false:=Za
   have c1: ¬(r.visits.length=0\/r.visits.any (V1 x)=true):=by grind
   have hin: ∀v∈r.visits,0<=v.order/\v.order<x.orders.length:=fun v hv=>by
    grind [V1]
   refine (UX r.visits r.visits_c 236 [.ptr 0 0] [Zf x,Xo r] (fun v=>(nth x.orders v.order.toNat).off) hl (by simp (disch:=omega) only [Zf,Xo,go_sem,seval]) (by rfl) (fun v hv=>dV x r v ho (hin v hv).1 (hin v hv).2)).useH (KQ ?_);refine cD ?_ ?_<;>intro h2<;>simp (disch:=omega) only [Sh.out h2,go_sem,seval]
   ·simp_all [Xr]
   ·refine (sA r.visits r.visits_c hl).use (Zd ?_);refine cD ?_ ?_<;>intro h3<;>simp (disch:=omega) only [Sh.out h3,go_sem,seval,↓reduceIte]
    ·simp_all [Xr,if_neg]
    ·refine (NE x r.visits r.visits_c hl ho hin).use (Zd ?_);refine cD ?_ ?_<;>intro h4<;>simp (disch:=omega) only [Sh.out h4,go_sem,seval,↓reduceIte]
     ·simp_all [Xr,if_neg]
     ·have h4':r.visits.all (pairB x.orders r.visits)=true:=by grind
      have hc:Xr x r.visits=if (x.apart.any fun p=>hasO r.visits p.1&&hasO r.visits p.2)=true then 20 else if (x.before.any fun p=> !beforeB r.visits p.1 p.2)=true then 21 else 0:=by
       rw [Xr,if_neg c1,if_neg (by grind),if_neg (by grind),if_neg (by grind)]
      clear h4 h4' h3 h2 c1 h1' h1 h0;refine Zl [2,5,33,34] (fun k:Nat=> [(35,.p (.int .i64 k))]) (fun _=> [Zf x,Xo r]) (fun k=>k<=x.apart.length/\ ∀j,j<k->(hasO r.visits (nth x.apart j).1&&hasO r.visits (nth x.apart j).2)=false) (fun k=>x.apart.length-k) 0 Zb (Weak.mk ?_) ?_
      ·simp (disch:=omega) only [Zf,Xo,go_sem,seval]
      ·rintro k ⟨hk,hno⟩;refine KQ ?_;refine cD ?_ ?_<;>intro h<;>simp (disch:=omega) only [Sh.out h,go_sem,seval,↓reduceIte]
       ·have hk2:k<x.apart.length:=Za
        refine (CD r.visits r.visits_c (nth x.apart k).1 hl).use (Zd ?_);refine Q3 ?_ ?_<;>intro h2
        ·refine (CD r.visits r.visits_c (nth x.apart k).2 hl).use (Zd ?_);refine ZU ?_ ?_<;>intro h3
         ·rw [hc,if_pos (Vb hk2 (by grind))]
         ·exact ⟨k+1,⟨Za,Zp.2 ⟨hno,by grind⟩⟩,Za,wk⟩
        ·exact ⟨k+1,⟨Za,Zp.2 ⟨hno,by simp [h2]⟩⟩,Za,wk⟩
       ·have hkl:k=x.apart.length:=Za
        subst hkl;rw [hc,QF hno];clear hno hk h hc;rw [if_neg Zb];refine Zl [5,51,52] (fun k:Nat=> [(53,.p (.int .i64 k))]) (fun _=> [Zf x,Xo r]) (fun k=>k<=x.before.length/\ ∀j,j<k->(!beforeB r.visits (nth x.before j).1 (nth x.before j).2)=false) (fun k=>x.before.length-k) 0 Zb (Weak.mk ?_) ?_
        ·simp (disch:=omega) only [Zf,Xo,go_sem,seval]
        ·rintro k ⟨hk,hno⟩;refine KQ ?_;refine cD ?_ ?_<;>intro h<;>simp (disch:=omega) only [Sh.out h,go_sem,seval,↓reduceIte]
         ·have hk2:k<x.before.length:=Za
          refine (NC r.visits r.visits_c (nth x.before k).1 (nth x.before k).2 hl).use (Zd ?_);refine ZU ?_ ?_<;>intro h2
          ·have h3:(!beforeB r.visits (nth x.before k).1 (nth x.before k).2)=true:=Za
           rw [if_pos (Vb hk2 h3)]
          ·have h3:(!beforeB r.visits (nth x.before k).1 (nth x.before k).2)=false:=Za
           exact ⟨k+1,⟨Za,Zp.2 ⟨hno,h3⟩⟩,Za,wk⟩
         grind [QF]
@[go_sem] theorem ZjX {H:List AM.Obj} {n cs cs'} :Dw H n (.tup cs) (.tup cs')=(cs'=cs/\Xi n cs=true):=by simp [Dw,bO,refB]
@[go_sem] theorem Pr {a b:V} :QW [a,b]= .tup [a,b]:=Zm rfl rfl
theorem Y5 {g:FuncId} {args:List V} {a b:PV} {H:List AM.Obj} {K:V->List AM.Obj->Prop} (h:ACalls Tryz.prog g args [] fun x H'=>x= .tup [.p a,.p b]/\H'= []) (k:K (.tup [.p a,.p b]) H) (ha:Xi 0 args=true:=by rfl):ACalls Tryz.prog g args H K :=
 (h.behind ha H).mono fun x H' hq=>by
  obtain ⟨y,H1,⟨rfl,rfl⟩,rfl,rfl⟩:=hq
  grind [shV,shVs]
def X7 (l:List Vis):Nat:=l.foldl (fun s v=>s|||pw v.order.toNat) 0
def GB (v:Vis):Bool:=decide (0<=v.order/\v.order<=62)
theorem Dg {l:List Vis} {k:Nat} (hk:k<l.length):X7 (l.take (k+1))=X7 (l.take k)|||pw (nth l k).order.toNat:=by
 grind [Xm,X7,Zk]
theorem Ap : ∀(k:Nat) {l:List Vis},k<=l.length->(∀v∈l.take k,GB v=true)->X7 (l.take k)<9223372036854775808
 | 0,l,_,_=>by simp [X7]
 | k+1,l,hk,h=>by
  have hk2:k<l.length:=Za
  have ih:=Ap k (l:=l) Za fun v hv=>h v (List.take_subset_take_left l Za hv);have hv:=h (nth l k) (by rw [Zk hk2];exact ZN.2 ⟨k,by simp;omega,Zb⟩);simp only [GB,Zs] at hv;have h2:pw (nth l k).order.toNat<=pw 62:=Kc Za;have h3:=FJ;rw [Dg hk2];exact QQ (n:=63) Za Za
def QU (l:List Vis):Int×Int:=if l.all GB=true then (((X7 l:Nat):Int),0) else (0,2)
theorem ND (r:Rte) (hl:r.visits.length<=1048576):PT 262 [.p (Wg r)] [.p (.int .i64 (QU r.visits).1),.p (.int .i64 (QU r.visits).2)]:=by
 refine Ze [] Tryz.func262 rfl Za3 ?_;simp (disch:=omega) only [Tryz.f262,go_sem,seval];refine Zl [8,9] (fun k:Nat=> [(4,.p (.int .i64 (X7 (r.visits.take k):Nat))),(10,.p (.int .i64 k))]) (fun _=> [Xo r]) (fun k=>k<=r.visits.length/\ ∀j,j<k->GB (nth r.visits j)=true) (fun k=>r.visits.length-k) 0 Zb (Weak.mk ?_) ?_
 ·simp (disch:=omega) only [Xo,X7,QS,Um,go_sem,seval]
 ·rintro k ⟨hk,hno⟩
  have hlt:=Ap k hk fun v hv=>by
   obtain ⟨j,hj,rfl⟩:=ZN.1 hv
   grind [Zk]
  simp (disch:=omega) only [Xo,go_sem,seval];refine cD ?_ ?_<;>intro h<;>simp (disch:=omega) only [Sh.out h,go_sem,seval,↓reduceIte]
  ·have hk2:k<r.visits.length:=Za
   have hbad:GB (nth r.visits k)=false->QU r.visits=(0,2):=fun h4=>by
    grind [Zu,QU]
   have hs:=Dg hk2
   have hp:(nth r.visits k).order<=62->pw (nth r.visits k).order.toNat<=4611686018427387904:=fun h=>by rw [<- FJ];exact Kc Za
   refine gF ?_ ?_<;>intro h1<;>simp (disch:=omega) only [Sh.out h1,go_sem,seval,↓reduceIte]
   ·have e:=hbad (by simp [GB];omega);rw [e];exact we
   ·refine ZU ?_ ?_<;>intro h2
    ·have e:=hbad (by simp [GB];omega);rw [e];exact we
    ·exact ⟨k+1,⟨Za,Zp.2 ⟨hno,by simp [GB];omega⟩⟩,Za,Weak.mk (by simp (disch:=omega) only [hs,go_sem,seval])⟩
  ·have hkl:k=r.visits.length:=Za
   subst hkl
   have:r.visits.all GB=true:=by
    rw [ZC];intro v hv;obtain ⟨j,hj,rfl⟩:=ZN.1 hv
    grind [Zk]
   have e:QU r.visits=(((X7 r.visits:Nat):Int),0):=by simp [QU,this]
   rw [e,X3];exact we
theorem U2 {α:Type} [Inhabited α] {a b:List α} (hl:a.length=b.length) (h: ∀j,j<a.length->nth a j=nth b j):a=b:=by
 grind [QR,Zk]
def Wv (a b:Int):Int:=if a<b then-1 else if b<a then 1 else 0
theorem RF (a:Int):PC 127 [.p (.int .i64 a)] (.bool false):=by
 refine Zc Tryz.func127 rfl xX ?_;simp (disch:=omega) only [Tryz.f127,go_sem,seval]
 try simp
theorem DC (a b:Int):PC 92 [.p (.int .i64 a),.p (.int .i64 b)] (.int .i64 (Wv a b)):=by
 refine Zc Tryz.func92 rfl Zic ?_;simp (disch:=omega) only [Tryz.f92,go_sem,seval];refine (RF a).use (Zd ?_);refine (RF b).use (Zd ?_);refine cD ?_ ?_<;>intro h<;>simp (disch:=omega) only [Sh.out h,go_sem,seval]
 ·simp [Wv,h]
 ·refine cD ?_ ?_<;>intro h2<;>simp (disch:=omega) only [Sh.out h2,go_sem,seval]
  ·simp [Wv,h,h2]
  grind [Wv]
def qC (l:List Int):Int:=(l.find? fun n=>decide (n≠0)).getD 0
theorem ZbU {l:List Int} {k:Nat} (hk:k<l.length) (h:nth l k≠0) (hno: ∀j,j<k->nth l j=0):qC l=nth l k:=by
 grind [nth,Eb,qC]
theorem ZbV {l:List Int} (hno: ∀j,j<l.length->nth l j=0):qC l=0:=by
 have:l.find? (fun n=>decide (n≠0))=none:=by
  rw [JF];intro x hx;obtain ⟨j,hj,rfl⟩:=ZN.1 hx
  grind [Zk]
 grind [qC]
theorem qD (l:List Int) (c:Bool) (hl:l.length<=100):PC 91 [.p (.list c (l.map eI))] (.int .i64 (qC l)):=by
 refine Zc Tryz.func91 rfl Zib ?_;simp (disch:=omega) only [Tryz.f91,go_sem,seval];refine Zl [3,6,7] (fun k:Nat=> [(8,.p (.int .i64 k))]) (fun _=> []) (fun k=>k<=l.length/\ ∀j,j<k->nth l j=0) (fun k=>l.length-k) 0 Zb (Weak.mk ?_) ?_
 ·simp (disch:=omega) only [go_sem,seval]
 ·rintro k ⟨hk,hno⟩;refine Zd ?_;refine cD ?_ ?_<;>intro h<;>simp (disch:=omega) only [Sh.out h,go_sem,seval,↓reduceIte]
  ·have hk2:k<l.length:=Za
   refine ZU ?_ ?_<;>intro h2
   ·grind [ZbU]
   ·exact ⟨k+1,⟨Za,Zp.2 ⟨hno,Za⟩⟩,Za,wk⟩
  grind [ZbV]
theorem Eu (a b:Int):qC [a,b]=if a=0 then b else a:=by
 grind [qC]
def dn (v:Vis):Int:=if v.drp=true then 1 else 0
theorem M3 (v:Vis):PC 251 [.p (Z3 v)] (.int .i64 (dn v)):=by
 refine Zc Tryz.func251 rfl ZaS ?_;simp (disch:=omega) only [Tryz.f251,go_sem,seval];refine cD ?_ ?_<;>intro h<;>simp (disch:=omega) only [Sh.out h,go_sem,seval]
 ·simp [dn,h]
 ·simp [dn,h]
def CY (a b:Vis):Int:=if Wv a.order b.order=0 then Wv (dn a) (dn b) else Wv a.order b.order
theorem Ta (a b:Vis):PC 217 [.p (Z3 a),.p (Z3 b)] (.int .i64 (CY a b)):=by
 refine Zc Tryz.func217 rfl Zam ?_;simp (disch:=omega) only [Tryz.f217,go_sem,seval];refine Xd (Zd ?_);refine Zn (DC a.order b.order) (Zd ?_);refine Zn (M3 a) (Zd ?_);refine Zn (M3 b) (Zd ?_);refine Zn (DC (dn a) (dn b)) (Zd ?_);refine Zn (qD [Wv a.order b.order,Wv (dn a) (dn b)] false Zb) (Zd ?_);rw [Eu,CY]
def A3 : List Vis->List Vis->Int
 | [],[]=>0
 | [],_::_=> -1
 | _::_,[]=>1
 | a::r,b::s=>if CY a b=0 then A3 r s else CY a b
theorem UY {α:Type} [Inhabited α] {l:List α} {k:Nat} (h:k<l.length):l.drop k=nth l k::l.drop (k+1):=by rw [VD h,Zk h]
theorem Gx (a b:List Vis) (c d:Bool) (ha:a.length<=1048576) (hb:b.length<=1048576) :
  PC 216 [.p (.list c (a.map Z3)),.p (.list d (b.map Z3)),.fn (.func 217) [] []] (.int .i64 (A3 a b)):=by
 refine Zc Tryz.func216 rfl Zal ?_;simp (disch:=omega) only [Tryz.f216,go_sem,seval];refine Zl [0,1,2,11,12] (fun k:Nat=> [(13,.p (.int .i64 k))]) (fun _=> []) (fun k=>k<=a.length/\k<=b.length/\A3 a b=A3 (a.drop k) (b.drop k)) (fun k=>a.length-k) 0 Zb (Weak.mk ?_) ?_
 ·simp (disch:=omega) only [go_sem,seval,↓reduceIte]
 ·rintro k ⟨hk,hkb,hle⟩;refine Zd ?_;refine cD ?_ ?_<;>intro h<;>simp (disch:=omega) only [Sh.out h,go_sem,seval,↓reduceIte]
  ·have hk2:k<a.length:=Za
   rw [UY hk2] at hle;refine cD ?_ ?_<;>intro h2<;>simp (disch:=omega) only [Sh.out h2,go_sem,seval,↓reduceIte]
   ·have:b.drop k= []:=BZ Za;rw [hle,this];rfl
   ·have hk3:k<b.length:=Za
    rw [UY hk3] at hle;refine (Ta (nth a k) (nth b k)).use (Zd ?_);refine cD ?_ ?_<;>intro h3<;>simp (disch:=omega) only [Sh.out h3,go_sem,seval,↓reduceIte]
    ·simp_all [A3]
    ·have h4:CY (nth a k) (nth b k)=0:=Za
     exact ⟨k+1,⟨Za,Za,by simp_all [A3]⟩,Za,wk⟩
  ·have hkl:k=a.length:=Za
   subst hkl;rw [Uk] at hle;refine cD ?_ ?_<;>intro h2<;>simp (disch:=omega) only [Sh.out h2,go_sem,seval]
   ·rw [UY Za] at hle;rw [hle];rfl
   ·have:b.drop a.length= []:=BZ Za;rw [hle,this];rfl
theorem aP (a b:List Vis) (c d:Bool) (ha:a.length<=1048576) (hb:b.length<=1048576):PC 196 [.p (.list c (a.map Z3)),.p (.list d (b.map Z3))] (.bool (decide (A3 a b<0))):=by
 refine Zc Tryz.func196 rfl zV ?_;simp (disch:=omega) only [Tryz.f196,go_sem,seval];refine (Gx a b c d ha hb).use ?_;simp (disch:=omega) only [go_sem,seval]
def Ki (l:List Vis) (v:Vis):List Vis->Bool
 | []=>true
 | w::r=>if w=v then true else decide (0<=vIx l w)&&Ki l v r
def VS (l own:List Vis):Bool:=own.all fun w=>decide (0<=vIx l w)
def Kn (os:List Ord) (l:List Vis) (o:Int) (p:Int×Int):Bool:=decide (p.2≠o)||VS l (ZW os p.1.toNat)
def YI (x:Inst) (l:List Vis) (v:Vis):Bool:=decide (vIx l v<0)&&Ki l v (ZW x.orders v.order.toNat)&&x.before.all (Kn x.orders l v.order)
def QB (v:Vis):AM.Obj:= .cells [.p (.int .i64 v.order),.p (.bool v.drp)]
theorem lM {l:List Vis} {v:Vis} : -1<=vIx l v/\vIx l v<l.length:=by
 simp_all [fF,vIx]
theorem PA (x:Inst) (l:List Vis) (c:Bool) (v:Vis) (hl:l.length<=1048576) (ho:x.orders.length<=1048576) (hbl:x.before.length<=1048576) (hv:0<=v.order/\v.order<x.orders.length) (hb: ∀p∈x.before,0<=p.1/\p.1<x.orders.length) :
  PC 197 [.p (Zr x),.p (.list c (l.map Z3)),.p (Z3 v)] (.bool (YI x l v)):=by
 refine Ux [3] Tryz.func197 rfl zW ?_;simp (disch:=omega) only [Tryz.f197,go_sem,seval];refine (Cr l c v hl).use (Zd ?_);refine cD ?_ ?_<;>intro h<;>simp (disch:=omega) only [Sh.out h,go_sem,seval]
 ·grind [YI]
 ·have h1:vIx l v<0:=Za
  obtain ⟨i,hi⟩: ∃i:Nat,v.order=(i:Int):=⟨v.order.toNat,Za⟩
  have hr:YI x l v=(Ki l v (ZW x.orders i)&&x.before.all (Kn x.orders l v.order)):=by
   grind [YI]
  have hvi:=visits_c x.orders x.orders_c i Za ho;rw [<- hi] at hvi;refine ZH [1,3,5] (fun _:Unit=> []) (fun _=> [Zf x,QB v]) (fun _=>Ki l v (ZW x.orders i)=true) ?_ ?_
  ·refine Zd ?_;refine (hvi).use (Zd ?_);have hvl:=Wq x.orders i;generalize hown:ZW x.orders i=own at hvl hr ⊢;refine Zl [1,3,5,21,22] (fun k:Nat=> [(23,.p (.int .i64 k))]) (fun _=> [Zf x,QB v]) (fun k=>k<=own.length/\Ki l v own=Ki l v (own.drop k)) (fun k=>own.length-k) 0 Zb (Weak.mk ?_) ?_
   ·simp (disch:=omega) only [Zf,QB,go_sem,seval]
   ·rintro k ⟨hk,hp⟩;simp (disch:=omega) only [Zf,QB,go_sem,seval];refine ZU ?_ ?_<;>intro h2
    ·have hk2:k<own.length:=Za
     rw [UY hk2] at hp;refine ZU ?_ ?_<;>intro h3
     ·have h4:nth own k=v:=by grind [Gd]
      exact ⟨(),by simp_all [Ki],wk⟩
     ·have h4: ¬nth own k=v:=by grind
      refine (Cr l c (nth own k) hl).use (Zd ?_);refine ZU ?_ ?_<;>intro h5
      ·have h6: ¬ 0<=vIx l (nth own k):=Za
       simp_all [Ki]
      ·have h6:0<=vIx l (nth own k):=Za
       exact ⟨k+1,⟨Za,by simp_all [Ki]⟩,Za,wk⟩
    ·have hkl:k=own.length:=Za
     subst hkl;exact ⟨(),by rw [hp,Uk];rfl,wk⟩
  ·rintro _ hpre;rw [hpre,Vl] at hr;refine Zh [] _ _ _ _ ?_;simp (disch:=omega) only [Zf,QB,go_sem,seval];refine Zl [1,3,5,36,37] (fun k:Nat=> [(38,.p (.int .i64 k))]) (fun _=> [Zf x,QB v]) (fun k=>k<=x.before.length/\ ∀j,j<k->Kn x.orders l v.order (nth x.before j)=true) (fun k=>x.before.length-k) 0 Zb (Weak.mk ?_) ?_
   ·simp (disch:=omega) only [Zf,QB,go_sem,seval]
   ·rintro k ⟨hk,hno⟩;simp (disch:=omega) only [Zf,QB,go_sem,seval];refine cD ?_ ?_<;>intro h2<;>simp (disch:=omega) only [Sh.out h2,go_sem,seval,↓reduceIte]
    ·have hk2:k<x.before.length:=Za
     have hbk:=hb _ (Zu hk2)
     have hbad:Kn x.orders l v.order (nth x.before k)=false->YI x l v=false:=fun h4=>by
      grind [Zu]
     refine ZU ?_ ?_<;>intro h3
     ·exact ⟨k+1,⟨Za,Zp.2 ⟨hno,by simp [Kn,h3]⟩⟩,Za,wk⟩
     ·obtain ⟨a,hao⟩: ∃a:Nat,(nth x.before k).1=(a:Int):=⟨(nth x.before k).1.toNat,Za⟩;have hva:=visits_c x.orders x.orders_c a Za ho;rw [<- hao] at hva
      have h3':(nth x.before k).2=v.order:=Za
      have hbe:Kn x.orders l v.order (nth x.before k)=VS l (ZW x.orders a):=by grind [Kn]
      refine (hva).use (Zd ?_);have hvl:=Wq x.orders a;generalize hown:ZW x.orders a=own at hvl hbe ⊢;refine Zl [1,3,5,36,37,38,51,52] (fun k:Nat=> [(53,.p (.int .i64 k))]) (fun _=> [Zf x,QB v,.cells [.p (.int .i64 (nth x.before k).1),.p (.int .i64 (nth x.before k).2)]]) (fun q=>q<=own.length/\ ∀j,j<q->decide (0<=vIx l (nth own j))=true) (fun k=>own.length-k) 0 Zb (Weak.mk ?_) ?_
      ·simp (disch:=omega) only [Zf,QB,go_sem,seval]
      ·rintro q ⟨hq,hnq⟩;simp (disch:=omega) only [Zf,QB,go_sem,seval];refine ZU ?_ ?_<;>intro h4
       ·have hq2:q<own.length:=Za
        refine (Cr l c (nth own q) hl).use (Zd ?_);refine ZU ?_ ?_<;>intro h5
        ·grind [VS,Zu]
        ·exact ⟨q+1,⟨Za,Zp.2 ⟨hnq,by simp;omega⟩⟩,Za,wk⟩
       ·have hql:q=own.length:=Za
        subst hql
        have:VS l own=true:=by
         rw [VS,ZC];intro w hw;obtain ⟨j,hj,rfl⟩:=ZN.1 hw
         grind [Zk]
        exact ⟨k+1,⟨Za,Zp.2 ⟨hno,by grind⟩⟩,Za,wk⟩
    ·have hkl:k=x.before.length:=Za
     subst hkl
     have:x.before.all (Kn x.orders l v.order)=true:=by
      rw [ZC];intro w hw;obtain ⟨j,hj,rfl⟩:=ZN.1 hw
      grind [Zk]
     rw [hr,this]
def VY (x:Inst) (S:Nat) (l:List Vis) (i:Nat):List Vis:=if S.testBit i=true/\(nth x.orders i).off=false then (ZW x.orders i).filter (YI x l) else []
def nextU (x:Inst) (S:Nat) (l:List Vis) (k:Nat):List Vis:=(List.range k).flatMap (VY x S l)
theorem A5 (x S l k):nextU x S l (k+1)=nextU x S l k++VY x S l k:=by simp [nextU,X4]
theorem TK (x S l i):(VY x S l i).length<=2:=by
 grind [VY,Wq]
theorem Je (x S l): ∀k,(nextU x S l k).length<=2*k
 | 0=>by simp [nextU]
 | k+1=>by
  have h1:=Je x S l k;have h2:=TK x S l k;rw [A5,Zz];omega
theorem aQ (x:Inst) (S:Nat) (l:List Vis) (c:Bool) (hS:S<9223372036854775808) (hl:l.length<=1048576) (ho:x.orders.length<=60) (hbl:x.before.length<=1048576) (hb: ∀p∈x.before,0<=p.1/\p.1<x.orders.length) :
  PC 167 [.p (Zr x),.p (.int .i64 (S:Nat)),.p (.list c (l.map Z3))] (.list false ((nextU x S l x.orders.length).map Z3)):=by
 refine ACalls.frozen (S:=2) (n:=(nextU x S l x.orders.length).length) Zb ?_
 suffices hh:ACalls Tryz.prog 167 [.p (Zr x),.p (.int .i64 (S:Nat)),.p (.list c (l.map Z3))] [] fun y H'=> ∃m:List Vis,m=nextU x S l x.orders.length/\y= .sl 0 0 m.length m.length/\H'= [.elems 2 (m.map Z3)] by
  grind
 refine ZE [2] Tryz.func167 rfl zC ?_;simp (disch:=omega) only [Tryz.f167,go_sem,seval];refine Zo (Weak.ofNil 7 2 (by simp (disch:=omega) only [go_sem,seval]) Zb (Weak.refl _ _ _)) ?_;refine Zh [] _ _ _ _ (Zd ?_);refine Zl [1,2,3,13,14] (fun q:Nat×List Vis=> [(7,.sl 1 0 q.2.length q.2.length),(15,.p (.int .i64 q.1))]) (fun q=> [Zf x,.elems 2 (q.2.map Z3)]) (fun q=>q.1<=x.orders.length/\q.2=nextU x S l q.1) (fun q=>x.orders.length-q.1) (0,[]) ⟨Zb,by simp [nextU]⟩ (Weak.mk ?_) ?_
 ·simp (disch:=omega) only [Zf,go_sem,seval]
 ·rintro ⟨k,m⟩ ⟨hk,hm⟩;simp only at hk hm
  have hml:m.length<=2*k:=by grind [Je]
  have hsc:=A5 x S l k;refine YD ?_;refine cD ?_ ?_<;>intro h<;>simp (disch:=omega) only [Sh.out h,go_sem,seval,↓reduceIte]
  ·have hk2:k<x.orders.length:=Za
   refine Iu ?_ ?_<;>intro h62
   ·omega
   refine Iu ?_ ?_<;>intro h2
   ·have hbit:S.testBit k=false:=by grind [Il]
    have e:VY x S l k= []:=by simp [VY,hbit]
    exact ⟨(k+1,m),⟨Za,by grind⟩,Za,wk⟩
   ·have hbit:S.testBit k=true:=by
     grind [Il]
    refine ZU ?_ ?_<;>intro h3
    ·have e:VY x S l k= []:=by simp [VY,h3]
     exact ⟨(k+1,m),⟨Za,by grind⟩,Za,wk⟩
    ·have h3':(nth x.orders k).off=false:=Za
     have e:VY x S l k=(ZW x.orders k).filter (YI x l):=by grind [VY]
     refine (visits_c x.orders x.orders_c k hk2 Za).use (Zd ?_);have hvl:=Wq x.orders k;have hvo: ∀v∈ZW x.orders k,v.order=k:=fun v hv=>Yq hv;generalize hown:ZW x.orders k=own at hvl e hvo ⊢;refine Zl [1,2,3,13,14,15,36,37] (fun q:Nat×List Vis=> [(7,.sl 1 0 q.2.length q.2.length),(38,.p (.int .i64 q.1))]) (fun q=> [Zf x,.elems 2 (q.2.map Z3),YA (nth x.orders k)]) (fun q=>q.1<=own.length/\q.2=m++(own.take q.1).filter (YI x l)) (fun q=>own.length-q.1) (0,m) ⟨Zb,Zb⟩ (Weak.mk ?_) ?_
     ·simp (disch:=omega) only [Zf,YA,h3',go_sem,seval]
     ·rintro ⟨j,m2⟩ ⟨hj,hm2⟩;simp only at hj hm2
      have hm2l:m2.length<=2*k+2:=by
       grind
      simp (disch:=omega) only [Zf,YA,h3',go_sem,seval];refine ZU ?_ ?_<;>intro h4
      ·have hj2:j<own.length:=Za
       have hvj:=hvo _ (Zu hj2)
       have htk:own.take (j+1)=own.take j++ [nth own j]:=by rw [Xm hj2,Zk hj2]
       have hrd:=PA x l c (nth own j) hl Za hbl Za hb;refine (hrd).use (Zd ?_);refine ZU ?_ ?_<;>intro h5
       ·exact ⟨(j+1,m2++ [nth own j]),⟨Za,by grind⟩,Za,Weak.mk (by simp (disch:=omega) only [h3',go_sem,seval])⟩
       ·exact ⟨(j+1,m2),⟨Za,by grind⟩,Za,Weak.mk (by simp (disch:=omega) only [h3',go_sem,seval])⟩
      ·have hjl:j=own.length:=Za
       subst hjl;exact ⟨(k+1,m2),⟨Za,by grind⟩,Za,wk⟩
  ·have hkn:k=x.orders.length:=Za
   subst hkn;exact ⟨m,hm,1,by simp (disch:=omega) only [go_sem,seval]⟩
theorem wR (l:List Vis) (c:Bool) (hl:l.length<=1048576):PC 170 [.p (.list c (l.map Z3))] (.list true (l.map Z3)):=by
 refine Zc Tryz.func170 rfl zG ?_;simp (disch:=omega) only [Tryz.f170,go_sem,seval,↓reduceIte]
@[go_sem] theorem Zmm {H:List AM.Obj} {u2:TypeId} {xs:List PV} {y:V} {k:V->List AM.Obj->Prop} {tt} :Ro Tryz.prog H 117 u2 (.p (.list true xs)) y (Zt k tt)=A9 ((SG (some (2,16)) xs (Yy (Tryz.prog.underlying u2) H y)).map .p) (Zt (fun v=>k v H) ⟨⟩):=OK PZ
def Zoq (nx:List Vis->List Vis):Nat->List Vis->List (List Vis)->List (List Vis)×Bool
 | 0,l,outs=>(outs++ [l],decide (outs.length+1<=8192))
 | f+1,l,outs=>(nx l).foldl (fun acc v=>if acc.2=true then Zoq nx f (l++ [v]) acc.1 else acc) (outs,true)
def AK (x:Inst) (S k:Nat):Nat:=((List.range k).map fun i=>if S.testBit i=true then (ZW x.orders i).length else 0).sum
theorem AA (x S k):AK x S (k+1)=AK x S k+if S.testBit k=true then (ZW x.orders k).length else 0:=by simp [AK,X4]
theorem CK (x S): ∀k,AK x S k<=2*k
 | 0=>by simp [AK]
 | k+1=>by
  have h1:=CK x S k;have h2:=Wq x.orders k;rw [AA]
  split<;>omega
def nHas (S:Nat) (i:Int):Bool:=decide (0<=i/\i<=62)&&S.testBit i.toNat
theorem M0 {S i:Nat} (h:i<=62):nHas S (i:Int)=S.testBit i:=by
 grind [nHas]
theorem Jg (S:Nat) (i:Int) (hS:S<9223372036854775808):PC 187 [.p (.int .i64 (S:Nat)),.p (.int .i64 i)] (.bool (nHas S i)):=by
 refine Zc Tryz.func187 rfl zN ?_;simp (disch:=omega) only [Tryz.f187,go_sem,seval];refine gT ?_ ?_<;>intro h<;>simp (disch:=omega) only [Sh.out h,go_sem,seval,↓reduceIte]
 ·refine gT ?_ ?_<;>intro h1<;>simp (disch:=omega) only [Sh.out h1,go_sem,seval,↓reduceIte]
  ·refine gT ?_ ?_<;>intro h2<;>simp (disch:=omega) only [Sh.out h2,go_sem,seval,↓reduceIte]
   ·have e:((S / pw i.toNat:Nat):Int).tmod 2=((S / pw i.toNat%2:Nat):Int):=by rfl
    rw [e];have h3:(((S / pw i.toNat%2:Nat):Int)=1)=(S.testBit i.toNat=true):=Im
    simp_all [nHas]
   ·simp [nHas,h2]
  ·simp [nHas,h1]
 ·omega
theorem Nz (x:Inst) (i:Nat) (hi:i<x.orders.length) (hl:x.orders.length<=1048576) (hpl: ∀o∈x.orders,-1<=o.pick.place/\ -1<=o.drp.place):ACalls Tryz.prog 189 [.p (Zr x),.p (.int .i64 (i:Nat))] [] fun y H'=>y= .sl 0 0 (ZW x.orders i).length (ZW x.orders i).length/\H'= [.elems 2 ((ZW x.orders i).map Z3)]:=by
 suffices hh:ACalls Tryz.prog 189 [.p (Zr x),.p (.int .i64 (i:Nat))] [] fun y H'=> ∃m:List Vis,m=ZW x.orders i/\y= .sl 0 0 m.length m.length/\H'= [.elems 2 (m.map Z3)] by
  grind
 obtain ⟨h1,h2⟩:=hpl _ (Zu hi);refine ZE [2] Tryz.func189 rfl zP ?_;simp (disch:=omega) only [Tryz.f189,go_sem,seval];refine Zo (Weak.ofNil 5 2 (by simp (disch:=omega) only [go_sem,seval]) Zb (Weak.refl _ _ _)) ?_;refine ZH [1,2] (fun m:List Vis=> [(5,.sl 1 0 m.length m.length)]) (fun m=> [Zf x,.elems 2 (m.map Z3)]) (fun m=>m=(if 0<=(nth x.orders i).pick.place then [⟨i,false⟩] else [])) ?_ ?_
 ·refine Zd ?_;refine ZU ?_ ?_<;>intro h
  ·exact ⟨[⟨i,false⟩],by grind,Weak.mk (by simp (disch:=omega) only [Zf,go_sem,seval])⟩
  ·exact ⟨[],by grind,Weak.mk (by simp (disch:=omega) only [Zf,go_sem,seval])⟩
 ·intro m hm
  have hml:m.length<=1:=by grind
  refine Zh [] _ _ _ _ (YD ?_);refine cD ?_ ?_<;>intro h<;>simp (disch:=omega) only [Sh.out h,go_sem,seval,↓reduceIte]
  ·exact ⟨m++ [⟨i,true⟩],by rw [ZW,hm,if_pos (c:=0<=(nth x.orders i).drp.place) Za],1,by simp (disch:=omega) only [go_sem,seval]⟩
  ·exact ⟨m,by simp_all [ZW],1,by simp (disch:=omega) only [go_sem,seval]⟩
theorem Do (x:Inst) (i:Nat) (hi:i<x.orders.length) (hl:x.orders.length<=1048576) (hpl: ∀o∈x.orders,-1<=o.pick.place/\ -1<=o.drp.place):PC 189 [.p (Zr x),.p (.int .i64 (i:Nat))] (.list false ((ZW x.orders i).map Z3)) :=
 (Nz x i hi hl hpl).frozen Zb
theorem Qa (l:List Vis) (c:Bool) (v:Vis) (hl:l.length<=1048576):PC 190 [.p (.list c (l.map Z3)),.p (Z3 v)] (.int .i64 (vIx l v)):=by
 refine Zc Tryz.func190 rfl zQ ?_;simp (disch:=omega) only [Tryz.f190,go_sem,seval];refine Zl [0,3] (fun k:Nat=> [(5,.p (.int .i64 k))]) (fun _=> [QB v]) (fun k=>k<=l.length/\ ∀j,j<k->decide (v=nth l j)=false) (fun k=>l.length-k) 0 Zb (Weak.mk ?_) ?_
 ·simp (disch:=omega) only [QB,go_sem,seval,↓reduceIte]
 ·rintro k ⟨hk,hno⟩;simp (disch:=omega) only [QB,go_sem,seval];refine cD ?_ ?_<;>intro h<;>simp (disch:=omega) only [Sh.out h,go_sem,seval,↓reduceIte]
  ·have hk2:k<l.length:=Za
   refine Xd (Zd ?_);refine cD ?_ ?_<;>intro h2<;>simp (disch:=omega) only [Sh.out h2,go_sem,seval,↓reduceIte]
   ·have:v=nth l k:=Eq.symm (by grind [Gd])
    grind [vIx,Iz]
   ·have: ¬v=nth l k:=fun e=>by grind
    exact ⟨k+1,⟨Za,Zp.2 ⟨hno,by grind⟩⟩,Za,wk⟩
  grind [vIx,OO]
theorem DJ (l s:List Vis) (c d:Bool) (hl:l.length<=1048576) (hs:s.length<=1048576):PC 204 [.p (.list c (l.map Z3)),.p (.list d (s.map Z3))] (.bool (VS l s)):=by
 refine Zc Tryz.func204 rfl Zaa ?_;simp (disch:=omega) only [Tryz.f204,go_sem,seval];refine Zl [0,1] (fun k:Nat=> [(5,.p (.int .i64 k))]) (fun _=> []) (fun k=>k<=s.length/\ ∀j,j<k->decide (0<=vIx l (nth s j))=true) (fun k=>s.length-k) 0 Zb (Weak.mk ?_) ?_
 ·simp (disch:=omega) only [go_sem,seval,↓reduceIte]
 ·rintro k ⟨hk,hno⟩;refine Zd ?_;refine cD ?_ ?_<;>intro h<;>simp (disch:=omega) only [Sh.out h,go_sem,seval,↓reduceIte]
  ·have hk2:k<s.length:=Za
   refine (Qa l c (nth s k) hl).use (Zd ?_);refine cD ?_ ?_<;>intro h2<;>simp (disch:=omega) only [Sh.out h2,go_sem,seval,↓reduceIte]
   ·grind [VS,Zu]
   ·exact ⟨k+1,⟨Za,Zp.2 ⟨hno,by simp;omega⟩⟩,Za,wk⟩
  ·have hkl:k=s.length:=Za
   subst hkl
   have:VS l s=true:=by
    rw [VS,ZC];intro w hw;obtain ⟨j,hj,rfl⟩:=ZN.1 hw
    grind [Zk]
   rw [this]
theorem kJ (a b:Vis):PC 210 [.p (Z3 a),.p (Z3 b)] (.bool (decide (CY a b<0))):=by
 refine Zc Tryz.func210 rfl Zaf ?_;simp (disch:=omega) only [Tryz.f210,go_sem,seval]
 repeat' (first | (refine gT ?_ ?_<;>intro hq<;>simp (disch:=omega) only [Sh.out hq,go_sem,seval,↓reduceIte]) | (refine gF ?_ ?_<;>intro hq<;>simp (disch:=omega) only [Sh.out hq,go_sem,seval,↓reduceIte]) | (refine Qj (fun hq=> ?_) (fun hq=> ?_)<;>(try simp only [Zs,XX,Z4] at hq)<;>simp (disch:=omega) only [Sh.out hq,go_sem,seval]))
 ·simp_all [CY,Wv]
 ·rename_i h1 h2
  have ha:a.drp=false:=by grind
  cases hb:b.drp<;>simp [CY,Wv,dn,h2,ha,hb]
 ·grind [CY,Wv,dn]
 grind [CY,Wv]
theorem CX {a b:Int} :Wv a b=0↔a=b:=by grind [Wv]
theorem wV {a b:Vis} :dn a=dn b↔a.drp=b.drp:=by grind [dn]
theorem GW {a b:Vis} :CY a b=0↔a=b:=by
 grind [CY,Gd,CX,wV]
theorem qZ (a b:List Vis) (c d:Bool) (ha:a.length<=1048576) (hb:b.length<=1048576):PC 192 [.p (.list c (a.map Z3)),.p (.list d (b.map Z3))] (.bool (decide (A3 a b<0))):=by
 refine Zc Tryz.func192 rfl zS ?_;simp (disch:=omega) only [Tryz.f192,go_sem,seval];refine Zl [0,1] (fun k:Nat=> [(5,.p (.int .i64 k))]) (fun _=> []) (fun k=>k<=a.length/\k<=b.length/\A3 a b=A3 (a.drop k) (b.drop k)) (fun k=>a.length-k) 0 Zb (Weak.mk ?_) ?_
 ·simp (disch:=omega) only [go_sem,seval,↓reduceIte]
 ·rintro k ⟨hk,hkb,hle⟩;refine Zd ?_;refine gT ?_ ?_<;>intro h<;>simp (disch:=omega) only [Sh.out h,go_sem,seval,↓reduceIte]
  ·refine cD ?_ ?_<;>intro h2<;>simp (disch:=omega) only [Sh.out h2,go_sem,seval,↓reduceIte]
   ·have hk2:k<a.length:=Za
    have hk3:k<b.length:=Za
    rw [UY hk2,UY hk3,A3] at hle;refine Xd (Zd ?_);refine cD ?_ ?_<;>intro h3<;>simp (disch:=omega) only [Sh.out h3,go_sem,seval,↓reduceIte]
    ·have hne:CY (nth a k) (nth b k)≠0:=fun e=>by
      grind [GW]
     refine Xd (Zd ?_);refine Zn (kJ (nth a k) (nth b k)) (Zd ?_)
     grind
    ·have e2:nth a k=nth b k:=by
      grind [Gd]
     exact ⟨k+1,⟨Za,Za,by simp_all [GW]⟩,Za,wk⟩
   grind [UY,A3]
  ·have:a.drop k= []:=BZ Za;rw [hle,this]
   cases hb:b.drop k with
   | nil =>
    have:b.length<=k:=List.drop_eq_nil_iff.1 hb;simp [A3];omega
   | cons x r =>
    have:k<b.length:=by
     grind
    simp [A3];omega
theorem TX {S n:Nat} (h:S.testBit n=true):S|||pw n=S:=by
 apply B3
 grind [J6]
theorem jH {S n:Nat} (h:S.testBit n=false):S|||pw n=S+pw n:=by
 have e:S%2^(n+1)=S%2^n+2^n*(S / 2^n%2):=Nat.mod_pow_succ;rw [Nat.testBit_eq_decide_div_mod_eq] at h
 have h0:S / 2^n%2=0:=by grind
 rw [h0,Nat.mul_zero,VM] at e;have hp:0<2^n:=Nat.two_pow_pos n
 have hs:2^(n+1)=2^n+2^n:=Za
 have r1:S%2^(n+1)<2^n:=Za
 have e1:=Nat.two_pow_add_eq_or_of_lt (i:=n) r1 1;have e2:=Nat.two_pow_add_eq_or_of_lt (i:=n+1) (b:=2^n*1+S%2^(n+1)) Za (S / 2^(n+1));have e3:=Nat.two_pow_add_eq_or_of_lt (i:=n+1) (b:=S%2^(n+1)) Za (S / 2^(n+1));have e4:=Nat.div_add_mod S (2^(n+1));rw [pw]
 grind
theorem HC (r:Rte) (hl:r.visits.length<=1048576):PT 147 [.p (Wg r)] [.p (.int .i64 (QU r.visits).1),.p (.int .i64 (QU r.visits).2)]:=by
 refine Ze [] Tryz.func147 rfl yO ?_;simp (disch:=omega) only [Tryz.f147,go_sem,seval];refine Zl [1] (fun k:Nat=> [(4,.p (.int .i64 (X7 (r.visits.take k):Nat))),(5,.p (.int .i64 k))]) (fun _=> [Xo r]) (fun k=>k<=r.visits.length/\ ∀j,j<k->GB (nth r.visits j)=true) (fun k=>r.visits.length-k) 0 Zb (Weak.mk ?_) ?_
 ·simp (disch:=omega) only [Xo,X7,QS,Um,go_sem,seval]
 ·rintro k ⟨hk,hno⟩
  have hlt:=Ap k hk fun v hv=>by
   obtain ⟨j,hj,rfl⟩:=ZN.1 hv
   grind [Zk]
  simp (disch:=omega) only [Xo,go_sem,seval];refine cD ?_ ?_<;>intro h<;>simp (disch:=omega) only [Sh.out h,go_sem,seval,↓reduceIte]
  ·have hk2:k<r.visits.length:=Za
   have hbad:GB (nth r.visits k)=false->QU r.visits=(0,2):=fun h4=>by
    grind [Zu,QU]
   have hs:=Dg hk2
   have hp:(nth r.visits k).order<=62->pw (nth r.visits k).order.toNat<=4611686018427387904:=fun h=>by rw [<- FJ];exact Kc Za
   refine gF ?_ ?_<;>intro h1<;>simp (disch:=omega) only [Sh.out h1,go_sem,seval,↓reduceIte]
   ·have e:=hbad (by simp [GB];omega);rw [e];exact we
   ·refine cD ?_ ?_<;>intro h2<;>simp (disch:=omega) only [Sh.out h2,go_sem,seval]
    ·have e:=hbad (by simp [GB];omega);rw [e];exact we
    ·have h4:=hp Za;refine (Jg (X7 (r.visits.take k)) (nth r.visits k).order hlt).use (Zd ?_)
     have hin:0<=(nth r.visits k).order/\(nth r.visits k).order<=62:=Za
     have hnh:nHas (X7 (r.visits.take k)) (nth r.visits k).order=(X7 (r.visits.take k)).testBit (nth r.visits k).order.toNat:=by simp [nHas,hin]
     rw [hnh];have hno2:=(Zp (p:=fun j=>GB (nth r.visits j)=true)).2 ⟨hno,by simp [GB];omega⟩
     have hlt2:=Ap (k+1) hk2 fun v hv=>by
      obtain ⟨j,hj,rfl⟩:=ZN.1 hv
      grind [Zk]
     refine ZU ?_ ?_<;>intro h5
     ·have h6:(X7 (r.visits.take k)).testBit (nth r.visits k).order.toNat=false:=by grind
      rw [jH h6] at hs;rw [hs] at hlt2;exact ⟨k+1,⟨Za,hno2⟩,Za,Weak.mk (by simp (disch:=omega) only [hs,Int.natCast_add,go_sem,seval])⟩
     ·have h6:(X7 (r.visits.take k)).testBit (nth r.visits k).order.toNat=true:=by grind
      rw [TX h6] at hs;exact ⟨k+1,⟨Za,hno2⟩,Za,Weak.mk (by simp (disch:=omega) only [hs,go_sem,seval])⟩
  ·have hkl:k=r.visits.length:=Za
   subst hkl
   have:r.visits.all GB=true:=by
    rw [ZC];intro v hv;obtain ⟨j,hj,rfl⟩:=ZN.1 hv
    grind [Zk]
   have e:QU r.visits=(((X7 r.visits:Nat):Int),0):=by simp [QU,this]
   rw [e,X3];exact we
def Plc (x:Inst):Prop:= ∀o∈x.orders,-1<=o.pick.place/\ -1<=o.drp.place
theorem sD {l:List Vis} {v w:Vis} (h:vIx l v=vIx l w) (h0:0<=vIx l v):v=w:=by
 unfold vIx G2 at h h0
 cases hv:l.findIdx? (fun u=>decide (v=u)) with
 | none=>grind
 | some i =>
  grind [VC]
theorem J7 (os:List Ord) (i:Nat):ZW os i= []\/ZW os i= [⟨i,false⟩]\/ZW os i= [⟨i,true⟩]\/ZW os i= [⟨i,false⟩,⟨i,true⟩]:=by
 grind [ZW]
theorem jS {l own:List Vis} (ho:own= []\/(∃v,own= [v])\/ ∃v w,own= [v,w]/\v≠w) :
  QG l (-1) own=(VS l own&& !(decide (own.length=2)&&decide (vIx l (nth own 1)<vIx l (nth own 0)))):=by
 rcases ho with rfl | ⟨v,rfl⟩ | ⟨v,w,rfl,hne⟩
 ·rfl
 ·grind [QG,VS]
 ·have hne2:0<=vIx l v->vIx l v≠vIx l w:=fun h0 h=>hne (sD h h0);have h1:= @lM l v;have h2:= @lM l w;rw [Wl];simp [QG,VS,nth];omega
theorem NX (os:List Ord) (i:Nat):ZW os i= []\/(∃v,ZW os i= [v])\/ ∃v w,ZW os i= [v,w]/\v≠w:=by
 grind [J7]
theorem EJ {α:Type} [Inhabited α] {l:List α} {f:α->Bool} {k:Nat} (hk:k<l.length) (h:f (nth l k)=false):l.all f=false:=by
 grind [Zu]
theorem H7 {α:Type} [Inhabited α] {l:List α} {f:α->Bool} (h: ∀j,j<l.length->f (nth l j)=true):l.all f=true:=by
 rw [ZC];intro v hv;obtain ⟨j,hj,rfl⟩:=ZN.1 hv
 grind [Zk]
theorem aL (x:Inst) (l:List Vis) (c:Bool) (hl:l.length<=1048576) (ho:x.orders.length<=1048576) (hp:Plc x) (hv: ∀v∈l,0<=v.order/\v.order<x.orders.length) :
  PC 225 [.p (Zr x),.p (.list c (l.map Z3))] (.bool (l.all (pairB x.orders l))):=by
 refine Zc Tryz.func225 rfl Zat ?_;simp (disch:=omega) only [Tryz.f225,go_sem,seval];refine Zl [1,2] (fun k:Nat=> [(5,.p (.int .i64 k))]) (fun _=> [Zf x]) (fun k=>k<=l.length/\ ∀j,j<k->pairB x.orders l (nth l j)=true) (fun k=>l.length-k) 0 Zb (Weak.mk ?_) ?_
 ·simp (disch:=omega) only [Zf,go_sem,seval]
 ·rintro k ⟨hk,hno⟩;refine YD ?_;refine cD ?_ ?_<;>intro h<;>simp (disch:=omega) only [Sh.out h,go_sem,seval,↓reduceIte]
  ·have hk2:k<l.length:=Za
   obtain ⟨v1,v2⟩:=hv _ (Zu hk2);obtain ⟨i,hi⟩: ∃i:Nat,(nth l k).order=(i:Int):=⟨(nth l k).order.toNat,Za⟩;rw [hi] at v1 v2
   have hpb:pairB x.orders l (nth l k)=(decide (0<=vIx (ZW x.orders i) (nth l k))&&QG l (-1) (ZW x.orders i)):=by rw [pairB,hi];rfl
   have hown:=NX x.orders i;rw [jS hown] at hpb;refine Xd ?_;simp (disch:=omega) only [hi,go_sem,seval];refine Zn (Do x i Za ho hp) (Zd ?_);have hvl:=Wq x.orders i;generalize ZW x.orders i=own at hvl hpb;have hix:=Qa own false (nth l k) Za;rw [Rm,hi] at hix;refine Xd ?_;simp (disch:=omega) only [hi,go_sem,seval];refine Zn (hix) (Zd ?_);refine gF ?_ ?_<;>intro h2<;>simp (disch:=omega) only [Sh.out h2,go_sem,seval]
   ·grind [EJ]
   ·have h3:0<=vIx own (nth l k):=Za
    have hgo:pairB x.orders l (nth l k)=true-> ∀j,j<k+1->pairB x.orders l (nth l j)=true:=fun e=>Zp.2 ⟨hno,e⟩;refine Zn (DJ l own c false hl Za) (Zd ?_);refine gF ?_ ?_<;>intro h4<;>simp (disch:=omega) only [Sh.out h4,go_sem,seval]
    ·grind [EJ]
    ·have h5:VS l own=true:=by grind
     rw [h5] at hpb;refine Q3 ?_ ?_<;>intro h6
     ·have h7:own.length=2:=Za
      refine Zn (Qa l c (nth own 0) hl) (Zd ?_);refine Zn (Qa l c (nth own 1) hl) (Zd ?_);refine ZU ?_ ?_<;>intro h8
      ·grind [EJ]
      ·exact ⟨k+1,⟨Za,hgo (by grind)⟩,Za,wk⟩
     ·exact ⟨k+1,⟨Za,hgo (by grind)⟩,Za,wk⟩
  grind [H7]
def apB (x:Inst) (S:Nat):Bool:=x.apart.any fun p=>nHas S p.1&&nHas S p.2
theorem kE (x:Inst) (S:Nat) (hS:S<9223372036854775808) (ha:x.apart.length<=1048576):PC 226 [.p (Zr x),.p (.int .i64 (S:Nat))] (.bool (!apB x S)):=by
 refine Zc Tryz.func226 rfl Zau ?_;simp (disch:=omega) only [Tryz.f226,go_sem,seval];refine Zl [1,2] (fun k:Nat=> [(5,.p (.int .i64 k))]) (fun _=> [Zf x]) (fun k=>k<=x.apart.length/\ ∀j,j<k->(nHas S (nth x.apart j).1&&nHas S (nth x.apart j).2)=false) (fun k=>x.apart.length-k) 0 Zb (Weak.mk ?_) ?_
 ·simp (disch:=omega) only [Zf,go_sem,seval]
 ·rintro k ⟨hk,hno⟩;refine YD ?_;refine cD ?_ ?_<;>intro h<;>simp (disch:=omega) only [Sh.out h,go_sem,seval,↓reduceIte]
  ·have hk2:k<x.apart.length:=Za
   refine (Jg S (nth x.apart k).1 hS).use (Zd ?_);refine Q3 ?_ ?_<;>intro h2
   ·refine (Jg S (nth x.apart k).2 hS).use (Zd ?_);refine ZU ?_ ?_<;>intro h3
    ·grind [apB,Vb]
    ·exact ⟨k+1,⟨Za,Zp.2 ⟨hno,by grind⟩⟩,Za,wk⟩
   ·exact ⟨k+1,⟨Za,Zp.2 ⟨hno,by rw [h2];rfl⟩⟩,Za,wk⟩
  grind [apB,QF]
def Ka (l:List Vis) (a b:Int) (j k:Nat):Bool:=decide ((nth l j).order=a)&&decide ((nth l k).order=b)
def Qw (S:Nat) (l:List Vis) (p:Int×Int):Bool:= !nHas S p.2||(nHas S p.1&&(List.range l.length).all fun j=>(List.range j).all fun k=> !Ka l p.1 p.2 j k)
theorem aA (x:Inst) (S:Nat) (l:List Vis) (c:Bool) (hS:S<9223372036854775808) (hl:l.length<=1048576) (hb:x.before.length<=1048576):PC 227 [.p (Zr x),.p (.int .i64 (S:Nat)),.p (.list c (l.map Z3))] (.bool (x.before.all (Qw S l))):=by
 refine Zc Tryz.func227 rfl Zav ?_;simp (disch:=omega) only [Tryz.f227,go_sem,seval];refine Zl [1,2,3] (fun k:Nat=> [(7,.p (.int .i64 k))]) (fun _=> [Zf x]) (fun k=>k<=x.before.length/\ ∀j,j<k->Qw S l (nth x.before j)=true) (fun k=>x.before.length-k) 0 Zb (Weak.mk ?_) ?_
 ·simp (disch:=omega) only [Zf,go_sem,seval]
 ·rintro i ⟨hi,hno⟩;refine YD ?_;refine cD ?_ ?_<;>intro h<;>simp (disch:=omega) only [Sh.out h,go_sem,seval,↓reduceIte]
  ·have hi2:i<x.before.length:=Za
   have hgo:Qw S l (nth x.before i)=true-> ∀j,j<i+1->Qw S l (nth x.before j)=true:=fun e=>Zp.2 ⟨hno,e⟩;have hbad:Qw S l (nth x.before i)=false->x.before.all (Qw S l)=false:=fun e=>EJ hi2 e;have hdef:Qw S l (nth x.before i)=(!nHas S (nth x.before i).2||(nHas S (nth x.before i).1&&(List.range l.length).all fun j=>(List.range j).all fun k=> !Ka l (nth x.before i).1 (nth x.before i).2 j k)):=rfl;generalize Qw S l (nth x.before i)=R at hgo hbad hdef;generalize nth x.before i=p at hdef ⊢;refine (Jg S p.2 hS).use (Zd ?_)
   refine ZU ?_ ?_<;>intro h2
   ·have h3:nHas S p.2=false:=by grind
    exact ⟨i+1,⟨Za,hgo (by grind)⟩,Za,wk⟩
   ·have h3:nHas S p.2=true:=by grind
    refine (Jg S p.1 hS).use (Zd ?_);refine cD ?_ ?_<;>intro h4<;>simp (disch:=omega) only [Sh.out h4,go_sem,seval]
    ·grind
    ·have h5:nHas S p.1=true:=by grind
     rw [h3,h5] at hdef;simp only [Yu,Bool.false_or,Vl] at hdef;refine Zl [1,2,3,7,8,9] (fun k:Nat=> [(10,.p (.int .i64 k))]) (fun _=> [Zf x]) (fun k=>k<=l.length/\ ∀j,j<k-> ∀q,q<j->Ka l p.1 p.2 j q=false) (fun k=>l.length-k) 0 Zb (Weak.mk ?_) ?_
     ·simp (disch:=omega) only [Zf,go_sem,seval]
     ·rintro j ⟨hj,hnj⟩;refine YD ?_;refine ZU ?_ ?_<;>intro h6
      ·have hj2:j<l.length:=Za
       refine Zl [1,2,3,7,8,9,10] (fun k:Nat=> [(11,.p (.int .i64 k))]) (fun _=> [Zf x]) (fun k=>k<=j/\ ∀q,q<k->Ka l p.1 p.2 j q=false) (fun k=>j-k) 0 Zb (Weak.mk ?_) ?_
       ·simp (disch:=omega) only [Zf,go_sem,seval]
       ·rintro k ⟨hk,hnk⟩;refine YD ?_;refine ZU ?_ ?_<;>intro h7
        ·have hk2:k<j:=Za
         refine Q3 ?_ ?_<;>intro h8
         ·refine ZU ?_ ?_<;>intro h9
          ·rw [hbad (by
            rw [hdef,List.all_eq_false];refine ⟨j,by grind,?_⟩;rw [Uj,List.all_eq_false]
            exact ⟨k,by grind,by simp [Ka,h8,h9]⟩)]
          ·exact ⟨k+1,⟨Za,Zp.2 ⟨hnk,by simp [Ka,h9]⟩⟩,Za,wk⟩
         ·exact ⟨k+1,⟨Za,Zp.2 ⟨hnk,by simp [Ka,h8]⟩⟩,Za,wk⟩
        ·have hkl:k=j:=Za
         subst hkl;exact ⟨k+1,⟨Za,(Zp (p:=fun j=> ∀q,q<j->Ka l p.1 p.2 j q=false)).2 ⟨hnj,hnk⟩⟩,Za,wk⟩
      ·have hjl:j=l.length:=Za
       subst hjl;refine ⟨i+1,⟨Za,hgo ?_⟩,Za,wk⟩
       grind
  grind [H7]
theorem kL (x:Inst) (i:Nat) (l:List Vis) (c:Bool) (hl:l.length<=1048576) (ho:x.orders.length<=1048576) (hbl:x.before.length<=1048576) (hp:Plc x) (hb: ∀p∈x.before,0<=p.1/\p.1<x.orders.length) (hi:i<=1048576) :
  PC 188 [.p (Zr x),.p (.int .i64 (i:Nat)),.p (.list c (l.map Z3))] (.bool (x.before.all (Kn x.orders l (i:Int)))):=by
 refine Zc Tryz.func188 rfl zO ?_;simp (disch:=omega) only [Tryz.f188,go_sem,seval];refine Zl [1,2,3] (fun k:Nat=> [(7,.p (.int .i64 k))]) (fun _=> [Zf x]) (fun k=>k<=x.before.length/\ ∀j,j<k->Kn x.orders l (i:Int) (nth x.before j)=true) (fun k=>x.before.length-k) 0 Zb (Weak.mk ?_) ?_
 ·simp (disch:=omega) only [Zf,go_sem,seval]
 ·rintro k ⟨hk,hno⟩;refine YD ?_;refine cD ?_ ?_<;>intro h<;>simp (disch:=omega) only [Sh.out h,go_sem,seval,↓reduceIte]
  ·have hk2:k<x.before.length:=Za
   obtain ⟨b1,b2⟩:=hb _ (Zu hk2);obtain ⟨a,hao⟩: ∃a:Nat,(nth x.before k).1=(a:Int):=⟨(nth x.before k).1.toNat,Za⟩;have hva:=Do x a Za ho hp;rw [<- hao] at hva
   have hdef:Kn x.orders l (i:Int) (nth x.before k)=(decide ((nth x.before k).2≠(i:Int))||VS l (ZW x.orders a)):=by rw [Kn,hao];rfl
   refine Q3 ?_ ?_<;>intro h2
   ·refine gF ?_ ?_<;>intro h3<;>simp (disch:=omega) only [Sh.out h3,go_sem,seval,↓reduceIte]
    ·omega
    ·refine gF ?_ ?_<;>intro h4<;>simp (disch:=omega) only [Sh.out h4,go_sem,seval,↓reduceIte]
     ·omega
     ·refine (hva).use (Zd ?_);have hvl:=Wq x.orders a;refine (DJ l (ZW x.orders a) c false hl Za).use (Zd ?_);refine ZU ?_ ?_<;>intro h5
      ·grind [EJ]
      ·have h6:VS l (ZW x.orders a)=true:=by grind
       exact ⟨k+1,⟨Za,Zp.2 ⟨hno,by grind⟩⟩,Za,wk⟩
   ·exact ⟨k+1,⟨Za,Zp.2 ⟨hno,by grind⟩⟩,Za,wk⟩
  grind [H7]
theorem Lm (S:Nat) (i:Int):sHas (S:Int) i=nHas S i:=by
 by_cases h:0<=i/\i<=62
 ·obtain ⟨k,rfl⟩: ∃k:Nat,i=(k:Int):=⟨i.toNat,Za⟩
  grind [Wo,M0]
 ·have h2:nHas S i=false:=by simp only [nHas,h,JN,Qp]
  grind [sHas]
theorem Fu {S:Nat} {i:Int} :nHas S i=true↔0<=i/\i<=62/\S.testBit i.toNat=true:=by simp [nHas,and_assoc]
theorem Oz {S n i:Nat} (h:S / pw n=0) (hi:S.testBit i=true):i<n:=by
 rcases Wm i n with h2 | h2
 ·exact h2
 ·have h3:S<2^n:=by
   have:=(Nat.div_eq_zero_iff).1 h;rcases this with h4 | h4
   ·grind [FK]
   ·exact h4
  grind [Uh,Yi,K7]
theorem Jd {S:Nat} {a:Int} :a∈XT (S:Int) 63↔ ∃i:Nat,a=(i:Int)/\i<63/\S.testBit i=true:=by
 simp only [XT,XO,JV,ZR]
 constructor
 ·rintro ⟨i,⟨h1,h2⟩,rfl⟩;rw [Wo S i Za] at h2
  grind
 ·rintro ⟨i,rfl,h1,h2⟩;exact ⟨i,⟨h1,by grind [Wo]⟩,rfl⟩
structure Alw (x:Inst) (S:Nat):Prop where
 off: ∀i,i<x.orders.length->S.testBit i=true->(nth x.orders i).off=false
 apart:apB x S=false
 closed: ∀p∈x.before,nHas S p.2=true->nHas S p.1=true
 acyc: ∀i,i<x.orders.length->S.testBit i=true-> ¬Ch x.before i i
theorem Vh {c:Prop} [Decidable c] {a b:Int} (ha:a≠0):(if c then a else b)=0↔ ¬c/\b=0:=by
 grind
theorem Dy {x:Inst} {S:Nat} (hn:x.orders.length<=60) (hS:S / pw x.orders.length=0) (hv:Val x.orders.length x.before):Wt x.orders x.apart x.before (S:Int)=0↔Alw x S:=by
 have hlt: ∀i,S.testBit i=true->i<x.orders.length:=fun i h=>Oz hS h
 have e0: ¬(S:Int)<0:=Za
 unfold Wt;rw [if_neg e0,Vh Za,Vh Za,Vh Za,Vh Za,Vh Za];simp only [and_true]
 constructor
 ·rintro ⟨_,h2,h3,h4,h5⟩;simp only [Uj] at h2 h3 h4 h5;rw [WD] at h2 h4 h5;refine ⟨fun i hi hb=> ?_,?_,fun p hp hb=> ?_,fun i hi hb hc=> ?_⟩
  ·have:=h2 (i:Int) (Jd.2 ⟨i,rfl,Za,hb⟩)
   grind
  ·grind [apB,Lm]
  ·have:=h4 p hp
   simp_all [Lm]
  ·have:=h5 (i:Int) (Jd.2 ⟨i,rfl,Za,hb⟩)
   grind [Wo,UO]
 ·rintro ⟨h1,h2,h3,h4⟩;refine ⟨?_,?_,?_,?_,?_⟩
  ·simp only [Uj];rw [WD];intro a ha;obtain ⟨i,rfl,h5,h6⟩:=Jd.1 ha
   grind
  ·simp only [Uj];rw [WD];intro a ha;obtain ⟨i,rfl,h5,h6⟩:=Jd.1 ha
   grind
  ·simp only [Lm,Uj];exact h2
  ·simp only [Uj]
   grind [Lm]
  ·simp only [Uj];rw [WD];intro a ha;obtain ⟨i,rfl,h5,h6⟩:=Jd.1 ha
   grind [Wo,UO]
theorem G3 {f g:Nat->Bool} {b:Nat} : ∀(l:List Nat),(∀a,f a=true->g a=true)->f b=false->g b=true->b∈l->(l.filter f).length<(l.filter g).length
 | [],_,_,_,h=>by simp at h
 | x::l,hfg,hf,hg,h=>by
  have hle: ∀l:List Nat,(l.filter f).length<=(l.filter g).length:=by
   intro l
   induction l with
   | nil=>simp
   | cons y l ih =>
    grind
  simp only [El];rcases Z5.1 h with rfl | h
  ·grind
  ·have:=G3 l hfg hf hg h
   grind
theorem OM {n:Nat} {be:List (Int×Int)} (hv:Val n be) {P:Nat->Prop} (hP: ∀i,P i->i<n/\ ¬Ch be i i) {i:Nat} (hi:P i): ∃i,P i/\ ∀p∈be,p.2=(i:Int)-> ¬P p.1.toNat:=by
 suffices h: ∀(k i:Nat),P i->((List.range n).filter fun a=>(nth (J8 n be) i).testBit a).length<k-> ∃i,P i/\ ∀p∈be,p.2=(i:Int)-> ¬P p.1.toNat from h _ i hi (Nat.lt_succ_self _)
 intro k
 induction k with
 | zero=>omega
 | succ k ih =>
  intro i hi hk
  by_cases h: ∃p∈be,p.2=(i:Int)/\P p.1.toNat
  ·obtain ⟨p,hp,h1,h2⟩:=h;obtain ⟨v1,v2,v3,v4⟩:=hv p hp;have hE:Ed be p.1.toNat i:=⟨p,hp,Za,h1⟩;refine ih p.1.toNat h2 (Uh (G3 (b:=p.1.toNat) _ (fun a ha=> ?_) ?_ ?_ ?_) (by omega:((List.range n).filter fun a=>(nth (J8 n be) i).testBit a).length<=k))
   ·exact (UO hv a i (hP i hi).1).2 (((UO hv a _ (hP _ h2).1).1 ha).more hE)
   ·grind [UO]
   ·exact (UO hv _ i (hP i hi).1).2 (.one hE)
   grind
  grind
theorem WV {l:List Vis} {v:Vis} :0<=vIx l v↔v∈l:=by
 grind [ON,vIx]
theorem Zcx {l:List Vis} {v:Vis} :vIx l v<0↔v ∉ l:=by rw [<- WV];omega
theorem SD {l own:List Vis} :VS l own=true↔ ∀w∈own,w∈l:=by
 grind [VS,WV]
theorem dI {os:List Ord} {l:List Vis} {o:Int} {p:Int×Int} :Kn os l o p=true↔(p.2=o-> ∀w∈ZW os p.1.toNat,w∈l):=by
 rw [Kn,W1,SD,Zs]
 grind
theorem dJ {x:Inst} {l:List Vis} {o:Int} :x.before.all (Kn x.orders l o)=true↔ ∀p∈x.before,p.2=o-> ∀w∈ZW x.orders p.1.toNat,w∈l:=by
 simp_all [dI]
def Vne (x:Inst):Prop:= ∀i,i<x.orders.length->ZW x.orders i≠ []
theorem jZ {l own:List Vis} (ho:own= []\/(∃v,own= [v])\/ ∃v w,own= [v,w]/\v≠w) {k:Nat} (hk:k<own.length):Ki l (nth own k) own=(decide (k=0)||decide (0<=vIx l (nth own 0))):=by
 rcases ho with rfl | ⟨v,rfl⟩ | ⟨v,w,rfl,hne⟩
 ·simp at hk
 ·grind [Ki,nth]
 ·have:k=0\/k=1:=by grind
  rcases this with rfl | rfl
  ·simp [Ki,nth]
  grind [Ki,nth]
theorem aI (x:Inst) (S:Nat) (l:List Vis) (c:Bool) (hS:S<9223372036854775808) (hl:l.length<=1048576) (ho:x.orders.length<=60) (hbl:x.before.length<=1048576) (hp:Plc x) (hb: ∀p∈x.before,0<=p.1/\p.1<x.orders.length) :
  ACalls Tryz.prog 146 [.p (Zr x),.p (.int .i64 (S:Nat)),.p (.list c (l.map Z3))] [] fun y H'=> ∃m:List Vis,m=nextU x S l x.orders.length/\y= .sl 0 0 m.length m.length/\H'= [.elems 2 (m.map Z3)]:=by
 refine ZE [2] Tryz.func146 rfl yN ?_;simp (disch:=omega) only [Tryz.f146,go_sem,seval];refine Zo (Weak.ofNil 7 2 (by simp (disch:=omega) only [go_sem,seval]) Zb (Weak.refl _ _ _)) ?_;refine Zh [] _ _ _ _ (Zd ?_);refine Zl [1,2,3] (fun q:Nat×List Vis=> [(7,.sl 1 0 q.2.length q.2.length),(8,.p (.int .i64 q.1))]) (fun q=> [Zf x,.elems 2 (q.2.map Z3)]) (fun q=>q.1<=x.orders.length/\q.2=nextU x S l q.1) (fun q=>x.orders.length-q.1) (0,[]) ⟨Zb,by simp [nextU]⟩ (Weak.mk ?_) ?_
 ·simp (disch:=omega) only [Zf,go_sem,seval]
 ·rintro ⟨i,m⟩ ⟨hi,hm⟩;simp only at hi hm
  have hml:m.length<=2*i:=by grind [Je]
  have hsc:=A5 x S l i;refine YD ?_;refine cD ?_ ?_<;>intro h<;>simp (disch:=omega) only [Sh.out h,go_sem,seval,↓reduceIte]
  ·have hi2:i<x.orders.length:=Za
   have hskip:VY x S l i= []->(i+1,m).2=nextU x S l (i+1):=fun e=>by grind
   refine (Jg S (i:Int) hS).use (Zd ?_);rw [M0 Za];refine Iu ?_ ?_<;>intro h2
   ·have hbit:S.testBit i=false:=by grind
    exact ⟨(i+1,m),⟨Za,hskip (by simp [VY,hbit])⟩,Za,wk⟩
   ·have hbit:S.testBit i=true:=by grind
    refine Iu ?_ ?_<;>intro h3
    ·exact ⟨(i+1,m),⟨Za,hskip (by simp [VY,h3])⟩,Za,wk⟩
    ·have e:VY x S l i=(ZW x.orders i).filter (YI x l):=by grind [VY]
     refine (kL x i l c hl Za hbl hp hb Za).use (Zd ?_);refine ZU ?_ ?_<;>intro h4
     ·have h5:x.before.all (Kn x.orders l (i:Int))=false:=by grind
      refine ⟨(i+1,m),⟨Za,hskip ?_⟩,Za,wk⟩
      grind [List.filter_eq_nil_iff,YI,Yq]
     ·have h5:x.before.all (Kn x.orders l (i:Int))=true:=by grind
      refine (Do x i hi2 Za hp).use (Zd ?_);have hvl:=Wq x.orders i;have hvo: ∀v∈ZW x.orders i,v.order=i:=fun v hv=>Yq hv;have htwo:=NX x.orders i
      have hrd: ∀k,k<(ZW x.orders i).length->YI x l (nth (ZW x.orders i) k)=(decide (vIx l (nth (ZW x.orders i) k)<0)&&(decide (k=0)||decide (0<=vIx l (nth (ZW x.orders i) 0)))):=fun k hk=>by
       simp_all [YI,Zu,jZ]
      generalize hown:ZW x.orders i=own at hvl e hvo hrd ⊢;refine Zl [1,2,3,8,9] (fun q:Nat×List Vis=> [(7,.sl 1 0 q.2.length q.2.length),(10,.p (.int .i64 q.1))]) (fun q=> [Zf x,.elems 2 (q.2.map Z3)]) (fun q=>q.1<=own.length/\q.2=m++(own.take q.1).filter (YI x l)) (fun q=>own.length-q.1) (0,m) ⟨Zb,Zb⟩ (Weak.mk ?_) ?_
      ·simp (disch:=omega) only [Zf,go_sem,seval]
      ·rintro ⟨j,m2⟩ ⟨hj,hm2⟩;simp only at hj hm2
       have hm2l:m2.length<=2*i+2:=by
        grind
       refine YD ?_;refine ZU ?_ ?_<;>intro h6
       ·have hj2:j<own.length:=Za
        have htk:own.take (j+1)=own.take j++ [nth own j]:=by rw [Xm hj2,Zk hj2]
        have hr:=hrd j hj2
        have hyes:YI x l (nth own j)=true->((j+1,m2++ [nth own j]):Nat×List Vis).2=m++(own.take (j+1)).filter (YI x l):=fun h7=>by
         grind
        have hno:YI x l (nth own j)=false->((j+1,m2):Nat×List Vis).2=m++(own.take (j+1)).filter (YI x l):=fun h7=>by
         grind
        refine (Qa l c (nth own j) hl).use (Zd ?_);refine Q3 ?_ ?_<;>intro h7
        ·refine Iu ?_ ?_<;>intro h8
         ·exact ⟨(j+1,m2++ [nth own j]),⟨Za,hyes (by grind)⟩,Za,wk⟩
         ·refine (Qa l c (nth own 0) hl).use (Zd ?_);refine ZU ?_ ?_<;>intro h9
          ·exact ⟨(j+1,m2++ [nth own j]),⟨Za,hyes (by grind)⟩,Za,wk⟩
          ·exact ⟨(j+1,m2),⟨Za,hno (by grind)⟩,Za,wk⟩
        ·exact ⟨(j+1,m2),⟨Za,hno (by grind)⟩,Za,wk⟩
       ·have hjl:j=own.length:=Za
        subst hjl;exact ⟨(i+1,m2),⟨Za,by grind⟩,Za,wk⟩
  ·have hkn:i=x.orders.length:=Za
   subst hkn;exact ⟨m,hm,1,by simp (disch:=omega) only [go_sem,seval]⟩
theorem R6 (x:Inst) (S:Nat) (l:List Vis) (c:Bool) (hS:S<9223372036854775808) (hl:l.length<=1048576) (ho:x.orders.length<=60) (hbl:x.before.length<=1048576) (hp:Plc x) (hb: ∀p∈x.before,0<=p.1/\p.1<x.orders.length) :
  PC 146 [.p (Zr x),.p (.int .i64 (S:Nat)),.p (.list c (l.map Z3))] (.list false ((nextU x S l x.orders.length).map Z3)) :=
 ACalls.frozen (S:=2) (n:=(nextU x S l x.orders.length).length) Zb ((aI x S l c hS hl ho hbl hp hb).mono fun y H' ⟨m,hm,h1,h2⟩=>by grind)
inductive Gr (x:Inst) (S:Nat):List Vis->Prop where
 | nil:Gr x S []
 | snoc {l:List Vis} {v:Vis} (h:Gr x S l) (hv:v∈nextU x S l x.orders.length):Gr x S (l++ [v])
theorem PI (os:List Ord) (i:Nat):(ZW os i).Nodup:=by
 grind [J7]
theorem jY {os:List Ord} {i:Nat} {l:List Vis} {v:Vis} (hv:v∈ZW os i):Ki l v (ZW os i)=true↔(v.drp=true->⟨i,false⟩∈ZW os i->⟨i,false⟩∈l):=by
 rcases J7 os i with h | h | h | h<;>rw [h] at hv ⊢ <;>simp at hv
 ·grind [Ki]
 ·grind [Ki]
 ·rcases hv with rfl | rfl
  ·simp [Ki]
  ·simp [Ki,WV]
theorem VJ {x:Inst} {l:List Vis} {v:Vis} {i:Nat} (hv:v∈ZW x.orders i):YI x l v=true↔v ∉ l/\(v.drp=true->⟨i,false⟩∈ZW x.orders i->⟨i,false⟩∈l)/\ ∀p∈x.before,p.2=(i:Int)-> ∀w∈ZW x.orders p.1.toNat,w∈l:=by
 have h:=Yq hv;rw [YI,h,XS,Zw,Zw,Zs,Zcx,jY hv,dJ,and_assoc]
theorem VX {x:Inst} {S:Nat} {l:List Vis} {v:Vis} {k:Nat} :v∈nextU x S l k↔ ∃i,i<k/\S.testBit i=true/\(nth x.orders i).off=false/\v∈ZW x.orders i/\YI x l v=true:=by
 rw [nextU,X2]
 constructor
 ·grind [VY]
 ·rintro ⟨i,hi,h1,h2,h3,h4⟩;exact ⟨i,by grind,by simp_all [VY]⟩
def Bv (x:Inst) (S k:Nat):List Vis:=(List.range k).flatMap fun i=>if S.testBit i=true then ZW x.orders i else []
theorem GL (x S k):Bv x S (k+1)=Bv x S k++if S.testBit k=true then ZW x.orders k else []:=by simp [Bv,X4]
theorem Kl (x S): ∀k,(Bv x S k).length=AK x S k
 | 0=>by rfl
 | k+1=>by
  rw [GL,AA,Zz,Kl x S k]
  split<;>simp
theorem WQ {x S k v} :v∈Bv x S k↔ ∃i,i<k/\S.testBit i=true/\v∈ZW x.orders i:=by
 simp_all [Bv]
theorem EI (x S): ∀k,(Bv x S k).Nodup
 | 0=>by simp [Bv]
 | k+1=>by
  rw [GL,B6];refine ⟨EI x S k,?_,fun a ha b hb=> ?_⟩
  ·grind [PI]
  ·obtain ⟨i,hi,_,h2⟩:=WQ.1 ha
   split at hb
   ·have h3:=Yq h2;have h4:=Yq hb
    grind
   ·simp at hb
theorem Gr.nodup {x S l} (h:Gr x S l):l.Nodup:=by
 induction h with
 | nil=>simp
 | snoc _ hv ih =>
  obtain ⟨i,_,_,_,h4,h5⟩:=VX.1 hv;rw [B6];refine ⟨ih,Zb,fun a ha b hb=> ?_⟩;simp at hb;subst hb;exact fun e=>((VJ h4).1 h5).1 (e ▸ ha)
theorem Gr.sub {x S l} (h:Gr x S l): ∀v∈l,v∈Bv x S x.orders.length:=by
 induction h with
 | nil=>simp
 | snoc _ hv ih =>
  obtain ⟨i,h1,h2,_,h4,_⟩:=VX.1 hv;intro w hw;rcases Xg.1 hw with hw | hw
  ·exact ih w hw
  ·simp at hw;subst hw;exact WQ.2 ⟨i,h1,h2,h4⟩
theorem Lt {α:Type} [DecidableEq α] {l m:List α} (hl:l.Nodup) (h: ∀v∈l,v∈m):l.length<=m.length:=List.Nodup.length_le_of_subset hl h
theorem Zcm {α:Type} [DecidableEq α] {l m:List α} (hl:l.Nodup) (h: ∀v∈l,v∈m) (hm:m.length<=l.length): ∀v∈m,v∈l:=fun v hv=>by
 refine JQ fun hno=> ?_
 have:(v::l).length<=m.length:=Lt (by grind) (fun w hw=>by
  grind)
 grind
theorem Gr.len {x S l} (h:Gr x S l):l.length<=AK x S x.orders.length:=by
 rw [<- Kl];exact Lt h.nodup h.sub
theorem Gr.full {x S l} (h:Gr x S l) (hl:l.length=AK x S x.orders.length): ∀v∈Bv x S x.orders.length,v∈l:=Zcm h.nodup h.sub (by rw [Kl];omega)
theorem Gr.more {x S l} (ha:Alw x S) (hn:x.orders.length<=60) (hv:Val x.orders.length x.before) (hm: ∃v∈Bv x S x.orders.length,v ∉ l): ∃v,v∈nextU x S l x.orders.length:=by
 obtain ⟨v,hva,hvl⟩:=hm;obtain ⟨i,h1,h2,h3⟩:=WQ.1 hva;obtain ⟨j,⟨j1,j2,w,j3,j4⟩,hj⟩:=OM hv (P:=fun i=>i<x.orders.length/\S.testBit i=true/\ ∃w∈ZW x.orders i,w ∉ l) (fun i hi=>⟨hi.1,ha.acyc i hi.1 hi.2.1⟩) ⟨h1,h2,v,h3,hvl⟩
 have hpre: ∀p∈x.before,p.2=(j:Int)-> ∀w∈ZW x.orders p.1.toNat,w∈l:=fun p hp e w hw=>by
  refine JQ fun hno=> ?_;obtain ⟨v1,v2,v3,v4⟩:=hv p hp;have:=ha.closed p hp (Fu.2 ⟨Za,Za,by grind⟩);exact hj p hp e ⟨Za,(Fu.1 this).2.2,w,hw,hno⟩
 by_cases hf:(⟨j,false⟩:Vis)∈ZW x.orders j/\(⟨j,false⟩:Vis) ∉ l
 ·exact ⟨⟨j,false⟩,VX.2 ⟨j,j1,j2,ha.off j j1 j2,hf.1,(VJ hf.1).2 ⟨hf.2,Zb,hpre⟩⟩⟩
 ·refine ⟨w,VX.2 ⟨j,j1,j2,ha.off j j1 j2,j3,(VJ j3).2 ⟨j4,fun _ hq=> ?_,hpre⟩⟩⟩
  grind
theorem Gr.next_nil {x S l} (h:Gr x S l) (ha:Alw x S) (hn:x.orders.length<=60) (hv:Val x.orders.length x.before):nextU x S l x.orders.length= []↔l.length=AK x S x.orders.length:=by
 constructor
 ·intro e;refine JQ fun hno=> ?_
  have hex: ∃v∈Bv x S x.orders.length,v ∉ l:=JQ fun hno2=>hno (by
   have h1: ∀v∈Bv x S x.orders.length,v∈l:=fun v hv=>JQ fun h3=>hno2 ⟨v,hv,h3⟩;have:=Lt (EI x S _) h1;rw [Kl] at this;have:=h.len
   omega)
  obtain ⟨v,hv⟩:=Gr.more (l:=l) ha hn hv hex
  grind
 ·intro e;rw [List.eq_nil_iff_forall_not_mem];intro v hv;obtain ⟨i,h1,h2,_,h4,h5⟩:=VX.1 hv;exact ((VJ h4).1 h5).1 (h.full e v (WQ.2 ⟨i,h1,h2,h4⟩))
theorem Sk {x:Inst} {S:Nat} (hne:Vne x) (hS:S / pw x.orders.length=0) (h0:S≠0):0<AK x S x.orders.length:=by
 have: ∃i,S.testBit i=true:=by
  refine JQ fun hno=>h0 (B3 fun i=> ?_)
  grind
 obtain ⟨i,hi⟩:=this;have hlt:=Oz hS hi;obtain ⟨v,hv⟩:=List.exists_mem_of_ne_nil _ (hne i hlt);have hm:v∈Bv x S x.orders.length:=WQ.2 ⟨i,hlt,hi,hv⟩
 grind [Kl]
def ext (nx:List Vis->List Vis):Nat->List Vis->List (List Vis)->List (List Vis)
 | 0,l,outs=>if 8192<outs.length then outs else outs++ [l]
 | f+1,l,outs=>if 8192<outs.length then outs else (nx l).foldl (fun acc v=>ext nx f (l++ [v]) acc) outs
theorem SV {S n:Nat} (hS:S<9223372036854775808) (h: ∀j,j<63->S.testBit j=true->j<n):S / pw n=0:=by
 refine JJ ?_;refine Nat.lt_pow_two_of_testBit S fun i hi=> ?_;rcases Wm i 63 with h2 | h2
 ·grind
 ·exact K7 (Uh hS (Yi Za h2:2^63<=2^i))
def Nm (x:Inst) (l:List Vis):Int :=
 if l.any (V1 x)=true then 2
 else if l.length=0 then 2
 else if (l.any fun v=>(nth x.orders v.order.toNat).off)=true then 9
 else if ((List.range l.length).any fun i=>decide (vIx l (nth l i)≠(i:Int)))=true then 6
 else if l.all (pairB x.orders l)=false then 19
 else if apB x (X7 l)=true then 20
 else if x.before.all (Qw (X7 l) l)=false then 21
 else 0
theorem Po (x:Inst) (r:Rte) (ho:x.orders.length<=60) (hl:r.visits.length<=1048576) (hap:x.apart.length<=1048576) (hbe:x.before.length<=1048576) (hp:Plc x) :
  PC 205 [.p (Zr x),.p (Wg r)] (.int .i64 (Nm x r.visits)):=by
 refine Zc Tryz.func205 rfl Zab ?_;simp (disch:=omega) only [Tryz.f205,go_sem,seval];refine Zl [2,3,5] (fun k:Nat=> [(6,.p (.int .i64 k))]) (fun _=> [Zf x,Xo r]) (fun k=>k<=r.visits.length/\ ∀j,j<k->V1 x (nth r.visits j)=false) (fun k=>r.visits.length-k) 0 Zb (Weak.mk ?_) ?_
 ·simp (disch:=omega) only [Zf,Xo,go_sem,seval]
 ·rintro k ⟨hk,hno⟩;refine KQ ?_;refine cD ?_ ?_<;>intro h<;>simp (disch:=omega) only [Sh.out h,go_sem,seval,↓reduceIte]
  ·have hk2:k<r.visits.length:=Za
   refine Xd (Zd ?_);refine gF ?_ ?_<;>intro h2<;>simp (disch:=omega) only [Sh.out h2,go_sem,seval,↓reduceIte]
   ·have:V1 x (nth r.visits k)=true:=by simp [V1];omega
    rw [Nm,if_pos (Vb hk2 this)]
   ·refine ZU ?_ ?_<;>intro h3
    ·have:V1 x (nth r.visits k)=true:=by simp [V1];omega
     rw [Nm,if_pos (Vb hk2 this)]
    ·exact ⟨k+1,⟨Za,Zp.2 ⟨hno,by simp [V1];omega⟩⟩,Za,wk⟩
  ·have hkl:k=r.visits.length:=Za
   subst hkl
   have hr1:Nm x r.visits=if r.visits.length=0 then 2 else if (r.visits.any fun v=>(nth x.orders v.order.toNat).off)=true then 9 else if ((List.range r.visits.length).any fun i=>decide (vIx r.visits (nth r.visits i)≠(i:Int)))=true then 6 else if r.visits.all (pairB x.orders r.visits)=false then 19 else if apB x (X7 r.visits)=true then 20 else if x.before.all (Qw (X7 r.visits) r.visits)=false then 21 else 0:=by
    rw [Nm,if_neg (by rw [QF hno];simp)]
   have hin: ∀j,j<r.visits.length->0<=(nth r.visits j).order/\(nth r.visits j).order<x.orders.length:=fun j hj=>by
    grind [V1]
   have hmem: ∀v∈r.visits,0<=v.order/\v.order<x.orders.length:=fun v hv=>by
    obtain ⟨j,hj,rfl⟩:=ZN.1 hv
    grind [Zk]
   have hord:QU r.visits=(((X7 r.visits:Nat):Int),0):=by
    rw [QU,if_pos]
    grind [GB]
   have hlt:X7 r.visits<9223372036854775808:=by
    have:=Ap r.visits.length (l:=r.visits) (ZI _) (fun v hv=>by
     grind [GB])
    grind
   have hoc:=HC r hl;rw [hord] at hoc;refine Y5 hoc (Zd ?_);refine cD ?_ ?_<;>intro h3<;>simp (disch:=omega) only [Sh.out h3,go_sem,seval]
   ·grind
   ·rw [hr1,if_neg Za];clear hno hr1 h3 h hk;refine Zl [2,5,7] (fun k:Nat=> [(9,.p (.int .i64 k))]) (fun _=> [Zf x,Xo r]) (fun k=>k<=r.visits.length/\ ∀j,j<k->(nth x.orders (nth r.visits j).order.toNat).off=false) (fun k=>r.visits.length-k) 0 Zb (Weak.mk ?_) ?_
    ·simp (disch:=omega) only [Zf,Xo,go_sem,seval]
    ·rintro k ⟨hk,hno⟩;refine KQ ?_;refine cD ?_ ?_<;>intro h<;>simp (disch:=omega) only [Sh.out h,go_sem,seval,↓reduceIte]
     ·have hk2:k<r.visits.length:=Za
      obtain ⟨i1,i2⟩:=hin k hk2
      have i3:(nth r.visits k).order.toNat<x.orders.length:=Za
      refine Xd (Zd ?_);refine ZU ?_ ?_<;>intro h4
      ·rw [if_pos (Vb hk2 h4)]
      ·exact ⟨k+1,⟨Za,Zp.2 ⟨hno,h4⟩⟩,Za,wk⟩
     ·have hkl:k=r.visits.length:=Za
      subst hkl;have e9:(r.visits.any fun v=>(nth x.orders v.order.toNat).off)=false:=QF hno;rw [e9,if_neg Zb];clear hno h hk;refine Zl [2,5,7] (fun k:Nat=> [(10,.p (.int .i64 k))]) (fun _=> [Zf x,Xo r]) (fun k=>k<=r.visits.length/\ ∀j,j<k->vIx r.visits (nth r.visits j)=(j:Int)) (fun k=>r.visits.length-k) 0 Zb (Weak.mk ?_) ?_
      ·simp (disch:=omega) only [Zf,Xo,go_sem,seval]
      ·rintro k ⟨hk,hno⟩;refine KQ ?_;refine cD ?_ ?_<;>intro h<;>simp (disch:=omega) only [Sh.out h,go_sem,seval,↓reduceIte]
       ·have hk2:k<r.visits.length:=Za
        refine (Qa r.visits r.visits_c (nth r.visits k) hl).use (Zd ?_);refine ZU ?_ ?_<;>intro h4
        ·have:((List.range r.visits.length).any fun i=>decide (vIx r.visits (nth r.visits i)≠(i:Int)))=true:=by
          grind
         grind
        ·exact ⟨k+1,⟨Za,Zp.2 ⟨hno,Za⟩⟩,Za,wk⟩
       ·have hkl:k=r.visits.length:=Za
        subst hkl
        have:((List.range r.visits.length).any fun i=>decide (vIx r.visits (nth r.visits i)≠(i:Int)))=false:=by
         grind
        rw [this,if_neg Zb];refine (aL x r.visits r.visits_c hl Za hp hmem).use (Zd ?_);refine cD ?_ ?_<;>intro h4<;>simp (disch:=omega) only [Sh.out h4,go_sem,seval,↓reduceIte]
        ·grind
        ·rw [if_neg (by grind)];refine (kE x (X7 r.visits) hlt hap).use (Zd ?_);refine cD ?_ ?_<;>intro h5<;>simp (disch:=omega) only [Sh.out h5,go_sem,seval,↓reduceIte]
         ·grind
         ·rw [if_neg (by grind)];refine (aA x (X7 r.visits) r.visits r.visits_c hlt hl hbe).use (Zd ?_);refine cD ?_ ?_<;>intro h6<;>simp (disch:=omega) only [Sh.out h6,go_sem,seval]
          ·grind
          grind
structure IFacts (x:Inst):Prop where
 len:x.orders.length<=10
 plc:Plc x
 vne:Vne x
 val:Val x.orders.length x.before
 ne: ∀p∈x.before,p.1≠p.2
 aval:Val x.orders.length x.apart
theorem fQ {n:Int} {word:List UInt8} {sm:Int×Int->Int×Int->Bool} {l:List (Int×Int)} (h:Q8 n word sm l l.length= []): ∀p∈l,TP n p=true:=by
 intro p hp;obtain ⟨i,hi,rfl⟩:=ZN.1 hp;have h2:=(Ug.1 h).2;rw [List.flatMap_eq_nil_iff] at h2;have h3:=h2 i (by grind)
 grind [Rr,Zk]
theorem X0 {x:Inst} (h:InstOk x):IFacts x:=by
 have ho:=h.orders;obtain ⟨h1,h2⟩:=Ug.1 h.rules;have ha:=fQ h1;have hb:=fQ h2
 have hpl:Plc x:=fun o hm=>by
  obtain ⟨i,hi,rfl⟩:=ZN.1 hm;have:=ho.2 i hi;rw [<- Zk hi];exact ⟨this.pick.1,this.drp.1⟩
 have val: ∀l:List (Int×Int),(∀p∈l,TP x.orders.length p=true)->Val x.orders.length l:=fun l h p hp=>by
  grind [TP]
 refine ⟨ho.1,hpl,fun i hi=> ?_,val _ hb,fun p hp=> ?_,val _ ha⟩
 ·have h3:=ho.2 i hi;have h4:=hpl _ (Zu hi);have h5:=h3.one
  grind [ZW]
 grind [TP]
theorem WN {l:List Vis} {o:Int} :hasO l o=true↔ ∃v∈l,v.order=o:=by simp [hasO]
theorem Cl : ∀(l:List Vis) (i:Nat),(X7 l).testBit i=true↔ ∃v∈l,v.order.toNat=i:=by
 have key: ∀(l:List Vis) (s i:Nat),(l.foldl (fun s v=>s|||pw v.order.toNat) s).testBit i=true↔s.testBit i=true\/ ∃v∈l,v.order.toNat=i:=by
  intro l
  induction l with
  | nil=>simp
  | cons v l ih =>
   intro s i;rw [XG,ih,Ae,J6,W1,Zs,or_assoc];simp
 grind [X7]
def Inr (x:Inst) (l:List Vis):Prop:= ∀v∈l,0<=v.order/\v.order<x.orders.length
theorem VZ {x:Inst} {l:List Vis} (hi:Inr x l) (hn:x.orders.length<=60) (o:Int) (h:0<=o/\o<=62):nHas (X7 l) o=hasO l o:=by
 rw [Wl,Fu,Cl,WN]
 constructor
 ·rintro ⟨h1,h2,v,hv,h3⟩;have:=hi v hv
  grind
 grind
theorem Bm {l:List Vis} (hd:l.Nodup) {k:Nat} (hk:k<l.length):vIx l (nth l k)=(k:Int):=by
 refine Iz hk Zb fun j hj=> ?_
 grind [Zk,Kv]
theorem Sp {l:List Vis} {v:Vis} (h:0<=vIx l v):(vIx l v).toNat<l.length/\nth l (vIx l v).toNat=v:=by
 grind [vIx,G2,VC,Zk]
theorem Zcw {l:List Vis} {k:Nat} (hk:k<l.length):0<=vIx l (nth l k)/\vIx l (nth l k)<=(k:Int):=by
 grind [vIx,nth,Zu,G2,VC]
theorem Jn {l:List Vis} {v:Vis} {i:Nat} (h:v∈l.take i): ∃j,j<i/\j<l.length/\nth l j=v:=by
 obtain ⟨j,hj,rfl⟩:=ZN.1 h;simp at hj;exact ⟨j,Za,Za,by grind [Zk]⟩
theorem Fq {l:List Vis} {i j:Nat} (h:j<i) (hl:j<l.length):nth l j∈l.take i:=by
 grind [Zk,ZN]
theorem Bl {l:List Vis} :KT l=false↔l.Nodup:=by
 rw [KT,WD]
 constructor
 ·intro h;rw [List.nodup_iff_pairwise_ne,Kv];intro i j hi hj hij e;have:=h j (by grind);simp only [Zs,WV] at this;refine this ?_;rw [Zk hj,<- e,<- Zk hi];exact Fq hij hi
 ·intro h j hj;simp only [Zs,WV]
  grind [Jn,Bm]
theorem bD {l:List Vis} :((List.range l.length).any fun i=>decide (vIx l (nth l i)≠(i:Int)))=KT l:=by
 rw [Wl]
 constructor
 ·grind [Bm,Bl]
 ·intro h;rw [KT,JH] at h;obtain ⟨j,hj,h2⟩:=h;simp only [Zs,WV] at h2;obtain ⟨i,h3,h4,h5⟩:=Jn h2
  grind
def A6 (l:List Vis) (b:Int):Int:=G2 (fun v=>decide (v.order=b)) l
theorem Am {l:List Vis} {b:Int} :0<=A6 l b↔ ∃v∈l,v.order=b:=by
 grind [ON,A6]
theorem Cj {l:List Vis} {b:Int} (h:0<=A6 l b):(A6 l b).toNat<l.length/\(nth l (A6 l b).toNat).order=b/\ ∀j,j<(A6 l b).toNat->(nth l j).order≠b:=by
 unfold A6 G2 at h ⊢
 grind [VC,Zk]
theorem ZbP {l:List Vis} {b:Int} {k:Nat} (hk:k<l.length) (h:(nth l k).order=b):0<=A6 l b/\A6 l b<=(k:Int):=by
 have h0:0<=A6 l b:=Am.2 ⟨_,Zu hk,h⟩;refine ⟨h0,?_⟩;obtain ⟨h1,h2,h3⟩:=Cj h0
 grind
theorem Ql {l:List Vis} {a b:Int} :beforeB l a b=true↔(0<=A6 l b->(∃v∈l,v.order=a)/\ ∀j,j<l.length->(nth l j).order=a->(j:Int)<A6 l b):=by
 unfold beforeB;rw [show G2 (fun v=>decide (v.order=b)) l=A6 l b from rfl]
 by_cases h:A6 l b<0
 ·grind
 ·rw [if_neg h,Zw,WN]
  have h0:0<=A6 l b:=Za
  obtain ⟨h1,h2,h3⟩:=Cj h0
  have hd:(!hasO (l.drop (A6 l b).toNat) a)=true↔ ∀j,j<l.length->(nth l j).order=a->(j:Int)<A6 l b:=by
   rw [XN,<- Uj,WN]
   constructor
   ·intro hno j hj e;rcases Int.lt_or_le (j:Int) (A6 l b) with h4 | h4
    ·exact h4
    ·refine absurd ⟨nth l j,?_,e⟩ hno;rw [Zk hj];exact ZN.2 ⟨j-(A6 l b).toNat,by simp;omega,by grind⟩
   ·rintro hall ⟨v,hv,e⟩;obtain ⟨j,hj,rfl⟩:=ZN.1 hv
    grind [Zk]
  grind
theorem Ou {x:Inst} {l:List Vis} (hi:Inr x l) (hn:x.orders.length<=60) {p:Int×Int} (h1:0<=p.1/\p.1<x.orders.length) (h2:0<=p.2/\p.2<x.orders.length) (hne:p.1≠p.2):Qw (X7 l) l p=beforeB l p.1 p.2:=by
 rw [Wl,Ql,Qw,VZ hi hn _ Za,VZ hi hn _ Za];simp only [W1,XN,Zw];rw [<- Uj,WN,WN,<- Am,<- Am (b:=p.1)]
 constructor
 ·rintro (h | ⟨h3,h4⟩) h0
  ·omega
  ·refine ⟨h3,fun j hj e=> ?_⟩;rw [ZC] at h4;have h5:=h4 j (by grind);rw [ZC] at h5;obtain ⟨g1,g2,g3⟩:=Cj h0;rcases Int.lt_or_le (j:Int) (A6 l p.2) with h6 | h6
   ·exact h6
   ·have hne2:j≠(A6 l p.2).toNat:=fun e2=>hne (by grind);have:=h5 (A6 l p.2).toNat (by simp;omega)
    grind [Ka]
 ·intro h
  by_cases h0:0<=A6 l p.2
  ·obtain ⟨h3,h4⟩:=h h0;refine .inr ⟨h3,?_⟩;rw [ZC];intro j hj;rw [ZC];intro k hk;simp at hj hk
   cases hb:Ka l p.1 p.2 j k with
   | false=>rfl
   | true =>
    simp [Ka] at hb;have h5:=h4 j hj hb.1;have h6:=(ZbP Za hb.2).2;omega
  omega
theorem qU {x:Inst} (hf:IFacts x) (l:List Vis):Nm x l=Xr x l:=by
 by_cases ho:l.any (V1 x)=true
 ·simp_all [Nm,Xr]
 ·have ho':l.any (V1 x)=false:=by grind
  have hi:Inr x l:=fun v hv=>by
   grind [V1]
  have hn:x.orders.length<=60:=by have:=hf.len;omega
  rw [Nm,if_neg ho,Xr]
  by_cases h0:l.length=0
  ·omega
  ·have hc: ¬(l.length=0\/l.any (V1 x)=true):=fun h=>h.elim h0 ho;rw [if_neg h0,if_neg hc,bD]
   have e1:apB x (X7 l)=x.apart.any fun p=>hasO l p.1&&hasO l p.2:=by
    rw [apB,Wl,JH,JH]
    have: ∀p∈x.apart,(nHas (X7 l) p.1&&nHas (X7 l) p.2)=(hasO l p.1&&hasO l p.2):=fun p hp=>by
     have:=hf.aval p hp
     grind [VZ]
    grind
   have e2:(x.before.all (Qw (X7 l) l)=false)=((x.before.any fun p=> !beforeB l p.1 p.2)=true):=by
    have: ∀p∈x.before,Qw (X7 l) l p=beforeB l p.1 p.2:=fun p hp=>by
     have:=hf.val p hp;exact Ou hi hn Za Za (hf.ne p hp)
    grind
   grind
structure RightV (x:Inst) (l:List Vis):Prop where
 ne:l≠ []
 inr:Inr x l
 off: ∀v∈l,(nth x.orders v.order.toNat).off=false
 nodup:l.Nodup
 pair: ∀v∈l,pairB x.orders l v=true
 apart: ∀p∈x.apart,¬(hasO l p.1=true/\hasO l p.2=true)
 before: ∀p∈x.before,beforeB l p.1 p.2=true
theorem aH {x:Inst} {l:List Vis} :Xr x l=0↔RightV x l:=by
 unfold Xr;rw [Vh Za,Vh Za,Vh Za,Vh Za,Vh Za,Vh Za];simp only [and_true,Uj,Bl]
 have hin:l.any (V1 x)=false↔Inr x l:=by
  rw [WD];exact ⟨fun h v hv=>by grind [V1],fun h v hv=>by simpa [V1] using h v hv⟩
 constructor
 ·rintro ⟨h1,h2,h3,h4,h5,h6⟩;rw [not_or,Uj,hin] at h1;rw [WD] at h2 h5 h6;refine ⟨fun e=>h1.1 (by rw [e];rfl),h1.2,fun v hv=>by grind,h3,?_,fun p hp=>by grind,fun p hp=>by grind⟩
  grind
 ·intro h;refine ⟨?_,?_,h.nodup,?_,?_,?_⟩
  ·rw [not_or,Uj,hin];exact ⟨fun e=>h.ne (Ys e),h.inr⟩
  ·rw [WD];intro v hv;simp [h.off v hv]
  ·rw [ZC.2 h.pair];simp
  ·rw [WD];intro p hp;simpa using h.apart p hp
  ·rw [WD];intro p hp;simpa using h.before p hp
theorem T1 {os:List Ord} {l:List Vis} {v:Vis} {i:Nat} (h:v.order=(i:Int)):pairB os l v=true↔v∈ZW os i/\(∀w∈ZW os i,w∈l)/\((⟨i,false⟩:Vis)∈ZW os i->(⟨i,true⟩:Vis)∈ZW os i->vIx l ⟨i,false⟩<vIx l ⟨i,true⟩):=by
 rw [pairB,h,XS,Zw,Zs,WV];refine and_congr Iff.rfl ?_
 have hm: ∀w:Vis,-1<vIx l w↔w∈l:=fun w=>by grind [WV]
 rcases J7 os i with e | e | e | e<;>rw [e]
 ·simp [QG]
 ·simp [QG,hm]
 ·simp [QG,hm]
 ·simp only [QG,Qq,Zw,Zs,hm,Z5,W0,Wa,forall_eq_or_imp,forall_eq]
  grind
section
variable {x : Inst} {l : List Vis}
theorem RightV.bit (h:RightV x l) (i:Nat):(X7 l).testBit i=true↔ ∃v∈l,v.order=(i:Int):=by
 rw [Cl];exact ⟨fun ⟨v,hv,e⟩=>⟨v,hv,by have:=h.inr v hv;omega⟩,fun ⟨v,hv,e⟩=>⟨v,hv,Za⟩⟩
theorem RightV.lt (h:RightV x l) (hf:IFacts x):X7 l<9223372036854775808/\X7 l / pw x.orders.length=0:=by
 have h1:X7 l<9223372036854775808:=by
  have:=Ap l.length (l:=l) (ZI _) (fun v hv=>by
   rw [X3] at hv;have:=h.inr v hv;have:=hf.len
   simp [GB];omega)
  grind
 refine ⟨h1,SV h1 fun j _ hj=> ?_⟩;obtain ⟨v,hv,e⟩:=(h.bit j).1 hj;have:=h.inr v hv;omega
theorem RightV.ord (h:RightV x l) (hf:IFacts x):QU l=(((X7 l:Nat):Int),0):=by
 rw [QU,if_pos];rw [ZC];intro v hv;have:=h.inr v hv;have:=hf.len;simp [GB];omega
theorem RightV.step (h:RightV x l) {a b:Nat} (hE:Ed x.before a b) (hb:0<=A6 l b):0<=A6 l a/\A6 l a<A6 l b:=by
 obtain ⟨p,hp,e1,e2⟩:=hE;have hbe:=Ql.1 (h.before p hp);rw [e1,e2] at hbe;obtain ⟨h1,h2⟩:=hbe hb;have h0:=Am.2 h1;obtain ⟨g1,g2,_⟩:=Cj h0
 grind
theorem RightV.chain (h:RightV x l) {a b:Nat} (hc:Ch x.before a b) (hb:0<=A6 l b):0<=A6 l a/\A6 l a<A6 l b:=by
 induction hc with
 | one hE=>exact h.step hE hb
 | more _ hE ih =>
  have h1:=h.step hE hb;omega
theorem RightV.alw (h:RightV x l) (hf:IFacts x):Alw x (X7 l):=by
 have hn:x.orders.length<=60:=by have:=hf.len;omega
 refine ⟨fun i hi hb=> ?_,?_,fun p hp hb=> ?_,fun i hi hb hc=> ?_⟩
 ·obtain ⟨v,hv,e⟩:=(h.bit i).1 hb;have:=h.off v hv
  grind
 ·rw [apB,WD];intro p hp;have hv:=hf.aval p hp;rw [VZ h.inr hn _ Za,VZ h.inr hn _ Za,Zw];exact h.apart p hp
 ·have hv:=hf.val p hp;rw [VZ h.inr hn _ Za] at hb ⊢;rw [WN] at hb ⊢;exact (Ql.1 (h.before p hp) (Am.2 hb)).1
 ·have hb2:=Am.2 ((h.bit i).1 hb);have:=(h.chain hc hb2).2;omega
theorem Gr.at {S:Nat} (h:Gr x S l): ∀k,k<l.length->nth l k∈nextU x S (l.take k) x.orders.length:=by
 induction h with
 | nil=>simp
 | snoc h hv ih =>
  rename_i l v;intro k hk;simp at hk;rcases Wm k l.length with h2 | h2
  ·grind [Zk]
  ·have:k=l.length:=Za
   simp_all [Zk]
theorem Gr.right {S:Nat} (h:Gr x S l) (hf:IFacts x) (ha:Alw x S) (h0:S≠0) (hS:S / pw x.orders.length=0) (hl:l.length=AK x S x.orders.length):RightV x l/\X7 l=S:=by
 have hn:x.orders.length<=60:=by have:=hf.len;omega
 have hfull:=h.full hl
 have hsub: ∀v∈l,∃i:Nat,v.order=(i:Int)/\i<x.orders.length/\S.testBit i=true/\v∈ZW x.orders i:=fun v hv=>by
  obtain ⟨i,i1,i2,i3⟩:=WQ.1 (h.sub v hv);exact ⟨i,Yq i3,i1,i2,i3⟩
 have hinr:Inr x l:=fun v hv=>by grind
 have hgo: ∀k,k<l.length-> ∃i:Nat,(nth l k).order=(i:Int)/\nth l k∈ZW x.orders i/\nth l k ∉ l.take k/\((nth l k).drp=true->(⟨i,false⟩:Vis)∈ZW x.orders i->(⟨i,false⟩:Vis)∈l.take k)/\ ∀p∈x.before,p.2=(i:Int)-> ∀w∈ZW x.orders p.1.toNat,w∈l.take k:=fun k hk=>by
  obtain ⟨i,i1,i2,i3,i4,i5⟩:=VX.1 (h.at k hk);obtain ⟨r1,r2,r3⟩:=(VJ i4).1 i5;exact ⟨i,Yq i4,i4,r1,r2,r3⟩
 have hbit:X7 l=S:=B3 fun i=>by
  rw [Wl,Cl]
  constructor
  ·grind
  ·intro hb;have hi:=Oz hS hb;obtain ⟨w,hw⟩:=List.exists_mem_of_ne_nil _ (hf.vne i hi);have:=Yq hw;exact ⟨w,hfull w (WQ.2 ⟨i,hi,hb,hw⟩),Za⟩
 refine ⟨⟨fun e=> ?_,hinr,fun v hv=> ?_,h.nodup,fun v hv=> ?_,fun p hp=> ?_,fun p hp=> ?_⟩,hbit⟩
 ·have:=Sk hf.vne hS h0
  grind
 ·obtain ⟨i,i1,i2,i3,i4⟩:=hsub v hv;rw [i1,XS];exact ha.off i i2 i3
 ·obtain ⟨i,i1,i2,i3,i4⟩:=hsub v hv;refine (T1 i1).2 ⟨i4,fun w hw=>hfull w (WQ.2 ⟨i,i2,i3,hw⟩),fun hq1 hq2=> ?_⟩;have m2:=WV.2 (hfull _ (WQ.2 ⟨i,i2,i3,hq2⟩));obtain ⟨g1,g2⟩:=Sp m2;obtain ⟨j,j1,j2,j3,j4,j5⟩:=hgo _ g1;rw [g2] at j1 j4
  have:j=i:=by grind
  subst this;obtain ⟨q,q1,q2,q3⟩:=Jn (j4 rfl hq1);have:=(Zcw q2).2
  grind
 ·have:=ha.apart;rw [apB,WD] at this;have h2:=this p hp;have hv:=hf.aval p hp;rw [<- hbit,VZ hinr hn _ Za,VZ hinr hn _ Za,Zw] at h2;exact h2
 ·rw [Ql];intro hb;have hv:=hf.val p hp;obtain ⟨g1,g2,g3⟩:=Cj hb;obtain ⟨j,j1,j2,j3,j4,j5⟩:=hgo _ g1;have hall:=j5 p hp Za;refine ⟨?_,fun q hq e=> ?_⟩
  ·obtain ⟨w,hw⟩:=List.exists_mem_of_ne_nil _ (hf.vne p.1.toNat Za);exact ⟨w,JT (hall w hw),by rw [Yq hw];omega⟩
  ·obtain ⟨i,i1,i2,i3,i4⟩:=hsub _ (Zu hq)
   have:i=p.1.toNat:=Za
   subst this;obtain ⟨q2,r1,r2,r3⟩:=Jn (hall _ i4);have e1:=Bm h.nodup r2;have e2:=Bm h.nodup hq
   grind
end
theorem Rf {a b:Int} :Wv a b<0↔a<b:=by grind [Wv]
def Zcb (r:Rte):Prop:=r.visits.length<=1048576/\r.rests.length<=1048576
end Go.Proofs.YtjkkdmeebhjaiaaGreatDoor.K
namespace Go.Proofs.YtjkkdmeebhjaiaaGreatDoor.K
section
variable {L : Type} (fin : L -> Int) (beats : L -> L -> Bool) (nxt : Nat -> L -> Bool -> Option L) (choices : Nat -> List Bool)
def Vw : Option L->List L->Option L
 | b,[]=>b
 | none,x::l=>Vw (some x) l
 | some m,x::l=>if fin x<fin m then Vw (some x) l else Vw (some m) l
theorem K5 : ∀(b:Option L) (l r:List L),Vw fin b (l++r)=Vw fin (Vw fin b l) r
 | b,[],r=>by rfl
 | none,x::l,r=>by rw [ZL,Vw,Vw,K5]
 | some m,x::l,r=>by
  rw [ZL,Vw,Vw]
  split
  ·rw [K5]
  ·rw [K5]
theorem Q9 : ∀(l:List L) (m:L),∃z,Vw fin (some m) l=some z/\fin z<=fin m/\ ∀y∈l,fin z<=fin y
 | [],m=>⟨m,rfl,Za,Zb⟩
 | x::l,m=>by
  rw [Vw]
  split
  ·rename_i h;obtain ⟨z,e,h1,h2⟩:=Q9 l x
   grind
  ·rename_i h;obtain ⟨z,e,h1,h2⟩:=Q9 l m
   grind
theorem My : ∀(l:List L) (m:L),(∀y∈l,fin m<=fin y)->Vw fin (some m) l=some m
 | [],m,_=>rfl
 | x::l,m,h=>by
  have:=h x List.mem_cons_self;rw [Vw,if_neg Za];exact My l m fun y hy=>h y (X9 _ hy)
theorem Tj (A B:List L) (h: ∀y∈B,∃z∈A,fin z<=fin y):Vw fin none (A++B)=Vw fin none A:=by
 rw [K5]
 cases A with
 | nil=>cases B with
  | nil=>rfl
  | cons y B=>grind [List.mem_cons_self]
 | cons a A =>
  rw [Vw];obtain ⟨z,e,h1,h2⟩:=Q9 fin A a;rw [e];refine My fin B z fun y hy=> ?_
  grind
def XY : List L->List L->List L
 | out,[]=>out
 | out,x::l=>if out.any (fun m=>beats m x)=true then XY out l else XY (out++ [x]) l
theorem C0 {R:L->List L} : ∀(c out:List L),(∀x∈out++c,∀m∈out++c,beats m x=true-> ∀y∈R x,∃z∈R m,fin z<=fin y)->Vw fin none ((XY beats out c).flatMap R)=Vw fin none ((out++c).flatMap R)
 | [],out,_=>by simp [XY]
 | x::c,out,h=>by
  rw [XY]
  split
  ·rename_i hb;obtain ⟨m,hm,hb⟩:=JH.1 hb
   have hb:beats m x=true:=by simpa using hb
   rw [C0 c out (fun a ha b hb=>h a (by simp only [Xg,Z5] at ha ⊢;rcases ha with h | h<;>simp [h]) b (by simp only [Xg,Z5] at hb ⊢;rcases hb with h | h<;>simp [h]))];rw [List.flatMap_append,List.flatMap_append,Ui,<- Vj,K5,K5 (l:=out.flatMap R++R x)];rw [Tj fin (out.flatMap R) (R x)];intro y hy;obtain ⟨z,hz,hle⟩:=h x Zb m (by simp [hm]) hb y hy;exact ⟨z,X2.2 ⟨m,hm,hz⟩,hle⟩
  ·rw [C0 c (out++ [x]) (by simpa using h)];simp
theorem As : ∀(c out:List L),∀x∈XY beats out c,x∈out++c
 | [],out,x,h=>by grind [XY]
 | a::c,out,x,h=>by
  rw [XY] at h
  split at h
  ·have:=As c out x h;simp only [Xg,Z5] at this ⊢;rcases this with h | h<;>simp [h]
  ·have:=As c (out++ [a]) x h;simpa using this
def Iy : Nat->Nat->List (List Bool)
 | 0,_=> [[]]
 | j+1,k=>(choices k).flatMap fun b=>(Iy j (k+1)).map (b:: ·)
def Vu : Nat->L->List Bool->Option L
 | _,x,[]=>some x
 | k,x,b::bs=>match nxt k x b with
  | some y=>Vu (k+1) y bs
  | none=>none
def Vn (j k:Nat) (x:L):List L:=(Iy choices j k).filterMap (Vu nxt k x)
def W6 (k:Nat) (l:List L):List L:=l.flatMap fun x=>(choices k).filterMap (nxt k x)
def J9 : Nat->Nat->List L->List L
 | 0,_,l=>l
 | j+1,k,l=>J9 j (k+1) (XY beats [] (W6 nxt choices k l))
theorem Pq (k:Nat) (x:L):Vn nxt choices 0 k x= [x]:=rfl
theorem FM (j k:Nat) (x:L):Vn nxt choices (j+1) k x=((choices k).filterMap (nxt k x)).flatMap (Vn nxt choices j (k+1)):=by
 unfold Vn;rw [Iy]
 induction choices k with
 | nil=>rfl
 | cons b bs ih =>
  rw [Ui,List.filterMap_append,ih,List.filterMap_cons]
  cases h:nxt k x b with
  | none =>
   simp_all [Vu]
  | some y =>
   rw [List.filterMap_map]
   have:(Vu nxt k x∘fun l=>b::l)=Vu nxt (k+1) y:=by grind [Vu]
   grind
theorem Hy {n:Nat} {Inv:Nat->L->Prop} (hI: ∀k x b y,Inv k x->nxt k x b=some y->Inv (k+1) y) (hd: ∀k m x b y,Inv k m->Inv k x->beats m x=true->nxt k x b=some y-> ∃z,nxt k m b=some z/\beats z y=true)
  (he: ∀m x,Inv n m->Inv n x->beats m x=true->fin m<=fin x): ∀(j k:Nat) (m x:L),k+j=n->Inv k m->Inv k x->beats m x=true-> ∀y∈Vn nxt choices j k x,∃z∈Vn nxt choices j k m,fin z<=fin y
 | 0,k,m,x,hk,h1,h2,hb,y,hy=>by
  grind [Pq]
 | j+1,k,m,x,hk,h1,h2,hb,y,hy=>by
  rw [FM] at hy ⊢;obtain ⟨q,hq,hy⟩:=X2.1 hy;obtain ⟨b,hbm,hn⟩:=B5.1 hq;obtain ⟨z,hz,hzb⟩:=hd k m x b q h1 h2 hb hn;obtain ⟨u,hu,hle⟩:=Hy hI hd he j (k+1) z q Za (hI k m b z h1 hz) (hI k x b q h2 hn) hzb y hy
  grind
theorem RH {n:Nat} {Inv:Nat->L->Prop} (hI: ∀k x b y,Inv k x->nxt k x b=some y->Inv (k+1) y) (hd: ∀k m x b y,Inv k m->Inv k x->beats m x=true->nxt k x b=some y-> ∃z,nxt k m b=some z/\beats z y=true)
  (he: ∀m x,Inv n m->Inv n x->beats m x=true->fin m<=fin x): ∀(j k:Nat) (l:List L),k+j=n->(∀x∈l,Inv k x)->Vw fin none (J9 beats nxt choices j k l)=Vw fin none (l.flatMap (Vn nxt choices j k))
 | 0,k,l,hk,hl=>by
  have:l.flatMap (Vn nxt choices 0 k)=l:=by
   have:Vn nxt choices 0 k=fun x=> [x]:=by rfl
   rw [this];simp
  rw [this];rfl
 | j+1,k,l,hk,hl=>by
  have hc: ∀x∈W6 nxt choices k l,Inv (k+1) x:=fun x hx=>by
   obtain ⟨q,hq,hx⟩:=X2.1 hx
   grind
  have e:l.flatMap (Vn nxt choices (j+1) k)=(W6 nxt choices k l).flatMap (Vn nxt choices j (k+1)):=by
   rw [W6,List.flatMap_assoc]
   congr 1
   grind [FM]
  rw [J9,RH hI hd he j (k+1) _ Za (fun x hx=>hc x (by simpa using As beats _ _ x hx)),C0 fin beats _ _ (fun x hx m hm hb y hy=> ?_),e]
  ·simp
  ·exact Hy fin beats nxt choices hI hd he j (k+1) m x Za (hc m (by grind)) (hc x (by grind)) hb y hy
def Y8 : List Bool->List (List Bool)
 | []=> [[]]
 | b::bs=>if b then (Y8 bs).map (true:: ·) else (Y8 bs).map (false:: ·)++(Y8 (List.replicate bs.length false)).map (true:: ·)
termination_by l => l.length
decreasing_by all_goals simp
def Yl : List Bool->Option (List Bool)
 | []=>none
 | b::bs=>match Yl bs with
  | some l=>some (b::l)
  | none=>if b then none else some (true::List.replicate bs.length false)
theorem fromB_next : ∀l:List Bool,Y8 l=l::(match Yl l with | some r=>Y8 r | none=> [])
 | []=>by simp [Y8,Yl]
 | b::bs=>by
  have ih:=fromB_next bs
  have e0: ∀l:List Bool,Y8 (true::l)=(Y8 l).map (true:: ·):=fun l=>by rw [Y8];simp
  have e1: ∀l:List Bool,Y8 (false::l)=(Y8 l).map (false:: ·)++(Y8 (List.replicate l.length false)).map (true:: ·):=fun l=>by rw [Y8];simp
  cases b with
  | true =>
   rw [e0,ih,Yl]
   cases h:Yl bs with
   | none=>simp
   | some r=>simp [e0]
  | false =>
   rw [e1,ih,Yl]
   cases h:Yl bs with
   | none=>simp [e0]
   | some r =>
    have hl:r.length=bs.length:=nlen bs r h;simp [e1,hl]
where nlen : ∀(l r:List Bool),Yl l=some r->r.length=l.length
 | [],r,h=>by simp [Yl] at h
 | b::bs,r,h=>by
  rw [Yl] at h
  cases h2:Yl bs with
  | none =>
   grind
  | some q =>
   rw [h2] at h;simp at h;subst h;simp [nlen bs q h2]
theorem Mo {n:Nat} : ∀(j k:Nat),(∀q,k<=q->choices q= [false,true])->Iy choices j k=Y8 (List.replicate j false)
 | 0,k,_=>by simp [Iy,Y8]
 | j+1,k,h=>by
  rw [Iy,h k (ZI _),Mo (n:=n) j (k+1) (fun q hq=>h q Za),A4,Y8];simp
end
end Go.Proofs.YtjkkdmeebhjaiaaGreatDoor.K
