/- Declarations that the closing texts need, part 19: joined by tools/slim.py. -/
import Derived.Test.YtiigdaohjanidaaGreatDoorS18
import Derived.Test.YtiigdaohjanidaaGreatDoorRows
namespace Go.Proofs.YtiigdaohjanidaaGreatDoor.K
open Go Go.AM Go.Proofs
theorem Hc : Tryz.prog.cellsOf 3=1:=Ze
theorem Zfd : Tryz.prog.cellsOf 4=1:=Ze
theorem Zfm : Tryz.prog.cellsOf 9=1:=Ze
theorem Ze9 : Tryz.prog.cellsOf 30=1:=Ze
theorem TG : Tryz.prog.cellsOf 31=1:=Ze
theorem pX : Tryz.prog.cellsOf 33=2:=Ze
theorem ZgQ : CE Tryz.prog 33=some [(0,30),(1,31)]:=Ze
theorem Zfa : Tryz.prog.cellsOf 35=1:=Ze
theorem Zfb : Tryz.prog.cellsOf 36=1:=Ze
theorem pY : Tryz.prog.cellsOf 38=2:=Ze
theorem ZgR : CE Tryz.prog 38=some [(0,35),(1,36)]:=Ze
theorem Zfc : Tryz.prog.cellsOf 39=1:=Ze
theorem Zfe : Tryz.prog.cellsOf 40=1:=Ze
theorem Zff : Tryz.prog.cellsOf 41=1:=Ze
theorem pZ : Tryz.prog.cellsOf 43=6:=Ze
theorem ZgS : CE Tryz.prog 43=some [(0,38),(2,39),(3,40),(4,41),(5,41)]:=Ze
theorem Zfg : Tryz.prog.cellsOf 46=1:=Ze
theorem Zfh : Tryz.prog.cellsOf 47=1:=Ze
theorem Zfi : Tryz.prog.cellsOf 49=4:=Ze
theorem qP : CE Tryz.prog 49=some [(0,3),(1,3),(2,46),(3,47)]:=Ze
theorem qA : Tryz.prog.cellsOf 57=4:=Ze
theorem ZgT : CE Tryz.prog 57=some [(0,3),(1,3),(2,3),(3,3)]:=Ze
theorem Zfj : Tryz.prog.cellsOf 59=16:=Ze
theorem qQ : CE Tryz.prog 59=some [(0,9),(1,31),(2,57),(6,57),(10,3),(11,3),(12,3),(13,3),(14,3),(15,4)]:=Ze
theorem Zfk : Tryz.prog.cellsOf 63=15:=Ze
theorem qR : CE Tryz.prog 63=some [(0,43),(6,33),(8,3),(9,43)]:=Ze
theorem Zfl : Tryz.prog.cellsOf 82=14:=Ze
theorem qS : CE Tryz.prog 82=some [(0,9),(1,3),(2,3),(3,3),(4,31),(5,3),(6,3),(7,3),(8,3),(9,3),(10,3),(11,3),(12,3),(13,3)]:=Ze
theorem tB : Tryz.prog.cellsOf 126=2:=Ze
theorem eD : CE Tryz.prog 126=some [(0,3),(1,4)]:=Ze
theorem tC : Tryz.prog.cellsOf 127=1:=Ze
theorem tD : Tryz.prog.cellsOf 129=6:=Ze
theorem eE : CE Tryz.prog 129=some [(0,3),(1,3),(2,3),(3,3),(4,127),(5,127)]:=Ze
theorem tE : Tryz.prog.cellsOf 132=2:=Ze
theorem eG : CE Tryz.prog 132=some [(0,3),(1,3)]:=Ze
theorem tF : Tryz.prog.cellsOf 188=2:=Ze
theorem eJ : CE Tryz.prog 188=some [(0,3),(1,3)]:=Ze
set_option linter.unusedVariables false
set_option linter.unusedSimpArgs false
mutual
theorem MQ {H:Type} :(d:DataW H)->E5 d<=Rows.uptoBulk d
 | .lit l=>by cases l<;>simp [E5,Rows.uptoBulk]
 | .nil=>by simp [E5,Rows.uptoBulk]
 | .ptr d=>by have:=MQ d;simp only [E5,Rows.uptoBulk];omega
 | .slice es sp=>by have:=AI es;have:=AI sp;simp only [E5,Rows.uptoBulk];omega
 | .agg ps=>by have:=AI ps;simp only [E5,Rows.uptoBulk];omega
 | .iface _ d=>by have:=MQ d;simp only [E5,Rows.uptoBulk];omega
 | .map es=>by simp only [E5,Rows.uptoBulk];omega
 | .held h=>by simp [E5,Rows.uptoBulk]
theorem AI {H:Type} :(l:List (DataW H))->Jx l<=Rows.uptoBulkAll l
 | []=>by simp [Jx,Rows.uptoBulkAll]
 | d::r=>by have:=MQ d;have:=AI r;simp only [Jx,Rows.uptoBulkAll];omega
end
theorem NO {H:Type} {l:List (DataW H)} (h:Rows.uptoSmall H l=true):Jx l<=1048576:=by
 have h1:=AI l;have h2:Rows.uptoBulkAll l<=1048576:=A9 h;omega
abbrev VQ (n:Int):Prop:= -9223372036854775808<=n/\n<=9223372036854775807
def eI (n:Int):PV:= .int .i64 n
def eB (b:Bool):PV:= .bool b
def eS (s:List UInt8):PV:= .str s
def eP (p:Int×Int):PV:= .agg [.int .i64 p.1,.int .i64 p.2]
@[go_sem] theorem ZmO (n:Int):eI n= .int .i64 n:=Zk rfl rfl
@[go_sem] theorem ZmM (b:Bool):eB b= .bool b:=Zk rfl rfl
@[go_sem] theorem ZmR (s:List UInt8):eS s= .str s:=Zk rfl rfl
@[go_sem] theorem ZmP (p:Int×Int):eP p= .agg [.int .i64 p.1,.int .i64 p.2]:=Zk rfl rfl
@[go_sem] theorem Zix (l:List Bool):Dt 1 (l.map eB)=true:=Av (f:=eB) (S:=1) (fun _=>rfl) l
@[go_sem] theorem Zla (l:List Bool):Bh 1 (l.map eB)=true:=Q4 fun _=>rfl
theorem DM {B xs} (h: ∀y∈xs,FitV Tryz.prog B 3 y): ∃l:List Int,xs=l.map eI/\ ∀n∈l,VQ n :=
 Wc (f:=eI) fun y hy=>by
  obtain ⟨n,rfl,w⟩:=kP Tryz.underlying3 (h y hy);exact ⟨n,rfl,Xh w⟩
theorem Rg {B xs} (h: ∀y∈xs,FitV Tryz.prog B 4 y): ∃l:List Bool,xs=l.map eB/\ ∀b∈l,True :=
 Wc (f:=eB) fun y hy=>by
  obtain ⟨b,rfl⟩:=aH Tryz.underlying4 (h y hy);exact ⟨b,rfl,trivial⟩
theorem aI {B xs} (h: ∀y∈xs,FitV Tryz.prog B 9 y): ∃l:List (List UInt8),xs=l.map eS/\ ∀s∈l,s.length<=B :=
 Wc (f:=eS) fun y hy=>by
  obtain ⟨s,rfl,w,_⟩:=kQ Tryz.underlying9 (h y hy);exact ⟨s,rfl,w⟩
theorem bY {α:Type} {l:List α} (h:l.length=2): ∃a0 a1,l= [a0,a1]:=by
 match l,h with | [a0,a1],_=>simp
theorem Zgs {α:Type} {l:List α} (h:l.length=6): ∃a0 a1 a2 a3 a4 a5,l= [a0,a1,a2,a3,a4,a5]:=by
 match l,h with | [a0,a1,a2,a3,a4,a5],_=>simp
theorem Zgo {α:Type} {l:List α} (h:l.length=14): ∃a0 a1 a2 a3 a4 a5 a6 a7 a8 a9 a10 a11 a12 a13,l= [a0,a1,a2,a3,a4,a5,a6,a7,a8,a9,a10,a11,a12,a13]:=by
 match l,h with | [a0,a1,a2,a3,a4,a5,a6,a7,a8,a9,a10,a11,a12,a13],_=>simp
theorem Zgr {α:Type} {l:List α} (h:l.length=4): ∃a0 a1 a2 a3,l= [a0,a1,a2,a3]:=by
 match l,h with | [a0,a1,a2,a3],_=>simp
theorem Zgq {α:Type} {l:List α} (h:l.length=16): ∃a0 a1 a2 a3 a4 a5 a6 a7 a8 a9 a10 a11 a12 a13 a14 a15,l= [a0,a1,a2,a3,a4,a5,a6,a7,a8,a9,a10,a11,a12,a13,a14,a15]:=by
 match l,h with | [a0,a1,a2,a3,a4,a5,a6,a7,a8,a9,a10,a11,a12,a13,a14,a15],_=>grind
structure Pt where
 t:Int
 a:Int
 deriving Inhabited
def cPt (x:Pt):List PV:= [.int .i64 x.t,.int .i64 x.a]
def FS (x:Pt):PV:= .agg [.int .i64 x.t,.int .i64 x.a]
@[go_sem] theorem ZkC (x:Pt):FS x= .agg [.int .i64 x.t,.int .i64 x.a]:=Zk rfl rfl
def Pt.wf (B:Nat) (x:Pt):Prop:=VQ x.t/\VQ x.a
theorem kS {B m cs} (h:YA Tryz.prog B m 188 cs): ∃x:Pt,cs=cPt x/\x.wf B:=by
 obtain ⟨h1,m',h2⟩:=YG eJ tF h;obtain ⟨a0,a1,rfl⟩:=bY h1;obtain ⟨n0,e0,w0⟩:=ZJ Tryz.underlying3 (h2 (0,3) Zb);obtain ⟨n1,e1,w1⟩:=ZJ Tryz.underlying3 (h2 (1,3) Zb);simp [Hc] at e0 e1;subst e0;subst e1;exact ⟨⟨n0,n1⟩,rfl,Xh w0,Xh w1⟩
theorem aG {B v} (h:FitV Tryz.prog B 188 v): ∃x:Pt,v=FS x/\x.wf B:=by
 obtain ⟨k,cs,h,e⟩:=h.out;obtain ⟨x,rfl,hw⟩:=kS h;exact ⟨x,e.trans (by rw [U5,if_pos (Wv eJ)];rfl),hw⟩
structure Arc where
 src:Int
 dst:Int
 prof:Int
 miles:Int
 travel_c:Bool
 travel:List (Pt)
 slow_c:Bool
 slow:List (Pt)
 deriving Inhabited
def Zkx (x:Arc):List PV:= [.int .i64 x.src,.int .i64 x.dst,.int .i64 x.prof,.int .i64 x.miles,.list x.travel_c (x.travel.map FS),.list x.slow_c (x.slow.map FS)]
def Wp (x:Arc):PV:= .agg [.int .i64 x.src,.int .i64 x.dst,.int .i64 x.prof,.int .i64 x.miles,.list x.travel_c (x.travel.map FS),.list x.slow_c (x.slow.map FS)]
@[go_sem] theorem ZiF (x:Arc):Wp x= .agg [.int .i64 x.src,.int .i64 x.dst,.int .i64 x.prof,.int .i64 x.miles,.list x.travel_c (x.travel.map FS),.list x.slow_c (x.slow.map FS)]:=Zk rfl rfl
def Arc.wf (B:Nat) (x:Arc):Prop:=VQ x.src/\VQ x.dst/\VQ x.prof/\VQ x.miles/\x.travel.length<=B/\(∀y∈x.travel,Pt.wf B y)/\x.slow.length<=B/\(∀y∈x.slow,Pt.wf B y)
theorem aL {B m cs} (h:YA Tryz.prog B m 129 cs): ∃x:Arc,cs=Zkx x/\x.wf B:=by
 obtain ⟨h1,m',h2⟩:=YG eE tD h;obtain ⟨a0,a1,a2,a3,a4,a5,rfl⟩:=Zgs h1;obtain ⟨n0,e0,w0⟩:=ZJ Tryz.underlying3 (h2 (0,3) Zb);obtain ⟨n1,e1,w1⟩:=ZJ Tryz.underlying3 (h2 (1,3) Zb);obtain ⟨n2,e2,w2⟩:=ZJ Tryz.underlying3 (h2 (2,3) Zb);obtain ⟨n3,e3,w3⟩:=ZJ Tryz.underlying3 (h2 (3,3) Zb);obtain ⟨y4,e4,w4,_,z4⟩:=XD Tryz.underlying127 (h2 (4,127) Zb);obtain ⟨n4,rfl,u4⟩:=Wc (f:=FS) fun y hy=>aG (z4 y hy);obtain ⟨y5,e5,w5,_,z5⟩:=XD Tryz.underlying127 (h2 (5,127) Zb)
 obtain ⟨n5,rfl,u5⟩:=Wc (f:=FS) fun y hy=>aG (z5 y hy);simp [tC,Hc] at e0 e1 e2 e3 e4 e5;subst e0;subst e1;subst e2;subst e3;subst e4;subst e5;exact ⟨⟨n0,n1,n2,n3,false,n4,false,n5⟩,rfl,Xh w0,Xh w1,Xh w2,Xh w3,by grind,u4,by grind,u5⟩
theorem kJ {B v} (h:FitV Tryz.prog B 129 v): ∃x:Arc,v=Wp x/\x.wf B:=by
 obtain ⟨k,cs,h,e⟩:=h.out;obtain ⟨x,rfl,hw⟩:=aL h;exact ⟨x,e.trans (by rw [U5,if_pos (Wv eE)];rfl),hw⟩
structure Net where
 places_c:Bool
 places:List (List UInt8)
 arcs_c:Bool
 arcs:List (Arc)
 deriving Inhabited
def Ze7 (x:Net):List PV:= [.list x.places_c (x.places.map eS),.list x.arcs_c (x.arcs.map Wp)]
def AJ (x:Net):PV:= .agg [.list x.places_c (x.places.map eS),.list x.arcs_c (x.arcs.map Wp)]
@[go_sem] theorem ZiJ (x:Net):AJ x= .agg [.list x.places_c (x.places.map eS),.list x.arcs_c (x.arcs.map Wp)]:=Zk rfl rfl
def Net.wf (B:Nat) (x:Net):Prop:=x.places.length<=B/\(∀s∈x.places,s.length<=B)/\x.arcs.length<=B/\(∀y∈x.arcs,Arc.wf B y)
theorem aN {B m cs} (h:YA Tryz.prog B m 38 cs): ∃x:Net,cs=Ze7 x/\x.wf B:=by
 obtain ⟨h1,m',h2⟩:=YG ZgR pY h;obtain ⟨a0,a1,rfl⟩:=bY h1;obtain ⟨y0,e0,w0,_,z0⟩:=XD Tryz.underlying35 (h2 (0,35) Zb);obtain ⟨n0,rfl,u0⟩:=aI z0;obtain ⟨y1,e1,w1,_,z1⟩:=XD Tryz.underlying36 (h2 (1,36) Zb);obtain ⟨n1,rfl,u1⟩:=Wc (f:=Wp) fun y hy=>kJ (z1 y hy);simp [Zfb,Zfa] at e0 e1;subst e0;subst e1;exact ⟨⟨false,n0,false,n1⟩,rfl,by grind,u0,by grind,u1⟩
structure Typ where
 name:List UInt8
 count:Int
 src:Int
 dst:Int
 cap_c:Bool
 cap:List (Int)
 skills:Int
 prof:Int
 opn:Int
 cls:Int
 drive:Int
 rest:Int
 fixed:Int
 perMile:Int
 perTick:Int
 deriving Inhabited
def ZkA (x:Typ):List PV:= [.str x.name,.int .i64 x.count,.int .i64 x.src,.int .i64 x.dst,.list x.cap_c (x.cap.map eI),.int .i64 x.skills,.int .i64 x.prof,.int .i64 x.opn,.int .i64 x.cls,.int .i64 x.drive,.int .i64 x.rest,.int .i64 x.fixed,.int .i64 x.perMile,.int .i64 x.perTick]
def Wq (x:Typ):PV:= .agg [.str x.name,.int .i64 x.count,.int .i64 x.src,.int .i64 x.dst,.list x.cap_c (x.cap.map eI),.int .i64 x.skills,.int .i64 x.prof,.int .i64 x.opn,.int .i64 x.cls,.int .i64 x.drive,.int .i64 x.rest,.int .i64 x.fixed,.int .i64 x.perMile,.int .i64 x.perTick]
@[go_sem] theorem ZiS (x:Typ):Wq x= .agg [.str x.name,.int .i64 x.count,.int .i64 x.src,.int .i64 x.dst,.list x.cap_c (x.cap.map eI),.int .i64 x.skills,.int .i64 x.prof,.int .i64 x.opn,.int .i64 x.cls,.int .i64 x.drive,.int .i64 x.rest,.int .i64 x.fixed,.int .i64 x.perMile,.int .i64 x.perTick]:=Zk rfl rfl
def Typ.wf (B:Nat) (x:Typ):Prop:=x.name.length<=B/\VQ x.count/\VQ x.src/\VQ x.dst/\x.cap.length<=B/\(∀n∈x.cap,VQ n)/\VQ x.skills/\VQ x.prof/\VQ x.opn/\VQ x.cls/\VQ x.drive/\VQ x.rest/\VQ x.fixed/\VQ x.perMile/\VQ x.perTick
theorem aR {B m cs} (h:YA Tryz.prog B m 82 cs): ∃x:Typ,cs=ZkA x/\x.wf B:=by
 obtain ⟨h1,m',h2⟩:=YG qS Zfl h;obtain ⟨a0,a1,a2,a3,a4,a5,a6,a7,a8,a9,a10,a11,a12,a13,rfl⟩:=Zgo h1;obtain ⟨n0,e0,w0,_⟩:=DN Tryz.underlying9 (h2 (0,9) Zb);obtain ⟨n1,e1,w1⟩:=ZJ Tryz.underlying3 (h2 (1,3) Zb);obtain ⟨n2,e2,w2⟩:=ZJ Tryz.underlying3 (h2 (2,3) Zb);obtain ⟨n3,e3,w3⟩:=ZJ Tryz.underlying3 (h2 (3,3) Zb);obtain ⟨y4,e4,w4,_,z4⟩:=XD Tryz.underlying31 (h2 (4,31) Zb);obtain ⟨n4,rfl,u4⟩:=DM z4;obtain ⟨n5,e5,w5⟩:=ZJ Tryz.underlying3 (h2 (5,3) Zb)
 obtain ⟨n6,e6,w6⟩:=ZJ Tryz.underlying3 (h2 (6,3) Zb);obtain ⟨n7,e7,w7⟩:=ZJ Tryz.underlying3 (h2 (7,3) Zb);obtain ⟨n8,e8,w8⟩:=ZJ Tryz.underlying3 (h2 (8,3) Zb);obtain ⟨n9,e9,w9⟩:=ZJ Tryz.underlying3 (h2 (9,3) Zb);obtain ⟨n10,e10,w10⟩:=ZJ Tryz.underlying3 (h2 (10,3) Zb);obtain ⟨n11,e11,w11⟩:=ZJ Tryz.underlying3 (h2 (11,3) Zb);obtain ⟨n12,e12,w12⟩:=ZJ Tryz.underlying3 (h2 (12,3) Zb);obtain ⟨n13,e13,w13⟩:=ZJ Tryz.underlying3 (h2 (13,3) Zb);simp [TG,Hc,Zfm] at e0 e1 e2 e3 e4 e5 e6 e7 e8 e9 e10 e11 e12 e13
 subst e0;subst e1;subst e2;subst e3;subst e4;subst e5;subst e6;subst e7;subst e8;subst e9;subst e10;subst e11;subst e12;subst e13;exact ⟨⟨n0,n1,n2,n3,false,n4,n5,n6,n7,n8,n9,n10,n11,n12,n13⟩,rfl,w0,Xh w1,Xh w2,Xh w3,by grind,u4,Xh w5,Xh w6,Xh w7,Xh w8,Xh w9,Xh w10,Xh w11,Xh w12,Xh w13⟩
theorem kN {B v} (h:FitV Tryz.prog B 82 v): ∃x:Typ,v=Wq x/\x.wf B:=by
 obtain ⟨k,cs,h,e⟩:=h.out;obtain ⟨x,rfl,hw⟩:=aR h;exact ⟨x,e.trans (by rw [U5,if_pos (Wv qS)];rfl),hw⟩
structure Stp where
 place:Int
 opn:Int
 cls:Int
 serv:Int
 deriving Inhabited
def sZ (x:Stp):List PV:= [.int .i64 x.place,.int .i64 x.opn,.int .i64 x.cls,.int .i64 x.serv]
def Hj (x:Stp):PV:= .agg [.int .i64 x.place,.int .i64 x.opn,.int .i64 x.cls,.int .i64 x.serv]
@[go_sem] theorem ZiP (x:Stp):Hj x= .agg [.int .i64 x.place,.int .i64 x.opn,.int .i64 x.cls,.int .i64 x.serv]:=Zk rfl rfl
def Stp.wf (B:Nat) (x:Stp):Prop:=VQ x.place/\VQ x.opn/\VQ x.cls/\VQ x.serv
theorem I6 {B m cs} (h:YA Tryz.prog B m 57 cs): ∃x:Stp,cs=sZ x/\x.wf B:=by
 obtain ⟨h1,m',h2⟩:=YG ZgT qA h;obtain ⟨a0,a1,a2,a3,rfl⟩:=Zgr h1;obtain ⟨n0,e0,w0⟩:=ZJ Tryz.underlying3 (h2 (0,3) Zb);obtain ⟨n1,e1,w1⟩:=ZJ Tryz.underlying3 (h2 (1,3) Zb);obtain ⟨n2,e2,w2⟩:=ZJ Tryz.underlying3 (h2 (2,3) Zb);obtain ⟨n3,e3,w3⟩:=ZJ Tryz.underlying3 (h2 (3,3) Zb);simp [Hc] at e0 e1 e2 e3;subst e0;subst e1;subst e2;subst e3;exact ⟨⟨n0,n1,n2,n3⟩,rfl,Xh w0,Xh w1,Xh w2,Xh w3⟩
theorem qC {B v} (h:FitV Tryz.prog B 132 v): ∃x:Int×Int,v=eP x/\VQ x.1/\VQ x.2:=by
 obtain ⟨k,cs,h,e⟩:=h.out;obtain ⟨h1,m',h2⟩:=YG eG tE h;obtain ⟨a,b,rfl⟩:=bY h1;obtain ⟨n0,e0,w0⟩:=ZJ Tryz.underlying3 (h2 (0,3) Zb);obtain ⟨n1,e1,w1⟩:=ZJ Tryz.underlying3 (h2 (1,3) Zb);simp [Hc] at e0 e1;subst e0;subst e1;exact ⟨(n0,n1),e.trans (by rw [U5,if_pos (Wv eG)];rfl),Xh w0,Xh w1⟩
structure Ord where
 name:List UInt8
 load_c:Bool
 load:List (Int)
 pick:Stp
 drp:Stp
 skills:Int
 penalty:Int
 split:Int
 last:Int
 now:Int
 off:Bool
 deriving Inhabited
def Zky (x:Ord):List PV:= [.str x.name,.list x.load_c (x.load.map eI),.int .i64 x.pick.place,.int .i64 x.pick.opn,.int .i64 x.pick.cls,.int .i64 x.pick.serv,.int .i64 x.drp.place,.int .i64 x.drp.opn,.int .i64 x.drp.cls,.int .i64 x.drp.serv,.int .i64 x.skills,.int .i64 x.penalty,.int .i64 x.split,.int .i64 x.last,.int .i64 x.now,.bool x.off]
def eOrd (x:Ord):PV:= .agg [.str x.name,.list x.load_c (x.load.map eI),.int .i64 x.pick.place,.int .i64 x.pick.opn,.int .i64 x.pick.cls,.int .i64 x.pick.serv,.int .i64 x.drp.place,.int .i64 x.drp.opn,.int .i64 x.drp.cls,.int .i64 x.drp.serv,.int .i64 x.skills,.int .i64 x.penalty,.int .i64 x.split,.int .i64 x.last,.int .i64 x.now,.bool x.off]
@[go_sem] theorem CV (x:Ord):eOrd x= .agg [.str x.name,.list x.load_c (x.load.map eI),.int .i64 x.pick.place,.int .i64 x.pick.opn,.int .i64 x.pick.cls,.int .i64 x.pick.serv,.int .i64 x.drp.place,.int .i64 x.drp.opn,.int .i64 x.drp.cls,.int .i64 x.drp.serv,.int .i64 x.skills,.int .i64 x.penalty,.int .i64 x.split,.int .i64 x.last,.int .i64 x.now,.bool x.off]:=Zk rfl rfl
@[go_sem] theorem ZgH (l:List Ord):Bh 16 (l.map eOrd)=true:=Q4 fun _=>rfl
def Ord.wf (B:Nat) (x:Ord):Prop:=x.name.length<=B/\x.load.length<=B/\(∀n∈x.load,VQ n)/\Stp.wf B x.pick/\Stp.wf B x.drp/\VQ x.skills/\VQ x.penalty/\VQ x.split/\VQ x.last/\VQ x.now
theorem aO {B m cs} (h:YA Tryz.prog B m 59 cs): ∃x:Ord,cs=Zky x/\x.wf B:=by
 obtain ⟨h1,m',h2⟩:=YG qQ Zfj h;obtain ⟨a0,a1,a2,a3,a4,a5,a6,a7,a8,a9,a10,a11,a12,a13,a14,a15,rfl⟩:=Zgq h1;obtain ⟨n0,e0,w0,_⟩:=DN Tryz.underlying9 (h2 (0,9) Zb);obtain ⟨y1,e1,w1,_,z1⟩:=XD Tryz.underlying31 (h2 (1,31) Zb);obtain ⟨n1,rfl,u1⟩:=DM z1;obtain ⟨n2,e2,w2⟩:=I6 (h2 (2,57) Zb);obtain ⟨n3,e3,w3⟩:=I6 (h2 (6,57) Zb);obtain ⟨n4,e4,w4⟩:=ZJ Tryz.underlying3 (h2 (10,3) Zb);obtain ⟨n5,e5,w5⟩:=ZJ Tryz.underlying3 (h2 (11,3) Zb);obtain ⟨n6,e6,w6⟩:=ZJ Tryz.underlying3 (h2 (12,3) Zb)
 obtain ⟨n7,e7,w7⟩:=ZJ Tryz.underlying3 (h2 (13,3) Zb);obtain ⟨n8,e8,w8⟩:=ZJ Tryz.underlying3 (h2 (14,3) Zb);obtain ⟨n9,e9⟩:=BZ Tryz.underlying4 (h2 (15,4) Zb);simp [TG,qA,Zfd,Hc,Zfm,sZ,sZ] at e0 e1 e2 e3 e4 e5 e6 e7 e8 e9;subst e0;subst e1;obtain ⟨rfl,rfl,rfl,rfl⟩:=e2;obtain ⟨rfl,rfl,rfl,rfl⟩:=e3;subst e4;subst e5;subst e6;subst e7;subst e8;subst e9;exact ⟨⟨n0,false,n1,n2,n3,n4,n5,n6,n7,n8,n9⟩,rfl,w0,by grind,u1,w2,w3,Xh w4,Xh w5,Xh w6,Xh w7,Xh w8⟩
theorem kL {B v} (h:FitV Tryz.prog B 59 v): ∃x:Ord,v=eOrd x/\x.wf B:=by
 obtain ⟨k,cs,h,e⟩:=h.out;obtain ⟨x,rfl,hw⟩:=aO h;exact ⟨x,e.trans (by rw [U5,if_pos (Wv qQ)];rfl),hw⟩
structure Inst where
 net:Net
 types_c:Bool
 types:List (Typ)
 orders_c:Bool
 orders:List (Ord)
 apart_c:Bool
 apart:List (Int×Int)
 before_c:Bool
 before:List (Int×Int)
 deriving Inhabited
def TE (x:Inst):List PV:= [.list x.net.places_c (x.net.places.map eS),.list x.net.arcs_c (x.net.arcs.map Wp),.list x.types_c (x.types.map Wq),.list x.orders_c (x.orders.map eOrd),.list x.apart_c (x.apart.map eP),.list x.before_c (x.before.map eP)]
def ZF (x:Inst):PV:= .agg [.list x.net.places_c (x.net.places.map eS),.list x.net.arcs_c (x.net.arcs.map Wp),.list x.types_c (x.types.map Wq),.list x.orders_c (x.orders.map eOrd),.list x.apart_c (x.apart.map eP),.list x.before_c (x.before.map eP)]
@[go_sem] theorem Zfp (x:Inst):ZF x= .agg [.list x.net.places_c (x.net.places.map eS),.list x.net.arcs_c (x.net.arcs.map Wp),.list x.types_c (x.types.map Wq),.list x.orders_c (x.orders.map eOrd),.list x.apart_c (x.apart.map eP),.list x.before_c (x.before.map eP)]:=Zk rfl rfl
def Inst.wf (B:Nat) (x:Inst):Prop:=Net.wf B x.net/\x.types.length<=B/\(∀y∈x.types,Typ.wf B y)/\x.orders.length<=B/\(∀y∈x.orders,Ord.wf B y)/\x.apart.length<=B/\(∀p∈x.apart,VQ p.1/\VQ p.2)/\x.before.length<=B/\(∀p∈x.before,VQ p.1/\VQ p.2)
theorem FW {B m cs} (h:YA Tryz.prog B m 43 cs): ∃x:Inst,cs=TE x/\x.wf B:=by
 obtain ⟨h1,m',h2⟩:=YG ZgS pZ h;obtain ⟨a0,a1,a2,a3,a4,a5,rfl⟩:=Zgs h1;obtain ⟨n0,e0,w0⟩:=aN (h2 (0,38) Zb);obtain ⟨y1,e1,w1,_,z1⟩:=XD Tryz.underlying39 (h2 (2,39) Zb);obtain ⟨n1,rfl,u1⟩:=Wc (f:=Wq) fun y hy=>kN (z1 y hy);obtain ⟨y2,e2,w2,_,z2⟩:=XD Tryz.underlying40 (h2 (3,40) Zb);obtain ⟨n2,rfl,u2⟩:=Wc (f:=eOrd) fun y hy=>kL (z2 y hy);obtain ⟨y3,e3,w3,_,z3⟩:=XD Tryz.underlying41 (h2 (4,41) Zb);obtain ⟨n3,rfl,u3⟩:=Wc (f:=eP) fun y hy=>qC (z3 y hy)
 obtain ⟨y4,e4,w4,_,z4⟩:=XD Tryz.underlying41 (h2 (5,41) Zb);obtain ⟨n4,rfl,u4⟩:=Wc (f:=eP) fun y hy=>qC (z4 y hy);simp [Zff,Zfe,Zfc,pY,Ze7] at e0 e1 e2 e3 e4;obtain ⟨rfl,rfl⟩:=e0;subst e1;subst e2;subst e3;subst e4;exact ⟨⟨n0,false,n1,false,n2,false,n3,false,n4⟩,rfl,w0,by grind,u1,by grind,u2,by grind,u3,by grind,u4⟩
structure Vis where
 order:Int
 drp:Bool
 deriving Inhabited
def ZkB (x:Vis):List PV:= [.int .i64 x.order,.bool x.drp]
def ZX (x:Vis):PV:= .agg [.int .i64 x.order,.bool x.drp]
@[go_sem] theorem Oo (x:Vis):ZX x= .agg [.int .i64 x.order,.bool x.drp]:=Zk rfl rfl
@[go_sem] theorem ZbG (l:List Vis):Dt 2 (l.map ZX)=true:=Av (f:=ZX) (S:=2) (fun _=>rfl) l
@[go_sem] theorem ZgK (l:List Vis):Bh 2 (l.map ZX)=true:=Q4 fun _=>rfl
def Vis.wf (B:Nat) (x:Vis):Prop:=VQ x.order
theorem aS {B m cs} (h:YA Tryz.prog B m 126 cs): ∃x:Vis,cs=ZkB x/\x.wf B:=by
 obtain ⟨h1,m',h2⟩:=YG eD tB h;obtain ⟨a0,a1,rfl⟩:=bY h1;obtain ⟨n0,e0,w0⟩:=ZJ Tryz.underlying3 (h2 (0,3) Zb);obtain ⟨n1,e1⟩:=BZ Tryz.underlying4 (h2 (1,4) Zb);simp [Zfd,Hc] at e0 e1;subst e0;subst e1;exact ⟨⟨n0,n1⟩,rfl,Xh w0⟩
theorem kO {B v} (h:FitV Tryz.prog B 126 v): ∃x:Vis,v=ZX x/\x.wf B:=by
 obtain ⟨k,cs,h,e⟩:=h.out;obtain ⟨x,rfl,hw⟩:=aS h;exact ⟨x,e.trans (by rw [U5,if_pos (Wv eD)];rfl),hw⟩
structure Rte where
 typ:Int
 start:Int
 rests_c:Bool
 rests:List (Bool)
 visits_c:Bool
 visits:List (Vis)
 deriving Inhabited
def Zkz (x:Rte):List PV:= [.int .i64 x.typ,.int .i64 x.start,.list x.rests_c (x.rests.map eB),.list x.visits_c (x.visits.map ZX)]
def Z0 (x:Rte):PV:= .agg [.int .i64 x.typ,.int .i64 x.start,.list x.rests_c (x.rests.map eB),.list x.visits_c (x.visits.map ZX)]
@[go_sem] theorem ZiL (x:Rte):Z0 x= .agg [.int .i64 x.typ,.int .i64 x.start,.list x.rests_c (x.rests.map eB),.list x.visits_c (x.visits.map ZX)]:=Zk rfl rfl
@[go_sem] theorem ZbF (l:List Rte):Dt 4 (l.map Z0)=true:=Av (f:=Z0) (S:=4) (fun _=>rfl) l
@[go_sem] theorem ZgI (l:List Rte):Bh 4 (l.map Z0)=true:=Q4 fun _=>rfl
def Rte.wf (B:Nat) (x:Rte):Prop:=VQ x.typ/\VQ x.start/\x.rests.length<=B/\(∀b∈x.rests,True)/\x.visits.length<=B/\(∀y∈x.visits,Vis.wf B y)
theorem aQ {B m cs} (h:YA Tryz.prog B m 49 cs): ∃x:Rte,cs=Zkz x/\x.wf B:=by
 obtain ⟨h1,m',h2⟩:=YG qP Zfi h;obtain ⟨a0,a1,a2,a3,rfl⟩:=Zgr h1;obtain ⟨n0,e0,w0⟩:=ZJ Tryz.underlying3 (h2 (0,3) Zb);obtain ⟨n1,e1,w1⟩:=ZJ Tryz.underlying3 (h2 (1,3) Zb);obtain ⟨y2,e2,w2,_,z2⟩:=XD Tryz.underlying46 (h2 (2,46) Zb);obtain ⟨n2,rfl,u2⟩:=Rg z2;obtain ⟨y3,e3,w3,_,z3⟩:=XD Tryz.underlying47 (h2 (3,47) Zb);obtain ⟨n3,rfl,u3⟩:=Wc (f:=ZX) fun y hy=>kO (z3 y hy);simp [Zfh,Zfg,Hc] at e0 e1 e2 e3;subst e0;subst e1;subst e2;subst e3;exact ⟨⟨n0,n1,false,n2,false,n3⟩,rfl,Xh w0,Xh w1,by grind,u2,by grind,u3⟩
theorem kM {B v} (h:FitV Tryz.prog B 49 v): ∃x:Rte,v=Z0 x/\x.wf B:=by
 obtain ⟨k,cs,h,e⟩:=h.out;obtain ⟨x,rfl,hw⟩:=aQ h;exact ⟨x,e.trans (by rw [U5,if_pos (Wv qP)];rfl),hw⟩
structure Tim where
 arr:Int
 beg:Int
 dep:Int
 rest:Bool
 deriving Inhabited
def eTim (x:Tim):PV:= .agg [.int .i64 x.arr,.int .i64 x.beg,.int .i64 x.dep,.bool x.rest]
@[go_sem] theorem ZiQ (x:Tim):eTim x= .agg [.int .i64 x.arr,.int .i64 x.beg,.int .i64 x.dep,.bool x.rest]:=Zk rfl rfl
@[go_sem] theorem ZgJ (l:List Tim):Bh 4 (l.map eTim)=true:=Q4 fun _=>rfl
structure She where
 rest:Bool
 dep:Int
 times_c:Bool
 times:List (Tim)
 fin:Int
 miles:Int
 deriving Inhabited
def AK (x:She):PV:= .agg [.bool x.rest,.int .i64 x.dep,.list x.times_c (x.times.map eTim),.int .i64 x.fin,.int .i64 x.miles]
@[go_sem] theorem ZiN (x:She):AK x= .agg [.bool x.rest,.int .i64 x.dep,.list x.times_c (x.times.map eTim),.int .i64 x.fin,.int .i64 x.miles]:=Zk rfl rfl
structure Sco where
 cost:Int
 moved:Int
 other:Int
 work:Int
 deriving Inhabited
def Hi (x:Sco):PV:= .agg [.int .i64 x.cost,.int .i64 x.moved,.int .i64 x.other,.int .i64 x.work]
@[go_sem] theorem ZiM (x:Sco):Hi x= .agg [.int .i64 x.cost,.int .i64 x.moved,.int .i64 x.other,.int .i64 x.work]:=Zk rfl rfl
structure Pln where
 routes_c:Bool
 routes:List (Rte)
 unserved_c:Bool
 unserved:List (Int)
 deriving Inhabited
def Ze8 (x:Pln):List PV:= [.list x.routes_c (x.routes.map Z0),.list x.unserved_c (x.unserved.map eI)]
def Vk (x:Pln):PV:= .agg [.list x.routes_c (x.routes.map Z0),.list x.unserved_c (x.unserved.map eI)]
@[go_sem] theorem ZiK (x:Pln):Vk x= .agg [.list x.routes_c (x.routes.map Z0),.list x.unserved_c (x.unserved.map eI)]:=Zk rfl rfl
def Pln.wf (B:Nat) (x:Pln):Prop:=x.routes.length<=B/\(∀y∈x.routes,Rte.wf B y)/\x.unserved.length<=B/\(∀n∈x.unserved,VQ n)
theorem aP {B m cs} (h:YA Tryz.prog B m 33 cs): ∃x:Pln,cs=Ze8 x/\x.wf B:=by
 obtain ⟨h1,m',h2⟩:=YG ZgQ pX h;obtain ⟨a0,a1,rfl⟩:=bY h1;obtain ⟨y0,e0,w0,_,z0⟩:=XD Tryz.underlying30 (h2 (0,30) Zb);obtain ⟨n0,rfl,u0⟩:=Wc (f:=Z0) fun y hy=>kM (z0 y hy);obtain ⟨y1,e1,w1,_,z1⟩:=XD Tryz.underlying31 (h2 (1,31) Zb);obtain ⟨n1,rfl,u1⟩:=DM z1;simp [Ze9,TG] at e0 e1;subst e0;subst e1;exact ⟨⟨false,n0,false,n1⟩,rfl,by grind,u0,by grind,u1⟩
structure Col where
 typ:Int
 set:Int
 price:Int
 route:Rte
 deriving Inhabited
def sY (x:Col):List PV:= [.int .i64 x.typ,.int .i64 x.set,.int .i64 x.price,.int .i64 x.route.typ,.int .i64 x.route.start,.list x.route.rests_c (x.route.rests.map eB),.list x.route.visits_c (x.route.visits.map ZX)]
def X5 (x:Col):PV:= .agg [.int .i64 x.typ,.int .i64 x.set,.int .i64 x.price,.int .i64 x.route.typ,.int .i64 x.route.start,.list x.route.rests_c (x.route.rests.map eB),.list x.route.visits_c (x.route.visits.map ZX)]
@[go_sem] theorem ZiH (x:Col):X5 x= .agg [.int .i64 x.typ,.int .i64 x.set,.int .i64 x.price,.int .i64 x.route.typ,.int .i64 x.route.start,.list x.route.rests_c (x.route.rests.map eB),.list x.route.visits_c (x.route.visits.map ZX)]:=Zk rfl rfl
@[go_sem] theorem ZgG (l:List Col):Bh 7 (l.map X5)=true:=Q4 fun _=>rfl
structure Cas where
 x:Inst
 p:Pln
 now:Int
 y:Inst
 deriving Inhabited
def jL (x:Cas):List PV:= [.list x.x.net.places_c (x.x.net.places.map eS),.list x.x.net.arcs_c (x.x.net.arcs.map Wp),.list x.x.types_c (x.x.types.map Wq),.list x.x.orders_c (x.x.orders.map eOrd),.list x.x.apart_c (x.x.apart.map eP),.list x.x.before_c (x.x.before.map eP),.list x.p.routes_c (x.p.routes.map Z0),.list x.p.unserved_c (x.p.unserved.map eI),.int .i64 x.now,.list x.y.net.places_c (x.y.net.places.map eS),.list x.y.net.arcs_c (x.y.net.arcs.map Wp),.list x.y.types_c (x.y.types.map Wq),.list x.y.orders_c (x.y.orders.map eOrd),.list x.y.apart_c (x.y.apart.map eP),.list x.y.before_c (x.y.before.map eP)]
def kD (x:Cas):PV:= .agg [.list x.x.net.places_c (x.x.net.places.map eS),.list x.x.net.arcs_c (x.x.net.arcs.map Wp),.list x.x.types_c (x.x.types.map Wq),.list x.x.orders_c (x.x.orders.map eOrd),.list x.x.apart_c (x.x.apart.map eP),.list x.x.before_c (x.x.before.map eP),.list x.p.routes_c (x.p.routes.map Z0),.list x.p.unserved_c (x.p.unserved.map eI),.int .i64 x.now,.list x.y.net.places_c (x.y.net.places.map eS),.list x.y.net.arcs_c (x.y.net.arcs.map Wp),.list x.y.types_c (x.y.types.map Wq),.list x.y.orders_c (x.y.orders.map eOrd),.list x.y.apart_c (x.y.apart.map eP),.list x.y.before_c (x.y.before.map eP)]
@[go_sem] theorem ZiG (x:Cas):kD x= .agg [.list x.x.net.places_c (x.x.net.places.map eS),.list x.x.net.arcs_c (x.x.net.arcs.map Wp),.list x.x.types_c (x.x.types.map Wq),.list x.x.orders_c (x.x.orders.map eOrd),.list x.x.apart_c (x.x.apart.map eP),.list x.x.before_c (x.x.before.map eP),.list x.p.routes_c (x.p.routes.map Z0),.list x.p.unserved_c (x.p.unserved.map eI),.int .i64 x.now,.list x.y.net.places_c (x.y.net.places.map eS),.list x.y.net.arcs_c (x.y.net.arcs.map Wp),.list x.y.types_c (x.y.types.map Wq),.list x.y.orders_c (x.y.orders.map eOrd),.list x.y.apart_c (x.y.apart.map eP),.list x.y.before_c (x.y.before.map eP)]:=Zk rfl rfl
def Cas.wf (B:Nat) (x:Cas):Prop:=Inst.wf B x.x/\Pln.wf B x.p/\VQ x.now/\Inst.wf B x.y
theorem Zgp {α:Type} {l:List α} (h:l.length=15): ∃a0 a1 a2 a3 a4 a5 a6 a7 a8 a9 a10 a11 a12 a13 a14,l= [a0,a1,a2,a3,a4,a5,a6,a7,a8,a9,a10,a11,a12,a13,a14]:=by
 match l,h with | [a0,a1,a2,a3,a4,a5,a6,a7,a8,a9,a10,a11,a12,a13,a14],_=>grind
theorem aM {B m cs} (h:YA Tryz.prog B m 63 cs): ∃x:Cas,cs=jL x/\x.wf B:=by
 obtain ⟨h1,m',h2⟩:=YG qR Zfk h;obtain ⟨a0,a1,a2,a3,a4,a5,a6,a7,a8,a9,a10,a11,a12,a13,a14,rfl⟩:=Zgp h1;obtain ⟨n0,e0,w0⟩:=FW (h2 (0,43) Zb);obtain ⟨n1,e1,w1⟩:=aP (h2 (6,33) Zb);obtain ⟨n2,e2,w2⟩:=ZJ Tryz.underlying3 (h2 (8,3) Zb);obtain ⟨n3,e3,w3⟩:=FW (h2 (9,43) Zb);simp [pZ,pX,Hc,TE,Ze8,TE] at e0 e1 e2 e3;obtain ⟨rfl,rfl,rfl,rfl,rfl,rfl⟩:=e0;obtain ⟨rfl,rfl⟩:=e1;subst e2;obtain ⟨rfl,rfl,rfl,rfl,rfl,rfl⟩:=e3;exact ⟨⟨n0,n1,n2,n3⟩,rfl,w0,w1,Xh w2,w3⟩
theorem kK {B v} (h:FitV Tryz.prog B 63 v): ∃x:Cas,v=kD x/\x.wf B:=by
 obtain ⟨k,cs,h,e⟩:=h.out;obtain ⟨x,rfl,hw⟩:=aM h;exact ⟨x,e.trans (by rw [U5,if_pos (Wv qR)];rfl),hw⟩
theorem own : ownKnob Tryz.prog.godebug=none:=Ze
theorem lB : laidOutB Tryz.prog=true:=Ze
abbrev Flt := Int×List UInt8
def eF (f:Flt):PV:= .agg [.int .i64 f.1,.str f.2]
@[go_sem] theorem ZmN (f:Flt):eF f= .agg [.int .i64 f.1,.str f.2]:=Zk rfl rfl
@[go_sem] theorem Zlb (l:List Flt):Bh 2 (l.map eF)=true:=Q4 fun _=>rfl
def dec (n:Nat):List UInt8:=if h:n<10 then [UInt8.ofNat (48+n)] else dec (n / 10)++ [UInt8.ofNat (48+n%10)]
termination_by n
decreasing_by omega
theorem Oj : ∀(k n:Nat),n<k->(dec n).length<=n+1:=by
 intro k
 induction k with
 | zero=>omega
 | succ k ih =>
  grind [dec]
theorem K9 : ∀(d n:Nat),n<10^(d+1)->(dec n).length<=d+1:=by
 intro d
 induction d with
 | zero=>simp_all [dec]
 | succ d ih =>
  grind [dec]
def KL (n:Int):List UInt8:=if n<0 then 45::dec n.natAbs else dec n.natAbs
theorem Qd (n:Int) (h:VQ n):(KL n).length<=20:=by
 have h1:n.natAbs<10^(18+1):=Za
 have:=K9 18 n.natAbs h1
 grind [KL]
structure FR {α:Type} (p:α->Prop) (C:Prop) (b:Nat) (l:List α):Prop where
 len:l.length<=b
 emp:l= []↔C
 all: ∀x∈l,p x
theorem FR.nil {α:Type} {p:α->Prop} {C:Prop} {b:Nat} (h:C):FR p C b []:=⟨Zb,by simp [h],Zb⟩
theorem FR.no {α:Type} {p:α->Prop} {C c:Prop} {b:Nat} {l:List α} (h:FR p C b l) (hc:c):FR p (C/\c) (b+1) l:=⟨by have:=h.len;omega,by rw [h.emp];simp [hc],h.all⟩
theorem FR.yes {α:Type} {p:α->Prop} {C c:Prop} {b:Nat} {l:List α} {x:α} (h:FR p C b l) (hc: ¬c) (hx:p x):FR p (C/\c) (b+1) (l++ [x]) :=
 ⟨by have:=h.len;simp;omega,by simp [hc],fun y hy=>by
  rcases Xr.1 hy with hy | hy
  ·exact h.all y hy
  grind⟩
theorem FR.app {α:Type} {p:α->Prop} {C D:Prop} {b d:Nat} {l m:List α} (h:FR p C b l) (k:FR p D d m):FR p (C/\D) (b+d) (l++m) :=
 ⟨by have:=h.len;have:=k.len;simp;omega,by rw [U0,h.emp,k.emp],fun y hy=>by
  rcases Xr.1 hy with hy | hy
  ·exact h.all y hy
  ·exact k.all y hy⟩
theorem FR.to {α:Type} {p:α->Prop} {C D:Prop} {b d:Nat} {l:List α} (h:FR p C b l) (hb:b<=d) (hc:C↔D):FR p D d l:=⟨Nat.le_trans h.len hb,h.emp.trans hc,h.all⟩
theorem Zn {p:Nat->Prop} {k:Nat} :(∀j,j<k+1->p j)↔((∀j,j<k->p j)/\p k) :=
 ⟨fun h=>⟨fun j hj=>h j Za,h k Za⟩,fun h j hj=>by
  grind⟩
def QP (c:UInt8):Bool:=decide (48<=c.toNat/\c.toNat<=57)
def Qh (c:UInt8):Bool:=decide (97<=c.toNat/\c.toNat<=122)||decide (65<=c.toNat/\c.toNat<=90)||decide (c.toNat=95)
def nameOk (s:List UInt8):Bool:=decide (1<=s.length)&&decide (s.length<=16)&& !QP (nth s 0)&&s.all fun c=>Qh c||QP c
def rng (n lo hi:Int):Bool:=decide (lo<=n/\n<=hi)
def HZ (n:Int):Bool:=rng n 0 4096
def eV (l:List Pt) (i:Nat):Prop:=(0<=(nth l i).t/\(nth l i).t<=4096/\(nth l i).t<=(nth l i).a/\(nth l i).a<=(nth l i).t+4096)/\(0<i->(nth l (i-1)).t<(nth l i).t/\(nth l (i-1)).a<=(nth l i).a)
def Ww (l:List Pt):Prop:=(1<=l.length/\l.length<=16)/\ ∀i,i<l.length->eV l i
def JW (l:List Pt) (i:Nat):Prop:=HZ (nth l i).t=true/\HZ (nth l i).a=true/\(0<i->(nth l (i-1)).t<(nth l i).t)
def It (n:Net) (i:Nat):Prop :=
 ((((((0<=(nth n.arcs i).src/\(nth n.arcs i).src<n.places.length/\0<=(nth n.arcs i).dst/\(nth n.arcs i).dst<n.places.length) /\
 (0<=(nth n.arcs i).prof/\(nth n.arcs i).prof<=7/\0<=(nth n.arcs i).miles/\(nth n.arcs i).miles<=10000/\(nth n.arcs i).src≠(nth n.arcs i).dst)) /\
 (∀k,k<i-> ¬((nth n.arcs i).src=(nth n.arcs k).src/\(nth n.arcs i).dst=(nth n.arcs k).dst/\(nth n.arcs i).prof=(nth n.arcs k).prof))) /\
 Ww (nth n.arcs i).travel)/\(nth n.arcs i).slow.length<=16)/\ ∀k,k<(nth n.arcs i).slow.length->JW (nth n.arcs i).slow k)
def Nr (n:Net) (i:Nat):Prop:=nameOk (nth n.places i)=true/\ ∀k,k<i->nth n.places k≠nth n.places i
def JQ (n:Net):Prop:=n.places.length<=24/\ ∀i,i<n.places.length->Nr n i
def netOk (n:Net):Prop:=(JQ n/\n.arcs.length<=1024)/\ ∀i,i<n.arcs.length->It n i
set_option maxRecDepth 8000
set_option maxHeartbeats 4000000
theorem On (c:UInt8):PC 274 [.p (.int .u8 (c.toNat:Nat))] (.bool (QP c)):=by
 refine Zd Tryz.func274 rfl yH ?_;simp (disch:=omega) only [Tryz.f274,go_sem,seval];refine gT ?_ ?_<;>intro h<;>simp (disch:=omega) only [Sh.out h,go_sem,seval,↓reduceIte]
 all_goals (simp [QP];first | done | omega | grind)
theorem bZ (c:UInt8):PC 275 [.p (.int .u8 (c.toNat:Nat))] (.bool (Qh c)):=by
 refine Zd Tryz.func275 rfl yI ?_;simp (disch:=omega) only [Tryz.f275,go_sem,seval]
 repeat' (first | (refine gT ?_ ?_<;>intro hq<;>simp (disch:=omega) only [Sh.out hq,go_sem,seval,↓reduceIte]) | (refine gF ?_ ?_<;>intro hq<;>simp (disch:=omega) only [Sh.out hq,go_sem,seval,↓reduceIte]) | (refine QD (fun hq=> ?_) (fun hq=> ?_)<;>(try simp only [Zp,Yc,XF] at hq)<;>simp (disch:=omega) only [Sh.out hq,go_sem,seval]))
 all_goals (simp [Qh];first | done | omega | (rw [Yp];simp;omega))
theorem Ng (s:List UInt8) (hs:s.length<=1048576):PC 226 [.p (.str s)] (.bool (nameOk s)):=by
 refine Zd Tryz.func226 rfl xA ?_;simp (disch:=omega) only [Tryz.f226,go_sem,seval];refine gF ?_ ?_<;>intro h<;>simp (disch:=omega) only [Sh.out h,go_sem,seval,↓reduceIte]
 ·grind [nameOk]
 ·refine gF ?_ ?_<;>intro h2<;>simp (disch:=omega) only [Sh.out h2,go_sem,seval]
  ·grind [nameOk]
  ·have g1:1<=s.length:=Za
   have g2:s.length<=16:=Za
   refine (On (nth s 0)).use (Zc ?_);refine cD ?_ ?_<;>intro h3<;>simp (disch:=omega) only [Sh.out h3,go_sem,seval]
   ·simp [nameOk,h3]
   ·refine Zl [0] (fun k:Nat=> [(3,.p (.int .i64 k))]) (fun _=> []) (fun k=>k<=s.length/\ ∀j,j<k->(Qh (nth s j)||QP (nth s j))=true) (fun k=>s.length-k) 0 Zb (Weak.mk ?_) ?_
    ·simp (disch:=omega) only [go_sem,seval,↓reduceIte]
    ·rintro k ⟨hk,hno⟩;refine Zc ?_
     have X9: ∀j,j<s.length->(Qh (nth s j)||QP (nth s j))=false->nameOk s=false:=fun j hj e=>by
      grind [Zh,nameOk]
     refine cD ?_ ?_<;>intro h4<;>simp (disch:=omega) only [Sh.out h4,go_sem,seval,↓reduceIte]
     ·have hk2:k<s.length:=Za
      refine (bZ (nth s k)).use (Zc ?_);refine gT ?_ ?_<;>intro h5<;>simp (disch:=omega) only [Sh.out h5,go_sem,seval,↓reduceIte]
      ·refine (On (nth s k)).use (Zc ?_);refine cD ?_ ?_<;>intro h6<;>simp (disch:=omega) only [Sh.out h6,go_sem,seval,↓reduceIte]
       ·grind
       ·simp only [XA] at h6;exact ⟨k+1,⟨Za,Zn.2 ⟨hno,by simp [h6]⟩⟩,Za,wk⟩
      ·simp only [XA] at h5;exact ⟨k+1,⟨Za,Zn.2 ⟨hno,by simp [h5]⟩⟩,Za,wk⟩
     ·have:s.all (fun c=>Qh c||QP c)=true:=by
       rw [Zu];intro c hc;obtain ⟨j,hj,rfl⟩:=ZW.1 hc
       grind [Zh]
      grind [nameOk]
theorem Kf (n:Int) (hn:VQ n):PC 174 [.p (.int .i64 n)] (.str (KL n)):=by
 refine Zd Tryz.func174 rfl wD ?_;simp (disch:=omega) only [Tryz.f174,go_sem,seval]
 have h19:n.natAbs<10^(18+1):=Za
 have hdl:=K9 18 n.natAbs h19
 refine ZT [7] [0] (fun q:Int×List UInt8×Bool=> [(3,.p (.str q.2.1)),(4,.p (.int .i64 q.1)),(5,.p (.bool q.2.2))]) (fun _=> [])
  (fun q=>VQ q.1/\(q.2.2=true->dec q.1.natAbs++q.2.1=dec n.natAbs)/\(q.2.2=false->q.2.1=dec n.natAbs)) (fun q=>if q.2.2 then q.1.natAbs+1 else 0) (n,[],true) (by simp;omega) (Weak.mk ?_) ?_
 ·simp (disch:=omega) only [go_sem,seval,↓reduceIte]
 ·rintro ⟨m,s,again⟩ ⟨hm,h1,h2⟩;simp only at hm h1 h2;refine Zc ?_
  cases again with
  | false =>
   refine Zc ?_;have h2:=h2 rfl
   have hl2:([45]:List UInt8).length+(dec n.natAbs).length<=9223372036854775807:=by simp;omega
   refine cD ?_ ?_<;>intro h3<;>simp (disch:=omega) only [Sh.out h3,go_sem,seval]
   ·simp (disch:=omega) only [KL,h2,h3,fK hl2,go_sem,seval,↓reduceIte]
   ·simp (disch:=omega) only [KL,h2,h3,go_sem,seval,↓reduceIte]
  | true =>
   have h1:=h1 rfl
   have hls:(dec m.natAbs).length+s.length=(dec n.natAbs).length:=by grind
   refine Zc ?_
   have e1:(m.tmod 10).natAbs=m.natAbs%10:=Zb
   have e2:(m.tdiv 10).natAbs=m.natAbs / 10:=by grind
   have e3:m.tmod 10<10/\ -10<m.tmod 10:=⟨Int.tmod_lt_of_pos _ (by decide),Za⟩;refine ZC [0,3,4] (fun _:Unit=> [(6,.p (.int .i64 ((m.natAbs%10:Nat):Int)))]) (fun _=> []) (fun _=>True) ?_ ?_
   ·refine Zc ?_;refine cD ?_ ?_<;>intro h3<;>simp (disch:=omega) only [Sh.out h3,go_sem,seval,↓reduceIte]
    ·exact ⟨(),Weak.mk (by refine Zc ?_;simp;omega)⟩
    ·exact ⟨(),Weak.mk (by refine Zc ?_;simp;omega)⟩
   ·intro _ _;refine Zf [] _ _ _ _ ?_;simp (disch:=first | omega | (simp only [Zz,ZA,ZI,ZM,ZY,Xf]<;>omega)) only [go_sem,seval,↓reduceIte]
    have e4:(48+((m.natAbs%10:Nat):Int)).toNat=48+m.natAbs%10:=Za
    refine ⟨(m.tdiv 10,UInt8.ofNat (48+m.natAbs%10)::s,decide (m.tdiv 10≠0)),⟨?_,?_,?_⟩,?_,Weak.mk ?_⟩
    ·omega
    ·simp only [Zp];intro hne
     have h10: ¬m.natAbs<10:=Za
     rw [e2,<- h1,dec.eq_def m.natAbs,dif_neg h10];simp
    ·simp only [Yc,XF];intro hz
     have h10:m.natAbs<10:=Za
     rw [<- h1,dec.eq_def m.natAbs,dif_pos h10,Kq h10];simp
    ·grind
    ·simp (disch:=omega) only [e4,go_sem,seval]
def pF (k:Nat) (f:Flt):Prop:=f.2.length<=k
theorem Xn {P:Program} {id:Nat} {l:List Oper} {fr:List V} {H:List AM.Obj} {Q:Exit->List V->List AM.Obj->Prop} {t} (h:hs P (l.map (·.dst)) H (Zv (fun fr'=>Q .normal (M6 fr') H) ⟨⟩) l (M6 fr)) (hm:P.follows .mixedOrders=true:=by exact mixed) (hB:Vc (List.toArray l) l.length=true:=by kernel_rfl) (hR:JS (List.toArray l) l.length=true:=by kernel_rfl):AWP P (.region id (Zv (List.toArray l) t) true) fr H Q:=MD hm hB hR h
theorem TN (l:List Pt) (c:Bool) (hl:l.length<=1048576):ACalls Tryz.prog 227 [.p (.list c (l.map FS))] [] fun x H'=> ∃m:List Flt,FR (pF 20) (Ww l) (2*l.length+1) m/\x= .sl 0 0 m.length m.length/\H'= [.elems 2 (m.map eF)]:=by
 refine Xa [2] Tryz.func227 rfl xB ?_;simp (disch:=omega) only [Tryz.f227,go_sem,seval];refine Zr (Weak.ofNil 3 2 (by simp (disch:=omega) only [go_sem,seval]) Zb (Weak.refl _ _ _)) ?_;refine ZC [0] (fun m:List Flt=> [(3,.sl 0 0 m.length m.length)]) (fun m=> [.elems 2 (m.map eF)]) (fun m=>FR (pF 20) (1<=l.length/\l.length<=16) 1 m) ?_ ?_
 ·refine Zc ?_
  repeat' (first | (refine Vy (fun hq=> ?_) (fun hq=> ?_)<;>(try simp only [Zp,Yc,XF] at hq)<;>simp (disch:=omega) only [Sh.out hq,go_sem,seval]) | (refine gF ?_ ?_<;>intro hq<;>simp (disch:=omega) only [Sh.out hq,go_sem,seval,↓reduceIte]) | (refine cD ?_ ?_<;>intro hq<;>simp (disch:=omega) only [Sh.out hq,go_sem,seval,↓reduceIte]))
  ·exact ⟨[(4,[])],⟨Zb,by simp;omega,by simp [pF]⟩,wk⟩
  ·exact ⟨[(4,[])],⟨Zb,by simp;omega,by simp [pF]⟩,wk⟩
  ·exact ⟨[],FR.nil Za,wk⟩
 ·intro m hm;refine Zf [] _ _ _ _ (Zc ?_);refine ZT [8] [0] (fun q:Nat×List Flt=> [(3,.sl 0 0 q.2.length q.2.length),(4,.p (.int .i64 q.1))]) (fun q=> [.elems 2 (q.2.map eF)]) (fun q=>q.1<=l.length/\FR (pF 20) ((1<=l.length/\l.length<=16)/\ ∀j,j<q.1->eV l j) (2*q.1+1) q.2) (fun q=>l.length-q.1) (0,m) ⟨Zb,hm.to Zb Zb⟩ (Weak.mk ?_) ?_
  ·simp (disch:=omega) only [go_sem,seval,↓reduceIte]
  ·rintro ⟨k,m⟩ ⟨hk,hm⟩;simp only at hk hm;have hml:=hm.len;refine Zc ?_;refine cD ?_ ?_<;>intro h<;>simp (disch:=omega) only [Sh.out h,go_sem,seval,↓reduceIte]
   ·have hk2:k<l.length:=Za
    refine ZC [0,4,5] (fun m:List Flt=> [(3,.sl 0 0 m.length m.length)]) (fun m=> [.elems 2 (m.map eF),.cells [.p (.int .i64 (nth l k).t),.p (.int .i64 (nth l k).a)]])
     (fun m=>FR (pF 20) (((1<=l.length/\l.length<=16)/\ ∀j,j<k->eV l j)/\(0<=(nth l k).t/\(nth l k).t<=4096/\(nth l k).t<=(nth l k).a/\(nth l k).a<=(nth l k).t+4096)) (2*k+1+1) m) ?_ ?_
    ·refine Zc ?_
     have hI:VQ (k:Int):=Za
     have hdl:=Qd k hI
     repeat' (first | (refine Vy (fun hq=> ?_) (fun hq=> ?_)<;>(try simp only [Zp,Yc,XF] at hq)<;>simp (disch:=omega) only [Sh.out hq,go_sem,seval]) | (refine gF ?_ ?_<;>intro hq<;>simp (disch:=omega) only [Sh.out hq,go_sem,seval,↓reduceIte]) | (refine cD ?_ ?_<;>intro hq<;>simp (disch:=omega) only [Sh.out hq,go_sem,seval,↓reduceIte]))
     all_goals try exact ⟨m,hm.no Za,wk⟩
     all_goals
      refine (Kf k hI).use ?_;simp (disch:=omega) only [go_sem,seval,↓reduceIte];exact ⟨m++ [(2,KL k)],hm.yes Za (by simp only [pF];omega),wk⟩
    ·intro m hm;have hml:=hm.len;refine Zf [] _ _ _ _ (Zc ?_)
     have hI:VQ (k:Int):=Za
     have hdl:=Qd k hI;refine Xn (Zc ?_)
     repeat' (first | (refine gT ?_ ?_<;>intro hq<;>simp (disch:=omega) only [Sh.out hq,go_sem,seval,↓reduceIte]) | (refine gF ?_ ?_<;>intro hq<;>simp (disch:=omega) only [Sh.out hq,go_sem,seval,↓reduceIte]) | (refine cD ?_ ?_<;>intro hq<;>simp (disch:=omega) only [Sh.out hq,go_sem,seval,↓reduceIte]))
     all_goals try exact ⟨(k+1,m),⟨by simp only;omega,(hm.no (c:=0<k->(nth l (k-1)).t<(nth l k).t/\(nth l (k-1)).a<=(nth l k).a) Za).to (by simp only;omega) (by simp only [Zn,eV,and_assoc])⟩,by simp only;omega,wk⟩
     all_goals
      refine (Kf k hI).use ?_;simp (disch:=omega) only [go_sem,seval,↓reduceIte];exact ⟨(k+1,m++ [(13,KL k)]),⟨by simp only;omega,(hm.yes (c:=0<k->(nth l (k-1)).t<(nth l k).t/\(nth l (k-1)).a<=(nth l k).a) Za (by simp only [pF];omega)).to (by simp only;omega) (by simp only [Zn,eV,and_assoc])⟩,by simp only;omega,wk⟩
   ·have hkn:k=l.length:=Za
    subst hkn;exact ⟨m,hm.to Za (by rw [Ww]),0,by simp (disch:=omega) only [go_sem,seval]⟩
set_option maxHeartbeats 8000000
theorem pF.mono {j k:Nat} (h:j<=k) {f:Flt} (hf:pF j f):pF k f:=Nat.le_trans hf h
theorem FR.pmono {α:Type} {p q:α->Prop} {C:Prop} {b:Nat} {l:List α} (h:FR p C b l) (hp: ∀x,p x->q x):FR q C b l:=⟨h.len,h.emp,fun x hx=>hp x (h.all x hx)⟩
theorem Me (n:Int):PC 228 [.p (.int .i64 n)] (.bool (HZ n)):=by
 refine Zd Tryz.func228 rfl xC ?_;simp (disch:=omega) only [Tryz.f228,go_sem,seval]
 repeat' (first | (refine gT ?_ ?_<;>intro hq<;>simp (disch:=omega) only [Sh.out hq,go_sem,seval,↓reduceIte]) | (refine V6 (fun hq=> ?_) (fun hq=> ?_)<;>(try simp only [Zp,Yc,XF] at hq)<;>simp (disch:=omega) only [Sh.out hq,go_sem,seval]) | (refine QD (fun hq=> ?_) (fun hq=> ?_)<;>(try simp only [Zp,Yc,XF] at hq)<;>simp (disch:=omega) only [Sh.out hq,go_sem,seval]))
 all_goals (simp [HZ,rng];first | done | omega | (rw [Yp];simp;omega))
def ZZ (n:Net):List AM.Obj:= [.cells [.p (.list n.places_c (n.places.map eS)),.p (.list n.arcs_c (n.arcs.map Wp))]]
theorem JZ {P Q:Prop} (h:Q) (e:Q->P:=by intro h;simp (disch:=omega) only [ZZ,go_sem,seval];exact h):P:=e h
theorem MO (n:Net) (hp:n.places.length<=1048576) (hs: ∀s∈n.places,s.length<=1048576):ACalls Tryz.prog 170 [.p (AJ n)] [] fun x H'=> ∃m:List Flt,FR (pF 26) (JQ n) (n.places.length+1) m/\x= .sl 0 0 m.length m.length/\H'= [.elems 2 (m.map eF)]:=by
 refine Xa [2] Tryz.func170 rfl vZ ?_;simp (disch:=omega) only [Tryz.f170,go_sem,seval];refine Zr (Weak.ofNil 3 2 (by simp (disch:=omega) only [go_sem,seval]) Zb (Weak.refl _ _ _)) ?_;refine ZC [1] (fun m:List Flt=> [(3,.sl 1 0 m.length m.length)]) (fun m=>ZZ n++ [.elems 2 (m.map eF)]) (fun m=>FR (pF 26) (n.places.length<=24) 1 m) ?_ ?_
 ·refine Zc ?_;refine ZD ?_ ?_<;>intro h
  ·exact ⟨[(4,[112,108,97,99,101,115])],⟨Zb,by simp;omega,by simp [pF]⟩,Weak.mk (by simp (disch:=omega) only [ZZ,go_sem,seval])⟩
  ·exact ⟨[],FR.nil Za,Weak.mk (by simp (disch:=omega) only [ZZ,go_sem,seval])⟩
 ·intro m hm;refine Zf [] _ _ _ _ (JZ ?_);refine Zl [1] (fun q:Nat×List Flt=> [(3,.sl 1 0 q.2.length q.2.length),(4,.p (.int .i64 q.1))]) (fun q=>ZZ n++ [.elems 2 (q.2.map eF)]) (fun q=>q.1<=n.places.length/\FR (pF 26) (n.places.length<=24/\ ∀j,j<q.1->Nr n j) (q.1+1) q.2) (fun q=>n.places.length-q.1) (0,m) ⟨Zb,hm.to Zb Zb⟩ (Weak.mk ?_) ?_
  ·simp (disch:=omega) only [ZZ,go_sem,seval]
  ·rintro ⟨k,m⟩ ⟨hk,hm⟩;simp only at hk hm;have hml:=hm.len;refine JZ ?_;refine cD ?_ ?_<;>intro h<;>simp (disch:=omega) only [Sh.out h,go_sem,seval,↓reduceIte]
   ·have hk2:k<n.places.length:=Za
    have hI:VQ (k:Int):=Za
    have hdl:=Qd k hI;refine (Kf k hI).use (Zc ?_);simp (disch:=first | omega | (simp only [Zz,ZA,ZI,ZM,ZY,Xf]<;>omega)) only [go_sem,seval,↓reduceIte];refine (Ng (nth n.places k) (hs _ (by grind [Zh]))).use (Zc ?_);refine ZD ?_ ?_<;>intro h2
    ·simp only [XI] at h2;exact ⟨(k+1,m++ [(5,[112,108,97,99,101,32]++KL k)]),⟨Za,(hm.yes (c:=Nr n k) (by rw [Nr,h2];simp) (by simp [pF];omega)).to Zb (by grind)⟩,Za,wk⟩
    ·simp only [XA] at h2;refine Zl [1,3,4,5] (fun q:Nat×Bool=> [(6,.p (.bool q.2)),(7,.p (.int .i64 q.1))]) (fun _=>ZZ n++ [.elems 2 (m.map eF)]) (fun q=>q.1<=k/\(q.2=false↔ ∀j,j<q.1->nth n.places j≠nth n.places k)) (fun q=>k-q.1) (0,false) Zb (Weak.mk ?_) ?_
     ·simp (disch:=omega) only [ZZ,go_sem,seval]
     ·rintro ⟨j,b⟩ ⟨hj,hb⟩;simp only at hj hb;refine JZ ?_;refine cD ?_ ?_<;>intro h3<;>simp (disch:=omega) only [Sh.out h3,go_sem,seval,↓reduceIte]
      ·refine Z5 14 mixed Ze Ze (Zc ?_)
       have hjn:j<n.places.length:=Za
       cases b with
       | true =>
        refine Zc ?_;exact ⟨(j+1,true),⟨Za,by grind⟩,Za,wk⟩
       | false =>
        refine Zc ?_;refine ⟨(j+1,decide (nth n.places j=nth n.places k)),⟨Za,by grind⟩,Za,wk⟩
      ·have hjk:j=k:=Za
       subst hjk
       cases b with
       | true =>
        refine Zc ?_
        have hno: ¬Nr n j:=fun h5=>by have:=hb.2 h5.2;cases this
        exact ⟨(j+1,m++ [(6,[112,108,97,99,101,32]++KL j)]),⟨Za,(hm.yes (c:=Nr n j) hno (by simp [pF];omega)).to Zb (by grind)⟩,Za,wk⟩
       | false =>
        refine Zc ?_;exact ⟨(j+1,m),⟨Za,(hm.no (c:=Nr n j) ⟨h2,hb.1 rfl⟩).to Zb (by grind)⟩,Za,wk⟩
   ·have hkn:k=n.places.length:=Za
    subst hkn;exact ⟨m,hm.to Za (by rw [JQ]),1,by simp (disch:=omega) only [go_sem,seval]⟩
set_option maxHeartbeats 16000000
def WC (a:Arc):AM.Obj:= .cells [.p (.int .i64 a.src),.p (.int .i64 a.dst),.p (.int .i64 a.prof),.p (.int .i64 a.miles),.p (.list a.travel_c (a.travel.map FS)),.p (.list a.slow_c (a.slow.map FS))]
abbrev Y8 (a b:Arc):Prop:=a.src=b.src/\a.dst=b.dst/\a.prof=b.prof
theorem Ao {P Q:Prop} (h:Q) (e:Q->P:=by intro h;simp (disch:=omega) only [ZZ,WC,go_sem,seval];exact h):P:=e h
theorem jV (n:Net) (i:Nat) (hi:i<n.arcs.length) (hp:n.places.length<=1048576) (ha:n.arcs.length<=1048576) (ht:(nth n.arcs i).travel.length<=1048576) (hsl:(nth n.arcs i).slow.length<=1048576) :
  ACalls Tryz.prog 171 [.p (AJ n),.p (.int .i64 (i:Nat))] [] fun x H'=> ∃m:List Flt,FR (pF 26) (It n i) 4000000 m/\x= .sl 0 0 m.length m.length/\H'= [.elems 2 (m.map eF)]:=by
 refine Xa [4] Tryz.func171 rfl wA ?_;simp (disch:=omega) only [Tryz.f171,go_sem,seval]
 have hI:VQ (i:Int):=Za
 have hdl:=Qd i hI;refine (Kf i hI).use (Zc ?_);simp (disch:=first | omega | (simp only [Zz,ZA,ZI,ZM,ZY,Xf]<;>omega)) only [go_sem,seval,↓reduceIte]
 have hat:(97::114::99::32::KL i).length<=26:=by simp;omega
 generalize hga:nth n.arcs i=a at ht hsl ⊢;generalize 97::114::99::32::KL i=at' at hat ⊢;refine Zr (Weak.ofNil 5 2 (by simp (disch:=omega) only [go_sem,seval]) Zb (Weak.refl _ _ _)) ?_;refine ZC [1,2,6,7] (fun m:List Flt=> [(5,.sl 2 0 m.length m.length)]) (fun m=>ZZ n++ [WC a,.elems 2 (m.map eF)]) (fun m=>FR (pF 26) (0<=a.src/\a.src<n.places.length/\0<=a.dst/\a.dst<n.places.length) 1 m) ?_ ?_
 ·refine Zc ?_
  repeat' (first | (refine Vy (fun hq=> ?_) (fun hq=> ?_)<;>(try simp only [Zp,Yc,XF] at hq)<;>simp (disch:=omega) only [Sh.out hq,go_sem,seval]) | (refine gF ?_ ?_<;>intro hq<;>simp (disch:=omega) only [Sh.out hq,go_sem,seval]) | (refine cD ?_ ?_<;>intro hq<;>simp (disch:=omega) only [Sh.out hq,go_sem,seval]))
  all_goals try exact ⟨[],FR.nil Za,Weak.mk (by simp (disch:=omega) only [ZZ,WC,go_sem,seval])⟩
  all_goals exact ⟨[(11,at')],⟨Zb,by simp;omega,by simpa [pF] using hat⟩,Weak.mk (by simp (disch:=omega) only [ZZ,WC,go_sem,seval])⟩
 ·intro m hm;refine Zf [6] _ _ _ _ (Ao ?_);have hml:=hm.len
  refine ZC [1,2,6,7] (fun m:List Flt=> [(5,.sl 2 0 m.length m.length)]) (fun m=>ZZ n++ [WC a,.elems 2 (m.map eF)])
   (fun m=>FR (pF 26) ((0<=a.src/\a.src<n.places.length/\0<=a.dst/\a.dst<n.places.length)/\(0<=a.prof/\a.prof<=7/\0<=a.miles/\a.miles<=10000/\a.src≠a.dst)) 2 m) ?_ ?_
  ·refine Zc ?_
   repeat' (first | (refine Vy (fun hq=> ?_) (fun hq=> ?_)<;>(try simp only [Zp,Yc,XF] at hq)<;>simp (disch:=omega) only [Sh.out hq,go_sem,seval]) | (refine gF ?_ ?_<;>intro hq<;>simp (disch:=omega) only [Sh.out hq,go_sem,seval]) | (refine cD ?_ ?_<;>intro hq<;>simp (disch:=omega) only [Sh.out hq,go_sem,seval]))
   all_goals try exact ⟨m,hm.no Za,Weak.mk (by simp (disch:=omega) only [ZZ,WC,go_sem,seval])⟩
   all_goals exact ⟨m++ [(2,at')],hm.yes Za (by simpa [pF] using hat),Weak.mk (by simp (disch:=omega) only [ZZ,WC,go_sem,seval])⟩
  ·clear hm hml;intro m hm;refine Zf [14] _ _ _ _ (Ao ?_);have hml:=hm.len;refine ZT [14] [1,2,5,6,7] (fun q:Nat×Bool=> [(8,.p (.bool q.2)),(9,.p (.int .i64 q.1))]) (fun _=>ZZ n++ [WC a,.elems 2 (m.map eF)]) (fun q=>q.1<=i/\(q.2=false↔ ∀j,j<q.1-> ¬Y8 a (nth n.arcs j))) (fun q=>i-q.1) (0,false) Zb (Weak.mk ?_) ?_
   ·simp (disch:=omega) only [ZZ,WC,go_sem,seval]
   ·rintro ⟨k,b⟩ ⟨hk,hb⟩;simp only at hk hb;refine Ao ?_;refine cD ?_ ?_<;>intro h<;>simp (disch:=omega) only [Sh.out h,go_sem,seval,↓reduceIte]
    ·have hkn:k<n.arcs.length:=Za
     cases b with
     | true =>
      refine Zc ?_;exact ⟨(k+1,true),⟨Za,by grind⟩,Za,wk⟩
     | false =>
      refine Zc ?_
      repeat' (first | (refine gT ?_ ?_<;>intro hq<;>simp (disch:=omega) only [Sh.out hq,go_sem,seval]) | (refine V6 (fun hq=> ?_) (fun hq=> ?_)<;>(try simp only [Zp,Yc,XF] at hq)<;>simp (disch:=omega) only [Sh.out hq,go_sem,seval]) | (refine QD (fun hq=> ?_) (fun hq=> ?_)<;>(try simp only [Zp,Yc,XF] at hq)<;>simp (disch:=omega) only [Sh.out hq,go_sem,seval]))
      all_goals refine ⟨(k+1,decide (Y8 a (nth n.arcs k))),⟨by simp only;omega,by rw [Zn,<- hb];simp⟩,by simp only;omega,Weak.mk ?_⟩
      all_goals simp (disch:=omega) only [go_sem,seval]
      all_goals simp [Y8, *]
    ·have hki:k=i:=Za
     subst hki;have htw:(b=false↔ ∀j,j<k-> ¬Y8 a (nth n.arcs j)):=hb;clear hb hk h
     refine ZC [6,7] (fun m:List Flt=> [(5,.sl 2 0 m.length m.length)]) (fun m=>ZZ n++ [WC a,.elems 2 (m.map eF)])
      (fun m=>FR (pF 26) (((0<=a.src/\a.src<n.places.length/\0<=a.dst/\a.dst<n.places.length)/\(0<=a.prof/\a.prof<=7/\0<=a.miles/\a.miles<=10000/\a.src≠a.dst))/\ ∀j,j<k-> ¬Y8 a (nth n.arcs j)) 3 m) ?_ ?_
     ·refine Zc ?_
      cases b with
      | true =>
       refine Zc ?_;exact ⟨m++ [(6,at')],hm.yes (by grind) (by grind [pF]),Weak.mk (by simp (disch:=omega) only [ZZ,WC,go_sem,seval])⟩
      | false =>
       refine Zc ?_;exact ⟨m,hm.no (htw.1 rfl),Weak.mk (by simp (disch:=omega) only [ZZ,WC,go_sem,seval])⟩
     ·clear hm hml;intro m hm;refine Zf [21] _ _ _ _ (Ao ?_);have hml:=hm.len;refine ((TN a.travel a.travel_c ht).frozenE).useV fun lt hlt=>Zc ?_;have hltl:=hlt.len
      refine ZT [21] [6,7,11] (fun q:Nat×List Flt=> [(5,.sl 2 0 q.2.length q.2.length),(12,.p (.int .i64 q.1))]) (fun q=>ZZ n++ [WC a,.elems 2 (q.2.map eF)])
       (fun q=>q.1<=lt.length/\FR (pF 26) ((((0<=a.src/\a.src<n.places.length/\0<=a.dst/\a.dst<n.places.length)/\(0<=a.prof/\a.prof<=7/\0<=a.miles/\a.miles<=10000/\a.src≠a.dst))/\ ∀j,j<k-> ¬Y8 a (nth n.arcs j))/\q.1=0) (3+q.1) q.2) (fun q=>lt.length-q.1) (0,m) ⟨Zb,hm.to Zb Zb⟩ (Weak.mk ?_) ?_
      ·simp (disch:=omega) only [ZZ,WC,go_sem,seval]
      ·clear hm hml;rintro ⟨j,m⟩ ⟨hj,hm⟩;simp only at hj hm;have hml:=hm.len;refine Ao ?_;refine ZD ?_ ?_<;>intro h
       ·have hj2:j<lt.length:=Za
        exact ⟨(j+1,m++ [((nth lt j).1,at')]),⟨Za,(hm.yes (c:=False) Zb (by grind [pF])).to Za Zb⟩,Za,wk⟩
       ·have hjl:j=lt.length:=Za
        subst hjl;have hm2:=hm.to (d:=3+lt.length) (D:=(((0<=a.src/\a.src<n.places.length/\0<=a.dst/\a.dst<n.places.length)/\(0<=a.prof/\a.prof<=7/\0<=a.miles/\a.miles<=10000/\a.src≠a.dst))/\ ∀j,j<k-> ¬Y8 a (nth n.arcs j))/\Ww a.travel) (Zx _) (by rw [<- hlt.emp,List.eq_nil_iff_length_eq_zero]);clear hm
        refine ZC [6,7] (fun m:List Flt=> [(5,.sl 2 0 m.length m.length)]) (fun m=>ZZ n++ [WC a,.elems 2 (m.map eF)])
         (fun m=>FR (pF 26) (((((0<=a.src/\a.src<n.places.length/\0<=a.dst/\a.dst<n.places.length)/\(0<=a.prof/\a.prof<=7/\0<=a.miles/\a.miles<=10000/\a.src≠a.dst))/\ ∀j,j<k-> ¬Y8 a (nth n.arcs j))/\Ww a.travel)/\a.slow.length<=16) (4+lt.length) m) ?_ ?_
        ·refine Zc ?_;refine ZD ?_ ?_<;>intro h2
         ·exact ⟨m++ [(4,at')],(hm2.yes Za (by grind [pF])).to Za Iff.rfl,Weak.mk (by simp (disch:=omega) only [ZZ,WC,go_sem,seval])⟩
         ·exact ⟨m,(hm2.no Za).to Za Iff.rfl,Weak.mk (by simp (disch:=omega) only [ZZ,WC,go_sem,seval])⟩
        ·clear hm2 hml h hj;intro m hm;refine Zf [] _ _ _ _ (Ao ?_)
         refine Zl [6,7] (fun q:Nat×List Flt=> [(5,.sl 2 0 q.2.length q.2.length),(13,.p (.int .i64 q.1))]) (fun q=>ZZ n++ [WC a,.elems 2 (q.2.map eF)])
          (fun q=>q.1<=a.slow.length/\FR (pF 26) ((((((0<=a.src/\a.src<n.places.length/\0<=a.dst/\a.dst<n.places.length)/\(0<=a.prof/\a.prof<=7/\0<=a.miles/\a.miles<=10000/\a.src≠a.dst))/\ ∀j,j<k-> ¬Y8 a (nth n.arcs j))/\Ww a.travel)/\a.slow.length<=16)/\ ∀j,j<q.1->JW a.slow j) (4+lt.length+q.1) q.2) (fun q=>a.slow.length-q.1) (0,m) ⟨Zb,hm.to Zb Zb⟩ (Weak.mk ?_) ?_
         ·simp (disch:=omega) only [ZZ,WC,go_sem,seval]
         ·clear hm;rintro ⟨j,m⟩ ⟨hj,hm⟩;simp only at hj hm;have hml:=hm.len;refine Ao ?_;refine cD ?_ ?_<;>intro h<;>simp (disch:=omega) only [Sh.out h,go_sem,seval,↓reduceIte]
          ·have hj2:j<a.slow.length:=Za
           refine Xn (Zc ?_);refine Zq (Me (nth a.slow j).t) (Zc ?_);have hslo:JW a.slow j↔(HZ (nth a.slow j).t=true/\HZ (nth a.slow j).a=true/\(0<j->(nth a.slow (j-1)).t<(nth a.slow j).t)):=Iff.rfl;have hyes: ¬JW a.slow j->_:=fun hs=>(hm.yes (x:=(2,at')) hs (by grind [pF])).to (D:=(((((0<=a.src/\a.src<n.places.length/\0<=a.dst/\a.dst<n.places.length)/\(0<=a.prof/\a.prof<=7/\0<=a.miles/\a.miles<=10000/\a.src≠a.dst))/\ ∀j,j<k-> ¬Y8 a (nth n.arcs j))/\Ww a.travel)/\a.slow.length<=16)/\ ∀i,i<j+1->JW a.slow i) (d:=4+lt.length+(j+1)) Za (by grind)
           have hno:JW a.slow j->_:=fun hs=>(hm.no hs).to (D:=(((((0<=a.src/\a.src<n.places.length/\0<=a.dst/\a.dst<n.places.length)/\(0<=a.prof/\a.prof<=7/\0<=a.miles/\a.miles<=10000/\a.src≠a.dst))/\ ∀j,j<k-> ¬Y8 a (nth n.arcs j))/\Ww a.travel)/\a.slow.length<=16)/\ ∀i,i<j+1->JW a.slow i) (d:=4+lt.length+(j+1)) Za (by grind)
           cases ht1:HZ (nth a.slow j).t with
           | false =>
            refine Zc ?_;exact ⟨(j+1,m++ [(2,at')]),⟨Za,hyes (by grind)⟩,Za,wk⟩
           | true =>
            refine Zc ?_;refine Zq (Me (nth a.slow j).a) (Zc ?_)
            cases ht2:HZ (nth a.slow j).a with
            | false =>
             refine Zc ?_;exact ⟨(j+1,m++ [(2,at')]),⟨Za,hyes (by grind)⟩,Za,wk⟩
            | true =>
             refine Zc ?_
             repeat' (first | (refine gT ?_ ?_<;>intro hq<;>simp (disch:=omega) only [Sh.out hq,go_sem,seval]) | (refine V6 (fun hq=> ?_) (fun hq=> ?_)<;>(try simp only [Zp,Yc,XF] at hq)<;>simp (disch:=omega) only [Sh.out hq,go_sem,seval]) | (refine cD ?_ ?_<;>intro hq<;>simp (disch:=omega) only [Sh.out hq,go_sem,seval]))
             ·exact ⟨(j+1,m++ [(2,at')]),⟨Za,hyes (by grind)⟩,Za,wk⟩
             ·exact ⟨(j+1,m),⟨Za,hno (by grind)⟩,Za,wk⟩
             ·exact ⟨(j+1,m),⟨Za,hno (by grind)⟩,Za,wk⟩
          ·have hjn:j=a.slow.length:=Za
           subst hjn;exact ⟨m,hm.to Za (by rw [It,hga]),2,by simp (disch:=omega) only [go_sem,seval]⟩
theorem Zo {α:Type} [Inhabited α] {l:List α} {i:Nat} (h:i<l.length):nth l i∈l:=by grind [Zh]
theorem tL (n:Net) (hw:n.wf 1048576):ACalls Tryz.prog 126 [.p (AJ n)] [] fun x H'=> ∃m:List Flt,FR (pF 26) (netOk n) 4194306000000 m/\x= .sl 0 0 m.length m.length/\H'= [.elems 2 (m.map eF)]:=by
 obtain ⟨w1,w2,w3,w4⟩:=hw;refine Xa [2] Tryz.func126 rfl uV ?_;simp (disch:=omega) only [Tryz.f126,go_sem,seval];refine (MO n w1 w2).useE fun m hm=>Zc ?_;have hml:=hm.len;refine ZC [1] (fun m:List Flt=> [(3,.sl 1 0 m.length m.length)]) (fun m=>ZZ n++ [.elems 2 (m.map eF)]) (fun m=>FR (pF 26) (JQ n/\n.arcs.length<=1024) (n.places.length+2) m) ?_ ?_
 ·refine Zc ?_;refine ZD ?_ ?_<;>intro h
  ·exact ⟨m++ [(4,[97,114,99,115])],hm.yes Za (by simp [pF]),Weak.mk (by simp (disch:=omega) only [ZZ,go_sem,seval])⟩
  ·exact ⟨m,hm.no Za,Weak.mk (by simp (disch:=omega) only [ZZ,go_sem,seval])⟩
 ·clear hm hml;intro m hm;refine Zf [] _ _ _ _ (JZ ?_);refine Zl [1] (fun q:Nat×List Flt=> [(3,.sl 1 0 q.2.length q.2.length),(4,.p (.int .i64 q.1))]) (fun q=>ZZ n++ [.elems 2 (q.2.map eF)]) (fun q=>q.1<=n.arcs.length/\FR (pF 26) ((JQ n/\n.arcs.length<=1024)/\ ∀j,j<q.1->It n j) (n.places.length+2+q.1*4000000) q.2) (fun q=>n.arcs.length-q.1) (0,m) ⟨Zb,hm.to Zb Zb⟩ (Weak.mk ?_) ?_
  ·simp (disch:=omega) only [ZZ,go_sem,seval]
  ·clear hm;rintro ⟨k,m⟩ ⟨hk,hm⟩;simp only at hk hm;have hml:=hm.len;refine JZ ?_;refine cD ?_ ?_<;>intro h<;>simp (disch:=omega) only [Sh.out h,go_sem,seval,↓reduceIte]
   ·have hk2:k<n.arcs.length:=Za
    have ha:=w4 _ (Zo hk2);refine (jV n k hk2 w1 w3 ha.2.2.2.2.1 ha.2.2.2.2.2.2.1).useE fun f hf=>Zc ?_;have hfl:=hf.len
    have q1:(m.length+f.length)*24<=140737488355328:=Za
    have q2:m.length+f.length<=140737488355328:=Za
    simp (disch:=omega) only [q1,q2,go_sem,seval];refine ⟨(k+1,m++f),⟨Za,(hm.app hf).to Za (by grind)⟩,Za,Weak.mk ?_⟩;simp (disch:=omega) only [ZI,Xx,go_sem,seval]
   ·have hkn:k=n.arcs.length:=Za
    subst hkn;exact ⟨m,hm.to Za (by rw [netOk]),1,by simp (disch:=omega) only [go_sem,seval]⟩
theorem W0 (n lo hi:Int):PC 172 [.p (.int .i64 n),.p (.int .i64 lo),.p (.int .i64 hi)] (.bool (rng n lo hi)):=by
 refine Zd Tryz.func172 rfl wB ?_;simp (disch:=omega) only [Tryz.f172,go_sem,seval];refine gT ?_ ?_<;>intro h<;>simp (disch:=omega) only [Sh.out h,go_sem,seval,↓reduceIte]
 all_goals (simp [rng];first | done | omega | (rw [Yp];simp;omega))
def Ub (l:List Int) (d:Int):Bool:=rng l.length 1 3&&decide ((l.length:Int)=d)&&l.all fun n=>rng n 0 1000
theorem MM (l:List Int) (c:Bool) (d:Int) (hl:l.length<=1048576):PC 230 [.p (.list c (l.map eI)),.p (.int .i64 d)] (.bool (Ub l d)):=by
 refine Zd Tryz.func230 rfl xE ?_;simp (disch:=omega) only [Tryz.f230,go_sem,seval];refine (W0 l.length 1 3).use (Zc ?_);refine gF ?_ ?_<;>intro h<;>simp (disch:=omega) only [Sh.out h,go_sem,seval,↓reduceIte]
 ·grind [Ub]
 ·simp only [XA] at h;refine cD ?_ ?_<;>intro h2<;>simp (disch:=omega) only [Sh.out h2,go_sem,seval]
  ·simp [Ub,h,h2]
  ·simp only [XF] at h2;subst h2;refine Zl [0] (fun k:Nat=> [(5,.p (.int .i64 k))]) (fun _=> []) (fun k=>k<=l.length/\ ∀j,j<k->rng (nth l j) 0 1000=true) (fun k=>l.length-k) 0 Zb (Weak.mk ?_) ?_
   ·simp (disch:=omega) only [go_sem,seval,↓reduceIte]
   ·rintro k ⟨hk,hno⟩;refine Zc ?_;refine cD ?_ ?_<;>intro h3<;>simp (disch:=omega) only [Sh.out h3,go_sem,seval,↓reduceIte]
    ·have hk2:k<l.length:=Za
     refine (W0 (nth l k) 0 1000).use (Zc ?_);refine cD ?_ ?_<;>intro h4<;>simp (disch:=omega) only [Sh.out h4,go_sem,seval,↓reduceIte]
     ·grind [Zo,Ub]
     ·simp only [XA] at h4;exact ⟨k+1,⟨Za,Zn.2 ⟨hno,h4⟩⟩,Za,wk⟩
    ·have:l.all (fun n=>rng n 0 1000)=true:=by
      rw [Zu];intro x hx;obtain ⟨j,hj,rfl⟩:=ZW.1 hx
      grind [Zh]
     grind [Ub]
def Na (l:List Typ) (i:Nat) (s:List UInt8):Bool:=(List.range i).any fun j=>decide ((nth l j).name=s)
theorem VX {l:List Typ} {i:Nat} {s:List UInt8} :Na l i s=false↔ ∀j,j<i->(nth l j).name≠s:=by
 grind [Na]
theorem Rs (l:List Typ) (c:Bool) (i:Nat) (s:List UInt8) (hi:i<=l.length) (hl:l.length<=1048576):PC 229 [.p (.list c (l.map Wq)),.p (.int .i64 (i:Nat)),.p (.str s)] (.bool (Na l i s)):=by
 refine Zd Tryz.func229 rfl xD ?_;simp (disch:=omega) only [Tryz.f229,go_sem,seval];refine Zl [0,1,2] (fun k:Nat=> [(7,.p (.int .i64 k))]) (fun _=> []) (fun k=>k<=i/\ ∀j,j<k->(nth l j).name≠s) (fun k=>i-k) 0 Zb (Weak.mk ?_) ?_
 ·simp (disch:=omega) only [go_sem,seval,↓reduceIte]
 ·rintro k ⟨hk,hno⟩;refine Zc ?_;refine cD ?_ ?_<;>intro h3<;>simp (disch:=omega) only [Sh.out h3,go_sem,seval,↓reduceIte]
  ·have hk2:k<l.length:=Za
   refine cD ?_ ?_<;>intro h4<;>simp (disch:=omega) only [Sh.out h4,go_sem,seval,↓reduceIte]
   ·grind [VX]
   ·exact ⟨k+1,⟨Za,Zn.2 ⟨hno,h4⟩⟩,Za,wk⟩
  grind [VX]
def dimsOf (l:List Typ):Int:=if l.length=0 then 0 else ((nth l 0).cap.length:Int)
theorem IT (l:List Typ) (c:Bool) (hl:l.length<=1048576):PC 129 [.p (.list c (l.map Wq))] (.int .i64 (dimsOf l)):=by
 refine Zd Tryz.func129 rfl uY ?_;simp (disch:=omega) only [Tryz.f129,go_sem,seval];refine cD ?_ ?_<;>intro h<;>simp (disch:=omega) only [Sh.out h,go_sem,seval,↓reduceIte]
 ·grind [dimsOf]
 ·have h0:0<l.length:=Za
  have h1:l.length≠0:=Za
  simp (disch:=first | omega | (simp only [Zz,ZA,ZI,ZM,ZY,Xf]<;>omega)) only [dimsOf,h1,go_sem,seval,↓reduceIte]
def Yg (t:Typ):AM.Obj:= .cells [.p (.str t.name),.p (.int .i64 t.count),.p (.int .i64 t.src),.p (.int .i64 t.dst),.p (.list t.cap_c (t.cap.map eI)),.p (.int .i64 t.skills),.p (.int .i64 t.prof),.p (.int .i64 t.opn),.p (.int .i64 t.cls),.p (.int .i64 t.drive),.p (.int .i64 t.rest),.p (.int .i64 t.fixed),.p (.int .i64 t.perMile),.p (.int .i64 t.perTick)]
def KY (n:Net) (l:List Typ) (i:Nat):Prop:=((((((((nameOk (nth l i).name=true)/\(∀j,j<i->(nth l j).name≠(nth l i).name))/\rng (nth l i).count 0 10=true)/\(rng (nth l i).src 0 (n.places.length-1)=true/\rng (nth l i).dst 0 (n.places.length-1)=true))/\Ub (nth l i).cap (dimsOf l)=true)/\rng (nth l i).skills 0 1073741823=true)/\(rng (nth l i).opn 0 (nth l i).cls=true/\(nth l i).cls<=4096))/\(rng (nth l i).drive 1 4096=true/\rng (nth l i).rest 0 4096=true))/\(rng (nth l i).prof 0 7=true/\rng (nth l i).fixed 0 100000=true/\rng (nth l i).perMile 0 100=true/\rng (nth l i).perTick 0 100=true)
theorem BK {P Q:Prop} (h:Q) (e:Q->P:=by intro h;simp (disch:=omega) only [ZZ,Yg,go_sem,seval];exact h):P:=e h
theorem Sm (n:Net) (l:List Typ) (c:Bool) (i:Nat) (hi:i<l.length) (hl:l.length<=1048576) (hw:n.wf 1048576) (ht:(nth l i).wf 1048576) :
  ACalls Tryz.prog 173 [.p (AJ n),.p (.list c (l.map Wq)),.p (.int .i64 (i:Nat))] [] fun x H'=> ∃m:List Int,FR (fun _=>True) (KY n l i) 9 m/\x= .sl 0 0 m.length m.length/\H'= [.elems 1 (m.map eI)]:=by
 obtain ⟨w1,w2,w3,w4⟩:=hw;refine Xa [3] Tryz.func173 rfl wC ?_;simp (disch:=omega) only [Tryz.f173,go_sem,seval];have hty:KY n l i↔((((((((nameOk (nth l i).name=true)/\(∀j,j<i->(nth l j).name≠(nth l i).name))/\rng (nth l i).count 0 10=true)/\(rng (nth l i).src 0 (n.places.length-1)=true/\rng (nth l i).dst 0 (n.places.length-1)=true))/\Ub (nth l i).cap (dimsOf l)=true)/\rng (nth l i).skills 0 1073741823=true)/\(rng (nth l i).opn 0 (nth l i).cls=true/\(nth l i).cls<=4096))/\(rng (nth l i).drive 1 4096=true/\rng (nth l i).rest 0 4096=true))/\(rng (nth l i).prof 0 7=true/\rng (nth l i).fixed 0 100000=true/\rng (nth l i).perMile 0 100=true/\rng (nth l i).perTick 0 100=true):=Iff.rfl
 generalize hga:nth l i=t at ht hty ⊢;have hname:=ht.1;have hcap:=ht.2.2.2.2.1;refine Zr (Weak.ofNil 8 1 (by simp (disch:=omega) only [go_sem,seval]) Zb (Weak.refl _ _ _)) ?_;refine ZC [1,2,3,7] (fun m:List Int=> [(8,.sl 2 0 m.length m.length)]) (fun m=>ZZ n++ [Yg t,.elems 1 (m.map eI)]) (fun m=>FR (fun _=>True) (nameOk t.name=true) 1 m) ?_ ?_
 ·refine Zc ?_;refine (Ng t.name hname).use (Zc ?_);refine ZD ?_ ?_<;>intro h0
  ·simp only [XI] at h0;exact ⟨[5],⟨Zb,by simp [h0],Zb⟩,Weak.mk (by simp (disch:=omega) only [ZZ,Yg,go_sem,seval])⟩
  ·simp only [XA] at h0;exact ⟨[],FR.nil (by simp [h0]),Weak.mk (by simp (disch:=omega) only [ZZ,Yg,go_sem,seval])⟩
 ·skip
  intro m hm;refine Zf [5] _ _ _ _ (BK ?_);have hml:=hm.len;refine ZC [1,3,7] (fun m:List Int=> [(8,.sl 2 0 m.length m.length)]) (fun m=>ZZ n++ [Yg t,.elems 1 (m.map eI)]) (fun m=>FR (fun _=>True) ((nameOk t.name=true)/\(∀j,j<i->(nth l j).name≠t.name)) 2 m) ?_ ?_
  ·refine Zc ?_;refine (Rs l c i t.name Za hl).use (Zc ?_);refine ZD ?_ ?_<;>intro h
   ·exact ⟨m++ [6],hm.yes (by grind [VX]) trivial,Weak.mk (by simp (disch:=omega) only [ZZ,Yg,go_sem,seval])⟩
   ·exact ⟨m,hm.no (by exact VX.1 h),Weak.mk (by simp (disch:=omega) only [ZZ,Yg,go_sem,seval])⟩
  ·clear hm hml;intro m hm;refine Zf [7] _ _ _ _ (BK ?_);have hml:=hm.len;refine ZC [1,3,7] (fun m:List Int=> [(8,.sl 2 0 m.length m.length)]) (fun m=>ZZ n++ [Yg t,.elems 1 (m.map eI)]) (fun m=>FR (fun _=>True) (((nameOk t.name=true)/\(∀j,j<i->(nth l j).name≠t.name))/\rng t.count 0 10=true) 3 m) ?_ ?_
   ·refine Zc ?_;refine (W0 t.count 0 10).use (Zc ?_);refine ZD ?_ ?_<;>intro h0
    ·simp only [XI] at h0;exact ⟨m++ [22],hm.yes (by simp [h0]) trivial,Weak.mk (by simp (disch:=omega) only [ZZ,Yg,go_sem,seval])⟩
    ·simp only [XA] at h0;exact ⟨m,hm.no (by simp [h0]),Weak.mk (by simp (disch:=omega) only [ZZ,Yg,go_sem,seval])⟩
   ·clear hm hml;intro m hm;refine Zf [9] _ _ _ _ (BK ?_);have hml:=hm.len;refine ZC [1,7] (fun m:List Int=> [(8,.sl 2 0 m.length m.length)]) (fun m=>ZZ n++ [Yg t,.elems 1 (m.map eI)]) (fun m=>FR (fun _=>True) ((((nameOk t.name=true)/\(∀j,j<i->(nth l j).name≠t.name))/\rng t.count 0 10=true)/\(rng t.src 0 (n.places.length-1)=true/\rng t.dst 0 (n.places.length-1)=true)) 4 m) ?_ ?_
    ·refine Zc ?_;refine (W0 t.src 0 (n.places.length-1)).use (Zc ?_);refine AD ?_ ?_<;>intro h0
     ·simp only [XI] at h0;exact ⟨m++ [11],hm.yes (by simp [h0]) trivial,Weak.mk (by simp (disch:=omega) only [ZZ,Yg,go_sem,seval])⟩
     ·simp only [XA] at h0;refine (W0 t.dst 0 (n.places.length-1)).use (Zc ?_);refine ZD ?_ ?_<;>intro h1
      ·simp only [XI] at h1;exact ⟨m++ [11],hm.yes (by simp [h1]) trivial,Weak.mk (by simp (disch:=omega) only [ZZ,Yg,go_sem,seval])⟩
      ·simp only [XA] at h1;exact ⟨m,hm.no (by simp [h0,h1]),Weak.mk (by simp (disch:=omega) only [ZZ,Yg,go_sem,seval])⟩
    ·clear hm hml;intro m hm;refine Zf [11] _ _ _ _ (BK ?_);have hml:=hm.len;refine ZC [7] (fun m:List Int=> [(8,.sl 2 0 m.length m.length)]) (fun m=>ZZ n++ [Yg t,.elems 1 (m.map eI)]) (fun m=>FR (fun _=>True) (((((nameOk t.name=true)/\(∀j,j<i->(nth l j).name≠t.name))/\rng t.count 0 10=true)/\(rng t.src 0 (n.places.length-1)=true/\rng t.dst 0 (n.places.length-1)=true))/\Ub t.cap (dimsOf l)=true) 5 m) ?_ ?_
     ·refine Zc ?_;refine Xn (Zc ?_);refine Zq (IT l c hl) (Zc ?_);refine Zq (MM t.cap t.cap_c (dimsOf l) hcap) (Zc ?_);refine ZD ?_ ?_<;>intro h
      ·simp only [XI] at h;exact ⟨m++ [17],hm.yes (by simp [h]) trivial,Weak.mk (by simp (disch:=omega) only [ZZ,Yg,go_sem,seval])⟩
      ·simp only [XA] at h;exact ⟨m,hm.no (by simp [h]),Weak.mk (by simp (disch:=omega) only [ZZ,Yg,go_sem,seval])⟩
     ·clear hm hml;intro m hm;refine Zf [13] _ _ _ _ (BK ?_);have hml:=hm.len;refine ZC [7] (fun m:List Int=> [(8,.sl 2 0 m.length m.length)]) (fun m=>ZZ n++ [Yg t,.elems 1 (m.map eI)]) (fun m=>FR (fun _=>True) ((((((nameOk t.name=true)/\(∀j,j<i->(nth l j).name≠t.name))/\rng t.count 0 10=true)/\(rng t.src 0 (n.places.length-1)=true/\rng t.dst 0 (n.places.length-1)=true))/\Ub t.cap (dimsOf l)=true)/\rng t.skills 0 1073741823=true) 6 m) ?_ ?_
      ·refine Zc ?_;refine (W0 t.skills 0 1073741823).use (Zc ?_);refine ZD ?_ ?_<;>intro h0
       ·simp only [XI] at h0;exact ⟨m++ [18],hm.yes (by simp [h0]) trivial,Weak.mk (by simp (disch:=omega) only [ZZ,Yg,go_sem,seval])⟩
       ·simp only [XA] at h0;exact ⟨m,hm.no (by simp [h0]),Weak.mk (by simp (disch:=omega) only [ZZ,Yg,go_sem,seval])⟩
      ·clear hm hml;intro m hm;refine Zf [15] _ _ _ _ (BK ?_);have hml:=hm.len;refine ZC [7] (fun m:List Int=> [(8,.sl 2 0 m.length m.length)]) (fun m=>ZZ n++ [Yg t,.elems 1 (m.map eI)]) (fun m=>FR (fun _=>True) (((((((nameOk t.name=true)/\(∀j,j<i->(nth l j).name≠t.name))/\rng t.count 0 10=true)/\(rng t.src 0 (n.places.length-1)=true/\rng t.dst 0 (n.places.length-1)=true))/\Ub t.cap (dimsOf l)=true)/\rng t.skills 0 1073741823=true)/\(rng t.opn 0 t.cls=true/\t.cls<=4096)) 7 m) ?_ ?_
       ·refine Zc ?_;refine (W0 t.opn 0 t.cls).use (Zc ?_);refine AD ?_ ?_<;>intro h0
        ·simp only [XI] at h0;exact ⟨m++ [15],hm.yes (by simp [h0]) trivial,Weak.mk (by simp (disch:=omega) only [ZZ,Yg,go_sem,seval])⟩
        ·simp only [XA] at h0;refine ZD ?_ ?_<;>intro h1
         ·exact ⟨m++ [15],hm.yes Za trivial,Weak.mk (by simp (disch:=omega) only [ZZ,Yg,go_sem,seval])⟩
         ·exact ⟨m,hm.no (by grind),Weak.mk (by simp (disch:=omega) only [ZZ,Yg,go_sem,seval])⟩
       ·clear hm hml;intro m hm;refine Zf [17] _ _ _ _ (BK ?_);have hml:=hm.len;refine ZC [7] (fun m:List Int=> [(8,.sl 2 0 m.length m.length)]) (fun m=>ZZ n++ [Yg t,.elems 1 (m.map eI)]) (fun m=>FR (fun _=>True) ((((((((nameOk t.name=true)/\(∀j,j<i->(nth l j).name≠t.name))/\rng t.count 0 10=true)/\(rng t.src 0 (n.places.length-1)=true/\rng t.dst 0 (n.places.length-1)=true))/\Ub t.cap (dimsOf l)=true)/\rng t.skills 0 1073741823=true)/\(rng t.opn 0 t.cls=true/\t.cls<=4096))/\(rng t.drive 1 4096=true/\rng t.rest 0 4096=true)) 8 m) ?_ ?_
        ·refine Zc ?_;refine (W0 t.drive 1 4096).use (Zc ?_);refine AD ?_ ?_<;>intro h0
         ·simp only [XI] at h0;exact ⟨m++ [16],hm.yes (by simp [h0]) trivial,Weak.mk (by simp (disch:=omega) only [ZZ,Yg,go_sem,seval])⟩
         ·simp only [XA] at h0;refine (W0 t.rest 0 4096).use (Zc ?_);refine ZD ?_ ?_<;>intro h1
          ·simp only [XI] at h1;exact ⟨m++ [16],hm.yes (by simp [h1]) trivial,Weak.mk (by simp (disch:=omega) only [ZZ,Yg,go_sem,seval])⟩
          ·simp only [XA] at h1;exact ⟨m,hm.no (by simp [h0,h1]),Weak.mk (by simp (disch:=omega) only [ZZ,Yg,go_sem,seval])⟩
        ·clear hm hml;intro m hm;refine Zf [19] _ _ _ _ (BK ?_);have hml:=hm.len;refine ZC [] (fun m:List Int=> [(8,.sl 2 0 m.length m.length)]) (fun m=>ZZ n++ [Yg t,.elems 1 (m.map eI)]) (fun m=>FR (fun _=>True) (((((((((nameOk t.name=true)/\(∀j,j<i->(nth l j).name≠t.name))/\rng t.count 0 10=true)/\(rng t.src 0 (n.places.length-1)=true/\rng t.dst 0 (n.places.length-1)=true))/\Ub t.cap (dimsOf l)=true)/\rng t.skills 0 1073741823=true)/\(rng t.opn 0 t.cls=true/\t.cls<=4096))/\(rng t.drive 1 4096=true/\rng t.rest 0 4096=true))/\(rng t.prof 0 7=true/\rng t.fixed 0 100000=true/\rng t.perMile 0 100=true/\rng t.perTick 0 100=true)) 9 m) ?_ ?_
         ·refine Zc ?_;refine (W0 t.prof 0 7).use (Zc ?_);refine gF ?_ ?_<;>intro h0<;>simp (disch:=omega) only [Sh.out h0,go_sem,seval,↓reduceIte]
          ·simp only [XI] at h0;exact ⟨m++ [2],hm.yes (by simp [h0]) trivial,Weak.mk (by simp (disch:=omega) only [ZZ,Yg,go_sem,seval])⟩
          ·simp only [XA] at h0;refine (W0 t.fixed 0 100000).use (Zc ?_);refine gF ?_ ?_<;>intro h1<;>simp (disch:=omega) only [Sh.out h1,go_sem,seval,↓reduceIte]
           ·simp only [XI] at h1;exact ⟨m++ [2],hm.yes (by simp [h1]) trivial,Weak.mk (by simp (disch:=omega) only [ZZ,Yg,go_sem,seval])⟩
           ·simp only [XA] at h1;refine (W0 t.perMile 0 100).use (Zc ?_);refine gF ?_ ?_<;>intro h2<;>simp (disch:=omega) only [Sh.out h2,go_sem,seval,↓reduceIte]
            ·simp only [XI] at h2;exact ⟨m++ [2],hm.yes (by simp [h2]) trivial,Weak.mk (by simp (disch:=omega) only [ZZ,Yg,go_sem,seval])⟩
            ·simp only [XA] at h2;refine (W0 t.perTick 0 100).use (Zc ?_);refine cD ?_ ?_<;>intro h3<;>simp (disch:=omega) only [Sh.out h3,go_sem,seval,↓reduceIte]
             ·simp only [XI] at h3;exact ⟨m++ [2],hm.yes (by simp [h3]) trivial,Weak.mk (by simp (disch:=omega) only [ZZ,Yg,go_sem,seval])⟩
             ·simp only [XA] at h3;exact ⟨m,hm.no (by grind),Weak.mk (by simp (disch:=omega) only [ZZ,Yg,go_sem,seval])⟩
         ·clear hm hml;intro m hm;refine Zf [] _ _ _ _ (BK ?_);have hml:=hm.len;exact ⟨m,hm.to Za (by rw [hty]),2,by simp (disch:=omega) only [go_sem,seval]⟩
def typesOk (n:Net) (l:List Typ):Prop:=rng l.length 1 6=true/\ ∀i,i<l.length->KY n l i
theorem tM (n:Net) (l:List Typ) (c:Bool) (hw:n.wf 1048576) (hl:l.length<=1048576) (hlw: ∀t∈l,t.wf 1048576) :
  ACalls Tryz.prog 127 [.p (AJ n),.p (.list c (l.map Wq))] [] fun x H'=> ∃m:List Flt,FR (pF 20) (typesOk n l) (1+9*l.length) m/\x= .sl 0 0 m.length m.length/\H'= [.elems 2 (m.map eF)]:=by
 refine Xa [2] Tryz.func127 rfl uW ?_;simp (disch:=omega) only [Tryz.f127,go_sem,seval];refine Zr (Weak.ofNil 5 2 (by simp (disch:=omega) only [go_sem,seval]) Zb (Weak.refl _ _ _)) ?_;refine ZC [1,2] (fun m:List Flt=> [(5,.sl 1 0 m.length m.length)]) (fun m=>ZZ n++ [.elems 2 (m.map eF)]) (fun m=>FR (pF 20) (rng l.length 1 6=true) 1 m) ?_ ?_
 ·refine Zc ?_;refine (W0 l.length 1 6).use (Zc ?_);refine ZD ?_ ?_<;>intro h
  ·simp only [XI] at h;exact ⟨[(4,[])],⟨Zb,by simp [h],by simp [pF]⟩,Weak.mk (by simp (disch:=omega) only [ZZ,go_sem,seval])⟩
  ·simp only [XA] at h;exact ⟨[],FR.nil h,Weak.mk (by simp (disch:=omega) only [ZZ,go_sem,seval])⟩
 ·intro m hm;refine Zf [] _ _ _ _ (JZ ?_);refine Zl [1,2] (fun q:Nat×List Flt=> [(5,.sl 1 0 q.2.length q.2.length),(6,.p (.int .i64 q.1))]) (fun q=>ZZ n++ [.elems 2 (q.2.map eF)]) (fun q=>q.1<=l.length/\FR (pF 20) (rng l.length 1 6=true/\ ∀j,j<q.1->KY n l j) (1+9*q.1) q.2) (fun q=>l.length-q.1) (0,m) ⟨Zb,hm.to Zb Zb⟩ (Weak.mk ?_) ?_
  ·simp (disch:=omega) only [ZZ,go_sem,seval]
  ·clear hm;rintro ⟨k,m⟩ ⟨hk,hm⟩;simp only at hk hm;have hml:=hm.len;refine JZ ?_;refine cD ?_ ?_<;>intro h<;>simp (disch:=omega) only [Sh.out h,go_sem,seval,↓reduceIte]
   ·have hk2:k<l.length:=Za
    have hI:VQ (k:Int):=Za
    have hdl:=Qd k hI;refine ((Sm n l c k hk2 hl hw (hlw _ (Zo hk2))).frozenE).useV fun e he=>Zc ?_;have hel:=he.len;refine Zl [1,2,6,7] (fun q:Nat×List Flt=> [(5,.sl 1 0 q.2.length q.2.length),(8,.p (.int .i64 q.1))]) (fun q=>ZZ n++ [.elems 2 (q.2.map eF)]) (fun q=>q.1<=e.length/\FR (pF 20) ((rng l.length 1 6=true/\ ∀j,j<k->KY n l j)/\q.1=0) (1+9*k+q.1) q.2) (fun q=>e.length-q.1) (0,m) ⟨Zb,hm.to Zb Zb⟩ (Weak.mk ?_) ?_
    ·simp (disch:=omega) only [ZZ,go_sem,seval]
    ·clear hm hml;rintro ⟨j,m⟩ ⟨hj,hm⟩;simp only at hj hm;have hml:=hm.len;refine JZ ?_;refine ZD ?_ ?_<;>intro h2
     ·have hj2:j<e.length:=Za
      refine Z5 9 mixed Ze Ze (Zc ?_);refine Zq (Kf k hI) (Zc ?_);exact ⟨(j+1,m++ [(nth e j,KL k)]),⟨Za,(hm.yes (c:=False) Zb (by grind [pF])).to Za Zb⟩,Za,wk⟩
     ·have hjl:j=e.length:=Za
      subst hjl;exact ⟨(k+1,m),⟨Za,hm.to Za (by simp only [Zn,and_assoc];rw [<- he.emp,List.eq_nil_iff_length_eq_zero])⟩,Za,wk⟩
   ·have hkn:k=l.length:=Za
    subst hkn;exact ⟨m,hm.to Za (by rw [typesOk]),1,by simp (disch:=omega) only [go_sem,seval]⟩
theorem DV (n lo hi:Int):PC 232 [.p (.int .i64 n),.p (.int .i64 lo),.p (.int .i64 hi)] (.bool (rng n lo hi)):=by
 refine Zd Tryz.func232 rfl xG ?_;simp (disch:=omega) only [Tryz.f232,go_sem,seval];refine gT ?_ ?_<;>intro h<;>simp (disch:=omega) only [Sh.out h,go_sem,seval,↓reduceIte]
 all_goals (simp [rng];first | done | omega | (rw [Yp];simp;omega))
def loadOk (l:List Int) (d:Int):Bool:=decide ((l.length:Int)=d)&&l.all fun n=>rng n 0 1000
theorem Sd (l:List Int) (c:Bool) (d:Int) (hl:l.length<=1048576):PC 231 [.p (.list c (l.map eI)),.p (.int .i64 d)] (.bool (loadOk l d)):=by
 refine Zd Tryz.func231 rfl xF ?_;simp (disch:=omega) only [Tryz.f231,go_sem,seval];refine cD ?_ ?_<;>intro h2<;>simp (disch:=omega) only [Sh.out h2,go_sem,seval]
 ·simp [loadOk,h2]
 ·simp only [XF] at h2;subst h2;refine Zl [0] (fun k:Nat=> [(5,.p (.int .i64 k))]) (fun _=> []) (fun k=>k<=l.length/\ ∀j,j<k->rng (nth l j) 0 1000=true) (fun k=>l.length-k) 0 Zb (Weak.mk ?_) ?_
  ·simp (disch:=omega) only [go_sem,seval,↓reduceIte]
  ·rintro k ⟨hk,hno⟩;refine Zc ?_;refine cD ?_ ?_<;>intro h3<;>simp (disch:=omega) only [Sh.out h3,go_sem,seval,↓reduceIte]
   ·have hk2:k<l.length:=Za
    have hbad:rng (nth l k) 0 1000=false->loadOk l l.length=false:=fun h4=>by
     grind [Zo,loadOk]
    repeat' (first | (refine Vy (fun hq=> ?_) (fun hq=> ?_)<;>(try simp only [Zp,Yc,XF] at hq)<;>simp (disch:=omega) only [Sh.out hq,go_sem,seval]) | (refine gF ?_ ?_<;>intro hq<;>simp (disch:=omega) only [Sh.out hq,go_sem,seval,↓reduceIte]) | (refine cD ?_ ?_<;>intro hq<;>simp (disch:=omega) only [Sh.out hq,go_sem,seval,↓reduceIte]))
    all_goals first
     | (rw [hbad (by simp [rng];omega)])
     | exact ⟨k+1,⟨Za,Zn.2 ⟨hno,by simp [rng];omega⟩⟩,Za,wk⟩
   ·have:l.all (fun n=>rng n 0 1000)=true:=by
     rw [Zu];intro x hx;obtain ⟨j,hj,rfl⟩:=ZW.1 hx
     grind [Zh]
    simp [loadOk,this]
def stpOk (s:Stp):Bool:=decide ((s.place= -1/\s.opn=0/\s.cls=0/\s.serv=0)\/(0<=s.place/\0<=s.opn/\s.opn<=s.cls/\s.cls<=4096/\0<=s.serv/\s.serv<=4096))
def Sx (s:Stp):Int:=if stpOk s=true then 0 else 2
theorem TO (s:Stp):PC 233 [.p (Hj s)] (.int .i64 (Sx s)):=by
 refine Zd Tryz.func233 rfl xH ?_;simp (disch:=omega) only [Tryz.f233,go_sem,seval]
 repeat' (first | (refine gT ?_ ?_<;>intro hq<;>simp (disch:=omega) only [Sh.out hq,go_sem,seval,↓reduceIte]) | (refine gF ?_ ?_<;>intro hq<;>simp (disch:=omega) only [Sh.out hq,go_sem,seval,↓reduceIte]) | (refine cD ?_ ?_<;>intro hq<;>simp (disch:=omega) only [Sh.out hq,go_sem,seval,↓reduceIte]))
 all_goals (simp only [Sx,stpOk,Zp])
 all_goals first
  | (exfalso;omega)
  | (rw [if_pos Za])
  | (rw [if_neg Za])
def Um (l:List Ord) (i:Nat):Bool:=(List.range i).all fun j=>decide ((nth l j).name≠(nth l i).name)
theorem JK {l:List Ord} {i:Nat} :Um l i=true↔ ∀j,j<i->(nth l j).name≠(nth l i).name:=by simp [Um]
def WS (b:Bool) (e:Int):List Int:=if b=true then [] else [e]
theorem V0 (b:Bool) (e:Int):(WS b e).length<=1:=by grind [WS]
theorem UK {b:Bool} {e:Int} {m p:List Int} (h:m=p) (hb:b=true):m=p++WS b e:=by simp [WS,hb,h]
theorem VO {b:Bool} {e:Int} {m p:List Int} (h:m=p) (hb:b=false):m++ [e]=p++WS b e:=by simp [WS,hb,h]
def YX (t:Ord):AM.Obj:= .cells [.p (.str t.name),.p (.list t.load_c (t.load.map eI)),.p (.int .i64 t.pick.place),.p (.int .i64 t.pick.opn),.p (.int .i64 t.pick.cls),.p (.int .i64 t.pick.serv),.p (.int .i64 t.drp.place),.p (.int .i64 t.drp.opn),.p (.int .i64 t.drp.cls),.p (.int .i64 t.drp.serv),.p (.int .i64 t.skills),.p (.int .i64 t.penalty),.p (.int .i64 t.split),.p (.int .i64 t.last),.p (.int .i64 t.now),.p (.bool t.off)]
def G8 (t:Ord):Bool:=decide (t.pick.place≠ -1)&&decide (t.drp.place≠ -1)
def argOk (t:Ord) (ty:Int):Bool:=rng t.penalty (-1) 1000000&&rng t.split 1 4&&decide (¬(1<t.split/\G8 t=true)/\ -1<=t.last/\t.last<ty/\ -1<=t.now/\t.now<ty)
def YK (np:Nat) (d ty:Int) (l:List Ord) (i:Nat):List Int:=WS (nameOk (nth l i).name) 5++WS (Um l i) 6++WS (loadOk (nth l i).load d) 17++WS ((rng (nth l i).pick.place (-1) ((np:Int)-1)&&rng (nth l i).drp.place (-1) ((np:Int)-1))) 11++WS (decide (¬((nth l i).pick.place= -1/\(nth l i).drp.place= -1))) 19++WS ((stpOk (nth l i).pick&&stpOk (nth l i).drp)) 14++WS (rng (nth l i).skills 0 1073741823) 18++WS (argOk (nth l i) ty) 2
theorem Bk (np:Nat) (d ty:Int) (l:List Ord) (i:Nat):(YK np d ty l i).length<=8:=by
 grind [V0,YK,ZI]
theorem KW {P Q:Prop} (h:Q) (e:Q->P:=by intro h;simp (disch:=omega) only [YX,go_sem,seval];exact h):P:=e h
theorem Sn (np:Nat) (d ty:Int) (l:List Ord) (c:Bool) (i:Nat) (hi:i<l.length) (hl:l.length<=1048576) (hnp:np<=1048576) (ht:(nth l i).wf 1048576) :
  ACalls Tryz.prog 175 [.p (.int .i64 (np:Nat)),.p (.int .i64 d),.p (.int .i64 ty),.p (.list c (l.map eOrd)),.p (.int .i64 (i:Nat))] [] fun x H'=>x= .sl 0 0 (YK np d ty l i).length (YK np d ty l i).length/\H'= [.elems 1 ((YK np d ty l i).map eI)]:=by
 suffices hh:ACalls Tryz.prog 175 [.p (.int .i64 (np:Nat)),.p (.int .i64 d),.p (.int .i64 ty),.p (.list c (l.map eOrd)),.p (.int .i64 (i:Nat))] [] fun x H'=> ∃m:List Int,m=YK np d ty l i/\x= .sl 0 0 m.length m.length/\H'= [.elems 1 (m.map eI)] by
  grind
 refine Xa [3] Tryz.func175 rfl wE ?_;simp (disch:=omega) only [Tryz.f175,go_sem,seval];have hty:YK np d ty l i=WS (nameOk (nth l i).name) 5++WS (Um l i) 6++WS (loadOk (nth l i).load d) 17++WS ((rng (nth l i).pick.place (-1) ((np:Int)-1)&&rng (nth l i).drp.place (-1) ((np:Int)-1))) 11++WS (decide (¬((nth l i).pick.place= -1/\(nth l i).drp.place= -1))) 19++WS ((stpOk (nth l i).pick&&stpOk (nth l i).drp)) 14++WS (rng (nth l i).skills 0 1073741823) 18++WS (argOk (nth l i) ty) 2:=rfl
 have hleng: ∀m:List Int,∀p:List Int,m=p->p.length<=8->m.length<=8:=fun m p h1 h2=>by grind
 generalize hga:nth l i=t at ht hty ⊢;have hname:=ht.1;have hload:=ht.2.1;refine Zr (Weak.ofNil 11 1 (by simp (disch:=omega) only [go_sem,seval]) Zb (Weak.refl _ _ _)) ?_;refine ZC [0,1,2,3,4,12] (fun m:List Int=> [(11,.sl 1 0 m.length m.length)]) (fun m=> [YX t,.elems 1 (m.map eI)]) (fun m=>m=WS (nameOk t.name) 5) ?_ ?_
 ·refine Zc ?_;refine (Ng t.name hname).use (Zc ?_);refine cD ?_ ?_<;>intro h<;>simp (disch:=omega) only [Sh.out h,go_sem,seval,↓reduceIte]
  ·simp only [XI] at h;exact ⟨[5],by simp [WS,h],Weak.mk (by simp (disch:=omega) only [YX,go_sem,seval])⟩
  ·simp only [XA] at h;exact ⟨[],by simp [WS,h],Weak.mk (by simp (disch:=omega) only [YX,go_sem,seval])⟩
 ·skip
  intro m hm;refine Zf [5] _ _ _ _ (KW ?_)
  have hml:m.length<=8:=by
   grind [V0]
  refine ZC [0,1,2,12] (fun m:List Int=> [(11,.sl 1 0 m.length m.length)]) (fun m=> [YX t,.elems 1 (m.map eI)]) (fun m=>m=WS (nameOk t.name) 5++WS (Um l i) 6) ?_ ?_
  ·refine Zc ?_;refine Zl [0,1,2,3,4,11,12] (fun k:Nat=> [(13,.p (.int .i64 k))]) (fun _=> [YX t,.elems 1 (m.map eI)]) (fun k=>k<=i/\ ∀j,j<k->(nth l j).name≠(nth l i).name) (fun k=>i-k) 0 Zb (Weak.mk ?_) ?_
   ·simp (disch:=omega) only [YX,go_sem,seval,↓reduceIte]
   ·rintro k ⟨hk,hno⟩;refine KW ?_;refine cD ?_ ?_<;>intro h3<;>simp (disch:=omega) only [Sh.out h3,go_sem,seval,↓reduceIte]
    ·have hk2:k<l.length:=Za
     refine Xn (Zc ?_);refine ZD ?_ ?_<;>intro h4
     ·exact ⟨m++ [6],VO hm (by grind [JK]),wk⟩
     ·exact ⟨k+1,⟨Za,Zn.2 ⟨hno,by grind⟩⟩,Za,wk⟩
    ·have hki:k=i:=Za
     subst hki;exact ⟨m,UK hm (JK.2 hno),wk⟩
  ·clear hm hml;intro m hm;refine Zf [10] _ _ _ _ (KW ?_)
   have hml:m.length<=8:=by
    grind [V0]
   refine ZC [0,2,12] (fun m:List Int=> [(11,.sl 1 0 m.length m.length)]) (fun m=> [YX t,.elems 1 (m.map eI)]) (fun m=>m=WS (nameOk t.name) 5++WS (Um l i) 6++WS (loadOk t.load d) 17) ?_ ?_
   ·refine Zc ?_;refine (Sd t.load t.load_c d hload).use (Zc ?_);refine cD ?_ ?_<;>intro h<;>simp (disch:=omega) only [Sh.out h,go_sem,seval,↓reduceIte]
    ·simp only [XI] at h;exact ⟨m++ [17],VO hm (h),Weak.mk (by simp (disch:=omega) only [YX,go_sem,seval])⟩
    ·simp only [XA] at h;exact ⟨m,UK hm (h),Weak.mk (by simp (disch:=omega) only [YX,go_sem,seval])⟩
   ·clear hm hml;intro m hm;refine Zf [12] _ _ _ _ (KW ?_)
    have hml:m.length<=8:=by
     grind [ZI,V0]
    refine ZC [2,12] (fun m:List Int=> [(11,.sl 1 0 m.length m.length)]) (fun m=> [YX t,.elems 1 (m.map eI)]) (fun m=>m=WS (nameOk t.name) 5++WS (Um l i) 6++WS (loadOk t.load d) 17++WS ((rng t.pick.place (-1) ((np:Int)-1)&&rng t.drp.place (-1) ((np:Int)-1))) 11) ?_ ?_
    ·refine Zc ?_;refine (DV t.pick.place (-1) ((np:Int)-1)).use (Zc ?_);refine AD ?_ ?_<;>intro h
     ·simp only [XI] at h;exact ⟨m++ [11],VO hm (by simp [h]),Weak.mk (by simp (disch:=omega) only [YX,go_sem,seval])⟩
     ·simp only [XA] at h;refine (DV t.drp.place (-1) ((np:Int)-1)).use (Zc ?_);refine ZD ?_ ?_<;>intro h2
      ·simp only [XI] at h2;exact ⟨m++ [11],VO hm (by simp [h2]),Weak.mk (by simp (disch:=omega) only [YX,go_sem,seval])⟩
      ·simp only [XA] at h2;exact ⟨m,UK hm (by simp [h,h2]),Weak.mk (by simp (disch:=omega) only [YX,go_sem,seval])⟩
    ·clear hm hml;intro m hm;refine Zf [14] _ _ _ _ (KW ?_)
     have hml:m.length<=8:=by
      grind [ZI,V0]
     refine ZC [2,12] (fun m:List Int=> [(11,.sl 1 0 m.length m.length)]) (fun m=> [YX t,.elems 1 (m.map eI)]) (fun m=>m=WS (nameOk t.name) 5++WS (Um l i) 6++WS (loadOk t.load d) 17++WS ((rng t.pick.place (-1) ((np:Int)-1)&&rng t.drp.place (-1) ((np:Int)-1))) 11++WS (decide (¬(t.pick.place= -1/\t.drp.place= -1))) 19) ?_ ?_
     ·refine Zc ?_
      repeat' (first | (refine gT ?_ ?_<;>intro hq<;>simp (disch:=omega) only [Sh.out hq,go_sem,seval]) | (refine V6 (fun hq=> ?_) (fun hq=> ?_)<;>(try simp only [Zp,Yc,XF] at hq)<;>simp (disch:=omega) only [Sh.out hq,go_sem,seval]) | (refine cD ?_ ?_<;>intro hq<;>simp (disch:=omega) only [Sh.out hq,go_sem,seval]))
      all_goals first
       | exact ⟨m++ [19],VO hm (by first | (simp;done) | (simp;omega)),Weak.mk (by simp (disch:=omega) only [YX,go_sem,seval])⟩
       | exact ⟨m,UK hm (by first | (simp;done) | (simp;omega)),Weak.mk (by simp (disch:=omega) only [YX,go_sem,seval])⟩
     ·clear hm hml;intro m hm;refine Zf [16] _ _ _ _ (KW ?_)
      have hml:m.length<=8:=by
       grind [ZI,V0]
      refine ZC [2,12] (fun m:List Int=> [(11,.sl 1 0 m.length m.length)]) (fun m=> [YX t,.elems 1 (m.map eI)]) (fun m=>m=WS (nameOk t.name) 5++WS (Um l i) 6++WS (loadOk t.load d) 17++WS ((rng t.pick.place (-1) ((np:Int)-1)&&rng t.drp.place (-1) ((np:Int)-1))) 11++WS (decide (¬(t.pick.place= -1/\t.drp.place= -1))) 19++WS ((stpOk t.pick&&stpOk t.drp)) 14) ?_ ?_
      ·refine Zc ?_;refine (TO t.pick).use (Zc ?_)
       cases h:stpOk t.pick with
       | false =>
        simp (disch:=omega) only [Sx,h,go_sem,seval];exact ⟨m++ [14],VO hm (by simp []),Weak.mk (by simp (disch:=omega) only [YX,go_sem,seval])⟩
       | true =>
        simp (disch:=omega) only [Sx,h,go_sem,seval];refine (TO t.drp).use (Zc ?_)
        cases h2:stpOk t.drp with
        | false =>
         simp (disch:=omega) only [Sx,h2,go_sem,seval];exact ⟨m++ [14],VO hm (by simp []),Weak.mk (by simp (disch:=omega) only [YX,go_sem,seval])⟩
        | true =>
         simp (disch:=omega) only [Sx,h2,go_sem,seval];exact ⟨m,UK hm (by simp []),Weak.mk (by simp (disch:=omega) only [YX,go_sem,seval])⟩
      ·clear hm hml;intro m hm;refine Zf [18] _ _ _ _ (KW ?_)
       have hml:m.length<=8:=by
        grind [ZI,V0]
       refine ZC [2,12] (fun m:List Int=> [(11,.sl 1 0 m.length m.length)]) (fun m=> [YX t,.elems 1 (m.map eI)]) (fun m=>m=WS (nameOk t.name) 5++WS (Um l i) 6++WS (loadOk t.load d) 17++WS ((rng t.pick.place (-1) ((np:Int)-1)&&rng t.drp.place (-1) ((np:Int)-1))) 11++WS (decide (¬(t.pick.place= -1/\t.drp.place= -1))) 19++WS ((stpOk t.pick&&stpOk t.drp)) 14++WS (rng t.skills 0 1073741823) 18) ?_ ?_
       ·refine Zc ?_;refine (DV t.skills 0 1073741823).use (Zc ?_);refine ZD ?_ ?_<;>intro h
        ·simp only [XI] at h;exact ⟨m++ [18],VO hm (h),Weak.mk (by simp (disch:=omega) only [YX,go_sem,seval])⟩
        ·simp only [XA] at h;exact ⟨m,UK hm (h),Weak.mk (by simp (disch:=omega) only [YX,go_sem,seval])⟩
       ·clear hm hml;intro m hm;refine Zf [20] _ _ _ _ (KW ?_)
        have hml:m.length<=8:=by
         grind [ZI,V0]
        refine ZC [2,11,12] (fun b:Bool=> [(14,.p (.bool b))]) (fun _=> [YX t,.elems 1 (m.map eI)]) (fun b=>b=G8 t) ?_ ?_
        ·refine Zc ?_
         repeat' (first | (refine Vy (fun hq=> ?_) (fun hq=> ?_)<;>(try simp only [Zp,Yc,XF] at hq)<;>simp (disch:=omega) only [Sh.out hq,go_sem,seval]) | (refine V6 (fun hq=> ?_) (fun hq=> ?_)<;>(try simp only [Zp,Yc,XF] at hq)<;>simp (disch:=omega) only [Sh.out hq,go_sem,seval]) | (refine QD (fun hq=> ?_) (fun hq=> ?_)<;>(try simp only [Zp,Yc,XF] at hq)<;>simp (disch:=omega) only [Sh.out hq,go_sem,seval]))
         all_goals refine ⟨G8 t,rfl,Weak.mk ?_⟩
         all_goals (simp (disch:=omega) only [YX,go_sem,seval];simp [G8, *])
        ·rintro b hb;refine Zf [21] _ _ _ _ (KW ?_);refine ZC [] (fun m:List Int=> [(11,.sl 1 0 m.length m.length)]) (fun m=> [YX t,.elems 1 (m.map eI)]) (fun m=>m=WS (nameOk t.name) 5++WS (Um l i) 6++WS (loadOk t.load d) 17++WS ((rng t.pick.place (-1) ((np:Int)-1)&&rng t.drp.place (-1) ((np:Int)-1))) 11++WS (decide (¬(t.pick.place= -1/\t.drp.place= -1))) 19++WS ((stpOk t.pick&&stpOk t.drp)) 14++WS (rng t.skills 0 1073741823) 18++WS (argOk t ty) 2) ?_ ?_
         ·refine Zc ?_;refine (DV t.penalty (-1) 1000000).use (Zc ?_);refine gF ?_ ?_<;>intro h<;>simp (disch:=omega) only [Sh.out h,go_sem,seval,↓reduceIte]
          ·simp only [XI] at h;exact ⟨m++ [2],VO hm (by simp [argOk,h]),Weak.mk (by simp (disch:=omega) only [YX,go_sem,seval])⟩
          ·simp only [XA] at h;refine (DV t.split 1 4).use (Zc ?_);refine gF ?_ ?_<;>intro h2<;>simp (disch:=omega) only [Sh.out h2,go_sem,seval,↓reduceIte]
           ·simp only [XI] at h2;exact ⟨m++ [2],VO hm (by simp [argOk,h2]),Weak.mk (by simp (disch:=omega) only [YX,go_sem,seval])⟩
           ·simp only [XA] at h2
            cases b with
            | true =>
             repeat' (first | (refine gT ?_ ?_<;>intro hq<;>simp (disch:=omega) only [Sh.out hq,go_sem,seval,↓reduceIte]) | (refine gF ?_ ?_<;>intro hq<;>simp (disch:=omega) only [Sh.out hq,go_sem,seval,↓reduceIte]) | (refine cD ?_ ?_<;>intro hq<;>simp (disch:=omega) only [Sh.out hq,go_sem,seval,↓reduceIte]))
             all_goals first
              | exact ⟨m++ [2],VO hm (by rw [argOk,<- hb];first | (simp;done) | (simp;omega)),Weak.mk (by simp (disch:=omega) only [YX,go_sem,seval])⟩
              | exact ⟨m,UK hm (by grind [argOk]),Weak.mk (by simp (disch:=omega) only [YX,go_sem,seval])⟩
            | false =>
             repeat' (first | (refine gT ?_ ?_<;>intro hq<;>simp (disch:=omega) only [Sh.out hq,go_sem,seval,↓reduceIte]) | (refine gF ?_ ?_<;>intro hq<;>simp (disch:=omega) only [Sh.out hq,go_sem,seval,↓reduceIte]) | (refine cD ?_ ?_<;>intro hq<;>simp (disch:=omega) only [Sh.out hq,go_sem,seval,↓reduceIte]))
             all_goals first
              | exact ⟨m++ [2],VO hm (by rw [argOk,<- hb];first | (simp;done) | (simp;omega)),Weak.mk (by simp (disch:=omega) only [YX,go_sem,seval])⟩
              | exact ⟨m,UK hm (by rw [argOk,<- hb,h,h2];first | (simp;done) | (simp;omega)),Weak.mk (by simp (disch:=omega) only [YX,go_sem,seval])⟩
         ·clear hm hml;intro m hm;refine Zf [] _ _ _ _ (KW ?_)
          have hml:m.length<=8:=by
           grind [ZI,V0]
          exact ⟨m,by rw [hm,hty],1,by simp (disch:=omega) only [go_sem,seval]⟩
def XO (np:Nat) (d ty:Int) (l:List Ord) (k:Nat):List Flt:=(if l.length<=10 then [] else [(4,[])])++(List.range k).flatMap fun i=>(YK np d ty l i).map fun e=>(e,KL i)
theorem Bl (np:Nat) (d ty:Int) (l:List Ord) (k:Nat):XO np d ty l (k+1)=XO np d ty l k++(YK np d ty l k).map fun e=>(e,KL k):=by
 simp [XO,Yj]
theorem UI (np:Nat) (d ty:Int) (l:List Ord): ∀k,(XO np d ty l k).length<=1+8*k
 | 0=>by simp [XO];grind
 | k+1=>by
  have h1:=UI np d ty l k;have h2:=Bk np d ty l k;rw [Bl];simp;omega
theorem tN (n:Net) (d ty:Int) (l:List Ord) (c:Bool) (hw:n.wf 1048576) (hl:l.length<=1048576) (hlw: ∀t∈l,t.wf 1048576) :
  ACalls Tryz.prog 128 [.p (AJ n),.p (.int .i64 d),.p (.int .i64 ty),.p (.list c (l.map eOrd))] [] fun x H'=>x= .sl 0 0 (XO n.places.length d ty l l.length).length (XO n.places.length d ty l l.length).length/\H'= [.elems 2 ((XO n.places.length d ty l l.length).map eF)]:=by
 obtain ⟨w1,w2,w3,w4⟩:=hw
 suffices hh:ACalls Tryz.prog 128 [.p (AJ n),.p (.int .i64 d),.p (.int .i64 ty),.p (.list c (l.map eOrd))] [] fun x H'=> ∃m:List Flt,m=XO n.places.length d ty l l.length/\x= .sl 0 0 m.length m.length/\H'= [.elems 2 (m.map eF)] by
  grind
 refine Xa [2] Tryz.func128 rfl uX ?_;simp (disch:=omega) only [Tryz.f128,go_sem,seval];refine Zr (Weak.ofNil 9 2 (by simp (disch:=omega) only [go_sem,seval]) Zb (Weak.refl _ _ _)) ?_;refine ZC [1,2,3,4] (fun m:List Flt=> [(9,.sl 1 0 m.length m.length)]) (fun m=>ZZ n++ [.elems 2 (m.map eF)]) (fun m=>m=XO n.places.length d ty l 0) ?_ ?_
 ·refine Zc ?_;refine ZD ?_ ?_<;>intro h
  ·exact ⟨[(4,[])],by rw [XO,if_neg Za];rfl,Weak.mk (by simp (disch:=omega) only [ZZ,go_sem,seval])⟩
  ·exact ⟨[],by rw [XO,if_pos Za];rfl,Weak.mk (by simp (disch:=omega) only [ZZ,go_sem,seval])⟩
 ·intro m hm;refine Zf [] _ _ _ _ (JZ ?_);refine Zl [1,2,3,4] (fun q:Nat×List Flt=> [(9,.sl 1 0 q.2.length q.2.length),(10,.p (.int .i64 q.1))]) (fun q=>ZZ n++ [.elems 2 (q.2.map eF)]) (fun q=>q.1<=l.length/\q.2=XO n.places.length d ty l q.1) (fun q=>l.length-q.1) (0,m) ⟨Zb,hm⟩ (Weak.mk ?_) ?_
  ·simp (disch:=omega) only [ZZ,go_sem,seval]
  ·clear hm;rintro ⟨k,m⟩ ⟨hk,hm⟩;simp only at hk hm;have hml:=UI n.places.length d ty l k;rw [<- hm] at hml;refine JZ ?_;refine cD ?_ ?_<;>intro h<;>simp (disch:=omega) only [Sh.out h,go_sem,seval,↓reduceIte]
   ·have hk2:k<l.length:=Za
    have hI:VQ (k:Int):=Za
    have hrl:=Bk n.places.length d ty l k;refine ((Sn n.places.length d ty l c k hk2 hl w1 (hlw _ (Zo hk2))).frozen Zb).use (Zc ?_);generalize hre:YK n.places.length d ty l k=e at hrl ⊢;refine Zl [1,2,3,4,10,11] (fun q:Nat×List Flt=> [(9,.sl 1 0 q.2.length q.2.length),(12,.p (.int .i64 q.1))]) (fun q=>ZZ n++ [.elems 2 (q.2.map eF)]) (fun q=>q.1<=e.length/\q.2=XO n.places.length d ty l k++(e.take q.1).map fun e=>(e,KL k)) (fun q=>e.length-q.1) (0,m) ⟨Zb,by simp [hm]⟩ (Weak.mk ?_) ?_
    ·simp (disch:=omega) only [ZZ,go_sem,seval]
    ·clear hm hml;rintro ⟨j,m⟩ ⟨hj,hm⟩;simp only at hj hm;have hml:=UI n.places.length d ty l k
     have hml2:m.length<=1+8*k+8:=by grind
     refine JZ ?_;refine ZD ?_ ?_<;>intro h2
     ·have hj2:j<e.length:=Za
      refine Z5 9 mixed Ze Ze (Zc ?_);refine Zq (Kf k hI) (Zc ?_);refine ⟨(j+1,m++ [(nth e j,KL k)]),⟨Za,?_⟩,Za,wk⟩
      grind [Xw,Zh]
     ·have hjl:j=e.length:=Za
      subst hjl;refine ⟨(k+1,m),⟨Za,?_⟩,Za,wk⟩
      grind [Bl]
   ·have hkn:k=l.length:=Za
    subst hkn;exact ⟨m,hm,1,by simp (disch:=omega) only [go_sem,seval]⟩
structure OrdOk (np:Nat) (d ty:Int) (l:List Ord) (i:Nat):Prop where
 name:nameOk (nth l i).name=true
 twin: ∀j,j<i->(nth l j).name≠(nth l i).name
 load:loadOk (nth l i).load d=true
 pick: -1<=(nth l i).pick.place/\(nth l i).pick.place<np
 drp: -1<=(nth l i).drp.place/\(nth l i).drp.place<np
 one: ¬((nth l i).pick.place= -1/\(nth l i).drp.place= -1)
 pstp:stpOk (nth l i).pick=true
 dstp:stpOk (nth l i).drp=true
 skills:0<=(nth l i).skills/\(nth l i).skills<=1073741823
 arg:argOk (nth l i) ty=true
theorem mZ {b:Bool} {e:Int} :WS b e= []↔b=true:=by grind [WS]
theorem HF {np:Nat} {d ty:Int} {l:List Ord} {i:Nat} :YK np d ty l i= []↔OrdOk np d ty l i:=by
 simp only [YK,U0,mZ,Zy,Zp,rng,JK]
 constructor
 ·rintro ⟨⟨⟨⟨⟨⟨⟨a1,a2⟩,a3⟩,a4⟩,a5⟩,a6⟩,a7⟩,a8⟩;exact ⟨a1,a2,a3,Za,Za,a5,a6.1,a6.2,a7,a8⟩
 ·intro h;obtain ⟨b1,b2⟩:=h.pick;obtain ⟨b3,b4⟩:=h.drp;exact ⟨⟨⟨⟨⟨⟨⟨h.name,h.twin⟩,h.load⟩,Za,Za⟩,h.one⟩,h.pstp,h.dstp⟩,h.skills⟩,h.arg⟩
def ordersOk (np:Nat) (d ty:Int) (l:List Ord):Prop:=l.length<=10/\ ∀i,i<l.length->OrdOk np d ty l i
theorem LB {np:Nat} {d ty:Int} {l:List Ord} :XO np d ty l l.length= []↔ordersOk np d ty l:=by
 simp_all [XO,HF,ordersOk]
theorem Nm {np:Nat} {d ty:Int} {l:List Ord} (hl:l.length<=1048576): ∀f∈XO np d ty l l.length,pF 20 f:=by
 intro f hf;simp only [XO,Xr,W2,ZS,XM] at hf;rcases hf with hf | ⟨i,hi,e,he,rfl⟩
 ·grind [pF]
 ·exact Qd i Za
theorem NC (n:Int) (h0:0<=n) (hn:n<=4611686018427387904):PC 234 [.p (.int .i64 n)] (.str (dec n.toNat)):=by
 refine Zd Tryz.func234 rfl xI ?_;simp (disch:=omega) only [Tryz.f234,go_sem,seval];refine Zl [] (fun q:Int×List UInt8=> [(0,.p (.int .i64 q.1)),(3,.p (.str q.2))]) (fun _=> []) (fun q=>0<=q.1/\q.1<=n/\dec q.1.toNat++q.2=dec n.toNat) (fun q=>q.1.toNat) (n,[]) (by simp [h0]) (Weak.mk ?_) ?_
 ·simp (disch:=omega) only [go_sem,seval]
 ·rintro ⟨m,s⟩ ⟨hm,hmn,hs⟩;simp only at hm hmn hs;have hl:=Oj _ n.toNat (Nat.lt_succ_self _)
  have hl2:(dec m.toNat).length+s.length=(dec n.toNat).length:=by grind
  simp (disch:=first | omega | (simp only [Zz,ZA,ZI,ZM,ZY,Xf]<;>omega)) only [go_sem,seval];refine cD ?_ ?_<;>intro h<;>simp (disch:=omega) only [Sh.out h,go_sem,seval,↓reduceIte]
  ·simp (disch:=first | omega | (simp only [Zz,ZA,ZI,ZM,ZY,Xf]<;>omega)) only [go_sem,seval]
   have h2: ¬m.toNat<10:=Za
   have e1:(48+m%10).toNat=48+m.toNat%10:=Za
   have e2:(m / 10).toNat=m.toNat / 10:=Za
   refine ⟨(m / 10,UInt8.ofNat (48+m%10).toNat::s),⟨Za,Za,?_⟩,Za,Weak.mk ?_⟩
   ·simp only [e1,e2];rw [<- hs,dec.eq_def m.toNat,dif_neg h2];simp
   ·simp (disch:=omega) only [go_sem,seval]
  ·simp (disch:=first | omega | (simp only [Zz,ZA,ZI,ZM,ZY,Xf]<;>omega)) only [go_sem,seval]
   have h2:m.toNat<10:=Za
   have e1:(48+m).toNat=48+m.toNat:=Za
   rw [<- hs,dec.eq_def m.toNat,dif_pos h2,e1]
   rfl
def lQ (n:Int) (p:Int×Int):Bool:=decide (0<=p.1/\p.1<n)&&decide (0<=p.2/\p.2<n)&&decide (¬p.1=p.2)
def atW (word:List UInt8) (i:Nat):List UInt8:=word++ [32]++dec i
def SM (n:Int) (word:List UInt8) (sm:Int×Int->Int×Int->Bool) (l:List (Int×Int)) (i:Nat):List (Int×List UInt8) :=
 if lQ n (nth l i)=false then [(2,atW word i)] else if (l.take i).any (sm (nth l i)) then [(6,atW word i)] else []
def Mo (word:List UInt8) (l:List (Int×Int)):List (Int×List UInt8):=if 16<l.length then [(4,word)] else []
def Jm (n:Int) (word:List UInt8) (sm:Int×Int->Int×Int->Bool) (l:List (Int×Int)) (k:Nat):List (Int×List UInt8):=Mo word l++(List.range k).flatMap (SM n word sm l)
theorem FX (n word sm l k):Jm n word sm l (k+1)=Jm n word sm l k++SM n word sm l k:=by grind [Jm,Yj]
theorem FY (n word sm l):Jm n word sm l 0=Mo word l:=by simp [Jm]
theorem kT (n word sm l i):(SM n word sm l i).length<=1:=by grind [SM]
theorem AT (n word sm l): ∀k,(Jm n word sm l k).length<=k+1:=by
 intro k
 induction k with
 | zero=>grind [FY,Mo]
 | succ k ih=>grind [FX,kT]
def chk (n:Int) (ap be:List (Int×Int)):List (Int×List UInt8) :=
 Jm n [97,112,97,114,116] (fun p q=>decide (p=q\/(p.1=q.2/\p.2=q.1))) ap ap.length++Jm n [98,101,102,111,114,101] (fun p q=>decide (p=q)) be be.length
def Dh (turned:Bool) (p q:Int×Int):Bool:=decide (q.1=p.1/\q.2=p.2)||(turned&&decide (q.1=p.2/\q.2=p.1))
theorem fO : Dh true=fun p q=>decide (p=q\/(p.1=q.2/\p.2=q.1)):=by
 funext p q
 simp only [Dh,Wl,Zay]
 grind
theorem Sr : Dh false=fun p q=>decide (p=q):=by
 funext p q
 simp only [Dh,U2,Bool.or_false]
 grind
def tw (turned:Bool) (l:List (Int×Int)) (p:Int×Int) (j:Nat):Bool:=(l.take j).any (Dh turned p)
theorem nO (turned l p):tw turned l p 0=false:=by simp [tw]
theorem nN (turned:Bool) (l:List (Int×Int)) (p:Int×Int) (j:Nat) (h:j<l.length):tw turned l p (j+1)=(tw turned l p j||Dh turned p (nth l j)):=by
 rw [tw,tw,Xw h,List.any_append,Zh h];simp
theorem I0 (n:Int) (word:List UInt8) (l:List (Int×Int)) (c:Bool) (turned:Bool) (hw:word.length<=1000) (hl:l.length<=1048576) :
  ACalls Tryz.prog 176 [.p (.int .i64 n),.p (.list c (l.map eP)),.p (.str word),.p (.bool turned)] [] fun x H'=>x= .sl 0 0 (Jm n word (Dh turned) l l.length).length (Jm n word (Dh turned) l l.length).length/\H'= [.elems 2 ((Jm n word (Dh turned) l l.length).map eF)]:=by
 refine E9 [2] (fn:=Tryz.f176) Zb Tryz.func176 rfl wF ?_;simp (disch:=omega) only [Tryz.f176,go_sem,seval];refine Zr (Weak.ofNil 9 2 (by simp (disch:=omega) only [go_sem,seval]) Zb (Weak.refl _ _ _)) (Zc ?_);refine ZC [0,1,2,3] (fun _:Unit=> [(9,.sl 0 0 (Mo word l).length (Mo word l).length)]) (fun _=> [.elems 2 ((Mo word l).map eF)]) (fun _=>True) ?_ ?_
 ·refine Zc ?_;refine cD ?_ ?_<;>intro h<;>simp (disch:=omega) only [Sh.out h,go_sem,seval,↓reduceIte]
  ·refine ⟨(),Weak.mk ?_⟩
   have h2:16<l.length:=Za
   simp (disch:=omega) only [Mo,h2,go_sem,seval,↓reduceIte]
  ·refine ⟨(),Weak.mk ?_⟩
   have h2: ¬ 16<l.length:=Za
   simp (disch:=omega) only [Mo,h2,go_sem,seval,↓reduceIte]
 ·intro _ _;refine Zf [] _ _ _ _ (Zc ?_);refine Zl [0,1,2,3] (fun k:Nat=> [(9,.sl 0 0 (Jm n word (Dh turned) l k).length (Jm n word (Dh turned) l k).length),(10,.p (.int .i64 k))]) (fun k=> [.elems 2 ((Jm n word (Dh turned) l k).map eF)]) (fun k=>k<=l.length) (fun k=>l.length-k) 0 Zb (Weak.mk ?_) ?_
  ·simp (disch:=omega) only [FY,go_sem,seval,↓reduceIte]
  ·intro k hk;have hfl:=AT n word (Dh turned) l k;have hdl:=Oj _ k (Nat.lt_succ_self _);refine Zc ?_;refine cD ?_ ?_<;>intro h<;>simp (disch:=omega) only [Sh.out h,go_sem,seval,↓reduceIte]
   ·have hk2:k<l.length:=Za
    simp (disch:=first | omega | (simp only [Zz,ZA,ZI,ZM,ZY,Xf]<;>omega)) only [go_sem,seval];refine (NC (k:Int) Za Za).use ?_;simp (disch:=first | omega | (simp only [Zz,ZA,ZI,ZM,ZY,Xf]<;>omega)) only [go_sem,seval];have hs:=FX n word (Dh turned) l k
    have hbad:lQ n (nth l k)=false->SM n word (Dh turned) l k= [(2,word++ [32]++dec k)]:=fun e=>by simp [SM,e,atW]
    repeat' (first | (refine Vy (fun hq=> ?_) (fun hq=> ?_)<;>(try simp only [Zp,Yc,XF] at hq)<;>simp (disch:=omega) only [Sh.out hq,go_sem,seval]) | (refine gF ?_ ?_<;>intro hq<;>simp (disch:=omega) only [Sh.out hq,go_sem,seval,↓reduceIte]) | (refine cD ?_ ?_<;>intro hq<;>simp (disch:=omega) only [Sh.out hq,go_sem,seval,↓reduceIte]))
    all_goals try (
     have e:=hbad (by simp [lQ];omega)
     exact ⟨k+1,Za,Za,Weak.mk (by simp (disch:=omega) only [hs,e,go_sem,seval])⟩)
    have hok:lQ n (nth l k)=true:=by simp [lQ];omega
    refine Zl [0,1,2,3,9,10,11,12,13] (fun j:Nat=> [(14,.p (.bool (tw turned l (nth l k) j))),(15,.p (.int .i64 j))]) (fun _=> [.elems 2 ((Jm n word (Dh turned) l k).map eF)]) (fun j=>j<=k) (fun j=>k-j) 0 Zb (Weak.mk ?_) ?_
    ·simp (disch:=omega) only [nO,go_sem,seval,↓reduceIte]
    ·intro j hj;refine Zc ?_;refine cD ?_ ?_<;>intro h4<;>simp (disch:=omega) only [Sh.out h4,go_sem,seval,↓reduceIte]
     ·have hts:=nN turned l (nth l k) j Za;generalize tw turned l (nth l k) j=q at hts ⊢
      repeat' (first | (refine gT ?_ ?_<;>intro hq<;>simp (disch:=omega) only [Sh.out hq,go_sem,seval,↓reduceIte]) | (refine gF ?_ ?_<;>intro hq<;>simp (disch:=omega) only [Sh.out hq,go_sem,seval,↓reduceIte]) | (refine QD (fun hq=> ?_) (fun hq=> ?_)<;>(try simp only [Zp,Yc,XF] at hq)<;>simp (disch:=omega) only [Sh.out hq,go_sem,seval]))
      all_goals refine ⟨j+1,Za,Za,Weak.mk ?_⟩
      all_goals clear hs hbad hfl hdl
      all_goals simp (disch:=omega) only [hts,go_sem,seval]
      all_goals simp [Dh, *]
      all_goals first | omega | (simp [Dh, *] at hts;exact hts)
     ·have hjk:j=k:=Za
      subst hjk;refine cD ?_ ?_<;>intro h5<;>simp (disch:=omega) only [Sh.out h5,go_sem,seval,↓reduceIte]
      ·have e:SM n word (Dh turned) l j= [(6,word++ [32]++dec j)]:=by
        have h6:(l.take j).any (Dh turned (nth l j))=true:=h5
        grind [SM,atW]
       exact ⟨j+1,Za,Za,Weak.mk (by simp (disch:=omega) only [hs,e,go_sem,seval])⟩
      ·have e:SM n word (Dh turned) l j= []:=by
        have h6:(l.take j).any (Dh turned (nth l j))=false:=h5
        simp_all [SM]
       exact ⟨j+1,Za,Za,Weak.mk (by simp (disch:=omega) only [hs,e,go_sem,seval])⟩
   ·have:k=l.length:=Za
    subst this;exact ⟨0,by simp (disch:=omega) only [go_sem,seval]⟩
theorem eZ (n:Int) (ap be:List (Int×Int)) (c c':Bool) (hl:ap.length<=1048576) (hl2:be.length<=1048576) :
  ACalls Tryz.prog 130 [.p (.int .i64 n),.p (.list c (ap.map eP)),.p (.list c' (be.map eP))] [] fun x H'=>x= .sl 0 0 (chk n ap be).length (chk n ap be).length/\H'= [.elems 2 ((chk n ap be).map eF)]:=by
 refine As (fn:=Tryz.f130) Zb Tryz.func130 rfl uZ ?_;simp (disch:=omega) only [Tryz.f130,go_sem,seval];have h1:=AT n [97,112,97,114,116] (Dh true) ap ap.length;have h2:=AT n [98,101,102,111,114,101] (Dh false) be be.length;refine (I0 n _ ap c true (by decide) hl).useF (Zc ?_);refine (I0 n _ be c' false (by decide) hl2).useF (Zc ?_);refine ⟨0,?_⟩;rw [chk,<- fO,<- Sr];simp (disch:=omega) only [go_sem,seval]
@[go_sem] theorem ZbO {H:List AM.Obj} {β:Type} {S b o n:Nat} {xs:List PV} {g:β->PV} {m:List β} (hb:(n+m.length)*b<=140737488355328) (hb2:n+m.length<=140737488355328) :
  Uu H (some (S,b)) (.elems S xs) o n (some (m.map g))=if xs.length=n/\Bh S (m.map g)=true then some (.sl o 0 (n+m.length) (n+m.length),Ei H o (.elems S (xs++m.map g))) else none:=by
 simp_all [Tf]
def und (word:List UInt8) (f:Flt):Flt:=(f.1,if f.2= [] then word else word++ [32]++f.2)
theorem KI (word:List UInt8) (l:List Flt) (c:Bool) (hword:word.length<=100) (hl:l.length<=4194306000000) (hp: ∀f∈l,pF 100 f) :
  ACalls Tryz.prog 125 [.p (.str word),.p (.list c (l.map eF))] [] fun x H'=>x= .sl 0 0 (l.map (und word)).length (l.map (und word)).length/\H'= [.elems 2 ((l.map (und word)).map eF)]:=by
 suffices hh:ACalls Tryz.prog 125 [.p (.str word),.p (.list c (l.map eF))] [] fun x H'=> ∃m:List Flt,m=l.map (und word)/\x= .sl 0 0 m.length m.length/\H'= [.elems 2 (m.map eF)] by
  grind
 refine Xa [2] Tryz.func125 rfl uU ?_;simp (disch:=omega) only [Tryz.f125,go_sem,seval];refine Zr (Weak.ofNil 5 2 (by simp (disch:=omega) only [go_sem,seval]) Zb (Weak.refl _ _ _)) ?_;refine Zf [] _ _ _ _ (Zc ?_);refine Zl [0,1] (fun q:Nat×List Flt=> [(5,.sl 0 0 q.2.length q.2.length),(6,.p (.int .i64 q.1))]) (fun q=> [.elems 2 (q.2.map eF)]) (fun q=>q.1<=l.length/\q.2=(l.take q.1).map (und word)) (fun q=>l.length-q.1) (0,[]) ⟨Zb,Zb⟩ (Weak.mk ?_) ?_
 ·simp (disch:=omega) only [go_sem,seval,↓reduceIte]
 ·rintro ⟨k,m⟩ ⟨hk,hm⟩;simp only at hk hm
  have hml:m.length<=k:=by grind
  refine Zc ?_;refine cD ?_ ?_<;>intro h<;>simp (disch:=omega) only [Sh.out h,go_sem,seval,↓reduceIte]
  ·have hk2:k<l.length:=Za
   have hpk:=hp _ (Zo hk2);unfold pF at hpk
   have hnext: ∀f,f=und word (nth l k)->m++ [f]=(l.take (k+1)).map (und word):=fun f hf=>by
    grind [Xw,Zh]
   refine cD ?_ ?_<;>intro h2<;>simp (disch:=omega) only [Sh.out h2,go_sem,seval,↓reduceIte]
   ·have h3: ¬(nth l k).2= []:=Za
    simp (disch:=first | omega | (simp only [Zz,ZA,ZI,ZM,ZY,Xf]<;>omega)) only [go_sem,seval,↓reduceIte];refine ⟨(k+1,m++ [((nth l k).1,word++ [32]++(nth l k).2)]),⟨Za,hnext _ (by simp [und,h3])⟩,Za,Weak.mk (by simp (disch:=first | omega | (simp only [Zz,ZA,ZI,ZM,ZY,Xf]<;>omega)) only [go_sem,seval])⟩
   ·have h3:(nth l k).2= []:=by grind
    refine ⟨(k+1,m++ [((nth l k).1,word)]),⟨Za,hnext _ (by simp [und,h3])⟩,Za,Weak.mk (by simp (disch:=first | omega | (simp only [Zz,ZA,ZI,ZM,ZY,Xf]<;>omega)) only [go_sem,seval])⟩
  ·have hkn:k=l.length:=Za
   subst hkn;exact ⟨m,by grind,0,by simp (disch:=omega) only [go_sem,seval]⟩
theorem tK {n:Int} {ap be:List (Int×Int)} (ha:ap.length<=1048576) (hb:be.length<=1048576): ∀f∈chk n ap be,pF 100 f:=by
 have key: ∀(word:List UInt8) (sm:Int×Int->Int×Int->Bool) (l:List (Int×Int)),word.length<=6->l.length<=1048576-> ∀f∈Jm n word sm l l.length,pF 100 f:=fun word sm l hw hl f hf=>by
  simp only [Jm,Xr,W2,ZS] at hf;rcases hf with hf | ⟨i,hi,hf⟩
  ·grind [Mo,pF]
  ·have hd:=K9 6 i Za
   grind [pF,atW,SM]
 intro f hf;rcases Xr.1 hf with hf | hf
 ·grind
 grind
theorem jQ {n:Int} {ap be:List (Int×Int)} :(chk n ap be).length<=ap.length+be.length+2:=by
 grind [AT,chk]
structure InstOk (x:Inst):Prop where
 net:netOk x.net
 types:typesOk x.net x.types
 orders:ordersOk x.net.places.length (dimsOf x.types) x.types.length x.orders
 rules:chk x.orders.length x.apart x.before= []
theorem FR.und {p:Flt->Prop} {C:Prop} {b:Nat} {l:List Flt} (h:FR p C b l) (word:List UInt8):FR (fun _=>True) C b (l.map (und word)) :=
 ⟨by simpa using h.len,by rw [List.map_eq_nil_iff];exact h.emp,fun _ _=>trivial⟩
theorem tO (x:Inst) (hw:x.wf 1048576):ACalls Tryz.prog 78 [.p (ZF x)] [] fun y H'=> ∃m:List Flt,FR (fun _=>True) (InstOk x) 4194400000000 m/\y= .sl 0 0 m.length m.length/\H'= [.elems 2 (m.map eF)]:=by
 obtain ⟨w1,w2,w3,w4,w5,w6,w7,w8,w9⟩:=hw;refine Xa [] Tryz.func78 rfl Zf8 ?_;simp (disch:=omega) only [Tryz.f78,go_sem,seval];have ol:=UI x.net.places.length (dimsOf x.types) x.types.length x.orders x.orders.length;have oat:=Nm (np:=x.net.places.length) (d:=dimsOf x.types) (ty:=x.types.length) w4;have onil:=LB (np:=x.net.places.length) (d:=dimsOf x.types) (ty:=x.types.length) (l:=x.orders);have cl:=jQ (n:=x.orders.length) (ap:=x.apart) (be:=x.before);have cat:=tK (n:=x.orders.length) w6 w8;refine ((tL x.net w1).frozenE).useV fun m1 h1=> ?_
 refine Zc ?_;have h1p:=h1.pmono (q:=pF 100) fun f hf=>hf.mono Za;have u1:=KI [110,101,116] m1 false Zb h1.len h1p.all;have f1:=h1.und [110,101,116];generalize m1.map (und [110,101,116])=q1 at u1 f1;have f1l:=f1.len;refine (u1).useF (Zc ?_);refine ((tM x.net x.types x.types_c w1 w2 w3).frozenE).useV fun m2 h2=>Zc ?_;have h2p:=h2.pmono (q:=pF 100) fun f hf=>hf.mono Za;have h2l:=h2.len;have u2:=(KI [116,121,112,101,115] m2 false Zb Za h2p.all).frozen Zb;have f2:=h2.und [116,121,112,101,115]
 generalize m2.map (und [116,121,112,101,115])=q2 at u2 f2;have f2l:=f2.len;refine (u2).use (Zc ?_);have u3:=(KI [111,114,100,101,114,115] (XO x.net.places.length (dimsOf x.types) x.types.length x.orders x.orders.length) false Zb Za fun f hf=>(oat f hf).mono Za).frozen Zb;have f3:=(show FR (fun _=>True) (ordersOk x.net.places.length (dimsOf x.types) x.types.length x.orders) (1+8*x.orders.length) (XO x.net.places.length (dimsOf x.types) x.types.length x.orders x.orders.length) from ⟨ol,onil,fun _ _=>trivial⟩).und [111,114,100,101,114,115]
 generalize (XO x.net.places.length (dimsOf x.types) x.types.length x.orders x.orders.length).map (und [111,114,100,101,114,115])=q3 at u3 f3;have f3l:=f3.len;refine Z5 13 mixed Ze Ze (Zc ?_);refine Zq (IT x.types x.types_c w2) (Zc ?_);refine Zq ((tN x.net (dimsOf x.types) x.types.length x.orders x.orders_c w1 w4 w5).frozen Zb) (Zc ?_);refine Zq (u3) (Zc ?_);have u4:=(KI [114,117,108,101,115] (chk x.orders.length x.apart x.before) false Zb Za cat).frozen Zb
 have f4:=(show FR (fun _=>True) (chk x.orders.length x.apart x.before= []) (x.apart.length+x.before.length+2) (chk x.orders.length x.apart x.before) from ⟨cl,Iff.rfl,fun _ _=>trivial⟩).und [114,117,108,101,115];generalize (chk x.orders.length x.apart x.before).map (und [114,117,108,101,115])=q4 at u4 f4;have f4l:=f4.len;refine ((eZ x.orders.length x.apart x.before x.apart_c x.before_c w6 w8).frozen Zb).use (Zc ?_);refine (u4).use (Zc ?_);refine ⟨q1++q2++q3++q4,((f1.app f2).app f3 |>.app f4).to Za ⟨fun ⟨⟨⟨a,b⟩,c⟩,d⟩=>⟨a,b,c,d⟩,fun h=>⟨⟨⟨h.net,h.types⟩,h.orders⟩,h.rules⟩⟩,1,?_⟩
 simp (disch:=omega) only [go_sem,seval]
def Zj (x:Inst):AM.Obj:= .cells [.p (.list x.net.places_c (x.net.places.map eS)),.p (.list x.net.arcs_c (x.net.arcs.map Wp)),.p (.list x.types_c (x.types.map Wq)),.p (.list x.orders_c (x.orders.map eOrd)),.p (.list x.apart_c (x.apart.map eP)),.p (.list x.before_c (x.before.map eP))]
def zSco : Sco:=⟨0,0,0,0⟩
theorem N5 (a:Int):IntKind.i64.wrap ((BitVec.ofInt 64 a&&&BitVec.ofInt 64 1).toNat:Int)=a%2:=by
 grind [BitVec.toNat_ofInt,IntWalk.i64_in]
def sHas (s i:Int):Bool:=decide (0<=i)&&decide (i<=62)&&decide (s.fdiv (2^i.toNat)%2=1)
theorem bF (s i:Int):PC 95 [.p (.int .i64 s),.p (.int .i64 i)] (.bool (sHas s i)):=by
 refine Zd Tryz.func95 rfl Zgh ?_;simp (disch:=omega) only [Tryz.f95,go_sem,seval];refine gT ?_ ?_<;>intro h<;>simp (disch:=omega) only [Sh.out h,go_sem,seval,↓reduceIte]
 ·refine gT ?_ ?_<;>intro h1<;>simp (disch:=omega) only [Sh.out h1,go_sem,seval,↓reduceIte]
  ·have:min i.toNat 64=i.toNat:=Za
   rw [this]
   erw [N5]
   simp [sHas,h,h1]
  grind [sHas]
 ·simp [sHas,h]
def XK (s:Int) (k:Nat):List Int:=((List.range k).filter fun (i:Nat)=>sHas s (i:Int)).map fun (i:Nat)=>(i:Int)
theorem Rx (s:Int):XK s 0= []:=by simp [XK]
theorem cC {s:Int} {k:Nat} (h:sHas s (k:Int)=true):XK s (k+1)=XK s k++ [(k:Int)]:=by grind [XK,Yj]
theorem lE {s:Int} {k:Nat} (h:sHas s (k:Int)=false):XK s (k+1)=XK s k:=by grind [XK,Yj]
theorem D5 (s:Int) (k:Nat):(XK s k).length<=k:=by
 grind [XK]
theorem Gg (s:Int):ACalls Tryz.prog 60 [.p (.int .i64 s)] [] fun x H'=>x= .sl 0 0 (XK s 63).length (XK s 63).length/\H'= [.elems 1 ((XK s 63).map eI)]:=by
 refine As (fn:=Tryz.f60) Zb Tryz.func60 rfl Zf0 ?_;simp (disch:=omega) only [Tryz.f60,go_sem,seval];refine Zl [0] (fun k:Nat=> [(3,.sl 0 0 (XK s k).length (XK s k).length),(5,.p (.int .i64 k))]) (fun k=> [.elems 1 ((XK s k).map eI)]) (fun k=>k<=63) (fun k=>63-k) 0 Zb (Weak.ofNil 3 1 (by simp (disch:=omega) only [go_sem,seval]) Zb (Weak.mk ?_)) ?_
 ·simp (disch:=omega) only [Rx,go_sem,seval,↓reduceIte]
 ·intro k hk;have hl:=D5 s k;refine Zc ?_;refine cD ?_ ?_<;>intro h<;>simp (disch:=omega) only [Sh.out h,go_sem,seval,↓reduceIte]
  ·refine (bF s k).use (Zc ?_);refine cD ?_ ?_<;>intro h2<;>simp (disch:=omega) only [Sh.out h2,go_sem,seval,↓reduceIte]
   ·refine ⟨k+1,Za,Za,Weak.mk ?_⟩;simp (disch:=omega) only [cC h2,go_sem,seval]
   ·exact ⟨k+1,Za,Za,Weak.mk (by simp (disch:=omega) only [lE h2,go_sem,seval])⟩
  ·have:k=63:=Za
   subst this;exact ⟨0,by simp (disch:=omega) only [go_sem,seval]⟩
def hv (s k:Nat):Nat:=s / pw k
theorem uK (s k:Nat):s.testBit k=decide (hv s k%2=1):=by
 rw [D0]
 rfl
theorem Qp (s i:Nat) (hi:i<=62):sHas (s:Int) (i:Int)=s.testBit i:=by
 rw [uK,hv]
 have h1:(0:Int)<=i:=Za
 have h2:(i:Int)<=62:=Za
 simp only [sHas,h1,h2,Vp,Wl,XP]
 have e:((s:Int)).fdiv (2^i)=((s / pw i:Nat):Int):=by
  grind [pw]
 grind
theorem Ka {α:Type} [Inhabited α] {l:List α} {f:α->Bool} {k:Nat} (h:k<l.length) (hf:f (nth l k)=true):l.any f=true:=by
 grind [Zh]
theorem Dw {α:Type} [Inhabited α] {l:List α} {f:α->Bool} (h: ∀j,j<l.length->f (nth l j)=false):l.any f=false:=by
 rw [Yi];intro x hx;obtain ⟨j,hj,rfl⟩:=ZW.1 hx
 grind [Zh]
deriving instance DecidableEq for Vis
theorem EW {v w:Vis} :v=w↔v.order=w.order/\v.drp=w.drp:=by cases v;cases w;simp
def FU (f:Vis->Bool) (l:List Vis):Int:=match l.findIdx? f with | some i=>(i:Int) | none=> -1
def vIx (l:List Vis) (v:Vis):Int:=FU (fun w=>decide (v=w)) l
theorem Hn {f:Vis->Bool} {l:List Vis} {k:Nat} (hk:k<l.length) (h:f (nth l k)=true) (hno: ∀j,j<k->f (nth l j)=false):FU f l=(k:Int):=by
 have:l.findIdx? f=some k:=by
  grind [UZ,Zh]
 simp [FU,this]
theorem MW {f:Vis->Bool} {l:List Vis} (hno: ∀j,j<l.length->f (nth l j)=false):FU f l= -1:=by
 have:l.findIdx? f=none:=by
  rw [List.findIdx?_eq_none_iff];intro x hx;obtain ⟨j,hj,rfl⟩:=ZW.1 hx
  grind [Zh]
 simp [FU,this]
theorem MV {f:Vis->Bool} {l:List Vis} :decide (0<=FU f l)=l.any f:=by
 grind [FU]
theorem aD {f:Vis->Bool} {l:List Vis} :FU f l<l.length/\ -1<=FU f l:=by
 grind [FU,UZ]
theorem OD (l:List Vis) (c:Bool) (v:Vis) (hl:l.length<=1048576):PC 308 [.p (.list c (l.map ZX)),.p (ZX v)] (.int .i64 (vIx l v)):=by
 refine Zd Tryz.func308 rfl zK ?_;simp (disch:=omega) only [Tryz.f308,go_sem,seval];refine Zl [0,3,7] (fun k:Nat=> [(8,.p (.int .i64 k))]) (fun _=> [.cells [.p (.int .i64 v.order),.p (.bool v.drp)]]) (fun k=>k<=l.length/\ ∀j,j<k->decide (v=nth l j)=false) (fun k=>l.length-k) 0 Zb (Weak.mk ?_) ?_
 ·simp (disch:=omega) only [go_sem,seval,↓reduceIte]
 ·rintro k ⟨hk,hno⟩;refine Zc ?_;refine cD ?_ ?_<;>intro h<;>simp (disch:=omega) only [Sh.out h,go_sem,seval,↓reduceIte]
  ·have hk2:k<l.length:=Za
   refine Xn (Zc ?_);refine cD ?_ ?_<;>intro h2<;>simp (disch:=omega) only [Sh.out h2,go_sem,seval,↓reduceIte]
   ·grind [EW,vIx,Hn]
   ·have: ¬v=nth l k:=by grind
    exact ⟨k+1,⟨Za,Zn.2 ⟨hno,by grind⟩⟩,Za,wk⟩
  grind [vIx,MW]
theorem Bq (l:List Vis) (c:Bool) (v:Vis) (hl:l.length<=1048576):PC 286 [.p (.list c (l.map ZX)),.p (ZX v)] (.int .i64 (vIx l v)):=by
 refine Zd Tryz.func286 rfl yO ?_;simp (disch:=omega) only [Tryz.f286,go_sem,seval];refine (OD l c v hl).use ?_;simp (disch:=omega) only [go_sem,seval]
theorem He (l:List Vis) (c:Bool) (v:Vis) (hl:l.length<=1048576):PC 287 [.p (.list c (l.map ZX)),.p (ZX v)] (.bool (decide (0<=vIx l v))):=by
 refine Zd Tryz.func287 rfl yP ?_;simp (disch:=omega) only [Tryz.f287,go_sem,seval];refine (OD l c v hl).use ?_;simp (disch:=omega) only [go_sem,seval]
theorem nM (l:List Ord) (c:Bool) (n:Int) (hl:l.length<=1048576):PC 236 [.p (.list c (l.map eOrd)),.p (.int .i64 n)] (.bool (decide (0<=n/\n<l.length))):=by
 refine Zd Tryz.func236 rfl bL ?_;simp (disch:=omega) only [Tryz.f236,go_sem,seval];refine gT ?_ ?_<;>intro h<;>simp (disch:=omega) only [Sh.out h,go_sem,seval,↓reduceIte]
 all_goals (try simp [h])
def Z3 (l:List Ord) (i:Nat):List Vis:=(if 0<=(nth l i).pick.place then [⟨i,false⟩] else [])++(if 0<=(nth l i).drp.place then [⟨i,true⟩] else [])
theorem Uq (l:List Ord) (i:Nat):(Z3 l i).length<=2:=by grind [Z3]
theorem Ur {l:List Ord} {i:Nat} {v:Vis} (h:v∈Z3 l i):v.order=i:=by
 grind [Z3]
theorem NS (l:List Ord) (c:Bool) (i:Nat) (hi:i<l.length) (hl:l.length<=1048576):ACalls Tryz.prog 178 [.p (.list c (l.map eOrd)),.p (.int .i64 (i:Nat))] [] fun x H'=>x= .sl 0 0 (Z3 l i).length (Z3 l i).length/\H'= [.elems 2 ((Z3 l i).map ZX)]:=by
 suffices hh:ACalls Tryz.prog 178 [.p (.list c (l.map eOrd)),.p (.int .i64 (i:Nat))] [] fun x H'=> ∃m:List Vis,m=Z3 l i/\x= .sl 0 0 m.length m.length/\H'= [.elems 2 (m.map ZX)] by
  grind
 refine Xa [2] Tryz.func178 rfl wG ?_;simp (disch:=omega) only [Tryz.f178,go_sem,seval];refine Zr (Weak.ofNil 5 2 (by simp (disch:=omega) only [go_sem,seval]) Zb (Weak.refl _ _ _)) ?_;refine Zf [4] _ _ _ _ (Zc ?_);refine (nM l c i hl).use (Zc ?_)
 have h0:(0:Int)<=(i:Int)/\(i:Int)<(l.length:Int):=Za
 simp (disch:=omega) only [h0,go_sem,seval];refine ZC [0,1] (fun m:List Vis=> [(5,.sl 0 0 m.length m.length)]) (fun m=> [.elems 2 (m.map ZX)]) (fun m=>m=(if 0<=(nth l i).pick.place then [⟨i,false⟩] else [])) ?_ ?_
 ·refine Zc ?_;refine cD ?_ ?_<;>intro h<;>simp (disch:=omega) only [Sh.out h,go_sem,seval,↓reduceIte]
  ·exact ⟨[⟨i,false⟩],by simp [],wk⟩
  ·exact ⟨[],by simp [],wk⟩
 ·intro m hm
  have hml:m.length<=1:=by grind
  refine Zf [] _ _ _ _ (Zc ?_);refine cD ?_ ?_<;>intro h<;>simp (disch:=omega) only [Sh.out h,go_sem,seval,↓reduceIte]
  ·exact ⟨m++ [⟨i,true⟩],by simp_all [Z3],0,by simp (disch:=omega) only [go_sem,seval]⟩
  ·exact ⟨m,by simp_all [Z3],0,by simp (disch:=omega) only [go_sem,seval]⟩
theorem visits_c (l:List Ord) (c:Bool) (i:Nat) (hi:i<l.length) (hl:l.length<=1048576):PC 178 [.p (.list c (l.map eOrd)),.p (.int .i64 (i:Nat))] (.list false ((Z3 l i).map ZX)) :=
 (NS l c i hi hl).frozen Zb
def J1 (l:List Vis):Bool:=(List.range l.length).any fun i=>decide (0<=vIx (l.take i) (nth l i))
theorem nP (l:List Vis) (c:Bool) (hl:l.length<=1048576):PC 260 [.p (.list c (l.map ZX))] (.bool (J1 l)):=by
 refine Zd Tryz.func260 rfl xU ?_;simp (disch:=omega) only [Tryz.f260,go_sem,seval];refine Zl [0,5,6] (fun k:Nat=> [(7,.p (.int .i64 k))]) (fun _=> []) (fun k=>k<=l.length/\ ∀j,j<k->decide (0<=vIx (l.take j) (nth l j))=false) (fun k=>l.length-k) 0 Zb (Weak.mk ?_) ?_
 ·simp (disch:=omega) only [go_sem,seval,↓reduceIte]
 ·rintro k ⟨hk,hno⟩;refine Zc ?_;refine cD ?_ ?_<;>intro h<;>simp (disch:=omega) only [Sh.out h,go_sem,seval,↓reduceIte]
  ·have hk2:k<l.length:=Za
   refine Xn (Zc ?_);refine Zq (Bq (l.take k) _ (nth l k) (by simp;omega)) (Zc ?_);refine cD ?_ ?_<;>intro h2<;>simp (disch:=omega) only [Sh.out h2,go_sem,seval,↓reduceIte]
   ·grind [J1]
   ·exact ⟨k+1,⟨Za,Zn.2 ⟨hno,by grind⟩⟩,Za,wk⟩
  grind [J1]
theorem Cz (l:List Vis) (c:Bool) (g:FuncId) (caps:List V) (H:List AM.Obj) (f:Vis->Bool) (hl:l.length<=1048576) (hW:Ic H H.length H H) (hc:Xe H.length caps=true)
  (hg: ∀v∈l,ACalls Tryz.prog g (.p (ZX v)::caps) H fun x H'=>x= .p (.bool (f v))/\H'=H) :
  ACalls Tryz.prog 225 [.p (.list c (l.map ZX)),.fn (.func g) [] caps] H fun x H'=>x= .p (.int .i64 (FU f l))/\H'=H:=by
 refine X8 Tryz.func225 rfl wZ (Zf [] _ _ _ _ ?_);simp (disch:=omega) only [Tryz.f225,go_sem,seval];refine Zl [0,1,7] (fun k:Nat=> [(8,.p (.int .i64 k))]) (fun _=>H) (fun k=>k<=l.length/\ ∀j,j<k->f (nth l j)=false) (fun k=>l.length-k) 0 Zb (Weak.mk ?_) ?_
 ·simp (disch:=omega) only [hW,hc,go_sem,seval];simp
 ·rintro k ⟨hk,hno⟩;refine Zc ?_;refine cD ?_ ?_<;>intro h<;>simp (disch:=omega) only [Sh.out h,go_sem,seval,↓reduceIte]
  ·have hk2:k<l.length:=Za
   refine (hg (nth l k) (Zo hk2)).useH (Zc ?_);refine cD ?_ ?_<;>intro h2<;>simp (disch:=omega) only [Sh.out h2,go_sem,seval,↓reduceIte]
   ·grind [Hn]
   ·have h3:f (nth l k)=false:=Za
    refine ⟨k+1,⟨Za,Zn.2 ⟨hno,h3⟩⟩,Za,Weak.mk ?_⟩;simp (disch:=omega) only [hW,hc,go_sem,seval];simp
  grind [MW]
theorem Ud (l:List Vis) (c:Bool) (g:FuncId) (caps:List V) (H:List AM.Obj) (f:Vis->Bool) (hl:l.length<=1048576) (hW:Ic H H.length H H) (hc:Xe H.length caps=true)
  (hg: ∀v∈l,ACalls Tryz.prog g (.p (ZX v)::caps) H fun x H'=>x= .p (.bool (f v))/\H'=H) :
  ACalls Tryz.prog 167 [.p (.list c (l.map ZX)),.fn (.func g) [] caps] H fun x H'=>x= .p (.bool (l.any f))/\H'=H:=by
 refine X8 Tryz.func167 rfl vY (Zf [] _ _ _ _ ?_);simp (disch:=omega) only [Tryz.f167,go_sem,seval];refine (Cz l c g caps H f hl hW hc hg).useH (Zc ?_);rw [MV]
def hasO (l:List Vis) (o:Int):Bool:=l.any fun v=>decide (v.order=o)
theorem uI (v:Vis) (o:Int):ACalls Tryz.prog 288 [.p (ZX v),.ptr 0 0] [.cells [.p (.int .i64 o)]] fun x H'=>x= .p (.bool (decide (v.order=o)))/\H'= [.cells [.p (.int .i64 o)]]:=by
 refine Zg [] Tryz.func288 rfl yQ ?_;simp (disch:=omega) only [Tryz.f288,go_sem,seval];exact we
theorem PO (v:Vis) (o:Int):ACalls Tryz.prog 289 [.p (ZX v),.ptr 0 0] [.cells [.p (.int .i64 o)]] fun x H'=>x= .p (.bool (decide (v.order=o)))/\H'= [.cells [.p (.int .i64 o)]]:=by
 refine Zg [] Tryz.func289 rfl yR ?_;simp (disch:=omega) only [Tryz.f289,go_sem,seval];exact we
theorem BD (l:List Vis) (c:Bool) (o:Int) (hl:l.length<=1048576):PC 262 [.p (.list c (l.map ZX)),.p (.int .i64 o)] (.bool (hasO l o)):=by
 refine Zd Tryz.func262 rfl xW ?_;simp (disch:=omega) only [Tryz.f262,go_sem,seval];refine (Ud l c 288 [.ptr 0 0] [.cells [.p (.int .i64 o)]] (fun v=>decide (v.order=o)) hl (by simp (disch:=omega) only [go_sem,seval]) (by rfl) (fun v _=>uI v o)).useH (Zc ?_);rw [hasO]
def beforeB (l:List Vis) (a b:Int):Bool:=if FU (fun v=>decide (v.order=b)) l<0 then true else hasO l a&& !hasO (l.drop (FU (fun v=>decide (v.order=b)) l).toNat) a
theorem L3 (l:List Vis) (c:Bool) (a b:Int) (hl:l.length<=1048576):PC 263 [.p (.list c (l.map ZX)),.p (.int .i64 a),.p (.int .i64 b)] (.bool (beforeB l a b)):=by
 refine Zd Tryz.func263 rfl xX ?_;simp (disch:=omega) only [Tryz.f263,go_sem,seval];refine (Cz l c 289 [.ptr 0 0] [.cells [.p (.int .i64 b)]] (fun v=>decide (v.order=b)) hl (by simp (disch:=omega) only [go_sem,seval]) (by rfl) (fun v _=>PO v b)).useH ?_;have hlt:=aD (f:=fun v=>decide (v.order=b)) (l:=l);refine Zc ?_;refine cD ?_ ?_<;>intro h<;>simp (disch:=omega) only [Sh.out h,go_sem,seval]
 ·rw [beforeB,if_pos h]
 ·refine (BD l c a hl).use (Zc ?_);generalize hq:FU (fun v=>decide (v.order=b)) l=q at hlt h ⊢
  cases h2:hasO l a with
  | false =>
   refine Zc ?_
   simp_all [beforeB]
  | true =>
   simp (disch:=omega) only [XZ,go_sem,seval];refine (BD (l.drop q.toNat) _ a (by simp;omega)).use (Zc ?_)
   simp_all [beforeB,if_neg]
def UQ (l:List Vis):Int->List Vis->Bool
 | _,[]=>true
 | last,w::r=>decide (last<vIx l w)&&UQ l (vIx l w) r
def pairB (os:List Ord) (l:List Vis) (v:Vis):Bool:=decide (0<=vIx (Z3 os v.order.toNat) v)&&UQ l (-1) (Z3 os v.order.toNat)
theorem Ve {P Q:Prop} (h:Q) (e:Q->P:=by intro h;simp (disch:=omega) only [Zj,go_sem,seval];exact h):P:=e h
theorem L4 (x:Inst) (l:List Vis) (c:Bool) (hl:l.length<=1048576) (ho:x.orders.length<=1048576) (hv: ∀v∈l,0<=v.order/\v.order<x.orders.length) :
  PC 261 [.p (ZF x),.p (.list c (l.map ZX))] (.bool (l.all (pairB x.orders l))):=by
 refine Zd Tryz.func261 rfl xV ?_;simp (disch:=omega) only [Tryz.f261,go_sem,seval];refine Zl [1,2,12,13] (fun k:Nat=> [(14,.p (.int .i64 k))]) (fun _=> [Zj x]) (fun k=>k<=l.length/\ ∀j,j<k->pairB x.orders l (nth l j)=true) (fun k=>l.length-k) 0 Zb (Weak.mk ?_) ?_
 ·simp (disch:=omega) only [Zj,go_sem,seval]
 ·rintro k ⟨hk,hno⟩;refine Ve ?_;refine cD ?_ ?_<;>intro h<;>simp (disch:=omega) only [Sh.out h,go_sem,seval,↓reduceIte]
  ·have hk2:k<l.length:=Za
   obtain ⟨v1,v2⟩:=hv _ (Zo hk2)
   have hbad:pairB x.orders l (nth l k)=false->l.all (pairB x.orders l)=false:=fun h4=>by
    grind [Zo]
   obtain ⟨i,hi⟩: ∃i:Nat,(nth l k).order=(i:Int):=⟨(nth l k).order.toNat,Za⟩
   have hp:pairB x.orders l (nth l k)=(decide (0<=vIx (Z3 x.orders i) (nth l k))&&UQ l (-1) (Z3 x.orders i)):=by rw [pairB,hi];rfl
   rw [hi] at v1 v2;simp (disch:=omega) only [hi,go_sem,seval];refine (visits_c x.orders x.orders_c i Za ho).use (Zc ?_);have hvl:=Uq x.orders i;have hcon:=He (Z3 x.orders i) false (nth l k) Za;rw [Oo,hi] at hcon;refine (hcon).use (Zc ?_);refine cD ?_ ?_<;>intro h2<;>simp (disch:=omega) only [Sh.out h2,go_sem,seval]
   ·grind
   ·have h2':0<=vIx (Z3 x.orders i) (nth l k):=Za
    generalize hown:Z3 x.orders i=own at hvl hp h2' ⊢
    have hp2:pairB x.orders l (nth l k)=UQ l (-1) own:=by grind
    refine Zl [1,2,12,13,14,27,28] (fun q:Nat×Int=> [(8,.p (.int .i64 q.2)),(29,.p (.int .i64 q.1))]) (fun _=> [Zj x,.cells [.p (.int .i64 (i:Int)),.p (.bool (nth l k).drp)]]) (fun q=>q.1<=own.length/\UQ l (-1) own=UQ l q.2 (own.drop q.1)) (fun q=>own.length-q.1) (0,-1) Zb (Weak.mk ?_) ?_
    ·simp (disch:=omega) only [Zj,go_sem,seval]
    ·rintro ⟨j,last⟩ ⟨hj,ha⟩;simp only at hj ha;refine Ve ?_;refine ZD ?_ ?_<;>intro h3
     ·have hj2:j<own.length:=Za
      have hd:own.drop j=nth own j::own.drop (j+1):=by rw [Ug hj2,Zh hj2]
      rw [hd] at ha;refine (Bq l c (nth own j) hl).use (Zc ?_);refine ZD ?_ ?_<;>intro h4
      ·grind [UQ]
      ·have h5:last<vIx l (nth own j):=Za
       exact ⟨(j+1,vIx l (nth own j)),⟨Za,by grind [UQ]⟩,Za,wk⟩
     ·have hjl:j=own.length:=Za
      subst hjl;exact ⟨k+1,⟨Za,Zn.2 ⟨hno,by grind [UQ]⟩⟩,Za,wk⟩
  ·have hkl:k=l.length:=Za
   subst hkl
   have:l.all (pairB x.orders l)=true:=by
    rw [Zu];intro v hv;obtain ⟨j,hj,rfl⟩:=ZW.1 hv
    grind [Zh]
   rw [this]
def ZO (r:Rte):AM.Obj:= .cells [.p (.int .i64 r.typ),.p (.int .i64 r.start),.p (.list r.rests_c (r.rests.map eB)),.p (.list r.visits_c (r.visits.map ZX))]
def VD (x:Inst) (v:Vis):Bool:= !decide (0<=v.order/\v.order<(x.orders.length:Int))
theorem TJ (x:Inst) (r:Rte) (v:Vis) (ho:x.orders.length<=1048576):ACalls Tryz.prog 258 [.p (ZX v),.ptr 0 0] [Zj x,ZO r] fun y H'=>y= .p (.bool (VD x v))/\H'= [Zj x,ZO r]:=by
 refine Zg [] Tryz.func258 rfl xS ?_;simp (disch:=omega) only [Tryz.f258,Zj,ZO,go_sem,seval];refine gF ?_ ?_<;>intro h<;>simp (disch:=omega) only [Sh.out h,go_sem,seval,↓reduceIte]
 ·have e:VD x v=true:=by
   grind [VD]
  rw [e];exact we
 ·have e:VD x v=decide ((x.orders.length:Int)<=v.order):=by
   have h0:0<=v.order:=Za
   rw [Yp];simp [VD,h0]
  rw [e];exact we
theorem TK (x:Inst) (r:Rte) (v:Vis) (ho:x.orders.length<=1048576) (h1:0<=v.order) (h2:v.order<x.orders.length):ACalls Tryz.prog 259 [.p (ZX v),.ptr 0 0] [Zj x,ZO r] fun y H'=>y= .p (.bool (nth x.orders v.order.toNat).off)/\H'= [Zj x,ZO r]:=by
 have h3:v.order.toNat<x.orders.length:=Za
 refine Zg [] Tryz.func259 rfl xT ?_;simp (disch:=omega) only [Tryz.f259,Zj,ZO,go_sem,seval];exact we
def Xk (x:Inst) (l:List Vis):Int :=
 if l.length=0\/l.any (VD x)=true then 2
 else if (l.any fun v=>(nth x.orders v.order.toNat).off)=true then 9
 else if J1 l=true then 6
 else if l.all (pairB x.orders l)=false then 19
 else if (x.apart.any fun p=>hasO l p.1&&hasO l p.2)=true then 20
 else if (x.before.any fun p=> !beforeB l p.1 p.2)=true then 21
 else 0
theorem Jk {P Q:Prop} (h:Q) (e:Q->P:=by intro h;simp (disch:=omega) only [Zj,ZO,go_sem,seval];exact h):P:=e h
theorem NL (x:Inst) (r:Rte) (ho:x.orders.length<=1048576) (hl:r.visits.length<=1048576) (hap:x.apart.length<=1048576) (hbe:x.before.length<=1048576) :
  PC 218 [.p (ZF x),.p (Z0 r)] (.int .i64 (Xk x r.visits)):=by
 refine Zd Tryz.func218 rfl wU ?_;simp (disch:=omega) only [Tryz.f218,go_sem,seval];refine gF ?_ ?_<;>intro h0<;>simp (disch:=omega) only [Sh.out h0,go_sem,seval]
 ·grind [Xk]
 ·have h00: ¬r.visits.length=0:=Za
  refine (Ud r.visits r.visits_c 258 [.ptr 0 0] [Zj x,ZO r] (VD x) hl (by simp (disch:=omega) only [Zj,ZO,go_sem,seval]) (by rfl) (fun v _=>TJ x r v ho)).useH (Jk ?_);refine cD ?_ ?_<;>intro h1<;>simp (disch:=omega) only [Sh.out h1,go_sem,seval]
  ·simp_all [Xk]
  ·have h1':r.visits.any (VD x)=false:=Za
   have c1: ¬(r.visits.length=0\/r.visits.any (VD x)=true):=by grind
   have hin: ∀v∈r.visits,0<=v.order/\v.order<x.orders.length:=fun v hv=>by
    grind [VD]
   refine (Ud r.visits r.visits_c 259 [.ptr 0 0] [Zj x,ZO r] (fun v=>(nth x.orders v.order.toNat).off) hl (by simp (disch:=omega) only [Zj,ZO,go_sem,seval]) (by rfl) (fun v hv=>TK x r v ho (hin v hv).1 (hin v hv).2)).useH (Jk ?_);refine cD ?_ ?_<;>intro h2<;>simp (disch:=omega) only [Sh.out h2,go_sem,seval]
   ·simp_all [Xk]
   ·refine (nP r.visits r.visits_c hl).use (Zc ?_);refine cD ?_ ?_<;>intro h3<;>simp (disch:=omega) only [Sh.out h3,go_sem,seval,↓reduceIte]
    ·simp_all [Xk,if_neg]
    ·refine (L4 x r.visits r.visits_c hl ho hin).use (Zc ?_);refine cD ?_ ?_<;>intro h4<;>simp (disch:=omega) only [Sh.out h4,go_sem,seval,↓reduceIte]
     ·simp_all [Xk,if_neg]
     ·have h4':r.visits.all (pairB x.orders r.visits)=true:=by grind
      have hc:Xk x r.visits=if (x.apart.any fun p=>hasO r.visits p.1&&hasO r.visits p.2)=true then 20 else if (x.before.any fun p=> !beforeB r.visits p.1 p.2)=true then 21 else 0:=by
       rw [Xk,if_neg c1,if_neg (by grind),if_neg (by grind),if_neg (by grind)]
      clear h4 h4' h3 h2 c1 h1' h1 h0;refine Zl [2,5,33,34] (fun k:Nat=> [(35,.p (.int .i64 k))]) (fun _=> [Zj x,ZO r]) (fun k=>k<=x.apart.length/\ ∀j,j<k->(hasO r.visits (nth x.apart j).1&&hasO r.visits (nth x.apart j).2)=false) (fun k=>x.apart.length-k) 0 Zb (Weak.mk ?_) ?_
      ·simp (disch:=omega) only [Zj,ZO,go_sem,seval]
      ·rintro k ⟨hk,hno⟩;refine Jk ?_;refine cD ?_ ?_<;>intro h<;>simp (disch:=omega) only [Sh.out h,go_sem,seval,↓reduceIte]
       ·have hk2:k<x.apart.length:=Za
        refine (BD r.visits r.visits_c (nth x.apart k).1 hl).use (Zc ?_);refine K6 ?_ ?_<;>intro h2
        ·refine (BD r.visits r.visits_c (nth x.apart k).2 hl).use (Zc ?_);refine ZD ?_ ?_<;>intro h3
         ·rw [hc,if_pos (Ka hk2 (by grind))]
         ·exact ⟨k+1,⟨Za,Zn.2 ⟨hno,by grind⟩⟩,Za,wk⟩
        ·exact ⟨k+1,⟨Za,Zn.2 ⟨hno,by simp [h2]⟩⟩,Za,wk⟩
       ·have hkl:k=x.apart.length:=Za
        subst hkl;rw [hc,Dw hno];clear hno hk h hc;rw [if_neg Zb];refine Zl [5,51,52] (fun k:Nat=> [(53,.p (.int .i64 k))]) (fun _=> [Zj x,ZO r]) (fun k=>k<=x.before.length/\ ∀j,j<k->(!beforeB r.visits (nth x.before j).1 (nth x.before j).2)=false) (fun k=>x.before.length-k) 0 Zb (Weak.mk ?_) ?_
        ·simp (disch:=omega) only [Zj,ZO,go_sem,seval]
        ·rintro k ⟨hk,hno⟩;refine Jk ?_;refine cD ?_ ?_<;>intro h<;>simp (disch:=omega) only [Sh.out h,go_sem,seval,↓reduceIte]
         ·have hk2:k<x.before.length:=Za
          refine (L3 r.visits r.visits_c (nth x.before k).1 (nth x.before k).2 hl).use (Zc ?_);refine ZD ?_ ?_<;>intro h2
          ·have h3:(!beforeB r.visits (nth x.before k).1 (nth x.before k).2)=true:=Za
           rw [if_pos (Ka hk2 h3)]
          ·have h3:(!beforeB r.visits (nth x.before k).1 (nth x.before k).2)=false:=Za
           exact ⟨k+1,⟨Za,Zn.2 ⟨hno,h3⟩⟩,Za,wk⟩
         grind [Dw]
@[go_sem] theorem Zig {H:List AM.Obj} {n cs cs'} :Fy H n (.tup cs) (.tup cs')=(cs'=cs/\Xe n cs=true):=by simp [Fy,kU,refB]
@[go_sem] theorem NE {a b:V} :W5 [a,b]= .tup [a,b]:=Zk rfl rfl
theorem WV {g:FuncId} {args:List V} {a b:PV} {H:List AM.Obj} {K:V->List AM.Obj->Prop} (h:ACalls Tryz.prog g args [] fun x H'=>x= .tup [.p a,.p b]/\H'= []) (k:K (.tup [.p a,.p b]) H) (ha:Xe 0 args=true:=by rfl):ACalls Tryz.prog g args H K :=
 (h.behind ha H).mono fun x H' hq=>by
  obtain ⟨y,H1,⟨rfl,rfl⟩,rfl,rfl⟩:=hq
  grind [shV,shVs]
def ordS (l:List Vis):Nat:=l.foldl (fun s v=>s|||pw v.order.toNat) 0
def Cy (v:Vis):Bool:=decide (0<=v.order/\v.order<=62)
theorem KC {l:List Vis} {k:Nat} (hk:k<l.length):ordS (l.take (k+1))=ordS (l.take k)|||pw (nth l k).order.toNat:=by
 grind [Xw,ordS,Zh]
theorem UH : ∀(k:Nat) {l:List Vis},k<=l.length->(∀v∈l.take k,Cy v=true)->ordS (l.take k)<9223372036854775808
 | 0,l,_,_=>by simp [ordS]
 | k+1,l,hk,h=>by
  have hk2:k<l.length:=Za
  have ih:=UH k (l:=l) Za fun v hv=>h v (List.take_subset_take_left l Za hv);have hv:=h (nth l k) (by rw [Zh hk2];exact ZW.2 ⟨k,by simp;omega,Zb⟩);simp only [Cy,Zp] at hv;have h2:pw (nth l k).order.toNat<=pw 62:=CF Za;have h3:=LG;rw [KC hk2];exact JD (n:=63) Za Za
def ordR (l:List Vis):Int×Int:=if l.all Cy=true then (((ordS l:Nat):Int),0) else (0,2)
theorem EO {P Q:Prop} (h:Q) (e:Q->P:=by intro h;simp (disch:=omega) only [ZO,go_sem,seval];exact h):P:=e h
theorem UL (r:Rte) (hl:r.visits.length<=1048576):PT 59 [.p (Z0 r)] [.p (.int .i64 (ordR r.visits).1),.p (.int .i64 (ordR r.visits).2)]:=by
 refine Zg [] Tryz.func59 rfl ZfZ ?_;simp (disch:=omega) only [Tryz.f59,go_sem,seval];refine Zl [8,9] (fun k:Nat=> [(4,.p (.int .i64 (ordS (r.visits.take k):Nat))),(10,.p (.int .i64 k))]) (fun _=> [ZO r]) (fun k=>k<=r.visits.length/\ ∀j,j<k->Cy (nth r.visits j)=true) (fun k=>r.visits.length-k) 0 Zb (Weak.mk ?_) ?_
 ·simp (disch:=omega) only [ZO,ordS,Y6,UB,go_sem,seval]
 ·rintro k ⟨hk,hno⟩
  have hlt:=UH k hk fun v hv=>by
   obtain ⟨j,hj,rfl⟩:=ZW.1 hv
   grind [Zh]
  refine EO ?_;refine cD ?_ ?_<;>intro h<;>simp (disch:=omega) only [Sh.out h,go_sem,seval,↓reduceIte]
  ·have hk2:k<r.visits.length:=Za
   have hbad:Cy (nth r.visits k)=false->ordR r.visits=(0,2):=fun h4=>by
    grind [Zo,ordR]
   have hs:=KC hk2
   have hp:(nth r.visits k).order<=62->pw (nth r.visits k).order.toNat<=4611686018427387904:=fun h=>by rw [<- LG];exact CF Za
   refine gF ?_ ?_<;>intro h1<;>simp (disch:=omega) only [Sh.out h1,go_sem,seval,↓reduceIte]
   ·have e:=hbad (by simp [Cy];omega);rw [e];exact we
   ·refine ZD ?_ ?_<;>intro h2
    ·have e:=hbad (by simp [Cy];omega);rw [e];exact we
    ·exact ⟨k+1,⟨Za,Zn.2 ⟨hno,by simp [Cy];omega⟩⟩,Za,Weak.mk (by simp (disch:=omega) only [hs,go_sem,seval])⟩
  ·have hkl:k=r.visits.length:=Za
   subst hkl
   have:r.visits.all Cy=true:=by
    rw [Zu];intro v hv;obtain ⟨j,hj,rfl⟩:=ZW.1 hv
    grind [Zh]
   have e:ordR r.visits=(((ordS r.visits:Nat):Int),0):=by simp [ordR,this]
   rw [e,XZ];exact we
def UR (a b:Int):Int:=if a<b then-1 else if b<a then 1 else 0
theorem OH (a:Int):PC 158 [.p (.int .i64 a)] (.bool false):=by
 refine Zd Tryz.func158 rfl vV ?_;simp (disch:=omega) only [Tryz.f158,go_sem,seval]
 try simp
theorem FM (a b:Int):PC 106 [.p (.int .i64 a),.p (.int .i64 b)] (.int .i64 (UR a b)):=by
 refine Zd Tryz.func106 rfl uQ ?_;simp (disch:=omega) only [Tryz.f106,go_sem,seval];refine (OH a).use (Zc ?_);refine (OH b).use (Zc ?_);refine cD ?_ ?_<;>intro h<;>simp (disch:=omega) only [Sh.out h,go_sem,seval]
 ·simp [UR,h]
 ·refine cD ?_ ?_<;>intro h2<;>simp (disch:=omega) only [Sh.out h2,go_sem,seval]
  ·simp [UR,h,h2]
  grind [UR]
def lU (l:List Int):Int:=(l.find? fun n=>decide (n≠0)).getD 0
theorem Zav {l:List Int} {k:Nat} (hk:k<l.length) (h:nth l k≠0) (hno: ∀j,j<k->nth l j=0):lU l=nth l k:=by
 grind [nth,List.find?_eq_some_iff_getElem,lU]
theorem Zaw {l:List Int} (hno: ∀j,j<l.length->nth l j=0):lU l=0:=by
 have:l.find? (fun n=>decide (n≠0))=none:=by
  rw [A6];intro x hx;obtain ⟨j,hj,rfl⟩:=ZW.1 hx
  grind [Zh]
 grind [lU]
theorem Zax (l:List Int) (c:Bool) (hl:l.length<=100):PC 105 [.p (.list c (l.map eI))] (.int .i64 (lU l)):=by
 refine Zd Tryz.func105 rfl uP ?_;simp (disch:=omega) only [Tryz.f105,go_sem,seval];refine Zl [3,6,7] (fun k:Nat=> [(8,.p (.int .i64 k))]) (fun _=> []) (fun k=>k<=l.length/\ ∀j,j<k->nth l j=0) (fun k=>l.length-k) 0 Zb (Weak.mk ?_) ?_
 ·simp (disch:=omega) only [go_sem,seval]
 ·rintro k ⟨hk,hno⟩;refine Zc ?_;refine cD ?_ ?_<;>intro h<;>simp (disch:=omega) only [Sh.out h,go_sem,seval,↓reduceIte]
  ·have hk2:k<l.length:=Za
   refine ZD ?_ ?_<;>intro h2
   ·grind [Zav]
   ·exact ⟨k+1,⟨Za,Zn.2 ⟨hno,Za⟩⟩,Za,wk⟩
  grind [Zaw]
theorem HE (a b:Int):lU [a,b]=if a=0 then b else a:=by
 grind [lU]
def dn (v:Vis):Int:=if v.drp=true then 1 else 0
theorem Lu (v:Vis):PC 315 [.p (ZX v)] (.int .i64 (dn v)):=by
 refine Zd Tryz.func315 rfl zR ?_;simp (disch:=omega) only [Tryz.f315,go_sem,seval];refine cD ?_ ?_<;>intro h<;>simp (disch:=omega) only [Sh.out h,go_sem,seval]
 ·simp [dn,h]
 ·simp [dn,h]
def TS (a b:Vis):Int:=if UR a.order b.order=0 then UR (dn a) (dn b) else UR a.order b.order
theorem Ra (a b:Vis):PC 300 [.p (ZX a),.p (ZX b)] (.int .i64 (TS a b)):=by
 refine Zd Tryz.func300 rfl zC ?_;simp (disch:=omega) only [Tryz.f300,go_sem,seval];refine Xn (Zc ?_);refine Zq (FM a.order b.order) (Zc ?_);refine Zq (Lu a) (Zc ?_);refine Zq (Lu b) (Zc ?_);refine Zq (FM (dn a) (dn b)) (Zc ?_);refine Zq (Zax [UR a.order b.order,UR (dn a) (dn b)] false Zb) (Zc ?_);rw [HE,TS]
def Lj : List Vis->List Vis->Int
 | [],[]=>0
 | [],_::_=> -1
 | _::_,[]=>1
 | a::r,b::s=>if TS a b=0 then Lj r s else TS a b
theorem AH {α:Type} [Inhabited α] {l:List α} {k:Nat} (h:k<l.length):l.drop k=nth l k::l.drop (k+1):=by rw [Ug h,Zh h]
theorem Fe (a b:List Vis) (c d:Bool) (ha:a.length<=1048576) (hb:b.length<=1048576) :
  PC 299 [.p (.list c (a.map ZX)),.p (.list d (b.map ZX)),.fn (.func 300) [] []] (.int .i64 (Lj a b)):=by
 refine Zd Tryz.func299 rfl zB ?_;simp (disch:=omega) only [Tryz.f299,go_sem,seval];refine Zl [0,1,2,11,12] (fun k:Nat=> [(13,.p (.int .i64 k))]) (fun _=> []) (fun k=>k<=a.length/\k<=b.length/\Lj a b=Lj (a.drop k) (b.drop k)) (fun k=>a.length-k) 0 Zb (Weak.mk ?_) ?_
 ·simp (disch:=omega) only [go_sem,seval,↓reduceIte]
 ·rintro k ⟨hk,hkb,hle⟩;refine Zc ?_;refine cD ?_ ?_<;>intro h<;>simp (disch:=omega) only [Sh.out h,go_sem,seval,↓reduceIte]
  ·have hk2:k<a.length:=Za
   rw [AH hk2] at hle;refine cD ?_ ?_<;>intro h2<;>simp (disch:=omega) only [Sh.out h2,go_sem,seval,↓reduceIte]
   ·have:b.drop k= []:=C1 Za;rw [hle,this];rfl
   ·have hk3:k<b.length:=Za
    rw [AH hk3] at hle;refine (Ra (nth a k) (nth b k)).use (Zc ?_);refine cD ?_ ?_<;>intro h3<;>simp (disch:=omega) only [Sh.out h3,go_sem,seval,↓reduceIte]
    ·simp_all [Lj]
    ·have h4:TS (nth a k) (nth b k)=0:=Za
     exact ⟨k+1,⟨Za,Za,by simp_all [Lj]⟩,Za,wk⟩
  ·have hkl:k=a.length:=Za
   subst hkl;rw [JE] at hle;refine cD ?_ ?_<;>intro h2<;>simp (disch:=omega) only [Sh.out h2,go_sem,seval]
   ·rw [AH Za] at hle;rw [hle];rfl
   ·have:b.drop a.length= []:=C1 Za;rw [hle,this];rfl
theorem Sp (a b:List Vis) (c d:Bool) (ha:a.length<=1048576) (hb:b.length<=1048576):PC 276 [.p (.list c (a.map ZX)),.p (.list d (b.map ZX))] (.bool (decide (Lj a b<0))):=by
 refine Zd Tryz.func276 rfl yJ ?_;simp (disch:=omega) only [Tryz.f276,go_sem,seval];refine (Fe a b c d ha hb).use ?_;simp (disch:=omega) only [go_sem,seval]
def Br (l:List Vis) (v:Vis):List Vis->Bool
 | []=>true
 | w::r=>if w=v then true else decide (0<=vIx l w)&&Br l v r
def V7 (l own:List Vis):Bool:=own.all fun w=>decide (0<=vIx l w)
def DA (os:List Ord) (l:List Vis) (o:Int) (p:Int×Int):Bool:=decide (p.2≠o)||V7 l (Z3 os p.1.toNat)
def Un (x:Inst) (l:List Vis) (v:Vis):Bool:=decide (vIx l v<0)&&Br l v (Z3 x.orders v.order.toNat)&&x.before.all (DA x.orders l v.order)
def UM (v:Vis):AM.Obj:= .cells [.p (.int .i64 v.order),.p (.bool v.drp)]
theorem fY {l:List Vis} {v:Vis} : -1<=vIx l v/\vIx l v<l.length:=by
 simp_all [aD,vIx]
theorem NM (x:Inst) (l:List Vis) (c:Bool) (v:Vis) (hl:l.length<=1048576) (ho:x.orders.length<=1048576) (hbl:x.before.length<=1048576) (hv:0<=v.order/\v.order<x.orders.length) (hb: ∀p∈x.before,0<=p.1/\p.1<x.orders.length) :
  PC 277 [.p (ZF x),.p (.list c (l.map ZX)),.p (ZX v)] (.bool (Un x l v)):=by
 refine QB [3] Tryz.func277 rfl yK ?_;simp (disch:=omega) only [Tryz.f277,go_sem,seval];refine (Bq l c v hl).use (Zc ?_);refine cD ?_ ?_<;>intro h<;>simp (disch:=omega) only [Sh.out h,go_sem,seval]
 ·grind [Un]
 ·have h1:vIx l v<0:=Za
  obtain ⟨i,hi⟩: ∃i:Nat,v.order=(i:Int):=⟨v.order.toNat,Za⟩
  have hr:Un x l v=(Br l v (Z3 x.orders i)&&x.before.all (DA x.orders l v.order)):=by
   grind [Un]
  have hvi:=visits_c x.orders x.orders_c i Za ho;rw [<- hi] at hvi;refine ZC [1,3,5] (fun _:Unit=> []) (fun _=> [Zj x,UM v]) (fun _=>Br l v (Z3 x.orders i)=true) ?_ ?_
  ·refine Zc ?_;refine (hvi).use (Zc ?_);have hvl:=Uq x.orders i;generalize hown:Z3 x.orders i=own at hvl hr ⊢;refine Zl [1,3,5,21,22] (fun k:Nat=> [(23,.p (.int .i64 k))]) (fun _=> [Zj x,UM v]) (fun k=>k<=own.length/\Br l v own=Br l v (own.drop k)) (fun k=>own.length-k) 0 Zb (Weak.mk ?_) ?_
   ·simp (disch:=omega) only [Zj,UM,go_sem,seval]
   ·rintro k ⟨hk,hp⟩;simp (disch:=omega) only [Zj,UM,go_sem,seval];refine ZD ?_ ?_<;>intro h2
    ·have hk2:k<own.length:=Za
     rw [AH hk2] at hp;refine ZD ?_ ?_<;>intro h3
     ·have h4:nth own k=v:=by grind [EW]
      exact ⟨(),by simp_all [Br],wk⟩
     ·have h4: ¬nth own k=v:=by grind
      refine (Bq l c (nth own k) hl).use (Zc ?_);refine ZD ?_ ?_<;>intro h5
      ·have h6: ¬ 0<=vIx l (nth own k):=Za
       simp_all [Br]
      ·have h6:0<=vIx l (nth own k):=Za
       exact ⟨k+1,⟨Za,by simp_all [Br]⟩,Za,wk⟩
    ·have hkl:k=own.length:=Za
     subst hkl;exact ⟨(),by rw [hp,JE];rfl,wk⟩
  ·rintro _ hpre;rw [hpre,Wl] at hr;refine Zf [] _ _ _ _ ?_;simp (disch:=omega) only [Zj,UM,go_sem,seval];refine Zl [1,3,5,36,37] (fun k:Nat=> [(38,.p (.int .i64 k))]) (fun _=> [Zj x,UM v]) (fun k=>k<=x.before.length/\ ∀j,j<k->DA x.orders l v.order (nth x.before j)=true) (fun k=>x.before.length-k) 0 Zb (Weak.mk ?_) ?_
   ·simp (disch:=omega) only [Zj,UM,go_sem,seval]
   ·rintro k ⟨hk,hno⟩;simp (disch:=omega) only [Zj,UM,go_sem,seval];refine cD ?_ ?_<;>intro h2<;>simp (disch:=omega) only [Sh.out h2,go_sem,seval,↓reduceIte]
    ·have hk2:k<x.before.length:=Za
     have hbk:=hb _ (Zo hk2)
     have hbad:DA x.orders l v.order (nth x.before k)=false->Un x l v=false:=fun h4=>by
      grind [Zo]
     refine ZD ?_ ?_<;>intro h3
     ·exact ⟨k+1,⟨Za,Zn.2 ⟨hno,by simp [DA,h3]⟩⟩,Za,wk⟩
     ·obtain ⟨a,hao⟩: ∃a:Nat,(nth x.before k).1=(a:Int):=⟨(nth x.before k).1.toNat,Za⟩;have hva:=visits_c x.orders x.orders_c a Za ho;rw [<- hao] at hva
      have h3':(nth x.before k).2=v.order:=Za
      have hbe:DA x.orders l v.order (nth x.before k)=V7 l (Z3 x.orders a):=by grind [DA]
      refine (hva).use (Zc ?_);have hvl:=Uq x.orders a;generalize hown:Z3 x.orders a=own at hvl hbe ⊢;refine Zl [1,3,5,36,37,38,51,52] (fun k:Nat=> [(53,.p (.int .i64 k))]) (fun _=> [Zj x,UM v,.cells [.p (.int .i64 (nth x.before k).1),.p (.int .i64 (nth x.before k).2)]]) (fun q=>q<=own.length/\ ∀j,j<q->decide (0<=vIx l (nth own j))=true) (fun k=>own.length-k) 0 Zb (Weak.mk ?_) ?_
      ·simp (disch:=omega) only [Zj,UM,go_sem,seval]
      ·rintro q ⟨hq,hnq⟩;simp (disch:=omega) only [Zj,UM,go_sem,seval];refine ZD ?_ ?_<;>intro h4
       ·have hq2:q<own.length:=Za
        refine (Bq l c (nth own q) hl).use (Zc ?_);refine ZD ?_ ?_<;>intro h5
        ·grind [V7,Zo]
        ·exact ⟨q+1,⟨Za,Zn.2 ⟨hnq,by simp;omega⟩⟩,Za,wk⟩
       ·have hql:q=own.length:=Za
        subst hql
        have:V7 l own=true:=by
         rw [V7,Zu];intro w hw;obtain ⟨j,hj,rfl⟩:=ZW.1 hw
         grind [Zh]
        exact ⟨k+1,⟨Za,Zn.2 ⟨hno,by grind⟩⟩,Za,wk⟩
    ·have hkl:k=x.before.length:=Za
     subst hkl
     have:x.before.all (DA x.orders l v.order)=true:=by
      rw [Zu];intro w hw;obtain ⟨j,hj,rfl⟩:=ZW.1 hw
      grind [Zh]
     rw [hr,this]
def Jh (x:Inst) (S:Nat) (l:List Vis) (i:Nat):List Vis:=if S.testBit i=true/\(nth x.orders i).off=false then (Z3 x.orders i).filter (Un x l) else []
def nextU (x:Inst) (S:Nat) (l:List Vis) (k:Nat):List Vis:=(List.range k).flatMap (Jh x S l)
theorem D8 (x S l k):nextU x S l (k+1)=nextU x S l k++Jh x S l k:=by simp [nextU,Yj]
theorem RE (x S l i):(Jh x S l i).length<=2:=by
 grind [Jh,Uq]
theorem B7 (x S l): ∀k,(nextU x S l k).length<=2*k
 | 0=>by simp [nextU]
 | k+1=>by
  have h1:=B7 x S l k;have h2:=RE x S l k;rw [D8,ZI];omega
theorem GC (x:Inst) (S:Nat) (l:List Vis) (c:Bool) (hS:S<9223372036854775808) (hl:l.length<=1048576) (ho:x.orders.length<=60) (hbl:x.before.length<=1048576) (hb: ∀p∈x.before,0<=p.1/\p.1<x.orders.length) :
  PC 240 [.p (ZF x),.p (.int .i64 (S:Nat)),.p (.list c (l.map ZX))] (.list false ((nextU x S l x.orders.length).map ZX)):=by
 refine ACalls.frozen (S:=2) (n:=(nextU x S l x.orders.length).length) Zb ?_
 suffices hh:ACalls Tryz.prog 240 [.p (ZF x),.p (.int .i64 (S:Nat)),.p (.list c (l.map ZX))] [] fun y H'=> ∃m:List Vis,m=nextU x S l x.orders.length/\y= .sl 0 0 m.length m.length/\H'= [.elems 2 (m.map ZX)] by
  grind
 refine Xa [2] Tryz.func240 rfl xL ?_;simp (disch:=omega) only [Tryz.f240,go_sem,seval];refine Zr (Weak.ofNil 7 2 (by simp (disch:=omega) only [go_sem,seval]) Zb (Weak.refl _ _ _)) ?_;refine Zf [] _ _ _ _ (Zc ?_);refine Zl [1,2,3,13,14] (fun q:Nat×List Vis=> [(7,.sl 1 0 q.2.length q.2.length),(15,.p (.int .i64 q.1))]) (fun q=> [Zj x,.elems 2 (q.2.map ZX)]) (fun q=>q.1<=x.orders.length/\q.2=nextU x S l q.1) (fun q=>x.orders.length-q.1) (0,[]) ⟨Zb,by simp [nextU]⟩ (Weak.mk ?_) ?_
 ·simp (disch:=omega) only [Zj,go_sem,seval]
 ·rintro ⟨k,m⟩ ⟨hk,hm⟩;simp only at hk hm
  have hml:m.length<=2*k:=by grind [B7]
  have hsc:=D8 x S l k;refine Ve ?_;refine cD ?_ ?_<;>intro h<;>simp (disch:=omega) only [Sh.out h,go_sem,seval,↓reduceIte]
  ·have hk2:k<x.orders.length:=Za
   refine AD ?_ ?_<;>intro h62
   ·omega
   refine AD ?_ ?_<;>intro h2
   ·have hbit:S.testBit k=false:=by grind [G5]
    have e:Jh x S l k= []:=by simp [Jh,hbit]
    exact ⟨(k+1,m),⟨Za,by grind⟩,Za,wk⟩
   ·have hbit:S.testBit k=true:=by
     grind [G5]
    refine ZD ?_ ?_<;>intro h3
    ·have e:Jh x S l k= []:=by simp [Jh,h3]
     exact ⟨(k+1,m),⟨Za,by grind⟩,Za,wk⟩
    ·have h3':(nth x.orders k).off=false:=Za
     have e:Jh x S l k=(Z3 x.orders k).filter (Un x l):=by grind [Jh]
     refine (visits_c x.orders x.orders_c k hk2 Za).use (Zc ?_);have hvl:=Uq x.orders k;have hvo: ∀v∈Z3 x.orders k,v.order=k:=fun v hv=>Ur hv;generalize hown:Z3 x.orders k=own at hvl e hvo ⊢;refine Zl [1,2,3,13,14,15,36,37] (fun q:Nat×List Vis=> [(7,.sl 1 0 q.2.length q.2.length),(38,.p (.int .i64 q.1))]) (fun q=> [Zj x,.elems 2 (q.2.map ZX),YX (nth x.orders k)]) (fun q=>q.1<=own.length/\q.2=m++(own.take q.1).filter (Un x l)) (fun q=>own.length-q.1) (0,m) ⟨Zb,Zb⟩ (Weak.mk ?_) ?_
     ·simp (disch:=omega) only [Zj,YX,h3',go_sem,seval]
     ·rintro ⟨j,m2⟩ ⟨hj,hm2⟩;simp only at hj hm2
      have hm2l:m2.length<=2*k+2:=by
       grind
      simp (disch:=omega) only [Zj,YX,h3',go_sem,seval];refine ZD ?_ ?_<;>intro h4
      ·have hj2:j<own.length:=Za
       have hvj:=hvo _ (Zo hj2)
       have htk:own.take (j+1)=own.take j++ [nth own j]:=by rw [Xw hj2,Zh hj2]
       have hrd:=NM x l c (nth own j) hl Za hbl Za hb;refine (hrd).use (Zc ?_);refine ZD ?_ ?_<;>intro h5
       ·exact ⟨(j+1,m2++ [nth own j]),⟨Za,by grind⟩,Za,Weak.mk (by simp (disch:=omega) only [h3',go_sem,seval])⟩
       ·exact ⟨(j+1,m2),⟨Za,by grind⟩,Za,Weak.mk (by simp (disch:=omega) only [h3',go_sem,seval])⟩
      ·have hjl:j=own.length:=Za
       subst hjl;exact ⟨(k+1,m2),⟨Za,by grind⟩,Za,wk⟩
  ·have hkn:k=x.orders.length:=Za
   subst hkn;exact ⟨m,hm,1,by simp (disch:=omega) only [go_sem,seval]⟩
def ZmC (nx:List Vis->List Vis):Nat->List Vis->List (List Vis)->List (List Vis)×Bool
 | 0,l,outs=>(outs++ [l],decide (outs.length+1<=8192))
 | f+1,l,outs=>(nx l).foldl (fun acc v=>if acc.2=true then ZmC nx f (l++ [v]) acc.1 else acc) (outs,true)
def H4 (x:Inst) (S k:Nat):Nat:=((List.range k).map fun i=>if S.testBit i=true then (Z3 x.orders i).length else 0).sum
theorem GF (x S k):H4 x S (k+1)=H4 x S k+if S.testBit k=true then (Z3 x.orders k).length else 0:=by simp [H4,Yj]
theorem Di (x S): ∀k,H4 x S k<=2*k
 | 0=>by simp [H4]
 | k+1=>by
  have h1:=Di x S k;have h2:=Uq x.orders k;rw [GF]
  split<;>omega
def Uv (S:Nat) (i:Int):Bool:=decide (0<=i/\i<=62)&&S.testBit i.toNat
theorem JT (S:Nat) (i:Int) (hS:S<9223372036854775808):PC 92 [.p (.int .i64 (S:Nat)),.p (.int .i64 i)] (.bool (Uv S i)):=by
 refine Zd Tryz.func92 rfl Zge ?_;simp (disch:=omega) only [Tryz.f92,go_sem,seval];refine gT ?_ ?_<;>intro h<;>simp (disch:=omega) only [Sh.out h,go_sem,seval,↓reduceIte]
 ·refine gT ?_ ?_<;>intro h1<;>simp (disch:=omega) only [Sh.out h1,go_sem,seval,↓reduceIte]
  ·refine gT ?_ ?_<;>intro h2<;>simp (disch:=omega) only [Sh.out h2,go_sem,seval,↓reduceIte]
   ·have e:((S / pw i.toNat:Nat):Int).tmod 2=((S / pw i.toNat%2:Nat):Int):=by rfl
    rw [e];have h3:(((S / pw i.toNat%2:Nat):Int)=1)=(S.testBit i.toNat=true):=G6
    simp_all [Uv]
   ·simp [Uv,h2]
  ·simp [Uv,h1]
 ·omega
theorem LW (x:Inst) (i:Nat) (hi:i<x.orders.length) (hl:x.orders.length<=1048576) (hpl: ∀o∈x.orders,-1<=o.pick.place/\ -1<=o.drp.place):ACalls Tryz.prog 183 [.p (ZF x),.p (.int .i64 (i:Nat))] [] fun y H'=>y= .sl 0 0 (Z3 x.orders i).length (Z3 x.orders i).length/\H'= [.elems 2 ((Z3 x.orders i).map ZX)]:=by
 suffices hh:ACalls Tryz.prog 183 [.p (ZF x),.p (.int .i64 (i:Nat))] [] fun y H'=> ∃m:List Vis,m=Z3 x.orders i/\y= .sl 0 0 m.length m.length/\H'= [.elems 2 (m.map ZX)] by
  grind
 obtain ⟨h1,h2⟩:=hpl _ (Zo hi);refine Xa [2] Tryz.func183 rfl wH ?_;simp (disch:=omega) only [Tryz.f183,go_sem,seval];refine Zr (Weak.ofNil 5 2 (by simp (disch:=omega) only [go_sem,seval]) Zb (Weak.refl _ _ _)) ?_;refine ZC [1,2] (fun m:List Vis=> [(5,.sl 1 0 m.length m.length)]) (fun m=> [Zj x,.elems 2 (m.map ZX)]) (fun m=>m=(if 0<=(nth x.orders i).pick.place then [⟨i,false⟩] else [])) ?_ ?_
 ·refine Zc ?_;refine ZD ?_ ?_<;>intro h
  ·exact ⟨[⟨i,false⟩],by grind,Weak.mk (by simp (disch:=omega) only [Zj,go_sem,seval])⟩
  ·exact ⟨[],by grind,Weak.mk (by simp (disch:=omega) only [Zj,go_sem,seval])⟩
 ·intro m hm
  have hml:m.length<=1:=by grind
  refine Zf [] _ _ _ _ (Ve ?_);refine cD ?_ ?_<;>intro h<;>simp (disch:=omega) only [Sh.out h,go_sem,seval,↓reduceIte]
  ·exact ⟨m++ [⟨i,true⟩],by rw [Z3,hm,if_pos (c:=0<=(nth x.orders i).drp.place) Za],1,by simp (disch:=omega) only [go_sem,seval]⟩
  ·exact ⟨m,by simp_all [Z3],1,by simp (disch:=omega) only [go_sem,seval]⟩
theorem So (x:Inst) (i:Nat) (hi:i<x.orders.length) (hl:x.orders.length<=1048576) (hpl: ∀o∈x.orders,-1<=o.pick.place/\ -1<=o.drp.place):PC 183 [.p (ZF x),.p (.int .i64 (i:Nat))] (.list false ((Z3 x.orders i).map ZX)) :=
 (LW x i hi hl hpl).frozen Zb
theorem JU (l:List Vis) (c:Bool) (v:Vis) (hl:l.length<=1048576):PC 135 [.p (.list c (l.map ZX)),.p (ZX v)] (.int .i64 (vIx l v)):=by
 refine Zd Tryz.func135 rfl vC ?_;simp (disch:=omega) only [Tryz.f135,go_sem,seval];refine Zl [0,3] (fun k:Nat=> [(5,.p (.int .i64 k))]) (fun _=> [UM v]) (fun k=>k<=l.length/\ ∀j,j<k->decide (v=nth l j)=false) (fun k=>l.length-k) 0 Zb (Weak.mk ?_) ?_
 ·simp (disch:=omega) only [UM,go_sem,seval,↓reduceIte]
 ·rintro k ⟨hk,hno⟩;simp (disch:=omega) only [UM,go_sem,seval];refine cD ?_ ?_<;>intro h<;>simp (disch:=omega) only [Sh.out h,go_sem,seval,↓reduceIte]
  ·have hk2:k<l.length:=Za
   refine Xn (Zc ?_);refine cD ?_ ?_<;>intro h2<;>simp (disch:=omega) only [Sh.out h2,go_sem,seval,↓reduceIte]
   ·have:v=nth l k:=Eq.symm (by grind [EW])
    grind [vIx,Hn]
   ·have: ¬v=nth l k:=fun e=>by grind
    exact ⟨k+1,⟨Za,Zn.2 ⟨hno,by grind⟩⟩,Za,wk⟩
  grind [vIx,MW]
theorem LI (l s:List Vis) (c d:Bool) (hl:l.length<=1048576) (hs:s.length<=1048576):PC 184 [.p (.list c (l.map ZX)),.p (.list d (s.map ZX))] (.bool (V7 l s)):=by
 refine Zd Tryz.func184 rfl wI ?_;simp (disch:=omega) only [Tryz.f184,go_sem,seval];refine Zl [0,1] (fun k:Nat=> [(5,.p (.int .i64 k))]) (fun _=> []) (fun k=>k<=s.length/\ ∀j,j<k->decide (0<=vIx l (nth s j))=true) (fun k=>s.length-k) 0 Zb (Weak.mk ?_) ?_
 ·simp (disch:=omega) only [go_sem,seval,↓reduceIte]
 ·rintro k ⟨hk,hno⟩;refine Zc ?_;refine cD ?_ ?_<;>intro h<;>simp (disch:=omega) only [Sh.out h,go_sem,seval,↓reduceIte]
  ·have hk2:k<s.length:=Za
   refine (JU l c (nth s k) hl).use (Zc ?_);refine cD ?_ ?_<;>intro h2<;>simp (disch:=omega) only [Sh.out h2,go_sem,seval,↓reduceIte]
   ·grind [V7,Zo]
   ·exact ⟨k+1,⟨Za,Zn.2 ⟨hno,by simp;omega⟩⟩,Za,wk⟩
  ·have hkl:k=s.length:=Za
   subst hkl
   have:V7 l s=true:=by
    rw [V7,Zu];intro w hw;obtain ⟨j,hj,rfl⟩:=ZW.1 hw
    grind [Zh]
   rw [this]
theorem RU {S n:Nat} (h:S.testBit n=true):S|||pw n=S:=by
 apply JB
 grind [EP]
theorem dO {S n:Nat} (h:S.testBit n=false):S|||pw n=S+pw n:=by
 have e:S%2^(n+1)=S%2^n+2^n*(S / 2^n%2):=Nat.mod_pow_succ;rw [D0] at h
 have h0:S / 2^n%2=0:=by grind
 rw [h0,Nat.mul_zero,W3] at e;have hp:0<2^n:=Nat.two_pow_pos n
 have hs:2^(n+1)=2^n+2^n:=Za
 have r1:S%2^(n+1)<2^n:=Za
 have e1:=Nat.two_pow_add_eq_or_of_lt (i:=n) r1 1;have e2:=Nat.two_pow_add_eq_or_of_lt (i:=n+1) (b:=2^n*1+S%2^(n+1)) Za (S / 2^(n+1));have e3:=Nat.two_pow_add_eq_or_of_lt (i:=n+1) (b:=S%2^(n+1)) Za (S / 2^(n+1));have e4:=Nat.div_add_mod S (2^(n+1));rw [pw]
 grind
theorem Ch (r:Rte) (hl:r.visits.length<=1048576):PT 55 [.p (Z0 r)] [.p (.int .i64 (ordR r.visits).1),.p (.int .i64 (ordR r.visits).2)]:=by
 refine Zg [] Tryz.func55 rfl ZfV ?_;simp (disch:=omega) only [Tryz.f55,go_sem,seval];refine Zl [1] (fun k:Nat=> [(4,.p (.int .i64 (ordS (r.visits.take k):Nat))),(5,.p (.int .i64 k))]) (fun _=> [ZO r]) (fun k=>k<=r.visits.length/\ ∀j,j<k->Cy (nth r.visits j)=true) (fun k=>r.visits.length-k) 0 Zb (Weak.mk ?_) ?_
 ·simp (disch:=omega) only [ZO,ordS,Y6,UB,go_sem,seval]
 ·rintro k ⟨hk,hno⟩
  have hlt:=UH k hk fun v hv=>by
   obtain ⟨j,hj,rfl⟩:=ZW.1 hv
   grind [Zh]
  refine EO ?_;refine cD ?_ ?_<;>intro h<;>simp (disch:=omega) only [Sh.out h,go_sem,seval,↓reduceIte]
  ·have hk2:k<r.visits.length:=Za
   have hbad:Cy (nth r.visits k)=false->ordR r.visits=(0,2):=fun h4=>by
    grind [Zo,ordR]
   have hs:=KC hk2
   have hp:(nth r.visits k).order<=62->pw (nth r.visits k).order.toNat<=4611686018427387904:=fun h=>by rw [<- LG];exact CF Za
   refine gF ?_ ?_<;>intro h1<;>simp (disch:=omega) only [Sh.out h1,go_sem,seval,↓reduceIte]
   ·have e:=hbad (by simp [Cy];omega);rw [e];exact we
   ·refine cD ?_ ?_<;>intro h2<;>simp (disch:=omega) only [Sh.out h2,go_sem,seval]
    ·have e:=hbad (by simp [Cy];omega);rw [e];exact we
    ·have h4:=hp Za;refine (JT (ordS (r.visits.take k)) (nth r.visits k).order hlt).use (Zc ?_)
     have hin:0<=(nth r.visits k).order/\(nth r.visits k).order<=62:=Za
     have hnh:Uv (ordS (r.visits.take k)) (nth r.visits k).order=(ordS (r.visits.take k)).testBit (nth r.visits k).order.toNat:=by simp [Uv,hin]
     rw [hnh];have hno2:=(Zn (p:=fun j=>Cy (nth r.visits j)=true)).2 ⟨hno,by simp [Cy];omega⟩
     have hlt2:=UH (k+1) hk2 fun v hv=>by
      obtain ⟨j,hj,rfl⟩:=ZW.1 hv
      grind [Zh]
     refine ZD ?_ ?_<;>intro h5
     ·have h6:(ordS (r.visits.take k)).testBit (nth r.visits k).order.toNat=false:=by grind
      rw [dO h6] at hs;rw [hs] at hlt2;exact ⟨k+1,⟨Za,hno2⟩,Za,Weak.mk (by simp (disch:=omega) only [hs,Int.natCast_add,go_sem,seval])⟩
     ·have h6:(ordS (r.visits.take k)).testBit (nth r.visits k).order.toNat=true:=by grind
      rw [RU h6] at hs;exact ⟨k+1,⟨Za,hno2⟩,Za,Weak.mk (by simp (disch:=omega) only [hs,go_sem,seval])⟩
  ·have hkl:k=r.visits.length:=Za
   subst hkl
   have:r.visits.all Cy=true:=by
    rw [Zu];intro v hv;obtain ⟨j,hj,rfl⟩:=ZW.1 hv
    grind [Zh]
   have e:ordR r.visits=(((ordS r.visits:Nat):Int),0):=by simp [ordR,this]
   rw [e,XZ];exact we
def Plc (x:Inst):Prop:= ∀o∈x.orders,-1<=o.pick.place/\ -1<=o.drp.place
theorem nQ {l:List Vis} {v w:Vis} (h:vIx l v=vIx l w) (h0:0<=vIx l v):v=w:=by
 unfold vIx FU at h h0
 cases hv:l.findIdx? (fun u=>decide (v=u)) with
 | none=>grind
 | some i =>
  grind [UZ]
theorem Jc (os:List Ord) (i:Nat):Z3 os i= []\/Z3 os i= [⟨i,false⟩]\/Z3 os i= [⟨i,true⟩]\/Z3 os i= [⟨i,false⟩,⟨i,true⟩]:=by
 grind [Z3]
theorem eA {l own:List Vis} (ho:own= []\/(∃v,own= [v])\/ ∃v w,own= [v,w]/\v≠w) :
  UQ l (-1) own=(V7 l own&& !(decide (own.length=2)&&decide (vIx l (nth own 1)<vIx l (nth own 0)))):=by
 rcases ho with rfl | ⟨v,rfl⟩ | ⟨v,w,rfl,hne⟩
 ·rfl
 ·grind [UQ,V7]
 ·have hne2:0<=vIx l v->vIx l v≠vIx l w:=fun h0 h=>hne (nQ h h0);have h1:= @fY l v;have h2:= @fY l w;rw [Yp];simp [UQ,V7,nth];omega
theorem fZ (os:List Ord) (i:Nat):Z3 os i= []\/(∃v,Z3 os i= [v])\/ ∃v w,Z3 os i= [v,w]/\v≠w:=by
 grind [Jc]
theorem GS {α:Type} [Inhabited α] {l:List α} {f:α->Bool} {k:Nat} (hk:k<l.length) (h:f (nth l k)=false):l.all f=false:=by
 grind [Zo]
theorem N2 {α:Type} [Inhabited α] {l:List α} {f:α->Bool} (h: ∀j,j<l.length->f (nth l j)=true):l.all f=true:=by
 rw [Zu];intro v hv;obtain ⟨j,hj,rfl⟩:=ZW.1 hv
 grind [Zh]
theorem Sk (x:Inst) (l:List Vis) (c:Bool) (hl:l.length<=1048576) (ho:x.orders.length<=1048576) (hp:Plc x) (hv: ∀v∈l,0<=v.order/\v.order<x.orders.length) :
  PC 136 [.p (ZF x),.p (.list c (l.map ZX))] (.bool (l.all (pairB x.orders l))):=by
 refine Zd Tryz.func136 rfl vD ?_;simp (disch:=omega) only [Tryz.f136,go_sem,seval];refine Zl [1,2] (fun k:Nat=> [(5,.p (.int .i64 k))]) (fun _=> [Zj x]) (fun k=>k<=l.length/\ ∀j,j<k->pairB x.orders l (nth l j)=true) (fun k=>l.length-k) 0 Zb (Weak.mk ?_) ?_
 ·simp (disch:=omega) only [Zj,go_sem,seval]
 ·rintro k ⟨hk,hno⟩;refine Ve ?_;refine cD ?_ ?_<;>intro h<;>simp (disch:=omega) only [Sh.out h,go_sem,seval,↓reduceIte]
  ·have hk2:k<l.length:=Za
   obtain ⟨v1,v2⟩:=hv _ (Zo hk2);obtain ⟨i,hi⟩: ∃i:Nat,(nth l k).order=(i:Int):=⟨(nth l k).order.toNat,Za⟩;rw [hi] at v1 v2
   have hpb:pairB x.orders l (nth l k)=(decide (0<=vIx (Z3 x.orders i) (nth l k))&&UQ l (-1) (Z3 x.orders i)):=by rw [pairB,hi];rfl
   have hown:=fZ x.orders i;rw [eA hown] at hpb;refine Xn ?_;simp (disch:=omega) only [hi,go_sem,seval];refine Zq (So x i Za ho hp) (Zc ?_);have hvl:=Uq x.orders i;generalize Z3 x.orders i=own at hvl hpb;have hix:=JU own false (nth l k) Za;rw [Oo,hi] at hix;refine Xn ?_;simp (disch:=omega) only [hi,go_sem,seval];refine Zq (hix) (Zc ?_);refine gF ?_ ?_<;>intro h2<;>simp (disch:=omega) only [Sh.out h2,go_sem,seval]
   ·grind [GS]
   ·have h3:0<=vIx own (nth l k):=Za
    have hgo:pairB x.orders l (nth l k)=true-> ∀j,j<k+1->pairB x.orders l (nth l j)=true:=fun e=>Zn.2 ⟨hno,e⟩;refine Zq (LI l own c false hl Za) (Zc ?_);refine gF ?_ ?_<;>intro h4<;>simp (disch:=omega) only [Sh.out h4,go_sem,seval]
    ·grind [GS]
    ·have h5:V7 l own=true:=by grind
     rw [h5] at hpb;refine K6 ?_ ?_<;>intro h6
     ·have h7:own.length=2:=Za
      refine Zq (JU l c (nth own 0) hl) (Zc ?_);refine Zq (JU l c (nth own 1) hl) (Zc ?_);refine ZD ?_ ?_<;>intro h8
      ·grind [GS]
      ·exact ⟨k+1,⟨Za,hgo (by grind)⟩,Za,wk⟩
     ·exact ⟨k+1,⟨Za,hgo (by grind)⟩,Za,wk⟩
  grind [N2]
def rX (x:Inst) (S:Nat):Bool:=x.apart.any fun p=>Uv S p.1&&Uv S p.2
theorem eY (x:Inst) (S:Nat) (hS:S<9223372036854775808) (ha:x.apart.length<=1048576):PC 137 [.p (ZF x),.p (.int .i64 (S:Nat))] (.bool (!rX x S)):=by
 refine Zd Tryz.func137 rfl vE ?_;simp (disch:=omega) only [Tryz.f137,go_sem,seval];refine Zl [1,2] (fun k:Nat=> [(5,.p (.int .i64 k))]) (fun _=> [Zj x]) (fun k=>k<=x.apart.length/\ ∀j,j<k->(Uv S (nth x.apart j).1&&Uv S (nth x.apart j).2)=false) (fun k=>x.apart.length-k) 0 Zb (Weak.mk ?_) ?_
 ·simp (disch:=omega) only [Zj,go_sem,seval]
 ·rintro k ⟨hk,hno⟩;refine Ve ?_;refine cD ?_ ?_<;>intro h<;>simp (disch:=omega) only [Sh.out h,go_sem,seval,↓reduceIte]
  ·have hk2:k<x.apart.length:=Za
   refine (JT S (nth x.apart k).1 hS).use (Zc ?_);refine K6 ?_ ?_<;>intro h2
   ·refine (JT S (nth x.apart k).2 hS).use (Zc ?_);refine ZD ?_ ?_<;>intro h3
    ·grind [rX,Ka]
    ·exact ⟨k+1,⟨Za,Zn.2 ⟨hno,by grind⟩⟩,Za,wk⟩
   ·exact ⟨k+1,⟨Za,Zn.2 ⟨hno,by rw [h2];rfl⟩⟩,Za,wk⟩
  grind [rX,Dw]
def Jg (l:List Vis) (a b:Int) (j k:Nat):Bool:=decide ((nth l j).order=a)&&decide ((nth l k).order=b)
def UJ (S:Nat) (l:List Vis) (p:Int×Int):Bool:= !Uv S p.2||(Uv S p.1&&(List.range l.length).all fun j=>(List.range j).all fun k=> !Jg l p.1 p.2 j k)
theorem R9 (x:Inst) (S:Nat) (l:List Vis) (c:Bool) (hS:S<9223372036854775808) (hl:l.length<=1048576) (hb:x.before.length<=1048576):PC 138 [.p (ZF x),.p (.int .i64 (S:Nat)),.p (.list c (l.map ZX))] (.bool (x.before.all (UJ S l))):=by
 refine Zd Tryz.func138 rfl vF ?_;simp (disch:=omega) only [Tryz.f138,go_sem,seval];refine Zl [1,2,3] (fun k:Nat=> [(7,.p (.int .i64 k))]) (fun _=> [Zj x]) (fun k=>k<=x.before.length/\ ∀j,j<k->UJ S l (nth x.before j)=true) (fun k=>x.before.length-k) 0 Zb (Weak.mk ?_) ?_
 ·simp (disch:=omega) only [Zj,go_sem,seval]
 ·rintro i ⟨hi,hno⟩;refine Ve ?_;refine cD ?_ ?_<;>intro h<;>simp (disch:=omega) only [Sh.out h,go_sem,seval,↓reduceIte]
  ·have hi2:i<x.before.length:=Za
   have hgo:UJ S l (nth x.before i)=true-> ∀j,j<i+1->UJ S l (nth x.before j)=true:=fun e=>Zn.2 ⟨hno,e⟩;have hbad:UJ S l (nth x.before i)=false->x.before.all (UJ S l)=false:=fun e=>GS hi2 e;have hdef:UJ S l (nth x.before i)=(!Uv S (nth x.before i).2||(Uv S (nth x.before i).1&&(List.range l.length).all fun j=>(List.range j).all fun k=> !Jg l (nth x.before i).1 (nth x.before i).2 j k)):=rfl;generalize UJ S l (nth x.before i)=R at hgo hbad hdef;generalize nth x.before i=p at hdef ⊢;refine (JT S p.2 hS).use (Zc ?_)
   refine ZD ?_ ?_<;>intro h2
   ·have h3:Uv S p.2=false:=by grind
    exact ⟨i+1,⟨Za,hgo (by grind)⟩,Za,wk⟩
   ·have h3:Uv S p.2=true:=by grind
    refine (JT S p.1 hS).use (Zc ?_);refine cD ?_ ?_<;>intro h4<;>simp (disch:=omega) only [Sh.out h4,go_sem,seval]
    ·grind
    ·have h5:Uv S p.1=true:=by grind
     rw [h3,h5] at hdef;simp only [VY,Bool.false_or,Wl] at hdef;refine Zl [1,2,3,7,8,9] (fun k:Nat=> [(10,.p (.int .i64 k))]) (fun _=> [Zj x]) (fun k=>k<=l.length/\ ∀j,j<k-> ∀q,q<j->Jg l p.1 p.2 j q=false) (fun k=>l.length-k) 0 Zb (Weak.mk ?_) ?_
     ·simp (disch:=omega) only [Zj,go_sem,seval]
     ·rintro j ⟨hj,hnj⟩;refine Ve ?_;refine ZD ?_ ?_<;>intro h6
      ·have hj2:j<l.length:=Za
       refine Zl [1,2,3,7,8,9,10] (fun k:Nat=> [(11,.p (.int .i64 k))]) (fun _=> [Zj x]) (fun k=>k<=j/\ ∀q,q<k->Jg l p.1 p.2 j q=false) (fun k=>j-k) 0 Zb (Weak.mk ?_) ?_
       ·simp (disch:=omega) only [Zj,go_sem,seval]
       ·rintro k ⟨hk,hnk⟩;refine Ve ?_;refine ZD ?_ ?_<;>intro h7
        ·have hk2:k<j:=Za
         refine K6 ?_ ?_<;>intro h8
         ·refine ZD ?_ ?_<;>intro h9
          ·rw [hbad (by
            rw [hdef,List.all_eq_false];refine ⟨j,by grind,?_⟩;rw [Ko,List.all_eq_false]
            exact ⟨k,by grind,by simp [Jg,h8,h9]⟩)]
          ·exact ⟨k+1,⟨Za,Zn.2 ⟨hnk,by simp [Jg,h9]⟩⟩,Za,wk⟩
         ·exact ⟨k+1,⟨Za,Zn.2 ⟨hnk,by simp [Jg,h8]⟩⟩,Za,wk⟩
        ·have hkl:k=j:=Za
         subst hkl;exact ⟨k+1,⟨Za,(Zn (p:=fun j=> ∀q,q<j->Jg l p.1 p.2 j q=false)).2 ⟨hnj,hnk⟩⟩,Za,wk⟩
      ·have hjl:j=l.length:=Za
       subst hjl;refine ⟨i+1,⟨Za,hgo ?_⟩,Za,wk⟩
       grind
  grind [N2]
theorem cP {S:Nat} {i:Int} :Uv S i=true↔0<=i/\i<=62/\S.testBit i.toNat=true:=by simp [Uv,and_assoc]
theorem Lq {S:Nat} {a:Int} :a∈XK (S:Int) 63↔ ∃i:Nat,a=(i:Int)/\i<63/\S.testBit i=true:=by
 simp only [XK,XM,QU,ZS]
 constructor
 ·rintro ⟨i,⟨h1,h2⟩,rfl⟩;rw [Qp S i Za] at h2
  grind
 ·rintro ⟨i,rfl,h1,h2⟩;exact ⟨i,⟨h1,by grind [Qp]⟩,rfl⟩
theorem Kk {c:Prop} [Decidable c] {a b:Int} (ha:a≠0):(if c then a else b)=0↔ ¬c/\b=0:=by
 grind
theorem Wd {l:List Vis} {v:Vis} :0<=vIx l v↔v∈l:=by
 grind [MV,vIx]
theorem Za5 {l:List Vis} {v:Vis} :vIx l v<0↔v ∉ l:=by rw [<- Wd];omega
theorem Px {l own:List Vis} :V7 l own=true↔ ∀w∈own,w∈l:=by
 grind [V7,Wd]
theorem Tu {os:List Ord} {l:List Vis} {o:Int} {p:Int×Int} :DA os l o p=true↔(p.2=o-> ∀w∈Z3 os p.1.toNat,w∈l):=by
 rw [DA,Y5,Px,Zp]
 grind
theorem Tv {x:Inst} {l:List Vis} {o:Int} :x.before.all (DA x.orders l o)=true↔ ∀p∈x.before,p.2=o-> ∀w∈Z3 x.orders p.1.toNat,w∈l:=by
 simp_all [Tu]
def Vne (x:Inst):Prop:= ∀i,i<x.orders.length->Z3 x.orders i≠ []
inductive Gr (x:Inst) (S:Nat):List Vis->Prop where
 | nil:Gr x S []
 | snoc {l:List Vis} {v:Vis} (h:Gr x S l) (hv:v∈nextU x S l x.orders.length):Gr x S (l++ [v])
theorem NR (os:List Ord) (i:Nat):(Z3 os i).Nodup:=by
 grind [Jc]
theorem eQ {os:List Ord} {i:Nat} {l:List Vis} {v:Vis} (hv:v∈Z3 os i):Br l v (Z3 os i)=true↔(v.drp=true->⟨i,false⟩∈Z3 os i->⟨i,false⟩∈l):=by
 rcases Jc os i with h | h | h | h<;>rw [h] at hv ⊢ <;>simp at hv
 ·grind [Br]
 ·grind [Br]
 ·rcases hv with rfl | rfl
  ·simp [Br]
  ·simp [Br,Wd]
theorem Ag {x:Inst} {l:List Vis} {v:Vis} {i:Nat} (hv:v∈Z3 x.orders i):Un x l v=true↔v ∉ l/\(v.drp=true->⟨i,false⟩∈Z3 x.orders i->⟨i,false⟩∈l)/\ ∀p∈x.before,p.2=(i:Int)-> ∀w∈Z3 x.orders p.1.toNat,w∈l:=by
 have h:=Ur hv;rw [Un,h,XP,Zy,Zy,Zp,Za5,eQ hv,Tv,and_assoc]
theorem Bf {x:Inst} {S:Nat} {l:List Vis} {v:Vis} {k:Nat} :v∈nextU x S l k↔ ∃i,i<k/\S.testBit i=true/\(nth x.orders i).off=false/\v∈Z3 x.orders i/\Un x l v=true:=by
 rw [nextU,W2]
 constructor
 ·grind [Jh]
 ·rintro ⟨i,hi,h1,h2,h3,h4⟩;exact ⟨i,by grind,by simp_all [Jh]⟩
def BT (x:Inst) (S k:Nat):List Vis:=(List.range k).flatMap fun i=>if S.testBit i=true then Z3 x.orders i else []
theorem FE (x S k):BT x S (k+1)=BT x S k++if S.testBit k=true then Z3 x.orders k else []:=by simp [BT,Yj]
theorem Aw (x S): ∀k,(BT x S k).length=H4 x S k
 | 0=>by rfl
 | k+1=>by
  rw [FE,GF,ZI,Aw x S k]
  split<;>simp
theorem Be {x S k v} :v∈BT x S k↔ ∃i,i<k/\S.testBit i=true/\v∈Z3 x.orders i:=by
 simp_all [BT]
theorem Du (x S): ∀k,(BT x S k).Nodup
 | 0=>by simp [BT]
 | k+1=>by
  rw [FE,List.nodup_append];refine ⟨Du x S k,?_,fun a ha b hb=> ?_⟩
  ·grind [NR]
  ·obtain ⟨i,hi,_,h2⟩:=Be.1 ha
   split at hb
   ·have h3:=Ur h2;have h4:=Ur hb
    grind
   ·simp at hb
theorem Gr.nodup {x S l} (h:Gr x S l):l.Nodup:=by
 induction h with
 | nil=>simp
 | snoc _ hv ih =>
  obtain ⟨i,_,_,_,h4,h5⟩:=Bf.1 hv;rw [List.nodup_append];refine ⟨ih,Zb,fun a ha b hb=> ?_⟩;simp at hb;subst hb;exact fun e=>((Ag h4).1 h5).1 (e ▸ ha)
theorem Gr.sub {x S l} (h:Gr x S l): ∀v∈l,v∈BT x S x.orders.length:=by
 induction h with
 | nil=>simp
 | snoc _ hv ih =>
  obtain ⟨i,h1,h2,_,h4,_⟩:=Bf.1 hv;intro w hw;rcases Xr.1 hw with hw | hw
  ·exact ih w hw
  ·simp at hw;subst hw;exact Be.2 ⟨i,h1,h2,h4⟩
theorem Pd {α:Type} [DecidableEq α] {l m:List α} (hl:l.Nodup) (h: ∀v∈l,v∈m):l.length<=m.length:=List.Nodup.length_le_of_subset hl h
theorem Gr.len {x S l} (h:Gr x S l):l.length<=H4 x S x.orders.length:=by
 rw [<- Aw];exact Pd h.nodup h.sub
def ext (nx:List Vis->List Vis):Nat->List Vis->List (List Vis)->List (List Vis)
 | 0,l,outs=>if 8192<outs.length then outs else outs++ [l]
 | f+1,l,outs=>if 8192<outs.length then outs else (nx l).foldl (fun acc v=>ext nx f (l++ [v]) acc) outs
theorem PW {S n:Nat} (hS:S<9223372036854775808) (h: ∀j,j<63->S.testBit j=true->j<n):S / pw n=0:=by
 refine Ba ?_;refine Nat.lt_pow_two_of_testBit S fun i hi=> ?_;rcases Vn i 63 with h2 | h2
 ·grind
 ·exact C2 (JC hS (Wk Za h2:2^63<=2^i))
def LH (x:Inst) (l:List Vis):Int :=
 if l.any (VD x)=true then 2
 else if l.length=0 then 2
 else if (l.any fun v=>(nth x.orders v.order.toNat).off)=true then 9
 else if ((List.range l.length).any fun i=>decide (vIx l (nth l i)≠(i:Int)))=true then 6
 else if l.all (pairB x.orders l)=false then 19
 else if rX x (ordS l)=true then 20
 else if x.before.all (UJ (ordS l) l)=false then 21
 else 0
theorem NB (x:Inst) (r:Rte) (ho:x.orders.length<=60) (hl:r.visits.length<=1048576) (hap:x.apart.length<=1048576) (hbe:x.before.length<=1048576) (hp:Plc x) :
  PC 86 [.p (ZF x),.p (Z0 r)] (.int .i64 (LH x r.visits)):=by
 refine Zd Tryz.func86 rfl Zga ?_;simp (disch:=omega) only [Tryz.f86,go_sem,seval];refine Zl [2,3,5] (fun k:Nat=> [(6,.p (.int .i64 k))]) (fun _=> [Zj x,ZO r]) (fun k=>k<=r.visits.length/\ ∀j,j<k->VD x (nth r.visits j)=false) (fun k=>r.visits.length-k) 0 Zb (Weak.mk ?_) ?_
 ·simp (disch:=omega) only [Zj,ZO,go_sem,seval]
 ·rintro k ⟨hk,hno⟩;refine Jk ?_;refine cD ?_ ?_<;>intro h<;>simp (disch:=omega) only [Sh.out h,go_sem,seval,↓reduceIte]
  ·have hk2:k<r.visits.length:=Za
   refine Xn (Zc ?_);refine gF ?_ ?_<;>intro h2<;>simp (disch:=omega) only [Sh.out h2,go_sem,seval,↓reduceIte]
   ·have:VD x (nth r.visits k)=true:=by simp [VD];omega
    rw [LH,if_pos (Ka hk2 this)]
   ·refine ZD ?_ ?_<;>intro h3
    ·have:VD x (nth r.visits k)=true:=by simp [VD];omega
     rw [LH,if_pos (Ka hk2 this)]
    ·exact ⟨k+1,⟨Za,Zn.2 ⟨hno,by simp [VD];omega⟩⟩,Za,wk⟩
  ·have hkl:k=r.visits.length:=Za
   subst hkl
   have hr1:LH x r.visits=if r.visits.length=0 then 2 else if (r.visits.any fun v=>(nth x.orders v.order.toNat).off)=true then 9 else if ((List.range r.visits.length).any fun i=>decide (vIx r.visits (nth r.visits i)≠(i:Int)))=true then 6 else if r.visits.all (pairB x.orders r.visits)=false then 19 else if rX x (ordS r.visits)=true then 20 else if x.before.all (UJ (ordS r.visits) r.visits)=false then 21 else 0:=by
    rw [LH,if_neg (by rw [Dw hno];simp)]
   have hin: ∀j,j<r.visits.length->0<=(nth r.visits j).order/\(nth r.visits j).order<x.orders.length:=fun j hj=>by
    grind [VD]
   have hmem: ∀v∈r.visits,0<=v.order/\v.order<x.orders.length:=fun v hv=>by
    obtain ⟨j,hj,rfl⟩:=ZW.1 hv
    grind [Zh]
   have hord:ordR r.visits=(((ordS r.visits:Nat):Int),0):=by
    rw [ordR,if_pos]
    grind [Cy]
   have hlt:ordS r.visits<9223372036854775808:=by
    have:=UH r.visits.length (l:=r.visits) (Zx _) (fun v hv=>by
     grind [Cy])
    grind
   have hoc:=Ch r hl;rw [hord] at hoc;refine WV hoc (Zc ?_);refine cD ?_ ?_<;>intro h3<;>simp (disch:=omega) only [Sh.out h3,go_sem,seval]
   ·grind
   ·rw [hr1,if_neg Za];clear hno hr1 h3 h hk;refine Zl [2,5,7] (fun k:Nat=> [(9,.p (.int .i64 k))]) (fun _=> [Zj x,ZO r]) (fun k=>k<=r.visits.length/\ ∀j,j<k->(nth x.orders (nth r.visits j).order.toNat).off=false) (fun k=>r.visits.length-k) 0 Zb (Weak.mk ?_) ?_
    ·simp (disch:=omega) only [Zj,ZO,go_sem,seval]
    ·rintro k ⟨hk,hno⟩;refine Jk ?_;refine cD ?_ ?_<;>intro h<;>simp (disch:=omega) only [Sh.out h,go_sem,seval,↓reduceIte]
     ·have hk2:k<r.visits.length:=Za
      obtain ⟨i1,i2⟩:=hin k hk2
      have i3:(nth r.visits k).order.toNat<x.orders.length:=Za
      refine Xn (Zc ?_);refine ZD ?_ ?_<;>intro h4
      ·rw [if_pos (Ka hk2 h4)]
      ·exact ⟨k+1,⟨Za,Zn.2 ⟨hno,h4⟩⟩,Za,wk⟩
     ·have hkl:k=r.visits.length:=Za
      subst hkl;have e9:(r.visits.any fun v=>(nth x.orders v.order.toNat).off)=false:=Dw hno;rw [e9,if_neg Zb];clear hno h hk;refine Zl [2,5,7] (fun k:Nat=> [(10,.p (.int .i64 k))]) (fun _=> [Zj x,ZO r]) (fun k=>k<=r.visits.length/\ ∀j,j<k->vIx r.visits (nth r.visits j)=(j:Int)) (fun k=>r.visits.length-k) 0 Zb (Weak.mk ?_) ?_
      ·simp (disch:=omega) only [Zj,ZO,go_sem,seval]
      ·rintro k ⟨hk,hno⟩;refine Jk ?_;refine cD ?_ ?_<;>intro h<;>simp (disch:=omega) only [Sh.out h,go_sem,seval,↓reduceIte]
       ·have hk2:k<r.visits.length:=Za
        refine (JU r.visits r.visits_c (nth r.visits k) hl).use (Zc ?_);refine ZD ?_ ?_<;>intro h4
        ·have:((List.range r.visits.length).any fun i=>decide (vIx r.visits (nth r.visits i)≠(i:Int)))=true:=by
          grind
         grind
        ·exact ⟨k+1,⟨Za,Zn.2 ⟨hno,Za⟩⟩,Za,wk⟩
       ·have hkl:k=r.visits.length:=Za
        subst hkl
        have:((List.range r.visits.length).any fun i=>decide (vIx r.visits (nth r.visits i)≠(i:Int)))=false:=by
         grind
        rw [this,if_neg Zb];refine (Sk x r.visits r.visits_c hl Za hp hmem).use (Zc ?_);refine cD ?_ ?_<;>intro h4<;>simp (disch:=omega) only [Sh.out h4,go_sem,seval,↓reduceIte]
        ·grind
        ·rw [if_neg (by grind)];refine (eY x (ordS r.visits) hlt hap).use (Zc ?_);refine cD ?_ ?_<;>intro h5<;>simp (disch:=omega) only [Sh.out h5,go_sem,seval,↓reduceIte]
         ·grind
         ·rw [if_neg (by grind)];refine (R9 x (ordS r.visits) r.visits r.visits_c hlt hl hbe).use (Zc ?_);refine cD ?_ ?_<;>intro h6<;>simp (disch:=omega) only [Sh.out h6,go_sem,seval]
          ·grind
          grind
structure IFacts (x:Inst):Prop where
 len:x.orders.length<=10
 plc:Plc x
 vne:Vne x
 val:Val x.orders.length x.before
 ne: ∀p∈x.before,p.1≠p.2
 aval:Val x.orders.length x.apart
theorem aT {n:Int} {word:List UInt8} {sm:Int×Int->Int×Int->Bool} {l:List (Int×Int)} (h:Jm n word sm l l.length= []): ∀p∈l,lQ n p=true:=by
 intro p hp;obtain ⟨i,hi,rfl⟩:=ZW.1 hp;have h2:=(U0.1 h).2;rw [List.flatMap_eq_nil_iff] at h2;have h3:=h2 i (by grind)
 grind [SM,Zh]
theorem V3 {x:Inst} (h:InstOk x):IFacts x:=by
 have ho:=h.orders;obtain ⟨h1,h2⟩:=U0.1 h.rules;have ha:=aT h1;have hb:=aT h2
 have hpl:Plc x:=fun o hm=>by
  obtain ⟨i,hi,rfl⟩:=ZW.1 hm;have:=ho.2 i hi;rw [<- Zh hi];exact ⟨this.pick.1,this.drp.1⟩
 have val: ∀l:List (Int×Int),(∀p∈l,lQ x.orders.length p=true)->Val x.orders.length l:=fun l h p hp=>by
  grind [lQ]
 refine ⟨ho.1,hpl,fun i hi=> ?_,val _ hb,fun p hp=> ?_,val _ ha⟩
 ·have h3:=ho.2 i hi;have h4:=hpl _ (Zo hi);have h5:=h3.one
  grind [Z3]
 grind [lQ]
theorem XE {l:List Vis} {o:Int} :hasO l o=true↔ ∃v∈l,v.order=o:=by simp [hasO]
theorem Wu : ∀(l:List Vis) (i:Nat),(ordS l).testBit i=true↔ ∃v∈l,v.order.toNat=i:=by
 have key: ∀(l:List Vis) (s i:Nat),(l.foldl (fun s v=>s|||pw v.order.toNat) s).testBit i=true↔s.testBit i=true\/ ∃v∈l,v.order.toNat=i:=by
  intro l
  induction l with
  | nil=>simp
  | cons v l ih =>
   intro s i;rw [Vl,ih,Ks,EP,Y5,Zp,or_assoc];simp
 grind [ordS]
def Inr (x:Inst) (l:List Vis):Prop:= ∀v∈l,0<=v.order/\v.order<x.orders.length
theorem Eh {x:Inst} {l:List Vis} (hi:Inr x l) (hn:x.orders.length<=60) (o:Int) (h:0<=o/\o<=62):Uv (ordS l) o=hasO l o:=by
 rw [Yp,cP,Wu,XE]
 constructor
 ·rintro ⟨h1,h2,v,hv,h3⟩;have:=hi v hv
  grind
 grind
theorem J2 {l:List Vis} (hd:l.Nodup) {k:Nat} (hk:k<l.length):vIx l (nth l k)=(k:Int):=by
 refine Hn hk Zb fun j hj=> ?_
 grind [Zh,A2]
theorem H7 {l:List Vis} {v:Vis} (h:0<=vIx l v):(vIx l v).toNat<l.length/\nth l (vIx l v).toNat=v:=by
 grind [vIx,FU,UZ,Zh]
theorem Zmx {l:List Vis} {k:Nat} (hk:k<l.length):0<=vIx l (nth l k)/\vIx l (nth l k)<=(k:Int):=by
 grind [vIx,nth,Zo,FU,UZ]
theorem J0 {l:List Vis} {v:Vis} {i:Nat} (h:v∈l.take i): ∃j,j<i/\j<l.length/\nth l j=v:=by
 obtain ⟨j,hj,rfl⟩:=ZW.1 h;simp at hj;exact ⟨j,Za,Za,by grind [Zh]⟩
theorem JH {l:List Vis} {i j:Nat} (h:j<i) (hl:j<l.length):nth l j∈l.take i:=by
 grind [Zh,ZW]
theorem Ap {l:List Vis} :J1 l=false↔l.Nodup:=by
 rw [J1,Yi]
 constructor
 ·intro h;rw [List.nodup_iff_pairwise_ne,A2];intro i j hi hj hij e;have:=h j (by grind);simp only [Zp,Wd] at this;refine this ?_;rw [Zh hj,<- e,<- Zh hi];exact JH hij hi
 ·intro h j hj;simp only [Zp,Wd]
  grind [J0,J2]
theorem Sy {l:List Vis} :((List.range l.length).any fun i=>decide (vIx l (nth l i)≠(i:Int)))=J1 l:=by
 rw [Yp]
 constructor
 ·grind [J2,Ap]
 ·intro h;rw [J1,W1] at h;obtain ⟨j,hj,h2⟩:=h;simp only [Zp,Wd] at h2;obtain ⟨i,h3,h4,h5⟩:=J0 h2
  grind
def Ed (l:List Vis) (b:Int):Int:=FU (fun v=>decide (v.order=b)) l
theorem HC {l:List Vis} {b:Int} :0<=Ed l b↔ ∃v∈l,v.order=b:=by
 grind [MV,Ed]
theorem HB {l:List Vis} {b:Int} (h:0<=Ed l b):(Ed l b).toNat<l.length/\(nth l (Ed l b).toNat).order=b/\ ∀j,j<(Ed l b).toNat->(nth l j).order≠b:=by
 unfold Ed FU at h ⊢
 grind [UZ,Zh]
theorem dA {l:List Vis} {b:Int} {k:Nat} (hk:k<l.length) (h:(nth l k).order=b):0<=Ed l b/\Ed l b<=(k:Int):=by
 have h0:0<=Ed l b:=HC.2 ⟨_,Zo hk,h⟩;refine ⟨h0,?_⟩;obtain ⟨h1,h2,h3⟩:=HB h0
 grind
theorem Cw {l:List Vis} {a b:Int} :beforeB l a b=true↔(0<=Ed l b->(∃v∈l,v.order=a)/\ ∀j,j<l.length->(nth l j).order=a->(j:Int)<Ed l b):=by
 unfold beforeB;rw [show FU (fun v=>decide (v.order=b)) l=Ed l b from rfl]
 by_cases h:Ed l b<0
 ·grind
 ·rw [if_neg h,Zy,XE]
  have h0:0<=Ed l b:=Za
  obtain ⟨h1,h2,h3⟩:=HB h0
  have hd:(!hasO (l.drop (Ed l b).toNat) a)=true↔ ∀j,j<l.length->(nth l j).order=a->(j:Int)<Ed l b:=by
   rw [XI,<- Ko,XE]
   constructor
   ·intro hno j hj e;rcases Int.lt_or_le (j:Int) (Ed l b) with h4 | h4
    ·exact h4
    ·refine absurd ⟨nth l j,?_,e⟩ hno;rw [Zh hj];exact ZW.2 ⟨j-(Ed l b).toNat,by simp;omega,by grind⟩
   ·rintro X9 ⟨v,hv,e⟩;obtain ⟨j,hj,rfl⟩:=ZW.1 hv
    grind [Zh]
  grind
theorem MG {x:Inst} {l:List Vis} (hi:Inr x l) (hn:x.orders.length<=60) {p:Int×Int} (h1:0<=p.1/\p.1<x.orders.length) (h2:0<=p.2/\p.2<x.orders.length) (hne:p.1≠p.2):UJ (ordS l) l p=beforeB l p.1 p.2:=by
 rw [Yp,Cw,UJ,Eh hi hn _ Za,Eh hi hn _ Za];simp only [Y5,XI,Zy];rw [<- Ko,XE,XE,<- HC,<- HC (b:=p.1)]
 constructor
 ·rintro (h | ⟨h3,h4⟩) h0
  ·omega
  ·refine ⟨h3,fun j hj e=> ?_⟩;rw [Zu] at h4;have h5:=h4 j (by grind);rw [Zu] at h5;obtain ⟨g1,g2,g3⟩:=HB h0;rcases Int.lt_or_le (j:Int) (Ed l p.2) with h6 | h6
   ·exact h6
   ·have hne2:j≠(Ed l p.2).toNat:=fun e2=>hne (by grind);have:=h5 (Ed l p.2).toNat (by simp;omega)
    grind [Jg]
 ·intro h
  by_cases h0:0<=Ed l p.2
  ·obtain ⟨h3,h4⟩:=h h0;refine .inr ⟨h3,?_⟩;rw [Zu];intro j hj;rw [Zu];intro k hk;simp at hj hk
   cases hb:Jg l p.1 p.2 j k with
   | false=>rfl
   | true =>
    simp [Jg] at hb;have h5:=h4 j hj hb.1;have h6:=(dA Za hb.2).2;omega
  omega
theorem mQ {x:Inst} (hf:IFacts x) (l:List Vis):LH x l=Xk x l:=by
 by_cases ho:l.any (VD x)=true
 ·simp_all [LH,Xk]
 ·have ho':l.any (VD x)=false:=by grind
  have hi:Inr x l:=fun v hv=>by
   grind [VD]
  have hn:x.orders.length<=60:=by have:=hf.len;omega
  rw [LH,if_neg ho,Xk]
  by_cases h0:l.length=0
  ·omega
  ·have hc: ¬(l.length=0\/l.any (VD x)=true):=fun h=>h.elim h0 ho;rw [if_neg h0,if_neg hc,Sy]
   have e1:rX x (ordS l)=x.apart.any fun p=>hasO l p.1&&hasO l p.2:=by
    rw [rX,Yp,W1,W1]
    have: ∀p∈x.apart,(Uv (ordS l) p.1&&Uv (ordS l) p.2)=(hasO l p.1&&hasO l p.2):=fun p hp=>by
     have:=hf.aval p hp
     grind [Eh]
    grind
   have e2:(x.before.all (UJ (ordS l) l)=false)=((x.before.any fun p=> !beforeB l p.1 p.2)=true):=by
    have: ∀p∈x.before,UJ (ordS l) l p=beforeB l p.1 p.2:=fun p hp=>by
     have:=hf.val p hp;exact MG hi hn Za Za (hf.ne p hp)
    grind
   grind
def Z9 (p:Pln):AM.Obj:= .cells [.p (.list p.routes_c (p.routes.map Z0)),.p (.list p.unserved_c (p.unserved.map eI))]
def Q7 (r:Rte):Prop:=r.visits.length<=1048576/\r.rests.length<=1048576
def Y0 (f:Nat->Int) (n:Nat):List Int:=(List.range n).map f
theorem Eu {f n} :(Y0 f n).length=n:=by simp [Y0]
theorem Ev {f:Nat->Int} {n j:Nat} (h:j<n):nth (Y0 f n) j=f j:=by grind [Zh,Y0]
theorem Df {f g:Nat->Int} {n:Nat} (h: ∀i,i<n->f i=g i):Y0 f n=Y0 g n:=YN fun i hi=>h i (ZS.1 hi)
theorem LK {f n j v} :(Y0 f n).set j v=Y0 (fun i=>if i=j then v else f i) n:=by
 refine QS (by simp [Y0]) fun i h1 h2=> ?_
 have hi:i<n:=by grind [Y0]
 rw [List.getElem_set];simp only [Y0,List.getElem_map,List.getElem_range];omega
def Xo (rs:List Rte):Nat->Nat->Int
 | 0,_=> -1
 | k+1,o=>if hasO (nth rs k).visits (o:Int)=true then (k:Int) else Xo rs k o
theorem Qj {rs:List Rte} {o:Nat} : ∀k:Nat,-1<=Xo rs k o/\Xo rs k o<(k:Int)
 | 0=>by simp [Xo]
 | k+1=>by
  have:=Qj (rs:=rs) (o:=o) k
  grind [Xo]
def U4 (rs:List Rte) (k:Nat) (l:List Vis) (o:Nat):Int:=if hasO l (o:Int)=true then (k:Int) else Xo rs k o
def EV (n:Nat) (v:Vis):Bool:=decide (v.order<0)||decide ((n:Int)<=v.order)
def VN (x:Inst) (r:Rte):Bool:=(decide (r.typ<0)||decide ((x.types.length:Int)<=r.typ))||r.visits.any (EV x.orders.length)
def Pg (rs:List Rte) (k:Nat) (l:List Vis):Bool:=l.any fun v=>decide (0<=Xo rs k v.order.toNat)
def Mf (rs:List Rte):Nat->Bool
 | 0=>false
 | k+1=>Mf rs k||Pg rs k (nth rs k).visits
def YI (x:Inst) (p:Pln):Int:=if p.routes.any (VN x)=true then 2 else if Mf p.routes p.routes.length=true then 6 else 0
def QR (rs:List Rte) (i:Int):Int:=if 0<=i then (nth rs i.toNat).typ else-1
def KN (x:Inst) (p:Pln):List Int:=Y0 (fun o=>QR p.routes (Xo p.routes p.routes.length o)) x.orders.length
theorem DY {x p} :(KN x p).length=x.orders.length:=Eu
theorem Rn {l:List Vis} {v:Vis} {o:Int} :hasO (l++ [v]) o=(hasO l o||decide (v.order=o)):=by simp [hasO]
theorem RB {rs:List Rte} {k:Nat} {l:List Vis} {v:Vis} {n:Nat} (h:0<=v.order/\v.order<(n:Int)):(Y0 (U4 rs k l) n).set v.order.toNat (k:Int)=Y0 (U4 rs k (l++ [v])) n:=by
 rw [LK];refine Df fun i hi=> ?_;rw [U4,U4,Rn]
 grind
theorem cE {rs:List Rte} {k:Nat} :U4 rs k (nth rs k).visits=Xo rs (k+1):=funext fun o=>rfl
theorem Zgw {rs:List Rte} {k:Nat} :U4 rs k []=Xo rs k:=funext fun o=>by rfl
theorem cG {rs:List Rte} {k:Nat} {l:List Vis} {o:Nat} : -1<=U4 rs k l o/\U4 rs k l o<=(k:Int):=by
 have:=Qj (rs:=rs) (o:=o) k
 grind [U4]
theorem fV {rs:List Rte} {k:Nat} {l:List Vis} {v:Vis} (h:0<=v.order) {b:Bool} :((b||Pg rs k l)||(decide (U4 rs k l v.order.toNat≠ -1)&&decide (U4 rs k l v.order.toNat≠(k:Int))))=(b||Pg rs k (l++ [v])):=by
 have hr:=Qj (rs:=rs) (o:=v.order.toNat) k
 have e:Pg rs k (l++ [v])=(Pg rs k l||decide (0<=Xo rs k v.order.toNat)):=by simp [Pg]
 rw [e,U4]
 by_cases c:hasO l (v.order.toNat:Int)=true
 ·rw [if_pos c]
  grind [Pg,XE]
 grind
theorem AY {x:Inst} {p:Pln} {k:Nat} (h:k<p.routes.length) (hb:VN x (nth p.routes k)=true):YI x p=2:=by
 rw [YI,if_pos (W1.2 ⟨_,Zo h,hb⟩)]
theorem mP {x:Inst} {p:Pln} (h: ∀j,j<p.routes.length->VN x (nth p.routes j)=false):p.routes.any (VN x)=false:=by
 rw [Yi];intro r hr;obtain ⟨j,hj,rfl⟩:=ZW.1 hr
 grind [Zh]
theorem Ht {x:Inst} {p:Pln} (h: ∀j,j<p.routes.length->VN x (nth p.routes j)=false):YI x p=if Mf p.routes p.routes.length=true then 6 else 0:=by
 rw [YI,mP h];simp
set_option maxRecDepth 60000
def QQ : List Rte->Int->Int
 | [],_=> -1
 | r::t,o=>if hasO r.visits o=true then r.typ else QQ t o
theorem T5 {α:Type} [Inhabited α] {l:List α} {k:Nat} (h:k<l.length):l.drop k=nth l k::l.drop (k+1):=by rw [Ug h,Zh h]
theorem Rm {v:Vis} {l:List Vis} {o:Int} :hasO (v::l) o=(decide (v.order=o)||hasO l o):=rfl
theorem JY {P Q:Prop} (h:Q) (e:Q->P:=by intro h;simp (disch:=omega) only [Z9,go_sem,seval];exact h):P:=e h
theorem Gw (p:Pln) (o:Int) (hr:p.routes.length<=1048576) (hv: ∀r∈p.routes,r.visits.length<=1048576) :
  PC 133 [.p (Vk p),.p (.int .i64 o)] (.int .i64 (QQ p.routes o)):=by
 refine Zd Tryz.func133 rfl vB ?_;simp (disch:=omega) only [Tryz.f133,go_sem,seval];refine Zl [1,2] (fun k:Nat=> [(5,.p (.int .i64 k))]) (fun _=> [Z9 p]) (fun k=>k<=p.routes.length/\QQ p.routes o=QQ (p.routes.drop k) o) (fun k=>p.routes.length-k) 0 Zb (Weak.mk ?_) ?_
 ·simp (disch:=omega) only [Z9,go_sem,seval]
 ·rintro k ⟨hk,he⟩;refine JY ?_;refine cD ?_ ?_<;>intro h<;>simp (disch:=omega) only [Sh.out h,go_sem,seval,↓reduceIte]
  ·have hk2:k<p.routes.length:=Za
   have hvl:=hv _ (Zo hk2);rw [T5 hk2,QQ] at he;refine Zl [1,2,5] (fun q:Nat=> [(6,.p (.int .i64 q))]) (fun _=> [Z9 p]) (fun q=>q<=(nth p.routes k).visits.length/\hasO (nth p.routes k).visits o=hasO ((nth p.routes k).visits.drop q) o) (fun q=>(nth p.routes k).visits.length-q) 0 Zb (Weak.mk ?_) ?_
   ·simp (disch:=omega) only [Z9,go_sem,seval]
   ·rintro q ⟨hq,hh⟩;refine JY ?_;refine ZD ?_ ?_<;>intro h2
    ·have hq2:q<(nth p.routes k).visits.length:=Za
     rw [T5 hq2,Rm] at hh;refine ZD ?_ ?_<;>intro h3
     ·grind
     ·rw [Yd h3,Bool.false_or] at hh;exact ⟨q+1,⟨Za,hh⟩,Za,wk⟩
    ·have hql:q=(nth p.routes k).visits.length:=Za
     rw [hql,JE] at hh;rw [if_neg (by grind [hasO])] at he;exact ⟨k+1,⟨Za,he⟩,Za,wk⟩
  grind [QQ]
def nW (rs:List Rte) (o:Int):Nat->Nat
 | 0=>0
 | k+1=>nW rs o k+if hasO (nth rs k).visits o=true then 1 else 0
theorem qN {rs:List Rte} {o:Int} : ∀k,nW rs o k<=k
 | 0=>by simp [nW]
 | k+1=>by have:=qN (rs:=rs) (o:=o) k;rw [nW];split<;>omega
theorem U6 {rs:List Rte} {o:Int} : ∀ {k:Nat},1<=nW rs o k↔ ∃a,a<k/\hasO (nth rs a).visits o=true
 | 0=>by simp [nW]
 | k+1=>by
  rw [nW]
  constructor
  ·intro h
   by_cases c:hasO (nth rs k).visits o=true
   ·grind
   ·rw [if_neg c] at h;obtain ⟨a,h1,h2⟩:=U6.1 (show 1<=nW rs o k by omega);exact ⟨a,Za,h2⟩
  ·rintro ⟨a,h1,h2⟩
   by_cases c:a=k
   ·grind
   ·have:=U6.2 ⟨a,show a<k by omega,h2⟩;omega
theorem cQ {rs:List Rte} {o:Int} : ∀ {k:Nat},2<=nW rs o k↔ ∃a b,a<b/\b<k/\hasO (nth rs a).visits o=true/\hasO (nth rs b).visits o=true
 | 0=>by simp [nW]
 | k+1=>by
  rw [nW]
  constructor
  ·intro h
   by_cases c:hasO (nth rs k).visits o=true
   ·rw [if_pos c] at h
    grind [U6]
   ·rw [if_neg c] at h;obtain ⟨a,b,h1,h2,h3⟩:=cQ.1 (show 2<=nW rs o k by omega);exact ⟨a,b,h1,Za,h3⟩
  ·rintro ⟨a,b,h1,h2,h3,h4⟩
   by_cases c:b=k
   ·subst c;have:=U6.2 ⟨a,h1,h3⟩
    grind
   ·have:=cQ.2 ⟨a,b,h1,show b<k by omega,h3,h4⟩;omega
theorem Qi {rs:List Rte} {o:Nat} : ∀ {k:Nat},0<=Xo rs k o↔ ∃a,a<k/\hasO (nth rs a).visits (o:Int)=true
 | 0=>by simp [Xo]
 | k+1=>by
  rw [Xo]
  constructor
  ·intro h
   by_cases c:hasO (nth rs k).visits (o:Int)=true
   ·grind
   ·rw [if_neg c] at h;obtain ⟨a,h1,h2⟩:=Qi.1 h;exact ⟨a,Za,h2⟩
  ·rintro ⟨a,h1,h2⟩
   by_cases c:hasO (nth rs k).visits (o:Int)=true
   ·grind
   ·rw [if_neg c];refine Qi.2 ⟨a,?_,h2⟩
    grind
theorem Dj {rs:List Rte} : ∀ {k:Nat},(∀j,j<k-> ∀v∈(nth rs j).visits,0<=v.order)->(Mf rs k=true↔ ∃o:Nat,2<=nW rs (o:Int) k/\ ∃j,j<k/\hasO (nth rs j).visits (o:Int)=true)
 | 0,_=>by simp [Mf,nW]
 | k+1,h=>by
  rw [Mf,Y5,Dj fun j hj=>h j Za]
  constructor
  ·rintro (⟨o,h1,j,h2,h3⟩ | h1)
   ·grind [nW]
   ·rw [Pg,W1] at h1;obtain ⟨v,hv,h2⟩:=h1;have h3:=Qi.1 (A9 h2);have h4:=U6.2 h3;have h5:hasO (nth rs k).visits (v.order.toNat:Int)=true:=XE.2 ⟨v,hv,by grind⟩;exact ⟨v.order.toNat,by simp_all [nW],k,Za,h5⟩
  ·rintro ⟨o,h1,_⟩;rw [nW] at h1
   by_cases c:hasO (nth rs k).visits (o:Int)=true
   ·rw [if_pos c] at h1;refine .inr ?_;obtain ⟨v,hv,e⟩:=XE.1 c;rw [Pg,W1];refine ⟨v,hv,YO ?_⟩
    simp_all [Qi,U6]
   grind
theorem F5 {o:Int} {r:Rte} : ∀ {a:List Rte},QQ (a++ [r]) o=if (a.any fun r=>hasO r.visits o)=true then QQ a o else if hasO r.visits o=true then r.typ else-1
 | []=>by simp [QQ]
 | s::t=>by
  rw [ZQ,QQ,QQ,F5]
  by_cases c:hasO s.visits o=true
  ·simp [c]
  ·simp [c]
theorem F4 {rs:List Rte} {o:Nat} : ∀ {k:Nat},k<=rs.length->nW rs (o:Int) k<=1->QQ (rs.take k) (o:Int)=QR rs (Xo rs k o)
 | 0,_,_=>by rfl
 | k+1,hk,h=>by
  have hk2:k<rs.length:=Za
  rw [nW] at h;rw [Xw hk2,<- Zh hk2,F5,Xo]
  have hany:((rs.take k).any fun r=>hasO r.visits (o:Int))=true↔1<=nW rs (o:Int) k:=by
   rw [U6,W1]
   constructor
   ·rintro ⟨r,hr,h1⟩;obtain ⟨a,ha,rfl⟩:=ZW.1 hr;rw [ZY] at ha;rw [List.getElem_take] at h1;exact ⟨a,Za,by grind [Zh]⟩
   ·rintro ⟨a,ha,h1⟩;refine ⟨nth rs a,?_,h1⟩;rw [Zh Za,List.mem_take_iff_getElem]
    grind
  by_cases c:hasO (nth rs k).visits (o:Int)=true
  ·simp_all [QR]
  ·rw [if_neg c] at h;have ih:=F4 (rs:=rs) (o:=o) (k:=k) Za Za
   simp_all [U6,Qi,QR]
theorem F3 {x:Inst} {p:Pln} (h:YI x p=0):(∀r∈p.routes,VN x r=false)/\Mf p.routes p.routes.length=false:=by
 grind [YI]
theorem Qo {x:Inst} {r:Rte} (h:VN x r=false):(0<=r.typ/\r.typ<(x.types.length:Int))/\ ∀v∈r.visits,0<=v.order/\v.order<(x.orders.length:Int):=by
 simp_all [VN,EV]
theorem bU {x:Inst} {p:Pln} (h:YI x p=0):Y0 (fun i=>QQ p.routes (i:Int)) x.orders.length=KN x p:=by
 obtain ⟨h1,h2⟩:=F3 h;refine Df fun i _=> ?_
 have h3:nW p.routes (i:Int) p.routes.length<=1:=by
  refine Nat.le_of_not_lt fun h4=> ?_;have h5:=(Dj (rs:=p.routes) (k:=p.routes.length) fun j hj v hv=>((Qo (h1 _ (Zo hj))).2 v hv).1).2 ⟨i,h4,by grind [U6]⟩
  grind
 have:=F4 (rs:=p.routes) (o:=i) (k:=p.routes.length) (Zx _) h3
 grind
def Wm {α:Type} (f:Nat->α) (n:Nat):List α:=(List.range n).map f
section
variable {α : Type} {f g : Nat -> α} {n j : Nat}
theorem Wx : (Wm f n).length=n:=by simp [Wm]
theorem JV [Inhabited α] (h:j<n):nth (Wm f n) j=f j:=by grind [Zh,Wm]
theorem Q6 (h: ∀i,i<n->f i=g i):Wm f n=Wm g n:=YN fun i hi=>h i (ZS.1 hi)
theorem LL {v:α} :(Wm f n).set j v=Wm (fun i=>if i=j then v else f i) n:=by
 refine QS (by simp [Wm]) fun i h1 h2=> ?_;rw [List.getElem_set];simp only [Wm,List.getElem_map,List.getElem_range]
 grind
theorem Sj : Wm f (n+1)=Wm f n++ [f n]:=by simp [Wm,Yj]
theorem Si [Inhabited α] {l:List α} :Wm (nth l) l.length=l:=by
 refine QS Wx fun i h1 h2=> ?_;rw [<- Zh h1,JV h2,Zh h2]
end
def E4 : Inst:=⟨⟨true,[],true,[]⟩,true,[],true,[],true,[],true,[]⟩
theorem bV {x:Inst} {p:Pln} (h:YI x p=0) {j:Nat} (hj:j<x.orders.length): -1<=nth (KN x p) j/\nth (KN x p) j<(x.types.length:Int):=by
 obtain ⟨h1,_⟩:=F3 h;rw [KN,Ev hj,QR];have hr:=Qj (rs:=p.routes) (o:=j) p.routes.length
 split
 ·have:=(Qo (h1 _ (Zo (show (Xo p.routes p.routes.length j).toNat<p.routes.length by omega)))).1;omega
 ·omega
end Go.Proofs.YtiigdaohjanidaaGreatDoor.K
namespace Go.Proofs.YtiigdaohjanidaaGreatDoor.K
section
variable {L : Type} (fin : L -> Int) (beats : L -> L -> Bool) (nxt : Nat -> L -> Bool -> Option L) (choices : Nat -> List Bool)
def Vb : Option L->List L->Option L
 | b,[]=>b
 | none,x::l=>Vb (some x) l
 | some m,x::l=>if fin x<fin m then Vb (some x) l else Vb (some m) l
theorem Ki : ∀(b:Option L) (l r:List L),Vb fin b (l++r)=Vb fin (Vb fin b l) r
 | b,[],r=>by rfl
 | none,x::l,r=>by rw [ZQ,Vb,Vb,Ki]
 | some m,x::l,r=>by
  rw [ZQ,Vb,Vb]
  split
  ·rw [Ki]
  ·rw [Ki]
theorem Qg : ∀(l:List L) (m:L),∃z,Vb fin (some m) l=some z/\fin z<=fin m/\ ∀y∈l,fin z<=fin y
 | [],m=>⟨m,rfl,Za,Zb⟩
 | x::l,m=>by
  rw [Vb]
  split
  ·rename_i h;obtain ⟨z,e,h1,h2⟩:=Qg l x
   grind
  ·rename_i h;obtain ⟨z,e,h1,h2⟩:=Qg l m
   grind
theorem I8 : ∀(l:List L) (m:L),(∀y∈l,fin m<=fin y)->Vb fin (some m) l=some m
 | [],m,_=>rfl
 | x::l,m,h=>by
  have:=h x List.mem_cons_self;rw [Vb,if_neg Za];exact I8 l m fun y hy=>h y (Wj _ hy)
theorem Ri (A B:List L) (h: ∀y∈B,∃z∈A,fin z<=fin y):Vb fin none (A++B)=Vb fin none A:=by
 rw [Ki]
 cases A with
 | nil=>cases B with
  | nil=>rfl
  | cons y B=>grind [List.mem_cons_self]
 | cons a A =>
  rw [Vb];obtain ⟨z,e,h1,h2⟩:=Qg fin A a;rw [e];refine I8 fin B z fun y hy=> ?_
  grind
def XU : List L->List L->List L
 | out,[]=>out
 | out,x::l=>if out.any (fun m=>beats m x)=true then XU out l else XU (out++ [x]) l
theorem B0 {R:L->List L} : ∀(c out:List L),(∀x∈out++c,∀m∈out++c,beats m x=true-> ∀y∈R x,∃z∈R m,fin z<=fin y)->Vb fin none ((XU beats out c).flatMap R)=Vb fin none ((out++c).flatMap R)
 | [],out,_=>by simp [XU]
 | x::c,out,h=>by
  rw [XU]
  split
  ·rename_i hb;obtain ⟨m,hm,hb⟩:=W1.1 hb
   have hb:beats m x=true:=by simpa using hb
   rw [B0 c out (fun a ha b hb=>h a (by simp only [Xr,XR] at ha ⊢;rcases ha with h | h<;>simp [h]) b (by simp only [Xr,XR] at hb ⊢;rcases hb with h | h<;>simp [h]))];rw [List.flatMap_append,List.flatMap_append,List.flatMap_cons,<- Q1,Ki,Ki (l:=out.flatMap R++R x)];rw [Ri fin (out.flatMap R) (R x)];intro y hy;obtain ⟨z,hz,hle⟩:=h x Zb m (by simp [hm]) hb y hy;exact ⟨z,W2.2 ⟨m,hm,hz⟩,hle⟩
  ·rw [B0 c (out++ [x]) (by simpa using h)];simp
theorem KD : ∀(c out:List L),∀x∈XU beats out c,x∈out++c
 | [],out,x,h=>by grind [XU]
 | a::c,out,x,h=>by
  rw [XU] at h
  split at h
  ·have:=KD c out x h;simp only [Xr,XR] at this ⊢;rcases this with h | h<;>simp [h]
  ·have:=KD c (out++ [a]) x h;simpa using this
def Hm : Nat->Nat->List (List Bool)
 | 0,_=> [[]]
 | j+1,k=>(choices k).flatMap fun b=>(Hm j (k+1)).map (b:: ·)
def Va : Nat->L->List Bool->Option L
 | _,x,[]=>some x
 | k,x,b::bs=>match nxt k x b with
  | some y=>Va (k+1) y bs
  | none=>none
def W4 (j k:Nat) (x:L):List L:=(Hm choices j k).filterMap (Va nxt k x)
def WK (k:Nat) (l:List L):List L:=l.flatMap fun x=>(choices k).filterMap (nxt k x)
def Jf : Nat->Nat->List L->List L
 | 0,_,l=>l
 | j+1,k,l=>Jf j (k+1) (XU beats [] (WK nxt choices k l))
theorem ND (k:Nat) (x:L):W4 nxt choices 0 k x= [x]:=rfl
theorem Er (j k:Nat) (x:L):W4 nxt choices (j+1) k x=((choices k).filterMap (nxt k x)).flatMap (W4 nxt choices j (k+1)):=by
 unfold W4;rw [Hm]
 induction choices k with
 | nil=>rfl
 | cons b bs ih =>
  rw [List.flatMap_cons,List.filterMap_append,ih,List.filterMap_cons]
  cases h:nxt k x b with
  | none =>
   simp_all [Va]
  | some y =>
   rw [List.filterMap_map]
   have:(Va nxt k x∘fun l=>b::l)=Va nxt (k+1) y:=by grind [Va]
   grind
theorem Gu {n:Nat} {Inv:Nat->L->Prop} (hI: ∀k x b y,Inv k x->nxt k x b=some y->Inv (k+1) y) (hd: ∀k m x b y,Inv k m->Inv k x->beats m x=true->nxt k x b=some y-> ∃z,nxt k m b=some z/\beats z y=true)
  (he: ∀m x,Inv n m->Inv n x->beats m x=true->fin m<=fin x): ∀(j k:Nat) (m x:L),k+j=n->Inv k m->Inv k x->beats m x=true-> ∀y∈W4 nxt choices j k x,∃z∈W4 nxt choices j k m,fin z<=fin y
 | 0,k,m,x,hk,h1,h2,hb,y,hy=>by
  grind [ND]
 | j+1,k,m,x,hk,h1,h2,hb,y,hy=>by
  rw [Er] at hy ⊢;obtain ⟨q,hq,hy⟩:=W2.1 hy;obtain ⟨b,hbm,hn⟩:=A7.1 hq;obtain ⟨z,hz,hzb⟩:=hd k m x b q h1 h2 hb hn;obtain ⟨u,hu,hle⟩:=Gu hI hd he j (k+1) z q Za (hI k m b z h1 hz) (hI k x b q h2 hn) hzb y hy
  grind
theorem OI {n:Nat} {Inv:Nat->L->Prop} (hI: ∀k x b y,Inv k x->nxt k x b=some y->Inv (k+1) y) (hd: ∀k m x b y,Inv k m->Inv k x->beats m x=true->nxt k x b=some y-> ∃z,nxt k m b=some z/\beats z y=true)
  (he: ∀m x,Inv n m->Inv n x->beats m x=true->fin m<=fin x): ∀(j k:Nat) (l:List L),k+j=n->(∀x∈l,Inv k x)->Vb fin none (Jf beats nxt choices j k l)=Vb fin none (l.flatMap (W4 nxt choices j k))
 | 0,k,l,hk,hl=>by
  have:l.flatMap (W4 nxt choices 0 k)=l:=by
   have:W4 nxt choices 0 k=fun x=> [x]:=by rfl
   rw [this];simp
  rw [this];rfl
 | j+1,k,l,hk,hl=>by
  have hc: ∀x∈WK nxt choices k l,Inv (k+1) x:=fun x hx=>by
   obtain ⟨q,hq,hx⟩:=W2.1 hx
   grind
  have e:l.flatMap (W4 nxt choices (j+1) k)=(WK nxt choices k l).flatMap (W4 nxt choices j (k+1)):=by
   rw [WK,List.flatMap_assoc]
   congr 1
   grind [Er]
  rw [Jf,OI hI hd he j (k+1) _ Za (fun x hx=>hc x (by simpa using KD beats _ _ x hx)),B0 fin beats _ _ (fun x hx m hm hb y hy=> ?_),e]
  ·simp
  ·exact Gu fin beats nxt choices hI hd he j (k+1) m x Za (hc m (by grind)) (hc x (by grind)) hb y hy
def YU : List Bool->List (List Bool)
 | []=> [[]]
 | b::bs=>if b then (YU bs).map (true:: ·) else (YU bs).map (false:: ·)++(YU (List.replicate bs.length false)).map (true:: ·)
termination_by l => l.length
decreasing_by all_goals simp
def Yf : List Bool->Option (List Bool)
 | []=>none
 | b::bs=>match Yf bs with
  | some l=>some (b::l)
  | none=>if b then none else some (true::List.replicate bs.length false)
theorem fromB_next : ∀l:List Bool,YU l=l::(match Yf l with | some r=>YU r | none=> [])
 | []=>by simp [YU,Yf]
 | b::bs=>by
  have ih:=fromB_next bs
  have e0: ∀l:List Bool,YU (true::l)=(YU l).map (true:: ·):=fun l=>by rw [YU];simp
  have e1: ∀l:List Bool,YU (false::l)=(YU l).map (false:: ·)++(YU (List.replicate l.length false)).map (true:: ·):=fun l=>by rw [YU];simp
  cases b with
  | true =>
   rw [e0,ih,Yf]
   cases h:Yf bs with
   | none=>simp
   | some r=>simp [e0]
  | false =>
   rw [e1,ih,Yf]
   cases h:Yf bs with
   | none=>simp [e0]
   | some r =>
    have hl:r.length=bs.length:=nlen bs r h;simp [e1,hl]
where nlen : ∀(l r:List Bool),Yf l=some r->r.length=l.length
 | [],r,h=>by simp [Yf] at h
 | b::bs,r,h=>by
  rw [Yf] at h
  cases h2:Yf bs with
  | none =>
   grind
  | some q =>
   rw [h2] at h;simp at h;subst h;simp [nlen bs q h2]
theorem IZ {n:Nat} : ∀(j k:Nat),(∀q,k<=q->choices q= [false,true])->Hm choices j k=YU (List.replicate j false)
 | 0,k,_=>by simp [Hm,YU]
 | j+1,k,h=>by
  rw [Hm,h k (Zx _),IZ (n:=n) j (k+1) (fun q hq=>h q Za),Ac,YU];simp
end
end Go.Proofs.YtiigdaohjanidaaGreatDoor.K
namespace Go.Proofs.YtiigdaohjanidaaGreatDoor.K
open Go Go.AM Go.Proofs
def Fj (x:Inst) (l:List Vis) (n i:Nat):Bool:=(l.take n).foldl (fun on v=>if v.order=(i:Int) then !v.drp else on) (decide ((nth x.orders i).pick.place<0))
theorem dE {x:Inst} {l:List Vis} {i:Nat} :Fj x l 0 i=decide ((nth x.orders i).pick.place<0):=by simp [Fj]
theorem Ef {x:Inst} {l:List Vis} {n i:Nat} (h:n<l.length):Fj x l (n+1) i=if (nth l n).order=(i:Int) then !(nth l n).drp else Fj x l n i:=by
 grind [Fj,Xw,Zh]
structure SqOk (x:Inst) (l:List Vis):Prop where
 ne:l≠ []
 inr:Inr x l
 nd:l.Nodup
 pair: ∀v∈l,pairB x.orders l v=true
theorem W6 {x:Inst} {l:List Vis} (h:Xk x l=0):SqOk x l:=by
 unfold Xk at h
 split at h
 ·simp at h
 ·rename_i h1
  split at h
  ·simp at h
  ·split at h
   ·simp at h
   ·rename_i h3
    split at h
    ·simp at h
    ·rename_i h4;refine ⟨fun e=>h1 (.inl (by simp [e])),fun v hv=> ?_,Ap.1 (by grind),fun v hv=> ?_⟩
     ·grind [VD]
     grind
structure OwnV (x:Inst) (l:List Vis) (i:Nat):Prop where
 pick:0<=(nth x.orders i).pick.place->(⟨i,false⟩:Vis)∈l
 drp:0<=(nth x.orders i).drp.place->(⟨i,true⟩:Vis)∈l
 both:0<=(nth x.orders i).pick.place->0<=(nth x.orders i).drp.place->vIx l ⟨i,false⟩<vIx l ⟨i,true⟩
 isP:(⟨i,false⟩:Vis)∈l->0<=(nth x.orders i).pick.place
 isD:(⟨i,true⟩:Vis)∈l->0<=(nth x.orders i).drp.place
theorem SqOk.own {x:Inst} {l:List Vis} (h:SqOk x l) {i:Nat} (hi: ∃v∈l,v.order=(i:Int)):OwnV x l i:=by
 obtain ⟨v0,hv0,ho⟩:=hi
 have key: ∀v∈l,v.order=(i:Int)->v∈Z3 x.orders i/\UQ l (-1) (Z3 x.orders i)=true:=fun v hv hvo=>by
  have:=h.pair v hv;simp only [pairB,hvo,XP,Zy,Zp] at this;exact ⟨Wd.1 this.1,this.2⟩
 obtain ⟨_,hasc⟩:=key v0 hv0 ho;have mem: ∀b:Bool,(⟨i,b⟩:Vis)∈l->(⟨i,b⟩:Vis)∈Z3 x.orders i:=fun b hb=>(key _ hb rfl).1
 have hp:(⟨i,false⟩:Vis)∈Z3 x.orders i->0<=(nth x.orders i).pick.place:=fun hm=>by
  unfold Z3 at hm
  grind
 have hd:(⟨i,true⟩:Vis)∈Z3 x.orders i->0<=(nth x.orders i).drp.place:=fun hm=>by
  unfold Z3 at hm
  grind
 have m1: ∀v,-1<vIx l v->v∈l:=fun v hv=>Wd.1 Za;unfold Z3 at hasc
 by_cases c1:0<=(nth x.orders i).pick.place<;>by_cases c2:0<=(nth x.orders i).drp.place
 ·simp only [c1,c2,if_true,ZQ,ZG,UQ,UC,Zy,Zp] at hasc;exact ⟨fun _=>m1 _ hasc.1,fun _=>m1 _ Za,fun _ _=>hasc.2,fun _=>c1,fun _=>c2⟩
 ·simp only [c1,c2,if_true,Yq,Uj,UQ,UC,Zp] at hasc;exact ⟨fun _=>m1 _ hasc,fun h=>absurd h c2,fun _ h=>absurd h c2,fun _=>c1,fun hm=>hd (mem _ hm)⟩
 ·simp only [c1,c2,if_true,Yq,ZG,UQ,UC,Zp] at hasc;exact ⟨fun h=>absurd h c1,fun _=>m1 _ hasc,fun h=>absurd h c1,fun hm=>hp (mem _ hm),fun _=>c2⟩
 ·exact ⟨fun h=>absurd h c1,fun h=>absurd h c2,fun h=>absurd h c1,fun hm=>hp (mem _ hm),fun hm=>hd (mem _ hm)⟩
theorem Qu {l:List Vis} (hn:l.Nodup) {v:Vis} {n:Nat} :v∈l.take n↔0<=vIx l v/\vIx l v<(n:Int):=by
 constructor
 ·intro h;obtain ⟨j,h1,h2,rfl⟩:=J0 h
  grind [J2]
 ·intro ⟨h1,h2⟩;obtain ⟨h3,h4⟩:=H7 h1
  grind [JH]
theorem dD {x:Inst} {l:List Vis} (h:SqOk x l) (i:Nat): ∀n,n<=l.length->Fj x l n i=if (⟨i,true⟩:Vis)∈l.take n then false else if (⟨i,false⟩:Vis)∈l.take n then true else decide ((nth x.orders i).pick.place<0)
 | 0,_=>by simp [Fj]
 | n+1,hn=>by
  have hk:n<l.length:=Za
  have hat:=J2 h.nd hk;rw [Ef hk,dD h i n Za]
  by_cases c:(nth l n).order=(i:Int)
  ·rw [if_pos c];have ho:=h.own (i:=i) ⟨nth l n,Zo hk,c⟩
   cases hd:(nth l n).drp with
   | true =>
    have hv:nth l n=⟨i,true⟩:=by rw [<- c,<- hd]
    rw [hv] at hat;have:(⟨i,true⟩:Vis)∈l.take (n+1):=(Qu h.nd).2 Za;rw [if_pos this];rfl
   | false =>
    have hv:nth l n=⟨i,false⟩:=by rw [<- c,<- hd]
    rw [hv] at hat;have h1:(⟨i,false⟩:Vis)∈l.take (n+1):=(Qu h.nd).2 Za
    have h2: ¬(⟨i,true⟩:Vis)∈l.take (n+1):=fun hm=>by
     have h3:=QY hm;have h4:=(Qu h.nd).1 hm;have h5:=ho.both (ho.isP (QY h1)) (ho.isD h3);omega
    rw [if_neg h2,if_pos h1];rfl
  ·rw [if_neg c]
   have e: ∀b:Bool,((⟨i,b⟩:Vis)∈l.take (n+1))=((⟨i,b⟩:Vis)∈l.take n):=fun b=>by
    rw [Xw hk,Xr,<- Zh hk];refine propext ⟨fun hm=>hm.resolve_right fun hm=> ?_,.inl⟩;simp at hm;exact c (by rw [<- hm])
   simp only [e]
theorem Zau {x:Inst} {l:List Vis} (h:SqOk x l) {k i:Nat} (hk:k<l.length) (hi:(nth l k).order=(i:Int)):Fj x l k i=(nth l k).drp:=by
 have hat:=J2 h.nd hk;have ho:=h.own (i:=i) ⟨nth l k,Zo hk,hi⟩;have hm:=Zo hk;rw [dD h i k Za]
 cases hd:(nth l k).drp with
 | true =>
  have hv:nth l k=⟨i,true⟩:=by rw [<- hi,<- hd]
  rw [hv] at hat hm
  have h1: ¬(⟨i,true⟩:Vis)∈l.take k:=fun hm=>by have:=(Qu h.nd).1 hm;omega
  rw [if_neg h1]
  by_cases c:0<=(nth x.orders i).pick.place
  ·have h2:=ho.both c (ho.isD hm);have h3:(⟨i,false⟩:Vis)∈l.take k:=(Qu h.nd).2 ⟨Wd.2 (ho.pick c),Za⟩
   grind
  grind
 | false =>
  have hv:nth l k=⟨i,false⟩:=by rw [<- hi,<- hd]
  rw [hv] at hat hm;have hp:=ho.isP hm
  have h1: ¬(⟨i,false⟩:Vis)∈l.take k:=fun hm=>by have:=(Qu h.nd).1 hm;omega
  grind
theorem nK {f g:Nat->Int} {i:Nat} (h: ∀q,q≠i->f q=g q): ∀n,i<n->((List.range n).map f).sum=((List.range n).map g).sum+(f i-g i):=by
 have same: ∀n,n<=i->((List.range n).map f).sum=((List.range n).map g).sum:=fun n hn=>by
  grind [YN]
 intro n
 induction n with
 | zero=>omega
 | succ n ih =>
  intro hi;simp only [Yj,Xx,Zt,Zm,List.sum_append,Kt,List.sum_nil]
  grind
theorem Pf {f:Nat->Int} {b:Int} (hb:0<=b) (h: ∀q,0<=f q/\f q<=b): ∀n:Nat,0<=((List.range n).map f).sum/\((List.range n).map f).sum<=b*n
 | 0=>Zb
 | n+1=>by
  have ih:=Pf hb h n
  grind [Yj]
theorem Ja {p:Nat->Bool} {f:Nat->Int} : ∀l:List Nat,((l.filter p).map f).sum=(l.map fun i=>if p i=true then f i else 0).sum
 | []=>rfl
 | a::l=>by
  rw [List.filter_cons,Zt,Kt]
  by_cases h:p a=true
  ·rw [if_pos h,Zt,Kt,Ja l,if_pos h]
  ·rw [if_neg h,Ja l,if_neg h];omega
def CQ (x:Inst) (l:List Vis) (n j:Nat):Int:=((List.range x.orders.length).map fun i=>if (Fj x l n i&&hasO l i)=true then nth (nth x.orders i).load j else 0).sum
theorem GE {x:Inst} {l:List Vis} (h:SqOk x l) {k j:Nat} (hk:k<l.length):CQ x l (k+1) j=if (nth l k).drp=true then CQ x l k j-nth (nth x.orders (nth l k).order.toNat).load j else CQ x l k j+nth (nth x.orders (nth l k).order.toNat).load j:=by
 obtain ⟨v1,v2⟩:=h.inr _ (Zo hk);obtain ⟨i,hi⟩: ∃i:Nat,(nth l k).order=(i:Int):=⟨(nth l k).order.toNat,Za⟩;have hh:hasO l (i:Int)=true:=XE.2 ⟨_,Zo hk,hi⟩;have h1:=Zau h hk hi
 have h2:Fj x l (k+1) i= !(nth l k).drp:=by simp_all [Ef]
 unfold CQ
 rw [nK (f:=fun i=>if (Fj x l (k+1) i&&hasO l i)=true then nth (nth x.orders i).load j else 0) (g:=fun i=>if (Fj x l k i&&hasO l i)=true then nth (nth x.orders i).load j else 0) (i:=i) (fun q hq=>by
  have:Fj x l (k+1) q=Fj x l k q:=by rw [Ef hk,if_neg Za]
  grind) x.orders.length Za]
 grind
def Y1 (x:Inst) (l:List Vis) (n:Nat):List Int:=(List.range (dimsOf x.types).toNat).map fun j=>CQ x l n j
def Dp (a b:List Int):List Int:=(List.range a.length).map fun j=>nth a j+nth b j
def nG (a b:List Int):List Int:=(List.range a.length).map fun j=>nth a j-nth b j
theorem Dq {x:Inst} {l:List Vis} {n:Nat} :(Y1 x l n).length=(dimsOf x.types).toNat:=by simp [Y1]
theorem JM {f:Nat->Int} {n j:Nat} (h:j<n):nth ((List.range n).map f) j=f j:=by
 grind [Zh]
theorem Pv {x:Inst} {l:List Vis} (h:SqOk x l) {k:Nat} (hk:k<l.length):Y1 x l (k+1)=if (nth l k).drp=true then nG (Y1 x l k) (nth x.orders (nth l k).order.toNat).load else Dp (Y1 x l k) (nth x.orders (nth l k).order.toNat).load:=by
 have key: ∀g:Nat->Int,(∀j,j<(dimsOf x.types).toNat->CQ x l (k+1) j=g j)->Y1 x l (k+1)=(List.range (dimsOf x.types).toNat).map g:=fun g hg =>
  YN fun j hj=>hg j (ZS.1 hj)
 split
 ·simp_all [nG,GE,Y1,JM]
 simp_all [Dp,GE,Y1,JM]
structure RightV (x:Inst) (l:List Vis):Prop where
 ne:l≠ []
 inr:Inr x l
 off: ∀v∈l,(nth x.orders v.order.toNat).off=false
 nodup:l.Nodup
 pair: ∀v∈l,pairB x.orders l v=true
 apart: ∀p∈x.apart,¬(hasO l p.1=true/\hasO l p.2=true)
 before: ∀p∈x.before,beforeB l p.1 p.2=true
theorem Se {x:Inst} {l:List Vis} :Xk x l=0↔RightV x l:=by
 unfold Xk;rw [Kk Za,Kk Za,Kk Za,Kk Za,Kk Za,Kk Za];simp only [and_true,Ko,Ap]
 have hin:l.any (VD x)=false↔Inr x l:=by
  rw [Yi];exact ⟨fun h v hv=>by grind [VD],fun h v hv=>by simpa [VD] using h v hv⟩
 constructor
 ·rintro ⟨h1,h2,h3,h4,h5,h6⟩;rw [not_or,Ko,hin] at h1;rw [Yi] at h2 h5 h6;refine ⟨fun e=>h1.1 (by rw [e];rfl),h1.2,fun v hv=>by grind,h3,?_,fun p hp=>by grind,fun p hp=>by grind⟩
  grind
 ·intro h;refine ⟨?_,?_,h.nodup,?_,?_,?_⟩
  ·rw [not_or,Ko,hin];exact ⟨fun e=>h.ne (Yb e),h.inr⟩
  ·rw [Yi];intro v hv;simp [h.off v hv]
  ·rw [Zu.2 h.pair];simp
  ·rw [Yi];intro p hp;simpa using h.apart p hp
  ·rw [Yi];intro p hp;simpa using h.before p hp
theorem RZ {os:List Ord} {l:List Vis} {v:Vis} {i:Nat} (h:v.order=(i:Int)):pairB os l v=true↔v∈Z3 os i/\(∀w∈Z3 os i,w∈l)/\((⟨i,false⟩:Vis)∈Z3 os i->(⟨i,true⟩:Vis)∈Z3 os i->vIx l ⟨i,false⟩<vIx l ⟨i,true⟩):=by
 rw [pairB,h,XP,Zy,Zp,Wd];refine and_congr Iff.rfl ?_
 have hm: ∀w:Vis,-1<vIx l w↔w∈l:=fun w=>by grind [Wd]
 rcases Jc os i with e | e | e | e<;>rw [e]
 ·simp [UQ]
 ·simp [UQ,hm]
 ·simp [UQ,hm]
 ·simp only [UQ,UC,Zy,Zp,hm,XR,Kp,or_false,forall_eq_or_imp,forall_eq]
  grind
section
variable {x : Inst} {l : List Vis}
theorem RightV.bit (h:RightV x l) (i:Nat):(ordS l).testBit i=true↔ ∃v∈l,v.order=(i:Int):=by
 rw [Wu];exact ⟨fun ⟨v,hv,e⟩=>⟨v,hv,by have:=h.inr v hv;omega⟩,fun ⟨v,hv,e⟩=>⟨v,hv,Za⟩⟩
theorem RightV.lt (h:RightV x l) (hf:IFacts x):ordS l<9223372036854775808/\ordS l / pw x.orders.length=0:=by
 have h1:ordS l<9223372036854775808:=by
  have:=UH l.length (l:=l) (Zx _) (fun v hv=>by
   rw [XZ] at hv;have:=h.inr v hv;have:=hf.len
   simp [Cy];omega)
  grind
 refine ⟨h1,PW h1 fun j _ hj=> ?_⟩;obtain ⟨v,hv,e⟩:=(h.bit j).1 hj;have:=h.inr v hv;omega
theorem RightV.ord (h:RightV x l) (hf:IFacts x):ordR l=(((ordS l:Nat):Int),0):=by
 rw [ordR,if_pos];rw [Zu];intro v hv;have:=h.inr v hv;have:=hf.len;simp [Cy];omega
theorem RightV.pairs (h:RightV x l) {v:Vis} (hv:v∈l): ∃i:Nat,v.order=(i:Int)/\i<x.orders.length/\v∈Z3 x.orders i/\(∀w∈Z3 x.orders i,w∈l)/\((⟨i,false⟩:Vis)∈Z3 x.orders i->(⟨i,true⟩:Vis)∈Z3 x.orders i->vIx l ⟨i,false⟩<vIx l ⟨i,true⟩):=by
 have h1:=h.inr v hv
 have e:v.order=(v.order.toNat:Int):=Za
 exact ⟨v.order.toNat,e,Za,(RZ e).1 (h.pair v hv)⟩
theorem RightV.gr (h:RightV x l) (hf:IFacts x): ∀k,k<=l.length->Gr x (ordS l) (l.take k)
 | 0,_=>by simpa using Gr.nil
 | k+1,hk=>by
  have hk2:k<l.length:=Za
  have ih:=h.gr hf k Za
  have e:l.take (k+1)=l.take k++ [nth l k]:=by rw [Xw hk2,Zh hk2]
  rw [e];obtain ⟨i,e1,hi,h1,h2,h3⟩:=h.pairs (Zo hk2);refine .snoc ih (Bf.2 ⟨i,hi,(h.bit i).2 ⟨_,Zo hk2,e1⟩,?_,h1,(Ag h1).2 ⟨?_,?_,?_⟩⟩)
  ·have:=h.off _ (Zo hk2)
   grind
  ·intro hm;obtain ⟨j,j1,j2,j3⟩:=J0 hm;have q1:=J2 h.nodup j2;have q2:=J2 h.nodup hk2
   grind
  ·intro hd hq
   have e2:nth l k=⟨i,true⟩:=by rw [EW];grind
   have h4:=h3 hq (by grind);rw [<- e2,J2 h.nodup hk2] at h4;have h5:=Wd.2 (h2 _ hq);obtain ⟨g1,g2⟩:=H7 h5;rw [<- g2];exact JH Za g1
  ·intro p hp hpe w hw;obtain ⟨v1,v2,v3,v4⟩:=hf.val p hp;have hoi:=dA hk2 e1;have hbe:=Cw.1 (h.before p hp);rw [hpe] at hbe;obtain ⟨⟨v,hv,ev⟩,h5⟩:=hbe hoi.1;obtain ⟨a,a1,a2,a3,a4,a5⟩:=h.pairs hv
   have:a=p.1.toNat:=Za
   subst this;have hwl:=a4 w hw;obtain ⟨g1,g2⟩:=H7 (Wd.2 hwl);have h6:=h5 _ g1 (by rw [g2,Ur hw];omega);rw [<- g2];exact JH Za g1
theorem RightV.len (h:RightV x l) (hf:IFacts x):l.length=H4 x (ordS l) x.orders.length:=by
 have h1:=h.gr hf l.length (Zx _);rw [XZ] at h1;have h2:=h1.len
 have h3: ∀v∈BT x (ordS l) x.orders.length,v∈l:=fun v hv=>by
  obtain ⟨i,i1,i2,i3⟩:=Be.1 hv;obtain ⟨w,hw,e⟩:=(h.bit i).1 i2;obtain ⟨a,a1,a2,a3,a4,a5⟩:=h.pairs hw
  grind
 have h4:=Pd (Du _ _ _) h3;rw [Aw] at h4;omega
end
set_option maxRecDepth 8000
section
variable {σ : Type}
def E6 (nx:List Vis->List Vis):Nat->List Vis->List (List Vis)
 | 0,l=> [l]
 | f+1,l=>if nx l= [] then [l] else (nx l).flatMap fun v=>E6 nx f (l++ [v])
theorem OO {nx:List Vis->List Vis} : ∀(f:Nat) (l m:List Vis),m∈E6 nx f l-> ∃r,m=l++r
 | 0,l,m,h=>by simp_all [E6]
 | f+1,l,m,h=>by
  rw [E6] at h
  split at h
  ·simp_all
  ·obtain ⟨v,_,h⟩:=W2.1 h;obtain ⟨r,rfl⟩:=OO f _ m h;simp
def VP (ok:List Vis->Bool) (col:List Vis->Col) (better:Col->Col->Bool) (b:Col×Bool) (l:List Vis):Col×Bool:=if ok l=true/\(b.2=false\/better (col l) b.1=true) then (col l,true) else b
end
set_option maxRecDepth 60000
set_option maxHeartbeats 8000000
def rtB (r:Rte):Bool:=decide (r.visits.length<=8)&&decide (r.rests.length<=9)
def smB (p:Pln):Bool:=(decide (p.routes.length<=4)&&decide (p.unserved.length<=6))&&p.routes.all rtB
theorem ZaT {p:Pln} {k:Nat} (hk:k<p.routes.length) (h:rtB (nth p.routes k)=false):smB p=false:=by
 grind [smB,Zo]
theorem Zkw {α:Type} [Inhabited α] {f:α->Bool} {l:List α} (h: ∀j,j<l.length->f (nth l j)=true):l.all f=true:=by
 rw [Zu];intro r hr;obtain ⟨j,hj,rfl⟩:=ZW.1 hr
 grind [Zh]
def FitP (x:Inst) (n:Int):Prop:=x.orders.length<=n/\x.types.length<=2/\x.net.places.length<=6/\x.net.arcs.length<=40/\x.apart.length<=4/\x.before.length<=4/\InstOk x
theorem FV (x:Inst) (hw:x.wf 1048576) (n:Int) (b:Bool) (hb:b=true↔FitP x n):PC 34 [.p (ZF x),.p (.int .i64 n)] (.bool b):=by
 have w1:=hw.1.1;have w2:=hw.1.2.2.1;have w3:=hw.2.1;have w4:=hw.2.2.2.1;have w5:=hw.2.2.2.2.2.1;have w6:=hw.2.2.2.2.2.2.2.1
 suffices hh:ACalls Tryz.prog 34 [.p (ZF x),.p (.int .i64 n)] [] fun y H'=> ∃b:Bool,(b=true↔FitP x n)/\y= .p (.bool b)/\H'= [] by
  grind
 refine ACalls.pureE (X8 Tryz.func34 rfl ZfP (Zf [] _ _ _ _ ?_));simp (disch:=omega) only [Tryz.f34,go_sem,seval];refine gT ?_ ?_<;>intro h1<;>simp (disch:=omega) only [Sh.out h1,go_sem,seval,↓reduceIte]
 ·refine gT ?_ ?_<;>intro h2<;>simp (disch:=omega) only [Sh.out h2,go_sem,seval,↓reduceIte]
  ·refine gT ?_ ?_<;>intro h3<;>simp (disch:=omega) only [Sh.out h3,go_sem,seval,↓reduceIte]
   ·refine gT ?_ ?_<;>intro h4<;>simp (disch:=omega) only [Sh.out h4,go_sem,seval,↓reduceIte]
    ·refine gT ?_ ?_<;>intro h5<;>simp (disch:=omega) only [Sh.out h5,go_sem,seval,↓reduceIte]
     ·refine gT ?_ ?_<;>intro h6<;>simp (disch:=omega) only [Sh.out h6,go_sem,seval,↓reduceIte]
      ·refine ((tO x hw).frozenE).useV fun m hm=> ?_;refine Zc ?_;refine ⟨decide (m.length=0),?_,Zb⟩;have:=hm.emp;rw [Zp,List.length_eq_zero_iff,this];exact ⟨fun h=>⟨Za,Za,Za,Za,Za,Za,h⟩,fun h=>h.2.2.2.2.2.2⟩
      ·exact ⟨false,by simp [FitP];omega,rfl⟩
     ·exact ⟨false,by simp [FitP];omega,rfl⟩
    ·exact ⟨false,by simp [FitP];omega,rfl⟩
   ·exact ⟨false,by simp [FitP];omega,rfl⟩
  ·exact ⟨false,by simp [FitP];omega,rfl⟩
 ·exact ⟨false,by simp [FitP];omega,rfl⟩
theorem jW {α:Type} [Inhabited α] {p:α->Bool} {l:List α} {j k:Nat} (hjk:j<k) (hk:k<l.length) (h1:p (nth l j)=true) (h2:p (nth l k)=true):2<=l.countP p:=by
 have e:l=l.take k++l.drop k:=(List.take_append_drop k l).symm;have c1:0<(l.take k).countP p:=U1.2 ⟨nth l j,ZW.2 ⟨j,by grind,by grind [Zh]⟩,h1⟩;have c2:0<(l.drop k).countP p:=U1.2 ⟨nth l k,ZW.2 ⟨0,by grind,by grind [Zh]⟩,h2⟩
 grind
end Go.Proofs.YtiigdaohjanidaaGreatDoor.K
