/- Declarations that the closing texts need, part 12: joined by tools/slim.py. -/
import Derived.Test.YtjkkdmeebhjaiaaGreatDoorZ11
import Derived.Test.YtjkkdmeebhjaiaaGreatDoorRows
namespace Go.Proofs.YtjkkdmeebhjaiaaGreatDoor.K
open Go Go.AM Go.Proofs
theorem Pv : Tryz.prog.cellsOf 3=1:=Zf
theorem Zn7 : Tryz.prog.cellsOf 4=1:=Zf
theorem ZiF : Tryz.prog.cellsOf 9=1:=Zf
theorem Ziv : Tryz.prog.cellsOf 22=1:=Zf
theorem Ziw : Tryz.prog.cellsOf 23=1:=Zf
theorem xV : Tryz.prog.cellsOf 25=2:=Zf
theorem ZkG : Gm Tryz.prog 25=some [(0,22),(1,23)]:=Zf
theorem Zix : Tryz.prog.cellsOf 26=1:=Zf
theorem Ziy : Tryz.prog.cellsOf 27=1:=Zf
theorem Ziz : Tryz.prog.cellsOf 28=1:=Zf
theorem ZiA : Tryz.prog.cellsOf 30=6:=Zf
theorem yL : Gm Tryz.prog 30=some [(0,25),(2,26),(3,27),(4,28),(5,28)]:=Zf
theorem ZiB : Tryz.prog.cellsOf 41=2:=Zf
theorem yM : Gm Tryz.prog 41=some [(0,3),(1,3)]:=Zf
theorem xW : Tryz.prog.cellsOf 55=1:=Zf
theorem ZiC : Tryz.prog.cellsOf 63=14:=Zf
theorem yN : Gm Tryz.prog 63=some [(0,9),(1,3),(2,3),(3,3),(4,55),(5,3),(6,3),(7,3),(8,3),(9,3),(10,3),(11,3),(12,3),(13,3)]:=Zf
theorem xX : Tryz.prog.cellsOf 65=4:=Zf
theorem ZkH : Gm Tryz.prog 65=some [(0,3),(1,3),(2,3),(3,3)]:=Zf
theorem ZiD : Tryz.prog.cellsOf 67=16:=Zf
theorem yO : Gm Tryz.prog 67=some [(0,9),(1,55),(2,65),(6,65),(10,3),(11,3),(12,3),(13,3),(14,3),(15,4)]:=Zf
theorem ZiE : Tryz.prog.cellsOf 89=2:=Zf
theorem yP : Gm Tryz.prog 89=some [(0,3),(1,3)]:=Zf
theorem ZiG : Tryz.prog.cellsOf 99=1:=Zf
theorem Zau : Tryz.prog.cellsOf 101=6:=Zf
theorem mY : Gm Tryz.prog 101=some [(0,3),(1,3),(2,3),(3,3),(4,99),(5,99)]:=Zf
theorem Zav : Tryz.prog.cellsOf 139=2:=Zf
theorem mZ : Gm Tryz.prog 139=some [(0,3),(1,3)]:=Zf
set_option linter.unusedVariables false
set_option linter.unusedSimpArgs false
mutual
theorem PA {H:Type} :(d:DataW H)->G3 d<=Rows.uptoBulk d
 | .lit l=>by cases l<;>simp [G3,Rows.uptoBulk]
 | .nil=>by simp [G3,Rows.uptoBulk]
 | .ptr d=>by have:=PA d;simp only [G3,Rows.uptoBulk];omega
 | .slice es sp=>by have:=Cf es;have:=Cf sp;simp only [G3,Rows.uptoBulk];omega
 | .agg ps=>by have:=Cf ps;simp only [G3,Rows.uptoBulk];omega
 | .iface _ d=>by have:=PA d;simp only [G3,Rows.uptoBulk];omega
 | .map es=>by simp only [G3,Rows.uptoBulk];omega
 | .held h=>by simp [G3,Rows.uptoBulk]
theorem Cf {H:Type} :(l:List (DataW H))->KN l<=Rows.uptoBulkAll l
 | []=>by simp [KN,Rows.uptoBulkAll]
 | d::r=>by have:=PA d;have:=Cf r;simp only [KN,Rows.uptoBulkAll];omega
end
theorem Rx {H:Type} {l:List (DataW H)} (h:Rows.uptoSmall H l=true):KN l<=1048576:=by
 have h1:=Cf l;have h2:Rows.uptoBulkAll l<=1048576:=AH h;omega
abbrev Qf (n:Int):Prop:= -9223372036854775808<=n/\n<=9223372036854775807
def eI (n:Int):PV:= .int .i64 n
def eB (b:Bool):PV:= .bool b
def eS (s:List UInt8):PV:= .str s
def eP (p:Int×Int):PV:= .agg [.int .i64 p.1,.int .i64 p.2]
@[go_sem] theorem ZqG (n:Int):eI n= .int .i64 n:=Zm rfl rfl
@[go_sem] theorem ZqE (b:Bool):eB b= .bool b:=Zm rfl rfl
@[go_sem] theorem ZqK (s:List UInt8):eS s= .str s:=Zm rfl rfl
@[go_sem] theorem ZqI (p:Int×Int):eP p= .agg [.int .i64 p.1,.int .i64 p.2]:=Zm rfl rfl
@[go_sem] theorem ZoP (l:List Int):K3 1 (l.map eI)=true:=QQ fun _=>rfl
@[go_sem] theorem Zl6 (l:List Bool):B4 1 (l.map eB)=true:=B5 (f:=eB) (S:=1) (fun _=>rfl) l
@[go_sem] theorem ZoN (l:List Bool):K3 1 (l.map eB)=true:=QQ fun _=>rfl
theorem Nl {B xs} (h: ∀y∈xs,FitV Tryz.prog B 3 y): ∃l:List Int,xs=l.map eI/\ ∀n∈l,Qf n :=
 VV (f:=eI) fun y hy=>by
  obtain ⟨n,rfl,w⟩:=tA Tryz.underlying3 (h y hy);exact ⟨n,rfl,XE w⟩
theorem jI {B xs} (h: ∀y∈xs,FitV Tryz.prog B 9 y): ∃l:List (List UInt8),xs=l.map eS/\ ∀s∈l,s.length<=B :=
 VV (f:=eS) fun y hy=>by
  obtain ⟨s,rfl,w,_⟩:=tB Tryz.underlying9 (h y hy);exact ⟨s,rfl,w⟩
theorem tS {α:Type} {l:List α} (h:l.length=2): ∃a0 a1,l= [a0,a1]:=by
 match l,h with | [a0,a1],_=>simp
theorem Zkk {α:Type} {l:List α} (h:l.length=6): ∃a0 a1 a2 a3 a4 a5,l= [a0,a1,a2,a3,a4,a5]:=by
 match l,h with | [a0,a1,a2,a3,a4,a5],_=>simp
theorem Zki {α:Type} {l:List α} (h:l.length=14): ∃a0 a1 a2 a3 a4 a5 a6 a7 a8 a9 a10 a11 a12 a13,l= [a0,a1,a2,a3,a4,a5,a6,a7,a8,a9,a10,a11,a12,a13]:=by
 match l,h with | [a0,a1,a2,a3,a4,a5,a6,a7,a8,a9,a10,a11,a12,a13],_=>simp
theorem ZoB {α:Type} {l:List α} (h:l.length=4): ∃a0 a1 a2 a3,l= [a0,a1,a2,a3]:=by
 match l,h with | [a0,a1,a2,a3],_=>simp
theorem Zkj {α:Type} {l:List α} (h:l.length=16): ∃a0 a1 a2 a3 a4 a5 a6 a7 a8 a9 a10 a11 a12 a13 a14 a15,l= [a0,a1,a2,a3,a4,a5,a6,a7,a8,a9,a10,a11,a12,a13,a14,a15]:=by
 match l,h with | [a0,a1,a2,a3,a4,a5,a6,a7,a8,a9,a10,a11,a12,a13,a14,a15],_=>grind
structure Pt where
 t:Int
 a:Int
 deriving Inhabited
def cPt (x:Pt):List PV:= [.int .i64 x.t,.int .i64 x.a]
def G4 (x:Pt):PV:= .agg [.int .i64 x.t,.int .i64 x.a]
@[go_sem] theorem Zn8 (x:Pt):G4 x= .agg [.int .i64 x.t,.int .i64 x.a]:=Zm rfl rfl
def Pt.wf (B:Nat) (x:Pt):Prop:=Qf x.t/\Qf x.a
theorem tD {B m cs} (h:Ww Tryz.prog B m 139 cs): ∃x:Pt,cs=cPt x/\x.wf B:=by
 obtain ⟨h1,m',h2⟩:=VI mZ Zav h;obtain ⟨a0,a1,rfl⟩:=tS h1;obtain ⟨n0,e0,w0⟩:=Z3 Tryz.underlying3 (h2 (0,3) Zb);obtain ⟨n1,e1,w1⟩:=Z3 Tryz.underlying3 (h2 (1,3) Zb);simp [Pv] at e0 e1;subst e0;subst e1;exact ⟨⟨n0,n1⟩,rfl,XE w0,XE w1⟩
theorem jH {B v} (h:FitV Tryz.prog B 139 v): ∃x:Pt,v=G4 x/\x.wf B:=by
 obtain ⟨k,cs,h,e⟩:=h.out;obtain ⟨x,rfl,hw⟩:=tD h;exact ⟨x,e.trans (by rw [JA,if_pos (VS mZ)];rfl),hw⟩
structure Arc where
 src:Int
 dst:Int
 prof:Int
 miles:Int
 travel_c:Bool
 travel:List (Pt)
 slow_c:Bool
 slow:List (Pt)
 deriving Inhabited
def Zn4 (x:Arc):List PV:= [.int .i64 x.src,.int .i64 x.dst,.int .i64 x.prof,.int .i64 x.miles,.list x.travel_c (x.travel.map G4),.list x.slow_c (x.slow.map G4)]
def V2 (x:Arc):PV:= .agg [.int .i64 x.src,.int .i64 x.dst,.int .i64 x.prof,.int .i64 x.miles,.list x.travel_c (x.travel.map G4),.list x.slow_c (x.slow.map G4)]
@[go_sem] theorem Zmf (x:Arc):V2 x= .agg [.int .i64 x.src,.int .i64 x.dst,.int .i64 x.prof,.int .i64 x.miles,.list x.travel_c (x.travel.map G4),.list x.slow_c (x.slow.map G4)]:=Zm rfl rfl
def Arc.wf (B:Nat) (x:Arc):Prop:=Qf x.src/\Qf x.dst/\Qf x.prof/\Qf x.miles/\x.travel.length<=B/\(∀y∈x.travel,Pt.wf B y)/\x.slow.length<=B/\(∀y∈x.slow,Pt.wf B y)
theorem jL {B m cs} (h:Ww Tryz.prog B m 101 cs): ∃x:Arc,cs=Zn4 x/\x.wf B:=by
 obtain ⟨h1,m',h2⟩:=VI mY Zau h;obtain ⟨a0,a1,a2,a3,a4,a5,rfl⟩:=Zkk h1;obtain ⟨n0,e0,w0⟩:=Z3 Tryz.underlying3 (h2 (0,3) Zb);obtain ⟨n1,e1,w1⟩:=Z3 Tryz.underlying3 (h2 (1,3) Zb);obtain ⟨n2,e2,w2⟩:=Z3 Tryz.underlying3 (h2 (2,3) Zb);obtain ⟨n3,e3,w3⟩:=Z3 Tryz.underlying3 (h2 (3,3) Zb);obtain ⟨y4,e4,w4,_,z4⟩:=Yx Tryz.underlying99 (h2 (4,99) Zb);obtain ⟨n4,rfl,u4⟩:=VV (f:=G4) fun y hy=>jH (z4 y hy);obtain ⟨y5,e5,w5,_,z5⟩:=Yx Tryz.underlying99 (h2 (5,99) Zb)
 obtain ⟨n5,rfl,u5⟩:=VV (f:=G4) fun y hy=>jH (z5 y hy);simp [ZiG,Pv] at e0 e1 e2 e3 e4 e5;subst e0;subst e1;subst e2;subst e3;subst e4;subst e5;exact ⟨⟨n0,n1,n2,n3,false,n4,false,n5⟩,rfl,XE w0,XE w1,XE w2,XE w3,by grind,u4,by grind,u5⟩
theorem sW {B v} (h:FitV Tryz.prog B 101 v): ∃x:Arc,v=V2 x/\x.wf B:=by
 obtain ⟨k,cs,h,e⟩:=h.out;obtain ⟨x,rfl,hw⟩:=jL h;exact ⟨x,e.trans (by rw [JA,if_pos (VS mY)];rfl),hw⟩
structure Net where
 places_c:Bool
 places:List (List UInt8)
 arcs_c:Bool
 arcs:List (Arc)
 deriving Inhabited
def Ziu (x:Net):List PV:= [.list x.places_c (x.places.map eS),.list x.arcs_c (x.arcs.map V2)]
def Bg (x:Net):PV:= .agg [.list x.places_c (x.places.map eS),.list x.arcs_c (x.arcs.map V2)]
@[go_sem] theorem Zmk (x:Net):Bg x= .agg [.list x.places_c (x.places.map eS),.list x.arcs_c (x.arcs.map V2)]:=Zm rfl rfl
def Net.wf (B:Nat) (x:Net):Prop:=x.places.length<=B/\(∀s∈x.places,s.length<=B)/\x.arcs.length<=B/\(∀y∈x.arcs,Arc.wf B y)
theorem jN {B m cs} (h:Ww Tryz.prog B m 25 cs): ∃x:Net,cs=Ziu x/\x.wf B:=by
 obtain ⟨h1,m',h2⟩:=VI ZkG xV h;obtain ⟨a0,a1,rfl⟩:=tS h1;obtain ⟨y0,e0,w0,_,z0⟩:=Yx Tryz.underlying22 (h2 (0,22) Zb);obtain ⟨n0,rfl,u0⟩:=jI z0;obtain ⟨y1,e1,w1,_,z1⟩:=Yx Tryz.underlying23 (h2 (1,23) Zb);obtain ⟨n1,rfl,u1⟩:=VV (f:=V2) fun y hy=>sW (z1 y hy);simp [Ziw,Ziv] at e0 e1;subst e0;subst e1;exact ⟨⟨false,n0,false,n1⟩,rfl,by grind,u0,by grind,u1⟩
structure Typ where
 name:List UInt8
 count:Int
 src:Int
 dst:Int
 cap_c:Bool
 cap:List (Int)
 skills:Int
 prof:Int
 opn:Int
 cls:Int
 drive:Int
 rest:Int
 fixed:Int
 perMile:Int
 perTick:Int
 deriving Inhabited
def KI (x:Typ):List PV:= [.str x.name,.int .i64 x.count,.int .i64 x.src,.int .i64 x.dst,.list x.cap_c (x.cap.map eI),.int .i64 x.skills,.int .i64 x.prof,.int .i64 x.opn,.int .i64 x.cls,.int .i64 x.drive,.int .i64 x.rest,.int .i64 x.fixed,.int .i64 x.perMile,.int .i64 x.perTick]
def X4 (x:Typ):PV:= .agg [.str x.name,.int .i64 x.count,.int .i64 x.src,.int .i64 x.dst,.list x.cap_c (x.cap.map eI),.int .i64 x.skills,.int .i64 x.prof,.int .i64 x.opn,.int .i64 x.cls,.int .i64 x.drive,.int .i64 x.rest,.int .i64 x.fixed,.int .i64 x.perMile,.int .i64 x.perTick]
@[go_sem] theorem Zmu (x:Typ):X4 x= .agg [.str x.name,.int .i64 x.count,.int .i64 x.src,.int .i64 x.dst,.list x.cap_c (x.cap.map eI),.int .i64 x.skills,.int .i64 x.prof,.int .i64 x.opn,.int .i64 x.cls,.int .i64 x.drive,.int .i64 x.rest,.int .i64 x.fixed,.int .i64 x.perMile,.int .i64 x.perTick]:=Zm rfl rfl
@[go_sem] theorem ZkA (l:List Typ):K3 14 (l.map X4)=true:=QQ fun _=>rfl
def Typ.wf (B:Nat) (x:Typ):Prop:=x.name.length<=B/\Qf x.count/\Qf x.src/\Qf x.dst/\x.cap.length<=B/\(∀n∈x.cap,Qf n)/\Qf x.skills/\Qf x.prof/\Qf x.opn/\Qf x.cls/\Qf x.drive/\Qf x.rest/\Qf x.fixed/\Qf x.perMile/\Qf x.perTick
theorem jP {B m cs} (h:Ww Tryz.prog B m 63 cs): ∃x:Typ,cs=KI x/\x.wf B:=by
 obtain ⟨h1,m',h2⟩:=VI yN ZiC h;obtain ⟨a0,a1,a2,a3,a4,a5,a6,a7,a8,a9,a10,a11,a12,a13,rfl⟩:=Zki h1;obtain ⟨n0,e0,w0,_⟩:=FQ Tryz.underlying9 (h2 (0,9) Zb);obtain ⟨n1,e1,w1⟩:=Z3 Tryz.underlying3 (h2 (1,3) Zb);obtain ⟨n2,e2,w2⟩:=Z3 Tryz.underlying3 (h2 (2,3) Zb);obtain ⟨n3,e3,w3⟩:=Z3 Tryz.underlying3 (h2 (3,3) Zb);obtain ⟨y4,e4,w4,_,z4⟩:=Yx Tryz.underlying55 (h2 (4,55) Zb);obtain ⟨n4,rfl,u4⟩:=Nl z4;obtain ⟨n5,e5,w5⟩:=Z3 Tryz.underlying3 (h2 (5,3) Zb)
 obtain ⟨n6,e6,w6⟩:=Z3 Tryz.underlying3 (h2 (6,3) Zb);obtain ⟨n7,e7,w7⟩:=Z3 Tryz.underlying3 (h2 (7,3) Zb);obtain ⟨n8,e8,w8⟩:=Z3 Tryz.underlying3 (h2 (8,3) Zb);obtain ⟨n9,e9,w9⟩:=Z3 Tryz.underlying3 (h2 (9,3) Zb);obtain ⟨n10,e10,w10⟩:=Z3 Tryz.underlying3 (h2 (10,3) Zb);obtain ⟨n11,e11,w11⟩:=Z3 Tryz.underlying3 (h2 (11,3) Zb);obtain ⟨n12,e12,w12⟩:=Z3 Tryz.underlying3 (h2 (12,3) Zb);obtain ⟨n13,e13,w13⟩:=Z3 Tryz.underlying3 (h2 (13,3) Zb);simp [xW,Pv,ZiF] at e0 e1 e2 e3 e4 e5 e6 e7 e8 e9 e10 e11 e12 e13
 subst e0;subst e1;subst e2;subst e3;subst e4;subst e5;subst e6;subst e7;subst e8;subst e9;subst e10;subst e11;subst e12;subst e13;exact ⟨⟨n0,n1,n2,n3,false,n4,n5,n6,n7,n8,n9,n10,n11,n12,n13⟩,rfl,w0,XE w1,XE w2,XE w3,by grind,u4,XE w5,XE w6,XE w7,XE w8,XE w9,XE w10,XE w11,XE w12,XE w13⟩
theorem sZ {B v} (h:FitV Tryz.prog B 63 v): ∃x:Typ,v=X4 x/\x.wf B:=by
 obtain ⟨k,cs,h,e⟩:=h.out;obtain ⟨x,rfl,hw⟩:=jP h;exact ⟨x,e.trans (by rw [JA,if_pos (VS yN)];rfl),hw⟩
structure Stp where
 place:Int
 opn:Int
 cls:Int
 serv:Int
 deriving Inhabited
def Be (x:Stp):List PV:= [.int .i64 x.place,.int .i64 x.opn,.int .i64 x.cls,.int .i64 x.serv]
def FI (x:Stp):PV:= .agg [.int .i64 x.place,.int .i64 x.opn,.int .i64 x.cls,.int .i64 x.serv]
@[go_sem] theorem Zmr (x:Stp):FI x= .agg [.int .i64 x.place,.int .i64 x.opn,.int .i64 x.cls,.int .i64 x.serv]:=Zm rfl rfl
def Stp.wf (B:Nat) (x:Stp):Prop:=Qf x.place/\Qf x.opn/\Qf x.cls/\Qf x.serv
theorem Nm {B m cs} (h:Ww Tryz.prog B m 65 cs): ∃x:Stp,cs=Be x/\x.wf B:=by
 obtain ⟨h1,m',h2⟩:=VI ZkH xX h;obtain ⟨a0,a1,a2,a3,rfl⟩:=ZoB h1;obtain ⟨n0,e0,w0⟩:=Z3 Tryz.underlying3 (h2 (0,3) Zb);obtain ⟨n1,e1,w1⟩:=Z3 Tryz.underlying3 (h2 (1,3) Zb);obtain ⟨n2,e2,w2⟩:=Z3 Tryz.underlying3 (h2 (2,3) Zb);obtain ⟨n3,e3,w3⟩:=Z3 Tryz.underlying3 (h2 (3,3) Zb);simp [Pv] at e0 e1 e2 e3;subst e0;subst e1;subst e2;subst e3;exact ⟨⟨n0,n1,n2,n3⟩,rfl,XE w0,XE w1,XE w2,XE w3⟩
theorem xY {B v} (h:FitV Tryz.prog B 89 v): ∃x:Int×Int,v=eP x/\Qf x.1/\Qf x.2:=by
 obtain ⟨k,cs,h,e⟩:=h.out;obtain ⟨h1,m',h2⟩:=VI yP ZiE h;obtain ⟨a,b,rfl⟩:=tS h1;obtain ⟨n0,e0,w0⟩:=Z3 Tryz.underlying3 (h2 (0,3) Zb);obtain ⟨n1,e1,w1⟩:=Z3 Tryz.underlying3 (h2 (1,3) Zb);simp [Pv] at e0 e1;subst e0;subst e1;exact ⟨(n0,n1),e.trans (by rw [JA,if_pos (VS yP)];rfl),XE w0,XE w1⟩
structure Ord where
 name:List UInt8
 load_c:Bool
 load:List (Int)
 pick:Stp
 drp:Stp
 skills:Int
 penalty:Int
 split:Int
 last:Int
 now:Int
 off:Bool
 deriving Inhabited
def Zn6 (x:Ord):List PV:= [.str x.name,.list x.load_c (x.load.map eI),.int .i64 x.pick.place,.int .i64 x.pick.opn,.int .i64 x.pick.cls,.int .i64 x.pick.serv,.int .i64 x.drp.place,.int .i64 x.drp.opn,.int .i64 x.drp.cls,.int .i64 x.drp.serv,.int .i64 x.skills,.int .i64 x.penalty,.int .i64 x.split,.int .i64 x.last,.int .i64 x.now,.bool x.off]
def Yj (x:Ord):PV:= .agg [.str x.name,.list x.load_c (x.load.map eI),.int .i64 x.pick.place,.int .i64 x.pick.opn,.int .i64 x.pick.cls,.int .i64 x.pick.serv,.int .i64 x.drp.place,.int .i64 x.drp.opn,.int .i64 x.drp.cls,.int .i64 x.drp.serv,.int .i64 x.skills,.int .i64 x.penalty,.int .i64 x.split,.int .i64 x.last,.int .i64 x.now,.bool x.off]
@[go_sem] theorem Zml (x:Ord):Yj x= .agg [.str x.name,.list x.load_c (x.load.map eI),.int .i64 x.pick.place,.int .i64 x.pick.opn,.int .i64 x.pick.cls,.int .i64 x.pick.serv,.int .i64 x.drp.place,.int .i64 x.drp.opn,.int .i64 x.drp.cls,.int .i64 x.drp.serv,.int .i64 x.skills,.int .i64 x.penalty,.int .i64 x.split,.int .i64 x.last,.int .i64 x.now,.bool x.off]:=Zm rfl rfl
@[go_sem] theorem Zky (l:List Ord):K3 16 (l.map Yj)=true:=QQ fun _=>rfl
def Ord.wf (B:Nat) (x:Ord):Prop:=x.name.length<=B/\x.load.length<=B/\(∀n∈x.load,Qf n)/\Stp.wf B x.pick/\Stp.wf B x.drp/\Qf x.skills/\Qf x.penalty/\Qf x.split/\Qf x.last/\Qf x.now
theorem jO {B m cs} (h:Ww Tryz.prog B m 67 cs): ∃x:Ord,cs=Zn6 x/\x.wf B:=by
 obtain ⟨h1,m',h2⟩:=VI yO ZiD h;obtain ⟨a0,a1,a2,a3,a4,a5,a6,a7,a8,a9,a10,a11,a12,a13,a14,a15,rfl⟩:=Zkj h1;obtain ⟨n0,e0,w0,_⟩:=FQ Tryz.underlying9 (h2 (0,9) Zb);obtain ⟨y1,e1,w1,_,z1⟩:=Yx Tryz.underlying55 (h2 (1,55) Zb);obtain ⟨n1,rfl,u1⟩:=Nl z1;obtain ⟨n2,e2,w2⟩:=Nm (h2 (2,65) Zb);obtain ⟨n3,e3,w3⟩:=Nm (h2 (6,65) Zb);obtain ⟨n4,e4,w4⟩:=Z3 Tryz.underlying3 (h2 (10,3) Zb);obtain ⟨n5,e5,w5⟩:=Z3 Tryz.underlying3 (h2 (11,3) Zb);obtain ⟨n6,e6,w6⟩:=Z3 Tryz.underlying3 (h2 (12,3) Zb)
 obtain ⟨n7,e7,w7⟩:=Z3 Tryz.underlying3 (h2 (13,3) Zb);obtain ⟨n8,e8,w8⟩:=Z3 Tryz.underlying3 (h2 (14,3) Zb);obtain ⟨n9,e9⟩:=aP Tryz.underlying4 (h2 (15,4) Zb);simp [xW,xX,Zn7,Pv,ZiF,Be,Be] at e0 e1 e2 e3 e4 e5 e6 e7 e8 e9;subst e0;subst e1;obtain ⟨rfl,rfl,rfl,rfl⟩:=e2;obtain ⟨rfl,rfl,rfl,rfl⟩:=e3;subst e4;subst e5;subst e6;subst e7;subst e8;subst e9;exact ⟨⟨n0,false,n1,n2,n3,n4,n5,n6,n7,n8,n9⟩,rfl,w0,by grind,u1,w2,w3,XE w4,XE w5,XE w6,XE w7,XE w8⟩
theorem sY {B v} (h:FitV Tryz.prog B 67 v): ∃x:Ord,v=Yj x/\x.wf B:=by
 obtain ⟨k,cs,h,e⟩:=h.out;obtain ⟨x,rfl,hw⟩:=jO h;exact ⟨x,e.trans (by rw [JA,if_pos (VS yO)];rfl),hw⟩
structure Inst where
 net:Net
 types_c:Bool
 types:List (Typ)
 orders_c:Bool
 orders:List (Ord)
 apart_c:Bool
 apart:List (Int×Int)
 before_c:Bool
 before:List (Int×Int)
 deriving Inhabited
def Zit (x:Inst):List PV:= [.list x.net.places_c (x.net.places.map eS),.list x.net.arcs_c (x.net.arcs.map V2),.list x.types_c (x.types.map X4),.list x.orders_c (x.orders.map Yj),.list x.apart_c (x.apart.map eP),.list x.before_c (x.before.map eP)]
def Zu (x:Inst):PV:= .agg [.list x.net.places_c (x.net.places.map eS),.list x.net.arcs_c (x.net.arcs.map V2),.list x.types_c (x.types.map X4),.list x.orders_c (x.orders.map Yj),.list x.apart_c (x.apart.map eP),.list x.before_c (x.before.map eP)]
@[go_sem] theorem ZiI (x:Inst):Zu x= .agg [.list x.net.places_c (x.net.places.map eS),.list x.net.arcs_c (x.net.arcs.map V2),.list x.types_c (x.types.map X4),.list x.orders_c (x.orders.map Yj),.list x.apart_c (x.apart.map eP),.list x.before_c (x.before.map eP)]:=Zm rfl rfl
def Inst.wf (B:Nat) (x:Inst):Prop:=Net.wf B x.net/\x.types.length<=B/\(∀y∈x.types,Typ.wf B y)/\x.orders.length<=B/\(∀y∈x.orders,Ord.wf B y)/\x.apart.length<=B/\(∀p∈x.apart,Qf p.1/\Qf p.2)/\x.before.length<=B/\(∀p∈x.before,Qf p.1/\Qf p.2)
theorem aO {B m cs} (h:Ww Tryz.prog B m 30 cs): ∃x:Inst,cs=Zit x/\x.wf B:=by
 obtain ⟨h1,m',h2⟩:=VI yL ZiA h;obtain ⟨a0,a1,a2,a3,a4,a5,rfl⟩:=Zkk h1;obtain ⟨n0,e0,w0⟩:=jN (h2 (0,25) Zb);obtain ⟨y1,e1,w1,_,z1⟩:=Yx Tryz.underlying26 (h2 (2,26) Zb);obtain ⟨n1,rfl,u1⟩:=VV (f:=X4) fun y hy=>sZ (z1 y hy);obtain ⟨y2,e2,w2,_,z2⟩:=Yx Tryz.underlying27 (h2 (3,27) Zb);obtain ⟨n2,rfl,u2⟩:=VV (f:=Yj) fun y hy=>sY (z2 y hy);obtain ⟨y3,e3,w3,_,z3⟩:=Yx Tryz.underlying28 (h2 (4,28) Zb);obtain ⟨n3,rfl,u3⟩:=VV (f:=eP) fun y hy=>xY (z3 y hy)
 obtain ⟨y4,e4,w4,_,z4⟩:=Yx Tryz.underlying28 (h2 (5,28) Zb);obtain ⟨n4,rfl,u4⟩:=VV (f:=eP) fun y hy=>xY (z4 y hy);simp [Ziz,Ziy,Zix,xV,Ziu] at e0 e1 e2 e3 e4;obtain ⟨rfl,rfl⟩:=e0;subst e1;subst e2;subst e3;subst e4;exact ⟨⟨n0,false,n1,false,n2,false,n3,false,n4⟩,rfl,w0,by grind,u1,by grind,u2,by grind,u3,by grind,u4⟩
theorem jF {B v} (h:FitV Tryz.prog B 30 v): ∃x:Inst,v=Zu x/\x.wf B:=by
 obtain ⟨k,cs,h,e⟩:=h.out;obtain ⟨x,rfl,hw⟩:=aO h;exact ⟨x,e.trans (by rw [JA,if_pos (VS yL)];rfl),hw⟩
structure Vis where
 order:Int
 drp:Bool
 deriving Inhabited
def Z9 (x:Vis):PV:= .agg [.int .i64 x.order,.bool x.drp]
@[go_sem] theorem Sj (x:Vis):Z9 x= .agg [.int .i64 x.order,.bool x.drp]:=Zm rfl rfl
@[go_sem] theorem Ze1 (l:List Vis):B4 2 (l.map Z9)=true:=B5 (f:=Z9) (S:=2) (fun _=>rfl) l
@[go_sem] theorem ZkB (l:List Vis):K3 2 (l.map Z9)=true:=QQ fun _=>rfl
structure Rte where
 typ:Int
 start:Int
 rests_c:Bool
 rests:List (Bool)
 visits_c:Bool
 visits:List (Vis)
 deriving Inhabited
def WM (x:Rte):PV:= .agg [.int .i64 x.typ,.int .i64 x.start,.list x.rests_c (x.rests.map eB),.list x.visits_c (x.visits.map Z9)]
@[go_sem] theorem Zmn (x:Rte):WM x= .agg [.int .i64 x.typ,.int .i64 x.start,.list x.rests_c (x.rests.map eB),.list x.visits_c (x.visits.map Z9)]:=Zm rfl rfl
structure Tim where
 arr:Int
 beg:Int
 dep:Int
 rest:Bool
 deriving Inhabited
def eTim (x:Tim):PV:= .agg [.int .i64 x.arr,.int .i64 x.beg,.int .i64 x.dep,.bool x.rest]
@[go_sem] theorem Zms (x:Tim):eTim x= .agg [.int .i64 x.arr,.int .i64 x.beg,.int .i64 x.dep,.bool x.rest]:=Zm rfl rfl
@[go_sem] theorem Zkz (l:List Tim):K3 4 (l.map eTim)=true:=QQ fun _=>rfl
structure She where
 rest:Bool
 dep:Int
 times_c:Bool
 times:List (Tim)
 fin:Int
 miles:Int
 deriving Inhabited
def FG (x:She):PV:= .agg [.bool x.rest,.int .i64 x.dep,.list x.times_c (x.times.map eTim),.int .i64 x.fin,.int .i64 x.miles]
@[go_sem] theorem Zmp (x:She):FG x= .agg [.bool x.rest,.int .i64 x.dep,.list x.times_c (x.times.map eTim),.int .i64 x.fin,.int .i64 x.miles]:=Zm rfl rfl
structure Sco where
 cost:Int
 moved:Int
 other:Int
 work:Int
 deriving Inhabited
def EB (x:Sco):PV:= .agg [.int .i64 x.cost,.int .i64 x.moved,.int .i64 x.other,.int .i64 x.work]
@[go_sem] theorem Zmo (x:Sco):EB x= .agg [.int .i64 x.cost,.int .i64 x.moved,.int .i64 x.other,.int .i64 x.work]:=Zm rfl rfl
structure Pln where
 routes_c:Bool
 routes:List (Rte)
 unserved_c:Bool
 unserved:List (Int)
 deriving Inhabited
def JY (x:Pln):PV:= .agg [.list x.routes_c (x.routes.map WM),.list x.unserved_c (x.unserved.map eI)]
@[go_sem] theorem Zmm (x:Pln):JY x= .agg [.list x.routes_c (x.routes.map WM),.list x.unserved_c (x.unserved.map eI)]:=Zm rfl rfl
structure Col where
 typ:Int
 set:Int
 price:Int
 route:Rte
 deriving Inhabited
def Hb (x:Col):List PV:= [.int .i64 x.typ,.int .i64 x.set,.int .i64 x.price,.int .i64 x.route.typ,.int .i64 x.route.start,.list x.route.rests_c (x.route.rests.map eB),.list x.route.visits_c (x.route.visits.map Z9)]
def Xt (x:Col):PV:= .agg [.int .i64 x.typ,.int .i64 x.set,.int .i64 x.price,.int .i64 x.route.typ,.int .i64 x.route.start,.list x.route.rests_c (x.route.rests.map eB),.list x.route.visits_c (x.route.visits.map Z9)]
@[go_sem] theorem Zmh (x:Col):Xt x= .agg [.int .i64 x.typ,.int .i64 x.set,.int .i64 x.price,.int .i64 x.route.typ,.int .i64 x.route.start,.list x.route.rests_c (x.route.rests.map eB),.list x.route.visits_c (x.route.visits.map Z9)]:=Zm rfl rfl
structure Itm where
 kind:Int
 a:Int
 deriving Inhabited
def Zn5 (x:Itm):List PV:= [.int .i64 x.kind,.int .i64 x.a]
def Xz (x:Itm):PV:= .agg [.int .i64 x.kind,.int .i64 x.a]
@[go_sem] theorem Zmi (x:Itm):Xz x= .agg [.int .i64 x.kind,.int .i64 x.a]:=Zm rfl rfl
@[go_sem] theorem ZeZ (l:List Itm):B4 2 (l.map Xz)=true:=B5 (f:=Xz) (S:=2) (fun _=>rfl) l
@[go_sem] theorem Zkx (l:List Itm):K3 2 (l.map Xz)=true:=QQ fun _=>rfl
def Itm.wf (B:Nat) (x:Itm):Prop:=Qf x.kind/\Qf x.a
theorem jM {B m cs} (h:Ww Tryz.prog B m 41 cs): ∃x:Itm,cs=Zn5 x/\x.wf B:=by
 obtain ⟨h1,m',h2⟩:=VI yM ZiB h;obtain ⟨a0,a1,rfl⟩:=tS h1;obtain ⟨n0,e0,w0⟩:=Z3 Tryz.underlying3 (h2 (0,3) Zb);obtain ⟨n1,e1,w1⟩:=Z3 Tryz.underlying3 (h2 (1,3) Zb);simp [Pv] at e0 e1;subst e0;subst e1;exact ⟨⟨n0,n1⟩,rfl,XE w0,XE w1⟩
theorem sX {B v} (h:FitV Tryz.prog B 41 v): ∃x:Itm,v=Xz x/\x.wf B:=by
 obtain ⟨k,cs,h,e⟩:=h.out;obtain ⟨x,rfl,hw⟩:=jM h;exact ⟨x,e.trans (by rw [JA,if_pos (VS yM)];rfl),hw⟩
theorem own : ownKnob Tryz.prog.godebug=none:=Zf
theorem tR : laidOutB Tryz.prog=true:=Zf
theorem jG {B x} (h:FitV Tryz.prog B 34 x): ∃l:List Itm,x= .list false (l.map Xz)/\l.length<=B/\ ∀v∈l,v.wf B:=by
 obtain ⟨xs,rfl,h1,_,h2⟩:=aM Tryz.underlying34 h;obtain ⟨l,rfl,h3⟩:=VV (f:=Xz) fun y hy=>sX (h2 y hy);exact ⟨l,rfl,by simpa using h1,h3⟩
def zeroI : Inst:=⟨⟨true,[],true,[]⟩,true,[],true,[],true,[],true,[]⟩
abbrev Flt := Int×List UInt8
def eF (f:Flt):PV:= .agg [.int .i64 f.1,.str f.2]
@[go_sem] theorem ZqF (f:Flt):eF f= .agg [.int .i64 f.1,.str f.2]:=Zm rfl rfl
@[go_sem] theorem ZoO (l:List Flt):K3 2 (l.map eF)=true:=QQ fun _=>rfl
def dec (n:Nat):List UInt8:=if h:n<10 then [UInt8.ofNat (48+n)] else dec (n / 10)++ [UInt8.ofNat (48+n%10)]
termination_by n
decreasing_by omega
theorem Se : ∀(k n:Nat),n<k->(dec n).length<=n+1:=by
 intro k
 induction k with
 | zero=>omega
 | succ k ih =>
  grind [dec]
theorem BC : ∀(d n:Nat),n<10^(d+1)->(dec n).length<=d+1:=by
 intro d
 induction d with
 | zero=>simp_all [dec]
 | succ d ih =>
  grind [dec]
def Bf (n:Int):List UInt8:=if n<0 then 45::dec n.natAbs else dec n.natAbs
theorem Js (n:Int) (h:Qf n):(Bf n).length<=20:=by
 have h1:n.natAbs<10^(18+1):=Za
 have:=BC 18 n.natAbs h1
 grind [Bf]
structure FR {α:Type} (p:α->Prop) (C:Prop) (b:Nat) (l:List α):Prop where
 len:l.length<=b
 emp:l= []↔C
 all: ∀x∈l,p x
theorem FR.nil {α:Type} {p:α->Prop} {C:Prop} {b:Nat} (h:C):FR p C b []:=⟨Zb,by simp [h],Zb⟩
theorem FR.no {α:Type} {p:α->Prop} {C c:Prop} {b:Nat} {l:List α} (h:FR p C b l) (hc:c):FR p (C/\c) (b+1) l:=⟨by have:=h.len;omega,by rw [h.emp];simp [hc],h.all⟩
theorem FR.yes {α:Type} {p:α->Prop} {C c:Prop} {b:Nat} {l:List α} {x:α} (h:FR p C b l) (hc: ¬c) (hx:p x):FR p (C/\c) (b+1) (l++ [x]) :=
 ⟨by have:=h.len;simp;omega,by simp [hc],fun y hy=>by
  rcases Xe.1 hy with hy | hy
  ·exact h.all y hy
  grind⟩
theorem FR.app {α:Type} {p:α->Prop} {C D:Prop} {b d:Nat} {l m:List α} (h:FR p C b l) (k:FR p D d m):FR p (C/\D) (b+d) (l++m) :=
 ⟨by have:=h.len;have:=k.len;simp;omega,by rw [VN,h.emp,k.emp],fun y hy=>by
  rcases Xe.1 hy with hy | hy
  ·exact h.all y hy
  ·exact k.all y hy⟩
theorem FR.to {α:Type} {p:α->Prop} {C D:Prop} {b d:Nat} {l:List α} (h:FR p C b l) (hb:b<=d) (hc:C↔D):FR p D d l:=⟨QM h.len hb,h.emp.trans hc,h.all⟩
theorem Zr {p:Nat->Prop} {k:Nat} :(∀j,j<k+1->p j)↔((∀j,j<k->p j)/\p k) :=
 ⟨fun h=>⟨fun j hj=>h j Za,h k Za⟩,fun h j hj=>by
  grind⟩
def J4 (c:UInt8):Bool:=decide (48<=c.toNat/\c.toNat<=57)
def Jw (c:UInt8):Bool:=decide (97<=c.toNat/\c.toNat<=122)||decide (65<=c.toNat/\c.toNat<=90)||decide (c.toNat=95)
def nameOk (s:List UInt8):Bool:=decide (1<=s.length)&&decide (s.length<=16)&& !J4 (nth s 0)&&s.all fun c=>Jw c||J4 c
def rng (n lo hi:Int):Bool:=decide (lo<=n/\n<=hi)
def Mp (n:Int):Bool:=rng n 0 4096
def nO (l:List Pt) (i:Nat):Prop:=(0<=(nth l i).t/\(nth l i).t<=4096/\(nth l i).t<=(nth l i).a/\(nth l i).a<=(nth l i).t+4096)/\(0<i->(nth l (i-1)).t<(nth l i).t/\(nth l (i-1)).a<=(nth l i).a)
def Vg (l:List Pt):Prop:=(1<=l.length/\l.length<=16)/\ ∀i,i<l.length->nO l i
def Ad (l:List Pt) (i:Nat):Prop:=Mp (nth l i).t=true/\Mp (nth l i).a=true/\(0<i->(nth l (i-1)).t<(nth l i).t)
def ML (n:Net) (i:Nat):Prop :=
 ((((((0<=(nth n.arcs i).src/\(nth n.arcs i).src<n.places.length/\0<=(nth n.arcs i).dst/\(nth n.arcs i).dst<n.places.length) /\
 (0<=(nth n.arcs i).prof/\(nth n.arcs i).prof<=7/\0<=(nth n.arcs i).miles/\(nth n.arcs i).miles<=10000/\(nth n.arcs i).src≠(nth n.arcs i).dst)) /\
 (∀k,k<i-> ¬((nth n.arcs i).src=(nth n.arcs k).src/\(nth n.arcs i).dst=(nth n.arcs k).dst/\(nth n.arcs i).prof=(nth n.arcs k).prof))) /\
 Vg (nth n.arcs i).travel)/\(nth n.arcs i).slow.length<=16)/\ ∀k,k<(nth n.arcs i).slow.length->Ad (nth n.arcs i).slow k)
def Rb (n:Net) (i:Nat):Prop:=nameOk (nth n.places i)=true/\ ∀k,k<i->nth n.places k≠nth n.places i
def K6 (n:Net):Prop:=n.places.length<=24/\ ∀i,i<n.places.length->Rb n i
def netOk (n:Net):Prop:=(K6 n/\n.arcs.length<=1024)/\ ∀i,i<n.arcs.length->ML n i
set_option maxRecDepth 8000
set_option maxHeartbeats 4000000
theorem Sg (c:UInt8):PC 128 [.p (.int .u8 (c.toNat:Nat))] (.bool (J4 c)):=by
 refine Zc Tryz.func128 rfl Za9 ?_;simp (disch:=omega) only [Tryz.f128,go_sem,seval];refine gT ?_ ?_<;>intro h<;>simp (disch:=omega) only [Sh.out h,go_sem,seval,↓reduceIte]
 all_goals (simp [J4];first | done | omega | grind)
theorem lH (c:UInt8):PC 129 [.p (.int .u8 (c.toNat:Nat))] (.bool (Jw c)):=by
 refine Zc Tryz.func129 rfl Zba ?_;simp (disch:=omega) only [Tryz.f129,go_sem,seval]
 repeat' (first | (refine gT ?_ ?_<;>intro hq<;>simp (disch:=omega) only [Sh.out hq,go_sem,seval,↓reduceIte]) | (refine gF ?_ ?_<;>intro hq<;>simp (disch:=omega) only [Sh.out hq,go_sem,seval,↓reduceIte]) | (refine QF (fun hq=> ?_) (fun hq=> ?_)<;>(try simp only [Zq,Yd,Z7] at hq)<;>simp (disch:=omega) only [Sh.out hq,go_sem,seval]))
 all_goals (simp [Jw];first | done | omega | (rw [Wx];simp;omega))
theorem P2 (s:List UInt8) (hs:s.length<=1048576):PC 95 [.p (.str s)] (.bool (nameOk s)):=by
 refine Zc Tryz.func95 rfl Zka ?_;simp (disch:=omega) only [Tryz.f95,go_sem,seval];refine gF ?_ ?_<;>intro h<;>simp (disch:=omega) only [Sh.out h,go_sem,seval,↓reduceIte]
 ·grind [nameOk]
 ·refine gF ?_ ?_<;>intro h2<;>simp (disch:=omega) only [Sh.out h2,go_sem,seval]
  ·grind [nameOk]
  ·have g1:1<=s.length:=Za
   have g2:s.length<=16:=Za
   refine (Sg (nth s 0)).use (Zd ?_);refine cD ?_ ?_<;>intro h3<;>simp (disch:=omega) only [Sh.out h3,go_sem,seval]
   ·simp [nameOk,h3]
   ·refine Zl [0] (fun k:Nat=> [(3,.p (.int .i64 k))]) (fun _=> []) (fun k=>k<=s.length/\ ∀j,j<k->(Jw (nth s j)||J4 (nth s j))=true) (fun k=>s.length-k) 0 Zb (Weak.mk ?_) ?_
    ·simp (disch:=omega) only [go_sem,seval,↓reduceIte]
    ·rintro k ⟨hk,hno⟩;refine Zd ?_
     have hall: ∀j,j<s.length->(Jw (nth s j)||J4 (nth s j))=false->nameOk s=false:=fun j hj e=>by
      grind [Zi,nameOk]
     refine cD ?_ ?_<;>intro h4<;>simp (disch:=omega) only [Sh.out h4,go_sem,seval,↓reduceIte]
     ·have hk2:k<s.length:=Za
      refine (lH (nth s k)).use (Zd ?_);refine gT ?_ ?_<;>intro h5<;>simp (disch:=omega) only [Sh.out h5,go_sem,seval,↓reduceIte]
      ·refine (Sg (nth s k)).use (Zd ?_);refine cD ?_ ?_<;>intro h6<;>simp (disch:=omega) only [Sh.out h6,go_sem,seval,↓reduceIte]
       ·grind
       ·simp only [XR] at h6;exact ⟨k+1,⟨Za,Zr.2 ⟨hno,by simp [h6]⟩⟩,Za,wk⟩
      ·simp only [XR] at h5;exact ⟨k+1,⟨Za,Zr.2 ⟨hno,by simp [h5]⟩⟩,Za,wk⟩
     ·have:s.all (fun c=>Jw c||J4 c)=true:=by
       rw [Zz];intro c hc;obtain ⟨j,hj,rfl⟩:=ZS.1 hc
       grind [Zi]
      grind [nameOk]
theorem Ap (n:Int) (hn:Qf n):PC 74 [.p (.int .i64 n)] (.str (Bf n)):=by
 refine Zc Tryz.func74 rfl ZjT ?_;simp (disch:=omega) only [Tryz.f74,go_sem,seval]
 have h19:n.natAbs<10^(18+1):=Za
 have hdl:=BC 18 n.natAbs h19
 refine Z0 [7] [0] (fun q:Int×List UInt8×Bool=> [(3,.p (.str q.2.1)),(4,.p (.int .i64 q.1)),(5,.p (.bool q.2.2))]) (fun _=> [])
  (fun q=>Qf q.1/\(q.2.2=true->dec q.1.natAbs++q.2.1=dec n.natAbs)/\(q.2.2=false->q.2.1=dec n.natAbs)) (fun q=>if q.2.2 then q.1.natAbs+1 else 0) (n,[],true) (by simp;omega) (Weak.mk ?_) ?_
 ·simp (disch:=omega) only [go_sem,seval,↓reduceIte]
 ·rintro ⟨m,s,again⟩ ⟨hm,h1,h2⟩;simp only at hm h1 h2;refine Zd ?_
  cases again with
  | false =>
   refine Zd ?_;have h2:=h2 rfl
   have hl2:([45]:List UInt8).length+(dec n.natAbs).length<=9223372036854775807:=by simp;omega
   refine cD ?_ ?_<;>intro h3<;>simp (disch:=omega) only [Sh.out h3,go_sem,seval]
   ·simp (disch:=omega) only [Bf,h2,h3,oI hl2,go_sem,seval,↓reduceIte]
   ·simp (disch:=omega) only [Bf,h2,h3,go_sem,seval,↓reduceIte]
  | true =>
   have h1:=h1 rfl
   have hls:(dec m.natAbs).length+s.length=(dec n.natAbs).length:=by grind
   refine Zd ?_
   have e1:(m.tmod 10).natAbs=m.natAbs%10:=Zb
   have e2:(m.tdiv 10).natAbs=m.natAbs / 10:=by grind
   have e3:m.tmod 10<10/\ -10<m.tmod 10:=⟨Int.tmod_lt_of_pos _ (by decide),Za⟩;refine ZN [0,3,4] (fun _:Unit=> [(6,.p (.int .i64 ((m.natAbs%10:Nat):Int)))]) (fun _=> []) (fun _=>True) ?_ ?_
   ·refine Zd ?_;refine cD ?_ ?_<;>intro h3<;>simp (disch:=omega) only [Sh.out h3,go_sem,seval,↓reduceIte]
    ·exact ⟨(),Weak.mk (by refine Zd ?_;simp;omega)⟩
    ·exact ⟨(),Weak.mk (by refine Zd ?_;simp;omega)⟩
   ·intro _ _;refine Zh [] _ _ _ _ ?_;simp (disch:=first | omega | (simp only [ZF,ZH,ZA,ZG,Xi,XL]<;>omega)) only [go_sem,seval,↓reduceIte]
    have e4:(48+((m.natAbs%10:Nat):Int)).toNat=48+m.natAbs%10:=Za
    refine ⟨(m.tdiv 10,UInt8.ofNat (48+m.natAbs%10)::s,decide (m.tdiv 10≠0)),⟨?_,?_,?_⟩,?_,Weak.mk ?_⟩
    ·omega
    ·simp only [Zq];intro hne
     have h10: ¬m.natAbs<10:=Za
     rw [e2,<- h1,dec.eq_def m.natAbs,dif_neg h10];simp
    ·simp only [Yd,Z7];intro hz
     have h10:m.natAbs<10:=Za
     rw [<- h1,dec.eq_def m.natAbs,dif_pos h10,CJ h10];simp
    ·grind
    ·simp (disch:=omega) only [e4,go_sem,seval]
def pF (k:Nat) (f:Flt):Prop:=f.2.length<=k
theorem Xd {P:Program} {id:Nat} {l:List Oper} {fr:List V} {H:List AM.Obj} {Q:Exit->List V->List AM.Obj->Prop} {t} (h:hs P (l.map (·.dst)) H (Zv (fun fr'=>Q .normal (LD fr') H) ⟨⟩) l (LD fr)) (hm:P.follows .mixedOrders=true:=by exact mixed) (hB:Vf (List.toArray l) l.length=true:=by kernel_rfl) (hR:K8 (List.toArray l) l.length=true:=by kernel_rfl):AWP P (.region id (Zv (List.toArray l) t) true) fr H Q:=Pe hm hB hR h
theorem iF (l:List Pt) (c:Bool) (hl:l.length<=1048576):ACalls Tryz.prog 96 [.p (.list c (l.map G4))] [] fun x H'=> ∃m:List Flt,FR (pF 20) (Vg l) (2*l.length+1) m/\x= .sl 0 0 m.length m.length/\H'= [.elems 2 (m.map eF)]:=by
 refine ZJ [2] Tryz.func96 rfl Zkb ?_;simp (disch:=omega) only [Tryz.f96,go_sem,seval];refine Zp (Weak.ofNil 3 2 (by simp (disch:=omega) only [go_sem,seval]) Zb (Weak.refl _ _ _)) ?_;refine ZN [0] (fun m:List Flt=> [(3,.sl 0 0 m.length m.length)]) (fun m=> [.elems 2 (m.map eF)]) (fun m=>FR (pF 20) (1<=l.length/\l.length<=16) 1 m) ?_ ?_
 ·refine Zd ?_
  repeat' (first | (refine Uk (fun hq=> ?_) (fun hq=> ?_)<;>(try simp only [Zq,Yd,Z7] at hq)<;>simp (disch:=omega) only [Sh.out hq,go_sem,seval]) | (refine gF ?_ ?_<;>intro hq<;>simp (disch:=omega) only [Sh.out hq,go_sem,seval,↓reduceIte]) | (refine cD ?_ ?_<;>intro hq<;>simp (disch:=omega) only [Sh.out hq,go_sem,seval,↓reduceIte]))
  ·exact ⟨[(4,[])],⟨Zb,by simp;omega,by simp [pF]⟩,wk⟩
  ·exact ⟨[(4,[])],⟨Zb,by simp;omega,by simp [pF]⟩,wk⟩
  ·exact ⟨[],FR.nil Za,wk⟩
 ·intro m hm;refine Zh [] _ _ _ _ (Zd ?_);refine Z0 [8] [0] (fun q:Nat×List Flt=> [(3,.sl 0 0 q.2.length q.2.length),(4,.p (.int .i64 q.1))]) (fun q=> [.elems 2 (q.2.map eF)]) (fun q=>q.1<=l.length/\FR (pF 20) ((1<=l.length/\l.length<=16)/\ ∀j,j<q.1->nO l j) (2*q.1+1) q.2) (fun q=>l.length-q.1) (0,m) ⟨Zb,hm.to Zb Zb⟩ (Weak.mk ?_) ?_
  ·simp (disch:=omega) only [go_sem,seval,↓reduceIte]
  ·rintro ⟨k,m⟩ ⟨hk,hm⟩;simp only at hk hm;have hml:=hm.len;refine Zd ?_;refine cD ?_ ?_<;>intro h<;>simp (disch:=omega) only [Sh.out h,go_sem,seval,↓reduceIte]
   ·have hk2:k<l.length:=Za
    refine ZN [0,4,5] (fun m:List Flt=> [(3,.sl 0 0 m.length m.length)]) (fun m=> [.elems 2 (m.map eF),.cells [.p (.int .i64 (nth l k).t),.p (.int .i64 (nth l k).a)]])
     (fun m=>FR (pF 20) (((1<=l.length/\l.length<=16)/\ ∀j,j<k->nO l j)/\(0<=(nth l k).t/\(nth l k).t<=4096/\(nth l k).t<=(nth l k).a/\(nth l k).a<=(nth l k).t+4096)) (2*k+1+1) m) ?_ ?_
    ·refine Zd ?_
     have hI:Qf (k:Int):=Za
     have hdl:=Js k hI
     repeat' (first | (refine Uk (fun hq=> ?_) (fun hq=> ?_)<;>(try simp only [Zq,Yd,Z7] at hq)<;>simp (disch:=omega) only [Sh.out hq,go_sem,seval]) | (refine gF ?_ ?_<;>intro hq<;>simp (disch:=omega) only [Sh.out hq,go_sem,seval,↓reduceIte]) | (refine cD ?_ ?_<;>intro hq<;>simp (disch:=omega) only [Sh.out hq,go_sem,seval,↓reduceIte]))
     all_goals try exact ⟨m,hm.no Za,wk⟩
     all_goals
      refine (Ap k hI).use ?_;simp (disch:=omega) only [go_sem,seval,↓reduceIte];exact ⟨m++ [(2,Bf k)],hm.yes Za (by simp only [pF];omega),wk⟩
    ·intro m hm;have hml:=hm.len;refine Zh [] _ _ _ _ (Zd ?_)
     have hI:Qf (k:Int):=Za
     have hdl:=Js k hI;refine Xd (Zd ?_)
     repeat' (first | (refine gT ?_ ?_<;>intro hq<;>simp (disch:=omega) only [Sh.out hq,go_sem,seval,↓reduceIte]) | (refine gF ?_ ?_<;>intro hq<;>simp (disch:=omega) only [Sh.out hq,go_sem,seval,↓reduceIte]) | (refine cD ?_ ?_<;>intro hq<;>simp (disch:=omega) only [Sh.out hq,go_sem,seval,↓reduceIte]))
     all_goals try exact ⟨(k+1,m),⟨by simp only;omega,(hm.no (c:=0<k->(nth l (k-1)).t<(nth l k).t/\(nth l (k-1)).a<=(nth l k).a) Za).to (by simp only;omega) (by simp only [Zr,nO,QN])⟩,by simp only;omega,wk⟩
     all_goals
      refine (Ap k hI).use ?_;simp (disch:=omega) only [go_sem,seval,↓reduceIte];exact ⟨(k+1,m++ [(13,Bf k)]),⟨by simp only;omega,(hm.yes (c:=0<k->(nth l (k-1)).t<(nth l k).t/\(nth l (k-1)).a<=(nth l k).a) Za (by simp only [pF];omega)).to (by simp only;omega) (by simp only [Zr,nO,QN])⟩,by simp only;omega,wk⟩
   ·have hkn:k=l.length:=Za
    subst hkn;exact ⟨m,hm.to Za (by rw [Vg]),0,by simp (disch:=omega) only [go_sem,seval]⟩
set_option maxHeartbeats 8000000
theorem pF.mono {j k:Nat} (h:j<=k) {f:Flt} (hf:pF j f):pF k f:=QM hf h
theorem FR.pmono {α:Type} {p q:α->Prop} {C:Prop} {b:Nat} {l:List α} (h:FR p C b l) (hp: ∀x,p x->q x):FR q C b l:=⟨h.len,h.emp,fun x hx=>hp x (h.all x hx)⟩
theorem OH (n:Int):PC 97 [.p (.int .i64 n)] (.bool (Mp n)):=by
 refine Zc Tryz.func97 rfl Zkc ?_;simp (disch:=omega) only [Tryz.f97,go_sem,seval]
 repeat' (first | (refine gT ?_ ?_<;>intro hq<;>simp (disch:=omega) only [Sh.out hq,go_sem,seval,↓reduceIte]) | (refine Qg (fun hq=> ?_) (fun hq=> ?_)<;>(try simp only [Zq,Yd,Z7] at hq)<;>simp (disch:=omega) only [Sh.out hq,go_sem,seval]) | (refine QF (fun hq=> ?_) (fun hq=> ?_)<;>(try simp only [Zq,Yd,Z7] at hq)<;>simp (disch:=omega) only [Sh.out hq,go_sem,seval]))
 all_goals (simp [Mp,rng];first | done | omega | (rw [Wx];simp;omega))
def Z4 (n:Net):List AM.Obj:= [.cells [.p (.list n.places_c (n.places.map eS)),.p (.list n.arcs_c (n.arcs.map V2))]]
theorem Af {P Q:Prop} (h:Q) (e:Q->P:=by intro h;simp (disch:=omega) only [Z4,go_sem,seval];exact h):P:=e h
theorem Py (n:Net) (hp:n.places.length<=1048576) (hs: ∀s∈n.places,s.length<=1048576):ACalls Tryz.prog 70 [.p (Bg n)] [] fun x H'=> ∃m:List Flt,FR (pF 26) (K6 n) (n.places.length+1) m/\x= .sl 0 0 m.length m.length/\H'= [.elems 2 (m.map eF)]:=by
 refine ZJ [2] Tryz.func70 rfl ZjP ?_;simp (disch:=omega) only [Tryz.f70,go_sem,seval];refine Zp (Weak.ofNil 3 2 (by simp (disch:=omega) only [go_sem,seval]) Zb (Weak.refl _ _ _)) ?_;refine ZN [1] (fun m:List Flt=> [(3,.sl 1 0 m.length m.length)]) (fun m=>Z4 n++ [.elems 2 (m.map eF)]) (fun m=>FR (pF 26) (n.places.length<=24) 1 m) ?_ ?_
 ·refine Zd ?_;refine Z1 ?_ ?_<;>intro h
  ·exact ⟨[(4,[112,108,97,99,101,115])],⟨Zb,by simp;omega,by simp [pF]⟩,Weak.mk (by simp (disch:=omega) only [Z4,go_sem,seval])⟩
  ·exact ⟨[],FR.nil Za,Weak.mk (by simp (disch:=omega) only [Z4,go_sem,seval])⟩
 ·intro m hm;refine Zh [] _ _ _ _ (Af ?_);refine Zl [1] (fun q:Nat×List Flt=> [(3,.sl 1 0 q.2.length q.2.length),(4,.p (.int .i64 q.1))]) (fun q=>Z4 n++ [.elems 2 (q.2.map eF)]) (fun q=>q.1<=n.places.length/\FR (pF 26) (n.places.length<=24/\ ∀j,j<q.1->Rb n j) (q.1+1) q.2) (fun q=>n.places.length-q.1) (0,m) ⟨Zb,hm.to Zb Zb⟩ (Weak.mk ?_) ?_
  ·simp (disch:=omega) only [Z4,go_sem,seval]
  ·rintro ⟨k,m⟩ ⟨hk,hm⟩;simp only at hk hm;have hml:=hm.len;refine Af ?_;refine cD ?_ ?_<;>intro h<;>simp (disch:=omega) only [Sh.out h,go_sem,seval,↓reduceIte]
   ·have hk2:k<n.places.length:=Za
    have hI:Qf (k:Int):=Za
    have hdl:=Js k hI;refine (Ap k hI).use (Zd ?_);simp (disch:=first | omega | (simp only [ZF,ZH,ZA,ZG,Xi,XL]<;>omega)) only [go_sem,seval,↓reduceIte];refine (P2 (nth n.places k) (hs _ (by grind [Zi]))).use (Zd ?_);refine Z1 ?_ ?_<;>intro h2
    ·simp only [XS] at h2;exact ⟨(k+1,m++ [(5,[112,108,97,99,101,32]++Bf k)]),⟨Za,(hm.yes (c:=Rb n k) (by rw [Rb,h2];simp) (by simp [pF];omega)).to Zb (by grind)⟩,Za,wk⟩
    ·simp only [XR] at h2;refine Zl [1,3,4,5] (fun q:Nat×Bool=> [(6,.p (.bool q.2)),(7,.p (.int .i64 q.1))]) (fun _=>Z4 n++ [.elems 2 (m.map eF)]) (fun q=>q.1<=k/\(q.2=false↔ ∀j,j<q.1->nth n.places j≠nth n.places k)) (fun q=>k-q.1) (0,false) Zb (Weak.mk ?_) ?_
     ·simp (disch:=omega) only [Z4,go_sem,seval]
     ·rintro ⟨j,b⟩ ⟨hj,hb⟩;simp only at hj hb;refine Af ?_;refine cD ?_ ?_<;>intro h3<;>simp (disch:=omega) only [Sh.out h3,go_sem,seval,↓reduceIte]
      ·refine ZE 14 mixed Zf Zf (Zd ?_)
       have hjn:j<n.places.length:=Za
       cases b with
       | true =>
        refine Zd ?_;exact ⟨(j+1,true),⟨Za,by grind⟩,Za,wk⟩
       | false =>
        refine Zd ?_;refine ⟨(j+1,decide (nth n.places j=nth n.places k)),⟨Za,by grind⟩,Za,wk⟩
      ·have hjk:j=k:=Za
       subst hjk
       cases b with
       | true =>
        refine Zd ?_
        have hno: ¬Rb n j:=fun h5=>by have:=hb.2 h5.2;cases this
        exact ⟨(j+1,m++ [(6,[112,108,97,99,101,32]++Bf j)]),⟨Za,(hm.yes (c:=Rb n j) hno (by simp [pF];omega)).to Zb (by grind)⟩,Za,wk⟩
       | false =>
        refine Zd ?_;exact ⟨(j+1,m),⟨Za,(hm.no (c:=Rb n j) ⟨h2,hb.1 rfl⟩).to Zb (by grind)⟩,Za,wk⟩
   ·have hkn:k=n.places.length:=Za
    subst hkn;exact ⟨m,hm.to Za (by rw [K6]),1,by simp (disch:=omega) only [go_sem,seval]⟩
set_option maxHeartbeats 16000000
def Vk (a:Arc):AM.Obj:= .cells [.p (.int .i64 a.src),.p (.int .i64 a.dst),.p (.int .i64 a.prof),.p (.int .i64 a.miles),.p (.list a.travel_c (a.travel.map G4)),.p (.list a.slow_c (a.slow.map G4))]
abbrev WX (a b:Arc):Prop:=a.src=b.src/\a.dst=b.dst/\a.prof=b.prof
theorem BW {P Q:Prop} (h:Q) (e:Q->P:=by intro h;simp (disch:=omega) only [Z4,Vk,go_sem,seval];exact h):P:=e h
theorem sG (n:Net) (i:Nat) (hi:i<n.arcs.length) (hp:n.places.length<=1048576) (ha:n.arcs.length<=1048576) (ht:(nth n.arcs i).travel.length<=1048576) (hsl:(nth n.arcs i).slow.length<=1048576) :
  ACalls Tryz.prog 71 [.p (Bg n),.p (.int .i64 (i:Nat))] [] fun x H'=> ∃m:List Flt,FR (pF 26) (ML n i) 4000000 m/\x= .sl 0 0 m.length m.length/\H'= [.elems 2 (m.map eF)]:=by
 refine ZJ [4] Tryz.func71 rfl ZjQ ?_;simp (disch:=omega) only [Tryz.f71,go_sem,seval]
 have hI:Qf (i:Int):=Za
 have hdl:=Js i hI;refine (Ap i hI).use (Zd ?_);simp (disch:=first | omega | (simp only [ZF,ZH,ZA,ZG,Xi,XL]<;>omega)) only [go_sem,seval,↓reduceIte]
 have hat:(97::114::99::32::Bf i).length<=26:=by simp;omega
 generalize hga:nth n.arcs i=a at ht hsl ⊢;generalize 97::114::99::32::Bf i=at' at hat ⊢;refine Zp (Weak.ofNil 5 2 (by simp (disch:=omega) only [go_sem,seval]) Zb (Weak.refl _ _ _)) ?_;refine ZN [1,2,6,7] (fun m:List Flt=> [(5,.sl 2 0 m.length m.length)]) (fun m=>Z4 n++ [Vk a,.elems 2 (m.map eF)]) (fun m=>FR (pF 26) (0<=a.src/\a.src<n.places.length/\0<=a.dst/\a.dst<n.places.length) 1 m) ?_ ?_
 ·refine Zd ?_
  repeat' (first | (refine Uk (fun hq=> ?_) (fun hq=> ?_)<;>(try simp only [Zq,Yd,Z7] at hq)<;>simp (disch:=omega) only [Sh.out hq,go_sem,seval]) | (refine gF ?_ ?_<;>intro hq<;>simp (disch:=omega) only [Sh.out hq,go_sem,seval]) | (refine cD ?_ ?_<;>intro hq<;>simp (disch:=omega) only [Sh.out hq,go_sem,seval]))
  all_goals try exact ⟨[],FR.nil Za,Weak.mk (by simp (disch:=omega) only [Z4,Vk,go_sem,seval])⟩
  all_goals exact ⟨[(11,at')],⟨Zb,by simp;omega,by simpa [pF] using hat⟩,Weak.mk (by simp (disch:=omega) only [Z4,Vk,go_sem,seval])⟩
 ·intro m hm;refine Zh [6] _ _ _ _ (BW ?_);have hml:=hm.len
  refine ZN [1,2,6,7] (fun m:List Flt=> [(5,.sl 2 0 m.length m.length)]) (fun m=>Z4 n++ [Vk a,.elems 2 (m.map eF)])
   (fun m=>FR (pF 26) ((0<=a.src/\a.src<n.places.length/\0<=a.dst/\a.dst<n.places.length)/\(0<=a.prof/\a.prof<=7/\0<=a.miles/\a.miles<=10000/\a.src≠a.dst)) 2 m) ?_ ?_
  ·refine Zd ?_
   repeat' (first | (refine Uk (fun hq=> ?_) (fun hq=> ?_)<;>(try simp only [Zq,Yd,Z7] at hq)<;>simp (disch:=omega) only [Sh.out hq,go_sem,seval]) | (refine gF ?_ ?_<;>intro hq<;>simp (disch:=omega) only [Sh.out hq,go_sem,seval]) | (refine cD ?_ ?_<;>intro hq<;>simp (disch:=omega) only [Sh.out hq,go_sem,seval]))
   all_goals try exact ⟨m,hm.no Za,Weak.mk (by simp (disch:=omega) only [Z4,Vk,go_sem,seval])⟩
   all_goals exact ⟨m++ [(2,at')],hm.yes Za (by simpa [pF] using hat),Weak.mk (by simp (disch:=omega) only [Z4,Vk,go_sem,seval])⟩
  ·clear hm hml;intro m hm;refine Zh [14] _ _ _ _ (BW ?_);have hml:=hm.len;refine Z0 [14] [1,2,5,6,7] (fun q:Nat×Bool=> [(8,.p (.bool q.2)),(9,.p (.int .i64 q.1))]) (fun _=>Z4 n++ [Vk a,.elems 2 (m.map eF)]) (fun q=>q.1<=i/\(q.2=false↔ ∀j,j<q.1-> ¬WX a (nth n.arcs j))) (fun q=>i-q.1) (0,false) Zb (Weak.mk ?_) ?_
   ·simp (disch:=omega) only [Z4,Vk,go_sem,seval]
   ·rintro ⟨k,b⟩ ⟨hk,hb⟩;simp only at hk hb;refine BW ?_;refine cD ?_ ?_<;>intro h<;>simp (disch:=omega) only [Sh.out h,go_sem,seval,↓reduceIte]
    ·have hkn:k<n.arcs.length:=Za
     cases b with
     | true =>
      refine Zd ?_;exact ⟨(k+1,true),⟨Za,by grind⟩,Za,wk⟩
     | false =>
      refine Zd ?_
      repeat' (first | (refine gT ?_ ?_<;>intro hq<;>simp (disch:=omega) only [Sh.out hq,go_sem,seval]) | (refine Qg (fun hq=> ?_) (fun hq=> ?_)<;>(try simp only [Zq,Yd,Z7] at hq)<;>simp (disch:=omega) only [Sh.out hq,go_sem,seval]) | (refine QF (fun hq=> ?_) (fun hq=> ?_)<;>(try simp only [Zq,Yd,Z7] at hq)<;>simp (disch:=omega) only [Sh.out hq,go_sem,seval]))
      all_goals refine ⟨(k+1,decide (WX a (nth n.arcs k))),⟨by simp only;omega,by rw [Zr,<- hb];simp⟩,by simp only;omega,Weak.mk ?_⟩
      all_goals simp (disch:=omega) only [go_sem,seval]
      all_goals simp [WX, *]
    ·have hki:k=i:=Za
     subst hki;have htw:(b=false↔ ∀j,j<k-> ¬WX a (nth n.arcs j)):=hb;clear hb hk h
     refine ZN [6,7] (fun m:List Flt=> [(5,.sl 2 0 m.length m.length)]) (fun m=>Z4 n++ [Vk a,.elems 2 (m.map eF)])
      (fun m=>FR (pF 26) (((0<=a.src/\a.src<n.places.length/\0<=a.dst/\a.dst<n.places.length)/\(0<=a.prof/\a.prof<=7/\0<=a.miles/\a.miles<=10000/\a.src≠a.dst))/\ ∀j,j<k-> ¬WX a (nth n.arcs j)) 3 m) ?_ ?_
     ·refine Zd ?_
      cases b with
      | true =>
       refine Zd ?_;exact ⟨m++ [(6,at')],hm.yes (by grind) (by grind [pF]),Weak.mk (by simp (disch:=omega) only [Z4,Vk,go_sem,seval])⟩
      | false =>
       refine Zd ?_;exact ⟨m,hm.no (htw.1 rfl),Weak.mk (by simp (disch:=omega) only [Z4,Vk,go_sem,seval])⟩
     ·clear hm hml;intro m hm;refine Zh [21] _ _ _ _ (BW ?_);have hml:=hm.len;refine ((iF a.travel a.travel_c ht).frozenE).useV fun lt hlt=>Zd ?_;have hltl:=hlt.len
      refine Z0 [21] [6,7,11] (fun q:Nat×List Flt=> [(5,.sl 2 0 q.2.length q.2.length),(12,.p (.int .i64 q.1))]) (fun q=>Z4 n++ [Vk a,.elems 2 (q.2.map eF)])
       (fun q=>q.1<=lt.length/\FR (pF 26) ((((0<=a.src/\a.src<n.places.length/\0<=a.dst/\a.dst<n.places.length)/\(0<=a.prof/\a.prof<=7/\0<=a.miles/\a.miles<=10000/\a.src≠a.dst))/\ ∀j,j<k-> ¬WX a (nth n.arcs j))/\q.1=0) (3+q.1) q.2) (fun q=>lt.length-q.1) (0,m) ⟨Zb,hm.to Zb Zb⟩ (Weak.mk ?_) ?_
      ·simp (disch:=omega) only [Z4,Vk,go_sem,seval]
      ·clear hm hml;rintro ⟨j,m⟩ ⟨hj,hm⟩;simp only at hj hm;have hml:=hm.len;refine BW ?_;refine Z1 ?_ ?_<;>intro h
       ·have hj2:j<lt.length:=Za
        exact ⟨(j+1,m++ [((nth lt j).1,at')]),⟨Za,(hm.yes (c:=False) Zb (by grind [pF])).to Za Zb⟩,Za,wk⟩
       ·have hjl:j=lt.length:=Za
        subst hjl;have hm2:=hm.to (d:=3+lt.length) (D:=(((0<=a.src/\a.src<n.places.length/\0<=a.dst/\a.dst<n.places.length)/\(0<=a.prof/\a.prof<=7/\0<=a.miles/\a.miles<=10000/\a.src≠a.dst))/\ ∀j,j<k-> ¬WX a (nth n.arcs j))/\Vg a.travel) (ZD _) (by rw [<- hlt.emp,List.eq_nil_iff_length_eq_zero]);clear hm
        refine ZN [6,7] (fun m:List Flt=> [(5,.sl 2 0 m.length m.length)]) (fun m=>Z4 n++ [Vk a,.elems 2 (m.map eF)])
         (fun m=>FR (pF 26) (((((0<=a.src/\a.src<n.places.length/\0<=a.dst/\a.dst<n.places.length)/\(0<=a.prof/\a.prof<=7/\0<=a.miles/\a.miles<=10000/\a.src≠a.dst))/\ ∀j,j<k-> ¬WX a (nth n.arcs j))/\Vg a.travel)/\a.slow.length<=16) (4+lt.length) m) ?_ ?_
        ·refine Zd ?_;refine Z1 ?_ ?_<;>intro h2
         ·exact ⟨m++ [(4,at')],(hm2.yes Za (by grind [pF])).to Za Iff.rfl,Weak.mk (by simp (disch:=omega) only [Z4,Vk,go_sem,seval])⟩
         ·exact ⟨m,(hm2.no Za).to Za Iff.rfl,Weak.mk (by simp (disch:=omega) only [Z4,Vk,go_sem,seval])⟩
        ·clear hm2 hml h hj;intro m hm;refine Zh [] _ _ _ _ (BW ?_)
         refine Zl [6,7] (fun q:Nat×List Flt=> [(5,.sl 2 0 q.2.length q.2.length),(13,.p (.int .i64 q.1))]) (fun q=>Z4 n++ [Vk a,.elems 2 (q.2.map eF)])
          (fun q=>q.1<=a.slow.length/\FR (pF 26) ((((((0<=a.src/\a.src<n.places.length/\0<=a.dst/\a.dst<n.places.length)/\(0<=a.prof/\a.prof<=7/\0<=a.miles/\a.miles<=10000/\a.src≠a.dst))/\ ∀j,j<k-> ¬WX a (nth n.arcs j))/\Vg a.travel)/\a.slow.length<=16)/\ ∀j,j<q.1->Ad a.slow j) (4+lt.length+q.1) q.2) (fun q=>a.slow.length-q.1) (0,m) ⟨Zb,hm.to Zb Zb⟩ (Weak.mk ?_) ?_
         ·simp (disch:=omega) only [Z4,Vk,go_sem,seval]
         ·clear hm;rintro ⟨j,m⟩ ⟨hj,hm⟩;simp only at hj hm;have hml:=hm.len;refine BW ?_;refine cD ?_ ?_<;>intro h<;>simp (disch:=omega) only [Sh.out h,go_sem,seval,↓reduceIte]
          ·have hj2:j<a.slow.length:=Za
           refine Xd (Zd ?_);refine Zo (OH (nth a.slow j).t) (Zd ?_);have hslo:Ad a.slow j↔(Mp (nth a.slow j).t=true/\Mp (nth a.slow j).a=true/\(0<j->(nth a.slow (j-1)).t<(nth a.slow j).t)):=Iff.rfl;have hyes: ¬Ad a.slow j->_:=fun hs=>(hm.yes (x:=(2,at')) hs (by grind [pF])).to (D:=(((((0<=a.src/\a.src<n.places.length/\0<=a.dst/\a.dst<n.places.length)/\(0<=a.prof/\a.prof<=7/\0<=a.miles/\a.miles<=10000/\a.src≠a.dst))/\ ∀j,j<k-> ¬WX a (nth n.arcs j))/\Vg a.travel)/\a.slow.length<=16)/\ ∀i,i<j+1->Ad a.slow i) (d:=4+lt.length+(j+1)) Za (by grind)
           have hno:Ad a.slow j->_:=fun hs=>(hm.no hs).to (D:=(((((0<=a.src/\a.src<n.places.length/\0<=a.dst/\a.dst<n.places.length)/\(0<=a.prof/\a.prof<=7/\0<=a.miles/\a.miles<=10000/\a.src≠a.dst))/\ ∀j,j<k-> ¬WX a (nth n.arcs j))/\Vg a.travel)/\a.slow.length<=16)/\ ∀i,i<j+1->Ad a.slow i) (d:=4+lt.length+(j+1)) Za (by grind)
           cases ht1:Mp (nth a.slow j).t with
           | false =>
            refine Zd ?_;exact ⟨(j+1,m++ [(2,at')]),⟨Za,hyes (by grind)⟩,Za,wk⟩
           | true =>
            refine Zd ?_;refine Zo (OH (nth a.slow j).a) (Zd ?_)
            cases ht2:Mp (nth a.slow j).a with
            | false =>
             refine Zd ?_;exact ⟨(j+1,m++ [(2,at')]),⟨Za,hyes (by grind)⟩,Za,wk⟩
            | true =>
             refine Zd ?_
             repeat' (first | (refine gT ?_ ?_<;>intro hq<;>simp (disch:=omega) only [Sh.out hq,go_sem,seval]) | (refine Qg (fun hq=> ?_) (fun hq=> ?_)<;>(try simp only [Zq,Yd,Z7] at hq)<;>simp (disch:=omega) only [Sh.out hq,go_sem,seval]) | (refine cD ?_ ?_<;>intro hq<;>simp (disch:=omega) only [Sh.out hq,go_sem,seval]))
             ·exact ⟨(j+1,m++ [(2,at')]),⟨Za,hyes (by grind)⟩,Za,wk⟩
             ·exact ⟨(j+1,m),⟨Za,hno (by grind)⟩,Za,wk⟩
             ·exact ⟨(j+1,m),⟨Za,hno (by grind)⟩,Za,wk⟩
          ·have hjn:j=a.slow.length:=Za
           subst hjn;exact ⟨m,hm.to Za (by rw [ML,hga]),2,by simp (disch:=omega) only [go_sem,seval]⟩
theorem Zt {α:Type} [Inhabited α] {l:List α} {i:Nat} (h:i<l.length):nth l i∈l:=by grind [Zi]
theorem ZaA (n:Net) (hw:n.wf 1048576):ACalls Tryz.prog 38 [.p (Bg n)] [] fun x H'=> ∃m:List Flt,FR (pF 26) (netOk n) 4194306000000 m/\x= .sl 0 0 m.length m.length/\H'= [.elems 2 (m.map eF)]:=by
 obtain ⟨w1,w2,w3,w4⟩:=hw;refine ZJ [2] Tryz.func38 rfl Zjn ?_;simp (disch:=omega) only [Tryz.f38,go_sem,seval];refine (Py n w1 w2).useE fun m hm=>Zd ?_;have hml:=hm.len;refine ZN [1] (fun m:List Flt=> [(3,.sl 1 0 m.length m.length)]) (fun m=>Z4 n++ [.elems 2 (m.map eF)]) (fun m=>FR (pF 26) (K6 n/\n.arcs.length<=1024) (n.places.length+2) m) ?_ ?_
 ·refine Zd ?_;refine Z1 ?_ ?_<;>intro h
  ·exact ⟨m++ [(4,[97,114,99,115])],hm.yes Za (by simp [pF]),Weak.mk (by simp (disch:=omega) only [Z4,go_sem,seval])⟩
  ·exact ⟨m,hm.no Za,Weak.mk (by simp (disch:=omega) only [Z4,go_sem,seval])⟩
 ·clear hm hml;intro m hm;refine Zh [] _ _ _ _ (Af ?_);refine Zl [1] (fun q:Nat×List Flt=> [(3,.sl 1 0 q.2.length q.2.length),(4,.p (.int .i64 q.1))]) (fun q=>Z4 n++ [.elems 2 (q.2.map eF)]) (fun q=>q.1<=n.arcs.length/\FR (pF 26) ((K6 n/\n.arcs.length<=1024)/\ ∀j,j<q.1->ML n j) (n.places.length+2+q.1*4000000) q.2) (fun q=>n.arcs.length-q.1) (0,m) ⟨Zb,hm.to Zb Zb⟩ (Weak.mk ?_) ?_
  ·simp (disch:=omega) only [Z4,go_sem,seval]
  ·clear hm;rintro ⟨k,m⟩ ⟨hk,hm⟩;simp only at hk hm;have hml:=hm.len;refine Af ?_;refine cD ?_ ?_<;>intro h<;>simp (disch:=omega) only [Sh.out h,go_sem,seval,↓reduceIte]
   ·have hk2:k<n.arcs.length:=Za
    have ha:=w4 _ (Zt hk2);refine (sG n k hk2 w1 w3 ha.2.2.2.2.1 ha.2.2.2.2.2.2.1).useE fun f hf=>Zd ?_;have hfl:=hf.len
    have q1:(m.length+f.length)*24<=140737488355328:=Za
    have q2:m.length+f.length<=140737488355328:=Za
    simp (disch:=omega) only [q1,q2,go_sem,seval];refine ⟨(k+1,m++f),⟨Za,(hm.app hf).to Za (by grind)⟩,Za,Weak.mk ?_⟩;simp (disch:=omega) only [ZA,XC,go_sem,seval]
   ·have hkn:k=n.arcs.length:=Za
    subst hkn;exact ⟨m,hm.to Za (by rw [netOk]),1,by simp (disch:=omega) only [go_sem,seval]⟩
theorem VL (n lo hi:Int):PC 72 [.p (.int .i64 n),.p (.int .i64 lo),.p (.int .i64 hi)] (.bool (rng n lo hi)):=by
 refine Zc Tryz.func72 rfl ZjR ?_;simp (disch:=omega) only [Tryz.f72,go_sem,seval];refine gT ?_ ?_<;>intro h<;>simp (disch:=omega) only [Sh.out h,go_sem,seval,↓reduceIte]
 all_goals (simp [rng];first | done | omega | (rw [Wx];simp;omega))
def VH (l:List Int) (d:Int):Bool:=rng l.length 1 3&&decide ((l.length:Int)=d)&&l.all fun n=>rng n 0 1000
theorem Pu (l:List Int) (c:Bool) (d:Int) (hl:l.length<=1048576):PC 99 [.p (.list c (l.map eI)),.p (.int .i64 d)] (.bool (VH l d)):=by
 refine Zc Tryz.func99 rfl Zke ?_;simp (disch:=omega) only [Tryz.f99,go_sem,seval];refine (VL l.length 1 3).use (Zd ?_);refine gF ?_ ?_<;>intro h<;>simp (disch:=omega) only [Sh.out h,go_sem,seval,↓reduceIte]
 ·grind [VH]
 ·simp only [XR] at h;refine cD ?_ ?_<;>intro h2<;>simp (disch:=omega) only [Sh.out h2,go_sem,seval]
  ·simp [VH,h,h2]
  ·simp only [Z7] at h2;subst h2;refine Zl [0] (fun k:Nat=> [(5,.p (.int .i64 k))]) (fun _=> []) (fun k=>k<=l.length/\ ∀j,j<k->rng (nth l j) 0 1000=true) (fun k=>l.length-k) 0 Zb (Weak.mk ?_) ?_
   ·simp (disch:=omega) only [go_sem,seval,↓reduceIte]
   ·rintro k ⟨hk,hno⟩;refine Zd ?_;refine cD ?_ ?_<;>intro h3<;>simp (disch:=omega) only [Sh.out h3,go_sem,seval,↓reduceIte]
    ·have hk2:k<l.length:=Za
     refine (VL (nth l k) 0 1000).use (Zd ?_);refine cD ?_ ?_<;>intro h4<;>simp (disch:=omega) only [Sh.out h4,go_sem,seval,↓reduceIte]
     ·grind [Zt,VH]
     ·simp only [XR] at h4;exact ⟨k+1,⟨Za,Zr.2 ⟨hno,h4⟩⟩,Za,wk⟩
    ·have:l.all (fun n=>rng n 0 1000)=true:=by
      rw [Zz];intro x hx;obtain ⟨j,hj,rfl⟩:=ZS.1 hx
      grind [Zi]
     grind [VH]
def PU (l:List Typ) (i:Nat) (s:List UInt8):Bool:=(List.range i).any fun j=>decide ((nth l j).name=s)
theorem U2 {l:List Typ} {i:Nat} {s:List UInt8} :PU l i s=false↔ ∀j,j<i->(nth l j).name≠s:=by
 grind [PU]
theorem bF (l:List Typ) (c:Bool) (i:Nat) (s:List UInt8) (hi:i<=l.length) (hl:l.length<=1048576):PC 98 [.p (.list c (l.map X4)),.p (.int .i64 (i:Nat)),.p (.str s)] (.bool (PU l i s)):=by
 refine Zc Tryz.func98 rfl Zkd ?_;simp (disch:=omega) only [Tryz.f98,go_sem,seval];refine Zl [0,1,2] (fun k:Nat=> [(7,.p (.int .i64 k))]) (fun _=> []) (fun k=>k<=i/\ ∀j,j<k->(nth l j).name≠s) (fun k=>i-k) 0 Zb (Weak.mk ?_) ?_
 ·simp (disch:=omega) only [go_sem,seval,↓reduceIte]
 ·rintro k ⟨hk,hno⟩;refine Zd ?_;refine cD ?_ ?_<;>intro h3<;>simp (disch:=omega) only [Sh.out h3,go_sem,seval,↓reduceIte]
  ·have hk2:k<l.length:=Za
   refine cD ?_ ?_<;>intro h4<;>simp (disch:=omega) only [Sh.out h4,go_sem,seval,↓reduceIte]
   ·grind [U2]
   ·exact ⟨k+1,⟨Za,Zr.2 ⟨hno,h4⟩⟩,Za,wk⟩
  grind [U2]
def dimsOf (l:List Typ):Int:=if l.length=0 then 0 else ((nth l 0).cap.length:Int)
theorem M8 (l:List Typ) (c:Bool) (hl:l.length<=1048576):PC 41 [.p (.list c (l.map X4))] (.int .i64 (dimsOf l)):=by
 refine Zc Tryz.func41 rfl Zjq ?_;simp (disch:=omega) only [Tryz.f41,go_sem,seval];refine cD ?_ ?_<;>intro h<;>simp (disch:=omega) only [Sh.out h,go_sem,seval,↓reduceIte]
 ·grind [dimsOf]
 ·have h0:0<l.length:=Za
  have h1:l.length≠0:=Za
  simp (disch:=first | omega | (simp only [ZF,ZH,ZA,ZG,Xi,XL]<;>omega)) only [dimsOf,h1,go_sem,seval,↓reduceIte]
def X9 (t:Typ):AM.Obj:= .cells [.p (.str t.name),.p (.int .i64 t.count),.p (.int .i64 t.src),.p (.int .i64 t.dst),.p (.list t.cap_c (t.cap.map eI)),.p (.int .i64 t.skills),.p (.int .i64 t.prof),.p (.int .i64 t.opn),.p (.int .i64 t.cls),.p (.int .i64 t.drive),.p (.int .i64 t.rest),.p (.int .i64 t.fixed),.p (.int .i64 t.perMile),.p (.int .i64 t.perTick)]
def Ux (n:Net) (l:List Typ) (i:Nat):Prop:=((((((((nameOk (nth l i).name=true)/\(∀j,j<i->(nth l j).name≠(nth l i).name))/\rng (nth l i).count 0 10=true)/\(rng (nth l i).src 0 (n.places.length-1)=true/\rng (nth l i).dst 0 (n.places.length-1)=true))/\VH (nth l i).cap (dimsOf l)=true)/\rng (nth l i).skills 0 1073741823=true)/\(rng (nth l i).opn 0 (nth l i).cls=true/\(nth l i).cls<=4096))/\(rng (nth l i).drive 1 4096=true/\rng (nth l i).rest 0 4096=true))/\(rng (nth l i).prof 0 7=true/\rng (nth l i).fixed 0 100000=true/\rng (nth l i).perMile 0 100=true/\rng (nth l i).perTick 0 100=true)
theorem Dj {P Q:Prop} (h:Q) (e:Q->P:=by intro h;simp (disch:=omega) only [Z4,X9,go_sem,seval];exact h):P:=e h
theorem dH (n:Net) (l:List Typ) (c:Bool) (i:Nat) (hi:i<l.length) (hl:l.length<=1048576) (hw:n.wf 1048576) (ht:(nth l i).wf 1048576) :
  ACalls Tryz.prog 73 [.p (Bg n),.p (.list c (l.map X4)),.p (.int .i64 (i:Nat))] [] fun x H'=> ∃m:List Int,FR (fun _=>True) (Ux n l i) 9 m/\x= .sl 0 0 m.length m.length/\H'= [.elems 1 (m.map eI)]:=by
 obtain ⟨w1,w2,w3,w4⟩:=hw;refine ZJ [3] Tryz.func73 rfl ZjS ?_;simp (disch:=omega) only [Tryz.f73,go_sem,seval];have hty:Ux n l i↔((((((((nameOk (nth l i).name=true)/\(∀j,j<i->(nth l j).name≠(nth l i).name))/\rng (nth l i).count 0 10=true)/\(rng (nth l i).src 0 (n.places.length-1)=true/\rng (nth l i).dst 0 (n.places.length-1)=true))/\VH (nth l i).cap (dimsOf l)=true)/\rng (nth l i).skills 0 1073741823=true)/\(rng (nth l i).opn 0 (nth l i).cls=true/\(nth l i).cls<=4096))/\(rng (nth l i).drive 1 4096=true/\rng (nth l i).rest 0 4096=true))/\(rng (nth l i).prof 0 7=true/\rng (nth l i).fixed 0 100000=true/\rng (nth l i).perMile 0 100=true/\rng (nth l i).perTick 0 100=true):=Iff.rfl
 generalize hga:nth l i=t at ht hty ⊢;have hname:=ht.1;have hcap:=ht.2.2.2.2.1;refine Zp (Weak.ofNil 8 1 (by simp (disch:=omega) only [go_sem,seval]) Zb (Weak.refl _ _ _)) ?_;refine ZN [1,2,3,7] (fun m:List Int=> [(8,.sl 2 0 m.length m.length)]) (fun m=>Z4 n++ [X9 t,.elems 1 (m.map eI)]) (fun m=>FR (fun _=>True) (nameOk t.name=true) 1 m) ?_ ?_
 ·refine Zd ?_;refine (P2 t.name hname).use (Zd ?_);refine Z1 ?_ ?_<;>intro h0
  ·simp only [XS] at h0;exact ⟨[5],⟨Zb,by simp [h0],Zb⟩,Weak.mk (by simp (disch:=omega) only [Z4,X9,go_sem,seval])⟩
  ·simp only [XR] at h0;exact ⟨[],FR.nil (by simp [h0]),Weak.mk (by simp (disch:=omega) only [Z4,X9,go_sem,seval])⟩
 ·skip
  intro m hm;refine Zh [5] _ _ _ _ (Dj ?_);have hml:=hm.len;refine ZN [1,3,7] (fun m:List Int=> [(8,.sl 2 0 m.length m.length)]) (fun m=>Z4 n++ [X9 t,.elems 1 (m.map eI)]) (fun m=>FR (fun _=>True) ((nameOk t.name=true)/\(∀j,j<i->(nth l j).name≠t.name)) 2 m) ?_ ?_
  ·refine Zd ?_;refine (bF l c i t.name Za hl).use (Zd ?_);refine Z1 ?_ ?_<;>intro h
   ·exact ⟨m++ [6],hm.yes (by grind [U2]) trivial,Weak.mk (by simp (disch:=omega) only [Z4,X9,go_sem,seval])⟩
   ·exact ⟨m,hm.no (by exact U2.1 h),Weak.mk (by simp (disch:=omega) only [Z4,X9,go_sem,seval])⟩
  ·clear hm hml;intro m hm;refine Zh [7] _ _ _ _ (Dj ?_);have hml:=hm.len;refine ZN [1,3,7] (fun m:List Int=> [(8,.sl 2 0 m.length m.length)]) (fun m=>Z4 n++ [X9 t,.elems 1 (m.map eI)]) (fun m=>FR (fun _=>True) (((nameOk t.name=true)/\(∀j,j<i->(nth l j).name≠t.name))/\rng t.count 0 10=true) 3 m) ?_ ?_
   ·refine Zd ?_;refine (VL t.count 0 10).use (Zd ?_);refine Z1 ?_ ?_<;>intro h0
    ·simp only [XS] at h0;exact ⟨m++ [22],hm.yes (by simp [h0]) trivial,Weak.mk (by simp (disch:=omega) only [Z4,X9,go_sem,seval])⟩
    ·simp only [XR] at h0;exact ⟨m,hm.no (by simp [h0]),Weak.mk (by simp (disch:=omega) only [Z4,X9,go_sem,seval])⟩
   ·clear hm hml;intro m hm;refine Zh [9] _ _ _ _ (Dj ?_);have hml:=hm.len;refine ZN [1,7] (fun m:List Int=> [(8,.sl 2 0 m.length m.length)]) (fun m=>Z4 n++ [X9 t,.elems 1 (m.map eI)]) (fun m=>FR (fun _=>True) ((((nameOk t.name=true)/\(∀j,j<i->(nth l j).name≠t.name))/\rng t.count 0 10=true)/\(rng t.src 0 (n.places.length-1)=true/\rng t.dst 0 (n.places.length-1)=true)) 4 m) ?_ ?_
    ·refine Zd ?_;refine (VL t.src 0 (n.places.length-1)).use (Zd ?_);refine Ll ?_ ?_<;>intro h0
     ·simp only [XS] at h0;exact ⟨m++ [11],hm.yes (by simp [h0]) trivial,Weak.mk (by simp (disch:=omega) only [Z4,X9,go_sem,seval])⟩
     ·simp only [XR] at h0;refine (VL t.dst 0 (n.places.length-1)).use (Zd ?_);refine Z1 ?_ ?_<;>intro h1
      ·simp only [XS] at h1;exact ⟨m++ [11],hm.yes (by simp [h1]) trivial,Weak.mk (by simp (disch:=omega) only [Z4,X9,go_sem,seval])⟩
      ·simp only [XR] at h1;exact ⟨m,hm.no (by simp [h0,h1]),Weak.mk (by simp (disch:=omega) only [Z4,X9,go_sem,seval])⟩
    ·clear hm hml;intro m hm;refine Zh [11] _ _ _ _ (Dj ?_);have hml:=hm.len;refine ZN [7] (fun m:List Int=> [(8,.sl 2 0 m.length m.length)]) (fun m=>Z4 n++ [X9 t,.elems 1 (m.map eI)]) (fun m=>FR (fun _=>True) (((((nameOk t.name=true)/\(∀j,j<i->(nth l j).name≠t.name))/\rng t.count 0 10=true)/\(rng t.src 0 (n.places.length-1)=true/\rng t.dst 0 (n.places.length-1)=true))/\VH t.cap (dimsOf l)=true) 5 m) ?_ ?_
     ·refine Zd ?_;refine Xd (Zd ?_);refine Zo (M8 l c hl) (Zd ?_);refine Zo (Pu t.cap t.cap_c (dimsOf l) hcap) (Zd ?_);refine Z1 ?_ ?_<;>intro h
      ·simp only [XS] at h;exact ⟨m++ [17],hm.yes (by simp [h]) trivial,Weak.mk (by simp (disch:=omega) only [Z4,X9,go_sem,seval])⟩
      ·simp only [XR] at h;exact ⟨m,hm.no (by simp [h]),Weak.mk (by simp (disch:=omega) only [Z4,X9,go_sem,seval])⟩
     ·clear hm hml;intro m hm;refine Zh [13] _ _ _ _ (Dj ?_);have hml:=hm.len;refine ZN [7] (fun m:List Int=> [(8,.sl 2 0 m.length m.length)]) (fun m=>Z4 n++ [X9 t,.elems 1 (m.map eI)]) (fun m=>FR (fun _=>True) ((((((nameOk t.name=true)/\(∀j,j<i->(nth l j).name≠t.name))/\rng t.count 0 10=true)/\(rng t.src 0 (n.places.length-1)=true/\rng t.dst 0 (n.places.length-1)=true))/\VH t.cap (dimsOf l)=true)/\rng t.skills 0 1073741823=true) 6 m) ?_ ?_
      ·refine Zd ?_;refine (VL t.skills 0 1073741823).use (Zd ?_);refine Z1 ?_ ?_<;>intro h0
       ·simp only [XS] at h0;exact ⟨m++ [18],hm.yes (by simp [h0]) trivial,Weak.mk (by simp (disch:=omega) only [Z4,X9,go_sem,seval])⟩
       ·simp only [XR] at h0;exact ⟨m,hm.no (by simp [h0]),Weak.mk (by simp (disch:=omega) only [Z4,X9,go_sem,seval])⟩
      ·clear hm hml;intro m hm;refine Zh [15] _ _ _ _ (Dj ?_);have hml:=hm.len;refine ZN [7] (fun m:List Int=> [(8,.sl 2 0 m.length m.length)]) (fun m=>Z4 n++ [X9 t,.elems 1 (m.map eI)]) (fun m=>FR (fun _=>True) (((((((nameOk t.name=true)/\(∀j,j<i->(nth l j).name≠t.name))/\rng t.count 0 10=true)/\(rng t.src 0 (n.places.length-1)=true/\rng t.dst 0 (n.places.length-1)=true))/\VH t.cap (dimsOf l)=true)/\rng t.skills 0 1073741823=true)/\(rng t.opn 0 t.cls=true/\t.cls<=4096)) 7 m) ?_ ?_
       ·refine Zd ?_;refine (VL t.opn 0 t.cls).use (Zd ?_);refine Ll ?_ ?_<;>intro h0
        ·simp only [XS] at h0;exact ⟨m++ [15],hm.yes (by simp [h0]) trivial,Weak.mk (by simp (disch:=omega) only [Z4,X9,go_sem,seval])⟩
        ·simp only [XR] at h0;refine Z1 ?_ ?_<;>intro h1
         ·exact ⟨m++ [15],hm.yes Za trivial,Weak.mk (by simp (disch:=omega) only [Z4,X9,go_sem,seval])⟩
         ·exact ⟨m,hm.no (by grind),Weak.mk (by simp (disch:=omega) only [Z4,X9,go_sem,seval])⟩
       ·clear hm hml;intro m hm;refine Zh [17] _ _ _ _ (Dj ?_);have hml:=hm.len;refine ZN [7] (fun m:List Int=> [(8,.sl 2 0 m.length m.length)]) (fun m=>Z4 n++ [X9 t,.elems 1 (m.map eI)]) (fun m=>FR (fun _=>True) ((((((((nameOk t.name=true)/\(∀j,j<i->(nth l j).name≠t.name))/\rng t.count 0 10=true)/\(rng t.src 0 (n.places.length-1)=true/\rng t.dst 0 (n.places.length-1)=true))/\VH t.cap (dimsOf l)=true)/\rng t.skills 0 1073741823=true)/\(rng t.opn 0 t.cls=true/\t.cls<=4096))/\(rng t.drive 1 4096=true/\rng t.rest 0 4096=true)) 8 m) ?_ ?_
        ·refine Zd ?_;refine (VL t.drive 1 4096).use (Zd ?_);refine Ll ?_ ?_<;>intro h0
         ·simp only [XS] at h0;exact ⟨m++ [16],hm.yes (by simp [h0]) trivial,Weak.mk (by simp (disch:=omega) only [Z4,X9,go_sem,seval])⟩
         ·simp only [XR] at h0;refine (VL t.rest 0 4096).use (Zd ?_);refine Z1 ?_ ?_<;>intro h1
          ·simp only [XS] at h1;exact ⟨m++ [16],hm.yes (by simp [h1]) trivial,Weak.mk (by simp (disch:=omega) only [Z4,X9,go_sem,seval])⟩
          ·simp only [XR] at h1;exact ⟨m,hm.no (by simp [h0,h1]),Weak.mk (by simp (disch:=omega) only [Z4,X9,go_sem,seval])⟩
        ·clear hm hml;intro m hm;refine Zh [19] _ _ _ _ (Dj ?_);have hml:=hm.len;refine ZN [] (fun m:List Int=> [(8,.sl 2 0 m.length m.length)]) (fun m=>Z4 n++ [X9 t,.elems 1 (m.map eI)]) (fun m=>FR (fun _=>True) (((((((((nameOk t.name=true)/\(∀j,j<i->(nth l j).name≠t.name))/\rng t.count 0 10=true)/\(rng t.src 0 (n.places.length-1)=true/\rng t.dst 0 (n.places.length-1)=true))/\VH t.cap (dimsOf l)=true)/\rng t.skills 0 1073741823=true)/\(rng t.opn 0 t.cls=true/\t.cls<=4096))/\(rng t.drive 1 4096=true/\rng t.rest 0 4096=true))/\(rng t.prof 0 7=true/\rng t.fixed 0 100000=true/\rng t.perMile 0 100=true/\rng t.perTick 0 100=true)) 9 m) ?_ ?_
         ·refine Zd ?_;refine (VL t.prof 0 7).use (Zd ?_);refine gF ?_ ?_<;>intro h0<;>simp (disch:=omega) only [Sh.out h0,go_sem,seval,↓reduceIte]
          ·simp only [XS] at h0;exact ⟨m++ [2],hm.yes (by simp [h0]) trivial,Weak.mk (by simp (disch:=omega) only [Z4,X9,go_sem,seval])⟩
          ·simp only [XR] at h0;refine (VL t.fixed 0 100000).use (Zd ?_);refine gF ?_ ?_<;>intro h1<;>simp (disch:=omega) only [Sh.out h1,go_sem,seval,↓reduceIte]
           ·simp only [XS] at h1;exact ⟨m++ [2],hm.yes (by simp [h1]) trivial,Weak.mk (by simp (disch:=omega) only [Z4,X9,go_sem,seval])⟩
           ·simp only [XR] at h1;refine (VL t.perMile 0 100).use (Zd ?_);refine gF ?_ ?_<;>intro h2<;>simp (disch:=omega) only [Sh.out h2,go_sem,seval,↓reduceIte]
            ·simp only [XS] at h2;exact ⟨m++ [2],hm.yes (by simp [h2]) trivial,Weak.mk (by simp (disch:=omega) only [Z4,X9,go_sem,seval])⟩
            ·simp only [XR] at h2;refine (VL t.perTick 0 100).use (Zd ?_);refine cD ?_ ?_<;>intro h3<;>simp (disch:=omega) only [Sh.out h3,go_sem,seval,↓reduceIte]
             ·simp only [XS] at h3;exact ⟨m++ [2],hm.yes (by simp [h3]) trivial,Weak.mk (by simp (disch:=omega) only [Z4,X9,go_sem,seval])⟩
             ·simp only [XR] at h3;exact ⟨m,hm.no (by grind),Weak.mk (by simp (disch:=omega) only [Z4,X9,go_sem,seval])⟩
         ·clear hm hml;intro m hm;refine Zh [] _ _ _ _ (Dj ?_);have hml:=hm.len;exact ⟨m,hm.to Za (by rw [hty]),2,by simp (disch:=omega) only [go_sem,seval]⟩
def typesOk (n:Net) (l:List Typ):Prop:=rng l.length 1 6=true/\ ∀i,i<l.length->Ux n l i
theorem ZaB (n:Net) (l:List Typ) (c:Bool) (hw:n.wf 1048576) (hl:l.length<=1048576) (hlw: ∀t∈l,t.wf 1048576) :
  ACalls Tryz.prog 39 [.p (Bg n),.p (.list c (l.map X4))] [] fun x H'=> ∃m:List Flt,FR (pF 20) (typesOk n l) (1+9*l.length) m/\x= .sl 0 0 m.length m.length/\H'= [.elems 2 (m.map eF)]:=by
 refine ZJ [2] Tryz.func39 rfl Zjo ?_;simp (disch:=omega) only [Tryz.f39,go_sem,seval];refine Zp (Weak.ofNil 5 2 (by simp (disch:=omega) only [go_sem,seval]) Zb (Weak.refl _ _ _)) ?_;refine ZN [1,2] (fun m:List Flt=> [(5,.sl 1 0 m.length m.length)]) (fun m=>Z4 n++ [.elems 2 (m.map eF)]) (fun m=>FR (pF 20) (rng l.length 1 6=true) 1 m) ?_ ?_
 ·refine Zd ?_;refine (VL l.length 1 6).use (Zd ?_);refine Z1 ?_ ?_<;>intro h
  ·simp only [XS] at h;exact ⟨[(4,[])],⟨Zb,by simp [h],by simp [pF]⟩,Weak.mk (by simp (disch:=omega) only [Z4,go_sem,seval])⟩
  ·simp only [XR] at h;exact ⟨[],FR.nil h,Weak.mk (by simp (disch:=omega) only [Z4,go_sem,seval])⟩
 ·intro m hm;refine Zh [] _ _ _ _ (Af ?_);refine Zl [1,2] (fun q:Nat×List Flt=> [(5,.sl 1 0 q.2.length q.2.length),(6,.p (.int .i64 q.1))]) (fun q=>Z4 n++ [.elems 2 (q.2.map eF)]) (fun q=>q.1<=l.length/\FR (pF 20) (rng l.length 1 6=true/\ ∀j,j<q.1->Ux n l j) (1+9*q.1) q.2) (fun q=>l.length-q.1) (0,m) ⟨Zb,hm.to Zb Zb⟩ (Weak.mk ?_) ?_
  ·simp (disch:=omega) only [Z4,go_sem,seval]
  ·clear hm;rintro ⟨k,m⟩ ⟨hk,hm⟩;simp only at hk hm;have hml:=hm.len;refine Af ?_;refine cD ?_ ?_<;>intro h<;>simp (disch:=omega) only [Sh.out h,go_sem,seval,↓reduceIte]
   ·have hk2:k<l.length:=Za
    have hI:Qf (k:Int):=Za
    have hdl:=Js k hI;refine ((dH n l c k hk2 hl hw (hlw _ (Zt hk2))).frozenE).useV fun e he=>Zd ?_;have hel:=he.len;refine Zl [1,2,6,7] (fun q:Nat×List Flt=> [(5,.sl 1 0 q.2.length q.2.length),(8,.p (.int .i64 q.1))]) (fun q=>Z4 n++ [.elems 2 (q.2.map eF)]) (fun q=>q.1<=e.length/\FR (pF 20) ((rng l.length 1 6=true/\ ∀j,j<k->Ux n l j)/\q.1=0) (1+9*k+q.1) q.2) (fun q=>e.length-q.1) (0,m) ⟨Zb,hm.to Zb Zb⟩ (Weak.mk ?_) ?_
    ·simp (disch:=omega) only [Z4,go_sem,seval]
    ·clear hm hml;rintro ⟨j,m⟩ ⟨hj,hm⟩;simp only at hj hm;have hml:=hm.len;refine Af ?_;refine Z1 ?_ ?_<;>intro h2
     ·have hj2:j<e.length:=Za
      refine ZE 9 mixed Zf Zf (Zd ?_);refine Zo (Ap k hI) (Zd ?_);exact ⟨(j+1,m++ [(nth e j,Bf k)]),⟨Za,(hm.yes (c:=False) Zb (by grind [pF])).to Za Zb⟩,Za,wk⟩
     ·have hjl:j=e.length:=Za
      subst hjl;exact ⟨(k+1,m),⟨Za,hm.to Za (by simp only [Zr,QN];rw [<- he.emp,List.eq_nil_iff_length_eq_zero])⟩,Za,wk⟩
   ·have hkn:k=l.length:=Za
    subst hkn;exact ⟨m,hm.to Za (by rw [typesOk]),1,by simp (disch:=omega) only [go_sem,seval]⟩
theorem FY (n lo hi:Int):PC 101 [.p (.int .i64 n),.p (.int .i64 lo),.p (.int .i64 hi)] (.bool (rng n lo hi)):=by
 refine Zc Tryz.func101 rfl ZaW ?_;simp (disch:=omega) only [Tryz.f101,go_sem,seval];refine gT ?_ ?_<;>intro h<;>simp (disch:=omega) only [Sh.out h,go_sem,seval,↓reduceIte]
 all_goals (simp [rng];first | done | omega | (rw [Wx];simp;omega))
def loadOk (l:List Int) (d:Int):Bool:=decide ((l.length:Int)=d)&&l.all fun n=>rng n 0 1000
theorem cW (l:List Int) (c:Bool) (d:Int) (hl:l.length<=1048576):PC 100 [.p (.list c (l.map eI)),.p (.int .i64 d)] (.bool (loadOk l d)):=by
 refine Zc Tryz.func100 rfl ZaV ?_;simp (disch:=omega) only [Tryz.f100,go_sem,seval];refine cD ?_ ?_<;>intro h2<;>simp (disch:=omega) only [Sh.out h2,go_sem,seval]
 ·simp [loadOk,h2]
 ·simp only [Z7] at h2;subst h2;refine Zl [0] (fun k:Nat=> [(5,.p (.int .i64 k))]) (fun _=> []) (fun k=>k<=l.length/\ ∀j,j<k->rng (nth l j) 0 1000=true) (fun k=>l.length-k) 0 Zb (Weak.mk ?_) ?_
  ·simp (disch:=omega) only [go_sem,seval,↓reduceIte]
  ·rintro k ⟨hk,hno⟩;refine Zd ?_;refine cD ?_ ?_<;>intro h3<;>simp (disch:=omega) only [Sh.out h3,go_sem,seval,↓reduceIte]
   ·have hk2:k<l.length:=Za
    have hbad:rng (nth l k) 0 1000=false->loadOk l l.length=false:=fun h4=>by
     grind [Zt,loadOk]
    repeat' (first | (refine Uk (fun hq=> ?_) (fun hq=> ?_)<;>(try simp only [Zq,Yd,Z7] at hq)<;>simp (disch:=omega) only [Sh.out hq,go_sem,seval]) | (refine gF ?_ ?_<;>intro hq<;>simp (disch:=omega) only [Sh.out hq,go_sem,seval,↓reduceIte]) | (refine cD ?_ ?_<;>intro hq<;>simp (disch:=omega) only [Sh.out hq,go_sem,seval,↓reduceIte]))
    all_goals first
     | (rw [hbad (by simp [rng];omega)])
     | exact ⟨k+1,⟨Za,Zr.2 ⟨hno,by simp [rng];omega⟩⟩,Za,wk⟩
   ·have:l.all (fun n=>rng n 0 1000)=true:=by
     rw [Zz];intro x hx;obtain ⟨j,hj,rfl⟩:=ZS.1 hx
     grind [Zi]
    simp [loadOk,this]
def stpOk (s:Stp):Bool:=decide ((s.place= -1/\s.opn=0/\s.cls=0/\s.serv=0)\/(0<=s.place/\0<=s.opn/\s.opn<=s.cls/\s.cls<=4096/\0<=s.serv/\s.serv<=4096))
def dX (s:Stp):Int:=if stpOk s=true then 0 else 2
theorem iG (s:Stp):PC 102 [.p (FI s)] (.int .i64 (dX s)):=by
 refine Zc Tryz.func102 rfl ZaX ?_;simp (disch:=omega) only [Tryz.f102,go_sem,seval]
 repeat' (first | (refine gT ?_ ?_<;>intro hq<;>simp (disch:=omega) only [Sh.out hq,go_sem,seval,↓reduceIte]) | (refine gF ?_ ?_<;>intro hq<;>simp (disch:=omega) only [Sh.out hq,go_sem,seval,↓reduceIte]) | (refine cD ?_ ?_<;>intro hq<;>simp (disch:=omega) only [Sh.out hq,go_sem,seval,↓reduceIte]))
 all_goals (simp only [dX,stpOk,Zq])
 all_goals first
  | (exfalso;omega)
  | (rw [if_pos Za])
  | (rw [if_neg Za])
def Qr (l:List Ord) (i:Nat):Bool:=(List.range i).all fun j=>decide ((nth l j).name≠(nth l i).name)
theorem K1 {l:List Ord} {i:Nat} :Qr l i=true↔ ∀j,j<i->(nth l j).name≠(nth l i).name:=by simp [Qr]
def VC (b:Bool) (e:Int):List Int:=if b=true then [] else [e]
theorem U7 (b:Bool) (e:Int):(VC b e).length<=1:=by grind [VC]
theorem QT {b:Bool} {e:Int} {m p:List Int} (h:m=p) (hb:b=true):m=p++VC b e:=by simp [VC,hb,h]
theorem UO {b:Bool} {e:Int} {m p:List Int} (h:m=p) (hb:b=false):m++ [e]=p++VC b e:=by simp [VC,hb,h]
def YQ (t:Ord):AM.Obj:= .cells [.p (.str t.name),.p (.list t.load_c (t.load.map eI)),.p (.int .i64 t.pick.place),.p (.int .i64 t.pick.opn),.p (.int .i64 t.pick.cls),.p (.int .i64 t.pick.serv),.p (.int .i64 t.drp.place),.p (.int .i64 t.drp.opn),.p (.int .i64 t.drp.cls),.p (.int .i64 t.drp.serv),.p (.int .i64 t.skills),.p (.int .i64 t.penalty),.p (.int .i64 t.split),.p (.int .i64 t.last),.p (.int .i64 t.now),.p (.bool t.off)]
def Le (t:Ord):Bool:=decide (t.pick.place≠ -1)&&decide (t.drp.place≠ -1)
def argOk (t:Ord) (ty:Int):Bool:=rng t.penalty (-1) 1000000&&rng t.split 1 4&&decide (¬(1<t.split/\Le t=true)/\ -1<=t.last/\t.last<ty/\ -1<=t.now/\t.now<ty)
def Wq (np:Nat) (d ty:Int) (l:List Ord) (i:Nat):List Int:=VC (nameOk (nth l i).name) 5++VC (Qr l i) 6++VC (loadOk (nth l i).load d) 17++VC ((rng (nth l i).pick.place (-1) ((np:Int)-1)&&rng (nth l i).drp.place (-1) ((np:Int)-1))) 11++VC (decide (¬((nth l i).pick.place= -1/\(nth l i).drp.place= -1))) 19++VC ((stpOk (nth l i).pick&&stpOk (nth l i).drp)) 14++VC (rng (nth l i).skills 0 1073741823) 18++VC (argOk (nth l i) ty) 2
theorem CV (np:Nat) (d ty:Int) (l:List Ord) (i:Nat):(Wq np d ty l i).length<=8:=by
 grind [U7,Wq,ZA]
theorem Br {P Q:Prop} (h:Q) (e:Q->P:=by intro h;simp (disch:=omega) only [YQ,go_sem,seval];exact h):P:=e h
theorem dI (np:Nat) (d ty:Int) (l:List Ord) (c:Bool) (i:Nat) (hi:i<l.length) (hl:l.length<=1048576) (hnp:np<=1048576) (ht:(nth l i).wf 1048576) :
  ACalls Tryz.prog 75 [.p (.int .i64 (np:Nat)),.p (.int .i64 d),.p (.int .i64 ty),.p (.list c (l.map Yj)),.p (.int .i64 (i:Nat))] [] fun x H'=>x= .sl 0 0 (Wq np d ty l i).length (Wq np d ty l i).length/\H'= [.elems 1 ((Wq np d ty l i).map eI)]:=by
 suffices hh:ACalls Tryz.prog 75 [.p (.int .i64 (np:Nat)),.p (.int .i64 d),.p (.int .i64 ty),.p (.list c (l.map Yj)),.p (.int .i64 (i:Nat))] [] fun x H'=> ∃m:List Int,m=Wq np d ty l i/\x= .sl 0 0 m.length m.length/\H'= [.elems 1 (m.map eI)] by
  grind
 refine ZJ [3] Tryz.func75 rfl ZjU ?_;simp (disch:=omega) only [Tryz.f75,go_sem,seval];have hty:Wq np d ty l i=VC (nameOk (nth l i).name) 5++VC (Qr l i) 6++VC (loadOk (nth l i).load d) 17++VC ((rng (nth l i).pick.place (-1) ((np:Int)-1)&&rng (nth l i).drp.place (-1) ((np:Int)-1))) 11++VC (decide (¬((nth l i).pick.place= -1/\(nth l i).drp.place= -1))) 19++VC ((stpOk (nth l i).pick&&stpOk (nth l i).drp)) 14++VC (rng (nth l i).skills 0 1073741823) 18++VC (argOk (nth l i) ty) 2:=rfl
 have hleng: ∀m:List Int,∀p:List Int,m=p->p.length<=8->m.length<=8:=fun m p h1 h2=>by grind
 generalize hga:nth l i=t at ht hty ⊢;have hname:=ht.1;have hload:=ht.2.1;refine Zp (Weak.ofNil 11 1 (by simp (disch:=omega) only [go_sem,seval]) Zb (Weak.refl _ _ _)) ?_;refine ZN [0,1,2,3,4,12] (fun m:List Int=> [(11,.sl 1 0 m.length m.length)]) (fun m=> [YQ t,.elems 1 (m.map eI)]) (fun m=>m=VC (nameOk t.name) 5) ?_ ?_
 ·refine Zd ?_;refine (P2 t.name hname).use (Zd ?_);refine cD ?_ ?_<;>intro h<;>simp (disch:=omega) only [Sh.out h,go_sem,seval,↓reduceIte]
  ·simp only [XS] at h;exact ⟨[5],by simp [VC,h],Weak.mk (by simp (disch:=omega) only [YQ,go_sem,seval])⟩
  ·simp only [XR] at h;exact ⟨[],by simp [VC,h],Weak.mk (by simp (disch:=omega) only [YQ,go_sem,seval])⟩
 ·skip
  intro m hm;refine Zh [5] _ _ _ _ (Br ?_)
  have hml:m.length<=8:=by
   grind [U7]
  refine ZN [0,1,2,12] (fun m:List Int=> [(11,.sl 1 0 m.length m.length)]) (fun m=> [YQ t,.elems 1 (m.map eI)]) (fun m=>m=VC (nameOk t.name) 5++VC (Qr l i) 6) ?_ ?_
  ·refine Zd ?_;refine Zl [0,1,2,3,4,11,12] (fun k:Nat=> [(13,.p (.int .i64 k))]) (fun _=> [YQ t,.elems 1 (m.map eI)]) (fun k=>k<=i/\ ∀j,j<k->(nth l j).name≠(nth l i).name) (fun k=>i-k) 0 Zb (Weak.mk ?_) ?_
   ·simp (disch:=omega) only [YQ,go_sem,seval,↓reduceIte]
   ·rintro k ⟨hk,hno⟩;refine Br ?_;refine cD ?_ ?_<;>intro h3<;>simp (disch:=omega) only [Sh.out h3,go_sem,seval,↓reduceIte]
    ·have hk2:k<l.length:=Za
     refine Xd (Zd ?_);refine Z1 ?_ ?_<;>intro h4
     ·exact ⟨m++ [6],UO hm (by grind [K1]),wk⟩
     ·exact ⟨k+1,⟨Za,Zr.2 ⟨hno,by grind⟩⟩,Za,wk⟩
    ·have hki:k=i:=Za
     subst hki;exact ⟨m,QT hm (K1.2 hno),wk⟩
  ·clear hm hml;intro m hm;refine Zh [10] _ _ _ _ (Br ?_)
   have hml:m.length<=8:=by
    grind [U7]
   refine ZN [0,2,12] (fun m:List Int=> [(11,.sl 1 0 m.length m.length)]) (fun m=> [YQ t,.elems 1 (m.map eI)]) (fun m=>m=VC (nameOk t.name) 5++VC (Qr l i) 6++VC (loadOk t.load d) 17) ?_ ?_
   ·refine Zd ?_;refine (cW t.load t.load_c d hload).use (Zd ?_);refine cD ?_ ?_<;>intro h<;>simp (disch:=omega) only [Sh.out h,go_sem,seval,↓reduceIte]
    ·simp only [XS] at h;exact ⟨m++ [17],UO hm (h),Weak.mk (by simp (disch:=omega) only [YQ,go_sem,seval])⟩
    ·simp only [XR] at h;exact ⟨m,QT hm (h),Weak.mk (by simp (disch:=omega) only [YQ,go_sem,seval])⟩
   ·clear hm hml;intro m hm;refine Zh [12] _ _ _ _ (Br ?_)
    have hml:m.length<=8:=by
     grind [ZA,U7]
    refine ZN [2,12] (fun m:List Int=> [(11,.sl 1 0 m.length m.length)]) (fun m=> [YQ t,.elems 1 (m.map eI)]) (fun m=>m=VC (nameOk t.name) 5++VC (Qr l i) 6++VC (loadOk t.load d) 17++VC ((rng t.pick.place (-1) ((np:Int)-1)&&rng t.drp.place (-1) ((np:Int)-1))) 11) ?_ ?_
    ·refine Zd ?_;refine (FY t.pick.place (-1) ((np:Int)-1)).use (Zd ?_);refine Ll ?_ ?_<;>intro h
     ·simp only [XS] at h;exact ⟨m++ [11],UO hm (by simp [h]),Weak.mk (by simp (disch:=omega) only [YQ,go_sem,seval])⟩
     ·simp only [XR] at h;refine (FY t.drp.place (-1) ((np:Int)-1)).use (Zd ?_);refine Z1 ?_ ?_<;>intro h2
      ·simp only [XS] at h2;exact ⟨m++ [11],UO hm (by simp [h2]),Weak.mk (by simp (disch:=omega) only [YQ,go_sem,seval])⟩
      ·simp only [XR] at h2;exact ⟨m,QT hm (by simp [h,h2]),Weak.mk (by simp (disch:=omega) only [YQ,go_sem,seval])⟩
    ·clear hm hml;intro m hm;refine Zh [14] _ _ _ _ (Br ?_)
     have hml:m.length<=8:=by
      grind [ZA,U7]
     refine ZN [2,12] (fun m:List Int=> [(11,.sl 1 0 m.length m.length)]) (fun m=> [YQ t,.elems 1 (m.map eI)]) (fun m=>m=VC (nameOk t.name) 5++VC (Qr l i) 6++VC (loadOk t.load d) 17++VC ((rng t.pick.place (-1) ((np:Int)-1)&&rng t.drp.place (-1) ((np:Int)-1))) 11++VC (decide (¬(t.pick.place= -1/\t.drp.place= -1))) 19) ?_ ?_
     ·refine Zd ?_
      repeat' (first | (refine gT ?_ ?_<;>intro hq<;>simp (disch:=omega) only [Sh.out hq,go_sem,seval]) | (refine Qg (fun hq=> ?_) (fun hq=> ?_)<;>(try simp only [Zq,Yd,Z7] at hq)<;>simp (disch:=omega) only [Sh.out hq,go_sem,seval]) | (refine cD ?_ ?_<;>intro hq<;>simp (disch:=omega) only [Sh.out hq,go_sem,seval]))
      all_goals first
       | exact ⟨m++ [19],UO hm (by first | (simp;done) | (simp;omega)),Weak.mk (by simp (disch:=omega) only [YQ,go_sem,seval])⟩
       | exact ⟨m,QT hm (by first | (simp;done) | (simp;omega)),Weak.mk (by simp (disch:=omega) only [YQ,go_sem,seval])⟩
     ·clear hm hml;intro m hm;refine Zh [16] _ _ _ _ (Br ?_)
      have hml:m.length<=8:=by
       grind [ZA,U7]
      refine ZN [2,12] (fun m:List Int=> [(11,.sl 1 0 m.length m.length)]) (fun m=> [YQ t,.elems 1 (m.map eI)]) (fun m=>m=VC (nameOk t.name) 5++VC (Qr l i) 6++VC (loadOk t.load d) 17++VC ((rng t.pick.place (-1) ((np:Int)-1)&&rng t.drp.place (-1) ((np:Int)-1))) 11++VC (decide (¬(t.pick.place= -1/\t.drp.place= -1))) 19++VC ((stpOk t.pick&&stpOk t.drp)) 14) ?_ ?_
      ·refine Zd ?_;refine (iG t.pick).use (Zd ?_)
       cases h:stpOk t.pick with
       | false =>
        simp (disch:=omega) only [dX,h,go_sem,seval];exact ⟨m++ [14],UO hm (by simp []),Weak.mk (by simp (disch:=omega) only [YQ,go_sem,seval])⟩
       | true =>
        simp (disch:=omega) only [dX,h,go_sem,seval];refine (iG t.drp).use (Zd ?_)
        cases h2:stpOk t.drp with
        | false =>
         simp (disch:=omega) only [dX,h2,go_sem,seval];exact ⟨m++ [14],UO hm (by simp []),Weak.mk (by simp (disch:=omega) only [YQ,go_sem,seval])⟩
        | true =>
         simp (disch:=omega) only [dX,h2,go_sem,seval];exact ⟨m,QT hm (by simp []),Weak.mk (by simp (disch:=omega) only [YQ,go_sem,seval])⟩
      ·clear hm hml;intro m hm;refine Zh [18] _ _ _ _ (Br ?_)
       have hml:m.length<=8:=by
        grind [ZA,U7]
       refine ZN [2,12] (fun m:List Int=> [(11,.sl 1 0 m.length m.length)]) (fun m=> [YQ t,.elems 1 (m.map eI)]) (fun m=>m=VC (nameOk t.name) 5++VC (Qr l i) 6++VC (loadOk t.load d) 17++VC ((rng t.pick.place (-1) ((np:Int)-1)&&rng t.drp.place (-1) ((np:Int)-1))) 11++VC (decide (¬(t.pick.place= -1/\t.drp.place= -1))) 19++VC ((stpOk t.pick&&stpOk t.drp)) 14++VC (rng t.skills 0 1073741823) 18) ?_ ?_
       ·refine Zd ?_;refine (FY t.skills 0 1073741823).use (Zd ?_);refine Z1 ?_ ?_<;>intro h
        ·simp only [XS] at h;exact ⟨m++ [18],UO hm (h),Weak.mk (by simp (disch:=omega) only [YQ,go_sem,seval])⟩
        ·simp only [XR] at h;exact ⟨m,QT hm (h),Weak.mk (by simp (disch:=omega) only [YQ,go_sem,seval])⟩
       ·clear hm hml;intro m hm;refine Zh [20] _ _ _ _ (Br ?_)
        have hml:m.length<=8:=by
         grind [ZA,U7]
        refine ZN [2,11,12] (fun b:Bool=> [(14,.p (.bool b))]) (fun _=> [YQ t,.elems 1 (m.map eI)]) (fun b=>b=Le t) ?_ ?_
        ·refine Zd ?_
         repeat' (first | (refine Uk (fun hq=> ?_) (fun hq=> ?_)<;>(try simp only [Zq,Yd,Z7] at hq)<;>simp (disch:=omega) only [Sh.out hq,go_sem,seval]) | (refine Qg (fun hq=> ?_) (fun hq=> ?_)<;>(try simp only [Zq,Yd,Z7] at hq)<;>simp (disch:=omega) only [Sh.out hq,go_sem,seval]) | (refine QF (fun hq=> ?_) (fun hq=> ?_)<;>(try simp only [Zq,Yd,Z7] at hq)<;>simp (disch:=omega) only [Sh.out hq,go_sem,seval]))
         all_goals refine ⟨Le t,rfl,Weak.mk ?_⟩
         all_goals (simp (disch:=omega) only [YQ,go_sem,seval];simp [Le, *])
        ·rintro b hb;refine Zh [21] _ _ _ _ (Br ?_);refine ZN [] (fun m:List Int=> [(11,.sl 1 0 m.length m.length)]) (fun m=> [YQ t,.elems 1 (m.map eI)]) (fun m=>m=VC (nameOk t.name) 5++VC (Qr l i) 6++VC (loadOk t.load d) 17++VC ((rng t.pick.place (-1) ((np:Int)-1)&&rng t.drp.place (-1) ((np:Int)-1))) 11++VC (decide (¬(t.pick.place= -1/\t.drp.place= -1))) 19++VC ((stpOk t.pick&&stpOk t.drp)) 14++VC (rng t.skills 0 1073741823) 18++VC (argOk t ty) 2) ?_ ?_
         ·refine Zd ?_;refine (FY t.penalty (-1) 1000000).use (Zd ?_);refine gF ?_ ?_<;>intro h<;>simp (disch:=omega) only [Sh.out h,go_sem,seval,↓reduceIte]
          ·simp only [XS] at h;exact ⟨m++ [2],UO hm (by simp [argOk,h]),Weak.mk (by simp (disch:=omega) only [YQ,go_sem,seval])⟩
          ·simp only [XR] at h;refine (FY t.split 1 4).use (Zd ?_);refine gF ?_ ?_<;>intro h2<;>simp (disch:=omega) only [Sh.out h2,go_sem,seval,↓reduceIte]
           ·simp only [XS] at h2;exact ⟨m++ [2],UO hm (by simp [argOk,h2]),Weak.mk (by simp (disch:=omega) only [YQ,go_sem,seval])⟩
           ·simp only [XR] at h2
            cases b with
            | true =>
             repeat' (first | (refine gT ?_ ?_<;>intro hq<;>simp (disch:=omega) only [Sh.out hq,go_sem,seval,↓reduceIte]) | (refine gF ?_ ?_<;>intro hq<;>simp (disch:=omega) only [Sh.out hq,go_sem,seval,↓reduceIte]) | (refine cD ?_ ?_<;>intro hq<;>simp (disch:=omega) only [Sh.out hq,go_sem,seval,↓reduceIte]))
             all_goals first
              | exact ⟨m++ [2],UO hm (by rw [argOk,<- hb];first | (simp;done) | (simp;omega)),Weak.mk (by simp (disch:=omega) only [YQ,go_sem,seval])⟩
              | exact ⟨m,QT hm (by grind [argOk]),Weak.mk (by simp (disch:=omega) only [YQ,go_sem,seval])⟩
            | false =>
             repeat' (first | (refine gT ?_ ?_<;>intro hq<;>simp (disch:=omega) only [Sh.out hq,go_sem,seval,↓reduceIte]) | (refine gF ?_ ?_<;>intro hq<;>simp (disch:=omega) only [Sh.out hq,go_sem,seval,↓reduceIte]) | (refine cD ?_ ?_<;>intro hq<;>simp (disch:=omega) only [Sh.out hq,go_sem,seval,↓reduceIte]))
             all_goals first
              | exact ⟨m++ [2],UO hm (by rw [argOk,<- hb];first | (simp;done) | (simp;omega)),Weak.mk (by simp (disch:=omega) only [YQ,go_sem,seval])⟩
              | exact ⟨m,QT hm (by rw [argOk,<- hb,h,h2];first | (simp;done) | (simp;omega)),Weak.mk (by simp (disch:=omega) only [YQ,go_sem,seval])⟩
         ·clear hm hml;intro m hm;refine Zh [] _ _ _ _ (Br ?_)
          have hml:m.length<=8:=by
           grind [ZA,U7]
          exact ⟨m,by rw [hm,hty],1,by simp (disch:=omega) only [go_sem,seval]⟩
def Yb (np:Nat) (d ty:Int) (l:List Ord) (k:Nat):List Flt:=(if l.length<=10 then [] else [(4,[])])++(List.range k).flatMap fun i=>(Wq np d ty l i).map fun e=>(e,Bf i)
theorem CY (np:Nat) (d ty:Int) (l:List Ord) (k:Nat):Yb np d ty l (k+1)=Yb np d ty l k++(Wq np d ty l k).map fun e=>(e,Bf k):=by
 simp [Yb,Yl]
theorem QR (np:Nat) (d ty:Int) (l:List Ord): ∀k,(Yb np d ty l k).length<=1+8*k
 | 0=>by simp [Yb];grind
 | k+1=>by
  have h1:=QR np d ty l k;have h2:=CV np d ty l k;rw [CY];simp;omega
theorem ZaC (n:Net) (d ty:Int) (l:List Ord) (c:Bool) (hw:n.wf 1048576) (hl:l.length<=1048576) (hlw: ∀t∈l,t.wf 1048576) :
  ACalls Tryz.prog 40 [.p (Bg n),.p (.int .i64 d),.p (.int .i64 ty),.p (.list c (l.map Yj))] [] fun x H'=>x= .sl 0 0 (Yb n.places.length d ty l l.length).length (Yb n.places.length d ty l l.length).length/\H'= [.elems 2 ((Yb n.places.length d ty l l.length).map eF)]:=by
 obtain ⟨w1,w2,w3,w4⟩:=hw
 suffices hh:ACalls Tryz.prog 40 [.p (Bg n),.p (.int .i64 d),.p (.int .i64 ty),.p (.list c (l.map Yj))] [] fun x H'=> ∃m:List Flt,m=Yb n.places.length d ty l l.length/\x= .sl 0 0 m.length m.length/\H'= [.elems 2 (m.map eF)] by
  grind
 refine ZJ [2] Tryz.func40 rfl Zjp ?_;simp (disch:=omega) only [Tryz.f40,go_sem,seval];refine Zp (Weak.ofNil 9 2 (by simp (disch:=omega) only [go_sem,seval]) Zb (Weak.refl _ _ _)) ?_;refine ZN [1,2,3,4] (fun m:List Flt=> [(9,.sl 1 0 m.length m.length)]) (fun m=>Z4 n++ [.elems 2 (m.map eF)]) (fun m=>m=Yb n.places.length d ty l 0) ?_ ?_
 ·refine Zd ?_;refine Z1 ?_ ?_<;>intro h
  ·exact ⟨[(4,[])],by rw [Yb,if_neg Za];rfl,Weak.mk (by simp (disch:=omega) only [Z4,go_sem,seval])⟩
  ·exact ⟨[],by rw [Yb,if_pos Za];rfl,Weak.mk (by simp (disch:=omega) only [Z4,go_sem,seval])⟩
 ·intro m hm;refine Zh [] _ _ _ _ (Af ?_);refine Zl [1,2,3,4] (fun q:Nat×List Flt=> [(9,.sl 1 0 q.2.length q.2.length),(10,.p (.int .i64 q.1))]) (fun q=>Z4 n++ [.elems 2 (q.2.map eF)]) (fun q=>q.1<=l.length/\q.2=Yb n.places.length d ty l q.1) (fun q=>l.length-q.1) (0,m) ⟨Zb,hm⟩ (Weak.mk ?_) ?_
  ·simp (disch:=omega) only [Z4,go_sem,seval]
  ·clear hm;rintro ⟨k,m⟩ ⟨hk,hm⟩;simp only at hk hm;have hml:=QR n.places.length d ty l k;rw [<- hm] at hml;refine Af ?_;refine cD ?_ ?_<;>intro h<;>simp (disch:=omega) only [Sh.out h,go_sem,seval,↓reduceIte]
   ·have hk2:k<l.length:=Za
    have hI:Qf (k:Int):=Za
    have hrl:=CV n.places.length d ty l k;refine ((dI n.places.length d ty l c k hk2 hl w1 (hlw _ (Zt hk2))).frozen Zb).use (Zd ?_);generalize hre:Wq n.places.length d ty l k=e at hrl ⊢;refine Zl [1,2,3,4,10,11] (fun q:Nat×List Flt=> [(9,.sl 1 0 q.2.length q.2.length),(12,.p (.int .i64 q.1))]) (fun q=>Z4 n++ [.elems 2 (q.2.map eF)]) (fun q=>q.1<=e.length/\q.2=Yb n.places.length d ty l k++(e.take q.1).map fun e=>(e,Bf k)) (fun q=>e.length-q.1) (0,m) ⟨Zb,by simp [hm]⟩ (Weak.mk ?_) ?_
    ·simp (disch:=omega) only [Z4,go_sem,seval]
    ·clear hm hml;rintro ⟨j,m⟩ ⟨hj,hm⟩;simp only at hj hm;have hml:=QR n.places.length d ty l k
     have hml2:m.length<=1+8*k+8:=by grind
     refine Af ?_;refine Z1 ?_ ?_<;>intro h2
     ·have hj2:j<e.length:=Za
      refine ZE 9 mixed Zf Zf (Zd ?_);refine Zo (Ap k hI) (Zd ?_);refine ⟨(j+1,m++ [(nth e j,Bf k)]),⟨Za,?_⟩,Za,wk⟩
      grind [Ya,Zi]
     ·have hjl:j=e.length:=Za
      subst hjl;refine ⟨(k+1,m),⟨Za,?_⟩,Za,wk⟩
      grind [CY]
   ·have hkn:k=l.length:=Za
    subst hkn;exact ⟨m,hm,1,by simp (disch:=omega) only [go_sem,seval]⟩
theorem dY {s:Stp} :stpOk s=true↔((s.place= -1/\s.opn=0/\s.cls=0/\s.serv=0)\/(0<=s.place/\0<=s.opn/\s.opn<=s.cls/\s.cls<=4096/\0<=s.serv/\s.serv<=4096)):=by simp [stpOk]
structure OrdOk (np:Nat) (d ty:Int) (l:List Ord) (i:Nat):Prop where
 name:nameOk (nth l i).name=true
 twin: ∀j,j<i->(nth l j).name≠(nth l i).name
 load:loadOk (nth l i).load d=true
 pick: -1<=(nth l i).pick.place/\(nth l i).pick.place<np
 drp: -1<=(nth l i).drp.place/\(nth l i).drp.place<np
 one: ¬((nth l i).pick.place= -1/\(nth l i).drp.place= -1)
 pstp:stpOk (nth l i).pick=true
 dstp:stpOk (nth l i).drp=true
 skills:0<=(nth l i).skills/\(nth l i).skills<=1073741823
 arg:argOk (nth l i) ty=true
theorem vS {b:Bool} {e:Int} :VC b e= []↔b=true:=by grind [VC]
theorem LY {np:Nat} {d ty:Int} {l:List Ord} {i:Nat} :Wq np d ty l i= []↔OrdOk np d ty l i:=by
 simp only [Wq,VN,vS,Zw,Zq,rng,K1]
 constructor
 ·rintro ⟨⟨⟨⟨⟨⟨⟨a1,a2⟩,a3⟩,a4⟩,a5⟩,a6⟩,a7⟩,a8⟩;exact ⟨a1,a2,a3,Za,Za,a5,a6.1,a6.2,a7,a8⟩
 ·intro h;obtain ⟨b1,b2⟩:=h.pick;obtain ⟨b3,b4⟩:=h.drp;exact ⟨⟨⟨⟨⟨⟨⟨h.name,h.twin⟩,h.load⟩,Za,Za⟩,h.one⟩,h.pstp,h.dstp⟩,h.skills⟩,h.arg⟩
def ordersOk (np:Nat) (d ty:Int) (l:List Ord):Prop:=l.length<=10/\ ∀i,i<l.length->OrdOk np d ty l i
theorem En {np:Nat} {d ty:Int} {l:List Ord} :Yb np d ty l l.length= []↔ordersOk np d ty l:=by
 simp_all [Yb,LY,ordersOk]
theorem P8 {np:Nat} {d ty:Int} {l:List Ord} (hl:l.length<=1048576): ∀f∈Yb np d ty l l.length,pF 20 f:=by
 intro f hf;simp only [Yb,Xe,X1,ZM,Xw] at hf;rcases hf with hf | ⟨i,hi,e,he,rfl⟩
 ·grind [pF]
 ·exact Js i Za
theorem Ro (n:Int) (h0:0<=n) (hn:n<=4611686018427387904):PC 103 [.p (.int .i64 n)] (.str (dec n.toNat)):=by
 refine Zc Tryz.func103 rfl ZaY ?_;simp (disch:=omega) only [Tryz.f103,go_sem,seval];refine Zl [] (fun q:Int×List UInt8=> [(0,.p (.int .i64 q.1)),(3,.p (.str q.2))]) (fun _=> []) (fun q=>0<=q.1/\q.1<=n/\dec q.1.toNat++q.2=dec n.toNat) (fun q=>q.1.toNat) (n,[]) (by simp [h0]) (Weak.mk ?_) ?_
 ·simp (disch:=omega) only [go_sem,seval]
 ·rintro ⟨m,s⟩ ⟨hm,hmn,hs⟩;simp only at hm hmn hs;have hl:=Se _ n.toNat (Nat.lt_succ_self _)
  have hl2:(dec m.toNat).length+s.length=(dec n.toNat).length:=by grind
  simp (disch:=first | omega | (simp only [ZF,ZH,ZA,ZG,Xi,XL]<;>omega)) only [go_sem,seval];refine cD ?_ ?_<;>intro h<;>simp (disch:=omega) only [Sh.out h,go_sem,seval,↓reduceIte]
  ·simp (disch:=first | omega | (simp only [ZF,ZH,ZA,ZG,Xi,XL]<;>omega)) only [go_sem,seval]
   have h2: ¬m.toNat<10:=Za
   have e1:(48+m%10).toNat=48+m.toNat%10:=Za
   have e2:(m / 10).toNat=m.toNat / 10:=Za
   refine ⟨(m / 10,UInt8.ofNat (48+m%10).toNat::s),⟨Za,Za,?_⟩,Za,Weak.mk ?_⟩
   ·simp only [e1,e2];rw [<- hs,dec.eq_def m.toNat,dif_neg h2];simp
   ·simp (disch:=omega) only [go_sem,seval]
  ·simp (disch:=first | omega | (simp only [ZF,ZH,ZA,ZG,Xi,XL]<;>omega)) only [go_sem,seval]
   have h2:m.toNat<10:=Za
   have e1:(48+m).toNat=48+m.toNat:=Za
   rw [<- hs,dec.eq_def m.toNat,dif_pos h2,e1]
   rfl
def bV (n:Int) (p:Int×Int):Bool:=decide (0<=p.1/\p.1<n)&&decide (0<=p.2/\p.2<n)&&decide (¬p.1=p.2)
def atW (word:List UInt8) (i:Nat):List UInt8:=word++ [32]++dec i
def So (n:Int) (word:List UInt8) (sm:Int×Int->Int×Int->Bool) (l:List (Int×Int)) (i:Nat):List (Int×List UInt8) :=
 if bV n (nth l i)=false then [(2,atW word i)] else if (l.take i).any (sm (nth l i)) then [(6,atW word i)] else []
def Hk (word:List UInt8) (l:List (Int×Int)):List (Int×List UInt8):=if 16<l.length then [(4,word)] else []
def Jv (n:Int) (word:List UInt8) (sm:Int×Int->Int×Int->Bool) (l:List (Int×Int)) (k:Nat):List (Int×List UInt8):=Hk word l++(List.range k).flatMap (So n word sm l)
theorem HQ (n word sm l k):Jv n word sm l (k+1)=Jv n word sm l k++So n word sm l k:=by grind [Jv,Yl]
theorem HR (n word sm l):Jv n word sm l 0=Hk word l:=by simp [Jv]
theorem tE (n word sm l i):(So n word sm l i).length<=1:=by grind [So]
theorem Cn (n word sm l): ∀k,(Jv n word sm l k).length<=k+1:=by
 intro k
 induction k with
 | zero=>grind [HR,Hk]
 | succ k ih=>grind [HQ,tE]
def chk (n:Int) (ap be:List (Int×Int)):List (Int×List UInt8) :=
 Jv n [97,112,97,114,116] (fun p q=>decide (p=q\/(p.1=q.2/\p.2=q.1))) ap ap.length++Jv n [98,101,102,111,114,101] (fun p q=>decide (p=q)) be be.length
def Fb (turned:Bool) (p q:Int×Int):Bool:=decide (q.1=p.1/\q.2=p.2)||(turned&&decide (q.1=p.2/\q.2=p.1))
theorem oO : Fb true=fun p q=>decide (p=q\/(p.1=q.2/\p.2=q.1)):=by
 funext p q
 simp only [Fb,VP,ZdI]
 grind
theorem dP : Fb false=fun p q=>decide (p=q):=by
 funext p q
 simp only [Fb,QK,Bool.or_false]
 grind
def tw (turned:Bool) (l:List (Int×Int)) (p:Int×Int) (j:Nat):Bool:=(l.take j).any (Fb turned p)
theorem wM (turned l p):tw turned l p 0=false:=by simp [tw]
theorem wL (turned:Bool) (l:List (Int×Int)) (p:Int×Int) (j:Nat) (h:j<l.length):tw turned l p (j+1)=(tw turned l p j||Fb turned p (nth l j)):=by
 rw [tw,tw,Ya h,List.any_append,Zi h];simp
theorem Ng (n:Int) (word:List UInt8) (l:List (Int×Int)) (c:Bool) (turned:Bool) (hw:word.length<=1000) (hl:l.length<=1048576) :
  ACalls Tryz.prog 76 [.p (.int .i64 n),.p (.list c (l.map eP)),.p (.str word),.p (.bool turned)] [] fun x H'=>x= .sl 0 0 (Jv n word (Fb turned) l l.length).length (Jv n word (Fb turned) l l.length).length/\H'= [.elems 2 ((Jv n word (Fb turned) l l.length).map eF)]:=by
 refine G7 [2] (fn:=Tryz.f76) Zb Tryz.func76 rfl ZjV ?_;simp (disch:=omega) only [Tryz.f76,go_sem,seval];refine Zp (Weak.ofNil 9 2 (by simp (disch:=omega) only [go_sem,seval]) Zb (Weak.refl _ _ _)) (Zd ?_);refine ZN [0,1,2,3] (fun _:Unit=> [(9,.sl 0 0 (Hk word l).length (Hk word l).length)]) (fun _=> [.elems 2 ((Hk word l).map eF)]) (fun _=>True) ?_ ?_
 ·refine Zd ?_;refine cD ?_ ?_<;>intro h<;>simp (disch:=omega) only [Sh.out h,go_sem,seval,↓reduceIte]
  ·refine ⟨(),Weak.mk ?_⟩
   have h2:16<l.length:=Za
   simp (disch:=omega) only [Hk,h2,go_sem,seval,↓reduceIte]
  ·refine ⟨(),Weak.mk ?_⟩
   have h2: ¬ 16<l.length:=Za
   simp (disch:=omega) only [Hk,h2,go_sem,seval,↓reduceIte]
 ·intro _ _;refine Zh [] _ _ _ _ (Zd ?_);refine Zl [0,1,2,3] (fun k:Nat=> [(9,.sl 0 0 (Jv n word (Fb turned) l k).length (Jv n word (Fb turned) l k).length),(10,.p (.int .i64 k))]) (fun k=> [.elems 2 ((Jv n word (Fb turned) l k).map eF)]) (fun k=>k<=l.length) (fun k=>l.length-k) 0 Zb (Weak.mk ?_) ?_
  ·simp (disch:=omega) only [HR,go_sem,seval,↓reduceIte]
  ·intro k hk;have hfl:=Cn n word (Fb turned) l k;have hdl:=Se _ k (Nat.lt_succ_self _);refine Zd ?_;refine cD ?_ ?_<;>intro h<;>simp (disch:=omega) only [Sh.out h,go_sem,seval,↓reduceIte]
   ·have hk2:k<l.length:=Za
    simp (disch:=first | omega | (simp only [ZF,ZH,ZA,ZG,Xi,XL]<;>omega)) only [go_sem,seval];refine (Ro (k:Int) Za Za).use ?_;simp (disch:=first | omega | (simp only [ZF,ZH,ZA,ZG,Xi,XL]<;>omega)) only [go_sem,seval];have hs:=HQ n word (Fb turned) l k
    have hbad:bV n (nth l k)=false->So n word (Fb turned) l k= [(2,word++ [32]++dec k)]:=fun e=>by simp [So,e,atW]
    repeat' (first | (refine Uk (fun hq=> ?_) (fun hq=> ?_)<;>(try simp only [Zq,Yd,Z7] at hq)<;>simp (disch:=omega) only [Sh.out hq,go_sem,seval]) | (refine gF ?_ ?_<;>intro hq<;>simp (disch:=omega) only [Sh.out hq,go_sem,seval,↓reduceIte]) | (refine cD ?_ ?_<;>intro hq<;>simp (disch:=omega) only [Sh.out hq,go_sem,seval,↓reduceIte]))
    all_goals try (
     have e:=hbad (by simp [bV];omega)
     exact ⟨k+1,Za,Za,Weak.mk (by simp (disch:=omega) only [hs,e,go_sem,seval])⟩)
    have hok:bV n (nth l k)=true:=by simp [bV];omega
    refine Zl [0,1,2,3,9,10,11,12,13] (fun j:Nat=> [(14,.p (.bool (tw turned l (nth l k) j))),(15,.p (.int .i64 j))]) (fun _=> [.elems 2 ((Jv n word (Fb turned) l k).map eF)]) (fun j=>j<=k) (fun j=>k-j) 0 Zb (Weak.mk ?_) ?_
    ·simp (disch:=omega) only [wM,go_sem,seval,↓reduceIte]
    ·intro j hj;refine Zd ?_;refine cD ?_ ?_<;>intro h4<;>simp (disch:=omega) only [Sh.out h4,go_sem,seval,↓reduceIte]
     ·have hts:=wL turned l (nth l k) j Za;generalize tw turned l (nth l k) j=q at hts ⊢
      repeat' (first | (refine gT ?_ ?_<;>intro hq<;>simp (disch:=omega) only [Sh.out hq,go_sem,seval,↓reduceIte]) | (refine gF ?_ ?_<;>intro hq<;>simp (disch:=omega) only [Sh.out hq,go_sem,seval,↓reduceIte]) | (refine QF (fun hq=> ?_) (fun hq=> ?_)<;>(try simp only [Zq,Yd,Z7] at hq)<;>simp (disch:=omega) only [Sh.out hq,go_sem,seval]))
      all_goals refine ⟨j+1,Za,Za,Weak.mk ?_⟩
      all_goals clear hs hbad hfl hdl
      all_goals simp (disch:=omega) only [hts,go_sem,seval]
      all_goals simp [Fb, *]
      all_goals first | omega | (simp [Fb, *] at hts;exact hts)
     ·have hjk:j=k:=Za
      subst hjk;refine cD ?_ ?_<;>intro h5<;>simp (disch:=omega) only [Sh.out h5,go_sem,seval,↓reduceIte]
      ·have e:So n word (Fb turned) l j= [(6,word++ [32]++dec j)]:=by
        have h6:(l.take j).any (Fb turned (nth l j))=true:=h5
        grind [So,atW]
       exact ⟨j+1,Za,Za,Weak.mk (by simp (disch:=omega) only [hs,e,go_sem,seval])⟩
      ·have e:So n word (Fb turned) l j= []:=by
        have h6:(l.take j).any (Fb turned (nth l j))=false:=h5
        simp_all [So]
       exact ⟨j+1,Za,Za,Weak.mk (by simp (disch:=omega) only [hs,e,go_sem,seval])⟩
   ·have:k=l.length:=Za
    subst this;exact ⟨0,by simp (disch:=omega) only [go_sem,seval]⟩
theorem nR (n:Int) (ap be:List (Int×Int)) (c c':Bool) (hl:ap.length<=1048576) (hl2:be.length<=1048576) :
  ACalls Tryz.prog 42 [.p (.int .i64 n),.p (.list c (ap.map eP)),.p (.list c' (be.map eP))] [] fun x H'=>x= .sl 0 0 (chk n ap be).length (chk n ap be).length/\H'= [.elems 2 ((chk n ap be).map eF)]:=by
 refine UU (fn:=Tryz.f42) Zb Tryz.func42 rfl Zjr ?_;simp (disch:=omega) only [Tryz.f42,go_sem,seval];have h1:=Cn n [97,112,97,114,116] (Fb true) ap ap.length;have h2:=Cn n [98,101,102,111,114,101] (Fb false) be be.length;refine (Ng n _ ap c true (by decide) hl).useF (Zd ?_);refine (Ng n _ be c' false (by decide) hl2).useF (Zd ?_);refine ⟨0,?_⟩;rw [chk,<- oO,<- dP];simp (disch:=omega) only [go_sem,seval]
@[go_sem] theorem Ze9 {H:List AM.Obj} {β:Type} {S b o n:Nat} {xs:List PV} {g:β->PV} {m:List β} (hb:(n+m.length)*b<=140737488355328) (hb2:n+m.length<=140737488355328) :
  UC H (some (S,b)) (.elems S xs) o n (some (m.map g))=if xs.length=n/\K3 S (m.map g)=true then some (.sl o 0 (n+m.length) (n+m.length),Gi H o (.elems S (xs++m.map g))) else none:=by
 simp_all [fV]
def und (word:List UInt8) (f:Flt):Flt:=(f.1,if f.2= [] then word else word++ [32]++f.2)
theorem Bb (word:List UInt8) (l:List Flt) (c:Bool) (hword:word.length<=100) (hl:l.length<=4194306000000) (hp: ∀f∈l,pF 100 f) :
  ACalls Tryz.prog 37 [.p (.str word),.p (.list c (l.map eF))] [] fun x H'=>x= .sl 0 0 (l.map (und word)).length (l.map (und word)).length/\H'= [.elems 2 ((l.map (und word)).map eF)]:=by
 suffices hh:ACalls Tryz.prog 37 [.p (.str word),.p (.list c (l.map eF))] [] fun x H'=> ∃m:List Flt,m=l.map (und word)/\x= .sl 0 0 m.length m.length/\H'= [.elems 2 (m.map eF)] by
  grind
 refine ZJ [2] Tryz.func37 rfl Zjm ?_;simp (disch:=omega) only [Tryz.f37,go_sem,seval];refine Zp (Weak.ofNil 5 2 (by simp (disch:=omega) only [go_sem,seval]) Zb (Weak.refl _ _ _)) ?_;refine Zh [] _ _ _ _ (Zd ?_);refine Zl [0,1] (fun q:Nat×List Flt=> [(5,.sl 0 0 q.2.length q.2.length),(6,.p (.int .i64 q.1))]) (fun q=> [.elems 2 (q.2.map eF)]) (fun q=>q.1<=l.length/\q.2=(l.take q.1).map (und word)) (fun q=>l.length-q.1) (0,[]) ⟨Zb,Zb⟩ (Weak.mk ?_) ?_
 ·simp (disch:=omega) only [go_sem,seval,↓reduceIte]
 ·rintro ⟨k,m⟩ ⟨hk,hm⟩;simp only at hk hm
  have hml:m.length<=k:=by grind
  refine Zd ?_;refine cD ?_ ?_<;>intro h<;>simp (disch:=omega) only [Sh.out h,go_sem,seval,↓reduceIte]
  ·have hk2:k<l.length:=Za
   have hpk:=hp _ (Zt hk2);unfold pF at hpk
   have hnext: ∀f,f=und word (nth l k)->m++ [f]=(l.take (k+1)).map (und word):=fun f hf=>by
    grind [Ya,Zi]
   refine cD ?_ ?_<;>intro h2<;>simp (disch:=omega) only [Sh.out h2,go_sem,seval,↓reduceIte]
   ·have h3: ¬(nth l k).2= []:=Za
    simp (disch:=first | omega | (simp only [ZF,ZH,ZA,ZG,Xi,XL]<;>omega)) only [go_sem,seval,↓reduceIte];refine ⟨(k+1,m++ [((nth l k).1,word++ [32]++(nth l k).2)]),⟨Za,hnext _ (by simp [und,h3])⟩,Za,Weak.mk (by simp (disch:=first | omega | (simp only [ZF,ZH,ZA,ZG,Xi,XL]<;>omega)) only [go_sem,seval])⟩
   ·have h3:(nth l k).2= []:=by grind
    refine ⟨(k+1,m++ [((nth l k).1,word)]),⟨Za,hnext _ (by simp [und,h3])⟩,Za,Weak.mk (by simp (disch:=first | omega | (simp only [ZF,ZH,ZA,ZG,Xi,XL]<;>omega)) only [go_sem,seval])⟩
  ·have hkn:k=l.length:=Za
   subst hkn;exact ⟨m,by grind,0,by simp (disch:=omega) only [go_sem,seval]⟩
theorem Zaz {n:Int} {ap be:List (Int×Int)} (ha:ap.length<=1048576) (hb:be.length<=1048576): ∀f∈chk n ap be,pF 100 f:=by
 have key: ∀(word:List UInt8) (sm:Int×Int->Int×Int->Bool) (l:List (Int×Int)),word.length<=6->l.length<=1048576-> ∀f∈Jv n word sm l l.length,pF 100 f:=fun word sm l hw hl f hf=>by
  simp only [Jv,Xe,X1,ZM] at hf;rcases hf with hf | ⟨i,hi,hf⟩
  ·grind [Hk,pF]
  ·have hd:=BC 6 i Za
   grind [pF,atW,So]
 intro f hf;rcases Xe.1 hf with hf | hf
 ·grind
 grind
theorem sC {n:Int} {ap be:List (Int×Int)} :(chk n ap be).length<=ap.length+be.length+2:=by
 grind [Cn,chk]
structure InstOk (x:Inst):Prop where
 net:netOk x.net
 types:typesOk x.net x.types
 orders:ordersOk x.net.places.length (dimsOf x.types) x.types.length x.orders
 rules:chk x.orders.length x.apart x.before= []
theorem FR.und {p:Flt->Prop} {C:Prop} {b:Nat} {l:List Flt} (h:FR p C b l) (word:List UInt8):FR (fun _=>True) C b (l.map (und word)) :=
 ⟨by simpa using h.len,by rw [List.map_eq_nil_iff];exact h.emp,fun _ _=>trivial⟩
theorem ZaD (x:Inst) (hw:x.wf 1048576):ACalls Tryz.prog 13 [.p (Zu x)] [] fun y H'=> ∃m:List Flt,FR (fun _=>True) (InstOk x) 4194400000000 m/\y= .sl 0 0 m.length m.length/\H'= [.elems 2 (m.map eF)]:=by
 obtain ⟨w1,w2,w3,w4,w5,w6,w7,w8,w9⟩:=hw;refine ZJ [] Tryz.func13 rfl Zi6 ?_;simp (disch:=omega) only [Tryz.f13,go_sem,seval];have ol:=QR x.net.places.length (dimsOf x.types) x.types.length x.orders x.orders.length;have oat:=P8 (np:=x.net.places.length) (d:=dimsOf x.types) (ty:=x.types.length) w4;have onil:=En (np:=x.net.places.length) (d:=dimsOf x.types) (ty:=x.types.length) (l:=x.orders);have cl:=sC (n:=x.orders.length) (ap:=x.apart) (be:=x.before);have cat:=Zaz (n:=x.orders.length) w6 w8;refine ((ZaA x.net w1).frozenE).useV fun m1 h1=> ?_
 refine Zd ?_;have h1p:=h1.pmono (q:=pF 100) fun f hf=>hf.mono Za;have u1:=Bb [110,101,116] m1 false Zb h1.len h1p.all;have f1:=h1.und [110,101,116];generalize m1.map (und [110,101,116])=q1 at u1 f1;have f1l:=f1.len;refine (u1).useF (Zd ?_);refine ((ZaB x.net x.types x.types_c w1 w2 w3).frozenE).useV fun m2 h2=>Zd ?_;have h2p:=h2.pmono (q:=pF 100) fun f hf=>hf.mono Za;have h2l:=h2.len;have u2:=(Bb [116,121,112,101,115] m2 false Zb Za h2p.all).frozen Zb;have f2:=h2.und [116,121,112,101,115]
 generalize m2.map (und [116,121,112,101,115])=q2 at u2 f2;have f2l:=f2.len;refine (u2).use (Zd ?_);have u3:=(Bb [111,114,100,101,114,115] (Yb x.net.places.length (dimsOf x.types) x.types.length x.orders x.orders.length) false Zb Za fun f hf=>(oat f hf).mono Za).frozen Zb;have f3:=(show FR (fun _=>True) (ordersOk x.net.places.length (dimsOf x.types) x.types.length x.orders) (1+8*x.orders.length) (Yb x.net.places.length (dimsOf x.types) x.types.length x.orders x.orders.length) from ⟨ol,onil,fun _ _=>trivial⟩).und [111,114,100,101,114,115]
 generalize (Yb x.net.places.length (dimsOf x.types) x.types.length x.orders x.orders.length).map (und [111,114,100,101,114,115])=q3 at u3 f3;have f3l:=f3.len;refine ZE 13 mixed Zf Zf (Zd ?_);refine Zo (M8 x.types x.types_c w2) (Zd ?_);refine Zo ((ZaC x.net (dimsOf x.types) x.types.length x.orders x.orders_c w1 w4 w5).frozen Zb) (Zd ?_);refine Zo (u3) (Zd ?_);have u4:=(Bb [114,117,108,101,115] (chk x.orders.length x.apart x.before) false Zb Za cat).frozen Zb
 have f4:=(show FR (fun _=>True) (chk x.orders.length x.apart x.before= []) (x.apart.length+x.before.length+2) (chk x.orders.length x.apart x.before) from ⟨cl,Iff.rfl,fun _ _=>trivial⟩).und [114,117,108,101,115];generalize (chk x.orders.length x.apart x.before).map (und [114,117,108,101,115])=q4 at u4 f4;have f4l:=f4.len;refine ((nR x.orders.length x.apart x.before x.apart_c x.before_c w6 w8).frozen Zb).use (Zd ?_);refine (u4).use (Zd ?_);refine ⟨q1++q2++q3++q4,((f1.app f2).app f3 |>.app f4).to Za ⟨fun ⟨⟨⟨a,b⟩,c⟩,d⟩=>⟨a,b,c,d⟩,fun h=>⟨⟨⟨h.net,h.types⟩,h.orders⟩,h.rules⟩⟩,1,?_⟩
 simp (disch:=omega) only [go_sem,seval]
def Ze (x:Inst):AM.Obj:= .cells [.p (.list x.net.places_c (x.net.places.map eS)),.p (.list x.net.arcs_c (x.net.arcs.map V2)),.p (.list x.types_c (x.types.map X4)),.p (.list x.orders_c (x.orders.map Yj)),.p (.list x.apart_c (x.apart.map eP)),.p (.list x.before_c (x.before.map eP))]
def zSco : Sco:=⟨0,0,0,0⟩
theorem qN (a:Int):IntKind.i64.wrap ((BitVec.ofInt 64 a&&&BitVec.ofInt 64 1).toNat:Int)=a%2:=by
 grind [BitVec.toNat_ofInt,IntWalk.i64_in]
def sHas (s i:Int):Bool:=decide (0<=i)&&decide (i<=62)&&decide (s.fdiv (2^i.toNat)%2=1)
theorem Ej (s i:Int):PC 140 [.p (.int .i64 s),.p (.int .i64 i)] (.bool (sHas s i)):=by
 refine Zc Tryz.func140 rfl Zbj ?_;simp (disch:=omega) only [Tryz.f140,go_sem,seval];refine gT ?_ ?_<;>intro h<;>simp (disch:=omega) only [Sh.out h,go_sem,seval,↓reduceIte]
 ·refine gT ?_ ?_<;>intro h1<;>simp (disch:=omega) only [Sh.out h1,go_sem,seval,↓reduceIte]
  ·have:min i.toNat 64=i.toNat:=Za
   rw [this]
   erw [qN]
   simp [sHas,h,h1]
  grind [sHas]
 ·simp [sHas,h]
def X8 (s:Int) (k:Nat):List Int:=((List.range k).filter fun (i:Nat)=>sHas s (i:Int)).map fun (i:Nat)=>(i:Int)
theorem bJ (s:Int):X8 s 0= []:=by simp [X8]
theorem NM {s:Int} {k:Nat} (h:sHas s (k:Int)=true):X8 s (k+1)=X8 s k++ [(k:Int)]:=by grind [X8,Yl]
theorem SO {s:Int} {k:Nat} (h:sHas s (k:Int)=false):X8 s (k+1)=X8 s k:=by grind [X8,Yl]
theorem CM (s:Int) (k:Nat):(X8 s k).length<=k:=by
 grind [X8]
theorem DN (s:Int):ACalls Tryz.prog 131 [.p (.int .i64 s)] [] fun x H'=>x= .sl 0 0 (X8 s 63).length (X8 s 63).length/\H'= [.elems 1 ((X8 s 63).map eI)]:=by
 refine UU (fn:=Tryz.f131) Zb Tryz.func131 rfl Zbc ?_;simp (disch:=omega) only [Tryz.f131,go_sem,seval];refine Zl [0] (fun k:Nat=> [(3,.sl 0 0 (X8 s k).length (X8 s k).length),(5,.p (.int .i64 k))]) (fun k=> [.elems 1 ((X8 s k).map eI)]) (fun k=>k<=63) (fun k=>63-k) 0 Zb (Weak.ofNil 3 1 (by simp (disch:=omega) only [go_sem,seval]) Zb (Weak.mk ?_)) ?_
 ·simp (disch:=omega) only [bJ,go_sem,seval,↓reduceIte]
 ·intro k hk;have hl:=CM s k;refine Zd ?_;refine cD ?_ ?_<;>intro h<;>simp (disch:=omega) only [Sh.out h,go_sem,seval,↓reduceIte]
  ·refine (Ej s k).use (Zd ?_);refine cD ?_ ?_<;>intro h2<;>simp (disch:=omega) only [Sh.out h2,go_sem,seval,↓reduceIte]
   ·refine ⟨k+1,Za,Za,Weak.mk ?_⟩;simp (disch:=omega) only [NM h2,go_sem,seval]
   ·exact ⟨k+1,Za,Za,Weak.mk (by simp (disch:=omega) only [SO h2,go_sem,seval])⟩
  ·have:k=63:=Za
   subst this;exact ⟨0,by simp (disch:=omega) only [go_sem,seval]⟩
def eN (n:Nat):PV:= .int .i64 (n:Int)
@[go_sem] theorem ZqH (n:Nat):eN n= .int .i64 (n:Int):=Zm rfl rfl
theorem gY (n:Nat) (be:List (Int×Int)) (c:Bool) (hn:n<=60) (hl:be.length<=1048576) (hv:Val n be) :
  ACalls Tryz.prog 162 [.p (.int .i64 (n:Int)),.p (.list c (be.map eP))] [] fun x H'=>x= .sl 0 0 n n/\H'= [.elems 1 ((Kt n be).map eN)]:=by
 refine UU (fn:=Tryz.f162) (by simpa using (FD hv).len) Tryz.func162 rfl Zbz ?_;simp (disch:=omega) only [Tryz.f162,go_sem,seval];have hp60:pw n<=pw 62:=Kx Za;have h62:=Gt;refine Zl [0,1] (fun q:List Nat×Bool=> [(5,.sl 0 0 n n),(6,.p (.bool q.2))]) (fun q=> [.elems 1 (q.1.map eN)]) (fun q=>Snd n be q.1/\(q.2=false->tot (E7 q.1 be)=tot q.1)) (fun q=>2*(n*pw n-tot q.1)+(if q.2 then 1 else 0)) (List.replicate n 0,true) ⟨Snd.zero n be,Zb⟩ (Weak.mk ?_) ?_
 ·simp (disch:=omega) only [AE,go_sem,seval,↓reduceIte]
 ·rintro ⟨out,more⟩ ⟨hs,hm⟩;simp only at hs hm;refine Zd ?_;refine cD ?_ ?_<;>intro h<;>simp (disch:=omega) only [Sh.out h,go_sem,seval,↓reduceIte]
  ·have hrs: ∀i,Snd n be (E7 out (be.take i)):=fun i=>hs.rnd hv _ fun p hp=>Kh hp
   have hsuc: ∀i,i<be.length->E7 out (be.take (i+1))=EA (E7 out (be.take i)) (nth be i):=fun i hi=>by
    rw [Ya hi,Ra,<- Zi hi];rfl
   refine Zl [0,1,16,17] (fun i:Nat=> [(5,.sl 0 0 n n),(6,.p (.bool (decide (tot out<tot (E7 out (be.take i)))))),(18,.p (.int .i64 i))]) (fun i=> [.elems 1 ((E7 out (be.take i)).map eN)]) (fun i=>i<=be.length) (fun i=>be.length-i) 0 Zb (Weak.mk ?_) ?_
   ·simp (disch:=omega) only [E7,Je,UM,go_sem,seval];simp
   ·intro i hi;have hsi:=hrs i;generalize hgo:E7 out (be.take i)=o at hsi ⊢;have hlo:=hsi.len;refine Zd ?_;refine cD ?_ ?_<;>intro h2<;>simp (disch:=omega) only [Sh.out h2,go_sem,seval,↓reduceIte]
    ·have hib:i<be.length:=Za
     have hvi:=hv (nth be i) (by grind [Zi])
     have g1: ¬(nth be i).1<0:=Za
     have g2: ¬(nth be i).2<0:=Za
     have g3: ¬(n:Int)<=(nth be i).1:=Za
     have g4: ¬(n:Int)<=(nth be i).2:=Za
     have g5:(nth be i).1.toNat<n:=Za
     have g6:(nth be i).2.toNat<n:=Za
     have b1:=hsi.lt _ g5;have b2:=hsi.lt _ g6;have b3:nth o (nth be i).2.toNat|||nth o (nth be i).1.toNat<pw n:=Jd b2 b1;have b4:pw (nth be i).1.toNat<=pw 62:=Kx Za;have hst:=Sd o (nth be i) Za;have hnx:=hsuc i hib;rw [hgo] at hnx;refine Fv mixed Zf ?_;simp (disch:=omega) only [hlo,g1,g2,g3,g4,go_sem,seval];refine Fv mixed Zf ?_;simp (disch:=first | omega | (simp only [ZF,ZH,ZA,ZG,Xi,XL]<;>omega)) only [hlo,g5,g6,U0,go_sem,seval,↓reduceIte]
     have htm:tot out<=tot o:=by
      grind [C0]
     have hsv:o.set (nth be i).2.toNat (nth o (nth be i).2.toNat|||nth o (nth be i).1.toNat|||pw (nth be i).1.toNat)=EA o (nth be i):=rfl;refine cD ?_ ?_<;>intro h3<;>simp (disch:=omega) only [Sh.out h3,go_sem,seval,↓reduceIte]
     ·have hne: ¬EA o (nth be i)=o:=fun e=>by
       apply h3
       have e2:nth (EA o (nth be i)) (nth be i).2.toNat=nth o (nth be i).2.toNat:=by rw [e]
       rw [EA,E4 _ _ _ _ Za] at e2
       grind
      have hlt:tot out<tot (EA o (nth be i)):=by
       grind
      simp (disch:=first | omega | (simp only [ZF,ZH,ZA,ZG,Xi,XL]<;>omega)) only [go_sem,seval,↓reduceIte];refine ⟨i+1,Za,Za,Weak.mk ?_⟩;simp (disch:=omega) only [hnx,hlt,go_sem,seval];rw [<- hsv,Ug]
      rfl
     ·have heq:EA o (nth be i)=o:=by
       have e:nth o (nth be i).2.toNat|||nth o (nth be i).1.toNat|||pw (nth be i).1.toNat=nth o (nth be i).2.toNat:=Za
       rw [<- hsv,e];apply UK Zb
       simp_all [Zi]
      refine ⟨i+1,Za,Za,Weak.mk ?_⟩;simp (disch:=omega) only [hnx,heq,go_sem,seval]
    ·have hi2:i=be.length:=Za
     subst hi2;rw [X7] at hgo;subst hgo;have hpt:=C0 hv be out (fun _ h=>h) hs;have hbd:=hsi.bound;refine ⟨(E7 out be,decide (tot out<tot (E7 out be))),⟨hsi,fun e=> ?_⟩,?_,Weak.mk ?_⟩
     ·grind
     ·grind
     ·simp (disch:=omega) only [go_sem,seval]
  ·refine ⟨0,?_⟩;have:out=Kt n be:=(iH hv (hs.clo hv (hm h))).symm;rw [this];simp (disch:=omega) only [go_sem,seval]
def hv (s k:Nat):Nat:=s / pw k
theorem Sy (s:Nat):hv s 0=s:=by simp [hv,pw]
theorem Sx (s k:Nat):hv s (k+1)=hv s k / 2:=by grind [hv,E9,Nat.div_div_eq_div_mul]
theorem yA (s k:Nat):hv s k<=s:=Nat.div_le_self _ _
theorem kJ (s k:Nat):s.testBit k=decide (hv s k%2=1):=by
 rw [Nat.testBit_eq_decide_div_mod_eq]
 rfl
theorem WW (s i:Nat) (hi:i<=62):sHas (s:Int) (i:Int)=s.testBit i:=by
 rw [kJ,hv]
 have h1:(0:Int)<=i:=Za
 have h2:(i:Int)<=62:=Za
 simp only [sHas,h1,h2,Vj,VP,XK]
 have e:((s:Int)).fdiv (2^i)=((s / pw i:Nat):Int):=by
  grind [pw]
 grind
theorem VF {α:Type} [Inhabited α] {l:List α} {f:α->Bool} {k:Nat} (h:k<l.length) (hf:f (nth l k)=true):l.any f=true:=by
 grind [Zi]
theorem Q1 {α:Type} [Inhabited α] {l:List α} {f:α->Bool} (h: ∀j,j<l.length->f (nth l j)=false):l.any f=false:=by
 rw [Vb];intro x hx;obtain ⟨j,hj,rfl⟩:=ZS.1 hx
 grind [Zi]
theorem Wt {p:Nat->Prop} {k:Nat} (h: ∀j,j<k->p j) (hk:p k): ∀j,j<k+1->p j:=fun j hj=>by
 grind
theorem Zko {s:Int} {k:Nat} {x:Int} (h:x∈X8 s k):0<=x/\x<k:=by
 simp only [X8,Xw,Jf,ZM] at h;omega
noncomputable def WB (os:List Ord) (ap be:List (Int×Int)) (s:Int):Int :=
 if s<0 then 2
 else if (X8 s 63).any (fun i=>decide ((os.length:Int)<=i)) then 2
 else if (X8 s 63).any (fun i=>(nth os i.toNat).off) then 9
 else if ap.any (fun p=>sHas s p.1&&sHas s p.2) then 20
 else if be.any (fun p=>sHas s p.2&& !sHas s p.1) then 21
 else if (X8 s 63).any (fun i=>sHas ((nth (Kt os.length be) i.toNat:Nat):Int) i) then 21
 else 0
theorem YJ {P Q:Prop} (h:Q) (e:Q->P:=by intro h;simp (disch:=omega) only [Ze,go_sem,seval];exact h):P:=e h
theorem TL (net:Net) (tyc:Bool) (tys:List Typ) (c1 c2 c3:Bool) (os:List Ord) (ap be:List (Int×Int)) (s:Int) (hn:os.length<=60) (hla:ap.length<=1048576) (hl:be.length<=1048576) (hv:Val os.length be) :
  PC 130 [.p (Zu ⟨net,tyc,tys,c1,os,c2,ap,c3,be⟩),.p (.int .i64 s)] (.int .i64 (WB os ap be s)):=by
 have hc:=FD hv;have hlen:=hc.len;have hm:=CM s 63;refine Zc Tryz.func130 rfl Zbb ?_;simp (disch:=omega) only [Tryz.f130,go_sem,seval];refine cD ?_ ?_<;>intro hs0<;>simp (disch:=omega) only [Sh.out hs0,go_sem,seval]
 ·simp [WB,hs0]
 ·refine ((DN s).frozen Zb).use (Zd ?_);generalize hgm:X8 s 63=m at hm ⊢
  have hnn: ∀k,k<m.length->0<=nth m k/\nth m k<63:=fun k hk=>by
   grind [X8,Zi,J7]
  have e0: ¬s<0:=hs0;refine Zl [1,2,5,21,22] (fun k:Nat=> [(23,.p (.int .i64 k))]) (fun _=> [Ze ⟨net,tyc,tys,c1,os,c2,ap,c3,be⟩]) (fun k=>k<=m.length/\ ∀j,j<k->decide ((os.length:Int)<=nth m j)=false) (fun k=>m.length-k) 0 Zb (Weak.mk ?_) ?_
  ·simp (disch:=omega) only [Ze,go_sem,seval]
  ·rintro k ⟨hk,hno⟩;refine YJ ?_;refine cD ?_ ?_<;>intro h<;>simp (disch:=omega) only [Sh.out h,go_sem,seval,↓reduceIte]
   ·have hk2:k<m.length:=Za
    refine Z1 ?_ ?_<;>intro h4
    ·grind [VF,WB]
    ·exact ⟨k+1,⟨Za,Wt hno (by simp [h4])⟩,Za,wk⟩
   ·have hkm:k=m.length:=Za
    subst hkm;have e1:m.any (fun i=>decide ((os.length:Int)<=i))=false:=Q1 hno
    have hin: ∀j,j<m.length->(nth m j).toNat<os.length:=fun j hj=>by
     grind
    clear hno hk h;refine Zl [1,2,5,33,34] (fun k:Nat=> [(35,.p (.int .i64 k))]) (fun _=> [Ze ⟨net,tyc,tys,c1,os,c2,ap,c3,be⟩]) (fun k=>k<=m.length/\ ∀j,j<k->(nth os (nth m j).toNat).off=false) (fun k=>m.length-k) 0 Zb (Weak.mk ?_) ?_
    ·simp (disch:=omega) only [Ze,go_sem,seval]
    ·rintro k ⟨hk,hno⟩;refine YJ ?_;refine cD ?_ ?_<;>intro h<;>simp (disch:=omega) only [Sh.out h,go_sem,seval,↓reduceIte]
     ·have hk2:k<m.length:=Za
      have g1:=hin k hk2;have g2:=hnn k hk2;refine Zd ?_;refine Z1 ?_ ?_<;>intro h4
      ·grind [VF,WB]
      ·exact ⟨k+1,⟨Za,Wt hno h4⟩,Za,wk⟩
     ·have hkm:k=m.length:=Za
      subst hkm;have e2:m.any (fun i=>(nth os i.toNat).off)=false:=Q1 hno;clear hno hk h;refine Zl [1,2,5,47,48] (fun k:Nat=> [(49,.p (.int .i64 k))]) (fun _=> [Ze ⟨net,tyc,tys,c1,os,c2,ap,c3,be⟩]) (fun k=>k<=ap.length/\ ∀j,j<k->(sHas s (nth ap j).1&&sHas s (nth ap j).2)=false) (fun k=>ap.length-k) 0 Zb (Weak.mk ?_) ?_
      ·simp (disch:=omega) only [Ze,go_sem,seval]
      ·rintro k ⟨hk,hno⟩;refine YJ ?_;refine cD ?_ ?_<;>intro h<;>simp (disch:=omega) only [Sh.out h,go_sem,seval,↓reduceIte]
       ·have hk2:k<ap.length:=Za
        refine (Ej s (nth ap k).1).use (Zd ?_);refine Jr ?_ ?_<;>intro h5
        ·refine (Ej s (nth ap k).2).use (Zd ?_);refine Z1 ?_ ?_<;>intro h6
         ·grind [VF,WB]
         ·exact ⟨k+1,⟨Za,Wt hno (by simp [h5,h6])⟩,Za,wk⟩
        ·exact ⟨k+1,⟨Za,Wt hno (by simp [h5])⟩,Za,wk⟩
       ·have hkm:k=ap.length:=Za
        subst hkm;have e3:ap.any (fun p=>sHas s p.1&&sHas s p.2)=false:=Q1 hno;clear hno hk h;refine Zl [1,2,5,65,66] (fun k:Nat=> [(67,.p (.int .i64 k))]) (fun _=> [Ze ⟨net,tyc,tys,c1,os,c2,ap,c3,be⟩]) (fun k=>k<=be.length/\ ∀j,j<k->(sHas s (nth be j).2&& !sHas s (nth be j).1)=false) (fun k=>be.length-k) 0 Zb (Weak.mk ?_) ?_
        ·simp (disch:=omega) only [Ze,go_sem,seval]
        ·rintro k ⟨hk,hno⟩;refine YJ ?_;refine cD ?_ ?_<;>intro h<;>simp (disch:=omega) only [Sh.out h,go_sem,seval,↓reduceIte]
         ·have hk2:k<be.length:=Za
          refine (Ej s (nth be k).2).use (Zd ?_);refine Jr ?_ ?_<;>intro h5
          ·refine (Ej s (nth be k).1).use (Zd ?_);refine Z1 ?_ ?_<;>intro h6
           ·grind [VF,WB]
           ·exact ⟨k+1,⟨Za,Wt hno (by simp [h5,h6])⟩,Za,wk⟩
          ·exact ⟨k+1,⟨Za,Wt hno (by simp [h5])⟩,Za,wk⟩
         ·have hkm:k=be.length:=Za
          subst hkm;have e4:be.any (fun p=>sHas s p.2&& !sHas s p.1)=false:=Q1 hno;clear hno hk h;refine ((gY os.length be c3 hn hl hv).frozen (by grind)).use (Zd ?_);refine Zl [5,14,89,90] (fun k:Nat=> [(91,.p (.int .i64 k))]) (fun _=> [Ze ⟨net,tyc,tys,c1,os,c2,ap,c3,be⟩]) (fun k=>k<=m.length/\ ∀j,j<k->sHas ((nth (Kt os.length be) (nth m j).toNat:Nat):Int) (nth m j)=false) (fun k=>m.length-k) 0 Zb (Weak.mk ?_) ?_
          ·simp (disch:=omega) only [Ze,go_sem,seval]
          ·rintro k ⟨hk,hno⟩;refine YJ ?_;refine cD ?_ ?_<;>intro h<;>simp (disch:=omega) only [Sh.out h,go_sem,seval,↓reduceIte]
           ·have hk2:k<m.length:=Za
            have g1:=hin k hk2;have g2:=hnn k hk2;refine Zd ?_;refine (Ej ((nth (Kt os.length be) (nth m k).toNat:Nat):Int) (nth m k)).use (Zd ?_);refine Z1 ?_ ?_<;>intro h6
            ·grind [VF,WB]
            ·exact ⟨k+1,⟨Za,Wt hno h6⟩,Za,wk⟩
           grind [Kt,Q1,WB]
deriving instance DecidableEq for Vis
theorem D9 {v w:Vis} :v=w↔v.order=w.order/\v.drp=w.drp:=by cases v;cases w;simp
def HM (f:Vis->Bool) (l:List Vis):Int:=match l.findIdx? f with | some i=>(i:Int) | none=> -1
def vIx (l:List Vis) (v:Vis):Int:=HM (fun w=>decide (v=w)) l
theorem Ls {f:Vis->Bool} {l:List Vis} {k:Nat} (hk:k<l.length) (h:f (nth l k)=true) (hno: ∀j,j<k->f (nth l j)=false):HM f l=(k:Int):=by
 have:l.findIdx? f=some k:=by
  grind [Ua,Zi]
 simp [HM,this]
theorem PI {f:Vis->Bool} {l:List Vis} (hno: ∀j,j<l.length->f (nth l j)=false):HM f l= -1:=by
 have:l.findIdx? f=none:=by
  rw [ER];intro x hx;obtain ⟨j,hj,rfl⟩:=ZS.1 hx
  grind [Zi]
 simp [HM,this]
theorem PH {f:Vis->Bool} {l:List Vis} :decide (0<=HM f l)=l.any f:=by
 grind [HM]
theorem jD {f:Vis->Bool} {l:List Vis} :HM f l<l.length/\ -1<=HM f l:=by
 grind [HM,Ua]
theorem Sz (l:List Vis) (c:Bool) (v:Vis) (hl:l.length<=1048576):PC 252 [.p (.list c (l.map Z9)),.p (Z9 v)] (.int .i64 (vIx l v)):=by
 refine Zc Tryz.func252 rfl ZcI ?_;simp (disch:=omega) only [Tryz.f252,go_sem,seval];refine Zl [0,3,7] (fun k:Nat=> [(8,.p (.int .i64 k))]) (fun _=> [.cells [.p (.int .i64 v.order),.p (.bool v.drp)]]) (fun k=>k<=l.length/\ ∀j,j<k->decide (v=nth l j)=false) (fun k=>l.length-k) 0 Zb (Weak.mk ?_) ?_
 ·simp (disch:=omega) only [go_sem,seval,↓reduceIte]
 ·rintro k ⟨hk,hno⟩;refine Zd ?_;refine cD ?_ ?_<;>intro h<;>simp (disch:=omega) only [Sh.out h,go_sem,seval,↓reduceIte]
  ·have hk2:k<l.length:=Za
   refine Xd (Zd ?_);refine cD ?_ ?_<;>intro h2<;>simp (disch:=omega) only [Sh.out h2,go_sem,seval,↓reduceIte]
   ·grind [D9,vIx,Ls]
   ·have: ¬v=nth l k:=by grind
    exact ⟨k+1,⟨Za,Zr.2 ⟨hno,by grind⟩⟩,Za,wk⟩
  grind [vIx,PI]
theorem C1 (l:List Vis) (c:Bool) (v:Vis) (hl:l.length<=1048576):PC 218 [.p (.list c (l.map Z9)),.p (Z9 v)] (.int .i64 (vIx l v)):=by
 refine Zc Tryz.func218 rfl Zcc ?_;simp (disch:=omega) only [Tryz.f218,go_sem,seval];refine (Sz l c v hl).use ?_;simp (disch:=omega) only [go_sem,seval]
theorem Ln (l:List Vis) (c:Bool) (v:Vis) (hl:l.length<=1048576):PC 259 [.p (.list c (l.map Z9)),.p (Z9 v)] (.bool (decide (0<=vIx l v))):=by
 refine Zc Tryz.func259 rfl ZcP ?_;simp (disch:=omega) only [Tryz.f259,go_sem,seval];refine (Sz l c v hl).use ?_;simp (disch:=omega) only [go_sem,seval]
theorem wI (l:List Ord) (c:Bool) (n:Int) (hl:l.length<=1048576):PC 163 [.p (.list c (l.map Yj)),.p (.int .i64 n)] (.bool (decide (0<=n/\n<l.length))):=by
 refine Zc Tryz.func163 rfl kQ ?_;simp (disch:=omega) only [Tryz.f163,go_sem,seval];refine gT ?_ ?_<;>intro h<;>simp (disch:=omega) only [Sh.out h,go_sem,seval,↓reduceIte]
 all_goals (try simp [h])
def ZT (l:List Ord) (i:Nat):List Vis:=(if 0<=(nth l i).pick.place then [⟨i,false⟩] else [])++(if 0<=(nth l i).drp.place then [⟨i,true⟩] else [])
theorem WZ (l:List Ord) (i:Nat):(ZT l i).length<=2:=by grind [ZT]
theorem Yn {l:List Ord} {i:Nat} {v:Vis} (h:v∈ZT l i):v.order=i:=by
 grind [ZT]
theorem RF (l:List Ord) (c:Bool) (i:Nat) (hi:i<l.length) (hl:l.length<=1048576):ACalls Tryz.prog 132 [.p (.list c (l.map Yj)),.p (.int .i64 (i:Nat))] [] fun x H'=>x= .sl 0 0 (ZT l i).length (ZT l i).length/\H'= [.elems 2 ((ZT l i).map Z9)]:=by
 suffices hh:ACalls Tryz.prog 132 [.p (.list c (l.map Yj)),.p (.int .i64 (i:Nat))] [] fun x H'=> ∃m:List Vis,m=ZT l i/\x= .sl 0 0 m.length m.length/\H'= [.elems 2 (m.map Z9)] by
  grind
 refine ZJ [2] Tryz.func132 rfl Zbd ?_;simp (disch:=omega) only [Tryz.f132,go_sem,seval];refine Zp (Weak.ofNil 5 2 (by simp (disch:=omega) only [go_sem,seval]) Zb (Weak.refl _ _ _)) ?_;refine Zh [4] _ _ _ _ (Zd ?_);refine (wI l c i hl).use (Zd ?_)
 have h0:(0:Int)<=(i:Int)/\(i:Int)<(l.length:Int):=Za
 simp (disch:=omega) only [h0,go_sem,seval];refine ZN [0,1] (fun m:List Vis=> [(5,.sl 0 0 m.length m.length)]) (fun m=> [.elems 2 (m.map Z9)]) (fun m=>m=(if 0<=(nth l i).pick.place then [⟨i,false⟩] else [])) ?_ ?_
 ·refine Zd ?_;refine cD ?_ ?_<;>intro h<;>simp (disch:=omega) only [Sh.out h,go_sem,seval,↓reduceIte]
  ·exact ⟨[⟨i,false⟩],by simp [],wk⟩
  ·exact ⟨[],by simp [],wk⟩
 ·intro m hm
  have hml:m.length<=1:=by grind
  refine Zh [] _ _ _ _ (Zd ?_);refine cD ?_ ?_<;>intro h<;>simp (disch:=omega) only [Sh.out h,go_sem,seval,↓reduceIte]
  ·exact ⟨m++ [⟨i,true⟩],by simp_all [ZT],0,by simp (disch:=omega) only [go_sem,seval]⟩
  ·exact ⟨m,by simp_all [ZT],0,by simp (disch:=omega) only [go_sem,seval]⟩
theorem visits_c (l:List Ord) (c:Bool) (i:Nat) (hi:i<l.length) (hl:l.length<=1048576):PC 132 [.p (.list c (l.map Yj)),.p (.int .i64 (i:Nat))] (.list false ((ZT l i).map Z9)) :=
 (RF l c i hi hl).frozen Zb
def Ai (l:List Vis):Bool:=(List.range l.length).any fun i=>decide (0<=vIx (l.take i) (nth l i))
theorem wN (l:List Vis) (c:Bool) (hl:l.length<=1048576):PC 237 [.p (.list c (l.map Z9))] (.bool (Ai l)):=by
 refine Zc Tryz.func237 rfl Zcu ?_;simp (disch:=omega) only [Tryz.f237,go_sem,seval];refine Zl [0,5,6] (fun k:Nat=> [(7,.p (.int .i64 k))]) (fun _=> []) (fun k=>k<=l.length/\ ∀j,j<k->decide (0<=vIx (l.take j) (nth l j))=false) (fun k=>l.length-k) 0 Zb (Weak.mk ?_) ?_
 ·simp (disch:=omega) only [go_sem,seval,↓reduceIte]
 ·rintro k ⟨hk,hno⟩;refine Zd ?_;refine cD ?_ ?_<;>intro h<;>simp (disch:=omega) only [Sh.out h,go_sem,seval,↓reduceIte]
  ·have hk2:k<l.length:=Za
   refine Xd (Zd ?_);refine Zo (C1 (l.take k) _ (nth l k) (by simp;omega)) (Zd ?_);refine cD ?_ ?_<;>intro h2<;>simp (disch:=omega) only [Sh.out h2,go_sem,seval,↓reduceIte]
   ·grind [Ai]
   ·exact ⟨k+1,⟨Za,Zr.2 ⟨hno,by grind⟩⟩,Za,wk⟩
  grind [Ai]
theorem Ek (l:List Vis) (c:Bool) (g:FuncId) (caps:List V) (H:List AM.Obj) (f:Vis->Bool) (hl:l.length<=1048576) (hW:OS H H.length H H) (hc:Xs H.length caps=true)
  (hg: ∀v∈l,ACalls Tryz.prog g (.p (Z9 v)::caps) H fun x H'=>x= .p (.bool (f v))/\H'=H) :
  ACalls Tryz.prog 258 [.p (.list c (l.map Z9)),.fn (.func g) [] caps] H fun x H'=>x= .p (.int .i64 (HM f l))/\H'=H:=by
 refine Y1 Tryz.func258 rfl ZcO (Zh [] _ _ _ _ ?_);simp (disch:=omega) only [Tryz.f258,go_sem,seval];refine Zl [0,1,7] (fun k:Nat=> [(8,.p (.int .i64 k))]) (fun _=>H) (fun k=>k<=l.length/\ ∀j,j<k->f (nth l j)=false) (fun k=>l.length-k) 0 Zb (Weak.mk ?_) ?_
 ·simp (disch:=omega) only [hW,hc,go_sem,seval];simp
 ·rintro k ⟨hk,hno⟩;refine Zd ?_;refine cD ?_ ?_<;>intro h<;>simp (disch:=omega) only [Sh.out h,go_sem,seval,↓reduceIte]
  ·have hk2:k<l.length:=Za
   refine (hg (nth l k) (Zt hk2)).useH (Zd ?_);refine cD ?_ ?_<;>intro h2<;>simp (disch:=omega) only [Sh.out h2,go_sem,seval,↓reduceIte]
   ·grind [Ls]
   ·have h3:f (nth l k)=false:=Za
    refine ⟨k+1,⟨Za,Zr.2 ⟨hno,h3⟩⟩,Za,Weak.mk ?_⟩;simp (disch:=omega) only [hW,hc,go_sem,seval];simp
  grind [PI]
theorem Qi (l:List Vis) (c:Bool) (g:FuncId) (caps:List V) (H:List AM.Obj) (f:Vis->Bool) (hl:l.length<=1048576) (hW:OS H H.length H H) (hc:Xs H.length caps=true)
  (hg: ∀v∈l,ACalls Tryz.prog g (.p (Z9 v)::caps) H fun x H'=>x= .p (.bool (f v))/\H'=H) :
  ACalls Tryz.prog 234 [.p (.list c (l.map Z9)),.fn (.func g) [] caps] H fun x H'=>x= .p (.bool (l.any f))/\H'=H:=by
 refine Y1 Tryz.func234 rfl Zcr (Zh [] _ _ _ _ ?_);simp (disch:=omega) only [Tryz.f234,go_sem,seval];refine (Ek l c g caps H f hl hW hc hg).useH (Zd ?_);rw [PH]
def hasO (l:List Vis) (o:Int):Bool:=l.any fun v=>decide (v.order=o)
theorem ZaR (v:Vis) (o:Int):ACalls Tryz.prog 260 [.p (Z9 v),.ptr 0 0] [.cells [.p (.int .i64 o)]] fun x H'=>x= .p (.bool (decide (v.order=o)))/\H'= [.cells [.p (.int .i64 o)]]:=by
 refine Zg [] Tryz.func260 rfl ZcQ ?_;simp (disch:=omega) only [Tryz.f260,go_sem,seval];exact we
theorem TY (v:Vis) (o:Int):ACalls Tryz.prog 261 [.p (Z9 v),.ptr 0 0] [.cells [.p (.int .i64 o)]] fun x H'=>x= .p (.bool (decide (v.order=o)))/\H'= [.cells [.p (.int .i64 o)]]:=by
 refine Zg [] Tryz.func261 rfl ZcR ?_;simp (disch:=omega) only [Tryz.f261,go_sem,seval];exact we
theorem De (l:List Vis) (c:Bool) (o:Int) (hl:l.length<=1048576):PC 239 [.p (.list c (l.map Z9)),.p (.int .i64 o)] (.bool (hasO l o)):=by
 refine Zc Tryz.func239 rfl Zcw ?_;simp (disch:=omega) only [Tryz.f239,go_sem,seval];refine (Qi l c 260 [.ptr 0 0] [.cells [.p (.int .i64 o)]] (fun v=>decide (v.order=o)) hl (by simp (disch:=omega) only [go_sem,seval]) (by rfl) (fun v _=>ZaR v o)).useH (Zd ?_);rw [hasO]
def beforeB (l:List Vis) (a b:Int):Bool:=if HM (fun v=>decide (v.order=b)) l<0 then true else hasO l a&& !hasO (l.drop (HM (fun v=>decide (v.order=b)) l).toNat) a
theorem Oq (l:List Vis) (c:Bool) (a b:Int) (hl:l.length<=1048576):PC 240 [.p (.list c (l.map Z9)),.p (.int .i64 a),.p (.int .i64 b)] (.bool (beforeB l a b)):=by
 refine Zc Tryz.func240 rfl Zcx ?_;simp (disch:=omega) only [Tryz.f240,go_sem,seval];refine (Ek l c 261 [.ptr 0 0] [.cells [.p (.int .i64 b)]] (fun v=>decide (v.order=b)) hl (by simp (disch:=omega) only [go_sem,seval]) (by rfl) (fun v _=>TY v b)).useH ?_;have hlt:=jD (f:=fun v=>decide (v.order=b)) (l:=l);refine Zd ?_;refine cD ?_ ?_<;>intro h<;>simp (disch:=omega) only [Sh.out h,go_sem,seval]
 ·rw [beforeB,if_pos h]
 ·refine (De l c a hl).use (Zd ?_);generalize hq:HM (fun v=>decide (v.order=b)) l=q at hlt h ⊢
  cases h2:hasO l a with
  | false =>
   refine Zd ?_
   simp_all [beforeB]
  | true =>
   simp (disch:=omega) only [X7,go_sem,seval];refine (De (l.drop q.toNat) _ a (by simp;omega)).use (Zd ?_)
   simp_all [beforeB,if_neg]
def Q3 (l:List Vis):Int->List Vis->Bool
 | _,[]=>true
 | last,w::r=>decide (last<vIx l w)&&Q3 l (vIx l w) r
def pairB (os:List Ord) (l:List Vis) (v:Vis):Bool:=decide (0<=vIx (ZT os v.order.toNat) v)&&Q3 l (-1) (ZT os v.order.toNat)
theorem Ov (x:Inst) (l:List Vis) (c:Bool) (hl:l.length<=1048576) (ho:x.orders.length<=1048576) (hv: ∀v∈l,0<=v.order/\v.order<x.orders.length) :
  PC 238 [.p (Zu x),.p (.list c (l.map Z9))] (.bool (l.all (pairB x.orders l))):=by
 refine Zc Tryz.func238 rfl Zcv ?_;simp (disch:=omega) only [Tryz.f238,go_sem,seval];refine Zl [1,2,12,13] (fun k:Nat=> [(14,.p (.int .i64 k))]) (fun _=> [Ze x]) (fun k=>k<=l.length/\ ∀j,j<k->pairB x.orders l (nth l j)=true) (fun k=>l.length-k) 0 Zb (Weak.mk ?_) ?_
 ·simp (disch:=omega) only [Ze,go_sem,seval]
 ·rintro k ⟨hk,hno⟩;refine YJ ?_;refine cD ?_ ?_<;>intro h<;>simp (disch:=omega) only [Sh.out h,go_sem,seval,↓reduceIte]
  ·have hk2:k<l.length:=Za
   obtain ⟨v1,v2⟩:=hv _ (Zt hk2)
   have hbad:pairB x.orders l (nth l k)=false->l.all (pairB x.orders l)=false:=fun h4=>by
    grind [Zt]
   obtain ⟨i,hi⟩: ∃i:Nat,(nth l k).order=(i:Int):=⟨(nth l k).order.toNat,Za⟩
   have hp:pairB x.orders l (nth l k)=(decide (0<=vIx (ZT x.orders i) (nth l k))&&Q3 l (-1) (ZT x.orders i)):=by rw [pairB,hi];rfl
   rw [hi] at v1 v2;simp (disch:=omega) only [hi,go_sem,seval];refine (visits_c x.orders x.orders_c i Za ho).use (Zd ?_);have hvl:=WZ x.orders i;have hcon:=Ln (ZT x.orders i) false (nth l k) Za;rw [Sj,hi] at hcon;refine (hcon).use (Zd ?_);refine cD ?_ ?_<;>intro h2<;>simp (disch:=omega) only [Sh.out h2,go_sem,seval]
   ·grind
   ·have h2':0<=vIx (ZT x.orders i) (nth l k):=Za
    generalize hown:ZT x.orders i=own at hvl hp h2' ⊢
    have hp2:pairB x.orders l (nth l k)=Q3 l (-1) own:=by grind
    refine Zl [1,2,12,13,14,27,28] (fun q:Nat×Int=> [(8,.p (.int .i64 q.2)),(29,.p (.int .i64 q.1))]) (fun _=> [Ze x,.cells [.p (.int .i64 (i:Int)),.p (.bool (nth l k).drp)]]) (fun q=>q.1<=own.length/\Q3 l (-1) own=Q3 l q.2 (own.drop q.1)) (fun q=>own.length-q.1) (0,-1) Zb (Weak.mk ?_) ?_
    ·simp (disch:=omega) only [Ze,go_sem,seval]
    ·rintro ⟨j,last⟩ ⟨hj,ha⟩;simp only at hj ha;refine YJ ?_;refine Z1 ?_ ?_<;>intro h3
     ·have hj2:j<own.length:=Za
      have hd:own.drop j=nth own j::own.drop (j+1):=by rw [Ub hj2,Zi hj2]
      rw [hd] at ha;refine (C1 l c (nth own j) hl).use (Zd ?_);refine Z1 ?_ ?_<;>intro h4
      ·grind [Q3]
      ·have h5:last<vIx l (nth own j):=Za
       exact ⟨(j+1,vIx l (nth own j)),⟨Za,by grind [Q3]⟩,Za,wk⟩
     ·have hjl:j=own.length:=Za
      subst hjl;exact ⟨k+1,⟨Za,Zr.2 ⟨hno,by grind [Q3]⟩⟩,Za,wk⟩
  ·have hkl:k=l.length:=Za
   subst hkl
   have:l.all (pairB x.orders l)=true:=by
    rw [Zz];intro v hv;obtain ⟨j,hj,rfl⟩:=ZS.1 hv
    grind [Zi]
   rw [this]
def Xy (r:Rte):AM.Obj:= .cells [.p (.int .i64 r.typ),.p (.int .i64 r.start),.p (.list r.rests_c (r.rests.map eB)),.p (.list r.visits_c (r.visits.map Z9))]
def WJ (x:Inst) (v:Vis):Bool:= !decide (0<=v.order/\v.order<(x.orders.length:Int))
theorem iA (x:Inst) (r:Rte) (v:Vis) (ho:x.orders.length<=1048576):ACalls Tryz.prog 235 [.p (Z9 v),.ptr 0 0] [Ze x,Xy r] fun y H'=>y= .p (.bool (WJ x v))/\H'= [Ze x,Xy r]:=by
 refine Zg [] Tryz.func235 rfl Zcs ?_;simp (disch:=omega) only [Tryz.f235,Ze,Xy,go_sem,seval];refine gF ?_ ?_<;>intro h<;>simp (disch:=omega) only [Sh.out h,go_sem,seval,↓reduceIte]
 ·have e:WJ x v=true:=by
   grind [WJ]
  rw [e];exact we
 ·have e:WJ x v=decide ((x.orders.length:Int)<=v.order):=by
   have h0:0<=v.order:=Za
   rw [Wx];simp [WJ,h0]
  rw [e];exact we
theorem iB (x:Inst) (r:Rte) (v:Vis) (ho:x.orders.length<=1048576) (h1:0<=v.order) (h2:v.order<x.orders.length):ACalls Tryz.prog 236 [.p (Z9 v),.ptr 0 0] [Ze x,Xy r] fun y H'=>y= .p (.bool (nth x.orders v.order.toNat).off)/\H'= [Ze x,Xy r]:=by
 have h3:v.order.toNat<x.orders.length:=Za
 refine Zg [] Tryz.func236 rfl Zct ?_;simp (disch:=omega) only [Tryz.f236,Ze,Xy,go_sem,seval];exact we
def Xf (x:Inst) (l:List Vis):Int :=
 if l.length=0\/l.any (WJ x)=true then 2
 else if (l.any fun v=>(nth x.orders v.order.toNat).off)=true then 9
 else if Ai l=true then 6
 else if l.all (pairB x.orders l)=false then 19
 else if (x.apart.any fun p=>hasO l p.1&&hasO l p.2)=true then 20
 else if (x.before.any fun p=> !beforeB l p.1 p.2)=true then 21
 else 0
theorem Ae {P Q:Prop} (h:Q) (e:Q->P:=by intro h;simp (disch:=omega) only [Ze,Xy,go_sem,seval];exact h):P:=e h
theorem Rv (x:Inst) (r:Rte) (ho:x.orders.length<=1048576) (hl:r.visits.length<=1048576) (hap:x.apart.length<=1048576) (hbe:x.before.length<=1048576) :
  PC 211 [.p (Zu x),.p (WM r)] (.int .i64 (Xf x r.visits)):=by
 refine Zc Tryz.func211 rfl Zb5 ?_;simp (disch:=omega) only [Tryz.f211,go_sem,seval];refine gF ?_ ?_<;>intro h0<;>simp (disch:=omega) only [Sh.out h0,go_sem,seval]
 ·grind [Xf]
 ·have h00: ¬r.visits.length=0:=Za
  refine (Qi r.visits r.visits_c 235 [.ptr 0 0] [Ze x,Xy r] (WJ x) hl (by simp (disch:=omega) only [Ze,Xy,go_sem,seval]) (by rfl) (fun v _=>iA x r v ho)).useH (Ae ?_);refine cD ?_ ?_<;>intro h1<;>simp (disch:=omega) only [Sh.out h1,go_sem,seval]
  ·simp_all [Xf]
  ·have h1':r.visits.any (WJ x)=false:=Za
   have c1: ¬(r.visits.length=0\/r.visits.any (WJ x)=true):=by grind
   have hin: ∀v∈r.visits,0<=v.order/\v.order<x.orders.length:=fun v hv=>by
    grind [WJ]
   refine (Qi r.visits r.visits_c 236 [.ptr 0 0] [Ze x,Xy r] (fun v=>(nth x.orders v.order.toNat).off) hl (by simp (disch:=omega) only [Ze,Xy,go_sem,seval]) (by rfl) (fun v hv=>iB x r v ho (hin v hv).1 (hin v hv).2)).useH (Ae ?_);refine cD ?_ ?_<;>intro h2<;>simp (disch:=omega) only [Sh.out h2,go_sem,seval]
   ·simp_all [Xf]
   ·refine (wN r.visits r.visits_c hl).use (Zd ?_);refine cD ?_ ?_<;>intro h3<;>simp (disch:=omega) only [Sh.out h3,go_sem,seval,↓reduceIte]
    ·simp_all [Xf,if_neg]
    ·refine (Ov x r.visits r.visits_c hl ho hin).use (Zd ?_);refine cD ?_ ?_<;>intro h4<;>simp (disch:=omega) only [Sh.out h4,go_sem,seval,↓reduceIte]
     ·simp_all [Xf,if_neg]
     ·have h4':r.visits.all (pairB x.orders r.visits)=true:=by grind
      have hc:Xf x r.visits=if (x.apart.any fun p=>hasO r.visits p.1&&hasO r.visits p.2)=true then 20 else if (x.before.any fun p=> !beforeB r.visits p.1 p.2)=true then 21 else 0:=by
       rw [Xf,if_neg c1,if_neg (by grind),if_neg (by grind),if_neg (by grind)]
      clear h4 h4' h3 h2 c1 h1' h1 h0;refine Zl [2,5,33,34] (fun k:Nat=> [(35,.p (.int .i64 k))]) (fun _=> [Ze x,Xy r]) (fun k=>k<=x.apart.length/\ ∀j,j<k->(hasO r.visits (nth x.apart j).1&&hasO r.visits (nth x.apart j).2)=false) (fun k=>x.apart.length-k) 0 Zb (Weak.mk ?_) ?_
      ·simp (disch:=omega) only [Ze,Xy,go_sem,seval]
      ·rintro k ⟨hk,hno⟩;refine Ae ?_;refine cD ?_ ?_<;>intro h<;>simp (disch:=omega) only [Sh.out h,go_sem,seval,↓reduceIte]
       ·have hk2:k<x.apart.length:=Za
        refine (De r.visits r.visits_c (nth x.apart k).1 hl).use (Zd ?_);refine Jr ?_ ?_<;>intro h2
        ·refine (De r.visits r.visits_c (nth x.apart k).2 hl).use (Zd ?_);refine Z1 ?_ ?_<;>intro h3
         ·rw [hc,if_pos (VF hk2 (by grind))]
         ·exact ⟨k+1,⟨Za,Zr.2 ⟨hno,by grind⟩⟩,Za,wk⟩
        ·exact ⟨k+1,⟨Za,Zr.2 ⟨hno,by simp [h2]⟩⟩,Za,wk⟩
       ·have hkl:k=x.apart.length:=Za
        subst hkl;rw [hc,Q1 hno];clear hno hk h hc;rw [if_neg Zb];refine Zl [5,51,52] (fun k:Nat=> [(53,.p (.int .i64 k))]) (fun _=> [Ze x,Xy r]) (fun k=>k<=x.before.length/\ ∀j,j<k->(!beforeB r.visits (nth x.before j).1 (nth x.before j).2)=false) (fun k=>x.before.length-k) 0 Zb (Weak.mk ?_) ?_
        ·simp (disch:=omega) only [Ze,Xy,go_sem,seval]
        ·rintro k ⟨hk,hno⟩;refine Ae ?_;refine cD ?_ ?_<;>intro h<;>simp (disch:=omega) only [Sh.out h,go_sem,seval,↓reduceIte]
         ·have hk2:k<x.before.length:=Za
          refine (Oq r.visits r.visits_c (nth x.before k).1 (nth x.before k).2 hl).use (Zd ?_);refine Z1 ?_ ?_<;>intro h2
          ·have h3:(!beforeB r.visits (nth x.before k).1 (nth x.before k).2)=true:=Za
           rw [if_pos (VF hk2 h3)]
          ·have h3:(!beforeB r.visits (nth x.before k).1 (nth x.before k).2)=false:=Za
           exact ⟨k+1,⟨Za,Zr.2 ⟨hno,h3⟩⟩,Za,wk⟩
         grind [Q1]
@[go_sem] theorem ZlQ {H:List AM.Obj} {n cs cs'} :Eb H n (.tup cs) (.tup cs')=(cs'=cs/\Xs n cs=true):=by simp [Eb,eQ,refB]
@[go_sem] theorem Rq {a b:V} :Jh [a,b]= .tup [a,b]:=Zm rfl rfl
theorem Vh {g:FuncId} {args:List V} {a b:PV} {H:List AM.Obj} {K:V->List AM.Obj->Prop} (h:ACalls Tryz.prog g args [] fun x H'=>x= .tup [.p a,.p b]/\H'= []) (k:K (.tup [.p a,.p b]) H) (ha:Xs 0 args=true:=by rfl):ACalls Tryz.prog g args H K :=
 (h.behind ha H).mono fun x H' hq=>by
  obtain ⟨y,H1,⟨rfl,rfl⟩,rfl,rfl⟩:=hq
  grind [shV,shVs]
def Xx (l:List Vis):Nat:=l.foldl (fun s v=>s|||pw v.order.toNat) 0
def Hl (v:Vis):Bool:=decide (0<=v.order/\v.order<=62)
theorem DR {l:List Vis} {k:Nat} (hk:k<l.length):Xx (l.take (k+1))=Xx (l.take k)|||pw (nth l k).order.toNat:=by
 grind [Ya,Xx,Zi]
theorem AW : ∀(k:Nat) {l:List Vis},k<=l.length->(∀v∈l.take k,Hl v=true)->Xx (l.take k)<9223372036854775808
 | 0,l,_,_=>by simp [Xx]
 | k+1,l,hk,h=>by
  have hk2:k<l.length:=Za
  have ih:=AW k (l:=l) Za fun v hv=>h v (List.take_subset_take_left l Za hv);have hv:=h (nth l k) (by rw [Zi hk2];exact ZS.2 ⟨k,by simp;omega,Zb⟩);simp only [Hl,Zq] at hv;have h2:pw (nth l k).order.toNat<=pw 62:=Kx Za;have h3:=Gt;rw [DR hk2];exact Jd (n:=63) Za Za
def Jg (l:List Vis):Int×Int:=if l.all Hl=true then (((Xx l:Nat):Int),0) else (0,2)
theorem Ou (r:Rte) (hl:r.visits.length<=1048576):PT 262 [.p (WM r)] [.p (.int .i64 (Jg r.visits).1),.p (.int .i64 (Jg r.visits).2)]:=by
 refine Zg [] Tryz.func262 rfl ZcS ?_;simp (disch:=omega) only [Tryz.f262,go_sem,seval];refine Zl [8,9] (fun k:Nat=> [(4,.p (.int .i64 (Xx (r.visits.take k):Nat))),(10,.p (.int .i64 k))]) (fun _=> [Xy r]) (fun k=>k<=r.visits.length/\ ∀j,j<k->Hl (nth r.visits j)=true) (fun k=>r.visits.length-k) 0 Zb (Weak.mk ?_) ?_
 ·simp (disch:=omega) only [Xy,Xx,Je,UM,go_sem,seval]
 ·rintro k ⟨hk,hno⟩
  have hlt:=AW k hk fun v hv=>by
   obtain ⟨j,hj,rfl⟩:=ZS.1 hv
   grind [Zi]
  simp (disch:=omega) only [Xy,go_sem,seval];refine cD ?_ ?_<;>intro h<;>simp (disch:=omega) only [Sh.out h,go_sem,seval,↓reduceIte]
  ·have hk2:k<r.visits.length:=Za
   have hbad:Hl (nth r.visits k)=false->Jg r.visits=(0,2):=fun h4=>by
    grind [Zt,Jg]
   have hs:=DR hk2
   have hp:(nth r.visits k).order<=62->pw (nth r.visits k).order.toNat<=4611686018427387904:=fun h=>by rw [<- Gt];exact Kx Za
   refine gF ?_ ?_<;>intro h1<;>simp (disch:=omega) only [Sh.out h1,go_sem,seval,↓reduceIte]
   ·have e:=hbad (by simp [Hl];omega);rw [e];exact we
   ·refine Z1 ?_ ?_<;>intro h2
    ·have e:=hbad (by simp [Hl];omega);rw [e];exact we
    ·exact ⟨k+1,⟨Za,Zr.2 ⟨hno,by simp [Hl];omega⟩⟩,Za,Weak.mk (by simp (disch:=omega) only [hs,go_sem,seval])⟩
  ·have hkl:k=r.visits.length:=Za
   subst hkl
   have:r.visits.all Hl=true:=by
    rw [Zz];intro v hv;obtain ⟨j,hj,rfl⟩:=ZS.1 hv
    grind [Zi]
   have e:Jg r.visits=(((Xx r.visits:Nat):Int),0):=by simp [Jg,this]
   rw [e,X7];exact we
theorem Qp {α:Type} [Inhabited α] {a b:List α} (hl:a.length=b.length) (h: ∀j,j<a.length->nth a j=nth b j):a=b:=by
 grind [UK,Zi]
def W2 (a b:Int):Int:=if a<b then-1 else if b<a then 1 else 0
theorem SD (a:Int):PC 127 [.p (.int .i64 a)] (.bool false):=by
 refine Zc Tryz.func127 rfl Za8 ?_;simp (disch:=omega) only [Tryz.f127,go_sem,seval]
 try simp
theorem Eh (a b:Int):PC 92 [.p (.int .i64 a),.p (.int .i64 b)] (.int .i64 (W2 a b)):=by
 refine Zc Tryz.func92 rfl Zj8 ?_;simp (disch:=omega) only [Tryz.f92,go_sem,seval];refine (SD a).use (Zd ?_);refine (SD b).use (Zd ?_);refine cD ?_ ?_<;>intro h<;>simp (disch:=omega) only [Sh.out h,go_sem,seval]
 ·simp [W2,h]
 ·refine cD ?_ ?_<;>intro h2<;>simp (disch:=omega) only [Sh.out h2,go_sem,seval]
  ·simp [W2,h,h2]
  grind [W2]
def uK (l:List Int):Int:=(l.find? fun n=>decide (n≠0)).getD 0
theorem ZdG {l:List Int} {k:Nat} (hk:k<l.length) (h:nth l k≠0) (hno: ∀j,j<k->nth l j=0):uK l=nth l k:=by
 grind [nth,EO,uK]
theorem ZdH {l:List Int} (hno: ∀j,j<l.length->nth l j=0):uK l=0:=by
 have:l.find? (fun n=>decide (n≠0))=none:=by
  rw [J5];intro x hx;obtain ⟨j,hj,rfl⟩:=ZS.1 hx
  grind [Zi]
 grind [uK]
theorem uL (l:List Int) (c:Bool) (hl:l.length<=100):PC 91 [.p (.list c (l.map eI))] (.int .i64 (uK l)):=by
 refine Zc Tryz.func91 rfl Zj7 ?_;simp (disch:=omega) only [Tryz.f91,go_sem,seval];refine Zl [3,6,7] (fun k:Nat=> [(8,.p (.int .i64 k))]) (fun _=> []) (fun k=>k<=l.length/\ ∀j,j<k->nth l j=0) (fun k=>l.length-k) 0 Zb (Weak.mk ?_) ?_
 ·simp (disch:=omega) only [go_sem,seval]
 ·rintro k ⟨hk,hno⟩;refine Zd ?_;refine cD ?_ ?_<;>intro h<;>simp (disch:=omega) only [Sh.out h,go_sem,seval,↓reduceIte]
  ·have hk2:k<l.length:=Za
   refine Z1 ?_ ?_<;>intro h2
   ·grind [ZdG]
   ·exact ⟨k+1,⟨Za,Zr.2 ⟨hno,Za⟩⟩,Za,wk⟩
  grind [ZdH]
theorem E6 (a b:Int):uK [a,b]=if a=0 then b else a:=by
 grind [uK]
def dn (v:Vis):Int:=if v.drp=true then 1 else 0
theorem NR (v:Vis):PC 251 [.p (Z9 v)] (.int .i64 (dn v)):=by
 refine Zc Tryz.func251 rfl ZcH ?_;simp (disch:=omega) only [Tryz.f251,go_sem,seval];refine cD ?_ ?_<;>intro h<;>simp (disch:=omega) only [Sh.out h,go_sem,seval]
 ·simp [dn,h]
 ·simp [dn,h]
def DC (a b:Vis):Int:=if W2 a.order b.order=0 then W2 (dn a) (dn b) else W2 a.order b.order
theorem aF (a b:Vis):PC 217 [.p (Z9 a),.p (Z9 b)] (.int .i64 (DC a b)):=by
 refine Zc Tryz.func217 rfl Zcb ?_;simp (disch:=omega) only [Tryz.f217,go_sem,seval];refine Xd (Zd ?_);refine Zo (Eh a.order b.order) (Zd ?_);refine Zo (NR a) (Zd ?_);refine Zo (NR b) (Zd ?_);refine Zo (Eh (dn a) (dn b)) (Zd ?_);refine Zo (uL [W2 a.order b.order,W2 (dn a) (dn b)] false Zb) (Zd ?_);rw [E6,DC]
def BF : List Vis->List Vis->Int
 | [],[]=>0
 | [],_::_=> -1
 | _::_,[]=>1
 | a::r,b::s=>if DC a b=0 then BF r s else DC a b
theorem Qj {α:Type} [Inhabited α] {l:List α} {k:Nat} (h:k<l.length):l.drop k=nth l k::l.drop (k+1):=by rw [Ub h,Zi h]
theorem Hg (a b:List Vis) (c d:Bool) (ha:a.length<=1048576) (hb:b.length<=1048576) :
  PC 216 [.p (.list c (a.map Z9)),.p (.list d (b.map Z9)),.fn (.func 217) [] []] (.int .i64 (BF a b)):=by
 refine Zc Tryz.func216 rfl Zca ?_;simp (disch:=omega) only [Tryz.f216,go_sem,seval];refine Zl [0,1,2,11,12] (fun k:Nat=> [(13,.p (.int .i64 k))]) (fun _=> []) (fun k=>k<=a.length/\k<=b.length/\BF a b=BF (a.drop k) (b.drop k)) (fun k=>a.length-k) 0 Zb (Weak.mk ?_) ?_
 ·simp (disch:=omega) only [go_sem,seval,↓reduceIte]
 ·rintro k ⟨hk,hkb,hle⟩;refine Zd ?_;refine cD ?_ ?_<;>intro h<;>simp (disch:=omega) only [Sh.out h,go_sem,seval,↓reduceIte]
  ·have hk2:k<a.length:=Za
   rw [Qj hk2] at hle;refine cD ?_ ?_<;>intro h2<;>simp (disch:=omega) only [Sh.out h2,go_sem,seval,↓reduceIte]
   ·have:b.drop k= []:=CC Za;rw [hle,this];rfl
   ·have hk3:k<b.length:=Za
    rw [Qj hk3] at hle;refine (aF (nth a k) (nth b k)).use (Zd ?_);refine cD ?_ ?_<;>intro h3<;>simp (disch:=omega) only [Sh.out h3,go_sem,seval,↓reduceIte]
    ·simp_all [BF]
    ·have h4:DC (nth a k) (nth b k)=0:=Za
     exact ⟨k+1,⟨Za,Za,by simp_all [BF]⟩,Za,wk⟩
  ·have hkl:k=a.length:=Za
   subst hkl;rw [UJ] at hle;refine cD ?_ ?_<;>intro h2<;>simp (disch:=omega) only [Sh.out h2,go_sem,seval]
   ·rw [Qj Za] at hle;rw [hle];rfl
   ·have:b.drop a.length= []:=CC Za;rw [hle,this];rfl
theorem dL (a b:List Vis) (c d:Bool) (ha:a.length<=1048576) (hb:b.length<=1048576):PC 196 [.p (.list c (a.map Z9)),.p (.list d (b.map Z9))] (.bool (decide (BF a b<0))):=by
 refine Zc Tryz.func196 rfl ZbU ?_;simp (disch:=omega) only [Tryz.f196,go_sem,seval];refine (Hg a b c d ha hb).use ?_;simp (disch:=omega) only [go_sem,seval]
def KC (l:List Vis) (v:Vis):List Vis->Bool
 | []=>true
 | w::r=>if w=v then true else decide (0<=vIx l w)&&KC l v r
def Um (l own:List Vis):Bool:=own.all fun w=>decide (0<=vIx l w)
def KH (os:List Ord) (l:List Vis) (o:Int) (p:Int×Int):Bool:=decide (p.2≠o)||Um l (ZT os p.1.toNat)
def Y7 (x:Inst) (l:List Vis) (v:Vis):Bool:=decide (vIx l v<0)&&KC l v (ZT x.orders v.order.toNat)&&x.before.all (KH x.orders l v.order)
def QX (v:Vis):AM.Obj:= .cells [.p (.int .i64 v.order),.p (.bool v.drp)]
theorem pJ {l:List Vis} {v:Vis} : -1<=vIx l v/\vIx l v<l.length:=by
 simp_all [jD,vIx]
theorem Rw (x:Inst) (l:List Vis) (c:Bool) (v:Vis) (hl:l.length<=1048576) (ho:x.orders.length<=1048576) (hbl:x.before.length<=1048576) (hv:0<=v.order/\v.order<x.orders.length) (hb: ∀p∈x.before,0<=p.1/\p.1<x.orders.length) :
  PC 197 [.p (Zu x),.p (.list c (l.map Z9)),.p (Z9 v)] (.bool (Y7 x l v)):=by
 refine UV [3] Tryz.func197 rfl ZbV ?_;simp (disch:=omega) only [Tryz.f197,go_sem,seval];refine (C1 l c v hl).use (Zd ?_);refine cD ?_ ?_<;>intro h<;>simp (disch:=omega) only [Sh.out h,go_sem,seval]
 ·grind [Y7]
 ·have h1:vIx l v<0:=Za
  obtain ⟨i,hi⟩: ∃i:Nat,v.order=(i:Int):=⟨v.order.toNat,Za⟩
  have hr:Y7 x l v=(KC l v (ZT x.orders i)&&x.before.all (KH x.orders l v.order)):=by
   grind [Y7]
  have hvi:=visits_c x.orders x.orders_c i Za ho;rw [<- hi] at hvi;refine ZN [1,3,5] (fun _:Unit=> []) (fun _=> [Ze x,QX v]) (fun _=>KC l v (ZT x.orders i)=true) ?_ ?_
  ·refine Zd ?_;refine (hvi).use (Zd ?_);have hvl:=WZ x.orders i;generalize hown:ZT x.orders i=own at hvl hr ⊢;refine Zl [1,3,5,21,22] (fun k:Nat=> [(23,.p (.int .i64 k))]) (fun _=> [Ze x,QX v]) (fun k=>k<=own.length/\KC l v own=KC l v (own.drop k)) (fun k=>own.length-k) 0 Zb (Weak.mk ?_) ?_
   ·simp (disch:=omega) only [Ze,QX,go_sem,seval]
   ·rintro k ⟨hk,hp⟩;simp (disch:=omega) only [Ze,QX,go_sem,seval];refine Z1 ?_ ?_<;>intro h2
    ·have hk2:k<own.length:=Za
     rw [Qj hk2] at hp;refine Z1 ?_ ?_<;>intro h3
     ·have h4:nth own k=v:=by grind [D9]
      exact ⟨(),by simp_all [KC],wk⟩
     ·have h4: ¬nth own k=v:=by grind
      refine (C1 l c (nth own k) hl).use (Zd ?_);refine Z1 ?_ ?_<;>intro h5
      ·have h6: ¬ 0<=vIx l (nth own k):=Za
       simp_all [KC]
      ·have h6:0<=vIx l (nth own k):=Za
       exact ⟨k+1,⟨Za,by simp_all [KC]⟩,Za,wk⟩
    ·have hkl:k=own.length:=Za
     subst hkl;exact ⟨(),by rw [hp,UJ];rfl,wk⟩
  ·rintro _ hpre;rw [hpre,VP] at hr;refine Zh [] _ _ _ _ ?_;simp (disch:=omega) only [Ze,QX,go_sem,seval];refine Zl [1,3,5,36,37] (fun k:Nat=> [(38,.p (.int .i64 k))]) (fun _=> [Ze x,QX v]) (fun k=>k<=x.before.length/\ ∀j,j<k->KH x.orders l v.order (nth x.before j)=true) (fun k=>x.before.length-k) 0 Zb (Weak.mk ?_) ?_
   ·simp (disch:=omega) only [Ze,QX,go_sem,seval]
   ·rintro k ⟨hk,hno⟩;simp (disch:=omega) only [Ze,QX,go_sem,seval];refine cD ?_ ?_<;>intro h2<;>simp (disch:=omega) only [Sh.out h2,go_sem,seval,↓reduceIte]
    ·have hk2:k<x.before.length:=Za
     have hbk:=hb _ (Zt hk2)
     have hbad:KH x.orders l v.order (nth x.before k)=false->Y7 x l v=false:=fun h4=>by
      grind [Zt]
     refine Z1 ?_ ?_<;>intro h3
     ·exact ⟨k+1,⟨Za,Zr.2 ⟨hno,by simp [KH,h3]⟩⟩,Za,wk⟩
     ·obtain ⟨a,hao⟩: ∃a:Nat,(nth x.before k).1=(a:Int):=⟨(nth x.before k).1.toNat,Za⟩;have hva:=visits_c x.orders x.orders_c a Za ho;rw [<- hao] at hva
      have h3':(nth x.before k).2=v.order:=Za
      have hbe:KH x.orders l v.order (nth x.before k)=Um l (ZT x.orders a):=by grind [KH]
      refine (hva).use (Zd ?_);have hvl:=WZ x.orders a;generalize hown:ZT x.orders a=own at hvl hbe ⊢;refine Zl [1,3,5,36,37,38,51,52] (fun k:Nat=> [(53,.p (.int .i64 k))]) (fun _=> [Ze x,QX v,.cells [.p (.int .i64 (nth x.before k).1),.p (.int .i64 (nth x.before k).2)]]) (fun q=>q<=own.length/\ ∀j,j<q->decide (0<=vIx l (nth own j))=true) (fun k=>own.length-k) 0 Zb (Weak.mk ?_) ?_
      ·simp (disch:=omega) only [Ze,QX,go_sem,seval]
      ·rintro q ⟨hq,hnq⟩;simp (disch:=omega) only [Ze,QX,go_sem,seval];refine Z1 ?_ ?_<;>intro h4
       ·have hq2:q<own.length:=Za
        refine (C1 l c (nth own q) hl).use (Zd ?_);refine Z1 ?_ ?_<;>intro h5
        ·grind [Um,Zt]
        ·exact ⟨q+1,⟨Za,Zr.2 ⟨hnq,by simp;omega⟩⟩,Za,wk⟩
       ·have hql:q=own.length:=Za
        subst hql
        have:Um l own=true:=by
         rw [Um,Zz];intro w hw;obtain ⟨j,hj,rfl⟩:=ZS.1 hw
         grind [Zi]
        exact ⟨k+1,⟨Za,Zr.2 ⟨hno,by grind⟩⟩,Za,wk⟩
    ·have hkl:k=x.before.length:=Za
     subst hkl
     have:x.before.all (KH x.orders l v.order)=true:=by
      rw [Zz];intro w hw;obtain ⟨j,hj,rfl⟩:=ZS.1 hw
      grind [Zi]
     rw [hr,this]
def Ur (x:Inst) (S:Nat) (l:List Vis) (i:Nat):List Vis:=if S.testBit i=true/\(nth x.orders i).off=false then (ZT x.orders i).filter (Y7 x l) else []
def nextU (x:Inst) (S:Nat) (l:List Vis) (k:Nat):List Vis:=(List.range k).flatMap (Ur x S l)
theorem BI (x S l k):nextU x S l (k+1)=nextU x S l k++Ur x S l k:=by simp [nextU,Yl]
theorem bP (x S l i):(Ur x S l i).length<=2:=by
 grind [Ur,WZ]
theorem JB (x S l): ∀k,(nextU x S l k).length<=2*k
 | 0=>by simp [nextU]
 | k+1=>by
  have h1:=JB x S l k;have h2:=bP x S l k;rw [BI,ZA];omega
theorem dM (x:Inst) (S:Nat) (l:List Vis) (c:Bool) (hS:S<9223372036854775808) (hl:l.length<=1048576) (ho:x.orders.length<=60) (hbl:x.before.length<=1048576) (hb: ∀p∈x.before,0<=p.1/\p.1<x.orders.length) :
  PC 167 [.p (Zu x),.p (.int .i64 (S:Nat)),.p (.list c (l.map Z9))] (.list false ((nextU x S l x.orders.length).map Z9)):=by
 refine ACalls.frozen (S:=2) (n:=(nextU x S l x.orders.length).length) Zb ?_
 suffices hh:ACalls Tryz.prog 167 [.p (Zu x),.p (.int .i64 (S:Nat)),.p (.list c (l.map Z9))] [] fun y H'=> ∃m:List Vis,m=nextU x S l x.orders.length/\y= .sl 0 0 m.length m.length/\H'= [.elems 2 (m.map Z9)] by
  grind
 refine ZJ [2] Tryz.func167 rfl ZbD ?_;simp (disch:=omega) only [Tryz.f167,go_sem,seval];refine Zp (Weak.ofNil 7 2 (by simp (disch:=omega) only [go_sem,seval]) Zb (Weak.refl _ _ _)) ?_;refine Zh [] _ _ _ _ (Zd ?_);refine Zl [1,2,3,13,14] (fun q:Nat×List Vis=> [(7,.sl 1 0 q.2.length q.2.length),(15,.p (.int .i64 q.1))]) (fun q=> [Ze x,.elems 2 (q.2.map Z9)]) (fun q=>q.1<=x.orders.length/\q.2=nextU x S l q.1) (fun q=>x.orders.length-q.1) (0,[]) ⟨Zb,by simp [nextU]⟩ (Weak.mk ?_) ?_
 ·simp (disch:=omega) only [Ze,go_sem,seval]
 ·rintro ⟨k,m⟩ ⟨hk,hm⟩;simp only at hk hm
  have hml:m.length<=2*k:=by grind [JB]
  have hsc:=BI x S l k;refine YJ ?_;refine cD ?_ ?_<;>intro h<;>simp (disch:=omega) only [Sh.out h,go_sem,seval,↓reduceIte]
  ·have hk2:k<x.orders.length:=Za
   refine Ll ?_ ?_<;>intro h62
   ·omega
   refine Ll ?_ ?_<;>intro h2
   ·have hbit:S.testBit k=false:=by grind [Lb]
    have e:Ur x S l k= []:=by simp [Ur,hbit]
    exact ⟨(k+1,m),⟨Za,by grind⟩,Za,wk⟩
   ·have hbit:S.testBit k=true:=by
     grind [Lb]
    refine Z1 ?_ ?_<;>intro h3
    ·have e:Ur x S l k= []:=by simp [Ur,h3]
     exact ⟨(k+1,m),⟨Za,by grind⟩,Za,wk⟩
    ·have h3':(nth x.orders k).off=false:=Za
     have e:Ur x S l k=(ZT x.orders k).filter (Y7 x l):=by grind [Ur]
     refine (visits_c x.orders x.orders_c k hk2 Za).use (Zd ?_);have hvl:=WZ x.orders k;have hvo: ∀v∈ZT x.orders k,v.order=k:=fun v hv=>Yn hv;generalize hown:ZT x.orders k=own at hvl e hvo ⊢;refine Zl [1,2,3,13,14,15,36,37] (fun q:Nat×List Vis=> [(7,.sl 1 0 q.2.length q.2.length),(38,.p (.int .i64 q.1))]) (fun q=> [Ze x,.elems 2 (q.2.map Z9),YQ (nth x.orders k)]) (fun q=>q.1<=own.length/\q.2=m++(own.take q.1).filter (Y7 x l)) (fun q=>own.length-q.1) (0,m) ⟨Zb,Zb⟩ (Weak.mk ?_) ?_
     ·simp (disch:=omega) only [Ze,YQ,h3',go_sem,seval]
     ·rintro ⟨j,m2⟩ ⟨hj,hm2⟩;simp only at hj hm2
      have hm2l:m2.length<=2*k+2:=by
       grind
      simp (disch:=omega) only [Ze,YQ,h3',go_sem,seval];refine Z1 ?_ ?_<;>intro h4
      ·have hj2:j<own.length:=Za
       have hvj:=hvo _ (Zt hj2)
       have htk:own.take (j+1)=own.take j++ [nth own j]:=by rw [Ya hj2,Zi hj2]
       have hrd:=Rw x l c (nth own j) hl Za hbl Za hb;refine (hrd).use (Zd ?_);refine Z1 ?_ ?_<;>intro h5
       ·exact ⟨(j+1,m2++ [nth own j]),⟨Za,by grind⟩,Za,Weak.mk (by simp (disch:=omega) only [h3',go_sem,seval])⟩
       ·exact ⟨(j+1,m2),⟨Za,by grind⟩,Za,Weak.mk (by simp (disch:=omega) only [h3',go_sem,seval])⟩
      ·have hjl:j=own.length:=Za
       subst hjl;exact ⟨(k+1,m2),⟨Za,by grind⟩,Za,wk⟩
  ·have hkn:k=x.orders.length:=Za
   subst hkn;exact ⟨m,hm,1,by simp (disch:=omega) only [go_sem,seval]⟩
theorem ZaE (l:List Vis) (c:Bool) (hl:l.length<=1048576):PC 170 [.p (.list c (l.map Z9))] (.list true (l.map Z9)):=by
 refine Zc Tryz.func170 rfl ZbG ?_;simp (disch:=omega) only [Tryz.f170,go_sem,seval,↓reduceIte]
@[go_sem] theorem Zoj {H:List AM.Obj} {u2:TypeId} {xs:List PV} {y:V} {k:V->List AM.Obj->Prop} {tt} :Sl Tryz.prog H 117 u2 (.p (.list true xs)) y (Zv k tt)=BM ((TN (some (2,16)) xs (YX (Tryz.prog.underlying u2) H y)).map .p) (Zv (fun v=>k v H) ⟨⟩):=PE RT
def Zqq (nx:List Vis->List Vis):Nat->List Vis->List (List Vis)->List (List Vis)×Bool
 | 0,l,outs=>(outs++ [l],decide (outs.length+1<=8192))
 | f+1,l,outs=>(nx l).foldl (fun acc v=>if acc.2=true then Zqq nx f (l++ [v]) acc.1 else acc) (outs,true)
def Ag (x:Inst) (S k:Nat):Nat:=((List.range k).map fun i=>if S.testBit i=true then (ZT x.orders i).length else 0).sum
theorem A8 (x S k):Ag x S (k+1)=Ag x S k+if S.testBit k=true then (ZT x.orders k).length else 0:=by simp [Ag,Yl]
theorem Dm (x S): ∀k,Ag x S k<=2*k
 | 0=>by simp [Ag]
 | k+1=>by
  have h1:=Dm x S k;have h2:=WZ x.orders k;rw [A8]
  split<;>omega
def nHas (S:Nat) (i:Int):Bool:=decide (0<=i/\i<=62)&&S.testBit i.toNat
theorem NO {S i:Nat} (h:i<=62):nHas S (i:Int)=S.testBit i:=by
 grind [nHas]
theorem JF (S:Nat) (i:Int) (hS:S<9223372036854775808):PC 187 [.p (.int .i64 (S:Nat)),.p (.int .i64 i)] (.bool (nHas S i)):=by
 refine Zc Tryz.func187 rfl ZbM ?_;simp (disch:=omega) only [Tryz.f187,go_sem,seval];refine gT ?_ ?_<;>intro h<;>simp (disch:=omega) only [Sh.out h,go_sem,seval,↓reduceIte]
 ·refine gT ?_ ?_<;>intro h1<;>simp (disch:=omega) only [Sh.out h1,go_sem,seval,↓reduceIte]
  ·refine gT ?_ ?_<;>intro h2<;>simp (disch:=omega) only [Sh.out h2,go_sem,seval,↓reduceIte]
   ·have e:((S / pw i.toNat:Nat):Int).tmod 2=((S / pw i.toNat%2:Nat):Int):=by rfl
    rw [e];have h3:(((S / pw i.toNat%2:Nat):Int)=1)=(S.testBit i.toNat=true):=Lc
    simp_all [nHas]
   ·simp [nHas,h2]
  ·simp [nHas,h1]
 ·omega
theorem Om (x:Inst) (i:Nat) (hi:i<x.orders.length) (hl:x.orders.length<=1048576) (hpl: ∀o∈x.orders,-1<=o.pick.place/\ -1<=o.drp.place):ACalls Tryz.prog 189 [.p (Zu x),.p (.int .i64 (i:Nat))] [] fun y H'=>y= .sl 0 0 (ZT x.orders i).length (ZT x.orders i).length/\H'= [.elems 2 ((ZT x.orders i).map Z9)]:=by
 suffices hh:ACalls Tryz.prog 189 [.p (Zu x),.p (.int .i64 (i:Nat))] [] fun y H'=> ∃m:List Vis,m=ZT x.orders i/\y= .sl 0 0 m.length m.length/\H'= [.elems 2 (m.map Z9)] by
  grind
 obtain ⟨h1,h2⟩:=hpl _ (Zt hi);refine ZJ [2] Tryz.func189 rfl ZbO ?_;simp (disch:=omega) only [Tryz.f189,go_sem,seval];refine Zp (Weak.ofNil 5 2 (by simp (disch:=omega) only [go_sem,seval]) Zb (Weak.refl _ _ _)) ?_;refine ZN [1,2] (fun m:List Vis=> [(5,.sl 1 0 m.length m.length)]) (fun m=> [Ze x,.elems 2 (m.map Z9)]) (fun m=>m=(if 0<=(nth x.orders i).pick.place then [⟨i,false⟩] else [])) ?_ ?_
 ·refine Zd ?_;refine Z1 ?_ ?_<;>intro h
  ·exact ⟨[⟨i,false⟩],by grind,Weak.mk (by simp (disch:=omega) only [Ze,go_sem,seval])⟩
  ·exact ⟨[],by grind,Weak.mk (by simp (disch:=omega) only [Ze,go_sem,seval])⟩
 ·intro m hm
  have hml:m.length<=1:=by grind
  refine Zh [] _ _ _ _ (YJ ?_);refine cD ?_ ?_<;>intro h<;>simp (disch:=omega) only [Sh.out h,go_sem,seval,↓reduceIte]
  ·exact ⟨m++ [⟨i,true⟩],by rw [ZT,hm,if_pos (c:=0<=(nth x.orders i).drp.place) Za],1,by simp (disch:=omega) only [go_sem,seval]⟩
  ·exact ⟨m,by simp_all [ZT],1,by simp (disch:=omega) only [go_sem,seval]⟩
theorem D1 (x:Inst) (i:Nat) (hi:i<x.orders.length) (hl:x.orders.length<=1048576) (hpl: ∀o∈x.orders,-1<=o.pick.place/\ -1<=o.drp.place):PC 189 [.p (Zu x),.p (.int .i64 (i:Nat))] (.list false ((ZT x.orders i).map Z9)) :=
 (Om x i hi hl hpl).frozen Zb
theorem Qy (l:List Vis) (c:Bool) (v:Vis) (hl:l.length<=1048576):PC 190 [.p (.list c (l.map Z9)),.p (Z9 v)] (.int .i64 (vIx l v)):=by
 refine Zc Tryz.func190 rfl ZbP ?_;simp (disch:=omega) only [Tryz.f190,go_sem,seval];refine Zl [0,3] (fun k:Nat=> [(5,.p (.int .i64 k))]) (fun _=> [QX v]) (fun k=>k<=l.length/\ ∀j,j<k->decide (v=nth l j)=false) (fun k=>l.length-k) 0 Zb (Weak.mk ?_) ?_
 ·simp (disch:=omega) only [QX,go_sem,seval,↓reduceIte]
 ·rintro k ⟨hk,hno⟩;simp (disch:=omega) only [QX,go_sem,seval];refine cD ?_ ?_<;>intro h<;>simp (disch:=omega) only [Sh.out h,go_sem,seval,↓reduceIte]
  ·have hk2:k<l.length:=Za
   refine Xd (Zd ?_);refine cD ?_ ?_<;>intro h2<;>simp (disch:=omega) only [Sh.out h2,go_sem,seval,↓reduceIte]
   ·have:v=nth l k:=Eq.symm (by grind [D9])
    grind [vIx,Ls]
   ·have: ¬v=nth l k:=fun e=>by grind
    exact ⟨k+1,⟨Za,Zr.2 ⟨hno,by grind⟩⟩,Za,wk⟩
  grind [vIx,PI]
theorem Eo (l s:List Vis) (c d:Bool) (hl:l.length<=1048576) (hs:s.length<=1048576):PC 204 [.p (.list c (l.map Z9)),.p (.list d (s.map Z9))] (.bool (Um l s)):=by
 refine Zc Tryz.func204 rfl ZbZ ?_;simp (disch:=omega) only [Tryz.f204,go_sem,seval];refine Zl [0,1] (fun k:Nat=> [(5,.p (.int .i64 k))]) (fun _=> []) (fun k=>k<=s.length/\ ∀j,j<k->decide (0<=vIx l (nth s j))=true) (fun k=>s.length-k) 0 Zb (Weak.mk ?_) ?_
 ·simp (disch:=omega) only [go_sem,seval,↓reduceIte]
 ·rintro k ⟨hk,hno⟩;refine Zd ?_;refine cD ?_ ?_<;>intro h<;>simp (disch:=omega) only [Sh.out h,go_sem,seval,↓reduceIte]
  ·have hk2:k<s.length:=Za
   refine (Qy l c (nth s k) hl).use (Zd ?_);refine cD ?_ ?_<;>intro h2<;>simp (disch:=omega) only [Sh.out h2,go_sem,seval,↓reduceIte]
   ·grind [Um,Zt]
   ·exact ⟨k+1,⟨Za,Zr.2 ⟨hno,by simp;omega⟩⟩,Za,wk⟩
  ·have hkl:k=s.length:=Za
   subst hkl
   have:Um l s=true:=by
    rw [Um,Zz];intro w hw;obtain ⟨j,hj,rfl⟩:=ZS.1 hw
    grind [Zi]
   rw [this]
theorem nW (a b:Vis):PC 210 [.p (Z9 a),.p (Z9 b)] (.bool (decide (DC a b<0))):=by
 refine Zc Tryz.func210 rfl Zb4 ?_;simp (disch:=omega) only [Tryz.f210,go_sem,seval]
 repeat' (first | (refine gT ?_ ?_<;>intro hq<;>simp (disch:=omega) only [Sh.out hq,go_sem,seval,↓reduceIte]) | (refine gF ?_ ?_<;>intro hq<;>simp (disch:=omega) only [Sh.out hq,go_sem,seval,↓reduceIte]) | (refine QF (fun hq=> ?_) (fun hq=> ?_)<;>(try simp only [Zq,Yd,Z7] at hq)<;>simp (disch:=omega) only [Sh.out hq,go_sem,seval]))
 ·simp_all [DC,W2]
 ·rename_i h1 h2
  have ha:a.drp=false:=by grind
  cases hb:b.drp<;>simp [DC,W2,dn,h2,ha,hb]
 ·grind [DC,W2,dn]
 grind [DC,W2]
theorem DB {a b:Int} :W2 a b=0↔a=b:=by grind [W2]
theorem ZaI {a b:Vis} :dn a=dn b↔a.drp=b.drp:=by grind [dn]
theorem HE {a b:Vis} :DC a b=0↔a=b:=by
 grind [DC,D9,DB,ZaI]
theorem vM (a b:List Vis) (c d:Bool) (ha:a.length<=1048576) (hb:b.length<=1048576):PC 192 [.p (.list c (a.map Z9)),.p (.list d (b.map Z9))] (.bool (decide (BF a b<0))):=by
 refine Zc Tryz.func192 rfl ZbR ?_;simp (disch:=omega) only [Tryz.f192,go_sem,seval];refine Zl [0,1] (fun k:Nat=> [(5,.p (.int .i64 k))]) (fun _=> []) (fun k=>k<=a.length/\k<=b.length/\BF a b=BF (a.drop k) (b.drop k)) (fun k=>a.length-k) 0 Zb (Weak.mk ?_) ?_
 ·simp (disch:=omega) only [go_sem,seval,↓reduceIte]
 ·rintro k ⟨hk,hkb,hle⟩;refine Zd ?_;refine gT ?_ ?_<;>intro h<;>simp (disch:=omega) only [Sh.out h,go_sem,seval,↓reduceIte]
  ·refine cD ?_ ?_<;>intro h2<;>simp (disch:=omega) only [Sh.out h2,go_sem,seval,↓reduceIte]
   ·have hk2:k<a.length:=Za
    have hk3:k<b.length:=Za
    rw [Qj hk2,Qj hk3,BF] at hle;refine Xd (Zd ?_);refine cD ?_ ?_<;>intro h3<;>simp (disch:=omega) only [Sh.out h3,go_sem,seval,↓reduceIte]
    ·have hne:DC (nth a k) (nth b k)≠0:=fun e=>by
      grind [HE]
     refine Xd (Zd ?_);refine Zo (nW (nth a k) (nth b k)) (Zd ?_)
     grind
    ·have e2:nth a k=nth b k:=by
      grind [D9]
     exact ⟨k+1,⟨Za,Za,by simp_all [HE]⟩,Za,wk⟩
   grind [Qj,BF]
  ·have:a.drop k= []:=CC Za;rw [hle,this]
   cases hb:b.drop k with
   | nil =>
    have:b.length<=k:=List.drop_eq_nil_iff.1 hb;simp [BF];omega
   | cons x r =>
    have:k<b.length:=by
     grind
    simp [BF];omega
theorem cG {S n:Nat} (h:S.testBit n=true):S|||pw n=S:=by
 apply CG
 grind [Kq]
theorem mL {S n:Nat} (h:S.testBit n=false):S|||pw n=S+pw n:=by
 have e:S%2^(n+1)=S%2^n+2^n*(S / 2^n%2):=Nat.mod_pow_succ;rw [Nat.testBit_eq_decide_div_mod_eq] at h
 have h0:S / 2^n%2=0:=by grind
 rw [h0,Nat.mul_zero,Uh] at e;have hp:0<2^n:=Nat.two_pow_pos n
 have hs:2^(n+1)=2^n+2^n:=Za
 have r1:S%2^(n+1)<2^n:=Za
 have e1:=Nat.two_pow_add_eq_or_of_lt (i:=n) r1 1;have e2:=Nat.two_pow_add_eq_or_of_lt (i:=n+1) (b:=2^n*1+S%2^(n+1)) Za (S / 2^(n+1));have e3:=Nat.two_pow_add_eq_or_of_lt (i:=n+1) (b:=S%2^(n+1)) Za (S / 2^(n+1));have e4:=Nat.div_add_mod S (2^(n+1));rw [pw]
 grind
theorem Iw (r:Rte) (hl:r.visits.length<=1048576):PT 147 [.p (WM r)] [.p (.int .i64 (Jg r.visits).1),.p (.int .i64 (Jg r.visits).2)]:=by
 refine Zg [] Tryz.func147 rfl Zbp ?_;simp (disch:=omega) only [Tryz.f147,go_sem,seval];refine Zl [1] (fun k:Nat=> [(4,.p (.int .i64 (Xx (r.visits.take k):Nat))),(5,.p (.int .i64 k))]) (fun _=> [Xy r]) (fun k=>k<=r.visits.length/\ ∀j,j<k->Hl (nth r.visits j)=true) (fun k=>r.visits.length-k) 0 Zb (Weak.mk ?_) ?_
 ·simp (disch:=omega) only [Xy,Xx,Je,UM,go_sem,seval]
 ·rintro k ⟨hk,hno⟩
  have hlt:=AW k hk fun v hv=>by
   obtain ⟨j,hj,rfl⟩:=ZS.1 hv
   grind [Zi]
  simp (disch:=omega) only [Xy,go_sem,seval];refine cD ?_ ?_<;>intro h<;>simp (disch:=omega) only [Sh.out h,go_sem,seval,↓reduceIte]
  ·have hk2:k<r.visits.length:=Za
   have hbad:Hl (nth r.visits k)=false->Jg r.visits=(0,2):=fun h4=>by
    grind [Zt,Jg]
   have hs:=DR hk2
   have hp:(nth r.visits k).order<=62->pw (nth r.visits k).order.toNat<=4611686018427387904:=fun h=>by rw [<- Gt];exact Kx Za
   refine gF ?_ ?_<;>intro h1<;>simp (disch:=omega) only [Sh.out h1,go_sem,seval,↓reduceIte]
   ·have e:=hbad (by simp [Hl];omega);rw [e];exact we
   ·refine cD ?_ ?_<;>intro h2<;>simp (disch:=omega) only [Sh.out h2,go_sem,seval]
    ·have e:=hbad (by simp [Hl];omega);rw [e];exact we
    ·have h4:=hp Za;refine (JF (Xx (r.visits.take k)) (nth r.visits k).order hlt).use (Zd ?_)
     have hin:0<=(nth r.visits k).order/\(nth r.visits k).order<=62:=Za
     have hnh:nHas (Xx (r.visits.take k)) (nth r.visits k).order=(Xx (r.visits.take k)).testBit (nth r.visits k).order.toNat:=by simp [nHas,hin]
     rw [hnh];have hno2:=(Zr (p:=fun j=>Hl (nth r.visits j)=true)).2 ⟨hno,by simp [Hl];omega⟩
     have hlt2:=AW (k+1) hk2 fun v hv=>by
      obtain ⟨j,hj,rfl⟩:=ZS.1 hv
      grind [Zi]
     refine Z1 ?_ ?_<;>intro h5
     ·have h6:(Xx (r.visits.take k)).testBit (nth r.visits k).order.toNat=false:=by grind
      rw [mL h6] at hs;rw [hs] at hlt2;exact ⟨k+1,⟨Za,hno2⟩,Za,Weak.mk (by simp (disch:=omega) only [hs,Int.natCast_add,go_sem,seval])⟩
     ·have h6:(Xx (r.visits.take k)).testBit (nth r.visits k).order.toNat=true:=by grind
      rw [cG h6] at hs;exact ⟨k+1,⟨Za,hno2⟩,Za,Weak.mk (by simp (disch:=omega) only [hs,go_sem,seval])⟩
  ·have hkl:k=r.visits.length:=Za
   subst hkl
   have:r.visits.all Hl=true:=by
    rw [Zz];intro v hv;obtain ⟨j,hj,rfl⟩:=ZS.1 hv
    grind [Zi]
   have e:Jg r.visits=(((Xx r.visits:Nat):Int),0):=by simp [Jg,this]
   rw [e,X7];exact we
def Plc (x:Inst):Prop:= ∀o∈x.orders,-1<=o.pick.place/\ -1<=o.drp.place
theorem wQ {l:List Vis} {v w:Vis} (h:vIx l v=vIx l w) (h0:0<=vIx l v):v=w:=by
 unfold vIx HM at h h0
 cases hv:l.findIdx? (fun u=>decide (v=u)) with
 | none=>grind
 | some i =>
  grind [Ua]
theorem Kr (os:List Ord) (i:Nat):ZT os i= []\/ZT os i= [⟨i,false⟩]\/ZT os i= [⟨i,true⟩]\/ZT os i= [⟨i,false⟩,⟨i,true⟩]:=by
 grind [ZT]
theorem mW {l own:List Vis} (ho:own= []\/(∃v,own= [v])\/ ∃v w,own= [v,w]/\v≠w) :
  Q3 l (-1) own=(Um l own&& !(decide (own.length=2)&&decide (vIx l (nth own 1)<vIx l (nth own 0)))):=by
 rcases ho with rfl | ⟨v,rfl⟩ | ⟨v,w,rfl,hne⟩
 ·rfl
 ·grind [Q3,Um]
 ·have hne2:0<=vIx l v->vIx l v≠vIx l w:=fun h0 h=>hne (wQ h h0);have h1:= @pJ l v;have h2:= @pJ l w;rw [Wx];simp [Q3,Um,nth];omega
theorem OO (os:List Ord) (i:Nat):ZT os i= []\/(∃v,ZT os i= [v])\/ ∃v w,ZT os i= [v,w]/\v≠w:=by
 grind [Kr]
theorem Fo {α:Type} [Inhabited α] {l:List α} {f:α->Bool} {k:Nat} (hk:k<l.length) (h:f (nth l k)=false):l.all f=false:=by
 grind [Zt]
theorem IZ {α:Type} [Inhabited α] {l:List α} {f:α->Bool} (h: ∀j,j<l.length->f (nth l j)=true):l.all f=true:=by
 rw [Zz];intro v hv;obtain ⟨j,hj,rfl⟩:=ZS.1 hv
 grind [Zi]
theorem dE (x:Inst) (l:List Vis) (c:Bool) (hl:l.length<=1048576) (ho:x.orders.length<=1048576) (hp:Plc x) (hv: ∀v∈l,0<=v.order/\v.order<x.orders.length) :
  PC 225 [.p (Zu x),.p (.list c (l.map Z9))] (.bool (l.all (pairB x.orders l))):=by
 refine Zc Tryz.func225 rfl Zci ?_;simp (disch:=omega) only [Tryz.f225,go_sem,seval];refine Zl [1,2] (fun k:Nat=> [(5,.p (.int .i64 k))]) (fun _=> [Ze x]) (fun k=>k<=l.length/\ ∀j,j<k->pairB x.orders l (nth l j)=true) (fun k=>l.length-k) 0 Zb (Weak.mk ?_) ?_
 ·simp (disch:=omega) only [Ze,go_sem,seval]
 ·rintro k ⟨hk,hno⟩;refine YJ ?_;refine cD ?_ ?_<;>intro h<;>simp (disch:=omega) only [Sh.out h,go_sem,seval,↓reduceIte]
  ·have hk2:k<l.length:=Za
   obtain ⟨v1,v2⟩:=hv _ (Zt hk2);obtain ⟨i,hi⟩: ∃i:Nat,(nth l k).order=(i:Int):=⟨(nth l k).order.toNat,Za⟩;rw [hi] at v1 v2
   have hpb:pairB x.orders l (nth l k)=(decide (0<=vIx (ZT x.orders i) (nth l k))&&Q3 l (-1) (ZT x.orders i)):=by rw [pairB,hi];rfl
   have hown:=OO x.orders i;rw [mW hown] at hpb;refine Xd ?_;simp (disch:=omega) only [hi,go_sem,seval];refine Zo (D1 x i Za ho hp) (Zd ?_);have hvl:=WZ x.orders i;generalize ZT x.orders i=own at hvl hpb;have hix:=Qy own false (nth l k) Za;rw [Sj,hi] at hix;refine Xd ?_;simp (disch:=omega) only [hi,go_sem,seval];refine Zo (hix) (Zd ?_);refine gF ?_ ?_<;>intro h2<;>simp (disch:=omega) only [Sh.out h2,go_sem,seval]
   ·grind [Fo]
   ·have h3:0<=vIx own (nth l k):=Za
    have hgo:pairB x.orders l (nth l k)=true-> ∀j,j<k+1->pairB x.orders l (nth l j)=true:=fun e=>Zr.2 ⟨hno,e⟩;refine Zo (Eo l own c false hl Za) (Zd ?_);refine gF ?_ ?_<;>intro h4<;>simp (disch:=omega) only [Sh.out h4,go_sem,seval]
    ·grind [Fo]
    ·have h5:Um l own=true:=by grind
     rw [h5] at hpb;refine Jr ?_ ?_<;>intro h6
     ·have h7:own.length=2:=Za
      refine Zo (Qy l c (nth own 0) hl) (Zd ?_);refine Zo (Qy l c (nth own 1) hl) (Zd ?_);refine Z1 ?_ ?_<;>intro h8
      ·grind [Fo]
      ·exact ⟨k+1,⟨Za,hgo (by grind)⟩,Za,wk⟩
     ·exact ⟨k+1,⟨Za,hgo (by grind)⟩,Za,wk⟩
  grind [IZ]
def apB (x:Inst) (S:Nat):Bool:=x.apart.any fun p=>nHas S p.1&&nHas S p.2
theorem nQ (x:Inst) (S:Nat) (hS:S<9223372036854775808) (ha:x.apart.length<=1048576):PC 226 [.p (Zu x),.p (.int .i64 (S:Nat))] (.bool (!apB x S)):=by
 refine Zc Tryz.func226 rfl Zcj ?_;simp (disch:=omega) only [Tryz.f226,go_sem,seval];refine Zl [1,2] (fun k:Nat=> [(5,.p (.int .i64 k))]) (fun _=> [Ze x]) (fun k=>k<=x.apart.length/\ ∀j,j<k->(nHas S (nth x.apart j).1&&nHas S (nth x.apart j).2)=false) (fun k=>x.apart.length-k) 0 Zb (Weak.mk ?_) ?_
 ·simp (disch:=omega) only [Ze,go_sem,seval]
 ·rintro k ⟨hk,hno⟩;refine YJ ?_;refine cD ?_ ?_<;>intro h<;>simp (disch:=omega) only [Sh.out h,go_sem,seval,↓reduceIte]
  ·have hk2:k<x.apart.length:=Za
   refine (JF S (nth x.apart k).1 hS).use (Zd ?_);refine Jr ?_ ?_<;>intro h2
   ·refine (JF S (nth x.apart k).2 hS).use (Zd ?_);refine Z1 ?_ ?_<;>intro h3
    ·grind [apB,VF]
    ·exact ⟨k+1,⟨Za,Zr.2 ⟨hno,by grind⟩⟩,Za,wk⟩
   ·exact ⟨k+1,⟨Za,Zr.2 ⟨hno,by rw [h2];rfl⟩⟩,Za,wk⟩
  grind [apB,Q1]
def Kv (l:List Vis) (a b:Int) (j k:Nat):Bool:=decide ((nth l j).order=a)&&decide ((nth l k).order=b)
def QS (S:Nat) (l:List Vis) (p:Int×Int):Bool:= !nHas S p.2||(nHas S p.1&&(List.range l.length).all fun j=>(List.range j).all fun k=> !Kv l p.1 p.2 j k)
theorem cU (x:Inst) (S:Nat) (l:List Vis) (c:Bool) (hS:S<9223372036854775808) (hl:l.length<=1048576) (hb:x.before.length<=1048576):PC 227 [.p (Zu x),.p (.int .i64 (S:Nat)),.p (.list c (l.map Z9))] (.bool (x.before.all (QS S l))):=by
 refine Zc Tryz.func227 rfl Zck ?_;simp (disch:=omega) only [Tryz.f227,go_sem,seval];refine Zl [1,2,3] (fun k:Nat=> [(7,.p (.int .i64 k))]) (fun _=> [Ze x]) (fun k=>k<=x.before.length/\ ∀j,j<k->QS S l (nth x.before j)=true) (fun k=>x.before.length-k) 0 Zb (Weak.mk ?_) ?_
 ·simp (disch:=omega) only [Ze,go_sem,seval]
 ·rintro i ⟨hi,hno⟩;refine YJ ?_;refine cD ?_ ?_<;>intro h<;>simp (disch:=omega) only [Sh.out h,go_sem,seval,↓reduceIte]
  ·have hi2:i<x.before.length:=Za
   have hgo:QS S l (nth x.before i)=true-> ∀j,j<i+1->QS S l (nth x.before j)=true:=fun e=>Zr.2 ⟨hno,e⟩;have hbad:QS S l (nth x.before i)=false->x.before.all (QS S l)=false:=fun e=>Fo hi2 e;have hdef:QS S l (nth x.before i)=(!nHas S (nth x.before i).2||(nHas S (nth x.before i).1&&(List.range l.length).all fun j=>(List.range j).all fun k=> !Kv l (nth x.before i).1 (nth x.before i).2 j k)):=rfl;generalize QS S l (nth x.before i)=R at hgo hbad hdef;generalize nth x.before i=p at hdef ⊢;refine (JF S p.2 hS).use (Zd ?_)
   refine Z1 ?_ ?_<;>intro h2
   ·have h3:nHas S p.2=false:=by grind
    exact ⟨i+1,⟨Za,hgo (by grind)⟩,Za,wk⟩
   ·have h3:nHas S p.2=true:=by grind
    refine (JF S p.1 hS).use (Zd ?_);refine cD ?_ ?_<;>intro h4<;>simp (disch:=omega) only [Sh.out h4,go_sem,seval]
    ·grind
    ·have h5:nHas S p.1=true:=by grind
     rw [h3,h5] at hdef;simp only [YV,Bool.false_or,VP] at hdef;refine Zl [1,2,3,7,8,9] (fun k:Nat=> [(10,.p (.int .i64 k))]) (fun _=> [Ze x]) (fun k=>k<=l.length/\ ∀j,j<k-> ∀q,q<j->Kv l p.1 p.2 j q=false) (fun k=>l.length-k) 0 Zb (Weak.mk ?_) ?_
     ·simp (disch:=omega) only [Ze,go_sem,seval]
     ·rintro j ⟨hj,hnj⟩;refine YJ ?_;refine Z1 ?_ ?_<;>intro h6
      ·have hj2:j<l.length:=Za
       refine Zl [1,2,3,7,8,9,10] (fun k:Nat=> [(11,.p (.int .i64 k))]) (fun _=> [Ze x]) (fun k=>k<=j/\ ∀q,q<k->Kv l p.1 p.2 j q=false) (fun k=>j-k) 0 Zb (Weak.mk ?_) ?_
       ·simp (disch:=omega) only [Ze,go_sem,seval]
       ·rintro k ⟨hk,hnk⟩;refine YJ ?_;refine Z1 ?_ ?_<;>intro h7
        ·have hk2:k<j:=Za
         refine Jr ?_ ?_<;>intro h8
         ·refine Z1 ?_ ?_<;>intro h9
          ·rw [hbad (by
            rw [hdef,List.all_eq_false];refine ⟨j,by grind,?_⟩;rw [UI,List.all_eq_false]
            exact ⟨k,by grind,by simp [Kv,h8,h9]⟩)]
          ·exact ⟨k+1,⟨Za,Zr.2 ⟨hnk,by simp [Kv,h9]⟩⟩,Za,wk⟩
         ·exact ⟨k+1,⟨Za,Zr.2 ⟨hnk,by simp [Kv,h8]⟩⟩,Za,wk⟩
        ·have hkl:k=j:=Za
         subst hkl;exact ⟨k+1,⟨Za,(Zr (p:=fun j=> ∀q,q<j->Kv l p.1 p.2 j q=false)).2 ⟨hnj,hnk⟩⟩,Za,wk⟩
      ·have hjl:j=l.length:=Za
       subst hjl;refine ⟨i+1,⟨Za,hgo ?_⟩,Za,wk⟩
       grind
  grind [IZ]
theorem nZ (x:Inst) (i:Nat) (l:List Vis) (c:Bool) (hl:l.length<=1048576) (ho:x.orders.length<=1048576) (hbl:x.before.length<=1048576) (hp:Plc x) (hb: ∀p∈x.before,0<=p.1/\p.1<x.orders.length) (hi:i<=1048576) :
  PC 188 [.p (Zu x),.p (.int .i64 (i:Nat)),.p (.list c (l.map Z9))] (.bool (x.before.all (KH x.orders l (i:Int)))):=by
 refine Zc Tryz.func188 rfl ZbN ?_;simp (disch:=omega) only [Tryz.f188,go_sem,seval];refine Zl [1,2,3] (fun k:Nat=> [(7,.p (.int .i64 k))]) (fun _=> [Ze x]) (fun k=>k<=x.before.length/\ ∀j,j<k->KH x.orders l (i:Int) (nth x.before j)=true) (fun k=>x.before.length-k) 0 Zb (Weak.mk ?_) ?_
 ·simp (disch:=omega) only [Ze,go_sem,seval]
 ·rintro k ⟨hk,hno⟩;refine YJ ?_;refine cD ?_ ?_<;>intro h<;>simp (disch:=omega) only [Sh.out h,go_sem,seval,↓reduceIte]
  ·have hk2:k<x.before.length:=Za
   obtain ⟨b1,b2⟩:=hb _ (Zt hk2);obtain ⟨a,hao⟩: ∃a:Nat,(nth x.before k).1=(a:Int):=⟨(nth x.before k).1.toNat,Za⟩;have hva:=D1 x a Za ho hp;rw [<- hao] at hva
   have hdef:KH x.orders l (i:Int) (nth x.before k)=(decide ((nth x.before k).2≠(i:Int))||Um l (ZT x.orders a)):=by rw [KH,hao];rfl
   refine Jr ?_ ?_<;>intro h2
   ·refine gF ?_ ?_<;>intro h3<;>simp (disch:=omega) only [Sh.out h3,go_sem,seval,↓reduceIte]
    ·omega
    ·refine gF ?_ ?_<;>intro h4<;>simp (disch:=omega) only [Sh.out h4,go_sem,seval,↓reduceIte]
     ·omega
     ·refine (hva).use (Zd ?_);have hvl:=WZ x.orders a;refine (Eo l (ZT x.orders a) c false hl Za).use (Zd ?_);refine Z1 ?_ ?_<;>intro h5
      ·grind [Fo]
      ·have h6:Um l (ZT x.orders a)=true:=by grind
       exact ⟨k+1,⟨Za,Zr.2 ⟨hno,by grind⟩⟩,Za,wk⟩
   ·exact ⟨k+1,⟨Za,Zr.2 ⟨hno,by grind⟩⟩,Za,wk⟩
  grind [IZ]
theorem Mg (S:Nat) (i:Int):sHas (S:Int) i=nHas S i:=by
 by_cases h:0<=i/\i<=62
 ·obtain ⟨k,rfl⟩: ∃k:Nat,i=(k:Int):=⟨i.toNat,Za⟩
  grind [WW,NO]
 ·have h2:nHas S i=false:=by simp only [nHas,h,Kb,QK]
  grind [sHas]
theorem F9 {S:Nat} {i:Int} :nHas S i=true↔0<=i/\i<=62/\S.testBit i.toNat=true:=by simp [nHas,QN]
theorem Pr {S n i:Nat} (h:S / pw n=0) (hi:S.testBit i=true):i<n:=by
 rcases Wy i n with h2 | h2
 ·exact h2
 ·have h3:S<2^n:=by
   have:=(Nat.div_eq_zero_iff).1 h;rcases this with h4 | h4
   ·grind [Gu]
   ·exact h4
  grind [UG,YB,AB]
theorem Jz {S:Nat} {a:Int} :a∈X8 (S:Int) 63↔ ∃i:Nat,a=(i:Int)/\i<63/\S.testBit i=true:=by
 simp only [X8,Xw,Jf,ZM]
 constructor
 ·rintro ⟨i,⟨h1,h2⟩,rfl⟩;rw [WW S i Za] at h2
  grind
 ·rintro ⟨i,rfl,h1,h2⟩;exact ⟨i,⟨h1,by grind [WW]⟩,rfl⟩
structure Alw (x:Inst) (S:Nat):Prop where
 off: ∀i,i<x.orders.length->S.testBit i=true->(nth x.orders i).off=false
 apart:apB x S=false
 closed: ∀p∈x.before,nHas S p.2=true->nHas S p.1=true
 acyc: ∀i,i<x.orders.length->S.testBit i=true-> ¬Ch x.before i i
theorem VM {c:Prop} [Decidable c] {a b:Int} (ha:a≠0):(if c then a else b)=0↔ ¬c/\b=0:=by
 grind
theorem QG {x:Inst} {S:Nat} (hn:x.orders.length<=60) (hS:S / pw x.orders.length=0) (hv:Val x.orders.length x.before):WB x.orders x.apart x.before (S:Int)=0↔Alw x S:=by
 have hlt: ∀i,S.testBit i=true->i<x.orders.length:=fun i h=>Pr hS h
 have e0: ¬(S:Int)<0:=Za
 unfold WB;rw [if_neg e0,VM Za,VM Za,VM Za,VM Za,VM Za];simp only [and_true]
 constructor
 ·rintro ⟨_,h2,h3,h4,h5⟩;simp only [UI] at h2 h3 h4 h5;rw [Vb] at h2 h4 h5;refine ⟨fun i hi hb=> ?_,?_,fun p hp hb=> ?_,fun i hi hb hc=> ?_⟩
  ·have:=h2 (i:Int) (Jz.2 ⟨i,rfl,Za,hb⟩)
   grind
  ·grind [apB,Mg]
  ·have:=h4 p hp
   simp_all [Mg]
  ·have:=h5 (i:Int) (Jz.2 ⟨i,rfl,Za,hb⟩)
   grind [WW,U9]
 ·rintro ⟨h1,h2,h3,h4⟩;refine ⟨?_,?_,?_,?_,?_⟩
  ·simp only [UI];rw [Vb];intro a ha;obtain ⟨i,rfl,h5,h6⟩:=Jz.1 ha
   grind
  ·simp only [UI];rw [Vb];intro a ha;obtain ⟨i,rfl,h5,h6⟩:=Jz.1 ha
   grind
  ·simp only [Mg,UI];exact h2
  ·simp only [UI]
   grind [Mg]
  ·simp only [UI];rw [Vb];intro a ha;obtain ⟨i,rfl,h5,h6⟩:=Jz.1 ha
   grind [WW,U9]
theorem HN {f g:Nat->Bool} {b:Nat} : ∀(l:List Nat),(∀a,f a=true->g a=true)->f b=false->g b=true->b∈l->(l.filter f).length<(l.filter g).length
 | [],_,_,_,h=>by simp at h
 | x::l,hfg,hf,hg,h=>by
  have hle: ∀l:List Nat,(l.filter f).length<=(l.filter g).length:=by
   intro l
   induction l with
   | nil=>simp
   | cons y l ih =>
    grind
  simp only [EX];rcases Xa.1 h with rfl | h
  ·grind
  ·have:=HN l hfg hf hg h
   grind
theorem PG {n:Nat} {be:List (Int×Int)} (hv:Val n be) {P:Nat->Prop} (hP: ∀i,P i->i<n/\ ¬Ch be i i) {i:Nat} (hi:P i): ∃i,P i/\ ∀p∈be,p.2=(i:Int)-> ¬P p.1.toNat:=by
 suffices h: ∀(k i:Nat),P i->((List.range n).filter fun a=>(nth (Kt n be) i).testBit a).length<k-> ∃i,P i/\ ∀p∈be,p.2=(i:Int)-> ¬P p.1.toNat from h _ i hi (Nat.lt_succ_self _)
 intro k
 induction k with
 | zero=>omega
 | succ k ih =>
  intro i hi hk
  by_cases h: ∃p∈be,p.2=(i:Int)/\P p.1.toNat
  ·obtain ⟨p,hp,h1,h2⟩:=h;obtain ⟨v1,v2,v3,v4⟩:=hv p hp;have hE:Ed be p.1.toNat i:=⟨p,hp,Za,h1⟩;refine ih p.1.toNat h2 (UG (HN (b:=p.1.toNat) _ (fun a ha=> ?_) ?_ ?_ ?_) (by omega:((List.range n).filter fun a=>(nth (Kt n be) i).testBit a).length<=k))
   ·exact (U9 hv a i (hP i hi).1).2 (((U9 hv a _ (hP _ h2).1).1 ha).more hE)
   ·grind [U9]
   ·exact (U9 hv _ i (hP i hi).1).2 (.one hE)
   grind
  grind
theorem WI {l:List Vis} {v:Vis} :0<=vIx l v↔v∈l:=by
 grind [PH,vIx]
theorem Zem {l:List Vis} {v:Vis} :vIx l v<0↔v ∉ l:=by rw [<- WI];omega
theorem TK {l own:List Vis} :Um l own=true↔ ∀w∈own,w∈l:=by
 grind [Um,WI]
theorem gK {os:List Ord} {l:List Vis} {o:Int} {p:Int×Int} :KH os l o p=true↔(p.2=o-> ∀w∈ZT os p.1.toNat,w∈l):=by
 rw [KH,Vq,TK,Zq]
 grind
theorem gM {x:Inst} {l:List Vis} {o:Int} :x.before.all (KH x.orders l o)=true↔ ∀p∈x.before,p.2=o-> ∀w∈ZT x.orders p.1.toNat,w∈l:=by
 simp_all [gK]
def Vne (x:Inst):Prop:= ∀i,i<x.orders.length->ZT x.orders i≠ []
theorem nL {l own:List Vis} (ho:own= []\/(∃v,own= [v])\/ ∃v w,own= [v,w]/\v≠w) {k:Nat} (hk:k<own.length):KC l (nth own k) own=(decide (k=0)||decide (0<=vIx l (nth own 0))):=by
 rcases ho with rfl | ⟨v,rfl⟩ | ⟨v,w,rfl,hne⟩
 ·simp at hk
 ·grind [KC,nth]
 ·have:k=0\/k=1:=by grind
  rcases this with rfl | rfl
  ·simp [KC,nth]
  grind [KC,nth]
theorem dB (x:Inst) (S:Nat) (l:List Vis) (c:Bool) (hS:S<9223372036854775808) (hl:l.length<=1048576) (ho:x.orders.length<=60) (hbl:x.before.length<=1048576) (hp:Plc x) (hb: ∀p∈x.before,0<=p.1/\p.1<x.orders.length) :
  ACalls Tryz.prog 146 [.p (Zu x),.p (.int .i64 (S:Nat)),.p (.list c (l.map Z9))] [] fun y H'=> ∃m:List Vis,m=nextU x S l x.orders.length/\y= .sl 0 0 m.length m.length/\H'= [.elems 2 (m.map Z9)]:=by
 refine ZJ [2] Tryz.func146 rfl Zbo ?_;simp (disch:=omega) only [Tryz.f146,go_sem,seval];refine Zp (Weak.ofNil 7 2 (by simp (disch:=omega) only [go_sem,seval]) Zb (Weak.refl _ _ _)) ?_;refine Zh [] _ _ _ _ (Zd ?_);refine Zl [1,2,3] (fun q:Nat×List Vis=> [(7,.sl 1 0 q.2.length q.2.length),(8,.p (.int .i64 q.1))]) (fun q=> [Ze x,.elems 2 (q.2.map Z9)]) (fun q=>q.1<=x.orders.length/\q.2=nextU x S l q.1) (fun q=>x.orders.length-q.1) (0,[]) ⟨Zb,by simp [nextU]⟩ (Weak.mk ?_) ?_
 ·simp (disch:=omega) only [Ze,go_sem,seval]
 ·rintro ⟨i,m⟩ ⟨hi,hm⟩;simp only at hi hm
  have hml:m.length<=2*i:=by grind [JB]
  have hsc:=BI x S l i;refine YJ ?_;refine cD ?_ ?_<;>intro h<;>simp (disch:=omega) only [Sh.out h,go_sem,seval,↓reduceIte]
  ·have hi2:i<x.orders.length:=Za
   have hskip:Ur x S l i= []->(i+1,m).2=nextU x S l (i+1):=fun e=>by grind
   refine (JF S (i:Int) hS).use (Zd ?_);rw [NO Za];refine Ll ?_ ?_<;>intro h2
   ·have hbit:S.testBit i=false:=by grind
    exact ⟨(i+1,m),⟨Za,hskip (by simp [Ur,hbit])⟩,Za,wk⟩
   ·have hbit:S.testBit i=true:=by grind
    refine Ll ?_ ?_<;>intro h3
    ·exact ⟨(i+1,m),⟨Za,hskip (by simp [Ur,h3])⟩,Za,wk⟩
    ·have e:Ur x S l i=(ZT x.orders i).filter (Y7 x l):=by grind [Ur]
     refine (nZ x i l c hl Za hbl hp hb Za).use (Zd ?_);refine Z1 ?_ ?_<;>intro h4
     ·have h5:x.before.all (KH x.orders l (i:Int))=false:=by grind
      refine ⟨(i+1,m),⟨Za,hskip ?_⟩,Za,wk⟩
      grind [List.filter_eq_nil_iff,Y7,Yn]
     ·have h5:x.before.all (KH x.orders l (i:Int))=true:=by grind
      refine (D1 x i hi2 Za hp).use (Zd ?_);have hvl:=WZ x.orders i;have hvo: ∀v∈ZT x.orders i,v.order=i:=fun v hv=>Yn hv;have htwo:=OO x.orders i
      have hrd: ∀k,k<(ZT x.orders i).length->Y7 x l (nth (ZT x.orders i) k)=(decide (vIx l (nth (ZT x.orders i) k)<0)&&(decide (k=0)||decide (0<=vIx l (nth (ZT x.orders i) 0)))):=fun k hk=>by
       simp_all [Y7,Zt,nL]
      generalize hown:ZT x.orders i=own at hvl e hvo hrd ⊢;refine Zl [1,2,3,8,9] (fun q:Nat×List Vis=> [(7,.sl 1 0 q.2.length q.2.length),(10,.p (.int .i64 q.1))]) (fun q=> [Ze x,.elems 2 (q.2.map Z9)]) (fun q=>q.1<=own.length/\q.2=m++(own.take q.1).filter (Y7 x l)) (fun q=>own.length-q.1) (0,m) ⟨Zb,Zb⟩ (Weak.mk ?_) ?_
      ·simp (disch:=omega) only [Ze,go_sem,seval]
      ·rintro ⟨j,m2⟩ ⟨hj,hm2⟩;simp only at hj hm2
       have hm2l:m2.length<=2*i+2:=by
        grind
       refine YJ ?_;refine Z1 ?_ ?_<;>intro h6
       ·have hj2:j<own.length:=Za
        have htk:own.take (j+1)=own.take j++ [nth own j]:=by rw [Ya hj2,Zi hj2]
        have hr:=hrd j hj2
        have hyes:Y7 x l (nth own j)=true->((j+1,m2++ [nth own j]):Nat×List Vis).2=m++(own.take (j+1)).filter (Y7 x l):=fun h7=>by
         grind
        have hno:Y7 x l (nth own j)=false->((j+1,m2):Nat×List Vis).2=m++(own.take (j+1)).filter (Y7 x l):=fun h7=>by
         grind
        refine (Qy l c (nth own j) hl).use (Zd ?_);refine Jr ?_ ?_<;>intro h7
        ·refine Ll ?_ ?_<;>intro h8
         ·exact ⟨(j+1,m2++ [nth own j]),⟨Za,hyes (by grind)⟩,Za,wk⟩
         ·refine (Qy l c (nth own 0) hl).use (Zd ?_);refine Z1 ?_ ?_<;>intro h9
          ·exact ⟨(j+1,m2++ [nth own j]),⟨Za,hyes (by grind)⟩,Za,wk⟩
          ·exact ⟨(j+1,m2),⟨Za,hno (by grind)⟩,Za,wk⟩
        ·exact ⟨(j+1,m2),⟨Za,hno (by grind)⟩,Za,wk⟩
       ·have hjl:j=own.length:=Za
        subst hjl;exact ⟨(i+1,m2),⟨Za,by grind⟩,Za,wk⟩
  ·have hkn:i=x.orders.length:=Za
   subst hkn;exact ⟨m,hm,1,by simp (disch:=omega) only [go_sem,seval]⟩
theorem S9 (x:Inst) (S:Nat) (l:List Vis) (c:Bool) (hS:S<9223372036854775808) (hl:l.length<=1048576) (ho:x.orders.length<=60) (hbl:x.before.length<=1048576) (hp:Plc x) (hb: ∀p∈x.before,0<=p.1/\p.1<x.orders.length) :
  PC 146 [.p (Zu x),.p (.int .i64 (S:Nat)),.p (.list c (l.map Z9))] (.list false ((nextU x S l x.orders.length).map Z9)) :=
 ACalls.frozen (S:=2) (n:=(nextU x S l x.orders.length).length) Zb ((dB x S l c hS hl ho hbl hp hb).mono fun y H' ⟨m,hm,h1,h2⟩=>by grind)
inductive Gr (x:Inst) (S:Nat):List Vis->Prop where
 | nil:Gr x S []
 | snoc {l:List Vis} {v:Vis} (h:Gr x S l) (hv:v∈nextU x S l x.orders.length):Gr x S (l++ [v])
theorem RE (os:List Ord) (i:Nat):(ZT os i).Nodup:=by
 grind [Kr]
theorem nK {os:List Ord} {i:Nat} {l:List Vis} {v:Vis} (hv:v∈ZT os i):KC l v (ZT os i)=true↔(v.drp=true->⟨i,false⟩∈ZT os i->⟨i,false⟩∈l):=by
 rcases Kr os i with h | h | h | h<;>rw [h] at hv ⊢ <;>simp at hv
 ·grind [KC]
 ·grind [KC]
 ·rcases hv with rfl | rfl
  ·simp [KC]
  ·simp [KC,WI]
theorem Vt {x:Inst} {l:List Vis} {v:Vis} {i:Nat} (hv:v∈ZT x.orders i):Y7 x l v=true↔v ∉ l/\(v.drp=true->⟨i,false⟩∈ZT x.orders i->⟨i,false⟩∈l)/\ ∀p∈x.before,p.2=(i:Int)-> ∀w∈ZT x.orders p.1.toNat,w∈l:=by
 have h:=Yn hv;rw [Y7,h,XK,Zw,Zw,Zq,Zem,nK hv,gM,QN]
theorem VQ {x:Inst} {S:Nat} {l:List Vis} {v:Vis} {k:Nat} :v∈nextU x S l k↔ ∃i,i<k/\S.testBit i=true/\(nth x.orders i).off=false/\v∈ZT x.orders i/\Y7 x l v=true:=by
 rw [nextU,X1]
 constructor
 ·grind [Ur]
 ·rintro ⟨i,hi,h1,h2,h3,h4⟩;exact ⟨i,by grind,by simp_all [Ur]⟩
def Bw (x:Inst) (S k:Nat):List Vis:=(List.range k).flatMap fun i=>if S.testBit i=true then ZT x.orders i else []
theorem Hv (x S k):Bw x S (k+1)=Bw x S k++if S.testBit k=true then ZT x.orders k else []:=by simp [Bw,Yl]
theorem Jn (x S): ∀k,(Bw x S k).length=Ag x S k
 | 0=>by rfl
 | k+1=>by
  rw [Hv,A8,ZA,Jn x S k]
  split<;>simp
theorem WU {x S k v} :v∈Bw x S k↔ ∃i,i<k/\S.testBit i=true/\v∈ZT x.orders i:=by
 simp_all [Bw]
theorem Bx (x S): ∀k,(Bw x S k).Nodup
 | 0=>by simp [Bw]
 | k+1=>by
  rw [Hv,CH];refine ⟨Bx x S k,?_,fun a ha b hb=> ?_⟩
  ·grind [RE]
  ·obtain ⟨i,hi,_,h2⟩:=WU.1 ha
   split at hb
   ·have h3:=Yn h2;have h4:=Yn hb
    grind
   ·simp at hb
theorem Gr.nodup {x S l} (h:Gr x S l):l.Nodup:=by
 induction h with
 | nil=>simp
 | snoc _ hv ih =>
  obtain ⟨i,_,_,_,h4,h5⟩:=VQ.1 hv;rw [CH];refine ⟨ih,Zb,fun a ha b hb=> ?_⟩;simp at hb;subst hb;exact fun e=>((Vt h4).1 h5).1 (e ▸ ha)
theorem Gr.sub {x S l} (h:Gr x S l): ∀v∈l,v∈Bw x S x.orders.length:=by
 induction h with
 | nil=>simp
 | snoc _ hv ih =>
  obtain ⟨i,h1,h2,_,h4,_⟩:=VQ.1 hv;intro w hw;rcases Xe.1 hw with hw | hw
  ·exact ih w hw
  ·simp at hw;subst hw;exact WU.2 ⟨i,h1,h2,h4⟩
theorem Fc {α:Type} [DecidableEq α] {l m:List α} (hl:l.Nodup) (h: ∀v∈l,v∈m):l.length<=m.length:=List.Nodup.length_le_of_subset hl h
theorem Zeb {α:Type} [DecidableEq α] {l m:List α} (hl:l.Nodup) (h: ∀v∈l,v∈m) (hm:m.length<=l.length): ∀v∈m,v∈l:=fun v hv=>by
 refine Ke fun hno=> ?_
 have:(v::l).length<=m.length:=Fc (by grind) (fun w hw=>by
  grind)
 grind
theorem Gr.len {x S l} (h:Gr x S l):l.length<=Ag x S x.orders.length:=by
 rw [<- Jn];exact Fc h.nodup h.sub
theorem Gr.full {x S l} (h:Gr x S l) (hl:l.length=Ag x S x.orders.length): ∀v∈Bw x S x.orders.length,v∈l:=Zeb h.nodup h.sub (by rw [Jn];omega)
theorem Gr.more {x S l} (ha:Alw x S) (hn:x.orders.length<=60) (hv:Val x.orders.length x.before) (hm: ∃v∈Bw x S x.orders.length,v ∉ l): ∃v,v∈nextU x S l x.orders.length:=by
 obtain ⟨v,hva,hvl⟩:=hm;obtain ⟨i,h1,h2,h3⟩:=WU.1 hva;obtain ⟨j,⟨j1,j2,w,j3,j4⟩,hj⟩:=PG hv (P:=fun i=>i<x.orders.length/\S.testBit i=true/\ ∃w∈ZT x.orders i,w ∉ l) (fun i hi=>⟨hi.1,ha.acyc i hi.1 hi.2.1⟩) ⟨h1,h2,v,h3,hvl⟩
 have hpre: ∀p∈x.before,p.2=(j:Int)-> ∀w∈ZT x.orders p.1.toNat,w∈l:=fun p hp e w hw=>by
  refine Ke fun hno=> ?_;obtain ⟨v1,v2,v3,v4⟩:=hv p hp;have:=ha.closed p hp (F9.2 ⟨Za,Za,by grind⟩);exact hj p hp e ⟨Za,(F9.1 this).2.2,w,hw,hno⟩
 by_cases hf:(⟨j,false⟩:Vis)∈ZT x.orders j/\(⟨j,false⟩:Vis) ∉ l
 ·exact ⟨⟨j,false⟩,VQ.2 ⟨j,j1,j2,ha.off j j1 j2,hf.1,(Vt hf.1).2 ⟨hf.2,Zb,hpre⟩⟩⟩
 ·refine ⟨w,VQ.2 ⟨j,j1,j2,ha.off j j1 j2,j3,(Vt j3).2 ⟨j4,fun _ hq=> ?_,hpre⟩⟩⟩
  grind
theorem Gr.next_nil {x S l} (h:Gr x S l) (ha:Alw x S) (hn:x.orders.length<=60) (hv:Val x.orders.length x.before):nextU x S l x.orders.length= []↔l.length=Ag x S x.orders.length:=by
 constructor
 ·intro e;refine Ke fun hno=> ?_
  have hex: ∃v∈Bw x S x.orders.length,v ∉ l:=Ke fun hno2=>hno (by
   have h1: ∀v∈Bw x S x.orders.length,v∈l:=fun v hv=>Ke fun h3=>hno2 ⟨v,hv,h3⟩;have:=Fc (Bx x S _) h1;rw [Jn] at this;have:=h.len
   omega)
  obtain ⟨v,hv⟩:=Gr.more (l:=l) ha hn hv hex
  grind
 ·intro e;rw [List.eq_nil_iff_forall_not_mem];intro v hv;obtain ⟨i,h1,h2,_,h4,h5⟩:=VQ.1 hv;exact ((Vt h4).1 h5).1 (h.full e v (WU.2 ⟨i,h1,h2,h4⟩))
theorem Tt {x:Inst} {S:Nat} (hne:Vne x) (hS:S / pw x.orders.length=0) (h0:S≠0):0<Ag x S x.orders.length:=by
 have: ∃i,S.testBit i=true:=by
  refine Ke fun hno=>h0 (CG fun i=> ?_)
  grind
 obtain ⟨i,hi⟩:=this;have hlt:=Pr hS hi;obtain ⟨v,hv⟩:=List.exists_mem_of_ne_nil _ (hne i hlt);have hm:v∈Bw x S x.orders.length:=WU.2 ⟨i,hlt,hi,hv⟩
 grind [Jn]
def ext (nx:List Vis->List Vis):Nat->List Vis->List (List Vis)->List (List Vis)
 | 0,l,outs=>if 8192<outs.length then outs else outs++ [l]
 | f+1,l,outs=>if 8192<outs.length then outs else (nx l).foldl (fun acc v=>ext nx f (l++ [v]) acc) outs
theorem T2 {S n:Nat} (hS:S<9223372036854775808) (h: ∀j,j<63->S.testBit j=true->j<n):S / pw n=0:=by
 refine QJ ?_;refine Nat.lt_pow_two_of_testBit S fun i hi=> ?_;rcases Wy i 63 with h2 | h2
 ·grind
 ·exact AB (UG hS (YB Za h2:2^63<=2^i))
def N7 (x:Inst) (l:List Vis):Int :=
 if l.any (WJ x)=true then 2
 else if l.length=0 then 2
 else if (l.any fun v=>(nth x.orders v.order.toNat).off)=true then 9
 else if ((List.range l.length).any fun i=>decide (vIx l (nth l i)≠(i:Int)))=true then 6
 else if l.all (pairB x.orders l)=false then 19
 else if apB x (Xx l)=true then 20
 else if x.before.all (QS (Xx l) l)=false then 21
 else 0
theorem Rm (x:Inst) (r:Rte) (ho:x.orders.length<=60) (hl:r.visits.length<=1048576) (hap:x.apart.length<=1048576) (hbe:x.before.length<=1048576) (hp:Plc x) :
  PC 205 [.p (Zu x),.p (WM r)] (.int .i64 (N7 x r.visits)):=by
 refine Zc Tryz.func205 rfl Zb0 ?_;simp (disch:=omega) only [Tryz.f205,go_sem,seval];refine Zl [2,3,5] (fun k:Nat=> [(6,.p (.int .i64 k))]) (fun _=> [Ze x,Xy r]) (fun k=>k<=r.visits.length/\ ∀j,j<k->WJ x (nth r.visits j)=false) (fun k=>r.visits.length-k) 0 Zb (Weak.mk ?_) ?_
 ·simp (disch:=omega) only [Ze,Xy,go_sem,seval]
 ·rintro k ⟨hk,hno⟩;refine Ae ?_;refine cD ?_ ?_<;>intro h<;>simp (disch:=omega) only [Sh.out h,go_sem,seval,↓reduceIte]
  ·have hk2:k<r.visits.length:=Za
   refine Xd (Zd ?_);refine gF ?_ ?_<;>intro h2<;>simp (disch:=omega) only [Sh.out h2,go_sem,seval,↓reduceIte]
   ·have:WJ x (nth r.visits k)=true:=by simp [WJ];omega
    rw [N7,if_pos (VF hk2 this)]
   ·refine Z1 ?_ ?_<;>intro h3
    ·have:WJ x (nth r.visits k)=true:=by simp [WJ];omega
     rw [N7,if_pos (VF hk2 this)]
    ·exact ⟨k+1,⟨Za,Zr.2 ⟨hno,by simp [WJ];omega⟩⟩,Za,wk⟩
  ·have hkl:k=r.visits.length:=Za
   subst hkl
   have hr1:N7 x r.visits=if r.visits.length=0 then 2 else if (r.visits.any fun v=>(nth x.orders v.order.toNat).off)=true then 9 else if ((List.range r.visits.length).any fun i=>decide (vIx r.visits (nth r.visits i)≠(i:Int)))=true then 6 else if r.visits.all (pairB x.orders r.visits)=false then 19 else if apB x (Xx r.visits)=true then 20 else if x.before.all (QS (Xx r.visits) r.visits)=false then 21 else 0:=by
    rw [N7,if_neg (by rw [Q1 hno];simp)]
   have hin: ∀j,j<r.visits.length->0<=(nth r.visits j).order/\(nth r.visits j).order<x.orders.length:=fun j hj=>by
    grind [WJ]
   have hmem: ∀v∈r.visits,0<=v.order/\v.order<x.orders.length:=fun v hv=>by
    obtain ⟨j,hj,rfl⟩:=ZS.1 hv
    grind [Zi]
   have hord:Jg r.visits=(((Xx r.visits:Nat):Int),0):=by
    rw [Jg,if_pos]
    grind [Hl]
   have hlt:Xx r.visits<9223372036854775808:=by
    have:=AW r.visits.length (l:=r.visits) (ZD _) (fun v hv=>by
     grind [Hl])
    grind
   have hoc:=Iw r hl;rw [hord] at hoc;refine Vh hoc (Zd ?_);refine cD ?_ ?_<;>intro h3<;>simp (disch:=omega) only [Sh.out h3,go_sem,seval]
   ·grind
   ·rw [hr1,if_neg Za];clear hno hr1 h3 h hk;refine Zl [2,5,7] (fun k:Nat=> [(9,.p (.int .i64 k))]) (fun _=> [Ze x,Xy r]) (fun k=>k<=r.visits.length/\ ∀j,j<k->(nth x.orders (nth r.visits j).order.toNat).off=false) (fun k=>r.visits.length-k) 0 Zb (Weak.mk ?_) ?_
    ·simp (disch:=omega) only [Ze,Xy,go_sem,seval]
    ·rintro k ⟨hk,hno⟩;refine Ae ?_;refine cD ?_ ?_<;>intro h<;>simp (disch:=omega) only [Sh.out h,go_sem,seval,↓reduceIte]
     ·have hk2:k<r.visits.length:=Za
      obtain ⟨i1,i2⟩:=hin k hk2
      have i3:(nth r.visits k).order.toNat<x.orders.length:=Za
      refine Xd (Zd ?_);refine Z1 ?_ ?_<;>intro h4
      ·rw [if_pos (VF hk2 h4)]
      ·exact ⟨k+1,⟨Za,Zr.2 ⟨hno,h4⟩⟩,Za,wk⟩
     ·have hkl:k=r.visits.length:=Za
      subst hkl;have e9:(r.visits.any fun v=>(nth x.orders v.order.toNat).off)=false:=Q1 hno;rw [e9,if_neg Zb];clear hno h hk;refine Zl [2,5,7] (fun k:Nat=> [(10,.p (.int .i64 k))]) (fun _=> [Ze x,Xy r]) (fun k=>k<=r.visits.length/\ ∀j,j<k->vIx r.visits (nth r.visits j)=(j:Int)) (fun k=>r.visits.length-k) 0 Zb (Weak.mk ?_) ?_
      ·simp (disch:=omega) only [Ze,Xy,go_sem,seval]
      ·rintro k ⟨hk,hno⟩;refine Ae ?_;refine cD ?_ ?_<;>intro h<;>simp (disch:=omega) only [Sh.out h,go_sem,seval,↓reduceIte]
       ·have hk2:k<r.visits.length:=Za
        refine (Qy r.visits r.visits_c (nth r.visits k) hl).use (Zd ?_);refine Z1 ?_ ?_<;>intro h4
        ·have:((List.range r.visits.length).any fun i=>decide (vIx r.visits (nth r.visits i)≠(i:Int)))=true:=by
          grind
         grind
        ·exact ⟨k+1,⟨Za,Zr.2 ⟨hno,Za⟩⟩,Za,wk⟩
       ·have hkl:k=r.visits.length:=Za
        subst hkl
        have:((List.range r.visits.length).any fun i=>decide (vIx r.visits (nth r.visits i)≠(i:Int)))=false:=by
         grind
        rw [this,if_neg Zb];refine (dE x r.visits r.visits_c hl Za hp hmem).use (Zd ?_);refine cD ?_ ?_<;>intro h4<;>simp (disch:=omega) only [Sh.out h4,go_sem,seval,↓reduceIte]
        ·grind
        ·rw [if_neg (by grind)];refine (nQ x (Xx r.visits) hlt hap).use (Zd ?_);refine cD ?_ ?_<;>intro h5<;>simp (disch:=omega) only [Sh.out h5,go_sem,seval,↓reduceIte]
         ·grind
         ·rw [if_neg (by grind)];refine (cU x (Xx r.visits) r.visits r.visits_c hlt hl hbe).use (Zd ?_);refine cD ?_ ?_<;>intro h6<;>simp (disch:=omega) only [Sh.out h6,go_sem,seval]
          ·grind
          grind
structure IFacts (x:Inst):Prop where
 len:x.orders.length<=10
 plc:Plc x
 vne:Vne x
 val:Val x.orders.length x.before
 ne: ∀p∈x.before,p.1≠p.2
 aval:Val x.orders.length x.apart
theorem jQ {n:Int} {word:List UInt8} {sm:Int×Int->Int×Int->Bool} {l:List (Int×Int)} (h:Jv n word sm l l.length= []): ∀p∈l,bV n p=true:=by
 intro p hp;obtain ⟨i,hi,rfl⟩:=ZS.1 hp;have h2:=(VN.1 h).2;rw [List.flatMap_eq_nil_iff] at h2;have h3:=h2 i (by grind)
 grind [So,Zi]
theorem XO {x:Inst} (h:InstOk x):IFacts x:=by
 have ho:=h.orders;obtain ⟨h1,h2⟩:=VN.1 h.rules;have ha:=jQ h1;have hb:=jQ h2
 have hpl:Plc x:=fun o hm=>by
  obtain ⟨i,hi,rfl⟩:=ZS.1 hm;have:=ho.2 i hi;rw [<- Zi hi];exact ⟨this.pick.1,this.drp.1⟩
 have val: ∀l:List (Int×Int),(∀p∈l,bV x.orders.length p=true)->Val x.orders.length l:=fun l h p hp=>by
  grind [bV]
 refine ⟨ho.1,hpl,fun i hi=> ?_,val _ hb,fun p hp=> ?_,val _ ha⟩
 ·have h3:=ho.2 i hi;have h4:=hpl _ (Zt hi);have h5:=h3.one
  grind [ZT]
 grind [bV]
theorem Ve {l:List Vis} {o:Int} :hasO l o=true↔ ∃v∈l,v.order=o:=by simp [hasO]
theorem CW : ∀(l:List Vis) (i:Nat),(Xx l).testBit i=true↔ ∃v∈l,v.order.toNat=i:=by
 have key: ∀(l:List Vis) (s i:Nat),(l.foldl (fun s v=>s|||pw v.order.toNat) s).testBit i=true↔s.testBit i=true\/ ∃v∈l,v.order.toNat=i:=by
  intro l
  induction l with
  | nil=>simp
  | cons v l ih =>
   intro s i;rw [XT,ih,AL,Kq,Vq,Zq,or_assoc];simp
 grind [Xx]
def Inr (x:Inst) (l:List Vis):Prop:= ∀v∈l,0<=v.order/\v.order<x.orders.length
theorem Us {x:Inst} {l:List Vis} (hi:Inr x l) (hn:x.orders.length<=60) (o:Int) (h:0<=o/\o<=62):nHas (Xx l) o=hasO l o:=by
 rw [Wx,F9,CW,Ve]
 constructor
 ·rintro ⟨h1,h2,v,hv,h3⟩;have:=hi v hv
  grind
 grind
theorem Jj {l:List Vis} (hd:l.Nodup) {k:Nat} (hk:k<l.length):vIx l (nth l k)=(k:Int):=by
 refine Ls hk Zb fun j hj=> ?_
 grind [Zi,KT]
theorem Fe {l:List Vis} {v:Vis} (h:0<=vIx l v):(vIx l v).toNat<l.length/\nth l (vIx l v).toNat=v:=by
 grind [vIx,HM,Ua,Zi]
theorem Zel {l:List Vis} {k:Nat} (hk:k<l.length):0<=vIx l (nth l k)/\vIx l (nth l k)<=(k:Int):=by
 grind [vIx,nth,Zt,HM,Ua]
theorem QB {l:List Vis} {v:Vis} {i:Nat} (h:v∈l.take i): ∃j,j<i/\j<l.length/\nth l j=v:=by
 obtain ⟨j,hj,rfl⟩:=ZS.1 h;simp at hj;exact ⟨j,Za,Za,by grind [Zi]⟩
theorem KX {l:List Vis} {i j:Nat} (h:j<i) (hl:j<l.length):nth l j∈l.take i:=by
 grind [Zi,ZS]
theorem BX {l:List Vis} :Ai l=false↔l.Nodup:=by
 rw [Ai,Vb]
 constructor
 ·intro h;rw [List.nodup_iff_pairwise_ne,KT];intro i j hi hj hij e;have:=h j (by grind);simp only [Zq,WI] at this;refine this ?_;rw [Zi hj,<- e,<- Zi hi];exact KX hij hi
 ·intro h j hj;simp only [Zq,WI]
  grind [QB,Jj]
theorem dZ {l:List Vis} :((List.range l.length).any fun i=>decide (vIx l (nth l i)≠(i:Int)))=Ai l:=by
 rw [Wx]
 constructor
 ·grind [Jj,BX]
 ·intro h;rw [Ai,Wk] at h;obtain ⟨j,hj,h2⟩:=h;simp only [Zq,WI] at h2;obtain ⟨i,h3,h4,h5⟩:=QB h2
  grind
def BJ (l:List Vis) (b:Int):Int:=HM (fun v=>decide (v.order=b)) l
theorem AU {l:List Vis} {b:Int} :0<=BJ l b↔ ∃v∈l,v.order=b:=by
 grind [PH,BJ]
theorem CU {l:List Vis} {b:Int} (h:0<=BJ l b):(BJ l b).toNat<l.length/\(nth l (BJ l b).toNat).order=b/\ ∀j,j<(BJ l b).toNat->(nth l j).order≠b:=by
 unfold BJ HM at h ⊢
 grind [Ua,Zi]
theorem mB {l:List Vis} {b:Int} {k:Nat} (hk:k<l.length) (h:(nth l k).order=b):0<=BJ l b/\BJ l b<=(k:Int):=by
 have h0:0<=BJ l b:=AU.2 ⟨_,Zt hk,h⟩;refine ⟨h0,?_⟩;obtain ⟨h1,h2,h3⟩:=CU h0
 grind
theorem Un {l:List Vis} {a b:Int} :beforeB l a b=true↔(0<=BJ l b->(∃v∈l,v.order=a)/\ ∀j,j<l.length->(nth l j).order=a->(j:Int)<BJ l b):=by
 unfold beforeB;rw [show HM (fun v=>decide (v.order=b)) l=BJ l b from rfl]
 by_cases h:BJ l b<0
 ·grind
 ·rw [if_neg h,Zw,Ve]
  have h0:0<=BJ l b:=Za
  obtain ⟨h1,h2,h3⟩:=CU h0
  have hd:(!hasO (l.drop (BJ l b).toNat) a)=true↔ ∀j,j<l.length->(nth l j).order=a->(j:Int)<BJ l b:=by
   rw [XS,<- UI,Ve]
   constructor
   ·intro hno j hj e;rcases Int.lt_or_le (j:Int) (BJ l b) with h4 | h4
    ·exact h4
    ·refine absurd ⟨nth l j,?_,e⟩ hno;rw [Zi hj];exact ZS.2 ⟨j-(BJ l b).toNat,by simp;omega,by grind⟩
   ·rintro hall ⟨v,hv,e⟩;obtain ⟨j,hj,rfl⟩:=ZS.1 hv
    grind [Zi]
  grind
theorem Pj {x:Inst} {l:List Vis} (hi:Inr x l) (hn:x.orders.length<=60) {p:Int×Int} (h1:0<=p.1/\p.1<x.orders.length) (h2:0<=p.2/\p.2<x.orders.length) (hne:p.1≠p.2):QS (Xx l) l p=beforeB l p.1 p.2:=by
 rw [Wx,Un,QS,Us hi hn _ Za,Us hi hn _ Za];simp only [Vq,XS,Zw];rw [<- UI,Ve,Ve,<- AU,<- AU (b:=p.1)]
 constructor
 ·rintro (h | ⟨h3,h4⟩) h0
  ·omega
  ·refine ⟨h3,fun j hj e=> ?_⟩;rw [Zz] at h4;have h5:=h4 j (by grind);rw [Zz] at h5;obtain ⟨g1,g2,g3⟩:=CU h0;rcases Int.lt_or_le (j:Int) (BJ l p.2) with h6 | h6
   ·exact h6
   ·have hne2:j≠(BJ l p.2).toNat:=fun e2=>hne (by grind);have:=h5 (BJ l p.2).toNat (by simp;omega)
    grind [Kv]
 ·intro h
  by_cases h0:0<=BJ l p.2
  ·obtain ⟨h3,h4⟩:=h h0;refine .inr ⟨h3,?_⟩;rw [Zz];intro j hj;rw [Zz];intro k hk;simp at hj hk
   cases hb:Kv l p.1 p.2 j k with
   | false=>rfl
   | true =>
    simp [Kv] at hb;have h5:=h4 j hj hb.1;have h6:=(mB Za hb.2).2;omega
  omega
theorem vH {x:Inst} (hf:IFacts x) (l:List Vis):N7 x l=Xf x l:=by
 by_cases ho:l.any (WJ x)=true
 ·simp_all [N7,Xf]
 ·have ho':l.any (WJ x)=false:=by grind
  have hi:Inr x l:=fun v hv=>by
   grind [WJ]
  have hn:x.orders.length<=60:=by have:=hf.len;omega
  rw [N7,if_neg ho,Xf]
  by_cases h0:l.length=0
  ·omega
  ·have hc: ¬(l.length=0\/l.any (WJ x)=true):=fun h=>h.elim h0 ho;rw [if_neg h0,if_neg hc,dZ]
   have e1:apB x (Xx l)=x.apart.any fun p=>hasO l p.1&&hasO l p.2:=by
    rw [apB,Wx,Wk,Wk]
    have: ∀p∈x.apart,(nHas (Xx l) p.1&&nHas (Xx l) p.2)=(hasO l p.1&&hasO l p.2):=fun p hp=>by
     have:=hf.aval p hp
     grind [Us]
    grind
   have e2:(x.before.all (QS (Xx l) l)=false)=((x.before.any fun p=> !beforeB l p.1 p.2)=true):=by
    have: ∀p∈x.before,QS (Xx l) l p=beforeB l p.1 p.2:=fun p hp=>by
     have:=hf.val p hp;exact Pj hi hn Za Za (hf.ne p hp)
    grind
   grind
structure RightV (x:Inst) (l:List Vis):Prop where
 ne:l≠ []
 inr:Inr x l
 off: ∀v∈l,(nth x.orders v.order.toNat).off=false
 nodup:l.Nodup
 pair: ∀v∈l,pairB x.orders l v=true
 apart: ∀p∈x.apart,¬(hasO l p.1=true/\hasO l p.2=true)
 before: ∀p∈x.before,beforeB l p.1 p.2=true
theorem dA {x:Inst} {l:List Vis} :Xf x l=0↔RightV x l:=by
 unfold Xf;rw [VM Za,VM Za,VM Za,VM Za,VM Za,VM Za];simp only [and_true,UI,BX]
 have hin:l.any (WJ x)=false↔Inr x l:=by
  rw [Vb];exact ⟨fun h v hv=>by grind [WJ],fun h v hv=>by simpa [WJ] using h v hv⟩
 constructor
 ·rintro ⟨h1,h2,h3,h4,h5,h6⟩;rw [not_or,UI,hin] at h1;rw [Vb] at h2 h5 h6;refine ⟨fun e=>h1.1 (by rw [e];rfl),h1.2,fun v hv=>by grind,h3,?_,fun p hp=>by grind,fun p hp=>by grind⟩
  grind
 ·intro h;refine ⟨?_,?_,h.nodup,?_,?_,?_⟩
  ·rw [not_or,UI,hin];exact ⟨fun e=>h.ne (YK e),h.inr⟩
  ·rw [Vb];intro v hv;simp [h.off v hv]
  ·rw [Zz.2 h.pair];simp
  ·rw [Vb];intro p hp;simpa using h.apart p hp
  ·rw [Vb];intro p hp;simpa using h.before p hp
theorem Il {os:List Ord} {l:List Vis} {v:Vis} {i:Nat} (h:v.order=(i:Int)):pairB os l v=true↔v∈ZT os i/\(∀w∈ZT os i,w∈l)/\((⟨i,false⟩:Vis)∈ZT os i->(⟨i,true⟩:Vis)∈ZT os i->vIx l ⟨i,false⟩<vIx l ⟨i,true⟩):=by
 rw [pairB,h,XK,Zw,Zq,WI];refine and_congr Iff.rfl ?_
 have hm: ∀w:Vis,-1<vIx l w↔w∈l:=fun w=>by grind [WI]
 rcases Kr os i with e | e | e | e<;>rw [e]
 ·simp [Q3]
 ·simp [Q3,hm]
 ·simp [Q3,hm]
 ·simp only [Q3,QL,Zw,Zq,hm,Xa,Vp,WG,forall_eq_or_imp,forall_eq]
  grind
section
variable {x : Inst} {l : List Vis}
theorem RightV.bit (h:RightV x l) (i:Nat):(Xx l).testBit i=true↔ ∃v∈l,v.order=(i:Int):=by
 rw [CW];exact ⟨fun ⟨v,hv,e⟩=>⟨v,hv,by have:=h.inr v hv;omega⟩,fun ⟨v,hv,e⟩=>⟨v,hv,Za⟩⟩
theorem RightV.lt (h:RightV x l) (hf:IFacts x):Xx l<9223372036854775808/\Xx l / pw x.orders.length=0:=by
 have h1:Xx l<9223372036854775808:=by
  have:=AW l.length (l:=l) (ZD _) (fun v hv=>by
   rw [X7] at hv;have:=h.inr v hv;have:=hf.len
   simp [Hl];omega)
  grind
 refine ⟨h1,T2 h1 fun j _ hj=> ?_⟩;obtain ⟨v,hv,e⟩:=(h.bit j).1 hj;have:=h.inr v hv;omega
theorem RightV.ord (h:RightV x l) (hf:IFacts x):Jg l=(((Xx l:Nat):Int),0):=by
 rw [Jg,if_pos];rw [Zz];intro v hv;have:=h.inr v hv;have:=hf.len;simp [Hl];omega
theorem RightV.pairs (h:RightV x l) {v:Vis} (hv:v∈l): ∃i:Nat,v.order=(i:Int)/\i<x.orders.length/\v∈ZT x.orders i/\(∀w∈ZT x.orders i,w∈l)/\((⟨i,false⟩:Vis)∈ZT x.orders i->(⟨i,true⟩:Vis)∈ZT x.orders i->vIx l ⟨i,false⟩<vIx l ⟨i,true⟩):=by
 have h1:=h.inr v hv
 have e:v.order=(v.order.toNat:Int):=Za
 exact ⟨v.order.toNat,e,Za,(Il e).1 (h.pair v hv)⟩
theorem RightV.step (h:RightV x l) {a b:Nat} (hE:Ed x.before a b) (hb:0<=BJ l b):0<=BJ l a/\BJ l a<BJ l b:=by
 obtain ⟨p,hp,e1,e2⟩:=hE;have hbe:=Un.1 (h.before p hp);rw [e1,e2] at hbe;obtain ⟨h1,h2⟩:=hbe hb;have h0:=AU.2 h1;obtain ⟨g1,g2,_⟩:=CU h0
 grind
theorem RightV.chain (h:RightV x l) {a b:Nat} (hc:Ch x.before a b) (hb:0<=BJ l b):0<=BJ l a/\BJ l a<BJ l b:=by
 induction hc with
 | one hE=>exact h.step hE hb
 | more _ hE ih =>
  have h1:=h.step hE hb;omega
theorem RightV.alw (h:RightV x l) (hf:IFacts x):Alw x (Xx l):=by
 have hn:x.orders.length<=60:=by have:=hf.len;omega
 refine ⟨fun i hi hb=> ?_,?_,fun p hp hb=> ?_,fun i hi hb hc=> ?_⟩
 ·obtain ⟨v,hv,e⟩:=(h.bit i).1 hb;have:=h.off v hv
  grind
 ·rw [apB,Vb];intro p hp;have hv:=hf.aval p hp;rw [Us h.inr hn _ Za,Us h.inr hn _ Za,Zw];exact h.apart p hp
 ·have hv:=hf.val p hp;rw [Us h.inr hn _ Za] at hb ⊢;rw [Ve] at hb ⊢;exact (Un.1 (h.before p hp) (AU.2 hb)).1
 ·have hb2:=AU.2 ((h.bit i).1 hb);have:=(h.chain hc hb2).2;omega
theorem RightV.gr (h:RightV x l) (hf:IFacts x): ∀k,k<=l.length->Gr x (Xx l) (l.take k)
 | 0,_=>by simpa using Gr.nil
 | k+1,hk=>by
  have hk2:k<l.length:=Za
  have ih:=h.gr hf k Za
  have e:l.take (k+1)=l.take k++ [nth l k]:=by rw [Ya hk2,Zi hk2]
  rw [e];obtain ⟨i,e1,hi,h1,h2,h3⟩:=h.pairs (Zt hk2);refine .snoc ih (VQ.2 ⟨i,hi,(h.bit i).2 ⟨_,Zt hk2,e1⟩,?_,h1,(Vt h1).2 ⟨?_,?_,?_⟩⟩)
  ·have:=h.off _ (Zt hk2)
   grind
  ·intro hm;obtain ⟨j,j1,j2,j3⟩:=QB hm;have q1:=Jj h.nodup j2;have q2:=Jj h.nodup hk2
   grind
  ·intro hd hq
   have e2:nth l k=⟨i,true⟩:=by rw [D9];grind
   have h4:=h3 hq (by grind);rw [<- e2,Jj h.nodup hk2] at h4;have h5:=WI.2 (h2 _ hq);obtain ⟨g1,g2⟩:=Fe h5;rw [<- g2];exact KX Za g1
  ·intro p hp hpe w hw;obtain ⟨v1,v2,v3,v4⟩:=hf.val p hp;have hoi:=mB hk2 e1;have hbe:=Un.1 (h.before p hp);rw [hpe] at hbe;obtain ⟨⟨v,hv,ev⟩,h5⟩:=hbe hoi.1;obtain ⟨a,a1,a2,a3,a4,a5⟩:=h.pairs hv
   have:a=p.1.toNat:=Za
   subst this;have hwl:=a4 w hw;obtain ⟨g1,g2⟩:=Fe (WI.2 hwl);have h6:=h5 _ g1 (by rw [g2,Yn hw];omega);rw [<- g2];exact KX Za g1
theorem RightV.len (h:RightV x l) (hf:IFacts x):l.length=Ag x (Xx l) x.orders.length:=by
 have h1:=h.gr hf l.length (ZD _);rw [X7] at h1;have h2:=h1.len
 have h3: ∀v∈Bw x (Xx l) x.orders.length,v∈l:=fun v hv=>by
  obtain ⟨i,i1,i2,i3⟩:=WU.1 hv;obtain ⟨w,hw,e⟩:=(h.bit i).1 i2;obtain ⟨a,a1,a2,a3,a4,a5⟩:=h.pairs hw
  grind
 have h4:=Fc (Bx _ _ _) h3;rw [Jn] at h4;omega
theorem Gr.at {S:Nat} (h:Gr x S l): ∀k,k<l.length->nth l k∈nextU x S (l.take k) x.orders.length:=by
 induction h with
 | nil=>simp
 | snoc h hv ih =>
  rename_i l v;intro k hk;simp at hk;rcases Wy k l.length with h2 | h2
  ·grind [Zi]
  ·have:k=l.length:=Za
   simp_all [Zi]
theorem Gr.right {S:Nat} (h:Gr x S l) (hf:IFacts x) (ha:Alw x S) (h0:S≠0) (hS:S / pw x.orders.length=0) (hl:l.length=Ag x S x.orders.length):RightV x l/\Xx l=S:=by
 have hn:x.orders.length<=60:=by have:=hf.len;omega
 have hfull:=h.full hl
 have hsub: ∀v∈l,∃i:Nat,v.order=(i:Int)/\i<x.orders.length/\S.testBit i=true/\v∈ZT x.orders i:=fun v hv=>by
  obtain ⟨i,i1,i2,i3⟩:=WU.1 (h.sub v hv);exact ⟨i,Yn i3,i1,i2,i3⟩
 have hinr:Inr x l:=fun v hv=>by grind
 have hgo: ∀k,k<l.length-> ∃i:Nat,(nth l k).order=(i:Int)/\nth l k∈ZT x.orders i/\nth l k ∉ l.take k/\((nth l k).drp=true->(⟨i,false⟩:Vis)∈ZT x.orders i->(⟨i,false⟩:Vis)∈l.take k)/\ ∀p∈x.before,p.2=(i:Int)-> ∀w∈ZT x.orders p.1.toNat,w∈l.take k:=fun k hk=>by
  obtain ⟨i,i1,i2,i3,i4,i5⟩:=VQ.1 (h.at k hk);obtain ⟨r1,r2,r3⟩:=(Vt i4).1 i5;exact ⟨i,Yn i4,i4,r1,r2,r3⟩
 have hbit:Xx l=S:=CG fun i=>by
  rw [Wx,CW]
  constructor
  ·grind
  ·intro hb;have hi:=Pr hS hb;obtain ⟨w,hw⟩:=List.exists_mem_of_ne_nil _ (hf.vne i hi);have:=Yn hw;exact ⟨w,hfull w (WU.2 ⟨i,hi,hb,hw⟩),Za⟩
 refine ⟨⟨fun e=> ?_,hinr,fun v hv=> ?_,h.nodup,fun v hv=> ?_,fun p hp=> ?_,fun p hp=> ?_⟩,hbit⟩
 ·have:=Tt hf.vne hS h0
  grind
 ·obtain ⟨i,i1,i2,i3,i4⟩:=hsub v hv;rw [i1,XK];exact ha.off i i2 i3
 ·obtain ⟨i,i1,i2,i3,i4⟩:=hsub v hv;refine (Il i1).2 ⟨i4,fun w hw=>hfull w (WU.2 ⟨i,i2,i3,hw⟩),fun hq1 hq2=> ?_⟩;have m2:=WI.2 (hfull _ (WU.2 ⟨i,i2,i3,hq2⟩));obtain ⟨g1,g2⟩:=Fe m2;obtain ⟨j,j1,j2,j3,j4,j5⟩:=hgo _ g1;rw [g2] at j1 j4
  have:j=i:=by grind
  subst this;obtain ⟨q,q1,q2,q3⟩:=QB (j4 rfl hq1);have:=(Zel q2).2
  grind
 ·have:=ha.apart;rw [apB,Vb] at this;have h2:=this p hp;have hv:=hf.aval p hp;rw [<- hbit,Us hinr hn _ Za,Us hinr hn _ Za,Zw] at h2;exact h2
 ·rw [Un];intro hb;have hv:=hf.val p hp;obtain ⟨g1,g2,g3⟩:=CU hb;obtain ⟨j,j1,j2,j3,j4,j5⟩:=hgo _ g1;have hall:=j5 p hp Za;refine ⟨?_,fun q hq e=> ?_⟩
  ·obtain ⟨w,hw⟩:=List.exists_mem_of_ne_nil _ (hf.vne p.1.toNat Za);exact ⟨w,Kh (hall w hw),by rw [Yn hw];omega⟩
  ·obtain ⟨i,i1,i2,i3,i4⟩:=hsub _ (Zt hq)
   have:i=p.1.toNat:=Za
   subst this;obtain ⟨q2,r1,r2,r3⟩:=QB (hall _ i4);have e1:=Jj h.nodup r2;have e2:=Jj h.nodup hq
   grind
end
theorem Sb {a b:Int} :W2 a b<0↔a<b:=by grind [W2]
def Zd1 (r:Rte):Prop:=r.visits.length<=1048576/\r.rests.length<=1048576
end Go.Proofs.YtjkkdmeebhjaiaaGreatDoor.K
namespace Go.Proofs.YtjkkdmeebhjaiaaGreatDoor.K
section
variable {L : Type} (fin : L -> Int) (beats : L -> L -> Bool) (nxt : Nat -> L -> Bool -> Option L) (choices : Nat -> List Bool)
def W9 : Option L->List L->Option L
 | b,[]=>b
 | none,x::l=>W9 (some x) l
 | some m,x::l=>if fin x<fin m then W9 (some x) l else W9 (some m) l
theorem Av : ∀(b:Option L) (l r:List L),W9 fin b (l++r)=W9 fin (W9 fin b l) r
 | b,[],r=>by rfl
 | none,x::l,r=>by rw [ZP,W9,W9,Av]
 | some m,x::l,r=>by
  rw [ZP,W9,W9]
  split
  ·rw [Av]
  ·rw [Av]
theorem VJ : ∀(l:List L) (m:L),∃z,W9 fin (some m) l=some z/\fin z<=fin m/\ ∀y∈l,fin z<=fin y
 | [],m=>⟨m,rfl,Za,Zb⟩
 | x::l,m=>by
  rw [W9]
  split
  ·rename_i h;obtain ⟨z,e,h1,h2⟩:=VJ l x
   grind
  ·rename_i h;obtain ⟨z,e,h1,h2⟩:=VJ l m
   grind
theorem Np : ∀(l:List L) (m:L),(∀y∈l,fin m<=fin y)->W9 fin (some m) l=some m
 | [],m,_=>rfl
 | x::l,m,h=>by
  have:=h x List.mem_cons_self;rw [W9,if_neg Za];exact Np l m fun y hy=>h y (Yq _ hy)
theorem aQ (A B:List L) (h: ∀y∈B,∃z∈A,fin z<=fin y):W9 fin none (A++B)=W9 fin none A:=by
 rw [Av]
 cases A with
 | nil=>cases B with
  | nil=>rfl
  | cons y B=>grind [List.mem_cons_self]
 | cons a A =>
  rw [W9];obtain ⟨z,e,h1,h2⟩:=VJ fin A a;rw [e];refine Np fin B z fun y hy=> ?_
  grind
def Yf : List L->List L->List L
 | out,[]=>out
 | out,x::l=>if out.any (fun m=>beats m x)=true then Yf out l else Yf (out++ [x]) l
theorem DE {R:L->List L} : ∀(c out:List L),(∀x∈out++c,∀m∈out++c,beats m x=true-> ∀y∈R x,∃z∈R m,fin z<=fin y)->W9 fin none ((Yf beats out c).flatMap R)=W9 fin none ((out++c).flatMap R)
 | [],out,_=>by simp [Yf]
 | x::c,out,h=>by
  rw [Yf]
  split
  ·rename_i hb;obtain ⟨m,hm,hb⟩:=Wk.1 hb
   have hb:beats m x=true:=by simpa using hb
   rw [DE c out (fun a ha b hb=>h a (by simp only [Xe,Xa] at ha ⊢;rcases ha with h | h<;>simp [h]) b (by simp only [Xe,Xa] at hb ⊢;rcases hb with h | h<;>simp [h]))];rw [List.flatMap_append,List.flatMap_append,UH,<- Vo,Av,Av (l:=out.flatMap R++R x)];rw [aQ fin (out.flatMap R) (R x)];intro y hy;obtain ⟨z,hz,hle⟩:=h x Zb m (by simp [hm]) hb y hy;exact ⟨z,X1.2 ⟨m,hm,hz⟩,hle⟩
  ·rw [DE c (out++ [x]) (by simpa using h)];simp
theorem AZ : ∀(c out:List L),∀x∈Yf beats out c,x∈out++c
 | [],out,x,h=>by grind [Yf]
 | a::c,out,x,h=>by
  rw [Yf] at h
  split at h
  ·have:=AZ c out x h;simp only [Xe,Xa] at this ⊢;rcases this with h | h<;>simp [h]
  ·have:=AZ c (out++ [a]) x h;simpa using this
def Lr : Nat->Nat->List (List Bool)
 | 0,_=> [[]]
 | j+1,k=>(choices k).flatMap fun b=>(Lr j (k+1)).map (b:: ·)
def We : Nat->L->List Bool->Option L
 | _,x,[]=>some x
 | k,x,b::bs=>match nxt k x b with
  | some y=>We (k+1) y bs
  | none=>none
def VT (j k:Nat) (x:L):List L:=(Lr choices j k).filterMap (We nxt k x)
def Vz (k:Nat) (l:List L):List L:=l.flatMap fun x=>(choices k).filterMap (nxt k x)
def Ku : Nat->Nat->List L->List L
 | 0,_,l=>l
 | j+1,k,l=>Ku j (k+1) (Yf beats [] (Vz nxt choices k l))
theorem Rp (k:Nat) (x:L):VT nxt choices 0 k x= [x]:=rfl
theorem Gw (j k:Nat) (x:L):VT nxt choices (j+1) k x=((choices k).filterMap (nxt k x)).flatMap (VT nxt choices j (k+1)):=by
 unfold VT;rw [Lr]
 induction choices k with
 | nil=>rfl
 | cons b bs ih =>
  rw [UH,List.filterMap_append,ih,List.filterMap_cons]
  cases h:nxt k x b with
  | none =>
   simp_all [We]
  | some y =>
   rw [List.filterMap_map]
   have:(We nxt k x∘fun l=>b::l)=We nxt (k+1) y:=by grind [We]
   grind
theorem Is {n:Nat} {Inv:Nat->L->Prop} (hI: ∀k x b y,Inv k x->nxt k x b=some y->Inv (k+1) y) (hd: ∀k m x b y,Inv k m->Inv k x->beats m x=true->nxt k x b=some y-> ∃z,nxt k m b=some z/\beats z y=true)
  (he: ∀m x,Inv n m->Inv n x->beats m x=true->fin m<=fin x): ∀(j k:Nat) (m x:L),k+j=n->Inv k m->Inv k x->beats m x=true-> ∀y∈VT nxt choices j k x,∃z∈VT nxt choices j k m,fin z<=fin y
 | 0,k,m,x,hk,h1,h2,hb,y,hy=>by
  grind [Rp]
 | j+1,k,m,x,hk,h1,h2,hb,y,hy=>by
  rw [Gw] at hy ⊢;obtain ⟨q,hq,hy⟩:=X1.1 hy;obtain ⟨b,hbm,hn⟩:=Qm.1 hq;obtain ⟨z,hz,hzb⟩:=hd k m x b q h1 h2 hb hn;obtain ⟨u,hu,hle⟩:=Is hI hd he j (k+1) z q Za (hI k m b z h1 hz) (hI k x b q h2 hn) hzb y hy
  grind
theorem SF {n:Nat} {Inv:Nat->L->Prop} (hI: ∀k x b y,Inv k x->nxt k x b=some y->Inv (k+1) y) (hd: ∀k m x b y,Inv k m->Inv k x->beats m x=true->nxt k x b=some y-> ∃z,nxt k m b=some z/\beats z y=true)
  (he: ∀m x,Inv n m->Inv n x->beats m x=true->fin m<=fin x): ∀(j k:Nat) (l:List L),k+j=n->(∀x∈l,Inv k x)->W9 fin none (Ku beats nxt choices j k l)=W9 fin none (l.flatMap (VT nxt choices j k))
 | 0,k,l,hk,hl=>by
  have:l.flatMap (VT nxt choices 0 k)=l:=by
   have:VT nxt choices 0 k=fun x=> [x]:=by rfl
   rw [this];simp
  rw [this];rfl
 | j+1,k,l,hk,hl=>by
  have hc: ∀x∈Vz nxt choices k l,Inv (k+1) x:=fun x hx=>by
   obtain ⟨q,hq,hx⟩:=X1.1 hx
   grind
  have e:l.flatMap (VT nxt choices (j+1) k)=(Vz nxt choices k l).flatMap (VT nxt choices j (k+1)):=by
   rw [Vz,List.flatMap_assoc]
   congr 1
   grind [Gw]
  rw [Ku,SF hI hd he j (k+1) _ Za (fun x hx=>hc x (by simpa using AZ beats _ _ x hx)),DE fin beats _ _ (fun x hx m hm hb y hy=> ?_),e]
  ·simp
  ·exact Is fin beats nxt choices hI hd he j (k+1) m x Za (hc m (by grind)) (hc x (by grind)) hb y hy
def Y4 : List Bool->List (List Bool)
 | []=> [[]]
 | b::bs=>if b then (Y4 bs).map (true:: ·) else (Y4 bs).map (false:: ·)++(Y4 (List.replicate bs.length false)).map (true:: ·)
termination_by l => l.length
decreasing_by all_goals simp
def YD : List Bool->Option (List Bool)
 | []=>none
 | b::bs=>match YD bs with
  | some l=>some (b::l)
  | none=>if b then none else some (true::List.replicate bs.length false)
theorem fromB_next : ∀l:List Bool,Y4 l=l::(match YD l with | some r=>Y4 r | none=> [])
 | []=>by simp [Y4,YD]
 | b::bs=>by
  have ih:=fromB_next bs
  have e0: ∀l:List Bool,Y4 (true::l)=(Y4 l).map (true:: ·):=fun l=>by rw [Y4];simp
  have e1: ∀l:List Bool,Y4 (false::l)=(Y4 l).map (false:: ·)++(Y4 (List.replicate l.length false)).map (true:: ·):=fun l=>by rw [Y4];simp
  cases b with
  | true =>
   rw [e0,ih,YD]
   cases h:YD bs with
   | none=>simp
   | some r=>simp [e0]
  | false =>
   rw [e1,ih,YD]
   cases h:YD bs with
   | none=>simp [e0]
   | some r =>
    have hl:r.length=bs.length:=nlen bs r h;simp [e1,hl]
where nlen : ∀(l r:List Bool),YD l=some r->r.length=l.length
 | [],r,h=>by simp [YD] at h
 | b::bs,r,h=>by
  rw [YD] at h
  cases h2:YD bs with
  | none =>
   grind
  | some q =>
   rw [h2] at h;simp at h;subst h;simp [nlen bs q h2]
theorem Nf {n:Nat} : ∀(j k:Nat),(∀q,k<=q->choices q= [false,true])->Lr choices j k=Y4 (List.replicate j false)
 | 0,k,_=>by simp [Lr,Y4]
 | j+1,k,h=>by
  rw [Lr,h k (ZD _),Nf (n:=n) j (k+1) (fun q hq=>h q Za),KU,Y4];simp
end
end Go.Proofs.YtjkkdmeebhjaiaaGreatDoor.K
