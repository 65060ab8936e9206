/- Declarations that the closing texts need, part 13: joined by tools/slim.py. -/
import Derived.Test.YtmbelkfkhclnkaaGreatDoorZS12
import Derived.Test.YtmbelkfkhclnkaaGreatDoorRows
set_option linter.unusedVariables false
set_option linter.unusedSimpArgs false
namespace Go.Proofs.YtmbelkfkhclnkaaGreatDoor.K
open Go Go.AM Go.Proofs
theorem BZ : Tryz.prog.cellsOf 3=1:=Ze
theorem jJ : Tryz.prog.cellsOf 4=1:=Ze
theorem jS : Tryz.prog.cellsOf 9=1:=Ze
theorem jI : Tryz.prog.cellsOf 26=2:=Ze
theorem O5 : Q9 Tryz.prog 26=some [(0,3),(1,4)]:=Ze
theorem HL : Tryz.prog.cellsOf 29=1:=Ze
theorem jK : Tryz.prog.cellsOf 44=1:=Ze
theorem jL : Tryz.prog.cellsOf 46=2:=Ze
theorem O6 : Q9 Tryz.prog 46=some [(0,44),(1,29)]:=Ze
theorem jM : Tryz.prog.cellsOf 52=1:=Ze
theorem jN : Tryz.prog.cellsOf 53=1:=Ze
theorem OT : Tryz.prog.cellsOf 55=2:=Ze
theorem oA : Q9 Tryz.prog 55=some [(0,52),(1,53)]:=Ze
theorem jO : Tryz.prog.cellsOf 56=1:=Ze
theorem jP : Tryz.prog.cellsOf 57=1:=Ze
theorem jQ : Tryz.prog.cellsOf 58=1:=Ze
theorem jR : Tryz.prog.cellsOf 60=6:=Ze
theorem O7 : Q9 Tryz.prog 60=some [(0,55),(2,56),(3,57),(4,58),(5,58)]:=Ze
theorem jT : Tryz.prog.cellsOf 91=1:=Ze
theorem jU : Tryz.prog.cellsOf 92=1:=Ze
theorem jV : Tryz.prog.cellsOf 94=4:=Ze
theorem O8 : Q9 Tryz.prog 94=some [(0,3),(1,3),(2,91),(3,92)]:=Ze
theorem P6 : Tryz.prog.cellsOf 131=2:=Ze
theorem Lt : Q9 Tryz.prog 131=some [(0,3),(1,3)]:=Ze
theorem P7 : Tryz.prog.cellsOf 132=1:=Ze
theorem P8 : Tryz.prog.cellsOf 134=6:=Ze
theorem Lu : Q9 Tryz.prog 134=some [(0,3),(1,3),(2,3),(3,3),(4,132),(5,132)]:=Ze
theorem P9 : Tryz.prog.cellsOf 136=14:=Ze
theorem Lv : Q9 Tryz.prog 136=some [(0,9),(1,3),(2,3),(3,3),(4,29),(5,3),(6,3),(7,3),(8,3),(9,3),(10,3),(11,3),(12,3),(13,3)]:=Ze
theorem HK : Tryz.prog.cellsOf 138=4:=Ze
theorem TM : Q9 Tryz.prog 138=some [(0,3),(1,3),(2,3),(3,3)]:=Ze
theorem Ra : Tryz.prog.cellsOf 140=16:=Ze
theorem Lw : Q9 Tryz.prog 140=some [(0,9),(1,29),(2,138),(6,138),(10,3),(11,3),(12,3),(13,3),(14,3),(15,4)]:=Ze
theorem Rb : Tryz.prog.cellsOf 224=2:=Ze
theorem Lx : Q9 Tryz.prog 224=some [(0,3),(1,3)]:=Ze
mutual
theorem DA {H:Type} :(d:DataW H)->KB d<=Rows.uptoBulk d
 | .lit l=>by cases l<;>simp [KB,Rows.uptoBulk]
 | .nil=>by simp [KB,Rows.uptoBulk]
 | .ptr d=>by have:=DA d;simp only [KB,Rows.uptoBulk];omega
 | .slice es sp=>by have:=US es;have:=US sp;simp only [KB,Rows.uptoBulk];omega
 | .agg ps=>by have:=US ps;simp only [KB,Rows.uptoBulk];omega
 | .iface _ d=>by have:=DA d;simp only [KB,Rows.uptoBulk];omega
 | .map es=>by simp only [KB,Rows.uptoBulk];omega
 | .held h=>by simp [KB,Rows.uptoBulk]
theorem US {H:Type} :(l:List (DataW H))->Vp l<=Rows.uptoBulkAll l
 | []=>by simp [Vp,Rows.uptoBulkAll]
 | d::r=>by have:=DA d;have:=US r;simp only [Vp,Rows.uptoBulkAll];omega
end
theorem En {H:Type} {l:List (DataW H)} (h:Rows.uptoSmall H l=true):Vp l<=1048576:=by
 have h1:=US l;have h2:Rows.uptoBulkAll l<=1048576:=of_decide_eq_true h;omega
abbrev Yw (n:Int):Prop:= -9223372036854775808<=n/\n<=9223372036854775807
def eI (n:Int):PV:= .int .i64 n
def eB (b:Bool):PV:= .bool b
def eS (s:List UInt8):PV:= .str s
def eP (p:Int×Int):PV:= .agg [.int .i64 p.1,.int .i64 p.2]
@[go_sem] theorem OV (n:Int):eI n= .int .i64 n:=Eq.trans rfl rfl
@[go_sem] theorem yX (b:Bool):eB b= .bool b:=Eq.trans rfl rfl
@[go_sem] theorem zA (s:List UInt8):eS s= .str s:=Eq.trans rfl rfl
@[go_sem] theorem yZ (p:Int×Int):eP p= .agg [.int .i64 p.1,.int .i64 p.2]:=Eq.trans rfl rfl
@[go_sem] theorem vO (l:List Int):Q8 1 (l.map eI)=true:=Ji fun _=>rfl
@[go_sem] theorem qL (l:List Bool):Js 1 (l.map eB)=true:=UK (f:=eB) (S:=1) (fun _=>rfl) l
theorem JK {B xs} (h: ∀y∈xs,FitV Tryz.prog B 3 y): ∃l:List Int,xs=l.map eI/\ ∀n∈l,Yw n :=
 XI (f:=eI) fun y hy=>by
  obtain ⟨n,rfl,w⟩:=Ng Tryz.underlying3 (h y hy);exact ⟨n,rfl,ZJ w⟩
theorem Gk {B xs} (h: ∀y∈xs,FitV Tryz.prog B 4 y): ∃l:List Bool,xs=l.map eB/\ ∀b∈l,True :=
 XI (f:=eB) fun y hy=>by
  obtain ⟨b,rfl⟩:=Il Tryz.underlying4 (h y hy);exact ⟨b,rfl,trivial⟩
theorem Im {B xs} (h: ∀y∈xs,FitV Tryz.prog B 9 y): ∃l:List (List UInt8),xs=l.map eS/\ ∀s∈l,s.length<=B :=
 XI (f:=eS) fun y hy=>by
  obtain ⟨s,rfl,w,_⟩:=Nh Tryz.underlying9 (h y hy);exact ⟨s,rfl,w⟩
theorem IX {α:Type} {l:List α} (h:l.length=2): ∃a0 a1,l= [a0,a1]:=by
 match l,h with | [a0,a1],_=>simp
theorem nJ {α:Type} {l:List α} (h:l.length=6): ∃a0 a1 a2 a3 a4 a5,l= [a0,a1,a2,a3,a4,a5]:=by
 match l,h with | [a0,a1,a2,a3,a4,a5],_=>simp
theorem nG {α:Type} {l:List α} (h:l.length=14): ∃a0 a1 a2 a3 a4 a5 a6 a7 a8 a9 a10 a11 a12 a13,l= [a0,a1,a2,a3,a4,a5,a6,a7,a8,a9,a10,a11,a12,a13]:=by
 match l,h with | [a0,a1,a2,a3,a4,a5,a6,a7,a8,a9,a10,a11,a12,a13],_=>simp
theorem nI {α:Type} {l:List α} (h:l.length=4): ∃a0 a1 a2 a3,l= [a0,a1,a2,a3]:=by
 match l,h with | [a0,a1,a2,a3],_=>simp
theorem nH {α:Type} {l:List α} (h:l.length=16): ∃a0 a1 a2 a3 a4 a5 a6 a7 a8 a9 a10 a11 a12 a13 a14 a15,l= [a0,a1,a2,a3,a4,a5,a6,a7,a8,a9,a10,a11,a12,a13,a14,a15]:=by
 match l,h with | [a0,a1,a2,a3,a4,a5,a6,a7,a8,a9,a10,a11,a12,a13,a14,a15],_=>grind
structure Pt where
 t:Int
 a:Int
 deriving Inhabited
def cPt (x:Pt):List PV:= [.int .i64 x.t,.int .i64 x.a]
def AX (x:Pt):PV:= .agg [.int .i64 x.t,.int .i64 x.a]
@[go_sem] theorem uJ (x:Pt):AX x= .agg [.int .i64 x.t,.int .i64 x.a]:=Eq.trans rfl rfl
def Pt.wf (B:Nat) (x:Pt):Prop:=Yw x.t/\Yw x.a
theorem Nj {B m cs} (h:Xn Tryz.prog B m 131 cs): ∃x:Pt,cs=cPt x/\x.wf B:=by
 obtain ⟨h1,m',h2⟩:=XC Lt P6 h;obtain ⟨a0,a1,rfl⟩:=IX h1;obtain ⟨n0,e0,w0⟩:=Zt Tryz.underlying3 (h2 (0,3) Zb);obtain ⟨n1,e1,w1⟩:=Zt Tryz.underlying3 (h2 (1,3) Zb);simp [BZ] at e0 e1;subst e0;subst e1;exact ⟨⟨n0,n1⟩,rfl,ZJ w0,ZJ w1⟩
theorem Ik {B v} (h:FitV Tryz.prog B 131 v): ∃x:Pt,v=AX x/\x.wf B:=by
 obtain ⟨k,cs,h,e⟩:=h.out;obtain ⟨x,rfl,hw⟩:=Nj h;exact ⟨x,e.trans (by rw [We,if_pos (XF Lt)];rfl),hw⟩
structure Arc where
 src:Int
 dst:Int
 prof:Int
 miles:Int
 travel_c:Bool
 travel:List (Pt)
 slow_c:Bool
 slow:List (Pt)
 deriving Inhabited
def uD (x:Arc):List PV:= [.int .i64 x.src,.int .i64 x.dst,.int .i64 x.prof,.int .i64 x.miles,.list x.travel_c (x.travel.map AX),.list x.slow_c (x.slow.map AX)]
def Vd (x:Arc):PV:= .agg [.int .i64 x.src,.int .i64 x.dst,.int .i64 x.prof,.int .i64 x.miles,.list x.travel_c (x.travel.map AX),.list x.slow_c (x.slow.map AX)]
@[go_sem] theorem qU (x:Arc):Vd x= .agg [.int .i64 x.src,.int .i64 x.dst,.int .i64 x.prof,.int .i64 x.miles,.list x.travel_c (x.travel.map AX),.list x.slow_c (x.slow.map AX)]:=Eq.trans rfl rfl
def Arc.wf (B:Nat) (x:Arc):Prop:=Yw x.src/\Yw x.dst/\Yw x.prof/\Yw x.miles/\x.travel.length<=B/\(∀y∈x.travel,Pt.wf B y)/\x.slow.length<=B/\(∀y∈x.slow,Pt.wf B y)
theorem Io {B m cs} (h:Xn Tryz.prog B m 134 cs): ∃x:Arc,cs=uD x/\x.wf B:=by
 obtain ⟨h1,m',h2⟩:=XC Lu P8 h;obtain ⟨a0,a1,a2,a3,a4,a5,rfl⟩:=nJ h1;obtain ⟨n0,e0,w0⟩:=Zt Tryz.underlying3 (h2 (0,3) Zb);obtain ⟨n1,e1,w1⟩:=Zt Tryz.underlying3 (h2 (1,3) Zb);obtain ⟨n2,e2,w2⟩:=Zt Tryz.underlying3 (h2 (2,3) Zb);obtain ⟨n3,e3,w3⟩:=Zt Tryz.underlying3 (h2 (3,3) Zb);obtain ⟨y4,e4,w4,_,z4⟩:=ZP Tryz.underlying132 (h2 (4,132) Zb);obtain ⟨n4,rfl,u4⟩:=XI (f:=AX) fun y hy=>Ik (z4 y hy);obtain ⟨y5,e5,w5,_,z5⟩:=ZP Tryz.underlying132 (h2 (5,132) Zb)
 obtain ⟨n5,rfl,u5⟩:=XI (f:=AX) fun y hy=>Ik (z5 y hy);simp [P7,BZ] at e0 e1 e2 e3 e4 e5;subst e0;subst e1;subst e2;subst e3;subst e4;subst e5;exact ⟨⟨n0,n1,n2,n3,false,n4,false,n5⟩,rfl,ZJ w0,ZJ w1,ZJ w2,ZJ w3,by grind,u4,by grind,u5⟩
theorem M9 {B v} (h:FitV Tryz.prog B 134 v): ∃x:Arc,v=Vd x/\x.wf B:=by
 obtain ⟨k,cs,h,e⟩:=h.out;obtain ⟨x,rfl,hw⟩:=Io h;exact ⟨x,e.trans (by rw [We,if_pos (XF Lu)];rfl),hw⟩
structure Net where
 places_c:Bool
 places:List (List UInt8)
 arcs_c:Bool
 arcs:List (Arc)
 deriving Inhabited
def jH (x:Net):List PV:= [.list x.places_c (x.places.map eS),.list x.arcs_c (x.arcs.map Vd)]
def JE (x:Net):PV:= .agg [.list x.places_c (x.places.map eS),.list x.arcs_c (x.arcs.map Vd)]
@[go_sem] theorem qW (x:Net):JE x= .agg [.list x.places_c (x.places.map eS),.list x.arcs_c (x.arcs.map Vd)]:=Eq.trans rfl rfl
def Net.wf (B:Nat) (x:Net):Prop:=x.places.length<=B/\(∀s∈x.places,s.length<=B)/\x.arcs.length<=B/\(∀y∈x.arcs,Arc.wf B y)
theorem Ip {B m cs} (h:Xn Tryz.prog B m 55 cs): ∃x:Net,cs=jH x/\x.wf B:=by
 obtain ⟨h1,m',h2⟩:=XC oA OT h;obtain ⟨a0,a1,rfl⟩:=IX h1;obtain ⟨y0,e0,w0,_,z0⟩:=ZP Tryz.underlying52 (h2 (0,52) Zb);obtain ⟨n0,rfl,u0⟩:=Im z0;obtain ⟨y1,e1,w1,_,z1⟩:=ZP Tryz.underlying53 (h2 (1,53) Zb);obtain ⟨n1,rfl,u1⟩:=XI (f:=Vd) fun y hy=>M9 (z1 y hy);simp [jN,jM] at e0 e1;subst e0;subst e1;exact ⟨⟨false,n0,false,n1⟩,rfl,by grind,u0,by grind,u1⟩
structure Typ where
 name:List UInt8
 count:Int
 src:Int
 dst:Int
 cap_c:Bool
 cap:List (Int)
 skills:Int
 prof:Int
 opn:Int
 cls:Int
 drive:Int
 rest:Int
 fixed:Int
 perMile:Int
 perTick:Int
 deriving Inhabited
def uH (x:Typ):List PV:= [.str x.name,.int .i64 x.count,.int .i64 x.src,.int .i64 x.dst,.list x.cap_c (x.cap.map eI),.int .i64 x.skills,.int .i64 x.prof,.int .i64 x.opn,.int .i64 x.cls,.int .i64 x.drive,.int .i64 x.rest,.int .i64 x.fixed,.int .i64 x.perMile,.int .i64 x.perTick]
def Vq (x:Typ):PV:= .agg [.str x.name,.int .i64 x.count,.int .i64 x.src,.int .i64 x.dst,.list x.cap_c (x.cap.map eI),.int .i64 x.skills,.int .i64 x.prof,.int .i64 x.opn,.int .i64 x.cls,.int .i64 x.drive,.int .i64 x.rest,.int .i64 x.fixed,.int .i64 x.perMile,.int .i64 x.perTick]
@[go_sem] theorem rE (x:Typ):Vq x= .agg [.str x.name,.int .i64 x.count,.int .i64 x.src,.int .i64 x.dst,.list x.cap_c (x.cap.map eI),.int .i64 x.skills,.int .i64 x.prof,.int .i64 x.opn,.int .i64 x.cls,.int .i64 x.drive,.int .i64 x.rest,.int .i64 x.fixed,.int .i64 x.perMile,.int .i64 x.perTick]:=Eq.trans rfl rfl
def Typ.wf (B:Nat) (x:Typ):Prop:=x.name.length<=B/\Yw x.count/\Yw x.src/\Yw x.dst/\x.cap.length<=B/\(∀n∈x.cap,Yw n)/\Yw x.skills/\Yw x.prof/\Yw x.opn/\Yw x.cls/\Yw x.drive/\Yw x.rest/\Yw x.fixed/\Yw x.perMile/\Yw x.perTick
theorem It {B m cs} (h:Xn Tryz.prog B m 136 cs): ∃x:Typ,cs=uH x/\x.wf B:=by
 obtain ⟨h1,m',h2⟩:=XC Lv P9 h;obtain ⟨a0,a1,a2,a3,a4,a5,a6,a7,a8,a9,a10,a11,a12,a13,rfl⟩:=nG h1;obtain ⟨n0,e0,w0,_⟩:=JL Tryz.underlying9 (h2 (0,9) Zb);obtain ⟨n1,e1,w1⟩:=Zt Tryz.underlying3 (h2 (1,3) Zb);obtain ⟨n2,e2,w2⟩:=Zt Tryz.underlying3 (h2 (2,3) Zb);obtain ⟨n3,e3,w3⟩:=Zt Tryz.underlying3 (h2 (3,3) Zb);obtain ⟨y4,e4,w4,_,z4⟩:=ZP Tryz.underlying29 (h2 (4,29) Zb);obtain ⟨n4,rfl,u4⟩:=JK z4;obtain ⟨n5,e5,w5⟩:=Zt Tryz.underlying3 (h2 (5,3) Zb)
 obtain ⟨n6,e6,w6⟩:=Zt Tryz.underlying3 (h2 (6,3) Zb);obtain ⟨n7,e7,w7⟩:=Zt Tryz.underlying3 (h2 (7,3) Zb);obtain ⟨n8,e8,w8⟩:=Zt Tryz.underlying3 (h2 (8,3) Zb);obtain ⟨n9,e9,w9⟩:=Zt Tryz.underlying3 (h2 (9,3) Zb);obtain ⟨n10,e10,w10⟩:=Zt Tryz.underlying3 (h2 (10,3) Zb);obtain ⟨n11,e11,w11⟩:=Zt Tryz.underlying3 (h2 (11,3) Zb);obtain ⟨n12,e12,w12⟩:=Zt Tryz.underlying3 (h2 (12,3) Zb);obtain ⟨n13,e13,w13⟩:=Zt Tryz.underlying3 (h2 (13,3) Zb);simp [HL,BZ,jS] at e0 e1 e2 e3 e4 e5 e6 e7 e8 e9 e10 e11 e12 e13
 subst e0;subst e1;subst e2;subst e3;subst e4;subst e5;subst e6;subst e7;subst e8;subst e9;subst e10;subst e11;subst e12;subst e13;exact ⟨⟨n0,n1,n2,n3,false,n4,n5,n6,n7,n8,n9,n10,n11,n12,n13⟩,rfl,w0,ZJ w1,ZJ w2,ZJ w3,by grind,u4,ZJ w5,ZJ w6,ZJ w7,ZJ w8,ZJ w9,ZJ w10,ZJ w11,ZJ w12,ZJ w13⟩
theorem Nd {B v} (h:FitV Tryz.prog B 136 v): ∃x:Typ,v=Vq x/\x.wf B:=by
 obtain ⟨k,cs,h,e⟩:=h.out;obtain ⟨x,rfl,hw⟩:=It h;exact ⟨x,e.trans (by rw [We,if_pos (XF Lv)];rfl),hw⟩
structure Stp where
 place:Int
 opn:Int
 cls:Int
 serv:Int
 deriving Inhabited
def P5 (x:Stp):List PV:= [.int .i64 x.place,.int .i64 x.opn,.int .i64 x.cls,.int .i64 x.serv]
def B8 (x:Stp):PV:= .agg [.int .i64 x.place,.int .i64 x.opn,.int .i64 x.cls,.int .i64 x.serv]
@[go_sem] theorem rB (x:Stp):B8 x= .agg [.int .i64 x.place,.int .i64 x.opn,.int .i64 x.cls,.int .i64 x.serv]:=Eq.trans rfl rfl
def Stp.wf (B:Nat) (x:Stp):Prop:=Yw x.place/\Yw x.opn/\Yw x.cls/\Yw x.serv
theorem Cc {B m cs} (h:Xn Tryz.prog B m 138 cs): ∃x:Stp,cs=P5 x/\x.wf B:=by
 obtain ⟨h1,m',h2⟩:=XC TM HK h;obtain ⟨a0,a1,a2,a3,rfl⟩:=nI h1;obtain ⟨n0,e0,w0⟩:=Zt Tryz.underlying3 (h2 (0,3) Zb);obtain ⟨n1,e1,w1⟩:=Zt Tryz.underlying3 (h2 (1,3) Zb);obtain ⟨n2,e2,w2⟩:=Zt Tryz.underlying3 (h2 (2,3) Zb);obtain ⟨n3,e3,w3⟩:=Zt Tryz.underlying3 (h2 (3,3) Zb);simp [BZ] at e0 e1 e2 e3;subst e0;subst e1;subst e2;subst e3;exact ⟨⟨n0,n1,n2,n3⟩,rfl,ZJ w0,ZJ w1,ZJ w2,ZJ w3⟩
theorem OX {B v} (h:FitV Tryz.prog B 224 v): ∃x:Int×Int,v=eP x/\Yw x.1/\Yw x.2:=by
 obtain ⟨k,cs,h,e⟩:=h.out;obtain ⟨h1,m',h2⟩:=XC Lx Rb h;obtain ⟨a,b,rfl⟩:=IX h1;obtain ⟨n0,e0,w0⟩:=Zt Tryz.underlying3 (h2 (0,3) Zb);obtain ⟨n1,e1,w1⟩:=Zt Tryz.underlying3 (h2 (1,3) Zb);simp [BZ] at e0 e1;subst e0;subst e1;exact ⟨(n0,n1),e.trans (by rw [We,if_pos (XF Lx)];rfl),ZJ w0,ZJ w1⟩
structure Ord where
 name:List UInt8
 load_c:Bool
 load:List (Int)
 pick:Stp
 drp:Stp
 skills:Int
 penalty:Int
 split:Int
 last:Int
 now:Int
 off:Bool
 deriving Inhabited
def uE (x:Ord):List PV:= [.str x.name,.list x.load_c (x.load.map eI),.int .i64 x.pick.place,.int .i64 x.pick.opn,.int .i64 x.pick.cls,.int .i64 x.pick.serv,.int .i64 x.drp.place,.int .i64 x.drp.opn,.int .i64 x.drp.cls,.int .i64 x.drp.serv,.int .i64 x.skills,.int .i64 x.penalty,.int .i64 x.split,.int .i64 x.last,.int .i64 x.now,.bool x.off]
def Yz (x:Ord):PV:= .agg [.str x.name,.list x.load_c (x.load.map eI),.int .i64 x.pick.place,.int .i64 x.pick.opn,.int .i64 x.pick.cls,.int .i64 x.pick.serv,.int .i64 x.drp.place,.int .i64 x.drp.opn,.int .i64 x.drp.cls,.int .i64 x.drp.serv,.int .i64 x.skills,.int .i64 x.penalty,.int .i64 x.split,.int .i64 x.last,.int .i64 x.now,.bool x.off]
@[go_sem] theorem qX (x:Ord):Yz x= .agg [.str x.name,.list x.load_c (x.load.map eI),.int .i64 x.pick.place,.int .i64 x.pick.opn,.int .i64 x.pick.cls,.int .i64 x.pick.serv,.int .i64 x.drp.place,.int .i64 x.drp.opn,.int .i64 x.drp.cls,.int .i64 x.drp.serv,.int .i64 x.skills,.int .i64 x.penalty,.int .i64 x.split,.int .i64 x.last,.int .i64 x.now,.bool x.off]:=Eq.trans rfl rfl
def Ord.wf (B:Nat) (x:Ord):Prop:=x.name.length<=B/\x.load.length<=B/\(∀n∈x.load,Yw n)/\Stp.wf B x.pick/\Stp.wf B x.drp/\Yw x.skills/\Yw x.penalty/\Yw x.split/\Yw x.last/\Yw x.now
theorem Iq {B m cs} (h:Xn Tryz.prog B m 140 cs): ∃x:Ord,cs=uE x/\x.wf B:=by
 obtain ⟨h1,m',h2⟩:=XC Lw Ra h;obtain ⟨a0,a1,a2,a3,a4,a5,a6,a7,a8,a9,a10,a11,a12,a13,a14,a15,rfl⟩:=nH h1;obtain ⟨n0,e0,w0,_⟩:=JL Tryz.underlying9 (h2 (0,9) Zb);obtain ⟨y1,e1,w1,_,z1⟩:=ZP Tryz.underlying29 (h2 (1,29) Zb);obtain ⟨n1,rfl,u1⟩:=JK z1;obtain ⟨n2,e2,w2⟩:=Cc (h2 (2,138) Zb);obtain ⟨n3,e3,w3⟩:=Cc (h2 (6,138) Zb);obtain ⟨n4,e4,w4⟩:=Zt Tryz.underlying3 (h2 (10,3) Zb);obtain ⟨n5,e5,w5⟩:=Zt Tryz.underlying3 (h2 (11,3) Zb);obtain ⟨n6,e6,w6⟩:=Zt Tryz.underlying3 (h2 (12,3) Zb)
 obtain ⟨n7,e7,w7⟩:=Zt Tryz.underlying3 (h2 (13,3) Zb);obtain ⟨n8,e8,w8⟩:=Zt Tryz.underlying3 (h2 (14,3) Zb);obtain ⟨n9,e9⟩:=Qy Tryz.underlying4 (h2 (15,4) Zb);simp [HL,HK,jJ,BZ,jS,P5,P5] at e0 e1 e2 e3 e4 e5 e6 e7 e8 e9;subst e0;subst e1;obtain ⟨rfl,rfl,rfl,rfl⟩:=e2;obtain ⟨rfl,rfl,rfl,rfl⟩:=e3;subst e4;subst e5;subst e6;subst e7;subst e8;subst e9;exact ⟨⟨n0,false,n1,n2,n3,n4,n5,n6,n7,n8,n9⟩,rfl,w0,by grind,u1,w2,w3,ZJ w4,ZJ w5,ZJ w6,ZJ w7,ZJ w8⟩
theorem Na {B v} (h:FitV Tryz.prog B 140 v): ∃x:Ord,v=Yz x/\x.wf B:=by
 obtain ⟨k,cs,h,e⟩:=h.out;obtain ⟨x,rfl,hw⟩:=Iq h;exact ⟨x,e.trans (by rw [We,if_pos (XF Lw)];rfl),hw⟩
structure Inst where
 net:Net
 types_c:Bool
 types:List (Typ)
 orders_c:Bool
 orders:List (Ord)
 apart_c:Bool
 apart:List (Int×Int)
 before_c:Bool
 before:List (Int×Int)
 deriving Inhabited
def jG (x:Inst):List PV:= [.list x.net.places_c (x.net.places.map eS),.list x.net.arcs_c (x.net.arcs.map Vd),.list x.types_c (x.types.map Vq),.list x.orders_c (x.orders.map Yz),.list x.apart_c (x.apart.map eP),.list x.before_c (x.before.map eP)]
def Xt (x:Inst):PV:= .agg [.list x.net.places_c (x.net.places.map eS),.list x.net.arcs_c (x.net.arcs.map Vd),.list x.types_c (x.types.map Vq),.list x.orders_c (x.orders.map Yz),.list x.apart_c (x.apart.map eP),.list x.before_c (x.before.map eP)]
@[go_sem] theorem jY (x:Inst):Xt x= .agg [.list x.net.places_c (x.net.places.map eS),.list x.net.arcs_c (x.net.arcs.map Vd),.list x.types_c (x.types.map Vq),.list x.orders_c (x.orders.map Yz),.list x.apart_c (x.apart.map eP),.list x.before_c (x.before.map eP)]:=Eq.trans rfl rfl
def Inst.wf (B:Nat) (x:Inst):Prop:=Net.wf B x.net/\x.types.length<=B/\(∀y∈x.types,Typ.wf B y)/\x.orders.length<=B/\(∀y∈x.orders,Ord.wf B y)/\x.apart.length<=B/\(∀p∈x.apart,Yw p.1/\Yw p.2)/\x.before.length<=B/\(∀p∈x.before,Yw p.1/\Yw p.2)
theorem Gl {B m cs} (h:Xn Tryz.prog B m 60 cs): ∃x:Inst,cs=jG x/\x.wf B:=by
 obtain ⟨h1,m',h2⟩:=XC O7 jR h;obtain ⟨a0,a1,a2,a3,a4,a5,rfl⟩:=nJ h1;obtain ⟨n0,e0,w0⟩:=Ip (h2 (0,55) Zb);obtain ⟨y1,e1,w1,_,z1⟩:=ZP Tryz.underlying56 (h2 (2,56) Zb);obtain ⟨n1,rfl,u1⟩:=XI (f:=Vq) fun y hy=>Nd (z1 y hy);obtain ⟨y2,e2,w2,_,z2⟩:=ZP Tryz.underlying57 (h2 (3,57) Zb);obtain ⟨n2,rfl,u2⟩:=XI (f:=Yz) fun y hy=>Na (z2 y hy);obtain ⟨y3,e3,w3,_,z3⟩:=ZP Tryz.underlying58 (h2 (4,58) Zb);obtain ⟨n3,rfl,u3⟩:=XI (f:=eP) fun y hy=>OX (z3 y hy)
 obtain ⟨y4,e4,w4,_,z4⟩:=ZP Tryz.underlying58 (h2 (5,58) Zb);obtain ⟨n4,rfl,u4⟩:=XI (f:=eP) fun y hy=>OX (z4 y hy);simp [jQ,jP,jO,OT,jH] at e0 e1 e2 e3 e4;obtain ⟨rfl,rfl⟩:=e0;subst e1;subst e2;subst e3;subst e4;exact ⟨⟨n0,false,n1,false,n2,false,n3,false,n4⟩,rfl,w0,by grind,u1,by grind,u2,by grind,u3,by grind,u4⟩
theorem Ij {B v} (h:FitV Tryz.prog B 60 v): ∃x:Inst,v=Xt x/\x.wf B:=by
 obtain ⟨k,cs,h,e⟩:=h.out;obtain ⟨x,rfl,hw⟩:=Gl h;exact ⟨x,e.trans (by rw [We,if_pos (XF O7)];rfl),hw⟩
structure Vis where
 order:Int
 drp:Bool
 deriving Inhabited
def uI (x:Vis):List PV:= [.int .i64 x.order,.bool x.drp]
def ZV (x:Vis):PV:= .agg [.int .i64 x.order,.bool x.drp]
@[go_sem] theorem M4 (x:Vis):ZV x= .agg [.int .i64 x.order,.bool x.drp]:=Eq.trans rfl rfl
@[go_sem] theorem bF (l:List Vis):Js 2 (l.map ZV)=true:=UK (f:=ZV) (S:=2) (fun _=>rfl) l
def Vis.wf (B:Nat) (x:Vis):Prop:=Yw x.order
theorem Iu {B m cs} (h:Xn Tryz.prog B m 26 cs): ∃x:Vis,cs=uI x/\x.wf B:=by
 obtain ⟨h1,m',h2⟩:=XC O5 jI h;obtain ⟨a0,a1,rfl⟩:=IX h1;obtain ⟨n0,e0,w0⟩:=Zt Tryz.underlying3 (h2 (0,3) Zb);obtain ⟨n1,e1⟩:=Qy Tryz.underlying4 (h2 (1,4) Zb);simp [jJ,BZ] at e0 e1;subst e0;subst e1;exact ⟨⟨n0,n1⟩,rfl,ZJ w0⟩
theorem Nf {B v} (h:FitV Tryz.prog B 26 v): ∃x:Vis,v=ZV x/\x.wf B:=by
 obtain ⟨k,cs,h,e⟩:=h.out;obtain ⟨x,rfl,hw⟩:=Iu h;exact ⟨x,e.trans (by rw [We,if_pos (XF O5)];rfl),hw⟩
structure Rte where
 typ:Int
 start:Int
 rests_c:Bool
 rests:List (Bool)
 visits_c:Bool
 visits:List (Vis)
 deriving Inhabited
def uG (x:Rte):List PV:= [.int .i64 x.typ,.int .i64 x.start,.list x.rests_c (x.rests.map eB),.list x.visits_c (x.visits.map ZV)]
def eRte (x:Rte):PV:= .agg [.int .i64 x.typ,.int .i64 x.start,.list x.rests_c (x.rests.map eB),.list x.visits_c (x.visits.map ZV)]
@[go_sem] theorem E0 (x:Rte):eRte x= .agg [.int .i64 x.typ,.int .i64 x.start,.list x.rests_c (x.rests.map eB),.list x.visits_c (x.visits.map ZV)]:=Eq.trans rfl rfl
@[go_sem] theorem nS (l:List Rte):Q8 4 (l.map eRte)=true:=Ji fun _=>rfl
def Rte.wf (B:Nat) (x:Rte):Prop:=Yw x.typ/\Yw x.start/\x.rests.length<=B/\(∀b∈x.rests,True)/\x.visits.length<=B/\(∀y∈x.visits,Vis.wf B y)
theorem Is {B m cs} (h:Xn Tryz.prog B m 94 cs): ∃x:Rte,cs=uG x/\x.wf B:=by
 obtain ⟨h1,m',h2⟩:=XC O8 jV h;obtain ⟨a0,a1,a2,a3,rfl⟩:=nI h1;obtain ⟨n0,e0,w0⟩:=Zt Tryz.underlying3 (h2 (0,3) Zb);obtain ⟨n1,e1,w1⟩:=Zt Tryz.underlying3 (h2 (1,3) Zb);obtain ⟨y2,e2,w2,_,z2⟩:=ZP Tryz.underlying91 (h2 (2,91) Zb);obtain ⟨n2,rfl,u2⟩:=Gk z2;obtain ⟨y3,e3,w3,_,z3⟩:=ZP Tryz.underlying92 (h2 (3,92) Zb);obtain ⟨n3,rfl,u3⟩:=XI (f:=ZV) fun y hy=>Nf (z3 y hy);simp [jU,jT,BZ] at e0 e1 e2 e3;subst e0;subst e1;subst e2;subst e3;exact ⟨⟨n0,n1,false,n2,false,n3⟩,rfl,ZJ w0,ZJ w1,by grind,u2,by grind,u3⟩
theorem Nc {B v} (h:FitV Tryz.prog B 94 v): ∃x:Rte,v=eRte x/\x.wf B:=by
 obtain ⟨k,cs,h,e⟩:=h.out;obtain ⟨x,rfl,hw⟩:=Is h;exact ⟨x,e.trans (by rw [We,if_pos (XF O8)];rfl),hw⟩
structure Tim where
 arr:Int
 beg:Int
 dep:Int
 rest:Bool
 deriving Inhabited
def eTim (x:Tim):PV:= .agg [.int .i64 x.arr,.int .i64 x.beg,.int .i64 x.dep,.bool x.rest]
@[go_sem] theorem rC (x:Tim):eTim x= .agg [.int .i64 x.arr,.int .i64 x.beg,.int .i64 x.dep,.bool x.rest]:=Eq.trans rfl rfl
@[go_sem] theorem nT (l:List Tim):Q8 4 (l.map eTim)=true:=Ji fun _=>rfl
structure She where
 rest:Bool
 dep:Int
 times_c:Bool
 times:List (Tim)
 fin:Int
 miles:Int
 deriving Inhabited
def Gh (x:She):PV:= .agg [.bool x.rest,.int .i64 x.dep,.list x.times_c (x.times.map eTim),.int .i64 x.fin,.int .i64 x.miles]
@[go_sem] theorem rA (x:She):Gh x= .agg [.bool x.rest,.int .i64 x.dep,.list x.times_c (x.times.map eTim),.int .i64 x.fin,.int .i64 x.miles]:=Eq.trans rfl rfl
structure Sco where
 cost:Int
 moved:Int
 other:Int
 work:Int
 deriving Inhabited
def Q6 (x:Sco):PV:= .agg [.int .i64 x.cost,.int .i64 x.moved,.int .i64 x.other,.int .i64 x.work]
@[go_sem] theorem qZ (x:Sco):Q6 x= .agg [.int .i64 x.cost,.int .i64 x.moved,.int .i64 x.other,.int .i64 x.work]:=Eq.trans rfl rfl
structure Pln where
 routes_c:Bool
 routes:List (Rte)
 unserved_c:Bool
 unserved:List (Int)
 deriving Inhabited
def uF (x:Pln):List PV:= [.list x.routes_c (x.routes.map eRte),.list x.unserved_c (x.unserved.map eI)]
def Ws (x:Pln):PV:= .agg [.list x.routes_c (x.routes.map eRte),.list x.unserved_c (x.unserved.map eI)]
@[go_sem] theorem qY (x:Pln):Ws x= .agg [.list x.routes_c (x.routes.map eRte),.list x.unserved_c (x.unserved.map eI)]:=Eq.trans rfl rfl
def Pln.wf (B:Nat) (x:Pln):Prop:=x.routes.length<=B/\(∀y∈x.routes,Rte.wf B y)/\x.unserved.length<=B/\(∀n∈x.unserved,Yw n)
theorem Ir {B m cs} (h:Xn Tryz.prog B m 46 cs): ∃x:Pln,cs=uF x/\x.wf B:=by
 obtain ⟨h1,m',h2⟩:=XC O6 jL h;obtain ⟨a0,a1,rfl⟩:=IX h1;obtain ⟨y0,e0,w0,_,z0⟩:=ZP Tryz.underlying44 (h2 (0,44) Zb);obtain ⟨n0,rfl,u0⟩:=XI (f:=eRte) fun y hy=>Nc (z0 y hy);obtain ⟨y1,e1,w1,_,z1⟩:=ZP Tryz.underlying29 (h2 (1,29) Zb);obtain ⟨n1,rfl,u1⟩:=JK z1;simp [jK,HL] at e0 e1;subst e0;subst e1;exact ⟨⟨false,n0,false,n1⟩,rfl,by grind,u0,by grind,u1⟩
theorem Nb {B v} (h:FitV Tryz.prog B 46 v): ∃x:Pln,v=Ws x/\x.wf B:=by
 obtain ⟨k,cs,h,e⟩:=h.out;obtain ⟨x,rfl,hw⟩:=Ir h;exact ⟨x,e.trans (by rw [We,if_pos (XF O6)];rfl),hw⟩
theorem own : ownKnob Tryz.prog.godebug=none:=Ze
theorem Nu : laidOutB Tryz.prog=true:=Ze
abbrev Flt := Int×List UInt8
def eF (f:Flt):PV:= .agg [.int .i64 f.1,.str f.2]
@[go_sem] theorem yY (f:Flt):eF f= .agg [.int .i64 f.1,.str f.2]:=Eq.trans rfl rfl
@[go_sem] theorem vN (l:List Flt):Q8 2 (l.map eF)=true:=Ji fun _=>rfl
def dec (n:Nat):List UInt8:=if h:n<10 then [UInt8.ofNat (48+n)] else dec (n / 10)++ [UInt8.ofNat (48+n%10)]
termination_by n
decreasing_by omega
theorem EU : ∀(k n:Nat),n<k->(dec n).length<=n+1:=by
 intro k
 induction k with
 | zero=>omega
 | succ k ih =>
  grind [dec]
theorem Uv : ∀(d n:Nat),n<10^(d+1)->(dec n).length<=d+1:=by
 intro d
 induction d with
 | zero=>simp_all [dec]
 | succ d ih =>
  grind [dec]
def WD (n:Int):List UInt8:=if n<0 then 45::dec n.natAbs else dec n.natAbs
theorem Y3 (n:Int) (h:Yw n):(WD n).length<=20:=by
 have h1:n.natAbs<10^(18+1):=Za
 have:=Uv 18 n.natAbs h1
 grind [WD]
structure FR {α:Type} (p:α->Prop) (C:Prop) (b:Nat) (l:List α):Prop where
 len:l.length<=b
 emp:l= []↔C
 all: ∀x∈l,p x
theorem FR.nil {α:Type} {p:α->Prop} {C:Prop} {b:Nat} (h:C):FR p C b []:=⟨Zb,by simp [h],Zb⟩
theorem FR.no {α:Type} {p:α->Prop} {C c:Prop} {b:Nat} {l:List α} (h:FR p C b l) (hc:c):FR p (C/\c) (b+1) l:=⟨by have:=h.len;omega,by rw [h.emp];simp [hc],h.all⟩
theorem FR.yes {α:Type} {p:α->Prop} {C c:Prop} {b:Nat} {l:List α} {x:α} (h:FR p C b l) (hc: ¬c) (hx:p x):FR p (C/\c) (b+1) (l++ [x]) :=
 ⟨by have:=h.len;simp;omega,by simp [hc],fun y hy=>by
  rcases List.mem_append.1 hy with hy | hy
  ·exact h.all y hy
  grind⟩
theorem FR.app {α:Type} {p:α->Prop} {C D:Prop} {b d:Nat} {l m:List α} (h:FR p C b l) (k:FR p D d m):FR p (C/\D) (b+d) (l++m) :=
 ⟨by have:=h.len;have:=k.len;simp;omega,by rw [List.append_eq_nil_iff,h.emp,k.emp],fun y hy=>by
  rcases List.mem_append.1 hy with hy | hy
  ·exact h.all y hy
  ·exact k.all y hy⟩
theorem FR.to {α:Type} {p:α->Prop} {C D:Prop} {b d:Nat} {l:List α} (h:FR p C b l) (hb:b<=d) (hc:C↔D):FR p D d l:=⟨Nat.le_trans h.len hb,h.emp.trans hc,h.all⟩
theorem Zl {p:Nat->Prop} {k:Nat} :(∀j,j<k+1->p j)↔((∀j,j<k->p j)/\p k) :=
 ⟨fun h=>⟨fun j hj=>h j Za,h k Za⟩,fun h j hj=>by
  grind⟩
def WY (c:UInt8):Bool:=decide (48<=c.toNat/\c.toNat<=57)
def WI (c:UInt8):Bool:=decide (97<=c.toNat/\c.toNat<=122)||decide (65<=c.toNat/\c.toNat<=90)||decide (c.toNat=95)
def nameOk (s:List UInt8):Bool:=decide (1<=s.length)&&decide (s.length<=16)&& !WY (nth s 0)&&s.all fun c=>WI c||WY c
def rng (n lo hi:Int):Bool:=decide (lo<=n/\n<=hi)
def Bo (n:Int):Bool:=rng n 0 4096
def LB (l:List Pt) (i:Nat):Prop:=(0<=(nth l i).t/\(nth l i).t<=4096/\(nth l i).t<=(nth l i).a/\(nth l i).a<=(nth l i).t+4096)/\(0<i->(nth l (i-1)).t<(nth l i).t/\(nth l (i-1)).a<=(nth l i).a)
def Ya (l:List Pt):Prop:=(1<=l.length/\l.length<=16)/\ ∀i,i<l.length->LB l i
def VG (l:List Pt) (i:Nat):Prop:=Bo (nth l i).t=true/\Bo (nth l i).a=true/\(0<i->(nth l (i-1)).t<(nth l i).t)
def BM (n:Net) (i:Nat):Prop :=
 ((((((0<=(nth n.arcs i).src/\(nth n.arcs i).src<n.places.length/\0<=(nth n.arcs i).dst/\(nth n.arcs i).dst<n.places.length) /\
 (0<=(nth n.arcs i).prof/\(nth n.arcs i).prof<=7/\0<=(nth n.arcs i).miles/\(nth n.arcs i).miles<=10000/\(nth n.arcs i).src≠(nth n.arcs i).dst)) /\
 (∀k,k<i-> ¬((nth n.arcs i).src=(nth n.arcs k).src/\(nth n.arcs i).dst=(nth n.arcs k).dst/\(nth n.arcs i).prof=(nth n.arcs k).prof))) /\
 Ya (nth n.arcs i).travel)/\(nth n.arcs i).slow.length<=16)/\ ∀k,k<(nth n.arcs i).slow.length->VG (nth n.arcs i).slow k)
def D1 (n:Net) (i:Nat):Prop:=nameOk (nth n.places i)=true/\ ∀k,k<i->nth n.places k≠nth n.places i
def VC (n:Net):Prop:=n.places.length<=24/\ ∀i,i<n.places.length->D1 n i
def netOk (n:Net):Prop:=(VC n/\n.arcs.length<=1024)/\ ∀i,i<n.arcs.length->BM n i
set_option maxRecDepth 8000
set_option maxHeartbeats 4000000
theorem EX (c:UInt8):PC 120 [.p (.int .u8 (c.toNat:Nat))] (.bool (WY c)):=by
 refine Zc Tryz.func120 rfl R0 ?_;simp (disch:=omega) only [Tryz.f120,go_sem,seval];refine gT ?_ ?_<;>intro h<;>simp (disch:=omega) only [Sh.out h,go_sem,seval,↓reduceIte]
 all_goals (simp [WY];first | done | omega | grind)
theorem IY (c:UInt8):PC 179 [.p (.int .u8 (c.toNat:Nat))] (.bool (WI c)):=by
 refine Zc Tryz.func179 rfl Sy ?_;simp (disch:=omega) only [Tryz.f179,go_sem,seval]
 repeat' (first | (refine gT ?_ ?_<;>intro hq<;>simp (disch:=omega) only [Sh.out hq,go_sem,seval,↓reduceIte]) | (refine gF ?_ ?_<;>intro hq<;>simp (disch:=omega) only [Sh.out hq,go_sem,seval,↓reduceIte]) | (refine WS (fun hq=> ?_) (fun hq=> ?_)<;>(try simp only [decide_eq_true_eq,decide_eq_false_iff_not,Classical.not_not] at hq)<;>simp (disch:=omega) only [Sh.out hq,go_sem,seval]))
 all_goals (simp [WI];first | done | omega | (rw [Bool.eq_iff_iff];simp;omega))
theorem DS (s:List UInt8) (hs:s.length<=1048576):PC 144 [.p (.str s)] (.bool (nameOk s)):=by
 refine Zc Tryz.func144 rfl Sa ?_;simp (disch:=omega) only [Tryz.f144,go_sem,seval];refine gF ?_ ?_<;>intro h<;>simp (disch:=omega) only [Sh.out h,go_sem,seval,↓reduceIte]
 ·grind [nameOk]
 ·refine gF ?_ ?_<;>intro h2<;>simp (disch:=omega) only [Sh.out h2,go_sem,seval]
  ·grind [nameOk]
  ·have g1:1<=s.length:=Za
   have g2:s.length<=16:=Za
   refine (EX (nth s 0)).use (Zf ?_);refine cD ?_ ?_<;>intro h3<;>simp (disch:=omega) only [Sh.out h3,go_sem,seval]
   ·simp [nameOk,h3]
   ·refine Zj [0] (fun k:Nat=> [(3,.p (.int .i64 k))]) (fun _=> []) (fun k=>k<=s.length/\ ∀j,j<k->(WI (nth s j)||WY (nth s j))=true) (fun k=>s.length-k) 0 Zb (Weak.mk ?_) ?_
    ·simp (disch:=omega) only [go_sem,seval,↓reduceIte]
    ·rintro k ⟨hk,hno⟩;refine Zf ?_
     have Z7: ∀j,j<s.length->(WI (nth s j)||WY (nth s j))=false->nameOk s=false:=fun j hj e=>by
      grind [Zi,nameOk]
     refine cD ?_ ?_<;>intro h4<;>simp (disch:=omega) only [Sh.out h4,go_sem,seval,↓reduceIte]
     ·have hk2:k<s.length:=Za
      refine (IY (nth s k)).use (Zf ?_);refine gT ?_ ?_<;>intro h5<;>simp (disch:=omega) only [Sh.out h5,go_sem,seval,↓reduceIte]
      ·refine (EX (nth s k)).use (Zf ?_);refine cD ?_ ?_<;>intro h6<;>simp (disch:=omega) only [Sh.out h6,go_sem,seval,↓reduceIte]
       ·grind
       ·simp only [Bool.not_eq_false'] at h6;exact ⟨k+1,⟨Za,Zl.2 ⟨hno,by simp [h6]⟩⟩,Za,wk⟩
      ·simp only [Bool.not_eq_false'] at h5;exact ⟨k+1,⟨Za,Zl.2 ⟨hno,by simp [h5]⟩⟩,Za,wk⟩
     ·have:s.all (fun c=>WI c||WY c)=true:=by
       rw [List.all_eq_true];intro c hc;obtain ⟨j,hj,rfl⟩:=List.mem_iff_getElem.1 hc
       grind [Zi]
      grind [nameOk]
theorem VP (n:Int) (hn:Yw n):PC 44 [.p (.int .i64 n)] (.str (WD n)):=by
 refine Zc Tryz.func44 rfl lK ?_;simp (disch:=omega) only [Tryz.f44,go_sem,seval]
 have h19:n.natAbs<10^(18+1):=Za
 have hdl:=Uv 18 n.natAbs h19
 refine ZH [7] [0] (fun q:Int×List UInt8×Bool=> [(3,.p (.str q.2.1)),(4,.p (.int .i64 q.1)),(5,.p (.bool q.2.2))]) (fun _=> [])
  (fun q=>Yw q.1/\(q.2.2=true->dec q.1.natAbs++q.2.1=dec n.natAbs)/\(q.2.2=false->q.2.1=dec n.natAbs)) (fun q=>if q.2.2 then q.1.natAbs+1 else 0) (n,[],true) (by simp;omega) (Weak.mk ?_) ?_
 ·simp (disch:=omega) only [go_sem,seval,↓reduceIte]
 ·rintro ⟨m,s,again⟩ ⟨hm,h1,h2⟩;simp only at hm h1 h2;refine Zf ?_
  cases again with
  | false =>
   refine Zf ?_;have h2:=h2 rfl
   have hl2:([45]:List UInt8).length+(dec n.natAbs).length<=9223372036854775807:=by simp;omega
   refine cD ?_ ?_<;>intro h3<;>simp (disch:=omega) only [Sh.out h3,go_sem,seval]
   ·simp (disch:=omega) only [WD,h2,h3,Qh hl2,go_sem,seval,↓reduceIte]
   ·simp (disch:=omega) only [WD,h2,h3,go_sem,seval,↓reduceIte]
  | true =>
   have h1:=h1 rfl
   have hls:(dec m.natAbs).length+s.length=(dec n.natAbs).length:=by grind
   refine Zf ?_
   have e1:(m.tmod 10).natAbs=m.natAbs%10:=Zb
   have e2:(m.tdiv 10).natAbs=m.natAbs / 10:=by grind
   have e3:m.tmod 10<10/\ -10<m.tmod 10:=⟨Int.tmod_lt_of_pos _ (by decide),Za⟩;refine Zq [0,3,4] (fun _:Unit=> [(6,.p (.int .i64 ((m.natAbs%10:Nat):Int)))]) (fun _=> []) (fun _=>True) ?_ ?_
   ·refine Zf ?_;refine cD ?_ ?_<;>intro h3<;>simp (disch:=omega) only [Sh.out h3,go_sem,seval,↓reduceIte]
    ·exact ⟨(),Weak.mk (by refine Zf ?_;simp;omega)⟩
    ·exact ⟨(),Weak.mk (by refine Zf ?_;simp;omega)⟩
   ·intro _ _;refine Zd [] _ _ _ _ ?_;simp (disch:=first | omega | (simp only [List.length_cons,List.length_nil,List.length_append,List.length_map,List.length_take,List.length_drop]<;>omega)) only [go_sem,seval,↓reduceIte]
    have e4:(48+((m.natAbs%10:Nat):Int)).toNat=48+m.natAbs%10:=Za
    refine ⟨(m.tdiv 10,UInt8.ofNat (48+m.natAbs%10)::s,decide (m.tdiv 10≠0)),⟨?_,?_,?_⟩,?_,Weak.mk ?_⟩
    ·omega
    ·simp only [decide_eq_true_eq];intro hne
     have h10: ¬m.natAbs<10:=Za
     rw [e2,<- h1,dec.eq_def m.natAbs,dif_neg h10];simp
    ·simp only [decide_eq_false_iff_not,Classical.not_not];intro hz
     have h10:m.natAbs<10:=Za
     rw [<- h1,dec.eq_def m.natAbs,dif_pos h10,Nat.mod_eq_of_lt h10];simp
    ·grind
    ·simp (disch:=omega) only [e4,go_sem,seval]
def pF (k:Nat) (f:Flt):Prop:=f.2.length<=k
theorem Xs {P:Program} {id:Nat} {l:List Oper} {fr:List V} {H:List AM.Obj} {Q:Exit->List V->List AM.Obj->Prop} {t} (h:hs P (l.map (·.dst)) H (Zp (fun fr'=>Q .normal (Fa fr') H) ⟨⟩) l (Fa fr)) (hm:P.follows .mixedOrders=true:=by exact mixed) (hB:YF (List.toArray l) l.length=true:=by kernel_rfl) (hR:Uz (List.toArray l) l.length=true:=by kernel_rfl):AWP P (.region id (Zp (List.toArray l) t) true) fr H Q:=Dq hm hB hR h
theorem Rk (l:List Pt) (c:Bool) (hl:l.length<=1048576):ACalls Tryz.prog 145 [.p (.list c (l.map AX))] [] fun x H'=> ∃m:List Flt,FR (pF 20) (Ya l) (2*l.length+1) m/\x= .sl 0 0 m.length m.length/\H'= [.elems 2 (m.map eF)]:=by
 refine ZL [2] Tryz.func145 rfl Sb ?_;simp (disch:=omega) only [Tryz.f145,go_sem,seval];refine Zr (Weak.ofNil 3 2 (by simp (disch:=omega) only [go_sem,seval]) Zb (Weak.refl _ _ _)) ?_;refine Zq [0] (fun m:List Flt=> [(3,.sl 0 0 m.length m.length)]) (fun m=> [.elems 2 (m.map eF)]) (fun m=>FR (pF 20) (1<=l.length/\l.length<=16) 1 m) ?_ ?_
 ·refine Zf ?_
  repeat' (first | (refine Yq (fun hq=> ?_) (fun hq=> ?_)<;>(try simp only [decide_eq_true_eq,decide_eq_false_iff_not,Classical.not_not] at hq)<;>simp (disch:=omega) only [Sh.out hq,go_sem,seval]) | (refine gF ?_ ?_<;>intro hq<;>simp (disch:=omega) only [Sh.out hq,go_sem,seval,↓reduceIte]) | (refine cD ?_ ?_<;>intro hq<;>simp (disch:=omega) only [Sh.out hq,go_sem,seval,↓reduceIte]))
  ·exact ⟨[(4,[])],⟨Zb,by simp;omega,by simp [pF]⟩,wk⟩
  ·exact ⟨[(4,[])],⟨Zb,by simp;omega,by simp [pF]⟩,wk⟩
  ·exact ⟨[],FR.nil Za,wk⟩
 ·intro m hm;refine Zd [] _ _ _ _ (Zf ?_);refine ZH [8] [0] (fun q:Nat×List Flt=> [(3,.sl 0 0 q.2.length q.2.length),(4,.p (.int .i64 q.1))]) (fun q=> [.elems 2 (q.2.map eF)]) (fun q=>q.1<=l.length/\FR (pF 20) ((1<=l.length/\l.length<=16)/\ ∀j,j<q.1->LB l j) (2*q.1+1) q.2) (fun q=>l.length-q.1) (0,m) ⟨Zb,hm.to Zb Zb⟩ (Weak.mk ?_) ?_
  ·simp (disch:=omega) only [go_sem,seval,↓reduceIte]
  ·rintro ⟨k,m⟩ ⟨hk,hm⟩;simp only at hk hm;have hml:=hm.len;refine Zf ?_;refine cD ?_ ?_<;>intro h<;>simp (disch:=omega) only [Sh.out h,go_sem,seval,↓reduceIte]
   ·have hk2:k<l.length:=Za
    refine Zq [0,4,5] (fun m:List Flt=> [(3,.sl 0 0 m.length m.length)]) (fun m=> [.elems 2 (m.map eF),.cells [.p (.int .i64 (nth l k).t),.p (.int .i64 (nth l k).a)]])
     (fun m=>FR (pF 20) (((1<=l.length/\l.length<=16)/\ ∀j,j<k->LB l j)/\(0<=(nth l k).t/\(nth l k).t<=4096/\(nth l k).t<=(nth l k).a/\(nth l k).a<=(nth l k).t+4096)) (2*k+1+1) m) ?_ ?_
    ·refine Zf ?_
     have hI:Yw (k:Int):=Za
     have hdl:=Y3 k hI
     repeat' (first | (refine Yq (fun hq=> ?_) (fun hq=> ?_)<;>(try simp only [decide_eq_true_eq,decide_eq_false_iff_not,Classical.not_not] at hq)<;>simp (disch:=omega) only [Sh.out hq,go_sem,seval]) | (refine gF ?_ ?_<;>intro hq<;>simp (disch:=omega) only [Sh.out hq,go_sem,seval,↓reduceIte]) | (refine cD ?_ ?_<;>intro hq<;>simp (disch:=omega) only [Sh.out hq,go_sem,seval,↓reduceIte]))
     all_goals try exact ⟨m,hm.no Za,wk⟩
     all_goals
      refine (VP k hI).use ?_;simp (disch:=omega) only [go_sem,seval,↓reduceIte];exact ⟨m++ [(2,WD k)],hm.yes Za (by simp only [pF];omega),wk⟩
    ·intro m hm;have hml:=hm.len;refine Zd [] _ _ _ _ (Zf ?_)
     have hI:Yw (k:Int):=Za
     have hdl:=Y3 k hI;refine Xs (Zf ?_)
     repeat' (first | (refine gT ?_ ?_<;>intro hq<;>simp (disch:=omega) only [Sh.out hq,go_sem,seval,↓reduceIte]) | (refine gF ?_ ?_<;>intro hq<;>simp (disch:=omega) only [Sh.out hq,go_sem,seval,↓reduceIte]) | (refine cD ?_ ?_<;>intro hq<;>simp (disch:=omega) only [Sh.out hq,go_sem,seval,↓reduceIte]))
     all_goals try exact ⟨(k+1,m),⟨by simp only;omega,(hm.no (c:=0<k->(nth l (k-1)).t<(nth l k).t/\(nth l (k-1)).a<=(nth l k).a) Za).to (by simp only;omega) (by simp only [Zl,LB,and_assoc])⟩,by simp only;omega,wk⟩
     all_goals
      refine (VP k hI).use ?_;simp (disch:=omega) only [go_sem,seval,↓reduceIte];exact ⟨(k+1,m++ [(13,WD k)]),⟨by simp only;omega,(hm.yes (c:=0<k->(nth l (k-1)).t<(nth l k).t/\(nth l (k-1)).a<=(nth l k).a) Za (by simp only [pF];omega)).to (by simp only;omega) (by simp only [Zl,LB,and_assoc])⟩,by simp only;omega,wk⟩
   ·have hkn:k=l.length:=Za
    subst hkn;exact ⟨m,hm.to Za (by rw [Ya]),0,by simp (disch:=omega) only [go_sem,seval]⟩
set_option maxHeartbeats 8000000
theorem pF.mono {j k:Nat} (h:j<=k) {f:Flt} (hf:pF j f):pF k f:=Nat.le_trans hf h
theorem FR.pmono {α:Type} {p q:α->Prop} {C:Prop} {b:Nat} {l:List α} (h:FR p C b l) (hp: ∀x,p x->q x):FR q C b l:=⟨h.len,h.emp,fun x hx=>hp x (h.all x hx)⟩
theorem C5 (n:Int):PC 146 [.p (.int .i64 n)] (.bool (Bo n)):=by
 refine Zc Tryz.func146 rfl Sc ?_;simp (disch:=omega) only [Tryz.f146,go_sem,seval]
 repeat' (first | (refine gT ?_ ?_<;>intro hq<;>simp (disch:=omega) only [Sh.out hq,go_sem,seval,↓reduceIte]) | (refine YZ (fun hq=> ?_) (fun hq=> ?_)<;>(try simp only [decide_eq_true_eq,decide_eq_false_iff_not,Classical.not_not] at hq)<;>simp (disch:=omega) only [Sh.out hq,go_sem,seval]) | (refine WS (fun hq=> ?_) (fun hq=> ?_)<;>(try simp only [decide_eq_true_eq,decide_eq_false_iff_not,Classical.not_not] at hq)<;>simp (disch:=omega) only [Sh.out hq,go_sem,seval]))
 all_goals (simp [Bo,rng];first | done | omega | (rw [Bool.eq_iff_iff];simp;omega))
def Zy (n:Net):List AM.Obj:= [.cells [.p (.list n.places_c (n.places.map eS)),.p (.list n.arcs_c (n.arcs.map Vd))]]
theorem VI {P Q:Prop} (h:Q) (e:Q->P:=by intro h;simp (disch:=omega) only [Zy,go_sem,seval];exact h):P:=e h
theorem Dy (n:Net) (hp:n.places.length<=1048576) (hs: ∀s∈n.places,s.length<=1048576):ACalls Tryz.prog 106 [.p (JE n)] [] fun x H'=> ∃m:List Flt,FR (pF 26) (VC n) (n.places.length+1) m/\x= .sl 0 0 m.length m.length/\H'= [.elems 2 (m.map eF)]:=by
 refine ZL [2] Tryz.func106 rfl RM ?_;simp (disch:=omega) only [Tryz.f106,go_sem,seval];refine Zr (Weak.ofNil 3 2 (by simp (disch:=omega) only [go_sem,seval]) Zb (Weak.refl _ _ _)) ?_;refine Zq [1] (fun m:List Flt=> [(3,.sl 1 0 m.length m.length)]) (fun m=>Zy n++ [.elems 2 (m.map eF)]) (fun m=>FR (pF 26) (n.places.length<=24) 1 m) ?_ ?_
 ·refine Zf ?_;refine ZX ?_ ?_<;>intro h
  ·exact ⟨[(4,[112,108,97,99,101,115])],⟨Zb,by simp;omega,by simp [pF]⟩,Weak.mk (by simp (disch:=omega) only [Zy,go_sem,seval])⟩
  ·exact ⟨[],FR.nil Za,Weak.mk (by simp (disch:=omega) only [Zy,go_sem,seval])⟩
 ·intro m hm;refine Zd [] _ _ _ _ (VI ?_);refine Zj [1] (fun q:Nat×List Flt=> [(3,.sl 1 0 q.2.length q.2.length),(4,.p (.int .i64 q.1))]) (fun q=>Zy n++ [.elems 2 (q.2.map eF)]) (fun q=>q.1<=n.places.length/\FR (pF 26) (n.places.length<=24/\ ∀j,j<q.1->D1 n j) (q.1+1) q.2) (fun q=>n.places.length-q.1) (0,m) ⟨Zb,hm.to Zb Zb⟩ (Weak.mk ?_) ?_
  ·simp (disch:=omega) only [Zy,go_sem,seval]
  ·rintro ⟨k,m⟩ ⟨hk,hm⟩;simp only at hk hm;have hml:=hm.len;refine VI ?_;refine cD ?_ ?_<;>intro h<;>simp (disch:=omega) only [Sh.out h,go_sem,seval,↓reduceIte]
   ·have hk2:k<n.places.length:=Za
    have hI:Yw (k:Int):=Za
    have hdl:=Y3 k hI;refine (VP k hI).use (Zf ?_);simp (disch:=first | omega | (simp only [List.length_cons,List.length_nil,List.length_append,List.length_map,List.length_take,List.length_drop]<;>omega)) only [go_sem,seval,↓reduceIte];refine (DS (nth n.places k) (hs _ (by grind [Zi]))).use (Zf ?_);refine ZX ?_ ?_<;>intro h2
    ·simp only [Bool.not_eq_true'] at h2;exact ⟨(k+1,m++ [(5,[112,108,97,99,101,32]++WD k)]),⟨Za,(hm.yes (c:=D1 n k) (by rw [D1,h2];simp) (by simp [pF];omega)).to Zb (by grind)⟩,Za,wk⟩
    ·simp only [Bool.not_eq_false'] at h2;refine Zj [1,3,4,5] (fun q:Nat×Bool=> [(6,.p (.bool q.2)),(7,.p (.int .i64 q.1))]) (fun _=>Zy n++ [.elems 2 (m.map eF)]) (fun q=>q.1<=k/\(q.2=false↔ ∀j,j<q.1->nth n.places j≠nth n.places k)) (fun q=>k-q.1) (0,false) Zb (Weak.mk ?_) ?_
     ·simp (disch:=omega) only [Zy,go_sem,seval]
     ·rintro ⟨j,b⟩ ⟨hj,hb⟩;simp only at hj hb;refine VI ?_;refine cD ?_ ?_<;>intro h3<;>simp (disch:=omega) only [Sh.out h3,go_sem,seval,↓reduceIte]
      ·refine Zv 14 mixed Ze Ze (Zf ?_)
       have hjn:j<n.places.length:=Za
       cases b with
       | true =>
        refine Zf ?_;exact ⟨(j+1,true),⟨Za,by grind⟩,Za,wk⟩
       | false =>
        refine Zf ?_;refine ⟨(j+1,decide (nth n.places j=nth n.places k)),⟨Za,by grind⟩,Za,wk⟩
      ·have hjk:j=k:=Za
       subst hjk
       cases b with
       | true =>
        refine Zf ?_
        have hno: ¬D1 n j:=fun h5=>by have:=hb.2 h5.2;cases this
        exact ⟨(j+1,m++ [(6,[112,108,97,99,101,32]++WD j)]),⟨Za,(hm.yes (c:=D1 n j) hno (by simp [pF];omega)).to Zb (by grind)⟩,Za,wk⟩
       | false =>
        refine Zf ?_;exact ⟨(j+1,m),⟨Za,(hm.no (c:=D1 n j) ⟨h2,hb.1 rfl⟩).to Zb (by grind)⟩,Za,wk⟩
   ·have hkn:k=n.places.length:=Za
    subst hkn;exact ⟨m,hm.to Za (by rw [VC]),1,by simp (disch:=omega) only [go_sem,seval]⟩
set_option maxHeartbeats 16000000
def Yy (a:Arc):AM.Obj:= .cells [.p (.int .i64 a.src),.p (.int .i64 a.dst),.p (.int .i64 a.prof),.p (.int .i64 a.miles),.p (.list a.travel_c (a.travel.map AX)),.p (.list a.slow_c (a.slow.map AX))]
abbrev XG (a b:Arc):Prop:=a.src=b.src/\a.dst=b.dst/\a.prof=b.prof
theorem Kq {P Q:Prop} (h:Q) (e:Q->P:=by intro h;simp (disch:=omega) only [Zy,Yy,go_sem,seval];exact h):P:=e h
theorem MW (n:Net) (i:Nat) (hi:i<n.arcs.length) (hp:n.places.length<=1048576) (ha:n.arcs.length<=1048576) (ht:(nth n.arcs i).travel.length<=1048576) (hsl:(nth n.arcs i).slow.length<=1048576) :
  ACalls Tryz.prog 107 [.p (JE n),.p (.int .i64 (i:Nat))] [] fun x H'=> ∃m:List Flt,FR (pF 26) (BM n i) 4000000 m/\x= .sl 0 0 m.length m.length/\H'= [.elems 2 (m.map eF)]:=by
 refine ZL [4] Tryz.func107 rfl RN ?_;simp (disch:=omega) only [Tryz.f107,go_sem,seval]
 have hI:Yw (i:Int):=Za
 have hdl:=Y3 i hI;refine (VP i hI).use (Zf ?_);simp (disch:=first | omega | (simp only [List.length_cons,List.length_nil,List.length_append,List.length_map,List.length_take,List.length_drop]<;>omega)) only [go_sem,seval,↓reduceIte]
 have hat:(97::114::99::32::WD i).length<=26:=by simp;omega
 generalize hga:nth n.arcs i=a at ht hsl ⊢;generalize 97::114::99::32::WD i=at' at hat ⊢;refine Zr (Weak.ofNil 5 2 (by simp (disch:=omega) only [go_sem,seval]) Zb (Weak.refl _ _ _)) ?_;refine Zq [1,2,6,7] (fun m:List Flt=> [(5,.sl 2 0 m.length m.length)]) (fun m=>Zy n++ [Yy a,.elems 2 (m.map eF)]) (fun m=>FR (pF 26) (0<=a.src/\a.src<n.places.length/\0<=a.dst/\a.dst<n.places.length) 1 m) ?_ ?_
 ·refine Zf ?_
  repeat' (first | (refine Yq (fun hq=> ?_) (fun hq=> ?_)<;>(try simp only [decide_eq_true_eq,decide_eq_false_iff_not,Classical.not_not] at hq)<;>simp (disch:=omega) only [Sh.out hq,go_sem,seval]) | (refine gF ?_ ?_<;>intro hq<;>simp (disch:=omega) only [Sh.out hq,go_sem,seval]) | (refine cD ?_ ?_<;>intro hq<;>simp (disch:=omega) only [Sh.out hq,go_sem,seval]))
  all_goals try exact ⟨[],FR.nil Za,Weak.mk (by simp (disch:=omega) only [Zy,Yy,go_sem,seval])⟩
  all_goals exact ⟨[(11,at')],⟨Zb,by simp;omega,by simpa [pF] using hat⟩,Weak.mk (by simp (disch:=omega) only [Zy,Yy,go_sem,seval])⟩
 ·intro m hm;refine Zd [6] _ _ _ _ (Kq ?_);have hml:=hm.len
  refine Zq [1,2,6,7] (fun m:List Flt=> [(5,.sl 2 0 m.length m.length)]) (fun m=>Zy n++ [Yy a,.elems 2 (m.map eF)])
   (fun m=>FR (pF 26) ((0<=a.src/\a.src<n.places.length/\0<=a.dst/\a.dst<n.places.length)/\(0<=a.prof/\a.prof<=7/\0<=a.miles/\a.miles<=10000/\a.src≠a.dst)) 2 m) ?_ ?_
  ·refine Zf ?_
   repeat' (first | (refine Yq (fun hq=> ?_) (fun hq=> ?_)<;>(try simp only [decide_eq_true_eq,decide_eq_false_iff_not,Classical.not_not] at hq)<;>simp (disch:=omega) only [Sh.out hq,go_sem,seval]) | (refine gF ?_ ?_<;>intro hq<;>simp (disch:=omega) only [Sh.out hq,go_sem,seval]) | (refine cD ?_ ?_<;>intro hq<;>simp (disch:=omega) only [Sh.out hq,go_sem,seval]))
   all_goals try exact ⟨m,hm.no Za,Weak.mk (by simp (disch:=omega) only [Zy,Yy,go_sem,seval])⟩
   all_goals exact ⟨m++ [(2,at')],hm.yes Za (by simpa [pF] using hat),Weak.mk (by simp (disch:=omega) only [Zy,Yy,go_sem,seval])⟩
  ·clear hm hml;intro m hm;refine Zd [14] _ _ _ _ (Kq ?_);have hml:=hm.len;refine ZH [14] [1,2,5,6,7] (fun q:Nat×Bool=> [(8,.p (.bool q.2)),(9,.p (.int .i64 q.1))]) (fun _=>Zy n++ [Yy a,.elems 2 (m.map eF)]) (fun q=>q.1<=i/\(q.2=false↔ ∀j,j<q.1-> ¬XG a (nth n.arcs j))) (fun q=>i-q.1) (0,false) Zb (Weak.mk ?_) ?_
   ·simp (disch:=omega) only [Zy,Yy,go_sem,seval]
   ·rintro ⟨k,b⟩ ⟨hk,hb⟩;simp only at hk hb;refine Kq ?_;refine cD ?_ ?_<;>intro h<;>simp (disch:=omega) only [Sh.out h,go_sem,seval,↓reduceIte]
    ·have hkn:k<n.arcs.length:=Za
     cases b with
     | true =>
      refine Zf ?_;exact ⟨(k+1,true),⟨Za,by grind⟩,Za,wk⟩
     | false =>
      refine Zf ?_
      repeat' (first | (refine gT ?_ ?_<;>intro hq<;>simp (disch:=omega) only [Sh.out hq,go_sem,seval]) | (refine YZ (fun hq=> ?_) (fun hq=> ?_)<;>(try simp only [decide_eq_true_eq,decide_eq_false_iff_not,Classical.not_not] at hq)<;>simp (disch:=omega) only [Sh.out hq,go_sem,seval]) | (refine WS (fun hq=> ?_) (fun hq=> ?_)<;>(try simp only [decide_eq_true_eq,decide_eq_false_iff_not,Classical.not_not] at hq)<;>simp (disch:=omega) only [Sh.out hq,go_sem,seval]))
      all_goals refine ⟨(k+1,decide (XG a (nth n.arcs k))),⟨by simp only;omega,by rw [Zl,<- hb];simp⟩,by simp only;omega,Weak.mk ?_⟩
      all_goals simp (disch:=omega) only [go_sem,seval]
      all_goals simp [XG, *]
    ·have hki:k=i:=Za
     subst hki;have htw:(b=false↔ ∀j,j<k-> ¬XG a (nth n.arcs j)):=hb;clear hb hk h
     refine Zq [6,7] (fun m:List Flt=> [(5,.sl 2 0 m.length m.length)]) (fun m=>Zy n++ [Yy a,.elems 2 (m.map eF)])
      (fun m=>FR (pF 26) (((0<=a.src/\a.src<n.places.length/\0<=a.dst/\a.dst<n.places.length)/\(0<=a.prof/\a.prof<=7/\0<=a.miles/\a.miles<=10000/\a.src≠a.dst))/\ ∀j,j<k-> ¬XG a (nth n.arcs j)) 3 m) ?_ ?_
     ·refine Zf ?_
      cases b with
      | true =>
       refine Zf ?_;exact ⟨m++ [(6,at')],hm.yes (by grind) (by grind [pF]),Weak.mk (by simp (disch:=omega) only [Zy,Yy,go_sem,seval])⟩
      | false =>
       refine Zf ?_;exact ⟨m,hm.no (htw.1 rfl),Weak.mk (by simp (disch:=omega) only [Zy,Yy,go_sem,seval])⟩
     ·clear hm hml;intro m hm;refine Zd [21] _ _ _ _ (Kq ?_);have hml:=hm.len;refine ((Rk a.travel a.travel_c ht).frozenE).useV fun lt hlt=>Zf ?_;have hltl:=hlt.len
      refine ZH [21] [6,7,11] (fun q:Nat×List Flt=> [(5,.sl 2 0 q.2.length q.2.length),(12,.p (.int .i64 q.1))]) (fun q=>Zy n++ [Yy a,.elems 2 (q.2.map eF)])
       (fun q=>q.1<=lt.length/\FR (pF 26) ((((0<=a.src/\a.src<n.places.length/\0<=a.dst/\a.dst<n.places.length)/\(0<=a.prof/\a.prof<=7/\0<=a.miles/\a.miles<=10000/\a.src≠a.dst))/\ ∀j,j<k-> ¬XG a (nth n.arcs j))/\q.1=0) (3+q.1) q.2) (fun q=>lt.length-q.1) (0,m) ⟨Zb,hm.to Zb Zb⟩ (Weak.mk ?_) ?_
      ·simp (disch:=omega) only [Zy,Yy,go_sem,seval]
      ·clear hm hml;rintro ⟨j,m⟩ ⟨hj,hm⟩;simp only at hj hm;have hml:=hm.len;refine Kq ?_;refine ZX ?_ ?_<;>intro h
       ·have hj2:j<lt.length:=Za
        exact ⟨(j+1,m++ [((nth lt j).1,at')]),⟨Za,(hm.yes (c:=False) Zb (by grind [pF])).to Za Zb⟩,Za,wk⟩
       ·have hjl:j=lt.length:=Za
        subst hjl;have hm2:=hm.to (d:=3+lt.length) (D:=(((0<=a.src/\a.src<n.places.length/\0<=a.dst/\a.dst<n.places.length)/\(0<=a.prof/\a.prof<=7/\0<=a.miles/\a.miles<=10000/\a.src≠a.dst))/\ ∀j,j<k-> ¬XG a (nth n.arcs j))/\Ya a.travel) (Nat.le_refl _) (by rw [<- hlt.emp,List.eq_nil_iff_length_eq_zero]);clear hm
        refine Zq [6,7] (fun m:List Flt=> [(5,.sl 2 0 m.length m.length)]) (fun m=>Zy n++ [Yy a,.elems 2 (m.map eF)])
         (fun m=>FR (pF 26) (((((0<=a.src/\a.src<n.places.length/\0<=a.dst/\a.dst<n.places.length)/\(0<=a.prof/\a.prof<=7/\0<=a.miles/\a.miles<=10000/\a.src≠a.dst))/\ ∀j,j<k-> ¬XG a (nth n.arcs j))/\Ya a.travel)/\a.slow.length<=16) (4+lt.length) m) ?_ ?_
        ·refine Zf ?_;refine ZX ?_ ?_<;>intro h2
         ·exact ⟨m++ [(4,at')],(hm2.yes Za (by grind [pF])).to Za Iff.rfl,Weak.mk (by simp (disch:=omega) only [Zy,Yy,go_sem,seval])⟩
         ·exact ⟨m,(hm2.no Za).to Za Iff.rfl,Weak.mk (by simp (disch:=omega) only [Zy,Yy,go_sem,seval])⟩
        ·clear hm2 hml h hj;intro m hm;refine Zd [] _ _ _ _ (Kq ?_)
         refine Zj [6,7] (fun q:Nat×List Flt=> [(5,.sl 2 0 q.2.length q.2.length),(13,.p (.int .i64 q.1))]) (fun q=>Zy n++ [Yy a,.elems 2 (q.2.map eF)])
          (fun q=>q.1<=a.slow.length/\FR (pF 26) ((((((0<=a.src/\a.src<n.places.length/\0<=a.dst/\a.dst<n.places.length)/\(0<=a.prof/\a.prof<=7/\0<=a.miles/\a.miles<=10000/\a.src≠a.dst))/\ ∀j,j<k-> ¬XG a (nth n.arcs j))/\Ya a.travel)/\a.slow.length<=16)/\ ∀j,j<q.1->VG a.slow j) (4+lt.length+q.1) q.2) (fun q=>a.slow.length-q.1) (0,m) ⟨Zb,hm.to Zb Zb⟩ (Weak.mk ?_) ?_
         ·simp (disch:=omega) only [Zy,Yy,go_sem,seval]
         ·clear hm;rintro ⟨j,m⟩ ⟨hj,hm⟩;simp only at hj hm;have hml:=hm.len;refine Kq ?_;refine cD ?_ ?_<;>intro h<;>simp (disch:=omega) only [Sh.out h,go_sem,seval,↓reduceIte]
          ·have hj2:j<a.slow.length:=Za
           refine Xs (Zf ?_);refine Zn (C5 (nth a.slow j).t) (Zf ?_);have hslo:VG a.slow j↔(Bo (nth a.slow j).t=true/\Bo (nth a.slow j).a=true/\(0<j->(nth a.slow (j-1)).t<(nth a.slow j).t)):=Iff.rfl;have hyes: ¬VG a.slow j->_:=fun hs=>(hm.yes (x:=(2,at')) hs (by grind [pF])).to (D:=(((((0<=a.src/\a.src<n.places.length/\0<=a.dst/\a.dst<n.places.length)/\(0<=a.prof/\a.prof<=7/\0<=a.miles/\a.miles<=10000/\a.src≠a.dst))/\ ∀j,j<k-> ¬XG a (nth n.arcs j))/\Ya a.travel)/\a.slow.length<=16)/\ ∀i,i<j+1->VG a.slow i) (d:=4+lt.length+(j+1)) Za (by grind)
           have hno:VG a.slow j->_:=fun hs=>(hm.no hs).to (D:=(((((0<=a.src/\a.src<n.places.length/\0<=a.dst/\a.dst<n.places.length)/\(0<=a.prof/\a.prof<=7/\0<=a.miles/\a.miles<=10000/\a.src≠a.dst))/\ ∀j,j<k-> ¬XG a (nth n.arcs j))/\Ya a.travel)/\a.slow.length<=16)/\ ∀i,i<j+1->VG a.slow i) (d:=4+lt.length+(j+1)) Za (by grind)
           cases ht1:Bo (nth a.slow j).t with
           | false =>
            refine Zf ?_;exact ⟨(j+1,m++ [(2,at')]),⟨Za,hyes (by grind)⟩,Za,wk⟩
           | true =>
            refine Zf ?_;refine Zn (C5 (nth a.slow j).a) (Zf ?_)
            cases ht2:Bo (nth a.slow j).a with
            | false =>
             refine Zf ?_;exact ⟨(j+1,m++ [(2,at')]),⟨Za,hyes (by grind)⟩,Za,wk⟩
            | true =>
             refine Zf ?_
             repeat' (first | (refine gT ?_ ?_<;>intro hq<;>simp (disch:=omega) only [Sh.out hq,go_sem,seval]) | (refine YZ (fun hq=> ?_) (fun hq=> ?_)<;>(try simp only [decide_eq_true_eq,decide_eq_false_iff_not,Classical.not_not] at hq)<;>simp (disch:=omega) only [Sh.out hq,go_sem,seval]) | (refine cD ?_ ?_<;>intro hq<;>simp (disch:=omega) only [Sh.out hq,go_sem,seval]))
             ·exact ⟨(j+1,m++ [(2,at')]),⟨Za,hyes (by grind)⟩,Za,wk⟩
             ·exact ⟨(j+1,m),⟨Za,hno (by grind)⟩,Za,wk⟩
             ·exact ⟨(j+1,m),⟨Za,hno (by grind)⟩,Za,wk⟩
          ·have hjn:j=a.slow.length:=Za
           subst hjn;exact ⟨m,hm.to Za (by rw [BM,hga]),2,by simp (disch:=omega) only [go_sem,seval]⟩
theorem ZQ {α:Type} [Inhabited α] {l:List α} {i:Nat} (h:i<l.length):nth l i∈l:=by grind [Zi]
theorem Rl (n:Net) (hw:n.wf 1048576):ACalls Tryz.prog 65 [.p (JE n)] [] fun x H'=> ∃m:List Flt,FR (pF 26) (netOk n) 4194306000000 m/\x= .sl 0 0 m.length m.length/\H'= [.elems 2 (m.map eF)]:=by
 obtain ⟨w1,w2,w3,w4⟩:=hw;refine ZL [2] Tryz.func65 rfl mC ?_;simp (disch:=omega) only [Tryz.f65,go_sem,seval];refine (Dy n w1 w2).useE fun m hm=>Zf ?_;have hml:=hm.len;refine Zq [1] (fun m:List Flt=> [(3,.sl 1 0 m.length m.length)]) (fun m=>Zy n++ [.elems 2 (m.map eF)]) (fun m=>FR (pF 26) (VC n/\n.arcs.length<=1024) (n.places.length+2) m) ?_ ?_
 ·refine Zf ?_;refine ZX ?_ ?_<;>intro h
  ·exact ⟨m++ [(4,[97,114,99,115])],hm.yes Za (by simp [pF]),Weak.mk (by simp (disch:=omega) only [Zy,go_sem,seval])⟩
  ·exact ⟨m,hm.no Za,Weak.mk (by simp (disch:=omega) only [Zy,go_sem,seval])⟩
 ·clear hm hml;intro m hm;refine Zd [] _ _ _ _ (VI ?_);refine Zj [1] (fun q:Nat×List Flt=> [(3,.sl 1 0 q.2.length q.2.length),(4,.p (.int .i64 q.1))]) (fun q=>Zy n++ [.elems 2 (q.2.map eF)]) (fun q=>q.1<=n.arcs.length/\FR (pF 26) ((VC n/\n.arcs.length<=1024)/\ ∀j,j<q.1->BM n j) (n.places.length+2+q.1*4000000) q.2) (fun q=>n.arcs.length-q.1) (0,m) ⟨Zb,hm.to Zb Zb⟩ (Weak.mk ?_) ?_
  ·simp (disch:=omega) only [Zy,go_sem,seval]
  ·clear hm;rintro ⟨k,m⟩ ⟨hk,hm⟩;simp only at hk hm;have hml:=hm.len;refine VI ?_;refine cD ?_ ?_<;>intro h<;>simp (disch:=omega) only [Sh.out h,go_sem,seval,↓reduceIte]
   ·have hk2:k<n.arcs.length:=Za
    have ha:=w4 _ (ZQ hk2);refine (MW n k hk2 w1 w3 ha.2.2.2.2.1 ha.2.2.2.2.2.2.1).useE fun f hf=>Zf ?_;have hfl:=hf.len
    have q1:(m.length+f.length)*24<=140737488355328:=Za
    have q2:m.length+f.length<=140737488355328:=Za
    simp (disch:=omega) only [q1,q2,go_sem,seval];refine ⟨(k+1,m++f),⟨Za,(hm.app hf).to Za (by grind)⟩,Za,Weak.mk ?_⟩;simp (disch:=omega) only [List.length_append,List.map_append,go_sem,seval]
   ·have hkn:k=n.arcs.length:=Za
    subst hkn;exact ⟨m,hm.to Za (by rw [netOk]),1,by simp (disch:=omega) only [go_sem,seval]⟩
end Go.Proofs.YtmbelkfkhclnkaaGreatDoor.K
namespace Go.Proofs.YtmbelkfkhclnkaaGreatDoor.K
section
variable {L : Type} (fin : L -> Int) (beats : L -> L -> Bool) (nxt : Nat -> L -> Bool -> Option L) (choices : Nat -> List Bool)
def Wa : Option L->List L->Option L
 | b,[]=>b
 | none,x::l=>Wa (some x) l
 | some m,x::l=>if fin x<fin m then Wa (some x) l else Wa (some m) l
theorem VS : ∀(b:Option L) (l r:List L),Wa fin b (l++r)=Wa fin (Wa fin b l) r
 | b,[],r=>by rfl
 | none,x::l,r=>by rw [List.cons_append,Wa,Wa,VS]
 | some m,x::l,r=>by
  rw [List.cons_append,Wa,Wa]
  split
  ·rw [VS]
  ·rw [VS]
theorem Vt : ∀(l:List L) (m:L),∃z,Wa fin (some m) l=some z/\fin z<=fin m/\ ∀y∈l,fin z<=fin y
 | [],m=>⟨m,rfl,Za,Zb⟩
 | x::l,m=>by
  rw [Wa]
  split
  ·rename_i h;obtain ⟨z,e,h1,h2⟩:=Vt l x
   grind
  ·rename_i h;obtain ⟨z,e,h1,h2⟩:=Vt l m
   grind
theorem Ce : ∀(l:List L) (m:L),(∀y∈l,fin m<=fin y)->Wa fin (some m) l=some m
 | [],m,_=>rfl
 | x::l,m,h=>by
  have:=h x List.mem_cons_self;rw [Wa,if_neg Za];exact Ce l m fun y hy=>h y (List.mem_cons_of_mem _ hy)
theorem Gm (A B:List L) (h: ∀y∈B,∃z∈A,fin z<=fin y):Wa fin none (A++B)=Wa fin none A:=by
 rw [VS]
 cases A with
 | nil=>cases B with
  | nil=>rfl
  | cons y B=>grind [List.mem_cons_self]
 | cons a A =>
  rw [Wa];obtain ⟨z,e,h1,h2⟩:=Vt fin A a;rw [e];refine Ce fin B z fun y hy=> ?_
  grind
def ZZ : List L->List L->List L
 | out,[]=>out
 | out,x::l=>if out.any (fun m=>beats m x)=true then ZZ out l else ZZ (out++ [x]) l
theorem Qz {R:L->List L} : ∀(c out:List L),(∀x∈out++c,∀m∈out++c,beats m x=true-> ∀y∈R x,∃z∈R m,fin z<=fin y)->Wa fin none ((ZZ beats out c).flatMap R)=Wa fin none ((out++c).flatMap R)
 | [],out,_=>by simp [ZZ]
 | x::c,out,h=>by
  rw [ZZ]
  split
  ·rename_i hb;obtain ⟨m,hm,hb⟩:=List.any_eq_true.1 hb
   have hb:beats m x=true:=by simpa using hb
   rw [Qz c out (fun a ha b hb=>h a (by simp only [List.mem_append,List.mem_cons] at ha ⊢;rcases ha with h | h<;>simp [h]) b (by simp only [List.mem_append,List.mem_cons] at hb ⊢;rcases hb with h | h<;>simp [h]))];rw [List.flatMap_append,List.flatMap_append,List.flatMap_cons,<- List.append_assoc,VS,VS (l:=out.flatMap R++R x)];rw [Gm fin (out.flatMap R) (R x)];intro y hy;obtain ⟨z,hz,hle⟩:=h x Zb m (by simp [hm]) hb y hy;exact ⟨z,List.mem_flatMap.2 ⟨m,hm,hz⟩,hle⟩
  ·rw [Qz c (out++ [x]) (by simpa using h)];simp
theorem VW : ∀(c out:List L),∀x∈ZZ beats out c,x∈out++c
 | [],out,x,h=>by grind [ZZ]
 | a::c,out,x,h=>by
  rw [ZZ] at h
  split at h
  ·have:=VW c out x h;simp only [List.mem_append,List.mem_cons] at this ⊢;rcases this with h | h<;>simp [h]
  ·have:=VW c (out++ [a]) x h;simpa using this
def AY : Nat->Nat->List (List Bool)
 | 0,_=> [[]]
 | j+1,k=>(choices k).flatMap fun b=>(AY j (k+1)).map (b:: ·)
def UC : Nat->L->List Bool->Option L
 | _,x,[]=>some x
 | k,x,b::bs=>match nxt k x b with
  | some y=>UC (k+1) y bs
  | none=>none
def Yb (j k:Nat) (x:L):List L:=(AY choices j k).filterMap (UC nxt k x)
def XZ (k:Nat) (l:List L):List L:=l.flatMap fun x=>(choices k).filterMap (nxt k x)
def W8 : Nat->Nat->List L->List L
 | 0,_,l=>l
 | j+1,k,l=>W8 j (k+1) (ZZ beats [] (XZ nxt choices k l))
theorem Eb (k:Nat) (x:L):Yb nxt choices 0 k x= [x]:=rfl
theorem Kc (j k:Nat) (x:L):Yb nxt choices (j+1) k x=((choices k).filterMap (nxt k x)).flatMap (Yb nxt choices j (k+1)):=by
 unfold Yb;rw [AY]
 induction choices k with
 | nil=>rfl
 | cons b bs ih =>
  rw [List.flatMap_cons,List.filterMap_append,ih,List.filterMap_cons]
  cases h:nxt k x b with
  | none =>
   simp_all [UC]
  | some y =>
   rw [List.filterMap_map]
   have:(UC nxt k x∘fun l=>b::l)=UC nxt (k+1) y:=by grind [UC]
   grind
theorem Aq {n:Nat} {Inv:Nat->L->Prop} (hI: ∀k x b y,Inv k x->nxt k x b=some y->Inv (k+1) y) (hd: ∀k m x b y,Inv k m->Inv k x->beats m x=true->nxt k x b=some y-> ∃z,nxt k m b=some z/\beats z y=true)
  (he: ∀m x,Inv n m->Inv n x->beats m x=true->fin m<=fin x): ∀(j k:Nat) (m x:L),k+j=n->Inv k m->Inv k x->beats m x=true-> ∀y∈Yb nxt choices j k x,∃z∈Yb nxt choices j k m,fin z<=fin y
 | 0,k,m,x,hk,h1,h2,hb,y,hy=>by
  grind [Eb]
 | j+1,k,m,x,hk,h1,h2,hb,y,hy=>by
  rw [Kc] at hy ⊢;obtain ⟨q,hq,hy⟩:=List.mem_flatMap.1 hy;obtain ⟨b,hbm,hn⟩:=List.mem_filterMap.1 hq;obtain ⟨z,hz,hzb⟩:=hd k m x b q h1 h2 hb hn;obtain ⟨u,hu,hle⟩:=Aq hI hd he j (k+1) z q Za (hI k m b z h1 hz) (hI k x b q h2 hn) hzb y hy
  grind
theorem Fg {n:Nat} {Inv:Nat->L->Prop} (hI: ∀k x b y,Inv k x->nxt k x b=some y->Inv (k+1) y) (hd: ∀k m x b y,Inv k m->Inv k x->beats m x=true->nxt k x b=some y-> ∃z,nxt k m b=some z/\beats z y=true)
  (he: ∀m x,Inv n m->Inv n x->beats m x=true->fin m<=fin x): ∀(j k:Nat) (l:List L),k+j=n->(∀x∈l,Inv k x)->Wa fin none (W8 beats nxt choices j k l)=Wa fin none (l.flatMap (Yb nxt choices j k))
 | 0,k,l,hk,hl=>by
  have:l.flatMap (Yb nxt choices 0 k)=l:=by
   have:Yb nxt choices 0 k=fun x=> [x]:=by rfl
   rw [this];simp
  rw [this];rfl
 | j+1,k,l,hk,hl=>by
  have hc: ∀x∈XZ nxt choices k l,Inv (k+1) x:=fun x hx=>by
   obtain ⟨q,hq,hx⟩:=List.mem_flatMap.1 hx
   grind
  have e:l.flatMap (Yb nxt choices (j+1) k)=(XZ nxt choices k l).flatMap (Yb nxt choices j (k+1)):=by
   rw [XZ,List.flatMap_assoc]
   congr 1
   grind [Kc]
  rw [W8,Fg hI hd he j (k+1) _ Za (fun x hx=>hc x (by simpa using VW beats _ _ x hx)),Qz fin beats _ _ (fun x hx m hm hb y hy=> ?_),e]
  ·simp
  ·exact Aq fin beats nxt choices hI hd he j (k+1) m x Za (hc m (by grind)) (hc x (by grind)) hb y hy
def XD : List Bool->List (List Bool)
 | []=> [[]]
 | b::bs=>if b then (XD bs).map (true:: ·) else (XD bs).map (false:: ·)++(XD (List.replicate bs.length false)).map (true:: ·)
termination_by l => l.length
decreasing_by all_goals simp
def Vz : List Bool->Option (List Bool)
 | []=>none
 | b::bs=>match Vz bs with
  | some l=>some (b::l)
  | none=>if b then none else some (true::List.replicate bs.length false)
theorem Uw : ∀l:List Bool,XD l=l::(match Vz l with | some r=>XD r | none=> [])
 | []=>by simp [XD,Vz]
 | b::bs=>by
  have ih:=Uw bs
  have e0: ∀l:List Bool,XD (true::l)=(XD l).map (true:: ·):=fun l=>by rw [XD];simp
  have e1: ∀l:List Bool,XD (false::l)=(XD l).map (false:: ·)++(XD (List.replicate l.length false)).map (true:: ·):=fun l=>by rw [XD];simp
  cases b with
  | true =>
   rw [e0,ih,Vz]
   cases h:Vz bs with
   | none=>simp
   | some r=>simp [e0]
  | false =>
   rw [e1,ih,Vz]
   cases h:Vz bs with
   | none=>simp [e0]
   | some r =>
    have hl:r.length=bs.length:=nlen bs r h;simp [e1,hl]
where nlen : ∀(l r:List Bool),Vz l=some r->r.length=l.length
 | [],r,h=>by simp [Vz] at h
 | b::bs,r,h=>by
  rw [Vz] at h
  cases h2:Vz bs with
  | none =>
   grind
  | some q =>
   rw [h2] at h;simp at h;subst h;simp [nlen bs q h2]
theorem Ca {n:Nat} : ∀(j k:Nat),(∀q,k<=q->choices q= [false,true])->AY choices j k=XD (List.replicate j false)
 | 0,k,_=>by simp [AY,XD]
 | j+1,k,h=>by
  rw [AY,h k (Nat.le_refl _),Ca (n:=n) j (k+1) (fun q hq=>h q Za),List.replicate_succ,XD];simp
end
end Go.Proofs.YtmbelkfkhclnkaaGreatDoor.K
namespace Go.Proofs.YtmbelkfkhclnkaaGreatDoor.K
open Go Go.AM Go.Proofs
def Zk (x:Inst):AM.Obj:= .cells [.p (.list x.net.places_c (x.net.places.map eS)),.p (.list x.net.arcs_c (x.net.arcs.map Vd)),.p (.list x.types_c (x.types.map Vq)),.p (.list x.orders_c (x.orders.map Yz)),.p (.list x.apart_c (x.apart.map eP)),.p (.list x.before_c (x.before.map eP))]
def zSco : Sco:=⟨0,0,0,0⟩
set_option maxRecDepth 8000
set_option maxHeartbeats 16000000
theorem X9 (n lo hi:Int):PC 108 [.p (.int .i64 n),.p (.int .i64 lo),.p (.int .i64 hi)] (.bool (rng n lo hi)):=by
 refine Zc Tryz.func108 rfl RO ?_;simp (disch:=omega) only [Tryz.f108,go_sem,seval];refine gT ?_ ?_<;>intro h<;>simp (disch:=omega) only [Sh.out h,go_sem,seval,↓reduceIte]
 all_goals (simp [rng];first | done | omega | (rw [Bool.eq_iff_iff];simp;omega))
def Wh (l:List Int) (d:Int):Bool:=rng l.length 1 3&&decide ((l.length:Int)=d)&&l.all fun n=>rng n 0 1000
theorem Dx (l:List Int) (c:Bool) (d:Int) (hl:l.length<=1048576):PC 148 [.p (.list c (l.map eI)),.p (.int .i64 d)] (.bool (Wh l d)):=by
 refine Zc Tryz.func148 rfl Se ?_;simp (disch:=omega) only [Tryz.f148,go_sem,seval];refine (X9 l.length 1 3).use (Zf ?_);refine gF ?_ ?_<;>intro h<;>simp (disch:=omega) only [Sh.out h,go_sem,seval,↓reduceIte]
 ·grind [Wh]
 ·simp only [Bool.not_eq_false'] at h;refine cD ?_ ?_<;>intro h2<;>simp (disch:=omega) only [Sh.out h2,go_sem,seval]
  ·simp [Wh,h,h2]
  ·simp only [Classical.not_not] at h2;subst h2;refine Zj [0] (fun k:Nat=> [(5,.p (.int .i64 k))]) (fun _=> []) (fun k=>k<=l.length/\ ∀j,j<k->rng (nth l j) 0 1000=true) (fun k=>l.length-k) 0 Zb (Weak.mk ?_) ?_
   ·simp (disch:=omega) only [go_sem,seval,↓reduceIte]
   ·rintro k ⟨hk,hno⟩;refine Zf ?_;refine cD ?_ ?_<;>intro h3<;>simp (disch:=omega) only [Sh.out h3,go_sem,seval,↓reduceIte]
    ·have hk2:k<l.length:=Za
     refine (X9 (nth l k) 0 1000).use (Zf ?_);refine cD ?_ ?_<;>intro h4<;>simp (disch:=omega) only [Sh.out h4,go_sem,seval,↓reduceIte]
     ·grind [ZQ,Wh]
     ·simp only [Bool.not_eq_false'] at h4;exact ⟨k+1,⟨Za,Zl.2 ⟨hno,h4⟩⟩,Za,wk⟩
    ·have:l.all (fun n=>rng n 0 1000)=true:=by
      rw [List.all_eq_true];intro x hx;obtain ⟨j,hj,rfl⟩:=List.mem_iff_getElem.1 hx
      grind [Zi]
     grind [Wh]
def DM (l:List Typ) (i:Nat) (s:List UInt8):Bool:=(List.range i).any fun j=>decide ((nth l j).name=s)
theorem YL {l:List Typ} {i:Nat} {s:List UInt8} :DM l i s=false↔ ∀j,j<i->(nth l j).name≠s:=by
 grind [DM]
theorem Gu (l:List Typ) (c:Bool) (i:Nat) (s:List UInt8) (hi:i<=l.length) (hl:l.length<=1048576):PC 147 [.p (.list c (l.map Vq)),.p (.int .i64 (i:Nat)),.p (.str s)] (.bool (DM l i s)):=by
 refine Zc Tryz.func147 rfl Sd ?_;simp (disch:=omega) only [Tryz.f147,go_sem,seval];refine Zj [0,1,2] (fun k:Nat=> [(7,.p (.int .i64 k))]) (fun _=> []) (fun k=>k<=i/\ ∀j,j<k->(nth l j).name≠s) (fun k=>i-k) 0 Zb (Weak.mk ?_) ?_
 ·simp (disch:=omega) only [go_sem,seval,↓reduceIte]
 ·rintro k ⟨hk,hno⟩;refine Zf ?_;refine cD ?_ ?_<;>intro h3<;>simp (disch:=omega) only [Sh.out h3,go_sem,seval,↓reduceIte]
  ·have hk2:k<l.length:=Za
   refine cD ?_ ?_<;>intro h4<;>simp (disch:=omega) only [Sh.out h4,go_sem,seval,↓reduceIte]
   ·grind [YL]
   ·exact ⟨k+1,⟨Za,Zl.2 ⟨hno,h4⟩⟩,Za,wk⟩
  grind [YL]
def dimsOf (l:List Typ):Int:=if l.length=0 then 0 else ((nth l 0).cap.length:Int)
theorem B5 (l:List Typ) (c:Bool) (hl:l.length<=1048576):PC 68 [.p (.list c (l.map Vq))] (.int .i64 (dimsOf l)):=by
 refine Zc Tryz.func68 rfl mF ?_;simp (disch:=omega) only [Tryz.f68,go_sem,seval];refine cD ?_ ?_<;>intro h<;>simp (disch:=omega) only [Sh.out h,go_sem,seval,↓reduceIte]
 ·grind [dimsOf]
 ·have h0:0<l.length:=Za
  have h1:l.length≠0:=Za
  simp (disch:=first | omega | (simp only [List.length_cons,List.length_nil,List.length_append,List.length_map,List.length_take,List.length_drop]<;>omega)) only [dimsOf,h1,go_sem,seval,↓reduceIte]
def Xy (t:Typ):AM.Obj:= .cells [.p (.str t.name),.p (.int .i64 t.count),.p (.int .i64 t.src),.p (.int .i64 t.dst),.p (.list t.cap_c (t.cap.map eI)),.p (.int .i64 t.skills),.p (.int .i64 t.prof),.p (.int .i64 t.opn),.p (.int .i64 t.cls),.p (.int .i64 t.drive),.p (.int .i64 t.rest),.p (.int .i64 t.fixed),.p (.int .i64 t.perMile),.p (.int .i64 t.perTick)]
def Q5 (n:Net) (l:List Typ) (i:Nat):Prop:=((((((((nameOk (nth l i).name=true)/\(∀j,j<i->(nth l j).name≠(nth l i).name))/\rng (nth l i).count 0 10=true)/\(rng (nth l i).src 0 (n.places.length-1)=true/\rng (nth l i).dst 0 (n.places.length-1)=true))/\Wh (nth l i).cap (dimsOf l)=true)/\rng (nth l i).skills 0 1073741823=true)/\(rng (nth l i).opn 0 (nth l i).cls=true/\(nth l i).cls<=4096))/\(rng (nth l i).drive 1 4096=true/\rng (nth l i).rest 0 4096=true))/\(rng (nth l i).prof 0 7=true/\rng (nth l i).fixed 0 100000=true/\rng (nth l i).perMile 0 100=true/\rng (nth l i).perTick 0 100=true)
theorem Qm {P Q:Prop} (h:Q) (e:Q->P:=by intro h;simp (disch:=omega) only [Zy,Xy,go_sem,seval];exact h):P:=e h
theorem GX (n:Net) (l:List Typ) (c:Bool) (i:Nat) (hi:i<l.length) (hl:l.length<=1048576) (hw:n.wf 1048576) (ht:(nth l i).wf 1048576) :
  ACalls Tryz.prog 109 [.p (JE n),.p (.list c (l.map Vq)),.p (.int .i64 (i:Nat))] [] fun x H'=> ∃m:List Int,FR (fun _=>True) (Q5 n l i) 9 m/\x= .sl 0 0 m.length m.length/\H'= [.elems 1 (m.map eI)]:=by
 obtain ⟨w1,w2,w3,w4⟩:=hw;refine ZL [3] Tryz.func109 rfl RQ ?_;simp (disch:=omega) only [Tryz.f109,go_sem,seval];have hty:Q5 n l i↔((((((((nameOk (nth l i).name=true)/\(∀j,j<i->(nth l j).name≠(nth l i).name))/\rng (nth l i).count 0 10=true)/\(rng (nth l i).src 0 (n.places.length-1)=true/\rng (nth l i).dst 0 (n.places.length-1)=true))/\Wh (nth l i).cap (dimsOf l)=true)/\rng (nth l i).skills 0 1073741823=true)/\(rng (nth l i).opn 0 (nth l i).cls=true/\(nth l i).cls<=4096))/\(rng (nth l i).drive 1 4096=true/\rng (nth l i).rest 0 4096=true))/\(rng (nth l i).prof 0 7=true/\rng (nth l i).fixed 0 100000=true/\rng (nth l i).perMile 0 100=true/\rng (nth l i).perTick 0 100=true):=Iff.rfl
 generalize hga:nth l i=t at ht hty ⊢;have hname:=ht.1;have hcap:=ht.2.2.2.2.1;refine Zr (Weak.ofNil 8 1 (by simp (disch:=omega) only [go_sem,seval]) Zb (Weak.refl _ _ _)) ?_;refine Zq [1,2,3,7] (fun m:List Int=> [(8,.sl 2 0 m.length m.length)]) (fun m=>Zy n++ [Xy t,.elems 1 (m.map eI)]) (fun m=>FR (fun _=>True) (nameOk t.name=true) 1 m) ?_ ?_
 ·refine Zf ?_;refine (DS t.name hname).use (Zf ?_);refine ZX ?_ ?_<;>intro h0
  ·simp only [Bool.not_eq_true'] at h0;exact ⟨[5],⟨Zb,by simp [h0],Zb⟩,Weak.mk (by simp (disch:=omega) only [Zy,Xy,go_sem,seval])⟩
  ·simp only [Bool.not_eq_false'] at h0;exact ⟨[],FR.nil (by simp [h0]),Weak.mk (by simp (disch:=omega) only [Zy,Xy,go_sem,seval])⟩
 ·skip
  intro m hm;refine Zd [5] _ _ _ _ (Qm ?_);have hml:=hm.len;refine Zq [1,3,7] (fun m:List Int=> [(8,.sl 2 0 m.length m.length)]) (fun m=>Zy n++ [Xy t,.elems 1 (m.map eI)]) (fun m=>FR (fun _=>True) ((nameOk t.name=true)/\(∀j,j<i->(nth l j).name≠t.name)) 2 m) ?_ ?_
  ·refine Zf ?_;refine (Gu l c i t.name Za hl).use (Zf ?_);refine ZX ?_ ?_<;>intro h
   ·exact ⟨m++ [6],hm.yes (by grind [YL]) trivial,Weak.mk (by simp (disch:=omega) only [Zy,Xy,go_sem,seval])⟩
   ·exact ⟨m,hm.no (by exact YL.1 h),Weak.mk (by simp (disch:=omega) only [Zy,Xy,go_sem,seval])⟩
  ·clear hm hml;intro m hm;refine Zd [7] _ _ _ _ (Qm ?_);have hml:=hm.len;refine Zq [1,3,7] (fun m:List Int=> [(8,.sl 2 0 m.length m.length)]) (fun m=>Zy n++ [Xy t,.elems 1 (m.map eI)]) (fun m=>FR (fun _=>True) (((nameOk t.name=true)/\(∀j,j<i->(nth l j).name≠t.name))/\rng t.count 0 10=true) 3 m) ?_ ?_
   ·refine Zf ?_;refine (X9 t.count 0 10).use (Zf ?_);refine ZX ?_ ?_<;>intro h0
    ·simp only [Bool.not_eq_true'] at h0;exact ⟨m++ [22],hm.yes (by simp [h0]) trivial,Weak.mk (by simp (disch:=omega) only [Zy,Xy,go_sem,seval])⟩
    ·simp only [Bool.not_eq_false'] at h0;exact ⟨m,hm.no (by simp [h0]),Weak.mk (by simp (disch:=omega) only [Zy,Xy,go_sem,seval])⟩
   ·clear hm hml;intro m hm;refine Zd [9] _ _ _ _ (Qm ?_);have hml:=hm.len;refine Zq [1,7] (fun m:List Int=> [(8,.sl 2 0 m.length m.length)]) (fun m=>Zy n++ [Xy t,.elems 1 (m.map eI)]) (fun m=>FR (fun _=>True) ((((nameOk t.name=true)/\(∀j,j<i->(nth l j).name≠t.name))/\rng t.count 0 10=true)/\(rng t.src 0 (n.places.length-1)=true/\rng t.dst 0 (n.places.length-1)=true)) 4 m) ?_ ?_
    ·refine Zf ?_;refine (X9 t.src 0 (n.places.length-1)).use (Zf ?_);refine MX ?_ ?_<;>intro h0
     ·simp only [Bool.not_eq_true'] at h0;exact ⟨m++ [11],hm.yes (by simp [h0]) trivial,Weak.mk (by simp (disch:=omega) only [Zy,Xy,go_sem,seval])⟩
     ·simp only [Bool.not_eq_false'] at h0;refine (X9 t.dst 0 (n.places.length-1)).use (Zf ?_);refine ZX ?_ ?_<;>intro h1
      ·simp only [Bool.not_eq_true'] at h1;exact ⟨m++ [11],hm.yes (by simp [h1]) trivial,Weak.mk (by simp (disch:=omega) only [Zy,Xy,go_sem,seval])⟩
      ·simp only [Bool.not_eq_false'] at h1;exact ⟨m,hm.no (by simp [h0,h1]),Weak.mk (by simp (disch:=omega) only [Zy,Xy,go_sem,seval])⟩
    ·clear hm hml;intro m hm;refine Zd [11] _ _ _ _ (Qm ?_);have hml:=hm.len;refine Zq [7] (fun m:List Int=> [(8,.sl 2 0 m.length m.length)]) (fun m=>Zy n++ [Xy t,.elems 1 (m.map eI)]) (fun m=>FR (fun _=>True) (((((nameOk t.name=true)/\(∀j,j<i->(nth l j).name≠t.name))/\rng t.count 0 10=true)/\(rng t.src 0 (n.places.length-1)=true/\rng t.dst 0 (n.places.length-1)=true))/\Wh t.cap (dimsOf l)=true) 5 m) ?_ ?_
     ·refine Zf ?_;refine Xs (Zf ?_);refine Zn (B5 l c hl) (Zf ?_);refine Zn (Dx t.cap t.cap_c (dimsOf l) hcap) (Zf ?_);refine ZX ?_ ?_<;>intro h
      ·simp only [Bool.not_eq_true'] at h;exact ⟨m++ [17],hm.yes (by simp [h]) trivial,Weak.mk (by simp (disch:=omega) only [Zy,Xy,go_sem,seval])⟩
      ·simp only [Bool.not_eq_false'] at h;exact ⟨m,hm.no (by simp [h]),Weak.mk (by simp (disch:=omega) only [Zy,Xy,go_sem,seval])⟩
     ·clear hm hml;intro m hm;refine Zd [13] _ _ _ _ (Qm ?_);have hml:=hm.len;refine Zq [7] (fun m:List Int=> [(8,.sl 2 0 m.length m.length)]) (fun m=>Zy n++ [Xy t,.elems 1 (m.map eI)]) (fun m=>FR (fun _=>True) ((((((nameOk t.name=true)/\(∀j,j<i->(nth l j).name≠t.name))/\rng t.count 0 10=true)/\(rng t.src 0 (n.places.length-1)=true/\rng t.dst 0 (n.places.length-1)=true))/\Wh t.cap (dimsOf l)=true)/\rng t.skills 0 1073741823=true) 6 m) ?_ ?_
      ·refine Zf ?_;refine (X9 t.skills 0 1073741823).use (Zf ?_);refine ZX ?_ ?_<;>intro h0
       ·simp only [Bool.not_eq_true'] at h0;exact ⟨m++ [18],hm.yes (by simp [h0]) trivial,Weak.mk (by simp (disch:=omega) only [Zy,Xy,go_sem,seval])⟩
       ·simp only [Bool.not_eq_false'] at h0;exact ⟨m,hm.no (by simp [h0]),Weak.mk (by simp (disch:=omega) only [Zy,Xy,go_sem,seval])⟩
      ·clear hm hml;intro m hm;refine Zd [15] _ _ _ _ (Qm ?_);have hml:=hm.len;refine Zq [7] (fun m:List Int=> [(8,.sl 2 0 m.length m.length)]) (fun m=>Zy n++ [Xy t,.elems 1 (m.map eI)]) (fun m=>FR (fun _=>True) (((((((nameOk t.name=true)/\(∀j,j<i->(nth l j).name≠t.name))/\rng t.count 0 10=true)/\(rng t.src 0 (n.places.length-1)=true/\rng t.dst 0 (n.places.length-1)=true))/\Wh t.cap (dimsOf l)=true)/\rng t.skills 0 1073741823=true)/\(rng t.opn 0 t.cls=true/\t.cls<=4096)) 7 m) ?_ ?_
       ·refine Zf ?_;refine (X9 t.opn 0 t.cls).use (Zf ?_);refine MX ?_ ?_<;>intro h0
        ·simp only [Bool.not_eq_true'] at h0;exact ⟨m++ [15],hm.yes (by simp [h0]) trivial,Weak.mk (by simp (disch:=omega) only [Zy,Xy,go_sem,seval])⟩
        ·simp only [Bool.not_eq_false'] at h0;refine ZX ?_ ?_<;>intro h1
         ·exact ⟨m++ [15],hm.yes Za trivial,Weak.mk (by simp (disch:=omega) only [Zy,Xy,go_sem,seval])⟩
         ·exact ⟨m,hm.no (by grind),Weak.mk (by simp (disch:=omega) only [Zy,Xy,go_sem,seval])⟩
       ·clear hm hml;intro m hm;refine Zd [17] _ _ _ _ (Qm ?_);have hml:=hm.len;refine Zq [7] (fun m:List Int=> [(8,.sl 2 0 m.length m.length)]) (fun m=>Zy n++ [Xy t,.elems 1 (m.map eI)]) (fun m=>FR (fun _=>True) ((((((((nameOk t.name=true)/\(∀j,j<i->(nth l j).name≠t.name))/\rng t.count 0 10=true)/\(rng t.src 0 (n.places.length-1)=true/\rng t.dst 0 (n.places.length-1)=true))/\Wh t.cap (dimsOf l)=true)/\rng t.skills 0 1073741823=true)/\(rng t.opn 0 t.cls=true/\t.cls<=4096))/\(rng t.drive 1 4096=true/\rng t.rest 0 4096=true)) 8 m) ?_ ?_
        ·refine Zf ?_;refine (X9 t.drive 1 4096).use (Zf ?_);refine MX ?_ ?_<;>intro h0
         ·simp only [Bool.not_eq_true'] at h0;exact ⟨m++ [16],hm.yes (by simp [h0]) trivial,Weak.mk (by simp (disch:=omega) only [Zy,Xy,go_sem,seval])⟩
         ·simp only [Bool.not_eq_false'] at h0;refine (X9 t.rest 0 4096).use (Zf ?_);refine ZX ?_ ?_<;>intro h1
          ·simp only [Bool.not_eq_true'] at h1;exact ⟨m++ [16],hm.yes (by simp [h1]) trivial,Weak.mk (by simp (disch:=omega) only [Zy,Xy,go_sem,seval])⟩
          ·simp only [Bool.not_eq_false'] at h1;exact ⟨m,hm.no (by simp [h0,h1]),Weak.mk (by simp (disch:=omega) only [Zy,Xy,go_sem,seval])⟩
        ·clear hm hml;intro m hm;refine Zd [19] _ _ _ _ (Qm ?_);have hml:=hm.len;refine Zq [] (fun m:List Int=> [(8,.sl 2 0 m.length m.length)]) (fun m=>Zy n++ [Xy t,.elems 1 (m.map eI)]) (fun m=>FR (fun _=>True) (((((((((nameOk t.name=true)/\(∀j,j<i->(nth l j).name≠t.name))/\rng t.count 0 10=true)/\(rng t.src 0 (n.places.length-1)=true/\rng t.dst 0 (n.places.length-1)=true))/\Wh t.cap (dimsOf l)=true)/\rng t.skills 0 1073741823=true)/\(rng t.opn 0 t.cls=true/\t.cls<=4096))/\(rng t.drive 1 4096=true/\rng t.rest 0 4096=true))/\(rng t.prof 0 7=true/\rng t.fixed 0 100000=true/\rng t.perMile 0 100=true/\rng t.perTick 0 100=true)) 9 m) ?_ ?_
         ·refine Zf ?_;refine (X9 t.prof 0 7).use (Zf ?_);refine gF ?_ ?_<;>intro h0<;>simp (disch:=omega) only [Sh.out h0,go_sem,seval,↓reduceIte]
          ·simp only [Bool.not_eq_true'] at h0;exact ⟨m++ [2],hm.yes (by simp [h0]) trivial,Weak.mk (by simp (disch:=omega) only [Zy,Xy,go_sem,seval])⟩
          ·simp only [Bool.not_eq_false'] at h0;refine (X9 t.fixed 0 100000).use (Zf ?_);refine gF ?_ ?_<;>intro h1<;>simp (disch:=omega) only [Sh.out h1,go_sem,seval,↓reduceIte]
           ·simp only [Bool.not_eq_true'] at h1;exact ⟨m++ [2],hm.yes (by simp [h1]) trivial,Weak.mk (by simp (disch:=omega) only [Zy,Xy,go_sem,seval])⟩
           ·simp only [Bool.not_eq_false'] at h1;refine (X9 t.perMile 0 100).use (Zf ?_);refine gF ?_ ?_<;>intro h2<;>simp (disch:=omega) only [Sh.out h2,go_sem,seval,↓reduceIte]
            ·simp only [Bool.not_eq_true'] at h2;exact ⟨m++ [2],hm.yes (by simp [h2]) trivial,Weak.mk (by simp (disch:=omega) only [Zy,Xy,go_sem,seval])⟩
            ·simp only [Bool.not_eq_false'] at h2;refine (X9 t.perTick 0 100).use (Zf ?_);refine cD ?_ ?_<;>intro h3<;>simp (disch:=omega) only [Sh.out h3,go_sem,seval,↓reduceIte]
             ·simp only [Bool.not_eq_true'] at h3;exact ⟨m++ [2],hm.yes (by simp [h3]) trivial,Weak.mk (by simp (disch:=omega) only [Zy,Xy,go_sem,seval])⟩
             ·simp only [Bool.not_eq_false'] at h3;exact ⟨m,hm.no (by grind),Weak.mk (by simp (disch:=omega) only [Zy,Xy,go_sem,seval])⟩
         ·clear hm hml;intro m hm;refine Zd [] _ _ _ _ (Qm ?_);have hml:=hm.len;exact ⟨m,hm.to Za (by rw [hty]),2,by simp (disch:=omega) only [go_sem,seval]⟩
def typesOk (n:Net) (l:List Typ):Prop:=rng l.length 1 6=true/\ ∀i,i<l.length->Q5 n l i
theorem Rm (n:Net) (l:List Typ) (c:Bool) (hw:n.wf 1048576) (hl:l.length<=1048576) (hlw: ∀t∈l,t.wf 1048576) :
  ACalls Tryz.prog 66 [.p (JE n),.p (.list c (l.map Vq))] [] fun x H'=> ∃m:List Flt,FR (pF 20) (typesOk n l) (1+9*l.length) m/\x= .sl 0 0 m.length m.length/\H'= [.elems 2 (m.map eF)]:=by
 refine ZL [2] Tryz.func66 rfl mD ?_;simp (disch:=omega) only [Tryz.f66,go_sem,seval];refine Zr (Weak.ofNil 5 2 (by simp (disch:=omega) only [go_sem,seval]) Zb (Weak.refl _ _ _)) ?_;refine Zq [1,2] (fun m:List Flt=> [(5,.sl 1 0 m.length m.length)]) (fun m=>Zy n++ [.elems 2 (m.map eF)]) (fun m=>FR (pF 20) (rng l.length 1 6=true) 1 m) ?_ ?_
 ·refine Zf ?_;refine (X9 l.length 1 6).use (Zf ?_);refine ZX ?_ ?_<;>intro h
  ·simp only [Bool.not_eq_true'] at h;exact ⟨[(4,[])],⟨Zb,by simp [h],by simp [pF]⟩,Weak.mk (by simp (disch:=omega) only [Zy,go_sem,seval])⟩
  ·simp only [Bool.not_eq_false'] at h;exact ⟨[],FR.nil h,Weak.mk (by simp (disch:=omega) only [Zy,go_sem,seval])⟩
 ·intro m hm;refine Zd [] _ _ _ _ (VI ?_);refine Zj [1,2] (fun q:Nat×List Flt=> [(5,.sl 1 0 q.2.length q.2.length),(6,.p (.int .i64 q.1))]) (fun q=>Zy n++ [.elems 2 (q.2.map eF)]) (fun q=>q.1<=l.length/\FR (pF 20) (rng l.length 1 6=true/\ ∀j,j<q.1->Q5 n l j) (1+9*q.1) q.2) (fun q=>l.length-q.1) (0,m) ⟨Zb,hm.to Zb Zb⟩ (Weak.mk ?_) ?_
  ·simp (disch:=omega) only [Zy,go_sem,seval]
  ·clear hm;rintro ⟨k,m⟩ ⟨hk,hm⟩;simp only at hk hm;have hml:=hm.len;refine VI ?_;refine cD ?_ ?_<;>intro h<;>simp (disch:=omega) only [Sh.out h,go_sem,seval,↓reduceIte]
   ·have hk2:k<l.length:=Za
    have hI:Yw (k:Int):=Za
    have hdl:=Y3 k hI;refine ((GX n l c k hk2 hl hw (hlw _ (ZQ hk2))).frozenE).useV fun e he=>Zf ?_;have hel:=he.len;refine Zj [1,2,6,7] (fun q:Nat×List Flt=> [(5,.sl 1 0 q.2.length q.2.length),(8,.p (.int .i64 q.1))]) (fun q=>Zy n++ [.elems 2 (q.2.map eF)]) (fun q=>q.1<=e.length/\FR (pF 20) ((rng l.length 1 6=true/\ ∀j,j<k->Q5 n l j)/\q.1=0) (1+9*k+q.1) q.2) (fun q=>e.length-q.1) (0,m) ⟨Zb,hm.to Zb Zb⟩ (Weak.mk ?_) ?_
    ·simp (disch:=omega) only [Zy,go_sem,seval]
    ·clear hm hml;rintro ⟨j,m⟩ ⟨hj,hm⟩;simp only at hj hm;have hml:=hm.len;refine VI ?_;refine ZX ?_ ?_<;>intro h2
     ·have hj2:j<e.length:=Za
      refine Zv 9 mixed Ze Ze (Zf ?_);refine Zn (VP k hI) (Zf ?_);exact ⟨(j+1,m++ [(nth e j,WD k)]),⟨Za,(hm.yes (c:=False) Zb (by grind [pF])).to Za Zb⟩,Za,wk⟩
     ·have hjl:j=e.length:=Za
      subst hjl;exact ⟨(k+1,m),⟨Za,hm.to Za (by simp only [Zl,and_assoc];rw [<- he.emp,List.eq_nil_iff_length_eq_zero])⟩,Za,wk⟩
   ·have hkn:k=l.length:=Za
    subst hkn;exact ⟨m,hm.to Za (by rw [typesOk]),1,by simp (disch:=omega) only [go_sem,seval]⟩
theorem JR (n lo hi:Int):PC 150 [.p (.int .i64 n),.p (.int .i64 lo),.p (.int .i64 hi)] (.bool (rng n lo hi)):=by
 refine Zc Tryz.func150 rfl Sg ?_;simp (disch:=omega) only [Tryz.f150,go_sem,seval];refine gT ?_ ?_<;>intro h<;>simp (disch:=omega) only [Sh.out h,go_sem,seval,↓reduceIte]
 all_goals (simp [rng];first | done | omega | (rw [Bool.eq_iff_iff];simp;omega))
def loadOk (l:List Int) (d:Int):Bool:=decide ((l.length:Int)=d)&&l.all fun n=>rng n 0 1000
theorem GU (l:List Int) (c:Bool) (d:Int) (hl:l.length<=1048576):PC 149 [.p (.list c (l.map eI)),.p (.int .i64 d)] (.bool (loadOk l d)):=by
 refine Zc Tryz.func149 rfl Sf ?_;simp (disch:=omega) only [Tryz.f149,go_sem,seval];refine cD ?_ ?_<;>intro h2<;>simp (disch:=omega) only [Sh.out h2,go_sem,seval]
 ·simp [loadOk,h2]
 ·simp only [Classical.not_not] at h2;subst h2;refine Zj [0] (fun k:Nat=> [(5,.p (.int .i64 k))]) (fun _=> []) (fun k=>k<=l.length/\ ∀j,j<k->rng (nth l j) 0 1000=true) (fun k=>l.length-k) 0 Zb (Weak.mk ?_) ?_
  ·simp (disch:=omega) only [go_sem,seval,↓reduceIte]
  ·rintro k ⟨hk,hno⟩;refine Zf ?_;refine cD ?_ ?_<;>intro h3<;>simp (disch:=omega) only [Sh.out h3,go_sem,seval,↓reduceIte]
   ·have hk2:k<l.length:=Za
    have hbad:rng (nth l k) 0 1000=false->loadOk l l.length=false:=fun h4=>by
     grind [ZQ,loadOk]
    repeat' (first | (refine Yq (fun hq=> ?_) (fun hq=> ?_)<;>(try simp only [decide_eq_true_eq,decide_eq_false_iff_not,Classical.not_not] at hq)<;>simp (disch:=omega) only [Sh.out hq,go_sem,seval]) | (refine gF ?_ ?_<;>intro hq<;>simp (disch:=omega) only [Sh.out hq,go_sem,seval,↓reduceIte]) | (refine cD ?_ ?_<;>intro hq<;>simp (disch:=omega) only [Sh.out hq,go_sem,seval,↓reduceIte]))
    all_goals first
     | (rw [hbad (by simp [rng];omega)])
     | exact ⟨k+1,⟨Za,Zl.2 ⟨hno,by simp [rng];omega⟩⟩,Za,wk⟩
   ·have:l.all (fun n=>rng n 0 1000)=true:=by
     rw [List.all_eq_true];intro x hx;obtain ⟨j,hj,rfl⟩:=List.mem_iff_getElem.1 hx
     grind [Zi]
    simp [loadOk,this]
def stpOk (s:Stp):Bool:=decide ((s.place= -1/\s.opn=0/\s.cls=0/\s.serv=0)\/(0<=s.place/\0<=s.opn/\s.opn<=s.cls/\s.cls<=4096/\0<=s.serv/\s.serv<=4096))
def G4 (s:Stp):Int:=if stpOk s=true then 0 else 2
theorem HQ (s:Stp):PC 151 [.p (B8 s)] (.int .i64 (G4 s)):=by
 refine Zc Tryz.func151 rfl Si ?_;simp (disch:=omega) only [Tryz.f151,go_sem,seval]
 repeat' (first | (refine gT ?_ ?_<;>intro hq<;>simp (disch:=omega) only [Sh.out hq,go_sem,seval,↓reduceIte]) | (refine gF ?_ ?_<;>intro hq<;>simp (disch:=omega) only [Sh.out hq,go_sem,seval,↓reduceIte]) | (refine cD ?_ ?_<;>intro hq<;>simp (disch:=omega) only [Sh.out hq,go_sem,seval,↓reduceIte]))
 all_goals (simp only [G4,stpOk,decide_eq_true_eq])
 all_goals first
  | (exfalso;omega)
  | (rw [if_pos Za])
  | (rw [if_neg Za])
def Y5 (l:List Ord) (i:Nat):Bool:=(List.range i).all fun j=>decide ((nth l j).name≠(nth l i).name)
theorem VA {l:List Ord} {i:Nat} :Y5 l i=true↔ ∀j,j<i->(nth l j).name≠(nth l i).name:=by simp [Y5]
def X2 (b:Bool) (e:Int):List Int:=if b=true then [] else [e]
theorem YP (b:Bool) (e:Int):(X2 b e).length<=1:=by grind [X2]
theorem Wl {b:Bool} {e:Int} {m p:List Int} (h:m=p) (hb:b=true):m=p++X2 b e:=by simp [X2,hb,h]
theorem YA {b:Bool} {e:Int} {m p:List Int} (h:m=p) (hb:b=false):m++ [e]=p++X2 b e:=by simp [X2,hb,h]
def XM (t:Ord):AM.Obj:= .cells [.p (.str t.name),.p (.list t.load_c (t.load.map eI)),.p (.int .i64 t.pick.place),.p (.int .i64 t.pick.opn),.p (.int .i64 t.pick.cls),.p (.int .i64 t.pick.serv),.p (.int .i64 t.drp.place),.p (.int .i64 t.drp.opn),.p (.int .i64 t.drp.cls),.p (.int .i64 t.drp.serv),.p (.int .i64 t.skills),.p (.int .i64 t.penalty),.p (.int .i64 t.split),.p (.int .i64 t.last),.p (.int .i64 t.now),.p (.bool t.off)]
def AP (t:Ord):Bool:=decide (t.pick.place≠ -1)&&decide (t.drp.place≠ -1)
def argOk (t:Ord) (ty:Int):Bool:=rng t.penalty (-1) 1000000&&rng t.split 1 4&&decide (¬(1<t.split/\AP t=true)/\ -1<=t.last/\t.last<ty/\ -1<=t.now/\t.now<ty)
def Xu (np:Nat) (d ty:Int) (l:List Ord) (i:Nat):List Int:=X2 (nameOk (nth l i).name) 5++X2 (Y5 l i) 6++X2 (loadOk (nth l i).load d) 17++X2 ((rng (nth l i).pick.place (-1) ((np:Int)-1)&&rng (nth l i).drp.place (-1) ((np:Int)-1))) 11++X2 (decide (¬((nth l i).pick.place= -1/\(nth l i).drp.place= -1))) 19++X2 ((stpOk (nth l i).pick&&stpOk (nth l i).drp)) 14++X2 (rng (nth l i).skills 0 1073741823) 18++X2 (argOk (nth l i) ty) 2
theorem U5 (np:Nat) (d ty:Int) (l:List Ord) (i:Nat):(Xu np d ty l i).length<=8:=by
 grind [YP,Xu,List.length_append]
theorem Uo {P Q:Prop} (h:Q) (e:Q->P:=by intro h;simp (disch:=omega) only [XM,go_sem,seval];exact h):P:=e h
theorem GY (np:Nat) (d ty:Int) (l:List Ord) (c:Bool) (i:Nat) (hi:i<l.length) (hl:l.length<=1048576) (hnp:np<=1048576) (ht:(nth l i).wf 1048576) :
  ACalls Tryz.prog 110 [.p (.int .i64 (np:Nat)),.p (.int .i64 d),.p (.int .i64 ty),.p (.list c (l.map Yz)),.p (.int .i64 (i:Nat))] [] fun x H'=>x= .sl 0 0 (Xu np d ty l i).length (Xu np d ty l i).length/\H'= [.elems 1 ((Xu np d ty l i).map eI)]:=by
 suffices hh:ACalls Tryz.prog 110 [.p (.int .i64 (np:Nat)),.p (.int .i64 d),.p (.int .i64 ty),.p (.list c (l.map Yz)),.p (.int .i64 (i:Nat))] [] fun x H'=> ∃m:List Int,m=Xu np d ty l i/\x= .sl 0 0 m.length m.length/\H'= [.elems 1 (m.map eI)] by
  grind
 refine ZL [3] Tryz.func110 rfl RR ?_;simp (disch:=omega) only [Tryz.f110,go_sem,seval];have hty:Xu np d ty l i=X2 (nameOk (nth l i).name) 5++X2 (Y5 l i) 6++X2 (loadOk (nth l i).load d) 17++X2 ((rng (nth l i).pick.place (-1) ((np:Int)-1)&&rng (nth l i).drp.place (-1) ((np:Int)-1))) 11++X2 (decide (¬((nth l i).pick.place= -1/\(nth l i).drp.place= -1))) 19++X2 ((stpOk (nth l i).pick&&stpOk (nth l i).drp)) 14++X2 (rng (nth l i).skills 0 1073741823) 18++X2 (argOk (nth l i) ty) 2:=rfl
 have hleng: ∀m:List Int,∀p:List Int,m=p->p.length<=8->m.length<=8:=fun m p h1 h2=>by grind
 generalize hga:nth l i=t at ht hty ⊢;have hname:=ht.1;have hload:=ht.2.1;refine Zr (Weak.ofNil 11 1 (by simp (disch:=omega) only [go_sem,seval]) Zb (Weak.refl _ _ _)) ?_;refine Zq [0,1,2,3,4,12] (fun m:List Int=> [(11,.sl 1 0 m.length m.length)]) (fun m=> [XM t,.elems 1 (m.map eI)]) (fun m=>m=X2 (nameOk t.name) 5) ?_ ?_
 ·refine Zf ?_;refine (DS t.name hname).use (Zf ?_);refine cD ?_ ?_<;>intro h<;>simp (disch:=omega) only [Sh.out h,go_sem,seval,↓reduceIte]
  ·simp only [Bool.not_eq_true'] at h;exact ⟨[5],by simp [X2,h],Weak.mk (by simp (disch:=omega) only [XM,go_sem,seval])⟩
  ·simp only [Bool.not_eq_false'] at h;exact ⟨[],by simp [X2,h],Weak.mk (by simp (disch:=omega) only [XM,go_sem,seval])⟩
 ·skip
  intro m hm;refine Zd [5] _ _ _ _ (Uo ?_)
  have hml:m.length<=8:=by
   grind [YP]
  refine Zq [0,1,2,12] (fun m:List Int=> [(11,.sl 1 0 m.length m.length)]) (fun m=> [XM t,.elems 1 (m.map eI)]) (fun m=>m=X2 (nameOk t.name) 5++X2 (Y5 l i) 6) ?_ ?_
  ·refine Zf ?_;refine Zj [0,1,2,3,4,11,12] (fun k:Nat=> [(13,.p (.int .i64 k))]) (fun _=> [XM t,.elems 1 (m.map eI)]) (fun k=>k<=i/\ ∀j,j<k->(nth l j).name≠(nth l i).name) (fun k=>i-k) 0 Zb (Weak.mk ?_) ?_
   ·simp (disch:=omega) only [XM,go_sem,seval,↓reduceIte]
   ·rintro k ⟨hk,hno⟩;refine Uo ?_;refine cD ?_ ?_<;>intro h3<;>simp (disch:=omega) only [Sh.out h3,go_sem,seval,↓reduceIte]
    ·have hk2:k<l.length:=Za
     refine Xs (Zf ?_);refine ZX ?_ ?_<;>intro h4
     ·exact ⟨m++ [6],YA hm (by grind [VA]),wk⟩
     ·exact ⟨k+1,⟨Za,Zl.2 ⟨hno,by grind⟩⟩,Za,wk⟩
    ·have hki:k=i:=Za
     subst hki;exact ⟨m,Wl hm (VA.2 hno),wk⟩
  ·clear hm hml;intro m hm;refine Zd [10] _ _ _ _ (Uo ?_)
   have hml:m.length<=8:=by
    grind [YP]
   refine Zq [0,2,12] (fun m:List Int=> [(11,.sl 1 0 m.length m.length)]) (fun m=> [XM t,.elems 1 (m.map eI)]) (fun m=>m=X2 (nameOk t.name) 5++X2 (Y5 l i) 6++X2 (loadOk t.load d) 17) ?_ ?_
   ·refine Zf ?_;refine (GU t.load t.load_c d hload).use (Zf ?_);refine cD ?_ ?_<;>intro h<;>simp (disch:=omega) only [Sh.out h,go_sem,seval,↓reduceIte]
    ·simp only [Bool.not_eq_true'] at h;exact ⟨m++ [17],YA hm (h),Weak.mk (by simp (disch:=omega) only [XM,go_sem,seval])⟩
    ·simp only [Bool.not_eq_false'] at h;exact ⟨m,Wl hm (h),Weak.mk (by simp (disch:=omega) only [XM,go_sem,seval])⟩
   ·clear hm hml;intro m hm;refine Zd [12] _ _ _ _ (Uo ?_)
    have hml:m.length<=8:=by
     grind [List.length_append,YP]
    refine Zq [2,12] (fun m:List Int=> [(11,.sl 1 0 m.length m.length)]) (fun m=> [XM t,.elems 1 (m.map eI)]) (fun m=>m=X2 (nameOk t.name) 5++X2 (Y5 l i) 6++X2 (loadOk t.load d) 17++X2 ((rng t.pick.place (-1) ((np:Int)-1)&&rng t.drp.place (-1) ((np:Int)-1))) 11) ?_ ?_
    ·refine Zf ?_;refine (JR t.pick.place (-1) ((np:Int)-1)).use (Zf ?_);refine MX ?_ ?_<;>intro h
     ·simp only [Bool.not_eq_true'] at h;exact ⟨m++ [11],YA hm (by simp [h]),Weak.mk (by simp (disch:=omega) only [XM,go_sem,seval])⟩
     ·simp only [Bool.not_eq_false'] at h;refine (JR t.drp.place (-1) ((np:Int)-1)).use (Zf ?_);refine ZX ?_ ?_<;>intro h2
      ·simp only [Bool.not_eq_true'] at h2;exact ⟨m++ [11],YA hm (by simp [h2]),Weak.mk (by simp (disch:=omega) only [XM,go_sem,seval])⟩
      ·simp only [Bool.not_eq_false'] at h2;exact ⟨m,Wl hm (by simp [h,h2]),Weak.mk (by simp (disch:=omega) only [XM,go_sem,seval])⟩
    ·clear hm hml;intro m hm;refine Zd [14] _ _ _ _ (Uo ?_)
     have hml:m.length<=8:=by
      grind [List.length_append,YP]
     refine Zq [2,12] (fun m:List Int=> [(11,.sl 1 0 m.length m.length)]) (fun m=> [XM t,.elems 1 (m.map eI)]) (fun m=>m=X2 (nameOk t.name) 5++X2 (Y5 l i) 6++X2 (loadOk t.load d) 17++X2 ((rng t.pick.place (-1) ((np:Int)-1)&&rng t.drp.place (-1) ((np:Int)-1))) 11++X2 (decide (¬(t.pick.place= -1/\t.drp.place= -1))) 19) ?_ ?_
     ·refine Zf ?_
      repeat' (first | (refine gT ?_ ?_<;>intro hq<;>simp (disch:=omega) only [Sh.out hq,go_sem,seval]) | (refine YZ (fun hq=> ?_) (fun hq=> ?_)<;>(try simp only [decide_eq_true_eq,decide_eq_false_iff_not,Classical.not_not] at hq)<;>simp (disch:=omega) only [Sh.out hq,go_sem,seval]) | (refine cD ?_ ?_<;>intro hq<;>simp (disch:=omega) only [Sh.out hq,go_sem,seval]))
      all_goals first
       | exact ⟨m++ [19],YA hm (by first | (simp;done) | (simp;omega)),Weak.mk (by simp (disch:=omega) only [XM,go_sem,seval])⟩
       | exact ⟨m,Wl hm (by first | (simp;done) | (simp;omega)),Weak.mk (by simp (disch:=omega) only [XM,go_sem,seval])⟩
     ·clear hm hml;intro m hm;refine Zd [16] _ _ _ _ (Uo ?_)
      have hml:m.length<=8:=by
       grind [List.length_append,YP]
      refine Zq [2,12] (fun m:List Int=> [(11,.sl 1 0 m.length m.length)]) (fun m=> [XM t,.elems 1 (m.map eI)]) (fun m=>m=X2 (nameOk t.name) 5++X2 (Y5 l i) 6++X2 (loadOk t.load d) 17++X2 ((rng t.pick.place (-1) ((np:Int)-1)&&rng t.drp.place (-1) ((np:Int)-1))) 11++X2 (decide (¬(t.pick.place= -1/\t.drp.place= -1))) 19++X2 ((stpOk t.pick&&stpOk t.drp)) 14) ?_ ?_
      ·refine Zf ?_;refine (HQ t.pick).use (Zf ?_)
       cases h:stpOk t.pick with
       | false =>
        simp (disch:=omega) only [G4,h,go_sem,seval];exact ⟨m++ [14],YA hm (by simp []),Weak.mk (by simp (disch:=omega) only [XM,go_sem,seval])⟩
       | true =>
        simp (disch:=omega) only [G4,h,go_sem,seval];refine (HQ t.drp).use (Zf ?_)
        cases h2:stpOk t.drp with
        | false =>
         simp (disch:=omega) only [G4,h2,go_sem,seval];exact ⟨m++ [14],YA hm (by simp []),Weak.mk (by simp (disch:=omega) only [XM,go_sem,seval])⟩
        | true =>
         simp (disch:=omega) only [G4,h2,go_sem,seval];exact ⟨m,Wl hm (by simp []),Weak.mk (by simp (disch:=omega) only [XM,go_sem,seval])⟩
      ·clear hm hml;intro m hm;refine Zd [18] _ _ _ _ (Uo ?_)
       have hml:m.length<=8:=by
        grind [List.length_append,YP]
       refine Zq [2,12] (fun m:List Int=> [(11,.sl 1 0 m.length m.length)]) (fun m=> [XM t,.elems 1 (m.map eI)]) (fun m=>m=X2 (nameOk t.name) 5++X2 (Y5 l i) 6++X2 (loadOk t.load d) 17++X2 ((rng t.pick.place (-1) ((np:Int)-1)&&rng t.drp.place (-1) ((np:Int)-1))) 11++X2 (decide (¬(t.pick.place= -1/\t.drp.place= -1))) 19++X2 ((stpOk t.pick&&stpOk t.drp)) 14++X2 (rng t.skills 0 1073741823) 18) ?_ ?_
       ·refine Zf ?_;refine (JR t.skills 0 1073741823).use (Zf ?_);refine ZX ?_ ?_<;>intro h
        ·simp only [Bool.not_eq_true'] at h;exact ⟨m++ [18],YA hm (h),Weak.mk (by simp (disch:=omega) only [XM,go_sem,seval])⟩
        ·simp only [Bool.not_eq_false'] at h;exact ⟨m,Wl hm (h),Weak.mk (by simp (disch:=omega) only [XM,go_sem,seval])⟩
       ·clear hm hml;intro m hm;refine Zd [20] _ _ _ _ (Uo ?_)
        have hml:m.length<=8:=by
         grind [List.length_append,YP]
        refine Zq [2,11,12] (fun b:Bool=> [(14,.p (.bool b))]) (fun _=> [XM t,.elems 1 (m.map eI)]) (fun b=>b=AP t) ?_ ?_
        ·refine Zf ?_
         repeat' (first | (refine Yq (fun hq=> ?_) (fun hq=> ?_)<;>(try simp only [decide_eq_true_eq,decide_eq_false_iff_not,Classical.not_not] at hq)<;>simp (disch:=omega) only [Sh.out hq,go_sem,seval]) | (refine YZ (fun hq=> ?_) (fun hq=> ?_)<;>(try simp only [decide_eq_true_eq,decide_eq_false_iff_not,Classical.not_not] at hq)<;>simp (disch:=omega) only [Sh.out hq,go_sem,seval]) | (refine WS (fun hq=> ?_) (fun hq=> ?_)<;>(try simp only [decide_eq_true_eq,decide_eq_false_iff_not,Classical.not_not] at hq)<;>simp (disch:=omega) only [Sh.out hq,go_sem,seval]))
         all_goals refine ⟨AP t,rfl,Weak.mk ?_⟩
         all_goals (simp (disch:=omega) only [XM,go_sem,seval];simp [AP, *])
        ·rintro b hb;refine Zd [21] _ _ _ _ (Uo ?_);refine Zq [] (fun m:List Int=> [(11,.sl 1 0 m.length m.length)]) (fun m=> [XM t,.elems 1 (m.map eI)]) (fun m=>m=X2 (nameOk t.name) 5++X2 (Y5 l i) 6++X2 (loadOk t.load d) 17++X2 ((rng t.pick.place (-1) ((np:Int)-1)&&rng t.drp.place (-1) ((np:Int)-1))) 11++X2 (decide (¬(t.pick.place= -1/\t.drp.place= -1))) 19++X2 ((stpOk t.pick&&stpOk t.drp)) 14++X2 (rng t.skills 0 1073741823) 18++X2 (argOk t ty) 2) ?_ ?_
         ·refine Zf ?_;refine (JR t.penalty (-1) 1000000).use (Zf ?_);refine gF ?_ ?_<;>intro h<;>simp (disch:=omega) only [Sh.out h,go_sem,seval,↓reduceIte]
          ·simp only [Bool.not_eq_true'] at h;exact ⟨m++ [2],YA hm (by simp [argOk,h]),Weak.mk (by simp (disch:=omega) only [XM,go_sem,seval])⟩
          ·simp only [Bool.not_eq_false'] at h;refine (JR t.split 1 4).use (Zf ?_);refine gF ?_ ?_<;>intro h2<;>simp (disch:=omega) only [Sh.out h2,go_sem,seval,↓reduceIte]
           ·simp only [Bool.not_eq_true'] at h2;exact ⟨m++ [2],YA hm (by simp [argOk,h2]),Weak.mk (by simp (disch:=omega) only [XM,go_sem,seval])⟩
           ·simp only [Bool.not_eq_false'] at h2
            cases b with
            | true =>
             repeat' (first | (refine gT ?_ ?_<;>intro hq<;>simp (disch:=omega) only [Sh.out hq,go_sem,seval,↓reduceIte]) | (refine gF ?_ ?_<;>intro hq<;>simp (disch:=omega) only [Sh.out hq,go_sem,seval,↓reduceIte]) | (refine cD ?_ ?_<;>intro hq<;>simp (disch:=omega) only [Sh.out hq,go_sem,seval,↓reduceIte]))
             all_goals first
              | exact ⟨m++ [2],YA hm (by rw [argOk,<- hb];first | (simp;done) | (simp;omega)),Weak.mk (by simp (disch:=omega) only [XM,go_sem,seval])⟩
              | exact ⟨m,Wl hm (by grind [argOk]),Weak.mk (by simp (disch:=omega) only [XM,go_sem,seval])⟩
            | false =>
             repeat' (first | (refine gT ?_ ?_<;>intro hq<;>simp (disch:=omega) only [Sh.out hq,go_sem,seval,↓reduceIte]) | (refine gF ?_ ?_<;>intro hq<;>simp (disch:=omega) only [Sh.out hq,go_sem,seval,↓reduceIte]) | (refine cD ?_ ?_<;>intro hq<;>simp (disch:=omega) only [Sh.out hq,go_sem,seval,↓reduceIte]))
             all_goals first
              | exact ⟨m++ [2],YA hm (by rw [argOk,<- hb];first | (simp;done) | (simp;omega)),Weak.mk (by simp (disch:=omega) only [XM,go_sem,seval])⟩
              | exact ⟨m,Wl hm (by rw [argOk,<- hb,h,h2];first | (simp;done) | (simp;omega)),Weak.mk (by simp (disch:=omega) only [XM,go_sem,seval])⟩
         ·clear hm hml;intro m hm;refine Zd [] _ _ _ _ (Uo ?_)
          have hml:m.length<=8:=by
           grind [List.length_append,YP]
          exact ⟨m,by rw [hm,hty],1,by simp (disch:=omega) only [go_sem,seval]⟩
def ZY (np:Nat) (d ty:Int) (l:List Ord) (k:Nat):List Flt:=(if l.length<=10 then [] else [(4,[])])++(List.range k).flatMap fun i=>(Xu np d ty l i).map fun e=>(e,WD i)
theorem U6 (np:Nat) (d ty:Int) (l:List Ord) (k:Nat):ZY np d ty l (k+1)=ZY np d ty l k++(Xu np d ty l k).map fun e=>(e,WD k):=by
 simp [ZY,List.range_succ]
theorem Wj (np:Nat) (d ty:Int) (l:List Ord): ∀k,(ZY np d ty l k).length<=1+8*k
 | 0=>by simp [ZY];grind
 | k+1=>by
  have h1:=Wj np d ty l k;have h2:=U5 np d ty l k;rw [U6];simp;omega
theorem Rn (n:Net) (d ty:Int) (l:List Ord) (c:Bool) (hw:n.wf 1048576) (hl:l.length<=1048576) (hlw: ∀t∈l,t.wf 1048576) :
  ACalls Tryz.prog 67 [.p (JE n),.p (.int .i64 d),.p (.int .i64 ty),.p (.list c (l.map Yz))] [] fun x H'=>x= .sl 0 0 (ZY n.places.length d ty l l.length).length (ZY n.places.length d ty l l.length).length/\H'= [.elems 2 ((ZY n.places.length d ty l l.length).map eF)]:=by
 obtain ⟨w1,w2,w3,w4⟩:=hw
 suffices hh:ACalls Tryz.prog 67 [.p (JE n),.p (.int .i64 d),.p (.int .i64 ty),.p (.list c (l.map Yz))] [] fun x H'=> ∃m:List Flt,m=ZY n.places.length d ty l l.length/\x= .sl 0 0 m.length m.length/\H'= [.elems 2 (m.map eF)] by
  grind
 refine ZL [2] Tryz.func67 rfl mE ?_;simp (disch:=omega) only [Tryz.f67,go_sem,seval];refine Zr (Weak.ofNil 9 2 (by simp (disch:=omega) only [go_sem,seval]) Zb (Weak.refl _ _ _)) ?_;refine Zq [1,2,3,4] (fun m:List Flt=> [(9,.sl 1 0 m.length m.length)]) (fun m=>Zy n++ [.elems 2 (m.map eF)]) (fun m=>m=ZY n.places.length d ty l 0) ?_ ?_
 ·refine Zf ?_;refine ZX ?_ ?_<;>intro h
  ·exact ⟨[(4,[])],by rw [ZY,if_neg Za];rfl,Weak.mk (by simp (disch:=omega) only [Zy,go_sem,seval])⟩
  ·exact ⟨[],by rw [ZY,if_pos Za];rfl,Weak.mk (by simp (disch:=omega) only [Zy,go_sem,seval])⟩
 ·intro m hm;refine Zd [] _ _ _ _ (VI ?_);refine Zj [1,2,3,4] (fun q:Nat×List Flt=> [(9,.sl 1 0 q.2.length q.2.length),(10,.p (.int .i64 q.1))]) (fun q=>Zy n++ [.elems 2 (q.2.map eF)]) (fun q=>q.1<=l.length/\q.2=ZY n.places.length d ty l q.1) (fun q=>l.length-q.1) (0,m) ⟨Zb,hm⟩ (Weak.mk ?_) ?_
  ·simp (disch:=omega) only [Zy,go_sem,seval]
  ·clear hm;rintro ⟨k,m⟩ ⟨hk,hm⟩;simp only at hk hm;have hml:=Wj n.places.length d ty l k;rw [<- hm] at hml;refine VI ?_;refine cD ?_ ?_<;>intro h<;>simp (disch:=omega) only [Sh.out h,go_sem,seval,↓reduceIte]
   ·have hk2:k<l.length:=Za
    have hI:Yw (k:Int):=Za
    have hrl:=U5 n.places.length d ty l k;refine ((GY n.places.length d ty l c k hk2 hl w1 (hlw _ (ZQ hk2))).frozen Zb).use (Zf ?_);generalize hre:Xu n.places.length d ty l k=e at hrl ⊢;refine Zj [1,2,3,4,10,11] (fun q:Nat×List Flt=> [(9,.sl 1 0 q.2.length q.2.length),(12,.p (.int .i64 q.1))]) (fun q=>Zy n++ [.elems 2 (q.2.map eF)]) (fun q=>q.1<=e.length/\q.2=ZY n.places.length d ty l k++(e.take q.1).map fun e=>(e,WD k)) (fun q=>e.length-q.1) (0,m) ⟨Zb,by simp [hm]⟩ (Weak.mk ?_) ?_
    ·simp (disch:=omega) only [Zy,go_sem,seval]
    ·clear hm hml;rintro ⟨j,m⟩ ⟨hj,hm⟩;simp only at hj hm;have hml:=Wj n.places.length d ty l k
     have hml2:m.length<=1+8*k+8:=by grind
     refine VI ?_;refine ZX ?_ ?_<;>intro h2
     ·have hj2:j<e.length:=Za
      refine Zv 9 mixed Ze Ze (Zf ?_);refine Zn (VP k hI) (Zf ?_);refine ⟨(j+1,m++ [(nth e j,WD k)]),⟨Za,?_⟩,Za,wk⟩
      grind [List.take_succ_eq_append_getElem,Zi]
     ·have hjl:j=e.length:=Za
      subst hjl;refine ⟨(k+1,m),⟨Za,?_⟩,Za,wk⟩
      grind [U6]
   ·have hkn:k=l.length:=Za
    subst hkn;exact ⟨m,hm,1,by simp (disch:=omega) only [go_sem,seval]⟩
structure OrdOk (np:Nat) (d ty:Int) (l:List Ord) (i:Nat):Prop where
 name:nameOk (nth l i).name=true
 twin: ∀j,j<i->(nth l j).name≠(nth l i).name
 load:loadOk (nth l i).load d=true
 pick: -1<=(nth l i).pick.place/\(nth l i).pick.place<np
 drp: -1<=(nth l i).drp.place/\(nth l i).drp.place<np
 one: ¬((nth l i).pick.place= -1/\(nth l i).drp.place= -1)
 pstp:stpOk (nth l i).pick=true
 dstp:stpOk (nth l i).drp=true
 skills:0<=(nth l i).skills/\(nth l i).skills<=1073741823
 arg:argOk (nth l i) ty=true
theorem N9 {b:Bool} {e:Int} :X2 b e= []↔b=true:=by grind [X2]
theorem A7 {np:Nat} {d ty:Int} {l:List Ord} {i:Nat} :Xu np d ty l i= []↔OrdOk np d ty l i:=by
 simp only [Xu,List.append_eq_nil_iff,N9,Bool.and_eq_true,decide_eq_true_eq,rng,VA]
 constructor
 ·rintro ⟨⟨⟨⟨⟨⟨⟨a1,a2⟩,a3⟩,a4⟩,a5⟩,a6⟩,a7⟩,a8⟩;exact ⟨a1,a2,a3,Za,Za,a5,a6.1,a6.2,a7,a8⟩
 ·intro h;obtain ⟨b1,b2⟩:=h.pick;obtain ⟨b3,b4⟩:=h.drp;exact ⟨⟨⟨⟨⟨⟨⟨h.name,h.twin⟩,h.load⟩,Za,Za⟩,h.one⟩,h.pstp,h.dstp⟩,h.skills⟩,h.arg⟩
def ordersOk (np:Nat) (d ty:Int) (l:List Ord):Prop:=l.length<=10/\ ∀i,i<l.length->OrdOk np d ty l i
theorem CA {np:Nat} {d ty:Int} {l:List Ord} :ZY np d ty l l.length= []↔ordersOk np d ty l:=by
 simp_all [ZY,A7,ordersOk]
theorem DW {np:Nat} {d ty:Int} {l:List Ord} (hl:l.length<=1048576): ∀f∈ZY np d ty l l.length,pF 20 f:=by
 intro f hf;simp only [ZY,List.mem_append,List.mem_flatMap,List.mem_range,List.mem_map] at hf;rcases hf with hf | ⟨i,hi,e,he,rfl⟩
 ·grind [pF]
 ·exact Y3 i Za
theorem Ea (n:Int) (h0:0<=n) (hn:n<=4611686018427387904):PC 152 [.p (.int .i64 n)] (.str (dec n.toNat)):=by
 refine Zc Tryz.func152 rfl Sj ?_;simp (disch:=omega) only [Tryz.f152,go_sem,seval];refine Zj [] (fun q:Int×List UInt8=> [(0,.p (.int .i64 q.1)),(3,.p (.str q.2))]) (fun _=> []) (fun q=>0<=q.1/\q.1<=n/\dec q.1.toNat++q.2=dec n.toNat) (fun q=>q.1.toNat) (n,[]) (by simp [h0]) (Weak.mk ?_) ?_
 ·simp (disch:=omega) only [go_sem,seval]
 ·rintro ⟨m,s⟩ ⟨hm,hmn,hs⟩;simp only at hm hmn hs;have hl:=EU _ n.toNat (Nat.lt_succ_self _)
  have hl2:(dec m.toNat).length+s.length=(dec n.toNat).length:=by grind
  simp (disch:=first | omega | (simp only [List.length_cons,List.length_nil,List.length_append,List.length_map,List.length_take,List.length_drop]<;>omega)) only [go_sem,seval];refine cD ?_ ?_<;>intro h<;>simp (disch:=omega) only [Sh.out h,go_sem,seval,↓reduceIte]
  ·simp (disch:=first | omega | (simp only [List.length_cons,List.length_nil,List.length_append,List.length_map,List.length_take,List.length_drop]<;>omega)) only [go_sem,seval]
   have h2: ¬m.toNat<10:=Za
   have e1:(48+m%10).toNat=48+m.toNat%10:=Za
   have e2:(m / 10).toNat=m.toNat / 10:=Za
   refine ⟨(m / 10,UInt8.ofNat (48+m%10).toNat::s),⟨Za,Za,?_⟩,Za,Weak.mk ?_⟩
   ·simp only [e1,e2];rw [<- hs,dec.eq_def m.toNat,dif_neg h2];simp
   ·simp (disch:=omega) only [go_sem,seval]
  ·simp (disch:=first | omega | (simp only [List.length_cons,List.length_nil,List.length_append,List.length_map,List.length_take,List.length_drop]<;>omega)) only [go_sem,seval]
   have h2:m.toNat<10:=Za
   have e1:(48+m).toNat=48+m.toNat:=Za
   rw [<- hs,dec.eq_def m.toNat,dif_pos h2,e1]
   rfl
def NG (n:Int) (p:Int×Int):Bool:=decide (0<=p.1/\p.1<n)&&decide (0<=p.2/\p.2<n)&&decide (¬p.1=p.2)
def jA (word:List UInt8) (i:Nat):List UInt8:=word++ [32]++dec i
def Hc (n:Int) (word:List UInt8) (sm:Int×Int->Int×Int->Bool) (l:List (Int×Int)) (i:Nat):List (Int×List UInt8) :=
 if NG n (nth l i)=false then [(2,jA word i)] else if (l.take i).any (sm (nth l i)) then [(6,jA word i)] else []
def IM (word:List UInt8) (l:List (Int×Int)):List (Int×List UInt8):=if 16<l.length then [(4,word)] else []
def Ve (n:Int) (word:List UInt8) (sm:Int×Int->Int×Int->Bool) (l:List (Int×Int)) (k:Nat):List (Int×List UInt8):=IM word l++(List.range k).flatMap (Hc n word sm l)
theorem K4 (n word sm l k):Ve n word sm l (k+1)=Ve n word sm l k++Hc n word sm l k:=by grind [Ve,List.range_succ]
theorem K5 (n word sm l):Ve n word sm l 0=IM word l:=by simp [Ve]
theorem Nk (n word sm l i):(Hc n word sm l i).length<=1:=by grind [Hc]
theorem UT (n word sm l): ∀k,(Ve n word sm l k).length<=k+1:=by
 intro k
 induction k with
 | zero=>grind [K5,IM]
 | succ k ih=>grind [K4,Nk]
def chk (n:Int) (ap be:List (Int×Int)):List (Int×List UInt8) :=
 Ve n [97,112,97,114,116] (fun p q=>decide (p=q\/(p.1=q.2/\p.2=q.1))) ap ap.length++Ve n [98,101,102,111,114,101] (fun p q=>decide (p=q)) be be.length
def Jk (turned:Bool) (p q:Int×Int):Bool:=decide (q.1=p.1/\q.2=p.2)||(turned&&decide (q.1=p.2/\q.2=p.1))
theorem L1 : Jk true=fun p q=>decide (p=q\/(p.1=q.2/\p.2=q.1)):=by
 funext p q
 simp only [Jk,Bool.true_and,TI]
 grind
theorem GZ : Jk false=fun p q=>decide (p=q):=by
 funext p q
 simp only [Jk,Bool.false_and,Bool.or_false]
 grind
def tw (turned:Bool) (l:List (Int×Int)) (p:Int×Int) (j:Nat):Bool:=(l.take j).any (Jk turned p)
theorem Ol (turned l p):tw turned l p 0=false:=by simp [tw]
theorem Oj (turned:Bool) (l:List (Int×Int)) (p:Int×Int) (j:Nat) (h:j<l.length):tw turned l p (j+1)=(tw turned l p j||Jk turned p (nth l j)):=by
 rw [tw,tw,List.take_succ_eq_append_getElem h,List.any_append,Zi h];simp
theorem Cb (n:Int) (word:List UInt8) (l:List (Int×Int)) (c:Bool) (turned:Bool) (hw:word.length<=1000) (hl:l.length<=1048576) :
  ACalls Tryz.prog 111 [.p (.int .i64 n),.p (.list c (l.map eP)),.p (.str word),.p (.bool turned)] [] fun x H'=>x= .sl 0 0 (Ve n word (Jk turned) l l.length).length (Ve n word (Jk turned) l l.length).length/\H'= [.elems 2 ((Ve n word (Jk turned) l l.length).map eF)]:=by
 refine KF [2] (fn:=Tryz.f111) Zb Tryz.func111 rfl RS ?_;simp (disch:=omega) only [Tryz.f111,go_sem,seval];refine Zr (Weak.ofNil 9 2 (by simp (disch:=omega) only [go_sem,seval]) Zb (Weak.refl _ _ _)) (Zf ?_);refine Zq [0,1,2,3] (fun _:Unit=> [(9,.sl 0 0 (IM word l).length (IM word l).length)]) (fun _=> [.elems 2 ((IM word l).map eF)]) (fun _=>True) ?_ ?_
 ·refine Zf ?_;refine cD ?_ ?_<;>intro h<;>simp (disch:=omega) only [Sh.out h,go_sem,seval,↓reduceIte]
  ·refine ⟨(),Weak.mk ?_⟩
   have h2:16<l.length:=Za
   simp (disch:=omega) only [IM,h2,go_sem,seval,↓reduceIte]
  ·refine ⟨(),Weak.mk ?_⟩
   have h2: ¬ 16<l.length:=Za
   simp (disch:=omega) only [IM,h2,go_sem,seval,↓reduceIte]
 ·intro _ _;refine Zd [] _ _ _ _ (Zf ?_);refine Zj [0,1,2,3] (fun k:Nat=> [(9,.sl 0 0 (Ve n word (Jk turned) l k).length (Ve n word (Jk turned) l k).length),(10,.p (.int .i64 k))]) (fun k=> [.elems 2 ((Ve n word (Jk turned) l k).map eF)]) (fun k=>k<=l.length) (fun k=>l.length-k) 0 Zb (Weak.mk ?_) ?_
  ·simp (disch:=omega) only [K5,go_sem,seval,↓reduceIte]
  ·intro k hk;have hfl:=UT n word (Jk turned) l k;have hdl:=EU _ k (Nat.lt_succ_self _);refine Zf ?_;refine cD ?_ ?_<;>intro h<;>simp (disch:=omega) only [Sh.out h,go_sem,seval,↓reduceIte]
   ·have hk2:k<l.length:=Za
    simp (disch:=first | omega | (simp only [List.length_cons,List.length_nil,List.length_append,List.length_map,List.length_take,List.length_drop]<;>omega)) only [go_sem,seval];refine (Ea (k:Int) Za Za).use ?_;simp (disch:=first | omega | (simp only [List.length_cons,List.length_nil,List.length_append,List.length_map,List.length_take,List.length_drop]<;>omega)) only [go_sem,seval];have hs:=K4 n word (Jk turned) l k
    have hbad:NG n (nth l k)=false->Hc n word (Jk turned) l k= [(2,word++ [32]++dec k)]:=fun e=>by simp [Hc,e,jA]
    repeat' (first | (refine Yq (fun hq=> ?_) (fun hq=> ?_)<;>(try simp only [decide_eq_true_eq,decide_eq_false_iff_not,Classical.not_not] at hq)<;>simp (disch:=omega) only [Sh.out hq,go_sem,seval]) | (refine gF ?_ ?_<;>intro hq<;>simp (disch:=omega) only [Sh.out hq,go_sem,seval,↓reduceIte]) | (refine cD ?_ ?_<;>intro hq<;>simp (disch:=omega) only [Sh.out hq,go_sem,seval,↓reduceIte]))
    all_goals try (
     have e:=hbad (by simp [NG];omega)
     exact ⟨k+1,Za,Za,Weak.mk (by simp (disch:=omega) only [hs,e,go_sem,seval])⟩)
    have hok:NG n (nth l k)=true:=by simp [NG];omega
    refine Zj [0,1,2,3,9,10,11,12,13] (fun j:Nat=> [(14,.p (.bool (tw turned l (nth l k) j))),(15,.p (.int .i64 j))]) (fun _=> [.elems 2 ((Ve n word (Jk turned) l k).map eF)]) (fun j=>j<=k) (fun j=>k-j) 0 Zb (Weak.mk ?_) ?_
    ·simp (disch:=omega) only [Ol,go_sem,seval,↓reduceIte]
    ·intro j hj;refine Zf ?_;refine cD ?_ ?_<;>intro h4<;>simp (disch:=omega) only [Sh.out h4,go_sem,seval,↓reduceIte]
     ·have hts:=Oj turned l (nth l k) j Za;generalize tw turned l (nth l k) j=q at hts ⊢
      repeat' (first | (refine gT ?_ ?_<;>intro hq<;>simp (disch:=omega) only [Sh.out hq,go_sem,seval,↓reduceIte]) | (refine gF ?_ ?_<;>intro hq<;>simp (disch:=omega) only [Sh.out hq,go_sem,seval,↓reduceIte]) | (refine WS (fun hq=> ?_) (fun hq=> ?_)<;>(try simp only [decide_eq_true_eq,decide_eq_false_iff_not,Classical.not_not] at hq)<;>simp (disch:=omega) only [Sh.out hq,go_sem,seval]))
      all_goals refine ⟨j+1,Za,Za,Weak.mk ?_⟩
      all_goals clear hs hbad hfl hdl
      all_goals simp (disch:=omega) only [hts,go_sem,seval]
      all_goals simp [Jk, *]
      all_goals first | omega | (simp [Jk, *] at hts;exact hts)
     ·have hjk:j=k:=Za
      subst hjk;refine cD ?_ ?_<;>intro h5<;>simp (disch:=omega) only [Sh.out h5,go_sem,seval,↓reduceIte]
      ·have e:Hc n word (Jk turned) l j= [(6,word++ [32]++dec j)]:=by
        have h6:(l.take j).any (Jk turned (nth l j))=true:=h5
        grind [Hc,jA]
       exact ⟨j+1,Za,Za,Weak.mk (by simp (disch:=omega) only [hs,e,go_sem,seval])⟩
      ·have e:Hc n word (Jk turned) l j= []:=by
        have h6:(l.take j).any (Jk turned (nth l j))=false:=h5
        simp_all [Hc]
       exact ⟨j+1,Za,Za,Weak.mk (by simp (disch:=omega) only [hs,e,go_sem,seval])⟩
   ·have:k=l.length:=Za
    subst this;exact ⟨0,by simp (disch:=omega) only [go_sem,seval]⟩
theorem LH (n:Int) (ap be:List (Int×Int)) (c c':Bool) (hl:ap.length<=1048576) (hl2:be.length<=1048576) :
  ACalls Tryz.prog 69 [.p (.int .i64 n),.p (.list c (ap.map eP)),.p (.list c' (be.map eP))] [] fun x H'=>x= .sl 0 0 (chk n ap be).length (chk n ap be).length/\H'= [.elems 2 ((chk n ap be).map eF)]:=by
 refine UI (fn:=Tryz.f69) Zb Tryz.func69 rfl mG ?_;simp (disch:=omega) only [Tryz.f69,go_sem,seval];have h1:=UT n [97,112,97,114,116] (Jk true) ap ap.length;have h2:=UT n [98,101,102,111,114,101] (Jk false) be be.length;refine (Cb n _ ap c true (by decide) hl).useF (Zf ?_);refine (Cb n _ be c' false (by decide) hl2).useF (Zf ?_);refine ⟨0,?_⟩;rw [chk,<- L1,<- GZ];simp (disch:=omega) only [go_sem,seval]
@[go_sem] theorem bN {H:List AM.Obj} {β:Type} {S b o n:Nat} {xs:List PV} {g:β->PV} {m:List β} (hb:(n+m.length)*b<=140737488355328) (hb2:n+m.length<=140737488355328) :
  Wc H (some (S,b)) (.elems S xs) o n (some (m.map g))=if xs.length=n/\Q8 S (m.map g)=true then some (.sl o 0 (n+m.length) (n+m.length),J6 H o (.elems S (xs++m.map g))) else none:=by
 simp_all [Ht]
def und (word:List UInt8) (f:Flt):Flt:=(f.1,if f.2= [] then word else word++ [32]++f.2)
theorem V0 (word:List UInt8) (l:List Flt) (c:Bool) (hword:word.length<=100) (hl:l.length<=4194306000000) (hp: ∀f∈l,pF 100 f) :
  ACalls Tryz.prog 64 [.p (.str word),.p (.list c (l.map eF))] [] fun x H'=>x= .sl 0 0 (l.map (und word)).length (l.map (und word)).length/\H'= [.elems 2 ((l.map (und word)).map eF)]:=by
 suffices hh:ACalls Tryz.prog 64 [.p (.str word),.p (.list c (l.map eF))] [] fun x H'=> ∃m:List Flt,m=l.map (und word)/\x= .sl 0 0 m.length m.length/\H'= [.elems 2 (m.map eF)] by
  grind
 refine ZL [2] Tryz.func64 rfl mB ?_;simp (disch:=omega) only [Tryz.f64,go_sem,seval];refine Zr (Weak.ofNil 5 2 (by simp (disch:=omega) only [go_sem,seval]) Zb (Weak.refl _ _ _)) ?_;refine Zd [] _ _ _ _ (Zf ?_);refine Zj [0,1] (fun q:Nat×List Flt=> [(5,.sl 0 0 q.2.length q.2.length),(6,.p (.int .i64 q.1))]) (fun q=> [.elems 2 (q.2.map eF)]) (fun q=>q.1<=l.length/\q.2=(l.take q.1).map (und word)) (fun q=>l.length-q.1) (0,[]) ⟨Zb,Zb⟩ (Weak.mk ?_) ?_
 ·simp (disch:=omega) only [go_sem,seval,↓reduceIte]
 ·rintro ⟨k,m⟩ ⟨hk,hm⟩;simp only at hk hm
  have hml:m.length<=k:=by grind
  refine Zf ?_;refine cD ?_ ?_<;>intro h<;>simp (disch:=omega) only [Sh.out h,go_sem,seval,↓reduceIte]
  ·have hk2:k<l.length:=Za
   have hpk:=hp _ (ZQ hk2);unfold pF at hpk
   have hnext: ∀f,f=und word (nth l k)->m++ [f]=(l.take (k+1)).map (und word):=fun f hf=>by
    grind [List.take_succ_eq_append_getElem,Zi]
   refine cD ?_ ?_<;>intro h2<;>simp (disch:=omega) only [Sh.out h2,go_sem,seval,↓reduceIte]
   ·have h3: ¬(nth l k).2= []:=Za
    simp (disch:=first | omega | (simp only [List.length_cons,List.length_nil,List.length_append,List.length_map,List.length_take,List.length_drop]<;>omega)) only [go_sem,seval,↓reduceIte];refine ⟨(k+1,m++ [((nth l k).1,word++ [32]++(nth l k).2)]),⟨Za,hnext _ (by simp [und,h3])⟩,Za,Weak.mk (by simp (disch:=first | omega | (simp only [List.length_cons,List.length_nil,List.length_append,List.length_map,List.length_take,List.length_drop]<;>omega)) only [go_sem,seval])⟩
   ·have h3:(nth l k).2= []:=by grind
    refine ⟨(k+1,m++ [((nth l k).1,word)]),⟨Za,hnext _ (by simp [und,h3])⟩,Za,Weak.mk (by simp (disch:=first | omega | (simp only [List.length_cons,List.length_nil,List.length_append,List.length_map,List.length_take,List.length_drop]<;>omega)) only [go_sem,seval])⟩
  ·have hkn:k=l.length:=Za
   subst hkn;exact ⟨m,by grind,0,by simp (disch:=omega) only [go_sem,seval]⟩
theorem Ri {n:Int} {ap be:List (Int×Int)} (ha:ap.length<=1048576) (hb:be.length<=1048576): ∀f∈chk n ap be,pF 100 f:=by
 have key: ∀(word:List UInt8) (sm:Int×Int->Int×Int->Bool) (l:List (Int×Int)),word.length<=6->l.length<=1048576-> ∀f∈Ve n word sm l l.length,pF 100 f:=fun word sm l hw hl f hf=>by
  simp only [Ve,List.mem_append,List.mem_flatMap,List.mem_range] at hf;rcases hf with hf | ⟨i,hi,hf⟩
  ·grind [IM,pF]
  ·have hd:=Uv 6 i Za
   grind [pF,jA,Hc]
 intro f hf;rcases List.mem_append.1 hf with hf | hf
 ·grind
 grind
theorem MV {n:Int} {ap be:List (Int×Int)} :(chk n ap be).length<=ap.length+be.length+2:=by
 grind [UT,chk]
structure InstOk (x:Inst):Prop where
 net:netOk x.net
 types:typesOk x.net x.types
 orders:ordersOk x.net.places.length (dimsOf x.types) x.types.length x.orders
 rules:chk x.orders.length x.apart x.before= []
theorem FR.und {p:Flt->Prop} {C:Prop} {b:Nat} {l:List Flt} (h:FR p C b l) (word:List UInt8):FR (fun _=>True) C b (l.map (und word)) :=
 ⟨by simpa using h.len,by rw [List.map_eq_nil_iff];exact h.emp,fun _ _=>trivial⟩
theorem Ro (x:Inst) (hw:x.wf 1048576):ACalls Tryz.prog 25 [.p (Xt x)] [] fun y H'=> ∃m:List Flt,FR (fun _=>True) (InstOk x) 4194400000000 m/\y= .sl 0 0 m.length m.length/\H'= [.elems 2 (m.map eF)]:=by
 obtain ⟨w1,w2,w3,w4,w5,w6,w7,w8,w9⟩:=hw;refine ZL [] Tryz.func25 rfl lA ?_;simp (disch:=omega) only [Tryz.f25,go_sem,seval];have ol:=Wj x.net.places.length (dimsOf x.types) x.types.length x.orders x.orders.length;have oat:=DW (np:=x.net.places.length) (d:=dimsOf x.types) (ty:=x.types.length) w4;have onil:=CA (np:=x.net.places.length) (d:=dimsOf x.types) (ty:=x.types.length) (l:=x.orders);have cl:=MV (n:=x.orders.length) (ap:=x.apart) (be:=x.before);have cat:=Ri (n:=x.orders.length) w6 w8;refine ((Rl x.net w1).frozenE).useV fun m1 h1=> ?_
 refine Zf ?_;have h1p:=h1.pmono (q:=pF 100) fun f hf=>hf.mono Za;have u1:=V0 [110,101,116] m1 false Zb h1.len h1p.all;have f1:=h1.und [110,101,116];generalize m1.map (und [110,101,116])=q1 at u1 f1;have f1l:=f1.len;refine (u1).useF (Zf ?_);refine ((Rm x.net x.types x.types_c w1 w2 w3).frozenE).useV fun m2 h2=>Zf ?_;have h2p:=h2.pmono (q:=pF 100) fun f hf=>hf.mono Za;have h2l:=h2.len;have u2:=(V0 [116,121,112,101,115] m2 false Zb Za h2p.all).frozen Zb;have f2:=h2.und [116,121,112,101,115]
 generalize m2.map (und [116,121,112,101,115])=q2 at u2 f2;have f2l:=f2.len;refine (u2).use (Zf ?_);have u3:=(V0 [111,114,100,101,114,115] (ZY x.net.places.length (dimsOf x.types) x.types.length x.orders x.orders.length) false Zb Za fun f hf=>(oat f hf).mono Za).frozen Zb;have f3:=(show FR (fun _=>True) (ordersOk x.net.places.length (dimsOf x.types) x.types.length x.orders) (1+8*x.orders.length) (ZY x.net.places.length (dimsOf x.types) x.types.length x.orders x.orders.length) from ⟨ol,onil,fun _ _=>trivial⟩).und [111,114,100,101,114,115]
 generalize (ZY x.net.places.length (dimsOf x.types) x.types.length x.orders x.orders.length).map (und [111,114,100,101,114,115])=q3 at u3 f3;have f3l:=f3.len;refine Zv 13 mixed Ze Ze (Zf ?_);refine Zn (B5 x.types x.types_c w2) (Zf ?_);refine Zn ((Rn x.net (dimsOf x.types) x.types.length x.orders x.orders_c w1 w4 w5).frozen Zb) (Zf ?_);refine Zn (u3) (Zf ?_);have u4:=(V0 [114,117,108,101,115] (chk x.orders.length x.apart x.before) false Zb Za cat).frozen Zb
 have f4:=(show FR (fun _=>True) (chk x.orders.length x.apart x.before= []) (x.apart.length+x.before.length+2) (chk x.orders.length x.apart x.before) from ⟨cl,Iff.rfl,fun _ _=>trivial⟩).und [114,117,108,101,115];generalize (chk x.orders.length x.apart x.before).map (und [114,117,108,101,115])=q4 at u4 f4;have f4l:=f4.len;refine ((LH x.orders.length x.apart x.before x.apart_c x.before_c w6 w8).frozen Zb).use (Zf ?_);refine (u4).use (Zf ?_);refine ⟨q1++q2++q3++q4,((f1.app f2).app f3 |>.app f4).to Za ⟨fun ⟨⟨⟨a,b⟩,c⟩,d⟩=>⟨a,b,c,d⟩,fun h=>⟨⟨⟨h.net,h.types⟩,h.orders⟩,h.rules⟩⟩,1,?_⟩
 simp (disch:=omega) only [go_sem,seval]
theorem EG (a:Int):IntKind.i64.wrap ((BitVec.ofInt 64 a&&&BitVec.ofInt 64 1).toNat:Int)=a%2:=by
 grind [BitVec.toNat_ofInt,IntWalk.i64_in]
def Ja (s i:Int):Bool:=decide (0<=i)&&decide (i<=62)&&decide (s.fdiv (2^i.toNat)%2=1)
theorem kL (s i:Int):PC 226 [.p (.int .i64 s),.p (.int .i64 i)] (.bool (Ja s i)):=by
 refine Zc Tryz.func226 rfl S9 ?_;simp (disch:=omega) only [Tryz.f226,go_sem,seval];refine gT ?_ ?_<;>intro h<;>simp (disch:=omega) only [Sh.out h,go_sem,seval,↓reduceIte]
 ·refine gT ?_ ?_<;>intro h1<;>simp (disch:=omega) only [Sh.out h1,go_sem,seval,↓reduceIte]
  ·have:min i.toNat 64=i.toNat:=Za
   rw [this]
   erw [EG]
   simp [Ja,h,h1]
  grind [Ja]
 ·simp [Ja,h]
def Xw (s:Int) (k:Nat):List Int:=((List.range k).filter fun (i:Nat)=>Ja s (i:Int)).map fun (i:Nat)=>(i:Int)
theorem GA (s:Int):Xw s 0= []:=by simp [Xw]
theorem I1 {s:Int} {k:Nat} (h:Ja s (k:Int)=true):Xw s (k+1)=Xw s k++ [(k:Int)]:=by grind [Xw,List.range_succ]
theorem Nz {s:Int} {k:Nat} (h:Ja s (k:Int)=false):Xw s (k+1)=Xw s k:=by grind [Xw,List.range_succ]
theorem Cr (s:Int) (k:Nat):(Xw s k).length<=k:=by
 grind [Xw]
theorem GB (s:Int):ACalls Tryz.prog 196 [.p (.int .i64 s)] [] fun x H'=>x= .sl 0 0 (Xw s 63).length (Xw s 63).length/\H'= [.elems 1 ((Xw s 63).map eI)]:=by
 refine UI (fn:=Tryz.f196) Zb Tryz.func196 rfl SO ?_;simp (disch:=omega) only [Tryz.f196,go_sem,seval];refine Zj [0] (fun k:Nat=> [(3,.sl 0 0 (Xw s k).length (Xw s k).length),(5,.p (.int .i64 k))]) (fun k=> [.elems 1 ((Xw s k).map eI)]) (fun k=>k<=63) (fun k=>63-k) 0 Zb (Weak.ofNil 3 1 (by simp (disch:=omega) only [go_sem,seval]) Zb (Weak.mk ?_)) ?_
 ·simp (disch:=omega) only [GA,go_sem,seval,↓reduceIte]
 ·intro k hk;have hl:=Cr s k;refine Zf ?_;refine cD ?_ ?_<;>intro h<;>simp (disch:=omega) only [Sh.out h,go_sem,seval,↓reduceIte]
  ·refine (kL s k).use (Zf ?_);refine cD ?_ ?_<;>intro h2<;>simp (disch:=omega) only [Sh.out h2,go_sem,seval,↓reduceIte]
   ·refine ⟨k+1,Za,Za,Weak.mk ?_⟩;simp (disch:=omega) only [I1 h2,go_sem,seval]
   ·exact ⟨k+1,Za,Za,Weak.mk (by simp (disch:=omega) only [Nz h2,go_sem,seval])⟩
  ·have:k=63:=Za
   subst this;exact ⟨0,by simp (disch:=omega) only [go_sem,seval]⟩
def hv (s k:Nat):Nat:=s / pw k
theorem RG (s k:Nat):s.testBit k=decide (hv s k%2=1):=by
 rw [Nat.testBit_eq_decide_div_mod_eq]
 rfl
theorem CP (s i:Nat) (hi:i<=62):Ja (s:Int) (i:Int)=s.testBit i:=by
 rw [RG,hv]
 have h1:(0:Int)<=i:=Za
 have h2:(i:Int)<=62:=Za
 simp only [Ja,h1,h2,decide_true,Bool.true_and,Int.toNat_natCast]
 have e:((s:Int)).fdiv (2^i)=((s / pw i:Nat):Int):=by
  grind [pw]
 grind
theorem EH {α:Type} [Inhabited α] {l:List α} {f:α->Bool} {k:Nat} (h:k<l.length) (hf:f (nth l k)=true):l.any f=true:=by
 grind [Zi]
theorem Hr {α:Type} [Inhabited α] {l:List α} {f:α->Bool} (h: ∀j,j<l.length->f (nth l j)=false):l.any f=false:=by
 rw [List.any_eq_false];intro x hx;obtain ⟨j,hj,rfl⟩:=List.mem_iff_getElem.1 hx
 grind [Zi]
deriving instance DecidableEq for Vis
theorem Ev {v w:Vis} :v=w↔v.order=w.order/\v.drp=w.drp:=by cases v;cases w;simp
def DD (f:Vis->Bool) (l:List Vis):Int:=match l.findIdx? f with | some i=>(i:Int) | none=> -1
def vIx (l:List Vis) (v:Vis):Int:=DD (fun w=>decide (v=w)) l
theorem DE {f:Vis->Bool} {l:List Vis} {k:Nat} (hk:k<l.length) (h:f (nth l k)=true) (hno: ∀j,j<k->f (nth l j)=false):DD f l=(k:Int):=by
 have:l.findIdx? f=some k:=by
  grind [List.findIdx?_eq_some_iff_getElem,Zi]
 simp [DD,this]
theorem Ig {f:Vis->Bool} {l:List Vis} (hno: ∀j,j<l.length->f (nth l j)=false):DD f l= -1:=by
 have:l.findIdx? f=none:=by
  rw [List.findIdx?_eq_none_iff];intro x hx;obtain ⟨j,hj,rfl⟩:=List.mem_iff_getElem.1 hx
  grind [Zi]
 simp [DD,this]
theorem If {f:Vis->Bool} {l:List Vis} :decide (0<=DD f l)=l.any f:=by
 grind [DD]
theorem Ry {f:Vis->Bool} {l:List Vis} :DD f l<l.length/\ -1<=DD f l:=by
 grind [DD,List.findIdx?_eq_some_iff_getElem]
theorem Fb (l:List Vis) (c:Bool) (v:Vis) (hl:l.length<=1048576):PC 234 [.p (.list c (l.map ZV)),.p (ZV v)] (.int .i64 (vIx l v)):=by
 refine Zc Tryz.func234 rfl Ta ?_;simp (disch:=omega) only [Tryz.f234,go_sem,seval];refine Zj [0,3,7] (fun k:Nat=> [(8,.p (.int .i64 k))]) (fun _=> [.cells [.p (.int .i64 v.order),.p (.bool v.drp)]]) (fun k=>k<=l.length/\ ∀j,j<k->decide (v=nth l j)=false) (fun k=>l.length-k) 0 Zb (Weak.mk ?_) ?_
 ·simp (disch:=omega) only [go_sem,seval,↓reduceIte]
 ·rintro k ⟨hk,hno⟩;refine Zf ?_;refine cD ?_ ?_<;>intro h<;>simp (disch:=omega) only [Sh.out h,go_sem,seval,↓reduceIte]
  ·have hk2:k<l.length:=Za
   refine Xs (Zf ?_);refine cD ?_ ?_<;>intro h2<;>simp (disch:=omega) only [Sh.out h2,go_sem,seval,↓reduceIte]
   ·grind [Ev,vIx,DE]
   ·have: ¬v=nth l k:=by grind
    exact ⟨k+1,⟨Za,Zl.2 ⟨hno,by grind⟩⟩,Za,wk⟩
  grind [vIx,Ig]
theorem Fy (l:List Vis) (c:Bool) (v:Vis) (hl:l.length<=1048576):PC 216 [.p (.list c (l.map ZV)),.p (ZV v)] (.int .i64 (vIx l v)):=by
 refine Zc Tryz.func216 rfl SX ?_;simp (disch:=omega) only [Tryz.f216,go_sem,seval];refine (Fb l c v hl).use ?_;simp (disch:=omega) only [go_sem,seval]
theorem AU (l:List Vis) (c:Bool) (v:Vis) (hl:l.length<=1048576):PC 218 [.p (.list c (l.map ZV)),.p (ZV v)] (.bool (decide (0<=vIx l v))):=by
 refine Zc Tryz.func218 rfl SZ ?_;simp (disch:=omega) only [Tryz.f218,go_sem,seval];refine (Fb l c v hl).use ?_;simp (disch:=omega) only [go_sem,seval]
theorem Oh (l:List Ord) (c:Bool) (n:Int) (hl:l.length<=1048576):PC 117 [.p (.list c (l.map Yz)),.p (.int .i64 n)] (.bool (decide (0<=n/\n<l.length))):=by
 refine Zc Tryz.func117 rfl IQ ?_;simp (disch:=omega) only [Tryz.f117,go_sem,seval];refine gT ?_ ?_<;>intro h<;>simp (disch:=omega) only [Sh.out h,go_sem,seval,↓reduceIte]
 all_goals (try simp [h])
def Yv (l:List Ord) (i:Nat):List Vis:=(if 0<=(nth l i).pick.place then [⟨i,false⟩] else [])++(if 0<=(nth l i).drp.place then [⟨i,true⟩] else [])
theorem Mb (l:List Ord) (i:Nat):(Yv l i).length<=2:=by grind [Yv]
theorem Ew (l:List Ord) (c:Bool) (i:Nat) (hi:i<l.length) (hl:l.length<=1048576):ACalls Tryz.prog 217 [.p (.list c (l.map Yz)),.p (.int .i64 (i:Nat))] [] fun x H'=>x= .sl 0 0 (Yv l i).length (Yv l i).length/\H'= [.elems 2 ((Yv l i).map ZV)]:=by
 suffices hh:ACalls Tryz.prog 217 [.p (.list c (l.map Yz)),.p (.int .i64 (i:Nat))] [] fun x H'=> ∃m:List Vis,m=Yv l i/\x= .sl 0 0 m.length m.length/\H'= [.elems 2 (m.map ZV)] by
  grind
 refine ZL [2] Tryz.func217 rfl SY ?_;simp (disch:=omega) only [Tryz.f217,go_sem,seval];refine Zr (Weak.ofNil 5 2 (by simp (disch:=omega) only [go_sem,seval]) Zb (Weak.refl _ _ _)) ?_;refine Zd [4] _ _ _ _ (Zf ?_);refine (Oh l c i hl).use (Zf ?_)
 have h0:(0:Int)<=(i:Int)/\(i:Int)<(l.length:Int):=Za
 simp (disch:=omega) only [h0,go_sem,seval];refine Zq [0,1] (fun m:List Vis=> [(5,.sl 0 0 m.length m.length)]) (fun m=> [.elems 2 (m.map ZV)]) (fun m=>m=(if 0<=(nth l i).pick.place then [⟨i,false⟩] else [])) ?_ ?_
 ·refine Zf ?_;refine cD ?_ ?_<;>intro h<;>simp (disch:=omega) only [Sh.out h,go_sem,seval,↓reduceIte]
  ·exact ⟨[⟨i,false⟩],by simp [],wk⟩
  ·exact ⟨[],by simp [],wk⟩
 ·intro m hm
  have hml:m.length<=1:=by grind
  refine Zd [] _ _ _ _ (Zf ?_);refine cD ?_ ?_<;>intro h<;>simp (disch:=omega) only [Sh.out h,go_sem,seval,↓reduceIte]
  ·exact ⟨m++ [⟨i,true⟩],by simp_all [Yv],0,by simp (disch:=omega) only [go_sem,seval]⟩
  ·exact ⟨m,by simp_all [Yv],0,by simp (disch:=omega) only [go_sem,seval]⟩
theorem visits_c (l:List Ord) (c:Bool) (i:Nat) (hi:i<l.length) (hl:l.length<=1048576):PC 217 [.p (.list c (l.map Yz)),.p (.int .i64 (i:Nat))] (.list false ((Yv l i).map ZV)) :=
 (Ew l c i hi hl).frozen Zb
def QP (l:List Vis):Bool:=(List.range l.length).any fun i=>decide (0<=vIx (l.take i) (nth l i))
theorem Om (l:List Vis) (c:Bool) (hl:l.length<=1048576):PC 183 [.p (.list c (l.map ZV))] (.bool (QP l)):=by
 refine Zc Tryz.func183 rfl SC ?_;simp (disch:=omega) only [Tryz.f183,go_sem,seval];refine Zj [0,5,6] (fun k:Nat=> [(7,.p (.int .i64 k))]) (fun _=> []) (fun k=>k<=l.length/\ ∀j,j<k->decide (0<=vIx (l.take j) (nth l j))=false) (fun k=>l.length-k) 0 Zb (Weak.mk ?_) ?_
 ·simp (disch:=omega) only [go_sem,seval,↓reduceIte]
 ·rintro k ⟨hk,hno⟩;refine Zf ?_;refine cD ?_ ?_<;>intro h<;>simp (disch:=omega) only [Sh.out h,go_sem,seval,↓reduceIte]
  ·have hk2:k<l.length:=Za
   refine Xs (Zf ?_);refine Zn (Fy (l.take k) _ (nth l k) (by simp;omega)) (Zf ?_);refine cD ?_ ?_<;>intro h2<;>simp (disch:=omega) only [Sh.out h2,go_sem,seval,↓reduceIte]
   ·grind [QP]
   ·exact ⟨k+1,⟨Za,Zl.2 ⟨hno,by grind⟩⟩,Za,wk⟩
  grind [QP]
theorem QY (l:List Vis) (c:Bool) (g:FuncId) (caps:List V) (H:List AM.Obj) (f:Vis->Bool) (hl:l.length<=1048576) (hW:Da H H.length H H) (hc:ZE H.length caps=true)
  (hg: ∀v∈l,ACalls Tryz.prog g (.p (ZV v)::caps) H fun x H'=>x= .p (.bool (f v))/\H'=H) :
  ACalls Tryz.prog 215 [.p (.list c (l.map ZV)),.fn (.func g) [] caps] H fun x H'=>x= .p (.int .i64 (DD f l))/\H'=H:=by
 refine Xb Tryz.func215 rfl SV (Zd [] _ _ _ _ ?_);simp (disch:=omega) only [Tryz.f215,go_sem,seval];refine Zj [0,1,7] (fun k:Nat=> [(8,.p (.int .i64 k))]) (fun _=>H) (fun k=>k<=l.length/\ ∀j,j<k->f (nth l j)=false) (fun k=>l.length-k) 0 Zb (Weak.mk ?_) ?_
 ·simp (disch:=omega) only [hW,hc,go_sem,seval];simp
 ·rintro k ⟨hk,hno⟩;refine Zf ?_;refine cD ?_ ?_<;>intro h<;>simp (disch:=omega) only [Sh.out h,go_sem,seval,↓reduceIte]
  ·have hk2:k<l.length:=Za
   refine (hg (nth l k) (ZQ hk2)).useH (Zf ?_);refine cD ?_ ?_<;>intro h2<;>simp (disch:=omega) only [Sh.out h2,go_sem,seval,↓reduceIte]
   ·grind [DE]
   ·have h3:f (nth l k)=false:=Za
    refine ⟨k+1,⟨Za,Zl.2 ⟨hno,h3⟩⟩,Za,Weak.mk ?_⟩;simp (disch:=omega) only [hW,hc,go_sem,seval];simp
  grind [Ig]
theorem Y2 (l:List Vis) (c:Bool) (g:FuncId) (caps:List V) (H:List AM.Obj) (f:Vis->Bool) (hl:l.length<=1048576) (hW:Da H H.length H H) (hc:ZE H.length caps=true)
  (hg: ∀v∈l,ACalls Tryz.prog g (.p (ZV v)::caps) H fun x H'=>x= .p (.bool (f v))/\H'=H) :
  ACalls Tryz.prog 180 [.p (.list c (l.map ZV)),.fn (.func g) [] caps] H fun x H'=>x= .p (.bool (l.any f))/\H'=H:=by
 refine Xb Tryz.func180 rfl Sz (Zd [] _ _ _ _ ?_);simp (disch:=omega) only [Tryz.f180,go_sem,seval];refine (QY l c g caps H f hl hW hc hg).useH (Zf ?_);rw [If]
def XR (l:List Vis) (o:Int):Bool:=l.any fun v=>decide (v.order=o)
theorem RD (v:Vis) (o:Int):ACalls Tryz.prog 219 [.p (ZV v),.ptr 0 0] [.cells [.p (.int .i64 o)]] fun x H'=>x= .p (.bool (decide (v.order=o)))/\H'= [.cells [.p (.int .i64 o)]]:=by
 refine Zg [] Tryz.func219 rfl S0 ?_;simp (disch:=omega) only [Tryz.f219,go_sem,seval];exact we
theorem Ga (v:Vis) (o:Int):ACalls Tryz.prog 220 [.p (ZV v),.ptr 0 0] [.cells [.p (.int .i64 o)]] fun x H'=>x= .p (.bool (decide (v.order=o)))/\H'= [.cells [.p (.int .i64 o)]]:=by
 refine Zg [] Tryz.func220 rfl S1 ?_;simp (disch:=omega) only [Tryz.f220,go_sem,seval];exact we
theorem Qj (l:List Vis) (c:Bool) (o:Int) (hl:l.length<=1048576):PC 185 [.p (.list c (l.map ZV)),.p (.int .i64 o)] (.bool (XR l o)):=by
 refine Zc Tryz.func185 rfl SE ?_;simp (disch:=omega) only [Tryz.f185,go_sem,seval];refine (Y2 l c 219 [.ptr 0 0] [.cells [.p (.int .i64 o)]] (fun v=>decide (v.order=o)) hl (by simp (disch:=omega) only [go_sem,seval]) (by rfl) (fun v _=>RD v o)).useH (Zf ?_);rw [XR]
def YI (l:List Vis) (a b:Int):Bool:=if DD (fun v=>decide (v.order=b)) l<0 then true else XR l a&& !XR (l.drop (DD (fun v=>decide (v.order=b)) l).toNat) a
theorem CU (l:List Vis) (c:Bool) (a b:Int) (hl:l.length<=1048576):PC 186 [.p (.list c (l.map ZV)),.p (.int .i64 a),.p (.int .i64 b)] (.bool (YI l a b)):=by
 refine Zc Tryz.func186 rfl SF ?_;simp (disch:=omega) only [Tryz.f186,go_sem,seval];refine (QY l c 220 [.ptr 0 0] [.cells [.p (.int .i64 b)]] (fun v=>decide (v.order=b)) hl (by simp (disch:=omega) only [go_sem,seval]) (by rfl) (fun v _=>Ga v b)).useH ?_;have hlt:=Ry (f:=fun v=>decide (v.order=b)) (l:=l);refine Zf ?_;refine cD ?_ ?_<;>intro h<;>simp (disch:=omega) only [Sh.out h,go_sem,seval]
 ·rw [YI,if_pos h]
 ·refine (Qj l c a hl).use (Zf ?_);generalize hq:DD (fun v=>decide (v.order=b)) l=q at hlt h ⊢
  cases h2:XR l a with
  | false =>
   refine Zf ?_
   simp_all [YI]
  | true =>
   simp (disch:=omega) only [List.take_length,go_sem,seval];refine (Qj (l.drop q.toNat) _ a (by simp;omega)).use (Zf ?_)
   simp_all [YI,if_neg]
def Qu (l:List Vis):Int->List Vis->Bool
 | _,[]=>true
 | last,w::r=>decide (last<vIx l w)&&Qu l (vIx l w) r
def pairB (os:List Ord) (l:List Vis) (v:Vis):Bool:=decide (0<=vIx (Yv os v.order.toNat) v)&&Qu l (-1) (Yv os v.order.toNat)
theorem CV (x:Inst) (l:List Vis) (c:Bool) (hl:l.length<=1048576) (ho:x.orders.length<=1048576) (hv: ∀v∈l,0<=v.order/\v.order<x.orders.length) :
  PC 184 [.p (Xt x),.p (.list c (l.map ZV))] (.bool (l.all (pairB x.orders l))):=by
 refine Zc Tryz.func184 rfl SD ?_;simp (disch:=omega) only [Tryz.f184,go_sem,seval];refine Zj [1,2,12,13] (fun k:Nat=> [(14,.p (.int .i64 k))]) (fun _=> [Zk x]) (fun k=>k<=l.length/\ ∀j,j<k->pairB x.orders l (nth l j)=true) (fun k=>l.length-k) 0 Zb (Weak.mk ?_) ?_
 ·simp (disch:=omega) only [Zk,go_sem,seval]
 ·rintro k ⟨hk,hno⟩;simp (disch:=omega) only [Zk,go_sem,seval];refine cD ?_ ?_<;>intro h<;>simp (disch:=omega) only [Sh.out h,go_sem,seval,↓reduceIte]
  ·have hk2:k<l.length:=Za
   obtain ⟨v1,v2⟩:=hv _ (ZQ hk2)
   have hbad:pairB x.orders l (nth l k)=false->l.all (pairB x.orders l)=false:=fun h4=>by
    grind [ZQ]
   obtain ⟨i,hi⟩: ∃i:Nat,(nth l k).order=(i:Int):=⟨(nth l k).order.toNat,Za⟩
   have hp:pairB x.orders l (nth l k)=(decide (0<=vIx (Yv x.orders i) (nth l k))&&Qu l (-1) (Yv x.orders i)):=by rw [pairB,hi];rfl
   rw [hi] at v1 v2;simp (disch:=omega) only [hi,go_sem,seval];refine (visits_c x.orders x.orders_c i Za ho).use (Zf ?_);have hvl:=Mb x.orders i;have hcon:=AU (Yv x.orders i) false (nth l k) Za;rw [M4,hi] at hcon;refine (hcon).use (Zf ?_);refine cD ?_ ?_<;>intro h2<;>simp (disch:=omega) only [Sh.out h2,go_sem,seval]
   ·grind
   ·have h2':0<=vIx (Yv x.orders i) (nth l k):=Za
    generalize hown:Yv x.orders i=own at hvl hp h2' ⊢
    have hp2:pairB x.orders l (nth l k)=Qu l (-1) own:=by grind
    refine Zj [1,2,12,13,14,27,28] (fun q:Nat×Int=> [(8,.p (.int .i64 q.2)),(29,.p (.int .i64 q.1))]) (fun _=> [Zk x,.cells [.p (.int .i64 (i:Int)),.p (.bool (nth l k).drp)]]) (fun q=>q.1<=own.length/\Qu l (-1) own=Qu l q.2 (own.drop q.1)) (fun q=>own.length-q.1) (0,-1) Zb (Weak.mk ?_) ?_
    ·simp (disch:=omega) only [Zk,go_sem,seval]
    ·rintro ⟨j,last⟩ ⟨hj,ha⟩;simp only at hj ha;simp (disch:=omega) only [Zk,go_sem,seval];refine ZX ?_ ?_<;>intro h3
     ·have hj2:j<own.length:=Za
      have hd:own.drop j=nth own j::own.drop (j+1):=by rw [List.drop_eq_getElem_cons hj2,Zi hj2]
      rw [hd] at ha;refine (Fy l c (nth own j) hl).use (Zf ?_);refine ZX ?_ ?_<;>intro h4
      ·grind [Qu]
      ·have h5:last<vIx l (nth own j):=Za
       exact ⟨(j+1,vIx l (nth own j)),⟨Za,by grind [Qu]⟩,Za,wk⟩
     ·have hjl:j=own.length:=Za
      subst hjl;exact ⟨k+1,⟨Za,Zl.2 ⟨hno,by grind [Qu]⟩⟩,Za,wk⟩
  ·have hkl:k=l.length:=Za
   subst hkl
   have:l.all (pairB x.orders l)=true:=by
    rw [List.all_eq_true];intro v hv;obtain ⟨j,hj,rfl⟩:=List.mem_iff_getElem.1 hv
    grind [Zi]
   rw [this]
def ZN (r:Rte):AM.Obj:= .cells [.p (.int .i64 r.typ),.p (.int .i64 r.start),.p (.list r.rests_c (r.rests.map eB)),.p (.list r.visits_c (r.visits.map ZV))]
def J8 (x:Inst) (v:Vis):Bool:= !decide (0<=v.order/\v.order<(x.orders.length:Int))
theorem HM (x:Inst) (r:Rte) (v:Vis) (ho:x.orders.length<=1048576):ACalls Tryz.prog 181 [.p (ZV v),.ptr 0 0] [Zk x,ZN r] fun y H'=>y= .p (.bool (J8 x v))/\H'= [Zk x,ZN r]:=by
 refine Zg [] Tryz.func181 rfl SA ?_;simp (disch:=omega) only [Tryz.f181,Zk,ZN,go_sem,seval];refine gF ?_ ?_<;>intro h<;>simp (disch:=omega) only [Sh.out h,go_sem,seval,↓reduceIte]
 ·have e:J8 x v=true:=by
   grind [J8]
  rw [e];exact we
 ·have e:J8 x v=decide ((x.orders.length:Int)<=v.order):=by
   have h0:0<=v.order:=Za
   rw [Bool.eq_iff_iff];simp [J8,h0]
  rw [e];exact we
theorem HN (x:Inst) (r:Rte) (v:Vis) (ho:x.orders.length<=1048576) (h1:0<=v.order) (h2:v.order<x.orders.length):ACalls Tryz.prog 182 [.p (ZV v),.ptr 0 0] [Zk x,ZN r] fun y H'=>y= .p (.bool (nth x.orders v.order.toNat).off)/\H'= [Zk x,ZN r]:=by
 have h3:v.order.toNat<x.orders.length:=Za
 refine Zg [] Tryz.func182 rfl SB ?_;simp (disch:=omega) only [Tryz.f182,Zk,ZN,go_sem,seval];exact we
def Xi (x:Inst) (l:List Vis):Int :=
 if l.length=0\/l.any (J8 x)=true then 2
 else if (l.any fun v=>(nth x.orders v.order.toNat).off)=true then 9
 else if QP l=true then 6
 else if l.all (pairB x.orders l)=false then 19
 else if (x.apart.any fun p=>XR l p.1&&XR l p.2)=true then 20
 else if (x.before.any fun p=> !YI l p.1 p.2)=true then 21
 else 0
theorem Aw {P Q:Prop} (h:Q) (e:Q->P:=by intro h;simp (disch:=omega) only [Zk,ZN,go_sem,seval];exact h):P:=e h
theorem El (x:Inst) (r:Rte) (ho:x.orders.length<=1048576) (hl:r.visits.length<=1048576) (hap:x.apart.length<=1048576) (hbe:x.before.length<=1048576) :
  PC 153 [.p (Xt x),.p (eRte r)] (.int .i64 (Xi x r.visits)):=by
 refine Zc Tryz.func153 rfl Sk ?_;simp (disch:=omega) only [Tryz.f153,go_sem,seval];refine gF ?_ ?_<;>intro h0<;>simp (disch:=omega) only [Sh.out h0,go_sem,seval]
 ·grind [Xi]
 ·have h00: ¬r.visits.length=0:=Za
  refine (Y2 r.visits r.visits_c 181 [.ptr 0 0] [Zk x,ZN r] (J8 x) hl (by simp (disch:=omega) only [Zk,ZN,go_sem,seval]) (by rfl) (fun v _=>HM x r v ho)).useH (Aw ?_);refine cD ?_ ?_<;>intro h1<;>simp (disch:=omega) only [Sh.out h1,go_sem,seval]
  ·simp_all [Xi]
  ·have h1':r.visits.any (J8 x)=false:=Za
   have c1: ¬(r.visits.length=0\/r.visits.any (J8 x)=true):=by grind
   have hin: ∀v∈r.visits,0<=v.order/\v.order<x.orders.length:=fun v hv=>by
    grind [J8]
   refine (Y2 r.visits r.visits_c 182 [.ptr 0 0] [Zk x,ZN r] (fun v=>(nth x.orders v.order.toNat).off) hl (by simp (disch:=omega) only [Zk,ZN,go_sem,seval]) (by rfl) (fun v hv=>HN x r v ho (hin v hv).1 (hin v hv).2)).useH (Aw ?_);refine cD ?_ ?_<;>intro h2<;>simp (disch:=omega) only [Sh.out h2,go_sem,seval]
   ·simp_all [Xi]
   ·refine (Om r.visits r.visits_c hl).use (Zf ?_);refine cD ?_ ?_<;>intro h3<;>simp (disch:=omega) only [Sh.out h3,go_sem,seval,↓reduceIte]
    ·simp_all [Xi,if_neg]
    ·refine (CV x r.visits r.visits_c hl ho hin).use (Zf ?_);refine cD ?_ ?_<;>intro h4<;>simp (disch:=omega) only [Sh.out h4,go_sem,seval,↓reduceIte]
     ·simp_all [Xi,if_neg]
     ·have h4':r.visits.all (pairB x.orders r.visits)=true:=by grind
      have hc:Xi x r.visits=if (x.apart.any fun p=>XR r.visits p.1&&XR r.visits p.2)=true then 20 else if (x.before.any fun p=> !YI r.visits p.1 p.2)=true then 21 else 0:=by
       rw [Xi,if_neg c1,if_neg (by grind),if_neg (by grind),if_neg (by grind)]
      clear h4 h4' h3 h2 c1 h1' h1 h0;refine Zj [2,5,33,34] (fun k:Nat=> [(35,.p (.int .i64 k))]) (fun _=> [Zk x,ZN r]) (fun k=>k<=x.apart.length/\ ∀j,j<k->(XR r.visits (nth x.apart j).1&&XR r.visits (nth x.apart j).2)=false) (fun k=>x.apart.length-k) 0 Zb (Weak.mk ?_) ?_
      ·simp (disch:=omega) only [Zk,ZN,go_sem,seval]
      ·rintro k ⟨hk,hno⟩;refine Aw ?_;refine cD ?_ ?_<;>intro h<;>simp (disch:=omega) only [Sh.out h,go_sem,seval,↓reduceIte]
       ·have hk2:k<x.apart.length:=Za
        refine (Qj r.visits r.visits_c (nth x.apart k).1 hl).use (Zf ?_);refine jW ?_ ?_<;>intro h2
        ·refine (Qj r.visits r.visits_c (nth x.apart k).2 hl).use (Zf ?_);refine ZX ?_ ?_<;>intro h3
         ·rw [hc,if_pos (EH hk2 (by grind))]
         ·exact ⟨k+1,⟨Za,Zl.2 ⟨hno,by grind⟩⟩,Za,wk⟩
        ·exact ⟨k+1,⟨Za,Zl.2 ⟨hno,by simp [h2]⟩⟩,Za,wk⟩
       ·have hkl:k=x.apart.length:=Za
        subst hkl;rw [hc,Hr hno];clear hno hk h hc;rw [if_neg Zb];refine Zj [5,51,52] (fun k:Nat=> [(53,.p (.int .i64 k))]) (fun _=> [Zk x,ZN r]) (fun k=>k<=x.before.length/\ ∀j,j<k->(!YI r.visits (nth x.before j).1 (nth x.before j).2)=false) (fun k=>x.before.length-k) 0 Zb (Weak.mk ?_) ?_
        ·simp (disch:=omega) only [Zk,ZN,go_sem,seval]
        ·rintro k ⟨hk,hno⟩;refine Aw ?_;refine cD ?_ ?_<;>intro h<;>simp (disch:=omega) only [Sh.out h,go_sem,seval,↓reduceIte]
         ·have hk2:k<x.before.length:=Za
          refine (CU r.visits r.visits_c (nth x.before k).1 (nth x.before k).2 hl).use (Zf ?_);refine ZX ?_ ?_<;>intro h2
          ·have h3:(!YI r.visits (nth x.before k).1 (nth x.before k).2)=true:=Za
           rw [if_pos (EH hk2 h3)]
          ·have h3:(!YI r.visits (nth x.before k).1 (nth x.before k).2)=false:=Za
           exact ⟨k+1,⟨Za,Zl.2 ⟨hno,h3⟩⟩,Za,wk⟩
         grind [Hr]
@[go_sem] theorem pX {H:List AM.Obj} {n cs cs'} :Kz H n (.tup cs) (.tup cs')=(cs'=cs/\ZE n cs=true):=by simp [Kz,Mp,refB]
@[go_sem] theorem Ed {a b:V} :Wx [a,b]= .tup [a,b]:=Eq.trans rfl rfl
theorem W4 {g:FuncId} {args:List V} {a b:PV} {H:List AM.Obj} {K:V->List AM.Obj->Prop} (h:ACalls Tryz.prog g args [] fun x H'=>x= .tup [.p a,.p b]/\H'= []) (k:K (.tup [.p a,.p b]) H) (ha:ZE 0 args=true:=by rfl):ACalls Tryz.prog g args H K :=
 (h.behind ha H).mono fun x H' hq=>by
  obtain ⟨y,H1,⟨rfl,rfl⟩,rfl,rfl⟩:=hq
  grind [Vb,Wf]
def YO (l:List Vis):Nat:=l.foldl (fun s v=>s|||pw v.order.toNat) 0
def Mq (v:Vis):Bool:=decide (0<=v.order/\v.order<=62)
theorem Am {l:List Vis} {k:Nat} (hk:k<l.length):YO (l.take (k+1))=YO (l.take k)|||pw (nth l k).order.toNat:=by
 grind [List.take_succ_eq_append_getElem,YO,Zi]
theorem Fu : ∀(k:Nat) {l:List Vis},k<=l.length->(∀v∈l.take k,Mq v=true)->YO (l.take k)<9223372036854775808
 | 0,l,_,_=>by simp [YO]
 | k+1,l,hk,h=>by
  have hk2:k<l.length:=Za
  have ih:=Fu k (l:=l) Za fun v hv=>h v (List.take_subset_take_left l Za hv);have hv:=h (nth l k) (by rw [Zi hk2];exact List.mem_iff_getElem.2 ⟨k,by simp;omega,Zb⟩);simp only [Mq,decide_eq_true_eq] at hv;have h2:pw (nth l k).order.toNat<=pw 62:=LF Za;have h3:=LD;rw [Am hk2];exact Nat.or_lt_two_pow (n:=63) Za Za
def A6 (l:List Vis):Int×Int:=if l.all Mq=true then (((YO l:Nat):Int),0) else (0,2)
theorem VF (r:Rte) (hl:r.visits.length<=1048576):PT 121 [.p (eRte r)] [.p (.int .i64 (A6 r.visits).1),.p (.int .i64 (A6 r.visits).2)]:=by
 refine Zg [] Tryz.func121 rfl R1 ?_;simp (disch:=omega) only [Tryz.f121,go_sem,seval];refine Zj [8,9] (fun k:Nat=> [(4,.p (.int .i64 (YO (r.visits.take k):Nat))),(10,.p (.int .i64 k))]) (fun _=> [ZN r]) (fun k=>k<=r.visits.length/\ ∀j,j<k->Mq (nth r.visits j)=true) (fun k=>r.visits.length-k) 0 Zb (Weak.mk ?_) ?_
 ·simp (disch:=omega) only [ZN,YO,List.take_zero,List.foldl_nil,go_sem,seval]
 ·rintro k ⟨hk,hno⟩
  have hlt:=Fu k hk fun v hv=>by
   obtain ⟨j,hj,rfl⟩:=List.mem_iff_getElem.1 hv
   grind [Zi]
  simp (disch:=omega) only [ZN,go_sem,seval];refine cD ?_ ?_<;>intro h<;>simp (disch:=omega) only [Sh.out h,go_sem,seval,↓reduceIte]
  ·have hk2:k<r.visits.length:=Za
   have hbad:Mq (nth r.visits k)=false->A6 r.visits=(0,2):=fun h4=>by
    grind [ZQ,A6]
   have hs:=Am hk2
   have hp:(nth r.visits k).order<=62->pw (nth r.visits k).order.toNat<=4611686018427387904:=fun h=>by rw [<- LD];exact LF Za
   refine gF ?_ ?_<;>intro h1<;>simp (disch:=omega) only [Sh.out h1,go_sem,seval,↓reduceIte]
   ·have e:=hbad (by simp [Mq];omega);rw [e];exact we
   ·refine ZX ?_ ?_<;>intro h2
    ·have e:=hbad (by simp [Mq];omega);rw [e];exact we
    ·exact ⟨k+1,⟨Za,Zl.2 ⟨hno,by simp [Mq];omega⟩⟩,Za,Weak.mk (by simp (disch:=omega) only [hs,go_sem,seval])⟩
  ·have hkl:k=r.visits.length:=Za
   subst hkl
   have:r.visits.all Mq=true:=by
    rw [List.all_eq_true];intro v hv;obtain ⟨j,hj,rfl⟩:=List.mem_iff_getElem.1 hv
    grind [Zi]
   have e:A6 r.visits=(((YO r.visits:Nat):Int),0):=by simp [A6,this]
   rw [e,List.take_length];exact we
def UQ (a b:Int):Int:=if a<b then-1 else if b<a then 1 else 0
theorem Ff (a:Int):PC 98 [.p (.int .i64 a)] (.bool false):=by
 refine Zc Tryz.func98 rfl mY ?_;simp (disch:=omega) only [Tryz.f98,go_sem,seval]
 try simp
theorem HS (a b:Int):PC 57 [.p (.int .i64 a),.p (.int .i64 b)] (.int .i64 (UQ a b)):=by
 refine Zc Tryz.func57 rfl lU ?_;simp (disch:=omega) only [Tryz.f57,go_sem,seval];refine (Ff a).use (Zf ?_);refine (Ff b).use (Zf ?_);refine cD ?_ ?_<;>intro h<;>simp (disch:=omega) only [Sh.out h,go_sem,seval]
 ·simp [UQ,h]
 ·refine cD ?_ ?_<;>intro h2<;>simp (disch:=omega) only [Sh.out h2,go_sem,seval]
  ·simp [UQ,h,h2]
  grind [UQ]
def NK (l:List Int):Int:=(l.find? fun n=>decide (n≠0)).getD 0
theorem TG {l:List Int} {k:Nat} (hk:k<l.length) (h:nth l k≠0) (hno: ∀j,j<k->nth l j=0):NK l=nth l k:=by
 grind [nth,List.find?_eq_some_iff_getElem,NK]
theorem TH {l:List Int} (hno: ∀j,j<l.length->nth l j=0):NK l=0:=by
 have:l.find? (fun n=>decide (n≠0))=none:=by
  rw [List.find?_eq_none];intro x hx;obtain ⟨j,hj,rfl⟩:=List.mem_iff_getElem.1 hx
  grind [Zi]
 grind [NK]
theorem vP (l:List Int) (c:Bool) (hl:l.length<=100):PC 56 [.p (.list c (l.map eI))] (.int .i64 (NK l)):=by
 refine Zc Tryz.func56 rfl lT ?_;simp (disch:=omega) only [Tryz.f56,go_sem,seval];refine Zj [3,6,7] (fun k:Nat=> [(8,.p (.int .i64 k))]) (fun _=> []) (fun k=>k<=l.length/\ ∀j,j<k->nth l j=0) (fun k=>l.length-k) 0 Zb (Weak.mk ?_) ?_
 ·simp (disch:=omega) only [go_sem,seval]
 ·rintro k ⟨hk,hno⟩;refine Zf ?_;refine cD ?_ ?_<;>intro h<;>simp (disch:=omega) only [Sh.out h,go_sem,seval,↓reduceIte]
  ·have hk2:k<l.length:=Za
   refine ZX ?_ ?_<;>intro h2
   ·grind [TG]
   ·exact ⟨k+1,⟨Za,Zl.2 ⟨hno,Za⟩⟩,Za,wk⟩
  grind [TH]
theorem NM (a b:Int):NK [a,b]=if a=0 then b else a:=by
 grind [NK]
def dn (v:Vis):Int:=if v.drp=true then 1 else 0
def yL (nx:List Vis->List Vis):Nat->List Vis->List (List Vis)->List (List Vis)×Bool
 | 0,l,outs=>(outs++ [l],decide (outs.length+1<=8192))
 | f+1,l,outs=>(nx l).foldl (fun acc v=>if acc.2=true then yL nx f (l++ [v]) acc.1 else acc) (outs,true)
def Plc (x:Inst):Prop:= ∀o∈x.orders,-1<=o.pick.place/\ -1<=o.drp.place
theorem Qq {l:List Vis} {v:Vis} :0<=vIx l v↔v∈l:=by
 grind [If,vIx]
def Vne (x:Inst):Prop:= ∀i,i<x.orders.length->Yv x.orders i≠ []
def ext (nx:List Vis->List Vis):Nat->List Vis->List (List Vis)->List (List Vis)
 | 0,l,outs=>if 8192<outs.length then outs else outs++ [l]
 | f+1,l,outs=>if 8192<outs.length then outs else (nx l).foldl (fun acc v=>ext nx f (l++ [v]) acc) outs
structure IFacts (x:Inst):Prop where
 len:x.orders.length<=10
 plc:Plc x
 vne:Vne x
 val:Val x.orders.length x.before
 ne: ∀p∈x.before,p.1≠p.2
 aval:Val x.orders.length x.apart
theorem Iv {n:Int} {word:List UInt8} {sm:Int×Int->Int×Int->Bool} {l:List (Int×Int)} (h:Ve n word sm l l.length= []): ∀p∈l,NG n p=true:=by
 intro p hp;obtain ⟨i,hi,rfl⟩:=List.mem_iff_getElem.1 hp;have h2:=(List.append_eq_nil_iff.1 h).2;rw [List.flatMap_eq_nil_iff] at h2;have h3:=h2 i (by grind)
 grind [Hc,Zi]
theorem Gs {x:Inst} (h:InstOk x):IFacts x:=by
 have ho:=h.orders;obtain ⟨h1,h2⟩:=List.append_eq_nil_iff.1 h.rules;have ha:=Iv h1;have hb:=Iv h2
 have hpl:Plc x:=fun o hm=>by
  obtain ⟨i,hi,rfl⟩:=List.mem_iff_getElem.1 hm;have:=ho.2 i hi;rw [<- Zi hi];exact ⟨this.pick.1,this.drp.1⟩
 have val: ∀l:List (Int×Int),(∀p∈l,NG x.orders.length p=true)->Val x.orders.length l:=fun l h p hp=>by
  grind [NG]
 refine ⟨ho.1,hpl,fun i hi=> ?_,val _ hb,fun p hp=> ?_,val _ ha⟩
 ·have h3:=ho.2 i hi;have h4:=hpl _ (ZQ hi);have h5:=h3.one
  grind [Yv]
 grind [NG]
theorem Vu {l:List Vis} {o:Int} :XR l o=true↔ ∃v∈l,v.order=o:=by simp [XR]
theorem J5 : ∀(l:List Vis) (i:Nat),(YO l).testBit i=true↔ ∃v∈l,v.order.toNat=i:=by
 have key: ∀(l:List Vis) (s i:Nat),(l.foldl (fun s v=>s|||pw v.order.toNat) s).testBit i=true↔s.testBit i=true\/ ∃v∈l,v.order.toNat=i:=by
  intro l
  induction l with
  | nil=>simp
  | cons v l ih =>
   intro s i;rw [List.foldl_cons,ih,Nat.testBit_or,Es,Bool.or_eq_true,decide_eq_true_eq,or_assoc];simp
 grind [YO]
def Inr (x:Inst) (l:List Vis):Prop:= ∀v∈l,0<=v.order/\v.order<x.orders.length
theorem Bq {l:List Vis} (hd:l.Nodup) {k:Nat} (hk:k<l.length):vIx l (nth l k)=(k:Int):=by
 refine DE hk Zb fun j hj=> ?_
 grind [Zi,List.pairwise_iff_getElem]
theorem Oo {l:List Vis} {v:Vis} (h:0<=vIx l v):(vIx l v).toNat<l.length/\nth l (vIx l v).toNat=v:=by
 grind [vIx,DD,List.findIdx?_eq_some_iff_getElem,Zi]
theorem C2 {l:List Vis} {v:Vis} {i:Nat} (h:v∈l.take i): ∃j,j<i/\j<l.length/\nth l j=v:=by
 obtain ⟨j,hj,rfl⟩:=List.mem_iff_getElem.1 h;simp at hj;exact ⟨j,Za,Za,by grind [Zi]⟩
theorem Cs {l:List Vis} {i j:Nat} (h:j<i) (hl:j<l.length):nth l j∈l.take i:=by
 grind [Zi,List.mem_iff_getElem]
theorem Et {l:List Vis} :QP l=false↔l.Nodup:=by
 rw [QP,List.any_eq_false]
 constructor
 ·intro h;rw [List.nodup_iff_pairwise_ne,List.pairwise_iff_getElem];intro i j hi hj hij e;have:=h j (by grind);simp only [decide_eq_true_eq,Qq] at this;refine this ?_;rw [Zi hj,<- e,<- Zi hi];exact Cs hij hi
 ·intro h j hj;simp only [decide_eq_true_eq,Qq]
  grind [C2,Bq]
def Dg (x:Inst) (l:List Vis) (n i:Nat):Bool:=(l.take n).foldl (fun on v=>if v.order=(i:Int) then !v.drp else on) (decide ((nth x.orders i).pick.place<0))
theorem Lb {x:Inst} {l:List Vis} {i:Nat} :Dg x l 0 i=decide ((nth x.orders i).pick.place<0):=by simp [Dg]
theorem J4 {x:Inst} {l:List Vis} {n i:Nat} (h:n<l.length):Dg x l (n+1) i=if (nth l n).order=(i:Int) then !(nth l n).drp else Dg x l n i:=by
 grind [Dg,List.take_succ_eq_append_getElem,Zi]
structure SqOk (x:Inst) (l:List Vis):Prop where
 ne:l≠ []
 inr:Inr x l
 nd:l.Nodup
 pair: ∀v∈l,pairB x.orders l v=true
theorem Wm {x:Inst} {l:List Vis} (h:Xi x l=0):SqOk x l:=by
 unfold Xi at h
 split at h
 ·simp at h
 ·rename_i h1
  split at h
  ·simp at h
  ·split at h
   ·simp at h
   ·rename_i h3
    split at h
    ·simp at h
    ·rename_i h4;refine ⟨fun e=>h1 (.inl (by simp [e])),fun v hv=> ?_,Et.1 (by grind),fun v hv=> ?_⟩
     ·grind [J8]
     grind
structure OwnV (x:Inst) (l:List Vis) (i:Nat):Prop where
 pick:0<=(nth x.orders i).pick.place->(⟨i,false⟩:Vis)∈l
 drp:0<=(nth x.orders i).drp.place->(⟨i,true⟩:Vis)∈l
 both:0<=(nth x.orders i).pick.place->0<=(nth x.orders i).drp.place->vIx l ⟨i,false⟩<vIx l ⟨i,true⟩
 isP:(⟨i,false⟩:Vis)∈l->0<=(nth x.orders i).pick.place
 isD:(⟨i,true⟩:Vis)∈l->0<=(nth x.orders i).drp.place
theorem SqOk.own {x:Inst} {l:List Vis} (h:SqOk x l) {i:Nat} (hi: ∃v∈l,v.order=(i:Int)):OwnV x l i:=by
 obtain ⟨v0,hv0,ho⟩:=hi
 have key: ∀v∈l,v.order=(i:Int)->v∈Yv x.orders i/\Qu l (-1) (Yv x.orders i)=true:=fun v hv hvo=>by
  have:=h.pair v hv;simp only [pairB,hvo,Int.toNat_natCast,Bool.and_eq_true,decide_eq_true_eq] at this;exact ⟨Qq.1 this.1,this.2⟩
 obtain ⟨_,hasc⟩:=key v0 hv0 ho;have mem: ∀b:Bool,(⟨i,b⟩:Vis)∈l->(⟨i,b⟩:Vis)∈Yv x.orders i:=fun b hb=>(key _ hb rfl).1
 have hp:(⟨i,false⟩:Vis)∈Yv x.orders i->0<=(nth x.orders i).pick.place:=fun hm=>by
  unfold Yv at hm
  grind
 have hd:(⟨i,true⟩:Vis)∈Yv x.orders i->0<=(nth x.orders i).drp.place:=fun hm=>by
  unfold Yv at hm
  grind
 have m1: ∀v,-1<vIx l v->v∈l:=fun v hv=>Qq.1 Za;unfold Yv at hasc
 by_cases c1:0<=(nth x.orders i).pick.place<;>by_cases c2:0<=(nth x.orders i).drp.place
 ·simp only [c1,c2,if_true,List.cons_append,List.nil_append,Qu,Bool.and_true,Bool.and_eq_true,decide_eq_true_eq] at hasc;exact ⟨fun _=>m1 _ hasc.1,fun _=>m1 _ Za,fun _ _=>hasc.2,fun _=>c1,fun _=>c2⟩
 ·simp only [c1,c2,if_true,if_false,List.append_nil,Qu,Bool.and_true,decide_eq_true_eq] at hasc;exact ⟨fun _=>m1 _ hasc,fun h=>absurd h c2,fun _ h=>absurd h c2,fun _=>c1,fun hm=>hd (mem _ hm)⟩
 ·simp only [c1,c2,if_true,if_false,List.nil_append,Qu,Bool.and_true,decide_eq_true_eq] at hasc;exact ⟨fun h=>absurd h c1,fun _=>m1 _ hasc,fun h=>absurd h c1,fun hm=>hp (mem _ hm),fun _=>c2⟩
 ·exact ⟨fun h=>absurd h c1,fun h=>absurd h c2,fun h=>absurd h c1,fun hm=>hp (mem _ hm),fun hm=>hd (mem _ hm)⟩
theorem WN {l:List Vis} (hn:l.Nodup) {v:Vis} {n:Nat} :v∈l.take n↔0<=vIx l v/\vIx l v<(n:Int):=by
 constructor
 ·intro h;obtain ⟨j,h1,h2,rfl⟩:=C2 h
  grind [Bq]
 ·intro ⟨h1,h2⟩;obtain ⟨h3,h4⟩:=Oo h1
  grind [Cs]
theorem La {x:Inst} {l:List Vis} (h:SqOk x l) (i:Nat): ∀n,n<=l.length->Dg x l n i=if (⟨i,true⟩:Vis)∈l.take n then false else if (⟨i,false⟩:Vis)∈l.take n then true else decide ((nth x.orders i).pick.place<0)
 | 0,_=>by simp [Dg]
 | n+1,hn=>by
  have hk:n<l.length:=Za
  have hat:=Bq h.nd hk;rw [J4 hk,La h i n Za]
  by_cases c:(nth l n).order=(i:Int)
  ·rw [if_pos c];have ho:=h.own (i:=i) ⟨nth l n,ZQ hk,c⟩
   cases hd:(nth l n).drp with
   | true =>
    have hv:nth l n=⟨i,true⟩:=by rw [<- c,<- hd]
    rw [hv] at hat;have:(⟨i,true⟩:Vis)∈l.take (n+1):=(WN h.nd).2 Za;rw [if_pos this];rfl
   | false =>
    have hv:nth l n=⟨i,false⟩:=by rw [<- c,<- hd]
    rw [hv] at hat;have h1:(⟨i,false⟩:Vis)∈l.take (n+1):=(WN h.nd).2 Za
    have h2: ¬(⟨i,true⟩:Vis)∈l.take (n+1):=fun hm=>by
     have h3:=List.mem_of_mem_take hm;have h4:=(WN h.nd).1 hm;have h5:=ho.both (ho.isP (List.mem_of_mem_take h1)) (ho.isD h3);omega
    rw [if_neg h2,if_pos h1];rfl
  ·rw [if_neg c]
   have e: ∀b:Bool,((⟨i,b⟩:Vis)∈l.take (n+1))=((⟨i,b⟩:Vis)∈l.take n):=fun b=>by
    rw [List.take_succ_eq_append_getElem hk,List.mem_append,<- Zi hk];refine propext ⟨fun hm=>hm.resolve_right fun hm=> ?_,.inl⟩;simp at hm;exact c (by rw [<- hm])
   simp only [e]
theorem TF {x:Inst} {l:List Vis} (h:SqOk x l) {k i:Nat} (hk:k<l.length) (hi:(nth l k).order=(i:Int)):Dg x l k i=(nth l k).drp:=by
 have hat:=Bq h.nd hk;have ho:=h.own (i:=i) ⟨nth l k,ZQ hk,hi⟩;have hm:=ZQ hk;rw [La h i k Za]
 cases hd:(nth l k).drp with
 | true =>
  have hv:nth l k=⟨i,true⟩:=by rw [<- hi,<- hd]
  rw [hv] at hat hm
  have h1: ¬(⟨i,true⟩:Vis)∈l.take k:=fun hm=>by have:=(WN h.nd).1 hm;omega
  rw [if_neg h1]
  by_cases c:0<=(nth x.orders i).pick.place
  ·have h2:=ho.both c (ho.isD hm);have h3:(⟨i,false⟩:Vis)∈l.take k:=(WN h.nd).2 ⟨Qq.2 (ho.pick c),Za⟩
   grind
  grind
 | false =>
  have hv:nth l k=⟨i,false⟩:=by rw [<- hi,<- hd]
  rw [hv] at hat hm;have hp:=ho.isP hm
  have h1: ¬(⟨i,false⟩:Vis)∈l.take k:=fun hm=>by have:=(WN h.nd).1 hm;omega
  grind
theorem Of {f g:Nat->Int} {i:Nat} (h: ∀q,q≠i->f q=g q): ∀n,i<n->((List.range n).map f).sum=((List.range n).map g).sum+(f i-g i):=by
 have same: ∀n,n<=i->((List.range n).map f).sum=((List.range n).map g).sum:=fun n hn=>by
  grind [List.map_congr_left]
 intro n
 induction n with
 | zero=>omega
 | succ n ih =>
  intro hi;simp only [List.range_succ,List.map_append,List.map_cons,List.map_nil,List.sum_append,List.sum_cons,List.sum_nil]
  grind
theorem FG {f:Nat->Int} {b:Int} (hb:0<=b) (h: ∀q,0<=f q/\f q<=b): ∀n:Nat,0<=((List.range n).map f).sum/\((List.range n).map f).sum<=b*n
 | 0=>Zb
 | n+1=>by
  have ih:=FG hb h n
  grind [List.range_succ]
theorem UG {p:Nat->Bool} {f:Nat->Int} : ∀l:List Nat,((l.filter p).map f).sum=(l.map fun i=>if p i=true then f i else 0).sum
 | []=>rfl
 | a::l=>by
  rw [List.filter_cons,List.map_cons,List.sum_cons]
  by_cases h:p a=true
  ·rw [if_pos h,List.map_cons,List.sum_cons,UG l,if_pos h]
  ·rw [if_neg h,UG l,if_neg h];omega
def Kr (x:Inst) (l:List Vis) (n j:Nat):Int:=((List.range x.orders.length).map fun i=>if (Dg x l n i&&XR l i)=true then nth (nth x.orders i).load j else 0).sum
theorem Ax {x:Inst} {l:List Vis} (h:SqOk x l) {k j:Nat} (hk:k<l.length):Kr x l (k+1) j=if (nth l k).drp=true then Kr x l k j-nth (nth x.orders (nth l k).order.toNat).load j else Kr x l k j+nth (nth x.orders (nth l k).order.toNat).load j:=by
 obtain ⟨v1,v2⟩:=h.inr _ (ZQ hk);obtain ⟨i,hi⟩: ∃i:Nat,(nth l k).order=(i:Int):=⟨(nth l k).order.toNat,Za⟩;have hh:XR l (i:Int)=true:=Vu.2 ⟨_,ZQ hk,hi⟩;have h1:=TF h hk hi
 have h2:Dg x l (k+1) i= !(nth l k).drp:=by simp_all [J4]
 unfold Kr
 rw [Of (f:=fun i=>if (Dg x l (k+1) i&&XR l i)=true then nth (nth x.orders i).load j else 0) (g:=fun i=>if (Dg x l k i&&XR l i)=true then nth (nth x.orders i).load j else 0) (i:=i) (fun q hq=>by
  have:Dg x l (k+1) q=Dg x l k q:=by rw [J4 hk,if_neg Za]
  grind) x.orders.length Za]
 grind
def Yx (x:Inst) (l:List Vis) (n:Nat):List Int:=(List.range (dimsOf x.types).toNat).map fun j=>Kr x l n j
def Jo (a b:List Int):List Int:=(List.range a.length).map fun j=>nth a j+nth b j
def Oe (a b:List Int):List Int:=(List.range a.length).map fun j=>nth a j-nth b j
theorem BF {x:Inst} {l:List Vis} {n:Nat} :(Yx x l n).length=(dimsOf x.types).toNat:=by simp [Yx]
theorem WL {f:Nat->Int} {n j:Nat} (h:j<n):nth ((List.range n).map f) j=f j:=by
 grind [Zi]
theorem FU {x:Inst} {l:List Vis} (h:SqOk x l) {k:Nat} (hk:k<l.length):Yx x l (k+1)=if (nth l k).drp=true then Oe (Yx x l k) (nth x.orders (nth l k).order.toNat).load else Jo (Yx x l k) (nth x.orders (nth l k).order.toNat).load:=by
 have key: ∀g:Nat->Int,(∀j,j<(dimsOf x.types).toNat->Kr x l (k+1) j=g j)->Yx x l (k+1)=(List.range (dimsOf x.types).toNat).map g:=fun g hg =>
  List.map_congr_left fun j hj=>hg j (List.mem_range.1 hj)
 split
 ·simp_all [Oe,Ax,Yx,WL]
 simp_all [Jo,Ax,Yx,WL]
def Zw (p:Pln):AM.Obj:= .cells [.p (.list p.routes_c (p.routes.map eRte)),.p (.list p.unserved_c (p.unserved.map eI))]
def Vf (r:Rte):Prop:=r.visits.length<=1048576/\r.rests.length<=1048576
def Vg {α:Type} [Inhabited α] (l:List α) (j:Nat):List α:=(l.set j (nth l (j-1))).set (j-1) (nth l j)
theorem Yd {α:Type} [Inhabited α] {l:List α} {j:Nat} :(Vg l j).length=l.length:=by simp [Vg]
theorem L9 {α:Type} [Inhabited α] {l:List α} {j q:Nat} (hj:0<j) (h:j<l.length) (hq:q<l.length):nth (Vg l j) q=if q=j then nth l (j-1) else if q=j-1 then nth l j else nth l q:=by
 rw [Zi (by rw [Yd];exact hq)];simp only [Vg,List.getElem_set]
 by_cases c1:q=j
 ·grind
 ·rw [if_neg c1]
  by_cases c2:q=j-1
  ·grind
  ·rw [if_neg (fun e=>c2 e.symm),if_neg c2,if_neg (fun e=>c1 e.symm),Zi hq]
theorem QO {α:Type} [Inhabited α] {l:List α} {j:Nat} (h:j<l.length):(Vg l j).Perm l:=by
 grind [Vg,Zi,List.set_set_perm]
def UR {α:Type} [Inhabited α] (lt:α->α->Bool):Nat->List α->List α
 | 0,m=>m
 | j+1,m=>if lt (nth m (j+1)) (nth m j)=true then UR lt j (Vg m (j+1)) else m
def Xl {α:Type} [Inhabited α] (lt:α->α->Bool):Nat->List α->List α
 | 0,l=>l
 | i+1,l=>UR lt i (Xl lt i l)
theorem B6 {α:Type} [Inhabited α] {lt:α->α->Bool} : ∀(j:Nat) (m:List α),j<m.length->(UR lt j m).Perm m
 | 0,_,_=> .refl _
 | j+1,m,h=>by
  rw [UR]
  split
  ·exact (B6 j _ (by rw [Yd];omega)).trans (QO h)
  ·exact .refl _
theorem YX {α:Type} [Inhabited α] {lt:α->α->Bool} {l:List α} : ∀i,i<=l.length->(Xl lt i l).Perm l
 | 0,_=> .refl _
 | i+1,h=>by
  have ih:=YX (lt:=lt) (l:=l) i Za;exact (B6 i _ (by rw [ih.length_eq];omega)).trans ih
theorem Yu {α:Type} [Inhabited α] {lt:α->α->Bool} {l:List α} {i:Nat} (h:i<=l.length):(Xl lt i l).length=l.length:=(YX i h).length_eq
structure LtOk {α:Type} (lt:α->α->Bool):Prop where
 asym: ∀a b,lt a b=true->lt b a=false
 ntr: ∀a b c,lt b a=false->lt c b=false->lt c a=false
theorem EZ {α:Type} [Inhabited α] {lt:α->α->Bool} (h:LtOk lt) {i:Nat} : ∀(j:Nat) (m:List α),j<=i->i<m.length->(∀a b,a<b->b<=i->b≠j->lt (nth m b) (nth m a)=false)-> ∀a b,a<b->b<=i->lt (nth (UR lt j m) b) (nth (UR lt j m) a)=false
 | 0,m,_,_,hs,a,b,h1,h2=>hs a b h1 h2 Za
 | j+1,m,hj,hi,hs,a,b,h1,h2=>by
  rw [UR]
  split
  ·rename_i hc;refine EZ h j _ Za (by rw [Yd];exact hi) (fun a b h4 h5 h6=> ?_) a b h1 h2;have hsw:=fun q=>L9 (l:=m) (j:=j+1) (q:=q) Za Za;simp only [Nat.add_sub_cancel] at hsw;rw [hsw b Za,hsw a Za]
   by_cases c1:b=j+1
   ·rw [if_pos c1];subst c1;rw [if_neg Za]
    by_cases c2:a=j
    ·rw [if_pos c2];exact h.asym _ _ hc
    grind
   grind
  ·rename_i hc
   have hc:lt (nth m (j+1)) (nth m j)=false:=by grind
   by_cases c1:b=j+1
   ·subst c1
    by_cases c2:a=j
    ·grind
    ·exact h.ntr _ _ _ (hs a j Za Za Za) hc
   grind
theorem Km {α:Type} [Inhabited α] {lt:α->α->Bool} (h:LtOk lt) {l:List α} : ∀i,i<=l.length-> ∀a b,a<b->b<i->lt (nth (Xl lt i l) b) (nth (Xl lt i l) a)=false
 | 0,_,a,b,_,h2=>Za
 | i+1,hi,a,b,h1,h2=>by
  have ih:=Km h (l:=l) i Za;exact EZ h i _ (Nat.le_refl _) (by rw [Yu Za];omega) (fun a b h4 h5 h6=>ih a b h4 Za) a b h1 Za
theorem FD {α:Type} [Inhabited α] {lt:α->α->Bool} {l:List α} (hs: ∀a b,a<b->b<l.length->lt (nth l b) (nth l a)=false): ∀i,i<=l.length->Xl lt i l=l
 | 0,_=>rfl
 | i+1,h=>by
  rw [Xl,FD hs i Za]
  cases i with
  | zero=>rfl
  | succ i=>rw [UR,if_neg (by grind)]
def Wu (l:List Vis):Int:=match l with
 | []=> -1
 | v::m=>m.foldl (fun n w=>if w.order<n then w.order else n) v.order
def altR (a b:Rte):Bool:=decide (a.typ<b.typ)||(decide (a.typ=b.typ)&&decide (Wu a.visits<Wu b.visits))
theorem Mv : LtOk altR:=by
 refine ⟨fun a b h=> ?_,fun a b c h1 h2=> ?_⟩
 ·simp only [altR,Bool.or_eq_true,Bool.and_eq_true,decide_eq_true_eq,Bool.or_eq_false_iff,Bool.and_eq_false_iff,decide_eq_false_iff_not] at *
  omega
 grind [altR]
def QK (l:List Pt) (t:Int) (i:Nat):Bool:=decide ((nth l i).t<=t)&&decide (t<(nth l (i+1)).t)
def Ej (p q:Pt) (t:Int):Int:=p.a+((t-p.t)*(q.a-p.a)+q.t-p.t-1) / (q.t-p.t)
def Us (l:List Pt) (t:Int):Int:=match (List.range (l.length-1)).find? (QK l t) with
 | some i=>Ej (nth l i) (nth l (i+1)) t
 | none=>if (nth l 0).t<t then t+(nth l (l.length-1)).a-(nth l (l.length-1)).t else t+(nth l 0).a-(nth l 0).t
theorem EJ {l:List Pt} {t:Int} {i:Nat} (hi:i+1<l.length) (hno: ∀j,j<i->QK l t j=false) (h:QK l t i=true):Us l t=Ej (nth l i) (nth l (i+1)) t:=by
 have:(List.range (l.length-1)).find? (QK l t)=some i:=by
  grind [List.find?_eq_some_iff_getElem]
 rw [Us,this]
theorem AJ {l:List Pt} {t:Int} (hno: ∀j,j+1<l.length->QK l t j=false):Us l t=if (nth l 0).t<t then t+(nth l (l.length-1)).a-(nth l (l.length-1)).t else t+(nth l 0).a-(nth l 0).t:=by
 grind [Us]
theorem CT {p q:Pt} {t:Int} (h1:p.t<=t) (h2:t<q.t) (hp:0<=p.t) (hq:q.t<=4096) (ha:p.a<=q.a) (hpa:0<=p.a) (hqa:q.a<=8192):0<=(t-p.t)*(q.a-p.a)/\(t-p.t)*(q.a-p.a)<=33554432:=by
 refine ⟨Int.mul_nonneg Za Za,?_⟩;have:(t-p.t)*(q.a-p.a)<=4096*8192:=Int.mul_le_mul Za Za Za Za;omega
theorem Zu {α:Type} [Inhabited α] {l:List α} {i:Nat} (h:i<l.length):nth l i∈l:=by grind [Zi]
def PB (a:Arc):Prop:=Ya a.travel/\a.slow.length<=16/\ ∀p∈a.slow,0<=p.t/\p.t<=4096/\0<=p.a/\p.a<=4096
def Un (l:List Pt) (t:Int) (k:Nat):Int:=(l.take k).foldl (fun s p=>if p.t<=t then s+p.a else s) 0
def Hw (a:Arc) (t:Int):Int:=Us a.travel t+Un a.slow t a.slow.length
theorem Kl {l:List Pt} {t:Int} {k:Nat} (h:k<l.length):Un l t (k+1)=if (nth l k).t<=t then Un l t k+(nth l k).a else Un l t k:=by
 grind [Un,List.take_succ_eq_append_getElem,Zi]
theorem QM {l:List Pt} {t:Int} (hl: ∀p∈l,0<=p.a/\p.a<=4096): ∀k,k<=l.length->0<=Un l t k/\Un l t k<=4096*k
 | 0,_=>by simp [Un]
 | k+1,h=>by
  have ih:=QM (t:=t) hl k Za
  grind [Zu,Kl]
theorem BN {l:List Pt} {t:Int} (hl:Ya l) (ht:0<=t/\t<=1073741824):0<=Us l t/\Us l t<=1107304448:=by
 obtain ⟨⟨hl1,hl2⟩,hpt⟩:=hl;unfold Us
 split
 ·rename_i i hi;have hm:=List.mem_of_find?_eq_some hi;have hs:=List.find?_some hi;simp at hm;simp only [QK,Bool.and_eq_true,decide_eq_true_eq] at hs;obtain ⟨⟨p1,p2,p3,p4⟩,_⟩:=hpt i Za;obtain ⟨⟨q1,q2,q3,q4⟩,q5⟩:=hpt (i+1) Za;obtain ⟨r1,r2⟩:=q5 Za;rw [Nat.add_sub_cancel] at r1 r2;obtain ⟨s1,s2⟩:=CT hs.1 hs.2 p1 q2 r2 Za Za;have d1:0<=((t-(nth l i).t)*((nth l (i+1)).a-(nth l i).a)+(nth l (i+1)).t-(nth l i).t-1) / ((nth l (i+1)).t-(nth l i).t):=Int.ediv_nonneg Za Za;have d2:((t-(nth l i).t)*((nth l (i+1)).a-(nth l i).a)+(nth l (i+1)).t-(nth l i).t-1) / ((nth l (i+1)).t-(nth l i).t)<=33558528:=Int.le_trans (Int.ediv_le_self _ Za) Za
  unfold Ej;omega
 ·obtain ⟨⟨p1,p2,p3,p4⟩,_⟩:=hpt 0 Za;obtain ⟨⟨q1,q2,q3,q4⟩,_⟩:=hpt (l.length-1) Za;omega
theorem FJ {g:FuncId} {args:List V} {a b c:PV} {H:List AM.Obj} {K:V->List AM.Obj->Prop} (h:ACalls Tryz.prog g args [] fun x H'=>x= .tup [.p a,.p b,.p c]/\H'= []) (k:K (.tup [.p a,.p b,.p c]) H) (ha:ZE 0 args=true:=by rfl):ACalls Tryz.prog g args H K :=
 (h.behind ha H).mono fun x H' hq=>by
  obtain ⟨y,H1,⟨rfl,rfl⟩,rfl,rfl⟩:=hq
  grind [Vb,Wf]
theorem X3 {g:FuncId} {args:List V} {a b:PV} {H:List AM.Obj} {K:V->List AM.Obj->Prop} (h:ACalls Tryz.prog g args [] fun x H'=>x= .tup [.p a,.p b]/\H'= []) (k:K (.tup [.p a,.p b]) H) (ha:ZE 0 args=true:=by rfl):ACalls Tryz.prog g args H K :=
 (h.behind ha H).mono fun x H' hq=>by
  obtain ⟨y,H1,⟨rfl,rfl⟩,rfl,rfl⟩:=hq
  grind [Vb,Wf]
def Kb (n:Net) (p:Int):Bool:=decide (0<=p)&&decide (p<(n.places.length:Int))
def W7 (pr f t:Int) (a:Arc):Bool:=decide (a.src=f)&&decide (a.dst=t)&&decide (a.prof=pr)
def V1 : Arc:=⟨0,0,0,0,true,[],true,[]⟩
def YE (n:Net) (pr f t:Int):Arc×Bool:=match n.arcs.find? (W7 pr f t) with | some a=>(a,true) | none=>(V1,false)
theorem Ih {n:Net} {pr f t:Int} {k:Nat} (hk:k<n.arcs.length) (hno: ∀j,j<k->W7 pr f t (nth n.arcs j)=false) (h:W7 pr f t (nth n.arcs k)=true):YE n pr f t=(nth n.arcs k,true):=by
 have:n.arcs.find? (W7 pr f t)=some (nth n.arcs k):=by
  grind [List.find?_eq_some_iff_getElem,Zi]
 rw [YE,this]
theorem Ii {n:Net} {pr f t:Int} (hno: ∀j,j<n.arcs.length->W7 pr f t (nth n.arcs j)=false):YE n pr f t=(V1,false):=by
 have:n.arcs.find? (W7 pr f t)=none:=by
  rw [List.find?_eq_none];intro a ha;obtain ⟨j,hj,rfl⟩:=List.mem_iff_getElem.1 ha
  grind [Zi]
 rw [YE,this]
def Bv (n:Net) (pr f t τ:Int):Int×Int×Int :=
 if (Kb n f&&Kb n t)=false then (0,0,11) else if f=t then (τ,0,0) else if (YE n pr f t).2=true then (Hw (YE n pr f t).1 τ,(YE n pr f t).1.miles,0) else (0,0,12)
def netR (n:Net):Prop:=n.places.length<=1048576/\n.arcs.length<=1048576/\ ∀a∈n.arcs,PB a
theorem K3 {n:Net} {pr f t:Int} (h:(YE n pr f t).2=true):(YE n pr f t).1∈n.arcs:=by
 grind [YE]
theorem EW {n:Nat} (h:n<10):dec n= [UInt8.ofNat (48+n)]:=by rw [dec,dif_pos h]
theorem MZ {n:Nat} (h:10<=n) (h2:n<100):dec n= [UInt8.ofNat (48+n / 10),UInt8.ofNat (48+n%10)]:=by
 rw [dec,dif_neg Za,EW Za];rfl
theorem BO {s:List UInt8} {k k':IntKind} {a b:Int} (h:0<=a/\a<=b/\b<=(s.length:Int)):Qv (some .string) s (.p (.int k a)) (.p (.int k' b))=some (.p (.str ((s.take b.toNat).drop a.toNat))):=by
 simp_all [Qv]
def digT : List UInt8:=(List.range 36).map fun i=>UInt8.ofNat (if i<10 then 48+i else 87+i)
def smalT : List UInt8:=(List.range 100).flatMap fun i=> [UInt8.ofNat (48+i / 10),UInt8.ofNat (48+i%10)]
theorem M0 : ∀n,n<10->(digT.take (n+1)).drop n= [UInt8.ofNat (48+n)]:=by decide
theorem L3 : ∀n,n<100->(smalT.take (2*n+2)).drop (2*n)= [UInt8.ofNat (48+n / 10),UInt8.ofNat (48+n%10)]:=by decide+kernel
theorem Oa (n:Nat) (hn:n<100):PC 202 [.p (.int .i64 (n:Int))] (.str (dec n)):=by
 refine Zc Tryz.func202 rfl SS ?_;simp (disch:=omega) only [Tryz.f202,go_sem,seval];refine cD ?_ ?_<;>intro h<;>simp (disch:=omega) only [Sh.out h,go_sem,seval]
 ·rw [EW Za,BO (by simp;omega)]
  have e1:((n:Int)+1).toNat=n+1:=Za
  have e2:((n:Int)).toNat=n:=Za
  rw [e1,e2];refine (congrArg (fun z=>KD (some (V.p (PV.str z))) _) (M0 n Za)).mpr ?_;simp (disch:=omega) only [go_sem,seval]
 ·rw [MZ Za hn,BO (by simp;omega)]
  have e1:((n:Int)*2+2).toNat=2*n+2:=Za
  have e2:((n:Int)*2).toNat=2*n:=Za
  rw [e1,e2];refine (congrArg (fun z=>KD (some (V.p (PV.str z))) _) (L3 n Za)).mpr ?_;simp (disch:=omega) only [go_sem,seval]
theorem Ix (n:Nat) (hn:n<100):PC 167 [.p (.int .i64 (n:Int)),.p (.int .i64 10)] (.str (dec n)):=by
 refine Zc Tryz.func167 rfl Sv ?_
 have h0:(0:Int)<=(n:Int):=Za
 have h1:(n:Int)<100:=Za
 simp (disch:=omega) only [Tryz.f167,h0,h1,go_sem,seval];refine (Oa n hn).use ?_;simp (disch:=omega) only [go_sem,seval]
theorem Nr (n:Nat) (hn:n<100):PC 122 [.p (.int .i64 (n:Int))] (.str (dec n)):=by
 refine Zc Tryz.func122 rfl R2 ?_;simp (disch:=omega) only [Tryz.f122,go_sem,seval];refine (Ix n hn).use ?_;simp (disch:=omega) only [go_sem,seval]
theorem Tu (n:Nat) (hn:n<100):PC 89 [.p (.int .i64 (n:Int))] (.str (dec n)):=by
 refine Zc Tryz.func89 rfl OZ ?_;simp (disch:=omega) only [Tryz.f89,go_sem,seval];refine (Nr n hn).use ?_;simp (disch:=omega) only [go_sem,seval]
theorem C8 (n a b:Int):PC 249 [.p (.int .i64 n),.p (.int .i64 a),.p (.int .i64 b)] (.bool (decide (a<=n)&&decide (n<=b))):=by
 refine Zc Tryz.func249 rfl Tm ?_;simp (disch:=omega) only [Tryz.f249,go_sem,seval]
 repeat' (first | (refine gT ?_ ?_<;>intro hq<;>simp (disch:=omega) only [Sh.out hq,go_sem,seval,↓reduceIte]) | (refine YZ (fun hq=> ?_) (fun hq=> ?_)<;>(try simp only [decide_eq_true_eq,decide_eq_false_iff_not,Classical.not_not] at hq)<;>simp (disch:=omega) only [Sh.out hq,go_sem,seval]) | (refine WS (fun hq=> ?_) (fun hq=> ?_)<;>(try simp only [decide_eq_true_eq,decide_eq_false_iff_not,Classical.not_not] at hq)<;>simp (disch:=omega) only [Sh.out hq,go_sem,seval]))
 all_goals (simp;first | done | omega)
theorem Li (l:List Pt) (c:Bool) (hl:Ya l):PC 252 [.p (.list c (l.map AX))] (.list true []):=by
 obtain ⟨⟨hl1,hl2⟩,hpt⟩:=hl;refine Zc Tryz.func252 rfl Tq ?_
 have e1: ¬(l.length:Int)=0:=Za
 have e2: ¬(16:Int)<(l.length:Int):=Za
 simp (disch:=omega) only [Tryz.f252,e1,e2,go_sem,seval];refine Zj [0,19,20] (fun k:Nat=> [(3,.p (.list true [])),(21,.p (.int .i64 k))]) (fun _=> []) (fun k=>k<=l.length) (fun k=>l.length-k) 0 Zb (Weak.mk ?_) ?_
 ·simp (disch:=omega) only [go_sem,seval,↓reduceIte]
 ·intro k hk;refine Zf ?_;refine cD ?_ ?_<;>intro h<;>simp (disch:=omega) only [Sh.out h,go_sem,seval,↓reduceIte]
  ·have hk2:k<l.length:=Za
   obtain ⟨⟨p1,p2,p3,p4⟩,q⟩:=hpt k hk2;refine (Tu k Za).use (Zf ?_);refine (C8 (nth l k).t 0 4096).use (Zf ?_);simp (disch:=omega) only [p1,p2,go_sem,seval];refine gF ?_ ?_<;>intro h3<;>simp (disch:=omega) only [Sh.out h3,go_sem,seval,↓reduceIte]
   ·omega
   ·refine cD ?_ ?_<;>intro h4<;>simp (disch:=omega) only [Sh.out h4,go_sem,seval,↓reduceIte]
    ·omega
    ·refine Xs (Zf ?_);refine gT ?_ ?_<;>intro h5<;>simp (disch:=omega) only [Sh.out h5,go_sem,seval,↓reduceIte]
     ·obtain ⟨r1,r2⟩:=q Za;refine gF ?_ ?_<;>intro h6<;>simp (disch:=omega) only [Sh.out h6,go_sem,seval,↓reduceIte]
      ·omega
      ·refine cD ?_ ?_<;>intro h7<;>simp (disch:=omega) only [Sh.out h7,go_sem,seval,↓reduceIte]
       ·omega
       ·exact ⟨k+1,Za,Za,wk⟩
     ·exact ⟨k+1,Za,Za,wk⟩
theorem ES (p:Pt) (t:Int) (h:0<=p.t/\p.t<=4096) (ht:0<=t/\t<=1073741824):PC 254 [.p (AX p),.p (.int .i64 t)] (.int .i64 (p.t-t)):=by
 refine Zc Tryz.func254 rfl Ts ?_;simp (disch:=omega) only [Tryz.f254,go_sem,seval,↓reduceIte]
theorem N5 (l:List Pt) (c:Bool) (hl:Ya l):PC 250 [.p (.list c (l.map AX))] (.bool true):=by
 refine Zc Tryz.func250 rfl Tn ?_;simp (disch:=omega) only [Tryz.f250,go_sem,seval];refine (Li l c hl).use ?_;simp (disch:=omega) only [go_sem,seval]
structure PosT (l:List Pt) (t:Int) (i:Nat):Prop where
 le:i<=l.length
 lo: ∀j,j<i->(nth l j).t<t
 hi: ∀j,i<=j->j<l.length->t<=(nth l j).t
theorem jF (l:List Pt) (c:Bool) (t:Int) (i:Nat) (hl:Ya l) (ht:0<=t/\t<=1073741824) (hi:PosT l t i):PT 253 [.p (.list c (l.map AX)),.p (.int .i64 t),.fn (.func 254) [] []] [.p (.int .i64 (i:Int)),.p (.bool (decide (i<l.length)&&decide ((nth l i).t=t)))]:=by
 obtain ⟨⟨hl1,hl2⟩,hpt⟩:=hl;obtain ⟨hi1,hi2,hi3⟩:=hi;refine Zg [] Tryz.func253 rfl Tr ?_;simp (disch:=omega) only [Tryz.f253,go_sem,seval];refine Zj [0,1,2,8] (fun q:Nat×Nat=> [(9,.p (.int .i64 q.1)),(10,.p (.int .i64 q.2))]) (fun _=> []) (fun q=>q.1<=i/\i<=q.2/\q.2<=l.length) (fun q=>q.2-q.1) (0,l.length) (by simp;omega) (Weak.mk ?_) ?_
 ·simp (disch:=omega) only [go_sem,seval,↓reduceIte]
 ·rintro ⟨a,b⟩ ⟨h1,h2,h3⟩;simp only at h1 h2 h3;refine Zf ?_;refine cD ?_ ?_<;>intro h<;>simp (disch:=omega) only [Sh.out h,go_sem,seval,↓reduceIte]
  ·have hm:(a+b) / 2<l.length:=Za
   obtain ⟨⟨p1,p2,p3,p4⟩,q⟩:=hpt _ hm
   have hs:((a:Int)+(b:Int)).fdiv (2^min 1 64)=(((a+b) / 2:Nat):Int):=by
    grind
   have em:((((a+b) / 2:Nat)):Int).toNat=(a+b) / 2:=Za
   have hnb:((a+b) / 2<i)↔(nth l ((a+b) / 2)).t-t<0:=by
    grind
   rw [hs];refine Zf ?_;refine (ES (nth l ((a+b) / 2)) t ⟨p1,p2⟩ ht).use (Zf ?_);refine cD ?_ ?_<;>intro h4<;>simp (disch:=omega) only [Sh.out h4,go_sem,seval,↓reduceIte]
   ·exact ⟨((a+b) / 2+1,b),⟨Za,h2,h3⟩,Za,wk⟩
   ·exact ⟨(a,(a+b) / 2),⟨h1,Za,Za⟩,Za,wk⟩
  ·have:a=i:=Za
   subst this;refine gT ?_ ?_<;>intro h4<;>simp (disch:=omega) only [Sh.out h4,go_sem,seval,↓reduceIte]
   ·have hm:a<l.length:=Za
    obtain ⟨⟨p1,p2,p3,p4⟩,q⟩:=hpt _ hm;refine (ES (nth l a) t ⟨p1,p2⟩ ht).use (Zf ?_);have e5:((nth l a).t-t=0)=((nth l a).t=t):=propext Za;exact we (by simp (disch:=omega) only [e5,hm,go_sem,seval])
   ·have hm: ¬a<l.length:=Za
    exact we (by simp (disch:=omega) only [hm,go_sem,seval])
theorem Qa {l:List Pt} (hl:Ya l) {k:Nat} (hk:k<l.length): ∀j,j<k->(nth l j).t<(nth l k).t:=by
 obtain ⟨_,hpt⟩:=hl
 induction k with
 | zero=>omega
 | succ k ih =>
  intro j hj;obtain ⟨_,q⟩:=hpt (k+1) hk
  grind
theorem NY {l:List Pt} (hl:Ya l) (t:Int): ∃i,PosT l t i:=by
 have: ∀n,n<=l.length-> ∃i,i<=n/\(∀j,j<i->(nth l j).t<t)/\(i<n->t<=(nth l i).t):=by
  intro n
  induction n with
  | zero=>simp
  | succ n ih =>
   grind
 obtain ⟨i,h1,h2,h3⟩:=this l.length (Nat.le_refl _);refine ⟨i,h1,h2,fun j hj hjl=> ?_⟩;rcases Nat.lt_or_eq_of_le hj with h | h
 ·have:=Qa hl hjl i h;omega
 grind
theorem MB {l:List Pt} {t:Int} {i:Nat} (hl:Ya l) (h:PosT l t i) (hi:i<l.length) (e:(nth l i).t=t):Us l t=(nth l i).a:=by
 by_cases g:i+1<l.length
 ·have m:=Qa hl g i Za;rw [EJ g (fun j hj=> ?_) (by grind [QK]),Ej]
  ·rw [e,Int.sub_self,Int.zero_mul,Int.zero_add];rw [Int.ediv_eq_zero_of_lt Za Za];omega
  ·have:(nth l (j+1)).t<=t:=by
    rcases Nat.lt_or_eq_of_le (show j+1<=i by omega) with h1 | h1
    ·have:=h.lo _ h1;omega
    grind
   simp [QK];omega
 ·have hi1:i=l.length-1:=Za
  rw [AJ (fun j hj=> ?_)]
  ·split
   ·grind
   ·have:i=0:=by
     by_cases g2:i=0
     ·exact g2
     ·have:=h.lo 0 Za;omega
    grind
  ·have:(nth l (j+1)).t<=t:=by
    rcases Nat.lt_or_eq_of_le (show j+1<=i by omega) with h1 | h1
    ·have:=h.lo _ h1;omega
    grind
   simp [QK];omega
theorem MD {l:List Pt} {t:Int} (hl:Ya l) (h:PosT l t 0) (e: ¬(nth l 0).t=t):Us l t=t+(nth l 0).a-(nth l 0).t:=by
 have h0:=h.hi 0 (Nat.le_refl _) hl.1.1;rw [AJ (fun j hj=> ?_),if_neg Za]
 have:t<(nth l j).t:=by
  by_cases g:j=0
  ·grind
  ·have:=Qa hl (show j<l.length by omega) 0 Za;omega
 simp [QK];omega
theorem MC {l:List Pt} {t:Int} (h:PosT l t l.length) (hl:0<l.length):Us l t=t+(nth l (l.length-1)).a-(nth l (l.length-1)).t:=by
 rw [AJ (fun j hj=> ?_),if_pos (h.lo 0 hl)];have:=h.lo (j+1) hj;simp [QK];omega
theorem Hx {l:List Pt} {t:Int} {i:Nat} (h:PosT l t i) (h0:0<i) (hi:i<l.length) (e: ¬(nth l i).t=t):Us l t=Ej (nth l (i-1)) (nth l i) t:=by
 have e1:i-1+1=i:=Za
 have h1:=h.lo (i-1) Za;have h2:=h.hi i (Nat.le_refl _) hi;have:=EJ (l:=l) (t:=t) (i:=i-1) Za (fun j hj=>by have:=h.lo (j+1) Za;simp [QK];omega) (by grind [QK]);rw [this,e1]
theorem Au {p q:Pt} {t:Int} (h1:p.t<=t) (h2:t<q.t) (hp:0<=p.t) (hq:q.t<=4096) (ha:p.a<=q.a) (hpa:0<=p.a) (hqa:q.a<=8192) :
  IntKind.i64.wrap (p.a+IntKind.i64.wrap ((IntKind.i64.wrap (IntKind.i64.wrap (IntKind.i64.wrap ((t-p.t)*(q.a-p.a))+(q.t-p.t))-1)).tdiv (q.t-p.t)))=Ej p q t:=by
 have hm:=CT h1 h2 hp hq ha hpa hqa;unfold Ej;generalize hM:(t-p.t)*(q.a-p.a)=m at hm
 have hd:0<=(m+(q.t-p.t)-1) / (q.t-p.t)/\(m+(q.t-p.t)-1) / (q.t-p.t)<=m+(q.t-p.t)-1:=by
  refine ⟨Int.ediv_nonneg Za Za,Int.ediv_le_self _ Za⟩
 rw [IntWalk.i64_in m Za,IntWalk.i64_in (m+(q.t-p.t)) Za,IntWalk.i64_in (m+(q.t-p.t)-1) Za,Int.tdiv_eq_ediv_of_nonneg Za,IntWalk.i64_in ((m+(q.t-p.t)-1) / (q.t-p.t)) Za,IntWalk.i64_in _ Za]
 congr 2
 omega
theorem DX (l:List Pt) (c:Bool) (t:Int) (hl:Ya l) (ht:0<=t/\t<=1073741824):PC 251 [.p (.list c (l.map AX)),.p (.int .i64 t)] (.int .i64 (Us l t)):=by
 obtain ⟨i,hi⟩:=NY hl t;have hl':=hl;obtain ⟨⟨hl1,hl2⟩,hpt⟩:=hl';refine Zc Tryz.func251 rfl To ?_;simp (disch:=omega) only [Tryz.f251,go_sem,seval];refine X3 (jF l c t i hl ht hi) (Zf ?_);obtain ⟨i1,i2,i3⟩:=id hi;refine cD ?_ ?_<;>intro h<;>simp (disch:=omega) only [Sh.out h,go_sem,seval,↓reduceIte]
 ·grind [MB]
 ·refine cD ?_ ?_<;>intro h0<;>simp (disch:=omega) only [Sh.out h0,go_sem,seval]
  ·have:i=0:=Za
   subst this;obtain ⟨p1,p2⟩:=hpt 0 Za;rw [MD hl hi (fun g=>h ⟨Za,g⟩)];refine Xs ?_;simp (disch:=omega) only [go_sem,seval,↓reduceIte]
  ·refine cD ?_ ?_<;>intro h1<;>simp (disch:=omega) only [Sh.out h1,go_sem,seval]
   ·have:i=l.length:=Za
    subst this;obtain ⟨p1,p2⟩:=hpt (l.length-1) Za;rw [MC hi Za]
    have e1:((l.length:Int)-1).toNat=l.length-1:=Za
    refine Xs ?_;simp (disch:=omega) only [go_sem,seval,↓reduceIte]
   ·have g1:i<l.length:=Za
    rw [Hx hi Za g1 (fun g=>h ⟨g1,g⟩)];have g2:=Qa hl g1 (i-1) Za;obtain ⟨p1,p2⟩:=hpt i g1;obtain ⟨p3,p4⟩:=hpt (i-1) Za
    have e1:((i:Int)-1).toNat=i-1:=Za
    have q1:=i2 (i-1) Za;have q2:=i3 i (Nat.le_refl _) g1;have q3: ¬(nth l i).t=t:=fun g=>h ⟨g1,g⟩;have q4:=p2 Za;refine Y1 [9,10,11] 12 mixed Ze Ze Ze Zb ?_;simp (disch:=omega) only [e1,go_sem,seval];refine VU 9 10 _ _ _ _ Ze (by refine Zf ?_;exact ⟨rfl,rfl⟩) (by refine Zf ?_;exact ⟨rfl,rfl⟩) ?_ ?_
    ·refine Z8 10 _ _ Ze (by refine Zf ?_;exact ⟨rfl,rfl⟩) (Z8 11 _ _ Ze (by refine Zf ?_;exact ⟨rfl,rfl⟩) (YM ?_));refine Zf ?_;refine Xs (Zf ?_);exact congrArg (fun z=>V.p (PV.int IntKind.i64 z)) (Au Za Za Za Za Za Za Za)
    ·refine Z8 9 _ _ Ze (by refine Zf ?_;exact ⟨rfl,rfl⟩) (Z8 11 _ _ Ze (by refine Zf ?_;exact ⟨rfl,rfl⟩) (YM ?_));refine Zf ?_;refine Xs (Zf ?_);exact congrArg (fun z=>V.p (PV.int IntKind.i64 z)) (Au Za Za Za Za Za Za Za)
theorem GK (l:List Pt) (c:Bool) (t:Int) (hl:Ya l) (ht:0<=t/\t<=1073741824):PC 248 [.p (.list c (l.map AX)),.p (.int .i64 t)] (.int .i64 (Us l t)):=by
 refine Zc Tryz.func248 rfl Tl ?_;simp (disch:=omega) only [Tryz.f248,go_sem,seval];refine (C8 t 0 1073741824).use (Zf ?_);simp (disch:=omega) only [ht,go_sem,seval];refine (N5 l c hl).use (Zf ?_);refine (DX l c t hl ht).use ?_;simp (disch:=omega) only [go_sem,seval]
theorem CB (n:Net) (p:Int) (hn:n.places.length<=1048576):PC 244 [.p (JE n),.p (.int .i64 p)] (.bool (Kb n p)):=by
 refine Zc Tryz.func244 rfl Tg ?_;simp (disch:=omega) only [Tryz.f244,go_sem,seval];refine gT ?_ ?_<;>intro h<;>simp (disch:=omega) only [Sh.out h,go_sem,seval,↓reduceIte]
 ·simp [Kb,h]
 ·simp [Kb,h]
theorem Ot (a:Arc):PC 247 [.p (Vd a)] (.agg [.int .i64 a.src,.int .i64 a.dst,.int .i64 a.prof]):=by
 refine Zc Tryz.func247 rfl Tj ?_;simp (disch:=omega) only [Tryz.f247,go_sem,seval,↓reduceIte]
theorem NO (a:Arc) (t:Int) (ha:PB a) (ht:0<=t/\t<=1073741824):PC 246 [.p (Vd a),.p (.int .i64 t)] (.int .i64 (Hw a t)):=by
 obtain ⟨h1,h2,h3⟩:=ha;have hr:=BN h1 ht;have hs:=QM (t:=t) (fun p hp=>(h3 p hp).2.2);refine Zc Tryz.func246 rfl Ti ?_;simp (disch:=omega) only [Tryz.f246,go_sem,seval];refine (GK a.travel a.travel_c t h1 ht).use (Zf ?_);refine Zj [1,13,14] (fun k:Nat=> [(5,.p (.int .i64 (Us a.travel t+Un a.slow t k))),(15,.p (.int .i64 k))]) (fun _=> [Yy a]) (fun k=>k<=a.slow.length) (fun k=>a.slow.length-k) 0 Zb (Weak.mk ?_) ?_
 ·simp (disch:=omega) only [Yy,Un,List.foldl_nil,go_sem,seval];simp
 ·intro k hk;have hsk:=hs k hk;simp (disch:=omega) only [Yy,go_sem,seval];refine cD ?_ ?_<;>intro h<;>simp (disch:=omega) only [Sh.out h,go_sem,seval,↓reduceIte]
  ·have hk2:k<a.slow.length:=Za
   have hp:=h3 _ (Zu hk2);have hsn:=Kl (t:=t) hk2;refine ZX ?_ ?_<;>intro h4
   ·rw [if_pos h4] at hsn;exact ⟨k+1,Za,Za,Weak.mk (by simp (disch:=omega) only [hsn,Int.add_assoc,go_sem,seval])⟩
   ·rw [if_neg h4] at hsn;exact ⟨k+1,Za,Za,Weak.mk (by simp (disch:=omega) only [hsn,go_sem,seval])⟩
  grind [Hw]
theorem NR (n:Net) (pr f t:Int) (hn:n.arcs.length<=1048576):PT 245 [.p (JE n),.p (.int .i64 pr),.p (.int .i64 f),.p (.int .i64 t)] [.p (Vd (YE n pr f t).1),.p (.bool (YE n pr f t).2)]:=by
 refine Zg [] Tryz.func245 rfl Th ?_;simp (disch:=omega) only [Tryz.f245,go_sem,seval];refine Zj [8,10,18,19] (fun k:Nat=> [(20,.p (.int .i64 k))]) (fun _=>Zy n++ [Yy V1,.cells [.p (.int .i64 f),.p (.int .i64 t),.p (.int .i64 pr)]]) (fun k=>k<=n.arcs.length/\ ∀j,j<k->W7 pr f t (nth n.arcs j)=false) (fun k=>n.arcs.length-k) 0 Zb (Weak.mk ?_) ?_
 ·simp (disch:=omega) only [Zy,Yy,V1,List.map_nil,List.cons_append,List.nil_append,go_sem,seval]
 ·rintro k ⟨hk,hno⟩;simp (disch:=omega) only [Zy,Yy,V1,List.map_nil,List.cons_append,List.nil_append,go_sem,seval];refine cD ?_ ?_<;>intro h<;>simp (disch:=omega) only [Sh.out h,go_sem,seval,↓reduceIte]
  ·have hk2:k<n.arcs.length:=Za
   have nx:W7 pr f t (nth n.arcs k)=false-> ∀j,j<k+1->W7 pr f t (nth n.arcs j)=false:=fun h=>Zl.2 ⟨hno,h⟩;refine Xs (Zf ?_);refine Zn (Ot (nth n.arcs k)) (Zf ?_);refine ZX ?_ ?_<;>intro h1
   ·have e:=Ih hk2 hno (by simp [W7,h1]);obtain ⟨rfl,rfl,rfl⟩:=h1;rw [e];exact we
   ·have e2:W7 pr f t (nth n.arcs k)=false:=by
     simp_all [W7]
    exact ⟨k+1,⟨Za,nx e2⟩,Za,wk⟩
  ·have hkn:k=n.arcs.length:=Za
   subst hkn;rw [Ii hno];exact we (by simp (disch:=omega) only [V1,List.map_nil,go_sem,seval])
theorem nZ (n:Net) (pr f t τ:Int) (hn:netR n) (hτ:0<=τ/\τ<=1073741824):PT 236 [.p (JE n),.p (.int .i64 pr),.p (.int .i64 f),.p (.int .i64 t),.p (.int .i64 τ)] [.p (.int .i64 (Bv n pr f t τ).1),.p (.int .i64 (Bv n pr f t τ).2.1),.p (.int .i64 (Bv n pr f t τ).2.2)]:=by
 refine Zg [] Tryz.func236 rfl Tc ?_;simp (disch:=omega) only [Tryz.f236,go_sem,seval];refine (CB n f hn.1).use (Zf ?_);refine gF ?_ ?_<;>intro h1<;>simp (disch:=omega) only [Sh.out h1,go_sem,seval,↓reduceIte]
 ·have e:Bv n pr f t τ=(0,0,11):=by grind [Bv]
  rw [e];exact we
 ·simp only [Bool.not_eq_false'] at h1;refine (CB n t hn.1).use (Zf ?_);refine cD ?_ ?_<;>intro h2<;>simp (disch:=omega) only [Sh.out h2,go_sem,seval]
  ·have e:Bv n pr f t τ=(0,0,11):=by grind [Bv]
   rw [e];exact we
  ·simp only [Bool.not_eq_false'] at h2;refine cD ?_ ?_<;>intro h3<;>simp (disch:=omega) only [Sh.out h3,go_sem,seval,↓reduceIte]
   ·have e:Bv n pr f t τ=(τ,0,0):=by grind [Bv]
    rw [e];exact we
   ·have cf:=NR n pr f t hn.2.1;have hm:= @K3 n pr f t
    have e0:Bv n pr f t τ=if (YE n pr f t).2=true then (Hw (YE n pr f t).1 τ,(YE n pr f t).1.miles,0) else (0,0,12):=by grind [Bv]
    rw [e0];generalize YE n pr f t=A at cf hm ⊢;obtain ⟨a,b⟩:=A;simp only at cf hm ⊢;refine X3 cf (Zf ?_);refine cD ?_ ?_<;>intro h4<;>simp (disch:=omega) only [Sh.out h4,go_sem,seval]
    ·have hb:b=false:=by grind
     subst hb;exact we (by simp (disch:=omega) only [go_sem,seval,↓reduceIte])
    ·have hb:b=true:=by grind
     subst hb;refine Xs (Zf ?_);refine Zn (NO a τ (hn.2.2 a (hm rfl)) hτ) (Zf ?_);exact we
structure Lab where
 ready:Int
 since:Int
 she:She
 deriving Inhabited
def zShe : She:=⟨false,0,true,[],0,0⟩
def XX : Lab:=⟨0,0,zShe⟩
def Xr (t:Typ) (L:Lab) (b:Bool):Int:=if b=true then L.ready+t.rest else L.ready
def V8 (L:Lab) (b:Bool):Int:=if b=true then 0 else L.since
def O3 (l:List Tim) (k:Nat) (d:Int) (b:Bool):List Tim:=l.set k { nth l k with dep:=d,rest:=b }
def XU (k:Nat) (d:Int) (b:Bool) (s:She):She:=if k=0 then { s with rest:=b,dep:=d } else { s with times:=O3 s.times (k-1) d b }
def GM (t:Typ) (sp:List Stp) (k:Nat):Int:=if k=0 then t.src else (nth sp (k-1)).place
def Pd (t:Typ) (sp:List Stp) (k:Nat):Int:=if k=sp.length then t.dst else (nth sp k).place
def IK (x:Inst) (t:Typ) (sp:List Stp) (k:Nat) (d:Int):Int×Int×Int:=Bv x.net t.prof (GM t sp k) (Pd t sp k) d
def Wq (t:Typ) (sp:List Stp) (k:Nat) (g:Int×Int×Int) (d s:Int) (h:She):Lab×Int :=
 if ¬g.2.2=0 then (XX,12)
 else if k=sp.length then
  if t.cls<g.1 then (XX,15) else if t.drive<s+g.1-d then (XX,16)
  else (⟨g.1,s+g.1-d,{ h with fin:=g.1,miles:=h.miles+g.2.1 }⟩,0)
 else if (nth sp k).cls<max g.1 (nth sp k).opn then (XX,14)
 else if t.drive<s+g.1-d then (XX,16)
 else (⟨max g.1 (nth sp k).opn+(nth sp k).serv,s+g.1-d,{ h with times_c:=false,times:=h.times++ [⟨g.1,max g.1 (nth sp k).opn,0,false⟩],miles:=h.miles+g.2.1 }⟩,0)
def X4 (x:Inst) (t:Typ) (sp:List Stp) (k:Nat) (L:Lab) (b:Bool):Lab×Int :=
 Wq t sp k (IK x t sp k (Xr t L b)) (Xr t L b) (V8 L b) (XU k (Xr t L b) b L.she)
def Xh (x:Inst) (t:Typ) (sp:List Stp) (k:Nat) (L:Lab) (b:Bool):Option Lab:=if (X4 x t sp k L b).2=0 then some (X4 x t sp k L b).1 else none
def XJ (x:Inst) (t:Typ) (sp:List Stp):Nat->Lab->List Bool->Lab×Int
 | _,L,[]=>(L,0)
 | k,L,b::bs=>if (X4 x t sp k L b).2=0 then XJ x t sp (k+1) (X4 x t sp k L b).1 bs else (XX,(X4 x t sp k L b).2)
def Xz (t:Typ) (st:Int):Lab:=⟨max t.opn st,0,zShe⟩
theorem VE {x:Inst} {t:Typ} {sp:List Stp} : ∀(bs:List Bool) (k:Nat) (L:Lab),UC (Xh x t sp) k L bs=if (XJ x t sp k L bs).2=0 then some (XJ x t sp k L bs).1 else none
 | [],k,L=>by rfl
 | b::bs,k,L=>by
  rw [UC,XJ,Xh]
  by_cases h:(X4 x t sp k L b).2=0
  ·simp only [h,if_true];exact VE bs (k+1) _
  ·simp [h]
structure TrpOk (x:Inst) (t:Typ) (sp:List Stp):Prop where
 net:netR x.net
 mil: ∀a∈x.net.arcs,0<=a.miles/\a.miles<=10000
 opn:0<=t.opn/\t.opn<=t.cls/\t.cls<=4096
 drv:1<=t.drive/\t.drive<=4096
 rst:0<=t.rest/\t.rest<=4096
 stp: ∀s∈sp,0<=s.opn/\s.opn<=s.cls/\s.cls<=4096/\0<=s.serv/\s.serv<=4096
 len:sp.length<=20
structure LabR (k:Nat) (L:Lab):Prop where
 rdy:0<=L.ready/\L.ready<=8192
 snc: -(12288*(k:Int))<=L.since/\L.since<=4096
 mil:0<=L.she.miles/\L.she.miles<=10000*(k:Int)
theorem No {n:Net} {pr f t τ:Int} (hn:netR n) (hm: ∀a∈n.arcs,0<=a.miles/\a.miles<=10000) (hτ:0<=τ/\τ<=1073741824):(0<=(Bv n pr f t τ).1/\(Bv n pr f t τ).1<=1107369984)/\(0<=(Bv n pr f t τ).2.1/\(Bv n pr f t τ).2.1<=10000):=by
 unfold Bv
 split
 ·simp
 ·split
  ·grind
  ·split
   ·rename_i h;have hA:=K3 h;have h1:=BN (hn.2.2 _ hA).1 hτ;have h2:=QM (t:=τ) (fun p hp=>((hn.2.2 _ hA).2.2 p hp).2.2) _ (Nat.le_refl _);have h3:=(hn.2.2 _ hA).2.1
    grind [Hw]
   ·simp
theorem JD {x t sp k L} (h:TrpOk x t sp) (hl:LabR k L) (b:Bool):0<=Xr t L b/\Xr t L b<=12288:=by
 have:=h.rst;have:=hl.rdy
 grind [Xr]
theorem CX {k L} (hl:LabR k L) (b:Bool): -(12288*(k:Int))<=V8 L b/\V8 L b<=4096:=by
 have:=hl.snc
 grind [V8]
theorem E6 {x t sp k L} (h:TrpOk x t sp) (hl:LabR k L) (b:Bool):(0<=(IK x t sp k (Xr t L b)).1/\(IK x t sp k (Xr t L b)).1<=1107369984)/\(0<=(IK x t sp k (Xr t L b)).2.1/\(IK x t sp k (Xr t L b)).2.1<=10000):=by
 have:=JD h hl b;exact No h.net h.mil Za
theorem QZ {k d b s} :(XU k d b s).miles=s.miles:=by grind [XU]
theorem Gz {k d b s} :(XU k d b s).fin=s.fin:=by grind [XU]
theorem QD {k d b s} :(XU k d b s).times.length=s.times.length:=by grind [XU,O3]
theorem Fm {x t sp k L b} (h:TrpOk x t sp) (hk:k<=sp.length) (hl:LabR k L) (he:(X4 x t sp k L b).2=0):LabR (k+1) (X4 x t sp k L b).1:=by
 have h1:=JD h hl b;have h2:=CX hl b;obtain ⟨h3,h4⟩:=E6 h hl b;have h5:=hl.mil;have h6:=h.opn;have h7:=h.drv;have hm:(XU k (Xr t L b) b L.she).miles=L.she.miles:=QZ;unfold X4 at he ⊢
 generalize IK x t sp k (Xr t L b)=g at *
 generalize Xr t L b=d at *
 generalize V8 L b=s at *
 generalize XU k d b L.she=m at *
 unfold Wq at he ⊢
 split at he
 ·simp at he
 ·rename_i c1;rw [if_neg c1]
  split at he
  ·rename_i c2;rw [if_pos c2]
   split at he
   ·simp at he
   ·rename_i c3;rw [if_neg c3]
    split at he
    ·simp at he
    ·rename_i c4;rw [if_neg c4];exact ⟨by grind,by grind,by grind⟩
  ·rename_i c2;rw [if_neg c2];have h8:=h.stp _ (Zu (show k<sp.length by omega))
   split at he
   ·simp at he
   ·rename_i c3;rw [if_neg c3]
    split at he
    ·simp at he
    ·rename_i c4;rw [if_neg c4];exact ⟨by grind,by grind,by grind⟩
theorem J3 {x t sp k L b} (hl:L.she.times.length=k) (he:(X4 x t sp k L b).2=0) (hk:k<sp.length):(X4 x t sp k L b).1.she.times.length=k+1:=by
 have hm:(XU k (Xr t L b) b L.she).times.length=L.she.times.length:=QD;unfold X4 at he ⊢
 generalize IK x t sp k (Xr t L b)=g at *
 generalize Xr t L b=d at *
 generalize V8 L b=s at *
 generalize XU k d b L.she=m at *
 have hk2: ¬k=sp.length:=Za
 unfold Wq at he ⊢
 grind
def ZB (m x:Lab):Bool:=decide (m.ready=x.ready)&&decide (m.since<=x.since)
theorem Dt {x t sp k} {m y z:Lab} {b:Bool} (hb:ZB m y=true) (hn:Xh x t sp k y b=some z): ∃u,Xh x t sp k m b=some u/\ZB u z=true:=by
 simp only [ZB,Bool.and_eq_true,decide_eq_true_eq] at hb;obtain ⟨hb1,hb2⟩:=hb
 have hd:Xr t m b=Xr t y b:=by simp [Xr,hb1]
 have hs:V8 m b<=V8 y b:=by grind [V8]
 unfold Xh at hn ⊢;unfold X4 at hn ⊢;rw [hd]
 generalize IK x t sp k (Xr t y b)=g at *
 generalize Xr t y b=d at *
 generalize V8 y b=s at *
 generalize V8 m b=s2 at *
 generalize XU k d b y.she=h1 at *
 generalize XU k d b m.she=h2 at *
 unfold Wq at hn ⊢
 by_cases c1:g.2.2=0
 ·by_cases c2:k=sp.length
  ·simp only [c1,c2,not_true,if_true,if_false] at hn ⊢
   by_cases c3:t.cls<g.1
   ·grind
   ·by_cases c4:t.drive<s+g.1-d
    ·grind
    ·have c5: ¬t.drive<s2+g.1-d:=Za
     simp only [c3,c4,if_false,if_true,Option.some.injEq] at hn;subst hn;refine ⟨_,by simp only [c3,c5,if_false,if_true];rfl,?_⟩;simp [ZB];omega
  ·simp only [c1,c2,not_true,if_false] at hn ⊢
   by_cases c3:(nth sp k).cls<max g.1 (nth sp k).opn
   ·grind
   ·by_cases c4:t.drive<s+g.1-d
    ·grind
    ·have c5: ¬t.drive<s2+g.1-d:=Za
     simp only [c3,c4,if_false,if_true,Option.some.injEq] at hn;subst hn;refine ⟨_,by simp only [c3,c5,if_false,if_true];rfl,?_⟩;simp [ZB];omega
 grind
def Yj (L:Lab):Int:=L.she.fin
theorem Cv {x t sp} {y z:Lab} {b:Bool} (hn:Xh x t sp sp.length y b=some z):z.she.fin=z.ready:=by
 unfold Xh X4 Wq at hn
 grind
theorem Ac {x t sp} (ch:Nat->List Bool) (L:Lab):Wa Yj none (W8 ZB (Xh x t sp) ch (sp.length+1) 0 [L])=Wa Yj none (Yb (Xh x t sp) ch (sp.length+1) 0 L):=by
 have h:=Fg Yj ZB (Xh x t sp) ch (n:=sp.length+1) (Inv:=fun k y=>k=sp.length+1->y.she.fin=y.ready)
  (fun k y b z _ hn hk=>by
   grind [Cv]) (fun k m y b z _ _ hb hn=>Dt hb hn)
  (fun m y h1 h2 hb=>by
   simp only [ZB,Bool.and_eq_true,decide_eq_true_eq] at hb
   rw [Yj,Yj,h1 rfl,h2 rfl];omega) (sp.length+1) 0 [L] Za (fun y _ hk=>Za)
 rw [h];simp
def YD (r:List Bool) (k:Nat):List Bool:=match r[k]? with | some b=> [b] | none=> [false,true]
theorem E4 (r:List Bool) (n:Nat) (hn:r.length<=n): ∀(j k:Nat),k+j=r.length->AY (YD r) (n-k) k=(XD (List.replicate (n-r.length) false)).map (r.drop k++ ·)
 | 0,k,h=>by
  have hk:k=r.length:=Za
  subst hk;rw [Ca (n:=n) _ _ _ (fun q hq=>by grind [YD])];simp
 | j+1,k,h=>by
  have e:n-k=(n-(k+1))+1:=Za
  have hlt:k<r.length:=Za
  rw [e,AY,E4 r n hn j (k+1) Za]
  have:YD r k= [r[k]]:=by simp [YD,hlt]
  rw [this,List.flatMap_cons,List.flatMap_nil,List.append_nil,List.map_map,List.drop_eq_getElem_cons hlt]
  rfl
theorem K2 (r:List Bool) (n:Nat) (hn:r.length<=n):AY (YD r) n 0=(XD (List.replicate (n-r.length) false)).map (r++ ·):=by
 have:=E4 r n hn r.length 0 Za
 grind
def Wy (r:List Bool) (n:Nat):List (List Bool):=(XD (List.replicate (n-r.length) false)).map (r++ ·)
def V5 (r:List Bool) (n:Nat):List Bool:=r++List.replicate (n-r.length) false
def Vl (x:Inst) (t:Typ) (sp:List Stp) (st:Int) (r:List Bool):She×Int :=
 match Wa Yj none ((Wy r (sp.length+1)).filterMap (UC (Xh x t sp) 0 (Xz t st))) with
 | some L=>(L.she,0)
 | none=>(zShe,(XJ x t sp 0 (Xz t st) (V5 r (sp.length+1))).2)
theorem AN {x t sp} {st:Int} {r:List Bool} (hr:r.length<=sp.length+1):Vl x t sp st r=match Wa Yj none (W8 ZB (Xh x t sp) (YD r) (sp.length+1) 0 [Xz t st]) with
 | some L=>(L.she,0)
 | none=>(zShe,(XJ x t sp 0 (Xz t st) (V5 r (sp.length+1))).2):=by
 rw [Ac,Yb,K2 r _ hr];rfl
theorem CJ {x t sp} : ∀(bs:List Bool) (k:Nat) (L:Lab),L.she.times.length=k->k+bs.length=sp.length+1->0<bs.length->(XJ x t sp k L bs).2=0->(XJ x t sp k L bs).1.she.times.length=sp.length
 | [],k,L,h1,h2,h3,h=>by simp at h3
 | b::bs,k,L,h1,h2,_,h=>by
  rw [XJ] at h ⊢
  by_cases h4:(X4 x t sp k L b).2=0
  ·simp only [h4,if_true] at h ⊢
   cases bs with
   | nil =>
    simp at h2;subst h2;rw [XJ];unfold X4 at h4 ⊢;unfold Wq at h4 ⊢
    split at h4
    ·simp at h4
    ·rename_i c1;rw [if_neg c1];simp only [if_true] at h4 ⊢
     split at h4
     ·simp at h4
     ·rename_i c2;rw [if_neg c2]
      split at h4
      ·simp at h4
      simp_all [if_neg,QD]
   | cons b2 bs =>
    simp at h2;exact CJ (b2::bs) (k+1) _ (J3 h1 h4 Za) (by simp;omega) Zb h
  grind
theorem bestF_len {x t sp} {st:Int} {r:List Bool} (hr:r.length<=sp.length+1) (h:(Vl x t sp st r).2=0):(Vl x t sp st r).1.times.length=sp.length:=by
 unfold Vl at h ⊢
 cases hf:Wa Yj none ((Wy r (sp.length+1)).filterMap (UC (Xh x t sp) 0 (Xz t st))) with
 | none =>
  rw [hf] at h;simp only at h ⊢;exfalso
  have hm:V5 r (sp.length+1)∈Wy r (sp.length+1):=by
   grind [Wy,V5,Uw]
  have h2:UC (Xh x t sp) 0 (Xz t st) (V5 r (sp.length+1))=some (XJ x t sp 0 (Xz t st) (V5 r (sp.length+1))).1:=by rw [VE,if_pos h]
  have h3:(XJ x t sp 0 (Xz t st) (V5 r (sp.length+1))).1∈(Wy r (sp.length+1)).filterMap (UC (Xh x t sp) 0 (Xz t st)):=List.mem_filterMap.2 ⟨_,hm,h2⟩;generalize (Wy r (sp.length+1)).filterMap (UC (Xh x t sp) 0 (Xz t st))=l at hf h3
  cases l with
  | nil=>simp at h3
  | cons a l =>
   rw [Wa] at hf;obtain ⟨z,e,_⟩:=Vt Yj l a
   grind
 | some L =>
  simp only;have hm:=fmL_mem _ _ hf;obtain ⟨bs,hbs,hrun⟩:=List.mem_filterMap.1 hm;rw [VE] at hrun
  split at hrun
  ·rename_i h5;simp at hrun;subst hrun;obtain ⟨q,hq,rfl⟩:=List.mem_map.1 hbs;have hql:=fromB_len _ _ hq;simp at hql;exact CJ _ 0 _ rfl (by grind) (by grind) h5
  ·cases hrun
where
 fmL_mem: ∀(l:List Lab) (L:Lab),Wa Yj none l=some L->L∈l
 | [],L,h=>by simp [Wa] at h
 | a::l,L,h=>by
  rw [Wa] at h;exact fmL_mem2 l a L h
 fmL_mem2: ∀(l:List Lab) (a L:Lab),Wa Yj (some a) l=some L->L∈a::l
 | [],a,L,h=>by grind [Wa]
 | y::l,a,L,h=>by
  rw [Wa] at h
  split at h
  ·have:=fmL_mem2 l y L h;grind
  ·have:=fmL_mem2 l a L h;grind
 fromB_len: ∀(l q:List Bool),q∈XD l->q.length=l.length
 | [],q,h=>by grind [XD]
 | b::bs,q,h=>by
  rw [XD] at h
  split at h
  ·obtain ⟨q',hq,rfl⟩:=List.mem_map.1 h;simp [fromB_len bs q' hq]
  ·rcases List.mem_append.1 h with h | h
   ·obtain ⟨q',hq,rfl⟩:=List.mem_map.1 h;simp [fromB_len bs q' hq]
   ·obtain ⟨q',hq,rfl⟩:=List.mem_map.1 h;simp [fromB_len (List.replicate bs.length false) q' hq]
 termination_by l=>l.length
 decreasing_by all_goals simp
def Y8 (x:Inst) (v:Vis):Stp:=if v.drp=true then (nth x.orders v.order.toNat).drp else (nth x.orders v.order.toNat).pick
def XV (x:Inst) (l:List Vis):List Stp:=l.map (Y8 x)
def WB (t:Typ) (s:Int):Bool:=decide (0<=t.skills)&&decide (0<=s)&&(List.range 63).all fun i=> !s.toNat.testBit i||t.skills.toNat.testBit i
def QV (a c:List Int):Bool:=decide (a.length=c.length)&&(List.range a.length).all fun i=>decide (nth a i<=nth c i)
def JV (x:Inst) (c:List Int) (l:List Vis):Bool:=(List.range (l.length+1)).all fun n=>QV (Yx x l n) c
def Z1 (x:Inst) (r:Rte):Typ:=nth x.types r.typ.toNat
def JJ (l:List Vis) (i:Nat):Bool:= !((l.take i).any fun v=>decide (v.order=(nth l i).order))
def UU (k t:Int):Bool:=decide (k≠ -1)&&decide (k≠t)
def chgF (x:Inst) (l:List Vis) (t:Int):Nat->Int×Int
 | 0=>(0,0)
 | n+1=>if JJ l n=true then ((chgF x l t n).1+(if UU (nth x.orders (nth l n).order.toNat).now t=true then 1 else 0),(chgF x l t n).2+(if UU (nth x.orders (nth l n).order.toNat).last t=true then 1 else 0)) else chgF x l t n
def LX (x:Inst) (r:Rte) (s:She):Sco :=
 ⟨(Z1 x r).fixed+(Z1 x r).perMile*s.miles+(Z1 x r).perTick*(s.fin-(Z1 x r).opn),(chgF x r.visits r.typ r.visits.length).1,(chgF x r.visits r.typ r.visits.length).2,(s.fin-(Z1 x r).opn).tdiv 64*(s.fin-(Z1 x r).opn).tdiv 64⟩
def Yt (x:Inst) (r:Rte):Int :=
 if ¬(0<=r.typ/\r.typ<(x.types.length:Int)) then 2
 else if ¬Xi x r.visits=0 then Xi x r.visits
 else if (r.visits.any fun v=> !WB (Z1 x r) (nth x.orders v.order.toNat).skills)=true then 18
 else if JV x (Z1 x r).cap r.visits=false then 17
 else if ¬(0<=r.start/\r.start<=4096/\r.rests.length<=r.visits.length+1) then 2
 else 0
def XK (x:Inst) (r:Rte):She×Int:=Vl x (Z1 x r) (XV x r.visits) r.start r.rests
def Z3 (x:Inst) (r:Rte):Int:=if Yt x r=0 then (XK x r).2 else Yt x r
def WG (x:Inst) (r:Rte):She:=if Z3 x r=0 then (XK x r).1 else zShe
def Uf (x:Inst) (r:Rte):Sco:=if Z3 x r=0 then LX x r (XK x r).1 else zSco
def RH (x:Inst) (v:Vis):Bool:=decide (0<=v.order)&&decide (v.order<(x.orders.length:Int))
def Oq (x:Inst) (v:Vis):Bool:=RH x v&&decide (0<=(Y8 x v).place)
@[go_sem high] theorem qM {k k':IntKind} {a b:Int} :Dm false [.p (.int k a),.p (.int k' b)]=some (.int k (max a b)):=by
 grind [Dm]
theorem XW {x:Inst} {l:List Vis} :(XV x l).length=l.length:=by simp [XV]
theorem Er {x:Inst} {l:List Vis} {k:Nat} (h:k<l.length):nth (XV x l) k=Y8 x (nth l k):=by
 grind [Zi,XV]
def eR (p:Bool×List Int):PV:= .list p.1 (p.2.map eI)
structure LdOk (x:Inst):Prop where
 ord:x.orders.length<=10
 typ:x.types.length<=1048576
 dim:1<=dimsOf x.types/\dimsOf x.types<=3
 load: ∀o∈x.orders,(o.load.length:Int)=dimsOf x.types/\ ∀n∈o.load,0<=n/\n<=1000
theorem U0 {x:Inst} (h:InstOk x):LdOk x:=by
 have ht:=h.types.1;simp only [rng,decide_eq_true_eq] at ht;have ho:=h.orders
 have h0:0<x.types.length:=Za
 have hcap:=h.types.2 0 h0;unfold Q5 at hcap;obtain ⟨⟨⟨⟨⟨⟨⟨⟨_,_⟩,_⟩,_⟩,hcap⟩,_⟩,_⟩,_⟩,_⟩:=hcap;simp only [Wh,Bool.and_eq_true,decide_eq_true_eq,rng] at hcap;refine ⟨ho.1,Za,Za,fun o hm=> ?_⟩;obtain ⟨i,hi,rfl⟩:=List.mem_iff_getElem.1 hm;have:=(ho.2 i hi).load;rw [Zi hi] at this
 simp_all [loadOk,rng]
def OU (l:List Int):PV:= .list false (l.map eI)
@[go_sem] theorem Rt (l:List Int):OU l= .list false (l.map eI):=Eq.trans rfl rfl
def JW (x:Inst) (l:List Vis):List (List Int):=(List.range (l.length+1)).map (Yx x l)
def Du (s:Stp) (a:Int):Int×Int:=if max a s.opn>s.cls then (0,14) else (max a s.opn,0)
theorem MU (s:Stp) (a:Int):PT 238 [.p (B8 s),.p (.int .i64 a)] [.p (.int .i64 (Du s a).1),.p (.int .i64 (Du s a).2)]:=by
 refine Zg [] Tryz.func238 rfl Te ?_;simp (disch:=omega) only [Tryz.f238,go_sem,seval];refine cD ?_ ?_<;>intro h<;>simp (disch:=omega) only [Sh.out h,go_sem,seval]
 ·have e:Du s a=(0,14):=by simp_all [Du]
  rw [e];exact we
 ·have e:Du s a=(max a s.opn,0):=by simp_all [Du]
  rw [e];exact we
theorem Lp (l:List Ord) (c:Bool) (p:Int) (hl:l.length<=1048576):PC 117 [.p (.list c (l.map Yz)),.p (.int .i64 p)] (.bool (decide (0<=p)&&decide (p<(l.length:Int)))):=by
 refine Zc Tryz.func117 rfl IQ ?_;simp (disch:=omega) only [Tryz.f117,go_sem,seval];refine gT ?_ ?_<;>intro h<;>simp (disch:=omega) only [Sh.out h,go_sem,seval,↓reduceIte]
 all_goals simp [h]
theorem NT (x:Inst) (v:Vis) (ho:x.orders.length<=1048576) (hv:RH x v=true) (hp:0<=(Y8 x v).place):PT 73 [.p (.list x.orders_c (x.orders.map Yz)),.p (ZV v)] [.p (B8 (Y8 x v)),.p (.int .i64 0)]:=by
 refine Zg [] Tryz.func73 rfl mJ ?_;simp (disch:=omega) only [Tryz.f73,go_sem,seval];have hv':=hv;rw [RH] at hv';have ct:=Lp x.orders x.orders_c v.order ho;rw [hv'] at ct;refine ct.use ?_;simp only [Bool.and_eq_true,decide_eq_true_eq] at hv';obtain ⟨h1,h2⟩:=hv'
 have hi:v.order.toNat<x.orders.length:=Za
 refine Zf ?_;refine cD ?_ ?_<;>intro hd<;>simp (disch:=omega) only [Sh.out hd,go_sem,seval,↓reduceIte]
 ·have e:Y8 x v=(nth x.orders v.order.toNat).drp:=by simp [Y8,hd]
  rw [e] at hp ⊢
  have e3: ¬(nth x.orders v.order.toNat).drp.place<0:=Za
  simp (disch:=omega) only [e3,go_sem,seval];exact we
 ·have e:Y8 x v=(nth x.orders v.order.toNat).pick:=by simp [Y8,hd]
  rw [e] at hp ⊢
  have e3: ¬(nth x.orders v.order.toNat).pick.place<0:=Za
  simp (disch:=omega) only [e3,go_sem,seval];exact we
theorem NQ (l:List Typ) (c:Bool) (ht:l.length<=1048576):PC 160 [.p (.list c (l.map Vq))] (.int .i64 (dimsOf l)):=by
 refine Zc Tryz.func160 rfl Sr ?_;simp (disch:=omega) only [Tryz.f160,go_sem,seval];refine cD ?_ ?_<;>intro h1<;>simp (disch:=omega) only [Sh.out h1,go_sem,seval,↓reduceIte]
 ·grind [dimsOf]
 simp_all [dimsOf]
theorem NS (a b:List Int) (c d:Bool) (ha:a.length<=1048576) (hb:b.length<=1048576):PC 190 [.p (.list c (a.map eI)),.p (.list d (b.map eI))] (.bool (QV a b)):=by
 refine Zc Tryz.func190 rfl SJ ?_;simp (disch:=omega) only [Tryz.f190,go_sem,seval];refine cD ?_ ?_<;>intro h1<;>simp (disch:=omega) only [Sh.out h1,go_sem,seval]
 ·grind [QV]
 ·have h1':a.length=b.length:=Za
  refine Zj [1,12,13] (fun k:Nat=> [(14,.p (.int .i64 k))]) (fun _=> []) (fun k=>k<=a.length/\ ∀j,j<k->nth a j<=nth b j) (fun k=>a.length-k) 0 Zb (Weak.mk ?_) ?_
  ·simp (disch:=omega) only [go_sem,seval]
  ·rintro k ⟨hk,hno⟩;refine Zf ?_;refine cD ?_ ?_<;>intro h2<;>simp (disch:=omega) only [Sh.out h2,go_sem,seval,↓reduceIte]
   ·have hk2:k<a.length:=Za
    refine ZX ?_ ?_<;>intro h3
    ·grind [QV]
    ·exact ⟨k+1,⟨Za,Zl.2 ⟨hno,Za⟩⟩,Za,wk⟩
   ·have hkl:k=a.length:=Za
    simp_all [QV]
theorem NN (t:Typ) (s:Int) (h1:t.skills<9223372036854775808) (h2:s<9223372036854775808):PC 187 [.p (Vq t),.p (.int .i64 s)] (.bool (WB t s)):=by
 refine Zc Tryz.func187 rfl SG ?_;simp (disch:=omega) only [Tryz.f187,go_sem,seval];refine gT ?_ ?_<;>intro c1<;>simp (disch:=omega) only [Sh.out c1,go_sem,seval,↓reduceIte]
 ·refine gT ?_ ?_<;>intro c2<;>simp (disch:=omega) only [Sh.out c2,go_sem,seval,↓reduceIte]
  ·obtain ⟨M,hM⟩: ∃M:Nat,t.skills=(M:Int):=⟨t.skills.toNat,Za⟩;obtain ⟨S,rfl⟩: ∃S:Nat,s=(S:Int):=⟨s.toNat,Za⟩;have hb:=BJ (S:=S) (M:=M) Za
   have e:WB t (S:Int)=(List.range 63).all fun i=> !S.testBit i||M.testBit i:=by
    simp_all [WB]
   have hd:decide (IntKind.i64.wrap ((BitVec.ofInt 64 (S:Int)&&& ~~~BitVec.ofInt 64 (M:Int)).toNat:Int)=0)=((List.range 63).all fun i=> !S.testBit i||M.testBit i):=by
    grind
   rw [e,hM];exact congrArg (fun b=>V.p (PV.bool b)) hd
  grind [WB]
 grind [WB]
theorem TP (a b:Int) (h: -1073741824<=a/\a<=1073741824/\ -1073741824<=b/\b<=1073741824):PC 198 [.p (.int .i64 a),.p (.int .i64 b)] (.int .i64 (a+b)):=by
 refine Zc Tryz.func198 rfl SQ ?_;simp (disch:=omega) only [Tryz.f198,go_sem,seval]
theorem NA (a b:Int) (h: -1073741824<=a/\a<=1073741824/\ -1073741824<=b/\b<=1073741824):PC 199 [.p (.int .i64 a),.p (.int .i64 b)] (.int .i64 (a-b)):=by
 refine Zc Tryz.func199 rfl SR ?_;simp (disch:=omega) only [Tryz.f199,go_sem,seval]
def He (f:Nat->Int) (n k:Nat):List Int:=(List.range n).map fun j=>if j<k then f j else 0
theorem NC {f:Nat->Int} {n k:Nat} :(He f n k).length=n:=by simp [He]
theorem I3 {f:Nat->Int} {n:Nat} :He f n 0=List.replicate n 0:=by
 apply List.ext_getElem (by simp [He]);grind [He]
theorem I2 {f:Nat->Int} {n:Nat} :He f n n=(List.range n).map f:=by
 simp_all [He]
theorem ND {f:Nat->Int} {n k:Nat} (h:k<n):(He f n k).set k (f k)=He f n (k+1):=by
 apply List.ext_getElem (by simp [He]);grind [He]
theorem KY (a b:List Int) (c d:Bool) (g:FuncId) (f:Int->Int->Int) (hl:a.length=b.length) (ha:a.length<=1048576)
  (hf: ∀j,j<a.length->ACalls Tryz.prog g [.p (.int .i64 (nth a j)),.p (.int .i64 (nth b j))] [] fun x H'=>x= .p (.int .i64 (f (nth a j) (nth b j)))/\H'= []) :
  PT 197 [.p (.list c (a.map eI)),.p (.list d (b.map eI)),.fn (.func g) [] []] [.p (.list false (((List.range a.length).map fun j=>f (nth a j) (nth b j)).map eI)),.p (.int .i64 0)]:=by
 refine Zg [9] Tryz.func197 rfl SP ?_;simp (disch:=omega) only [Tryz.f197,go_sem,seval];refine cD ?_ ?_<;>intro h0<;>simp (disch:=omega) only [Sh.out h0,go_sem,seval]
 ·omega
 ·have hz:=I3 (f:=fun j=>f (nth a j) (nth b j)) (n:=a.length);have hml:=fun k=>NC (f:=fun j=>f (nth a j) (nth b j)) (n:=a.length) (k:=k);refine ZH [9] [0,1,2,8,19] (fun k:Nat=> [(20,.p (.int .i64 k))]) (fun k=> [.elems 1 ((He (fun j=>f (nth a j) (nth b j)) a.length k).map eI)]) (fun k=>k<=a.length) (fun k=>a.length-k) 0 Zb (Weak.mk ?_) ?_
  ·simp (disch:=omega) only [hz,go_sem,seval];rw [List.map_replicate];rfl
  ·intro k hk;refine Zf ?_;refine cD ?_ ?_<;>intro h1<;>simp (disch:=omega) only [Sh.out h1,go_sem,seval,↓reduceIte]
   ·have hk2:k<a.length:=Za
    have hs:=ND (f:=fun j=>f (nth a j) (nth b j)) (n:=a.length) hk2;have hk3:=hml k;refine Zv 12 mixed Ze Ze ?_;refine Zf ?_;refine Zn (hf k hk2) ?_;refine Zf ?_;simp (disch:=first | omega | (simp only [List.length_cons,List.length_nil,List.length_append,List.length_map,List.length_take,List.length_drop]<;>omega)) only [go_sem,seval,↓reduceIte];refine ⟨k+1,Za,Za,Weak.mk ?_⟩;simp (disch:=omega) only [<- hs,go_sem,seval];rw [List.map_set];rfl
   ·have hkl:k=a.length:=Za
    subst hkl;rw [<- I2];have hk3:=hml a.length;refine Zr (Weak.fz (o:=0) (by rfl)) ?_;refine Zd [] _ _ _ _ ?_;simp (disch:=omega) only [List.map_cons,List.map_nil,List.set_cons_zero,go_sem,seval];rw [if_pos hk3];exact we
theorem Lg (a b:List Int) (c d:Bool) (hl:a.length=b.length) (ha:a.length<=1048576) (h: ∀j,j<a.length-> -1073741824<=nth a j/\nth a j<=1073741824/\ -1073741824<=nth b j/\nth b j<=1073741824):PT 161 [.p (.list c (a.map eI)),.p (.list d (b.map eI))] [.p (.list false ((Jo a b).map eI)),.p (.int .i64 0)]:=by
 refine Zg [] Tryz.func161 rfl Ss ?_;simp (disch:=omega) only [Tryz.f161,go_sem,seval];refine X3 (KY a b c d 198 (fun m n=>m+n) hl ha fun j hj=>TP _ _ (h j hj)) ?_;simp (disch:=omega) only [Jo,go_sem,seval];exact we
theorem TK (a b:List Int) (c d:Bool) (hl:a.length=b.length) (ha:a.length<=1048576) (h: ∀j,j<a.length-> -1073741824<=nth a j/\nth a j<=1073741824/\ -1073741824<=nth b j/\nth b j<=1073741824):PT 162 [.p (.list c (a.map eI)),.p (.list d (b.map eI))] [.p (.list false ((Oe a b).map eI)),.p (.int .i64 0)]:=by
 refine Zg [] Tryz.func162 rfl St ?_;simp (disch:=omega) only [Tryz.f162,go_sem,seval];refine X3 (KY a b c d 199 (fun m n=>m-n) hl ha fun j hj=>NA _ _ (h j hj)) ?_;simp (disch:=omega) only [Oe,go_sem,seval];exact we
theorem Ll (x:Inst) (r:Rte) (ht:0<=r.typ/\r.typ<(x.types.length:Int)) (hv: ∀v∈r.visits,RH x v=true) (hl:r.visits.length<=1048576) (hxl:x.types.length<=1048576) (hol:x.orders.length<=1048576)
  (hs:(Z1 x r).skills<9223372036854775808) (ho: ∀o∈x.orders,o.skills<9223372036854775808) :
  PC 154 [.p (Xt x),.p (eRte r)] (.int .i64 (if (r.visits.any fun v=> !WB (Z1 x r) (nth x.orders v.order.toNat).skills)=true then 18 else 0)):=by
 refine Zc Tryz.func154 rfl Sl ?_;simp (disch:=omega) only [Tryz.f154,go_sem,seval];refine Zj [2,3,8,9] (fun k:Nat=> [(10,.p (.int .i64 k))]) (fun _=> [Zk x,.cells [.p (.int .i64 r.typ),.p (.int .i64 r.start),.p (.list r.rests_c (r.rests.map eB)),.p (.list r.visits_c (r.visits.map ZV))]]) (fun k=>k<=r.visits.length/\ ∀j,j<k->WB (Z1 x r) (nth x.orders (nth r.visits j).order.toNat).skills=true) (fun k=>r.visits.length-k) 0 Zb (Weak.mk ?_) ?_
 ·simp (disch:=omega) only [Zk,go_sem,seval]
 ·rintro k ⟨hk,hno⟩;simp (disch:=omega) only [Zk,go_sem,seval];refine cD ?_ ?_<;>intro h1<;>simp (disch:=omega) only [Sh.out h1,go_sem,seval,↓reduceIte]
  ·have hk2:k<r.visits.length:=Za
   have hin:=hv _ (Zu hk2);simp only [RH,Bool.and_eq_true,decide_eq_true_eq] at hin;obtain ⟨i1,i2⟩:=hin
   have hi:(nth r.visits k).order.toNat<x.orders.length:=Za
   have ho':=ho _ (Zu hi);refine Xs (Zf ?_);refine Zn (NN (Z1 x r) (nth x.orders (nth r.visits k).order.toNat).skills Za Za) (Zf ?_);refine ZX ?_ ?_<;>intro h2
   ·have:(r.visits.any fun v=> !WB (Z1 x r) (nth x.orders v.order.toNat).skills)=true:=by
     grind [Zu]
    grind
   ·exact ⟨k+1,⟨Za,Zl.2 ⟨hno,by grind⟩⟩,Za,wk⟩
  ·have: ¬(r.visits.any fun v=> !WB (Z1 x r) (nth x.orders v.order.toNat).skills)=true:=by
    rw [List.any_eq_true];rintro ⟨v,hv,e⟩;obtain ⟨j,hj,rfl⟩:=List.mem_iff_getElem.1 hv
    grind [Zi]
   grind
def FE (x:Inst) (d:Nat) (ms:List Int) (k:Nat):List Int:=(ms.take k).foldl (fun s i=>if (nth x.orders i.toNat).pick.place<0 then Jo s (nth x.orders i.toNat).load else s) (List.replicate d 0)
theorem C0 {x:Inst} {d:Nat} {ms:List Int} {k:Nat} (h:k<ms.length):FE x d ms (k+1)=if (nth x.orders (nth ms k).toNat).pick.place<0 then Jo (FE x d ms k) (nth x.orders (nth ms k).toNat).load else FE x d ms k:=by
 grind [FE,List.take_succ_eq_append_getElem,Zi]
theorem FF {x:Inst} {d:Nat} {ms:List Int} (hms: ∀i∈ms,∀j,j<d->0<=nth (nth x.orders i.toNat).load j/\nth (nth x.orders i.toNat).load j<=1000): ∀k,k<=ms.length->(FE x d ms k).length=d/\ ∀j,j<d->0<=nth (FE x d ms k) j/\nth (FE x d ms k) j<=1000*k
 | 0,_=>by
  grind [FE,Zi]
 | k+1,h=>by
  obtain ⟨h1,h2⟩:=FF hms k Za;rw [C0 Za]
  split
  ·refine ⟨by simp [Jo,h1],fun j hj=> ?_⟩;have a1:=h2 j hj;have a2:=hms _ (Zu (show k<ms.length by omega)) j hj;rw [Jo,WL Za];omega
  ·exact ⟨h1,fun j hj=>by have:=h2 j hj;omega⟩
theorem Oc (x:Inst) (S:Int) (d:Nat) (hd:d<=3) (hol:x.orders.length<=1048576) (hms: ∀i∈Xw S 63,0<=i/\i<(x.orders.length:Int)) (hml:(Xw S 63).length<=63)
  (hld: ∀o∈x.orders,o.load.length=d/\ ∀n∈o.load,0<=n/\n<=1000) :
  PC 159 [.p (Xt x),.p (.int .i64 S),.p (.int .i64 (d:Int))] (.list false ((FE x d (Xw S 63) (Xw S 63).length).map eI)):=by
 have hmo: ∀i∈Xw S 63,i.toNat<x.orders.length:=fun i hi=>by grind
 have hrg:=FF (x:=x) (d:=d) (ms:=Xw S 63) fun i hi j hj=>by
  grind [Zu]
 refine Zc Tryz.func159 rfl Sq ?_;simp (disch:=omega) only [Tryz.f159,go_sem,seval];refine (GB S).useF (Zf ?_);refine Zr ((Weak.fz (o:=1) (by rfl)).trans (Weak.fz (o:=2) (by rfl))) ?_;simp (disch:=omega) only [List.map_cons,List.map_nil,List.set_cons_succ,List.set_cons_zero,List.length_replicate,eq_self,go_sem,seval]
 have hz:List.replicate d (PV.int .i64 0)=(FE x d (Xw S 63) 0).map eI:=by
  show _=(List.replicate d 0).map eI
  rw [List.map_replicate];rfl
 refine Zj [3,13,14] (fun k:Nat=> [(7,.p (.list false ((FE x d (Xw S 63) k).map eI))),(15,.p (.int .i64 k))]) (fun _=> [Zk x,.dead,.dead]) (fun k=>k<=(Xw S 63).length) (fun k=>(Xw S 63).length-k) 0 Zb (Weak.mk ?_) ?_
 ·simp (disch:=omega) only [Zk,hz,go_sem,seval]
 ·intro k hk;have hk1:=hrg k hk;have hsn:=fun h=>C0 (x:=x) (d:=d) (ms:=Xw S 63) (k:=k) h;simp (disch:=omega) only [Zk,go_sem,seval];refine cD ?_ ?_<;>intro h1<;>simp (disch:=omega) only [Sh.out h1,go_sem,seval,↓reduceIte]
  ·have hk2:k<(Xw S 63).length:=Za
   have hm:=hms _ (Zu hk2);have hi:=hmo _ (Zu hk2);have hlo:=hld _ (Zu hi);have hsn:=hsn hk2;refine Zf ?_;refine ZX ?_ ?_<;>intro h2
   ·rw [if_pos h2] at hsn;refine X3 (Lg (FE x d (Xw S 63) k) (nth x.orders (nth (Xw S 63) k).toNat).load false (nth x.orders (nth (Xw S 63) k).toNat).load_c Za Za fun j hj=> ?_) ?_
    ·have b1:=hk1.2 j Za;have b2:=hlo.2 _ (Zu (show j<(nth x.orders (nth (Xw S 63) k).toNat).load.length by omega));omega
    ·refine Zf ?_;exact ⟨k+1,Za,Za,Weak.mk (by simp (disch:=omega) only [hsn,go_sem,seval])⟩
   ·rw [if_neg h2] at hsn;exact ⟨k+1,Za,Za,Weak.mk (by simp (disch:=omega) only [hsn,go_sem,seval])⟩
  grind
theorem DF {p:Nat->Bool} {n:Nat} (h: ∀i,n<=i->p i=false): ∀k,n<=k->(List.range k).filter p=(List.range n).filter p:=by
 intro k hk
 induction k with
 | zero=>grind
 | succ k ih =>
  grind [List.range_succ]
theorem nL {x:Inst} {l:List Vis} (hi:Inr x l) (hn:x.orders.length<=10):Xw ((YO l:Nat):Int) 63=((List.range x.orders.length).filter fun (i:Nat)=>XR l (i:Int)).map fun (i:Nat)=>(i:Int):=by
 have key: ∀i:Nat,i<=62->Ja ((YO l:Nat):Int) (i:Int)=XR l (i:Int):=fun i h=>by
  rw [CP _ _ h,Bool.eq_iff_iff,J5,Vu]
  constructor
  ·rintro ⟨v,hv,e⟩;exact ⟨v,hv,by have:=hi v hv;omega⟩
  grind
 unfold Xw;rw [List.filter_congr (q:=fun (i:Nat)=>XR l (i:Int)) (fun i hm=>key i (by grind)),DF (n:=x.orders.length) (fun i h=> ?_) 63 Za]
 cases hh:XR l (i:Int) with
 | false=>rfl
 | true =>
  obtain ⟨v,hv,e⟩:=Vu.1 hh;have:=hi v hv;omega
theorem Iy {x:Inst} {d:Nat} : ∀(L:List Nat) (g:Nat->Int),(L.map fun (i:Nat)=>(i:Int)).foldl (fun s (i:Int)=>if (nth x.orders i.toNat).pick.place<0 then Jo s (nth x.orders i.toNat).load else s) ((List.range d).map g)=(List.range d).map fun j=>g j+(L.map fun i=>if (nth x.orders i).pick.place<0 then nth (nth x.orders i).load j else 0).sum
 | [],g=>Zb
 | i::L,g=>by
  rw [List.map_cons,List.foldl_cons,Int.toNat_natCast]
  by_cases h:(nth x.orders i).pick.place<0
  ·have e:Jo ((List.range d).map g) (nth x.orders i).load=(List.range d).map fun j=>g j+nth (nth x.orders i).load j:=by
    grind [Jo,List.map_congr_left,WL]
   rw [if_pos h,e,Iy L]
   grind
  ·rw [if_neg h,Iy L]
   grind
theorem G3 {x:Inst} {l:List Vis} (hi:Inr x l) (hn:x.orders.length<=10):FE x (dimsOf x.types).toNat (Xw ((YO l:Nat):Int) 63) (Xw ((YO l:Nat):Int) 63).length=Yx x l 0:=by
 rw [FE,List.take_length,nL hi hn];have:=Iy (x:=x) (d:=(dimsOf x.types).toNat) ((List.range x.orders.length).filter fun (i:Nat)=>XR l (i:Int)) fun _=>0
 have e:(List.range (dimsOf x.types).toNat).map (fun _=>(0:Int))=List.replicate (dimsOf x.types).toNat 0:=by
  simp_all [List.map_const']
 rw [e] at this;rw [this,Yx];refine List.map_congr_left fun j _=> ?_;rw [Int.zero_add,UG,Kr]
 congr 1
 refine List.map_congr_left fun i _=> ?_
 grind [Lb]
theorem L8 {x:Inst} {l:List Vis} {n j:Nat} {d:Nat} (hj:j<d) (hld: ∀o∈x.orders,o.load.length=d/\ ∀n∈o.load,0<=n/\n<=1000) (hn:x.orders.length<=10):0<=Kr x l n j/\Kr x l n j<=10000:=by
 have key:=FG (f:=fun i=>if i<x.orders.length then (if (Dg x l n i&&XR l i)=true then nth (nth x.orders i).load j else 0) else 0) (b:=1000) Za (fun q=>by
  grind [Zu]) x.orders.length
 have e:Kr x l n j=((List.range x.orders.length).map fun i=>if i<x.orders.length then (if (Dg x l n i&&XR l i)=true then nth (nth x.orders i).load j else 0) else 0).sum:=by
  simp_all [Kr,List.map_congr_left]
 omega
theorem Hn {x:Inst} {l:List Vis} {n j:Nat} (hj:j<(dimsOf x.types).toNat) (hd:LdOk x):0<=nth (Yx x l n) j/\nth (Yx x l n) j<=10000:=by
 rw [Yx,WL hj];exact L8 hj (fun o ho=>by obtain ⟨h1,h2⟩:=hd.load o ho;grind) hd.ord
def UE (c m o w:Int):AM.Obj:= .cells [.p (.int .i64 c),.p (.int .i64 m),.p (.int .i64 o),.p (.int .i64 w)]
theorem Jz {x:Inst} {l:List Vis} {t:Int} : ∀n:Nat,(0<=(chgF x l t n).1/\(chgF x l t n).1<=n)/\(0<=(chgF x l t n).2/\(chgF x l t n).2<=n)
 | 0=>by simp [chgF]
 | n+1=>by
  have ih:=Jz (x:=x) (l:=l) (t:=t) n
  grind [chgF]
theorem SqOk.len {x:Inst} {l:List Vis} (h:SqOk x l) (hn:x.orders.length<=10):l.length<=20:=by
 have h1:=List.Nodup.length_le_of_subset (l₁ :=l) (l₂ :=(List.range 10).flatMap fun i:Nat=> [(⟨(i:Int),false⟩:Vis),⟨(i:Int),true⟩]) h.nd (fun v hv=>by
  obtain ⟨v1,v2⟩:=h.inr v hv;rw [List.mem_flatMap];refine ⟨v.order.toNat,List.mem_range.2 Za,?_⟩;obtain ⟨o,d⟩:=v
  have e:((o.toNat:Nat):Int)=o:=by grind
  simp_all)
 have h2:((List.range 10).flatMap fun i:Nat=> [(⟨(i:Int),false⟩:Vis),⟨(i:Int),true⟩]).length=20:=rfl;omega
theorem SqOk.vis {x:Inst} {l:List Vis} (h:SqOk x l) {v:Vis} (hv:v∈l):Oq x v=true:=by
 obtain ⟨v1,v2⟩:=h.inr v hv;obtain ⟨i,hi⟩: ∃i:Nat,v.order=(i:Int):=⟨v.order.toNat,Za⟩;have ho:=h.own (i:=i) ⟨v,hv,hi⟩
 have hpl:0<=(Y8 x v).place:=by
  unfold Y8;rw [hi,Int.toNat_natCast]
  cases hd:v.drp with
  | true=>exact ho.isD (by rw [<- hi,<- hd];exact hv)
  | false=>exact ho.isP (by rw [<- hi,<- hd];exact hv)
 simp [Oq,RH,v1,v2,hpl]
theorem NF {n:Net} (h:netOk n):netR n/\ ∀a∈n.arcs,0<=a.miles/\a.miles<=10000:=by
 obtain ⟨⟨⟨h1,_⟩,h2⟩,h3⟩:=h
 have ha: ∀a∈n.arcs,PB a/\0<=a.miles/\a.miles<=10000:=fun a hm=>by
  obtain ⟨i,hi,rfl⟩:=List.mem_iff_getElem.1 hm;have:=h3 i hi;unfold BM at this;rw [Zi hi] at this;obtain ⟨⟨⟨⟨⟨_,g1⟩,_⟩,g2⟩,g3⟩,g4⟩:=this;refine ⟨⟨g2,g3,fun p hp=> ?_⟩,g1.2.2.1,g1.2.2.2.1⟩;obtain ⟨j,hj,rfl⟩:=List.mem_iff_getElem.1 hp
  simp_all [VG,Zi,Bo,rng]
 exact ⟨⟨Za,Za,fun a hm=>(ha a hm).1⟩,fun a hm=>(ha a hm).2⟩
theorem Kw {x:Inst} (hx:InstOk x) {i:Nat} (hi:i<x.types.length):(0<=(nth x.types i).opn/\(nth x.types i).opn<=(nth x.types i).cls/\(nth x.types i).cls<=4096)/\(1<=(nth x.types i).drive/\(nth x.types i).drive<=4096)/\(0<=(nth x.types i).rest/\(nth x.types i).rest<=4096) /\
  (0<=(nth x.types i).fixed/\(nth x.types i).fixed<=100000/\0<=(nth x.types i).perMile/\(nth x.types i).perMile<=100/\0<=(nth x.types i).perTick/\(nth x.types i).perTick<=100)/\(0<=(nth x.types i).skills/\(nth x.types i).skills<=1073741823):=by
 have ht:=hx.types.2 i hi
 simp_all [Q5,rng]
theorem Kv {x:Inst} {r:Rte} (hx:InstOk x) (ht:0<=r.typ/\r.typ<(x.types.length:Int)) (h:SqOk x r.visits):TrpOk x (Z1 x r) (XV x r.visits):=by
 have hti:r.typ.toNat<x.types.length:=Za
 obtain ⟨t1,t2,t3,_⟩:=Kw hx hti;obtain ⟨n1,n2⟩:=NF hx.net;refine ⟨n1,n2,t1,t2,t3,fun s hs=> ?_,by rw [XW];exact h.len hx.orders.1⟩;obtain ⟨v,hv,rfl⟩:=List.mem_map.1 hs;obtain ⟨v1,v2⟩:=h.inr v hv
 have hi:v.order.toNat<x.orders.length:=Za
 have ho:=hx.orders.2 _ hi;have hvis:=h.vis hv;have hp:=ho.pstp;have hd:=ho.dstp;simp only [stpOk,decide_eq_true_eq] at hp hd;simp only [Oq,Bool.and_eq_true,decide_eq_true_eq] at hvis;have h3:=hvis.2;unfold Y8 at h3 ⊢
 grind
theorem CK {x t sp} (h:TrpOk x t sp): ∀(bs:List Bool) (k:Nat) (L:Lab),k+bs.length=sp.length+1->LabR k L->(XJ x t sp k L bs).2=0->LabR (sp.length+1) (XJ x t sp k L bs).1/\(bs≠ []->(XJ x t sp k L bs).1.she.fin=(XJ x t sp k L bs).1.ready)
 | [],k,L,hk,hl,h0=>by
  simp at hk;subst hk;exact ⟨hl,fun h=>absurd rfl h⟩
 | b::bs,k,L,hk,hl,h0=>by
  simp at hk;rw [XJ] at h0 ⊢
  split at h0
  ·rename_i c;rw [if_pos c];obtain ⟨h1,h2⟩:=CK h bs (k+1) _ Za (Fm h Za hl c) h0;refine ⟨h1,fun _=> ?_⟩
   cases bs with
   | nil =>
    simp at hk;subst hk;exact Cv (x:=x) (t:=t) (sp:=sp) (y:=L) (b:=b) (by rw [Xh,if_pos c];rfl)
   | cons b2 bs=>grind
  omega
theorem BW {x t sp} {st:Int} {r:List Bool} (h:TrpOk x t sp) (hs:0<=st/\st<=4096) (hr:r.length<=sp.length+1) (h0:(Vl x t sp st r).2=0):(0<=(Vl x t sp st r).1.fin/\(Vl x t sp st r).1.fin<=8192)/\(0<=(Vl x t sp st r).1.miles/\(Vl x t sp st r).1.miles<=210000):=by
 have hL0:LabR 0 (Xz t st):=⟨by have:=h.opn;grind [Xz],by simp [Xz],by simp [Xz,zShe]⟩;have hl:=h.len
 have key: ∀bs∈Wy r (sp.length+1),(XJ x t sp 0 (Xz t st) bs).2=0->(0<=(XJ x t sp 0 (Xz t st) bs).1.she.fin/\(XJ x t sp 0 (Xz t st) bs).1.she.fin<=8192)/\(0<=(XJ x t sp 0 (Xz t st) bs).1.she.miles/\(XJ x t sp 0 (Xz t st) bs).1.she.miles<=210000):=fun bs hbs he=>by
  obtain ⟨q,hq,rfl⟩:=List.mem_map.1 hbs;have hql:=bestF_len.fromB_len _ _ hq;simp at hql
  have hne:r++q≠ []:=fun e=>by
   simp_all
  obtain ⟨g1,g2⟩:=CK h (r++q) 0 _ (by simp;omega) hL0 he;rw [g2 hne];have:=g1.rdy;have:=g1.mil;omega
 unfold Vl at h0 ⊢
 cases hf:Wa Yj none ((Wy r (sp.length+1)).filterMap (UC (Xh x t sp) 0 (Xz t st))) with
 | some L =>
  simp only;have:=bestF_len.fmL_mem _ _ hf
  grind [VE]
 | none =>
  grind [zShe]
theorem Bp {g:FuncId} {args:List V} {a b c:PV} {H:List AM.Obj} {K:V->List AM.Obj->Prop} (h:ACalls Tryz.prog g args [] fun x H'=>x= .tup [.p a,.p b,.p c]/\H'= []) (k:K (.tup [.p a,.p b,.p c]) H) (ha:ZE 0 args=true:=by rfl):ACalls Tryz.prog g args H K:=FJ h k ha
def K1 (x:Inst) (r:Rte):V:= .tup [.p (Gh (WG x r)),.p (Q6 (Uf x r)),.p (.int .i64 (Z3 x r))]
theorem YS {x:Inst} {r:Rte} {e:Int} (h:Z3 x r=e) (h0:e≠0):K1 x r= .tup [.p (Gh zShe),.p (Q6 zSco),.p (.int .i64 e)]:=by
 simp_all [K1,WG,Uf]
end Go.Proofs.YtmbelkfkhclnkaaGreatDoor.K
