/- Declarations that the closing texts need, part 11: joined by tools/slim.py. -/
import Derived.Test.YtenjikkmmibffaaGreatDoorI10
import Derived.Test.YtenjikkmmibffaaGreatDoorRows
namespace Go.Proofs.YtenjikkmmibffaaGreatDoor.K
open Go Go.AM Go.Proofs
theorem O2 : Tryz.prog.cellsOf 3=1:=Ze
theorem ZmZ : Tryz.prog.cellsOf 4=1:=Ze
theorem Zhu : Tryz.prog.cellsOf 9=1:=Ze
theorem Zhl : Tryz.prog.cellsOf 22=1:=Ze
theorem Zhm : Tryz.prog.cellsOf 23=1:=Ze
theorem vT : Tryz.prog.cellsOf 25=2:=Ze
theorem Zjq : F2 Tryz.prog 25=some [(0,22),(1,23)]:=Ze
theorem Zhn : Tryz.prog.cellsOf 26=1:=Ze
theorem Zho : Tryz.prog.cellsOf 27=1:=Ze
theorem Zhp : Tryz.prog.cellsOf 28=1:=Ze
theorem Zhq : Tryz.prog.cellsOf 30=6:=Ze
theorem wM : F2 Tryz.prog 30=some [(0,25),(2,26),(3,27),(4,28),(5,28)]:=Ze
theorem Zhr : Tryz.prog.cellsOf 32=2:=Ze
theorem wN : F2 Tryz.prog 32=some [(0,3),(1,3)]:=Ze
theorem vU : Tryz.prog.cellsOf 34=1:=Ze
theorem Zhs : Tryz.prog.cellsOf 71=14:=Ze
theorem wO : F2 Tryz.prog 71=some [(0,9),(1,3),(2,3),(3,3),(4,34),(5,3),(6,3),(7,3),(8,3),(9,3),(10,3),(11,3),(12,3),(13,3)]:=Ze
theorem vV : Tryz.prog.cellsOf 73=4:=Ze
theorem Zjr : F2 Tryz.prog 73=some [(0,3),(1,3),(2,3),(3,3)]:=Ze
theorem Zht : Tryz.prog.cellsOf 75=16:=Ze
theorem wP : F2 Tryz.prog 75=some [(0,9),(1,34),(2,73),(6,73),(10,3),(11,3),(12,3),(13,3),(14,3),(15,4)]:=Ze
theorem yT : Tryz.prog.cellsOf 105=2:=Ze
theorem lH : F2 Tryz.prog 105=some [(0,3),(1,3)]:=Ze
theorem yU : Tryz.prog.cellsOf 182=1:=Ze
theorem yV : Tryz.prog.cellsOf 184=6:=Ze
theorem lI : F2 Tryz.prog 184=some [(0,3),(1,3),(2,3),(3,3),(4,182),(5,182)]:=Ze
theorem yW : Tryz.prog.cellsOf 187=2:=Ze
theorem lJ : F2 Tryz.prog 187=some [(0,3),(1,3)]:=Ze
set_option linter.unusedVariables false
set_option linter.unusedSimpArgs false
mutual
theorem O7 {H:Type} :(d:DataW H)->GN d<=Rows.uptoBulk d
 | .lit l=>by cases l<;>simp [GN,Rows.uptoBulk]
 | .nil=>by simp [GN,Rows.uptoBulk]
 | .ptr d=>by have:=O7 d;simp only [GN,Rows.uptoBulk];omega
 | .slice es sp=>by have:=B3 es;have:=B3 sp;simp only [GN,Rows.uptoBulk];omega
 | .agg ps=>by have:=B3 ps;simp only [GN,Rows.uptoBulk];omega
 | .iface _ d=>by have:=O7 d;simp only [GN,Rows.uptoBulk];omega
 | .map es=>by simp only [GN,Rows.uptoBulk];omega
 | .held h=>by simp [GN,Rows.uptoBulk]
theorem B3 {H:Type} :(l:List (DataW H))->Kw l<=Rows.uptoBulkAll l
 | []=>by simp [Kw,Rows.uptoBulkAll]
 | d::r=>by have:=O7 d;have:=B3 r;simp only [Kw,Rows.uptoBulkAll];omega
end
theorem P3 {H:Type} {l:List (DataW H)} (h:Rows.uptoSmall H l=true):Kw l<=1048576:=by
 have h1:=B3 l;have h2:Rows.uptoBulkAll l<=1048576:=Av h;omega
abbrev U5 (n:Int):Prop:= -9223372036854775808<=n/\n<=9223372036854775807
def eI (n:Int):PV:= .int .i64 n
def eB (b:Bool):PV:= .bool b
def eS (s:List UInt8):PV:= .str s
def eP (p:Int×Int):PV:= .agg [.int .i64 p.1,.int .i64 p.2]
@[go_sem] theorem Zpt (n:Int):eI n= .int .i64 n:=Zl rfl rfl
@[go_sem] theorem Zpr (b:Bool):eB b= .bool b:=Zl rfl rfl
@[go_sem] theorem Zpx (s:List UInt8):eS s= .str s:=Zl rfl rfl
@[go_sem] theorem Zpv (p:Int×Int):eP p= .agg [.int .i64 p.1,.int .i64 p.2]:=Zl rfl rfl
@[go_sem] theorem ZnI (l:List Int):KQ 1 (l.map eI)=true:=QD fun _=>rfl
@[go_sem] theorem ZkZ (l:List Bool):BT 1 (l.map eB)=true:=BU (f:=eB) (S:=1) (fun _=>rfl) l
@[go_sem] theorem ZnG (l:List Bool):KQ 1 (l.map eB)=true:=QD fun _=>rfl
theorem MT {B xs} (h: ∀y∈xs,FitV Tryz.prog B 3 y): ∃l:List Int,xs=l.map eI/\ ∀n∈l,U5 n :=
 VQ (f:=eI) fun y hy=>by
  obtain ⟨n,rfl,w⟩:=rB Tryz.underlying3 (h y hy);exact ⟨n,rfl,XC w⟩
theorem gY {B xs} (h: ∀y∈xs,FitV Tryz.prog B 9 y): ∃l:List (List UInt8),xs=l.map eS/\ ∀s∈l,s.length<=B :=
 VQ (f:=eS) fun y hy=>by
  obtain ⟨s,rfl,w,_⟩:=rC Tryz.underlying9 (h y hy);exact ⟨s,rfl,w⟩
theorem rV {α:Type} {l:List α} (h:l.length=2): ∃a0 a1,l= [a0,a1]:=by
 match l,h with | [a0,a1],_=>simp
theorem Zi4 {α:Type} {l:List α} (h:l.length=6): ∃a0 a1 a2 a3 a4 a5,l= [a0,a1,a2,a3,a4,a5]:=by
 match l,h with | [a0,a1,a2,a3,a4,a5],_=>simp
theorem Zi2 {α:Type} {l:List α} (h:l.length=14): ∃a0 a1 a2 a3 a4 a5 a6 a7 a8 a9 a10 a11 a12 a13,l= [a0,a1,a2,a3,a4,a5,a6,a7,a8,a9,a10,a11,a12,a13]:=by
 match l,h with | [a0,a1,a2,a3,a4,a5,a6,a7,a8,a9,a10,a11,a12,a13],_=>simp
theorem Znt {α:Type} {l:List α} (h:l.length=4): ∃a0 a1 a2 a3,l= [a0,a1,a2,a3]:=by
 match l,h with | [a0,a1,a2,a3],_=>simp
theorem Zi3 {α:Type} {l:List α} (h:l.length=16): ∃a0 a1 a2 a3 a4 a5 a6 a7 a8 a9 a10 a11 a12 a13 a14 a15,l= [a0,a1,a2,a3,a4,a5,a6,a7,a8,a9,a10,a11,a12,a13,a14,a15]:=by
 match l,h with | [a0,a1,a2,a3,a4,a5,a6,a7,a8,a9,a10,a11,a12,a13,a14,a15],_=>grind
structure Pt where
 t:Int
 a:Int
 deriving Inhabited
def cPt (x:Pt):List PV:= [.int .i64 x.t,.int .i64 x.a]
def Hq (x:Pt):PV:= .agg [.int .i64 x.t,.int .i64 x.a]
@[go_sem] theorem Zm0 (x:Pt):Hq x= .agg [.int .i64 x.t,.int .i64 x.a]:=Zl rfl rfl
def Pt.wf (B:Nat) (x:Pt):Prop:=U5 x.t/\U5 x.a
theorem rE {B m cs} (h:Wn Tryz.prog B m 187 cs): ∃x:Pt,cs=cPt x/\x.wf B:=by
 obtain ⟨h1,m',h2⟩:=VC lJ yW h;obtain ⟨a0,a1,rfl⟩:=rV h1;obtain ⟨n0,e0,w0⟩:=ZZ Tryz.underlying3 (h2 (0,3) Zb);obtain ⟨n1,e1,w1⟩:=ZZ Tryz.underlying3 (h2 (1,3) Zb);simp [O2] at e0 e1;subst e0;subst e1;exact ⟨⟨n0,n1⟩,rfl,XC w0,XC w1⟩
theorem gX {B v} (h:FitV Tryz.prog B 187 v): ∃x:Pt,v=Hq x/\x.wf B:=by
 obtain ⟨k,cs,h,e⟩:=h.out;obtain ⟨x,rfl,hw⟩:=rE h;exact ⟨x,e.trans (by rw [Jp,if_pos (VN lJ)];rfl),hw⟩
structure Arc where
 src:Int
 dst:Int
 prof:Int
 miles:Int
 travel_c:Bool
 travel:List (Pt)
 slow_c:Bool
 slow:List (Pt)
 deriving Inhabited
def ZmW (x:Arc):List PV:= [.int .i64 x.src,.int .i64 x.dst,.int .i64 x.prof,.int .i64 x.miles,.list x.travel_c (x.travel.map Hq),.list x.slow_c (x.slow.map Hq)]
def VW (x:Arc):PV:= .agg [.int .i64 x.src,.int .i64 x.dst,.int .i64 x.prof,.int .i64 x.miles,.list x.travel_c (x.travel.map Hq),.list x.slow_c (x.slow.map Hq)]
@[go_sem] theorem Zk8 (x:Arc):VW x= .agg [.int .i64 x.src,.int .i64 x.dst,.int .i64 x.prof,.int .i64 x.miles,.list x.travel_c (x.travel.map Hq),.list x.slow_c (x.slow.map Hq)]:=Zl rfl rfl
def Arc.wf (B:Nat) (x:Arc):Prop:=U5 x.src/\U5 x.dst/\U5 x.prof/\U5 x.miles/\x.travel.length<=B/\(∀y∈x.travel,Pt.wf B y)/\x.slow.length<=B/\(∀y∈x.slow,Pt.wf B y)
theorem iA {B m cs} (h:Wn Tryz.prog B m 184 cs): ∃x:Arc,cs=ZmW x/\x.wf B:=by
 obtain ⟨h1,m',h2⟩:=VC lI yV h;obtain ⟨a0,a1,a2,a3,a4,a5,rfl⟩:=Zi4 h1;obtain ⟨n0,e0,w0⟩:=ZZ Tryz.underlying3 (h2 (0,3) Zb);obtain ⟨n1,e1,w1⟩:=ZZ Tryz.underlying3 (h2 (1,3) Zb);obtain ⟨n2,e2,w2⟩:=ZZ Tryz.underlying3 (h2 (2,3) Zb);obtain ⟨n3,e3,w3⟩:=ZZ Tryz.underlying3 (h2 (3,3) Zb);obtain ⟨y4,e4,w4,_,z4⟩:=Yo Tryz.underlying182 (h2 (4,182) Zb);obtain ⟨n4,rfl,u4⟩:=VQ (f:=Hq) fun y hy=>gX (z4 y hy);obtain ⟨y5,e5,w5,_,z5⟩:=Yo Tryz.underlying182 (h2 (5,182) Zb)
 obtain ⟨n5,rfl,u5⟩:=VQ (f:=Hq) fun y hy=>gX (z5 y hy);simp [yU,O2] at e0 e1 e2 e3 e4 e5;subst e0;subst e1;subst e2;subst e3;subst e4;subst e5;exact ⟨⟨n0,n1,n2,n3,false,n4,false,n5⟩,rfl,XC w0,XC w1,XC w2,XC w3,by grind,u4,by grind,u5⟩
theorem qY {B v} (h:FitV Tryz.prog B 184 v): ∃x:Arc,v=VW x/\x.wf B:=by
 obtain ⟨k,cs,h,e⟩:=h.out;obtain ⟨x,rfl,hw⟩:=iA h;exact ⟨x,e.trans (by rw [Jp,if_pos (VN lI)];rfl),hw⟩
structure Net where
 places_c:Bool
 places:List (List UInt8)
 arcs_c:Bool
 arcs:List (Arc)
 deriving Inhabited
def Zhk (x:Net):List PV:= [.list x.places_c (x.places.map eS),.list x.arcs_c (x.arcs.map VW)]
def B4 (x:Net):PV:= .agg [.list x.places_c (x.places.map eS),.list x.arcs_c (x.arcs.map VW)]
@[go_sem] theorem Zld (x:Net):B4 x= .agg [.list x.places_c (x.places.map eS),.list x.arcs_c (x.arcs.map VW)]:=Zl rfl rfl
def Net.wf (B:Nat) (x:Net):Prop:=x.places.length<=B/\(∀s∈x.places,s.length<=B)/\x.arcs.length<=B/\(∀y∈x.arcs,Arc.wf B y)
theorem iC {B m cs} (h:Wn Tryz.prog B m 25 cs): ∃x:Net,cs=Zhk x/\x.wf B:=by
 obtain ⟨h1,m',h2⟩:=VC Zjq vT h;obtain ⟨a0,a1,rfl⟩:=rV h1;obtain ⟨y0,e0,w0,_,z0⟩:=Yo Tryz.underlying22 (h2 (0,22) Zb);obtain ⟨n0,rfl,u0⟩:=gY z0;obtain ⟨y1,e1,w1,_,z1⟩:=Yo Tryz.underlying23 (h2 (1,23) Zb);obtain ⟨n1,rfl,u1⟩:=VQ (f:=VW) fun y hy=>qY (z1 y hy);simp [Zhm,Zhl] at e0 e1;subst e0;subst e1;exact ⟨⟨false,n0,false,n1⟩,rfl,by grind,u0,by grind,u1⟩
structure Typ where
 name:List UInt8
 count:Int
 src:Int
 dst:Int
 cap_c:Bool
 cap:List (Int)
 skills:Int
 prof:Int
 opn:Int
 cls:Int
 drive:Int
 rest:Int
 fixed:Int
 perMile:Int
 perTick:Int
 deriving Inhabited
def Kt (x:Typ):List PV:= [.str x.name,.int .i64 x.count,.int .i64 x.src,.int .i64 x.dst,.list x.cap_c (x.cap.map eI),.int .i64 x.skills,.int .i64 x.prof,.int .i64 x.opn,.int .i64 x.cls,.int .i64 x.drive,.int .i64 x.rest,.int .i64 x.fixed,.int .i64 x.perMile,.int .i64 x.perTick]
def X4 (x:Typ):PV:= .agg [.str x.name,.int .i64 x.count,.int .i64 x.src,.int .i64 x.dst,.list x.cap_c (x.cap.map eI),.int .i64 x.skills,.int .i64 x.prof,.int .i64 x.opn,.int .i64 x.cls,.int .i64 x.drive,.int .i64 x.rest,.int .i64 x.fixed,.int .i64 x.perMile,.int .i64 x.perTick]
@[go_sem] theorem Zln (x:Typ):X4 x= .agg [.str x.name,.int .i64 x.count,.int .i64 x.src,.int .i64 x.dst,.list x.cap_c (x.cap.map eI),.int .i64 x.skills,.int .i64 x.prof,.int .i64 x.opn,.int .i64 x.cls,.int .i64 x.drive,.int .i64 x.rest,.int .i64 x.fixed,.int .i64 x.perMile,.int .i64 x.perTick]:=Zl rfl rfl
@[go_sem] theorem Zjk (l:List Typ):KQ 14 (l.map X4)=true:=QD fun _=>rfl
def Typ.wf (B:Nat) (x:Typ):Prop:=x.name.length<=B/\U5 x.count/\U5 x.src/\U5 x.dst/\x.cap.length<=B/\(∀n∈x.cap,U5 n)/\U5 x.skills/\U5 x.prof/\U5 x.opn/\U5 x.cls/\U5 x.drive/\U5 x.rest/\U5 x.fixed/\U5 x.perMile/\U5 x.perTick
theorem iE {B m cs} (h:Wn Tryz.prog B m 71 cs): ∃x:Typ,cs=Kt x/\x.wf B:=by
 obtain ⟨h1,m',h2⟩:=VC wO Zhs h;obtain ⟨a0,a1,a2,a3,a4,a5,a6,a7,a8,a9,a10,a11,a12,a13,rfl⟩:=Zi2 h1;obtain ⟨n0,e0,w0,_⟩:=FB Tryz.underlying9 (h2 (0,9) Zb);obtain ⟨n1,e1,w1⟩:=ZZ Tryz.underlying3 (h2 (1,3) Zb);obtain ⟨n2,e2,w2⟩:=ZZ Tryz.underlying3 (h2 (2,3) Zb);obtain ⟨n3,e3,w3⟩:=ZZ Tryz.underlying3 (h2 (3,3) Zb);obtain ⟨y4,e4,w4,_,z4⟩:=Yo Tryz.underlying34 (h2 (4,34) Zb);obtain ⟨n4,rfl,u4⟩:=MT z4;obtain ⟨n5,e5,w5⟩:=ZZ Tryz.underlying3 (h2 (5,3) Zb)
 obtain ⟨n6,e6,w6⟩:=ZZ Tryz.underlying3 (h2 (6,3) Zb);obtain ⟨n7,e7,w7⟩:=ZZ Tryz.underlying3 (h2 (7,3) Zb);obtain ⟨n8,e8,w8⟩:=ZZ Tryz.underlying3 (h2 (8,3) Zb);obtain ⟨n9,e9,w9⟩:=ZZ Tryz.underlying3 (h2 (9,3) Zb);obtain ⟨n10,e10,w10⟩:=ZZ Tryz.underlying3 (h2 (10,3) Zb);obtain ⟨n11,e11,w11⟩:=ZZ Tryz.underlying3 (h2 (11,3) Zb);obtain ⟨n12,e12,w12⟩:=ZZ Tryz.underlying3 (h2 (12,3) Zb);obtain ⟨n13,e13,w13⟩:=ZZ Tryz.underlying3 (h2 (13,3) Zb);simp [vU,O2,Zhu] at e0 e1 e2 e3 e4 e5 e6 e7 e8 e9 e10 e11 e12 e13
 subst e0;subst e1;subst e2;subst e3;subst e4;subst e5;subst e6;subst e7;subst e8;subst e9;subst e10;subst e11;subst e12;subst e13;exact ⟨⟨n0,n1,n2,n3,false,n4,n5,n6,n7,n8,n9,n10,n11,n12,n13⟩,rfl,w0,XC w1,XC w2,XC w3,by grind,u4,XC w5,XC w6,XC w7,XC w8,XC w9,XC w10,XC w11,XC w12,XC w13⟩
theorem rA {B v} (h:FitV Tryz.prog B 71 v): ∃x:Typ,v=X4 x/\x.wf B:=by
 obtain ⟨k,cs,h,e⟩:=h.out;obtain ⟨x,rfl,hw⟩:=iE h;exact ⟨x,e.trans (by rw [Jp,if_pos (VN wO)];rfl),hw⟩
structure Stp where
 place:Int
 opn:Int
 cls:Int
 serv:Int
 deriving Inhabited
def A2 (x:Stp):List PV:= [.int .i64 x.place,.int .i64 x.opn,.int .i64 x.cls,.int .i64 x.serv]
def Ft (x:Stp):PV:= .agg [.int .i64 x.place,.int .i64 x.opn,.int .i64 x.cls,.int .i64 x.serv]
@[go_sem] theorem Zlk (x:Stp):Ft x= .agg [.int .i64 x.place,.int .i64 x.opn,.int .i64 x.cls,.int .i64 x.serv]:=Zl rfl rfl
def Stp.wf (B:Nat) (x:Stp):Prop:=U5 x.place/\U5 x.opn/\U5 x.cls/\U5 x.serv
theorem MU {B m cs} (h:Wn Tryz.prog B m 73 cs): ∃x:Stp,cs=A2 x/\x.wf B:=by
 obtain ⟨h1,m',h2⟩:=VC Zjr vV h;obtain ⟨a0,a1,a2,a3,rfl⟩:=Znt h1;obtain ⟨n0,e0,w0⟩:=ZZ Tryz.underlying3 (h2 (0,3) Zb);obtain ⟨n1,e1,w1⟩:=ZZ Tryz.underlying3 (h2 (1,3) Zb);obtain ⟨n2,e2,w2⟩:=ZZ Tryz.underlying3 (h2 (2,3) Zb);obtain ⟨n3,e3,w3⟩:=ZZ Tryz.underlying3 (h2 (3,3) Zb);simp [O2] at e0 e1 e2 e3;subst e0;subst e1;subst e2;subst e3;exact ⟨⟨n0,n1,n2,n3⟩,rfl,XC w0,XC w1,XC w2,XC w3⟩
theorem vW {B v} (h:FitV Tryz.prog B 105 v): ∃x:Int×Int,v=eP x/\U5 x.1/\U5 x.2:=by
 obtain ⟨k,cs,h,e⟩:=h.out;obtain ⟨h1,m',h2⟩:=VC lH yT h;obtain ⟨a,b,rfl⟩:=rV h1;obtain ⟨n0,e0,w0⟩:=ZZ Tryz.underlying3 (h2 (0,3) Zb);obtain ⟨n1,e1,w1⟩:=ZZ Tryz.underlying3 (h2 (1,3) Zb);simp [O2] at e0 e1;subst e0;subst e1;exact ⟨(n0,n1),e.trans (by rw [Jp,if_pos (VN lH)];rfl),XC w0,XC w1⟩
structure Ord where
 name:List UInt8
 load_c:Bool
 load:List (Int)
 pick:Stp
 drp:Stp
 skills:Int
 penalty:Int
 split:Int
 last:Int
 now:Int
 off:Bool
 deriving Inhabited
def ZmY (x:Ord):List PV:= [.str x.name,.list x.load_c (x.load.map eI),.int .i64 x.pick.place,.int .i64 x.pick.opn,.int .i64 x.pick.cls,.int .i64 x.pick.serv,.int .i64 x.drp.place,.int .i64 x.drp.opn,.int .i64 x.drp.cls,.int .i64 x.drp.serv,.int .i64 x.skills,.int .i64 x.penalty,.int .i64 x.split,.int .i64 x.last,.int .i64 x.now,.bool x.off]
def Yh (x:Ord):PV:= .agg [.str x.name,.list x.load_c (x.load.map eI),.int .i64 x.pick.place,.int .i64 x.pick.opn,.int .i64 x.pick.cls,.int .i64 x.pick.serv,.int .i64 x.drp.place,.int .i64 x.drp.opn,.int .i64 x.drp.cls,.int .i64 x.drp.serv,.int .i64 x.skills,.int .i64 x.penalty,.int .i64 x.split,.int .i64 x.last,.int .i64 x.now,.bool x.off]
@[go_sem] theorem Zle (x:Ord):Yh x= .agg [.str x.name,.list x.load_c (x.load.map eI),.int .i64 x.pick.place,.int .i64 x.pick.opn,.int .i64 x.pick.cls,.int .i64 x.pick.serv,.int .i64 x.drp.place,.int .i64 x.drp.opn,.int .i64 x.drp.cls,.int .i64 x.drp.serv,.int .i64 x.skills,.int .i64 x.penalty,.int .i64 x.split,.int .i64 x.last,.int .i64 x.now,.bool x.off]:=Zl rfl rfl
@[go_sem] theorem Zji (l:List Ord):KQ 16 (l.map Yh)=true:=QD fun _=>rfl
def Ord.wf (B:Nat) (x:Ord):Prop:=x.name.length<=B/\x.load.length<=B/\(∀n∈x.load,U5 n)/\Stp.wf B x.pick/\Stp.wf B x.drp/\U5 x.skills/\U5 x.penalty/\U5 x.split/\U5 x.last/\U5 x.now
theorem iD {B m cs} (h:Wn Tryz.prog B m 75 cs): ∃x:Ord,cs=ZmY x/\x.wf B:=by
 obtain ⟨h1,m',h2⟩:=VC wP Zht h;obtain ⟨a0,a1,a2,a3,a4,a5,a6,a7,a8,a9,a10,a11,a12,a13,a14,a15,rfl⟩:=Zi3 h1;obtain ⟨n0,e0,w0,_⟩:=FB Tryz.underlying9 (h2 (0,9) Zb);obtain ⟨y1,e1,w1,_,z1⟩:=Yo Tryz.underlying34 (h2 (1,34) Zb);obtain ⟨n1,rfl,u1⟩:=MT z1;obtain ⟨n2,e2,w2⟩:=MU (h2 (2,73) Zb);obtain ⟨n3,e3,w3⟩:=MU (h2 (6,73) Zb);obtain ⟨n4,e4,w4⟩:=ZZ Tryz.underlying3 (h2 (10,3) Zb);obtain ⟨n5,e5,w5⟩:=ZZ Tryz.underlying3 (h2 (11,3) Zb);obtain ⟨n6,e6,w6⟩:=ZZ Tryz.underlying3 (h2 (12,3) Zb)
 obtain ⟨n7,e7,w7⟩:=ZZ Tryz.underlying3 (h2 (13,3) Zb);obtain ⟨n8,e8,w8⟩:=ZZ Tryz.underlying3 (h2 (14,3) Zb);obtain ⟨n9,e9⟩:=TT Tryz.underlying4 (h2 (15,4) Zb);simp [vU,vV,ZmZ,O2,Zhu,A2,A2] at e0 e1 e2 e3 e4 e5 e6 e7 e8 e9;subst e0;subst e1;obtain ⟨rfl,rfl,rfl,rfl⟩:=e2;obtain ⟨rfl,rfl,rfl,rfl⟩:=e3;subst e4;subst e5;subst e6;subst e7;subst e8;subst e9;exact ⟨⟨n0,false,n1,n2,n3,n4,n5,n6,n7,n8,n9⟩,rfl,w0,by grind,u1,w2,w3,XC w4,XC w5,XC w6,XC w7,XC w8⟩
theorem qZ {B v} (h:FitV Tryz.prog B 75 v): ∃x:Ord,v=Yh x/\x.wf B:=by
 obtain ⟨k,cs,h,e⟩:=h.out;obtain ⟨x,rfl,hw⟩:=iD h;exact ⟨x,e.trans (by rw [Jp,if_pos (VN wP)];rfl),hw⟩
structure Inst where
 net:Net
 types_c:Bool
 types:List (Typ)
 orders_c:Bool
 orders:List (Ord)
 apart_c:Bool
 apart:List (Int×Int)
 before_c:Bool
 before:List (Int×Int)
 deriving Inhabited
def Zhj (x:Inst):List PV:= [.list x.net.places_c (x.net.places.map eS),.list x.net.arcs_c (x.net.arcs.map VW),.list x.types_c (x.types.map X4),.list x.orders_c (x.orders.map Yh),.list x.apart_c (x.apart.map eP),.list x.before_c (x.before.map eP)]
def Zv (x:Inst):PV:= .agg [.list x.net.places_c (x.net.places.map eS),.list x.net.arcs_c (x.net.arcs.map VW),.list x.types_c (x.types.map X4),.list x.orders_c (x.orders.map Yh),.list x.apart_c (x.apart.map eP),.list x.before_c (x.before.map eP)]
@[go_sem] theorem Zhw (x:Inst):Zv x= .agg [.list x.net.places_c (x.net.places.map eS),.list x.net.arcs_c (x.net.arcs.map VW),.list x.types_c (x.types.map X4),.list x.orders_c (x.orders.map Yh),.list x.apart_c (x.apart.map eP),.list x.before_c (x.before.map eP)]:=Zl rfl rfl
def Inst.wf (B:Nat) (x:Inst):Prop:=Net.wf B x.net/\x.types.length<=B/\(∀y∈x.types,Typ.wf B y)/\x.orders.length<=B/\(∀y∈x.orders,Ord.wf B y)/\x.apart.length<=B/\(∀p∈x.apart,U5 p.1/\U5 p.2)/\x.before.length<=B/\(∀p∈x.before,U5 p.1/\U5 p.2)
theorem TS {B m cs} (h:Wn Tryz.prog B m 30 cs): ∃x:Inst,cs=Zhj x/\x.wf B:=by
 obtain ⟨h1,m',h2⟩:=VC wM Zhq h;obtain ⟨a0,a1,a2,a3,a4,a5,rfl⟩:=Zi4 h1;obtain ⟨n0,e0,w0⟩:=iC (h2 (0,25) Zb);obtain ⟨y1,e1,w1,_,z1⟩:=Yo Tryz.underlying26 (h2 (2,26) Zb);obtain ⟨n1,rfl,u1⟩:=VQ (f:=X4) fun y hy=>rA (z1 y hy);obtain ⟨y2,e2,w2,_,z2⟩:=Yo Tryz.underlying27 (h2 (3,27) Zb);obtain ⟨n2,rfl,u2⟩:=VQ (f:=Yh) fun y hy=>qZ (z2 y hy);obtain ⟨y3,e3,w3,_,z3⟩:=Yo Tryz.underlying28 (h2 (4,28) Zb);obtain ⟨n3,rfl,u3⟩:=VQ (f:=eP) fun y hy=>vW (z3 y hy)
 obtain ⟨y4,e4,w4,_,z4⟩:=Yo Tryz.underlying28 (h2 (5,28) Zb);obtain ⟨n4,rfl,u4⟩:=VQ (f:=eP) fun y hy=>vW (z4 y hy);simp [Zhp,Zho,Zhn,vT,Zhk] at e0 e1 e2 e3 e4;obtain ⟨rfl,rfl⟩:=e0;subst e1;subst e2;subst e3;subst e4;exact ⟨⟨n0,false,n1,false,n2,false,n3,false,n4⟩,rfl,w0,by grind,u1,by grind,u2,by grind,u3,by grind,u4⟩
theorem gV {B v} (h:FitV Tryz.prog B 30 v): ∃x:Inst,v=Zv x/\x.wf B:=by
 obtain ⟨k,cs,h,e⟩:=h.out;obtain ⟨x,rfl,hw⟩:=TS h;exact ⟨x,e.trans (by rw [Jp,if_pos (VN wM)];rfl),hw⟩
structure Vis where
 order:Int
 drp:Bool
 deriving Inhabited
def Z9 (x:Vis):PV:= .agg [.int .i64 x.order,.bool x.drp]
@[go_sem] theorem RH (x:Vis):Z9 x= .agg [.int .i64 x.order,.bool x.drp]:=Zl rfl rfl
@[go_sem] theorem Zd1 (l:List Vis):BT 2 (l.map Z9)=true:=BU (f:=Z9) (S:=2) (fun _=>rfl) l
@[go_sem] theorem Zjl (l:List Vis):KQ 2 (l.map Z9)=true:=QD fun _=>rfl
structure Rte where
 typ:Int
 start:Int
 rests_c:Bool
 rests:List (Bool)
 visits_c:Bool
 visits:List (Vis)
 deriving Inhabited
def WG (x:Rte):PV:= .agg [.int .i64 x.typ,.int .i64 x.start,.list x.rests_c (x.rests.map eB),.list x.visits_c (x.visits.map Z9)]
@[go_sem] theorem Zlg (x:Rte):WG x= .agg [.int .i64 x.typ,.int .i64 x.start,.list x.rests_c (x.rests.map eB),.list x.visits_c (x.visits.map Z9)]:=Zl rfl rfl
structure Tim where
 arr:Int
 beg:Int
 dep:Int
 rest:Bool
 deriving Inhabited
def eTim (x:Tim):PV:= .agg [.int .i64 x.arr,.int .i64 x.beg,.int .i64 x.dep,.bool x.rest]
@[go_sem] theorem Zll (x:Tim):eTim x= .agg [.int .i64 x.arr,.int .i64 x.beg,.int .i64 x.dep,.bool x.rest]:=Zl rfl rfl
@[go_sem] theorem Zjj (l:List Tim):KQ 4 (l.map eTim)=true:=QD fun _=>rfl
structure She where
 rest:Bool
 dep:Int
 times_c:Bool
 times:List (Tim)
 fin:Int
 miles:Int
 deriving Inhabited
def Fq (x:She):PV:= .agg [.bool x.rest,.int .i64 x.dep,.list x.times_c (x.times.map eTim),.int .i64 x.fin,.int .i64 x.miles]
@[go_sem] theorem Zli (x:She):Fq x= .agg [.bool x.rest,.int .i64 x.dep,.list x.times_c (x.times.map eTim),.int .i64 x.fin,.int .i64 x.miles]:=Zl rfl rfl
structure Sco where
 cost:Int
 moved:Int
 other:Int
 work:Int
 deriving Inhabited
def Ek (x:Sco):PV:= .agg [.int .i64 x.cost,.int .i64 x.moved,.int .i64 x.other,.int .i64 x.work]
@[go_sem] theorem Zlh (x:Sco):Ek x= .agg [.int .i64 x.cost,.int .i64 x.moved,.int .i64 x.other,.int .i64 x.work]:=Zl rfl rfl
structure Pln where
 routes_c:Bool
 routes:List (Rte)
 unserved_c:Bool
 unserved:List (Int)
 deriving Inhabited
def JI (x:Pln):PV:= .agg [.list x.routes_c (x.routes.map WG),.list x.unserved_c (x.unserved.map eI)]
@[go_sem] theorem Zlf (x:Pln):JI x= .agg [.list x.routes_c (x.routes.map WG),.list x.unserved_c (x.unserved.map eI)]:=Zl rfl rfl
structure Col where
 typ:Int
 set:Int
 price:Int
 route:Rte
 deriving Inhabited
def GV (x:Col):List PV:= [.int .i64 x.typ,.int .i64 x.set,.int .i64 x.price,.int .i64 x.route.typ,.int .i64 x.route.start,.list x.route.rests_c (x.route.rests.map eB),.list x.route.visits_c (x.route.visits.map Z9)]
def Xp (x:Col):PV:= .agg [.int .i64 x.typ,.int .i64 x.set,.int .i64 x.price,.int .i64 x.route.typ,.int .i64 x.route.start,.list x.route.rests_c (x.route.rests.map eB),.list x.route.visits_c (x.route.visits.map Z9)]
@[go_sem] theorem Zla (x:Col):Xp x= .agg [.int .i64 x.typ,.int .i64 x.set,.int .i64 x.price,.int .i64 x.route.typ,.int .i64 x.route.start,.list x.route.rests_c (x.route.rests.map eB),.list x.route.visits_c (x.route.visits.map Z9)]:=Zl rfl rfl
structure Itm where
 kind:Int
 a:Int
 deriving Inhabited
def ZmX (x:Itm):List PV:= [.int .i64 x.kind,.int .i64 x.a]
def X1 (x:Itm):PV:= .agg [.int .i64 x.kind,.int .i64 x.a]
@[go_sem] theorem Zlb (x:Itm):X1 x= .agg [.int .i64 x.kind,.int .i64 x.a]:=Zl rfl rfl
@[go_sem] theorem ZdZ (l:List Itm):BT 2 (l.map X1)=true:=BU (f:=X1) (S:=2) (fun _=>rfl) l
@[go_sem] theorem Zjh (l:List Itm):KQ 2 (l.map X1)=true:=QD fun _=>rfl
def Itm.wf (B:Nat) (x:Itm):Prop:=U5 x.kind/\U5 x.a
theorem iB {B m cs} (h:Wn Tryz.prog B m 32 cs): ∃x:Itm,cs=ZmX x/\x.wf B:=by
 obtain ⟨h1,m',h2⟩:=VC wN Zhr h;obtain ⟨a0,a1,rfl⟩:=rV h1;obtain ⟨n0,e0,w0⟩:=ZZ Tryz.underlying3 (h2 (0,3) Zb);obtain ⟨n1,e1,w1⟩:=ZZ Tryz.underlying3 (h2 (1,3) Zb);simp [O2] at e0 e1;subst e0;subst e1;exact ⟨⟨n0,n1⟩,rfl,XC w0,XC w1⟩
theorem RN {B v} (h:FitV Tryz.prog B 32 v): ∃x:Itm,v=X1 x/\x.wf B:=by
 obtain ⟨k,cs,h,e⟩:=h.out;obtain ⟨x,rfl,hw⟩:=iB h;exact ⟨x,e.trans (by rw [Jp,if_pos (VN wN)];rfl),hw⟩
theorem own : ownKnob Tryz.prog.godebug=none:=Ze
theorem rU : laidOutB Tryz.prog=true:=Ze
theorem gW {B x} (h:FitV Tryz.prog B 49 x): ∃l:List Itm,x= .list false (l.map X1)/\l.length<=B/\ ∀v∈l,v.wf B:=by
 obtain ⟨xs,rfl,h1,_,h2⟩:=TQ Tryz.underlying49 h;obtain ⟨l,rfl,h3⟩:=VQ (f:=X1) fun y hy=>RN (h2 y hy);exact ⟨l,rfl,by simpa using h1,h3⟩
def zeroI : Inst:=⟨⟨true,[],true,[]⟩,true,[],true,[],true,[],true,[]⟩
abbrev Flt := Int×List UInt8
def eF (f:Flt):PV:= .agg [.int .i64 f.1,.str f.2]
@[go_sem] theorem Zps (f:Flt):eF f= .agg [.int .i64 f.1,.str f.2]:=Zl rfl rfl
@[go_sem] theorem ZnH (l:List Flt):KQ 2 (l.map eF)=true:=QD fun _=>rfl
def dec (n:Nat):List UInt8:=if h:n<10 then [UInt8.ofNat (48+n)] else dec (n / 10)++ [UInt8.ofNat (48+n%10)]
termination_by n
decreasing_by omega
theorem RD : ∀(k n:Nat),n<k->(dec n).length<=n+1:=by
 intro k
 induction k with
 | zero=>omega
 | succ k ih =>
  grind [dec]
theorem Bn : ∀(d n:Nat),n<10^(d+1)->(dec n).length<=d+1:=by
 intro d
 induction d with
 | zero=>simp_all [dec]
 | succ d ih =>
  grind [dec]
def A3 (n:Int):List UInt8:=if n<0 then 45::dec n.natAbs else dec n.natAbs
theorem Jg (n:Int) (h:U5 n):(A3 n).length<=20:=by
 have h1:n.natAbs<10^(18+1):=Za
 have:=Bn 18 n.natAbs h1
 grind [A3]
structure FR {α:Type} (p:α->Prop) (C:Prop) (b:Nat) (l:List α):Prop where
 len:l.length<=b
 emp:l= []↔C
 all: ∀x∈l,p x
theorem FR.nil {α:Type} {p:α->Prop} {C:Prop} {b:Nat} (h:C):FR p C b []:=⟨Zb,by simp [h],Zb⟩
theorem FR.no {α:Type} {p:α->Prop} {C c:Prop} {b:Nat} {l:List α} (h:FR p C b l) (hc:c):FR p (C/\c) (b+1) l:=⟨by have:=h.len;omega,by rw [h.emp];simp [hc],h.all⟩
theorem FR.yes {α:Type} {p:α->Prop} {C c:Prop} {b:Nat} {l:List α} {x:α} (h:FR p C b l) (hc: ¬c) (hx:p x):FR p (C/\c) (b+1) (l++ [x]) :=
 ⟨by have:=h.len;simp;omega,by simp [hc],fun y hy=>by
  rcases Xd.1 hy with hy | hy
  ·exact h.all y hy
  grind⟩
theorem FR.app {α:Type} {p:α->Prop} {C D:Prop} {b d:Nat} {l m:List α} (h:FR p C b l) (k:FR p D d m):FR p (C/\D) (b+d) (l++m) :=
 ⟨by have:=h.len;have:=k.len;simp;omega,by rw [V5,h.emp,k.emp],fun y hy=>by
  rcases Xd.1 hy with hy | hy
  ·exact h.all y hy
  ·exact k.all y hy⟩
theorem FR.to {α:Type} {p:α->Prop} {C D:Prop} {b d:Nat} {l:List α} (h:FR p C b l) (hb:b<=d) (hc:C↔D):FR p D d l:=⟨AC h.len hb,h.emp.trans hc,h.all⟩
theorem Zs {p:Nat->Prop} {k:Nat} :(∀j,j<k+1->p j)↔((∀j,j<k->p j)/\p k) :=
 ⟨fun h=>⟨fun j hj=>h j Za,h k Za⟩,fun h j hj=>by
  grind⟩
def JO (c:UInt8):Bool:=decide (48<=c.toNat/\c.toNat<=57)
def Jk (c:UInt8):Bool:=decide (97<=c.toNat/\c.toNat<=122)||decide (65<=c.toNat/\c.toNat<=90)||decide (c.toNat=95)
def nameOk (s:List UInt8):Bool:=decide (1<=s.length)&&decide (s.length<=16)&& !JO (nth s 0)&&s.all fun c=>Jk c||JO c
def rng (n lo hi:Int):Bool:=decide (lo<=n/\n<=hi)
def LZ (n:Int):Bool:=rng n 0 4096
def lR (l:List Pt) (i:Nat):Prop:=(0<=(nth l i).t/\(nth l i).t<=4096/\(nth l i).t<=(nth l i).a/\(nth l i).a<=(nth l i).t+4096)/\(0<i->(nth l (i-1)).t<(nth l i).t/\(nth l (i-1)).a<=(nth l i).a)
def W9 (l:List Pt):Prop:=(1<=l.length/\l.length<=16)/\ ∀i,i<l.length->lR l i
def KZ (l:List Pt) (i:Nat):Prop:=LZ (nth l i).t=true/\LZ (nth l i).a=true/\(0<i->(nth l (i-1)).t<(nth l i).t)
def Mo (n:Net) (i:Nat):Prop :=
 ((((((0<=(nth n.arcs i).src/\(nth n.arcs i).src<n.places.length/\0<=(nth n.arcs i).dst/\(nth n.arcs i).dst<n.places.length) /\
 (0<=(nth n.arcs i).prof/\(nth n.arcs i).prof<=7/\0<=(nth n.arcs i).miles/\(nth n.arcs i).miles<=10000/\(nth n.arcs i).src≠(nth n.arcs i).dst)) /\
 (∀k,k<i-> ¬((nth n.arcs i).src=(nth n.arcs k).src/\(nth n.arcs i).dst=(nth n.arcs k).dst/\(nth n.arcs i).prof=(nth n.arcs k).prof))) /\
 W9 (nth n.arcs i).travel)/\(nth n.arcs i).slow.length<=16)/\ ∀k,k<(nth n.arcs i).slow.length->KZ (nth n.arcs i).slow k)
def PF (n:Net) (i:Nat):Prop:=nameOk (nth n.places i)=true/\ ∀k,k<i->nth n.places k≠nth n.places i
def KT (n:Net):Prop:=n.places.length<=24/\ ∀i,i<n.places.length->PF n i
def netOk (n:Net):Prop:=(KT n/\n.arcs.length<=1024)/\ ∀i,i<n.arcs.length->Mo n i
set_option maxRecDepth 8000
set_option maxHeartbeats 4000000
theorem RF (c:UInt8):PC 157 [.p (.int .u8 (c.toNat:Nat))] (.bool (JO c)):=by
 refine Zd Tryz.func157 rfl ZaH ?_;simp (disch:=omega) only [Tryz.f157,go_sem,seval];refine gT ?_ ?_<;>intro h<;>simp (disch:=omega) only [Sh.out h,go_sem,seval,↓reduceIte]
 all_goals (simp [JO];first | done | omega | grind)
theorem jU (c:UInt8):PC 158 [.p (.int .u8 (c.toNat:Nat))] (.bool (Jk c)):=by
 refine Zd Tryz.func158 rfl ZaI ?_;simp (disch:=omega) only [Tryz.f158,go_sem,seval]
 repeat' (first | (refine gT ?_ ?_<;>intro hq<;>simp (disch:=omega) only [Sh.out hq,go_sem,seval,↓reduceIte]) | (refine gF ?_ ?_<;>intro hq<;>simp (disch:=omega) only [Sh.out hq,go_sem,seval,↓reduceIte]) | (refine UO (fun hq=> ?_) (fun hq=> ?_)<;>(try simp only [Zq,X2,Z2] at hq)<;>simp (disch:=omega) only [Sh.out hq,go_sem,seval]))
 all_goals (simp [Jk];first | done | omega | (rw [Wq];simp;omega))
theorem Pv (s:List UInt8) (hs:s.length<=1048576):PC 109 [.p (.str s)] (.bool (nameOk s)):=by
 refine Zd Tryz.func109 rfl zZ ?_;simp (disch:=omega) only [Tryz.f109,go_sem,seval];refine gF ?_ ?_<;>intro h<;>simp (disch:=omega) only [Sh.out h,go_sem,seval,↓reduceIte]
 ·grind [nameOk]
 ·refine gF ?_ ?_<;>intro h2<;>simp (disch:=omega) only [Sh.out h2,go_sem,seval]
  ·grind [nameOk]
  ·have g1:1<=s.length:=Za
   have g2:s.length<=16:=Za
   refine (RF (nth s 0)).use (Zc ?_);refine cD ?_ ?_<;>intro h3<;>simp (disch:=omega) only [Sh.out h3,go_sem,seval]
   ·simp [nameOk,h3]
   ·refine Zm [0] (fun k:Nat=> [(3,.p (.int .i64 k))]) (fun _=> []) (fun k=>k<=s.length/\ ∀j,j<k->(Jk (nth s j)||JO (nth s j))=true) (fun k=>s.length-k) 0 Zb (Weak.mk ?_) ?_
    ·simp (disch:=omega) only [go_sem,seval,↓reduceIte]
    ·rintro k ⟨hk,hno⟩;refine Zc ?_
     have hall: ∀j,j<s.length->(Jk (nth s j)||JO (nth s j))=false->nameOk s=false:=fun j hj e=>by
      grind [Zh,nameOk]
     refine cD ?_ ?_<;>intro h4<;>simp (disch:=omega) only [Sh.out h4,go_sem,seval,↓reduceIte]
     ·have hk2:k<s.length:=Za
      refine (jU (nth s k)).use (Zc ?_);refine gT ?_ ?_<;>intro h5<;>simp (disch:=omega) only [Sh.out h5,go_sem,seval,↓reduceIte]
      ·refine (RF (nth s k)).use (Zc ?_);refine cD ?_ ?_<;>intro h6<;>simp (disch:=omega) only [Sh.out h6,go_sem,seval,↓reduceIte]
       ·grind
       ·simp only [XM] at h6;exact ⟨k+1,⟨Za,Zs.2 ⟨hno,by simp [h6]⟩⟩,Za,wk⟩
      ·simp only [XM] at h5;exact ⟨k+1,⟨Za,Zs.2 ⟨hno,by simp [h5]⟩⟩,Za,wk⟩
     ·have:s.all (fun c=>Jk c||JO c)=true:=by
       rw [Zz];intro c hc;obtain ⟨j,hj,rfl⟩:=ZT.1 hc
       grind [Zh]
      grind [nameOk]
theorem Ae (n:Int) (hn:U5 n):PC 76 [.p (.int .i64 n)] (.str (A3 n)):=by
 refine Zd Tryz.func76 rfl ZiJ ?_;simp (disch:=omega) only [Tryz.f76,go_sem,seval]
 have h19:n.natAbs<10^(18+1):=Za
 have hdl:=Bn 18 n.natAbs h19
 refine Z4 [7] [0] (fun q:Int×List UInt8×Bool=> [(3,.p (.str q.2.1)),(4,.p (.int .i64 q.1)),(5,.p (.bool q.2.2))]) (fun _=> [])
  (fun q=>U5 q.1/\(q.2.2=true->dec q.1.natAbs++q.2.1=dec n.natAbs)/\(q.2.2=false->q.2.1=dec n.natAbs)) (fun q=>if q.2.2 then q.1.natAbs+1 else 0) (n,[],true) (by simp;omega) (Weak.mk ?_) ?_
 ·simp (disch:=omega) only [go_sem,seval,↓reduceIte]
 ·rintro ⟨m,s,again⟩ ⟨hm,h1,h2⟩;simp only at hm h1 h2;refine Zc ?_
  cases again with
  | false =>
   refine Zc ?_;have h2:=h2 rfl
   have hl2:([45]:List UInt8).length+(dec n.natAbs).length<=9223372036854775807:=by simp;omega
   refine cD ?_ ?_<;>intro h3<;>simp (disch:=omega) only [Sh.out h3,go_sem,seval]
   ·simp (disch:=omega) only [A3,h2,h3,mL hl2,go_sem,seval,↓reduceIte]
   ·simp (disch:=omega) only [A3,h2,h3,go_sem,seval,↓reduceIte]
  | true =>
   have h1:=h1 rfl
   have hls:(dec m.natAbs).length+s.length=(dec n.natAbs).length:=by grind
   refine Zc ?_
   have e1:(m.tmod 10).natAbs=m.natAbs%10:=Zb
   have e2:(m.tdiv 10).natAbs=m.natAbs / 10:=by grind
   have e3:m.tmod 10<10/\ -10<m.tmod 10:=⟨Int.tmod_lt_of_pos _ (by decide),Za⟩;refine ZI [0,3,4] (fun _:Unit=> [(6,.p (.int .i64 ((m.natAbs%10:Nat):Int)))]) (fun _=> []) (fun _=>True) ?_ ?_
   ·refine Zc ?_;refine cD ?_ ?_<;>intro h3<;>simp (disch:=omega) only [Sh.out h3,go_sem,seval,↓reduceIte]
    ·exact ⟨(),Weak.mk (by refine Zc ?_;simp;omega)⟩
    ·exact ⟨(),Weak.mk (by refine Zc ?_;simp;omega)⟩
   ·intro _ _;refine Zg [] _ _ _ _ ?_;simp (disch:=first | omega | (simp only [ZD,ZF,ZH,Z1,Xs,XI]<;>omega)) only [go_sem,seval,↓reduceIte]
    have e4:(48+((m.natAbs%10:Nat):Int)).toNat=48+m.natAbs%10:=Za
    refine ⟨(m.tdiv 10,UInt8.ofNat (48+m.natAbs%10)::s,decide (m.tdiv 10≠0)),⟨?_,?_,?_⟩,?_,Weak.mk ?_⟩
    ·omega
    ·simp only [Zq];intro hne
     have h10: ¬m.natAbs<10:=Za
     rw [e2,<- h1,dec.eq_def m.natAbs,dif_neg h10];simp
    ·simp only [X2,Z2];intro hz
     have h10:m.natAbs<10:=Za
     rw [<- h1,dec.eq_def m.natAbs,dif_pos h10,Cx h10];simp
    ·grind
    ·simp (disch:=omega) only [e4,go_sem,seval]
def pF (k:Nat) (f:Flt):Prop:=f.2.length<=k
theorem Xo {P:Program} {id:Nat} {l:List Oper} {fr:List V} {H:List AM.Obj} {Q:Exit->List V->List AM.Obj->Prop} {t} (h:hs P (l.map (·.dst)) H (Zu (fun fr'=>Q .normal (Lc fr') H) ⟨⟩) l (Lc fr)) (hm:P.follows .mixedOrders=true:=by exact mixed) (hB:W8 (List.toArray l) l.length=true:=by kernel_rfl) (hR:KV (List.toArray l) l.length=true:=by kernel_rfl):AWP P (.region id (Zu (List.toArray l) t) true) fr H Q:=OL hm hB hR h
theorem fQ (l:List Pt) (c:Bool) (hl:l.length<=1048576):ACalls Tryz.prog 110 [.p (.list c (l.map Hq))] [] fun x H'=> ∃m:List Flt,FR (pF 20) (W9 l) (2*l.length+1) m/\x= .sl 0 0 m.length m.length/\H'= [.elems 2 (m.map eF)]:=by
 refine ZW [2] Tryz.func110 rfl Zaa ?_;simp (disch:=omega) only [Tryz.f110,go_sem,seval];refine Zp (Weak.ofNil 3 2 (by simp (disch:=omega) only [go_sem,seval]) Zb (Weak.refl _ _ _)) ?_;refine ZI [0] (fun m:List Flt=> [(3,.sl 0 0 m.length m.length)]) (fun m=> [.elems 2 (m.map eF)]) (fun m=>FR (pF 20) (1<=l.length/\l.length<=16) 1 m) ?_ ?_
 ·refine Zc ?_
  repeat' (first | (refine Vy (fun hq=> ?_) (fun hq=> ?_)<;>(try simp only [Zq,X2,Z2] at hq)<;>simp (disch:=omega) only [Sh.out hq,go_sem,seval]) | (refine gF ?_ ?_<;>intro hq<;>simp (disch:=omega) only [Sh.out hq,go_sem,seval,↓reduceIte]) | (refine cD ?_ ?_<;>intro hq<;>simp (disch:=omega) only [Sh.out hq,go_sem,seval,↓reduceIte]))
  ·exact ⟨[(4,[])],⟨Zb,by simp;omega,by simp [pF]⟩,wk⟩
  ·exact ⟨[(4,[])],⟨Zb,by simp;omega,by simp [pF]⟩,wk⟩
  ·exact ⟨[],FR.nil Za,wk⟩
 ·intro m hm;refine Zg [] _ _ _ _ (Zc ?_);refine Z4 [8] [0] (fun q:Nat×List Flt=> [(3,.sl 0 0 q.2.length q.2.length),(4,.p (.int .i64 q.1))]) (fun q=> [.elems 2 (q.2.map eF)]) (fun q=>q.1<=l.length/\FR (pF 20) ((1<=l.length/\l.length<=16)/\ ∀j,j<q.1->lR l j) (2*q.1+1) q.2) (fun q=>l.length-q.1) (0,m) ⟨Zb,hm.to Zb Zb⟩ (Weak.mk ?_) ?_
  ·simp (disch:=omega) only [go_sem,seval,↓reduceIte]
  ·rintro ⟨k,m⟩ ⟨hk,hm⟩;simp only at hk hm;have hml:=hm.len;refine Zc ?_;refine cD ?_ ?_<;>intro h<;>simp (disch:=omega) only [Sh.out h,go_sem,seval,↓reduceIte]
   ·have hk2:k<l.length:=Za
    refine ZI [0,4,5] (fun m:List Flt=> [(3,.sl 0 0 m.length m.length)]) (fun m=> [.elems 2 (m.map eF),.cells [.p (.int .i64 (nth l k).t),.p (.int .i64 (nth l k).a)]])
     (fun m=>FR (pF 20) (((1<=l.length/\l.length<=16)/\ ∀j,j<k->lR l j)/\(0<=(nth l k).t/\(nth l k).t<=4096/\(nth l k).t<=(nth l k).a/\(nth l k).a<=(nth l k).t+4096)) (2*k+1+1) m) ?_ ?_
    ·refine Zc ?_
     have hI:U5 (k:Int):=Za
     have hdl:=Jg k hI
     repeat' (first | (refine Vy (fun hq=> ?_) (fun hq=> ?_)<;>(try simp only [Zq,X2,Z2] at hq)<;>simp (disch:=omega) only [Sh.out hq,go_sem,seval]) | (refine gF ?_ ?_<;>intro hq<;>simp (disch:=omega) only [Sh.out hq,go_sem,seval,↓reduceIte]) | (refine cD ?_ ?_<;>intro hq<;>simp (disch:=omega) only [Sh.out hq,go_sem,seval,↓reduceIte]))
     all_goals try exact ⟨m,hm.no Za,wk⟩
     all_goals
      refine (Ae k hI).use ?_;simp (disch:=omega) only [go_sem,seval,↓reduceIte];exact ⟨m++ [(2,A3 k)],hm.yes Za (by simp only [pF];omega),wk⟩
    ·intro m hm;have hml:=hm.len;refine Zg [] _ _ _ _ (Zc ?_)
     have hI:U5 (k:Int):=Za
     have hdl:=Jg k hI;refine Xo (Zc ?_)
     repeat' (first | (refine gT ?_ ?_<;>intro hq<;>simp (disch:=omega) only [Sh.out hq,go_sem,seval,↓reduceIte]) | (refine gF ?_ ?_<;>intro hq<;>simp (disch:=omega) only [Sh.out hq,go_sem,seval,↓reduceIte]) | (refine cD ?_ ?_<;>intro hq<;>simp (disch:=omega) only [Sh.out hq,go_sem,seval,↓reduceIte]))
     all_goals try exact ⟨(k+1,m),⟨by simp only;omega,(hm.no (c:=0<k->(nth l (k-1)).t<(nth l k).t/\(nth l (k-1)).a<=(nth l k).a) Za).to (by simp only;omega) (by simp only [Zs,lR,and_assoc])⟩,by simp only;omega,wk⟩
     all_goals
      refine (Ae k hI).use ?_;simp (disch:=omega) only [go_sem,seval,↓reduceIte];exact ⟨(k+1,m++ [(13,A3 k)]),⟨by simp only;omega,(hm.yes (c:=0<k->(nth l (k-1)).t<(nth l k).t/\(nth l (k-1)).a<=(nth l k).a) Za (by simp only [pF];omega)).to (by simp only;omega) (by simp only [Zs,lR,and_assoc])⟩,by simp only;omega,wk⟩
   ·have hkn:k=l.length:=Za
    subst hkn;exact ⟨m,hm.to Za (by rw [W9]),0,by simp (disch:=omega) only [go_sem,seval]⟩
set_option maxHeartbeats 8000000
theorem pF.mono {j k:Nat} (h:j<=k) {f:Flt} (hf:pF j f):pF k f:=AC hf h
theorem FR.pmono {α:Type} {p q:α->Prop} {C:Prop} {b:Nat} {l:List α} (h:FR p C b l) (hp: ∀x,p x->q x):FR q C b l:=⟨h.len,h.emp,fun x hx=>hp x (h.all x hx)⟩
theorem Ob (n:Int):PC 111 [.p (.int .i64 n)] (.bool (LZ n)):=by
 refine Zd Tryz.func111 rfl Zab ?_;simp (disch:=omega) only [Tryz.f111,go_sem,seval]
 repeat' (first | (refine gT ?_ ?_<;>intro hq<;>simp (disch:=omega) only [Sh.out hq,go_sem,seval,↓reduceIte]) | (refine Ue (fun hq=> ?_) (fun hq=> ?_)<;>(try simp only [Zq,X2,Z2] at hq)<;>simp (disch:=omega) only [Sh.out hq,go_sem,seval]) | (refine UO (fun hq=> ?_) (fun hq=> ?_)<;>(try simp only [Zq,X2,Z2] at hq)<;>simp (disch:=omega) only [Sh.out hq,go_sem,seval]))
 all_goals (simp [LZ,rng];first | done | omega | (rw [Wq];simp;omega))
def Z7 (n:Net):List AM.Obj:= [.cells [.p (.list n.places_c (n.places.map eS)),.p (.list n.arcs_c (n.arcs.map VW))]]
theorem K2 {P Q:Prop} (h:Q) (e:Q->P:=by intro h;simp (disch:=omega) only [Z7,go_sem,seval];exact h):P:=e h
theorem O5 (n:Net) (hp:n.places.length<=1048576) (hs: ∀s∈n.places,s.length<=1048576):ACalls Tryz.prog 72 [.p (B4 n)] [] fun x H'=> ∃m:List Flt,FR (pF 26) (KT n) (n.places.length+1) m/\x= .sl 0 0 m.length m.length/\H'= [.elems 2 (m.map eF)]:=by
 refine ZW [2] Tryz.func72 rfl ZiF ?_;simp (disch:=omega) only [Tryz.f72,go_sem,seval];refine Zp (Weak.ofNil 3 2 (by simp (disch:=omega) only [go_sem,seval]) Zb (Weak.refl _ _ _)) ?_;refine ZI [1] (fun m:List Flt=> [(3,.sl 1 0 m.length m.length)]) (fun m=>Z7 n++ [.elems 2 (m.map eF)]) (fun m=>FR (pF 26) (n.places.length<=24) 1 m) ?_ ?_
 ·refine Zc ?_;refine ZO ?_ ?_<;>intro h
  ·exact ⟨[(4,[112,108,97,99,101,115])],⟨Zb,by simp;omega,by simp [pF]⟩,Weak.mk (by simp (disch:=omega) only [Z7,go_sem,seval])⟩
  ·exact ⟨[],FR.nil Za,Weak.mk (by simp (disch:=omega) only [Z7,go_sem,seval])⟩
 ·intro m hm;refine Zg [] _ _ _ _ (K2 ?_);refine Zm [1] (fun q:Nat×List Flt=> [(3,.sl 1 0 q.2.length q.2.length),(4,.p (.int .i64 q.1))]) (fun q=>Z7 n++ [.elems 2 (q.2.map eF)]) (fun q=>q.1<=n.places.length/\FR (pF 26) (n.places.length<=24/\ ∀j,j<q.1->PF n j) (q.1+1) q.2) (fun q=>n.places.length-q.1) (0,m) ⟨Zb,hm.to Zb Zb⟩ (Weak.mk ?_) ?_
  ·simp (disch:=omega) only [Z7,go_sem,seval]
  ·rintro ⟨k,m⟩ ⟨hk,hm⟩;simp only at hk hm;have hml:=hm.len;refine K2 ?_;refine cD ?_ ?_<;>intro h<;>simp (disch:=omega) only [Sh.out h,go_sem,seval,↓reduceIte]
   ·have hk2:k<n.places.length:=Za
    have hI:U5 (k:Int):=Za
    have hdl:=Jg k hI;refine (Ae k hI).use (Zc ?_);simp (disch:=first | omega | (simp only [ZD,ZF,ZH,Z1,Xs,XI]<;>omega)) only [go_sem,seval,↓reduceIte];refine (Pv (nth n.places k) (hs _ (by grind [Zh]))).use (Zc ?_);refine ZO ?_ ?_<;>intro h2
    ·simp only [XN] at h2;exact ⟨(k+1,m++ [(5,[112,108,97,99,101,32]++A3 k)]),⟨Za,(hm.yes (c:=PF n k) (by rw [PF,h2];simp) (by simp [pF];omega)).to Zb (by grind)⟩,Za,wk⟩
    ·simp only [XM] at h2;refine Zm [1,3,4,5] (fun q:Nat×Bool=> [(6,.p (.bool q.2)),(7,.p (.int .i64 q.1))]) (fun _=>Z7 n++ [.elems 2 (m.map eF)]) (fun q=>q.1<=k/\(q.2=false↔ ∀j,j<q.1->nth n.places j≠nth n.places k)) (fun q=>k-q.1) (0,false) Zb (Weak.mk ?_) ?_
     ·simp (disch:=omega) only [Z7,go_sem,seval]
     ·rintro ⟨j,b⟩ ⟨hj,hb⟩;simp only at hj hb;refine K2 ?_;refine cD ?_ ?_<;>intro h3<;>simp (disch:=omega) only [Sh.out h3,go_sem,seval,↓reduceIte]
      ·refine ZC 14 mixed Ze Ze (Zc ?_)
       have hjn:j<n.places.length:=Za
       cases b with
       | true =>
        refine Zc ?_;exact ⟨(j+1,true),⟨Za,by grind⟩,Za,wk⟩
       | false =>
        refine Zc ?_;refine ⟨(j+1,decide (nth n.places j=nth n.places k)),⟨Za,by grind⟩,Za,wk⟩
      ·have hjk:j=k:=Za
       subst hjk
       cases b with
       | true =>
        refine Zc ?_
        have hno: ¬PF n j:=fun h5=>by have:=hb.2 h5.2;cases this
        exact ⟨(j+1,m++ [(6,[112,108,97,99,101,32]++A3 j)]),⟨Za,(hm.yes (c:=PF n j) hno (by simp [pF];omega)).to Zb (by grind)⟩,Za,wk⟩
       | false =>
        refine Zc ?_;exact ⟨(j+1,m),⟨Za,(hm.no (c:=PF n j) ⟨h2,hb.1 rfl⟩).to Zb (by grind)⟩,Za,wk⟩
   ·have hkn:k=n.places.length:=Za
    subst hkn;exact ⟨m,hm.to Za (by rw [KT]),1,by simp (disch:=omega) only [go_sem,seval]⟩
set_option maxHeartbeats 16000000
def Vb (a:Arc):AM.Obj:= .cells [.p (.int .i64 a.src),.p (.int .i64 a.dst),.p (.int .i64 a.prof),.p (.int .i64 a.miles),.p (.list a.travel_c (a.travel.map Hq)),.p (.list a.slow_c (a.slow.map Hq))]
abbrev WR (a b:Arc):Prop:=a.src=b.src/\a.dst=b.dst/\a.prof=b.prof
theorem BK {P Q:Prop} (h:Q) (e:Q->P:=by intro h;simp (disch:=omega) only [Z7,Vb,go_sem,seval];exact h):P:=e h
theorem qI (n:Net) (i:Nat) (hi:i<n.arcs.length) (hp:n.places.length<=1048576) (ha:n.arcs.length<=1048576) (ht:(nth n.arcs i).travel.length<=1048576) (hsl:(nth n.arcs i).slow.length<=1048576) :
  ACalls Tryz.prog 73 [.p (B4 n),.p (.int .i64 (i:Nat))] [] fun x H'=> ∃m:List Flt,FR (pF 26) (Mo n i) 4000000 m/\x= .sl 0 0 m.length m.length/\H'= [.elems 2 (m.map eF)]:=by
 refine ZW [4] Tryz.func73 rfl ZiG ?_;simp (disch:=omega) only [Tryz.f73,go_sem,seval]
 have hI:U5 (i:Int):=Za
 have hdl:=Jg i hI;refine (Ae i hI).use (Zc ?_);simp (disch:=first | omega | (simp only [ZD,ZF,ZH,Z1,Xs,XI]<;>omega)) only [go_sem,seval,↓reduceIte]
 have hat:(97::114::99::32::A3 i).length<=26:=by simp;omega
 generalize hga:nth n.arcs i=a at ht hsl ⊢;generalize 97::114::99::32::A3 i=at' at hat ⊢;refine Zp (Weak.ofNil 5 2 (by simp (disch:=omega) only [go_sem,seval]) Zb (Weak.refl _ _ _)) ?_;refine ZI [1,2,6,7] (fun m:List Flt=> [(5,.sl 2 0 m.length m.length)]) (fun m=>Z7 n++ [Vb a,.elems 2 (m.map eF)]) (fun m=>FR (pF 26) (0<=a.src/\a.src<n.places.length/\0<=a.dst/\a.dst<n.places.length) 1 m) ?_ ?_
 ·refine Zc ?_
  repeat' (first | (refine Vy (fun hq=> ?_) (fun hq=> ?_)<;>(try simp only [Zq,X2,Z2] at hq)<;>simp (disch:=omega) only [Sh.out hq,go_sem,seval]) | (refine gF ?_ ?_<;>intro hq<;>simp (disch:=omega) only [Sh.out hq,go_sem,seval]) | (refine cD ?_ ?_<;>intro hq<;>simp (disch:=omega) only [Sh.out hq,go_sem,seval]))
  all_goals try exact ⟨[],FR.nil Za,Weak.mk (by simp (disch:=omega) only [Z7,Vb,go_sem,seval])⟩
  all_goals exact ⟨[(11,at')],⟨Zb,by simp;omega,by simpa [pF] using hat⟩,Weak.mk (by simp (disch:=omega) only [Z7,Vb,go_sem,seval])⟩
 ·intro m hm;refine Zg [6] _ _ _ _ (BK ?_);have hml:=hm.len
  refine ZI [1,2,6,7] (fun m:List Flt=> [(5,.sl 2 0 m.length m.length)]) (fun m=>Z7 n++ [Vb a,.elems 2 (m.map eF)])
   (fun m=>FR (pF 26) ((0<=a.src/\a.src<n.places.length/\0<=a.dst/\a.dst<n.places.length)/\(0<=a.prof/\a.prof<=7/\0<=a.miles/\a.miles<=10000/\a.src≠a.dst)) 2 m) ?_ ?_
  ·refine Zc ?_
   repeat' (first | (refine Vy (fun hq=> ?_) (fun hq=> ?_)<;>(try simp only [Zq,X2,Z2] at hq)<;>simp (disch:=omega) only [Sh.out hq,go_sem,seval]) | (refine gF ?_ ?_<;>intro hq<;>simp (disch:=omega) only [Sh.out hq,go_sem,seval]) | (refine cD ?_ ?_<;>intro hq<;>simp (disch:=omega) only [Sh.out hq,go_sem,seval]))
   all_goals try exact ⟨m,hm.no Za,Weak.mk (by simp (disch:=omega) only [Z7,Vb,go_sem,seval])⟩
   all_goals exact ⟨m++ [(2,at')],hm.yes Za (by simpa [pF] using hat),Weak.mk (by simp (disch:=omega) only [Z7,Vb,go_sem,seval])⟩
  ·clear hm hml;intro m hm;refine Zg [14] _ _ _ _ (BK ?_);have hml:=hm.len;refine Z4 [14] [1,2,5,6,7] (fun q:Nat×Bool=> [(8,.p (.bool q.2)),(9,.p (.int .i64 q.1))]) (fun _=>Z7 n++ [Vb a,.elems 2 (m.map eF)]) (fun q=>q.1<=i/\(q.2=false↔ ∀j,j<q.1-> ¬WR a (nth n.arcs j))) (fun q=>i-q.1) (0,false) Zb (Weak.mk ?_) ?_
   ·simp (disch:=omega) only [Z7,Vb,go_sem,seval]
   ·rintro ⟨k,b⟩ ⟨hk,hb⟩;simp only at hk hb;refine BK ?_;refine cD ?_ ?_<;>intro h<;>simp (disch:=omega) only [Sh.out h,go_sem,seval,↓reduceIte]
    ·have hkn:k<n.arcs.length:=Za
     cases b with
     | true =>
      refine Zc ?_;exact ⟨(k+1,true),⟨Za,by grind⟩,Za,wk⟩
     | false =>
      refine Zc ?_
      repeat' (first | (refine gT ?_ ?_<;>intro hq<;>simp (disch:=omega) only [Sh.out hq,go_sem,seval]) | (refine Ue (fun hq=> ?_) (fun hq=> ?_)<;>(try simp only [Zq,X2,Z2] at hq)<;>simp (disch:=omega) only [Sh.out hq,go_sem,seval]) | (refine UO (fun hq=> ?_) (fun hq=> ?_)<;>(try simp only [Zq,X2,Z2] at hq)<;>simp (disch:=omega) only [Sh.out hq,go_sem,seval]))
      all_goals refine ⟨(k+1,decide (WR a (nth n.arcs k))),⟨by simp only;omega,by rw [Zs,<- hb];simp⟩,by simp only;omega,Weak.mk ?_⟩
      all_goals simp (disch:=omega) only [go_sem,seval]
      all_goals simp [WR, *]
    ·have hki:k=i:=Za
     subst hki;have htw:(b=false↔ ∀j,j<k-> ¬WR a (nth n.arcs j)):=hb;clear hb hk h
     refine ZI [6,7] (fun m:List Flt=> [(5,.sl 2 0 m.length m.length)]) (fun m=>Z7 n++ [Vb a,.elems 2 (m.map eF)])
      (fun m=>FR (pF 26) (((0<=a.src/\a.src<n.places.length/\0<=a.dst/\a.dst<n.places.length)/\(0<=a.prof/\a.prof<=7/\0<=a.miles/\a.miles<=10000/\a.src≠a.dst))/\ ∀j,j<k-> ¬WR a (nth n.arcs j)) 3 m) ?_ ?_
     ·refine Zc ?_
      cases b with
      | true =>
       refine Zc ?_;exact ⟨m++ [(6,at')],hm.yes (by grind) (by grind [pF]),Weak.mk (by simp (disch:=omega) only [Z7,Vb,go_sem,seval])⟩
      | false =>
       refine Zc ?_;exact ⟨m,hm.no (htw.1 rfl),Weak.mk (by simp (disch:=omega) only [Z7,Vb,go_sem,seval])⟩
     ·clear hm hml;intro m hm;refine Zg [21] _ _ _ _ (BK ?_);have hml:=hm.len;refine ((fQ a.travel a.travel_c ht).frozenE).useV fun lt hlt=>Zc ?_;have hltl:=hlt.len
      refine Z4 [21] [6,7,11] (fun q:Nat×List Flt=> [(5,.sl 2 0 q.2.length q.2.length),(12,.p (.int .i64 q.1))]) (fun q=>Z7 n++ [Vb a,.elems 2 (q.2.map eF)])
       (fun q=>q.1<=lt.length/\FR (pF 26) ((((0<=a.src/\a.src<n.places.length/\0<=a.dst/\a.dst<n.places.length)/\(0<=a.prof/\a.prof<=7/\0<=a.miles/\a.miles<=10000/\a.src≠a.dst))/\ ∀j,j<k-> ¬WR a (nth n.arcs j))/\q.1=0) (3+q.1) q.2) (fun q=>lt.length-q.1) (0,m) ⟨Zb,hm.to Zb Zb⟩ (Weak.mk ?_) ?_
      ·simp (disch:=omega) only [Z7,Vb,go_sem,seval]
      ·clear hm hml;rintro ⟨j,m⟩ ⟨hj,hm⟩;simp only at hj hm;have hml:=hm.len;refine BK ?_;refine ZO ?_ ?_<;>intro h
       ·have hj2:j<lt.length:=Za
        exact ⟨(j+1,m++ [((nth lt j).1,at')]),⟨Za,(hm.yes (c:=False) Zb (by grind [pF])).to Za Zb⟩,Za,wk⟩
       ·have hjl:j=lt.length:=Za
        subst hjl;have hm2:=hm.to (d:=3+lt.length) (D:=(((0<=a.src/\a.src<n.places.length/\0<=a.dst/\a.dst<n.places.length)/\(0<=a.prof/\a.prof<=7/\0<=a.miles/\a.miles<=10000/\a.src≠a.dst))/\ ∀j,j<k-> ¬WR a (nth n.arcs j))/\W9 a.travel) (ZA _) (by rw [<- hlt.emp,List.eq_nil_iff_length_eq_zero]);clear hm
        refine ZI [6,7] (fun m:List Flt=> [(5,.sl 2 0 m.length m.length)]) (fun m=>Z7 n++ [Vb a,.elems 2 (m.map eF)])
         (fun m=>FR (pF 26) (((((0<=a.src/\a.src<n.places.length/\0<=a.dst/\a.dst<n.places.length)/\(0<=a.prof/\a.prof<=7/\0<=a.miles/\a.miles<=10000/\a.src≠a.dst))/\ ∀j,j<k-> ¬WR a (nth n.arcs j))/\W9 a.travel)/\a.slow.length<=16) (4+lt.length) m) ?_ ?_
        ·refine Zc ?_;refine ZO ?_ ?_<;>intro h2
         ·exact ⟨m++ [(4,at')],(hm2.yes Za (by grind [pF])).to Za Iff.rfl,Weak.mk (by simp (disch:=omega) only [Z7,Vb,go_sem,seval])⟩
         ·exact ⟨m,(hm2.no Za).to Za Iff.rfl,Weak.mk (by simp (disch:=omega) only [Z7,Vb,go_sem,seval])⟩
        ·clear hm2 hml h hj;intro m hm;refine Zg [] _ _ _ _ (BK ?_)
         refine Zm [6,7] (fun q:Nat×List Flt=> [(5,.sl 2 0 q.2.length q.2.length),(13,.p (.int .i64 q.1))]) (fun q=>Z7 n++ [Vb a,.elems 2 (q.2.map eF)])
          (fun q=>q.1<=a.slow.length/\FR (pF 26) ((((((0<=a.src/\a.src<n.places.length/\0<=a.dst/\a.dst<n.places.length)/\(0<=a.prof/\a.prof<=7/\0<=a.miles/\a.miles<=10000/\a.src≠a.dst))/\ ∀j,j<k-> ¬WR a (nth n.arcs j))/\W9 a.travel)/\a.slow.length<=16)/\ ∀j,j<q.1->KZ a.slow j) (4+lt.length+q.1) q.2) (fun q=>a.slow.length-q.1) (0,m) ⟨Zb,hm.to Zb Zb⟩ (Weak.mk ?_) ?_
         ·simp (disch:=omega) only [Z7,Vb,go_sem,seval]
         ·clear hm;rintro ⟨j,m⟩ ⟨hj,hm⟩;simp only at hj hm;have hml:=hm.len;refine BK ?_;refine cD ?_ ?_<;>intro h<;>simp (disch:=omega) only [Sh.out h,go_sem,seval,↓reduceIte]
          ·have hj2:j<a.slow.length:=Za
           refine Xo (Zc ?_);refine Zo (Ob (nth a.slow j).t) (Zc ?_);have hslo:KZ a.slow j↔(LZ (nth a.slow j).t=true/\LZ (nth a.slow j).a=true/\(0<j->(nth a.slow (j-1)).t<(nth a.slow j).t)):=Iff.rfl;have hyes: ¬KZ a.slow j->_:=fun hs=>(hm.yes (x:=(2,at')) hs (by grind [pF])).to (D:=(((((0<=a.src/\a.src<n.places.length/\0<=a.dst/\a.dst<n.places.length)/\(0<=a.prof/\a.prof<=7/\0<=a.miles/\a.miles<=10000/\a.src≠a.dst))/\ ∀j,j<k-> ¬WR a (nth n.arcs j))/\W9 a.travel)/\a.slow.length<=16)/\ ∀i,i<j+1->KZ a.slow i) (d:=4+lt.length+(j+1)) Za (by grind)
           have hno:KZ a.slow j->_:=fun hs=>(hm.no hs).to (D:=(((((0<=a.src/\a.src<n.places.length/\0<=a.dst/\a.dst<n.places.length)/\(0<=a.prof/\a.prof<=7/\0<=a.miles/\a.miles<=10000/\a.src≠a.dst))/\ ∀j,j<k-> ¬WR a (nth n.arcs j))/\W9 a.travel)/\a.slow.length<=16)/\ ∀i,i<j+1->KZ a.slow i) (d:=4+lt.length+(j+1)) Za (by grind)
           cases ht1:LZ (nth a.slow j).t with
           | false =>
            refine Zc ?_;exact ⟨(j+1,m++ [(2,at')]),⟨Za,hyes (by grind)⟩,Za,wk⟩
           | true =>
            refine Zc ?_;refine Zo (Ob (nth a.slow j).a) (Zc ?_)
            cases ht2:LZ (nth a.slow j).a with
            | false =>
             refine Zc ?_;exact ⟨(j+1,m++ [(2,at')]),⟨Za,hyes (by grind)⟩,Za,wk⟩
            | true =>
             refine Zc ?_
             repeat' (first | (refine gT ?_ ?_<;>intro hq<;>simp (disch:=omega) only [Sh.out hq,go_sem,seval]) | (refine Ue (fun hq=> ?_) (fun hq=> ?_)<;>(try simp only [Zq,X2,Z2] at hq)<;>simp (disch:=omega) only [Sh.out hq,go_sem,seval]) | (refine cD ?_ ?_<;>intro hq<;>simp (disch:=omega) only [Sh.out hq,go_sem,seval]))
             ·exact ⟨(j+1,m++ [(2,at')]),⟨Za,hyes (by grind)⟩,Za,wk⟩
             ·exact ⟨(j+1,m),⟨Za,hno (by grind)⟩,Za,wk⟩
             ·exact ⟨(j+1,m),⟨Za,hno (by grind)⟩,Za,wk⟩
          ·have hjn:j=a.slow.length:=Za
           subst hjn;exact ⟨m,hm.to Za (by rw [Mo,hga]),2,by simp (disch:=omega) only [go_sem,seval]⟩
theorem Zt {α:Type} [Inhabited α] {l:List α} {i:Nat} (h:i<l.length):nth l i∈l:=by grind [Zh]
theorem zB (n:Net) (hw:n.wf 1048576):ACalls Tryz.prog 41 [.p (B4 n)] [] fun x H'=> ∃m:List Flt,FR (pF 26) (netOk n) 4194306000000 m/\x= .sl 0 0 m.length m.length/\H'= [.elems 2 (m.map eF)]:=by
 obtain ⟨w1,w2,w3,w4⟩:=hw;refine ZW [2] Tryz.func41 rfl Zif ?_;simp (disch:=omega) only [Tryz.f41,go_sem,seval];refine (O5 n w1 w2).useE fun m hm=>Zc ?_;have hml:=hm.len;refine ZI [1] (fun m:List Flt=> [(3,.sl 1 0 m.length m.length)]) (fun m=>Z7 n++ [.elems 2 (m.map eF)]) (fun m=>FR (pF 26) (KT n/\n.arcs.length<=1024) (n.places.length+2) m) ?_ ?_
 ·refine Zc ?_;refine ZO ?_ ?_<;>intro h
  ·exact ⟨m++ [(4,[97,114,99,115])],hm.yes Za (by simp [pF]),Weak.mk (by simp (disch:=omega) only [Z7,go_sem,seval])⟩
  ·exact ⟨m,hm.no Za,Weak.mk (by simp (disch:=omega) only [Z7,go_sem,seval])⟩
 ·clear hm hml;intro m hm;refine Zg [] _ _ _ _ (K2 ?_);refine Zm [1] (fun q:Nat×List Flt=> [(3,.sl 1 0 q.2.length q.2.length),(4,.p (.int .i64 q.1))]) (fun q=>Z7 n++ [.elems 2 (q.2.map eF)]) (fun q=>q.1<=n.arcs.length/\FR (pF 26) ((KT n/\n.arcs.length<=1024)/\ ∀j,j<q.1->Mo n j) (n.places.length+2+q.1*4000000) q.2) (fun q=>n.arcs.length-q.1) (0,m) ⟨Zb,hm.to Zb Zb⟩ (Weak.mk ?_) ?_
  ·simp (disch:=omega) only [Z7,go_sem,seval]
  ·clear hm;rintro ⟨k,m⟩ ⟨hk,hm⟩;simp only at hk hm;have hml:=hm.len;refine K2 ?_;refine cD ?_ ?_<;>intro h<;>simp (disch:=omega) only [Sh.out h,go_sem,seval,↓reduceIte]
   ·have hk2:k<n.arcs.length:=Za
    have ha:=w4 _ (Zt hk2);refine (qI n k hk2 w1 w3 ha.2.2.2.2.1 ha.2.2.2.2.2.2.1).useE fun f hf=>Zc ?_;have hfl:=hf.len
    have q1:(m.length+f.length)*24<=140737488355328:=Za
    have q2:m.length+f.length<=140737488355328:=Za
    simp (disch:=omega) only [q1,q2,go_sem,seval];refine ⟨(k+1,m++f),⟨Za,(hm.app hf).to Za (by grind)⟩,Za,Weak.mk ?_⟩;simp (disch:=omega) only [ZH,Xz,go_sem,seval]
   ·have hkn:k=n.arcs.length:=Za
    subst hkn;exact ⟨m,hm.to Za (by rw [netOk]),1,by simp (disch:=omega) only [go_sem,seval]⟩
theorem VF (n lo hi:Int):PC 74 [.p (.int .i64 n),.p (.int .i64 lo),.p (.int .i64 hi)] (.bool (rng n lo hi)):=by
 refine Zd Tryz.func74 rfl ZiH ?_;simp (disch:=omega) only [Tryz.f74,go_sem,seval];refine gT ?_ ?_<;>intro h<;>simp (disch:=omega) only [Sh.out h,go_sem,seval,↓reduceIte]
 all_goals (simp [rng];first | done | omega | (rw [Wq];simp;omega))
def VB (l:List Int) (d:Int):Bool:=rng l.length 1 3&&decide ((l.length:Int)=d)&&l.all fun n=>rng n 0 1000
theorem O1 (l:List Int) (c:Bool) (d:Int) (hl:l.length<=1048576):PC 113 [.p (.list c (l.map eI)),.p (.int .i64 d)] (.bool (VB l d)):=by
 refine Zd Tryz.func113 rfl Zad ?_;simp (disch:=omega) only [Tryz.f113,go_sem,seval];refine (VF l.length 1 3).use (Zc ?_);refine gF ?_ ?_<;>intro h<;>simp (disch:=omega) only [Sh.out h,go_sem,seval,↓reduceIte]
 ·grind [VB]
 ·simp only [XM] at h;refine cD ?_ ?_<;>intro h2<;>simp (disch:=omega) only [Sh.out h2,go_sem,seval]
  ·simp [VB,h,h2]
  ·simp only [Z2] at h2;subst h2;refine Zm [0] (fun k:Nat=> [(5,.p (.int .i64 k))]) (fun _=> []) (fun k=>k<=l.length/\ ∀j,j<k->rng (nth l j) 0 1000=true) (fun k=>l.length-k) 0 Zb (Weak.mk ?_) ?_
   ·simp (disch:=omega) only [go_sem,seval,↓reduceIte]
   ·rintro k ⟨hk,hno⟩;refine Zc ?_;refine cD ?_ ?_<;>intro h3<;>simp (disch:=omega) only [Sh.out h3,go_sem,seval,↓reduceIte]
    ·have hk2:k<l.length:=Za
     refine (VF (nth l k) 0 1000).use (Zc ?_);refine cD ?_ ?_<;>intro h4<;>simp (disch:=omega) only [Sh.out h4,go_sem,seval,↓reduceIte]
     ·grind [Zt,VB]
     ·simp only [XM] at h4;exact ⟨k+1,⟨Za,Zs.2 ⟨hno,h4⟩⟩,Za,wk⟩
    ·have:l.all (fun n=>rng n 0 1000)=true:=by
      rw [Zz];intro x hx;obtain ⟨j,hj,rfl⟩:=ZT.1 hx
      grind [Zh]
     grind [VB]
def Pq (l:List Typ) (i:Nat) (s:List UInt8):Bool:=(List.range i).any fun j=>decide ((nth l j).name=s)
theorem US {l:List Typ} {i:Nat} {s:List UInt8} :Pq l i s=false↔ ∀j,j<i->(nth l j).name≠s:=by
 grind [Pq]
theorem T8 (l:List Typ) (c:Bool) (i:Nat) (s:List UInt8) (hi:i<=l.length) (hl:l.length<=1048576):PC 112 [.p (.list c (l.map X4)),.p (.int .i64 (i:Nat)),.p (.str s)] (.bool (Pq l i s)):=by
 refine Zd Tryz.func112 rfl Zac ?_;simp (disch:=omega) only [Tryz.f112,go_sem,seval];refine Zm [0,1,2] (fun k:Nat=> [(7,.p (.int .i64 k))]) (fun _=> []) (fun k=>k<=i/\ ∀j,j<k->(nth l j).name≠s) (fun k=>i-k) 0 Zb (Weak.mk ?_) ?_
 ·simp (disch:=omega) only [go_sem,seval,↓reduceIte]
 ·rintro k ⟨hk,hno⟩;refine Zc ?_;refine cD ?_ ?_<;>intro h3<;>simp (disch:=omega) only [Sh.out h3,go_sem,seval,↓reduceIte]
  ·have hk2:k<l.length:=Za
   refine cD ?_ ?_<;>intro h4<;>simp (disch:=omega) only [Sh.out h4,go_sem,seval,↓reduceIte]
   ·grind [US]
   ·exact ⟨k+1,⟨Za,Zs.2 ⟨hno,h4⟩⟩,Za,wk⟩
  grind [US]
def dimsOf (l:List Typ):Int:=if l.length=0 then 0 else ((nth l 0).cap.length:Int)
theorem MI (l:List Typ) (c:Bool) (hl:l.length<=1048576):PC 44 [.p (.list c (l.map X4))] (.int .i64 (dimsOf l)):=by
 refine Zd Tryz.func44 rfl Zii ?_;simp (disch:=omega) only [Tryz.f44,go_sem,seval];refine cD ?_ ?_<;>intro h<;>simp (disch:=omega) only [Sh.out h,go_sem,seval,↓reduceIte]
 ·grind [dimsOf]
 ·have h0:0<l.length:=Za
  have h1:l.length≠0:=Za
  simp (disch:=first | omega | (simp only [ZD,ZF,ZH,Z1,Xs,XI]<;>omega)) only [dimsOf,h1,go_sem,seval,↓reduceIte]
def Yf (t:Typ):AM.Obj:= .cells [.p (.str t.name),.p (.int .i64 t.count),.p (.int .i64 t.src),.p (.int .i64 t.dst),.p (.list t.cap_c (t.cap.map eI)),.p (.int .i64 t.skills),.p (.int .i64 t.prof),.p (.int .i64 t.opn),.p (.int .i64 t.cls),.p (.int .i64 t.drive),.p (.int .i64 t.rest),.p (.int .i64 t.fixed),.p (.int .i64 t.perMile),.p (.int .i64 t.perTick)]
def Us (n:Net) (l:List Typ) (i:Nat):Prop:=((((((((nameOk (nth l i).name=true)/\(∀j,j<i->(nth l j).name≠(nth l i).name))/\rng (nth l i).count 0 10=true)/\(rng (nth l i).src 0 (n.places.length-1)=true/\rng (nth l i).dst 0 (n.places.length-1)=true))/\VB (nth l i).cap (dimsOf l)=true)/\rng (nth l i).skills 0 1073741823=true)/\(rng (nth l i).opn 0 (nth l i).cls=true/\(nth l i).cls<=4096))/\(rng (nth l i).drive 1 4096=true/\rng (nth l i).rest 0 4096=true))/\(rng (nth l i).prof 0 7=true/\rng (nth l i).fixed 0 100000=true/\rng (nth l i).perMile 0 100=true/\rng (nth l i).perTick 0 100=true)
theorem C5 {P Q:Prop} (h:Q) (e:Q->P:=by intro h;simp (disch:=omega) only [Z7,Yf,go_sem,seval];exact h):P:=e h
theorem bR (n:Net) (l:List Typ) (c:Bool) (i:Nat) (hi:i<l.length) (hl:l.length<=1048576) (hw:n.wf 1048576) (ht:(nth l i).wf 1048576) :
  ACalls Tryz.prog 75 [.p (B4 n),.p (.list c (l.map X4)),.p (.int .i64 (i:Nat))] [] fun x H'=> ∃m:List Int,FR (fun _=>True) (Us n l i) 9 m/\x= .sl 0 0 m.length m.length/\H'= [.elems 1 (m.map eI)]:=by
 obtain ⟨w1,w2,w3,w4⟩:=hw;refine ZW [3] Tryz.func75 rfl ZiI ?_;simp (disch:=omega) only [Tryz.f75,go_sem,seval];have hty:Us n l i↔((((((((nameOk (nth l i).name=true)/\(∀j,j<i->(nth l j).name≠(nth l i).name))/\rng (nth l i).count 0 10=true)/\(rng (nth l i).src 0 (n.places.length-1)=true/\rng (nth l i).dst 0 (n.places.length-1)=true))/\VB (nth l i).cap (dimsOf l)=true)/\rng (nth l i).skills 0 1073741823=true)/\(rng (nth l i).opn 0 (nth l i).cls=true/\(nth l i).cls<=4096))/\(rng (nth l i).drive 1 4096=true/\rng (nth l i).rest 0 4096=true))/\(rng (nth l i).prof 0 7=true/\rng (nth l i).fixed 0 100000=true/\rng (nth l i).perMile 0 100=true/\rng (nth l i).perTick 0 100=true):=Iff.rfl
 generalize hga:nth l i=t at ht hty ⊢;have hname:=ht.1;have hcap:=ht.2.2.2.2.1;refine Zp (Weak.ofNil 8 1 (by simp (disch:=omega) only [go_sem,seval]) Zb (Weak.refl _ _ _)) ?_;refine ZI [1,2,3,7] (fun m:List Int=> [(8,.sl 2 0 m.length m.length)]) (fun m=>Z7 n++ [Yf t,.elems 1 (m.map eI)]) (fun m=>FR (fun _=>True) (nameOk t.name=true) 1 m) ?_ ?_
 ·refine Zc ?_;refine (Pv t.name hname).use (Zc ?_);refine ZO ?_ ?_<;>intro h0
  ·simp only [XN] at h0;exact ⟨[5],⟨Zb,by simp [h0],Zb⟩,Weak.mk (by simp (disch:=omega) only [Z7,Yf,go_sem,seval])⟩
  ·simp only [XM] at h0;exact ⟨[],FR.nil (by simp [h0]),Weak.mk (by simp (disch:=omega) only [Z7,Yf,go_sem,seval])⟩
 ·skip
  intro m hm;refine Zg [5] _ _ _ _ (C5 ?_);have hml:=hm.len;refine ZI [1,3,7] (fun m:List Int=> [(8,.sl 2 0 m.length m.length)]) (fun m=>Z7 n++ [Yf t,.elems 1 (m.map eI)]) (fun m=>FR (fun _=>True) ((nameOk t.name=true)/\(∀j,j<i->(nth l j).name≠t.name)) 2 m) ?_ ?_
  ·refine Zc ?_;refine (T8 l c i t.name Za hl).use (Zc ?_);refine ZO ?_ ?_<;>intro h
   ·exact ⟨m++ [6],hm.yes (by grind [US]) trivial,Weak.mk (by simp (disch:=omega) only [Z7,Yf,go_sem,seval])⟩
   ·exact ⟨m,hm.no (by exact US.1 h),Weak.mk (by simp (disch:=omega) only [Z7,Yf,go_sem,seval])⟩
  ·clear hm hml;intro m hm;refine Zg [7] _ _ _ _ (C5 ?_);have hml:=hm.len;refine ZI [1,3,7] (fun m:List Int=> [(8,.sl 2 0 m.length m.length)]) (fun m=>Z7 n++ [Yf t,.elems 1 (m.map eI)]) (fun m=>FR (fun _=>True) (((nameOk t.name=true)/\(∀j,j<i->(nth l j).name≠t.name))/\rng t.count 0 10=true) 3 m) ?_ ?_
   ·refine Zc ?_;refine (VF t.count 0 10).use (Zc ?_);refine ZO ?_ ?_<;>intro h0
    ·simp only [XN] at h0;exact ⟨m++ [22],hm.yes (by simp [h0]) trivial,Weak.mk (by simp (disch:=omega) only [Z7,Yf,go_sem,seval])⟩
    ·simp only [XM] at h0;exact ⟨m,hm.no (by simp [h0]),Weak.mk (by simp (disch:=omega) only [Z7,Yf,go_sem,seval])⟩
   ·clear hm hml;intro m hm;refine Zg [9] _ _ _ _ (C5 ?_);have hml:=hm.len;refine ZI [1,7] (fun m:List Int=> [(8,.sl 2 0 m.length m.length)]) (fun m=>Z7 n++ [Yf t,.elems 1 (m.map eI)]) (fun m=>FR (fun _=>True) ((((nameOk t.name=true)/\(∀j,j<i->(nth l j).name≠t.name))/\rng t.count 0 10=true)/\(rng t.src 0 (n.places.length-1)=true/\rng t.dst 0 (n.places.length-1)=true)) 4 m) ?_ ?_
    ·refine Zc ?_;refine (VF t.src 0 (n.places.length-1)).use (Zc ?_);refine IW ?_ ?_<;>intro h0
     ·simp only [XN] at h0;exact ⟨m++ [11],hm.yes (by simp [h0]) trivial,Weak.mk (by simp (disch:=omega) only [Z7,Yf,go_sem,seval])⟩
     ·simp only [XM] at h0;refine (VF t.dst 0 (n.places.length-1)).use (Zc ?_);refine ZO ?_ ?_<;>intro h1
      ·simp only [XN] at h1;exact ⟨m++ [11],hm.yes (by simp [h1]) trivial,Weak.mk (by simp (disch:=omega) only [Z7,Yf,go_sem,seval])⟩
      ·simp only [XM] at h1;exact ⟨m,hm.no (by simp [h0,h1]),Weak.mk (by simp (disch:=omega) only [Z7,Yf,go_sem,seval])⟩
    ·clear hm hml;intro m hm;refine Zg [11] _ _ _ _ (C5 ?_);have hml:=hm.len;refine ZI [7] (fun m:List Int=> [(8,.sl 2 0 m.length m.length)]) (fun m=>Z7 n++ [Yf t,.elems 1 (m.map eI)]) (fun m=>FR (fun _=>True) (((((nameOk t.name=true)/\(∀j,j<i->(nth l j).name≠t.name))/\rng t.count 0 10=true)/\(rng t.src 0 (n.places.length-1)=true/\rng t.dst 0 (n.places.length-1)=true))/\VB t.cap (dimsOf l)=true) 5 m) ?_ ?_
     ·refine Zc ?_;refine Xo (Zc ?_);refine Zo (MI l c hl) (Zc ?_);refine Zo (O1 t.cap t.cap_c (dimsOf l) hcap) (Zc ?_);refine ZO ?_ ?_<;>intro h
      ·simp only [XN] at h;exact ⟨m++ [17],hm.yes (by simp [h]) trivial,Weak.mk (by simp (disch:=omega) only [Z7,Yf,go_sem,seval])⟩
      ·simp only [XM] at h;exact ⟨m,hm.no (by simp [h]),Weak.mk (by simp (disch:=omega) only [Z7,Yf,go_sem,seval])⟩
     ·clear hm hml;intro m hm;refine Zg [13] _ _ _ _ (C5 ?_);have hml:=hm.len;refine ZI [7] (fun m:List Int=> [(8,.sl 2 0 m.length m.length)]) (fun m=>Z7 n++ [Yf t,.elems 1 (m.map eI)]) (fun m=>FR (fun _=>True) ((((((nameOk t.name=true)/\(∀j,j<i->(nth l j).name≠t.name))/\rng t.count 0 10=true)/\(rng t.src 0 (n.places.length-1)=true/\rng t.dst 0 (n.places.length-1)=true))/\VB t.cap (dimsOf l)=true)/\rng t.skills 0 1073741823=true) 6 m) ?_ ?_
      ·refine Zc ?_;refine (VF t.skills 0 1073741823).use (Zc ?_);refine ZO ?_ ?_<;>intro h0
       ·simp only [XN] at h0;exact ⟨m++ [18],hm.yes (by simp [h0]) trivial,Weak.mk (by simp (disch:=omega) only [Z7,Yf,go_sem,seval])⟩
       ·simp only [XM] at h0;exact ⟨m,hm.no (by simp [h0]),Weak.mk (by simp (disch:=omega) only [Z7,Yf,go_sem,seval])⟩
      ·clear hm hml;intro m hm;refine Zg [15] _ _ _ _ (C5 ?_);have hml:=hm.len;refine ZI [7] (fun m:List Int=> [(8,.sl 2 0 m.length m.length)]) (fun m=>Z7 n++ [Yf t,.elems 1 (m.map eI)]) (fun m=>FR (fun _=>True) (((((((nameOk t.name=true)/\(∀j,j<i->(nth l j).name≠t.name))/\rng t.count 0 10=true)/\(rng t.src 0 (n.places.length-1)=true/\rng t.dst 0 (n.places.length-1)=true))/\VB t.cap (dimsOf l)=true)/\rng t.skills 0 1073741823=true)/\(rng t.opn 0 t.cls=true/\t.cls<=4096)) 7 m) ?_ ?_
       ·refine Zc ?_;refine (VF t.opn 0 t.cls).use (Zc ?_);refine IW ?_ ?_<;>intro h0
        ·simp only [XN] at h0;exact ⟨m++ [15],hm.yes (by simp [h0]) trivial,Weak.mk (by simp (disch:=omega) only [Z7,Yf,go_sem,seval])⟩
        ·simp only [XM] at h0;refine ZO ?_ ?_<;>intro h1
         ·exact ⟨m++ [15],hm.yes Za trivial,Weak.mk (by simp (disch:=omega) only [Z7,Yf,go_sem,seval])⟩
         ·exact ⟨m,hm.no (by grind),Weak.mk (by simp (disch:=omega) only [Z7,Yf,go_sem,seval])⟩
       ·clear hm hml;intro m hm;refine Zg [17] _ _ _ _ (C5 ?_);have hml:=hm.len;refine ZI [7] (fun m:List Int=> [(8,.sl 2 0 m.length m.length)]) (fun m=>Z7 n++ [Yf t,.elems 1 (m.map eI)]) (fun m=>FR (fun _=>True) ((((((((nameOk t.name=true)/\(∀j,j<i->(nth l j).name≠t.name))/\rng t.count 0 10=true)/\(rng t.src 0 (n.places.length-1)=true/\rng t.dst 0 (n.places.length-1)=true))/\VB t.cap (dimsOf l)=true)/\rng t.skills 0 1073741823=true)/\(rng t.opn 0 t.cls=true/\t.cls<=4096))/\(rng t.drive 1 4096=true/\rng t.rest 0 4096=true)) 8 m) ?_ ?_
        ·refine Zc ?_;refine (VF t.drive 1 4096).use (Zc ?_);refine IW ?_ ?_<;>intro h0
         ·simp only [XN] at h0;exact ⟨m++ [16],hm.yes (by simp [h0]) trivial,Weak.mk (by simp (disch:=omega) only [Z7,Yf,go_sem,seval])⟩
         ·simp only [XM] at h0;refine (VF t.rest 0 4096).use (Zc ?_);refine ZO ?_ ?_<;>intro h1
          ·simp only [XN] at h1;exact ⟨m++ [16],hm.yes (by simp [h1]) trivial,Weak.mk (by simp (disch:=omega) only [Z7,Yf,go_sem,seval])⟩
          ·simp only [XM] at h1;exact ⟨m,hm.no (by simp [h0,h1]),Weak.mk (by simp (disch:=omega) only [Z7,Yf,go_sem,seval])⟩
        ·clear hm hml;intro m hm;refine Zg [19] _ _ _ _ (C5 ?_);have hml:=hm.len;refine ZI [] (fun m:List Int=> [(8,.sl 2 0 m.length m.length)]) (fun m=>Z7 n++ [Yf t,.elems 1 (m.map eI)]) (fun m=>FR (fun _=>True) (((((((((nameOk t.name=true)/\(∀j,j<i->(nth l j).name≠t.name))/\rng t.count 0 10=true)/\(rng t.src 0 (n.places.length-1)=true/\rng t.dst 0 (n.places.length-1)=true))/\VB t.cap (dimsOf l)=true)/\rng t.skills 0 1073741823=true)/\(rng t.opn 0 t.cls=true/\t.cls<=4096))/\(rng t.drive 1 4096=true/\rng t.rest 0 4096=true))/\(rng t.prof 0 7=true/\rng t.fixed 0 100000=true/\rng t.perMile 0 100=true/\rng t.perTick 0 100=true)) 9 m) ?_ ?_
         ·refine Zc ?_;refine (VF t.prof 0 7).use (Zc ?_);refine gF ?_ ?_<;>intro h0<;>simp (disch:=omega) only [Sh.out h0,go_sem,seval,↓reduceIte]
          ·simp only [XN] at h0;exact ⟨m++ [2],hm.yes (by simp [h0]) trivial,Weak.mk (by simp (disch:=omega) only [Z7,Yf,go_sem,seval])⟩
          ·simp only [XM] at h0;refine (VF t.fixed 0 100000).use (Zc ?_);refine gF ?_ ?_<;>intro h1<;>simp (disch:=omega) only [Sh.out h1,go_sem,seval,↓reduceIte]
           ·simp only [XN] at h1;exact ⟨m++ [2],hm.yes (by simp [h1]) trivial,Weak.mk (by simp (disch:=omega) only [Z7,Yf,go_sem,seval])⟩
           ·simp only [XM] at h1;refine (VF t.perMile 0 100).use (Zc ?_);refine gF ?_ ?_<;>intro h2<;>simp (disch:=omega) only [Sh.out h2,go_sem,seval,↓reduceIte]
            ·simp only [XN] at h2;exact ⟨m++ [2],hm.yes (by simp [h2]) trivial,Weak.mk (by simp (disch:=omega) only [Z7,Yf,go_sem,seval])⟩
            ·simp only [XM] at h2;refine (VF t.perTick 0 100).use (Zc ?_);refine cD ?_ ?_<;>intro h3<;>simp (disch:=omega) only [Sh.out h3,go_sem,seval,↓reduceIte]
             ·simp only [XN] at h3;exact ⟨m++ [2],hm.yes (by simp [h3]) trivial,Weak.mk (by simp (disch:=omega) only [Z7,Yf,go_sem,seval])⟩
             ·simp only [XM] at h3;exact ⟨m,hm.no (by grind),Weak.mk (by simp (disch:=omega) only [Z7,Yf,go_sem,seval])⟩
         ·clear hm hml;intro m hm;refine Zg [] _ _ _ _ (C5 ?_);have hml:=hm.len;exact ⟨m,hm.to Za (by rw [hty]),2,by simp (disch:=omega) only [go_sem,seval]⟩
def typesOk (n:Net) (l:List Typ):Prop:=rng l.length 1 6=true/\ ∀i,i<l.length->Us n l i
theorem zC (n:Net) (l:List Typ) (c:Bool) (hw:n.wf 1048576) (hl:l.length<=1048576) (hlw: ∀t∈l,t.wf 1048576) :
  ACalls Tryz.prog 42 [.p (B4 n),.p (.list c (l.map X4))] [] fun x H'=> ∃m:List Flt,FR (pF 20) (typesOk n l) (1+9*l.length) m/\x= .sl 0 0 m.length m.length/\H'= [.elems 2 (m.map eF)]:=by
 refine ZW [2] Tryz.func42 rfl Zig ?_;simp (disch:=omega) only [Tryz.f42,go_sem,seval];refine Zp (Weak.ofNil 5 2 (by simp (disch:=omega) only [go_sem,seval]) Zb (Weak.refl _ _ _)) ?_;refine ZI [1,2] (fun m:List Flt=> [(5,.sl 1 0 m.length m.length)]) (fun m=>Z7 n++ [.elems 2 (m.map eF)]) (fun m=>FR (pF 20) (rng l.length 1 6=true) 1 m) ?_ ?_
 ·refine Zc ?_;refine (VF l.length 1 6).use (Zc ?_);refine ZO ?_ ?_<;>intro h
  ·simp only [XN] at h;exact ⟨[(4,[])],⟨Zb,by simp [h],by simp [pF]⟩,Weak.mk (by simp (disch:=omega) only [Z7,go_sem,seval])⟩
  ·simp only [XM] at h;exact ⟨[],FR.nil h,Weak.mk (by simp (disch:=omega) only [Z7,go_sem,seval])⟩
 ·intro m hm;refine Zg [] _ _ _ _ (K2 ?_);refine Zm [1,2] (fun q:Nat×List Flt=> [(5,.sl 1 0 q.2.length q.2.length),(6,.p (.int .i64 q.1))]) (fun q=>Z7 n++ [.elems 2 (q.2.map eF)]) (fun q=>q.1<=l.length/\FR (pF 20) (rng l.length 1 6=true/\ ∀j,j<q.1->Us n l j) (1+9*q.1) q.2) (fun q=>l.length-q.1) (0,m) ⟨Zb,hm.to Zb Zb⟩ (Weak.mk ?_) ?_
  ·simp (disch:=omega) only [Z7,go_sem,seval]
  ·clear hm;rintro ⟨k,m⟩ ⟨hk,hm⟩;simp only at hk hm;have hml:=hm.len;refine K2 ?_;refine cD ?_ ?_<;>intro h<;>simp (disch:=omega) only [Sh.out h,go_sem,seval,↓reduceIte]
   ·have hk2:k<l.length:=Za
    have hI:U5 (k:Int):=Za
    have hdl:=Jg k hI;refine ((bR n l c k hk2 hl hw (hlw _ (Zt hk2))).frozenE).useV fun e he=>Zc ?_;have hel:=he.len;refine Zm [1,2,6,7] (fun q:Nat×List Flt=> [(5,.sl 1 0 q.2.length q.2.length),(8,.p (.int .i64 q.1))]) (fun q=>Z7 n++ [.elems 2 (q.2.map eF)]) (fun q=>q.1<=e.length/\FR (pF 20) ((rng l.length 1 6=true/\ ∀j,j<k->Us n l j)/\q.1=0) (1+9*k+q.1) q.2) (fun q=>e.length-q.1) (0,m) ⟨Zb,hm.to Zb Zb⟩ (Weak.mk ?_) ?_
    ·simp (disch:=omega) only [Z7,go_sem,seval]
    ·clear hm hml;rintro ⟨j,m⟩ ⟨hj,hm⟩;simp only at hj hm;have hml:=hm.len;refine K2 ?_;refine ZO ?_ ?_<;>intro h2
     ·have hj2:j<e.length:=Za
      refine ZC 9 mixed Ze Ze (Zc ?_);refine Zo (Ae k hI) (Zc ?_);exact ⟨(j+1,m++ [(nth e j,A3 k)]),⟨Za,(hm.yes (c:=False) Zb (by grind [pF])).to Za Zb⟩,Za,wk⟩
     ·have hjl:j=e.length:=Za
      subst hjl;exact ⟨(k+1,m),⟨Za,hm.to Za (by simp only [Zs,and_assoc];rw [<- he.emp,List.eq_nil_iff_length_eq_zero])⟩,Za,wk⟩
   ·have hkn:k=l.length:=Za
    subst hkn;exact ⟨m,hm.to Za (by rw [typesOk]),1,by simp (disch:=omega) only [go_sem,seval]⟩
theorem FI (n lo hi:Int):PC 115 [.p (.int .i64 n),.p (.int .i64 lo),.p (.int .i64 hi)] (.bool (rng n lo hi)):=by
 refine Zd Tryz.func115 rfl Zaf ?_;simp (disch:=omega) only [Tryz.f115,go_sem,seval];refine gT ?_ ?_<;>intro h<;>simp (disch:=omega) only [Sh.out h,go_sem,seval,↓reduceIte]
 all_goals (simp [rng];first | done | omega | (rw [Wq];simp;omega))
def loadOk (l:List Int) (d:Int):Bool:=decide ((l.length:Int)=d)&&l.all fun n=>rng n 0 1000
theorem bI (l:List Int) (c:Bool) (d:Int) (hl:l.length<=1048576):PC 114 [.p (.list c (l.map eI)),.p (.int .i64 d)] (.bool (loadOk l d)):=by
 refine Zd Tryz.func114 rfl Zae ?_;simp (disch:=omega) only [Tryz.f114,go_sem,seval];refine cD ?_ ?_<;>intro h2<;>simp (disch:=omega) only [Sh.out h2,go_sem,seval]
 ·simp [loadOk,h2]
 ·simp only [Z2] at h2;subst h2;refine Zm [0] (fun k:Nat=> [(5,.p (.int .i64 k))]) (fun _=> []) (fun k=>k<=l.length/\ ∀j,j<k->rng (nth l j) 0 1000=true) (fun k=>l.length-k) 0 Zb (Weak.mk ?_) ?_
  ·simp (disch:=omega) only [go_sem,seval,↓reduceIte]
  ·rintro k ⟨hk,hno⟩;refine Zc ?_;refine cD ?_ ?_<;>intro h3<;>simp (disch:=omega) only [Sh.out h3,go_sem,seval,↓reduceIte]
   ·have hk2:k<l.length:=Za
    have hbad:rng (nth l k) 0 1000=false->loadOk l l.length=false:=fun h4=>by
     grind [Zt,loadOk]
    repeat' (first | (refine Vy (fun hq=> ?_) (fun hq=> ?_)<;>(try simp only [Zq,X2,Z2] at hq)<;>simp (disch:=omega) only [Sh.out hq,go_sem,seval]) | (refine gF ?_ ?_<;>intro hq<;>simp (disch:=omega) only [Sh.out hq,go_sem,seval,↓reduceIte]) | (refine cD ?_ ?_<;>intro hq<;>simp (disch:=omega) only [Sh.out hq,go_sem,seval,↓reduceIte]))
    all_goals first
     | (rw [hbad (by simp [rng];omega)])
     | exact ⟨k+1,⟨Za,Zs.2 ⟨hno,by simp [rng];omega⟩⟩,Za,wk⟩
   ·have:l.all (fun n=>rng n 0 1000)=true:=by
     rw [Zz];intro x hx;obtain ⟨j,hj,rfl⟩:=ZT.1 hx
     grind [Zh]
    simp [loadOk,this]
def stpOk (s:Stp):Bool:=decide ((s.place= -1/\s.opn=0/\s.cls=0/\s.serv=0)\/(0<=s.place/\0<=s.opn/\s.opn<=s.cls/\s.cls<=4096/\0<=s.serv/\s.serv<=4096))
def cH (s:Stp):Int:=if stpOk s=true then 0 else 2
theorem fR (s:Stp):PC 116 [.p (Ft s)] (.int .i64 (cH s)):=by
 refine Zd Tryz.func116 rfl Zag ?_;simp (disch:=omega) only [Tryz.f116,go_sem,seval]
 repeat' (first | (refine gT ?_ ?_<;>intro hq<;>simp (disch:=omega) only [Sh.out hq,go_sem,seval,↓reduceIte]) | (refine gF ?_ ?_<;>intro hq<;>simp (disch:=omega) only [Sh.out hq,go_sem,seval,↓reduceIte]) | (refine cD ?_ ?_<;>intro hq<;>simp (disch:=omega) only [Sh.out hq,go_sem,seval,↓reduceIte]))
 all_goals (simp only [cH,stpOk,Zq])
 all_goals first
  | (exfalso;omega)
  | (rw [if_pos Za])
  | (rw [if_neg Za])
def Qf (l:List Ord) (i:Nat):Bool:=(List.range i).all fun j=>decide ((nth l j).name≠(nth l i).name)
theorem KO {l:List Ord} {i:Nat} :Qf l i=true↔ ∀j,j<i->(nth l j).name≠(nth l i).name:=by simp [Qf]
def Vs (b:Bool) (e:Int):List Int:=if b=true then [] else [e]
theorem UX (b:Bool) (e:Int):(Vs b e).length<=1:=by grind [Vs]
theorem QG {b:Bool} {e:Int} {m p:List Int} (h:m=p) (hb:b=true):m=p++Vs b e:=by simp [Vs,hb,h]
theorem UG {b:Bool} {e:Int} {m p:List Int} (h:m=p) (hb:b=false):m++ [e]=p++Vs b e:=by simp [Vs,hb,h]
def Y7 (t:Ord):AM.Obj:= .cells [.p (.str t.name),.p (.list t.load_c (t.load.map eI)),.p (.int .i64 t.pick.place),.p (.int .i64 t.pick.opn),.p (.int .i64 t.pick.cls),.p (.int .i64 t.pick.serv),.p (.int .i64 t.drp.place),.p (.int .i64 t.drp.opn),.p (.int .i64 t.drp.cls),.p (.int .i64 t.drp.serv),.p (.int .i64 t.skills),.p (.int .i64 t.penalty),.p (.int .i64 t.split),.p (.int .i64 t.last),.p (.int .i64 t.now),.p (.bool t.off)]
def IR (t:Ord):Bool:=decide (t.pick.place≠ -1)&&decide (t.drp.place≠ -1)
def argOk (t:Ord) (ty:Int):Bool:=rng t.penalty (-1) 1000000&&rng t.split 1 4&&decide (¬(1<t.split/\IR t=true)/\ -1<=t.last/\t.last<ty/\ -1<=t.now/\t.now<ty)
def Wh (np:Nat) (d ty:Int) (l:List Ord) (i:Nat):List Int:=Vs (nameOk (nth l i).name) 5++Vs (Qf l i) 6++Vs (loadOk (nth l i).load d) 17++Vs ((rng (nth l i).pick.place (-1) ((np:Int)-1)&&rng (nth l i).drp.place (-1) ((np:Int)-1))) 11++Vs (decide (¬((nth l i).pick.place= -1/\(nth l i).drp.place= -1))) 19++Vs ((stpOk (nth l i).pick&&stpOk (nth l i).drp)) 14++Vs (rng (nth l i).skills 0 1073741823) 18++Vs (argOk (nth l i) ty) 2
theorem CH (np:Nat) (d ty:Int) (l:List Ord) (i:Nat):(Wh np d ty l i).length<=8:=by
 grind [UX,Wh,ZH]
theorem Bd {P Q:Prop} (h:Q) (e:Q->P:=by intro h;simp (disch:=omega) only [Y7,go_sem,seval];exact h):P:=e h
theorem bS (np:Nat) (d ty:Int) (l:List Ord) (c:Bool) (i:Nat) (hi:i<l.length) (hl:l.length<=1048576) (hnp:np<=1048576) (ht:(nth l i).wf 1048576) :
  ACalls Tryz.prog 77 [.p (.int .i64 (np:Nat)),.p (.int .i64 d),.p (.int .i64 ty),.p (.list c (l.map Yh)),.p (.int .i64 (i:Nat))] [] fun x H'=>x= .sl 0 0 (Wh np d ty l i).length (Wh np d ty l i).length/\H'= [.elems 1 ((Wh np d ty l i).map eI)]:=by
 suffices hh:ACalls Tryz.prog 77 [.p (.int .i64 (np:Nat)),.p (.int .i64 d),.p (.int .i64 ty),.p (.list c (l.map Yh)),.p (.int .i64 (i:Nat))] [] fun x H'=> ∃m:List Int,m=Wh np d ty l i/\x= .sl 0 0 m.length m.length/\H'= [.elems 1 (m.map eI)] by
  grind
 refine ZW [3] Tryz.func77 rfl ZiK ?_;simp (disch:=omega) only [Tryz.f77,go_sem,seval];have hty:Wh np d ty l i=Vs (nameOk (nth l i).name) 5++Vs (Qf l i) 6++Vs (loadOk (nth l i).load d) 17++Vs ((rng (nth l i).pick.place (-1) ((np:Int)-1)&&rng (nth l i).drp.place (-1) ((np:Int)-1))) 11++Vs (decide (¬((nth l i).pick.place= -1/\(nth l i).drp.place= -1))) 19++Vs ((stpOk (nth l i).pick&&stpOk (nth l i).drp)) 14++Vs (rng (nth l i).skills 0 1073741823) 18++Vs (argOk (nth l i) ty) 2:=rfl
 have hleng: ∀m:List Int,∀p:List Int,m=p->p.length<=8->m.length<=8:=fun m p h1 h2=>by grind
 generalize hga:nth l i=t at ht hty ⊢;have hname:=ht.1;have hload:=ht.2.1;refine Zp (Weak.ofNil 11 1 (by simp (disch:=omega) only [go_sem,seval]) Zb (Weak.refl _ _ _)) ?_;refine ZI [0,1,2,3,4,12] (fun m:List Int=> [(11,.sl 1 0 m.length m.length)]) (fun m=> [Y7 t,.elems 1 (m.map eI)]) (fun m=>m=Vs (nameOk t.name) 5) ?_ ?_
 ·refine Zc ?_;refine (Pv t.name hname).use (Zc ?_);refine cD ?_ ?_<;>intro h<;>simp (disch:=omega) only [Sh.out h,go_sem,seval,↓reduceIte]
  ·simp only [XN] at h;exact ⟨[5],by simp [Vs,h],Weak.mk (by simp (disch:=omega) only [Y7,go_sem,seval])⟩
  ·simp only [XM] at h;exact ⟨[],by simp [Vs,h],Weak.mk (by simp (disch:=omega) only [Y7,go_sem,seval])⟩
 ·skip
  intro m hm;refine Zg [5] _ _ _ _ (Bd ?_)
  have hml:m.length<=8:=by
   grind [UX]
  refine ZI [0,1,2,12] (fun m:List Int=> [(11,.sl 1 0 m.length m.length)]) (fun m=> [Y7 t,.elems 1 (m.map eI)]) (fun m=>m=Vs (nameOk t.name) 5++Vs (Qf l i) 6) ?_ ?_
  ·refine Zc ?_;refine Zm [0,1,2,3,4,11,12] (fun k:Nat=> [(13,.p (.int .i64 k))]) (fun _=> [Y7 t,.elems 1 (m.map eI)]) (fun k=>k<=i/\ ∀j,j<k->(nth l j).name≠(nth l i).name) (fun k=>i-k) 0 Zb (Weak.mk ?_) ?_
   ·simp (disch:=omega) only [Y7,go_sem,seval,↓reduceIte]
   ·rintro k ⟨hk,hno⟩;refine Bd ?_;refine cD ?_ ?_<;>intro h3<;>simp (disch:=omega) only [Sh.out h3,go_sem,seval,↓reduceIte]
    ·have hk2:k<l.length:=Za
     refine Xo (Zc ?_);refine ZO ?_ ?_<;>intro h4
     ·exact ⟨m++ [6],UG hm (by grind [KO]),wk⟩
     ·exact ⟨k+1,⟨Za,Zs.2 ⟨hno,by grind⟩⟩,Za,wk⟩
    ·have hki:k=i:=Za
     subst hki;exact ⟨m,QG hm (KO.2 hno),wk⟩
  ·clear hm hml;intro m hm;refine Zg [10] _ _ _ _ (Bd ?_)
   have hml:m.length<=8:=by
    grind [UX]
   refine ZI [0,2,12] (fun m:List Int=> [(11,.sl 1 0 m.length m.length)]) (fun m=> [Y7 t,.elems 1 (m.map eI)]) (fun m=>m=Vs (nameOk t.name) 5++Vs (Qf l i) 6++Vs (loadOk t.load d) 17) ?_ ?_
   ·refine Zc ?_;refine (bI t.load t.load_c d hload).use (Zc ?_);refine cD ?_ ?_<;>intro h<;>simp (disch:=omega) only [Sh.out h,go_sem,seval,↓reduceIte]
    ·simp only [XN] at h;exact ⟨m++ [17],UG hm (h),Weak.mk (by simp (disch:=omega) only [Y7,go_sem,seval])⟩
    ·simp only [XM] at h;exact ⟨m,QG hm (h),Weak.mk (by simp (disch:=omega) only [Y7,go_sem,seval])⟩
   ·clear hm hml;intro m hm;refine Zg [12] _ _ _ _ (Bd ?_)
    have hml:m.length<=8:=by
     grind [ZH,UX]
    refine ZI [2,12] (fun m:List Int=> [(11,.sl 1 0 m.length m.length)]) (fun m=> [Y7 t,.elems 1 (m.map eI)]) (fun m=>m=Vs (nameOk t.name) 5++Vs (Qf l i) 6++Vs (loadOk t.load d) 17++Vs ((rng t.pick.place (-1) ((np:Int)-1)&&rng t.drp.place (-1) ((np:Int)-1))) 11) ?_ ?_
    ·refine Zc ?_;refine (FI t.pick.place (-1) ((np:Int)-1)).use (Zc ?_);refine IW ?_ ?_<;>intro h
     ·simp only [XN] at h;exact ⟨m++ [11],UG hm (by simp [h]),Weak.mk (by simp (disch:=omega) only [Y7,go_sem,seval])⟩
     ·simp only [XM] at h;refine (FI t.drp.place (-1) ((np:Int)-1)).use (Zc ?_);refine ZO ?_ ?_<;>intro h2
      ·simp only [XN] at h2;exact ⟨m++ [11],UG hm (by simp [h2]),Weak.mk (by simp (disch:=omega) only [Y7,go_sem,seval])⟩
      ·simp only [XM] at h2;exact ⟨m,QG hm (by simp [h,h2]),Weak.mk (by simp (disch:=omega) only [Y7,go_sem,seval])⟩
    ·clear hm hml;intro m hm;refine Zg [14] _ _ _ _ (Bd ?_)
     have hml:m.length<=8:=by
      grind [ZH,UX]
     refine ZI [2,12] (fun m:List Int=> [(11,.sl 1 0 m.length m.length)]) (fun m=> [Y7 t,.elems 1 (m.map eI)]) (fun m=>m=Vs (nameOk t.name) 5++Vs (Qf l i) 6++Vs (loadOk t.load d) 17++Vs ((rng t.pick.place (-1) ((np:Int)-1)&&rng t.drp.place (-1) ((np:Int)-1))) 11++Vs (decide (¬(t.pick.place= -1/\t.drp.place= -1))) 19) ?_ ?_
     ·refine Zc ?_
      repeat' (first | (refine gT ?_ ?_<;>intro hq<;>simp (disch:=omega) only [Sh.out hq,go_sem,seval]) | (refine Ue (fun hq=> ?_) (fun hq=> ?_)<;>(try simp only [Zq,X2,Z2] at hq)<;>simp (disch:=omega) only [Sh.out hq,go_sem,seval]) | (refine cD ?_ ?_<;>intro hq<;>simp (disch:=omega) only [Sh.out hq,go_sem,seval]))
      all_goals first
       | exact ⟨m++ [19],UG hm (by first | (simp;done) | (simp;omega)),Weak.mk (by simp (disch:=omega) only [Y7,go_sem,seval])⟩
       | exact ⟨m,QG hm (by first | (simp;done) | (simp;omega)),Weak.mk (by simp (disch:=omega) only [Y7,go_sem,seval])⟩
     ·clear hm hml;intro m hm;refine Zg [16] _ _ _ _ (Bd ?_)
      have hml:m.length<=8:=by
       grind [ZH,UX]
      refine ZI [2,12] (fun m:List Int=> [(11,.sl 1 0 m.length m.length)]) (fun m=> [Y7 t,.elems 1 (m.map eI)]) (fun m=>m=Vs (nameOk t.name) 5++Vs (Qf l i) 6++Vs (loadOk t.load d) 17++Vs ((rng t.pick.place (-1) ((np:Int)-1)&&rng t.drp.place (-1) ((np:Int)-1))) 11++Vs (decide (¬(t.pick.place= -1/\t.drp.place= -1))) 19++Vs ((stpOk t.pick&&stpOk t.drp)) 14) ?_ ?_
      ·refine Zc ?_;refine (fR t.pick).use (Zc ?_)
       cases h:stpOk t.pick with
       | false =>
        simp (disch:=omega) only [cH,h,go_sem,seval];exact ⟨m++ [14],UG hm (by simp []),Weak.mk (by simp (disch:=omega) only [Y7,go_sem,seval])⟩
       | true =>
        simp (disch:=omega) only [cH,h,go_sem,seval];refine (fR t.drp).use (Zc ?_)
        cases h2:stpOk t.drp with
        | false =>
         simp (disch:=omega) only [cH,h2,go_sem,seval];exact ⟨m++ [14],UG hm (by simp []),Weak.mk (by simp (disch:=omega) only [Y7,go_sem,seval])⟩
        | true =>
         simp (disch:=omega) only [cH,h2,go_sem,seval];exact ⟨m,QG hm (by simp []),Weak.mk (by simp (disch:=omega) only [Y7,go_sem,seval])⟩
      ·clear hm hml;intro m hm;refine Zg [18] _ _ _ _ (Bd ?_)
       have hml:m.length<=8:=by
        grind [ZH,UX]
       refine ZI [2,12] (fun m:List Int=> [(11,.sl 1 0 m.length m.length)]) (fun m=> [Y7 t,.elems 1 (m.map eI)]) (fun m=>m=Vs (nameOk t.name) 5++Vs (Qf l i) 6++Vs (loadOk t.load d) 17++Vs ((rng t.pick.place (-1) ((np:Int)-1)&&rng t.drp.place (-1) ((np:Int)-1))) 11++Vs (decide (¬(t.pick.place= -1/\t.drp.place= -1))) 19++Vs ((stpOk t.pick&&stpOk t.drp)) 14++Vs (rng t.skills 0 1073741823) 18) ?_ ?_
       ·refine Zc ?_;refine (FI t.skills 0 1073741823).use (Zc ?_);refine ZO ?_ ?_<;>intro h
        ·simp only [XN] at h;exact ⟨m++ [18],UG hm (h),Weak.mk (by simp (disch:=omega) only [Y7,go_sem,seval])⟩
        ·simp only [XM] at h;exact ⟨m,QG hm (h),Weak.mk (by simp (disch:=omega) only [Y7,go_sem,seval])⟩
       ·clear hm hml;intro m hm;refine Zg [20] _ _ _ _ (Bd ?_)
        have hml:m.length<=8:=by
         grind [ZH,UX]
        refine ZI [2,11,12] (fun b:Bool=> [(14,.p (.bool b))]) (fun _=> [Y7 t,.elems 1 (m.map eI)]) (fun b=>b=IR t) ?_ ?_
        ·refine Zc ?_
         repeat' (first | (refine Vy (fun hq=> ?_) (fun hq=> ?_)<;>(try simp only [Zq,X2,Z2] at hq)<;>simp (disch:=omega) only [Sh.out hq,go_sem,seval]) | (refine Ue (fun hq=> ?_) (fun hq=> ?_)<;>(try simp only [Zq,X2,Z2] at hq)<;>simp (disch:=omega) only [Sh.out hq,go_sem,seval]) | (refine UO (fun hq=> ?_) (fun hq=> ?_)<;>(try simp only [Zq,X2,Z2] at hq)<;>simp (disch:=omega) only [Sh.out hq,go_sem,seval]))
         all_goals refine ⟨IR t,rfl,Weak.mk ?_⟩
         all_goals (simp (disch:=omega) only [Y7,go_sem,seval];simp [IR, *])
        ·rintro b hb;refine Zg [21] _ _ _ _ (Bd ?_);refine ZI [] (fun m:List Int=> [(11,.sl 1 0 m.length m.length)]) (fun m=> [Y7 t,.elems 1 (m.map eI)]) (fun m=>m=Vs (nameOk t.name) 5++Vs (Qf l i) 6++Vs (loadOk t.load d) 17++Vs ((rng t.pick.place (-1) ((np:Int)-1)&&rng t.drp.place (-1) ((np:Int)-1))) 11++Vs (decide (¬(t.pick.place= -1/\t.drp.place= -1))) 19++Vs ((stpOk t.pick&&stpOk t.drp)) 14++Vs (rng t.skills 0 1073741823) 18++Vs (argOk t ty) 2) ?_ ?_
         ·refine Zc ?_;refine (FI t.penalty (-1) 1000000).use (Zc ?_);refine gF ?_ ?_<;>intro h<;>simp (disch:=omega) only [Sh.out h,go_sem,seval,↓reduceIte]
          ·simp only [XN] at h;exact ⟨m++ [2],UG hm (by simp [argOk,h]),Weak.mk (by simp (disch:=omega) only [Y7,go_sem,seval])⟩
          ·simp only [XM] at h;refine (FI t.split 1 4).use (Zc ?_);refine gF ?_ ?_<;>intro h2<;>simp (disch:=omega) only [Sh.out h2,go_sem,seval,↓reduceIte]
           ·simp only [XN] at h2;exact ⟨m++ [2],UG hm (by simp [argOk,h2]),Weak.mk (by simp (disch:=omega) only [Y7,go_sem,seval])⟩
           ·simp only [XM] at h2
            cases b with
            | true =>
             repeat' (first | (refine gT ?_ ?_<;>intro hq<;>simp (disch:=omega) only [Sh.out hq,go_sem,seval,↓reduceIte]) | (refine gF ?_ ?_<;>intro hq<;>simp (disch:=omega) only [Sh.out hq,go_sem,seval,↓reduceIte]) | (refine cD ?_ ?_<;>intro hq<;>simp (disch:=omega) only [Sh.out hq,go_sem,seval,↓reduceIte]))
             all_goals first
              | exact ⟨m++ [2],UG hm (by rw [argOk,<- hb];first | (simp;done) | (simp;omega)),Weak.mk (by simp (disch:=omega) only [Y7,go_sem,seval])⟩
              | exact ⟨m,QG hm (by grind [argOk]),Weak.mk (by simp (disch:=omega) only [Y7,go_sem,seval])⟩
            | false =>
             repeat' (first | (refine gT ?_ ?_<;>intro hq<;>simp (disch:=omega) only [Sh.out hq,go_sem,seval,↓reduceIte]) | (refine gF ?_ ?_<;>intro hq<;>simp (disch:=omega) only [Sh.out hq,go_sem,seval,↓reduceIte]) | (refine cD ?_ ?_<;>intro hq<;>simp (disch:=omega) only [Sh.out hq,go_sem,seval,↓reduceIte]))
             all_goals first
              | exact ⟨m++ [2],UG hm (by rw [argOk,<- hb];first | (simp;done) | (simp;omega)),Weak.mk (by simp (disch:=omega) only [Y7,go_sem,seval])⟩
              | exact ⟨m,QG hm (by rw [argOk,<- hb,h,h2];first | (simp;done) | (simp;omega)),Weak.mk (by simp (disch:=omega) only [Y7,go_sem,seval])⟩
         ·clear hm hml;intro m hm;refine Zg [] _ _ _ _ (Bd ?_)
          have hml:m.length<=8:=by
           grind [ZH,UX]
          exact ⟨m,by rw [hm,hty],1,by simp (disch:=omega) only [go_sem,seval]⟩
def X5 (np:Nat) (d ty:Int) (l:List Ord) (k:Nat):List Flt:=(if l.length<=10 then [] else [(4,[])])++(List.range k).flatMap fun i=>(Wh np d ty l i).map fun e=>(e,A3 i)
theorem CJ (np:Nat) (d ty:Int) (l:List Ord) (k:Nat):X5 np d ty l (k+1)=X5 np d ty l k++(Wh np d ty l k).map fun e=>(e,A3 k):=by
 simp [X5,Yu]
theorem QE (np:Nat) (d ty:Int) (l:List Ord): ∀k,(X5 np d ty l k).length<=1+8*k
 | 0=>by simp [X5];grind
 | k+1=>by
  have h1:=QE np d ty l k;have h2:=CH np d ty l k;rw [CJ];simp;omega
theorem zD (n:Net) (d ty:Int) (l:List Ord) (c:Bool) (hw:n.wf 1048576) (hl:l.length<=1048576) (hlw: ∀t∈l,t.wf 1048576) :
  ACalls Tryz.prog 43 [.p (B4 n),.p (.int .i64 d),.p (.int .i64 ty),.p (.list c (l.map Yh))] [] fun x H'=>x= .sl 0 0 (X5 n.places.length d ty l l.length).length (X5 n.places.length d ty l l.length).length/\H'= [.elems 2 ((X5 n.places.length d ty l l.length).map eF)]:=by
 obtain ⟨w1,w2,w3,w4⟩:=hw
 suffices hh:ACalls Tryz.prog 43 [.p (B4 n),.p (.int .i64 d),.p (.int .i64 ty),.p (.list c (l.map Yh))] [] fun x H'=> ∃m:List Flt,m=X5 n.places.length d ty l l.length/\x= .sl 0 0 m.length m.length/\H'= [.elems 2 (m.map eF)] by
  grind
 refine ZW [2] Tryz.func43 rfl Zih ?_;simp (disch:=omega) only [Tryz.f43,go_sem,seval];refine Zp (Weak.ofNil 9 2 (by simp (disch:=omega) only [go_sem,seval]) Zb (Weak.refl _ _ _)) ?_;refine ZI [1,2,3,4] (fun m:List Flt=> [(9,.sl 1 0 m.length m.length)]) (fun m=>Z7 n++ [.elems 2 (m.map eF)]) (fun m=>m=X5 n.places.length d ty l 0) ?_ ?_
 ·refine Zc ?_;refine ZO ?_ ?_<;>intro h
  ·exact ⟨[(4,[])],by rw [X5,if_neg Za];rfl,Weak.mk (by simp (disch:=omega) only [Z7,go_sem,seval])⟩
  ·exact ⟨[],by rw [X5,if_pos Za];rfl,Weak.mk (by simp (disch:=omega) only [Z7,go_sem,seval])⟩
 ·intro m hm;refine Zg [] _ _ _ _ (K2 ?_);refine Zm [1,2,3,4] (fun q:Nat×List Flt=> [(9,.sl 1 0 q.2.length q.2.length),(10,.p (.int .i64 q.1))]) (fun q=>Z7 n++ [.elems 2 (q.2.map eF)]) (fun q=>q.1<=l.length/\q.2=X5 n.places.length d ty l q.1) (fun q=>l.length-q.1) (0,m) ⟨Zb,hm⟩ (Weak.mk ?_) ?_
  ·simp (disch:=omega) only [Z7,go_sem,seval]
  ·clear hm;rintro ⟨k,m⟩ ⟨hk,hm⟩;simp only at hk hm;have hml:=QE n.places.length d ty l k;rw [<- hm] at hml;refine K2 ?_;refine cD ?_ ?_<;>intro h<;>simp (disch:=omega) only [Sh.out h,go_sem,seval,↓reduceIte]
   ·have hk2:k<l.length:=Za
    have hI:U5 (k:Int):=Za
    have hrl:=CH n.places.length d ty l k;refine ((bS n.places.length d ty l c k hk2 hl w1 (hlw _ (Zt hk2))).frozen Zb).use (Zc ?_);generalize hre:Wh n.places.length d ty l k=e at hrl ⊢;refine Zm [1,2,3,4,10,11] (fun q:Nat×List Flt=> [(9,.sl 1 0 q.2.length q.2.length),(12,.p (.int .i64 q.1))]) (fun q=>Z7 n++ [.elems 2 (q.2.map eF)]) (fun q=>q.1<=e.length/\q.2=X5 n.places.length d ty l k++(e.take q.1).map fun e=>(e,A3 k)) (fun q=>e.length-q.1) (0,m) ⟨Zb,by simp [hm]⟩ (Weak.mk ?_) ?_
    ·simp (disch:=omega) only [Z7,go_sem,seval]
    ·clear hm hml;rintro ⟨j,m⟩ ⟨hj,hm⟩;simp only at hj hm;have hml:=QE n.places.length d ty l k
     have hml2:m.length<=1+8*k+8:=by grind
     refine K2 ?_;refine ZO ?_ ?_<;>intro h2
     ·have hj2:j<e.length:=Za
      refine ZC 9 mixed Ze Ze (Zc ?_);refine Zo (Ae k hI) (Zc ?_);refine ⟨(j+1,m++ [(nth e j,A3 k)]),⟨Za,?_⟩,Za,wk⟩
      grind [Yb,Zh]
     ·have hjl:j=e.length:=Za
      subst hjl;refine ⟨(k+1,m),⟨Za,?_⟩,Za,wk⟩
      grind [CJ]
   ·have hkn:k=l.length:=Za
    subst hkn;exact ⟨m,hm,1,by simp (disch:=omega) only [go_sem,seval]⟩
theorem cI {s:Stp} :stpOk s=true↔((s.place= -1/\s.opn=0/\s.cls=0/\s.serv=0)\/(0<=s.place/\0<=s.opn/\s.opn<=s.cls/\s.cls<=4096/\0<=s.serv/\s.serv<=4096)):=by simp [stpOk]
structure OrdOk (np:Nat) (d ty:Int) (l:List Ord) (i:Nat):Prop where
 name:nameOk (nth l i).name=true
 twin: ∀j,j<i->(nth l j).name≠(nth l i).name
 load:loadOk (nth l i).load d=true
 pick: -1<=(nth l i).pick.place/\(nth l i).pick.place<np
 drp: -1<=(nth l i).drp.place/\(nth l i).drp.place<np
 one: ¬((nth l i).pick.place= -1/\(nth l i).drp.place= -1)
 pstp:stpOk (nth l i).pick=true
 dstp:stpOk (nth l i).drp=true
 skills:0<=(nth l i).skills/\(nth l i).skills<=1073741823
 arg:argOk (nth l i) ty=true
theorem tP {b:Bool} {e:Int} :Vs b e= []↔b=true:=by grind [Vs]
theorem Lw {np:Nat} {d ty:Int} {l:List Ord} {i:Nat} :Wh np d ty l i= []↔OrdOk np d ty l i:=by
 simp only [Wh,V5,tP,ZB,Zq,rng,KO]
 constructor
 ·rintro ⟨⟨⟨⟨⟨⟨⟨a1,a2⟩,a3⟩,a4⟩,a5⟩,a6⟩,a7⟩,a8⟩;exact ⟨a1,a2,a3,Za,Za,a5,a6.1,a6.2,a7,a8⟩
 ·intro h;obtain ⟨b1,b2⟩:=h.pick;obtain ⟨b3,b4⟩:=h.drp;exact ⟨⟨⟨⟨⟨⟨⟨h.name,h.twin⟩,h.load⟩,Za,Za⟩,h.one⟩,h.pstp,h.dstp⟩,h.skills⟩,h.arg⟩
def ordersOk (np:Nat) (d ty:Int) (l:List Ord):Prop:=l.length<=10/\ ∀i,i<l.length->OrdOk np d ty l i
theorem D5 {np:Nat} {d ty:Int} {l:List Ord} :X5 np d ty l l.length= []↔ordersOk np d ty l:=by
 simp_all [X5,Lw,ordersOk]
theorem PB {np:Nat} {d ty:Int} {l:List Ord} (hl:l.length<=1048576): ∀f∈X5 np d ty l l.length,pF 20 f:=by
 intro f hf;simp only [X5,Xd,XU,ZL,XQ] at hf;rcases hf with hf | ⟨i,hi,e,he,rfl⟩
 ·grind [pF]
 ·exact Jg i Za
theorem PQ (n:Int) (h0:0<=n) (hn:n<=4611686018427387904):PC 117 [.p (.int .i64 n)] (.str (dec n.toNat)):=by
 refine Zd Tryz.func117 rfl Zah ?_;simp (disch:=omega) only [Tryz.f117,go_sem,seval];refine Zm [] (fun q:Int×List UInt8=> [(0,.p (.int .i64 q.1)),(3,.p (.str q.2))]) (fun _=> []) (fun q=>0<=q.1/\q.1<=n/\dec q.1.toNat++q.2=dec n.toNat) (fun q=>q.1.toNat) (n,[]) (by simp [h0]) (Weak.mk ?_) ?_
 ·simp (disch:=omega) only [go_sem,seval]
 ·rintro ⟨m,s⟩ ⟨hm,hmn,hs⟩;simp only at hm hmn hs;have hl:=RD _ n.toNat (Nat.lt_succ_self _)
  have hl2:(dec m.toNat).length+s.length=(dec n.toNat).length:=by grind
  simp (disch:=first | omega | (simp only [ZD,ZF,ZH,Z1,Xs,XI]<;>omega)) only [go_sem,seval];refine cD ?_ ?_<;>intro h<;>simp (disch:=omega) only [Sh.out h,go_sem,seval,↓reduceIte]
  ·simp (disch:=first | omega | (simp only [ZD,ZF,ZH,Z1,Xs,XI]<;>omega)) only [go_sem,seval]
   have h2: ¬m.toNat<10:=Za
   have e1:(48+m%10).toNat=48+m.toNat%10:=Za
   have e2:(m / 10).toNat=m.toNat / 10:=Za
   refine ⟨(m / 10,UInt8.ofNat (48+m%10).toNat::s),⟨Za,Za,?_⟩,Za,Weak.mk ?_⟩
   ·simp only [e1,e2];rw [<- hs,dec.eq_def m.toNat,dif_neg h2];simp
   ·simp (disch:=omega) only [go_sem,seval]
  ·simp (disch:=first | omega | (simp only [ZD,ZF,ZH,Z1,Xs,XI]<;>omega)) only [go_sem,seval]
   have h2:m.toNat<10:=Za
   have e1:(48+m).toNat=48+m.toNat:=Za
   rw [<- hs,dec.eq_def m.toNat,dif_pos h2,e1]
   rfl
def aM (n:Int) (p:Int×Int):Bool:=decide (0<=p.1/\p.1<n)&&decide (0<=p.2/\p.2<n)&&decide (¬p.1=p.2)
def atW (word:List UInt8) (i:Nat):List UInt8:=word++ [32]++dec i
def RO (n:Int) (word:List UInt8) (sm:Int×Int->Int×Int->Bool) (l:List (Int×Int)) (i:Nat):List (Int×List UInt8) :=
 if aM n (nth l i)=false then [(2,atW word i)] else if (l.take i).any (sm (nth l i)) then [(6,atW word i)] else []
def G4 (word:List UInt8) (l:List (Int×Int)):List (Int×List UInt8):=if 16<l.length then [(4,word)] else []
def Jj (n:Int) (word:List UInt8) (sm:Int×Int->Int×Int->Bool) (l:List (Int×Int)) (k:Nat):List (Int×List UInt8):=G4 word l++(List.range k).flatMap (RO n word sm l)
theorem Hy (n word sm l k):Jj n word sm l (k+1)=Jj n word sm l k++RO n word sm l k:=by grind [Jj,Yu]
theorem Hz (n word sm l):Jj n word sm l 0=G4 word l:=by simp [Jj]
theorem rF (n word sm l i):(RO n word sm l i).length<=1:=by grind [RO]
theorem B9 (n word sm l): ∀k,(Jj n word sm l k).length<=k+1:=by
 intro k
 induction k with
 | zero=>grind [Hz,G4]
 | succ k ih=>grind [Hy,rF]
def chk (n:Int) (ap be:List (Int×Int)):List (Int×List UInt8) :=
 Jj n [97,112,97,114,116] (fun p q=>decide (p=q\/(p.1=q.2/\p.2=q.1))) ap ap.length++Jj n [98,101,102,111,114,101] (fun p q=>decide (p=q)) be be.length
def ET (turned:Bool) (p q:Int×Int):Bool:=decide (q.1=p.1/\q.2=p.2)||(turned&&decide (q.1=p.2/\q.2=p.1))
theorem mS : ET true=fun p q=>decide (p=q\/(p.1=q.2/\p.2=q.1)):=by
 funext p q
 simp only [ET,VK,ZcP]
 grind
theorem bX : ET false=fun p q=>decide (p=q):=by
 funext p q
 simp only [ET,Qx,Bool.or_false]
 grind
def tw (turned:Bool) (l:List (Int×Int)) (p:Int×Int) (j:Nat):Bool:=(l.take j).any (ET turned p)
theorem uL (turned l p):tw turned l p 0=false:=by simp [tw]
theorem uK (turned:Bool) (l:List (Int×Int)) (p:Int×Int) (j:Nat) (h:j<l.length):tw turned l p (j+1)=(tw turned l p j||ET turned p (nth l j)):=by
 rw [tw,tw,Yb h,List.any_append,Zh h];simp
theorem MP (n:Int) (word:List UInt8) (l:List (Int×Int)) (c:Bool) (turned:Bool) (hw:word.length<=1000) (hl:l.length<=1048576) :
  ACalls Tryz.prog 78 [.p (.int .i64 n),.p (.list c (l.map eP)),.p (.str word),.p (.bool turned)] [] fun x H'=>x= .sl 0 0 (Jj n word (ET turned) l l.length).length (Jj n word (ET turned) l l.length).length/\H'= [.elems 2 ((Jj n word (ET turned) l l.length).map eF)]:=by
 refine GQ [2] (fn:=Tryz.f78) Zb Tryz.func78 rfl ZiL ?_;simp (disch:=omega) only [Tryz.f78,go_sem,seval];refine Zp (Weak.ofNil 9 2 (by simp (disch:=omega) only [go_sem,seval]) Zb (Weak.refl _ _ _)) (Zc ?_);refine ZI [0,1,2,3] (fun _:Unit=> [(9,.sl 0 0 (G4 word l).length (G4 word l).length)]) (fun _=> [.elems 2 ((G4 word l).map eF)]) (fun _=>True) ?_ ?_
 ·refine Zc ?_;refine cD ?_ ?_<;>intro h<;>simp (disch:=omega) only [Sh.out h,go_sem,seval,↓reduceIte]
  ·refine ⟨(),Weak.mk ?_⟩
   have h2:16<l.length:=Za
   simp (disch:=omega) only [G4,h2,go_sem,seval,↓reduceIte]
  ·refine ⟨(),Weak.mk ?_⟩
   have h2: ¬ 16<l.length:=Za
   simp (disch:=omega) only [G4,h2,go_sem,seval,↓reduceIte]
 ·intro _ _;refine Zg [] _ _ _ _ (Zc ?_);refine Zm [0,1,2,3] (fun k:Nat=> [(9,.sl 0 0 (Jj n word (ET turned) l k).length (Jj n word (ET turned) l k).length),(10,.p (.int .i64 k))]) (fun k=> [.elems 2 ((Jj n word (ET turned) l k).map eF)]) (fun k=>k<=l.length) (fun k=>l.length-k) 0 Zb (Weak.mk ?_) ?_
  ·simp (disch:=omega) only [Hz,go_sem,seval,↓reduceIte]
  ·intro k hk;have hfl:=B9 n word (ET turned) l k;have hdl:=RD _ k (Nat.lt_succ_self _);refine Zc ?_;refine cD ?_ ?_<;>intro h<;>simp (disch:=omega) only [Sh.out h,go_sem,seval,↓reduceIte]
   ·have hk2:k<l.length:=Za
    simp (disch:=first | omega | (simp only [ZD,ZF,ZH,Z1,Xs,XI]<;>omega)) only [go_sem,seval];refine (PQ (k:Int) Za Za).use ?_;simp (disch:=first | omega | (simp only [ZD,ZF,ZH,Z1,Xs,XI]<;>omega)) only [go_sem,seval];have hs:=Hy n word (ET turned) l k
    have hbad:aM n (nth l k)=false->RO n word (ET turned) l k= [(2,word++ [32]++dec k)]:=fun e=>by simp [RO,e,atW]
    repeat' (first | (refine Vy (fun hq=> ?_) (fun hq=> ?_)<;>(try simp only [Zq,X2,Z2] at hq)<;>simp (disch:=omega) only [Sh.out hq,go_sem,seval]) | (refine gF ?_ ?_<;>intro hq<;>simp (disch:=omega) only [Sh.out hq,go_sem,seval,↓reduceIte]) | (refine cD ?_ ?_<;>intro hq<;>simp (disch:=omega) only [Sh.out hq,go_sem,seval,↓reduceIte]))
    all_goals try (
     have e:=hbad (by simp [aM];omega)
     exact ⟨k+1,Za,Za,Weak.mk (by simp (disch:=omega) only [hs,e,go_sem,seval])⟩)
    have hok:aM n (nth l k)=true:=by simp [aM];omega
    refine Zm [0,1,2,3,9,10,11,12,13] (fun j:Nat=> [(14,.p (.bool (tw turned l (nth l k) j))),(15,.p (.int .i64 j))]) (fun _=> [.elems 2 ((Jj n word (ET turned) l k).map eF)]) (fun j=>j<=k) (fun j=>k-j) 0 Zb (Weak.mk ?_) ?_
    ·simp (disch:=omega) only [uL,go_sem,seval,↓reduceIte]
    ·intro j hj;refine Zc ?_;refine cD ?_ ?_<;>intro h4<;>simp (disch:=omega) only [Sh.out h4,go_sem,seval,↓reduceIte]
     ·have hts:=uK turned l (nth l k) j Za;generalize tw turned l (nth l k) j=q at hts ⊢
      repeat' (first | (refine gT ?_ ?_<;>intro hq<;>simp (disch:=omega) only [Sh.out hq,go_sem,seval,↓reduceIte]) | (refine gF ?_ ?_<;>intro hq<;>simp (disch:=omega) only [Sh.out hq,go_sem,seval,↓reduceIte]) | (refine UO (fun hq=> ?_) (fun hq=> ?_)<;>(try simp only [Zq,X2,Z2] at hq)<;>simp (disch:=omega) only [Sh.out hq,go_sem,seval]))
      all_goals refine ⟨j+1,Za,Za,Weak.mk ?_⟩
      all_goals clear hs hbad hfl hdl
      all_goals simp (disch:=omega) only [hts,go_sem,seval]
      all_goals simp [ET, *]
      all_goals first | omega | (simp [ET, *] at hts;exact hts)
     ·have hjk:j=k:=Za
      subst hjk;refine cD ?_ ?_<;>intro h5<;>simp (disch:=omega) only [Sh.out h5,go_sem,seval,↓reduceIte]
      ·have e:RO n word (ET turned) l j= [(6,word++ [32]++dec j)]:=by
        have h6:(l.take j).any (ET turned (nth l j))=true:=h5
        grind [RO,atW]
       exact ⟨j+1,Za,Za,Weak.mk (by simp (disch:=omega) only [hs,e,go_sem,seval])⟩
      ·have e:RO n word (ET turned) l j= []:=by
        have h6:(l.take j).any (ET turned (nth l j))=false:=h5
        simp_all [RO]
       exact ⟨j+1,Za,Za,Weak.mk (by simp (disch:=omega) only [hs,e,go_sem,seval])⟩
   ·have:k=l.length:=Za
    subst this;exact ⟨0,by simp (disch:=omega) only [go_sem,seval]⟩
theorem lW (n:Int) (ap be:List (Int×Int)) (c c':Bool) (hl:ap.length<=1048576) (hl2:be.length<=1048576) :
  ACalls Tryz.prog 45 [.p (.int .i64 n),.p (.list c (ap.map eP)),.p (.list c' (be.map eP))] [] fun x H'=>x= .sl 0 0 (chk n ap be).length (chk n ap be).length/\H'= [.elems 2 ((chk n ap be).map eF)]:=by
 refine UN (fn:=Tryz.f45) Zb Tryz.func45 rfl Zij ?_;simp (disch:=omega) only [Tryz.f45,go_sem,seval];have h1:=B9 n [97,112,97,114,116] (ET true) ap ap.length;have h2:=B9 n [98,101,102,111,114,101] (ET false) be be.length;refine (MP n _ ap c true (by decide) hl).useF (Zc ?_);refine (MP n _ be c' false (by decide) hl2).useF (Zc ?_);refine ⟨0,?_⟩;rw [chk,<- mS,<- bX];simp (disch:=omega) only [go_sem,seval]
@[go_sem] theorem Zd9 {H:List AM.Obj} {β:Type} {S b o n:Nat} {xs:List PV} {g:β->PV} {m:List β} (hb:(n+m.length)*b<=140737488355328) (hb2:n+m.length<=140737488355328) :
  Uv H (some (S,b)) (.elems S xs) o n (some (m.map g))=if xs.length=n/\KQ S (m.map g)=true then some (.sl o 0 (n+m.length) (n+m.length),F0 H o (.elems S (xs++m.map g))) else none:=by
 simp_all [dZ]
def und (word:List UInt8) (f:Flt):Flt:=(f.1,if f.2= [] then word else word++ [32]++f.2)
theorem AZ (word:List UInt8) (l:List Flt) (c:Bool) (hword:word.length<=100) (hl:l.length<=4194306000000) (hp: ∀f∈l,pF 100 f) :
  ACalls Tryz.prog 40 [.p (.str word),.p (.list c (l.map eF))] [] fun x H'=>x= .sl 0 0 (l.map (und word)).length (l.map (und word)).length/\H'= [.elems 2 ((l.map (und word)).map eF)]:=by
 suffices hh:ACalls Tryz.prog 40 [.p (.str word),.p (.list c (l.map eF))] [] fun x H'=> ∃m:List Flt,m=l.map (und word)/\x= .sl 0 0 m.length m.length/\H'= [.elems 2 (m.map eF)] by
  grind
 refine ZW [2] Tryz.func40 rfl Zie ?_;simp (disch:=omega) only [Tryz.f40,go_sem,seval];refine Zp (Weak.ofNil 5 2 (by simp (disch:=omega) only [go_sem,seval]) Zb (Weak.refl _ _ _)) ?_;refine Zg [] _ _ _ _ (Zc ?_);refine Zm [0,1] (fun q:Nat×List Flt=> [(5,.sl 0 0 q.2.length q.2.length),(6,.p (.int .i64 q.1))]) (fun q=> [.elems 2 (q.2.map eF)]) (fun q=>q.1<=l.length/\q.2=(l.take q.1).map (und word)) (fun q=>l.length-q.1) (0,[]) ⟨Zb,Zb⟩ (Weak.mk ?_) ?_
 ·simp (disch:=omega) only [go_sem,seval,↓reduceIte]
 ·rintro ⟨k,m⟩ ⟨hk,hm⟩;simp only at hk hm
  have hml:m.length<=k:=by grind
  refine Zc ?_;refine cD ?_ ?_<;>intro h<;>simp (disch:=omega) only [Sh.out h,go_sem,seval,↓reduceIte]
  ·have hk2:k<l.length:=Za
   have hpk:=hp _ (Zt hk2);unfold pF at hpk
   have hnext: ∀f,f=und word (nth l k)->m++ [f]=(l.take (k+1)).map (und word):=fun f hf=>by
    grind [Yb,Zh]
   refine cD ?_ ?_<;>intro h2<;>simp (disch:=omega) only [Sh.out h2,go_sem,seval,↓reduceIte]
   ·have h3: ¬(nth l k).2= []:=Za
    simp (disch:=first | omega | (simp only [ZD,ZF,ZH,Z1,Xs,XI]<;>omega)) only [go_sem,seval,↓reduceIte];refine ⟨(k+1,m++ [((nth l k).1,word++ [32]++(nth l k).2)]),⟨Za,hnext _ (by simp [und,h3])⟩,Za,Weak.mk (by simp (disch:=first | omega | (simp only [ZD,ZF,ZH,Z1,Xs,XI]<;>omega)) only [go_sem,seval])⟩
   ·have h3:(nth l k).2= []:=by grind
    refine ⟨(k+1,m++ [((nth l k).1,word)]),⟨Za,hnext _ (by simp [und,h3])⟩,Za,Weak.mk (by simp (disch:=first | omega | (simp only [ZD,ZF,ZH,Z1,Xs,XI]<;>omega)) only [go_sem,seval])⟩
  ·have hkn:k=l.length:=Za
   subst hkn;exact ⟨m,by grind,0,by simp (disch:=omega) only [go_sem,seval]⟩
theorem zA {n:Int} {ap be:List (Int×Int)} (ha:ap.length<=1048576) (hb:be.length<=1048576): ∀f∈chk n ap be,pF 100 f:=by
 have key: ∀(word:List UInt8) (sm:Int×Int->Int×Int->Bool) (l:List (Int×Int)),word.length<=6->l.length<=1048576-> ∀f∈Jj n word sm l l.length,pF 100 f:=fun word sm l hw hl f hf=>by
  simp only [Jj,Xd,XU,ZL] at hf;rcases hf with hf | ⟨i,hi,hf⟩
  ·grind [G4,pF]
  ·have hd:=Bn 6 i Za
   grind [pF,atW,RO]
 intro f hf;rcases Xd.1 hf with hf | hf
 ·grind
 grind
theorem qE {n:Int} {ap be:List (Int×Int)} :(chk n ap be).length<=ap.length+be.length+2:=by
 grind [B9,chk]
structure InstOk (x:Inst):Prop where
 net:netOk x.net
 types:typesOk x.net x.types
 orders:ordersOk x.net.places.length (dimsOf x.types) x.types.length x.orders
 rules:chk x.orders.length x.apart x.before= []
theorem FR.und {p:Flt->Prop} {C:Prop} {b:Nat} {l:List Flt} (h:FR p C b l) (word:List UInt8):FR (fun _=>True) C b (l.map (und word)) :=
 ⟨by simpa using h.len,by rw [List.map_eq_nil_iff];exact h.emp,fun _ _=>trivial⟩
theorem zF (x:Inst) (hw:x.wf 1048576):ACalls Tryz.prog 21 [.p (Zv x)] [] fun y H'=> ∃m:List Flt,FR (fun _=>True) (InstOk x) 4194400000000 m/\y= .sl 0 0 m.length m.length/\H'= [.elems 2 (m.map eF)]:=by
 obtain ⟨w1,w2,w3,w4,w5,w6,w7,w8,w9⟩:=hw;refine ZW [] Tryz.func21 rfl Zh0 ?_;simp (disch:=omega) only [Tryz.f21,go_sem,seval];have ol:=QE x.net.places.length (dimsOf x.types) x.types.length x.orders x.orders.length;have oat:=PB (np:=x.net.places.length) (d:=dimsOf x.types) (ty:=x.types.length) w4;have onil:=D5 (np:=x.net.places.length) (d:=dimsOf x.types) (ty:=x.types.length) (l:=x.orders);have cl:=qE (n:=x.orders.length) (ap:=x.apart) (be:=x.before);have cat:=zA (n:=x.orders.length) w6 w8;refine ((zB x.net w1).frozenE).useV fun m1 h1=> ?_
 refine Zc ?_;have h1p:=h1.pmono (q:=pF 100) fun f hf=>hf.mono Za;have u1:=AZ [110,101,116] m1 false Zb h1.len h1p.all;have f1:=h1.und [110,101,116];generalize m1.map (und [110,101,116])=q1 at u1 f1;have f1l:=f1.len;refine (u1).useF (Zc ?_);refine ((zC x.net x.types x.types_c w1 w2 w3).frozenE).useV fun m2 h2=>Zc ?_;have h2p:=h2.pmono (q:=pF 100) fun f hf=>hf.mono Za;have h2l:=h2.len;have u2:=(AZ [116,121,112,101,115] m2 false Zb Za h2p.all).frozen Zb;have f2:=h2.und [116,121,112,101,115]
 generalize m2.map (und [116,121,112,101,115])=q2 at u2 f2;have f2l:=f2.len;refine (u2).use (Zc ?_);have u3:=(AZ [111,114,100,101,114,115] (X5 x.net.places.length (dimsOf x.types) x.types.length x.orders x.orders.length) false Zb Za fun f hf=>(oat f hf).mono Za).frozen Zb;have f3:=(show FR (fun _=>True) (ordersOk x.net.places.length (dimsOf x.types) x.types.length x.orders) (1+8*x.orders.length) (X5 x.net.places.length (dimsOf x.types) x.types.length x.orders x.orders.length) from ⟨ol,onil,fun _ _=>trivial⟩).und [111,114,100,101,114,115]
 generalize (X5 x.net.places.length (dimsOf x.types) x.types.length x.orders x.orders.length).map (und [111,114,100,101,114,115])=q3 at u3 f3;have f3l:=f3.len;refine ZC 13 mixed Ze Ze (Zc ?_);refine Zo (MI x.types x.types_c w2) (Zc ?_);refine Zo ((zD x.net (dimsOf x.types) x.types.length x.orders x.orders_c w1 w4 w5).frozen Zb) (Zc ?_);refine Zo (u3) (Zc ?_);have u4:=(AZ [114,117,108,101,115] (chk x.orders.length x.apart x.before) false Zb Za cat).frozen Zb
 have f4:=(show FR (fun _=>True) (chk x.orders.length x.apart x.before= []) (x.apart.length+x.before.length+2) (chk x.orders.length x.apart x.before) from ⟨cl,Iff.rfl,fun _ _=>trivial⟩).und [114,117,108,101,115];generalize (chk x.orders.length x.apart x.before).map (und [114,117,108,101,115])=q4 at u4 f4;have f4l:=f4.len;refine ((lW x.orders.length x.apart x.before x.apart_c x.before_c w6 w8).frozen Zb).use (Zc ?_);refine (u4).use (Zc ?_);refine ⟨q1++q2++q3++q4,((f1.app f2).app f3 |>.app f4).to Za ⟨fun ⟨⟨⟨a,b⟩,c⟩,d⟩=>⟨a,b,c,d⟩,fun h=>⟨⟨⟨h.net,h.types⟩,h.orders⟩,h.rules⟩⟩,1,?_⟩
 simp (disch:=omega) only [go_sem,seval]
def Zj (x:Inst):AM.Obj:= .cells [.p (.list x.net.places_c (x.net.places.map eS)),.p (.list x.net.arcs_c (x.net.arcs.map VW)),.p (.list x.types_c (x.types.map X4)),.p (.list x.orders_c (x.orders.map Yh)),.p (.list x.apart_c (x.apart.map eP)),.p (.list x.before_c (x.before.map eP))]
def zSco : Sco:=⟨0,0,0,0⟩
theorem oO (a:Int):IntKind.i64.wrap ((BitVec.ofInt 64 a&&&BitVec.ofInt 64 1).toNat:Int)=a%2:=by
 grind [BitVec.toNat_ofInt,IntWalk.i64_in]
def sHas (s i:Int):Bool:=decide (0<=i)&&decide (i<=62)&&decide (s.fdiv (2^i.toNat)%2=1)
theorem D1 (s i:Int):PC 169 [.p (.int .i64 s),.p (.int .i64 i)] (.bool (sHas s i)):=by
 refine Zd Tryz.func169 rfl ZaR ?_;simp (disch:=omega) only [Tryz.f169,go_sem,seval];refine gT ?_ ?_<;>intro h<;>simp (disch:=omega) only [Sh.out h,go_sem,seval,↓reduceIte]
 ·refine gT ?_ ?_<;>intro h1<;>simp (disch:=omega) only [Sh.out h1,go_sem,seval,↓reduceIte]
  ·have:min i.toNat 64=i.toNat:=Za
   rw [this]
   erw [oO]
   simp [sHas,h,h1]
  grind [sHas]
 ·simp [sHas,h]
def X3 (s:Int) (k:Nat):List Int:=((List.range k).filter fun (i:Nat)=>sHas s (i:Int)).map fun (i:Nat)=>(i:Int)
theorem aC (s:Int):X3 s 0= []:=by simp [X3]
theorem Nl {s:Int} {k:Nat} (h:sHas s (k:Int)=true):X3 s (k+1)=X3 s k++ [(k:Int)]:=by grind [X3,Yu]
theorem Se {s:Int} {k:Nat} (h:sHas s (k:Int)=false):X3 s (k+1)=X3 s k:=by grind [X3,Yu]
theorem CB (s:Int) (k:Nat):(X3 s k).length<=k:=by
 grind [X3]
theorem Dv (s:Int):ACalls Tryz.prog 160 [.p (.int .i64 s)] [] fun x H'=>x= .sl 0 0 (X3 s 63).length (X3 s 63).length/\H'= [.elems 1 ((X3 s 63).map eI)]:=by
 refine UN (fn:=Tryz.f160) Zb Tryz.func160 rfl ZaK ?_;simp (disch:=omega) only [Tryz.f160,go_sem,seval];refine Zm [0] (fun k:Nat=> [(3,.sl 0 0 (X3 s k).length (X3 s k).length),(5,.p (.int .i64 k))]) (fun k=> [.elems 1 ((X3 s k).map eI)]) (fun k=>k<=63) (fun k=>63-k) 0 Zb (Weak.ofNil 3 1 (by simp (disch:=omega) only [go_sem,seval]) Zb (Weak.mk ?_)) ?_
 ·simp (disch:=omega) only [aC,go_sem,seval,↓reduceIte]
 ·intro k hk;have hl:=CB s k;refine Zc ?_;refine cD ?_ ?_<;>intro h<;>simp (disch:=omega) only [Sh.out h,go_sem,seval,↓reduceIte]
  ·refine (D1 s k).use (Zc ?_);refine cD ?_ ?_<;>intro h2<;>simp (disch:=omega) only [Sh.out h2,go_sem,seval,↓reduceIte]
   ·refine ⟨k+1,Za,Za,Weak.mk ?_⟩;simp (disch:=omega) only [Nl h2,go_sem,seval]
   ·exact ⟨k+1,Za,Za,Weak.mk (by simp (disch:=omega) only [Se h2,go_sem,seval])⟩
  ·have:k=63:=Za
   subst this;exact ⟨0,by simp (disch:=omega) only [go_sem,seval]⟩
def eN (n:Nat):PV:= .int .i64 (n:Int)
@[go_sem] theorem Zpu (n:Nat):eN n= .int .i64 (n:Int):=Zl rfl rfl
theorem fI (n:Nat) (be:List (Int×Int)) (c:Bool) (hn:n<=60) (hl:be.length<=1048576) (hv:Val n be) :
  ACalls Tryz.prog 187 [.p (.int .i64 (n:Int)),.p (.list c (be.map eP))] [] fun x H'=>x= .sl 0 0 n n/\H'= [.elems 1 ((Kc n be).map eN)]:=by
 refine UN (fn:=Tryz.f187) (by simpa using (Fo hv).len) Tryz.func187 rfl Za4 ?_;simp (disch:=omega) only [Tryz.f187,go_sem,seval];have hp60:pw n<=pw 62:=Kh Za;have h62:=F6;refine Zm [0,1] (fun q:List Nat×Bool=> [(5,.sl 0 0 n n),(6,.p (.bool q.2))]) (fun q=> [.elems 1 (q.1.map eN)]) (fun q=>Snd n be q.1/\(q.2=false->tot (EO q.1 be)=tot q.1)) (fun q=>2*(n*pw n-tot q.1)+(if q.2 then 1 else 0)) (List.replicate n 0,true) ⟨Snd.zero n be,Zb⟩ (Weak.mk ?_) ?_
 ·simp (disch:=omega) only [Ar,go_sem,seval,↓reduceIte]
 ·rintro ⟨out,more⟩ ⟨hs,hm⟩;simp only at hs hm;refine Zc ?_;refine cD ?_ ?_<;>intro h<;>simp (disch:=omega) only [Sh.out h,go_sem,seval,↓reduceIte]
  ·have hrs: ∀i,Snd n be (EO out (be.take i)):=fun i=>hs.rnd hv _ fun p hp=>J0 hp
   have hsuc: ∀i,i<be.length->EO out (be.take (i+1))=Ej (EO out (be.take i)) (nth be i):=fun i hi=>by
    rw [Yb hi,PE,<- Zh hi];rfl
   refine Zm [0,1,16,17] (fun i:Nat=> [(5,.sl 0 0 n n),(6,.p (.bool (decide (tot out<tot (EO out (be.take i)))))),(18,.p (.int .i64 i))]) (fun i=> [.elems 1 ((EO out (be.take i)).map eN)]) (fun i=>i<=be.length) (fun i=>be.length-i) 0 Zb (Weak.mk ?_) ?_
   ·simp (disch:=omega) only [EO,Q2,UD,go_sem,seval];simp
   ·intro i hi;have hsi:=hrs i;generalize hgo:EO out (be.take i)=o at hsi ⊢;have hlo:=hsi.len;refine Zc ?_;refine cD ?_ ?_<;>intro h2<;>simp (disch:=omega) only [Sh.out h2,go_sem,seval,↓reduceIte]
    ·have hib:i<be.length:=Za
     have hvi:=hv (nth be i) (by grind [Zh])
     have g1: ¬(nth be i).1<0:=Za
     have g2: ¬(nth be i).2<0:=Za
     have g3: ¬(n:Int)<=(nth be i).1:=Za
     have g4: ¬(n:Int)<=(nth be i).2:=Za
     have g5:(nth be i).1.toNat<n:=Za
     have g6:(nth be i).2.toNat<n:=Za
     have b1:=hsi.lt _ g5;have b2:=hsi.lt _ g6;have b3:nth o (nth be i).2.toNat|||nth o (nth be i).1.toNat<pw n:=Q0 b2 b1;have b4:pw (nth be i).1.toNat<=pw 62:=Kh Za;have hst:=RC o (nth be i) Za;have hnx:=hsuc i hib;rw [hgo] at hnx;refine Ff mixed Ze ?_;simp (disch:=omega) only [hlo,g1,g2,g3,g4,go_sem,seval];refine Ff mixed Ze ?_;simp (disch:=first | omega | (simp only [ZD,ZF,ZH,Z1,Xs,XI]<;>omega)) only [hlo,g5,g6,UR,go_sem,seval,↓reduceIte]
     have htm:tot out<=tot o:=by
      grind [CL]
     have hsv:o.set (nth be i).2.toNat (nth o (nth be i).2.toNat|||nth o (nth be i).1.toNat|||pw (nth be i).1.toNat)=Ej o (nth be i):=rfl;refine cD ?_ ?_<;>intro h3<;>simp (disch:=omega) only [Sh.out h3,go_sem,seval,↓reduceIte]
     ·have hne: ¬Ej o (nth be i)=o:=fun e=>by
       apply h3
       have e2:nth (Ej o (nth be i)) (nth be i).2.toNat=nth o (nth be i).2.toNat:=by rw [e]
       rw [Ej,EK _ _ _ _ Za] at e2
       grind
      have hlt:tot out<tot (Ej o (nth be i)):=by
       grind
      simp (disch:=first | omega | (simp only [ZD,ZF,ZH,Z1,Xs,XI]<;>omega)) only [go_sem,seval,↓reduceIte];refine ⟨i+1,Za,Za,Weak.mk ?_⟩;simp (disch:=omega) only [hnx,hlt,go_sem,seval];rw [<- hsv,UT]
      rfl
     ·have heq:Ej o (nth be i)=o:=by
       have e:nth o (nth be i).2.toNat|||nth o (nth be i).1.toNat|||pw (nth be i).1.toNat=nth o (nth be i).2.toNat:=Za
       rw [<- hsv,e];apply Q1 Zb
       simp_all [Zh]
      refine ⟨i+1,Za,Za,Weak.mk ?_⟩;simp (disch:=omega) only [hnx,heq,go_sem,seval]
    ·have hi2:i=be.length:=Za
     subst hi2;rw [YV] at hgo;subst hgo;have hpt:=CL hv be out (fun _ h=>h) hs;have hbd:=hsi.bound;refine ⟨(EO out be,decide (tot out<tot (EO out be))),⟨hsi,fun e=> ?_⟩,?_,Weak.mk ?_⟩
     ·grind
     ·grind
     ·simp (disch:=omega) only [go_sem,seval]
  ·refine ⟨0,?_⟩;have:out=Kc n be:=(fS hv (hs.clo hv (hm h))).symm;rw [this];simp (disch:=omega) only [go_sem,seval]
def hv (s k:Nat):Nat:=s / pw k
theorem RY (s:Nat):hv s 0=s:=by simp [hv,pw]
theorem RX (s k:Nat):hv s (k+1)=hv s k / 2:=by grind [hv,EQ,Nat.div_div_eq_div_mul]
theorem vY (s k:Nat):hv s k<=s:=Nat.div_le_self _ _
theorem jE (s k:Nat):s.testBit k=decide (hv s k%2=1):=by
 rw [Nat.testBit_eq_decide_div_mod_eq]
 rfl
theorem WQ (s i:Nat) (hi:i<=62):sHas (s:Int) (i:Int)=s.testBit i:=by
 rw [jE,hv]
 have h1:(0:Int)<=i:=Za
 have h2:(i:Int)<=62:=Za
 simp only [sHas,h1,h2,VH,VK,XO]
 have e:((s:Int)).fdiv (2^i)=((s / pw i:Nat):Int):=by
  grind [pw]
 grind
theorem Vz {α:Type} [Inhabited α] {l:List α} {f:α->Bool} {k:Nat} (h:k<l.length) (hf:f (nth l k)=true):l.any f=true:=by
 grind [Zh]
theorem QO {α:Type} [Inhabited α] {l:List α} {f:α->Bool} (h: ∀j,j<l.length->f (nth l j)=false):l.any f=false:=by
 rw [Vg];intro x hx;obtain ⟨j,hj,rfl⟩:=ZT.1 hx
 grind [Zh]
theorem Wl {p:Nat->Prop} {k:Nat} (h: ∀j,j<k->p j) (hk:p k): ∀j,j<k+1->p j:=fun j hj=>by
 grind
theorem Zi8 {s:Int} {k:Nat} {x:Int} (h:x∈X3 s k):0<=x/\x<k:=by
 simp only [X3,XQ,QA,ZL] at h;omega
noncomputable def Wx (os:List Ord) (ap be:List (Int×Int)) (s:Int):Int :=
 if s<0 then 2
 else if (X3 s 63).any (fun i=>decide ((os.length:Int)<=i)) then 2
 else if (X3 s 63).any (fun i=>(nth os i.toNat).off) then 9
 else if ap.any (fun p=>sHas s p.1&&sHas s p.2) then 20
 else if be.any (fun p=>sHas s p.2&& !sHas s p.1) then 21
 else if (X3 s 63).any (fun i=>sHas ((nth (Kc os.length be) i.toNat:Nat):Int) i) then 21
 else 0
theorem Ye {P Q:Prop} (h:Q) (e:Q->P:=by intro h;simp (disch:=omega) only [Zj,go_sem,seval];exact h):P:=e h
theorem Td (net:Net) (tyc:Bool) (tys:List Typ) (c1 c2 c3:Bool) (os:List Ord) (ap be:List (Int×Int)) (s:Int) (hn:os.length<=60) (hla:ap.length<=1048576) (hl:be.length<=1048576) (hv:Val os.length be) :
  PC 159 [.p (Zv ⟨net,tyc,tys,c1,os,c2,ap,c3,be⟩),.p (.int .i64 s)] (.int .i64 (Wx os ap be s)):=by
 have hc:=Fo hv;have hlen:=hc.len;have hm:=CB s 63;refine Zd Tryz.func159 rfl ZaJ ?_;simp (disch:=omega) only [Tryz.f159,go_sem,seval];refine cD ?_ ?_<;>intro hs0<;>simp (disch:=omega) only [Sh.out hs0,go_sem,seval]
 ·simp [Wx,hs0]
 ·refine ((Dv s).frozen Zb).use (Zc ?_);generalize hgm:X3 s 63=m at hm ⊢
  have hnn: ∀k,k<m.length->0<=nth m k/\nth m k<63:=fun k hk=>by
   grind [X3,Zh,Aw]
  have e0: ¬s<0:=hs0;refine Zm [1,2,5,21,22] (fun k:Nat=> [(23,.p (.int .i64 k))]) (fun _=> [Zj ⟨net,tyc,tys,c1,os,c2,ap,c3,be⟩]) (fun k=>k<=m.length/\ ∀j,j<k->decide ((os.length:Int)<=nth m j)=false) (fun k=>m.length-k) 0 Zb (Weak.mk ?_) ?_
  ·simp (disch:=omega) only [Zj,go_sem,seval]
  ·rintro k ⟨hk,hno⟩;refine Ye ?_;refine cD ?_ ?_<;>intro h<;>simp (disch:=omega) only [Sh.out h,go_sem,seval,↓reduceIte]
   ·have hk2:k<m.length:=Za
    refine ZO ?_ ?_<;>intro h4
    ·grind [Vz,Wx]
    ·exact ⟨k+1,⟨Za,Wl hno (by simp [h4])⟩,Za,wk⟩
   ·have hkm:k=m.length:=Za
    subst hkm;have e1:m.any (fun i=>decide ((os.length:Int)<=i))=false:=QO hno
    have hin: ∀j,j<m.length->(nth m j).toNat<os.length:=fun j hj=>by
     grind
    clear hno hk h;refine Zm [1,2,5,33,34] (fun k:Nat=> [(35,.p (.int .i64 k))]) (fun _=> [Zj ⟨net,tyc,tys,c1,os,c2,ap,c3,be⟩]) (fun k=>k<=m.length/\ ∀j,j<k->(nth os (nth m j).toNat).off=false) (fun k=>m.length-k) 0 Zb (Weak.mk ?_) ?_
    ·simp (disch:=omega) only [Zj,go_sem,seval]
    ·rintro k ⟨hk,hno⟩;refine Ye ?_;refine cD ?_ ?_<;>intro h<;>simp (disch:=omega) only [Sh.out h,go_sem,seval,↓reduceIte]
     ·have hk2:k<m.length:=Za
      have g1:=hin k hk2;have g2:=hnn k hk2;refine Zc ?_;refine ZO ?_ ?_<;>intro h4
      ·grind [Vz,Wx]
      ·exact ⟨k+1,⟨Za,Wl hno h4⟩,Za,wk⟩
     ·have hkm:k=m.length:=Za
      subst hkm;have e2:m.any (fun i=>(nth os i.toNat).off)=false:=QO hno;clear hno hk h;refine Zm [1,2,5,47,48] (fun k:Nat=> [(49,.p (.int .i64 k))]) (fun _=> [Zj ⟨net,tyc,tys,c1,os,c2,ap,c3,be⟩]) (fun k=>k<=ap.length/\ ∀j,j<k->(sHas s (nth ap j).1&&sHas s (nth ap j).2)=false) (fun k=>ap.length-k) 0 Zb (Weak.mk ?_) ?_
      ·simp (disch:=omega) only [Zj,go_sem,seval]
      ·rintro k ⟨hk,hno⟩;refine Ye ?_;refine cD ?_ ?_<;>intro h<;>simp (disch:=omega) only [Sh.out h,go_sem,seval,↓reduceIte]
       ·have hk2:k<ap.length:=Za
        refine (D1 s (nth ap k).1).use (Zc ?_);refine QS ?_ ?_<;>intro h5
        ·refine (D1 s (nth ap k).2).use (Zc ?_);refine ZO ?_ ?_<;>intro h6
         ·grind [Vz,Wx]
         ·exact ⟨k+1,⟨Za,Wl hno (by simp [h5,h6])⟩,Za,wk⟩
        ·exact ⟨k+1,⟨Za,Wl hno (by simp [h5])⟩,Za,wk⟩
       ·have hkm:k=ap.length:=Za
        subst hkm;have e3:ap.any (fun p=>sHas s p.1&&sHas s p.2)=false:=QO hno;clear hno hk h;refine Zm [1,2,5,65,66] (fun k:Nat=> [(67,.p (.int .i64 k))]) (fun _=> [Zj ⟨net,tyc,tys,c1,os,c2,ap,c3,be⟩]) (fun k=>k<=be.length/\ ∀j,j<k->(sHas s (nth be j).2&& !sHas s (nth be j).1)=false) (fun k=>be.length-k) 0 Zb (Weak.mk ?_) ?_
        ·simp (disch:=omega) only [Zj,go_sem,seval]
        ·rintro k ⟨hk,hno⟩;refine Ye ?_;refine cD ?_ ?_<;>intro h<;>simp (disch:=omega) only [Sh.out h,go_sem,seval,↓reduceIte]
         ·have hk2:k<be.length:=Za
          refine (D1 s (nth be k).2).use (Zc ?_);refine QS ?_ ?_<;>intro h5
          ·refine (D1 s (nth be k).1).use (Zc ?_);refine ZO ?_ ?_<;>intro h6
           ·grind [Vz,Wx]
           ·exact ⟨k+1,⟨Za,Wl hno (by simp [h5,h6])⟩,Za,wk⟩
          ·exact ⟨k+1,⟨Za,Wl hno (by simp [h5])⟩,Za,wk⟩
         ·have hkm:k=be.length:=Za
          subst hkm;have e4:be.any (fun p=>sHas s p.2&& !sHas s p.1)=false:=QO hno;clear hno hk h;refine ((fI os.length be c3 hn hl hv).frozen (by grind)).use (Zc ?_);refine Zm [5,14,89,90] (fun k:Nat=> [(91,.p (.int .i64 k))]) (fun _=> [Zj ⟨net,tyc,tys,c1,os,c2,ap,c3,be⟩]) (fun k=>k<=m.length/\ ∀j,j<k->sHas ((nth (Kc os.length be) (nth m j).toNat:Nat):Int) (nth m j)=false) (fun k=>m.length-k) 0 Zb (Weak.mk ?_) ?_
          ·simp (disch:=omega) only [Zj,go_sem,seval]
          ·rintro k ⟨hk,hno⟩;refine Ye ?_;refine cD ?_ ?_<;>intro h<;>simp (disch:=omega) only [Sh.out h,go_sem,seval,↓reduceIte]
           ·have hk2:k<m.length:=Za
            have g1:=hin k hk2;have g2:=hnn k hk2;refine Zc ?_;refine (D1 ((nth (Kc os.length be) (nth m k).toNat:Nat):Int) (nth m k)).use (Zc ?_);refine ZO ?_ ?_<;>intro h6
            ·grind [Vz,Wx]
            ·exact ⟨k+1,⟨Za,Wl hno h6⟩,Za,wk⟩
           grind [Kc,QO,Wx]
deriving instance DecidableEq for Vis
theorem DT {v w:Vis} :v=w↔v.order=w.order/\v.drp=w.drp:=by cases v;cases w;simp
def Hu (f:Vis->Bool) (l:List Vis):Int:=match l.findIdx? f with | some i=>(i:Int) | none=> -1
def vIx (l:List Vis) (v:Vis):Int:=Hu (fun w=>decide (v=w)) l
theorem I2 {f:Vis->Bool} {l:List Vis} {k:Nat} (hk:k<l.length) (h:f (nth l k)=true) (hno: ∀j,j<k->f (nth l j)=false):Hu f l=(k:Int):=by
 have:l.findIdx? f=some k:=by
  grind [Uy,Zh]
 simp [Hu,this]
theorem Pf {f:Vis->Bool} {l:List Vis} (hno: ∀j,j<l.length->f (nth l j)=false):Hu f l= -1:=by
 have:l.findIdx? f=none:=by
  rw [List.findIdx?_eq_none_iff];intro x hx;obtain ⟨j,hj,rfl⟩:=ZT.1 hx
  grind [Zh]
 simp [Hu,this]
theorem Pe {f:Vis->Bool} {l:List Vis} :decide (0<=Hu f l)=l.any f:=by
 grind [Hu]
theorem gS {f:Vis->Bool} {l:List Vis} :Hu f l<l.length/\ -1<=Hu f l:=by
 grind [Hu,Uy]
theorem RZ (l:List Vis) (c:Bool) (v:Vis) (hl:l.length<=1048576):PC 262 [.p (.list c (l.map Z9)),.p (Z9 v)] (.int .i64 (vIx l v)):=by
 refine Zd Tryz.func262 rfl ZbZ ?_;simp (disch:=omega) only [Tryz.f262,go_sem,seval];refine Zm [0,3,7] (fun k:Nat=> [(8,.p (.int .i64 k))]) (fun _=> [.cells [.p (.int .i64 v.order),.p (.bool v.drp)]]) (fun k=>k<=l.length/\ ∀j,j<k->decide (v=nth l j)=false) (fun k=>l.length-k) 0 Zb (Weak.mk ?_) ?_
 ·simp (disch:=omega) only [go_sem,seval,↓reduceIte]
 ·rintro k ⟨hk,hno⟩;refine Zc ?_;refine cD ?_ ?_<;>intro h<;>simp (disch:=omega) only [Sh.out h,go_sem,seval,↓reduceIte]
  ·have hk2:k<l.length:=Za
   refine Xo (Zc ?_);refine cD ?_ ?_<;>intro h2<;>simp (disch:=omega) only [Sh.out h2,go_sem,seval,↓reduceIte]
   ·grind [DT,vIx,I2]
   ·have: ¬v=nth l k:=by grind
    exact ⟨k+1,⟨Za,Zs.2 ⟨hno,by grind⟩⟩,Za,wk⟩
  grind [vIx,Pf]
theorem CM (l:List Vis) (c:Bool) (v:Vis) (hl:l.length<=1048576):PC 236 [.p (.list c (l.map Z9)),.p (Z9 v)] (.int .i64 (vIx l v)):=by
 refine Zd Tryz.func236 rfl ZbB ?_;simp (disch:=omega) only [Tryz.f236,go_sem,seval];refine (RZ l c v hl).use ?_;simp (disch:=omega) only [go_sem,seval]
theorem IY (l:List Vis) (c:Bool) (v:Vis) (hl:l.length<=1048576):PC 269 [.p (.list c (l.map Z9)),.p (Z9 v)] (.bool (decide (0<=vIx l v))):=by
 refine Zd Tryz.func269 rfl Zb6 ?_;simp (disch:=omega) only [Tryz.f269,go_sem,seval];refine (RZ l c v hl).use ?_;simp (disch:=omega) only [go_sem,seval]
theorem uG (l:List Ord) (c:Bool) (n:Int) (hl:l.length<=1048576):PC 188 [.p (.list c (l.map Yh)),.p (.int .i64 n)] (.bool (decide (0<=n/\n<l.length))):=by
 refine Zd Tryz.func188 rfl jI ?_;simp (disch:=omega) only [Tryz.f188,go_sem,seval];refine gT ?_ ?_<;>intro h<;>simp (disch:=omega) only [Sh.out h,go_sem,seval,↓reduceIte]
 all_goals (try simp [h])
def ZV (l:List Ord) (i:Nat):List Vis:=(if 0<=(nth l i).pick.place then [⟨i,false⟩] else [])++(if 0<=(nth l i).drp.place then [⟨i,true⟩] else [])
theorem WT (l:List Ord) (i:Nat):(ZV l i).length<=2:=by grind [ZV]
theorem Yd {l:List Ord} {i:Nat} {v:Vis} (h:v∈ZV l i):v.order=i:=by
 grind [ZV]
theorem Ra (l:List Ord) (c:Bool) (i:Nat) (hi:i<l.length) (hl:l.length<=1048576):ACalls Tryz.prog 161 [.p (.list c (l.map Yh)),.p (.int .i64 (i:Nat))] [] fun x H'=>x= .sl 0 0 (ZV l i).length (ZV l i).length/\H'= [.elems 2 ((ZV l i).map Z9)]:=by
 suffices hh:ACalls Tryz.prog 161 [.p (.list c (l.map Yh)),.p (.int .i64 (i:Nat))] [] fun x H'=> ∃m:List Vis,m=ZV l i/\x= .sl 0 0 m.length m.length/\H'= [.elems 2 (m.map Z9)] by
  grind
 refine ZW [2] Tryz.func161 rfl ZaL ?_;simp (disch:=omega) only [Tryz.f161,go_sem,seval];refine Zp (Weak.ofNil 5 2 (by simp (disch:=omega) only [go_sem,seval]) Zb (Weak.refl _ _ _)) ?_;refine Zg [4] _ _ _ _ (Zc ?_);refine (uG l c i hl).use (Zc ?_)
 have h0:(0:Int)<=(i:Int)/\(i:Int)<(l.length:Int):=Za
 simp (disch:=omega) only [h0,go_sem,seval];refine ZI [0,1] (fun m:List Vis=> [(5,.sl 0 0 m.length m.length)]) (fun m=> [.elems 2 (m.map Z9)]) (fun m=>m=(if 0<=(nth l i).pick.place then [⟨i,false⟩] else [])) ?_ ?_
 ·refine Zc ?_;refine cD ?_ ?_<;>intro h<;>simp (disch:=omega) only [Sh.out h,go_sem,seval,↓reduceIte]
  ·exact ⟨[⟨i,false⟩],by simp [],wk⟩
  ·exact ⟨[],by simp [],wk⟩
 ·intro m hm
  have hml:m.length<=1:=by grind
  refine Zg [] _ _ _ _ (Zc ?_);refine cD ?_ ?_<;>intro h<;>simp (disch:=omega) only [Sh.out h,go_sem,seval,↓reduceIte]
  ·exact ⟨m++ [⟨i,true⟩],by simp_all [ZV],0,by simp (disch:=omega) only [go_sem,seval]⟩
  ·exact ⟨m,by simp_all [ZV],0,by simp (disch:=omega) only [go_sem,seval]⟩
theorem visits_c (l:List Ord) (c:Bool) (i:Nat) (hi:i<l.length) (hl:l.length<=1048576):PC 161 [.p (.list c (l.map Yh)),.p (.int .i64 (i:Nat))] (.list false ((ZV l i).map Z9)) :=
 (Ra l c i hi hl).frozen Zb
def K5 (l:List Vis):Bool:=(List.range l.length).any fun i=>decide (0<=vIx (l.take i) (nth l i))
theorem uM (l:List Vis) (c:Bool) (hl:l.length<=1048576):PC 247 [.p (.list c (l.map Z9))] (.bool (K5 l)):=by
 refine Zd Tryz.func247 rfl ZbL ?_;simp (disch:=omega) only [Tryz.f247,go_sem,seval];refine Zm [0,5,6] (fun k:Nat=> [(7,.p (.int .i64 k))]) (fun _=> []) (fun k=>k<=l.length/\ ∀j,j<k->decide (0<=vIx (l.take j) (nth l j))=false) (fun k=>l.length-k) 0 Zb (Weak.mk ?_) ?_
 ·simp (disch:=omega) only [go_sem,seval,↓reduceIte]
 ·rintro k ⟨hk,hno⟩;refine Zc ?_;refine cD ?_ ?_<;>intro h<;>simp (disch:=omega) only [Sh.out h,go_sem,seval,↓reduceIte]
  ·have hk2:k<l.length:=Za
   refine Xo (Zc ?_);refine Zo (CM (l.take k) _ (nth l k) (by simp;omega)) (Zc ?_);refine cD ?_ ?_<;>intro h2<;>simp (disch:=omega) only [Sh.out h2,go_sem,seval,↓reduceIte]
   ·grind [K5]
   ·exact ⟨k+1,⟨Za,Zs.2 ⟨hno,by grind⟩⟩,Za,wk⟩
  grind [K5]
theorem D2 (l:List Vis) (c:Bool) (g:FuncId) (caps:List V) (H:List AM.Obj) (f:Vis->Bool) (hl:l.length<=1048576) (hW:On H H.length H H) (hc:Xn H.length caps=true)
  (hg: ∀v∈l,ACalls Tryz.prog g (.p (Z9 v)::caps) H fun x H'=>x= .p (.bool (f v))/\H'=H) :
  ACalls Tryz.prog 268 [.p (.list c (l.map Z9)),.fn (.func g) [] caps] H fun x H'=>x= .p (.int .i64 (Hu f l))/\H'=H:=by
 refine YQ Tryz.func268 rfl Zb5 (Zg [] _ _ _ _ ?_);simp (disch:=omega) only [Tryz.f268,go_sem,seval];refine Zm [0,1,7] (fun k:Nat=> [(8,.p (.int .i64 k))]) (fun _=>H) (fun k=>k<=l.length/\ ∀j,j<k->f (nth l j)=false) (fun k=>l.length-k) 0 Zb (Weak.mk ?_) ?_
 ·simp (disch:=omega) only [hW,hc,go_sem,seval];simp
 ·rintro k ⟨hk,hno⟩;refine Zc ?_;refine cD ?_ ?_<;>intro h<;>simp (disch:=omega) only [Sh.out h,go_sem,seval,↓reduceIte]
  ·have hk2:k<l.length:=Za
   refine (hg (nth l k) (Zt hk2)).useH (Zc ?_);refine cD ?_ ?_<;>intro h2<;>simp (disch:=omega) only [Sh.out h2,go_sem,seval,↓reduceIte]
   ·grind [I2]
   ·have h3:f (nth l k)=false:=Za
    refine ⟨k+1,⟨Za,Zs.2 ⟨hno,h3⟩⟩,Za,Weak.mk ?_⟩;simp (disch:=omega) only [hW,hc,go_sem,seval];simp
  grind [Pf]
theorem U7 (l:List Vis) (c:Bool) (g:FuncId) (caps:List V) (H:List AM.Obj) (f:Vis->Bool) (hl:l.length<=1048576) (hW:On H H.length H H) (hc:Xn H.length caps=true)
  (hg: ∀v∈l,ACalls Tryz.prog g (.p (Z9 v)::caps) H fun x H'=>x= .p (.bool (f v))/\H'=H) :
  ACalls Tryz.prog 244 [.p (.list c (l.map Z9)),.fn (.func g) [] caps] H fun x H'=>x= .p (.bool (l.any f))/\H'=H:=by
 refine YQ Tryz.func244 rfl ZbI (Zg [] _ _ _ _ ?_);simp (disch:=omega) only [Tryz.f244,go_sem,seval];refine (D2 l c g caps H f hl hW hc hg).useH (Zc ?_);rw [Pe]
def hasO (l:List Vis) (o:Int):Bool:=l.any fun v=>decide (v.order=o)
theorem zU (v:Vis) (o:Int):ACalls Tryz.prog 270 [.p (Z9 v),.ptr 0 0] [.cells [.p (.int .i64 o)]] fun x H'=>x= .p (.bool (decide (v.order=o)))/\H'= [.cells [.p (.int .i64 o)]]:=by
 refine Zf [] Tryz.func270 rfl Zb7 ?_;simp (disch:=omega) only [Tryz.f270,go_sem,seval];exact we
theorem Tt (v:Vis) (o:Int):ACalls Tryz.prog 271 [.p (Z9 v),.ptr 0 0] [.cells [.p (.int .i64 o)]] fun x H'=>x= .p (.bool (decide (v.order=o)))/\H'= [.cells [.p (.int .i64 o)]]:=by
 refine Zf [] Tryz.func271 rfl Zb8 ?_;simp (disch:=omega) only [Tryz.f271,go_sem,seval];exact we
theorem CZ (l:List Vis) (c:Bool) (o:Int) (hl:l.length<=1048576):PC 249 [.p (.list c (l.map Z9)),.p (.int .i64 o)] (.bool (hasO l o)):=by
 refine Zd Tryz.func249 rfl ZbN ?_;simp (disch:=omega) only [Tryz.f249,go_sem,seval];refine (U7 l c 270 [.ptr 0 0] [.cells [.p (.int .i64 o)]] (fun v=>decide (v.order=o)) hl (by simp (disch:=omega) only [go_sem,seval]) (by rfl) (fun v _=>zU v o)).useH (Zc ?_);rw [hasO]
def beforeB (l:List Vis) (a b:Int):Bool:=if Hu (fun v=>decide (v.order=b)) l<0 then true else hasO l a&& !hasO (l.drop (Hu (fun v=>decide (v.order=b)) l).toNat) a
theorem NV (l:List Vis) (c:Bool) (a b:Int) (hl:l.length<=1048576):PC 250 [.p (.list c (l.map Z9)),.p (.int .i64 a),.p (.int .i64 b)] (.bool (beforeB l a b)):=by
 refine Zd Tryz.func250 rfl ZbO ?_;simp (disch:=omega) only [Tryz.f250,go_sem,seval];refine (D2 l c 271 [.ptr 0 0] [.cells [.p (.int .i64 b)]] (fun v=>decide (v.order=b)) hl (by simp (disch:=omega) only [go_sem,seval]) (by rfl) (fun v _=>Tt v b)).useH ?_;have hlt:=gS (f:=fun v=>decide (v.order=b)) (l:=l);refine Zc ?_;refine cD ?_ ?_<;>intro h<;>simp (disch:=omega) only [Sh.out h,go_sem,seval]
 ·rw [beforeB,if_pos h]
 ·refine (CZ l c a hl).use (Zc ?_);generalize hq:Hu (fun v=>decide (v.order=b)) l=q at hlt h ⊢
  cases h2:hasO l a with
  | false =>
   refine Zc ?_
   simp_all [beforeB]
  | true =>
   simp (disch:=omega) only [YV,go_sem,seval];refine (CZ (l.drop q.toNat) _ a (by simp;omega)).use (Zc ?_)
   simp_all [beforeB,if_neg]
def QQ (l:List Vis):Int->List Vis->Bool
 | _,[]=>true
 | last,w::r=>decide (last<vIx l w)&&QQ l (vIx l w) r
def pairB (os:List Ord) (l:List Vis) (v:Vis):Bool:=decide (0<=vIx (ZV os v.order.toNat) v)&&QQ l (-1) (ZV os v.order.toNat)
theorem NY (x:Inst) (l:List Vis) (c:Bool) (hl:l.length<=1048576) (ho:x.orders.length<=1048576) (hv: ∀v∈l,0<=v.order/\v.order<x.orders.length) :
  PC 248 [.p (Zv x),.p (.list c (l.map Z9))] (.bool (l.all (pairB x.orders l))):=by
 refine Zd Tryz.func248 rfl ZbM ?_;simp (disch:=omega) only [Tryz.f248,go_sem,seval];refine Zm [1,2,12,13] (fun k:Nat=> [(14,.p (.int .i64 k))]) (fun _=> [Zj x]) (fun k=>k<=l.length/\ ∀j,j<k->pairB x.orders l (nth l j)=true) (fun k=>l.length-k) 0 Zb (Weak.mk ?_) ?_
 ·simp (disch:=omega) only [Zj,go_sem,seval]
 ·rintro k ⟨hk,hno⟩;refine Ye ?_;refine cD ?_ ?_<;>intro h<;>simp (disch:=omega) only [Sh.out h,go_sem,seval,↓reduceIte]
  ·have hk2:k<l.length:=Za
   obtain ⟨v1,v2⟩:=hv _ (Zt hk2)
   have hbad:pairB x.orders l (nth l k)=false->l.all (pairB x.orders l)=false:=fun h4=>by
    grind [Zt]
   obtain ⟨i,hi⟩: ∃i:Nat,(nth l k).order=(i:Int):=⟨(nth l k).order.toNat,Za⟩
   have hp:pairB x.orders l (nth l k)=(decide (0<=vIx (ZV x.orders i) (nth l k))&&QQ l (-1) (ZV x.orders i)):=by rw [pairB,hi];rfl
   rw [hi] at v1 v2;simp (disch:=omega) only [hi,go_sem,seval];refine (visits_c x.orders x.orders_c i Za ho).use (Zc ?_);have hvl:=WT x.orders i;have hcon:=IY (ZV x.orders i) false (nth l k) Za;rw [RH,hi] at hcon;refine (hcon).use (Zc ?_);refine cD ?_ ?_<;>intro h2<;>simp (disch:=omega) only [Sh.out h2,go_sem,seval]
   ·grind
   ·have h2':0<=vIx (ZV x.orders i) (nth l k):=Za
    generalize hown:ZV x.orders i=own at hvl hp h2' ⊢
    have hp2:pairB x.orders l (nth l k)=QQ l (-1) own:=by grind
    refine Zm [1,2,12,13,14,27,28] (fun q:Nat×Int=> [(8,.p (.int .i64 q.2)),(29,.p (.int .i64 q.1))]) (fun _=> [Zj x,.cells [.p (.int .i64 (i:Int)),.p (.bool (nth l k).drp)]]) (fun q=>q.1<=own.length/\QQ l (-1) own=QQ l q.2 (own.drop q.1)) (fun q=>own.length-q.1) (0,-1) Zb (Weak.mk ?_) ?_
    ·simp (disch:=omega) only [Zj,go_sem,seval]
    ·rintro ⟨j,last⟩ ⟨hj,ha⟩;simp only at hj ha;refine Ye ?_;refine ZO ?_ ?_<;>intro h3
     ·have hj2:j<own.length:=Za
      have hd:own.drop j=nth own j::own.drop (j+1):=by rw [V4 hj2,Zh hj2]
      rw [hd] at ha;refine (CM l c (nth own j) hl).use (Zc ?_);refine ZO ?_ ?_<;>intro h4
      ·grind [QQ]
      ·have h5:last<vIx l (nth own j):=Za
       exact ⟨(j+1,vIx l (nth own j)),⟨Za,by grind [QQ]⟩,Za,wk⟩
     ·have hjl:j=own.length:=Za
      subst hjl;exact ⟨k+1,⟨Za,Zs.2 ⟨hno,by grind [QQ]⟩⟩,Za,wk⟩
  ·have hkl:k=l.length:=Za
   subst hkl
   have:l.all (pairB x.orders l)=true:=by
    rw [Zz];intro v hv;obtain ⟨j,hj,rfl⟩:=ZT.1 hv
    grind [Zh]
   rw [this]
def Xu (r:Rte):AM.Obj:= .cells [.p (.int .i64 r.typ),.p (.int .i64 r.start),.p (.list r.rests_c (r.rests.map eB)),.p (.list r.visits_c (r.visits.map Z9))]
def W2 (x:Inst) (v:Vis):Bool:= !decide (0<=v.order/\v.order<(x.orders.length:Int))
theorem fL (x:Inst) (r:Rte) (v:Vis) (ho:x.orders.length<=1048576):ACalls Tryz.prog 245 [.p (Z9 v),.ptr 0 0] [Zj x,Xu r] fun y H'=>y= .p (.bool (W2 x v))/\H'= [Zj x,Xu r]:=by
 refine Zf [] Tryz.func245 rfl ZbJ ?_;simp (disch:=omega) only [Tryz.f245,Zj,Xu,go_sem,seval];refine gF ?_ ?_<;>intro h<;>simp (disch:=omega) only [Sh.out h,go_sem,seval,↓reduceIte]
 ·have e:W2 x v=true:=by
   grind [W2]
  rw [e];exact we
 ·have e:W2 x v=decide ((x.orders.length:Int)<=v.order):=by
   have h0:0<=v.order:=Za
   rw [Wq];simp [W2,h0]
  rw [e];exact we
theorem fM (x:Inst) (r:Rte) (v:Vis) (ho:x.orders.length<=1048576) (h1:0<=v.order) (h2:v.order<x.orders.length):ACalls Tryz.prog 246 [.p (Z9 v),.ptr 0 0] [Zj x,Xu r] fun y H'=>y= .p (.bool (nth x.orders v.order.toNat).off)/\H'= [Zj x,Xu r]:=by
 have h3:v.order.toNat<x.orders.length:=Za
 refine Zf [] Tryz.func246 rfl ZbK ?_;simp (disch:=omega) only [Tryz.f246,Zj,Xu,go_sem,seval];exact we
def Xj (x:Inst) (l:List Vis):Int :=
 if l.length=0\/l.any (W2 x)=true then 2
 else if (l.any fun v=>(nth x.orders v.order.toNat).off)=true then 9
 else if K5 l=true then 6
 else if l.all (pairB x.orders l)=false then 19
 else if (x.apart.any fun p=>hasO l p.1&&hasO l p.2)=true then 20
 else if (x.before.any fun p=> !beforeB l p.1 p.2)=true then 21
 else 0
theorem K1 {P Q:Prop} (h:Q) (e:Q->P:=by intro h;simp (disch:=omega) only [Zj,Xu,go_sem,seval];exact h):P:=e h
theorem P1 (x:Inst) (r:Rte) (ho:x.orders.length<=1048576) (hl:r.visits.length<=1048576) (hap:x.apart.length<=1048576) (hbe:x.before.length<=1048576) :
  PC 229 [.p (Zv x),.p (WG r)] (.int .i64 (Xj x r.visits)):=by
 refine Zd Tryz.func229 rfl Zbu ?_;simp (disch:=omega) only [Tryz.f229,go_sem,seval];refine gF ?_ ?_<;>intro h0<;>simp (disch:=omega) only [Sh.out h0,go_sem,seval]
 ·grind [Xj]
 ·have h00: ¬r.visits.length=0:=Za
  refine (U7 r.visits r.visits_c 245 [.ptr 0 0] [Zj x,Xu r] (W2 x) hl (by simp (disch:=omega) only [Zj,Xu,go_sem,seval]) (by rfl) (fun v _=>fL x r v ho)).useH (K1 ?_);refine cD ?_ ?_<;>intro h1<;>simp (disch:=omega) only [Sh.out h1,go_sem,seval]
  ·simp_all [Xj]
  ·have h1':r.visits.any (W2 x)=false:=Za
   have c1: ¬(r.visits.length=0\/r.visits.any (W2 x)=true):=by grind
   have hin: ∀v∈r.visits,0<=v.order/\v.order<x.orders.length:=fun v hv=>by
    grind [W2]
   refine (U7 r.visits r.visits_c 246 [.ptr 0 0] [Zj x,Xu r] (fun v=>(nth x.orders v.order.toNat).off) hl (by simp (disch:=omega) only [Zj,Xu,go_sem,seval]) (by rfl) (fun v hv=>fM x r v ho (hin v hv).1 (hin v hv).2)).useH (K1 ?_);refine cD ?_ ?_<;>intro h2<;>simp (disch:=omega) only [Sh.out h2,go_sem,seval]
   ·simp_all [Xj]
   ·refine (uM r.visits r.visits_c hl).use (Zc ?_);refine cD ?_ ?_<;>intro h3<;>simp (disch:=omega) only [Sh.out h3,go_sem,seval,↓reduceIte]
    ·simp_all [Xj,if_neg]
    ·refine (NY x r.visits r.visits_c hl ho hin).use (Zc ?_);refine cD ?_ ?_<;>intro h4<;>simp (disch:=omega) only [Sh.out h4,go_sem,seval,↓reduceIte]
     ·simp_all [Xj,if_neg]
     ·have h4':r.visits.all (pairB x.orders r.visits)=true:=by grind
      have hc:Xj x r.visits=if (x.apart.any fun p=>hasO r.visits p.1&&hasO r.visits p.2)=true then 20 else if (x.before.any fun p=> !beforeB r.visits p.1 p.2)=true then 21 else 0:=by
       rw [Xj,if_neg c1,if_neg (by grind),if_neg (by grind),if_neg (by grind)]
      clear h4 h4' h3 h2 c1 h1' h1 h0;refine Zm [2,5,33,34] (fun k:Nat=> [(35,.p (.int .i64 k))]) (fun _=> [Zj x,Xu r]) (fun k=>k<=x.apart.length/\ ∀j,j<k->(hasO r.visits (nth x.apart j).1&&hasO r.visits (nth x.apart j).2)=false) (fun k=>x.apart.length-k) 0 Zb (Weak.mk ?_) ?_
      ·simp (disch:=omega) only [Zj,Xu,go_sem,seval]
      ·rintro k ⟨hk,hno⟩;refine K1 ?_;refine cD ?_ ?_<;>intro h<;>simp (disch:=omega) only [Sh.out h,go_sem,seval,↓reduceIte]
       ·have hk2:k<x.apart.length:=Za
        refine (CZ r.visits r.visits_c (nth x.apart k).1 hl).use (Zc ?_);refine QS ?_ ?_<;>intro h2
        ·refine (CZ r.visits r.visits_c (nth x.apart k).2 hl).use (Zc ?_);refine ZO ?_ ?_<;>intro h3
         ·rw [hc,if_pos (Vz hk2 (by grind))]
         ·exact ⟨k+1,⟨Za,Zs.2 ⟨hno,by grind⟩⟩,Za,wk⟩
        ·exact ⟨k+1,⟨Za,Zs.2 ⟨hno,by simp [h2]⟩⟩,Za,wk⟩
       ·have hkl:k=x.apart.length:=Za
        subst hkl;rw [hc,QO hno];clear hno hk h hc;rw [if_neg Zb];refine Zm [5,51,52] (fun k:Nat=> [(53,.p (.int .i64 k))]) (fun _=> [Zj x,Xu r]) (fun k=>k<=x.before.length/\ ∀j,j<k->(!beforeB r.visits (nth x.before j).1 (nth x.before j).2)=false) (fun k=>x.before.length-k) 0 Zb (Weak.mk ?_) ?_
        ·simp (disch:=omega) only [Zj,Xu,go_sem,seval]
        ·rintro k ⟨hk,hno⟩;refine K1 ?_;refine cD ?_ ?_<;>intro h<;>simp (disch:=omega) only [Sh.out h,go_sem,seval,↓reduceIte]
         ·have hk2:k<x.before.length:=Za
          refine (NV r.visits r.visits_c (nth x.before k).1 (nth x.before k).2 hl).use (Zc ?_);refine ZO ?_ ?_<;>intro h2
          ·have h3:(!beforeB r.visits (nth x.before k).1 (nth x.before k).2)=true:=Za
           rw [if_pos (Vz hk2 h3)]
          ·have h3:(!beforeB r.visits (nth x.before k).1 (nth x.before k).2)=false:=Za
           exact ⟨k+1,⟨Za,Zs.2 ⟨hno,h3⟩⟩,Za,wk⟩
         grind [QO]
@[go_sem] theorem ZkI {H:List AM.Obj} {n cs cs'} :DV H n (.tup cs) (.tup cs')=(cs'=cs/\Xn n cs=true):=by simp [DV,cX,refB]
@[go_sem] theorem PU {a b:V} :Q5 [a,b]= .tup [a,b]:=Zl rfl rfl
theorem Wv {g:FuncId} {args:List V} {a b:PV} {H:List AM.Obj} {K:V->List AM.Obj->Prop} (h:ACalls Tryz.prog g args [] fun x H'=>x= .tup [.p a,.p b]/\H'= []) (k:K (.tup [.p a,.p b]) H) (ha:Xn 0 args=true:=by rfl):ACalls Tryz.prog g args H K :=
 (h.behind ha H).mono fun x H' hq=>by
  obtain ⟨y,H1,⟨rfl,rfl⟩,rfl,rfl⟩:=hq
  grind [shV,shVs]
def Xt (l:List Vis):Nat:=l.foldl (fun s v=>s|||pw v.order.toNat) 0
def G5 (v:Vis):Bool:=decide (0<=v.order/\v.order<=62)
theorem DA {l:List Vis} {k:Nat} (hk:k<l.length):Xt (l.take (k+1))=Xt (l.take k)|||pw (nth l k).order.toNat:=by
 grind [Yb,Xt,Zh]
theorem AK : ∀(k:Nat) {l:List Vis},k<=l.length->(∀v∈l.take k,G5 v=true)->Xt (l.take k)<9223372036854775808
 | 0,l,_,_=>by simp [Xt]
 | k+1,l,hk,h=>by
  have hk2:k<l.length:=Za
  have ih:=AK k (l:=l) Za fun v hv=>h v (List.take_subset_take_left l Za hv);have hv:=h (nth l k) (by rw [Zh hk2];exact ZT.2 ⟨k,by simp;omega,Zb⟩);simp only [G5,Zq] at hv;have h2:pw (nth l k).order.toNat<=pw 62:=Kh Za;have h3:=F6;rw [DA hk2];exact Q0 (n:=63) Za Za
def Q4 (l:List Vis):Int×Int:=if l.all G5=true then (((Xt l:Nat):Int),0) else (0,2)
theorem NX (r:Rte) (hl:r.visits.length<=1048576):PT 272 [.p (WG r)] [.p (.int .i64 (Q4 r.visits).1),.p (.int .i64 (Q4 r.visits).2)]:=by
 refine Zf [] Tryz.func272 rfl Zb9 ?_;simp (disch:=omega) only [Tryz.f272,go_sem,seval];refine Zm [8,9] (fun k:Nat=> [(4,.p (.int .i64 (Xt (r.visits.take k):Nat))),(10,.p (.int .i64 k))]) (fun _=> [Xu r]) (fun k=>k<=r.visits.length/\ ∀j,j<k->G5 (nth r.visits j)=true) (fun k=>r.visits.length-k) 0 Zb (Weak.mk ?_) ?_
 ·simp (disch:=omega) only [Xu,Xt,Q2,UD,go_sem,seval]
 ·rintro k ⟨hk,hno⟩
  have hlt:=AK k hk fun v hv=>by
   obtain ⟨j,hj,rfl⟩:=ZT.1 hv
   grind [Zh]
  simp (disch:=omega) only [Xu,go_sem,seval];refine cD ?_ ?_<;>intro h<;>simp (disch:=omega) only [Sh.out h,go_sem,seval,↓reduceIte]
  ·have hk2:k<r.visits.length:=Za
   have hbad:G5 (nth r.visits k)=false->Q4 r.visits=(0,2):=fun h4=>by
    grind [Zt,Q4]
   have hs:=DA hk2
   have hp:(nth r.visits k).order<=62->pw (nth r.visits k).order.toNat<=4611686018427387904:=fun h=>by rw [<- F6];exact Kh Za
   refine gF ?_ ?_<;>intro h1<;>simp (disch:=omega) only [Sh.out h1,go_sem,seval,↓reduceIte]
   ·have e:=hbad (by simp [G5];omega);rw [e];exact we
   ·refine ZO ?_ ?_<;>intro h2
    ·have e:=hbad (by simp [G5];omega);rw [e];exact we
    ·exact ⟨k+1,⟨Za,Zs.2 ⟨hno,by simp [G5];omega⟩⟩,Za,Weak.mk (by simp (disch:=omega) only [hs,go_sem,seval])⟩
  ·have hkl:k=r.visits.length:=Za
   subst hkl
   have:r.visits.all G5=true:=by
    rw [Zz];intro v hv;obtain ⟨j,hj,rfl⟩:=ZT.1 hv
    grind [Zh]
   have e:Q4 r.visits=(((Xt r.visits:Nat):Int),0):=by simp [Q4,this]
   rw [e,YV];exact we
theorem Qd {α:Type} [Inhabited α] {a b:List α} (hl:a.length=b.length) (h: ∀j,j<a.length->nth a j=nth b j):a=b:=by
 grind [Q1,Zh]
def Y0 (a b:Int):Int:=if a<b then-1 else if b<a then 1 else 0
theorem R3 (a:Int):PC 108 [.p (.int .i64 a)] (.bool false):=by
 refine Zd Tryz.func108 rfl zY ?_;simp (disch:=omega) only [Tryz.f108,go_sem,seval]
 try simp
theorem D0 (a b:Int):PC 69 [.p (.int .i64 a),.p (.int .i64 b)] (.int .i64 (Y0 a b)):=by
 refine Zd Tryz.func69 rfl ZiD ?_;simp (disch:=omega) only [Tryz.f69,go_sem,seval];refine (R3 a).use (Zc ?_);refine (R3 b).use (Zc ?_);refine cD ?_ ?_<;>intro h<;>simp (disch:=omega) only [Sh.out h,go_sem,seval]
 ·simp [Y0,h]
 ·refine cD ?_ ?_<;>intro h2<;>simp (disch:=omega) only [Sh.out h2,go_sem,seval]
  ·simp [Y0,h,h2]
  grind [Y0]
def sN (l:List Int):Int:=(l.find? fun n=>decide (n≠0)).getD 0
theorem ZcN {l:List Int} {k:Nat} (hk:k<l.length) (h:nth l k≠0) (hno: ∀j,j<k->nth l j=0):sN l=nth l k:=by
 grind [nth,Ex,sN]
theorem ZcO {l:List Int} (hno: ∀j,j<l.length->nth l j=0):sN l=0:=by
 have:l.find? (fun n=>decide (n≠0))=none:=by
  rw [Aq];intro x hx;obtain ⟨j,hj,rfl⟩:=ZT.1 hx
  grind [Zh]
 grind [sN]
theorem sO (l:List Int) (c:Bool) (hl:l.length<=100):PC 97 [.p (.list c (l.map eI))] (.int .i64 (sN l)):=by
 refine Zd Tryz.func97 rfl ZiY ?_;simp (disch:=omega) only [Tryz.f97,go_sem,seval];refine Zm [3,6,7] (fun k:Nat=> [(8,.p (.int .i64 k))]) (fun _=> []) (fun k=>k<=l.length/\ ∀j,j<k->nth l j=0) (fun k=>l.length-k) 0 Zb (Weak.mk ?_) ?_
 ·simp (disch:=omega) only [go_sem,seval]
 ·rintro k ⟨hk,hno⟩;refine Zc ?_;refine cD ?_ ?_<;>intro h<;>simp (disch:=omega) only [Sh.out h,go_sem,seval,↓reduceIte]
  ·have hk2:k<l.length:=Za
   refine ZO ?_ ?_<;>intro h2
   ·grind [ZcN]
   ·exact ⟨k+1,⟨Za,Zs.2 ⟨hno,Za⟩⟩,Za,wk⟩
  grind [ZcO]
theorem EN (a b:Int):sN [a,b]=if a=0 then b else a:=by
 grind [sN]
def dn (v:Vis):Int:=if v.drp=true then 1 else 0
theorem Nr (v:Vis):PC 261 [.p (Z9 v)] (.int .i64 (dn v)):=by
 refine Zd Tryz.func261 rfl ZbY ?_;simp (disch:=omega) only [Tryz.f261,go_sem,seval];refine cD ?_ ?_<;>intro h<;>simp (disch:=omega) only [Sh.out h,go_sem,seval]
 ·simp [dn,h]
 ·simp [dn,h]
def Dk (a b:Vis):Int:=if Y0 a.order b.order=0 then Y0 (dn a) (dn b) else Y0 a.order b.order
theorem TI (a b:Vis):PC 235 [.p (Z9 a),.p (Z9 b)] (.int .i64 (Dk a b)):=by
 refine Zd Tryz.func235 rfl ZbA ?_;simp (disch:=omega) only [Tryz.f235,go_sem,seval];refine Xo (Zc ?_);refine Zo (D0 a.order b.order) (Zc ?_);refine Zo (Nr a) (Zc ?_);refine Zo (Nr b) (Zc ?_);refine Zo (D0 (dn a) (dn b)) (Zc ?_);refine Zo (sO [Y0 a.order b.order,Y0 (dn a) (dn b)] false Zb) (Zc ?_);rw [EN,Dk]
def Bt : List Vis->List Vis->Int
 | [],[]=>0
 | [],_::_=> -1
 | _::_,[]=>1
 | a::r,b::s=>if Dk a b=0 then Bt r s else Dk a b
theorem U8 {α:Type} [Inhabited α] {l:List α} {k:Nat} (h:k<l.length):l.drop k=nth l k::l.drop (k+1):=by rw [V4 h,Zh h]
theorem GZ (a b:List Vis) (c d:Bool) (ha:a.length<=1048576) (hb:b.length<=1048576) :
  PC 234 [.p (.list c (a.map Z9)),.p (.list d (b.map Z9)),.fn (.func 235) [] []] (.int .i64 (Bt a b)):=by
 refine Zd Tryz.func234 rfl Zbz ?_;simp (disch:=omega) only [Tryz.f234,go_sem,seval];refine Zm [0,1,2,11,12] (fun k:Nat=> [(13,.p (.int .i64 k))]) (fun _=> []) (fun k=>k<=a.length/\k<=b.length/\Bt a b=Bt (a.drop k) (b.drop k)) (fun k=>a.length-k) 0 Zb (Weak.mk ?_) ?_
 ·simp (disch:=omega) only [go_sem,seval,↓reduceIte]
 ·rintro k ⟨hk,hkb,hle⟩;refine Zc ?_;refine cD ?_ ?_<;>intro h<;>simp (disch:=omega) only [Sh.out h,go_sem,seval,↓reduceIte]
  ·have hk2:k<a.length:=Za
   rw [U8 hk2] at hle;refine cD ?_ ?_<;>intro h2<;>simp (disch:=omega) only [Sh.out h2,go_sem,seval,↓reduceIte]
   ·have:b.drop k= []:=Cp Za;rw [hle,this];rfl
   ·have hk3:k<b.length:=Za
    rw [U8 hk3] at hle;refine (TI (nth a k) (nth b k)).use (Zc ?_);refine cD ?_ ?_<;>intro h3<;>simp (disch:=omega) only [Sh.out h3,go_sem,seval,↓reduceIte]
    ·simp_all [Bt]
    ·have h4:Dk (nth a k) (nth b k)=0:=Za
     exact ⟨k+1,⟨Za,Za,by simp_all [Bt]⟩,Za,wk⟩
  ·have hkl:k=a.length:=Za
   subst hkl;rw [Qc] at hle;refine cD ?_ ?_<;>intro h2<;>simp (disch:=omega) only [Sh.out h2,go_sem,seval]
   ·rw [U8 Za] at hle;rw [hle];rfl
   ·have:b.drop a.length= []:=Cp Za;rw [hle,this];rfl
theorem bT (a b:List Vis) (c d:Bool) (ha:a.length<=1048576) (hb:b.length<=1048576):PC 219 [.p (.list c (a.map Z9)),.p (.list d (b.map Z9))] (.bool (decide (Bt a b<0))):=by
 refine Zd Tryz.func219 rfl Zbn ?_;simp (disch:=omega) only [Tryz.f219,go_sem,seval];refine (GZ a b c d ha hb).use ?_;simp (disch:=omega) only [go_sem,seval]
def Km (l:List Vis) (v:Vis):List Vis->Bool
 | []=>true
 | w::r=>if w=v then true else decide (0<=vIx l w)&&Km l v r
def Ug (l own:List Vis):Bool:=own.all fun w=>decide (0<=vIx l w)
def Ks (os:List Ord) (l:List Vis) (o:Int) (p:Int×Int):Bool:=decide (p.2≠o)||Ug l (ZV os p.1.toNat)
def YX (x:Inst) (l:List Vis) (v:Vis):Bool:=decide (vIx l v<0)&&Km l v (ZV x.orders v.order.toNat)&&x.before.all (Ks x.orders l v.order)
def QL (v:Vis):AM.Obj:= .cells [.p (.int .i64 v.order),.p (.bool v.drp)]
theorem nJ {l:List Vis} {v:Vis} : -1<=vIx l v/\vIx l v<l.length:=by
 simp_all [gS,vIx]
theorem P2 (x:Inst) (l:List Vis) (c:Bool) (v:Vis) (hl:l.length<=1048576) (ho:x.orders.length<=1048576) (hbl:x.before.length<=1048576) (hv:0<=v.order/\v.order<x.orders.length) (hb: ∀p∈x.before,0<=p.1/\p.1<x.orders.length) :
  PC 220 [.p (Zv x),.p (.list c (l.map Z9)),.p (Z9 v)] (.bool (YX x l v)):=by
 refine Vw [3] Tryz.func220 rfl Zbo ?_;simp (disch:=omega) only [Tryz.f220,go_sem,seval];refine (CM l c v hl).use (Zc ?_);refine cD ?_ ?_<;>intro h<;>simp (disch:=omega) only [Sh.out h,go_sem,seval]
 ·grind [YX]
 ·have h1:vIx l v<0:=Za
  obtain ⟨i,hi⟩: ∃i:Nat,v.order=(i:Int):=⟨v.order.toNat,Za⟩
  have hr:YX x l v=(Km l v (ZV x.orders i)&&x.before.all (Ks x.orders l v.order)):=by
   grind [YX]
  have hvi:=visits_c x.orders x.orders_c i Za ho;rw [<- hi] at hvi;refine ZI [1,3,5] (fun _:Unit=> []) (fun _=> [Zj x,QL v]) (fun _=>Km l v (ZV x.orders i)=true) ?_ ?_
  ·refine Zc ?_;refine (hvi).use (Zc ?_);have hvl:=WT x.orders i;generalize hown:ZV x.orders i=own at hvl hr ⊢;refine Zm [1,3,5,21,22] (fun k:Nat=> [(23,.p (.int .i64 k))]) (fun _=> [Zj x,QL v]) (fun k=>k<=own.length/\Km l v own=Km l v (own.drop k)) (fun k=>own.length-k) 0 Zb (Weak.mk ?_) ?_
   ·simp (disch:=omega) only [Zj,QL,go_sem,seval]
   ·rintro k ⟨hk,hp⟩;simp (disch:=omega) only [Zj,QL,go_sem,seval];refine ZO ?_ ?_<;>intro h2
    ·have hk2:k<own.length:=Za
     rw [U8 hk2] at hp;refine ZO ?_ ?_<;>intro h3
     ·have h4:nth own k=v:=by grind [DT]
      exact ⟨(),by simp_all [Km],wk⟩
     ·have h4: ¬nth own k=v:=by grind
      refine (CM l c (nth own k) hl).use (Zc ?_);refine ZO ?_ ?_<;>intro h5
      ·have h6: ¬ 0<=vIx l (nth own k):=Za
       simp_all [Km]
      ·have h6:0<=vIx l (nth own k):=Za
       exact ⟨k+1,⟨Za,by simp_all [Km]⟩,Za,wk⟩
    ·have hkl:k=own.length:=Za
     subst hkl;exact ⟨(),by rw [hp,Qc];rfl,wk⟩
  ·rintro _ hpre;rw [hpre,VK] at hr;refine Zg [] _ _ _ _ ?_;simp (disch:=omega) only [Zj,QL,go_sem,seval];refine Zm [1,3,5,36,37] (fun k:Nat=> [(38,.p (.int .i64 k))]) (fun _=> [Zj x,QL v]) (fun k=>k<=x.before.length/\ ∀j,j<k->Ks x.orders l v.order (nth x.before j)=true) (fun k=>x.before.length-k) 0 Zb (Weak.mk ?_) ?_
   ·simp (disch:=omega) only [Zj,QL,go_sem,seval]
   ·rintro k ⟨hk,hno⟩;simp (disch:=omega) only [Zj,QL,go_sem,seval];refine cD ?_ ?_<;>intro h2<;>simp (disch:=omega) only [Sh.out h2,go_sem,seval,↓reduceIte]
    ·have hk2:k<x.before.length:=Za
     have hbk:=hb _ (Zt hk2)
     have hbad:Ks x.orders l v.order (nth x.before k)=false->YX x l v=false:=fun h4=>by
      grind [Zt]
     refine ZO ?_ ?_<;>intro h3
     ·exact ⟨k+1,⟨Za,Zs.2 ⟨hno,by simp [Ks,h3]⟩⟩,Za,wk⟩
     ·obtain ⟨a,hao⟩: ∃a:Nat,(nth x.before k).1=(a:Int):=⟨(nth x.before k).1.toNat,Za⟩;have hva:=visits_c x.orders x.orders_c a Za ho;rw [<- hao] at hva
      have h3':(nth x.before k).2=v.order:=Za
      have hbe:Ks x.orders l v.order (nth x.before k)=Ug l (ZV x.orders a):=by grind [Ks]
      refine (hva).use (Zc ?_);have hvl:=WT x.orders a;generalize hown:ZV x.orders a=own at hvl hbe ⊢;refine Zm [1,3,5,36,37,38,51,52] (fun k:Nat=> [(53,.p (.int .i64 k))]) (fun _=> [Zj x,QL v,.cells [.p (.int .i64 (nth x.before k).1),.p (.int .i64 (nth x.before k).2)]]) (fun q=>q<=own.length/\ ∀j,j<q->decide (0<=vIx l (nth own j))=true) (fun k=>own.length-k) 0 Zb (Weak.mk ?_) ?_
      ·simp (disch:=omega) only [Zj,QL,go_sem,seval]
      ·rintro q ⟨hq,hnq⟩;simp (disch:=omega) only [Zj,QL,go_sem,seval];refine ZO ?_ ?_<;>intro h4
       ·have hq2:q<own.length:=Za
        refine (CM l c (nth own q) hl).use (Zc ?_);refine ZO ?_ ?_<;>intro h5
        ·grind [Ug,Zt]
        ·exact ⟨q+1,⟨Za,Zs.2 ⟨hnq,by simp;omega⟩⟩,Za,wk⟩
       ·have hql:q=own.length:=Za
        subst hql
        have:Ug l own=true:=by
         rw [Ug,Zz];intro w hw;obtain ⟨j,hj,rfl⟩:=ZT.1 hw
         grind [Zh]
        exact ⟨k+1,⟨Za,Zs.2 ⟨hno,by grind⟩⟩,Za,wk⟩
    ·have hkl:k=x.before.length:=Za
     subst hkl
     have:x.before.all (Ks x.orders l v.order)=true:=by
      rw [Zz];intro w hw;obtain ⟨j,hj,rfl⟩:=ZT.1 hw
      grind [Zh]
     rw [hr,this]
def Ul (x:Inst) (S:Nat) (l:List Vis) (i:Nat):List Vis:=if S.testBit i=true/\(nth x.orders i).off=false then (ZV x.orders i).filter (YX x l) else []
def nextU (x:Inst) (S:Nat) (l:List Vis) (k:Nat):List Vis:=(List.range k).flatMap (Ul x S l)
theorem Bv (x S l k):nextU x S l (k+1)=nextU x S l k++Ul x S l k:=by simp [nextU,Yu]
theorem aG (x S l i):(Ul x S l i).length<=2:=by
 grind [Ul,WT]
theorem Jq (x S l): ∀k,(nextU x S l k).length<=2*k
 | 0=>by simp [nextU]
 | k+1=>by
  have h1:=Jq x S l k;have h2:=aG x S l k;rw [Bv,ZH];omega
theorem bU (x:Inst) (S:Nat) (l:List Vis) (c:Bool) (hS:S<9223372036854775808) (hl:l.length<=1048576) (ho:x.orders.length<=60) (hbl:x.before.length<=1048576) (hb: ∀p∈x.before,0<=p.1/\p.1<x.orders.length) :
  PC 192 [.p (Zv x),.p (.int .i64 (S:Nat)),.p (.list c (l.map Z9))] (.list false ((nextU x S l x.orders.length).map Z9)):=by
 refine ACalls.frozen (S:=2) (n:=(nextU x S l x.orders.length).length) Zb ?_
 suffices hh:ACalls Tryz.prog 192 [.p (Zv x),.p (.int .i64 (S:Nat)),.p (.list c (l.map Z9))] [] fun y H'=> ∃m:List Vis,m=nextU x S l x.orders.length/\y= .sl 0 0 m.length m.length/\H'= [.elems 2 (m.map Z9)] by
  grind
 refine ZW [2] Tryz.func192 rfl Za8 ?_;simp (disch:=omega) only [Tryz.f192,go_sem,seval];refine Zp (Weak.ofNil 7 2 (by simp (disch:=omega) only [go_sem,seval]) Zb (Weak.refl _ _ _)) ?_;refine Zg [] _ _ _ _ (Zc ?_);refine Zm [1,2,3,13,14] (fun q:Nat×List Vis=> [(7,.sl 1 0 q.2.length q.2.length),(15,.p (.int .i64 q.1))]) (fun q=> [Zj x,.elems 2 (q.2.map Z9)]) (fun q=>q.1<=x.orders.length/\q.2=nextU x S l q.1) (fun q=>x.orders.length-q.1) (0,[]) ⟨Zb,by simp [nextU]⟩ (Weak.mk ?_) ?_
 ·simp (disch:=omega) only [Zj,go_sem,seval]
 ·rintro ⟨k,m⟩ ⟨hk,hm⟩;simp only at hk hm
  have hml:m.length<=2*k:=by grind [Jq]
  have hsc:=Bv x S l k;refine Ye ?_;refine cD ?_ ?_<;>intro h<;>simp (disch:=omega) only [Sh.out h,go_sem,seval,↓reduceIte]
  ·have hk2:k<x.orders.length:=Za
   refine IW ?_ ?_<;>intro h62
   ·omega
   refine IW ?_ ?_<;>intro h2
   ·have hbit:S.testBit k=false:=by grind [IN]
    have e:Ul x S l k= []:=by simp [Ul,hbit]
    exact ⟨(k+1,m),⟨Za,by grind⟩,Za,wk⟩
   ·have hbit:S.testBit k=true:=by
     grind [IN]
    refine ZO ?_ ?_<;>intro h3
    ·have e:Ul x S l k= []:=by simp [Ul,h3]
     exact ⟨(k+1,m),⟨Za,by grind⟩,Za,wk⟩
    ·have h3':(nth x.orders k).off=false:=Za
     have e:Ul x S l k=(ZV x.orders k).filter (YX x l):=by grind [Ul]
     refine (visits_c x.orders x.orders_c k hk2 Za).use (Zc ?_);have hvl:=WT x.orders k;have hvo: ∀v∈ZV x.orders k,v.order=k:=fun v hv=>Yd hv;generalize hown:ZV x.orders k=own at hvl e hvo ⊢;refine Zm [1,2,3,13,14,15,36,37] (fun q:Nat×List Vis=> [(7,.sl 1 0 q.2.length q.2.length),(38,.p (.int .i64 q.1))]) (fun q=> [Zj x,.elems 2 (q.2.map Z9),Y7 (nth x.orders k)]) (fun q=>q.1<=own.length/\q.2=m++(own.take q.1).filter (YX x l)) (fun q=>own.length-q.1) (0,m) ⟨Zb,Zb⟩ (Weak.mk ?_) ?_
     ·simp (disch:=omega) only [Zj,Y7,h3',go_sem,seval]
     ·rintro ⟨j,m2⟩ ⟨hj,hm2⟩;simp only at hj hm2
      have hm2l:m2.length<=2*k+2:=by
       grind
      simp (disch:=omega) only [Zj,Y7,h3',go_sem,seval];refine ZO ?_ ?_<;>intro h4
      ·have hj2:j<own.length:=Za
       have hvj:=hvo _ (Zt hj2)
       have htk:own.take (j+1)=own.take j++ [nth own j]:=by rw [Yb hj2,Zh hj2]
       have hrd:=P2 x l c (nth own j) hl Za hbl Za hb;refine (hrd).use (Zc ?_);refine ZO ?_ ?_<;>intro h5
       ·exact ⟨(j+1,m2++ [nth own j]),⟨Za,by grind⟩,Za,Weak.mk (by simp (disch:=omega) only [h3',go_sem,seval])⟩
       ·exact ⟨(j+1,m2),⟨Za,by grind⟩,Za,Weak.mk (by simp (disch:=omega) only [h3',go_sem,seval])⟩
      ·have hjl:j=own.length:=Za
       subst hjl;exact ⟨(k+1,m2),⟨Za,by grind⟩,Za,wk⟩
  ·have hkn:k=x.orders.length:=Za
   subst hkn;exact ⟨m,hm,1,by simp (disch:=omega) only [go_sem,seval]⟩
theorem zG (l:List Vis) (c:Bool) (hl:l.length<=1048576):PC 195 [.p (.list c (l.map Z9))] (.list true (l.map Z9)):=by
 refine Zd Tryz.func195 rfl Zbb ?_;simp (disch:=omega) only [Tryz.f195,go_sem,seval,↓reduceIte]
@[go_sem] theorem Zna {H:List AM.Obj} {u2:TypeId} {xs:List PV} {y:V} {k:V->List AM.Obj->Prop} {tt} :RJ Tryz.prog H 41 u2 (.p (.list true xs)) y (Zu k tt)=Bz ((Tf (some (2,16)) xs (YK (Tryz.prog.underlying u2) H y)).map .p) (Zu (fun v=>k v H) ⟨⟩):=Pa eC
def Zpf (nx:List Vis->List Vis):Nat->List Vis->List (List Vis)->List (List Vis)×Bool
 | 0,l,outs=>(outs++ [l],decide (outs.length+1<=8192))
 | f+1,l,outs=>(nx l).foldl (fun acc v=>if acc.2=true then Zpf nx f (l++ [v]) acc.1 else acc) (outs,true)
def K3 (x:Inst) (S k:Nat):Nat:=((List.range k).map fun i=>if S.testBit i=true then (ZV x.orders i).length else 0).sum
theorem AW (x S k):K3 x S (k+1)=K3 x S k+if S.testBit k=true then (ZV x.orders k).length else 0:=by simp [K3,Yu]
theorem C7 (x S): ∀k,K3 x S k<=2*k
 | 0=>by simp [K3]
 | k+1=>by
  have h1:=C7 x S k;have h2:=WT x.orders k;rw [AW]
  split<;>omega
def nHas (S:Nat) (i:Int):Bool:=decide (0<=i/\i<=62)&&S.testBit i.toNat
theorem Np {S i:Nat} (h:i<=62):nHas S (i:Int)=S.testBit i:=by
 grind [nHas]
theorem Js (S:Nat) (i:Int) (hS:S<9223372036854775808):PC 175 [.p (.int .i64 (S:Nat)),.p (.int .i64 i)] (.bool (nHas S i)):=by
 refine Zd Tryz.func175 rfl ZaW ?_;simp (disch:=omega) only [Tryz.f175,go_sem,seval];refine gT ?_ ?_<;>intro h<;>simp (disch:=omega) only [Sh.out h,go_sem,seval,↓reduceIte]
 ·refine gT ?_ ?_<;>intro h1<;>simp (disch:=omega) only [Sh.out h1,go_sem,seval,↓reduceIte]
  ·refine gT ?_ ?_<;>intro h2<;>simp (disch:=omega) only [Sh.out h2,go_sem,seval,↓reduceIte]
   ·have e:((S / pw i.toNat:Nat):Int).tmod 2=((S / pw i.toNat%2:Nat):Int):=by rfl
    rw [e];have h3:(((S / pw i.toNat%2:Nat):Int)=1)=(S.testBit i.toNat=true):=IP
    simp_all [nHas]
   ·simp [nHas,h2]
  ·simp [nHas,h1]
 ·omega
theorem NS (x:Inst) (i:Nat) (hi:i<x.orders.length) (hl:x.orders.length<=1048576) (hpl: ∀o∈x.orders,-1<=o.pick.place/\ -1<=o.drp.place):ACalls Tryz.prog 177 [.p (Zv x),.p (.int .i64 (i:Nat))] [] fun y H'=>y= .sl 0 0 (ZV x.orders i).length (ZV x.orders i).length/\H'= [.elems 2 ((ZV x.orders i).map Z9)]:=by
 suffices hh:ACalls Tryz.prog 177 [.p (Zv x),.p (.int .i64 (i:Nat))] [] fun y H'=> ∃m:List Vis,m=ZV x.orders i/\y= .sl 0 0 m.length m.length/\H'= [.elems 2 (m.map Z9)] by
  grind
 obtain ⟨h1,h2⟩:=hpl _ (Zt hi);refine ZW [2] Tryz.func177 rfl ZaY ?_;simp (disch:=omega) only [Tryz.f177,go_sem,seval];refine Zp (Weak.ofNil 5 2 (by simp (disch:=omega) only [go_sem,seval]) Zb (Weak.refl _ _ _)) ?_;refine ZI [1,2] (fun m:List Vis=> [(5,.sl 1 0 m.length m.length)]) (fun m=> [Zj x,.elems 2 (m.map Z9)]) (fun m=>m=(if 0<=(nth x.orders i).pick.place then [⟨i,false⟩] else [])) ?_ ?_
 ·refine Zc ?_;refine ZO ?_ ?_<;>intro h
  ·exact ⟨[⟨i,false⟩],by grind,Weak.mk (by simp (disch:=omega) only [Zj,go_sem,seval])⟩
  ·exact ⟨[],by grind,Weak.mk (by simp (disch:=omega) only [Zj,go_sem,seval])⟩
 ·intro m hm
  have hml:m.length<=1:=by grind
  refine Zg [] _ _ _ _ (Ye ?_);refine cD ?_ ?_<;>intro h<;>simp (disch:=omega) only [Sh.out h,go_sem,seval,↓reduceIte]
  ·exact ⟨m++ [⟨i,true⟩],by rw [ZV,hm,if_pos (c:=0<=(nth x.orders i).drp.place) Za],1,by simp (disch:=omega) only [go_sem,seval]⟩
  ·exact ⟨m,by simp_all [ZV],1,by simp (disch:=omega) only [go_sem,seval]⟩
theorem DJ (x:Inst) (i:Nat) (hi:i<x.orders.length) (hl:x.orders.length<=1048576) (hpl: ∀o∈x.orders,-1<=o.pick.place/\ -1<=o.drp.place):PC 177 [.p (Zv x),.p (.int .i64 (i:Nat))] (.list false ((ZV x.orders i).map Z9)) :=
 (NS x i hi hl hpl).frozen Zb
theorem Ql (l:List Vis) (c:Bool) (v:Vis) (hl:l.length<=1048576):PC 134 [.p (.list c (l.map Z9)),.p (Z9 v)] (.int .i64 (vIx l v)):=by
 refine Zd Tryz.func134 rfl Zax ?_;simp (disch:=omega) only [Tryz.f134,go_sem,seval];refine Zm [0,3] (fun k:Nat=> [(5,.p (.int .i64 k))]) (fun _=> [QL v]) (fun k=>k<=l.length/\ ∀j,j<k->decide (v=nth l j)=false) (fun k=>l.length-k) 0 Zb (Weak.mk ?_) ?_
 ·simp (disch:=omega) only [QL,go_sem,seval,↓reduceIte]
 ·rintro k ⟨hk,hno⟩;simp (disch:=omega) only [QL,go_sem,seval];refine cD ?_ ?_<;>intro h<;>simp (disch:=omega) only [Sh.out h,go_sem,seval,↓reduceIte]
  ·have hk2:k<l.length:=Za
   refine Xo (Zc ?_);refine cD ?_ ?_<;>intro h2<;>simp (disch:=omega) only [Sh.out h2,go_sem,seval,↓reduceIte]
   ·have:v=nth l k:=Eq.symm (by grind [DT])
    grind [vIx,I2]
   ·have: ¬v=nth l k:=fun e=>by grind
    exact ⟨k+1,⟨Za,Zs.2 ⟨hno,by grind⟩⟩,Za,wk⟩
  grind [vIx,Pf]
theorem D6 (l s:List Vis) (c d:Bool) (hl:l.length<=1048576) (hs:s.length<=1048576):PC 179 [.p (.list c (l.map Z9)),.p (.list d (s.map Z9))] (.bool (Ug l s)):=by
 refine Zd Tryz.func179 rfl Za0 ?_;simp (disch:=omega) only [Tryz.f179,go_sem,seval];refine Zm [0,1] (fun k:Nat=> [(5,.p (.int .i64 k))]) (fun _=> []) (fun k=>k<=s.length/\ ∀j,j<k->decide (0<=vIx l (nth s j))=true) (fun k=>s.length-k) 0 Zb (Weak.mk ?_) ?_
 ·simp (disch:=omega) only [go_sem,seval,↓reduceIte]
 ·rintro k ⟨hk,hno⟩;refine Zc ?_;refine cD ?_ ?_<;>intro h<;>simp (disch:=omega) only [Sh.out h,go_sem,seval,↓reduceIte]
  ·have hk2:k<s.length:=Za
   refine (Ql l c (nth s k) hl).use (Zc ?_);refine cD ?_ ?_<;>intro h2<;>simp (disch:=omega) only [Sh.out h2,go_sem,seval,↓reduceIte]
   ·grind [Ug,Zt]
   ·exact ⟨k+1,⟨Za,Zs.2 ⟨hno,by simp;omega⟩⟩,Za,wk⟩
  ·have hkl:k=s.length:=Za
   subst hkl
   have:Ug l s=true:=by
    rw [Ug,Zz];intro w hw;obtain ⟨j,hj,rfl⟩:=ZT.1 hw
    grind [Zh]
   rw [this]
theorem mB (a b:Vis):PC 212 [.p (Z9 a),.p (Z9 b)] (.bool (decide (Dk a b<0))):=by
 refine Zd Tryz.func212 rfl Zbh ?_;simp (disch:=omega) only [Tryz.f212,go_sem,seval]
 repeat' (first | (refine gT ?_ ?_<;>intro hq<;>simp (disch:=omega) only [Sh.out hq,go_sem,seval,↓reduceIte]) | (refine gF ?_ ?_<;>intro hq<;>simp (disch:=omega) only [Sh.out hq,go_sem,seval,↓reduceIte]) | (refine UO (fun hq=> ?_) (fun hq=> ?_)<;>(try simp only [Zq,X2,Z2] at hq)<;>simp (disch:=omega) only [Sh.out hq,go_sem,seval]))
 ·simp_all [Dk,Y0]
 ·rename_i h1 h2
  have ha:a.drp=false:=by grind
  cases hb:b.drp<;>simp [Dk,Y0,dn,h2,ha,hb]
 ·grind [Dk,Y0,dn]
 grind [Dk,Y0]
theorem Hm {a b:Int} :Y0 a b=0↔a=b:=by grind [Y0]
theorem zL {a b:Vis} :dn a=dn b↔a.drp=b.drp:=by grind [dn]
theorem Hn {a b:Vis} :Dk a b=0↔a=b:=by
 grind [Dk,DT,Hm,zL]
theorem tJ (a b:List Vis) (c d:Bool) (ha:a.length<=1048576) (hb:b.length<=1048576):PC 178 [.p (.list c (a.map Z9)),.p (.list d (b.map Z9))] (.bool (decide (Bt a b<0))):=by
 refine Zd Tryz.func178 rfl ZaZ ?_;simp (disch:=omega) only [Tryz.f178,go_sem,seval];refine Zm [0,1] (fun k:Nat=> [(5,.p (.int .i64 k))]) (fun _=> []) (fun k=>k<=a.length/\k<=b.length/\Bt a b=Bt (a.drop k) (b.drop k)) (fun k=>a.length-k) 0 Zb (Weak.mk ?_) ?_
 ·simp (disch:=omega) only [go_sem,seval,↓reduceIte]
 ·rintro k ⟨hk,hkb,hle⟩;refine Zc ?_;refine gT ?_ ?_<;>intro h<;>simp (disch:=omega) only [Sh.out h,go_sem,seval,↓reduceIte]
  ·refine cD ?_ ?_<;>intro h2<;>simp (disch:=omega) only [Sh.out h2,go_sem,seval,↓reduceIte]
   ·have hk2:k<a.length:=Za
    have hk3:k<b.length:=Za
    rw [U8 hk2,U8 hk3,Bt] at hle;refine Xo (Zc ?_);refine cD ?_ ?_<;>intro h3<;>simp (disch:=omega) only [Sh.out h3,go_sem,seval,↓reduceIte]
    ·have hne:Dk (nth a k) (nth b k)≠0:=fun e=>by
      grind [Hn]
     refine Xo (Zc ?_);refine Zo (mB (nth a k) (nth b k)) (Zc ?_)
     grind
    ·have e2:nth a k=nth b k:=by
      grind [DT]
     exact ⟨k+1,⟨Za,Za,by simp_all [Hn]⟩,Za,wk⟩
   grind [U8,Bt]
  ·have:a.drop k= []:=Cp Za;rw [hle,this]
   cases hb:b.drop k with
   | nil =>
    have:b.length<=k:=List.drop_eq_nil_iff.1 hb;simp [Bt];omega
   | cons x r =>
    have:k<b.length:=by
     grind
    simp [Bt];omega
theorem aT {S n:Nat} (h:S.testBit n=true):S|||pw n=S:=by
 apply Cu
 grind [Ka]
theorem kU {S n:Nat} (h:S.testBit n=false):S|||pw n=S+pw n:=by
 have e:S%2^(n+1)=S%2^n+2^n*(S / 2^n%2):=Nat.mod_pow_succ;rw [Nat.testBit_eq_decide_div_mod_eq] at h
 have h0:S / 2^n%2=0:=by grind
 rw [h0,Nat.mul_zero,Ub] at e;have hp:0<2^n:=Nat.two_pow_pos n
 have hs:2^(n+1)=2^n+2^n:=Za
 have r1:S%2^(n+1)<2^n:=Za
 have e1:=Nat.two_pow_add_eq_or_of_lt (i:=n) r1 1;have e2:=Nat.two_pow_add_eq_or_of_lt (i:=n+1) (b:=2^n*1+S%2^(n+1)) Za (S / 2^(n+1));have e3:=Nat.two_pow_add_eq_or_of_lt (i:=n+1) (b:=S%2^(n+1)) Za (S / 2^(n+1));have e4:=Nat.div_add_mod S (2^(n+1));rw [pw]
 grind
theorem H6 (r:Rte) (hl:r.visits.length<=1048576):PT 127 [.p (WG r)] [.p (.int .i64 (Q4 r.visits).1),.p (.int .i64 (Q4 r.visits).2)]:=by
 refine Zf [] Tryz.func127 rfl Zaq ?_;simp (disch:=omega) only [Tryz.f127,go_sem,seval];refine Zm [1] (fun k:Nat=> [(4,.p (.int .i64 (Xt (r.visits.take k):Nat))),(5,.p (.int .i64 k))]) (fun _=> [Xu r]) (fun k=>k<=r.visits.length/\ ∀j,j<k->G5 (nth r.visits j)=true) (fun k=>r.visits.length-k) 0 Zb (Weak.mk ?_) ?_
 ·simp (disch:=omega) only [Xu,Xt,Q2,UD,go_sem,seval]
 ·rintro k ⟨hk,hno⟩
  have hlt:=AK k hk fun v hv=>by
   obtain ⟨j,hj,rfl⟩:=ZT.1 hv
   grind [Zh]
  simp (disch:=omega) only [Xu,go_sem,seval];refine cD ?_ ?_<;>intro h<;>simp (disch:=omega) only [Sh.out h,go_sem,seval,↓reduceIte]
  ·have hk2:k<r.visits.length:=Za
   have hbad:G5 (nth r.visits k)=false->Q4 r.visits=(0,2):=fun h4=>by
    grind [Zt,Q4]
   have hs:=DA hk2
   have hp:(nth r.visits k).order<=62->pw (nth r.visits k).order.toNat<=4611686018427387904:=fun h=>by rw [<- F6];exact Kh Za
   refine gF ?_ ?_<;>intro h1<;>simp (disch:=omega) only [Sh.out h1,go_sem,seval,↓reduceIte]
   ·have e:=hbad (by simp [G5];omega);rw [e];exact we
   ·refine cD ?_ ?_<;>intro h2<;>simp (disch:=omega) only [Sh.out h2,go_sem,seval]
    ·have e:=hbad (by simp [G5];omega);rw [e];exact we
    ·have h4:=hp Za;refine (Js (Xt (r.visits.take k)) (nth r.visits k).order hlt).use (Zc ?_)
     have hin:0<=(nth r.visits k).order/\(nth r.visits k).order<=62:=Za
     have hnh:nHas (Xt (r.visits.take k)) (nth r.visits k).order=(Xt (r.visits.take k)).testBit (nth r.visits k).order.toNat:=by simp [nHas,hin]
     rw [hnh];have hno2:=(Zs (p:=fun j=>G5 (nth r.visits j)=true)).2 ⟨hno,by simp [G5];omega⟩
     have hlt2:=AK (k+1) hk2 fun v hv=>by
      obtain ⟨j,hj,rfl⟩:=ZT.1 hv
      grind [Zh]
     refine ZO ?_ ?_<;>intro h5
     ·have h6:(Xt (r.visits.take k)).testBit (nth r.visits k).order.toNat=false:=by grind
      rw [kU h6] at hs;rw [hs] at hlt2;exact ⟨k+1,⟨Za,hno2⟩,Za,Weak.mk (by simp (disch:=omega) only [hs,Int.natCast_add,go_sem,seval])⟩
     ·have h6:(Xt (r.visits.take k)).testBit (nth r.visits k).order.toNat=true:=by grind
      rw [aT h6] at hs;exact ⟨k+1,⟨Za,hno2⟩,Za,Weak.mk (by simp (disch:=omega) only [hs,go_sem,seval])⟩
  ·have hkl:k=r.visits.length:=Za
   subst hkl
   have:r.visits.all G5=true:=by
    rw [Zz];intro v hv;obtain ⟨j,hj,rfl⟩:=ZT.1 hv
    grind [Zh]
   have e:Q4 r.visits=(((Xt r.visits:Nat):Int),0):=by simp [Q4,this]
   rw [e,YV];exact we
def Plc (x:Inst):Prop:= ∀o∈x.orders,-1<=o.pick.place/\ -1<=o.drp.place
theorem uO {l:List Vis} {v w:Vis} (h:vIx l v=vIx l w) (h0:0<=vIx l v):v=w:=by
 unfold vIx Hu at h h0
 cases hv:l.findIdx? (fun u=>decide (v=u)) with
 | none=>grind
 | some i =>
  grind [Uy]
theorem Kb (os:List Ord) (i:Nat):ZV os i= []\/ZV os i= [⟨i,false⟩]\/ZV os i= [⟨i,true⟩]\/ZV os i= [⟨i,false⟩,⟨i,true⟩]:=by
 grind [ZV]
theorem lF {l own:List Vis} (ho:own= []\/(∃v,own= [v])\/ ∃v w,own= [v,w]/\v≠w) :
  QQ l (-1) own=(Ug l own&& !(decide (own.length=2)&&decide (vIx l (nth own 1)<vIx l (nth own 0)))):=by
 rcases ho with rfl | ⟨v,rfl⟩ | ⟨v,w,rfl,hne⟩
 ·rfl
 ·grind [QQ,Ug]
 ·have hne2:0<=vIx l v->vIx l v≠vIx l w:=fun h0 h=>hne (uO h h0);have h1:= @nJ l v;have h2:= @nJ l w;rw [Wq];simp [QQ,Ug,nth];omega
theorem Oi (os:List Ord) (i:Nat):ZV os i= []\/(∃v,ZV os i= [v])\/ ∃v w,ZV os i= [v,w]/\v≠w:=by
 grind [Kb]
theorem E8 {α:Type} [Inhabited α] {l:List α} {f:α->Bool} {k:Nat} (hk:k<l.length) (h:f (nth l k)=false):l.all f=false:=by
 grind [Zt]
theorem Iz {α:Type} [Inhabited α] {l:List α} {f:α->Bool} (h: ∀j,j<l.length->f (nth l j)=true):l.all f=true:=by
 rw [Zz];intro v hv;obtain ⟨j,hj,rfl⟩:=ZT.1 hv
 grind [Zh]
theorem bP (x:Inst) (l:List Vis) (c:Bool) (hl:l.length<=1048576) (ho:x.orders.length<=1048576) (hp:Plc x) (hv: ∀v∈l,0<=v.order/\v.order<x.orders.length) :
  PC 135 [.p (Zv x),.p (.list c (l.map Z9))] (.bool (l.all (pairB x.orders l))):=by
 refine Zd Tryz.func135 rfl Zay ?_;simp (disch:=omega) only [Tryz.f135,go_sem,seval];refine Zm [1,2] (fun k:Nat=> [(5,.p (.int .i64 k))]) (fun _=> [Zj x]) (fun k=>k<=l.length/\ ∀j,j<k->pairB x.orders l (nth l j)=true) (fun k=>l.length-k) 0 Zb (Weak.mk ?_) ?_
 ·simp (disch:=omega) only [Zj,go_sem,seval]
 ·rintro k ⟨hk,hno⟩;refine Ye ?_;refine cD ?_ ?_<;>intro h<;>simp (disch:=omega) only [Sh.out h,go_sem,seval,↓reduceIte]
  ·have hk2:k<l.length:=Za
   obtain ⟨v1,v2⟩:=hv _ (Zt hk2);obtain ⟨i,hi⟩: ∃i:Nat,(nth l k).order=(i:Int):=⟨(nth l k).order.toNat,Za⟩;rw [hi] at v1 v2
   have hpb:pairB x.orders l (nth l k)=(decide (0<=vIx (ZV x.orders i) (nth l k))&&QQ l (-1) (ZV x.orders i)):=by rw [pairB,hi];rfl
   have hown:=Oi x.orders i;rw [lF hown] at hpb;refine Xo ?_;simp (disch:=omega) only [hi,go_sem,seval];refine Zo (DJ x i Za ho hp) (Zc ?_);have hvl:=WT x.orders i;generalize ZV x.orders i=own at hvl hpb;have hix:=Ql own false (nth l k) Za;rw [RH,hi] at hix;refine Xo ?_;simp (disch:=omega) only [hi,go_sem,seval];refine Zo (hix) (Zc ?_);refine gF ?_ ?_<;>intro h2<;>simp (disch:=omega) only [Sh.out h2,go_sem,seval]
   ·grind [E8]
   ·have h3:0<=vIx own (nth l k):=Za
    have hgo:pairB x.orders l (nth l k)=true-> ∀j,j<k+1->pairB x.orders l (nth l j)=true:=fun e=>Zs.2 ⟨hno,e⟩;refine Zo (D6 l own c false hl Za) (Zc ?_);refine gF ?_ ?_<;>intro h4<;>simp (disch:=omega) only [Sh.out h4,go_sem,seval]
    ·grind [E8]
    ·have h5:Ug l own=true:=by grind
     rw [h5] at hpb;refine QS ?_ ?_<;>intro h6
     ·have h7:own.length=2:=Za
      refine Zo (Ql l c (nth own 0) hl) (Zc ?_);refine Zo (Ql l c (nth own 1) hl) (Zc ?_);refine ZO ?_ ?_<;>intro h8
      ·grind [E8]
      ·exact ⟨k+1,⟨Za,hgo (by grind)⟩,Za,wk⟩
     ·exact ⟨k+1,⟨Za,hgo (by grind)⟩,Za,wk⟩
  grind [Iz]
def apB (x:Inst) (S:Nat):Bool:=x.apart.any fun p=>nHas S p.1&&nHas S p.2
theorem lV (x:Inst) (S:Nat) (hS:S<9223372036854775808) (ha:x.apart.length<=1048576):PC 136 [.p (Zv x),.p (.int .i64 (S:Nat))] (.bool (!apB x S)):=by
 refine Zd Tryz.func136 rfl Zaz ?_;simp (disch:=omega) only [Tryz.f136,go_sem,seval];refine Zm [1,2] (fun k:Nat=> [(5,.p (.int .i64 k))]) (fun _=> [Zj x]) (fun k=>k<=x.apart.length/\ ∀j,j<k->(nHas S (nth x.apart j).1&&nHas S (nth x.apart j).2)=false) (fun k=>x.apart.length-k) 0 Zb (Weak.mk ?_) ?_
 ·simp (disch:=omega) only [Zj,go_sem,seval]
 ·rintro k ⟨hk,hno⟩;refine Ye ?_;refine cD ?_ ?_<;>intro h<;>simp (disch:=omega) only [Sh.out h,go_sem,seval,↓reduceIte]
  ·have hk2:k<x.apart.length:=Za
   refine (Js S (nth x.apart k).1 hS).use (Zc ?_);refine QS ?_ ?_<;>intro h2
   ·refine (Js S (nth x.apart k).2 hS).use (Zc ?_);refine ZO ?_ ?_<;>intro h3
    ·grind [apB,Vz]
    ·exact ⟨k+1,⟨Za,Zs.2 ⟨hno,by grind⟩⟩,Za,wk⟩
   ·exact ⟨k+1,⟨Za,Zs.2 ⟨hno,by rw [h2];rfl⟩⟩,Za,wk⟩
  grind [apB,QO]
def Kf (l:List Vis) (a b:Int) (j k:Nat):Bool:=decide ((nth l j).order=a)&&decide ((nth l k).order=b)
def QF (S:Nat) (l:List Vis) (p:Int×Int):Bool:= !nHas S p.2||(nHas S p.1&&(List.range l.length).all fun j=>(List.range j).all fun k=> !Kf l p.1 p.2 j k)
theorem bG (x:Inst) (S:Nat) (l:List Vis) (c:Bool) (hS:S<9223372036854775808) (hl:l.length<=1048576) (hb:x.before.length<=1048576):PC 137 [.p (Zv x),.p (.int .i64 (S:Nat)),.p (.list c (l.map Z9))] (.bool (x.before.all (QF S l))):=by
 refine Zd Tryz.func137 rfl ZaA ?_;simp (disch:=omega) only [Tryz.f137,go_sem,seval];refine Zm [1,2,3] (fun k:Nat=> [(7,.p (.int .i64 k))]) (fun _=> [Zj x]) (fun k=>k<=x.before.length/\ ∀j,j<k->QF S l (nth x.before j)=true) (fun k=>x.before.length-k) 0 Zb (Weak.mk ?_) ?_
 ·simp (disch:=omega) only [Zj,go_sem,seval]
 ·rintro i ⟨hi,hno⟩;refine Ye ?_;refine cD ?_ ?_<;>intro h<;>simp (disch:=omega) only [Sh.out h,go_sem,seval,↓reduceIte]
  ·have hi2:i<x.before.length:=Za
   have hgo:QF S l (nth x.before i)=true-> ∀j,j<i+1->QF S l (nth x.before j)=true:=fun e=>Zs.2 ⟨hno,e⟩;have hbad:QF S l (nth x.before i)=false->x.before.all (QF S l)=false:=fun e=>E8 hi2 e;have hdef:QF S l (nth x.before i)=(!nHas S (nth x.before i).2||(nHas S (nth x.before i).1&&(List.range l.length).all fun j=>(List.range j).all fun k=> !Kf l (nth x.before i).1 (nth x.before i).2 j k)):=rfl;generalize QF S l (nth x.before i)=R at hgo hbad hdef;generalize nth x.before i=p at hdef ⊢;refine (Js S p.2 hS).use (Zc ?_)
   refine ZO ?_ ?_<;>intro h2
   ·have h3:nHas S p.2=false:=by grind
    exact ⟨i+1,⟨Za,hgo (by grind)⟩,Za,wk⟩
   ·have h3:nHas S p.2=true:=by grind
    refine (Js S p.1 hS).use (Zc ?_);refine cD ?_ ?_<;>intro h4<;>simp (disch:=omega) only [Sh.out h4,go_sem,seval]
    ·grind
    ·have h5:nHas S p.1=true:=by grind
     rw [h3,h5] at hdef;simp only [YD,Bool.false_or,VK] at hdef;refine Zm [1,2,3,7,8,9] (fun k:Nat=> [(10,.p (.int .i64 k))]) (fun _=> [Zj x]) (fun k=>k<=l.length/\ ∀j,j<k-> ∀q,q<j->Kf l p.1 p.2 j q=false) (fun k=>l.length-k) 0 Zb (Weak.mk ?_) ?_
     ·simp (disch:=omega) only [Zj,go_sem,seval]
     ·rintro j ⟨hj,hnj⟩;refine Ye ?_;refine ZO ?_ ?_<;>intro h6
      ·have hj2:j<l.length:=Za
       refine Zm [1,2,3,7,8,9,10] (fun k:Nat=> [(11,.p (.int .i64 k))]) (fun _=> [Zj x]) (fun k=>k<=j/\ ∀q,q<k->Kf l p.1 p.2 j q=false) (fun k=>j-k) 0 Zb (Weak.mk ?_) ?_
       ·simp (disch:=omega) only [Zj,go_sem,seval]
       ·rintro k ⟨hk,hnk⟩;refine Ye ?_;refine ZO ?_ ?_<;>intro h7
        ·have hk2:k<j:=Za
         refine QS ?_ ?_<;>intro h8
         ·refine ZO ?_ ?_<;>intro h9
          ·rw [hbad (by
            rw [hdef,List.all_eq_false];refine ⟨j,by grind,?_⟩;rw [UB,List.all_eq_false]
            exact ⟨k,by grind,by simp [Kf,h8,h9]⟩)]
          ·exact ⟨k+1,⟨Za,Zs.2 ⟨hnk,by simp [Kf,h9]⟩⟩,Za,wk⟩
         ·exact ⟨k+1,⟨Za,Zs.2 ⟨hnk,by simp [Kf,h8]⟩⟩,Za,wk⟩
        ·have hkl:k=j:=Za
         subst hkl;exact ⟨k+1,⟨Za,(Zs (p:=fun j=> ∀q,q<j->Kf l p.1 p.2 j q=false)).2 ⟨hnj,hnk⟩⟩,Za,wk⟩
      ·have hjl:j=l.length:=Za
       subst hjl;refine ⟨i+1,⟨Za,hgo ?_⟩,Za,wk⟩
       grind
  grind [Iz]
theorem mE (x:Inst) (i:Nat) (l:List Vis) (c:Bool) (hl:l.length<=1048576) (ho:x.orders.length<=1048576) (hbl:x.before.length<=1048576) (hp:Plc x) (hb: ∀p∈x.before,0<=p.1/\p.1<x.orders.length) (hi:i<=1048576) :
  PC 176 [.p (Zv x),.p (.int .i64 (i:Nat)),.p (.list c (l.map Z9))] (.bool (x.before.all (Ks x.orders l (i:Int)))):=by
 refine Zd Tryz.func176 rfl ZaX ?_;simp (disch:=omega) only [Tryz.f176,go_sem,seval];refine Zm [1,2,3] (fun k:Nat=> [(7,.p (.int .i64 k))]) (fun _=> [Zj x]) (fun k=>k<=x.before.length/\ ∀j,j<k->Ks x.orders l (i:Int) (nth x.before j)=true) (fun k=>x.before.length-k) 0 Zb (Weak.mk ?_) ?_
 ·simp (disch:=omega) only [Zj,go_sem,seval]
 ·rintro k ⟨hk,hno⟩;refine Ye ?_;refine cD ?_ ?_<;>intro h<;>simp (disch:=omega) only [Sh.out h,go_sem,seval,↓reduceIte]
  ·have hk2:k<x.before.length:=Za
   obtain ⟨b1,b2⟩:=hb _ (Zt hk2);obtain ⟨a,hao⟩: ∃a:Nat,(nth x.before k).1=(a:Int):=⟨(nth x.before k).1.toNat,Za⟩;have hva:=DJ x a Za ho hp;rw [<- hao] at hva
   have hdef:Ks x.orders l (i:Int) (nth x.before k)=(decide ((nth x.before k).2≠(i:Int))||Ug l (ZV x.orders a)):=by rw [Ks,hao];rfl
   refine QS ?_ ?_<;>intro h2
   ·refine gF ?_ ?_<;>intro h3<;>simp (disch:=omega) only [Sh.out h3,go_sem,seval,↓reduceIte]
    ·omega
    ·refine gF ?_ ?_<;>intro h4<;>simp (disch:=omega) only [Sh.out h4,go_sem,seval,↓reduceIte]
     ·omega
     ·refine (hva).use (Zc ?_);have hvl:=WT x.orders a;refine (D6 l (ZV x.orders a) c false hl Za).use (Zc ?_);refine ZO ?_ ?_<;>intro h5
      ·grind [E8]
      ·have h6:Ug l (ZV x.orders a)=true:=by grind
       exact ⟨k+1,⟨Za,Zs.2 ⟨hno,by grind⟩⟩,Za,wk⟩
   ·exact ⟨k+1,⟨Za,Zs.2 ⟨hno,by grind⟩⟩,Za,wk⟩
  grind [Iz]
theorem LO (S:Nat) (i:Int):sHas (S:Int) i=nHas S i:=by
 by_cases h:0<=i/\i<=62
 ·obtain ⟨k,rfl⟩: ∃k:Nat,i=(k:Int):=⟨i.toNat,Za⟩
  grind [WQ,Np]
 ·have h2:nHas S i=false:=by simp only [nHas,h,JT,Qx]
  grind [sHas]
theorem FQ {S:Nat} {i:Int} :nHas S i=true↔0<=i/\i<=62/\S.testBit i.toNat=true:=by simp [nHas,and_assoc]
theorem OY {S n i:Nat} (h:S / pw n=0) (hi:S.testBit i=true):i<n:=by
 rcases Wr i n with h2 | h2
 ·exact h2
 ·have h3:S<2^n:=by
   have:=(Nat.div_eq_zero_iff).1 h;rcases this with h4 | h4
   ·grind [F7]
   ·exact h4
  grind [Uz,Yt,Ao]
theorem Jn {S:Nat} {a:Int} :a∈X3 (S:Int) 63↔ ∃i:Nat,a=(i:Int)/\i<63/\S.testBit i=true:=by
 simp only [X3,XQ,QA,ZL]
 constructor
 ·rintro ⟨i,⟨h1,h2⟩,rfl⟩;rw [WQ S i Za] at h2
  grind
 ·rintro ⟨i,rfl,h1,h2⟩;exact ⟨i,⟨h1,by grind [WQ]⟩,rfl⟩
structure Alw (x:Inst) (S:Nat):Prop where
 off: ∀i,i<x.orders.length->S.testBit i=true->(nth x.orders i).off=false
 apart:apB x S=false
 closed: ∀p∈x.before,nHas S p.2=true->nHas S p.1=true
 acyc: ∀i,i<x.orders.length->S.testBit i=true-> ¬Ch x.before i i
theorem VG {c:Prop} [Decidable c] {a b:Int} (ha:a≠0):(if c then a else b)=0↔ ¬c/\b=0:=by
 grind
theorem Qt {x:Inst} {S:Nat} (hn:x.orders.length<=60) (hS:S / pw x.orders.length=0) (hv:Val x.orders.length x.before):Wx x.orders x.apart x.before (S:Int)=0↔Alw x S:=by
 have hlt: ∀i,S.testBit i=true->i<x.orders.length:=fun i h=>OY hS h
 have e0: ¬(S:Int)<0:=Za
 unfold Wx;rw [if_neg e0,VG Za,VG Za,VG Za,VG Za,VG Za];simp only [and_true]
 constructor
 ·rintro ⟨_,h2,h3,h4,h5⟩;simp only [UB] at h2 h3 h4 h5;rw [Vg] at h2 h4 h5;refine ⟨fun i hi hb=> ?_,?_,fun p hp hb=> ?_,fun i hi hb hc=> ?_⟩
  ·have:=h2 (i:Int) (Jn.2 ⟨i,rfl,Za,hb⟩)
   grind
  ·grind [apB,LO]
  ·have:=h4 p hp
   simp_all [LO]
  ·have:=h5 (i:Int) (Jn.2 ⟨i,rfl,Za,hb⟩)
   grind [WQ,UZ]
 ·rintro ⟨h1,h2,h3,h4⟩;refine ⟨?_,?_,?_,?_,?_⟩
  ·simp only [UB];rw [Vg];intro a ha;obtain ⟨i,rfl,h5,h6⟩:=Jn.1 ha
   grind
  ·simp only [UB];rw [Vg];intro a ha;obtain ⟨i,rfl,h5,h6⟩:=Jn.1 ha
   grind
  ·simp only [LO,UB];exact h2
  ·simp only [UB]
   grind [LO]
  ·simp only [UB];rw [Vg];intro a ha;obtain ⟨i,rfl,h5,h6⟩:=Jn.1 ha
   grind [WQ,UZ]
theorem Hv {f g:Nat->Bool} {b:Nat} : ∀(l:List Nat),(∀a,f a=true->g a=true)->f b=false->g b=true->b∈l->(l.filter f).length<(l.filter g).length
 | [],_,_,_,h=>by simp at h
 | x::l,hfg,hf,hg,h=>by
  have hle: ∀l:List Nat,(l.filter f).length<=(l.filter g).length:=by
   intro l
   induction l with
   | nil=>simp
   | cons y l ih =>
    grind
  simp only [Cv];rcases Z5.1 h with rfl | h
  ·grind
  ·have:=Hv l hfg hf hg h
   grind
theorem Pd {n:Nat} {be:List (Int×Int)} (hv:Val n be) {P:Nat->Prop} (hP: ∀i,P i->i<n/\ ¬Ch be i i) {i:Nat} (hi:P i): ∃i,P i/\ ∀p∈be,p.2=(i:Int)-> ¬P p.1.toNat:=by
 suffices h: ∀(k i:Nat),P i->((List.range n).filter fun a=>(nth (Kc n be) i).testBit a).length<k-> ∃i,P i/\ ∀p∈be,p.2=(i:Int)-> ¬P p.1.toNat from h _ i hi (Nat.lt_succ_self _)
 intro k
 induction k with
 | zero=>omega
 | succ k ih =>
  intro i hi hk
  by_cases h: ∃p∈be,p.2=(i:Int)/\P p.1.toNat
  ·obtain ⟨p,hp,h1,h2⟩:=h;obtain ⟨v1,v2,v3,v4⟩:=hv p hp;have hE:Ed be p.1.toNat i:=⟨p,hp,Za,h1⟩;refine ih p.1.toNat h2 (Uz (Hv (b:=p.1.toNat) _ (fun a ha=> ?_) ?_ ?_ ?_) (by omega:((List.range n).filter fun a=>(nth (Kc n be) i).testBit a).length<=k))
   ·exact (UZ hv a i (hP i hi).1).2 (((UZ hv a _ (hP _ h2).1).1 ha).more hE)
   ·grind [UZ]
   ·exact (UZ hv _ i (hP i hi).1).2 (.one hE)
   grind
  grind
theorem WB {l:List Vis} {v:Vis} :0<=vIx l v↔v∈l:=by
 grind [Pe,vIx]
theorem Zdq {l:List Vis} {v:Vis} :vIx l v<0↔v ∉ l:=by rw [<- WB];omega
theorem Tc {l own:List Vis} :Ug l own=true↔ ∀w∈own,w∈l:=by
 grind [Ug,WB]
theorem eX {os:List Ord} {l:List Vis} {o:Int} {p:Int×Int} :Ks os l o p=true↔(p.2=o-> ∀w∈ZV os p.1.toNat,w∈l):=by
 rw [Ks,Vh,Tc,Zq]
 grind
theorem eY {x:Inst} {l:List Vis} {o:Int} :x.before.all (Ks x.orders l o)=true↔ ∀p∈x.before,p.2=o-> ∀w∈ZV x.orders p.1.toNat,w∈l:=by
 simp_all [eX]
def Vne (x:Inst):Prop:= ∀i,i<x.orders.length->ZV x.orders i≠ []
theorem lN {l own:List Vis} (ho:own= []\/(∃v,own= [v])\/ ∃v w,own= [v,w]/\v≠w) {k:Nat} (hk:k<own.length):Km l (nth own k) own=(decide (k=0)||decide (0<=vIx l (nth own 0))):=by
 rcases ho with rfl | ⟨v,rfl⟩ | ⟨v,w,rfl,hne⟩
 ·simp at hk
 ·grind [Km,nth]
 ·have:k=0\/k=1:=by grind
  rcases this with rfl | rfl
  ·simp [Km,nth]
  grind [Km,nth]
theorem bM (x:Inst) (S:Nat) (l:List Vis) (c:Bool) (hS:S<9223372036854775808) (hl:l.length<=1048576) (ho:x.orders.length<=60) (hbl:x.before.length<=1048576) (hp:Plc x) (hb: ∀p∈x.before,0<=p.1/\p.1<x.orders.length) :
  ACalls Tryz.prog 126 [.p (Zv x),.p (.int .i64 (S:Nat)),.p (.list c (l.map Z9))] [] fun y H'=> ∃m:List Vis,m=nextU x S l x.orders.length/\y= .sl 0 0 m.length m.length/\H'= [.elems 2 (m.map Z9)]:=by
 refine ZW [2] Tryz.func126 rfl Zap ?_;simp (disch:=omega) only [Tryz.f126,go_sem,seval];refine Zp (Weak.ofNil 7 2 (by simp (disch:=omega) only [go_sem,seval]) Zb (Weak.refl _ _ _)) ?_;refine Zg [] _ _ _ _ (Zc ?_);refine Zm [1,2,3] (fun q:Nat×List Vis=> [(7,.sl 1 0 q.2.length q.2.length),(8,.p (.int .i64 q.1))]) (fun q=> [Zj x,.elems 2 (q.2.map Z9)]) (fun q=>q.1<=x.orders.length/\q.2=nextU x S l q.1) (fun q=>x.orders.length-q.1) (0,[]) ⟨Zb,by simp [nextU]⟩ (Weak.mk ?_) ?_
 ·simp (disch:=omega) only [Zj,go_sem,seval]
 ·rintro ⟨i,m⟩ ⟨hi,hm⟩;simp only at hi hm
  have hml:m.length<=2*i:=by grind [Jq]
  have hsc:=Bv x S l i;refine Ye ?_;refine cD ?_ ?_<;>intro h<;>simp (disch:=omega) only [Sh.out h,go_sem,seval,↓reduceIte]
  ·have hi2:i<x.orders.length:=Za
   have hskip:Ul x S l i= []->(i+1,m).2=nextU x S l (i+1):=fun e=>by grind
   refine (Js S (i:Int) hS).use (Zc ?_);rw [Np Za];refine IW ?_ ?_<;>intro h2
   ·have hbit:S.testBit i=false:=by grind
    exact ⟨(i+1,m),⟨Za,hskip (by simp [Ul,hbit])⟩,Za,wk⟩
   ·have hbit:S.testBit i=true:=by grind
    refine IW ?_ ?_<;>intro h3
    ·exact ⟨(i+1,m),⟨Za,hskip (by simp [Ul,h3])⟩,Za,wk⟩
    ·have e:Ul x S l i=(ZV x.orders i).filter (YX x l):=by grind [Ul]
     refine (mE x i l c hl Za hbl hp hb Za).use (Zc ?_);refine ZO ?_ ?_<;>intro h4
     ·have h5:x.before.all (Ks x.orders l (i:Int))=false:=by grind
      refine ⟨(i+1,m),⟨Za,hskip ?_⟩,Za,wk⟩
      grind [List.filter_eq_nil_iff,YX,Yd]
     ·have h5:x.before.all (Ks x.orders l (i:Int))=true:=by grind
      refine (DJ x i hi2 Za hp).use (Zc ?_);have hvl:=WT x.orders i;have hvo: ∀v∈ZV x.orders i,v.order=i:=fun v hv=>Yd hv;have htwo:=Oi x.orders i
      have hrd: ∀k,k<(ZV x.orders i).length->YX x l (nth (ZV x.orders i) k)=(decide (vIx l (nth (ZV x.orders i) k)<0)&&(decide (k=0)||decide (0<=vIx l (nth (ZV x.orders i) 0)))):=fun k hk=>by
       simp_all [YX,Zt,lN]
      generalize hown:ZV x.orders i=own at hvl e hvo hrd ⊢;refine Zm [1,2,3,8,9] (fun q:Nat×List Vis=> [(7,.sl 1 0 q.2.length q.2.length),(10,.p (.int .i64 q.1))]) (fun q=> [Zj x,.elems 2 (q.2.map Z9)]) (fun q=>q.1<=own.length/\q.2=m++(own.take q.1).filter (YX x l)) (fun q=>own.length-q.1) (0,m) ⟨Zb,Zb⟩ (Weak.mk ?_) ?_
      ·simp (disch:=omega) only [Zj,go_sem,seval]
      ·rintro ⟨j,m2⟩ ⟨hj,hm2⟩;simp only at hj hm2
       have hm2l:m2.length<=2*i+2:=by
        grind
       refine Ye ?_;refine ZO ?_ ?_<;>intro h6
       ·have hj2:j<own.length:=Za
        have htk:own.take (j+1)=own.take j++ [nth own j]:=by rw [Yb hj2,Zh hj2]
        have hr:=hrd j hj2
        have hyes:YX x l (nth own j)=true->((j+1,m2++ [nth own j]):Nat×List Vis).2=m++(own.take (j+1)).filter (YX x l):=fun h7=>by
         grind
        have hno:YX x l (nth own j)=false->((j+1,m2):Nat×List Vis).2=m++(own.take (j+1)).filter (YX x l):=fun h7=>by
         grind
        refine (Ql l c (nth own j) hl).use (Zc ?_);refine QS ?_ ?_<;>intro h7
        ·refine IW ?_ ?_<;>intro h8
         ·exact ⟨(j+1,m2++ [nth own j]),⟨Za,hyes (by grind)⟩,Za,wk⟩
         ·refine (Ql l c (nth own 0) hl).use (Zc ?_);refine ZO ?_ ?_<;>intro h9
          ·exact ⟨(j+1,m2++ [nth own j]),⟨Za,hyes (by grind)⟩,Za,wk⟩
          ·exact ⟨(j+1,m2),⟨Za,hno (by grind)⟩,Za,wk⟩
        ·exact ⟨(j+1,m2),⟨Za,hno (by grind)⟩,Za,wk⟩
       ·have hjl:j=own.length:=Za
        subst hjl;exact ⟨(i+1,m2),⟨Za,by grind⟩,Za,wk⟩
  ·have hkn:i=x.orders.length:=Za
   subst hkn;exact ⟨m,hm,1,by simp (disch:=omega) only [go_sem,seval]⟩
theorem SB (x:Inst) (S:Nat) (l:List Vis) (c:Bool) (hS:S<9223372036854775808) (hl:l.length<=1048576) (ho:x.orders.length<=60) (hbl:x.before.length<=1048576) (hp:Plc x) (hb: ∀p∈x.before,0<=p.1/\p.1<x.orders.length) :
  PC 126 [.p (Zv x),.p (.int .i64 (S:Nat)),.p (.list c (l.map Z9))] (.list false ((nextU x S l x.orders.length).map Z9)) :=
 ACalls.frozen (S:=2) (n:=(nextU x S l x.orders.length).length) Zb ((bM x S l c hS hl ho hbl hp hb).mono fun y H' ⟨m,hm,h1,h2⟩=>by grind)
inductive Gr (x:Inst) (S:Nat):List Vis->Prop where
 | nil:Gr x S []
 | snoc {l:List Vis} {v:Vis} (h:Gr x S l) (hv:v∈nextU x S l x.orders.length):Gr x S (l++ [v])
theorem P9 (os:List Ord) (i:Nat):(ZV os i).Nodup:=by
 grind [Kb]
theorem lM {os:List Ord} {i:Nat} {l:List Vis} {v:Vis} (hv:v∈ZV os i):Km l v (ZV os i)=true↔(v.drp=true->⟨i,false⟩∈ZV os i->⟨i,false⟩∈l):=by
 rcases Kb os i with h | h | h | h<;>rw [h] at hv ⊢ <;>simp at hv
 ·grind [Km]
 ·grind [Km]
 ·rcases hv with rfl | rfl
  ·simp [Km]
  ·simp [Km,WB]
theorem Vk {x:Inst} {l:List Vis} {v:Vis} {i:Nat} (hv:v∈ZV x.orders i):YX x l v=true↔v ∉ l/\(v.drp=true->⟨i,false⟩∈ZV x.orders i->⟨i,false⟩∈l)/\ ∀p∈x.before,p.2=(i:Int)-> ∀w∈ZV x.orders p.1.toNat,w∈l:=by
 have h:=Yd hv;rw [YX,h,XO,ZB,ZB,Zq,Zdq,lM hv,eY,and_assoc]
theorem VL {x:Inst} {S:Nat} {l:List Vis} {v:Vis} {k:Nat} :v∈nextU x S l k↔ ∃i,i<k/\S.testBit i=true/\(nth x.orders i).off=false/\v∈ZV x.orders i/\YX x l v=true:=by
 rw [nextU,XU]
 constructor
 ·grind [Ul]
 ·rintro ⟨i,hi,h1,h2,h3,h4⟩;exact ⟨i,by grind,by simp_all [Ul]⟩
def Bh (x:Inst) (S k:Nat):List Vis:=(List.range k).flatMap fun i=>if S.testBit i=true then ZV x.orders i else []
theorem Hd (x S k):Bh x S (k+1)=Bh x S k++if S.testBit k=true then ZV x.orders k else []:=by simp [Bh,Yu]
theorem Jc (x S): ∀k,(Bh x S k).length=K3 x S k
 | 0=>by rfl
 | k+1=>by
  rw [Hd,AW,ZH,Jc x S k]
  split<;>simp
theorem WM {x S k v} :v∈Bh x S k↔ ∃i,i<k/\S.testBit i=true/\v∈ZV x.orders i:=by
 simp_all [Bh]
theorem Bi (x S): ∀k,(Bh x S k).Nodup
 | 0=>by simp [Bh]
 | k+1=>by
  rw [Hd,Cw];refine ⟨Bi x S k,?_,fun a ha b hb=> ?_⟩
  ·grind [P9]
  ·obtain ⟨i,hi,_,h2⟩:=WM.1 ha
   split at hb
   ·have h3:=Yd h2;have h4:=Yd hb
    grind
   ·simp at hb
theorem Gr.nodup {x S l} (h:Gr x S l):l.Nodup:=by
 induction h with
 | nil=>simp
 | snoc _ hv ih =>
  obtain ⟨i,_,_,_,h4,h5⟩:=VL.1 hv;rw [Cw];refine ⟨ih,Zb,fun a ha b hb=> ?_⟩;simp at hb;subst hb;exact fun e=>((Vk h4).1 h5).1 (e ▸ ha)
theorem Gr.sub {x S l} (h:Gr x S l): ∀v∈l,v∈Bh x S x.orders.length:=by
 induction h with
 | nil=>simp
 | snoc _ hv ih =>
  obtain ⟨i,h1,h2,_,h4,_⟩:=VL.1 hv;intro w hw;rcases Xd.1 hw with hw | hw
  ·exact ih w hw
  ·simp at hw;subst hw;exact WM.2 ⟨i,h1,h2,h4⟩
theorem EV {α:Type} [DecidableEq α] {l m:List α} (hl:l.Nodup) (h: ∀v∈l,v∈m):l.length<=m.length:=List.Nodup.length_le_of_subset hl h
theorem Zdf {α:Type} [DecidableEq α] {l m:List α} (hl:l.Nodup) (h: ∀v∈l,v∈m) (hm:m.length<=l.length): ∀v∈m,v∈l:=fun v hv=>by
 refine JW fun hno=> ?_
 have:(v::l).length<=m.length:=EV (by grind) (fun w hw=>by
  grind)
 grind
theorem Gr.len {x S l} (h:Gr x S l):l.length<=K3 x S x.orders.length:=by
 rw [<- Jc];exact EV h.nodup h.sub
theorem Gr.full {x S l} (h:Gr x S l) (hl:l.length=K3 x S x.orders.length): ∀v∈Bh x S x.orders.length,v∈l:=Zdf h.nodup h.sub (by rw [Jc];omega)
theorem Gr.more {x S l} (ha:Alw x S) (hn:x.orders.length<=60) (hv:Val x.orders.length x.before) (hm: ∃v∈Bh x S x.orders.length,v ∉ l): ∃v,v∈nextU x S l x.orders.length:=by
 obtain ⟨v,hva,hvl⟩:=hm;obtain ⟨i,h1,h2,h3⟩:=WM.1 hva;obtain ⟨j,⟨j1,j2,w,j3,j4⟩,hj⟩:=Pd hv (P:=fun i=>i<x.orders.length/\S.testBit i=true/\ ∃w∈ZV x.orders i,w ∉ l) (fun i hi=>⟨hi.1,ha.acyc i hi.1 hi.2.1⟩) ⟨h1,h2,v,h3,hvl⟩
 have hpre: ∀p∈x.before,p.2=(j:Int)-> ∀w∈ZV x.orders p.1.toNat,w∈l:=fun p hp e w hw=>by
  refine JW fun hno=> ?_;obtain ⟨v1,v2,v3,v4⟩:=hv p hp;have:=ha.closed p hp (FQ.2 ⟨Za,Za,by grind⟩);exact hj p hp e ⟨Za,(FQ.1 this).2.2,w,hw,hno⟩
 by_cases hf:(⟨j,false⟩:Vis)∈ZV x.orders j/\(⟨j,false⟩:Vis) ∉ l
 ·exact ⟨⟨j,false⟩,VL.2 ⟨j,j1,j2,ha.off j j1 j2,hf.1,(Vk hf.1).2 ⟨hf.2,Zb,hpre⟩⟩⟩
 ·refine ⟨w,VL.2 ⟨j,j1,j2,ha.off j j1 j2,j3,(Vk j3).2 ⟨j4,fun _ hq=> ?_,hpre⟩⟩⟩
  grind
theorem Gr.next_nil {x S l} (h:Gr x S l) (ha:Alw x S) (hn:x.orders.length<=60) (hv:Val x.orders.length x.before):nextU x S l x.orders.length= []↔l.length=K3 x S x.orders.length:=by
 constructor
 ·intro e;refine JW fun hno=> ?_
  have hex: ∃v∈Bh x S x.orders.length,v ∉ l:=JW fun hno2=>hno (by
   have h1: ∀v∈Bh x S x.orders.length,v∈l:=fun v hv=>JW fun h3=>hno2 ⟨v,hv,h3⟩;have:=EV (Bi x S _) h1;rw [Jc] at this;have:=h.len
   omega)
  obtain ⟨v,hv⟩:=Gr.more (l:=l) ha hn hv hex
  grind
 ·intro e;rw [List.eq_nil_iff_forall_not_mem];intro v hv;obtain ⟨i,h1,h2,_,h4,h5⟩:=VL.1 hv;exact ((Vk h4).1 h5).1 (h.full e v (WM.2 ⟨i,h1,h2,h4⟩))
theorem SR {x:Inst} {S:Nat} (hne:Vne x) (hS:S / pw x.orders.length=0) (h0:S≠0):0<K3 x S x.orders.length:=by
 have: ∃i,S.testBit i=true:=by
  refine JW fun hno=>h0 (Cu fun i=> ?_)
  grind
 obtain ⟨i,hi⟩:=this;have hlt:=OY hS hi;obtain ⟨v,hv⟩:=List.exists_mem_of_ne_nil _ (hne i hlt);have hm:v∈Bh x S x.orders.length:=WM.2 ⟨i,hlt,hi,hv⟩
 grind [Jc]
def ext (nx:List Vis->List Vis):Nat->List Vis->List (List Vis)->List (List Vis)
 | 0,l,outs=>if 8192<outs.length then outs else outs++ [l]
 | f+1,l,outs=>if 8192<outs.length then outs else (nx l).foldl (fun acc v=>ext nx f (l++ [v]) acc) outs
theorem Tx {S n:Nat} (hS:S<9223372036854775808) (h: ∀j,j<63->S.testBit j=true->j<n):S / pw n=0:=by
 refine Qw ?_;refine Nat.lt_pow_two_of_testBit S fun i hi=> ?_;rcases Wr i 63 with h2 | h2
 ·grind
 ·exact Ao (Uz hS (Yt Za h2:2^63<=2^i))
def NF (x:Inst) (l:List Vis):Int :=
 if l.any (W2 x)=true then 2
 else if l.length=0 then 2
 else if (l.any fun v=>(nth x.orders v.order.toNat).off)=true then 9
 else if ((List.range l.length).any fun i=>decide (vIx l (nth l i)≠(i:Int)))=true then 6
 else if l.all (pairB x.orders l)=false then 19
 else if apB x (Xt l)=true then 20
 else if x.before.all (QF (Xt l) l)=false then 21
 else 0
theorem PP (x:Inst) (r:Rte) (ho:x.orders.length<=60) (hl:r.visits.length<=1048576) (hap:x.apart.length<=1048576) (hbe:x.before.length<=1048576) (hp:Plc x) :
  PC 88 [.p (Zv x),.p (WG r)] (.int .i64 (NF x r.visits)):=by
 refine Zd Tryz.func88 rfl ZiS ?_;simp (disch:=omega) only [Tryz.f88,go_sem,seval];refine Zm [2,3,5] (fun k:Nat=> [(6,.p (.int .i64 k))]) (fun _=> [Zj x,Xu r]) (fun k=>k<=r.visits.length/\ ∀j,j<k->W2 x (nth r.visits j)=false) (fun k=>r.visits.length-k) 0 Zb (Weak.mk ?_) ?_
 ·simp (disch:=omega) only [Zj,Xu,go_sem,seval]
 ·rintro k ⟨hk,hno⟩;refine K1 ?_;refine cD ?_ ?_<;>intro h<;>simp (disch:=omega) only [Sh.out h,go_sem,seval,↓reduceIte]
  ·have hk2:k<r.visits.length:=Za
   refine Xo (Zc ?_);refine gF ?_ ?_<;>intro h2<;>simp (disch:=omega) only [Sh.out h2,go_sem,seval,↓reduceIte]
   ·have:W2 x (nth r.visits k)=true:=by simp [W2];omega
    rw [NF,if_pos (Vz hk2 this)]
   ·refine ZO ?_ ?_<;>intro h3
    ·have:W2 x (nth r.visits k)=true:=by simp [W2];omega
     rw [NF,if_pos (Vz hk2 this)]
    ·exact ⟨k+1,⟨Za,Zs.2 ⟨hno,by simp [W2];omega⟩⟩,Za,wk⟩
  ·have hkl:k=r.visits.length:=Za
   subst hkl
   have hr1:NF x r.visits=if r.visits.length=0 then 2 else if (r.visits.any fun v=>(nth x.orders v.order.toNat).off)=true then 9 else if ((List.range r.visits.length).any fun i=>decide (vIx r.visits (nth r.visits i)≠(i:Int)))=true then 6 else if r.visits.all (pairB x.orders r.visits)=false then 19 else if apB x (Xt r.visits)=true then 20 else if x.before.all (QF (Xt r.visits) r.visits)=false then 21 else 0:=by
    rw [NF,if_neg (by rw [QO hno];simp)]
   have hin: ∀j,j<r.visits.length->0<=(nth r.visits j).order/\(nth r.visits j).order<x.orders.length:=fun j hj=>by
    grind [W2]
   have hmem: ∀v∈r.visits,0<=v.order/\v.order<x.orders.length:=fun v hv=>by
    obtain ⟨j,hj,rfl⟩:=ZT.1 hv
    grind [Zh]
   have hord:Q4 r.visits=(((Xt r.visits:Nat):Int),0):=by
    rw [Q4,if_pos]
    grind [G5]
   have hlt:Xt r.visits<9223372036854775808:=by
    have:=AK r.visits.length (l:=r.visits) (ZA _) (fun v hv=>by
     grind [G5])
    grind
   have hoc:=H6 r hl;rw [hord] at hoc;refine Wv hoc (Zc ?_);refine cD ?_ ?_<;>intro h3<;>simp (disch:=omega) only [Sh.out h3,go_sem,seval]
   ·grind
   ·rw [hr1,if_neg Za];clear hno hr1 h3 h hk;refine Zm [2,5,7] (fun k:Nat=> [(9,.p (.int .i64 k))]) (fun _=> [Zj x,Xu r]) (fun k=>k<=r.visits.length/\ ∀j,j<k->(nth x.orders (nth r.visits j).order.toNat).off=false) (fun k=>r.visits.length-k) 0 Zb (Weak.mk ?_) ?_
    ·simp (disch:=omega) only [Zj,Xu,go_sem,seval]
    ·rintro k ⟨hk,hno⟩;refine K1 ?_;refine cD ?_ ?_<;>intro h<;>simp (disch:=omega) only [Sh.out h,go_sem,seval,↓reduceIte]
     ·have hk2:k<r.visits.length:=Za
      obtain ⟨i1,i2⟩:=hin k hk2
      have i3:(nth r.visits k).order.toNat<x.orders.length:=Za
      refine Xo (Zc ?_);refine ZO ?_ ?_<;>intro h4
      ·rw [if_pos (Vz hk2 h4)]
      ·exact ⟨k+1,⟨Za,Zs.2 ⟨hno,h4⟩⟩,Za,wk⟩
     ·have hkl:k=r.visits.length:=Za
      subst hkl;have e9:(r.visits.any fun v=>(nth x.orders v.order.toNat).off)=false:=QO hno;rw [e9,if_neg Zb];clear hno h hk;refine Zm [2,5,7] (fun k:Nat=> [(10,.p (.int .i64 k))]) (fun _=> [Zj x,Xu r]) (fun k=>k<=r.visits.length/\ ∀j,j<k->vIx r.visits (nth r.visits j)=(j:Int)) (fun k=>r.visits.length-k) 0 Zb (Weak.mk ?_) ?_
      ·simp (disch:=omega) only [Zj,Xu,go_sem,seval]
      ·rintro k ⟨hk,hno⟩;refine K1 ?_;refine cD ?_ ?_<;>intro h<;>simp (disch:=omega) only [Sh.out h,go_sem,seval,↓reduceIte]
       ·have hk2:k<r.visits.length:=Za
        refine (Ql r.visits r.visits_c (nth r.visits k) hl).use (Zc ?_);refine ZO ?_ ?_<;>intro h4
        ·have:((List.range r.visits.length).any fun i=>decide (vIx r.visits (nth r.visits i)≠(i:Int)))=true:=by
          grind
         grind
        ·exact ⟨k+1,⟨Za,Zs.2 ⟨hno,Za⟩⟩,Za,wk⟩
       ·have hkl:k=r.visits.length:=Za
        subst hkl
        have:((List.range r.visits.length).any fun i=>decide (vIx r.visits (nth r.visits i)≠(i:Int)))=false:=by
         grind
        rw [this,if_neg Zb];refine (bP x r.visits r.visits_c hl Za hp hmem).use (Zc ?_);refine cD ?_ ?_<;>intro h4<;>simp (disch:=omega) only [Sh.out h4,go_sem,seval,↓reduceIte]
        ·grind
        ·rw [if_neg (by grind)];refine (lV x (Xt r.visits) hlt hap).use (Zc ?_);refine cD ?_ ?_<;>intro h5<;>simp (disch:=omega) only [Sh.out h5,go_sem,seval,↓reduceIte]
         ·grind
         ·rw [if_neg (by grind)];refine (bG x (Xt r.visits) r.visits r.visits_c hlt hl hbe).use (Zc ?_);refine cD ?_ ?_<;>intro h6<;>simp (disch:=omega) only [Sh.out h6,go_sem,seval]
          ·grind
          grind
structure IFacts (x:Inst):Prop where
 len:x.orders.length<=10
 plc:Plc x
 vne:Vne x
 val:Val x.orders.length x.before
 ne: ∀p∈x.before,p.1≠p.2
 aval:Val x.orders.length x.apart
theorem iG {n:Int} {word:List UInt8} {sm:Int×Int->Int×Int->Bool} {l:List (Int×Int)} (h:Jj n word sm l l.length= []): ∀p∈l,aM n p=true:=by
 intro p hp;obtain ⟨i,hi,rfl⟩:=ZT.1 hp;have h2:=(V5.1 h).2;rw [List.flatMap_eq_nil_iff] at h2;have h3:=h2 i (by grind)
 grind [RO,Zh]
theorem XJ {x:Inst} (h:InstOk x):IFacts x:=by
 have ho:=h.orders;obtain ⟨h1,h2⟩:=V5.1 h.rules;have ha:=iG h1;have hb:=iG h2
 have hpl:Plc x:=fun o hm=>by
  obtain ⟨i,hi,rfl⟩:=ZT.1 hm;have:=ho.2 i hi;rw [<- Zh hi];exact ⟨this.pick.1,this.drp.1⟩
 have val: ∀l:List (Int×Int),(∀p∈l,aM x.orders.length p=true)->Val x.orders.length l:=fun l h p hp=>by
  grind [aM]
 refine ⟨ho.1,hpl,fun i hi=> ?_,val _ hb,fun p hp=> ?_,val _ ha⟩
 ·have h3:=ho.2 i hi;have h4:=hpl _ (Zt hi);have h5:=h3.one
  grind [ZV]
 grind [aM]
theorem W7 {l:List Vis} {o:Int} :hasO l o=true↔ ∃v∈l,v.order=o:=by simp [hasO]
theorem CI : ∀(l:List Vis) (i:Nat),(Xt l).testBit i=true↔ ∃v∈l,v.order.toNat=i:=by
 have key: ∀(l:List Vis) (s i:Nat),(l.foldl (fun s v=>s|||pw v.order.toNat) s).testBit i=true↔s.testBit i=true\/ ∃v∈l,v.order.toNat=i:=by
  intro l
  induction l with
  | nil=>simp
  | cons v l ih =>
   intro s i;rw [XP,ih,Az,Ka,Vh,Zq,or_assoc];simp
 grind [Xt]
def Inr (x:Inst) (l:List Vis):Prop:= ∀v∈l,0<=v.order/\v.order<x.orders.length
theorem Un {x:Inst} {l:List Vis} (hi:Inr x l) (hn:x.orders.length<=60) (o:Int) (h:0<=o/\o<=62):nHas (Xt l) o=hasO l o:=by
 rw [Wq,FQ,CI,W7]
 constructor
 ·rintro ⟨h1,h2,v,hv,h3⟩;have:=hi v hv
  grind
 grind
theorem Q8 {l:List Vis} (hd:l.Nodup) {k:Nat} (hk:k<l.length):vIx l (nth l k)=(k:Int):=by
 refine I2 hk Zb fun j hj=> ?_
 grind [Zh,KF]
theorem EW {l:List Vis} {v:Vis} (h:0<=vIx l v):(vIx l v).toNat<l.length/\nth l (vIx l v).toNat=v:=by
 grind [vIx,Hu,Uy,Zh]
theorem Zdp {l:List Vis} {k:Nat} (hk:k<l.length):0<=vIx l (nth l k)/\vIx l (nth l k)<=(k:Int):=by
 grind [vIx,nth,Zt,Hu,Uy]
theorem Qo {l:List Vis} {v:Vis} {i:Nat} (h:v∈l.take i): ∃j,j<i/\j<l.length/\nth l j=v:=by
 obtain ⟨j,hj,rfl⟩:=ZT.1 h;simp at hj;exact ⟨j,Za,Za,by grind [Zh]⟩
theorem KK {l:List Vis} {i j:Nat} (h:j<i) (hl:j<l.length):nth l j∈l.take i:=by
 grind [Zh,ZT]
theorem BL {l:List Vis} :K5 l=false↔l.Nodup:=by
 rw [K5,Vg]
 constructor
 ·intro h;rw [List.nodup_iff_pairwise_ne,KF];intro i j hi hj hij e;have:=h j (by grind);simp only [Zq,WB] at this;refine this ?_;rw [Zh hj,<- e,<- Zh hi];exact KK hij hi
 ·intro h j hj;simp only [Zq,WB]
  grind [Qo,Q8]
theorem cJ {l:List Vis} :((List.range l.length).any fun i=>decide (vIx l (nth l i)≠(i:Int)))=K5 l:=by
 rw [Wq]
 constructor
 ·grind [Q8,BL]
 ·intro h;rw [K5,WL] at h;obtain ⟨j,hj,h2⟩:=h;simp only [Zq,WB] at h2;obtain ⟨i,h3,h4,h5⟩:=Qo h2
  grind
def Bw (l:List Vis) (b:Int):Int:=Hu (fun v=>decide (v.order=b)) l
theorem AI {l:List Vis} {b:Int} :0<=Bw l b↔ ∃v∈l,v.order=b:=by
 grind [Pe,Bw]
theorem CG {l:List Vis} {b:Int} (h:0<=Bw l b):(Bw l b).toNat<l.length/\(nth l (Bw l b).toNat).order=b/\ ∀j,j<(Bw l b).toNat->(nth l j).order≠b:=by
 unfold Bw Hu at h ⊢
 grind [Uy,Zh]
theorem kL {l:List Vis} {b:Int} {k:Nat} (hk:k<l.length) (h:(nth l k).order=b):0<=Bw l b/\Bw l b<=(k:Int):=by
 have h0:0<=Bw l b:=AI.2 ⟨_,Zt hk,h⟩;refine ⟨h0,?_⟩;obtain ⟨h1,h2,h3⟩:=CG h0
 grind
theorem Uh {l:List Vis} {a b:Int} :beforeB l a b=true↔(0<=Bw l b->(∃v∈l,v.order=a)/\ ∀j,j<l.length->(nth l j).order=a->(j:Int)<Bw l b):=by
 unfold beforeB;rw [show Hu (fun v=>decide (v.order=b)) l=Bw l b from rfl]
 by_cases h:Bw l b<0
 ·grind
 ·rw [if_neg h,ZB,W7]
  have h0:0<=Bw l b:=Za
  obtain ⟨h1,h2,h3⟩:=CG h0
  have hd:(!hasO (l.drop (Bw l b).toNat) a)=true↔ ∀j,j<l.length->(nth l j).order=a->(j:Int)<Bw l b:=by
   rw [XN,<- UB,W7]
   constructor
   ·intro hno j hj e;rcases Int.lt_or_le (j:Int) (Bw l b) with h4 | h4
    ·exact h4
    ·refine absurd ⟨nth l j,?_,e⟩ hno;rw [Zh hj];exact ZT.2 ⟨j-(Bw l b).toNat,by simp;omega,by grind⟩
   ·rintro hall ⟨v,hv,e⟩;obtain ⟨j,hj,rfl⟩:=ZT.1 hv
    grind [Zh]
  grind
theorem OQ {x:Inst} {l:List Vis} (hi:Inr x l) (hn:x.orders.length<=60) {p:Int×Int} (h1:0<=p.1/\p.1<x.orders.length) (h2:0<=p.2/\p.2<x.orders.length) (hne:p.1≠p.2):QF (Xt l) l p=beforeB l p.1 p.2:=by
 rw [Wq,Uh,QF,Un hi hn _ Za,Un hi hn _ Za];simp only [Vh,XN,ZB];rw [<- UB,W7,W7,<- AI,<- AI (b:=p.1)]
 constructor
 ·rintro (h | ⟨h3,h4⟩) h0
  ·omega
  ·refine ⟨h3,fun j hj e=> ?_⟩;rw [Zz] at h4;have h5:=h4 j (by grind);rw [Zz] at h5;obtain ⟨g1,g2,g3⟩:=CG h0;rcases Int.lt_or_le (j:Int) (Bw l p.2) with h6 | h6
   ·exact h6
   ·have hne2:j≠(Bw l p.2).toNat:=fun e2=>hne (by grind);have:=h5 (Bw l p.2).toNat (by simp;omega)
    grind [Kf]
 ·intro h
  by_cases h0:0<=Bw l p.2
  ·obtain ⟨h3,h4⟩:=h h0;refine .inr ⟨h3,?_⟩;rw [Zz];intro j hj;rw [Zz];intro k hk;simp at hj hk
   cases hb:Kf l p.1 p.2 j k with
   | false=>rfl
   | true =>
    simp [Kf] at hb;have h5:=h4 j hj hb.1;have h6:=(kL Za hb.2).2;omega
  omega
theorem tE {x:Inst} (hf:IFacts x) (l:List Vis):NF x l=Xj x l:=by
 by_cases ho:l.any (W2 x)=true
 ·simp_all [NF,Xj]
 ·have ho':l.any (W2 x)=false:=by grind
  have hi:Inr x l:=fun v hv=>by
   grind [W2]
  have hn:x.orders.length<=60:=by have:=hf.len;omega
  rw [NF,if_neg ho,Xj]
  by_cases h0:l.length=0
  ·omega
  ·have hc: ¬(l.length=0\/l.any (W2 x)=true):=fun h=>h.elim h0 ho;rw [if_neg h0,if_neg hc,cJ]
   have e1:apB x (Xt l)=x.apart.any fun p=>hasO l p.1&&hasO l p.2:=by
    rw [apB,Wq,WL,WL]
    have: ∀p∈x.apart,(nHas (Xt l) p.1&&nHas (Xt l) p.2)=(hasO l p.1&&hasO l p.2):=fun p hp=>by
     have:=hf.aval p hp
     grind [Un]
    grind
   have e2:(x.before.all (QF (Xt l) l)=false)=((x.before.any fun p=> !beforeB l p.1 p.2)=true):=by
    have: ∀p∈x.before,QF (Xt l) l p=beforeB l p.1 p.2:=fun p hp=>by
     have:=hf.val p hp;exact OQ hi hn Za Za (hf.ne p hp)
    grind
   grind
structure RightV (x:Inst) (l:List Vis):Prop where
 ne:l≠ []
 inr:Inr x l
 off: ∀v∈l,(nth x.orders v.order.toNat).off=false
 nodup:l.Nodup
 pair: ∀v∈l,pairB x.orders l v=true
 apart: ∀p∈x.apart,¬(hasO l p.1=true/\hasO l p.2=true)
 before: ∀p∈x.before,beforeB l p.1 p.2=true
theorem bL {x:Inst} {l:List Vis} :Xj x l=0↔RightV x l:=by
 unfold Xj;rw [VG Za,VG Za,VG Za,VG Za,VG Za,VG Za];simp only [and_true,UB,BL]
 have hin:l.any (W2 x)=false↔Inr x l:=by
  rw [Vg];exact ⟨fun h v hv=>by grind [W2],fun h v hv=>by simpa [W2] using h v hv⟩
 constructor
 ·rintro ⟨h1,h2,h3,h4,h5,h6⟩;rw [not_or,UB,hin] at h1;rw [Vg] at h2 h5 h6;refine ⟨fun e=>h1.1 (by rw [e];rfl),h1.2,fun v hv=>by grind,h3,?_,fun p hp=>by grind,fun p hp=>by grind⟩
  grind
 ·intro h;refine ⟨?_,?_,h.nodup,?_,?_,?_⟩
  ·rw [not_or,UB,hin];exact ⟨fun e=>h.ne (YC e),h.inr⟩
  ·rw [Vg];intro v hv;simp [h.off v hv]
  ·rw [Zz.2 h.pair];simp
  ·rw [Vg];intro p hp;simpa using h.apart p hp
  ·rw [Vg];intro p hp;simpa using h.before p hp
theorem HU {os:List Ord} {l:List Vis} {v:Vis} {i:Nat} (h:v.order=(i:Int)):pairB os l v=true↔v∈ZV os i/\(∀w∈ZV os i,w∈l)/\((⟨i,false⟩:Vis)∈ZV os i->(⟨i,true⟩:Vis)∈ZV os i->vIx l ⟨i,false⟩<vIx l ⟨i,true⟩):=by
 rw [pairB,h,XO,ZB,Zq,WB];refine and_congr Iff.rfl ?_
 have hm: ∀w:Vis,-1<vIx l w↔w∈l:=fun w=>by grind [WB]
 rcases Kb os i with e | e | e | e<;>rw [e]
 ·simp [QQ]
 ·simp [QQ,hm]
 ·simp [QQ,hm]
 ·simp only [QQ,JS,ZB,Zq,hm,Z5,Y6,Ws,forall_eq_or_imp,forall_eq]
  grind
section
variable {x : Inst} {l : List Vis}
theorem RightV.bit (h:RightV x l) (i:Nat):(Xt l).testBit i=true↔ ∃v∈l,v.order=(i:Int):=by
 rw [CI];exact ⟨fun ⟨v,hv,e⟩=>⟨v,hv,by have:=h.inr v hv;omega⟩,fun ⟨v,hv,e⟩=>⟨v,hv,Za⟩⟩
theorem RightV.lt (h:RightV x l) (hf:IFacts x):Xt l<9223372036854775808/\Xt l / pw x.orders.length=0:=by
 have h1:Xt l<9223372036854775808:=by
  have:=AK l.length (l:=l) (ZA _) (fun v hv=>by
   rw [YV] at hv;have:=h.inr v hv;have:=hf.len
   simp [G5];omega)
  grind
 refine ⟨h1,Tx h1 fun j _ hj=> ?_⟩;obtain ⟨v,hv,e⟩:=(h.bit j).1 hj;have:=h.inr v hv;omega
theorem RightV.ord (h:RightV x l) (hf:IFacts x):Q4 l=(((Xt l:Nat):Int),0):=by
 rw [Q4,if_pos];rw [Zz];intro v hv;have:=h.inr v hv;have:=hf.len;simp [G5];omega
theorem RightV.pairs (h:RightV x l) {v:Vis} (hv:v∈l): ∃i:Nat,v.order=(i:Int)/\i<x.orders.length/\v∈ZV x.orders i/\(∀w∈ZV x.orders i,w∈l)/\((⟨i,false⟩:Vis)∈ZV x.orders i->(⟨i,true⟩:Vis)∈ZV x.orders i->vIx l ⟨i,false⟩<vIx l ⟨i,true⟩):=by
 have h1:=h.inr v hv
 have e:v.order=(v.order.toNat:Int):=Za
 exact ⟨v.order.toNat,e,Za,(HU e).1 (h.pair v hv)⟩
theorem RightV.step (h:RightV x l) {a b:Nat} (hE:Ed x.before a b) (hb:0<=Bw l b):0<=Bw l a/\Bw l a<Bw l b:=by
 obtain ⟨p,hp,e1,e2⟩:=hE;have hbe:=Uh.1 (h.before p hp);rw [e1,e2] at hbe;obtain ⟨h1,h2⟩:=hbe hb;have h0:=AI.2 h1;obtain ⟨g1,g2,_⟩:=CG h0
 grind
theorem RightV.chain (h:RightV x l) {a b:Nat} (hc:Ch x.before a b) (hb:0<=Bw l b):0<=Bw l a/\Bw l a<Bw l b:=by
 induction hc with
 | one hE=>exact h.step hE hb
 | more _ hE ih =>
  have h1:=h.step hE hb;omega
theorem RightV.alw (h:RightV x l) (hf:IFacts x):Alw x (Xt l):=by
 have hn:x.orders.length<=60:=by have:=hf.len;omega
 refine ⟨fun i hi hb=> ?_,?_,fun p hp hb=> ?_,fun i hi hb hc=> ?_⟩
 ·obtain ⟨v,hv,e⟩:=(h.bit i).1 hb;have:=h.off v hv
  grind
 ·rw [apB,Vg];intro p hp;have hv:=hf.aval p hp;rw [Un h.inr hn _ Za,Un h.inr hn _ Za,ZB];exact h.apart p hp
 ·have hv:=hf.val p hp;rw [Un h.inr hn _ Za] at hb ⊢;rw [W7] at hb ⊢;exact (Uh.1 (h.before p hp) (AI.2 hb)).1
 ·have hb2:=AI.2 ((h.bit i).1 hb);have:=(h.chain hc hb2).2;omega
theorem RightV.gr (h:RightV x l) (hf:IFacts x): ∀k,k<=l.length->Gr x (Xt l) (l.take k)
 | 0,_=>by simpa using Gr.nil
 | k+1,hk=>by
  have hk2:k<l.length:=Za
  have ih:=h.gr hf k Za
  have e:l.take (k+1)=l.take k++ [nth l k]:=by rw [Yb hk2,Zh hk2]
  rw [e];obtain ⟨i,e1,hi,h1,h2,h3⟩:=h.pairs (Zt hk2);refine .snoc ih (VL.2 ⟨i,hi,(h.bit i).2 ⟨_,Zt hk2,e1⟩,?_,h1,(Vk h1).2 ⟨?_,?_,?_⟩⟩)
  ·have:=h.off _ (Zt hk2)
   grind
  ·intro hm;obtain ⟨j,j1,j2,j3⟩:=Qo hm;have q1:=Q8 h.nodup j2;have q2:=Q8 h.nodup hk2
   grind
  ·intro hd hq
   have e2:nth l k=⟨i,true⟩:=by rw [DT];grind
   have h4:=h3 hq (by grind);rw [<- e2,Q8 h.nodup hk2] at h4;have h5:=WB.2 (h2 _ hq);obtain ⟨g1,g2⟩:=EW h5;rw [<- g2];exact KK Za g1
  ·intro p hp hpe w hw;obtain ⟨v1,v2,v3,v4⟩:=hf.val p hp;have hoi:=kL hk2 e1;have hbe:=Uh.1 (h.before p hp);rw [hpe] at hbe;obtain ⟨⟨v,hv,ev⟩,h5⟩:=hbe hoi.1;obtain ⟨a,a1,a2,a3,a4,a5⟩:=h.pairs hv
   have:a=p.1.toNat:=Za
   subst this;have hwl:=a4 w hw;obtain ⟨g1,g2⟩:=EW (WB.2 hwl);have h6:=h5 _ g1 (by rw [g2,Yd hw];omega);rw [<- g2];exact KK Za g1
theorem RightV.len (h:RightV x l) (hf:IFacts x):l.length=K3 x (Xt l) x.orders.length:=by
 have h1:=h.gr hf l.length (ZA _);rw [YV] at h1;have h2:=h1.len
 have h3: ∀v∈Bh x (Xt l) x.orders.length,v∈l:=fun v hv=>by
  obtain ⟨i,i1,i2,i3⟩:=WM.1 hv;obtain ⟨w,hw,e⟩:=(h.bit i).1 i2;obtain ⟨a,a1,a2,a3,a4,a5⟩:=h.pairs hw
  grind
 have h4:=EV (Bi _ _ _) h3;rw [Jc] at h4;omega
theorem Gr.at {S:Nat} (h:Gr x S l): ∀k,k<l.length->nth l k∈nextU x S (l.take k) x.orders.length:=by
 induction h with
 | nil=>simp
 | snoc h hv ih =>
  rename_i l v;intro k hk;simp at hk;rcases Wr k l.length with h2 | h2
  ·grind [Zh]
  ·have:k=l.length:=Za
   simp_all [Zh]
theorem Gr.right {S:Nat} (h:Gr x S l) (hf:IFacts x) (ha:Alw x S) (h0:S≠0) (hS:S / pw x.orders.length=0) (hl:l.length=K3 x S x.orders.length):RightV x l/\Xt l=S:=by
 have hn:x.orders.length<=60:=by have:=hf.len;omega
 have hfull:=h.full hl
 have hsub: ∀v∈l,∃i:Nat,v.order=(i:Int)/\i<x.orders.length/\S.testBit i=true/\v∈ZV x.orders i:=fun v hv=>by
  obtain ⟨i,i1,i2,i3⟩:=WM.1 (h.sub v hv);exact ⟨i,Yd i3,i1,i2,i3⟩
 have hinr:Inr x l:=fun v hv=>by grind
 have hgo: ∀k,k<l.length-> ∃i:Nat,(nth l k).order=(i:Int)/\nth l k∈ZV x.orders i/\nth l k ∉ l.take k/\((nth l k).drp=true->(⟨i,false⟩:Vis)∈ZV x.orders i->(⟨i,false⟩:Vis)∈l.take k)/\ ∀p∈x.before,p.2=(i:Int)-> ∀w∈ZV x.orders p.1.toNat,w∈l.take k:=fun k hk=>by
  obtain ⟨i,i1,i2,i3,i4,i5⟩:=VL.1 (h.at k hk);obtain ⟨r1,r2,r3⟩:=(Vk i4).1 i5;exact ⟨i,Yd i4,i4,r1,r2,r3⟩
 have hbit:Xt l=S:=Cu fun i=>by
  rw [Wq,CI]
  constructor
  ·grind
  ·intro hb;have hi:=OY hS hb;obtain ⟨w,hw⟩:=List.exists_mem_of_ne_nil _ (hf.vne i hi);have:=Yd hw;exact ⟨w,hfull w (WM.2 ⟨i,hi,hb,hw⟩),Za⟩
 refine ⟨⟨fun e=> ?_,hinr,fun v hv=> ?_,h.nodup,fun v hv=> ?_,fun p hp=> ?_,fun p hp=> ?_⟩,hbit⟩
 ·have:=SR hf.vne hS h0
  grind
 ·obtain ⟨i,i1,i2,i3,i4⟩:=hsub v hv;rw [i1,XO];exact ha.off i i2 i3
 ·obtain ⟨i,i1,i2,i3,i4⟩:=hsub v hv;refine (HU i1).2 ⟨i4,fun w hw=>hfull w (WM.2 ⟨i,i2,i3,hw⟩),fun hq1 hq2=> ?_⟩;have m2:=WB.2 (hfull _ (WM.2 ⟨i,i2,i3,hq2⟩));obtain ⟨g1,g2⟩:=EW m2;obtain ⟨j,j1,j2,j3,j4,j5⟩:=hgo _ g1;rw [g2] at j1 j4
  have:j=i:=by grind
  subst this;obtain ⟨q,q1,q2,q3⟩:=Qo (j4 rfl hq1);have:=(Zdp q2).2
  grind
 ·have:=ha.apart;rw [apB,Vg] at this;have h2:=this p hp;have hv:=hf.aval p hp;rw [<- hbit,Un hinr hn _ Za,Un hinr hn _ Za,ZB] at h2;exact h2
 ·rw [Uh];intro hb;have hv:=hf.val p hp;obtain ⟨g1,g2,g3⟩:=CG hb;obtain ⟨j,j1,j2,j3,j4,j5⟩:=hgo _ g1;have hall:=j5 p hp Za;refine ⟨?_,fun q hq e=> ?_⟩
  ·obtain ⟨w,hw⟩:=List.exists_mem_of_ne_nil _ (hf.vne p.1.toNat Za);exact ⟨w,J0 (hall w hw),by rw [Yd hw];omega⟩
  ·obtain ⟨i,i1,i2,i3,i4⟩:=hsub _ (Zt hq)
   have:i=p.1.toNat:=Za
   subst this;obtain ⟨q2,r1,r2,r3⟩:=Qo (hall _ i4);have e1:=Q8 h.nodup r2;have e2:=Q8 h.nodup hq
   grind
end
theorem qJ {a b:Int} :Y0 a b<0↔a<b:=by grind [Y0]
def Zc5 (r:Rte):Prop:=r.visits.length<=1048576/\r.rests.length<=1048576
end Go.Proofs.YtenjikkmmibffaaGreatDoor.K
namespace Go.Proofs.YtenjikkmmibffaaGreatDoor.K
section
variable {L : Type} (fin : L -> Int) (beats : L -> L -> Bool) (nxt : Nat -> L -> Bool -> Option L) (choices : Nat -> List Bool)
def W4 : Option L->List L->Option L
 | b,[]=>b
 | none,x::l=>W4 (some x) l
 | some m,x::l=>if fin x<fin m then W4 (some x) l else W4 (some m) l
theorem Ak : ∀(b:Option L) (l r:List L),W4 fin b (l++r)=W4 fin (W4 fin b l) r
 | b,[],r=>by rfl
 | none,x::l,r=>by rw [ZK,W4,W4,Ak]
 | some m,x::l,r=>by
  rw [ZK,W4,W4]
  split
  ·rw [Ak]
  ·rw [Ak]
theorem VD : ∀(l:List L) (m:L),∃z,W4 fin (some m) l=some z/\fin z<=fin m/\ ∀y∈l,fin z<=fin y
 | [],m=>⟨m,rfl,Za,Zb⟩
 | x::l,m=>by
  rw [W4]
  split
  ·rename_i h;obtain ⟨z,e,h1,h2⟩:=VD l x
   grind
  ·rename_i h;obtain ⟨z,e,h1,h2⟩:=VD l m
   grind
theorem MW : ∀(l:List L) (m:L),(∀y∈l,fin m<=fin y)->W4 fin (some m) l=some m
 | [],m,_=>rfl
 | x::l,m,h=>by
  have:=h x List.mem_cons_self;rw [W4,if_neg Za];exact MW l m fun y hy=>h y (Yr _ hy)
theorem TU (A B:List L) (h: ∀y∈B,∃z∈A,fin z<=fin y):W4 fin none (A++B)=W4 fin none A:=by
 rw [Ak]
 cases A with
 | nil=>cases B with
  | nil=>rfl
  | cons y B=>grind [List.mem_cons_self]
 | cons a A =>
  rw [W4];obtain ⟨z,e,h1,h2⟩:=VD fin A a;rw [e];refine MW fin B z fun y hy=> ?_
  grind
def X8 : List L->List L->List L
 | out,[]=>out
 | out,x::l=>if out.any (fun m=>beats m x)=true then X8 out l else X8 (out++ [x]) l
theorem Dm {R:L->List L} : ∀(c out:List L),(∀x∈out++c,∀m∈out++c,beats m x=true-> ∀y∈R x,∃z∈R m,fin z<=fin y)->W4 fin none ((X8 beats out c).flatMap R)=W4 fin none ((out++c).flatMap R)
 | [],out,_=>by simp [X8]
 | x::c,out,h=>by
  rw [X8]
  split
  ·rename_i hb;obtain ⟨m,hm,hb⟩:=WL.1 hb
   have hb:beats m x=true:=by simpa using hb
   rw [Dm c out (fun a ha b hb=>h a (by simp only [Xd,Z5] at ha ⊢;rcases ha with h | h<;>simp [h]) b (by simp only [Xd,Z5] at hb ⊢;rcases hb with h | h<;>simp [h]))];rw [List.flatMap_append,List.flatMap_append,Qa,<- KI,Ak,Ak (l:=out.flatMap R++R x)];rw [TU fin (out.flatMap R) (R x)];intro y hy;obtain ⟨z,hz,hle⟩:=h x Zb m (by simp [hm]) hb y hy;exact ⟨z,XU.2 ⟨m,hm,hz⟩,hle⟩
  ·rw [Dm c (out++ [x]) (by simpa using h)];simp
theorem AO : ∀(c out:List L),∀x∈X8 beats out c,x∈out++c
 | [],out,x,h=>by grind [X8]
 | a::c,out,x,h=>by
  rw [X8] at h
  split at h
  ·have:=AO c out x h;simp only [Xd,Z5] at this ⊢;rcases this with h | h<;>simp [h]
  ·have:=AO c (out++ [a]) x h;simpa using this
def I1 : Nat->Nat->List (List Bool)
 | 0,_=> [[]]
 | j+1,k=>(choices k).flatMap fun b=>(I1 j (k+1)).map (b:: ·)
def Y9 : Nat->L->List Bool->Option L
 | _,x,[]=>some x
 | k,x,b::bs=>match nxt k x b with
  | some y=>Y9 (k+1) y bs
  | none=>none
def VO (j k:Nat) (x:L):List L:=(I1 choices j k).filterMap (Y9 nxt k x)
def Vq (k:Nat) (l:List L):List L:=l.flatMap fun x=>(choices k).filterMap (nxt k x)
def Ke : Nat->Nat->List L->List L
 | 0,_,l=>l
 | j+1,k,l=>Ke j (k+1) (X8 beats [] (Vq nxt choices k l))
theorem PS (k:Nat) (x:L):VO nxt choices 0 k x= [x]:=rfl
theorem F9 (j k:Nat) (x:L):VO nxt choices (j+1) k x=((choices k).filterMap (nxt k x)).flatMap (VO nxt choices j (k+1)):=by
 unfold VO;rw [I1]
 induction choices k with
 | nil=>rfl
 | cons b bs ih =>
  rw [Qa,List.filterMap_append,ih,List.filterMap_cons]
  cases h:nxt k x b with
  | none =>
   simp_all [Y9]
  | some y =>
   rw [List.filterMap_map]
   have:(Y9 nxt k x∘fun l=>b::l)=Y9 nxt (k+1) y:=by grind [Y9]
   grind
theorem H4 {n:Nat} {Inv:Nat->L->Prop} (hI: ∀k x b y,Inv k x->nxt k x b=some y->Inv (k+1) y) (hd: ∀k m x b y,Inv k m->Inv k x->beats m x=true->nxt k x b=some y-> ∃z,nxt k m b=some z/\beats z y=true)
  (he: ∀m x,Inv n m->Inv n x->beats m x=true->fin m<=fin x): ∀(j k:Nat) (m x:L),k+j=n->Inv k m->Inv k x->beats m x=true-> ∀y∈VO nxt choices j k x,∃z∈VO nxt choices j k m,fin z<=fin y
 | 0,k,m,x,hk,h1,h2,hb,y,hy=>by
  grind [PS]
 | j+1,k,m,x,hk,h1,h2,hb,y,hy=>by
  rw [F9] at hy ⊢;obtain ⟨q,hq,hy⟩:=XU.1 hy;obtain ⟨b,hbm,hn⟩:=KH.1 hq;obtain ⟨z,hz,hzb⟩:=hd k m x b q h1 h2 hb hn;obtain ⟨u,hu,hle⟩:=H4 hI hd he j (k+1) z q Za (hI k m b z h1 hz) (hI k x b q h2 hn) hzb y hy
  grind
theorem R5 {n:Nat} {Inv:Nat->L->Prop} (hI: ∀k x b y,Inv k x->nxt k x b=some y->Inv (k+1) y) (hd: ∀k m x b y,Inv k m->Inv k x->beats m x=true->nxt k x b=some y-> ∃z,nxt k m b=some z/\beats z y=true)
  (he: ∀m x,Inv n m->Inv n x->beats m x=true->fin m<=fin x): ∀(j k:Nat) (l:List L),k+j=n->(∀x∈l,Inv k x)->W4 fin none (Ke beats nxt choices j k l)=W4 fin none (l.flatMap (VO nxt choices j k))
 | 0,k,l,hk,hl=>by
  have:l.flatMap (VO nxt choices 0 k)=l:=by
   have:VO nxt choices 0 k=fun x=> [x]:=by rfl
   rw [this];simp
  rw [this];rfl
 | j+1,k,l,hk,hl=>by
  have hc: ∀x∈Vq nxt choices k l,Inv (k+1) x:=fun x hx=>by
   obtain ⟨q,hq,hx⟩:=XU.1 hx
   grind
  have e:l.flatMap (VO nxt choices (j+1) k)=(Vq nxt choices k l).flatMap (VO nxt choices j (k+1)):=by
   rw [Vq,List.flatMap_assoc]
   congr 1
   grind [F9]
  rw [Ke,R5 hI hd he j (k+1) _ Za (fun x hx=>hc x (by simpa using AO beats _ _ x hx)),Dm fin beats _ _ (fun x hx m hm hb y hy=> ?_),e]
  ·simp
  ·exact H4 fin beats nxt choices hI hd he j (k+1) m x Za (hc m (by grind)) (hc x (by grind)) hb y hy
def YS : List Bool->List (List Bool)
 | []=> [[]]
 | b::bs=>if b then (YS bs).map (true:: ·) else (YS bs).map (false:: ·)++(YS (List.replicate bs.length false)).map (true:: ·)
termination_by l => l.length
decreasing_by all_goals simp
def Yw : List Bool->Option (List Bool)
 | []=>none
 | b::bs=>match Yw bs with
  | some l=>some (b::l)
  | none=>if b then none else some (true::List.replicate bs.length false)
theorem fromB_next : ∀l:List Bool,YS l=l::(match Yw l with | some r=>YS r | none=> [])
 | []=>by simp [YS,Yw]
 | b::bs=>by
  have ih:=fromB_next bs
  have e0: ∀l:List Bool,YS (true::l)=(YS l).map (true:: ·):=fun l=>by rw [YS];simp
  have e1: ∀l:List Bool,YS (false::l)=(YS l).map (false:: ·)++(YS (List.replicate l.length false)).map (true:: ·):=fun l=>by rw [YS];simp
  cases b with
  | true =>
   rw [e0,ih,Yw]
   cases h:Yw bs with
   | none=>simp
   | some r=>simp [e0]
  | false =>
   rw [e1,ih,Yw]
   cases h:Yw bs with
   | none=>simp [e0]
   | some r =>
    have hl:r.length=bs.length:=nlen bs r h;simp [e1,hl]
where nlen : ∀(l r:List Bool),Yw l=some r->r.length=l.length
 | [],r,h=>by simp [Yw] at h
 | b::bs,r,h=>by
  rw [Yw] at h
  cases h2:Yw bs with
  | none =>
   grind
  | some q =>
   rw [h2] at h;simp at h;subst h;simp [nlen bs q h2]
theorem MO {n:Nat} : ∀(j k:Nat),(∀q,k<=q->choices q= [false,true])->I1 choices j k=YS (List.replicate j false)
 | 0,k,_=>by simp [I1,YS]
 | j+1,k,h=>by
  rw [I1,h k (ZA _),MO (n:=n) j (k+1) (fun q hq=>h q Za),KG,YS];simp
end
end Go.Proofs.YtenjikkmmibffaaGreatDoor.K
