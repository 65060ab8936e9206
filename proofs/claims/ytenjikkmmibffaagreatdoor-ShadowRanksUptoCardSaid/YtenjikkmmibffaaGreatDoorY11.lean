/- Declarations that the closing texts need, part 11: joined by tools/slim.py. -/
import Derived.Test.YtenjikkmmibffaaGreatDoorY10
import Derived.Test.YtenjikkmmibffaaGreatDoorRows
namespace Go.Proofs.YtenjikkmmibffaaGreatDoor.K
open Go Go.AM Go.Proofs
theorem TR : Tryz.prog.cellsOf 3=1:=Ze
theorem Znr : Tryz.prog.cellsOf 4=1:=Ze
theorem ZhM : Tryz.prog.cellsOf 9=1:=Ze
theorem ZhE : Tryz.prog.cellsOf 22=1:=Ze
theorem ZhF : Tryz.prog.cellsOf 23=1:=Ze
theorem wI : Tryz.prog.cellsOf 25=2:=Ze
theorem ZjO : GP Tryz.prog 25=some [(0,22),(1,23)]:=Ze
theorem ZhG : Tryz.prog.cellsOf 26=1:=Ze
theorem ZhH : Tryz.prog.cellsOf 27=1:=Ze
theorem ZhI : Tryz.prog.cellsOf 28=1:=Ze
theorem ZhJ : Tryz.prog.cellsOf 30=6:=Ze
theorem xB : GP Tryz.prog 30=some [(0,25),(2,26),(3,27),(4,28),(5,28)]:=Ze
theorem wJ : Tryz.prog.cellsOf 34=1:=Ze
theorem ZhK : Tryz.prog.cellsOf 71=14:=Ze
theorem xC : GP Tryz.prog 71=some [(0,9),(1,3),(2,3),(3,3),(4,34),(5,3),(6,3),(7,3),(8,3),(9,3),(10,3),(11,3),(12,3),(13,3)]:=Ze
theorem wK : Tryz.prog.cellsOf 73=4:=Ze
theorem ZjP : GP Tryz.prog 73=some [(0,3),(1,3),(2,3),(3,3)]:=Ze
theorem ZhL : Tryz.prog.cellsOf 75=16:=Ze
theorem xD : GP Tryz.prog 75=some [(0,9),(1,34),(2,73),(6,73),(10,3),(11,3),(12,3),(13,3),(14,3),(15,4)]:=Ze
theorem zL : Tryz.prog.cellsOf 105=2:=Ze
theorem lY : GP Tryz.prog 105=some [(0,3),(1,3)]:=Ze
theorem zM : Tryz.prog.cellsOf 182=1:=Ze
theorem zN : Tryz.prog.cellsOf 184=6:=Ze
theorem lZ : GP Tryz.prog 184=some [(0,3),(1,3),(2,3),(3,3),(4,182),(5,182)]:=Ze
theorem zO : Tryz.prog.cellsOf 187=2:=Ze
theorem mA : GP Tryz.prog 187=some [(0,3),(1,3)]:=Ze
set_option linter.unusedVariables false
set_option linter.unusedSimpArgs false
mutual
theorem Pl {H:Type} :(d:DataW H)->GO d<=Rows.uptoBulk d
 | .lit l=>by cases l<;>simp [GO,Rows.uptoBulk]
 | .nil=>by simp [GO,Rows.uptoBulk]
 | .ptr d=>by have:=Pl d;simp only [GO,Rows.uptoBulk];omega
 | .slice es sp=>by have:=Ca es;have:=Ca sp;simp only [GO,Rows.uptoBulk];omega
 | .agg ps=>by have:=Ca ps;simp only [GO,Rows.uptoBulk];omega
 | .iface _ d=>by have:=Pl d;simp only [GO,Rows.uptoBulk];omega
 | .map es=>by simp only [GO,Rows.uptoBulk];omega
 | .held h=>by simp [GO,Rows.uptoBulk]
theorem Ca {H:Type} :(l:List (DataW H))->KD l<=Rows.uptoBulkAll l
 | []=>by simp [KD,Rows.uptoBulkAll]
 | d::r=>by have:=Pl d;have:=Ca r;simp only [KD,Rows.uptoBulkAll];omega
end
theorem Ri {H:Type} {l:List (DataW H)} (h:Rows.uptoSmall H l=true):KD l<=1048576:=by
 have h1:=Ca l;have h2:Rows.uptoBulkAll l<=1048576:=Ay h;omega
abbrev QA (n:Int):Prop:= -9223372036854775808<=n/\n<=9223372036854775807
def eI (n:Int):PV:= .int .i64 n
def eB (b:Bool):PV:= .bool b
def eS (s:List UInt8):PV:= .str s
def eP (p:Int×Int):PV:= .agg [.int .i64 p.1,.int .i64 p.2]
@[go_sem] theorem ZpZ (n:Int):eI n= .int .i64 n:=Zk rfl rfl
@[go_sem] theorem ZpX (b:Bool):eB b= .bool b:=Zk rfl rfl
@[go_sem] theorem Zp3 (s:List UInt8):eS s= .str s:=Zk rfl rfl
@[go_sem] theorem Zp1 (p:Int×Int):eP p= .agg [.int .i64 p.1,.int .i64 p.2]:=Zk rfl rfl
@[go_sem] theorem Zob (l:List Int):AO 1 (l.map eI)=true:=Ka fun _=>rfl
@[go_sem] theorem Zls (l:List Bool):BZ 1 (l.map eB)=true:=B0 (f:=eB) (S:=1) (fun _=>rfl) l
@[go_sem] theorem Zn9 (l:List Bool):AO 1 (l.map eB)=true:=Ka fun _=>rfl
theorem M3 {B xs} (h: ∀y∈xs,FitV Tryz.prog B 3 y): ∃l:List Int,xs=l.map eI/\ ∀n∈l,QA n :=
 Uc (f:=eI) fun y hy=>by
  obtain ⟨n,rfl,w⟩:=rP Tryz.underlying3 (h y hy);exact ⟨n,rfl,XO w⟩
theorem iP {B xs} (h: ∀y∈xs,FitV Tryz.prog B 9 y): ∃l:List (List UInt8),xs=l.map eS/\ ∀s∈l,s.length<=B :=
 Uc (f:=eS) fun y hy=>by
  obtain ⟨s,rfl,w,_⟩:=rQ Tryz.underlying9 (h y hy);exact ⟨s,rfl,w⟩
theorem ZcV {α:Type} {l:List α} (h:l.length=2): ∃a0 a1,l= [a0,a1]:=by
 match l,h with | [a0,a1],_=>simp
theorem Zjt {α:Type} {l:List α} (h:l.length=6): ∃a0 a1 a2 a3 a4 a5,l= [a0,a1,a2,a3,a4,a5]:=by
 match l,h with | [a0,a1,a2,a3,a4,a5],_=>simp
theorem Zjr {α:Type} {l:List α} (h:l.length=14): ∃a0 a1 a2 a3 a4 a5 a6 a7 a8 a9 a10 a11 a12 a13,l= [a0,a1,a2,a3,a4,a5,a6,a7,a8,a9,a10,a11,a12,a13]:=by
 match l,h with | [a0,a1,a2,a3,a4,a5,a6,a7,a8,a9,a10,a11,a12,a13],_=>simp
theorem ZnU {α:Type} {l:List α} (h:l.length=4): ∃a0 a1 a2 a3,l= [a0,a1,a2,a3]:=by
 match l,h with | [a0,a1,a2,a3],_=>simp
theorem Zjs {α:Type} {l:List α} (h:l.length=16): ∃a0 a1 a2 a3 a4 a5 a6 a7 a8 a9 a10 a11 a12 a13 a14 a15,l= [a0,a1,a2,a3,a4,a5,a6,a7,a8,a9,a10,a11,a12,a13,a14,a15]:=by
 match l,h with | [a0,a1,a2,a3,a4,a5,a6,a7,a8,a9,a10,a11,a12,a13,a14,a15],_=>grind
structure Pt where
 t:Int
 a:Int
 deriving Inhabited
def cPt (x:Pt):List PV:= [.int .i64 x.t,.int .i64 x.a]
def Hs (x:Pt):PV:= .agg [.int .i64 x.t,.int .i64 x.a]
@[go_sem] theorem Zns (x:Pt):Hs x= .agg [.int .i64 x.t,.int .i64 x.a]:=Zk rfl rfl
def Pt.wf (B:Nat) (x:Pt):Prop:=QA x.t/\QA x.a
theorem rS {B m cs} (h:Wz Tryz.prog B m 187 cs): ∃x:Pt,cs=cPt x/\x.wf B:=by
 obtain ⟨h1,m',h2⟩:=Uk mA zO h;obtain ⟨a0,a1,rfl⟩:=ZcV h1;obtain ⟨n0,e0,w0⟩:=Z2 Tryz.underlying3 (h2 (0,3) Zb);obtain ⟨n1,e1,w1⟩:=Z2 Tryz.underlying3 (h2 (1,3) Zb);simp [TR] at e0 e1;subst e0;subst e1;exact ⟨⟨n0,n1⟩,rfl,XO w0,XO w1⟩
theorem iO {B v} (h:FitV Tryz.prog B 187 v): ∃x:Pt,v=Hs x/\x.wf B:=by
 obtain ⟨k,cs,h,e⟩:=h.out;obtain ⟨x,rfl,hw⟩:=rS h;exact ⟨x,e.trans (by rw [J8,if_pos (Us mA)];rfl),hw⟩
structure Arc where
 src:Int
 dst:Int
 prof:Int
 miles:Int
 travel_c:Bool
 travel:List (Pt)
 slow_c:Bool
 slow:List (Pt)
 deriving Inhabited
def Znp (x:Arc):List PV:= [.int .i64 x.src,.int .i64 x.dst,.int .i64 x.prof,.int .i64 x.miles,.list x.travel_c (x.travel.map Hs),.list x.slow_c (x.slow.map Hs)]
def VS (x:Arc):PV:= .agg [.int .i64 x.src,.int .i64 x.dst,.int .i64 x.prof,.int .i64 x.miles,.list x.travel_c (x.travel.map Hs),.list x.slow_c (x.slow.map Hs)]
@[go_sem] theorem ZlB (x:Arc):VS x= .agg [.int .i64 x.src,.int .i64 x.dst,.int .i64 x.prof,.int .i64 x.miles,.list x.travel_c (x.travel.map Hs),.list x.slow_c (x.slow.map Hs)]:=Zk rfl rfl
def Arc.wf (B:Nat) (x:Arc):Prop:=QA x.src/\QA x.dst/\QA x.prof/\QA x.miles/\x.travel.length<=B/\(∀y∈x.travel,Pt.wf B y)/\x.slow.length<=B/\(∀y∈x.slow,Pt.wf B y)
theorem iS {B m cs} (h:Wz Tryz.prog B m 184 cs): ∃x:Arc,cs=Znp x/\x.wf B:=by
 obtain ⟨h1,m',h2⟩:=Uk lZ zN h;obtain ⟨a0,a1,a2,a3,a4,a5,rfl⟩:=Zjt h1;obtain ⟨n0,e0,w0⟩:=Z2 Tryz.underlying3 (h2 (0,3) Zb);obtain ⟨n1,e1,w1⟩:=Z2 Tryz.underlying3 (h2 (1,3) Zb);obtain ⟨n2,e2,w2⟩:=Z2 Tryz.underlying3 (h2 (2,3) Zb);obtain ⟨n3,e3,w3⟩:=Z2 Tryz.underlying3 (h2 (3,3) Zb);obtain ⟨y4,e4,w4,_,z4⟩:=YN Tryz.underlying182 (h2 (4,182) Zb);obtain ⟨n4,rfl,u4⟩:=Uc (f:=Hs) fun y hy=>iO (z4 y hy);obtain ⟨y5,e5,w5,_,z5⟩:=YN Tryz.underlying182 (h2 (5,182) Zb)
 obtain ⟨n5,rfl,u5⟩:=Uc (f:=Hs) fun y hy=>iO (z5 y hy);simp [zM,TR] at e0 e1 e2 e3 e4 e5;subst e0;subst e1;subst e2;subst e3;subst e4;subst e5;exact ⟨⟨n0,n1,n2,n3,false,n4,false,n5⟩,rfl,XO w0,XO w1,XO w2,XO w3,by grind,u4,by grind,u5⟩
theorem rM {B v} (h:FitV Tryz.prog B 184 v): ∃x:Arc,v=VS x/\x.wf B:=by
 obtain ⟨k,cs,h,e⟩:=h.out;obtain ⟨x,rfl,hw⟩:=iS h;exact ⟨x,e.trans (by rw [J8,if_pos (Us lZ)];rfl),hw⟩
structure Net where
 places_c:Bool
 places:List (List UInt8)
 arcs_c:Bool
 arcs:List (Arc)
 deriving Inhabited
def ZhD (x:Net):List PV:= [.list x.places_c (x.places.map eS),.list x.arcs_c (x.arcs.map VS)]
def Cb (x:Net):PV:= .agg [.list x.places_c (x.places.map eS),.list x.arcs_c (x.arcs.map VS)]
@[go_sem] theorem ZlG (x:Net):Cb x= .agg [.list x.places_c (x.places.map eS),.list x.arcs_c (x.arcs.map VS)]:=Zk rfl rfl
def Net.wf (B:Nat) (x:Net):Prop:=x.places.length<=B/\(∀s∈x.places,s.length<=B)/\x.arcs.length<=B/\(∀y∈x.arcs,Arc.wf B y)
theorem iT {B m cs} (h:Wz Tryz.prog B m 25 cs): ∃x:Net,cs=ZhD x/\x.wf B:=by
 obtain ⟨h1,m',h2⟩:=Uk ZjO wI h;obtain ⟨a0,a1,rfl⟩:=ZcV h1;obtain ⟨y0,e0,w0,_,z0⟩:=YN Tryz.underlying22 (h2 (0,22) Zb);obtain ⟨n0,rfl,u0⟩:=iP z0;obtain ⟨y1,e1,w1,_,z1⟩:=YN Tryz.underlying23 (h2 (1,23) Zb);obtain ⟨n1,rfl,u1⟩:=Uc (f:=VS) fun y hy=>rM (z1 y hy);simp [ZhF,ZhE] at e0 e1;subst e0;subst e1;exact ⟨⟨false,n0,false,n1⟩,rfl,by grind,u0,by grind,u1⟩
structure Typ where
 name:List UInt8
 count:Int
 src:Int
 dst:Int
 cap_c:Bool
 cap:List (Int)
 skills:Int
 prof:Int
 opn:Int
 cls:Int
 drive:Int
 rest:Int
 fixed:Int
 perMile:Int
 perTick:Int
 deriving Inhabited
def KA (x:Typ):List PV:= [.str x.name,.int .i64 x.count,.int .i64 x.src,.int .i64 x.dst,.list x.cap_c (x.cap.map eI),.int .i64 x.skills,.int .i64 x.prof,.int .i64 x.opn,.int .i64 x.cls,.int .i64 x.drive,.int .i64 x.rest,.int .i64 x.fixed,.int .i64 x.perMile,.int .i64 x.perTick]
def X4 (x:Typ):PV:= .agg [.str x.name,.int .i64 x.count,.int .i64 x.src,.int .i64 x.dst,.list x.cap_c (x.cap.map eI),.int .i64 x.skills,.int .i64 x.prof,.int .i64 x.opn,.int .i64 x.cls,.int .i64 x.drive,.int .i64 x.rest,.int .i64 x.fixed,.int .i64 x.perMile,.int .i64 x.perTick]
@[go_sem] theorem ZlQ (x:Typ):X4 x= .agg [.str x.name,.int .i64 x.count,.int .i64 x.src,.int .i64 x.dst,.list x.cap_c (x.cap.map eI),.int .i64 x.skills,.int .i64 x.prof,.int .i64 x.opn,.int .i64 x.cls,.int .i64 x.drive,.int .i64 x.rest,.int .i64 x.fixed,.int .i64 x.perMile,.int .i64 x.perTick]:=Zk rfl rfl
@[go_sem] theorem ZjI (l:List Typ):AO 14 (l.map X4)=true:=Ka fun _=>rfl
def Typ.wf (B:Nat) (x:Typ):Prop:=x.name.length<=B/\QA x.count/\QA x.src/\QA x.dst/\x.cap.length<=B/\(∀n∈x.cap,QA n)/\QA x.skills/\QA x.prof/\QA x.opn/\QA x.cls/\QA x.drive/\QA x.rest/\QA x.fixed/\QA x.perMile/\QA x.perTick
theorem iV {B m cs} (h:Wz Tryz.prog B m 71 cs): ∃x:Typ,cs=KA x/\x.wf B:=by
 obtain ⟨h1,m',h2⟩:=Uk xC ZhK h;obtain ⟨a0,a1,a2,a3,a4,a5,a6,a7,a8,a9,a10,a11,a12,a13,rfl⟩:=Zjr h1;obtain ⟨n0,e0,w0,_⟩:=FF Tryz.underlying9 (h2 (0,9) Zb);obtain ⟨n1,e1,w1⟩:=Z2 Tryz.underlying3 (h2 (1,3) Zb);obtain ⟨n2,e2,w2⟩:=Z2 Tryz.underlying3 (h2 (2,3) Zb);obtain ⟨n3,e3,w3⟩:=Z2 Tryz.underlying3 (h2 (3,3) Zb);obtain ⟨y4,e4,w4,_,z4⟩:=YN Tryz.underlying34 (h2 (4,34) Zb);obtain ⟨n4,rfl,u4⟩:=M3 z4;obtain ⟨n5,e5,w5⟩:=Z2 Tryz.underlying3 (h2 (5,3) Zb)
 obtain ⟨n6,e6,w6⟩:=Z2 Tryz.underlying3 (h2 (6,3) Zb);obtain ⟨n7,e7,w7⟩:=Z2 Tryz.underlying3 (h2 (7,3) Zb);obtain ⟨n8,e8,w8⟩:=Z2 Tryz.underlying3 (h2 (8,3) Zb);obtain ⟨n9,e9,w9⟩:=Z2 Tryz.underlying3 (h2 (9,3) Zb);obtain ⟨n10,e10,w10⟩:=Z2 Tryz.underlying3 (h2 (10,3) Zb);obtain ⟨n11,e11,w11⟩:=Z2 Tryz.underlying3 (h2 (11,3) Zb);obtain ⟨n12,e12,w12⟩:=Z2 Tryz.underlying3 (h2 (12,3) Zb);obtain ⟨n13,e13,w13⟩:=Z2 Tryz.underlying3 (h2 (13,3) Zb);simp [wJ,TR,ZhM] at e0 e1 e2 e3 e4 e5 e6 e7 e8 e9 e10 e11 e12 e13
 subst e0;subst e1;subst e2;subst e3;subst e4;subst e5;subst e6;subst e7;subst e8;subst e9;subst e10;subst e11;subst e12;subst e13;exact ⟨⟨n0,n1,n2,n3,false,n4,n5,n6,n7,n8,n9,n10,n11,n12,n13⟩,rfl,w0,XO w1,XO w2,XO w3,by grind,u4,XO w5,XO w6,XO w7,XO w8,XO w9,XO w10,XO w11,XO w12,XO w13⟩
theorem rO {B v} (h:FitV Tryz.prog B 71 v): ∃x:Typ,v=X4 x/\x.wf B:=by
 obtain ⟨k,cs,h,e⟩:=h.out;obtain ⟨x,rfl,hw⟩:=iV h;exact ⟨x,e.trans (by rw [J8,if_pos (Us xC)];rfl),hw⟩
structure Stp where
 place:Int
 opn:Int
 cls:Int
 serv:Int
 deriving Inhabited
def A6 (x:Stp):List PV:= [.int .i64 x.place,.int .i64 x.opn,.int .i64 x.cls,.int .i64 x.serv]
def Fw (x:Stp):PV:= .agg [.int .i64 x.place,.int .i64 x.opn,.int .i64 x.cls,.int .i64 x.serv]
@[go_sem] theorem ZlN (x:Stp):Fw x= .agg [.int .i64 x.place,.int .i64 x.opn,.int .i64 x.cls,.int .i64 x.serv]:=Zk rfl rfl
def Stp.wf (B:Nat) (x:Stp):Prop:=QA x.place/\QA x.opn/\QA x.cls/\QA x.serv
theorem M4 {B m cs} (h:Wz Tryz.prog B m 73 cs): ∃x:Stp,cs=A6 x/\x.wf B:=by
 obtain ⟨h1,m',h2⟩:=Uk ZjP wK h;obtain ⟨a0,a1,a2,a3,rfl⟩:=ZnU h1;obtain ⟨n0,e0,w0⟩:=Z2 Tryz.underlying3 (h2 (0,3) Zb);obtain ⟨n1,e1,w1⟩:=Z2 Tryz.underlying3 (h2 (1,3) Zb);obtain ⟨n2,e2,w2⟩:=Z2 Tryz.underlying3 (h2 (2,3) Zb);obtain ⟨n3,e3,w3⟩:=Z2 Tryz.underlying3 (h2 (3,3) Zb);simp [TR] at e0 e1 e2 e3;subst e0;subst e1;subst e2;subst e3;exact ⟨⟨n0,n1,n2,n3⟩,rfl,XO w0,XO w1,XO w2,XO w3⟩
theorem wL {B v} (h:FitV Tryz.prog B 105 v): ∃x:Int×Int,v=eP x/\QA x.1/\QA x.2:=by
 obtain ⟨k,cs,h,e⟩:=h.out;obtain ⟨h1,m',h2⟩:=Uk lY zL h;obtain ⟨a,b,rfl⟩:=ZcV h1;obtain ⟨n0,e0,w0⟩:=Z2 Tryz.underlying3 (h2 (0,3) Zb);obtain ⟨n1,e1,w1⟩:=Z2 Tryz.underlying3 (h2 (1,3) Zb);simp [TR] at e0 e1;subst e0;subst e1;exact ⟨(n0,n1),e.trans (by rw [J8,if_pos (Us lY)];rfl),XO w0,XO w1⟩
structure Ord where
 name:List UInt8
 load_c:Bool
 load:List (Int)
 pick:Stp
 drp:Stp
 skills:Int
 penalty:Int
 split:Int
 last:Int
 now:Int
 off:Bool
 deriving Inhabited
def Znq (x:Ord):List PV:= [.str x.name,.list x.load_c (x.load.map eI),.int .i64 x.pick.place,.int .i64 x.pick.opn,.int .i64 x.pick.cls,.int .i64 x.pick.serv,.int .i64 x.drp.place,.int .i64 x.drp.opn,.int .i64 x.drp.cls,.int .i64 x.drp.serv,.int .i64 x.skills,.int .i64 x.penalty,.int .i64 x.split,.int .i64 x.last,.int .i64 x.now,.bool x.off]
def Yj (x:Ord):PV:= .agg [.str x.name,.list x.load_c (x.load.map eI),.int .i64 x.pick.place,.int .i64 x.pick.opn,.int .i64 x.pick.cls,.int .i64 x.pick.serv,.int .i64 x.drp.place,.int .i64 x.drp.opn,.int .i64 x.drp.cls,.int .i64 x.drp.serv,.int .i64 x.skills,.int .i64 x.penalty,.int .i64 x.split,.int .i64 x.last,.int .i64 x.now,.bool x.off]
@[go_sem] theorem ZlH (x:Ord):Yj x= .agg [.str x.name,.list x.load_c (x.load.map eI),.int .i64 x.pick.place,.int .i64 x.pick.opn,.int .i64 x.pick.cls,.int .i64 x.pick.serv,.int .i64 x.drp.place,.int .i64 x.drp.opn,.int .i64 x.drp.cls,.int .i64 x.drp.serv,.int .i64 x.skills,.int .i64 x.penalty,.int .i64 x.split,.int .i64 x.last,.int .i64 x.now,.bool x.off]:=Zk rfl rfl
@[go_sem] theorem ZjG (l:List Ord):AO 16 (l.map Yj)=true:=Ka fun _=>rfl
def Ord.wf (B:Nat) (x:Ord):Prop:=x.name.length<=B/\x.load.length<=B/\(∀n∈x.load,QA n)/\Stp.wf B x.pick/\Stp.wf B x.drp/\QA x.skills/\QA x.penalty/\QA x.split/\QA x.last/\QA x.now
theorem iU {B m cs} (h:Wz Tryz.prog B m 75 cs): ∃x:Ord,cs=Znq x/\x.wf B:=by
 obtain ⟨h1,m',h2⟩:=Uk xD ZhL h;obtain ⟨a0,a1,a2,a3,a4,a5,a6,a7,a8,a9,a10,a11,a12,a13,a14,a15,rfl⟩:=Zjs h1;obtain ⟨n0,e0,w0,_⟩:=FF Tryz.underlying9 (h2 (0,9) Zb);obtain ⟨y1,e1,w1,_,z1⟩:=YN Tryz.underlying34 (h2 (1,34) Zb);obtain ⟨n1,rfl,u1⟩:=M3 z1;obtain ⟨n2,e2,w2⟩:=M4 (h2 (2,73) Zb);obtain ⟨n3,e3,w3⟩:=M4 (h2 (6,73) Zb);obtain ⟨n4,e4,w4⟩:=Z2 Tryz.underlying3 (h2 (10,3) Zb);obtain ⟨n5,e5,w5⟩:=Z2 Tryz.underlying3 (h2 (11,3) Zb);obtain ⟨n6,e6,w6⟩:=Z2 Tryz.underlying3 (h2 (12,3) Zb)
 obtain ⟨n7,e7,w7⟩:=Z2 Tryz.underlying3 (h2 (13,3) Zb);obtain ⟨n8,e8,w8⟩:=Z2 Tryz.underlying3 (h2 (14,3) Zb);obtain ⟨n9,e9⟩:=T9 Tryz.underlying4 (h2 (15,4) Zb);simp [wJ,wK,Znr,TR,ZhM,A6,A6] at e0 e1 e2 e3 e4 e5 e6 e7 e8 e9;subst e0;subst e1;obtain ⟨rfl,rfl,rfl,rfl⟩:=e2;obtain ⟨rfl,rfl,rfl,rfl⟩:=e3;subst e4;subst e5;subst e6;subst e7;subst e8;subst e9;exact ⟨⟨n0,false,n1,n2,n3,n4,n5,n6,n7,n8,n9⟩,rfl,w0,by grind,u1,w2,w3,XO w4,XO w5,XO w6,XO w7,XO w8⟩
theorem rN {B v} (h:FitV Tryz.prog B 75 v): ∃x:Ord,v=Yj x/\x.wf B:=by
 obtain ⟨k,cs,h,e⟩:=h.out;obtain ⟨x,rfl,hw⟩:=iU h;exact ⟨x,e.trans (by rw [J8,if_pos (Us xD)];rfl),hw⟩
structure Inst where
 net:Net
 types_c:Bool
 types:List (Typ)
 orders_c:Bool
 orders:List (Ord)
 apart_c:Bool
 apart:List (Int×Int)
 before_c:Bool
 before:List (Int×Int)
 deriving Inhabited
def ZhC (x:Inst):List PV:= [.list x.net.places_c (x.net.places.map eS),.list x.net.arcs_c (x.net.arcs.map VS),.list x.types_c (x.types.map X4),.list x.orders_c (x.orders.map Yj),.list x.apart_c (x.apart.map eP),.list x.before_c (x.before.map eP)]
def Zv (x:Inst):PV:= .agg [.list x.net.places_c (x.net.places.map eS),.list x.net.arcs_c (x.net.arcs.map VS),.list x.types_c (x.types.map X4),.list x.orders_c (x.orders.map Yj),.list x.apart_c (x.apart.map eP),.list x.before_c (x.before.map eP)]
@[go_sem] theorem ZhO (x:Inst):Zv x= .agg [.list x.net.places_c (x.net.places.map eS),.list x.net.arcs_c (x.net.arcs.map VS),.list x.types_c (x.types.map X4),.list x.orders_c (x.orders.map Yj),.list x.apart_c (x.apart.map eP),.list x.before_c (x.before.map eP)]:=Zk rfl rfl
def Inst.wf (B:Nat) (x:Inst):Prop:=Net.wf B x.net/\x.types.length<=B/\(∀y∈x.types,Typ.wf B y)/\x.orders.length<=B/\(∀y∈x.orders,Ord.wf B y)/\x.apart.length<=B/\(∀p∈x.apart,QA p.1/\QA p.2)/\x.before.length<=B/\(∀p∈x.before,QA p.1/\QA p.2)
theorem T8 {B m cs} (h:Wz Tryz.prog B m 30 cs): ∃x:Inst,cs=ZhC x/\x.wf B:=by
 obtain ⟨h1,m',h2⟩:=Uk xB ZhJ h;obtain ⟨a0,a1,a2,a3,a4,a5,rfl⟩:=Zjt h1;obtain ⟨n0,e0,w0⟩:=iT (h2 (0,25) Zb);obtain ⟨y1,e1,w1,_,z1⟩:=YN Tryz.underlying26 (h2 (2,26) Zb);obtain ⟨n1,rfl,u1⟩:=Uc (f:=X4) fun y hy=>rO (z1 y hy);obtain ⟨y2,e2,w2,_,z2⟩:=YN Tryz.underlying27 (h2 (3,27) Zb);obtain ⟨n2,rfl,u2⟩:=Uc (f:=Yj) fun y hy=>rN (z2 y hy);obtain ⟨y3,e3,w3,_,z3⟩:=YN Tryz.underlying28 (h2 (4,28) Zb);obtain ⟨n3,rfl,u3⟩:=Uc (f:=eP) fun y hy=>wL (z3 y hy)
 obtain ⟨y4,e4,w4,_,z4⟩:=YN Tryz.underlying28 (h2 (5,28) Zb);obtain ⟨n4,rfl,u4⟩:=Uc (f:=eP) fun y hy=>wL (z4 y hy);simp [ZhI,ZhH,ZhG,wI,ZhD] at e0 e1 e2 e3 e4;obtain ⟨rfl,rfl⟩:=e0;subst e1;subst e2;subst e3;subst e4;exact ⟨⟨n0,false,n1,false,n2,false,n3,false,n4⟩,rfl,w0,by grind,u1,by grind,u2,by grind,u3,by grind,u4⟩
theorem iN {B v} (h:FitV Tryz.prog B 30 v): ∃x:Inst,v=Zv x/\x.wf B:=by
 obtain ⟨k,cs,h,e⟩:=h.out;obtain ⟨x,rfl,hw⟩:=T8 h;exact ⟨x,e.trans (by rw [J8,if_pos (Us xB)];rfl),hw⟩
structure Vis where
 order:Int
 drp:Bool
 deriving Inhabited
def Z8 (x:Vis):PV:= .agg [.int .i64 x.order,.bool x.drp]
@[go_sem] theorem RY (x:Vis):Z8 x= .agg [.int .i64 x.order,.bool x.drp]:=Zk rfl rfl
@[go_sem] theorem Zej (l:List Vis):BZ 2 (l.map Z8)=true:=B0 (f:=Z8) (S:=2) (fun _=>rfl) l
@[go_sem] theorem ZjJ (l:List Vis):AO 2 (l.map Z8)=true:=Ka fun _=>rfl
structure Rte where
 typ:Int
 start:Int
 rests_c:Bool
 rests:List (Bool)
 visits_c:Bool
 visits:List (Vis)
 deriving Inhabited
def Wy (x:Rte):PV:= .agg [.int .i64 x.typ,.int .i64 x.start,.list x.rests_c (x.rests.map eB),.list x.visits_c (x.visits.map Z8)]
@[go_sem] theorem ZlJ (x:Rte):Wy x= .agg [.int .i64 x.typ,.int .i64 x.start,.list x.rests_c (x.rests.map eB),.list x.visits_c (x.visits.map Z8)]:=Zk rfl rfl
structure Tim where
 arr:Int
 beg:Int
 dep:Int
 rest:Bool
 deriving Inhabited
def eTim (x:Tim):PV:= .agg [.int .i64 x.arr,.int .i64 x.beg,.int .i64 x.dep,.bool x.rest]
@[go_sem] theorem ZlO (x:Tim):eTim x= .agg [.int .i64 x.arr,.int .i64 x.beg,.int .i64 x.dep,.bool x.rest]:=Zk rfl rfl
@[go_sem] theorem ZjH (l:List Tim):AO 4 (l.map eTim)=true:=Ka fun _=>rfl
structure She where
 rest:Bool
 dep:Int
 times_c:Bool
 times:List (Tim)
 fin:Int
 miles:Int
 deriving Inhabited
def Fu (x:She):PV:= .agg [.bool x.rest,.int .i64 x.dep,.list x.times_c (x.times.map eTim),.int .i64 x.fin,.int .i64 x.miles]
@[go_sem] theorem ZlL (x:She):Fu x= .agg [.bool x.rest,.int .i64 x.dep,.list x.times_c (x.times.map eTim),.int .i64 x.fin,.int .i64 x.miles]:=Zk rfl rfl
structure Sco where
 cost:Int
 moved:Int
 other:Int
 work:Int
 deriving Inhabited
def Er (x:Sco):PV:= .agg [.int .i64 x.cost,.int .i64 x.moved,.int .i64 x.other,.int .i64 x.work]
@[go_sem] theorem ZlK (x:Sco):Er x= .agg [.int .i64 x.cost,.int .i64 x.moved,.int .i64 x.other,.int .i64 x.work]:=Zk rfl rfl
structure Pln where
 routes_c:Bool
 routes:List (Rte)
 unserved_c:Bool
 unserved:List (Int)
 deriving Inhabited
def JO (x:Pln):PV:= .agg [.list x.routes_c (x.routes.map Wy),.list x.unserved_c (x.unserved.map eI)]
@[go_sem] theorem ZlI (x:Pln):JO x= .agg [.list x.routes_c (x.routes.map Wy),.list x.unserved_c (x.unserved.map eI)]:=Zk rfl rfl
structure Col where
 typ:Int
 set:Int
 price:Int
 route:Rte
 deriving Inhabited
def GX (x:Col):List PV:= [.int .i64 x.typ,.int .i64 x.set,.int .i64 x.price,.int .i64 x.route.typ,.int .i64 x.route.start,.list x.route.rests_c (x.route.rests.map eB),.list x.route.visits_c (x.route.visits.map Z8)]
def Xp (x:Col):PV:= .agg [.int .i64 x.typ,.int .i64 x.set,.int .i64 x.price,.int .i64 x.route.typ,.int .i64 x.route.start,.list x.route.rests_c (x.route.rests.map eB),.list x.route.visits_c (x.route.visits.map Z8)]
@[go_sem] theorem ZlD (x:Col):Xp x= .agg [.int .i64 x.typ,.int .i64 x.set,.int .i64 x.price,.int .i64 x.route.typ,.int .i64 x.route.start,.list x.route.rests_c (x.route.rests.map eB),.list x.route.visits_c (x.route.visits.map Z8)]:=Zk rfl rfl
structure Itm where
 kind:Int
 a:Int
 deriving Inhabited
def Yb (x:Itm):PV:= .agg [.int .i64 x.kind,.int .i64 x.a]
@[go_sem] theorem ZlE (x:Itm):Yb x= .agg [.int .i64 x.kind,.int .i64 x.a]:=Zk rfl rfl
@[go_sem] theorem Zeh (l:List Itm):BZ 2 (l.map Yb)=true:=B0 (f:=Yb) (S:=2) (fun _=>rfl) l
theorem own : ownKnob Tryz.prog.godebug=none:=Ze
theorem sJ : laidOutB Tryz.prog=true:=Ze
def zeroI : Inst:=⟨⟨true,[],true,[]⟩,true,[],true,[],true,[],true,[]⟩
abbrev Flt := Int×List UInt8
def eF (f:Flt):PV:= .agg [.int .i64 f.1,.str f.2]
@[go_sem] theorem ZpY (f:Flt):eF f= .agg [.int .i64 f.1,.str f.2]:=Zk rfl rfl
@[go_sem] theorem Zoa (l:List Flt):AO 2 (l.map eF)=true:=Ka fun _=>rfl
def dec (n:Nat):List UInt8:=if h:n<10 then [UInt8.ofNat (48+n)] else dec (n / 10)++ [UInt8.ofNat (48+n%10)]
termination_by n
decreasing_by omega
theorem RT : ∀(k n:Nat),n<k->(dec n).length<=n+1:=by
 intro k
 induction k with
 | zero=>omega
 | succ k ih =>
  grind [dec]
theorem Bt : ∀(d n:Nat),n<10^(d+1)->(dec n).length<=d+1:=by
 intro d
 induction d with
 | zero=>simp_all [dec]
 | succ d ih =>
  grind [dec]
def A7 (n:Int):List UInt8:=if n<0 then 45::dec n.natAbs else dec n.natAbs
theorem Jp (n:Int) (h:QA n):(A7 n).length<=20:=by
 have h1:n.natAbs<10^(18+1):=Za
 have:=Bt 18 n.natAbs h1
 grind [A7]
structure FR {α:Type} (p:α->Prop) (C:Prop) (b:Nat) (l:List α):Prop where
 len:l.length<=b
 emp:l= []↔C
 all: ∀x∈l,p x
theorem FR.nil {α:Type} {p:α->Prop} {C:Prop} {b:Nat} (h:C):FR p C b []:=⟨Zb,by simp [h],Zb⟩
theorem FR.no {α:Type} {p:α->Prop} {C c:Prop} {b:Nat} {l:List α} (h:FR p C b l) (hc:c):FR p (C/\c) (b+1) l:=⟨by have:=h.len;omega,by rw [h.emp];simp [hc],h.all⟩
theorem FR.yes {α:Type} {p:α->Prop} {C c:Prop} {b:Nat} {l:List α} {x:α} (h:FR p C b l) (hc: ¬c) (hx:p x):FR p (C/\c) (b+1) (l++ [x]) :=
 ⟨by have:=h.len;simp;omega,by simp [hc],fun y hy=>by
  rcases Xi.1 hy with hy | hy
  ·exact h.all y hy
  grind⟩
theorem FR.app {α:Type} {p:α->Prop} {C D:Prop} {b d:Nat} {l m:List α} (h:FR p C b l) (k:FR p D d m):FR p (C/\D) (b+d) (l++m) :=
 ⟨by have:=h.len;have:=k.len;simp;omega,by rw [V3,h.emp,k.emp],fun y hy=>by
  rcases Xi.1 hy with hy | hy
  ·exact h.all y hy
  ·exact k.all y hy⟩
theorem FR.to {α:Type} {p:α->Prop} {C D:Prop} {b d:Nat} {l:List α} (h:FR p C b l) (hb:b<=d) (hc:C↔D):FR p D d l:=⟨AG h.len hb,h.emp.trans hc,h.all⟩
theorem Zr {p:Nat->Prop} {k:Nat} :(∀j,j<k+1->p j)↔((∀j,j<k->p j)/\p k) :=
 ⟨fun h=>⟨fun j hj=>h j Za,h k Za⟩,fun h j hj=>by
  grind⟩
def JT (c:UInt8):Bool:=decide (48<=c.toNat/\c.toNat<=57)
def Jt (c:UInt8):Bool:=decide (97<=c.toNat/\c.toNat<=122)||decide (65<=c.toNat/\c.toNat<=90)||decide (c.toNat=95)
def nameOk (s:List UInt8):Bool:=decide (1<=s.length)&&decide (s.length<=16)&& !JT (nth s 0)&&s.all fun c=>Jt c||JT c
def rng (n lo hi:Int):Bool:=decide (lo<=n/\n<=hi)
def L9 (n:Int):Bool:=rng n 0 4096
def mH (l:List Pt) (i:Nat):Prop:=(0<=(nth l i).t/\(nth l i).t<=4096/\(nth l i).t<=(nth l i).a/\(nth l i).a<=(nth l i).t+4096)/\(0<i->(nth l (i-1)).t<(nth l i).t/\(nth l (i-1)).a<=(nth l i).a)
def W9 (l:List Pt):Prop:=(1<=l.length/\l.length<=16)/\ ∀i,i<l.length->mH l i
def K1 (l:List Pt) (i:Nat):Prop:=L9 (nth l i).t=true/\L9 (nth l i).a=true/\(0<i->(nth l (i-1)).t<(nth l i).t)
def Mv (n:Net) (i:Nat):Prop :=
 ((((((0<=(nth n.arcs i).src/\(nth n.arcs i).src<n.places.length/\0<=(nth n.arcs i).dst/\(nth n.arcs i).dst<n.places.length) /\
 (0<=(nth n.arcs i).prof/\(nth n.arcs i).prof<=7/\0<=(nth n.arcs i).miles/\(nth n.arcs i).miles<=10000/\(nth n.arcs i).src≠(nth n.arcs i).dst)) /\
 (∀k,k<i-> ¬((nth n.arcs i).src=(nth n.arcs k).src/\(nth n.arcs i).dst=(nth n.arcs k).dst/\(nth n.arcs i).prof=(nth n.arcs k).prof))) /\
 W9 (nth n.arcs i).travel)/\(nth n.arcs i).slow.length<=16)/\ ∀k,k<(nth n.arcs i).slow.length->K1 (nth n.arcs i).slow k)
def PW (n:Net) (i:Nat):Prop:=nameOk (nth n.places i)=true/\ ∀k,k<i->nth n.places k≠nth n.places i
def KU (n:Net):Prop:=n.places.length<=24/\ ∀i,i<n.places.length->PW n i
def netOk (n:Net):Prop:=(KU n/\n.arcs.length<=1024)/\ ∀i,i<n.arcs.length->Mv n i
set_option maxRecDepth 8000
set_option maxHeartbeats 4000000
theorem RW (c:UInt8):PC 157 [.p (.int .u8 (c.toNat:Nat))] (.bool (JT c)):=by
 refine Zd Tryz.func157 rfl ZaX ?_;simp (disch:=omega) only [Tryz.f157,go_sem,seval];refine gT ?_ ?_<;>intro h<;>simp (disch:=omega) only [Sh.out h,go_sem,seval,↓reduceIte]
 all_goals (simp [JT];first | done | omega | grind)
theorem kK (c:UInt8):PC 158 [.p (.int .u8 (c.toNat:Nat))] (.bool (Jt c)):=by
 refine Zd Tryz.func158 rfl ZaY ?_;simp (disch:=omega) only [Tryz.f158,go_sem,seval]
 repeat' (first | (refine gT ?_ ?_<;>intro hq<;>simp (disch:=omega) only [Sh.out hq,go_sem,seval,↓reduceIte]) | (refine gF ?_ ?_<;>intro hq<;>simp (disch:=omega) only [Sh.out hq,go_sem,seval,↓reduceIte]) | (refine UV (fun hq=> ?_) (fun hq=> ?_)<;>(try simp only [Zs,XH,Z5] at hq)<;>simp (disch:=omega) only [Sh.out hq,go_sem,seval]))
 all_goals (simp [Jt];first | done | omega | (rw [Wp];simp;omega))
theorem PK (s:List UInt8) (hs:s.length<=1048576):PC 109 [.p (.str s)] (.bool (nameOk s)):=by
 refine Zd Tryz.func109 rfl Zap ?_;simp (disch:=omega) only [Tryz.f109,go_sem,seval];refine gF ?_ ?_<;>intro h<;>simp (disch:=omega) only [Sh.out h,go_sem,seval,↓reduceIte]
 ·grind [nameOk]
 ·refine gF ?_ ?_<;>intro h2<;>simp (disch:=omega) only [Sh.out h2,go_sem,seval]
  ·grind [nameOk]
  ·have g1:1<=s.length:=Za
   have g2:s.length<=16:=Za
   refine (RW (nth s 0)).use (Zc ?_);refine cD ?_ ?_<;>intro h3<;>simp (disch:=omega) only [Sh.out h3,go_sem,seval]
   ·simp [nameOk,h3]
   ·refine Zl [0] (fun k:Nat=> [(3,.p (.int .i64 k))]) (fun _=> []) (fun k=>k<=s.length/\ ∀j,j<k->(Jt (nth s j)||JT (nth s j))=true) (fun k=>s.length-k) 0 Zb (Weak.mk ?_) ?_
    ·simp (disch:=omega) only [go_sem,seval,↓reduceIte]
    ·rintro k ⟨hk,hno⟩;refine Zc ?_
     have hall: ∀j,j<s.length->(Jt (nth s j)||JT (nth s j))=false->nameOk s=false:=fun j hj e=>by
      grind [Zh,nameOk]
     refine cD ?_ ?_<;>intro h4<;>simp (disch:=omega) only [Sh.out h4,go_sem,seval,↓reduceIte]
     ·have hk2:k<s.length:=Za
      refine (kK (nth s k)).use (Zc ?_);refine gT ?_ ?_<;>intro h5<;>simp (disch:=omega) only [Sh.out h5,go_sem,seval,↓reduceIte]
      ·refine (RW (nth s k)).use (Zc ?_);refine cD ?_ ?_<;>intro h6<;>simp (disch:=omega) only [Sh.out h6,go_sem,seval,↓reduceIte]
       ·grind
       ·simp only [XP] at h6;exact ⟨k+1,⟨Za,Zr.2 ⟨hno,by simp [h6]⟩⟩,Za,wk⟩
      ·simp only [XP] at h5;exact ⟨k+1,⟨Za,Zr.2 ⟨hno,by simp [h5]⟩⟩,Za,wk⟩
     ·have:s.all (fun c=>Jt c||JT c)=true:=by
       rw [ZA];intro c hc;obtain ⟨j,hj,rfl⟩:=ZN.1 hc
       grind [Zh]
      grind [nameOk]
theorem Ai (n:Int) (hn:QA n):PC 76 [.p (.int .i64 n)] (.str (A7 n)):=by
 refine Zd Tryz.func76 rfl Zi8 ?_;simp (disch:=omega) only [Tryz.f76,go_sem,seval]
 have h19:n.natAbs<10^(18+1):=Za
 have hdl:=Bt 18 n.natAbs h19
 refine Z0 [7] [0] (fun q:Int×List UInt8×Bool=> [(3,.p (.str q.2.1)),(4,.p (.int .i64 q.1)),(5,.p (.bool q.2.2))]) (fun _=> [])
  (fun q=>QA q.1/\(q.2.2=true->dec q.1.natAbs++q.2.1=dec n.natAbs)/\(q.2.2=false->q.2.1=dec n.natAbs)) (fun q=>if q.2.2 then q.1.natAbs+1 else 0) (n,[],true) (by simp;omega) (Weak.mk ?_) ?_
 ·simp (disch:=omega) only [go_sem,seval,↓reduceIte]
 ·rintro ⟨m,s,again⟩ ⟨hm,h1,h2⟩;simp only at hm h1 h2;refine Zc ?_
  cases again with
  | false =>
   refine Zc ?_;have h2:=h2 rfl
   have hl2:([45]:List UInt8).length+(dec n.natAbs).length<=9223372036854775807:=by simp;omega
   refine cD ?_ ?_<;>intro h3<;>simp (disch:=omega) only [Sh.out h3,go_sem,seval]
   ·simp (disch:=omega) only [A7,h2,h3,nA hl2,go_sem,seval,↓reduceIte]
   ·simp (disch:=omega) only [A7,h2,h3,go_sem,seval,↓reduceIte]
  | true =>
   have h1:=h1 rfl
   have hls:(dec m.natAbs).length+s.length=(dec n.natAbs).length:=by grind
   refine Zc ?_
   have e1:(m.tmod 10).natAbs=m.natAbs%10:=Zb
   have e2:(m.tdiv 10).natAbs=m.natAbs / 10:=by grind
   have e3:m.tmod 10<10/\ -10<m.tmod 10:=⟨Int.tmod_lt_of_pos _ (by decide),Za⟩;refine ZJ [0,3,4] (fun _:Unit=> [(6,.p (.int .i64 ((m.natAbs%10:Nat):Int)))]) (fun _=> []) (fun _=>True) ?_ ?_
   ·refine Zc ?_;refine cD ?_ ?_<;>intro h3<;>simp (disch:=omega) only [Sh.out h3,go_sem,seval,↓reduceIte]
    ·exact ⟨(),Weak.mk (by refine Zc ?_;simp;omega)⟩
    ·exact ⟨(),Weak.mk (by refine Zc ?_;simp;omega)⟩
   ·intro _ _;refine Zg [] _ _ _ _ ?_;simp (disch:=first | omega | (simp only [ZD,ZF,ZG,ZY,Xh,XI]<;>omega)) only [go_sem,seval,↓reduceIte]
    have e4:(48+((m.natAbs%10:Nat):Int)).toNat=48+m.natAbs%10:=Za
    refine ⟨(m.tdiv 10,UInt8.ofNat (48+m.natAbs%10)::s,decide (m.tdiv 10≠0)),⟨?_,?_,?_⟩,?_,Weak.mk ?_⟩
    ·omega
    ·simp only [Zs];intro hne
     have h10: ¬m.natAbs<10:=Za
     rw [e2,<- h1,dec.eq_def m.natAbs,dif_neg h10];simp
    ·simp only [XH,Z5];intro hz
     have h10:m.natAbs<10:=Za
     rw [<- h1,dec.eq_def m.natAbs,dif_pos h10,CH h10];simp
    ·grind
    ·simp (disch:=omega) only [e4,go_sem,seval]
def pF (k:Nat) (f:Flt):Prop:=f.2.length<=k
theorem Xe {P:Program} {id:Nat} {l:List Oper} {fr:List V} {H:List AM.Obj} {Q:Exit->List V->List AM.Obj->Prop} {t} (h:hs P (l.map (·.dst)) H (Zu (fun fr'=>Q .normal (Lk fr') H) ⟨⟩) l (Lk fr)) (hm:P.follows .mixedOrders=true:=by exact mixed) (hB:W7 (List.toArray l) l.length=true:=by kernel_rfl) (hR:KW (List.toArray l) l.length=true:=by kernel_rfl):AWP P (.region id (Zu (List.toArray l) t) true) fr H Q:=O1 hm hB hR h
theorem gM (l:List Pt) (c:Bool) (hl:l.length<=1048576):ACalls Tryz.prog 110 [.p (.list c (l.map Hs))] [] fun x H'=> ∃m:List Flt,FR (pF 20) (W9 l) (2*l.length+1) m/\x= .sl 0 0 m.length m.length/\H'= [.elems 2 (m.map eF)]:=by
 refine ZQ [2] Tryz.func110 rfl Zaq ?_;simp (disch:=omega) only [Tryz.f110,go_sem,seval];refine Zp (Weak.ofNil 3 2 (by simp (disch:=omega) only [go_sem,seval]) Zb (Weak.refl _ _ _)) ?_;refine ZJ [0] (fun m:List Flt=> [(3,.sl 0 0 m.length m.length)]) (fun m=> [.elems 2 (m.map eF)]) (fun m=>FR (pF 20) (1<=l.length/\l.length<=16) 1 m) ?_ ?_
 ·refine Zc ?_
  repeat' (first | (refine Vv (fun hq=> ?_) (fun hq=> ?_)<;>(try simp only [Zs,XH,Z5] at hq)<;>simp (disch:=omega) only [Sh.out hq,go_sem,seval]) | (refine gF ?_ ?_<;>intro hq<;>simp (disch:=omega) only [Sh.out hq,go_sem,seval,↓reduceIte]) | (refine cD ?_ ?_<;>intro hq<;>simp (disch:=omega) only [Sh.out hq,go_sem,seval,↓reduceIte]))
  ·exact ⟨[(4,[])],⟨Zb,by simp;omega,by simp [pF]⟩,wk⟩
  ·exact ⟨[(4,[])],⟨Zb,by simp;omega,by simp [pF]⟩,wk⟩
  ·exact ⟨[],FR.nil Za,wk⟩
 ·intro m hm;refine Zg [] _ _ _ _ (Zc ?_);refine Z0 [8] [0] (fun q:Nat×List Flt=> [(3,.sl 0 0 q.2.length q.2.length),(4,.p (.int .i64 q.1))]) (fun q=> [.elems 2 (q.2.map eF)]) (fun q=>q.1<=l.length/\FR (pF 20) ((1<=l.length/\l.length<=16)/\ ∀j,j<q.1->mH l j) (2*q.1+1) q.2) (fun q=>l.length-q.1) (0,m) ⟨Zb,hm.to Zb Zb⟩ (Weak.mk ?_) ?_
  ·simp (disch:=omega) only [go_sem,seval,↓reduceIte]
  ·rintro ⟨k,m⟩ ⟨hk,hm⟩;simp only at hk hm;have hml:=hm.len;refine Zc ?_;refine cD ?_ ?_<;>intro h<;>simp (disch:=omega) only [Sh.out h,go_sem,seval,↓reduceIte]
   ·have hk2:k<l.length:=Za
    refine ZJ [0,4,5] (fun m:List Flt=> [(3,.sl 0 0 m.length m.length)]) (fun m=> [.elems 2 (m.map eF),.cells [.p (.int .i64 (nth l k).t),.p (.int .i64 (nth l k).a)]])
     (fun m=>FR (pF 20) (((1<=l.length/\l.length<=16)/\ ∀j,j<k->mH l j)/\(0<=(nth l k).t/\(nth l k).t<=4096/\(nth l k).t<=(nth l k).a/\(nth l k).a<=(nth l k).t+4096)) (2*k+1+1) m) ?_ ?_
    ·refine Zc ?_
     have hI:QA (k:Int):=Za
     have hdl:=Jp k hI
     repeat' (first | (refine Vv (fun hq=> ?_) (fun hq=> ?_)<;>(try simp only [Zs,XH,Z5] at hq)<;>simp (disch:=omega) only [Sh.out hq,go_sem,seval]) | (refine gF ?_ ?_<;>intro hq<;>simp (disch:=omega) only [Sh.out hq,go_sem,seval,↓reduceIte]) | (refine cD ?_ ?_<;>intro hq<;>simp (disch:=omega) only [Sh.out hq,go_sem,seval,↓reduceIte]))
     all_goals try exact ⟨m,hm.no Za,wk⟩
     all_goals
      refine (Ai k hI).use ?_;simp (disch:=omega) only [go_sem,seval,↓reduceIte];exact ⟨m++ [(2,A7 k)],hm.yes Za (by simp only [pF];omega),wk⟩
    ·intro m hm;have hml:=hm.len;refine Zg [] _ _ _ _ (Zc ?_)
     have hI:QA (k:Int):=Za
     have hdl:=Jp k hI;refine Xe (Zc ?_)
     repeat' (first | (refine gT ?_ ?_<;>intro hq<;>simp (disch:=omega) only [Sh.out hq,go_sem,seval,↓reduceIte]) | (refine gF ?_ ?_<;>intro hq<;>simp (disch:=omega) only [Sh.out hq,go_sem,seval,↓reduceIte]) | (refine cD ?_ ?_<;>intro hq<;>simp (disch:=omega) only [Sh.out hq,go_sem,seval,↓reduceIte]))
     all_goals try exact ⟨(k+1,m),⟨by simp only;omega,(hm.no (c:=0<k->(nth l (k-1)).t<(nth l k).t/\(nth l (k-1)).a<=(nth l k).a) Za).to (by simp only;omega) (by simp only [Zr,mH,and_assoc])⟩,by simp only;omega,wk⟩
     all_goals
      refine (Ai k hI).use ?_;simp (disch:=omega) only [go_sem,seval,↓reduceIte];exact ⟨(k+1,m++ [(13,A7 k)]),⟨by simp only;omega,(hm.yes (c:=0<k->(nth l (k-1)).t<(nth l k).t/\(nth l (k-1)).a<=(nth l k).a) Za (by simp only [pF];omega)).to (by simp only;omega) (by simp only [Zr,mH,and_assoc])⟩,by simp only;omega,wk⟩
   ·have hkn:k=l.length:=Za
    subst hkn;exact ⟨m,hm.to Za (by rw [W9]),0,by simp (disch:=omega) only [go_sem,seval]⟩
set_option maxHeartbeats 8000000
theorem pF.mono {j k:Nat} (h:j<=k) {f:Flt} (hf:pF j f):pF k f:=AG hf h
theorem FR.pmono {α:Type} {p q:α->Prop} {C:Prop} {b:Nat} {l:List α} (h:FR p C b l) (hp: ∀x,p x->q x):FR q C b l:=⟨h.len,h.emp,fun x hx=>hp x (h.all x hx)⟩
theorem Ov (n:Int):PC 111 [.p (.int .i64 n)] (.bool (L9 n)):=by
 refine Zd Tryz.func111 rfl Zar ?_;simp (disch:=omega) only [Tryz.f111,go_sem,seval]
 repeat' (first | (refine gT ?_ ?_<;>intro hq<;>simp (disch:=omega) only [Sh.out hq,go_sem,seval,↓reduceIte]) | (refine Uf (fun hq=> ?_) (fun hq=> ?_)<;>(try simp only [Zs,XH,Z5] at hq)<;>simp (disch:=omega) only [Sh.out hq,go_sem,seval]) | (refine UV (fun hq=> ?_) (fun hq=> ?_)<;>(try simp only [Zs,XH,Z5] at hq)<;>simp (disch:=omega) only [Sh.out hq,go_sem,seval]))
 all_goals (simp [L9,rng];first | done | omega | (rw [Wp];simp;omega))
def Z7 (n:Net):List AM.Obj:= [.cells [.p (.list n.places_c (n.places.map eS)),.p (.list n.arcs_c (n.arcs.map VS))]]
theorem K5 {P Q:Prop} (h:Q) (e:Q->P:=by intro h;simp (disch:=omega) only [Z7,go_sem,seval];exact h):P:=e h
theorem Pj (n:Net) (hp:n.places.length<=1048576) (hs: ∀s∈n.places,s.length<=1048576):ACalls Tryz.prog 72 [.p (Cb n)] [] fun x H'=> ∃m:List Flt,FR (pF 26) (KU n) (n.places.length+1) m/\x= .sl 0 0 m.length m.length/\H'= [.elems 2 (m.map eF)]:=by
 refine ZQ [2] Tryz.func72 rfl Zi4 ?_;simp (disch:=omega) only [Tryz.f72,go_sem,seval];refine Zp (Weak.ofNil 3 2 (by simp (disch:=omega) only [go_sem,seval]) Zb (Weak.refl _ _ _)) ?_;refine ZJ [1] (fun m:List Flt=> [(3,.sl 1 0 m.length m.length)]) (fun m=>Z7 n++ [.elems 2 (m.map eF)]) (fun m=>FR (pF 26) (n.places.length<=24) 1 m) ?_ ?_
 ·refine Zc ?_;refine ZR ?_ ?_<;>intro h
  ·exact ⟨[(4,[112,108,97,99,101,115])],⟨Zb,by simp;omega,by simp [pF]⟩,Weak.mk (by simp (disch:=omega) only [Z7,go_sem,seval])⟩
  ·exact ⟨[],FR.nil Za,Weak.mk (by simp (disch:=omega) only [Z7,go_sem,seval])⟩
 ·intro m hm;refine Zg [] _ _ _ _ (K5 ?_);refine Zl [1] (fun q:Nat×List Flt=> [(3,.sl 1 0 q.2.length q.2.length),(4,.p (.int .i64 q.1))]) (fun q=>Z7 n++ [.elems 2 (q.2.map eF)]) (fun q=>q.1<=n.places.length/\FR (pF 26) (n.places.length<=24/\ ∀j,j<q.1->PW n j) (q.1+1) q.2) (fun q=>n.places.length-q.1) (0,m) ⟨Zb,hm.to Zb Zb⟩ (Weak.mk ?_) ?_
  ·simp (disch:=omega) only [Z7,go_sem,seval]
  ·rintro ⟨k,m⟩ ⟨hk,hm⟩;simp only at hk hm;have hml:=hm.len;refine K5 ?_;refine cD ?_ ?_<;>intro h<;>simp (disch:=omega) only [Sh.out h,go_sem,seval,↓reduceIte]
   ·have hk2:k<n.places.length:=Za
    have hI:QA (k:Int):=Za
    have hdl:=Jp k hI;refine (Ai k hI).use (Zc ?_);simp (disch:=first | omega | (simp only [ZD,ZF,ZG,ZY,Xh,XI]<;>omega)) only [go_sem,seval,↓reduceIte];refine (PK (nth n.places k) (hs _ (by grind [Zh]))).use (Zc ?_);refine ZR ?_ ?_<;>intro h2
    ·simp only [XQ] at h2;exact ⟨(k+1,m++ [(5,[112,108,97,99,101,32]++A7 k)]),⟨Za,(hm.yes (c:=PW n k) (by rw [PW,h2];simp) (by simp [pF];omega)).to Zb (by grind)⟩,Za,wk⟩
    ·simp only [XP] at h2;refine Zl [1,3,4,5] (fun q:Nat×Bool=> [(6,.p (.bool q.2)),(7,.p (.int .i64 q.1))]) (fun _=>Z7 n++ [.elems 2 (m.map eF)]) (fun q=>q.1<=k/\(q.2=false↔ ∀j,j<q.1->nth n.places j≠nth n.places k)) (fun q=>k-q.1) (0,false) Zb (Weak.mk ?_) ?_
     ·simp (disch:=omega) only [Z7,go_sem,seval]
     ·rintro ⟨j,b⟩ ⟨hj,hb⟩;simp only at hj hb;refine K5 ?_;refine cD ?_ ?_<;>intro h3<;>simp (disch:=omega) only [Sh.out h3,go_sem,seval,↓reduceIte]
      ·refine ZC 14 mixed Ze Ze (Zc ?_)
       have hjn:j<n.places.length:=Za
       cases b with
       | true =>
        refine Zc ?_;exact ⟨(j+1,true),⟨Za,by grind⟩,Za,wk⟩
       | false =>
        refine Zc ?_;refine ⟨(j+1,decide (nth n.places j=nth n.places k)),⟨Za,by grind⟩,Za,wk⟩
      ·have hjk:j=k:=Za
       subst hjk
       cases b with
       | true =>
        refine Zc ?_
        have hno: ¬PW n j:=fun h5=>by have:=hb.2 h5.2;cases this
        exact ⟨(j+1,m++ [(6,[112,108,97,99,101,32]++A7 j)]),⟨Za,(hm.yes (c:=PW n j) hno (by simp [pF];omega)).to Zb (by grind)⟩,Za,wk⟩
       | false =>
        refine Zc ?_;exact ⟨(j+1,m),⟨Za,(hm.no (c:=PW n j) ⟨h2,hb.1 rfl⟩).to Zb (by grind)⟩,Za,wk⟩
   ·have hkn:k=n.places.length:=Za
    subst hkn;exact ⟨m,hm.to Za (by rw [KU]),1,by simp (disch:=omega) only [go_sem,seval]⟩
set_option maxHeartbeats 16000000
def Vc (a:Arc):AM.Obj:= .cells [.p (.int .i64 a.src),.p (.int .i64 a.dst),.p (.int .i64 a.prof),.p (.int .i64 a.miles),.p (.list a.travel_c (a.travel.map Hs)),.p (.list a.slow_c (a.slow.map Hs))]
abbrev WL (a b:Arc):Prop:=a.src=b.src/\a.dst=b.dst/\a.prof=b.prof
theorem BP {P Q:Prop} (h:Q) (e:Q->P:=by intro h;simp (disch:=omega) only [Z7,Vc,go_sem,seval];exact h):P:=e h
theorem qW (n:Net) (i:Nat) (hi:i<n.arcs.length) (hp:n.places.length<=1048576) (ha:n.arcs.length<=1048576) (ht:(nth n.arcs i).travel.length<=1048576) (hsl:(nth n.arcs i).slow.length<=1048576) :
  ACalls Tryz.prog 73 [.p (Cb n),.p (.int .i64 (i:Nat))] [] fun x H'=> ∃m:List Flt,FR (pF 26) (Mv n i) 4000000 m/\x= .sl 0 0 m.length m.length/\H'= [.elems 2 (m.map eF)]:=by
 refine ZQ [4] Tryz.func73 rfl Zi5 ?_;simp (disch:=omega) only [Tryz.f73,go_sem,seval]
 have hI:QA (i:Int):=Za
 have hdl:=Jp i hI;refine (Ai i hI).use (Zc ?_);simp (disch:=first | omega | (simp only [ZD,ZF,ZG,ZY,Xh,XI]<;>omega)) only [go_sem,seval,↓reduceIte]
 have hat:(97::114::99::32::A7 i).length<=26:=by simp;omega
 generalize hga:nth n.arcs i=a at ht hsl ⊢;generalize 97::114::99::32::A7 i=at' at hat ⊢;refine Zp (Weak.ofNil 5 2 (by simp (disch:=omega) only [go_sem,seval]) Zb (Weak.refl _ _ _)) ?_;refine ZJ [1,2,6,7] (fun m:List Flt=> [(5,.sl 2 0 m.length m.length)]) (fun m=>Z7 n++ [Vc a,.elems 2 (m.map eF)]) (fun m=>FR (pF 26) (0<=a.src/\a.src<n.places.length/\0<=a.dst/\a.dst<n.places.length) 1 m) ?_ ?_
 ·refine Zc ?_
  repeat' (first | (refine Vv (fun hq=> ?_) (fun hq=> ?_)<;>(try simp only [Zs,XH,Z5] at hq)<;>simp (disch:=omega) only [Sh.out hq,go_sem,seval]) | (refine gF ?_ ?_<;>intro hq<;>simp (disch:=omega) only [Sh.out hq,go_sem,seval]) | (refine cD ?_ ?_<;>intro hq<;>simp (disch:=omega) only [Sh.out hq,go_sem,seval]))
  all_goals try exact ⟨[],FR.nil Za,Weak.mk (by simp (disch:=omega) only [Z7,Vc,go_sem,seval])⟩
  all_goals exact ⟨[(11,at')],⟨Zb,by simp;omega,by simpa [pF] using hat⟩,Weak.mk (by simp (disch:=omega) only [Z7,Vc,go_sem,seval])⟩
 ·intro m hm;refine Zg [6] _ _ _ _ (BP ?_);have hml:=hm.len
  refine ZJ [1,2,6,7] (fun m:List Flt=> [(5,.sl 2 0 m.length m.length)]) (fun m=>Z7 n++ [Vc a,.elems 2 (m.map eF)])
   (fun m=>FR (pF 26) ((0<=a.src/\a.src<n.places.length/\0<=a.dst/\a.dst<n.places.length)/\(0<=a.prof/\a.prof<=7/\0<=a.miles/\a.miles<=10000/\a.src≠a.dst)) 2 m) ?_ ?_
  ·refine Zc ?_
   repeat' (first | (refine Vv (fun hq=> ?_) (fun hq=> ?_)<;>(try simp only [Zs,XH,Z5] at hq)<;>simp (disch:=omega) only [Sh.out hq,go_sem,seval]) | (refine gF ?_ ?_<;>intro hq<;>simp (disch:=omega) only [Sh.out hq,go_sem,seval]) | (refine cD ?_ ?_<;>intro hq<;>simp (disch:=omega) only [Sh.out hq,go_sem,seval]))
   all_goals try exact ⟨m,hm.no Za,Weak.mk (by simp (disch:=omega) only [Z7,Vc,go_sem,seval])⟩
   all_goals exact ⟨m++ [(2,at')],hm.yes Za (by simpa [pF] using hat),Weak.mk (by simp (disch:=omega) only [Z7,Vc,go_sem,seval])⟩
  ·clear hm hml;intro m hm;refine Zg [14] _ _ _ _ (BP ?_);have hml:=hm.len;refine Z0 [14] [1,2,5,6,7] (fun q:Nat×Bool=> [(8,.p (.bool q.2)),(9,.p (.int .i64 q.1))]) (fun _=>Z7 n++ [Vc a,.elems 2 (m.map eF)]) (fun q=>q.1<=i/\(q.2=false↔ ∀j,j<q.1-> ¬WL a (nth n.arcs j))) (fun q=>i-q.1) (0,false) Zb (Weak.mk ?_) ?_
   ·simp (disch:=omega) only [Z7,Vc,go_sem,seval]
   ·rintro ⟨k,b⟩ ⟨hk,hb⟩;simp only at hk hb;refine BP ?_;refine cD ?_ ?_<;>intro h<;>simp (disch:=omega) only [Sh.out h,go_sem,seval,↓reduceIte]
    ·have hkn:k<n.arcs.length:=Za
     cases b with
     | true =>
      refine Zc ?_;exact ⟨(k+1,true),⟨Za,by grind⟩,Za,wk⟩
     | false =>
      refine Zc ?_
      repeat' (first | (refine gT ?_ ?_<;>intro hq<;>simp (disch:=omega) only [Sh.out hq,go_sem,seval]) | (refine Uf (fun hq=> ?_) (fun hq=> ?_)<;>(try simp only [Zs,XH,Z5] at hq)<;>simp (disch:=omega) only [Sh.out hq,go_sem,seval]) | (refine UV (fun hq=> ?_) (fun hq=> ?_)<;>(try simp only [Zs,XH,Z5] at hq)<;>simp (disch:=omega) only [Sh.out hq,go_sem,seval]))
      all_goals refine ⟨(k+1,decide (WL a (nth n.arcs k))),⟨by simp only;omega,by rw [Zr,<- hb];simp⟩,by simp only;omega,Weak.mk ?_⟩
      all_goals simp (disch:=omega) only [go_sem,seval]
      all_goals simp [WL, *]
    ·have hki:k=i:=Za
     subst hki;have htw:(b=false↔ ∀j,j<k-> ¬WL a (nth n.arcs j)):=hb;clear hb hk h
     refine ZJ [6,7] (fun m:List Flt=> [(5,.sl 2 0 m.length m.length)]) (fun m=>Z7 n++ [Vc a,.elems 2 (m.map eF)])
      (fun m=>FR (pF 26) (((0<=a.src/\a.src<n.places.length/\0<=a.dst/\a.dst<n.places.length)/\(0<=a.prof/\a.prof<=7/\0<=a.miles/\a.miles<=10000/\a.src≠a.dst))/\ ∀j,j<k-> ¬WL a (nth n.arcs j)) 3 m) ?_ ?_
     ·refine Zc ?_
      cases b with
      | true =>
       refine Zc ?_;exact ⟨m++ [(6,at')],hm.yes (by grind) (by grind [pF]),Weak.mk (by simp (disch:=omega) only [Z7,Vc,go_sem,seval])⟩
      | false =>
       refine Zc ?_;exact ⟨m,hm.no (htw.1 rfl),Weak.mk (by simp (disch:=omega) only [Z7,Vc,go_sem,seval])⟩
     ·clear hm hml;intro m hm;refine Zg [21] _ _ _ _ (BP ?_);have hml:=hm.len;refine ((gM a.travel a.travel_c ht).frozenE).useV fun lt hlt=>Zc ?_;have hltl:=hlt.len
      refine Z0 [21] [6,7,11] (fun q:Nat×List Flt=> [(5,.sl 2 0 q.2.length q.2.length),(12,.p (.int .i64 q.1))]) (fun q=>Z7 n++ [Vc a,.elems 2 (q.2.map eF)])
       (fun q=>q.1<=lt.length/\FR (pF 26) ((((0<=a.src/\a.src<n.places.length/\0<=a.dst/\a.dst<n.places.length)/\(0<=a.prof/\a.prof<=7/\0<=a.miles/\a.miles<=10000/\a.src≠a.dst))/\ ∀j,j<k-> ¬WL a (nth n.arcs j))/\q.1=0) (3+q.1) q.2) (fun q=>lt.length-q.1) (0,m) ⟨Zb,hm.to Zb Zb⟩ (Weak.mk ?_) ?_
      ·simp (disch:=omega) only [Z7,Vc,go_sem,seval]
      ·clear hm hml;rintro ⟨j,m⟩ ⟨hj,hm⟩;simp only at hj hm;have hml:=hm.len;refine BP ?_;refine ZR ?_ ?_<;>intro h
       ·have hj2:j<lt.length:=Za
        exact ⟨(j+1,m++ [((nth lt j).1,at')]),⟨Za,(hm.yes (c:=False) Zb (by grind [pF])).to Za Zb⟩,Za,wk⟩
       ·have hjl:j=lt.length:=Za
        subst hjl;have hm2:=hm.to (d:=3+lt.length) (D:=(((0<=a.src/\a.src<n.places.length/\0<=a.dst/\a.dst<n.places.length)/\(0<=a.prof/\a.prof<=7/\0<=a.miles/\a.miles<=10000/\a.src≠a.dst))/\ ∀j,j<k-> ¬WL a (nth n.arcs j))/\W9 a.travel) (ZB _) (by rw [<- hlt.emp,List.eq_nil_iff_length_eq_zero]);clear hm
        refine ZJ [6,7] (fun m:List Flt=> [(5,.sl 2 0 m.length m.length)]) (fun m=>Z7 n++ [Vc a,.elems 2 (m.map eF)])
         (fun m=>FR (pF 26) (((((0<=a.src/\a.src<n.places.length/\0<=a.dst/\a.dst<n.places.length)/\(0<=a.prof/\a.prof<=7/\0<=a.miles/\a.miles<=10000/\a.src≠a.dst))/\ ∀j,j<k-> ¬WL a (nth n.arcs j))/\W9 a.travel)/\a.slow.length<=16) (4+lt.length) m) ?_ ?_
        ·refine Zc ?_;refine ZR ?_ ?_<;>intro h2
         ·exact ⟨m++ [(4,at')],(hm2.yes Za (by grind [pF])).to Za Iff.rfl,Weak.mk (by simp (disch:=omega) only [Z7,Vc,go_sem,seval])⟩
         ·exact ⟨m,(hm2.no Za).to Za Iff.rfl,Weak.mk (by simp (disch:=omega) only [Z7,Vc,go_sem,seval])⟩
        ·clear hm2 hml h hj;intro m hm;refine Zg [] _ _ _ _ (BP ?_)
         refine Zl [6,7] (fun q:Nat×List Flt=> [(5,.sl 2 0 q.2.length q.2.length),(13,.p (.int .i64 q.1))]) (fun q=>Z7 n++ [Vc a,.elems 2 (q.2.map eF)])
          (fun q=>q.1<=a.slow.length/\FR (pF 26) ((((((0<=a.src/\a.src<n.places.length/\0<=a.dst/\a.dst<n.places.length)/\(0<=a.prof/\a.prof<=7/\0<=a.miles/\a.miles<=10000/\a.src≠a.dst))/\ ∀j,j<k-> ¬WL a (nth n.arcs j))/\W9 a.travel)/\a.slow.length<=16)/\ ∀j,j<q.1->K1 a.slow j) (4+lt.length+q.1) q.2) (fun q=>a.slow.length-q.1) (0,m) ⟨Zb,hm.to Zb Zb⟩ (Weak.mk ?_) ?_
         ·simp (disch:=omega) only [Z7,Vc,go_sem,seval]
         ·clear hm;rintro ⟨j,m⟩ ⟨hj,hm⟩;simp only at hj hm;have hml:=hm.len;refine BP ?_;refine cD ?_ ?_<;>intro h<;>simp (disch:=omega) only [Sh.out h,go_sem,seval,↓reduceIte]
          ·have hj2:j<a.slow.length:=Za
           refine Xe (Zc ?_);refine Zo (Ov (nth a.slow j).t) (Zc ?_);have hslo:K1 a.slow j↔(L9 (nth a.slow j).t=true/\L9 (nth a.slow j).a=true/\(0<j->(nth a.slow (j-1)).t<(nth a.slow j).t)):=Iff.rfl;have hyes: ¬K1 a.slow j->_:=fun hs=>(hm.yes (x:=(2,at')) hs (by grind [pF])).to (D:=(((((0<=a.src/\a.src<n.places.length/\0<=a.dst/\a.dst<n.places.length)/\(0<=a.prof/\a.prof<=7/\0<=a.miles/\a.miles<=10000/\a.src≠a.dst))/\ ∀j,j<k-> ¬WL a (nth n.arcs j))/\W9 a.travel)/\a.slow.length<=16)/\ ∀i,i<j+1->K1 a.slow i) (d:=4+lt.length+(j+1)) Za (by grind)
           have hno:K1 a.slow j->_:=fun hs=>(hm.no hs).to (D:=(((((0<=a.src/\a.src<n.places.length/\0<=a.dst/\a.dst<n.places.length)/\(0<=a.prof/\a.prof<=7/\0<=a.miles/\a.miles<=10000/\a.src≠a.dst))/\ ∀j,j<k-> ¬WL a (nth n.arcs j))/\W9 a.travel)/\a.slow.length<=16)/\ ∀i,i<j+1->K1 a.slow i) (d:=4+lt.length+(j+1)) Za (by grind)
           cases ht1:L9 (nth a.slow j).t with
           | false =>
            refine Zc ?_;exact ⟨(j+1,m++ [(2,at')]),⟨Za,hyes (by grind)⟩,Za,wk⟩
           | true =>
            refine Zc ?_;refine Zo (Ov (nth a.slow j).a) (Zc ?_)
            cases ht2:L9 (nth a.slow j).a with
            | false =>
             refine Zc ?_;exact ⟨(j+1,m++ [(2,at')]),⟨Za,hyes (by grind)⟩,Za,wk⟩
            | true =>
             refine Zc ?_
             repeat' (first | (refine gT ?_ ?_<;>intro hq<;>simp (disch:=omega) only [Sh.out hq,go_sem,seval]) | (refine Uf (fun hq=> ?_) (fun hq=> ?_)<;>(try simp only [Zs,XH,Z5] at hq)<;>simp (disch:=omega) only [Sh.out hq,go_sem,seval]) | (refine cD ?_ ?_<;>intro hq<;>simp (disch:=omega) only [Sh.out hq,go_sem,seval]))
             ·exact ⟨(j+1,m++ [(2,at')]),⟨Za,hyes (by grind)⟩,Za,wk⟩
             ·exact ⟨(j+1,m),⟨Za,hno (by grind)⟩,Za,wk⟩
             ·exact ⟨(j+1,m),⟨Za,hno (by grind)⟩,Za,wk⟩
          ·have hjn:j=a.slow.length:=Za
           subst hjn;exact ⟨m,hm.to Za (by rw [Mv,hga]),2,by simp (disch:=omega) only [go_sem,seval]⟩
theorem Zt {α:Type} [Inhabited α] {l:List α} {i:Nat} (h:i<l.length):nth l i∈l:=by grind [Zh]
theorem zT (n:Net) (hw:n.wf 1048576):ACalls Tryz.prog 41 [.p (Cb n)] [] fun x H'=> ∃m:List Flt,FR (pF 26) (netOk n) 4194306000000 m/\x= .sl 0 0 m.length m.length/\H'= [.elems 2 (m.map eF)]:=by
 obtain ⟨w1,w2,w3,w4⟩:=hw;refine ZQ [2] Tryz.func41 rfl ZiE ?_;simp (disch:=omega) only [Tryz.f41,go_sem,seval];refine (Pj n w1 w2).useE fun m hm=>Zc ?_;have hml:=hm.len;refine ZJ [1] (fun m:List Flt=> [(3,.sl 1 0 m.length m.length)]) (fun m=>Z7 n++ [.elems 2 (m.map eF)]) (fun m=>FR (pF 26) (KU n/\n.arcs.length<=1024) (n.places.length+2) m) ?_ ?_
 ·refine Zc ?_;refine ZR ?_ ?_<;>intro h
  ·exact ⟨m++ [(4,[97,114,99,115])],hm.yes Za (by simp [pF]),Weak.mk (by simp (disch:=omega) only [Z7,go_sem,seval])⟩
  ·exact ⟨m,hm.no Za,Weak.mk (by simp (disch:=omega) only [Z7,go_sem,seval])⟩
 ·clear hm hml;intro m hm;refine Zg [] _ _ _ _ (K5 ?_);refine Zl [1] (fun q:Nat×List Flt=> [(3,.sl 1 0 q.2.length q.2.length),(4,.p (.int .i64 q.1))]) (fun q=>Z7 n++ [.elems 2 (q.2.map eF)]) (fun q=>q.1<=n.arcs.length/\FR (pF 26) ((KU n/\n.arcs.length<=1024)/\ ∀j,j<q.1->Mv n j) (n.places.length+2+q.1*4000000) q.2) (fun q=>n.arcs.length-q.1) (0,m) ⟨Zb,hm.to Zb Zb⟩ (Weak.mk ?_) ?_
  ·simp (disch:=omega) only [Z7,go_sem,seval]
  ·clear hm;rintro ⟨k,m⟩ ⟨hk,hm⟩;simp only at hk hm;have hml:=hm.len;refine K5 ?_;refine cD ?_ ?_<;>intro h<;>simp (disch:=omega) only [Sh.out h,go_sem,seval,↓reduceIte]
   ·have hk2:k<n.arcs.length:=Za
    have ha:=w4 _ (Zt hk2);refine (qW n k hk2 w1 w3 ha.2.2.2.2.1 ha.2.2.2.2.2.2.1).useE fun f hf=>Zc ?_;have hfl:=hf.len
    have q1:(m.length+f.length)*24<=140737488355328:=Za
    have q2:m.length+f.length<=140737488355328:=Za
    simp (disch:=omega) only [q1,q2,go_sem,seval];refine ⟨(k+1,m++f),⟨Za,(hm.app hf).to Za (by grind)⟩,Za,Weak.mk ?_⟩;simp (disch:=omega) only [ZG,Xs,go_sem,seval]
   ·have hkn:k=n.arcs.length:=Za
    subst hkn;exact ⟨m,hm.to Za (by rw [netOk]),1,by simp (disch:=omega) only [go_sem,seval]⟩
theorem VC (n lo hi:Int):PC 74 [.p (.int .i64 n),.p (.int .i64 lo),.p (.int .i64 hi)] (.bool (rng n lo hi)):=by
 refine Zd Tryz.func74 rfl Zi6 ?_;simp (disch:=omega) only [Tryz.f74,go_sem,seval];refine gT ?_ ?_<;>intro h<;>simp (disch:=omega) only [Sh.out h,go_sem,seval,↓reduceIte]
 all_goals (simp [rng];first | done | omega | (rw [Wp];simp;omega))
def Vy (l:List Int) (d:Int):Bool:=rng l.length 1 3&&decide ((l.length:Int)=d)&&l.all fun n=>rng n 0 1000
theorem Pg (l:List Int) (c:Bool) (d:Int) (hl:l.length<=1048576):PC 113 [.p (.list c (l.map eI)),.p (.int .i64 d)] (.bool (Vy l d)):=by
 refine Zd Tryz.func113 rfl Zat ?_;simp (disch:=omega) only [Tryz.f113,go_sem,seval];refine (VC l.length 1 3).use (Zc ?_);refine gF ?_ ?_<;>intro h<;>simp (disch:=omega) only [Sh.out h,go_sem,seval,↓reduceIte]
 ·grind [Vy]
 ·simp only [XP] at h;refine cD ?_ ?_<;>intro h2<;>simp (disch:=omega) only [Sh.out h2,go_sem,seval]
  ·simp [Vy,h,h2]
  ·simp only [Z5] at h2;subst h2;refine Zl [0] (fun k:Nat=> [(5,.p (.int .i64 k))]) (fun _=> []) (fun k=>k<=l.length/\ ∀j,j<k->rng (nth l j) 0 1000=true) (fun k=>l.length-k) 0 Zb (Weak.mk ?_) ?_
   ·simp (disch:=omega) only [go_sem,seval,↓reduceIte]
   ·rintro k ⟨hk,hno⟩;refine Zc ?_;refine cD ?_ ?_<;>intro h3<;>simp (disch:=omega) only [Sh.out h3,go_sem,seval,↓reduceIte]
    ·have hk2:k<l.length:=Za
     refine (VC (nth l k) 0 1000).use (Zc ?_);refine cD ?_ ?_<;>intro h4<;>simp (disch:=omega) only [Sh.out h4,go_sem,seval,↓reduceIte]
     ·grind [Zt,Vy]
     ·simp only [XP] at h4;exact ⟨k+1,⟨Za,Zr.2 ⟨hno,h4⟩⟩,Za,wk⟩
    ·have:l.all (fun n=>rng n 0 1000)=true:=by
      rw [ZA];intro x hx;obtain ⟨j,hj,rfl⟩:=ZN.1 hx
      grind [Zh]
     grind [Vy]
def PG (l:List Typ) (i:Nat) (s:List UInt8):Bool:=(List.range i).any fun j=>decide ((nth l j).name=s)
theorem UZ {l:List Typ} {i:Nat} {s:List UInt8} :PG l i s=false↔ ∀j,j<i->(nth l j).name≠s:=by
 grind [PG]
theorem aP (l:List Typ) (c:Bool) (i:Nat) (s:List UInt8) (hi:i<=l.length) (hl:l.length<=1048576):PC 112 [.p (.list c (l.map X4)),.p (.int .i64 (i:Nat)),.p (.str s)] (.bool (PG l i s)):=by
 refine Zd Tryz.func112 rfl Zas ?_;simp (disch:=omega) only [Tryz.f112,go_sem,seval];refine Zl [0,1,2] (fun k:Nat=> [(7,.p (.int .i64 k))]) (fun _=> []) (fun k=>k<=i/\ ∀j,j<k->(nth l j).name≠s) (fun k=>i-k) 0 Zb (Weak.mk ?_) ?_
 ·simp (disch:=omega) only [go_sem,seval,↓reduceIte]
 ·rintro k ⟨hk,hno⟩;refine Zc ?_;refine cD ?_ ?_<;>intro h3<;>simp (disch:=omega) only [Sh.out h3,go_sem,seval,↓reduceIte]
  ·have hk2:k<l.length:=Za
   refine cD ?_ ?_<;>intro h4<;>simp (disch:=omega) only [Sh.out h4,go_sem,seval,↓reduceIte]
   ·grind [UZ]
   ·exact ⟨k+1,⟨Za,Zr.2 ⟨hno,h4⟩⟩,Za,wk⟩
  grind [UZ]
def dimsOf (l:List Typ):Int:=if l.length=0 then 0 else ((nth l 0).cap.length:Int)
theorem MQ (l:List Typ) (c:Bool) (hl:l.length<=1048576):PC 44 [.p (.list c (l.map X4))] (.int .i64 (dimsOf l)):=by
 refine Zd Tryz.func44 rfl ZiH ?_;simp (disch:=omega) only [Tryz.f44,go_sem,seval];refine cD ?_ ?_<;>intro h<;>simp (disch:=omega) only [Sh.out h,go_sem,seval,↓reduceIte]
 ·grind [dimsOf]
 ·have h0:0<l.length:=Za
  have h1:l.length≠0:=Za
  simp (disch:=first | omega | (simp only [ZD,ZF,ZG,ZY,Xh,XI]<;>omega)) only [dimsOf,h1,go_sem,seval,↓reduceIte]
def Yh (t:Typ):AM.Obj:= .cells [.p (.str t.name),.p (.int .i64 t.count),.p (.int .i64 t.src),.p (.int .i64 t.dst),.p (.list t.cap_c (t.cap.map eI)),.p (.int .i64 t.skills),.p (.int .i64 t.prof),.p (.int .i64 t.opn),.p (.int .i64 t.cls),.p (.int .i64 t.drive),.p (.int .i64 t.rest),.p (.int .i64 t.fixed),.p (.int .i64 t.perMile),.p (.int .i64 t.perTick)]
def Ux (n:Net) (l:List Typ) (i:Nat):Prop:=((((((((nameOk (nth l i).name=true)/\(∀j,j<i->(nth l j).name≠(nth l i).name))/\rng (nth l i).count 0 10=true)/\(rng (nth l i).src 0 (n.places.length-1)=true/\rng (nth l i).dst 0 (n.places.length-1)=true))/\Vy (nth l i).cap (dimsOf l)=true)/\rng (nth l i).skills 0 1073741823=true)/\(rng (nth l i).opn 0 (nth l i).cls=true/\(nth l i).cls<=4096))/\(rng (nth l i).drive 1 4096=true/\rng (nth l i).rest 0 4096=true))/\(rng (nth l i).prof 0 7=true/\rng (nth l i).fixed 0 100000=true/\rng (nth l i).perMile 0 100=true/\rng (nth l i).perTick 0 100=true)
theorem De {P Q:Prop} (h:Q) (e:Q->P:=by intro h;simp (disch:=omega) only [Z7,Yh,go_sem,seval];exact h):P:=e h
theorem cN (n:Net) (l:List Typ) (c:Bool) (i:Nat) (hi:i<l.length) (hl:l.length<=1048576) (hw:n.wf 1048576) (ht:(nth l i).wf 1048576) :
  ACalls Tryz.prog 75 [.p (Cb n),.p (.list c (l.map X4)),.p (.int .i64 (i:Nat))] [] fun x H'=> ∃m:List Int,FR (fun _=>True) (Ux n l i) 9 m/\x= .sl 0 0 m.length m.length/\H'= [.elems 1 (m.map eI)]:=by
 obtain ⟨w1,w2,w3,w4⟩:=hw;refine ZQ [3] Tryz.func75 rfl Zi7 ?_;simp (disch:=omega) only [Tryz.f75,go_sem,seval];have hty:Ux n l i↔((((((((nameOk (nth l i).name=true)/\(∀j,j<i->(nth l j).name≠(nth l i).name))/\rng (nth l i).count 0 10=true)/\(rng (nth l i).src 0 (n.places.length-1)=true/\rng (nth l i).dst 0 (n.places.length-1)=true))/\Vy (nth l i).cap (dimsOf l)=true)/\rng (nth l i).skills 0 1073741823=true)/\(rng (nth l i).opn 0 (nth l i).cls=true/\(nth l i).cls<=4096))/\(rng (nth l i).drive 1 4096=true/\rng (nth l i).rest 0 4096=true))/\(rng (nth l i).prof 0 7=true/\rng (nth l i).fixed 0 100000=true/\rng (nth l i).perMile 0 100=true/\rng (nth l i).perTick 0 100=true):=Iff.rfl
 generalize hga:nth l i=t at ht hty ⊢;have hname:=ht.1;have hcap:=ht.2.2.2.2.1;refine Zp (Weak.ofNil 8 1 (by simp (disch:=omega) only [go_sem,seval]) Zb (Weak.refl _ _ _)) ?_;refine ZJ [1,2,3,7] (fun m:List Int=> [(8,.sl 2 0 m.length m.length)]) (fun m=>Z7 n++ [Yh t,.elems 1 (m.map eI)]) (fun m=>FR (fun _=>True) (nameOk t.name=true) 1 m) ?_ ?_
 ·refine Zc ?_;refine (PK t.name hname).use (Zc ?_);refine ZR ?_ ?_<;>intro h0
  ·simp only [XQ] at h0;exact ⟨[5],⟨Zb,by simp [h0],Zb⟩,Weak.mk (by simp (disch:=omega) only [Z7,Yh,go_sem,seval])⟩
  ·simp only [XP] at h0;exact ⟨[],FR.nil (by simp [h0]),Weak.mk (by simp (disch:=omega) only [Z7,Yh,go_sem,seval])⟩
 ·skip
  intro m hm;refine Zg [5] _ _ _ _ (De ?_);have hml:=hm.len;refine ZJ [1,3,7] (fun m:List Int=> [(8,.sl 2 0 m.length m.length)]) (fun m=>Z7 n++ [Yh t,.elems 1 (m.map eI)]) (fun m=>FR (fun _=>True) ((nameOk t.name=true)/\(∀j,j<i->(nth l j).name≠t.name)) 2 m) ?_ ?_
  ·refine Zc ?_;refine (aP l c i t.name Za hl).use (Zc ?_);refine ZR ?_ ?_<;>intro h
   ·exact ⟨m++ [6],hm.yes (by grind [UZ]) trivial,Weak.mk (by simp (disch:=omega) only [Z7,Yh,go_sem,seval])⟩
   ·exact ⟨m,hm.no (by exact UZ.1 h),Weak.mk (by simp (disch:=omega) only [Z7,Yh,go_sem,seval])⟩
  ·clear hm hml;intro m hm;refine Zg [7] _ _ _ _ (De ?_);have hml:=hm.len;refine ZJ [1,3,7] (fun m:List Int=> [(8,.sl 2 0 m.length m.length)]) (fun m=>Z7 n++ [Yh t,.elems 1 (m.map eI)]) (fun m=>FR (fun _=>True) (((nameOk t.name=true)/\(∀j,j<i->(nth l j).name≠t.name))/\rng t.count 0 10=true) 3 m) ?_ ?_
   ·refine Zc ?_;refine (VC t.count 0 10).use (Zc ?_);refine ZR ?_ ?_<;>intro h0
    ·simp only [XQ] at h0;exact ⟨m++ [22],hm.yes (by simp [h0]) trivial,Weak.mk (by simp (disch:=omega) only [Z7,Yh,go_sem,seval])⟩
    ·simp only [XP] at h0;exact ⟨m,hm.no (by simp [h0]),Weak.mk (by simp (disch:=omega) only [Z7,Yh,go_sem,seval])⟩
   ·clear hm hml;intro m hm;refine Zg [9] _ _ _ _ (De ?_);have hml:=hm.len;refine ZJ [1,7] (fun m:List Int=> [(8,.sl 2 0 m.length m.length)]) (fun m=>Z7 n++ [Yh t,.elems 1 (m.map eI)]) (fun m=>FR (fun _=>True) ((((nameOk t.name=true)/\(∀j,j<i->(nth l j).name≠t.name))/\rng t.count 0 10=true)/\(rng t.src 0 (n.places.length-1)=true/\rng t.dst 0 (n.places.length-1)=true)) 4 m) ?_ ?_
    ·refine Zc ?_;refine (VC t.src 0 (n.places.length-1)).use (Zc ?_);refine I2 ?_ ?_<;>intro h0
     ·simp only [XQ] at h0;exact ⟨m++ [11],hm.yes (by simp [h0]) trivial,Weak.mk (by simp (disch:=omega) only [Z7,Yh,go_sem,seval])⟩
     ·simp only [XP] at h0;refine (VC t.dst 0 (n.places.length-1)).use (Zc ?_);refine ZR ?_ ?_<;>intro h1
      ·simp only [XQ] at h1;exact ⟨m++ [11],hm.yes (by simp [h1]) trivial,Weak.mk (by simp (disch:=omega) only [Z7,Yh,go_sem,seval])⟩
      ·simp only [XP] at h1;exact ⟨m,hm.no (by simp [h0,h1]),Weak.mk (by simp (disch:=omega) only [Z7,Yh,go_sem,seval])⟩
    ·clear hm hml;intro m hm;refine Zg [11] _ _ _ _ (De ?_);have hml:=hm.len;refine ZJ [7] (fun m:List Int=> [(8,.sl 2 0 m.length m.length)]) (fun m=>Z7 n++ [Yh t,.elems 1 (m.map eI)]) (fun m=>FR (fun _=>True) (((((nameOk t.name=true)/\(∀j,j<i->(nth l j).name≠t.name))/\rng t.count 0 10=true)/\(rng t.src 0 (n.places.length-1)=true/\rng t.dst 0 (n.places.length-1)=true))/\Vy t.cap (dimsOf l)=true) 5 m) ?_ ?_
     ·refine Zc ?_;refine Xe (Zc ?_);refine Zo (MQ l c hl) (Zc ?_);refine Zo (Pg t.cap t.cap_c (dimsOf l) hcap) (Zc ?_);refine ZR ?_ ?_<;>intro h
      ·simp only [XQ] at h;exact ⟨m++ [17],hm.yes (by simp [h]) trivial,Weak.mk (by simp (disch:=omega) only [Z7,Yh,go_sem,seval])⟩
      ·simp only [XP] at h;exact ⟨m,hm.no (by simp [h]),Weak.mk (by simp (disch:=omega) only [Z7,Yh,go_sem,seval])⟩
     ·clear hm hml;intro m hm;refine Zg [13] _ _ _ _ (De ?_);have hml:=hm.len;refine ZJ [7] (fun m:List Int=> [(8,.sl 2 0 m.length m.length)]) (fun m=>Z7 n++ [Yh t,.elems 1 (m.map eI)]) (fun m=>FR (fun _=>True) ((((((nameOk t.name=true)/\(∀j,j<i->(nth l j).name≠t.name))/\rng t.count 0 10=true)/\(rng t.src 0 (n.places.length-1)=true/\rng t.dst 0 (n.places.length-1)=true))/\Vy t.cap (dimsOf l)=true)/\rng t.skills 0 1073741823=true) 6 m) ?_ ?_
      ·refine Zc ?_;refine (VC t.skills 0 1073741823).use (Zc ?_);refine ZR ?_ ?_<;>intro h0
       ·simp only [XQ] at h0;exact ⟨m++ [18],hm.yes (by simp [h0]) trivial,Weak.mk (by simp (disch:=omega) only [Z7,Yh,go_sem,seval])⟩
       ·simp only [XP] at h0;exact ⟨m,hm.no (by simp [h0]),Weak.mk (by simp (disch:=omega) only [Z7,Yh,go_sem,seval])⟩
      ·clear hm hml;intro m hm;refine Zg [15] _ _ _ _ (De ?_);have hml:=hm.len;refine ZJ [7] (fun m:List Int=> [(8,.sl 2 0 m.length m.length)]) (fun m=>Z7 n++ [Yh t,.elems 1 (m.map eI)]) (fun m=>FR (fun _=>True) (((((((nameOk t.name=true)/\(∀j,j<i->(nth l j).name≠t.name))/\rng t.count 0 10=true)/\(rng t.src 0 (n.places.length-1)=true/\rng t.dst 0 (n.places.length-1)=true))/\Vy t.cap (dimsOf l)=true)/\rng t.skills 0 1073741823=true)/\(rng t.opn 0 t.cls=true/\t.cls<=4096)) 7 m) ?_ ?_
       ·refine Zc ?_;refine (VC t.opn 0 t.cls).use (Zc ?_);refine I2 ?_ ?_<;>intro h0
        ·simp only [XQ] at h0;exact ⟨m++ [15],hm.yes (by simp [h0]) trivial,Weak.mk (by simp (disch:=omega) only [Z7,Yh,go_sem,seval])⟩
        ·simp only [XP] at h0;refine ZR ?_ ?_<;>intro h1
         ·exact ⟨m++ [15],hm.yes Za trivial,Weak.mk (by simp (disch:=omega) only [Z7,Yh,go_sem,seval])⟩
         ·exact ⟨m,hm.no (by grind),Weak.mk (by simp (disch:=omega) only [Z7,Yh,go_sem,seval])⟩
       ·clear hm hml;intro m hm;refine Zg [17] _ _ _ _ (De ?_);have hml:=hm.len;refine ZJ [7] (fun m:List Int=> [(8,.sl 2 0 m.length m.length)]) (fun m=>Z7 n++ [Yh t,.elems 1 (m.map eI)]) (fun m=>FR (fun _=>True) ((((((((nameOk t.name=true)/\(∀j,j<i->(nth l j).name≠t.name))/\rng t.count 0 10=true)/\(rng t.src 0 (n.places.length-1)=true/\rng t.dst 0 (n.places.length-1)=true))/\Vy t.cap (dimsOf l)=true)/\rng t.skills 0 1073741823=true)/\(rng t.opn 0 t.cls=true/\t.cls<=4096))/\(rng t.drive 1 4096=true/\rng t.rest 0 4096=true)) 8 m) ?_ ?_
        ·refine Zc ?_;refine (VC t.drive 1 4096).use (Zc ?_);refine I2 ?_ ?_<;>intro h0
         ·simp only [XQ] at h0;exact ⟨m++ [16],hm.yes (by simp [h0]) trivial,Weak.mk (by simp (disch:=omega) only [Z7,Yh,go_sem,seval])⟩
         ·simp only [XP] at h0;refine (VC t.rest 0 4096).use (Zc ?_);refine ZR ?_ ?_<;>intro h1
          ·simp only [XQ] at h1;exact ⟨m++ [16],hm.yes (by simp [h1]) trivial,Weak.mk (by simp (disch:=omega) only [Z7,Yh,go_sem,seval])⟩
          ·simp only [XP] at h1;exact ⟨m,hm.no (by simp [h0,h1]),Weak.mk (by simp (disch:=omega) only [Z7,Yh,go_sem,seval])⟩
        ·clear hm hml;intro m hm;refine Zg [19] _ _ _ _ (De ?_);have hml:=hm.len;refine ZJ [] (fun m:List Int=> [(8,.sl 2 0 m.length m.length)]) (fun m=>Z7 n++ [Yh t,.elems 1 (m.map eI)]) (fun m=>FR (fun _=>True) (((((((((nameOk t.name=true)/\(∀j,j<i->(nth l j).name≠t.name))/\rng t.count 0 10=true)/\(rng t.src 0 (n.places.length-1)=true/\rng t.dst 0 (n.places.length-1)=true))/\Vy t.cap (dimsOf l)=true)/\rng t.skills 0 1073741823=true)/\(rng t.opn 0 t.cls=true/\t.cls<=4096))/\(rng t.drive 1 4096=true/\rng t.rest 0 4096=true))/\(rng t.prof 0 7=true/\rng t.fixed 0 100000=true/\rng t.perMile 0 100=true/\rng t.perTick 0 100=true)) 9 m) ?_ ?_
         ·refine Zc ?_;refine (VC t.prof 0 7).use (Zc ?_);refine gF ?_ ?_<;>intro h0<;>simp (disch:=omega) only [Sh.out h0,go_sem,seval,↓reduceIte]
          ·simp only [XQ] at h0;exact ⟨m++ [2],hm.yes (by simp [h0]) trivial,Weak.mk (by simp (disch:=omega) only [Z7,Yh,go_sem,seval])⟩
          ·simp only [XP] at h0;refine (VC t.fixed 0 100000).use (Zc ?_);refine gF ?_ ?_<;>intro h1<;>simp (disch:=omega) only [Sh.out h1,go_sem,seval,↓reduceIte]
           ·simp only [XQ] at h1;exact ⟨m++ [2],hm.yes (by simp [h1]) trivial,Weak.mk (by simp (disch:=omega) only [Z7,Yh,go_sem,seval])⟩
           ·simp only [XP] at h1;refine (VC t.perMile 0 100).use (Zc ?_);refine gF ?_ ?_<;>intro h2<;>simp (disch:=omega) only [Sh.out h2,go_sem,seval,↓reduceIte]
            ·simp only [XQ] at h2;exact ⟨m++ [2],hm.yes (by simp [h2]) trivial,Weak.mk (by simp (disch:=omega) only [Z7,Yh,go_sem,seval])⟩
            ·simp only [XP] at h2;refine (VC t.perTick 0 100).use (Zc ?_);refine cD ?_ ?_<;>intro h3<;>simp (disch:=omega) only [Sh.out h3,go_sem,seval,↓reduceIte]
             ·simp only [XQ] at h3;exact ⟨m++ [2],hm.yes (by simp [h3]) trivial,Weak.mk (by simp (disch:=omega) only [Z7,Yh,go_sem,seval])⟩
             ·simp only [XP] at h3;exact ⟨m,hm.no (by grind),Weak.mk (by simp (disch:=omega) only [Z7,Yh,go_sem,seval])⟩
         ·clear hm hml;intro m hm;refine Zg [] _ _ _ _ (De ?_);have hml:=hm.len;exact ⟨m,hm.to Za (by rw [hty]),2,by simp (disch:=omega) only [go_sem,seval]⟩
def typesOk (n:Net) (l:List Typ):Prop:=rng l.length 1 6=true/\ ∀i,i<l.length->Ux n l i
theorem zU (n:Net) (l:List Typ) (c:Bool) (hw:n.wf 1048576) (hl:l.length<=1048576) (hlw: ∀t∈l,t.wf 1048576) :
  ACalls Tryz.prog 42 [.p (Cb n),.p (.list c (l.map X4))] [] fun x H'=> ∃m:List Flt,FR (pF 20) (typesOk n l) (1+9*l.length) m/\x= .sl 0 0 m.length m.length/\H'= [.elems 2 (m.map eF)]:=by
 refine ZQ [2] Tryz.func42 rfl ZiF ?_;simp (disch:=omega) only [Tryz.f42,go_sem,seval];refine Zp (Weak.ofNil 5 2 (by simp (disch:=omega) only [go_sem,seval]) Zb (Weak.refl _ _ _)) ?_;refine ZJ [1,2] (fun m:List Flt=> [(5,.sl 1 0 m.length m.length)]) (fun m=>Z7 n++ [.elems 2 (m.map eF)]) (fun m=>FR (pF 20) (rng l.length 1 6=true) 1 m) ?_ ?_
 ·refine Zc ?_;refine (VC l.length 1 6).use (Zc ?_);refine ZR ?_ ?_<;>intro h
  ·simp only [XQ] at h;exact ⟨[(4,[])],⟨Zb,by simp [h],by simp [pF]⟩,Weak.mk (by simp (disch:=omega) only [Z7,go_sem,seval])⟩
  ·simp only [XP] at h;exact ⟨[],FR.nil h,Weak.mk (by simp (disch:=omega) only [Z7,go_sem,seval])⟩
 ·intro m hm;refine Zg [] _ _ _ _ (K5 ?_);refine Zl [1,2] (fun q:Nat×List Flt=> [(5,.sl 1 0 q.2.length q.2.length),(6,.p (.int .i64 q.1))]) (fun q=>Z7 n++ [.elems 2 (q.2.map eF)]) (fun q=>q.1<=l.length/\FR (pF 20) (rng l.length 1 6=true/\ ∀j,j<q.1->Ux n l j) (1+9*q.1) q.2) (fun q=>l.length-q.1) (0,m) ⟨Zb,hm.to Zb Zb⟩ (Weak.mk ?_) ?_
  ·simp (disch:=omega) only [Z7,go_sem,seval]
  ·clear hm;rintro ⟨k,m⟩ ⟨hk,hm⟩;simp only at hk hm;have hml:=hm.len;refine K5 ?_;refine cD ?_ ?_<;>intro h<;>simp (disch:=omega) only [Sh.out h,go_sem,seval,↓reduceIte]
   ·have hk2:k<l.length:=Za
    have hI:QA (k:Int):=Za
    have hdl:=Jp k hI;refine ((cN n l c k hk2 hl hw (hlw _ (Zt hk2))).frozenE).useV fun e he=>Zc ?_;have hel:=he.len;refine Zl [1,2,6,7] (fun q:Nat×List Flt=> [(5,.sl 1 0 q.2.length q.2.length),(8,.p (.int .i64 q.1))]) (fun q=>Z7 n++ [.elems 2 (q.2.map eF)]) (fun q=>q.1<=e.length/\FR (pF 20) ((rng l.length 1 6=true/\ ∀j,j<k->Ux n l j)/\q.1=0) (1+9*k+q.1) q.2) (fun q=>e.length-q.1) (0,m) ⟨Zb,hm.to Zb Zb⟩ (Weak.mk ?_) ?_
    ·simp (disch:=omega) only [Z7,go_sem,seval]
    ·clear hm hml;rintro ⟨j,m⟩ ⟨hj,hm⟩;simp only at hj hm;have hml:=hm.len;refine K5 ?_;refine ZR ?_ ?_<;>intro h2
     ·have hj2:j<e.length:=Za
      refine ZC 9 mixed Ze Ze (Zc ?_);refine Zo (Ai k hI) (Zc ?_);exact ⟨(j+1,m++ [(nth e j,A7 k)]),⟨Za,(hm.yes (c:=False) Zb (by grind [pF])).to Za Zb⟩,Za,wk⟩
     ·have hjl:j=e.length:=Za
      subst hjl;exact ⟨(k+1,m),⟨Za,hm.to Za (by simp only [Zr,and_assoc];rw [<- he.emp,List.eq_nil_iff_length_eq_zero])⟩,Za,wk⟩
   ·have hkn:k=l.length:=Za
    subst hkn;exact ⟨m,hm.to Za (by rw [typesOk]),1,by simp (disch:=omega) only [go_sem,seval]⟩
theorem FO (n lo hi:Int):PC 115 [.p (.int .i64 n),.p (.int .i64 lo),.p (.int .i64 hi)] (.bool (rng n lo hi)):=by
 refine Zd Tryz.func115 rfl Zav ?_;simp (disch:=omega) only [Tryz.f115,go_sem,seval];refine gT ?_ ?_<;>intro h<;>simp (disch:=omega) only [Sh.out h,go_sem,seval,↓reduceIte]
 all_goals (simp [rng];first | done | omega | (rw [Wp];simp;omega))
def loadOk (l:List Int) (d:Int):Bool:=decide ((l.length:Int)=d)&&l.all fun n=>rng n 0 1000
theorem bZ (l:List Int) (c:Bool) (d:Int) (hl:l.length<=1048576):PC 114 [.p (.list c (l.map eI)),.p (.int .i64 d)] (.bool (loadOk l d)):=by
 refine Zd Tryz.func114 rfl Zau ?_;simp (disch:=omega) only [Tryz.f114,go_sem,seval];refine cD ?_ ?_<;>intro h2<;>simp (disch:=omega) only [Sh.out h2,go_sem,seval]
 ·simp [loadOk,h2]
 ·simp only [Z5] at h2;subst h2;refine Zl [0] (fun k:Nat=> [(5,.p (.int .i64 k))]) (fun _=> []) (fun k=>k<=l.length/\ ∀j,j<k->rng (nth l j) 0 1000=true) (fun k=>l.length-k) 0 Zb (Weak.mk ?_) ?_
  ·simp (disch:=omega) only [go_sem,seval,↓reduceIte]
  ·rintro k ⟨hk,hno⟩;refine Zc ?_;refine cD ?_ ?_<;>intro h3<;>simp (disch:=omega) only [Sh.out h3,go_sem,seval,↓reduceIte]
   ·have hk2:k<l.length:=Za
    have hbad:rng (nth l k) 0 1000=false->loadOk l l.length=false:=fun h4=>by
     grind [Zt,loadOk]
    repeat' (first | (refine Vv (fun hq=> ?_) (fun hq=> ?_)<;>(try simp only [Zs,XH,Z5] at hq)<;>simp (disch:=omega) only [Sh.out hq,go_sem,seval]) | (refine gF ?_ ?_<;>intro hq<;>simp (disch:=omega) only [Sh.out hq,go_sem,seval,↓reduceIte]) | (refine cD ?_ ?_<;>intro hq<;>simp (disch:=omega) only [Sh.out hq,go_sem,seval,↓reduceIte]))
    all_goals first
     | (rw [hbad (by simp [rng];omega)])
     | exact ⟨k+1,⟨Za,Zr.2 ⟨hno,by simp [rng];omega⟩⟩,Za,wk⟩
   ·have:l.all (fun n=>rng n 0 1000)=true:=by
     rw [ZA];intro x hx;obtain ⟨j,hj,rfl⟩:=ZN.1 hx
     grind [Zh]
    simp [loadOk,this]
def stpOk (s:Stp):Bool:=decide ((s.place= -1/\s.opn=0/\s.cls=0/\s.serv=0)\/(0<=s.place/\0<=s.opn/\s.opn<=s.cls/\s.cls<=4096/\0<=s.serv/\s.serv<=4096))
def dC (s:Stp):Int:=if stpOk s=true then 0 else 2
theorem gN (s:Stp):PC 116 [.p (Fw s)] (.int .i64 (dC s)):=by
 refine Zd Tryz.func116 rfl Zaw ?_;simp (disch:=omega) only [Tryz.f116,go_sem,seval]
 repeat' (first | (refine gT ?_ ?_<;>intro hq<;>simp (disch:=omega) only [Sh.out hq,go_sem,seval,↓reduceIte]) | (refine gF ?_ ?_<;>intro hq<;>simp (disch:=omega) only [Sh.out hq,go_sem,seval,↓reduceIte]) | (refine cD ?_ ?_<;>intro hq<;>simp (disch:=omega) only [Sh.out hq,go_sem,seval,↓reduceIte]))
 all_goals (simp only [dC,stpOk,Zs])
 all_goals first
  | (exfalso;omega)
  | (rw [if_pos Za])
  | (rw [if_neg Za])
def Qo (l:List Ord) (i:Nat):Bool:=(List.range i).all fun j=>decide ((nth l j).name≠(nth l i).name)
theorem KQ {l:List Ord} {i:Nat} :Qo l i=true↔ ∀j,j<i->(nth l j).name≠(nth l i).name:=by simp [Qo]
def Vq (b:Bool) (e:Int):List Int:=if b=true then [] else [e]
theorem U4 (b:Bool) (e:Int):(Vq b e).length<=1:=by grind [Vq]
theorem QP {b:Bool} {e:Int} {m p:List Int} (h:m=p) (hb:b=true):m=p++Vq b e:=by simp [Vq,hb,h]
theorem UM {b:Bool} {e:Int} {m p:List Int} (h:m=p) (hb:b=false):m++ [e]=p++Vq b e:=by simp [Vq,hb,h]
def Wa (t:Ord):AM.Obj:= .cells [.p (.str t.name),.p (.list t.load_c (t.load.map eI)),.p (.int .i64 t.pick.place),.p (.int .i64 t.pick.opn),.p (.int .i64 t.pick.cls),.p (.int .i64 t.pick.serv),.p (.int .i64 t.drp.place),.p (.int .i64 t.drp.opn),.p (.int .i64 t.drp.cls),.p (.int .i64 t.drp.serv),.p (.int .i64 t.skills),.p (.int .i64 t.penalty),.p (.int .i64 t.split),.p (.int .i64 t.last),.p (.int .i64 t.now),.p (.bool t.off)]
def IW (t:Ord):Bool:=decide (t.pick.place≠ -1)&&decide (t.drp.place≠ -1)
def argOk (t:Ord) (ty:Int):Bool:=rng t.penalty (-1) 1000000&&rng t.split 1 4&&decide (¬(1<t.split/\IW t=true)/\ -1<=t.last/\t.last<ty/\ -1<=t.now/\t.now<ty)
def Wj (np:Nat) (d ty:Int) (l:List Ord) (i:Nat):List Int:=Vq (nameOk (nth l i).name) 5++Vq (Qo l i) 6++Vq (loadOk (nth l i).load d) 17++Vq ((rng (nth l i).pick.place (-1) ((np:Int)-1)&&rng (nth l i).drp.place (-1) ((np:Int)-1))) 11++Vq (decide (¬((nth l i).pick.place= -1/\(nth l i).drp.place= -1))) 19++Vq ((stpOk (nth l i).pick&&stpOk (nth l i).drp)) 14++Vq (rng (nth l i).skills 0 1073741823) 18++Vq (argOk (nth l i) ty) 2
theorem CQ (np:Nat) (d ty:Int) (l:List Ord) (i:Nat):(Wj np d ty l i).length<=8:=by
 grind [U4,Wj,ZG]
theorem Bi {P Q:Prop} (h:Q) (e:Q->P:=by intro h;simp (disch:=omega) only [Wa,go_sem,seval];exact h):P:=e h
theorem cP (np:Nat) (d ty:Int) (l:List Ord) (c:Bool) (i:Nat) (hi:i<l.length) (hl:l.length<=1048576) (hnp:np<=1048576) (ht:(nth l i).wf 1048576) :
  ACalls Tryz.prog 77 [.p (.int .i64 (np:Nat)),.p (.int .i64 d),.p (.int .i64 ty),.p (.list c (l.map Yj)),.p (.int .i64 (i:Nat))] [] fun x H'=>x= .sl 0 0 (Wj np d ty l i).length (Wj np d ty l i).length/\H'= [.elems 1 ((Wj np d ty l i).map eI)]:=by
 suffices hh:ACalls Tryz.prog 77 [.p (.int .i64 (np:Nat)),.p (.int .i64 d),.p (.int .i64 ty),.p (.list c (l.map Yj)),.p (.int .i64 (i:Nat))] [] fun x H'=> ∃m:List Int,m=Wj np d ty l i/\x= .sl 0 0 m.length m.length/\H'= [.elems 1 (m.map eI)] by
  grind
 refine ZQ [3] Tryz.func77 rfl Zi9 ?_;simp (disch:=omega) only [Tryz.f77,go_sem,seval];have hty:Wj np d ty l i=Vq (nameOk (nth l i).name) 5++Vq (Qo l i) 6++Vq (loadOk (nth l i).load d) 17++Vq ((rng (nth l i).pick.place (-1) ((np:Int)-1)&&rng (nth l i).drp.place (-1) ((np:Int)-1))) 11++Vq (decide (¬((nth l i).pick.place= -1/\(nth l i).drp.place= -1))) 19++Vq ((stpOk (nth l i).pick&&stpOk (nth l i).drp)) 14++Vq (rng (nth l i).skills 0 1073741823) 18++Vq (argOk (nth l i) ty) 2:=rfl
 have hleng: ∀m:List Int,∀p:List Int,m=p->p.length<=8->m.length<=8:=fun m p h1 h2=>by grind
 generalize hga:nth l i=t at ht hty ⊢;have hname:=ht.1;have hload:=ht.2.1;refine Zp (Weak.ofNil 11 1 (by simp (disch:=omega) only [go_sem,seval]) Zb (Weak.refl _ _ _)) ?_;refine ZJ [0,1,2,3,4,12] (fun m:List Int=> [(11,.sl 1 0 m.length m.length)]) (fun m=> [Wa t,.elems 1 (m.map eI)]) (fun m=>m=Vq (nameOk t.name) 5) ?_ ?_
 ·refine Zc ?_;refine (PK t.name hname).use (Zc ?_);refine cD ?_ ?_<;>intro h<;>simp (disch:=omega) only [Sh.out h,go_sem,seval,↓reduceIte]
  ·simp only [XQ] at h;exact ⟨[5],by simp [Vq,h],Weak.mk (by simp (disch:=omega) only [Wa,go_sem,seval])⟩
  ·simp only [XP] at h;exact ⟨[],by simp [Vq,h],Weak.mk (by simp (disch:=omega) only [Wa,go_sem,seval])⟩
 ·skip
  intro m hm;refine Zg [5] _ _ _ _ (Bi ?_)
  have hml:m.length<=8:=by
   grind [U4]
  refine ZJ [0,1,2,12] (fun m:List Int=> [(11,.sl 1 0 m.length m.length)]) (fun m=> [Wa t,.elems 1 (m.map eI)]) (fun m=>m=Vq (nameOk t.name) 5++Vq (Qo l i) 6) ?_ ?_
  ·refine Zc ?_;refine Zl [0,1,2,3,4,11,12] (fun k:Nat=> [(13,.p (.int .i64 k))]) (fun _=> [Wa t,.elems 1 (m.map eI)]) (fun k=>k<=i/\ ∀j,j<k->(nth l j).name≠(nth l i).name) (fun k=>i-k) 0 Zb (Weak.mk ?_) ?_
   ·simp (disch:=omega) only [Wa,go_sem,seval,↓reduceIte]
   ·rintro k ⟨hk,hno⟩;refine Bi ?_;refine cD ?_ ?_<;>intro h3<;>simp (disch:=omega) only [Sh.out h3,go_sem,seval,↓reduceIte]
    ·have hk2:k<l.length:=Za
     refine Xe (Zc ?_);refine ZR ?_ ?_<;>intro h4
     ·exact ⟨m++ [6],UM hm (by grind [KQ]),wk⟩
     ·exact ⟨k+1,⟨Za,Zr.2 ⟨hno,by grind⟩⟩,Za,wk⟩
    ·have hki:k=i:=Za
     subst hki;exact ⟨m,QP hm (KQ.2 hno),wk⟩
  ·clear hm hml;intro m hm;refine Zg [10] _ _ _ _ (Bi ?_)
   have hml:m.length<=8:=by
    grind [U4]
   refine ZJ [0,2,12] (fun m:List Int=> [(11,.sl 1 0 m.length m.length)]) (fun m=> [Wa t,.elems 1 (m.map eI)]) (fun m=>m=Vq (nameOk t.name) 5++Vq (Qo l i) 6++Vq (loadOk t.load d) 17) ?_ ?_
   ·refine Zc ?_;refine (bZ t.load t.load_c d hload).use (Zc ?_);refine cD ?_ ?_<;>intro h<;>simp (disch:=omega) only [Sh.out h,go_sem,seval,↓reduceIte]
    ·simp only [XQ] at h;exact ⟨m++ [17],UM hm (h),Weak.mk (by simp (disch:=omega) only [Wa,go_sem,seval])⟩
    ·simp only [XP] at h;exact ⟨m,QP hm (h),Weak.mk (by simp (disch:=omega) only [Wa,go_sem,seval])⟩
   ·clear hm hml;intro m hm;refine Zg [12] _ _ _ _ (Bi ?_)
    have hml:m.length<=8:=by
     grind [ZG,U4]
    refine ZJ [2,12] (fun m:List Int=> [(11,.sl 1 0 m.length m.length)]) (fun m=> [Wa t,.elems 1 (m.map eI)]) (fun m=>m=Vq (nameOk t.name) 5++Vq (Qo l i) 6++Vq (loadOk t.load d) 17++Vq ((rng t.pick.place (-1) ((np:Int)-1)&&rng t.drp.place (-1) ((np:Int)-1))) 11) ?_ ?_
    ·refine Zc ?_;refine (FO t.pick.place (-1) ((np:Int)-1)).use (Zc ?_);refine I2 ?_ ?_<;>intro h
     ·simp only [XQ] at h;exact ⟨m++ [11],UM hm (by simp [h]),Weak.mk (by simp (disch:=omega) only [Wa,go_sem,seval])⟩
     ·simp only [XP] at h;refine (FO t.drp.place (-1) ((np:Int)-1)).use (Zc ?_);refine ZR ?_ ?_<;>intro h2
      ·simp only [XQ] at h2;exact ⟨m++ [11],UM hm (by simp [h2]),Weak.mk (by simp (disch:=omega) only [Wa,go_sem,seval])⟩
      ·simp only [XP] at h2;exact ⟨m,QP hm (by simp [h,h2]),Weak.mk (by simp (disch:=omega) only [Wa,go_sem,seval])⟩
    ·clear hm hml;intro m hm;refine Zg [14] _ _ _ _ (Bi ?_)
     have hml:m.length<=8:=by
      grind [ZG,U4]
     refine ZJ [2,12] (fun m:List Int=> [(11,.sl 1 0 m.length m.length)]) (fun m=> [Wa t,.elems 1 (m.map eI)]) (fun m=>m=Vq (nameOk t.name) 5++Vq (Qo l i) 6++Vq (loadOk t.load d) 17++Vq ((rng t.pick.place (-1) ((np:Int)-1)&&rng t.drp.place (-1) ((np:Int)-1))) 11++Vq (decide (¬(t.pick.place= -1/\t.drp.place= -1))) 19) ?_ ?_
     ·refine Zc ?_
      repeat' (first | (refine gT ?_ ?_<;>intro hq<;>simp (disch:=omega) only [Sh.out hq,go_sem,seval]) | (refine Uf (fun hq=> ?_) (fun hq=> ?_)<;>(try simp only [Zs,XH,Z5] at hq)<;>simp (disch:=omega) only [Sh.out hq,go_sem,seval]) | (refine cD ?_ ?_<;>intro hq<;>simp (disch:=omega) only [Sh.out hq,go_sem,seval]))
      all_goals first
       | exact ⟨m++ [19],UM hm (by first | (simp;done) | (simp;omega)),Weak.mk (by simp (disch:=omega) only [Wa,go_sem,seval])⟩
       | exact ⟨m,QP hm (by first | (simp;done) | (simp;omega)),Weak.mk (by simp (disch:=omega) only [Wa,go_sem,seval])⟩
     ·clear hm hml;intro m hm;refine Zg [16] _ _ _ _ (Bi ?_)
      have hml:m.length<=8:=by
       grind [ZG,U4]
      refine ZJ [2,12] (fun m:List Int=> [(11,.sl 1 0 m.length m.length)]) (fun m=> [Wa t,.elems 1 (m.map eI)]) (fun m=>m=Vq (nameOk t.name) 5++Vq (Qo l i) 6++Vq (loadOk t.load d) 17++Vq ((rng t.pick.place (-1) ((np:Int)-1)&&rng t.drp.place (-1) ((np:Int)-1))) 11++Vq (decide (¬(t.pick.place= -1/\t.drp.place= -1))) 19++Vq ((stpOk t.pick&&stpOk t.drp)) 14) ?_ ?_
      ·refine Zc ?_;refine (gN t.pick).use (Zc ?_)
       cases h:stpOk t.pick with
       | false =>
        simp (disch:=omega) only [dC,h,go_sem,seval];exact ⟨m++ [14],UM hm (by simp []),Weak.mk (by simp (disch:=omega) only [Wa,go_sem,seval])⟩
       | true =>
        simp (disch:=omega) only [dC,h,go_sem,seval];refine (gN t.drp).use (Zc ?_)
        cases h2:stpOk t.drp with
        | false =>
         simp (disch:=omega) only [dC,h2,go_sem,seval];exact ⟨m++ [14],UM hm (by simp []),Weak.mk (by simp (disch:=omega) only [Wa,go_sem,seval])⟩
        | true =>
         simp (disch:=omega) only [dC,h2,go_sem,seval];exact ⟨m,QP hm (by simp []),Weak.mk (by simp (disch:=omega) only [Wa,go_sem,seval])⟩
      ·clear hm hml;intro m hm;refine Zg [18] _ _ _ _ (Bi ?_)
       have hml:m.length<=8:=by
        grind [ZG,U4]
       refine ZJ [2,12] (fun m:List Int=> [(11,.sl 1 0 m.length m.length)]) (fun m=> [Wa t,.elems 1 (m.map eI)]) (fun m=>m=Vq (nameOk t.name) 5++Vq (Qo l i) 6++Vq (loadOk t.load d) 17++Vq ((rng t.pick.place (-1) ((np:Int)-1)&&rng t.drp.place (-1) ((np:Int)-1))) 11++Vq (decide (¬(t.pick.place= -1/\t.drp.place= -1))) 19++Vq ((stpOk t.pick&&stpOk t.drp)) 14++Vq (rng t.skills 0 1073741823) 18) ?_ ?_
       ·refine Zc ?_;refine (FO t.skills 0 1073741823).use (Zc ?_);refine ZR ?_ ?_<;>intro h
        ·simp only [XQ] at h;exact ⟨m++ [18],UM hm (h),Weak.mk (by simp (disch:=omega) only [Wa,go_sem,seval])⟩
        ·simp only [XP] at h;exact ⟨m,QP hm (h),Weak.mk (by simp (disch:=omega) only [Wa,go_sem,seval])⟩
       ·clear hm hml;intro m hm;refine Zg [20] _ _ _ _ (Bi ?_)
        have hml:m.length<=8:=by
         grind [ZG,U4]
        refine ZJ [2,11,12] (fun b:Bool=> [(14,.p (.bool b))]) (fun _=> [Wa t,.elems 1 (m.map eI)]) (fun b=>b=IW t) ?_ ?_
        ·refine Zc ?_
         repeat' (first | (refine Vv (fun hq=> ?_) (fun hq=> ?_)<;>(try simp only [Zs,XH,Z5] at hq)<;>simp (disch:=omega) only [Sh.out hq,go_sem,seval]) | (refine Uf (fun hq=> ?_) (fun hq=> ?_)<;>(try simp only [Zs,XH,Z5] at hq)<;>simp (disch:=omega) only [Sh.out hq,go_sem,seval]) | (refine UV (fun hq=> ?_) (fun hq=> ?_)<;>(try simp only [Zs,XH,Z5] at hq)<;>simp (disch:=omega) only [Sh.out hq,go_sem,seval]))
         all_goals refine ⟨IW t,rfl,Weak.mk ?_⟩
         all_goals (simp (disch:=omega) only [Wa,go_sem,seval];simp [IW, *])
        ·rintro b hb;refine Zg [21] _ _ _ _ (Bi ?_);refine ZJ [] (fun m:List Int=> [(11,.sl 1 0 m.length m.length)]) (fun m=> [Wa t,.elems 1 (m.map eI)]) (fun m=>m=Vq (nameOk t.name) 5++Vq (Qo l i) 6++Vq (loadOk t.load d) 17++Vq ((rng t.pick.place (-1) ((np:Int)-1)&&rng t.drp.place (-1) ((np:Int)-1))) 11++Vq (decide (¬(t.pick.place= -1/\t.drp.place= -1))) 19++Vq ((stpOk t.pick&&stpOk t.drp)) 14++Vq (rng t.skills 0 1073741823) 18++Vq (argOk t ty) 2) ?_ ?_
         ·refine Zc ?_;refine (FO t.penalty (-1) 1000000).use (Zc ?_);refine gF ?_ ?_<;>intro h<;>simp (disch:=omega) only [Sh.out h,go_sem,seval,↓reduceIte]
          ·simp only [XQ] at h;exact ⟨m++ [2],UM hm (by simp [argOk,h]),Weak.mk (by simp (disch:=omega) only [Wa,go_sem,seval])⟩
          ·simp only [XP] at h;refine (FO t.split 1 4).use (Zc ?_);refine gF ?_ ?_<;>intro h2<;>simp (disch:=omega) only [Sh.out h2,go_sem,seval,↓reduceIte]
           ·simp only [XQ] at h2;exact ⟨m++ [2],UM hm (by simp [argOk,h2]),Weak.mk (by simp (disch:=omega) only [Wa,go_sem,seval])⟩
           ·simp only [XP] at h2
            cases b with
            | true =>
             repeat' (first | (refine gT ?_ ?_<;>intro hq<;>simp (disch:=omega) only [Sh.out hq,go_sem,seval,↓reduceIte]) | (refine gF ?_ ?_<;>intro hq<;>simp (disch:=omega) only [Sh.out hq,go_sem,seval,↓reduceIte]) | (refine cD ?_ ?_<;>intro hq<;>simp (disch:=omega) only [Sh.out hq,go_sem,seval,↓reduceIte]))
             all_goals first
              | exact ⟨m++ [2],UM hm (by rw [argOk,<- hb];first | (simp;done) | (simp;omega)),Weak.mk (by simp (disch:=omega) only [Wa,go_sem,seval])⟩
              | exact ⟨m,QP hm (by grind [argOk]),Weak.mk (by simp (disch:=omega) only [Wa,go_sem,seval])⟩
            | false =>
             repeat' (first | (refine gT ?_ ?_<;>intro hq<;>simp (disch:=omega) only [Sh.out hq,go_sem,seval,↓reduceIte]) | (refine gF ?_ ?_<;>intro hq<;>simp (disch:=omega) only [Sh.out hq,go_sem,seval,↓reduceIte]) | (refine cD ?_ ?_<;>intro hq<;>simp (disch:=omega) only [Sh.out hq,go_sem,seval,↓reduceIte]))
             all_goals first
              | exact ⟨m++ [2],UM hm (by rw [argOk,<- hb];first | (simp;done) | (simp;omega)),Weak.mk (by simp (disch:=omega) only [Wa,go_sem,seval])⟩
              | exact ⟨m,QP hm (by rw [argOk,<- hb,h,h2];first | (simp;done) | (simp;omega)),Weak.mk (by simp (disch:=omega) only [Wa,go_sem,seval])⟩
         ·clear hm hml;intro m hm;refine Zg [] _ _ _ _ (Bi ?_)
          have hml:m.length<=8:=by
           grind [ZG,U4]
          exact ⟨m,by rw [hm,hty],1,by simp (disch:=omega) only [go_sem,seval]⟩
def X5 (np:Nat) (d ty:Int) (l:List Ord) (k:Nat):List Flt:=(if l.length<=10 then [] else [(4,[])])++(List.range k).flatMap fun i=>(Wj np d ty l i).map fun e=>(e,A7 i)
theorem CS (np:Nat) (d ty:Int) (l:List Ord) (k:Nat):X5 np d ty l (k+1)=X5 np d ty l k++(Wj np d ty l k).map fun e=>(e,A7 k):=by
 simp [X5,Ye]
theorem QN (np:Nat) (d ty:Int) (l:List Ord): ∀k,(X5 np d ty l k).length<=1+8*k
 | 0=>by simp [X5];grind
 | k+1=>by
  have h1:=QN np d ty l k;have h2:=CQ np d ty l k;rw [CS];simp;omega
theorem zV (n:Net) (d ty:Int) (l:List Ord) (c:Bool) (hw:n.wf 1048576) (hl:l.length<=1048576) (hlw: ∀t∈l,t.wf 1048576) :
  ACalls Tryz.prog 43 [.p (Cb n),.p (.int .i64 d),.p (.int .i64 ty),.p (.list c (l.map Yj))] [] fun x H'=>x= .sl 0 0 (X5 n.places.length d ty l l.length).length (X5 n.places.length d ty l l.length).length/\H'= [.elems 2 ((X5 n.places.length d ty l l.length).map eF)]:=by
 obtain ⟨w1,w2,w3,w4⟩:=hw
 suffices hh:ACalls Tryz.prog 43 [.p (Cb n),.p (.int .i64 d),.p (.int .i64 ty),.p (.list c (l.map Yj))] [] fun x H'=> ∃m:List Flt,m=X5 n.places.length d ty l l.length/\x= .sl 0 0 m.length m.length/\H'= [.elems 2 (m.map eF)] by
  grind
 refine ZQ [2] Tryz.func43 rfl ZiG ?_;simp (disch:=omega) only [Tryz.f43,go_sem,seval];refine Zp (Weak.ofNil 9 2 (by simp (disch:=omega) only [go_sem,seval]) Zb (Weak.refl _ _ _)) ?_;refine ZJ [1,2,3,4] (fun m:List Flt=> [(9,.sl 1 0 m.length m.length)]) (fun m=>Z7 n++ [.elems 2 (m.map eF)]) (fun m=>m=X5 n.places.length d ty l 0) ?_ ?_
 ·refine Zc ?_;refine ZR ?_ ?_<;>intro h
  ·exact ⟨[(4,[])],by rw [X5,if_neg Za];rfl,Weak.mk (by simp (disch:=omega) only [Z7,go_sem,seval])⟩
  ·exact ⟨[],by rw [X5,if_pos Za];rfl,Weak.mk (by simp (disch:=omega) only [Z7,go_sem,seval])⟩
 ·intro m hm;refine Zg [] _ _ _ _ (K5 ?_);refine Zl [1,2,3,4] (fun q:Nat×List Flt=> [(9,.sl 1 0 q.2.length q.2.length),(10,.p (.int .i64 q.1))]) (fun q=>Z7 n++ [.elems 2 (q.2.map eF)]) (fun q=>q.1<=l.length/\q.2=X5 n.places.length d ty l q.1) (fun q=>l.length-q.1) (0,m) ⟨Zb,hm⟩ (Weak.mk ?_) ?_
  ·simp (disch:=omega) only [Z7,go_sem,seval]
  ·clear hm;rintro ⟨k,m⟩ ⟨hk,hm⟩;simp only at hk hm;have hml:=QN n.places.length d ty l k;rw [<- hm] at hml;refine K5 ?_;refine cD ?_ ?_<;>intro h<;>simp (disch:=omega) only [Sh.out h,go_sem,seval,↓reduceIte]
   ·have hk2:k<l.length:=Za
    have hI:QA (k:Int):=Za
    have hrl:=CQ n.places.length d ty l k;refine ((cP n.places.length d ty l c k hk2 hl w1 (hlw _ (Zt hk2))).frozen Zb).use (Zc ?_);generalize hre:Wj n.places.length d ty l k=e at hrl ⊢;refine Zl [1,2,3,4,10,11] (fun q:Nat×List Flt=> [(9,.sl 1 0 q.2.length q.2.length),(12,.p (.int .i64 q.1))]) (fun q=>Z7 n++ [.elems 2 (q.2.map eF)]) (fun q=>q.1<=e.length/\q.2=X5 n.places.length d ty l k++(e.take q.1).map fun e=>(e,A7 k)) (fun q=>e.length-q.1) (0,m) ⟨Zb,by simp [hm]⟩ (Weak.mk ?_) ?_
    ·simp (disch:=omega) only [Z7,go_sem,seval]
    ·clear hm hml;rintro ⟨j,m⟩ ⟨hj,hm⟩;simp only at hj hm;have hml:=QN n.places.length d ty l k
     have hml2:m.length<=1+8*k+8:=by grind
     refine K5 ?_;refine ZR ?_ ?_<;>intro h2
     ·have hj2:j<e.length:=Za
      refine ZC 9 mixed Ze Ze (Zc ?_);refine Zo (Ai k hI) (Zc ?_);refine ⟨(j+1,m++ [(nth e j,A7 k)]),⟨Za,?_⟩,Za,wk⟩
      grind [X0,Zh]
     ·have hjl:j=e.length:=Za
      subst hjl;refine ⟨(k+1,m),⟨Za,?_⟩,Za,wk⟩
      grind [CS]
   ·have hkn:k=l.length:=Za
    subst hkn;exact ⟨m,hm,1,by simp (disch:=omega) only [go_sem,seval]⟩
theorem dD {s:Stp} :stpOk s=true↔((s.place= -1/\s.opn=0/\s.cls=0/\s.serv=0)\/(0<=s.place/\0<=s.opn/\s.opn<=s.cls/\s.cls<=4096/\0<=s.serv/\s.serv<=4096)):=by simp [stpOk]
structure OrdOk (np:Nat) (d ty:Int) (l:List Ord) (i:Nat):Prop where
 name:nameOk (nth l i).name=true
 twin: ∀j,j<i->(nth l j).name≠(nth l i).name
 load:loadOk (nth l i).load d=true
 pick: -1<=(nth l i).pick.place/\(nth l i).pick.place<np
 drp: -1<=(nth l i).drp.place/\(nth l i).drp.place<np
 one: ¬((nth l i).pick.place= -1/\(nth l i).drp.place= -1)
 pstp:stpOk (nth l i).pick=true
 dstp:stpOk (nth l i).drp=true
 skills:0<=(nth l i).skills/\(nth l i).skills<=1073741823
 arg:argOk (nth l i) ty=true
theorem uE {b:Bool} {e:Int} :Vq b e= []↔b=true:=by grind [Vq]
theorem LG {np:Nat} {d ty:Int} {l:List Ord} {i:Nat} :Wj np d ty l i= []↔OrdOk np d ty l i:=by
 simp only [Wj,V3,uE,ZH,Zs,rng,KQ]
 constructor
 ·rintro ⟨⟨⟨⟨⟨⟨⟨a1,a2⟩,a3⟩,a4⟩,a5⟩,a6⟩,a7⟩,a8⟩;exact ⟨a1,a2,a3,Za,Za,a5,a6.1,a6.2,a7,a8⟩
 ·intro h;obtain ⟨b1,b2⟩:=h.pick;obtain ⟨b3,b4⟩:=h.drp;exact ⟨⟨⟨⟨⟨⟨⟨h.name,h.twin⟩,h.load⟩,Za,Za⟩,h.one⟩,h.pstp,h.dstp⟩,h.skills⟩,h.arg⟩
def ordersOk (np:Nat) (d ty:Int) (l:List Ord):Prop:=l.length<=10/\ ∀i,i<l.length->OrdOk np d ty l i
theorem Ec {np:Nat} {d ty:Int} {l:List Ord} :X5 np d ty l l.length= []↔ordersOk np d ty l:=by
 simp_all [X5,LG,ordersOk]
theorem PQ {np:Nat} {d ty:Int} {l:List Ord} (hl:l.length<=1048576): ∀f∈X5 np d ty l l.length,pF 20 f:=by
 intro f hf;simp only [X5,Xi,XU,ZM,XC] at hf;rcases hf with hf | ⟨i,hi,e,he,rfl⟩
 ·grind [pF]
 ·exact Jp i Za
theorem P7 (n:Int) (h0:0<=n) (hn:n<=4611686018427387904):PC 117 [.p (.int .i64 n)] (.str (dec n.toNat)):=by
 refine Zd Tryz.func117 rfl Zax ?_;simp (disch:=omega) only [Tryz.f117,go_sem,seval];refine Zl [] (fun q:Int×List UInt8=> [(0,.p (.int .i64 q.1)),(3,.p (.str q.2))]) (fun _=> []) (fun q=>0<=q.1/\q.1<=n/\dec q.1.toNat++q.2=dec n.toNat) (fun q=>q.1.toNat) (n,[]) (by simp [h0]) (Weak.mk ?_) ?_
 ·simp (disch:=omega) only [go_sem,seval]
 ·rintro ⟨m,s⟩ ⟨hm,hmn,hs⟩;simp only at hm hmn hs;have hl:=RT _ n.toNat (Nat.lt_succ_self _)
  have hl2:(dec m.toNat).length+s.length=(dec n.toNat).length:=by grind
  simp (disch:=first | omega | (simp only [ZD,ZF,ZG,ZY,Xh,XI]<;>omega)) only [go_sem,seval];refine cD ?_ ?_<;>intro h<;>simp (disch:=omega) only [Sh.out h,go_sem,seval,↓reduceIte]
  ·simp (disch:=first | omega | (simp only [ZD,ZF,ZG,ZY,Xh,XI]<;>omega)) only [go_sem,seval]
   have h2: ¬m.toNat<10:=Za
   have e1:(48+m%10).toNat=48+m.toNat%10:=Za
   have e2:(m / 10).toNat=m.toNat / 10:=Za
   refine ⟨(m / 10,UInt8.ofNat (48+m%10).toNat::s),⟨Za,Za,?_⟩,Za,Weak.mk ?_⟩
   ·simp only [e1,e2];rw [<- hs,dec.eq_def m.toNat,dif_neg h2];simp
   ·simp (disch:=omega) only [go_sem,seval]
  ·simp (disch:=first | omega | (simp only [ZD,ZF,ZG,ZY,Xh,XI]<;>omega)) only [go_sem,seval]
   have h2:m.toNat<10:=Za
   have e1:(48+m).toNat=48+m.toNat:=Za
   rw [<- hs,dec.eq_def m.toNat,dif_pos h2,e1]
   rfl
def bC (n:Int) (p:Int×Int):Bool:=decide (0<=p.1/\p.1<n)&&decide (0<=p.2/\p.2<n)&&decide (¬p.1=p.2)
def atW (word:List UInt8) (i:Nat):List UInt8:=word++ [32]++dec i
def R4 (n:Int) (word:List UInt8) (sm:Int×Int->Int×Int->Bool) (l:List (Int×Int)) (i:Nat):List (Int×List UInt8) :=
 if bC n (nth l i)=false then [(2,atW word i)] else if (l.take i).any (sm (nth l i)) then [(6,atW word i)] else []
def G6 (word:List UInt8) (l:List (Int×Int)):List (Int×List UInt8):=if 16<l.length then [(4,word)] else []
def Js (n:Int) (word:List UInt8) (sm:Int×Int->Int×Int->Bool) (l:List (Int×Int)) (k:Nat):List (Int×List UInt8):=G6 word l++(List.range k).flatMap (R4 n word sm l)
theorem HA (n word sm l k):Js n word sm l (k+1)=Js n word sm l k++R4 n word sm l k:=by grind [Js,Ye]
theorem HB (n word sm l):Js n word sm l 0=G6 word l:=by simp [Js]
theorem rT (n word sm l i):(R4 n word sm l i).length<=1:=by grind [R4]
theorem Cg (n word sm l): ∀k,(Js n word sm l k).length<=k+1:=by
 intro k
 induction k with
 | zero=>grind [HB,G6]
 | succ k ih=>grind [HA,rT]
def chk (n:Int) (ap be:List (Int×Int)):List (Int×List UInt8) :=
 Js n [97,112,97,114,116] (fun p q=>decide (p=q\/(p.1=q.2/\p.2=q.1))) ap ap.length++Js n [98,101,102,111,114,101] (fun p q=>decide (p=q)) be be.length
def EY (turned:Bool) (p q:Int×Int):Bool:=decide (q.1=p.1/\q.2=p.2)||(turned&&decide (q.1=p.2/\q.2=p.1))
theorem nG : EY true=fun p q=>decide (p=q\/(p.1=q.2/\p.2=q.1)):=by
 funext p q
 simp only [EY,VH,Zc6]
 grind
theorem cV : EY false=fun p q=>decide (p=q):=by
 funext p q
 simp only [EY,QI,Bool.or_false]
 grind
def tw (turned:Bool) (l:List (Int×Int)) (p:Int×Int) (j:Nat):Bool:=(l.take j).any (EY turned p)
theorem vA (turned l p):tw turned l p 0=false:=by simp [tw]
theorem uZ (turned:Bool) (l:List (Int×Int)) (p:Int×Int) (j:Nat) (h:j<l.length):tw turned l p (j+1)=(tw turned l p j||EY turned p (nth l j)):=by
 rw [tw,tw,X0 h,List.any_append,Zh h];simp
theorem MX (n:Int) (word:List UInt8) (l:List (Int×Int)) (c:Bool) (turned:Bool) (hw:word.length<=1000) (hl:l.length<=1048576) :
  ACalls Tryz.prog 78 [.p (.int .i64 n),.p (.list c (l.map eP)),.p (.str word),.p (.bool turned)] [] fun x H'=>x= .sl 0 0 (Js n word (EY turned) l l.length).length (Js n word (EY turned) l l.length).length/\H'= [.elems 2 ((Js n word (EY turned) l l.length).map eF)]:=by
 refine GS [2] (fn:=Tryz.f78) Zb Tryz.func78 rfl Zja ?_;simp (disch:=omega) only [Tryz.f78,go_sem,seval];refine Zp (Weak.ofNil 9 2 (by simp (disch:=omega) only [go_sem,seval]) Zb (Weak.refl _ _ _)) (Zc ?_);refine ZJ [0,1,2,3] (fun _:Unit=> [(9,.sl 0 0 (G6 word l).length (G6 word l).length)]) (fun _=> [.elems 2 ((G6 word l).map eF)]) (fun _=>True) ?_ ?_
 ·refine Zc ?_;refine cD ?_ ?_<;>intro h<;>simp (disch:=omega) only [Sh.out h,go_sem,seval,↓reduceIte]
  ·refine ⟨(),Weak.mk ?_⟩
   have h2:16<l.length:=Za
   simp (disch:=omega) only [G6,h2,go_sem,seval,↓reduceIte]
  ·refine ⟨(),Weak.mk ?_⟩
   have h2: ¬ 16<l.length:=Za
   simp (disch:=omega) only [G6,h2,go_sem,seval,↓reduceIte]
 ·intro _ _;refine Zg [] _ _ _ _ (Zc ?_);refine Zl [0,1,2,3] (fun k:Nat=> [(9,.sl 0 0 (Js n word (EY turned) l k).length (Js n word (EY turned) l k).length),(10,.p (.int .i64 k))]) (fun k=> [.elems 2 ((Js n word (EY turned) l k).map eF)]) (fun k=>k<=l.length) (fun k=>l.length-k) 0 Zb (Weak.mk ?_) ?_
  ·simp (disch:=omega) only [HB,go_sem,seval,↓reduceIte]
  ·intro k hk;have hfl:=Cg n word (EY turned) l k;have hdl:=RT _ k (Nat.lt_succ_self _);refine Zc ?_;refine cD ?_ ?_<;>intro h<;>simp (disch:=omega) only [Sh.out h,go_sem,seval,↓reduceIte]
   ·have hk2:k<l.length:=Za
    simp (disch:=first | omega | (simp only [ZD,ZF,ZG,ZY,Xh,XI]<;>omega)) only [go_sem,seval];refine (P7 (k:Int) Za Za).use ?_;simp (disch:=first | omega | (simp only [ZD,ZF,ZG,ZY,Xh,XI]<;>omega)) only [go_sem,seval];have hs:=HA n word (EY turned) l k
    have hbad:bC n (nth l k)=false->R4 n word (EY turned) l k= [(2,word++ [32]++dec k)]:=fun e=>by simp [R4,e,atW]
    repeat' (first | (refine Vv (fun hq=> ?_) (fun hq=> ?_)<;>(try simp only [Zs,XH,Z5] at hq)<;>simp (disch:=omega) only [Sh.out hq,go_sem,seval]) | (refine gF ?_ ?_<;>intro hq<;>simp (disch:=omega) only [Sh.out hq,go_sem,seval,↓reduceIte]) | (refine cD ?_ ?_<;>intro hq<;>simp (disch:=omega) only [Sh.out hq,go_sem,seval,↓reduceIte]))
    all_goals try (
     have e:=hbad (by simp [bC];omega)
     exact ⟨k+1,Za,Za,Weak.mk (by simp (disch:=omega) only [hs,e,go_sem,seval])⟩)
    have hok:bC n (nth l k)=true:=by simp [bC];omega
    refine Zl [0,1,2,3,9,10,11,12,13] (fun j:Nat=> [(14,.p (.bool (tw turned l (nth l k) j))),(15,.p (.int .i64 j))]) (fun _=> [.elems 2 ((Js n word (EY turned) l k).map eF)]) (fun j=>j<=k) (fun j=>k-j) 0 Zb (Weak.mk ?_) ?_
    ·simp (disch:=omega) only [vA,go_sem,seval,↓reduceIte]
    ·intro j hj;refine Zc ?_;refine cD ?_ ?_<;>intro h4<;>simp (disch:=omega) only [Sh.out h4,go_sem,seval,↓reduceIte]
     ·have hts:=uZ turned l (nth l k) j Za;generalize tw turned l (nth l k) j=q at hts ⊢
      repeat' (first | (refine gT ?_ ?_<;>intro hq<;>simp (disch:=omega) only [Sh.out hq,go_sem,seval,↓reduceIte]) | (refine gF ?_ ?_<;>intro hq<;>simp (disch:=omega) only [Sh.out hq,go_sem,seval,↓reduceIte]) | (refine UV (fun hq=> ?_) (fun hq=> ?_)<;>(try simp only [Zs,XH,Z5] at hq)<;>simp (disch:=omega) only [Sh.out hq,go_sem,seval]))
      all_goals refine ⟨j+1,Za,Za,Weak.mk ?_⟩
      all_goals clear hs hbad hfl hdl
      all_goals simp (disch:=omega) only [hts,go_sem,seval]
      all_goals simp [EY, *]
      all_goals first | omega | (simp [EY, *] at hts;exact hts)
     ·have hjk:j=k:=Za
      subst hjk;refine cD ?_ ?_<;>intro h5<;>simp (disch:=omega) only [Sh.out h5,go_sem,seval,↓reduceIte]
      ·have e:R4 n word (EY turned) l j= [(6,word++ [32]++dec j)]:=by
        have h6:(l.take j).any (EY turned (nth l j))=true:=h5
        grind [R4,atW]
       exact ⟨j+1,Za,Za,Weak.mk (by simp (disch:=omega) only [hs,e,go_sem,seval])⟩
      ·have e:R4 n word (EY turned) l j= []:=by
        have h6:(l.take j).any (EY turned (nth l j))=false:=h5
        simp_all [R4]
       exact ⟨j+1,Za,Za,Weak.mk (by simp (disch:=omega) only [hs,e,go_sem,seval])⟩
   ·have:k=l.length:=Za
    subst this;exact ⟨0,by simp (disch:=omega) only [go_sem,seval]⟩
theorem mL (n:Int) (ap be:List (Int×Int)) (c c':Bool) (hl:ap.length<=1048576) (hl2:be.length<=1048576) :
  ACalls Tryz.prog 45 [.p (.int .i64 n),.p (.list c (ap.map eP)),.p (.list c' (be.map eP))] [] fun x H'=>x= .sl 0 0 (chk n ap be).length (chk n ap be).length/\H'= [.elems 2 ((chk n ap be).map eF)]:=by
 refine UT (fn:=Tryz.f45) Zb Tryz.func45 rfl ZiI ?_;simp (disch:=omega) only [Tryz.f45,go_sem,seval];have h1:=Cg n [97,112,97,114,116] (EY true) ap ap.length;have h2:=Cg n [98,101,102,111,114,101] (EY false) be be.length;refine (MX n _ ap c true (by decide) hl).useF (Zc ?_);refine (MX n _ be c' false (by decide) hl2).useF (Zc ?_);refine ⟨0,?_⟩;rw [chk,<- nG,<- cV];simp (disch:=omega) only [go_sem,seval]
@[go_sem] theorem Zer {H:List AM.Obj} {β:Type} {S b o n:Nat} {xs:List PV} {g:β->PV} {m:List β} (hb:(n+m.length)*b<=140737488355328) (hb2:n+m.length<=140737488355328) :
  V0 H (some (S,b)) (.elems S xs) o n (some (m.map g))=if xs.length=n/\AO S (m.map g)=true then some (.sl o 0 (n+m.length) (n+m.length),F4 H o (.elems S (xs++m.map g))) else none:=by
 simp_all [fD]
def und (word:List UInt8) (f:Flt):Flt:=(f.1,if f.2= [] then word else word++ [32]++f.2)
theorem A3 (word:List UInt8) (l:List Flt) (c:Bool) (hword:word.length<=100) (hl:l.length<=4194306000000) (hp: ∀f∈l,pF 100 f) :
  ACalls Tryz.prog 40 [.p (.str word),.p (.list c (l.map eF))] [] fun x H'=>x= .sl 0 0 (l.map (und word)).length (l.map (und word)).length/\H'= [.elems 2 ((l.map (und word)).map eF)]:=by
 suffices hh:ACalls Tryz.prog 40 [.p (.str word),.p (.list c (l.map eF))] [] fun x H'=> ∃m:List Flt,m=l.map (und word)/\x= .sl 0 0 m.length m.length/\H'= [.elems 2 (m.map eF)] by
  grind
 refine ZQ [2] Tryz.func40 rfl ZiD ?_;simp (disch:=omega) only [Tryz.f40,go_sem,seval];refine Zp (Weak.ofNil 5 2 (by simp (disch:=omega) only [go_sem,seval]) Zb (Weak.refl _ _ _)) ?_;refine Zg [] _ _ _ _ (Zc ?_);refine Zl [0,1] (fun q:Nat×List Flt=> [(5,.sl 0 0 q.2.length q.2.length),(6,.p (.int .i64 q.1))]) (fun q=> [.elems 2 (q.2.map eF)]) (fun q=>q.1<=l.length/\q.2=(l.take q.1).map (und word)) (fun q=>l.length-q.1) (0,[]) ⟨Zb,Zb⟩ (Weak.mk ?_) ?_
 ·simp (disch:=omega) only [go_sem,seval,↓reduceIte]
 ·rintro ⟨k,m⟩ ⟨hk,hm⟩;simp only at hk hm
  have hml:m.length<=k:=by grind
  refine Zc ?_;refine cD ?_ ?_<;>intro h<;>simp (disch:=omega) only [Sh.out h,go_sem,seval,↓reduceIte]
  ·have hk2:k<l.length:=Za
   have hpk:=hp _ (Zt hk2);unfold pF at hpk
   have hnext: ∀f,f=und word (nth l k)->m++ [f]=(l.take (k+1)).map (und word):=fun f hf=>by
    grind [X0,Zh]
   refine cD ?_ ?_<;>intro h2<;>simp (disch:=omega) only [Sh.out h2,go_sem,seval,↓reduceIte]
   ·have h3: ¬(nth l k).2= []:=Za
    simp (disch:=first | omega | (simp only [ZD,ZF,ZG,ZY,Xh,XI]<;>omega)) only [go_sem,seval,↓reduceIte];refine ⟨(k+1,m++ [((nth l k).1,word++ [32]++(nth l k).2)]),⟨Za,hnext _ (by simp [und,h3])⟩,Za,Weak.mk (by simp (disch:=first | omega | (simp only [ZD,ZF,ZG,ZY,Xh,XI]<;>omega)) only [go_sem,seval])⟩
   ·have h3:(nth l k).2= []:=by grind
    refine ⟨(k+1,m++ [((nth l k).1,word)]),⟨Za,hnext _ (by simp [und,h3])⟩,Za,Weak.mk (by simp (disch:=first | omega | (simp only [ZD,ZF,ZG,ZY,Xh,XI]<;>omega)) only [go_sem,seval])⟩
  ·have hkn:k=l.length:=Za
   subst hkn;exact ⟨m,by grind,0,by simp (disch:=omega) only [go_sem,seval]⟩
theorem zS {n:Int} {ap be:List (Int×Int)} (ha:ap.length<=1048576) (hb:be.length<=1048576): ∀f∈chk n ap be,pF 100 f:=by
 have key: ∀(word:List UInt8) (sm:Int×Int->Int×Int->Bool) (l:List (Int×Int)),word.length<=6->l.length<=1048576-> ∀f∈Js n word sm l l.length,pF 100 f:=fun word sm l hw hl f hf=>by
  simp only [Js,Xi,XU,ZM] at hf;rcases hf with hf | ⟨i,hi,hf⟩
  ·grind [G6,pF]
  ·have hd:=Bt 6 i Za
   grind [pF,atW,R4]
 intro f hf;rcases Xi.1 hf with hf | hf
 ·grind
 grind
theorem qS {n:Int} {ap be:List (Int×Int)} :(chk n ap be).length<=ap.length+be.length+2:=by
 grind [Cg,chk]
structure InstOk (x:Inst):Prop where
 net:netOk x.net
 types:typesOk x.net x.types
 orders:ordersOk x.net.places.length (dimsOf x.types) x.types.length x.orders
 rules:chk x.orders.length x.apart x.before= []
theorem FR.und {p:Flt->Prop} {C:Prop} {b:Nat} {l:List Flt} (h:FR p C b l) (word:List UInt8):FR (fun _=>True) C b (l.map (und word)) :=
 ⟨by simpa using h.len,by rw [List.map_eq_nil_iff];exact h.emp,fun _ _=>trivial⟩
theorem zW (x:Inst) (hw:x.wf 1048576):ACalls Tryz.prog 21 [.p (Zv x)] [] fun y H'=> ∃m:List Flt,FR (fun _=>True) (InstOk x) 4194400000000 m/\y= .sl 0 0 m.length m.length/\H'= [.elems 2 (m.map eF)]:=by
 obtain ⟨w1,w2,w3,w4,w5,w6,w7,w8,w9⟩:=hw;refine ZQ [] Tryz.func21 rfl Zik ?_;simp (disch:=omega) only [Tryz.f21,go_sem,seval];have ol:=QN x.net.places.length (dimsOf x.types) x.types.length x.orders x.orders.length;have oat:=PQ (np:=x.net.places.length) (d:=dimsOf x.types) (ty:=x.types.length) w4;have onil:=Ec (np:=x.net.places.length) (d:=dimsOf x.types) (ty:=x.types.length) (l:=x.orders);have cl:=qS (n:=x.orders.length) (ap:=x.apart) (be:=x.before);have cat:=zS (n:=x.orders.length) w6 w8;refine ((zT x.net w1).frozenE).useV fun m1 h1=> ?_
 refine Zc ?_;have h1p:=h1.pmono (q:=pF 100) fun f hf=>hf.mono Za;have u1:=A3 [110,101,116] m1 false Zb h1.len h1p.all;have f1:=h1.und [110,101,116];generalize m1.map (und [110,101,116])=q1 at u1 f1;have f1l:=f1.len;refine (u1).useF (Zc ?_);refine ((zU x.net x.types x.types_c w1 w2 w3).frozenE).useV fun m2 h2=>Zc ?_;have h2p:=h2.pmono (q:=pF 100) fun f hf=>hf.mono Za;have h2l:=h2.len;have u2:=(A3 [116,121,112,101,115] m2 false Zb Za h2p.all).frozen Zb;have f2:=h2.und [116,121,112,101,115]
 generalize m2.map (und [116,121,112,101,115])=q2 at u2 f2;have f2l:=f2.len;refine (u2).use (Zc ?_);have u3:=(A3 [111,114,100,101,114,115] (X5 x.net.places.length (dimsOf x.types) x.types.length x.orders x.orders.length) false Zb Za fun f hf=>(oat f hf).mono Za).frozen Zb;have f3:=(show FR (fun _=>True) (ordersOk x.net.places.length (dimsOf x.types) x.types.length x.orders) (1+8*x.orders.length) (X5 x.net.places.length (dimsOf x.types) x.types.length x.orders x.orders.length) from ⟨ol,onil,fun _ _=>trivial⟩).und [111,114,100,101,114,115]
 generalize (X5 x.net.places.length (dimsOf x.types) x.types.length x.orders x.orders.length).map (und [111,114,100,101,114,115])=q3 at u3 f3;have f3l:=f3.len;refine ZC 13 mixed Ze Ze (Zc ?_);refine Zo (MQ x.types x.types_c w2) (Zc ?_);refine Zo ((zV x.net (dimsOf x.types) x.types.length x.orders x.orders_c w1 w4 w5).frozen Zb) (Zc ?_);refine Zo (u3) (Zc ?_);have u4:=(A3 [114,117,108,101,115] (chk x.orders.length x.apart x.before) false Zb Za cat).frozen Zb
 have f4:=(show FR (fun _=>True) (chk x.orders.length x.apart x.before= []) (x.apart.length+x.before.length+2) (chk x.orders.length x.apart x.before) from ⟨cl,Iff.rfl,fun _ _=>trivial⟩).und [114,117,108,101,115];generalize (chk x.orders.length x.apart x.before).map (und [114,117,108,101,115])=q4 at u4 f4;have f4l:=f4.len;refine ((mL x.orders.length x.apart x.before x.apart_c x.before_c w6 w8).frozen Zb).use (Zc ?_);refine (u4).use (Zc ?_);refine ⟨q1++q2++q3++q4,((f1.app f2).app f3 |>.app f4).to Za ⟨fun ⟨⟨⟨a,b⟩,c⟩,d⟩=>⟨a,b,c,d⟩,fun h=>⟨⟨⟨h.net,h.types⟩,h.orders⟩,h.rules⟩⟩,1,?_⟩
 simp (disch:=omega) only [go_sem,seval]
def Zi (x:Inst):AM.Obj:= .cells [.p (.list x.net.places_c (x.net.places.map eS)),.p (.list x.net.arcs_c (x.net.arcs.map VS)),.p (.list x.types_c (x.types.map X4)),.p (.list x.orders_c (x.orders.map Yj)),.p (.list x.apart_c (x.apart.map eP)),.p (.list x.before_c (x.before.map eP))]
def zSco : Sco:=⟨0,0,0,0⟩
theorem pC (a:Int):IntKind.i64.wrap ((BitVec.ofInt 64 a&&&BitVec.ofInt 64 1).toNat:Int)=a%2:=by
 grind [BitVec.toNat_ofInt,IntWalk.i64_in]
def sHas (s i:Int):Bool:=decide (0<=i)&&decide (i<=62)&&decide (s.fdiv (2^i.toNat)%2=1)
theorem D8 (s i:Int):PC 169 [.p (.int .i64 s),.p (.int .i64 i)] (.bool (sHas s i)):=by
 refine Zd Tryz.func169 rfl Za7 ?_;simp (disch:=omega) only [Tryz.f169,go_sem,seval];refine gT ?_ ?_<;>intro h<;>simp (disch:=omega) only [Sh.out h,go_sem,seval,↓reduceIte]
 ·refine gT ?_ ?_<;>intro h1<;>simp (disch:=omega) only [Sh.out h1,go_sem,seval,↓reduceIte]
  ·have:min i.toNat 64=i.toNat:=Za
   rw [this]
   erw [pC]
   simp [sHas,h,h1]
  grind [sHas]
 ·simp [sHas,h]
def X3 (s:Int) (k:Nat):List Int:=((List.range k).filter fun (i:Nat)=>sHas s (i:Int)).map fun (i:Nat)=>(i:Int)
theorem aT (s:Int):X3 s 0= []:=by simp [X3]
theorem Ny {s:Int} {k:Nat} (h:sHas s (k:Int)=true):X3 s (k+1)=X3 s k++ [(k:Int)]:=by grind [X3,Ye]
theorem Su {s:Int} {k:Nat} (h:sHas s (k:Int)=false):X3 s (k+1)=X3 s k:=by grind [X3,Ye]
theorem CK (s:Int) (k:Nat):(X3 s k).length<=k:=by
 grind [X3]
theorem DB (s:Int):ACalls Tryz.prog 160 [.p (.int .i64 s)] [] fun x H'=>x= .sl 0 0 (X3 s 63).length (X3 s 63).length/\H'= [.elems 1 ((X3 s 63).map eI)]:=by
 refine UT (fn:=Tryz.f160) Zb Tryz.func160 rfl Za0 ?_;simp (disch:=omega) only [Tryz.f160,go_sem,seval];refine Zl [0] (fun k:Nat=> [(3,.sl 0 0 (X3 s k).length (X3 s k).length),(5,.p (.int .i64 k))]) (fun k=> [.elems 1 ((X3 s k).map eI)]) (fun k=>k<=63) (fun k=>63-k) 0 Zb (Weak.ofNil 3 1 (by simp (disch:=omega) only [go_sem,seval]) Zb (Weak.mk ?_)) ?_
 ·simp (disch:=omega) only [aT,go_sem,seval,↓reduceIte]
 ·intro k hk;have hl:=CK s k;refine Zc ?_;refine cD ?_ ?_<;>intro h<;>simp (disch:=omega) only [Sh.out h,go_sem,seval,↓reduceIte]
  ·refine (D8 s k).use (Zc ?_);refine cD ?_ ?_<;>intro h2<;>simp (disch:=omega) only [Sh.out h2,go_sem,seval,↓reduceIte]
   ·refine ⟨k+1,Za,Za,Weak.mk ?_⟩;simp (disch:=omega) only [Ny h2,go_sem,seval]
   ·exact ⟨k+1,Za,Za,Weak.mk (by simp (disch:=omega) only [Su h2,go_sem,seval])⟩
  ·have:k=63:=Za
   subst this;exact ⟨0,by simp (disch:=omega) only [go_sem,seval]⟩
def eN (n:Nat):PV:= .int .i64 (n:Int)
@[go_sem] theorem Zp0 (n:Nat):eN n= .int .i64 (n:Int):=Zk rfl rfl
theorem gB (n:Nat) (be:List (Int×Int)) (c:Bool) (hn:n<=60) (hl:be.length<=1048576) (hv:Val n be) :
  ACalls Tryz.prog 187 [.p (.int .i64 (n:Int)),.p (.list c (be.map eP))] [] fun x H'=>x= .sl 0 0 n n/\H'= [.elems 1 ((Kk n be).map eN)]:=by
 refine UT (fn:=Tryz.f187) (by simpa using (Fs hv).len) Tryz.func187 rfl Zbk ?_;simp (disch:=omega) only [Tryz.f187,go_sem,seval];have hp60:pw n<=pw 62:=Ko Za;have h62:=F9;refine Zl [0,1] (fun q:List Nat×Bool=> [(5,.sl 0 0 n n),(6,.p (.bool q.2))]) (fun q=> [.elems 1 (q.1.map eN)]) (fun q=>Snd n be q.1/\(q.2=false->tot (ET q.1 be)=tot q.1)) (fun q=>2*(n*pw n-tot q.1)+(if q.2 then 1 else 0)) (List.replicate n 0,true) ⟨Snd.zero n be,Zb⟩ (Weak.mk ?_) ?_
 ·simp (disch:=omega) only [Av,go_sem,seval,↓reduceIte]
 ·rintro ⟨out,more⟩ ⟨hs,hm⟩;simp only at hs hm;refine Zc ?_;refine cD ?_ ?_<;>intro h<;>simp (disch:=omega) only [Sh.out h,go_sem,seval,↓reduceIte]
  ·have hrs: ∀i,Snd n be (ET out (be.take i)):=fun i=>hs.rnd hv _ fun p hp=>J4 hp
   have hsuc: ∀i,i<be.length->ET out (be.take (i+1))=Ep (ET out (be.take i)) (nth be i):=fun i hi=>by
    rw [X0 hi,PU,<- Zh hi];rfl
   refine Zl [0,1,16,17] (fun i:Nat=> [(5,.sl 0 0 n n),(6,.p (.bool (decide (tot out<tot (ET out (be.take i)))))),(18,.p (.int .i64 i))]) (fun i=> [.elems 1 ((ET out (be.take i)).map eN)]) (fun i=>i<=be.length) (fun i=>be.length-i) 0 Zb (Weak.mk ?_) ?_
   ·simp (disch:=omega) only [ET,Ql,UJ,go_sem,seval];simp
   ·intro i hi;have hsi:=hrs i;generalize hgo:ET out (be.take i)=o at hsi ⊢;have hlo:=hsi.len;refine Zc ?_;refine cD ?_ ?_<;>intro h2<;>simp (disch:=omega) only [Sh.out h2,go_sem,seval,↓reduceIte]
    ·have hib:i<be.length:=Za
     have hvi:=hv (nth be i) (by grind [Zh])
     have g1: ¬(nth be i).1<0:=Za
     have g2: ¬(nth be i).2<0:=Za
     have g3: ¬(n:Int)<=(nth be i).1:=Za
     have g4: ¬(n:Int)<=(nth be i).2:=Za
     have g5:(nth be i).1.toNat<n:=Za
     have g6:(nth be i).2.toNat<n:=Za
     have b1:=hsi.lt _ g5;have b2:=hsi.lt _ g6;have b3:nth o (nth be i).2.toNat|||nth o (nth be i).1.toNat<pw n:=Jb b2 b1;have b4:pw (nth be i).1.toNat<=pw 62:=Ko Za;have hst:=RS o (nth be i) Za;have hnx:=hsuc i hib;rw [hgo] at hnx;refine Fi mixed Ze ?_;simp (disch:=omega) only [hlo,g1,g2,g3,g4,go_sem,seval];refine Fi mixed Ze ?_;simp (disch:=first | omega | (simp only [ZD,ZF,ZG,ZY,Xh,XI]<;>omega)) only [hlo,g5,g6,Vz,go_sem,seval,↓reduceIte]
     have htm:tot out<=tot o:=by
      grind [CU]
     have hsv:o.set (nth be i).2.toNat (nth o (nth be i).2.toNat|||nth o (nth be i).1.toNat|||pw (nth be i).1.toNat)=Ep o (nth be i):=rfl;refine cD ?_ ?_<;>intro h3<;>simp (disch:=omega) only [Sh.out h3,go_sem,seval,↓reduceIte]
     ·have hne: ¬Ep o (nth be i)=o:=fun e=>by
       apply h3
       have e2:nth (Ep o (nth be i)) (nth be i).2.toNat=nth o (nth be i).2.toNat:=by rw [e]
       rw [Ep,EP _ _ _ _ Za] at e2
       grind
      have hlt:tot out<tot (Ep o (nth be i)):=by
       grind
      simp (disch:=first | omega | (simp only [ZD,ZF,ZG,ZY,Xh,XI]<;>omega)) only [go_sem,seval,↓reduceIte];refine ⟨i+1,Za,Za,Weak.mk ?_⟩;simp (disch:=omega) only [hnx,hlt,go_sem,seval];rw [<- hsv,V4]
      rfl
     ·have heq:Ep o (nth be i)=o:=by
       have e:nth o (nth be i).2.toNat|||nth o (nth be i).1.toNat|||pw (nth be i).1.toNat=nth o (nth be i).2.toNat:=Za
       rw [<- hsv,e];apply Jc Zb
       simp_all [Zh]
      refine ⟨i+1,Za,Za,Weak.mk ?_⟩;simp (disch:=omega) only [hnx,heq,go_sem,seval]
    ·have hi2:i=be.length:=Za
     subst hi2;rw [Yd] at hgo;subst hgo;have hpt:=CU hv be out (fun _ h=>h) hs;have hbd:=hsi.bound;refine ⟨(ET out be,decide (tot out<tot (ET out be))),⟨hsi,fun e=> ?_⟩,?_,Weak.mk ?_⟩
     ·grind
     ·grind
     ·simp (disch:=omega) only [go_sem,seval]
  ·refine ⟨0,?_⟩;have:out=Kk n be:=(gP hv (hs.clo hv (hm h))).symm;rw [this];simp (disch:=omega) only [go_sem,seval]
def hv (s k:Nat):Nat:=s / pw k
theorem Sb (s:Nat):hv s 0=s:=by simp [hv,pw]
theorem Sa (s k:Nat):hv s (k+1)=hv s k / 2:=by grind [hv,EV,Nat.div_div_eq_div_mul]
theorem wN (s k:Nat):hv s k<=s:=Nat.div_le_self _ _
theorem jU (s k:Nat):s.testBit k=decide (hv s k%2=1):=by
 rw [Nat.testBit_eq_decide_div_mod_eq]
 rfl
theorem WK (s i:Nat) (hi:i<=62):sHas (s:Int) (i:Int)=s.testBit i:=by
 rw [jU,hv]
 have h1:(0:Int)<=i:=Za
 have h2:(i:Int)<=62:=Za
 simp only [sHas,h1,h2,VI,VH,XY]
 have e:((s:Int)).fdiv (2^i)=((s / pw i:Nat):Int):=by
  grind [pw]
 grind
theorem Vw {α:Type} [Inhabited α] {l:List α} {f:α->Bool} {k:Nat} (h:k<l.length) (hf:f (nth l k)=true):l.any f=true:=by
 grind [Zh]
theorem QY {α:Type} [Inhabited α] {l:List α} {f:α->Bool} (h: ∀j,j<l.length->f (nth l j)=false):l.any f=false:=by
 rw [Vh];intro x hx;obtain ⟨j,hj,rfl⟩:=ZN.1 hx
 grind [Zh]
theorem Wm {p:Nat->Prop} {k:Nat} (h: ∀j,j<k->p j) (hk:p k): ∀j,j<k+1->p j:=fun j hj=>by
 grind
theorem Zjx {s:Int} {k:Nat} {x:Int} (h:x∈X3 s k):0<=x/\x<k:=by
 simp only [X3,XC,QK,ZM] at h;omega
noncomputable def Wt (os:List Ord) (ap be:List (Int×Int)) (s:Int):Int :=
 if s<0 then 2
 else if (X3 s 63).any (fun i=>decide ((os.length:Int)<=i)) then 2
 else if (X3 s 63).any (fun i=>(nth os i.toNat).off) then 9
 else if ap.any (fun p=>sHas s p.1&&sHas s p.2) then 20
 else if be.any (fun p=>sHas s p.2&& !sHas s p.1) then 21
 else if (X3 s 63).any (fun i=>sHas ((nth (Kk os.length be) i.toNat:Nat):Int) i) then 21
 else 0
theorem Ya {P Q:Prop} (h:Q) (e:Q->P:=by intro h;simp (disch:=omega) only [Zi,go_sem,seval];exact h):P:=e h
theorem Tw (net:Net) (tyc:Bool) (tys:List Typ) (c1 c2 c3:Bool) (os:List Ord) (ap be:List (Int×Int)) (s:Int) (hn:os.length<=60) (hla:ap.length<=1048576) (hl:be.length<=1048576) (hv:Val os.length be) :
  PC 159 [.p (Zv ⟨net,tyc,tys,c1,os,c2,ap,c3,be⟩),.p (.int .i64 s)] (.int .i64 (Wt os ap be s)):=by
 have hc:=Fs hv;have hlen:=hc.len;have hm:=CK s 63;refine Zd Tryz.func159 rfl ZaZ ?_;simp (disch:=omega) only [Tryz.f159,go_sem,seval];refine cD ?_ ?_<;>intro hs0<;>simp (disch:=omega) only [Sh.out hs0,go_sem,seval]
 ·simp [Wt,hs0]
 ·refine ((DB s).frozen Zb).use (Zc ?_);generalize hgm:X3 s 63=m at hm ⊢
  have hnn: ∀k,k<m.length->0<=nth m k/\nth m k<63:=fun k hk=>by
   grind [X3,Zh,Az]
  have e0: ¬s<0:=hs0;refine Zl [1,2,5,21,22] (fun k:Nat=> [(23,.p (.int .i64 k))]) (fun _=> [Zi ⟨net,tyc,tys,c1,os,c2,ap,c3,be⟩]) (fun k=>k<=m.length/\ ∀j,j<k->decide ((os.length:Int)<=nth m j)=false) (fun k=>m.length-k) 0 Zb (Weak.mk ?_) ?_
  ·simp (disch:=omega) only [Zi,go_sem,seval]
  ·rintro k ⟨hk,hno⟩;refine Ya ?_;refine cD ?_ ?_<;>intro h<;>simp (disch:=omega) only [Sh.out h,go_sem,seval,↓reduceIte]
   ·have hk2:k<m.length:=Za
    refine ZR ?_ ?_<;>intro h4
    ·grind [Vw,Wt]
    ·exact ⟨k+1,⟨Za,Wm hno (by simp [h4])⟩,Za,wk⟩
   ·have hkm:k=m.length:=Za
    subst hkm;have e1:m.any (fun i=>decide ((os.length:Int)<=i))=false:=QY hno
    have hin: ∀j,j<m.length->(nth m j).toNat<os.length:=fun j hj=>by
     grind
    clear hno hk h;refine Zl [1,2,5,33,34] (fun k:Nat=> [(35,.p (.int .i64 k))]) (fun _=> [Zi ⟨net,tyc,tys,c1,os,c2,ap,c3,be⟩]) (fun k=>k<=m.length/\ ∀j,j<k->(nth os (nth m j).toNat).off=false) (fun k=>m.length-k) 0 Zb (Weak.mk ?_) ?_
    ·simp (disch:=omega) only [Zi,go_sem,seval]
    ·rintro k ⟨hk,hno⟩;refine Ya ?_;refine cD ?_ ?_<;>intro h<;>simp (disch:=omega) only [Sh.out h,go_sem,seval,↓reduceIte]
     ·have hk2:k<m.length:=Za
      have g1:=hin k hk2;have g2:=hnn k hk2;refine Zc ?_;refine ZR ?_ ?_<;>intro h4
      ·grind [Vw,Wt]
      ·exact ⟨k+1,⟨Za,Wm hno h4⟩,Za,wk⟩
     ·have hkm:k=m.length:=Za
      subst hkm;have e2:m.any (fun i=>(nth os i.toNat).off)=false:=QY hno;clear hno hk h;refine Zl [1,2,5,47,48] (fun k:Nat=> [(49,.p (.int .i64 k))]) (fun _=> [Zi ⟨net,tyc,tys,c1,os,c2,ap,c3,be⟩]) (fun k=>k<=ap.length/\ ∀j,j<k->(sHas s (nth ap j).1&&sHas s (nth ap j).2)=false) (fun k=>ap.length-k) 0 Zb (Weak.mk ?_) ?_
      ·simp (disch:=omega) only [Zi,go_sem,seval]
      ·rintro k ⟨hk,hno⟩;refine Ya ?_;refine cD ?_ ?_<;>intro h<;>simp (disch:=omega) only [Sh.out h,go_sem,seval,↓reduceIte]
       ·have hk2:k<ap.length:=Za
        refine (D8 s (nth ap k).1).use (Zc ?_);refine Q1 ?_ ?_<;>intro h5
        ·refine (D8 s (nth ap k).2).use (Zc ?_);refine ZR ?_ ?_<;>intro h6
         ·grind [Vw,Wt]
         ·exact ⟨k+1,⟨Za,Wm hno (by simp [h5,h6])⟩,Za,wk⟩
        ·exact ⟨k+1,⟨Za,Wm hno (by simp [h5])⟩,Za,wk⟩
       ·have hkm:k=ap.length:=Za
        subst hkm;have e3:ap.any (fun p=>sHas s p.1&&sHas s p.2)=false:=QY hno;clear hno hk h;refine Zl [1,2,5,65,66] (fun k:Nat=> [(67,.p (.int .i64 k))]) (fun _=> [Zi ⟨net,tyc,tys,c1,os,c2,ap,c3,be⟩]) (fun k=>k<=be.length/\ ∀j,j<k->(sHas s (nth be j).2&& !sHas s (nth be j).1)=false) (fun k=>be.length-k) 0 Zb (Weak.mk ?_) ?_
        ·simp (disch:=omega) only [Zi,go_sem,seval]
        ·rintro k ⟨hk,hno⟩;refine Ya ?_;refine cD ?_ ?_<;>intro h<;>simp (disch:=omega) only [Sh.out h,go_sem,seval,↓reduceIte]
         ·have hk2:k<be.length:=Za
          refine (D8 s (nth be k).2).use (Zc ?_);refine Q1 ?_ ?_<;>intro h5
          ·refine (D8 s (nth be k).1).use (Zc ?_);refine ZR ?_ ?_<;>intro h6
           ·grind [Vw,Wt]
           ·exact ⟨k+1,⟨Za,Wm hno (by simp [h5,h6])⟩,Za,wk⟩
          ·exact ⟨k+1,⟨Za,Wm hno (by simp [h5])⟩,Za,wk⟩
         ·have hkm:k=be.length:=Za
          subst hkm;have e4:be.any (fun p=>sHas s p.2&& !sHas s p.1)=false:=QY hno;clear hno hk h;refine ((gB os.length be c3 hn hl hv).frozen (by grind)).use (Zc ?_);refine Zl [5,14,89,90] (fun k:Nat=> [(91,.p (.int .i64 k))]) (fun _=> [Zi ⟨net,tyc,tys,c1,os,c2,ap,c3,be⟩]) (fun k=>k<=m.length/\ ∀j,j<k->sHas ((nth (Kk os.length be) (nth m j).toNat:Nat):Int) (nth m j)=false) (fun k=>m.length-k) 0 Zb (Weak.mk ?_) ?_
          ·simp (disch:=omega) only [Zi,go_sem,seval]
          ·rintro k ⟨hk,hno⟩;refine Ya ?_;refine cD ?_ ?_<;>intro h<;>simp (disch:=omega) only [Sh.out h,go_sem,seval,↓reduceIte]
           ·have hk2:k<m.length:=Za
            have g1:=hin k hk2;have g2:=hnn k hk2;refine Zc ?_;refine (D8 ((nth (Kk os.length be) (nth m k).toNat:Nat):Int) (nth m k)).use (Zc ?_);refine ZR ?_ ?_<;>intro h6
            ·grind [Vw,Wt]
            ·exact ⟨k+1,⟨Za,Wm hno h6⟩,Za,wk⟩
           grind [Kk,QY,Wt]
deriving instance DecidableEq for Vis
theorem DZ {v w:Vis} :v=w↔v.order=w.order/\v.drp=w.drp:=by cases v;cases w;simp
def Hw (f:Vis->Bool) (l:List Vis):Int:=match l.findIdx? f with | some i=>(i:Int) | none=> -1
def vIx (l:List Vis) (v:Vis):Int:=Hw (fun w=>decide (v=w)) l
theorem I8 {f:Vis->Bool} {l:List Vis} {k:Nat} (hk:k<l.length) (h:f (nth l k)=true) (hno: ∀j,j<k->f (nth l j)=false):Hw f l=(k:Int):=by
 have:l.findIdx? f=some k:=by
  grind [UE,Zh]
 simp [Hw,this]
theorem Pu {f:Vis->Bool} {l:List Vis} (hno: ∀j,j<l.length->f (nth l j)=false):Hw f l= -1:=by
 have:l.findIdx? f=none:=by
  rw [List.findIdx?_eq_none_iff];intro x hx;obtain ⟨j,hj,rfl⟩:=ZN.1 hx
  grind [Zh]
 simp [Hw,this]
theorem Ps {f:Vis->Bool} {l:List Vis} :decide (0<=Hw f l)=l.any f:=by
 grind [Hw]
theorem iL {f:Vis->Bool} {l:List Vis} :Hw f l<l.length/\ -1<=Hw f l:=by
 grind [Hw,UE]
theorem Sc (l:List Vis) (c:Bool) (v:Vis) (hl:l.length<=1048576):PC 262 [.p (.list c (l.map Z8)),.p (Z8 v)] (.int .i64 (vIx l v)):=by
 refine Zd Tryz.func262 rfl Zcf ?_;simp (disch:=omega) only [Tryz.f262,go_sem,seval];refine Zl [0,3,7] (fun k:Nat=> [(8,.p (.int .i64 k))]) (fun _=> [.cells [.p (.int .i64 v.order),.p (.bool v.drp)]]) (fun k=>k<=l.length/\ ∀j,j<k->decide (v=nth l j)=false) (fun k=>l.length-k) 0 Zb (Weak.mk ?_) ?_
 ·simp (disch:=omega) only [go_sem,seval,↓reduceIte]
 ·rintro k ⟨hk,hno⟩;refine Zc ?_;refine cD ?_ ?_<;>intro h<;>simp (disch:=omega) only [Sh.out h,go_sem,seval,↓reduceIte]
  ·have hk2:k<l.length:=Za
   refine Xe (Zc ?_);refine cD ?_ ?_<;>intro h2<;>simp (disch:=omega) only [Sh.out h2,go_sem,seval,↓reduceIte]
   ·grind [DZ,vIx,I8]
   ·have: ¬v=nth l k:=by grind
    exact ⟨k+1,⟨Za,Zr.2 ⟨hno,by grind⟩⟩,Za,wk⟩
  grind [vIx,Pu]
theorem CV (l:List Vis) (c:Bool) (v:Vis) (hl:l.length<=1048576):PC 236 [.p (.list c (l.map Z8)),.p (Z8 v)] (.int .i64 (vIx l v)):=by
 refine Zd Tryz.func236 rfl ZbR ?_;simp (disch:=omega) only [Tryz.f236,go_sem,seval];refine (Sc l c v hl).use ?_;simp (disch:=omega) only [go_sem,seval]
theorem I4 (l:List Vis) (c:Bool) (v:Vis) (hl:l.length<=1048576):PC 269 [.p (.list c (l.map Z8)),.p (Z8 v)] (.bool (decide (0<=vIx l v))):=by
 refine Zd Tryz.func269 rfl Zcm ?_;simp (disch:=omega) only [Tryz.f269,go_sem,seval];refine (Sc l c v hl).use ?_;simp (disch:=omega) only [go_sem,seval]
theorem uW (l:List Ord) (c:Bool) (n:Int) (hl:l.length<=1048576):PC 188 [.p (.list c (l.map Yj)),.p (.int .i64 n)] (.bool (decide (0<=n/\n<l.length))):=by
 refine Zd Tryz.func188 rfl jY ?_;simp (disch:=omega) only [Tryz.f188,go_sem,seval];refine gT ?_ ?_<;>intro h<;>simp (disch:=omega) only [Sh.out h,go_sem,seval,↓reduceIte]
 all_goals (try simp [h])
def ZX (l:List Ord) (i:Nat):List Vis:=(if 0<=(nth l i).pick.place then [⟨i,false⟩] else [])++(if 0<=(nth l i).drp.place then [⟨i,true⟩] else [])
theorem WN (l:List Ord) (i:Nat):(ZX l i).length<=2:=by grind [ZX]
theorem Yg {l:List Ord} {i:Nat} {v:Vis} (h:v∈ZX l i):v.order=i:=by
 grind [ZX]
theorem Rp (l:List Ord) (c:Bool) (i:Nat) (hi:i<l.length) (hl:l.length<=1048576):ACalls Tryz.prog 161 [.p (.list c (l.map Yj)),.p (.int .i64 (i:Nat))] [] fun x H'=>x= .sl 0 0 (ZX l i).length (ZX l i).length/\H'= [.elems 2 ((ZX l i).map Z8)]:=by
 suffices hh:ACalls Tryz.prog 161 [.p (.list c (l.map Yj)),.p (.int .i64 (i:Nat))] [] fun x H'=> ∃m:List Vis,m=ZX l i/\x= .sl 0 0 m.length m.length/\H'= [.elems 2 (m.map Z8)] by
  grind
 refine ZQ [2] Tryz.func161 rfl Za1 ?_;simp (disch:=omega) only [Tryz.f161,go_sem,seval];refine Zp (Weak.ofNil 5 2 (by simp (disch:=omega) only [go_sem,seval]) Zb (Weak.refl _ _ _)) ?_;refine Zg [4] _ _ _ _ (Zc ?_);refine (uW l c i hl).use (Zc ?_)
 have h0:(0:Int)<=(i:Int)/\(i:Int)<(l.length:Int):=Za
 simp (disch:=omega) only [h0,go_sem,seval];refine ZJ [0,1] (fun m:List Vis=> [(5,.sl 0 0 m.length m.length)]) (fun m=> [.elems 2 (m.map Z8)]) (fun m=>m=(if 0<=(nth l i).pick.place then [⟨i,false⟩] else [])) ?_ ?_
 ·refine Zc ?_;refine cD ?_ ?_<;>intro h<;>simp (disch:=omega) only [Sh.out h,go_sem,seval,↓reduceIte]
  ·exact ⟨[⟨i,false⟩],by simp [],wk⟩
  ·exact ⟨[],by simp [],wk⟩
 ·intro m hm
  have hml:m.length<=1:=by grind
  refine Zg [] _ _ _ _ (Zc ?_);refine cD ?_ ?_<;>intro h<;>simp (disch:=omega) only [Sh.out h,go_sem,seval,↓reduceIte]
  ·exact ⟨m++ [⟨i,true⟩],by simp_all [ZX],0,by simp (disch:=omega) only [go_sem,seval]⟩
  ·exact ⟨m,by simp_all [ZX],0,by simp (disch:=omega) only [go_sem,seval]⟩
theorem visits_c (l:List Ord) (c:Bool) (i:Nat) (hi:i<l.length) (hl:l.length<=1048576):PC 161 [.p (.list c (l.map Yj)),.p (.int .i64 (i:Nat))] (.list false ((ZX l i).map Z8)) :=
 (Rp l c i hi hl).frozen Zb
def K8 (l:List Vis):Bool:=(List.range l.length).any fun i=>decide (0<=vIx (l.take i) (nth l i))
theorem vB (l:List Vis) (c:Bool) (hl:l.length<=1048576):PC 247 [.p (.list c (l.map Z8))] (.bool (K8 l)):=by
 refine Zd Tryz.func247 rfl Zb1 ?_;simp (disch:=omega) only [Tryz.f247,go_sem,seval];refine Zl [0,5,6] (fun k:Nat=> [(7,.p (.int .i64 k))]) (fun _=> []) (fun k=>k<=l.length/\ ∀j,j<k->decide (0<=vIx (l.take j) (nth l j))=false) (fun k=>l.length-k) 0 Zb (Weak.mk ?_) ?_
 ·simp (disch:=omega) only [go_sem,seval,↓reduceIte]
 ·rintro k ⟨hk,hno⟩;refine Zc ?_;refine cD ?_ ?_<;>intro h<;>simp (disch:=omega) only [Sh.out h,go_sem,seval,↓reduceIte]
  ·have hk2:k<l.length:=Za
   refine Xe (Zc ?_);refine Zo (CV (l.take k) _ (nth l k) (by simp;omega)) (Zc ?_);refine cD ?_ ?_<;>intro h2<;>simp (disch:=omega) only [Sh.out h2,go_sem,seval,↓reduceIte]
   ·grind [K8]
   ·exact ⟨k+1,⟨Za,Zr.2 ⟨hno,by grind⟩⟩,Za,wk⟩
  grind [K8]
theorem D9 (l:List Vis) (c:Bool) (g:FuncId) (caps:List V) (H:List AM.Obj) (f:Vis->Bool) (hl:l.length<=1048576) (hW:OG H H.length H H) (hc:Xn H.length caps=true)
  (hg: ∀v∈l,ACalls Tryz.prog g (.p (Z8 v)::caps) H fun x H'=>x= .p (.bool (f v))/\H'=H) :
  ACalls Tryz.prog 268 [.p (.list c (l.map Z8)),.fn (.func g) [] caps] H fun x H'=>x= .p (.int .i64 (Hw f l))/\H'=H:=by
 refine YT Tryz.func268 rfl Zcl (Zg [] _ _ _ _ ?_);simp (disch:=omega) only [Tryz.f268,go_sem,seval];refine Zl [0,1,7] (fun k:Nat=> [(8,.p (.int .i64 k))]) (fun _=>H) (fun k=>k<=l.length/\ ∀j,j<k->f (nth l j)=false) (fun k=>l.length-k) 0 Zb (Weak.mk ?_) ?_
 ·simp (disch:=omega) only [hW,hc,go_sem,seval];simp
 ·rintro k ⟨hk,hno⟩;refine Zc ?_;refine cD ?_ ?_<;>intro h<;>simp (disch:=omega) only [Sh.out h,go_sem,seval,↓reduceIte]
  ·have hk2:k<l.length:=Za
   refine (hg (nth l k) (Zt hk2)).useH (Zc ?_);refine cD ?_ ?_<;>intro h2<;>simp (disch:=omega) only [Sh.out h2,go_sem,seval,↓reduceIte]
   ·grind [I8]
   ·have h3:f (nth l k)=false:=Za
    refine ⟨k+1,⟨Za,Zr.2 ⟨hno,h3⟩⟩,Za,Weak.mk ?_⟩;simp (disch:=omega) only [hW,hc,go_sem,seval];simp
  grind [Pu]
theorem Qg (l:List Vis) (c:Bool) (g:FuncId) (caps:List V) (H:List AM.Obj) (f:Vis->Bool) (hl:l.length<=1048576) (hW:OG H H.length H H) (hc:Xn H.length caps=true)
  (hg: ∀v∈l,ACalls Tryz.prog g (.p (Z8 v)::caps) H fun x H'=>x= .p (.bool (f v))/\H'=H) :
  ACalls Tryz.prog 244 [.p (.list c (l.map Z8)),.fn (.func g) [] caps] H fun x H'=>x= .p (.bool (l.any f))/\H'=H:=by
 refine YT Tryz.func244 rfl ZbY (Zg [] _ _ _ _ ?_);simp (disch:=omega) only [Tryz.f244,go_sem,seval];refine (D9 l c g caps H f hl hW hc hg).useH (Zc ?_);rw [Ps]
def hasO (l:List Vis) (o:Int):Bool:=l.any fun v=>decide (v.order=o)
theorem Zak (v:Vis) (o:Int):ACalls Tryz.prog 270 [.p (Z8 v),.ptr 0 0] [.cells [.p (.int .i64 o)]] fun x H'=>x= .p (.bool (decide (v.order=o)))/\H'= [.cells [.p (.int .i64 o)]]:=by
 refine Zf [] Tryz.func270 rfl Zcn ?_;simp (disch:=omega) only [Tryz.f270,go_sem,seval];exact we
theorem TJ (v:Vis) (o:Int):ACalls Tryz.prog 271 [.p (Z8 v),.ptr 0 0] [.cells [.p (.int .i64 o)]] fun x H'=>x= .p (.bool (decide (v.order=o)))/\H'= [.cells [.p (.int .i64 o)]]:=by
 refine Zf [] Tryz.func271 rfl Zco ?_;simp (disch:=omega) only [Tryz.f271,go_sem,seval];exact we
theorem C9 (l:List Vis) (c:Bool) (o:Int) (hl:l.length<=1048576):PC 249 [.p (.list c (l.map Z8)),.p (.int .i64 o)] (.bool (hasO l o)):=by
 refine Zd Tryz.func249 rfl Zb3 ?_;simp (disch:=omega) only [Tryz.f249,go_sem,seval];refine (Qg l c 270 [.ptr 0 0] [.cells [.p (.int .i64 o)]] (fun v=>decide (v.order=o)) hl (by simp (disch:=omega) only [go_sem,seval]) (by rfl) (fun v _=>Zak v o)).useH (Zc ?_);rw [hasO]
def beforeB (l:List Vis) (a b:Int):Bool:=if Hw (fun v=>decide (v.order=b)) l<0 then true else hasO l a&& !hasO (l.drop (Hw (fun v=>decide (v.order=b)) l).toNat) a
theorem Oa (l:List Vis) (c:Bool) (a b:Int) (hl:l.length<=1048576):PC 250 [.p (.list c (l.map Z8)),.p (.int .i64 a),.p (.int .i64 b)] (.bool (beforeB l a b)):=by
 refine Zd Tryz.func250 rfl Zb4 ?_;simp (disch:=omega) only [Tryz.f250,go_sem,seval];refine (D9 l c 271 [.ptr 0 0] [.cells [.p (.int .i64 b)]] (fun v=>decide (v.order=b)) hl (by simp (disch:=omega) only [go_sem,seval]) (by rfl) (fun v _=>TJ v b)).useH ?_;have hlt:=iL (f:=fun v=>decide (v.order=b)) (l:=l);refine Zc ?_;refine cD ?_ ?_<;>intro h<;>simp (disch:=omega) only [Sh.out h,go_sem,seval]
 ·rw [beforeB,if_pos h]
 ·refine (C9 l c a hl).use (Zc ?_);generalize hq:Hw (fun v=>decide (v.order=b)) l=q at hlt h ⊢
  cases h2:hasO l a with
  | false =>
   refine Zc ?_
   simp_all [beforeB]
  | true =>
   simp (disch:=omega) only [Yd,go_sem,seval];refine (C9 (l.drop q.toNat) _ a (by simp;omega)).use (Zc ?_)
   simp_all [beforeB,if_neg]
def QZ (l:List Vis):Int->List Vis->Bool
 | _,[]=>true
 | last,w::r=>decide (last<vIx l w)&&QZ l (vIx l w) r
def pairB (os:List Ord) (l:List Vis) (v:Vis):Bool:=decide (0<=vIx (ZX os v.order.toNat) v)&&QZ l (-1) (ZX os v.order.toNat)
theorem Od (x:Inst) (l:List Vis) (c:Bool) (hl:l.length<=1048576) (ho:x.orders.length<=1048576) (hv: ∀v∈l,0<=v.order/\v.order<x.orders.length) :
  PC 248 [.p (Zv x),.p (.list c (l.map Z8))] (.bool (l.all (pairB x.orders l))):=by
 refine Zd Tryz.func248 rfl Zb2 ?_;simp (disch:=omega) only [Tryz.f248,go_sem,seval];refine Zl [1,2,12,13] (fun k:Nat=> [(14,.p (.int .i64 k))]) (fun _=> [Zi x]) (fun k=>k<=l.length/\ ∀j,j<k->pairB x.orders l (nth l j)=true) (fun k=>l.length-k) 0 Zb (Weak.mk ?_) ?_
 ·simp (disch:=omega) only [Zi,go_sem,seval]
 ·rintro k ⟨hk,hno⟩;refine Ya ?_;refine cD ?_ ?_<;>intro h<;>simp (disch:=omega) only [Sh.out h,go_sem,seval,↓reduceIte]
  ·have hk2:k<l.length:=Za
   obtain ⟨v1,v2⟩:=hv _ (Zt hk2)
   have hbad:pairB x.orders l (nth l k)=false->l.all (pairB x.orders l)=false:=fun h4=>by
    grind [Zt]
   obtain ⟨i,hi⟩: ∃i:Nat,(nth l k).order=(i:Int):=⟨(nth l k).order.toNat,Za⟩
   have hp:pairB x.orders l (nth l k)=(decide (0<=vIx (ZX x.orders i) (nth l k))&&QZ l (-1) (ZX x.orders i)):=by rw [pairB,hi];rfl
   rw [hi] at v1 v2;simp (disch:=omega) only [hi,go_sem,seval];refine (visits_c x.orders x.orders_c i Za ho).use (Zc ?_);have hvl:=WN x.orders i;have hcon:=I4 (ZX x.orders i) false (nth l k) Za;rw [RY,hi] at hcon;refine (hcon).use (Zc ?_);refine cD ?_ ?_<;>intro h2<;>simp (disch:=omega) only [Sh.out h2,go_sem,seval]
   ·grind
   ·have h2':0<=vIx (ZX x.orders i) (nth l k):=Za
    generalize hown:ZX x.orders i=own at hvl hp h2' ⊢
    have hp2:pairB x.orders l (nth l k)=QZ l (-1) own:=by grind
    refine Zl [1,2,12,13,14,27,28] (fun q:Nat×Int=> [(8,.p (.int .i64 q.2)),(29,.p (.int .i64 q.1))]) (fun _=> [Zi x,.cells [.p (.int .i64 (i:Int)),.p (.bool (nth l k).drp)]]) (fun q=>q.1<=own.length/\QZ l (-1) own=QZ l q.2 (own.drop q.1)) (fun q=>own.length-q.1) (0,-1) Zb (Weak.mk ?_) ?_
    ·simp (disch:=omega) only [Zi,go_sem,seval]
    ·rintro ⟨j,last⟩ ⟨hj,ha⟩;simp only at hj ha;refine Ya ?_;refine ZR ?_ ?_<;>intro h3
     ·have hj2:j<own.length:=Za
      have hd:own.drop j=nth own j::own.drop (j+1):=by rw [VF hj2,Zh hj2]
      rw [hd] at ha;refine (CV l c (nth own j) hl).use (Zc ?_);refine ZR ?_ ?_<;>intro h4
      ·grind [QZ]
      ·have h5:last<vIx l (nth own j):=Za
       exact ⟨(j+1,vIx l (nth own j)),⟨Za,by grind [QZ]⟩,Za,wk⟩
     ·have hjl:j=own.length:=Za
      subst hjl;exact ⟨k+1,⟨Za,Zr.2 ⟨hno,by grind [QZ]⟩⟩,Za,wk⟩
  ·have hkl:k=l.length:=Za
   subst hkl
   have:l.all (pairB x.orders l)=true:=by
    rw [ZA];intro v hv;obtain ⟨j,hj,rfl⟩:=ZN.1 hv
    grind [Zh]
   rw [this]
def Xu (r:Rte):AM.Obj:= .cells [.p (.int .i64 r.typ),.p (.int .i64 r.start),.p (.list r.rests_c (r.rests.map eB)),.p (.list r.visits_c (r.visits.map Z8))]
def W2 (x:Inst) (v:Vis):Bool:= !decide (0<=v.order/\v.order<(x.orders.length:Int))
theorem gE (x:Inst) (r:Rte) (v:Vis) (ho:x.orders.length<=1048576):ACalls Tryz.prog 245 [.p (Z8 v),.ptr 0 0] [Zi x,Xu r] fun y H'=>y= .p (.bool (W2 x v))/\H'= [Zi x,Xu r]:=by
 refine Zf [] Tryz.func245 rfl ZbZ ?_;simp (disch:=omega) only [Tryz.f245,Zi,Xu,go_sem,seval];refine gF ?_ ?_<;>intro h<;>simp (disch:=omega) only [Sh.out h,go_sem,seval,↓reduceIte]
 ·have e:W2 x v=true:=by
   grind [W2]
  rw [e];exact we
 ·have e:W2 x v=decide ((x.orders.length:Int)<=v.order):=by
   have h0:0<=v.order:=Za
   rw [Wp];simp [W2,h0]
  rw [e];exact we
theorem gG (x:Inst) (r:Rte) (v:Vis) (ho:x.orders.length<=1048576) (h1:0<=v.order) (h2:v.order<x.orders.length):ACalls Tryz.prog 246 [.p (Z8 v),.ptr 0 0] [Zi x,Xu r] fun y H'=>y= .p (.bool (nth x.orders v.order.toNat).off)/\H'= [Zi x,Xu r]:=by
 have h3:v.order.toNat<x.orders.length:=Za
 refine Zf [] Tryz.func246 rfl Zb0 ?_;simp (disch:=omega) only [Tryz.f246,Zi,Xu,go_sem,seval];exact we
def Xg (x:Inst) (l:List Vis):Int :=
 if l.length=0\/l.any (W2 x)=true then 2
 else if (l.any fun v=>(nth x.orders v.order.toNat).off)=true then 9
 else if K8 l=true then 6
 else if l.all (pairB x.orders l)=false then 19
 else if (x.apart.any fun p=>hasO l p.1&&hasO l p.2)=true then 20
 else if (x.before.any fun p=> !beforeB l p.1 p.2)=true then 21
 else 0
theorem K4 {P Q:Prop} (h:Q) (e:Q->P:=by intro h;simp (disch:=omega) only [Zi,Xu,go_sem,seval];exact h):P:=e h
theorem Rg (x:Inst) (r:Rte) (ho:x.orders.length<=1048576) (hl:r.visits.length<=1048576) (hap:x.apart.length<=1048576) (hbe:x.before.length<=1048576) :
  PC 229 [.p (Zv x),.p (Wy r)] (.int .i64 (Xg x r.visits)):=by
 refine Zd Tryz.func229 rfl ZbK ?_;simp (disch:=omega) only [Tryz.f229,go_sem,seval];refine gF ?_ ?_<;>intro h0<;>simp (disch:=omega) only [Sh.out h0,go_sem,seval]
 ·grind [Xg]
 ·have h00: ¬r.visits.length=0:=Za
  refine (Qg r.visits r.visits_c 245 [.ptr 0 0] [Zi x,Xu r] (W2 x) hl (by simp (disch:=omega) only [Zi,Xu,go_sem,seval]) (by rfl) (fun v _=>gE x r v ho)).useH (K4 ?_);refine cD ?_ ?_<;>intro h1<;>simp (disch:=omega) only [Sh.out h1,go_sem,seval]
  ·simp_all [Xg]
  ·have h1':r.visits.any (W2 x)=false:=Za
   have c1: ¬(r.visits.length=0\/r.visits.any (W2 x)=true):=by grind
   have hin: ∀v∈r.visits,0<=v.order/\v.order<x.orders.length:=fun v hv=>by
    grind [W2]
   refine (Qg r.visits r.visits_c 246 [.ptr 0 0] [Zi x,Xu r] (fun v=>(nth x.orders v.order.toNat).off) hl (by simp (disch:=omega) only [Zi,Xu,go_sem,seval]) (by rfl) (fun v hv=>gG x r v ho (hin v hv).1 (hin v hv).2)).useH (K4 ?_);refine cD ?_ ?_<;>intro h2<;>simp (disch:=omega) only [Sh.out h2,go_sem,seval]
   ·simp_all [Xg]
   ·refine (vB r.visits r.visits_c hl).use (Zc ?_);refine cD ?_ ?_<;>intro h3<;>simp (disch:=omega) only [Sh.out h3,go_sem,seval,↓reduceIte]
    ·simp_all [Xg,if_neg]
    ·refine (Od x r.visits r.visits_c hl ho hin).use (Zc ?_);refine cD ?_ ?_<;>intro h4<;>simp (disch:=omega) only [Sh.out h4,go_sem,seval,↓reduceIte]
     ·simp_all [Xg,if_neg]
     ·have h4':r.visits.all (pairB x.orders r.visits)=true:=by grind
      have hc:Xg x r.visits=if (x.apart.any fun p=>hasO r.visits p.1&&hasO r.visits p.2)=true then 20 else if (x.before.any fun p=> !beforeB r.visits p.1 p.2)=true then 21 else 0:=by
       rw [Xg,if_neg c1,if_neg (by grind),if_neg (by grind),if_neg (by grind)]
      clear h4 h4' h3 h2 c1 h1' h1 h0;refine Zl [2,5,33,34] (fun k:Nat=> [(35,.p (.int .i64 k))]) (fun _=> [Zi x,Xu r]) (fun k=>k<=x.apart.length/\ ∀j,j<k->(hasO r.visits (nth x.apart j).1&&hasO r.visits (nth x.apart j).2)=false) (fun k=>x.apart.length-k) 0 Zb (Weak.mk ?_) ?_
      ·simp (disch:=omega) only [Zi,Xu,go_sem,seval]
      ·rintro k ⟨hk,hno⟩;refine K4 ?_;refine cD ?_ ?_<;>intro h<;>simp (disch:=omega) only [Sh.out h,go_sem,seval,↓reduceIte]
       ·have hk2:k<x.apart.length:=Za
        refine (C9 r.visits r.visits_c (nth x.apart k).1 hl).use (Zc ?_);refine Q1 ?_ ?_<;>intro h2
        ·refine (C9 r.visits r.visits_c (nth x.apart k).2 hl).use (Zc ?_);refine ZR ?_ ?_<;>intro h3
         ·rw [hc,if_pos (Vw hk2 (by grind))]
         ·exact ⟨k+1,⟨Za,Zr.2 ⟨hno,by grind⟩⟩,Za,wk⟩
        ·exact ⟨k+1,⟨Za,Zr.2 ⟨hno,by simp [h2]⟩⟩,Za,wk⟩
       ·have hkl:k=x.apart.length:=Za
        subst hkl;rw [hc,QY hno];clear hno hk h hc;rw [if_neg Zb];refine Zl [5,51,52] (fun k:Nat=> [(53,.p (.int .i64 k))]) (fun _=> [Zi x,Xu r]) (fun k=>k<=x.before.length/\ ∀j,j<k->(!beforeB r.visits (nth x.before j).1 (nth x.before j).2)=false) (fun k=>x.before.length-k) 0 Zb (Weak.mk ?_) ?_
        ·simp (disch:=omega) only [Zi,Xu,go_sem,seval]
        ·rintro k ⟨hk,hno⟩;refine K4 ?_;refine cD ?_ ?_<;>intro h<;>simp (disch:=omega) only [Sh.out h,go_sem,seval,↓reduceIte]
         ·have hk2:k<x.before.length:=Za
          refine (Oa r.visits r.visits_c (nth x.before k).1 (nth x.before k).2 hl).use (Zc ?_);refine ZR ?_ ?_<;>intro h2
          ·have h3:(!beforeB r.visits (nth x.before k).1 (nth x.before k).2)=true:=Za
           rw [if_pos (Vw hk2 h3)]
          ·have h3:(!beforeB r.visits (nth x.before k).1 (nth x.before k).2)=false:=Za
           exact ⟨k+1,⟨Za,Zr.2 ⟨hno,h3⟩⟩,Za,wk⟩
         grind [QY]
@[go_sem] theorem Zk9 {H:List AM.Obj} {n cs cs'} :D1 H n (.tup cs) (.tup cs')=(cs'=cs/\Xn n cs=true):=by simp [D1,dQ,refB]
@[go_sem] theorem P9 {a b:V} :Je [a,b]= .tup [a,b]:=Zk rfl rfl
theorem W3 {g:FuncId} {args:List V} {a b:PV} {H:List AM.Obj} {K:V->List AM.Obj->Prop} (h:ACalls Tryz.prog g args [] fun x H'=>x= .tup [.p a,.p b]/\H'= []) (k:K (.tup [.p a,.p b]) H) (ha:Xn 0 args=true:=by rfl):ACalls Tryz.prog g args H K :=
 (h.behind ha H).mono fun x H' hq=>by
  obtain ⟨y,H1,⟨rfl,rfl⟩,rfl,rfl⟩:=hq
  grind [shV,shVs]
def Xt (l:List Vis):Nat:=l.foldl (fun s v=>s|||pw v.order.toNat) 0
def G7 (v:Vis):Bool:=decide (0<=v.order/\v.order<=62)
theorem DG {l:List Vis} {k:Nat} (hk:k<l.length):Xt (l.take (k+1))=Xt (l.take k)|||pw (nth l k).order.toNat:=by
 grind [X0,Xt,Zh]
theorem AQ : ∀(k:Nat) {l:List Vis},k<=l.length->(∀v∈l.take k,G7 v=true)->Xt (l.take k)<9223372036854775808
 | 0,l,_,_=>by simp [Xt]
 | k+1,l,hk,h=>by
  have hk2:k<l.length:=Za
  have ih:=AQ k (l:=l) Za fun v hv=>h v (List.take_subset_take_left l Za hv);have hv:=h (nth l k) (by rw [Zh hk2];exact ZN.2 ⟨k,by simp;omega,Zb⟩);simp only [G7,Zs] at hv;have h2:pw (nth l k).order.toNat<=pw 62:=Ko Za;have h3:=F9;rw [DG hk2];exact Jb (n:=63) Za Za
def Jd (l:List Vis):Int×Int:=if l.all G7=true then (((Xt l:Nat):Int),0) else (0,2)
theorem Oc (r:Rte) (hl:r.visits.length<=1048576):PT 272 [.p (Wy r)] [.p (.int .i64 (Jd r.visits).1),.p (.int .i64 (Jd r.visits).2)]:=by
 refine Zf [] Tryz.func272 rfl Zcp ?_;simp (disch:=omega) only [Tryz.f272,go_sem,seval];refine Zl [8,9] (fun k:Nat=> [(4,.p (.int .i64 (Xt (r.visits.take k):Nat))),(10,.p (.int .i64 k))]) (fun _=> [Xu r]) (fun k=>k<=r.visits.length/\ ∀j,j<k->G7 (nth r.visits j)=true) (fun k=>r.visits.length-k) 0 Zb (Weak.mk ?_) ?_
 ·simp (disch:=omega) only [Xu,Xt,Ql,UJ,go_sem,seval]
 ·rintro k ⟨hk,hno⟩
  have hlt:=AQ k hk fun v hv=>by
   obtain ⟨j,hj,rfl⟩:=ZN.1 hv
   grind [Zh]
  simp (disch:=omega) only [Xu,go_sem,seval];refine cD ?_ ?_<;>intro h<;>simp (disch:=omega) only [Sh.out h,go_sem,seval,↓reduceIte]
  ·have hk2:k<r.visits.length:=Za
   have hbad:G7 (nth r.visits k)=false->Jd r.visits=(0,2):=fun h4=>by
    grind [Zt,Jd]
   have hs:=DG hk2
   have hp:(nth r.visits k).order<=62->pw (nth r.visits k).order.toNat<=4611686018427387904:=fun h=>by rw [<- F9];exact Ko Za
   refine gF ?_ ?_<;>intro h1<;>simp (disch:=omega) only [Sh.out h1,go_sem,seval,↓reduceIte]
   ·have e:=hbad (by simp [G7];omega);rw [e];exact we
   ·refine ZR ?_ ?_<;>intro h2
    ·have e:=hbad (by simp [G7];omega);rw [e];exact we
    ·exact ⟨k+1,⟨Za,Zr.2 ⟨hno,by simp [G7];omega⟩⟩,Za,Weak.mk (by simp (disch:=omega) only [hs,go_sem,seval])⟩
  ·have hkl:k=r.visits.length:=Za
   subst hkl
   have:r.visits.all G7=true:=by
    rw [ZA];intro v hv;obtain ⟨j,hj,rfl⟩:=ZN.1 hv
    grind [Zh]
   have e:Jd r.visits=(((Xt r.visits:Nat):Int),0):=by simp [Jd,this]
   rw [e,Yd];exact we
theorem Qm {α:Type} [Inhabited α] {a b:List α} (hl:a.length=b.length) (h: ∀j,j<a.length->nth a j=nth b j):a=b:=by
 grind [Jc,Zh]
def YP (a b:Int):Int:=if a<b then-1 else if b<a then 1 else 0
theorem Sg (a:Int):PC 108 [.p (.int .i64 a)] (.bool false):=by
 refine Zd Tryz.func108 rfl Zao ?_;simp (disch:=omega) only [Tryz.f108,go_sem,seval]
 try simp
theorem B8 (a b:Int):PC 69 [.p (.int .i64 a),.p (.int .i64 b)] (.int .i64 (YP a b)):=by
 refine Zd Tryz.func69 rfl Zi1 ?_;simp (disch:=omega) only [Tryz.f69,go_sem,seval];refine (Sg a).use (Zc ?_);refine (Sg b).use (Zc ?_);refine cD ?_ ?_<;>intro h<;>simp (disch:=omega) only [Sh.out h,go_sem,seval]
 ·simp [YP,h]
 ·refine cD ?_ ?_<;>intro h2<;>simp (disch:=omega) only [Sh.out h2,go_sem,seval]
  ·simp [YP,h,h2]
  grind [YP]
def tB (l:List Int):Int:=(l.find? fun n=>decide (n≠0)).getD 0
theorem Zc4 {l:List Int} {k:Nat} (hk:k<l.length) (h:nth l k≠0) (hno: ∀j,j<k->nth l j=0):tB l=nth l k:=by
 grind [nth,EF,tB]
theorem Zc5 {l:List Int} (hno: ∀j,j<l.length->nth l j=0):tB l=0:=by
 have:l.find? (fun n=>decide (n≠0))=none:=by
  rw [Au];intro x hx;obtain ⟨j,hj,rfl⟩:=ZN.1 hx
  grind [Zh]
 grind [tB]
theorem tC (l:List Int) (c:Bool) (hl:l.length<=100):PC 97 [.p (.list c (l.map eI))] (.int .i64 (tB l)):=by
 refine Zd Tryz.func97 rfl Zjn ?_;simp (disch:=omega) only [Tryz.f97,go_sem,seval];refine Zl [3,6,7] (fun k:Nat=> [(8,.p (.int .i64 k))]) (fun _=> []) (fun k=>k<=l.length/\ ∀j,j<k->nth l j=0) (fun k=>l.length-k) 0 Zb (Weak.mk ?_) ?_
 ·simp (disch:=omega) only [go_sem,seval]
 ·rintro k ⟨hk,hno⟩;refine Zc ?_;refine cD ?_ ?_<;>intro h<;>simp (disch:=omega) only [Sh.out h,go_sem,seval,↓reduceIte]
  ·have hk2:k<l.length:=Za
   refine ZR ?_ ?_<;>intro h2
   ·grind [Zc4]
   ·exact ⟨k+1,⟨Za,Zr.2 ⟨hno,Za⟩⟩,Za,wk⟩
  grind [Zc5]
theorem ES (a b:Int):tB [a,b]=if a=0 then b else a:=by
 grind [tB]
def dn (v:Vis):Int:=if v.drp=true then 1 else 0
theorem NF (v:Vis):PC 261 [.p (Z8 v)] (.int .i64 (dn v)):=by
 refine Zd Tryz.func261 rfl Zce ?_;simp (disch:=omega) only [Tryz.f261,go_sem,seval];refine cD ?_ ?_<;>intro h<;>simp (disch:=omega) only [Sh.out h,go_sem,seval]
 ·simp [dn,h]
 ·simp [dn,h]
def Dr (a b:Vis):Int:=if YP a.order b.order=0 then YP (dn a) (dn b) else YP a.order b.order
theorem TZ (a b:Vis):PC 235 [.p (Z8 a),.p (Z8 b)] (.int .i64 (Dr a b)):=by
 refine Zd Tryz.func235 rfl ZbQ ?_;simp (disch:=omega) only [Tryz.f235,go_sem,seval];refine Xe (Zc ?_);refine Zo (B8 a.order b.order) (Zc ?_);refine Zo (NF a) (Zc ?_);refine Zo (NF b) (Zc ?_);refine Zo (B8 (dn a) (dn b)) (Zc ?_);refine Zo (tC [YP a.order b.order,YP (dn a) (dn b)] false Zb) (Zc ?_);rw [ES,Dr]
def By : List Vis->List Vis->Int
 | [],[]=>0
 | [],_::_=> -1
 | _::_,[]=>1
 | a::r,b::s=>if Dr a b=0 then By r s else Dr a b
theorem Qh {α:Type} [Inhabited α] {l:List α} {k:Nat} (h:k<l.length):l.drop k=nth l k::l.drop (k+1):=by rw [VF h,Zh h]
theorem G1 (a b:List Vis) (c d:Bool) (ha:a.length<=1048576) (hb:b.length<=1048576) :
  PC 234 [.p (.list c (a.map Z8)),.p (.list d (b.map Z8)),.fn (.func 235) [] []] (.int .i64 (By a b)):=by
 refine Zd Tryz.func234 rfl ZbP ?_;simp (disch:=omega) only [Tryz.f234,go_sem,seval];refine Zl [0,1,2,11,12] (fun k:Nat=> [(13,.p (.int .i64 k))]) (fun _=> []) (fun k=>k<=a.length/\k<=b.length/\By a b=By (a.drop k) (b.drop k)) (fun k=>a.length-k) 0 Zb (Weak.mk ?_) ?_
 ·simp (disch:=omega) only [go_sem,seval,↓reduceIte]
 ·rintro k ⟨hk,hkb,hle⟩;refine Zc ?_;refine cD ?_ ?_<;>intro h<;>simp (disch:=omega) only [Sh.out h,go_sem,seval,↓reduceIte]
  ·have hk2:k<a.length:=Za
   rw [Qh hk2] at hle;refine cD ?_ ?_<;>intro h2<;>simp (disch:=omega) only [Sh.out h2,go_sem,seval,↓reduceIte]
   ·have:b.drop k= []:=Cw Za;rw [hle,this];rfl
   ·have hk3:k<b.length:=Za
    rw [Qh hk3] at hle;refine (TZ (nth a k) (nth b k)).use (Zc ?_);refine cD ?_ ?_<;>intro h3<;>simp (disch:=omega) only [Sh.out h3,go_sem,seval,↓reduceIte]
    ·simp_all [By]
    ·have h4:Dr (nth a k) (nth b k)=0:=Za
     exact ⟨k+1,⟨Za,Za,by simp_all [By]⟩,Za,wk⟩
  ·have hkl:k=a.length:=Za
   subst hkl;rw [UH] at hle;refine cD ?_ ?_<;>intro h2<;>simp (disch:=omega) only [Sh.out h2,go_sem,seval]
   ·rw [Qh Za] at hle;rw [hle];rfl
   ·have:b.drop a.length= []:=Cw Za;rw [hle,this];rfl
theorem cQ (a b:List Vis) (c d:Bool) (ha:a.length<=1048576) (hb:b.length<=1048576):PC 219 [.p (.list c (a.map Z8)),.p (.list d (b.map Z8))] (.bool (decide (By a b<0))):=by
 refine Zd Tryz.func219 rfl ZbD ?_;simp (disch:=omega) only [Tryz.f219,go_sem,seval];refine (G1 a b c d ha hb).use ?_;simp (disch:=omega) only [go_sem,seval]
def Kt (l:List Vis) (v:Vis):List Vis->Bool
 | []=>true
 | w::r=>if w=v then true else decide (0<=vIx l w)&&Kt l v r
def Uh (l own:List Vis):Bool:=own.all fun w=>decide (0<=vIx l w)
def Ky (os:List Ord) (l:List Vis) (o:Int) (p:Int×Int):Bool:=decide (p.2≠o)||Uh l (ZX os p.1.toNat)
def YY (x:Inst) (l:List Vis) (v:Vis):Bool:=decide (vIx l v<0)&&Kt l v (ZX x.orders v.order.toNat)&&x.before.all (Ky x.orders l v.order)
def QV (v:Vis):AM.Obj:= .cells [.p (.int .i64 v.order),.p (.bool v.drp)]
theorem nX {l:List Vis} {v:Vis} : -1<=vIx l v/\vIx l v<l.length:=by
 simp_all [iL,vIx]
theorem Rh (x:Inst) (l:List Vis) (c:Bool) (v:Vis) (hl:l.length<=1048576) (ho:x.orders.length<=1048576) (hbl:x.before.length<=1048576) (hv:0<=v.order/\v.order<x.orders.length) (hb: ∀p∈x.before,0<=p.1/\p.1<x.orders.length) :
  PC 220 [.p (Zv x),.p (.list c (l.map Z8)),.p (Z8 v)] (.bool (YY x l v)):=by
 refine UU [3] Tryz.func220 rfl ZbE ?_;simp (disch:=omega) only [Tryz.f220,go_sem,seval];refine (CV l c v hl).use (Zc ?_);refine cD ?_ ?_<;>intro h<;>simp (disch:=omega) only [Sh.out h,go_sem,seval]
 ·grind [YY]
 ·have h1:vIx l v<0:=Za
  obtain ⟨i,hi⟩: ∃i:Nat,v.order=(i:Int):=⟨v.order.toNat,Za⟩
  have hr:YY x l v=(Kt l v (ZX x.orders i)&&x.before.all (Ky x.orders l v.order)):=by
   grind [YY]
  have hvi:=visits_c x.orders x.orders_c i Za ho;rw [<- hi] at hvi;refine ZJ [1,3,5] (fun _:Unit=> []) (fun _=> [Zi x,QV v]) (fun _=>Kt l v (ZX x.orders i)=true) ?_ ?_
  ·refine Zc ?_;refine (hvi).use (Zc ?_);have hvl:=WN x.orders i;generalize hown:ZX x.orders i=own at hvl hr ⊢;refine Zl [1,3,5,21,22] (fun k:Nat=> [(23,.p (.int .i64 k))]) (fun _=> [Zi x,QV v]) (fun k=>k<=own.length/\Kt l v own=Kt l v (own.drop k)) (fun k=>own.length-k) 0 Zb (Weak.mk ?_) ?_
   ·simp (disch:=omega) only [Zi,QV,go_sem,seval]
   ·rintro k ⟨hk,hp⟩;simp (disch:=omega) only [Zi,QV,go_sem,seval];refine ZR ?_ ?_<;>intro h2
    ·have hk2:k<own.length:=Za
     rw [Qh hk2] at hp;refine ZR ?_ ?_<;>intro h3
     ·have h4:nth own k=v:=by grind [DZ]
      exact ⟨(),by simp_all [Kt],wk⟩
     ·have h4: ¬nth own k=v:=by grind
      refine (CV l c (nth own k) hl).use (Zc ?_);refine ZR ?_ ?_<;>intro h5
      ·have h6: ¬ 0<=vIx l (nth own k):=Za
       simp_all [Kt]
      ·have h6:0<=vIx l (nth own k):=Za
       exact ⟨k+1,⟨Za,by simp_all [Kt]⟩,Za,wk⟩
    ·have hkl:k=own.length:=Za
     subst hkl;exact ⟨(),by rw [hp,UH];rfl,wk⟩
  ·rintro _ hpre;rw [hpre,VH] at hr;refine Zg [] _ _ _ _ ?_;simp (disch:=omega) only [Zi,QV,go_sem,seval];refine Zl [1,3,5,36,37] (fun k:Nat=> [(38,.p (.int .i64 k))]) (fun _=> [Zi x,QV v]) (fun k=>k<=x.before.length/\ ∀j,j<k->Ky x.orders l v.order (nth x.before j)=true) (fun k=>x.before.length-k) 0 Zb (Weak.mk ?_) ?_
   ·simp (disch:=omega) only [Zi,QV,go_sem,seval]
   ·rintro k ⟨hk,hno⟩;simp (disch:=omega) only [Zi,QV,go_sem,seval];refine cD ?_ ?_<;>intro h2<;>simp (disch:=omega) only [Sh.out h2,go_sem,seval,↓reduceIte]
    ·have hk2:k<x.before.length:=Za
     have hbk:=hb _ (Zt hk2)
     have hbad:Ky x.orders l v.order (nth x.before k)=false->YY x l v=false:=fun h4=>by
      grind [Zt]
     refine ZR ?_ ?_<;>intro h3
     ·exact ⟨k+1,⟨Za,Zr.2 ⟨hno,by simp [Ky,h3]⟩⟩,Za,wk⟩
     ·obtain ⟨a,hao⟩: ∃a:Nat,(nth x.before k).1=(a:Int):=⟨(nth x.before k).1.toNat,Za⟩;have hva:=visits_c x.orders x.orders_c a Za ho;rw [<- hao] at hva
      have h3':(nth x.before k).2=v.order:=Za
      have hbe:Ky x.orders l v.order (nth x.before k)=Uh l (ZX x.orders a):=by grind [Ky]
      refine (hva).use (Zc ?_);have hvl:=WN x.orders a;generalize hown:ZX x.orders a=own at hvl hbe ⊢;refine Zl [1,3,5,36,37,38,51,52] (fun k:Nat=> [(53,.p (.int .i64 k))]) (fun _=> [Zi x,QV v,.cells [.p (.int .i64 (nth x.before k).1),.p (.int .i64 (nth x.before k).2)]]) (fun q=>q<=own.length/\ ∀j,j<q->decide (0<=vIx l (nth own j))=true) (fun k=>own.length-k) 0 Zb (Weak.mk ?_) ?_
      ·simp (disch:=omega) only [Zi,QV,go_sem,seval]
      ·rintro q ⟨hq,hnq⟩;simp (disch:=omega) only [Zi,QV,go_sem,seval];refine ZR ?_ ?_<;>intro h4
       ·have hq2:q<own.length:=Za
        refine (CV l c (nth own q) hl).use (Zc ?_);refine ZR ?_ ?_<;>intro h5
        ·grind [Uh,Zt]
        ·exact ⟨q+1,⟨Za,Zr.2 ⟨hnq,by simp;omega⟩⟩,Za,wk⟩
       ·have hql:q=own.length:=Za
        subst hql
        have:Uh l own=true:=by
         rw [Uh,ZA];intro w hw;obtain ⟨j,hj,rfl⟩:=ZN.1 hw
         grind [Zh]
        exact ⟨k+1,⟨Za,Zr.2 ⟨hno,by grind⟩⟩,Za,wk⟩
    ·have hkl:k=x.before.length:=Za
     subst hkl
     have:x.before.all (Ky x.orders l v.order)=true:=by
      rw [ZA];intro w hw;obtain ⟨j,hj,rfl⟩:=ZN.1 hw
      grind [Zh]
     rw [hr,this]
def Uo (x:Inst) (S:Nat) (l:List Vis) (i:Nat):List Vis:=if S.testBit i=true/\(nth x.orders i).off=false then (ZX x.orders i).filter (YY x l) else []
def nextU (x:Inst) (S:Nat) (l:List Vis) (k:Nat):List Vis:=(List.range k).flatMap (Uo x S l)
theorem BA (x S l k):nextU x S l (k+1)=nextU x S l k++Uo x S l k:=by simp [nextU,Ye]
theorem aW (x S l i):(Uo x S l i).length<=2:=by
 grind [Uo,WN]
theorem Jx (x S l): ∀k,(nextU x S l k).length<=2*k
 | 0=>by simp [nextU]
 | k+1=>by
  have h1:=Jx x S l k;have h2:=aW x S l k;rw [BA,ZG];omega
theorem cR (x:Inst) (S:Nat) (l:List Vis) (c:Bool) (hS:S<9223372036854775808) (hl:l.length<=1048576) (ho:x.orders.length<=60) (hbl:x.before.length<=1048576) (hb: ∀p∈x.before,0<=p.1/\p.1<x.orders.length) :
  PC 192 [.p (Zv x),.p (.int .i64 (S:Nat)),.p (.list c (l.map Z8))] (.list false ((nextU x S l x.orders.length).map Z8)):=by
 refine ACalls.frozen (S:=2) (n:=(nextU x S l x.orders.length).length) Zb ?_
 suffices hh:ACalls Tryz.prog 192 [.p (Zv x),.p (.int .i64 (S:Nat)),.p (.list c (l.map Z8))] [] fun y H'=> ∃m:List Vis,m=nextU x S l x.orders.length/\y= .sl 0 0 m.length m.length/\H'= [.elems 2 (m.map Z8)] by
  grind
 refine ZQ [2] Tryz.func192 rfl Zbo ?_;simp (disch:=omega) only [Tryz.f192,go_sem,seval];refine Zp (Weak.ofNil 7 2 (by simp (disch:=omega) only [go_sem,seval]) Zb (Weak.refl _ _ _)) ?_;refine Zg [] _ _ _ _ (Zc ?_);refine Zl [1,2,3,13,14] (fun q:Nat×List Vis=> [(7,.sl 1 0 q.2.length q.2.length),(15,.p (.int .i64 q.1))]) (fun q=> [Zi x,.elems 2 (q.2.map Z8)]) (fun q=>q.1<=x.orders.length/\q.2=nextU x S l q.1) (fun q=>x.orders.length-q.1) (0,[]) ⟨Zb,by simp [nextU]⟩ (Weak.mk ?_) ?_
 ·simp (disch:=omega) only [Zi,go_sem,seval]
 ·rintro ⟨k,m⟩ ⟨hk,hm⟩;simp only at hk hm
  have hml:m.length<=2*k:=by grind [Jx]
  have hsc:=BA x S l k;refine Ya ?_;refine cD ?_ ?_<;>intro h<;>simp (disch:=omega) only [Sh.out h,go_sem,seval,↓reduceIte]
  ·have hk2:k<x.orders.length:=Za
   refine I2 ?_ ?_<;>intro h62
   ·omega
   refine I2 ?_ ?_<;>intro h2
   ·have hbit:S.testBit k=false:=by grind [IT]
    have e:Uo x S l k= []:=by simp [Uo,hbit]
    exact ⟨(k+1,m),⟨Za,by grind⟩,Za,wk⟩
   ·have hbit:S.testBit k=true:=by
     grind [IT]
    refine ZR ?_ ?_<;>intro h3
    ·have e:Uo x S l k= []:=by simp [Uo,h3]
     exact ⟨(k+1,m),⟨Za,by grind⟩,Za,wk⟩
    ·have h3':(nth x.orders k).off=false:=Za
     have e:Uo x S l k=(ZX x.orders k).filter (YY x l):=by grind [Uo]
     refine (visits_c x.orders x.orders_c k hk2 Za).use (Zc ?_);have hvl:=WN x.orders k;have hvo: ∀v∈ZX x.orders k,v.order=k:=fun v hv=>Yg hv;generalize hown:ZX x.orders k=own at hvl e hvo ⊢;refine Zl [1,2,3,13,14,15,36,37] (fun q:Nat×List Vis=> [(7,.sl 1 0 q.2.length q.2.length),(38,.p (.int .i64 q.1))]) (fun q=> [Zi x,.elems 2 (q.2.map Z8),Wa (nth x.orders k)]) (fun q=>q.1<=own.length/\q.2=m++(own.take q.1).filter (YY x l)) (fun q=>own.length-q.1) (0,m) ⟨Zb,Zb⟩ (Weak.mk ?_) ?_
     ·simp (disch:=omega) only [Zi,Wa,h3',go_sem,seval]
     ·rintro ⟨j,m2⟩ ⟨hj,hm2⟩;simp only at hj hm2
      have hm2l:m2.length<=2*k+2:=by
       grind
      simp (disch:=omega) only [Zi,Wa,h3',go_sem,seval];refine ZR ?_ ?_<;>intro h4
      ·have hj2:j<own.length:=Za
       have hvj:=hvo _ (Zt hj2)
       have htk:own.take (j+1)=own.take j++ [nth own j]:=by rw [X0 hj2,Zh hj2]
       have hrd:=Rh x l c (nth own j) hl Za hbl Za hb;refine (hrd).use (Zc ?_);refine ZR ?_ ?_<;>intro h5
       ·exact ⟨(j+1,m2++ [nth own j]),⟨Za,by grind⟩,Za,Weak.mk (by simp (disch:=omega) only [h3',go_sem,seval])⟩
       ·exact ⟨(j+1,m2),⟨Za,by grind⟩,Za,Weak.mk (by simp (disch:=omega) only [h3',go_sem,seval])⟩
      ·have hjl:j=own.length:=Za
       subst hjl;exact ⟨(k+1,m2),⟨Za,by grind⟩,Za,wk⟩
  ·have hkn:k=x.orders.length:=Za
   subst hkn;exact ⟨m,hm,1,by simp (disch:=omega) only [go_sem,seval]⟩
theorem zX (l:List Vis) (c:Bool) (hl:l.length<=1048576):PC 195 [.p (.list c (l.map Z8))] (.list true (l.map Z8)):=by
 refine Zd Tryz.func195 rfl Zbr ?_;simp (disch:=omega) only [Tryz.f195,go_sem,seval,↓reduceIte]
@[go_sem] theorem ZnC {H:List AM.Obj} {u2:TypeId} {xs:List PV} {y:V} {k:V->List AM.Obj->Prop} {tt} :R1 Tryz.prog H 41 u2 (.p (.list true xs)) y (Zu k tt)=BE ((Ty (some (2,16)) xs (YB (Tryz.prog.underlying u2) H y)).map .p) (Zu (fun v=>k v H) ⟨⟩):=Po fF
def ZpL (nx:List Vis->List Vis):Nat->List Vis->List (List Vis)->List (List Vis)×Bool
 | 0,l,outs=>(outs++ [l],decide (outs.length+1<=8192))
 | f+1,l,outs=>(nx l).foldl (fun acc v=>if acc.2=true then ZpL nx f (l++ [v]) acc.1 else acc) (outs,true)
def K6 (x:Inst) (S k:Nat):Nat:=((List.range k).map fun i=>if S.testBit i=true then (ZX x.orders i).length else 0).sum
theorem A0 (x S k):K6 x S (k+1)=K6 x S k+if S.testBit k=true then (ZX x.orders k).length else 0:=by simp [K6,Ye]
theorem Dg (x S): ∀k,K6 x S k<=2*k
 | 0=>by simp [K6]
 | k+1=>by
  have h1:=Dg x S k;have h2:=WN x.orders k;rw [A0]
  split<;>omega
def nHas (S:Nat) (i:Int):Bool:=decide (0<=i/\i<=62)&&S.testBit i.toNat
theorem ND {S i:Nat} (h:i<=62):nHas S (i:Int)=S.testBit i:=by
 grind [nHas]
theorem Jz (S:Nat) (i:Int) (hS:S<9223372036854775808):PC 175 [.p (.int .i64 (S:Nat)),.p (.int .i64 i)] (.bool (nHas S i)):=by
 refine Zd Tryz.func175 rfl Zbc ?_;simp (disch:=omega) only [Tryz.f175,go_sem,seval];refine gT ?_ ?_<;>intro h<;>simp (disch:=omega) only [Sh.out h,go_sem,seval,↓reduceIte]
 ·refine gT ?_ ?_<;>intro h1<;>simp (disch:=omega) only [Sh.out h1,go_sem,seval,↓reduceIte]
  ·refine gT ?_ ?_<;>intro h2<;>simp (disch:=omega) only [Sh.out h2,go_sem,seval,↓reduceIte]
   ·have e:((S / pw i.toNat:Nat):Int).tmod 2=((S / pw i.toNat%2:Nat):Int):=by rfl
    rw [e];have h3:(((S / pw i.toNat%2:Nat):Int)=1)=(S.testBit i.toNat=true):=IU
    simp_all [nHas]
   ·simp [nHas,h2]
  ·simp [nHas,h1]
 ·omega
theorem N7 (x:Inst) (i:Nat) (hi:i<x.orders.length) (hl:x.orders.length<=1048576) (hpl: ∀o∈x.orders,-1<=o.pick.place/\ -1<=o.drp.place):ACalls Tryz.prog 177 [.p (Zv x),.p (.int .i64 (i:Nat))] [] fun y H'=>y= .sl 0 0 (ZX x.orders i).length (ZX x.orders i).length/\H'= [.elems 2 ((ZX x.orders i).map Z8)]:=by
 suffices hh:ACalls Tryz.prog 177 [.p (Zv x),.p (.int .i64 (i:Nat))] [] fun y H'=> ∃m:List Vis,m=ZX x.orders i/\y= .sl 0 0 m.length m.length/\H'= [.elems 2 (m.map Z8)] by
  grind
 obtain ⟨h1,h2⟩:=hpl _ (Zt hi);refine ZQ [2] Tryz.func177 rfl Zbe ?_;simp (disch:=omega) only [Tryz.f177,go_sem,seval];refine Zp (Weak.ofNil 5 2 (by simp (disch:=omega) only [go_sem,seval]) Zb (Weak.refl _ _ _)) ?_;refine ZJ [1,2] (fun m:List Vis=> [(5,.sl 1 0 m.length m.length)]) (fun m=> [Zi x,.elems 2 (m.map Z8)]) (fun m=>m=(if 0<=(nth x.orders i).pick.place then [⟨i,false⟩] else [])) ?_ ?_
 ·refine Zc ?_;refine ZR ?_ ?_<;>intro h
  ·exact ⟨[⟨i,false⟩],by grind,Weak.mk (by simp (disch:=omega) only [Zi,go_sem,seval])⟩
  ·exact ⟨[],by grind,Weak.mk (by simp (disch:=omega) only [Zi,go_sem,seval])⟩
 ·intro m hm
  have hml:m.length<=1:=by grind
  refine Zg [] _ _ _ _ (Ya ?_);refine cD ?_ ?_<;>intro h<;>simp (disch:=omega) only [Sh.out h,go_sem,seval,↓reduceIte]
  ·exact ⟨m++ [⟨i,true⟩],by rw [ZX,hm,if_pos (c:=0<=(nth x.orders i).drp.place) Za],1,by simp (disch:=omega) only [go_sem,seval]⟩
  ·exact ⟨m,by simp_all [ZX],1,by simp (disch:=omega) only [go_sem,seval]⟩
theorem DP (x:Inst) (i:Nat) (hi:i<x.orders.length) (hl:x.orders.length<=1048576) (hpl: ∀o∈x.orders,-1<=o.pick.place/\ -1<=o.drp.place):PC 177 [.p (Zv x),.p (.int .i64 (i:Nat))] (.list false ((ZX x.orders i).map Z8)) :=
 (N7 x i hi hl hpl).frozen Zb
theorem Qu (l:List Vis) (c:Bool) (v:Vis) (hl:l.length<=1048576):PC 134 [.p (.list c (l.map Z8)),.p (Z8 v)] (.int .i64 (vIx l v)):=by
 refine Zd Tryz.func134 rfl ZaN ?_;simp (disch:=omega) only [Tryz.f134,go_sem,seval];refine Zl [0,3] (fun k:Nat=> [(5,.p (.int .i64 k))]) (fun _=> [QV v]) (fun k=>k<=l.length/\ ∀j,j<k->decide (v=nth l j)=false) (fun k=>l.length-k) 0 Zb (Weak.mk ?_) ?_
 ·simp (disch:=omega) only [QV,go_sem,seval,↓reduceIte]
 ·rintro k ⟨hk,hno⟩;simp (disch:=omega) only [QV,go_sem,seval];refine cD ?_ ?_<;>intro h<;>simp (disch:=omega) only [Sh.out h,go_sem,seval,↓reduceIte]
  ·have hk2:k<l.length:=Za
   refine Xe (Zc ?_);refine cD ?_ ?_<;>intro h2<;>simp (disch:=omega) only [Sh.out h2,go_sem,seval,↓reduceIte]
   ·have:v=nth l k:=Eq.symm (by grind [DZ])
    grind [vIx,I8]
   ·have: ¬v=nth l k:=fun e=>by grind
    exact ⟨k+1,⟨Za,Zr.2 ⟨hno,by grind⟩⟩,Za,wk⟩
  grind [vIx,Pu]
theorem Ee (l s:List Vis) (c d:Bool) (hl:l.length<=1048576) (hs:s.length<=1048576):PC 179 [.p (.list c (l.map Z8)),.p (.list d (s.map Z8))] (.bool (Uh l s)):=by
 refine Zd Tryz.func179 rfl Zbg ?_;simp (disch:=omega) only [Tryz.f179,go_sem,seval];refine Zl [0,1] (fun k:Nat=> [(5,.p (.int .i64 k))]) (fun _=> []) (fun k=>k<=s.length/\ ∀j,j<k->decide (0<=vIx l (nth s j))=true) (fun k=>s.length-k) 0 Zb (Weak.mk ?_) ?_
 ·simp (disch:=omega) only [go_sem,seval,↓reduceIte]
 ·rintro k ⟨hk,hno⟩;refine Zc ?_;refine cD ?_ ?_<;>intro h<;>simp (disch:=omega) only [Sh.out h,go_sem,seval,↓reduceIte]
  ·have hk2:k<s.length:=Za
   refine (Qu l c (nth s k) hl).use (Zc ?_);refine cD ?_ ?_<;>intro h2<;>simp (disch:=omega) only [Sh.out h2,go_sem,seval,↓reduceIte]
   ·grind [Uh,Zt]
   ·exact ⟨k+1,⟨Za,Zr.2 ⟨hno,by simp;omega⟩⟩,Za,wk⟩
  ·have hkl:k=s.length:=Za
   subst hkl
   have:Uh l s=true:=by
    rw [Uh,ZA];intro w hw;obtain ⟨j,hj,rfl⟩:=ZN.1 hw
    grind [Zh]
   rw [this]
theorem mP (a b:Vis):PC 212 [.p (Z8 a),.p (Z8 b)] (.bool (decide (Dr a b<0))):=by
 refine Zd Tryz.func212 rfl Zbx ?_;simp (disch:=omega) only [Tryz.f212,go_sem,seval]
 repeat' (first | (refine gT ?_ ?_<;>intro hq<;>simp (disch:=omega) only [Sh.out hq,go_sem,seval,↓reduceIte]) | (refine gF ?_ ?_<;>intro hq<;>simp (disch:=omega) only [Sh.out hq,go_sem,seval,↓reduceIte]) | (refine UV (fun hq=> ?_) (fun hq=> ?_)<;>(try simp only [Zs,XH,Z5] at hq)<;>simp (disch:=omega) only [Sh.out hq,go_sem,seval]))
 ·simp_all [Dr,YP]
 ·rename_i h1 h2
  have ha:a.drp=false:=by grind
  cases hb:b.drp<;>simp [Dr,YP,dn,h2,ha,hb]
 ·grind [Dr,YP,dn]
 grind [Dr,YP]
theorem Ah {a b:Int} :YP a b=0↔a=b:=by grind [YP]
theorem Zab {a b:Vis} :dn a=dn b↔a.drp=b.drp:=by grind [dn]
theorem Hp {a b:Vis} :Dr a b=0↔a=b:=by
 grind [Dr,DZ,Ah,Zab]
theorem tZ (a b:List Vis) (c d:Bool) (ha:a.length<=1048576) (hb:b.length<=1048576):PC 178 [.p (.list c (a.map Z8)),.p (.list d (b.map Z8))] (.bool (decide (By a b<0))):=by
 refine Zd Tryz.func178 rfl Zbf ?_;simp (disch:=omega) only [Tryz.f178,go_sem,seval];refine Zl [0,1] (fun k:Nat=> [(5,.p (.int .i64 k))]) (fun _=> []) (fun k=>k<=a.length/\k<=b.length/\By a b=By (a.drop k) (b.drop k)) (fun k=>a.length-k) 0 Zb (Weak.mk ?_) ?_
 ·simp (disch:=omega) only [go_sem,seval,↓reduceIte]
 ·rintro k ⟨hk,hkb,hle⟩;refine Zc ?_;refine gT ?_ ?_<;>intro h<;>simp (disch:=omega) only [Sh.out h,go_sem,seval,↓reduceIte]
  ·refine cD ?_ ?_<;>intro h2<;>simp (disch:=omega) only [Sh.out h2,go_sem,seval,↓reduceIte]
   ·have hk2:k<a.length:=Za
    have hk3:k<b.length:=Za
    rw [Qh hk2,Qh hk3,By] at hle;refine Xe (Zc ?_);refine cD ?_ ?_<;>intro h3<;>simp (disch:=omega) only [Sh.out h3,go_sem,seval,↓reduceIte]
    ·have hne:Dr (nth a k) (nth b k)≠0:=fun e=>by
      grind [Hp]
     refine Xe (Zc ?_);refine Zo (mP (nth a k) (nth b k)) (Zc ?_)
     grind
    ·have e2:nth a k=nth b k:=by
      grind [DZ]
     exact ⟨k+1,⟨Za,Za,by simp_all [Hp]⟩,Za,wk⟩
   grind [Qh,By]
  ·have:a.drop k= []:=Cw Za;rw [hle,this]
   cases hb:b.drop k with
   | nil =>
    have:b.length<=k:=List.drop_eq_nil_iff.1 hb;simp [By];omega
   | cons x r =>
    have:k<b.length:=by
     grind
    simp [By];omega
theorem bJ {S n:Nat} (h:S.testBit n=true):S|||pw n=S:=by
 apply CE
 grind [Kh]
theorem lJ {S n:Nat} (h:S.testBit n=false):S|||pw n=S+pw n:=by
 have e:S%2^(n+1)=S%2^n+2^n*(S / 2^n%2):=Nat.mod_pow_succ;rw [Nat.testBit_eq_decide_div_mod_eq] at h
 have h0:S / 2^n%2=0:=by grind
 rw [h0,Nat.mul_zero,Ub] at e;have hp:0<2^n:=Nat.two_pow_pos n
 have hs:2^(n+1)=2^n+2^n:=Za
 have r1:S%2^(n+1)<2^n:=Za
 have e1:=Nat.two_pow_add_eq_or_of_lt (i:=n) r1 1;have e2:=Nat.two_pow_add_eq_or_of_lt (i:=n+1) (b:=2^n*1+S%2^(n+1)) Za (S / 2^(n+1));have e3:=Nat.two_pow_add_eq_or_of_lt (i:=n+1) (b:=S%2^(n+1)) Za (S / 2^(n+1));have e4:=Nat.div_add_mod S (2^(n+1));rw [pw]
 grind
theorem Ib (r:Rte) (hl:r.visits.length<=1048576):PT 127 [.p (Wy r)] [.p (.int .i64 (Jd r.visits).1),.p (.int .i64 (Jd r.visits).2)]:=by
 refine Zf [] Tryz.func127 rfl ZaG ?_;simp (disch:=omega) only [Tryz.f127,go_sem,seval];refine Zl [1] (fun k:Nat=> [(4,.p (.int .i64 (Xt (r.visits.take k):Nat))),(5,.p (.int .i64 k))]) (fun _=> [Xu r]) (fun k=>k<=r.visits.length/\ ∀j,j<k->G7 (nth r.visits j)=true) (fun k=>r.visits.length-k) 0 Zb (Weak.mk ?_) ?_
 ·simp (disch:=omega) only [Xu,Xt,Ql,UJ,go_sem,seval]
 ·rintro k ⟨hk,hno⟩
  have hlt:=AQ k hk fun v hv=>by
   obtain ⟨j,hj,rfl⟩:=ZN.1 hv
   grind [Zh]
  simp (disch:=omega) only [Xu,go_sem,seval];refine cD ?_ ?_<;>intro h<;>simp (disch:=omega) only [Sh.out h,go_sem,seval,↓reduceIte]
  ·have hk2:k<r.visits.length:=Za
   have hbad:G7 (nth r.visits k)=false->Jd r.visits=(0,2):=fun h4=>by
    grind [Zt,Jd]
   have hs:=DG hk2
   have hp:(nth r.visits k).order<=62->pw (nth r.visits k).order.toNat<=4611686018427387904:=fun h=>by rw [<- F9];exact Ko Za
   refine gF ?_ ?_<;>intro h1<;>simp (disch:=omega) only [Sh.out h1,go_sem,seval,↓reduceIte]
   ·have e:=hbad (by simp [G7];omega);rw [e];exact we
   ·refine cD ?_ ?_<;>intro h2<;>simp (disch:=omega) only [Sh.out h2,go_sem,seval]
    ·have e:=hbad (by simp [G7];omega);rw [e];exact we
    ·have h4:=hp Za;refine (Jz (Xt (r.visits.take k)) (nth r.visits k).order hlt).use (Zc ?_)
     have hin:0<=(nth r.visits k).order/\(nth r.visits k).order<=62:=Za
     have hnh:nHas (Xt (r.visits.take k)) (nth r.visits k).order=(Xt (r.visits.take k)).testBit (nth r.visits k).order.toNat:=by simp [nHas,hin]
     rw [hnh];have hno2:=(Zr (p:=fun j=>G7 (nth r.visits j)=true)).2 ⟨hno,by simp [G7];omega⟩
     have hlt2:=AQ (k+1) hk2 fun v hv=>by
      obtain ⟨j,hj,rfl⟩:=ZN.1 hv
      grind [Zh]
     refine ZR ?_ ?_<;>intro h5
     ·have h6:(Xt (r.visits.take k)).testBit (nth r.visits k).order.toNat=false:=by grind
      rw [lJ h6] at hs;rw [hs] at hlt2;exact ⟨k+1,⟨Za,hno2⟩,Za,Weak.mk (by simp (disch:=omega) only [hs,Int.natCast_add,go_sem,seval])⟩
     ·have h6:(Xt (r.visits.take k)).testBit (nth r.visits k).order.toNat=true:=by grind
      rw [bJ h6] at hs;exact ⟨k+1,⟨Za,hno2⟩,Za,Weak.mk (by simp (disch:=omega) only [hs,go_sem,seval])⟩
  ·have hkl:k=r.visits.length:=Za
   subst hkl
   have:r.visits.all G7=true:=by
    rw [ZA];intro v hv;obtain ⟨j,hj,rfl⟩:=ZN.1 hv
    grind [Zh]
   have e:Jd r.visits=(((Xt r.visits:Nat):Int),0):=by simp [Jd,this]
   rw [e,Yd];exact we
def Plc (x:Inst):Prop:= ∀o∈x.orders,-1<=o.pick.place/\ -1<=o.drp.place
theorem vD {l:List Vis} {v w:Vis} (h:vIx l v=vIx l w) (h0:0<=vIx l v):v=w:=by
 unfold vIx Hw at h h0
 cases hv:l.findIdx? (fun u=>decide (v=u)) with
 | none=>grind
 | some i =>
  grind [UE]
theorem Kj (os:List Ord) (i:Nat):ZX os i= []\/ZX os i= [⟨i,false⟩]\/ZX os i= [⟨i,true⟩]\/ZX os i= [⟨i,false⟩,⟨i,true⟩]:=by
 grind [ZX]
theorem lW {l own:List Vis} (ho:own= []\/(∃v,own= [v])\/ ∃v w,own= [v,w]/\v≠w) :
  QZ l (-1) own=(Uh l own&& !(decide (own.length=2)&&decide (vIx l (nth own 1)<vIx l (nth own 0)))):=by
 rcases ho with rfl | ⟨v,rfl⟩ | ⟨v,w,rfl,hne⟩
 ·rfl
 ·grind [QZ,Uh]
 ·have hne2:0<=vIx l v->vIx l v≠vIx l w:=fun h0 h=>hne (vD h h0);have h1:= @nX l v;have h2:= @nX l w;rw [Wp];simp [QZ,Uh,nth];omega
theorem OC (os:List Ord) (i:Nat):ZX os i= []\/(∃v,ZX os i= [v])\/ ∃v w,ZX os i= [v,w]/\v≠w:=by
 grind [Kj]
theorem Fb {α:Type} [Inhabited α] {l:List α} {f:α->Bool} {k:Nat} (hk:k<l.length) (h:f (nth l k)=false):l.all f=false:=by
 grind [Zt]
theorem IE {α:Type} [Inhabited α] {l:List α} {f:α->Bool} (h: ∀j,j<l.length->f (nth l j)=true):l.all f=true:=by
 rw [ZA];intro v hv;obtain ⟨j,hj,rfl⟩:=ZN.1 hv
 grind [Zh]
theorem cL (x:Inst) (l:List Vis) (c:Bool) (hl:l.length<=1048576) (ho:x.orders.length<=1048576) (hp:Plc x) (hv: ∀v∈l,0<=v.order/\v.order<x.orders.length) :
  PC 135 [.p (Zv x),.p (.list c (l.map Z8))] (.bool (l.all (pairB x.orders l))):=by
 refine Zd Tryz.func135 rfl ZaO ?_;simp (disch:=omega) only [Tryz.f135,go_sem,seval];refine Zl [1,2] (fun k:Nat=> [(5,.p (.int .i64 k))]) (fun _=> [Zi x]) (fun k=>k<=l.length/\ ∀j,j<k->pairB x.orders l (nth l j)=true) (fun k=>l.length-k) 0 Zb (Weak.mk ?_) ?_
 ·simp (disch:=omega) only [Zi,go_sem,seval]
 ·rintro k ⟨hk,hno⟩;refine Ya ?_;refine cD ?_ ?_<;>intro h<;>simp (disch:=omega) only [Sh.out h,go_sem,seval,↓reduceIte]
  ·have hk2:k<l.length:=Za
   obtain ⟨v1,v2⟩:=hv _ (Zt hk2);obtain ⟨i,hi⟩: ∃i:Nat,(nth l k).order=(i:Int):=⟨(nth l k).order.toNat,Za⟩;rw [hi] at v1 v2
   have hpb:pairB x.orders l (nth l k)=(decide (0<=vIx (ZX x.orders i) (nth l k))&&QZ l (-1) (ZX x.orders i)):=by rw [pairB,hi];rfl
   have hown:=OC x.orders i;rw [lW hown] at hpb;refine Xe ?_;simp (disch:=omega) only [hi,go_sem,seval];refine Zo (DP x i Za ho hp) (Zc ?_);have hvl:=WN x.orders i;generalize ZX x.orders i=own at hvl hpb;have hix:=Qu own false (nth l k) Za;rw [RY,hi] at hix;refine Xe ?_;simp (disch:=omega) only [hi,go_sem,seval];refine Zo (hix) (Zc ?_);refine gF ?_ ?_<;>intro h2<;>simp (disch:=omega) only [Sh.out h2,go_sem,seval]
   ·grind [Fb]
   ·have h3:0<=vIx own (nth l k):=Za
    have hgo:pairB x.orders l (nth l k)=true-> ∀j,j<k+1->pairB x.orders l (nth l j)=true:=fun e=>Zr.2 ⟨hno,e⟩;refine Zo (Ee l own c false hl Za) (Zc ?_);refine gF ?_ ?_<;>intro h4<;>simp (disch:=omega) only [Sh.out h4,go_sem,seval]
    ·grind [Fb]
    ·have h5:Uh l own=true:=by grind
     rw [h5] at hpb;refine Q1 ?_ ?_<;>intro h6
     ·have h7:own.length=2:=Za
      refine Zo (Qu l c (nth own 0) hl) (Zc ?_);refine Zo (Qu l c (nth own 1) hl) (Zc ?_);refine ZR ?_ ?_<;>intro h8
      ·grind [Fb]
      ·exact ⟨k+1,⟨Za,hgo (by grind)⟩,Za,wk⟩
     ·exact ⟨k+1,⟨Za,hgo (by grind)⟩,Za,wk⟩
  grind [IE]
def apB (x:Inst) (S:Nat):Bool:=x.apart.any fun p=>nHas S p.1&&nHas S p.2
theorem mK (x:Inst) (S:Nat) (hS:S<9223372036854775808) (ha:x.apart.length<=1048576):PC 136 [.p (Zv x),.p (.int .i64 (S:Nat))] (.bool (!apB x S)):=by
 refine Zd Tryz.func136 rfl ZaP ?_;simp (disch:=omega) only [Tryz.f136,go_sem,seval];refine Zl [1,2] (fun k:Nat=> [(5,.p (.int .i64 k))]) (fun _=> [Zi x]) (fun k=>k<=x.apart.length/\ ∀j,j<k->(nHas S (nth x.apart j).1&&nHas S (nth x.apart j).2)=false) (fun k=>x.apart.length-k) 0 Zb (Weak.mk ?_) ?_
 ·simp (disch:=omega) only [Zi,go_sem,seval]
 ·rintro k ⟨hk,hno⟩;refine Ya ?_;refine cD ?_ ?_<;>intro h<;>simp (disch:=omega) only [Sh.out h,go_sem,seval,↓reduceIte]
  ·have hk2:k<x.apart.length:=Za
   refine (Jz S (nth x.apart k).1 hS).use (Zc ?_);refine Q1 ?_ ?_<;>intro h2
   ·refine (Jz S (nth x.apart k).2 hS).use (Zc ?_);refine ZR ?_ ?_<;>intro h3
    ·grind [apB,Vw]
    ·exact ⟨k+1,⟨Za,Zr.2 ⟨hno,by grind⟩⟩,Za,wk⟩
   ·exact ⟨k+1,⟨Za,Zr.2 ⟨hno,by rw [h2];rfl⟩⟩,Za,wk⟩
  grind [apB,QY]
def Km (l:List Vis) (a b:Int) (j k:Nat):Bool:=decide ((nth l j).order=a)&&decide ((nth l k).order=b)
def QO (S:Nat) (l:List Vis) (p:Int×Int):Bool:= !nHas S p.2||(nHas S p.1&&(List.range l.length).all fun j=>(List.range j).all fun k=> !Km l p.1 p.2 j k)
theorem bX (x:Inst) (S:Nat) (l:List Vis) (c:Bool) (hS:S<9223372036854775808) (hl:l.length<=1048576) (hb:x.before.length<=1048576):PC 137 [.p (Zv x),.p (.int .i64 (S:Nat)),.p (.list c (l.map Z8))] (.bool (x.before.all (QO S l))):=by
 refine Zd Tryz.func137 rfl ZaQ ?_;simp (disch:=omega) only [Tryz.f137,go_sem,seval];refine Zl [1,2,3] (fun k:Nat=> [(7,.p (.int .i64 k))]) (fun _=> [Zi x]) (fun k=>k<=x.before.length/\ ∀j,j<k->QO S l (nth x.before j)=true) (fun k=>x.before.length-k) 0 Zb (Weak.mk ?_) ?_
 ·simp (disch:=omega) only [Zi,go_sem,seval]
 ·rintro i ⟨hi,hno⟩;refine Ya ?_;refine cD ?_ ?_<;>intro h<;>simp (disch:=omega) only [Sh.out h,go_sem,seval,↓reduceIte]
  ·have hi2:i<x.before.length:=Za
   have hgo:QO S l (nth x.before i)=true-> ∀j,j<i+1->QO S l (nth x.before j)=true:=fun e=>Zr.2 ⟨hno,e⟩;have hbad:QO S l (nth x.before i)=false->x.before.all (QO S l)=false:=fun e=>Fb hi2 e;have hdef:QO S l (nth x.before i)=(!nHas S (nth x.before i).2||(nHas S (nth x.before i).1&&(List.range l.length).all fun j=>(List.range j).all fun k=> !Km l (nth x.before i).1 (nth x.before i).2 j k)):=rfl;generalize QO S l (nth x.before i)=R at hgo hbad hdef;generalize nth x.before i=p at hdef ⊢;refine (Jz S p.2 hS).use (Zc ?_)
   refine ZR ?_ ?_<;>intro h2
   ·have h3:nHas S p.2=false:=by grind
    exact ⟨i+1,⟨Za,hgo (by grind)⟩,Za,wk⟩
   ·have h3:nHas S p.2=true:=by grind
    refine (Jz S p.1 hS).use (Zc ?_);refine cD ?_ ?_<;>intro h4<;>simp (disch:=omega) only [Sh.out h4,go_sem,seval]
    ·grind
    ·have h5:nHas S p.1=true:=by grind
     rw [h3,h5] at hdef;simp only [YD,Bool.false_or,VH] at hdef;refine Zl [1,2,3,7,8,9] (fun k:Nat=> [(10,.p (.int .i64 k))]) (fun _=> [Zi x]) (fun k=>k<=l.length/\ ∀j,j<k-> ∀q,q<j->Km l p.1 p.2 j q=false) (fun k=>l.length-k) 0 Zb (Weak.mk ?_) ?_
     ·simp (disch:=omega) only [Zi,go_sem,seval]
     ·rintro j ⟨hj,hnj⟩;refine Ya ?_;refine ZR ?_ ?_<;>intro h6
      ·have hj2:j<l.length:=Za
       refine Zl [1,2,3,7,8,9,10] (fun k:Nat=> [(11,.p (.int .i64 k))]) (fun _=> [Zi x]) (fun k=>k<=j/\ ∀q,q<k->Km l p.1 p.2 j q=false) (fun k=>j-k) 0 Zb (Weak.mk ?_) ?_
       ·simp (disch:=omega) only [Zi,go_sem,seval]
       ·rintro k ⟨hk,hnk⟩;refine Ya ?_;refine ZR ?_ ?_<;>intro h7
        ·have hk2:k<j:=Za
         refine Q1 ?_ ?_<;>intro h8
         ·refine ZR ?_ ?_<;>intro h9
          ·rw [hbad (by
            rw [hdef,List.all_eq_false];refine ⟨j,by grind,?_⟩;rw [UG,List.all_eq_false]
            exact ⟨k,by grind,by simp [Km,h8,h9]⟩)]
          ·exact ⟨k+1,⟨Za,Zr.2 ⟨hnk,by simp [Km,h9]⟩⟩,Za,wk⟩
         ·exact ⟨k+1,⟨Za,Zr.2 ⟨hnk,by simp [Km,h8]⟩⟩,Za,wk⟩
        ·have hkl:k=j:=Za
         subst hkl;exact ⟨k+1,⟨Za,(Zr (p:=fun j=> ∀q,q<j->Km l p.1 p.2 j q=false)).2 ⟨hnj,hnk⟩⟩,Za,wk⟩
      ·have hjl:j=l.length:=Za
       subst hjl;refine ⟨i+1,⟨Za,hgo ?_⟩,Za,wk⟩
       grind
  grind [IE]
theorem mU (x:Inst) (i:Nat) (l:List Vis) (c:Bool) (hl:l.length<=1048576) (ho:x.orders.length<=1048576) (hbl:x.before.length<=1048576) (hp:Plc x) (hb: ∀p∈x.before,0<=p.1/\p.1<x.orders.length) (hi:i<=1048576) :
  PC 176 [.p (Zv x),.p (.int .i64 (i:Nat)),.p (.list c (l.map Z8))] (.bool (x.before.all (Ky x.orders l (i:Int)))):=by
 refine Zd Tryz.func176 rfl Zbd ?_;simp (disch:=omega) only [Tryz.f176,go_sem,seval];refine Zl [1,2,3] (fun k:Nat=> [(7,.p (.int .i64 k))]) (fun _=> [Zi x]) (fun k=>k<=x.before.length/\ ∀j,j<k->Ky x.orders l (i:Int) (nth x.before j)=true) (fun k=>x.before.length-k) 0 Zb (Weak.mk ?_) ?_
 ·simp (disch:=omega) only [Zi,go_sem,seval]
 ·rintro k ⟨hk,hno⟩;refine Ya ?_;refine cD ?_ ?_<;>intro h<;>simp (disch:=omega) only [Sh.out h,go_sem,seval,↓reduceIte]
  ·have hk2:k<x.before.length:=Za
   obtain ⟨b1,b2⟩:=hb _ (Zt hk2);obtain ⟨a,hao⟩: ∃a:Nat,(nth x.before k).1=(a:Int):=⟨(nth x.before k).1.toNat,Za⟩;have hva:=DP x a Za ho hp;rw [<- hao] at hva
   have hdef:Ky x.orders l (i:Int) (nth x.before k)=(decide ((nth x.before k).2≠(i:Int))||Uh l (ZX x.orders a)):=by rw [Ky,hao];rfl
   refine Q1 ?_ ?_<;>intro h2
   ·refine gF ?_ ?_<;>intro h3<;>simp (disch:=omega) only [Sh.out h3,go_sem,seval,↓reduceIte]
    ·omega
    ·refine gF ?_ ?_<;>intro h4<;>simp (disch:=omega) only [Sh.out h4,go_sem,seval,↓reduceIte]
     ·omega
     ·refine (hva).use (Zc ?_);have hvl:=WN x.orders a;refine (Ee l (ZX x.orders a) c false hl Za).use (Zc ?_);refine ZR ?_ ?_<;>intro h5
      ·grind [Fb]
      ·have h6:Uh l (ZX x.orders a)=true:=by grind
       exact ⟨k+1,⟨Za,Zr.2 ⟨hno,by grind⟩⟩,Za,wk⟩
   ·exact ⟨k+1,⟨Za,Zr.2 ⟨hno,by grind⟩⟩,Za,wk⟩
  grind [IE]
theorem LW (S:Nat) (i:Int):sHas (S:Int) i=nHas S i:=by
 by_cases h:0<=i/\i<=62
 ·obtain ⟨k,rfl⟩: ∃k:Nat,i=(k:Int):=⟨i.toNat,Za⟩
  grind [WK,ND]
 ·have h2:nHas S i=false:=by simp only [nHas,h,VE,QI]
  grind [sHas]
theorem FV {S:Nat} {i:Int} :nHas S i=true↔0<=i/\i<=62/\S.testBit i.toNat=true:=by simp [nHas,and_assoc]
theorem Pe {S n i:Nat} (h:S / pw n=0) (hi:S.testBit i=true):i<n:=by
 rcases Y9 i n with h2 | h2
 ·exact h2
 ·have h3:S<2^n:=by
   have:=(Nat.div_eq_zero_iff).1 h;rcases this with h4 | h4
   ·grind [Ga]
   ·exact h4
  grind [UF,Ys,Ap]
theorem Jw {S:Nat} {a:Int} :a∈X3 (S:Int) 63↔ ∃i:Nat,a=(i:Int)/\i<63/\S.testBit i=true:=by
 simp only [X3,XC,QK,ZM]
 constructor
 ·rintro ⟨i,⟨h1,h2⟩,rfl⟩;rw [WK S i Za] at h2
  grind
 ·rintro ⟨i,rfl,h1,h2⟩;exact ⟨i,⟨h1,by grind [WK]⟩,rfl⟩
structure Alw (x:Inst) (S:Nat):Prop where
 off: ∀i,i<x.orders.length->S.testBit i=true->(nth x.orders i).off=false
 apart:apB x S=false
 closed: ∀p∈x.before,nHas S p.2=true->nHas S p.1=true
 acyc: ∀i,i<x.orders.length->S.testBit i=true-> ¬Ch x.before i i
theorem VD {c:Prop} [Decidable c] {a b:Int} (ha:a≠0):(if c then a else b)=0↔ ¬c/\b=0:=by
 grind
theorem QE {x:Inst} {S:Nat} (hn:x.orders.length<=60) (hS:S / pw x.orders.length=0) (hv:Val x.orders.length x.before):Wt x.orders x.apart x.before (S:Int)=0↔Alw x S:=by
 have hlt: ∀i,S.testBit i=true->i<x.orders.length:=fun i h=>Pe hS h
 have e0: ¬(S:Int)<0:=Za
 unfold Wt;rw [if_neg e0,VD Za,VD Za,VD Za,VD Za,VD Za];simp only [and_true]
 constructor
 ·rintro ⟨_,h2,h3,h4,h5⟩;simp only [UG] at h2 h3 h4 h5;rw [Vh] at h2 h4 h5;refine ⟨fun i hi hb=> ?_,?_,fun p hp hb=> ?_,fun i hi hb hc=> ?_⟩
  ·have:=h2 (i:Int) (Jw.2 ⟨i,rfl,Za,hb⟩)
   grind
  ·grind [apB,LW]
  ·have:=h4 p hp
   simp_all [LW]
  ·have:=h5 (i:Int) (Jw.2 ⟨i,rfl,Za,hb⟩)
   grind [WK,U6]
 ·rintro ⟨h1,h2,h3,h4⟩;refine ⟨?_,?_,?_,?_,?_⟩
  ·simp only [UG];rw [Vh];intro a ha;obtain ⟨i,rfl,h5,h6⟩:=Jw.1 ha
   grind
  ·simp only [UG];rw [Vh];intro a ha;obtain ⟨i,rfl,h5,h6⟩:=Jw.1 ha
   grind
  ·simp only [LW,UG];exact h2
  ·simp only [UG]
   grind [LW]
  ·simp only [UG];rw [Vh];intro a ha;obtain ⟨i,rfl,h5,h6⟩:=Jw.1 ha
   grind [WK,U6]
theorem Hx {f g:Nat->Bool} {b:Nat} : ∀(l:List Nat),(∀a,f a=true->g a=true)->f b=false->g b=true->b∈l->(l.filter f).length<(l.filter g).length
 | [],_,_,_,h=>by simp at h
 | x::l,hfg,hf,hg,h=>by
  have hle: ∀l:List Nat,(l.filter f).length<=(l.filter g).length:=by
   intro l
   induction l with
   | nil=>simp
   | cons y l ih =>
    grind
  simp only [CF];rcases Z3.1 h with rfl | h
  ·grind
  ·have:=Hx l hfg hf hg h
   grind
theorem Pr {n:Nat} {be:List (Int×Int)} (hv:Val n be) {P:Nat->Prop} (hP: ∀i,P i->i<n/\ ¬Ch be i i) {i:Nat} (hi:P i): ∃i,P i/\ ∀p∈be,p.2=(i:Int)-> ¬P p.1.toNat:=by
 suffices h: ∀(k i:Nat),P i->((List.range n).filter fun a=>(nth (Kk n be) i).testBit a).length<k-> ∃i,P i/\ ∀p∈be,p.2=(i:Int)-> ¬P p.1.toNat from h _ i hi (Nat.lt_succ_self _)
 intro k
 induction k with
 | zero=>omega
 | succ k ih =>
  intro i hi hk
  by_cases h: ∃p∈be,p.2=(i:Int)/\P p.1.toNat
  ·obtain ⟨p,hp,h1,h2⟩:=h;obtain ⟨v1,v2,v3,v4⟩:=hv p hp;have hE:Ed be p.1.toNat i:=⟨p,hp,Za,h1⟩;refine ih p.1.toNat h2 (UF (Hx (b:=p.1.toNat) _ (fun a ha=> ?_) ?_ ?_ ?_) (by omega:((List.range n).filter fun a=>(nth (Kk n be) i).testBit a).length<=k))
   ·exact (U6 hv a i (hP i hi).1).2 (((U6 hv a _ (hP _ h2).1).1 ha).more hE)
   ·grind [U6]
   ·exact (U6 hv _ i (hP i hi).1).2 (.one hE)
   grind
  grind
theorem Wx {l:List Vis} {v:Vis} :0<=vIx l v↔v∈l:=by
 grind [Ps,vIx]
theorem ZdI {l:List Vis} {v:Vis} :vIx l v<0↔v ∉ l:=by rw [<- Wx];omega
theorem Tv {l own:List Vis} :Uh l own=true↔ ∀w∈own,w∈l:=by
 grind [Uh,Wx]
theorem fR {os:List Ord} {l:List Vis} {o:Int} {p:Int×Int} :Ky os l o p=true↔(p.2=o-> ∀w∈ZX os p.1.toNat,w∈l):=by
 rw [Ky,W1,Tv,Zs]
 grind
theorem fS {x:Inst} {l:List Vis} {o:Int} :x.before.all (Ky x.orders l o)=true↔ ∀p∈x.before,p.2=o-> ∀w∈ZX x.orders p.1.toNat,w∈l:=by
 simp_all [fR]
def Vne (x:Inst):Prop:= ∀i,i<x.orders.length->ZX x.orders i≠ []
theorem mE {l own:List Vis} (ho:own= []\/(∃v,own= [v])\/ ∃v w,own= [v,w]/\v≠w) {k:Nat} (hk:k<own.length):Kt l (nth own k) own=(decide (k=0)||decide (0<=vIx l (nth own 0))):=by
 rcases ho with rfl | ⟨v,rfl⟩ | ⟨v,w,rfl,hne⟩
 ·simp at hk
 ·grind [Kt,nth]
 ·have:k=0\/k=1:=by grind
  rcases this with rfl | rfl
  ·simp [Kt,nth]
  grind [Kt,nth]
theorem cH (x:Inst) (S:Nat) (l:List Vis) (c:Bool) (hS:S<9223372036854775808) (hl:l.length<=1048576) (ho:x.orders.length<=60) (hbl:x.before.length<=1048576) (hp:Plc x) (hb: ∀p∈x.before,0<=p.1/\p.1<x.orders.length) :
  ACalls Tryz.prog 126 [.p (Zv x),.p (.int .i64 (S:Nat)),.p (.list c (l.map Z8))] [] fun y H'=> ∃m:List Vis,m=nextU x S l x.orders.length/\y= .sl 0 0 m.length m.length/\H'= [.elems 2 (m.map Z8)]:=by
 refine ZQ [2] Tryz.func126 rfl ZaF ?_;simp (disch:=omega) only [Tryz.f126,go_sem,seval];refine Zp (Weak.ofNil 7 2 (by simp (disch:=omega) only [go_sem,seval]) Zb (Weak.refl _ _ _)) ?_;refine Zg [] _ _ _ _ (Zc ?_);refine Zl [1,2,3] (fun q:Nat×List Vis=> [(7,.sl 1 0 q.2.length q.2.length),(8,.p (.int .i64 q.1))]) (fun q=> [Zi x,.elems 2 (q.2.map Z8)]) (fun q=>q.1<=x.orders.length/\q.2=nextU x S l q.1) (fun q=>x.orders.length-q.1) (0,[]) ⟨Zb,by simp [nextU]⟩ (Weak.mk ?_) ?_
 ·simp (disch:=omega) only [Zi,go_sem,seval]
 ·rintro ⟨i,m⟩ ⟨hi,hm⟩;simp only at hi hm
  have hml:m.length<=2*i:=by grind [Jx]
  have hsc:=BA x S l i;refine Ya ?_;refine cD ?_ ?_<;>intro h<;>simp (disch:=omega) only [Sh.out h,go_sem,seval,↓reduceIte]
  ·have hi2:i<x.orders.length:=Za
   have hskip:Uo x S l i= []->(i+1,m).2=nextU x S l (i+1):=fun e=>by grind
   refine (Jz S (i:Int) hS).use (Zc ?_);rw [ND Za];refine I2 ?_ ?_<;>intro h2
   ·have hbit:S.testBit i=false:=by grind
    exact ⟨(i+1,m),⟨Za,hskip (by simp [Uo,hbit])⟩,Za,wk⟩
   ·have hbit:S.testBit i=true:=by grind
    refine I2 ?_ ?_<;>intro h3
    ·exact ⟨(i+1,m),⟨Za,hskip (by simp [Uo,h3])⟩,Za,wk⟩
    ·have e:Uo x S l i=(ZX x.orders i).filter (YY x l):=by grind [Uo]
     refine (mU x i l c hl Za hbl hp hb Za).use (Zc ?_);refine ZR ?_ ?_<;>intro h4
     ·have h5:x.before.all (Ky x.orders l (i:Int))=false:=by grind
      refine ⟨(i+1,m),⟨Za,hskip ?_⟩,Za,wk⟩
      grind [List.filter_eq_nil_iff,YY,Yg]
     ·have h5:x.before.all (Ky x.orders l (i:Int))=true:=by grind
      refine (DP x i hi2 Za hp).use (Zc ?_);have hvl:=WN x.orders i;have hvo: ∀v∈ZX x.orders i,v.order=i:=fun v hv=>Yg hv;have htwo:=OC x.orders i
      have hrd: ∀k,k<(ZX x.orders i).length->YY x l (nth (ZX x.orders i) k)=(decide (vIx l (nth (ZX x.orders i) k)<0)&&(decide (k=0)||decide (0<=vIx l (nth (ZX x.orders i) 0)))):=fun k hk=>by
       simp_all [YY,Zt,mE]
      generalize hown:ZX x.orders i=own at hvl e hvo hrd ⊢;refine Zl [1,2,3,8,9] (fun q:Nat×List Vis=> [(7,.sl 1 0 q.2.length q.2.length),(10,.p (.int .i64 q.1))]) (fun q=> [Zi x,.elems 2 (q.2.map Z8)]) (fun q=>q.1<=own.length/\q.2=m++(own.take q.1).filter (YY x l)) (fun q=>own.length-q.1) (0,m) ⟨Zb,Zb⟩ (Weak.mk ?_) ?_
      ·simp (disch:=omega) only [Zi,go_sem,seval]
      ·rintro ⟨j,m2⟩ ⟨hj,hm2⟩;simp only at hj hm2
       have hm2l:m2.length<=2*i+2:=by
        grind
       refine Ya ?_;refine ZR ?_ ?_<;>intro h6
       ·have hj2:j<own.length:=Za
        have htk:own.take (j+1)=own.take j++ [nth own j]:=by rw [X0 hj2,Zh hj2]
        have hr:=hrd j hj2
        have hyes:YY x l (nth own j)=true->((j+1,m2++ [nth own j]):Nat×List Vis).2=m++(own.take (j+1)).filter (YY x l):=fun h7=>by
         grind
        have hno:YY x l (nth own j)=false->((j+1,m2):Nat×List Vis).2=m++(own.take (j+1)).filter (YY x l):=fun h7=>by
         grind
        refine (Qu l c (nth own j) hl).use (Zc ?_);refine Q1 ?_ ?_<;>intro h7
        ·refine I2 ?_ ?_<;>intro h8
         ·exact ⟨(j+1,m2++ [nth own j]),⟨Za,hyes (by grind)⟩,Za,wk⟩
         ·refine (Qu l c (nth own 0) hl).use (Zc ?_);refine ZR ?_ ?_<;>intro h9
          ·exact ⟨(j+1,m2++ [nth own j]),⟨Za,hyes (by grind)⟩,Za,wk⟩
          ·exact ⟨(j+1,m2),⟨Za,hno (by grind)⟩,Za,wk⟩
        ·exact ⟨(j+1,m2),⟨Za,hno (by grind)⟩,Za,wk⟩
       ·have hjl:j=own.length:=Za
        subst hjl;exact ⟨(i+1,m2),⟨Za,by grind⟩,Za,wk⟩
  ·have hkn:i=x.orders.length:=Za
   subst hkn;exact ⟨m,hm,1,by simp (disch:=omega) only [go_sem,seval]⟩
theorem SN (x:Inst) (S:Nat) (l:List Vis) (c:Bool) (hS:S<9223372036854775808) (hl:l.length<=1048576) (ho:x.orders.length<=60) (hbl:x.before.length<=1048576) (hp:Plc x) (hb: ∀p∈x.before,0<=p.1/\p.1<x.orders.length) :
  PC 126 [.p (Zv x),.p (.int .i64 (S:Nat)),.p (.list c (l.map Z8))] (.list false ((nextU x S l x.orders.length).map Z8)) :=
 ACalls.frozen (S:=2) (n:=(nextU x S l x.orders.length).length) Zb ((cH x S l c hS hl ho hbl hp hb).mono fun y H' ⟨m,hm,h1,h2⟩=>by grind)
inductive Gr (x:Inst) (S:Nat):List Vis->Prop where
 | nil:Gr x S []
 | snoc {l:List Vis} {v:Vis} (h:Gr x S l) (hv:v∈nextU x S l x.orders.length):Gr x S (l++ [v])
theorem Ro (os:List Ord) (i:Nat):(ZX os i).Nodup:=by
 grind [Kj]
theorem mD {os:List Ord} {i:Nat} {l:List Vis} {v:Vis} (hv:v∈ZX os i):Kt l v (ZX os i)=true↔(v.drp=true->⟨i,false⟩∈ZX os i->⟨i,false⟩∈l):=by
 rcases Kj os i with h | h | h | h<;>rw [h] at hv ⊢ <;>simp at hv
 ·grind [Kt]
 ·grind [Kt]
 ·rcases hv with rfl | rfl
  ·simp [Kt]
  ·simp [Kt,Wx]
theorem Vk {x:Inst} {l:List Vis} {v:Vis} {i:Nat} (hv:v∈ZX x.orders i):YY x l v=true↔v ∉ l/\(v.drp=true->⟨i,false⟩∈ZX x.orders i->⟨i,false⟩∈l)/\ ∀p∈x.before,p.2=(i:Int)-> ∀w∈ZX x.orders p.1.toNat,w∈l:=by
 have h:=Yg hv;rw [YY,h,XY,ZH,ZH,Zs,ZdI,mD hv,fS,and_assoc]
theorem VJ {x:Inst} {S:Nat} {l:List Vis} {v:Vis} {k:Nat} :v∈nextU x S l k↔ ∃i,i<k/\S.testBit i=true/\(nth x.orders i).off=false/\v∈ZX x.orders i/\YY x l v=true:=by
 rw [nextU,XU]
 constructor
 ·grind [Uo]
 ·rintro ⟨i,hi,h1,h2,h3,h4⟩;exact ⟨i,by grind,by simp_all [Uo]⟩
def Bn (x:Inst) (S k:Nat):List Vis:=(List.range k).flatMap fun i=>if S.testBit i=true then ZX x.orders i else []
theorem Hf (x S k):Bn x S (k+1)=Bn x S k++if S.testBit k=true then ZX x.orders k else []:=by simp [Bn,Ye]
theorem Jl (x S): ∀k,(Bn x S k).length=K6 x S k
 | 0=>by rfl
 | k+1=>by
  rw [Hf,A0,ZG,Jl x S k]
  split<;>simp
theorem WI {x S k v} :v∈Bn x S k↔ ∃i,i<k/\S.testBit i=true/\v∈ZX x.orders i:=by
 simp_all [Bn]
theorem Bo (x S): ∀k,(Bn x S k).Nodup
 | 0=>by simp [Bn]
 | k+1=>by
  rw [Hf,CG];refine ⟨Bo x S k,?_,fun a ha b hb=> ?_⟩
  ·grind [Ro]
  ·obtain ⟨i,hi,_,h2⟩:=WI.1 ha
   split at hb
   ·have h3:=Yg h2;have h4:=Yg hb
    grind
   ·simp at hb
theorem Gr.nodup {x S l} (h:Gr x S l):l.Nodup:=by
 induction h with
 | nil=>simp
 | snoc _ hv ih =>
  obtain ⟨i,_,_,_,h4,h5⟩:=VJ.1 hv;rw [CG];refine ⟨ih,Zb,fun a ha b hb=> ?_⟩;simp at hb;subst hb;exact fun e=>((Vk h4).1 h5).1 (e ▸ ha)
theorem Gr.sub {x S l} (h:Gr x S l): ∀v∈l,v∈Bn x S x.orders.length:=by
 induction h with
 | nil=>simp
 | snoc _ hv ih =>
  obtain ⟨i,h1,h2,_,h4,_⟩:=VJ.1 hv;intro w hw;rcases Xi.1 hw with hw | hw
  ·exact ih w hw
  ·simp at hw;subst hw;exact WI.2 ⟨i,h1,h2,h4⟩
theorem E0 {α:Type} [DecidableEq α] {l m:List α} (hl:l.Nodup) (h: ∀v∈l,v∈m):l.length<=m.length:=List.Nodup.length_le_of_subset hl h
theorem Zdx {α:Type} [DecidableEq α] {l m:List α} (hl:l.Nodup) (h: ∀v∈l,v∈m) (hm:m.length<=l.length): ∀v∈m,v∈l:=fun v hv=>by
 refine J0 fun hno=> ?_
 have:(v::l).length<=m.length:=E0 (by grind) (fun w hw=>by
  grind)
 grind
theorem Gr.len {x S l} (h:Gr x S l):l.length<=K6 x S x.orders.length:=by
 rw [<- Jl];exact E0 h.nodup h.sub
theorem Gr.full {x S l} (h:Gr x S l) (hl:l.length=K6 x S x.orders.length): ∀v∈Bn x S x.orders.length,v∈l:=Zdx h.nodup h.sub (by rw [Jl];omega)
theorem Gr.more {x S l} (ha:Alw x S) (hn:x.orders.length<=60) (hv:Val x.orders.length x.before) (hm: ∃v∈Bn x S x.orders.length,v ∉ l): ∃v,v∈nextU x S l x.orders.length:=by
 obtain ⟨v,hva,hvl⟩:=hm;obtain ⟨i,h1,h2,h3⟩:=WI.1 hva;obtain ⟨j,⟨j1,j2,w,j3,j4⟩,hj⟩:=Pr hv (P:=fun i=>i<x.orders.length/\S.testBit i=true/\ ∃w∈ZX x.orders i,w ∉ l) (fun i hi=>⟨hi.1,ha.acyc i hi.1 hi.2.1⟩) ⟨h1,h2,v,h3,hvl⟩
 have hpre: ∀p∈x.before,p.2=(j:Int)-> ∀w∈ZX x.orders p.1.toNat,w∈l:=fun p hp e w hw=>by
  refine J0 fun hno=> ?_;obtain ⟨v1,v2,v3,v4⟩:=hv p hp;have:=ha.closed p hp (FV.2 ⟨Za,Za,by grind⟩);exact hj p hp e ⟨Za,(FV.1 this).2.2,w,hw,hno⟩
 by_cases hf:(⟨j,false⟩:Vis)∈ZX x.orders j/\(⟨j,false⟩:Vis) ∉ l
 ·exact ⟨⟨j,false⟩,VJ.2 ⟨j,j1,j2,ha.off j j1 j2,hf.1,(Vk hf.1).2 ⟨hf.2,Zb,hpre⟩⟩⟩
 ·refine ⟨w,VJ.2 ⟨j,j1,j2,ha.off j j1 j2,j3,(Vk j3).2 ⟨j4,fun _ hq=> ?_,hpre⟩⟩⟩
  grind
theorem Gr.next_nil {x S l} (h:Gr x S l) (ha:Alw x S) (hn:x.orders.length<=60) (hv:Val x.orders.length x.before):nextU x S l x.orders.length= []↔l.length=K6 x S x.orders.length:=by
 constructor
 ·intro e;refine J0 fun hno=> ?_
  have hex: ∃v∈Bn x S x.orders.length,v ∉ l:=J0 fun hno2=>hno (by
   have h1: ∀v∈Bn x S x.orders.length,v∈l:=fun v hv=>J0 fun h3=>hno2 ⟨v,hv,h3⟩;have:=E0 (Bo x S _) h1;rw [Jl] at this;have:=h.len
   omega)
  obtain ⟨v,hv⟩:=Gr.more (l:=l) ha hn hv hex
  grind
 ·intro e;rw [List.eq_nil_iff_forall_not_mem];intro v hv;obtain ⟨i,h1,h2,_,h4,h5⟩:=VJ.1 hv;exact ((Vk h4).1 h5).1 (h.full e v (WI.2 ⟨i,h1,h2,h4⟩))
theorem S8 {x:Inst} {S:Nat} (hne:Vne x) (hS:S / pw x.orders.length=0) (h0:S≠0):0<K6 x S x.orders.length:=by
 have: ∃i,S.testBit i=true:=by
  refine J0 fun hno=>h0 (CE fun i=> ?_)
  grind
 obtain ⟨i,hi⟩:=this;have hlt:=Pe hS hi;obtain ⟨v,hv⟩:=List.exists_mem_of_ne_nil _ (hne i hlt);have hm:v∈Bn x S x.orders.length:=WI.2 ⟨i,hlt,hi,hv⟩
 grind [Jl]
def ext (nx:List Vis->List Vis):Nat->List Vis->List (List Vis)->List (List Vis)
 | 0,l,outs=>if 8192<outs.length then outs else outs++ [l]
 | f+1,l,outs=>if 8192<outs.length then outs else (nx l).foldl (fun acc v=>ext nx f (l++ [v]) acc) outs
theorem TN {S n:Nat} (hS:S<9223372036854775808) (h: ∀j,j<63->S.testBit j=true->j<n):S / pw n=0:=by
 refine QH ?_;refine Nat.lt_pow_two_of_testBit S fun i hi=> ?_;rcases Y9 i 63 with h2 | h2
 ·grind
 ·exact Ap (UF hS (Ys Za h2:2^63<=2^i))
def NT (x:Inst) (l:List Vis):Int :=
 if l.any (W2 x)=true then 2
 else if l.length=0 then 2
 else if (l.any fun v=>(nth x.orders v.order.toNat).off)=true then 9
 else if ((List.range l.length).any fun i=>decide (vIx l (nth l i)≠(i:Int)))=true then 6
 else if l.all (pairB x.orders l)=false then 19
 else if apB x (Xt l)=true then 20
 else if x.before.all (QO (Xt l) l)=false then 21
 else 0
theorem P6 (x:Inst) (r:Rte) (ho:x.orders.length<=60) (hl:r.visits.length<=1048576) (hap:x.apart.length<=1048576) (hbe:x.before.length<=1048576) (hp:Plc x) :
  PC 88 [.p (Zv x),.p (Wy r)] (.int .i64 (NT x r.visits)):=by
 refine Zd Tryz.func88 rfl Zjh ?_;simp (disch:=omega) only [Tryz.f88,go_sem,seval];refine Zl [2,3,5] (fun k:Nat=> [(6,.p (.int .i64 k))]) (fun _=> [Zi x,Xu r]) (fun k=>k<=r.visits.length/\ ∀j,j<k->W2 x (nth r.visits j)=false) (fun k=>r.visits.length-k) 0 Zb (Weak.mk ?_) ?_
 ·simp (disch:=omega) only [Zi,Xu,go_sem,seval]
 ·rintro k ⟨hk,hno⟩;refine K4 ?_;refine cD ?_ ?_<;>intro h<;>simp (disch:=omega) only [Sh.out h,go_sem,seval,↓reduceIte]
  ·have hk2:k<r.visits.length:=Za
   refine Xe (Zc ?_);refine gF ?_ ?_<;>intro h2<;>simp (disch:=omega) only [Sh.out h2,go_sem,seval,↓reduceIte]
   ·have:W2 x (nth r.visits k)=true:=by simp [W2];omega
    rw [NT,if_pos (Vw hk2 this)]
   ·refine ZR ?_ ?_<;>intro h3
    ·have:W2 x (nth r.visits k)=true:=by simp [W2];omega
     rw [NT,if_pos (Vw hk2 this)]
    ·exact ⟨k+1,⟨Za,Zr.2 ⟨hno,by simp [W2];omega⟩⟩,Za,wk⟩
  ·have hkl:k=r.visits.length:=Za
   subst hkl
   have hr1:NT x r.visits=if r.visits.length=0 then 2 else if (r.visits.any fun v=>(nth x.orders v.order.toNat).off)=true then 9 else if ((List.range r.visits.length).any fun i=>decide (vIx r.visits (nth r.visits i)≠(i:Int)))=true then 6 else if r.visits.all (pairB x.orders r.visits)=false then 19 else if apB x (Xt r.visits)=true then 20 else if x.before.all (QO (Xt r.visits) r.visits)=false then 21 else 0:=by
    rw [NT,if_neg (by rw [QY hno];simp)]
   have hin: ∀j,j<r.visits.length->0<=(nth r.visits j).order/\(nth r.visits j).order<x.orders.length:=fun j hj=>by
    grind [W2]
   have hmem: ∀v∈r.visits,0<=v.order/\v.order<x.orders.length:=fun v hv=>by
    obtain ⟨j,hj,rfl⟩:=ZN.1 hv
    grind [Zh]
   have hord:Jd r.visits=(((Xt r.visits:Nat):Int),0):=by
    rw [Jd,if_pos]
    grind [G7]
   have hlt:Xt r.visits<9223372036854775808:=by
    have:=AQ r.visits.length (l:=r.visits) (ZB _) (fun v hv=>by
     grind [G7])
    grind
   have hoc:=Ib r hl;rw [hord] at hoc;refine W3 hoc (Zc ?_);refine cD ?_ ?_<;>intro h3<;>simp (disch:=omega) only [Sh.out h3,go_sem,seval]
   ·grind
   ·rw [hr1,if_neg Za];clear hno hr1 h3 h hk;refine Zl [2,5,7] (fun k:Nat=> [(9,.p (.int .i64 k))]) (fun _=> [Zi x,Xu r]) (fun k=>k<=r.visits.length/\ ∀j,j<k->(nth x.orders (nth r.visits j).order.toNat).off=false) (fun k=>r.visits.length-k) 0 Zb (Weak.mk ?_) ?_
    ·simp (disch:=omega) only [Zi,Xu,go_sem,seval]
    ·rintro k ⟨hk,hno⟩;refine K4 ?_;refine cD ?_ ?_<;>intro h<;>simp (disch:=omega) only [Sh.out h,go_sem,seval,↓reduceIte]
     ·have hk2:k<r.visits.length:=Za
      obtain ⟨i1,i2⟩:=hin k hk2
      have i3:(nth r.visits k).order.toNat<x.orders.length:=Za
      refine Xe (Zc ?_);refine ZR ?_ ?_<;>intro h4
      ·rw [if_pos (Vw hk2 h4)]
      ·exact ⟨k+1,⟨Za,Zr.2 ⟨hno,h4⟩⟩,Za,wk⟩
     ·have hkl:k=r.visits.length:=Za
      subst hkl;have e9:(r.visits.any fun v=>(nth x.orders v.order.toNat).off)=false:=QY hno;rw [e9,if_neg Zb];clear hno h hk;refine Zl [2,5,7] (fun k:Nat=> [(10,.p (.int .i64 k))]) (fun _=> [Zi x,Xu r]) (fun k=>k<=r.visits.length/\ ∀j,j<k->vIx r.visits (nth r.visits j)=(j:Int)) (fun k=>r.visits.length-k) 0 Zb (Weak.mk ?_) ?_
      ·simp (disch:=omega) only [Zi,Xu,go_sem,seval]
      ·rintro k ⟨hk,hno⟩;refine K4 ?_;refine cD ?_ ?_<;>intro h<;>simp (disch:=omega) only [Sh.out h,go_sem,seval,↓reduceIte]
       ·have hk2:k<r.visits.length:=Za
        refine (Qu r.visits r.visits_c (nth r.visits k) hl).use (Zc ?_);refine ZR ?_ ?_<;>intro h4
        ·have:((List.range r.visits.length).any fun i=>decide (vIx r.visits (nth r.visits i)≠(i:Int)))=true:=by
          grind
         grind
        ·exact ⟨k+1,⟨Za,Zr.2 ⟨hno,Za⟩⟩,Za,wk⟩
       ·have hkl:k=r.visits.length:=Za
        subst hkl
        have:((List.range r.visits.length).any fun i=>decide (vIx r.visits (nth r.visits i)≠(i:Int)))=false:=by
         grind
        rw [this,if_neg Zb];refine (cL x r.visits r.visits_c hl Za hp hmem).use (Zc ?_);refine cD ?_ ?_<;>intro h4<;>simp (disch:=omega) only [Sh.out h4,go_sem,seval,↓reduceIte]
        ·grind
        ·rw [if_neg (by grind)];refine (mK x (Xt r.visits) hlt hap).use (Zc ?_);refine cD ?_ ?_<;>intro h5<;>simp (disch:=omega) only [Sh.out h5,go_sem,seval,↓reduceIte]
         ·grind
         ·rw [if_neg (by grind)];refine (bX x (Xt r.visits) r.visits r.visits_c hlt hl hbe).use (Zc ?_);refine cD ?_ ?_<;>intro h6<;>simp (disch:=omega) only [Sh.out h6,go_sem,seval]
          ·grind
          grind
structure IFacts (x:Inst):Prop where
 len:x.orders.length<=10
 plc:Plc x
 vne:Vne x
 val:Val x.orders.length x.before
 ne: ∀p∈x.before,p.1≠p.2
 aval:Val x.orders.length x.apart
theorem iX {n:Int} {word:List UInt8} {sm:Int×Int->Int×Int->Bool} {l:List (Int×Int)} (h:Js n word sm l l.length= []): ∀p∈l,bC n p=true:=by
 intro p hp;obtain ⟨i,hi,rfl⟩:=ZN.1 hp;have h2:=(V3.1 h).2;rw [List.flatMap_eq_nil_iff] at h2;have h3:=h2 i (by grind)
 grind [R4,Zh]
theorem XK {x:Inst} (h:InstOk x):IFacts x:=by
 have ho:=h.orders;obtain ⟨h1,h2⟩:=V3.1 h.rules;have ha:=iX h1;have hb:=iX h2
 have hpl:Plc x:=fun o hm=>by
  obtain ⟨i,hi,rfl⟩:=ZN.1 hm;have:=ho.2 i hi;rw [<- Zh hi];exact ⟨this.pick.1,this.drp.1⟩
 have val: ∀l:List (Int×Int),(∀p∈l,bC x.orders.length p=true)->Val x.orders.length l:=fun l h p hp=>by
  grind [bC]
 refine ⟨ho.1,hpl,fun i hi=> ?_,val _ hb,fun p hp=> ?_,val _ ha⟩
 ·have h3:=ho.2 i hi;have h4:=hpl _ (Zt hi);have h5:=h3.one
  grind [ZX]
 grind [bC]
theorem W6 {l:List Vis} {o:Int} :hasO l o=true↔ ∃v∈l,v.order=o:=by simp [hasO]
theorem CR : ∀(l:List Vis) (i:Nat),(Xt l).testBit i=true↔ ∃v∈l,v.order.toNat=i:=by
 have key: ∀(l:List Vis) (s i:Nat),(l.foldl (fun s v=>s|||pw v.order.toNat) s).testBit i=true↔s.testBit i=true\/ ∃v∈l,v.order.toNat=i:=by
  intro l
  induction l with
  | nil=>simp
  | cons v l ih =>
   intro s i;rw [XR,ih,AD,Kh,W1,Zs,or_assoc];simp
 grind [Xt]
def Inr (x:Inst) (l:List Vis):Prop:= ∀v∈l,0<=v.order/\v.order<x.orders.length
theorem Uq {x:Inst} {l:List Vis} (hi:Inr x l) (hn:x.orders.length<=60) (o:Int) (h:0<=o/\o<=62):nHas (Xt l) o=hasO l o:=by
 rw [Wp,FV,CR,W6]
 constructor
 ·rintro ⟨h1,h2,v,hv,h3⟩;have:=hi v hv
  grind
 grind
theorem Jh {l:List Vis} (hd:l.Nodup) {k:Nat} (hk:k<l.length):vIx l (nth l k)=(k:Int):=by
 refine I8 hk Zb fun j hj=> ?_
 grind [Zh,Q9]
theorem E1 {l:List Vis} {v:Vis} (h:0<=vIx l v):(vIx l v).toNat<l.length/\nth l (vIx l v).toNat=v:=by
 grind [vIx,Hw,UE,Zh]
theorem ZdH {l:List Vis} {k:Nat} (hk:k<l.length):0<=vIx l (nth l k)/\vIx l (nth l k)<=(k:Int):=by
 grind [vIx,nth,Zt,Hw,UE]
theorem Qy {l:List Vis} {v:Vis} {i:Nat} (h:v∈l.take i): ∃j,j<i/\j<l.length/\nth l j=v:=by
 obtain ⟨j,hj,rfl⟩:=ZN.1 h;simp at hj;exact ⟨j,Za,Za,by grind [Zh]⟩
theorem KM {l:List Vis} {i j:Nat} (h:j<i) (hl:j<l.length):nth l j∈l.take i:=by
 grind [Zh,ZN]
theorem BR {l:List Vis} :K8 l=false↔l.Nodup:=by
 rw [K8,Vh]
 constructor
 ·intro h;rw [List.nodup_iff_pairwise_ne,Q9];intro i j hi hj hij e;have:=h j (by grind);simp only [Zs,Wx] at this;refine this ?_;rw [Zh hj,<- e,<- Zh hi];exact KM hij hi
 ·intro h j hj;simp only [Zs,Wx]
  grind [Qy,Jh]
theorem dE {l:List Vis} :((List.range l.length).any fun i=>decide (vIx l (nth l i)≠(i:Int)))=K8 l:=by
 rw [Wp]
 constructor
 ·grind [Jh,BR]
 ·intro h;rw [K8,WH] at h;obtain ⟨j,hj,h2⟩:=h;simp only [Zs,Wx] at h2;obtain ⟨i,h3,h4,h5⟩:=Qy h2
  grind
def BB (l:List Vis) (b:Int):Int:=Hw (fun v=>decide (v.order=b)) l
theorem AN {l:List Vis} {b:Int} :0<=BB l b↔ ∃v∈l,v.order=b:=by
 grind [Ps,BB]
theorem CO {l:List Vis} {b:Int} (h:0<=BB l b):(BB l b).toNat<l.length/\(nth l (BB l b).toNat).order=b/\ ∀j,j<(BB l b).toNat->(nth l j).order≠b:=by
 unfold BB Hw at h ⊢
 grind [UE,Zh]
theorem lA {l:List Vis} {b:Int} {k:Nat} (hk:k<l.length) (h:(nth l k).order=b):0<=BB l b/\BB l b<=(k:Int):=by
 have h0:0<=BB l b:=AN.2 ⟨_,Zt hk,h⟩;refine ⟨h0,?_⟩;obtain ⟨h1,h2,h3⟩:=CO h0
 grind
theorem Ui {l:List Vis} {a b:Int} :beforeB l a b=true↔(0<=BB l b->(∃v∈l,v.order=a)/\ ∀j,j<l.length->(nth l j).order=a->(j:Int)<BB l b):=by
 unfold beforeB;rw [show Hw (fun v=>decide (v.order=b)) l=BB l b from rfl]
 by_cases h:BB l b<0
 ·grind
 ·rw [if_neg h,ZH,W6]
  have h0:0<=BB l b:=Za
  obtain ⟨h1,h2,h3⟩:=CO h0
  have hd:(!hasO (l.drop (BB l b).toNat) a)=true↔ ∀j,j<l.length->(nth l j).order=a->(j:Int)<BB l b:=by
   rw [XQ,<- UG,W6]
   constructor
   ·intro hno j hj e;rcases Int.lt_or_le (j:Int) (BB l b) with h4 | h4
    ·exact h4
    ·refine absurd ⟨nth l j,?_,e⟩ hno;rw [Zh hj];exact ZN.2 ⟨j-(BB l b).toNat,by simp;omega,by grind⟩
   ·rintro hall ⟨v,hv,e⟩;obtain ⟨j,hj,rfl⟩:=ZN.1 hv
    grind [Zh]
  grind
theorem O6 {x:Inst} {l:List Vis} (hi:Inr x l) (hn:x.orders.length<=60) {p:Int×Int} (h1:0<=p.1/\p.1<x.orders.length) (h2:0<=p.2/\p.2<x.orders.length) (hne:p.1≠p.2):QO (Xt l) l p=beforeB l p.1 p.2:=by
 rw [Wp,Ui,QO,Uq hi hn _ Za,Uq hi hn _ Za];simp only [W1,XQ,ZH];rw [<- UG,W6,W6,<- AN,<- AN (b:=p.1)]
 constructor
 ·rintro (h | ⟨h3,h4⟩) h0
  ·omega
  ·refine ⟨h3,fun j hj e=> ?_⟩;rw [ZA] at h4;have h5:=h4 j (by grind);rw [ZA] at h5;obtain ⟨g1,g2,g3⟩:=CO h0;rcases Int.lt_or_le (j:Int) (BB l p.2) with h6 | h6
   ·exact h6
   ·have hne2:j≠(BB l p.2).toNat:=fun e2=>hne (by grind);have:=h5 (BB l p.2).toNat (by simp;omega)
    grind [Km]
 ·intro h
  by_cases h0:0<=BB l p.2
  ·obtain ⟨h3,h4⟩:=h h0;refine .inr ⟨h3,?_⟩;rw [ZA];intro j hj;rw [ZA];intro k hk;simp at hj hk
   cases hb:Km l p.1 p.2 j k with
   | false=>rfl
   | true =>
    simp [Km] at hb;have h5:=h4 j hj hb.1;have h6:=(lA Za hb.2).2;omega
  omega
theorem tU {x:Inst} (hf:IFacts x) (l:List Vis):NT x l=Xg x l:=by
 by_cases ho:l.any (W2 x)=true
 ·simp_all [NT,Xg]
 ·have ho':l.any (W2 x)=false:=by grind
  have hi:Inr x l:=fun v hv=>by
   grind [W2]
  have hn:x.orders.length<=60:=by have:=hf.len;omega
  rw [NT,if_neg ho,Xg]
  by_cases h0:l.length=0
  ·omega
  ·have hc: ¬(l.length=0\/l.any (W2 x)=true):=fun h=>h.elim h0 ho;rw [if_neg h0,if_neg hc,dE]
   have e1:apB x (Xt l)=x.apart.any fun p=>hasO l p.1&&hasO l p.2:=by
    rw [apB,Wp,WH,WH]
    have: ∀p∈x.apart,(nHas (Xt l) p.1&&nHas (Xt l) p.2)=(hasO l p.1&&hasO l p.2):=fun p hp=>by
     have:=hf.aval p hp
     grind [Uq]
    grind
   have e2:(x.before.all (QO (Xt l) l)=false)=((x.before.any fun p=> !beforeB l p.1 p.2)=true):=by
    have: ∀p∈x.before,QO (Xt l) l p=beforeB l p.1 p.2:=fun p hp=>by
     have:=hf.val p hp;exact O6 hi hn Za Za (hf.ne p hp)
    grind
   grind
structure RightV (x:Inst) (l:List Vis):Prop where
 ne:l≠ []
 inr:Inr x l
 off: ∀v∈l,(nth x.orders v.order.toNat).off=false
 nodup:l.Nodup
 pair: ∀v∈l,pairB x.orders l v=true
 apart: ∀p∈x.apart,¬(hasO l p.1=true/\hasO l p.2=true)
 before: ∀p∈x.before,beforeB l p.1 p.2=true
theorem cF {x:Inst} {l:List Vis} :Xg x l=0↔RightV x l:=by
 unfold Xg;rw [VD Za,VD Za,VD Za,VD Za,VD Za,VD Za];simp only [and_true,UG,BR]
 have hin:l.any (W2 x)=false↔Inr x l:=by
  rw [Vh];exact ⟨fun h v hv=>by grind [W2],fun h v hv=>by simpa [W2] using h v hv⟩
 constructor
 ·rintro ⟨h1,h2,h3,h4,h5,h6⟩;rw [not_or,UG,hin] at h1;rw [Vh] at h2 h5 h6;refine ⟨fun e=>h1.1 (by rw [e];rfl),h1.2,fun v hv=>by grind,h3,?_,fun p hp=>by grind,fun p hp=>by grind⟩
  grind
 ·intro h;refine ⟨?_,?_,h.nodup,?_,?_,?_⟩
  ·rw [not_or,UG,hin];exact ⟨fun e=>h.ne (YC e),h.inr⟩
  ·rw [Vh];intro v hv;simp [h.off v hv]
  ·rw [ZA.2 h.pair];simp
  ·rw [Vh];intro p hp;simpa using h.apart p hp
  ·rw [Vh];intro p hp;simpa using h.before p hp
theorem HV {os:List Ord} {l:List Vis} {v:Vis} {i:Nat} (h:v.order=(i:Int)):pairB os l v=true↔v∈ZX os i/\(∀w∈ZX os i,w∈l)/\((⟨i,false⟩:Vis)∈ZX os i->(⟨i,true⟩:Vis)∈ZX os i->vIx l ⟨i,false⟩<vIx l ⟨i,true⟩):=by
 rw [pairB,h,XY,ZH,Zs,Wx];refine and_congr Iff.rfl ?_
 have hm: ∀w:Vis,-1<vIx l w↔w∈l:=fun w=>by grind [Wx]
 rcases Kj os i with e | e | e | e<;>rw [e]
 ·simp [QZ]
 ·simp [QZ,hm]
 ·simp [QZ,hm]
 ·simp only [QZ,JY,ZH,Zs,hm,Z3,Y7,Wq,forall_eq_or_imp,forall_eq]
  grind
section
variable {x : Inst} {l : List Vis}
theorem RightV.bit (h:RightV x l) (i:Nat):(Xt l).testBit i=true↔ ∃v∈l,v.order=(i:Int):=by
 rw [CR];exact ⟨fun ⟨v,hv,e⟩=>⟨v,hv,by have:=h.inr v hv;omega⟩,fun ⟨v,hv,e⟩=>⟨v,hv,Za⟩⟩
theorem RightV.lt (h:RightV x l) (hf:IFacts x):Xt l<9223372036854775808/\Xt l / pw x.orders.length=0:=by
 have h1:Xt l<9223372036854775808:=by
  have:=AQ l.length (l:=l) (ZB _) (fun v hv=>by
   rw [Yd] at hv;have:=h.inr v hv;have:=hf.len
   simp [G7];omega)
  grind
 refine ⟨h1,TN h1 fun j _ hj=> ?_⟩;obtain ⟨v,hv,e⟩:=(h.bit j).1 hj;have:=h.inr v hv;omega
theorem RightV.ord (h:RightV x l) (hf:IFacts x):Jd l=(((Xt l:Nat):Int),0):=by
 rw [Jd,if_pos];rw [ZA];intro v hv;have:=h.inr v hv;have:=hf.len;simp [G7];omega
theorem RightV.pairs (h:RightV x l) {v:Vis} (hv:v∈l): ∃i:Nat,v.order=(i:Int)/\i<x.orders.length/\v∈ZX x.orders i/\(∀w∈ZX x.orders i,w∈l)/\((⟨i,false⟩:Vis)∈ZX x.orders i->(⟨i,true⟩:Vis)∈ZX x.orders i->vIx l ⟨i,false⟩<vIx l ⟨i,true⟩):=by
 have h1:=h.inr v hv
 have e:v.order=(v.order.toNat:Int):=Za
 exact ⟨v.order.toNat,e,Za,(HV e).1 (h.pair v hv)⟩
theorem RightV.step (h:RightV x l) {a b:Nat} (hE:Ed x.before a b) (hb:0<=BB l b):0<=BB l a/\BB l a<BB l b:=by
 obtain ⟨p,hp,e1,e2⟩:=hE;have hbe:=Ui.1 (h.before p hp);rw [e1,e2] at hbe;obtain ⟨h1,h2⟩:=hbe hb;have h0:=AN.2 h1;obtain ⟨g1,g2,_⟩:=CO h0
 grind
theorem RightV.chain (h:RightV x l) {a b:Nat} (hc:Ch x.before a b) (hb:0<=BB l b):0<=BB l a/\BB l a<BB l b:=by
 induction hc with
 | one hE=>exact h.step hE hb
 | more _ hE ih =>
  have h1:=h.step hE hb;omega
theorem RightV.alw (h:RightV x l) (hf:IFacts x):Alw x (Xt l):=by
 have hn:x.orders.length<=60:=by have:=hf.len;omega
 refine ⟨fun i hi hb=> ?_,?_,fun p hp hb=> ?_,fun i hi hb hc=> ?_⟩
 ·obtain ⟨v,hv,e⟩:=(h.bit i).1 hb;have:=h.off v hv
  grind
 ·rw [apB,Vh];intro p hp;have hv:=hf.aval p hp;rw [Uq h.inr hn _ Za,Uq h.inr hn _ Za,ZH];exact h.apart p hp
 ·have hv:=hf.val p hp;rw [Uq h.inr hn _ Za] at hb ⊢;rw [W6] at hb ⊢;exact (Ui.1 (h.before p hp) (AN.2 hb)).1
 ·have hb2:=AN.2 ((h.bit i).1 hb);have:=(h.chain hc hb2).2;omega
theorem RightV.gr (h:RightV x l) (hf:IFacts x): ∀k,k<=l.length->Gr x (Xt l) (l.take k)
 | 0,_=>by simpa using Gr.nil
 | k+1,hk=>by
  have hk2:k<l.length:=Za
  have ih:=h.gr hf k Za
  have e:l.take (k+1)=l.take k++ [nth l k]:=by rw [X0 hk2,Zh hk2]
  rw [e];obtain ⟨i,e1,hi,h1,h2,h3⟩:=h.pairs (Zt hk2);refine .snoc ih (VJ.2 ⟨i,hi,(h.bit i).2 ⟨_,Zt hk2,e1⟩,?_,h1,(Vk h1).2 ⟨?_,?_,?_⟩⟩)
  ·have:=h.off _ (Zt hk2)
   grind
  ·intro hm;obtain ⟨j,j1,j2,j3⟩:=Qy hm;have q1:=Jh h.nodup j2;have q2:=Jh h.nodup hk2
   grind
  ·intro hd hq
   have e2:nth l k=⟨i,true⟩:=by rw [DZ];grind
   have h4:=h3 hq (by grind);rw [<- e2,Jh h.nodup hk2] at h4;have h5:=Wx.2 (h2 _ hq);obtain ⟨g1,g2⟩:=E1 h5;rw [<- g2];exact KM Za g1
  ·intro p hp hpe w hw;obtain ⟨v1,v2,v3,v4⟩:=hf.val p hp;have hoi:=lA hk2 e1;have hbe:=Ui.1 (h.before p hp);rw [hpe] at hbe;obtain ⟨⟨v,hv,ev⟩,h5⟩:=hbe hoi.1;obtain ⟨a,a1,a2,a3,a4,a5⟩:=h.pairs hv
   have:a=p.1.toNat:=Za
   subst this;have hwl:=a4 w hw;obtain ⟨g1,g2⟩:=E1 (Wx.2 hwl);have h6:=h5 _ g1 (by rw [g2,Yg hw];omega);rw [<- g2];exact KM Za g1
theorem RightV.len (h:RightV x l) (hf:IFacts x):l.length=K6 x (Xt l) x.orders.length:=by
 have h1:=h.gr hf l.length (ZB _);rw [Yd] at h1;have h2:=h1.len
 have h3: ∀v∈Bn x (Xt l) x.orders.length,v∈l:=fun v hv=>by
  obtain ⟨i,i1,i2,i3⟩:=WI.1 hv;obtain ⟨w,hw,e⟩:=(h.bit i).1 i2;obtain ⟨a,a1,a2,a3,a4,a5⟩:=h.pairs hw
  grind
 have h4:=E0 (Bo _ _ _) h3;rw [Jl] at h4;omega
theorem Gr.at {S:Nat} (h:Gr x S l): ∀k,k<l.length->nth l k∈nextU x S (l.take k) x.orders.length:=by
 induction h with
 | nil=>simp
 | snoc h hv ih =>
  rename_i l v;intro k hk;simp at hk;rcases Y9 k l.length with h2 | h2
  ·grind [Zh]
  ·have:k=l.length:=Za
   simp_all [Zh]
theorem Gr.right {S:Nat} (h:Gr x S l) (hf:IFacts x) (ha:Alw x S) (h0:S≠0) (hS:S / pw x.orders.length=0) (hl:l.length=K6 x S x.orders.length):RightV x l/\Xt l=S:=by
 have hn:x.orders.length<=60:=by have:=hf.len;omega
 have hfull:=h.full hl
 have hsub: ∀v∈l,∃i:Nat,v.order=(i:Int)/\i<x.orders.length/\S.testBit i=true/\v∈ZX x.orders i:=fun v hv=>by
  obtain ⟨i,i1,i2,i3⟩:=WI.1 (h.sub v hv);exact ⟨i,Yg i3,i1,i2,i3⟩
 have hinr:Inr x l:=fun v hv=>by grind
 have hgo: ∀k,k<l.length-> ∃i:Nat,(nth l k).order=(i:Int)/\nth l k∈ZX x.orders i/\nth l k ∉ l.take k/\((nth l k).drp=true->(⟨i,false⟩:Vis)∈ZX x.orders i->(⟨i,false⟩:Vis)∈l.take k)/\ ∀p∈x.before,p.2=(i:Int)-> ∀w∈ZX x.orders p.1.toNat,w∈l.take k:=fun k hk=>by
  obtain ⟨i,i1,i2,i3,i4,i5⟩:=VJ.1 (h.at k hk);obtain ⟨r1,r2,r3⟩:=(Vk i4).1 i5;exact ⟨i,Yg i4,i4,r1,r2,r3⟩
 have hbit:Xt l=S:=CE fun i=>by
  rw [Wp,CR]
  constructor
  ·grind
  ·intro hb;have hi:=Pe hS hb;obtain ⟨w,hw⟩:=List.exists_mem_of_ne_nil _ (hf.vne i hi);have:=Yg hw;exact ⟨w,hfull w (WI.2 ⟨i,hi,hb,hw⟩),Za⟩
 refine ⟨⟨fun e=> ?_,hinr,fun v hv=> ?_,h.nodup,fun v hv=> ?_,fun p hp=> ?_,fun p hp=> ?_⟩,hbit⟩
 ·have:=S8 hf.vne hS h0
  grind
 ·obtain ⟨i,i1,i2,i3,i4⟩:=hsub v hv;rw [i1,XY];exact ha.off i i2 i3
 ·obtain ⟨i,i1,i2,i3,i4⟩:=hsub v hv;refine (HV i1).2 ⟨i4,fun w hw=>hfull w (WI.2 ⟨i,i2,i3,hw⟩),fun hq1 hq2=> ?_⟩;have m2:=Wx.2 (hfull _ (WI.2 ⟨i,i2,i3,hq2⟩));obtain ⟨g1,g2⟩:=E1 m2;obtain ⟨j,j1,j2,j3,j4,j5⟩:=hgo _ g1;rw [g2] at j1 j4
  have:j=i:=by grind
  subst this;obtain ⟨q,q1,q2,q3⟩:=Qy (j4 rfl hq1);have:=(ZdH q2).2
  grind
 ·have:=ha.apart;rw [apB,Vh] at this;have h2:=this p hp;have hv:=hf.aval p hp;rw [<- hbit,Uq hinr hn _ Za,Uq hinr hn _ Za,ZH] at h2;exact h2
 ·rw [Ui];intro hb;have hv:=hf.val p hp;obtain ⟨g1,g2,g3⟩:=CO hb;obtain ⟨j,j1,j2,j3,j4,j5⟩:=hgo _ g1;have hall:=j5 p hp Za;refine ⟨?_,fun q hq e=> ?_⟩
  ·obtain ⟨w,hw⟩:=List.exists_mem_of_ne_nil _ (hf.vne p.1.toNat Za);exact ⟨w,J4 (hall w hw),by rw [Yg hw];omega⟩
  ·obtain ⟨i,i1,i2,i3,i4⟩:=hsub _ (Zt hq)
   have:i=p.1.toNat:=Za
   subst this;obtain ⟨q2,r1,r2,r3⟩:=Qy (hall _ i4);have e1:=Jh h.nodup r2;have e2:=Jh h.nodup hq
   grind
end
theorem RR {a b:Int} :YP a b<0↔a<b:=by grind [YP]
def A9 (p:Pln):AM.Obj:= .cells [.p (.list p.routes_c (p.routes.map Wy)),.p (.list p.unserved_c (p.unserved.map eI))]
def Zdm (r:Rte):Prop:=r.visits.length<=1048576/\r.rests.length<=1048576
end Go.Proofs.YtenjikkmmibffaaGreatDoor.K
namespace Go.Proofs.YtenjikkmmibffaaGreatDoor.K
section
variable {L : Type} (fin : L -> Int) (beats : L -> L -> Bool) (nxt : Nat -> L -> Bool -> Option L) (choices : Nat -> List Bool)
def W4 : Option L->List L->Option L
 | b,[]=>b
 | none,x::l=>W4 (some x) l
 | some m,x::l=>if fin x<fin m then W4 (some x) l else W4 (some m) l
theorem An : ∀(b:Option L) (l r:List L),W4 fin b (l++r)=W4 fin (W4 fin b l) r
 | b,[],r=>by rfl
 | none,x::l,r=>by rw [ZL,W4,W4,An]
 | some m,x::l,r=>by
  rw [ZL,W4,W4]
  split
  ·rw [An]
  ·rw [An]
theorem VA : ∀(l:List L) (m:L),∃z,W4 fin (some m) l=some z/\fin z<=fin m/\ ∀y∈l,fin z<=fin y
 | [],m=>⟨m,rfl,Za,Zb⟩
 | x::l,m=>by
  rw [W4]
  split
  ·rename_i h;obtain ⟨z,e,h1,h2⟩:=VA l x
   grind
  ·rename_i h;obtain ⟨z,e,h1,h2⟩:=VA l m
   grind
theorem M6 : ∀(l:List L) (m:L),(∀y∈l,fin m<=fin y)->W4 fin (some m) l=some m
 | [],m,_=>rfl
 | x::l,m,h=>by
  have:=h x List.mem_cons_self;rw [W4,if_neg Za];exact M6 l m fun y hy=>h y (Yq _ hy)
theorem aA (A B:List L) (h: ∀y∈B,∃z∈A,fin z<=fin y):W4 fin none (A++B)=W4 fin none A:=by
 rw [An]
 cases A with
 | nil=>cases B with
  | nil=>rfl
  | cons y B=>grind [List.mem_cons_self]
 | cons a A =>
  rw [W4];obtain ⟨z,e,h1,h2⟩:=VA fin A a;rw [e];refine M6 fin B z fun y hy=> ?_
  grind
def X9 : List L->List L->List L
 | out,[]=>out
 | out,x::l=>if out.any (fun m=>beats m x)=true then X9 out l else X9 (out++ [x]) l
theorem Dt {R:L->List L} : ∀(c out:List L),(∀x∈out++c,∀m∈out++c,beats m x=true-> ∀y∈R x,∃z∈R m,fin z<=fin y)->W4 fin none ((X9 beats out c).flatMap R)=W4 fin none ((out++c).flatMap R)
 | [],out,_=>by simp [X9]
 | x::c,out,h=>by
  rw [X9]
  split
  ·rename_i hb;obtain ⟨m,hm,hb⟩:=WH.1 hb
   have hb:beats m x=true:=by simpa using hb
   rw [Dt c out (fun a ha b hb=>h a (by simp only [Xi,Z3] at ha ⊢;rcases ha with h | h<;>simp [h]) b (by simp only [Xi,Z3] at hb ⊢;rcases hb with h | h<;>simp [h]))];rw [List.flatMap_append,List.flatMap_append,Qj,<- J6,An,An (l:=out.flatMap R++R x)];rw [aA fin (out.flatMap R) (R x)];intro y hy;obtain ⟨z,hz,hle⟩:=h x Zb m (by simp [hm]) hb y hy;exact ⟨z,XU.2 ⟨m,hm,hz⟩,hle⟩
  ·rw [Dt c (out++ [x]) (by simpa using h)];simp
theorem AT : ∀(c out:List L),∀x∈X9 beats out c,x∈out++c
 | [],out,x,h=>by grind [X9]
 | a::c,out,x,h=>by
  rw [X9] at h
  split at h
  ·have:=AT c out x h;simp only [Xi,Z3] at this ⊢;rcases this with h | h<;>simp [h]
  ·have:=AT c (out++ [a]) x h;simpa using this
def I7 : Nat->Nat->List (List Bool)
 | 0,_=> [[]]
 | j+1,k=>(choices k).flatMap fun b=>(I7 j (k+1)).map (b:: ·)
def Wc : Nat->L->List Bool->Option L
 | _,x,[]=>some x
 | k,x,b::bs=>match nxt k x b with
  | some y=>Wc (k+1) y bs
  | none=>none
def VL (j k:Nat) (x:L):List L:=(I7 choices j k).filterMap (Wc nxt k x)
def Vo (k:Nat) (l:List L):List L:=l.flatMap fun x=>(choices k).filterMap (nxt k x)
def Kl : Nat->Nat->List L->List L
 | 0,_,l=>l
 | j+1,k,l=>Kl j (k+1) (X9 beats [] (Vo nxt choices k l))
theorem P8 (k:Nat) (x:L):VL nxt choices 0 k x= [x]:=rfl
theorem Gc (j k:Nat) (x:L):VL nxt choices (j+1) k x=((choices k).filterMap (nxt k x)).flatMap (VL nxt choices j (k+1)):=by
 unfold VL;rw [I7]
 induction choices k with
 | nil=>rfl
 | cons b bs ih =>
  rw [Qj,List.filterMap_append,ih,List.filterMap_cons]
  cases h:nxt k x b with
  | none =>
   simp_all [Wc]
  | some y =>
   rw [List.filterMap_map]
   have:(Wc nxt k x∘fun l=>b::l)=Wc nxt (k+1) y:=by grind [Wc]
   grind
theorem H5 {n:Nat} {Inv:Nat->L->Prop} (hI: ∀k x b y,Inv k x->nxt k x b=some y->Inv (k+1) y) (hd: ∀k m x b y,Inv k m->Inv k x->beats m x=true->nxt k x b=some y-> ∃z,nxt k m b=some z/\beats z y=true)
  (he: ∀m x,Inv n m->Inv n x->beats m x=true->fin m<=fin x): ∀(j k:Nat) (m x:L),k+j=n->Inv k m->Inv k x->beats m x=true-> ∀y∈VL nxt choices j k x,∃z∈VL nxt choices j k m,fin z<=fin y
 | 0,k,m,x,hk,h1,h2,hb,y,hy=>by
  grind [P8]
 | j+1,k,m,x,hk,h1,h2,hb,y,hy=>by
  rw [Gc] at hy ⊢;obtain ⟨q,hq,hy⟩:=XU.1 hy;obtain ⟨b,hbm,hn⟩:=KJ.1 hq;obtain ⟨z,hz,hzb⟩:=hd k m x b q h1 h2 hb hn;obtain ⟨u,hu,hle⟩:=H5 hI hd he j (k+1) z q Za (hI k m b z h1 hz) (hI k x b q h2 hn) hzb y hy
  grind
theorem Sj {n:Nat} {Inv:Nat->L->Prop} (hI: ∀k x b y,Inv k x->nxt k x b=some y->Inv (k+1) y) (hd: ∀k m x b y,Inv k m->Inv k x->beats m x=true->nxt k x b=some y-> ∃z,nxt k m b=some z/\beats z y=true)
  (he: ∀m x,Inv n m->Inv n x->beats m x=true->fin m<=fin x): ∀(j k:Nat) (l:List L),k+j=n->(∀x∈l,Inv k x)->W4 fin none (Kl beats nxt choices j k l)=W4 fin none (l.flatMap (VL nxt choices j k))
 | 0,k,l,hk,hl=>by
  have:l.flatMap (VL nxt choices 0 k)=l:=by
   have:VL nxt choices 0 k=fun x=> [x]:=by rfl
   rw [this];simp
  rw [this];rfl
 | j+1,k,l,hk,hl=>by
  have hc: ∀x∈Vo nxt choices k l,Inv (k+1) x:=fun x hx=>by
   obtain ⟨q,hq,hx⟩:=XU.1 hx
   grind
  have e:l.flatMap (VL nxt choices (j+1) k)=(Vo nxt choices k l).flatMap (VL nxt choices j (k+1)):=by
   rw [Vo,List.flatMap_assoc]
   congr 1
   grind [Gc]
  rw [Kl,Sj hI hd he j (k+1) _ Za (fun x hx=>hc x (by simpa using AT beats _ _ x hx)),Dt fin beats _ _ (fun x hx m hm hb y hy=> ?_),e]
  ·simp
  ·exact H5 fin beats nxt choices hI hd he j (k+1) m x Za (hc m (by grind)) (hc x (by grind)) hb y hy
def YV : List Bool->List (List Bool)
 | []=> [[]]
 | b::bs=>if b then (YV bs).map (true:: ·) else (YV bs).map (false:: ·)++(YV (List.replicate bs.length false)).map (true:: ·)
termination_by l => l.length
decreasing_by all_goals simp
def Yu : List Bool->Option (List Bool)
 | []=>none
 | b::bs=>match Yu bs with
  | some l=>some (b::l)
  | none=>if b then none else some (true::List.replicate bs.length false)
theorem fromB_next : ∀l:List Bool,YV l=l::(match Yu l with | some r=>YV r | none=> [])
 | []=>by simp [YV,Yu]
 | b::bs=>by
  have ih:=fromB_next bs
  have e0: ∀l:List Bool,YV (true::l)=(YV l).map (true:: ·):=fun l=>by rw [YV];simp
  have e1: ∀l:List Bool,YV (false::l)=(YV l).map (false:: ·)++(YV (List.replicate l.length false)).map (true:: ·):=fun l=>by rw [YV];simp
  cases b with
  | true =>
   rw [e0,ih,Yu]
   cases h:Yu bs with
   | none=>simp
   | some r=>simp [e0]
  | false =>
   rw [e1,ih,Yu]
   cases h:Yu bs with
   | none=>simp [e0]
   | some r =>
    have hl:r.length=bs.length:=nlen bs r h;simp [e1,hl]
where nlen : ∀(l r:List Bool),Yu l=some r->r.length=l.length
 | [],r,h=>by simp [Yu] at h
 | b::bs,r,h=>by
  rw [Yu] at h
  cases h2:Yu bs with
  | none =>
   grind
  | some q =>
   rw [h2] at h;simp at h;subst h;simp [nlen bs q h2]
theorem MW {n:Nat} : ∀(j k:Nat),(∀q,k<=q->choices q= [false,true])->I7 choices j k=YV (List.replicate j false)
 | 0,k,_=>by simp [I7,YV]
 | j+1,k,h=>by
  rw [I7,h k (ZB _),MW (n:=n) j (k+1) (fun q hq=>h q Za),KI,YV];simp
end
end Go.Proofs.YtenjikkmmibffaaGreatDoor.K
