/- Declarations that the closing texts need, part 18: joined by tools/slim.py. -/
import Derived.Test.YtbdmjphjnniogaaGreatDoorZ17
import Derived.Test.YtbdmjphjnniogaaGreatDoorRows
namespace Go.Proofs.YtbdmjphjnniogaaGreatDoor.K
open Go Go.AM Go.Proofs
theorem ZiL : Tryz.prog.cellsOf 3=1:=by kernel_rfl
theorem ZxQ : Tryz.prog.cellsOf 4=1:=by kernel_rfl
theorem ZyW : Tryz.prog.cellsOf 9=1:=by kernel_rfl
theorem Zux : Tryz.prog.cellsOf 22=1:=by kernel_rfl
theorem ZvH : Tryz.prog.cellsOf 23=1:=by kernel_rfl
theorem ZrG : Tryz.prog.cellsOf 25=2:=by kernel_rfl
theorem ZvY : pcs Tryz.prog 25=some [(0,22),(1,23)]:=by kernel_rfl
theorem Zw4 : Tryz.prog.cellsOf 26=1:=by kernel_rfl
theorem Zvj : Tryz.prog.cellsOf 27=1:=by kernel_rfl
theorem ZvZ : Tryz.prog.cellsOf 28=1:=by kernel_rfl
theorem Zwg : Tryz.prog.cellsOf 30=6:=by kernel_rfl
theorem Zp3 : pcs Tryz.prog 30=some [(0,25),(2,26),(3,27),(4,28),(5,28)]:=by kernel_rfl
theorem Zuv : Tryz.prog.cellsOf 31=1:=by kernel_rfl
theorem Zkc : Tryz.prog.cellsOf 32=1:=by kernel_rfl
theorem Zvx : Tryz.prog.cellsOf 34=2:=by kernel_rfl
theorem ZpD : pcs Tryz.prog 34=some [(0,31),(1,32)]:=by kernel_rfl
theorem ZwF : Tryz.prog.cellsOf 61=1:=by kernel_rfl
theorem ZuC : Tryz.prog.cellsOf 62=1:=by kernel_rfl
theorem Zvw : Tryz.prog.cellsOf 64=4:=by kernel_rfl
theorem Zqd : pcs Tryz.prog 64=some [(0,3),(1,3),(2,61),(3,62)]:=by kernel_rfl
theorem Zwx : Tryz.prog.cellsOf 67=14:=by kernel_rfl
theorem Zol : pcs Tryz.prog 67=some [(0,9),(1,3),(2,3),(3,3),(4,32),(5,3),(6,3),(7,3),(8,3),(9,3),(10,3),(11,3),(12,3),(13,3)]:=by kernel_rfl
theorem ZqE : Tryz.prog.cellsOf 69=4:=by kernel_rfl
theorem ZuL : pcs Tryz.prog 69=some [(0,3),(1,3),(2,3),(3,3)]:=by kernel_rfl
theorem ZvC : Tryz.prog.cellsOf 71=16:=by kernel_rfl
theorem Zru : pcs Tryz.prog 71=some [(0,9),(1,32),(2,69),(6,69),(10,3),(11,3),(12,3),(13,3),(14,3),(15,4)]:=by kernel_rfl
theorem ZoT : Tryz.prog.cellsOf 102=2:=by kernel_rfl
theorem Ziz : pcs Tryz.prog 102=some [(0,3),(1,4)]:=by kernel_rfl
theorem Zrv : Tryz.prog.cellsOf 218=2:=by kernel_rfl
theorem Ziq : pcs Tryz.prog 218=some [(0,3),(1,3)]:=by kernel_rfl
theorem Zog : Tryz.prog.cellsOf 235=1:=by kernel_rfl
theorem ZmS : Tryz.prog.cellsOf 237=6:=by kernel_rfl
theorem Zjb : pcs Tryz.prog 237=some [(0,3),(1,3),(2,3),(3,3),(4,235),(5,235)]:=by kernel_rfl
theorem ZoQ : Tryz.prog.cellsOf 240=2:=by kernel_rfl
theorem Zi8 : pcs Tryz.prog 240=some [(0,3),(1,3)]:=by kernel_rfl
set_option linter.unusedVariables false
set_option linter.unusedSimpArgs false
mutual
theorem Zd9 {H:Type} :(d:DataW H)->dsz d<=Rows.uptoBulk d
 | .lit l=>by cases l<;>simp [dsz,Rows.uptoBulk]
 | .nil=>by simp [dsz,Rows.uptoBulk]
 | .ptr d=>by have:=Zd9 d;simp only [dsz,Rows.uptoBulk];omega
 | .slice es sp=>by have:=Qe es;have:=Qe sp;simp only [dsz,Rows.uptoBulk];omega
 | .agg ps=>by have:=Qe ps;simp only [dsz,Rows.uptoBulk];omega
 | .iface _ d=>by have:=Zd9 d;simp only [dsz,Rows.uptoBulk];omega
 | .map es=>by simp only [dsz,Rows.uptoBulk];omega
 | .held h=>by simp [dsz,Rows.uptoBulk]
theorem Qe {H:Type} :(l:List (DataW H))->KV l<=Rows.uptoBulkAll l
 | []=>by simp [KV,Rows.uptoBulkAll]
 | d::r=>by have:=Zd9 d;have:=Qe r;simp only [KV,Rows.uptoBulkAll];omega
end
theorem ZcA {H:Type} {l:List (DataW H)} (h:Rows.uptoSmall H l=true):KV l<=1048576:=by
 have h1:=Qe l;have h2:Rows.uptoBulkAll l<=1048576:=of_decide_eq_true h;omega
abbrev I64 (n:Int):Prop:= -9223372036854775808<=n/\n<=9223372036854775807
def eI (n:Int):PV:= .int .i64 n
def eB (b:Bool):PV:= .bool b
def eS (s:List UInt8):PV:= .str s
def eP (p:Int×Int):PV:= .agg [.int .i64 p.1,.int .i64 p.2]
@[go_sem] theorem ZAt (n:Int):eI n= .int .i64 n:=Eq.trans rfl rfl
@[go_sem] theorem ZAs (b:Bool):eB b= .bool b:=Eq.trans rfl rfl
@[go_sem] theorem Zz3 (s:List UInt8):eS s= .str s:=Eq.trans rfl rfl
@[go_sem] theorem ZAd (p:Int×Int):eP p= .agg [.int .i64 p.1,.int .i64 p.2]:=Eq.trans rfl rfl
@[go_sem] theorem Zu8 (l:List Bool):Zdt 1 (l.map eB)=true:=Ug (f:=eB) (S:=1) (fun _=>rfl) l
@[go_sem] theorem ZyG (l:List Bool):okE 1 (l.map eB)=true:=Q5 fun _=>rfl
theorem JK {B xs} (h: ∀y∈xs,FitV Tryz.prog B 3 y): ∃l:List Int,xs=l.map eI/\ ∀n∈l,I64 n :=
 Xv (f:=eI) fun y hy=>by
  obtain ⟨n,rfl,w⟩:=ZkT Tryz.underlying3 (h y hy);exact ⟨n,rfl,ZQ w⟩
theorem Zd1 {B xs} (h: ∀y∈xs,FitV Tryz.prog B 4 y): ∃l:List Bool,xs=l.map eB/\ ∀b∈l,True :=
 Xv (f:=eB) fun y hy=>by
  obtain ⟨b,rfl⟩:=Zh3 Tryz.underlying4 (h y hy);exact ⟨b,rfl,trivial⟩
theorem Zh8 {B xs} (h: ∀y∈xs,FitV Tryz.prog B 9 y): ∃l:List (List UInt8),xs=l.map eS/\ ∀s∈l,s.length<=B :=
 Xv (f:=eS) fun y hy=>by
  obtain ⟨s,rfl,w,_⟩:=Zkn Tryz.underlying9 (h y hy);exact ⟨s,rfl,w⟩
theorem Zow {α:Type} {l:List α} (h:l.length=2): ∃a0 a1,l= [a0,a1]:=by
 match l,h with | [a0,a1],_=>exact ⟨a0,a1,rfl⟩
theorem ZxD {α:Type} {l:List α} (h:l.length=6): ∃a0 a1 a2 a3 a4 a5,l= [a0,a1,a2,a3,a4,a5]:=by
 match l,h with | [a0,a1,a2,a3,a4,a5],_=>exact ⟨a0,a1,a2,a3,a4,a5,rfl⟩
theorem ZwU {α:Type} {l:List α} (h:l.length=14): ∃a0 a1 a2 a3 a4 a5 a6 a7 a8 a9 a10 a11 a12 a13,l= [a0,a1,a2,a3,a4,a5,a6,a7,a8,a9,a10,a11,a12,a13]:=by
 match l,h with | [a0,a1,a2,a3,a4,a5,a6,a7,a8,a9,a10,a11,a12,a13],_=>exact ⟨a0,a1,a2,a3,a4,a5,a6,a7,a8,a9,a10,a11,a12,a13,rfl⟩
theorem ZyQ {α:Type} {l:List α} (h:l.length=4): ∃a0 a1 a2 a3,l= [a0,a1,a2,a3]:=by
 match l,h with | [a0,a1,a2,a3],_=>exact ⟨a0,a1,a2,a3,rfl⟩
theorem ZwO {α:Type} {l:List α} (h:l.length=16): ∃a0 a1 a2 a3 a4 a5 a6 a7 a8 a9 a10 a11 a12 a13 a14 a15,l= [a0,a1,a2,a3,a4,a5,a6,a7,a8,a9,a10,a11,a12,a13,a14,a15]:=by
 match l,h with | [a0,a1,a2,a3,a4,a5,a6,a7,a8,a9,a10,a11,a12,a13,a14,a15],_=>exact ⟨a0,a1,a2,a3,a4,a5,a6,a7,a8,a9,a10,a11,a12,a13,a14,a15,rfl⟩
structure Pt where
 t:Int
 a:Int
 deriving Inhabited
def cPt (x:Pt):List PV:= [.int .i64 x.t,.int .i64 x.a]
def ePt (x:Pt):PV:= .agg [.int .i64 x.t,.int .i64 x.a]
@[go_sem] theorem ZxP (x:Pt):ePt x= .agg [.int .i64 x.t,.int .i64 x.a]:=Eq.trans rfl rfl
def Pt.wf (B:Nat) (x:Pt):Prop:=I64 x.t/\I64 x.a
theorem Zjp {B m cs} (h:YL Tryz.prog B m 240 cs): ∃x:Pt,cs=cPt x/\x.wf B:=by
 obtain ⟨h1,m',h2⟩:=XB Zi8 ZoQ h;obtain ⟨a0,a1,rfl⟩:=Zow h1;obtain ⟨n0,e0,w0⟩:=Zv Tryz.underlying3 (h2 (0,3) (by simp));obtain ⟨n1,e1,w1⟩:=Zv Tryz.underlying3 (h2 (1,3) (by simp));simp [ZiL] at e0 e1;subst e0;subst e1;exact ⟨⟨n0,n1⟩,rfl,ZQ w0,ZQ w1⟩
theorem Zjd {B v} (h:FitV Tryz.prog B 240 v): ∃x:Pt,v=ePt x/\x.wf B:=by
 obtain ⟨k,cs,h,e⟩:=h.out;obtain ⟨x,rfl,hw⟩:=Zjp h;exact ⟨x,e.trans (by rw [Qn,if_pos (XC Zi8)];rfl),hw⟩
structure Arc where
 src:Int
 dst:Int
 prof:Int
 miles:Int
 travel_c:Bool
 travel:List (Pt)
 slow_c:Bool
 slow:List (Pt)
 deriving Inhabited
def ZzM (x:Arc):List PV:= [.int .i64 x.src,.int .i64 x.dst,.int .i64 x.prof,.int .i64 x.miles,.list x.travel_c (x.travel.map ePt),.list x.slow_c (x.slow.map ePt)]
def QV (x:Arc):PV:= .agg [.int .i64 x.src,.int .i64 x.dst,.int .i64 x.prof,.int .i64 x.miles,.list x.travel_c (x.travel.map ePt),.list x.slow_c (x.slow.map ePt)]
@[go_sem] theorem Zw3 (x:Arc):QV x= .agg [.int .i64 x.src,.int .i64 x.dst,.int .i64 x.prof,.int .i64 x.miles,.list x.travel_c (x.travel.map ePt),.list x.slow_c (x.slow.map ePt)]:=Eq.trans rfl rfl
def Arc.wf (B:Nat) (x:Arc):Prop:=I64 x.src/\I64 x.dst/\I64 x.prof/\I64 x.miles/\x.travel.length<=B/\(∀y∈x.travel,Pt.wf B y)/\x.slow.length<=B/\(∀y∈x.slow,Pt.wf B y)
theorem Zh6 {B m cs} (h:YL Tryz.prog B m 237 cs): ∃x:Arc,cs=ZzM x/\x.wf B:=by
 obtain ⟨h1,m',h2⟩:=XB Zjb ZmS h;obtain ⟨a0,a1,a2,a3,a4,a5,rfl⟩:=ZxD h1;obtain ⟨n0,e0,w0⟩:=Zv Tryz.underlying3 (h2 (0,3) (by simp));obtain ⟨n1,e1,w1⟩:=Zv Tryz.underlying3 (h2 (1,3) (by simp));obtain ⟨n2,e2,w2⟩:=Zv Tryz.underlying3 (h2 (2,3) (by simp));obtain ⟨n3,e3,w3⟩:=Zv Tryz.underlying3 (h2 (3,3) (by simp));obtain ⟨y4,e4,w4,_,z4⟩:=ZM Tryz.underlying235 (h2 (4,235) (by simp));obtain ⟨n4,rfl,u4⟩:=Xv (f:=ePt) fun y hy=>Zjd (z4 y hy);obtain ⟨y5,e5,w5,_,z5⟩:=ZM Tryz.underlying235 (h2 (5,235) (by simp))
 obtain ⟨n5,rfl,u5⟩:=Xv (f:=ePt) fun y hy=>Zjd (z5 y hy);simp [Zog,ZiL] at e0 e1 e2 e3 e4 e5;subst e0;subst e1;subst e2;subst e3;subst e4;subst e5;exact ⟨⟨n0,n1,n2,n3,false,n4,false,n5⟩,rfl,ZQ w0,ZQ w1,ZQ w2,ZQ w3,by simpa using w4,u4,by simpa using w5,u5⟩
theorem Zku {B v} (h:FitV Tryz.prog B 237 v): ∃x:Arc,v=QV x/\x.wf B:=by
 obtain ⟨k,cs,h,e⟩:=h.out;obtain ⟨x,rfl,hw⟩:=Zh6 h;exact ⟨x,e.trans (by rw [Qn,if_pos (XC Zjb)];rfl),hw⟩
structure Net where
 places_c:Bool
 places:List (List UInt8)
 arcs_c:Bool
 arcs:List (Arc)
 deriving Inhabited
def Zyj (x:Net):List PV:= [.list x.places_c (x.places.map eS),.list x.arcs_c (x.arcs.map QV)]
def ZbU (x:Net):PV:= .agg [.list x.places_c (x.places.map eS),.list x.arcs_c (x.arcs.map QV)]
@[go_sem] theorem ZvL (x:Net):ZbU x= .agg [.list x.places_c (x.places.map eS),.list x.arcs_c (x.arcs.map QV)]:=Eq.trans rfl rfl
def Net.wf (B:Nat) (x:Net):Prop:=x.places.length<=B/\(∀s∈x.places,s.length<=B)/\x.arcs.length<=B/\(∀y∈x.arcs,Arc.wf B y)
theorem ZhI {B m cs} (h:YL Tryz.prog B m 25 cs): ∃x:Net,cs=Zyj x/\x.wf B:=by
 obtain ⟨h1,m',h2⟩:=XB ZvY ZrG h;obtain ⟨a0,a1,rfl⟩:=Zow h1;obtain ⟨y0,e0,w0,_,z0⟩:=ZM Tryz.underlying22 (h2 (0,22) (by simp));obtain ⟨n0,rfl,u0⟩:=Zh8 z0;obtain ⟨y1,e1,w1,_,z1⟩:=ZM Tryz.underlying23 (h2 (1,23) (by simp));obtain ⟨n1,rfl,u1⟩:=Xv (f:=QV) fun y hy=>Zku (z1 y hy);simp [ZvH,Zux] at e0 e1;subst e0;subst e1;exact ⟨⟨false,n0,false,n1⟩,rfl,by simpa using w0,u0,by simpa using w1,u1⟩
structure Typ where
 name:List UInt8
 count:Int
 src:Int
 dst:Int
 cap_c:Bool
 cap:List (Int)
 skills:Int
 prof:Int
 opn:Int
 cls:Int
 drive:Int
 rest:Int
 fixed:Int
 perMile:Int
 perTick:Int
 deriving Inhabited
def ZAb (x:Typ):List PV:= [.str x.name,.int .i64 x.count,.int .i64 x.src,.int .i64 x.dst,.list x.cap_c (x.cap.map eI),.int .i64 x.skills,.int .i64 x.prof,.int .i64 x.opn,.int .i64 x.cls,.int .i64 x.drive,.int .i64 x.rest,.int .i64 x.fixed,.int .i64 x.perMile,.int .i64 x.perTick]
def QE (x:Typ):PV:= .agg [.str x.name,.int .i64 x.count,.int .i64 x.src,.int .i64 x.dst,.list x.cap_c (x.cap.map eI),.int .i64 x.skills,.int .i64 x.prof,.int .i64 x.opn,.int .i64 x.cls,.int .i64 x.drive,.int .i64 x.rest,.int .i64 x.fixed,.int .i64 x.perMile,.int .i64 x.perTick]
@[go_sem] theorem Zw0 (x:Typ):QE x= .agg [.str x.name,.int .i64 x.count,.int .i64 x.src,.int .i64 x.dst,.list x.cap_c (x.cap.map eI),.int .i64 x.skills,.int .i64 x.prof,.int .i64 x.opn,.int .i64 x.cls,.int .i64 x.drive,.int .i64 x.rest,.int .i64 x.fixed,.int .i64 x.perMile,.int .i64 x.perTick]:=Eq.trans rfl rfl
def Typ.wf (B:Nat) (x:Typ):Prop:=x.name.length<=B/\I64 x.count/\I64 x.src/\I64 x.dst/\x.cap.length<=B/\(∀n∈x.cap,I64 n)/\I64 x.skills/\I64 x.prof/\I64 x.opn/\I64 x.cls/\I64 x.drive/\I64 x.rest/\I64 x.fixed/\I64 x.perMile/\I64 x.perTick
theorem ZhB {B m cs} (h:YL Tryz.prog B m 67 cs): ∃x:Typ,cs=ZAb x/\x.wf B:=by
 obtain ⟨h1,m',h2⟩:=XB Zol Zwx h;obtain ⟨a0,a1,a2,a3,a4,a5,a6,a7,a8,a9,a10,a11,a12,a13,rfl⟩:=ZwU h1;obtain ⟨n0,e0,w0,_⟩:=Jp Tryz.underlying9 (h2 (0,9) (by simp));obtain ⟨n1,e1,w1⟩:=Zv Tryz.underlying3 (h2 (1,3) (by simp));obtain ⟨n2,e2,w2⟩:=Zv Tryz.underlying3 (h2 (2,3) (by simp));obtain ⟨n3,e3,w3⟩:=Zv Tryz.underlying3 (h2 (3,3) (by simp));obtain ⟨y4,e4,w4,_,z4⟩:=ZM Tryz.underlying32 (h2 (4,32) (by simp));obtain ⟨n4,rfl,u4⟩:=JK z4;obtain ⟨n5,e5,w5⟩:=Zv Tryz.underlying3 (h2 (5,3) (by simp))
 obtain ⟨n6,e6,w6⟩:=Zv Tryz.underlying3 (h2 (6,3) (by simp));obtain ⟨n7,e7,w7⟩:=Zv Tryz.underlying3 (h2 (7,3) (by simp));obtain ⟨n8,e8,w8⟩:=Zv Tryz.underlying3 (h2 (8,3) (by simp));obtain ⟨n9,e9,w9⟩:=Zv Tryz.underlying3 (h2 (9,3) (by simp));obtain ⟨n10,e10,w10⟩:=Zv Tryz.underlying3 (h2 (10,3) (by simp));obtain ⟨n11,e11,w11⟩:=Zv Tryz.underlying3 (h2 (11,3) (by simp));obtain ⟨n12,e12,w12⟩:=Zv Tryz.underlying3 (h2 (12,3) (by simp));obtain ⟨n13,e13,w13⟩:=Zv Tryz.underlying3 (h2 (13,3) (by simp));simp [Zkc,ZiL,ZyW] at e0 e1 e2 e3 e4 e5 e6 e7 e8 e9 e10 e11 e12 e13
 subst e0;subst e1;subst e2;subst e3;subst e4;subst e5;subst e6;subst e7;subst e8;subst e9;subst e10;subst e11;subst e12;subst e13;exact ⟨⟨n0,n1,n2,n3,false,n4,n5,n6,n7,n8,n9,n10,n11,n12,n13⟩,rfl,w0,ZQ w1,ZQ w2,ZQ w3,by simpa using w4,u4,ZQ w5,ZQ w6,ZQ w7,ZQ w8,ZQ w9,ZQ w10,ZQ w11,ZQ w12,ZQ w13⟩
theorem Zjs {B v} (h:FitV Tryz.prog B 67 v): ∃x:Typ,v=QE x/\x.wf B:=by
 obtain ⟨k,cs,h,e⟩:=h.out;obtain ⟨x,rfl,hw⟩:=ZhB h;exact ⟨x,e.trans (by rw [Qn,if_pos (XC Zol)];rfl),hw⟩
structure Stp where
 place:Int
 opn:Int
 cls:Int
 serv:Int
 deriving Inhabited
def Zvy (x:Stp):List PV:= [.int .i64 x.place,.int .i64 x.opn,.int .i64 x.cls,.int .i64 x.serv]
def Zil (x:Stp):PV:= .agg [.int .i64 x.place,.int .i64 x.opn,.int .i64 x.cls,.int .i64 x.serv]
@[go_sem] theorem Zuf (x:Stp):Zil x= .agg [.int .i64 x.place,.int .i64 x.opn,.int .i64 x.cls,.int .i64 x.serv]:=Eq.trans rfl rfl
def Stp.wf (B:Nat) (x:Stp):Prop:=I64 x.place/\I64 x.opn/\I64 x.cls/\I64 x.serv
theorem ZbH {B m cs} (h:YL Tryz.prog B m 69 cs): ∃x:Stp,cs=Zvy x/\x.wf B:=by
 obtain ⟨h1,m',h2⟩:=XB ZuL ZqE h;obtain ⟨a0,a1,a2,a3,rfl⟩:=ZyQ h1;obtain ⟨n0,e0,w0⟩:=Zv Tryz.underlying3 (h2 (0,3) (by simp));obtain ⟨n1,e1,w1⟩:=Zv Tryz.underlying3 (h2 (1,3) (by simp));obtain ⟨n2,e2,w2⟩:=Zv Tryz.underlying3 (h2 (2,3) (by simp));obtain ⟨n3,e3,w3⟩:=Zv Tryz.underlying3 (h2 (3,3) (by simp));simp [ZiL] at e0 e1 e2 e3;subst e0;subst e1;subst e2;subst e3;exact ⟨⟨n0,n1,n2,n3⟩,rfl,ZQ w0,ZQ w1,ZQ w2,ZQ w3⟩
theorem ZmX {B v} (h:FitV Tryz.prog B 218 v): ∃x:Int×Int,v=eP x/\I64 x.1/\I64 x.2:=by
 obtain ⟨k,cs,h,e⟩:=h.out;obtain ⟨h1,m',h2⟩:=XB Ziq Zrv h;obtain ⟨a,b,rfl⟩:=Zow h1;obtain ⟨n0,e0,w0⟩:=Zv Tryz.underlying3 (h2 (0,3) (by simp));obtain ⟨n1,e1,w1⟩:=Zv Tryz.underlying3 (h2 (1,3) (by simp));simp [ZiL] at e0 e1;subst e0;subst e1;exact ⟨(n0,n1),e.trans (by rw [Qn,if_pos (XC Ziq)];rfl),ZQ w0,ZQ w1⟩
structure Ord where
 name:List UInt8
 load_c:Bool
 load:List (Int)
 pick:Stp
 drp:Stp
 skills:Int
 penalty:Int
 split:Int
 last:Int
 now:Int
 off:Bool
 deriving Inhabited
def ZAc (x:Ord):List PV:= [.str x.name,.list x.load_c (x.load.map eI),.int .i64 x.pick.place,.int .i64 x.pick.opn,.int .i64 x.pick.cls,.int .i64 x.pick.serv,.int .i64 x.drp.place,.int .i64 x.drp.opn,.int .i64 x.drp.cls,.int .i64 x.drp.serv,.int .i64 x.skills,.int .i64 x.penalty,.int .i64 x.split,.int .i64 x.last,.int .i64 x.now,.bool x.off]
def V5 (x:Ord):PV:= .agg [.str x.name,.list x.load_c (x.load.map eI),.int .i64 x.pick.place,.int .i64 x.pick.opn,.int .i64 x.pick.cls,.int .i64 x.pick.serv,.int .i64 x.drp.place,.int .i64 x.drp.opn,.int .i64 x.drp.cls,.int .i64 x.drp.serv,.int .i64 x.skills,.int .i64 x.penalty,.int .i64 x.split,.int .i64 x.last,.int .i64 x.now,.bool x.off]
@[go_sem] theorem ZvA (x:Ord):V5 x= .agg [.str x.name,.list x.load_c (x.load.map eI),.int .i64 x.pick.place,.int .i64 x.pick.opn,.int .i64 x.pick.cls,.int .i64 x.pick.serv,.int .i64 x.drp.place,.int .i64 x.drp.opn,.int .i64 x.drp.cls,.int .i64 x.drp.serv,.int .i64 x.skills,.int .i64 x.penalty,.int .i64 x.split,.int .i64 x.last,.int .i64 x.now,.bool x.off]:=Eq.trans rfl rfl
def Ord.wf (B:Nat) (x:Ord):Prop:=x.name.length<=B/\x.load.length<=B/\(∀n∈x.load,I64 n)/\Stp.wf B x.pick/\Stp.wf B x.drp/\I64 x.skills/\I64 x.penalty/\I64 x.split/\I64 x.last/\I64 x.now
theorem Zhh {B m cs} (h:YL Tryz.prog B m 71 cs): ∃x:Ord,cs=ZAc x/\x.wf B:=by
 obtain ⟨h1,m',h2⟩:=XB Zru ZvC h;obtain ⟨a0,a1,a2,a3,a4,a5,a6,a7,a8,a9,a10,a11,a12,a13,a14,a15,rfl⟩:=ZwO h1;obtain ⟨n0,e0,w0,_⟩:=Jp Tryz.underlying9 (h2 (0,9) (by simp));obtain ⟨y1,e1,w1,_,z1⟩:=ZM Tryz.underlying32 (h2 (1,32) (by simp));obtain ⟨n1,rfl,u1⟩:=JK z1;obtain ⟨n2,e2,w2⟩:=ZbH (h2 (2,69) (by simp));obtain ⟨n3,e3,w3⟩:=ZbH (h2 (6,69) (by simp));obtain ⟨n4,e4,w4⟩:=Zv Tryz.underlying3 (h2 (10,3) (by simp));obtain ⟨n5,e5,w5⟩:=Zv Tryz.underlying3 (h2 (11,3) (by simp));obtain ⟨n6,e6,w6⟩:=Zv Tryz.underlying3 (h2 (12,3) (by simp))
 obtain ⟨n7,e7,w7⟩:=Zv Tryz.underlying3 (h2 (13,3) (by simp));obtain ⟨n8,e8,w8⟩:=Zv Tryz.underlying3 (h2 (14,3) (by simp));obtain ⟨n9,e9⟩:=U4 Tryz.underlying4 (h2 (15,4) (by simp));simp [Zkc,ZqE,ZxQ,ZiL,ZyW,Zvy,Zvy] at e0 e1 e2 e3 e4 e5 e6 e7 e8 e9;subst e0;subst e1;obtain ⟨rfl,rfl,rfl,rfl⟩:=e2;obtain ⟨rfl,rfl,rfl,rfl⟩:=e3;subst e4;subst e5;subst e6;subst e7;subst e8;subst e9;exact ⟨⟨n0,false,n1,n2,n3,n4,n5,n6,n7,n8,n9⟩,rfl,w0,by simpa using w1,u1,w2,w3,ZQ w4,ZQ w5,ZQ w6,ZQ w7,ZQ w8⟩
theorem Zla {B v} (h:FitV Tryz.prog B 71 v): ∃x:Ord,v=V5 x/\x.wf B:=by
 obtain ⟨k,cs,h,e⟩:=h.out;obtain ⟨x,rfl,hw⟩:=Zhh h;exact ⟨x,e.trans (by rw [Qn,if_pos (XC Zru)];rfl),hw⟩
structure Inst where
 net:Net
 types_c:Bool
 types:List (Typ)
 orders_c:Bool
 orders:List (Ord)
 apart_c:Bool
 apart:List (Int×Int)
 before_c:Bool
 before:List (Int×Int)
 deriving Inhabited
def Zub (x:Inst):List PV:= [.list x.net.places_c (x.net.places.map eS),.list x.net.arcs_c (x.net.arcs.map QV),.list x.types_c (x.types.map QE),.list x.orders_c (x.orders.map V5),.list x.apart_c (x.apart.map eP),.list x.before_c (x.before.map eP)]
def ZC (x:Inst):PV:= .agg [.list x.net.places_c (x.net.places.map eS),.list x.net.arcs_c (x.net.arcs.map QV),.list x.types_c (x.types.map QE),.list x.orders_c (x.orders.map V5),.list x.apart_c (x.apart.map eP),.list x.before_c (x.before.map eP)]
@[go_sem] theorem Zsv (x:Inst):ZC x= .agg [.list x.net.places_c (x.net.places.map eS),.list x.net.arcs_c (x.net.arcs.map QV),.list x.types_c (x.types.map QE),.list x.orders_c (x.orders.map V5),.list x.apart_c (x.apart.map eP),.list x.before_c (x.before.map eP)]:=Eq.trans rfl rfl
def Inst.wf (B:Nat) (x:Inst):Prop:=Net.wf B x.net/\x.types.length<=B/\(∀y∈x.types,Typ.wf B y)/\x.orders.length<=B/\(∀y∈x.orders,Ord.wf B y)/\x.apart.length<=B/\(∀p∈x.apart,I64 p.1/\I64 p.2)/\x.before.length<=B/\(∀p∈x.before,I64 p.1/\I64 p.2)
theorem Zga {B m cs} (h:YL Tryz.prog B m 30 cs): ∃x:Inst,cs=Zub x/\x.wf B:=by
 obtain ⟨h1,m',h2⟩:=XB Zp3 Zwg h;obtain ⟨a0,a1,a2,a3,a4,a5,rfl⟩:=ZxD h1;obtain ⟨n0,e0,w0⟩:=ZhI (h2 (0,25) (by simp));obtain ⟨y1,e1,w1,_,z1⟩:=ZM Tryz.underlying26 (h2 (2,26) (by simp));obtain ⟨n1,rfl,u1⟩:=Xv (f:=QE) fun y hy=>Zjs (z1 y hy);obtain ⟨y2,e2,w2,_,z2⟩:=ZM Tryz.underlying27 (h2 (3,27) (by simp));obtain ⟨n2,rfl,u2⟩:=Xv (f:=V5) fun y hy=>Zla (z2 y hy);obtain ⟨y3,e3,w3,_,z3⟩:=ZM Tryz.underlying28 (h2 (4,28) (by simp));obtain ⟨n3,rfl,u3⟩:=Xv (f:=eP) fun y hy=>ZmX (z3 y hy)
 obtain ⟨y4,e4,w4,_,z4⟩:=ZM Tryz.underlying28 (h2 (5,28) (by simp));obtain ⟨n4,rfl,u4⟩:=Xv (f:=eP) fun y hy=>ZmX (z4 y hy);simp [ZvZ,Zvj,Zw4,ZrG,Zyj] at e0 e1 e2 e3 e4;obtain ⟨rfl,rfl⟩:=e0;subst e1;subst e2;subst e3;subst e4;exact ⟨⟨n0,false,n1,false,n2,false,n3,false,n4⟩,rfl,w0,by simpa using w1,u1,by simpa using w2,u2,by simpa using w3,u3,by simpa using w4,u4⟩
theorem ZgT {B v} (h:FitV Tryz.prog B 30 v): ∃x:Inst,v=ZC x/\x.wf B:=by
 obtain ⟨k,cs,h,e⟩:=h.out;obtain ⟨x,rfl,hw⟩:=Zga h;exact ⟨x,e.trans (by rw [Qn,if_pos (XC Zp3)];rfl),hw⟩
structure Vis where
 order:Int
 drp:Bool
 deriving Inhabited
def Zz6 (x:Vis):List PV:= [.int .i64 x.order,.bool x.drp]
def XY (x:Vis):PV:= .agg [.int .i64 x.order,.bool x.drp]
@[go_sem] theorem ZeU (x:Vis):XY x= .agg [.int .i64 x.order,.bool x.drp]:=Eq.trans rfl rfl
@[go_sem] theorem Zpt (l:List Vis):Zdt 2 (l.map XY)=true:=Ug (f:=XY) (S:=2) (fun _=>rfl) l
def Vis.wf (B:Nat) (x:Vis):Prop:=I64 x.order
theorem Zic {B m cs} (h:YL Tryz.prog B m 102 cs): ∃x:Vis,cs=Zz6 x/\x.wf B:=by
 obtain ⟨h1,m',h2⟩:=XB Ziz ZoT h;obtain ⟨a0,a1,rfl⟩:=Zow h1;obtain ⟨n0,e0,w0⟩:=Zv Tryz.underlying3 (h2 (0,3) (by simp));obtain ⟨n1,e1⟩:=U4 Tryz.underlying4 (h2 (1,4) (by simp));simp [ZxQ,ZiL] at e0 e1;subst e0;subst e1;exact ⟨⟨n0,n1⟩,rfl,ZQ w0⟩
theorem ZjG {B v} (h:FitV Tryz.prog B 102 v): ∃x:Vis,v=XY x/\x.wf B:=by
 obtain ⟨k,cs,h,e⟩:=h.out;obtain ⟨x,rfl,hw⟩:=Zic h;exact ⟨x,e.trans (by rw [Qn,if_pos (XC Ziz)];rfl),hw⟩
structure Rte where
 typ:Int
 start:Int
 rests_c:Bool
 rests:List (Bool)
 visits_c:Bool
 visits:List (Vis)
 deriving Inhabited
def ZzL (x:Rte):List PV:= [.int .i64 x.typ,.int .i64 x.start,.list x.rests_c (x.rests.map eB),.list x.visits_c (x.visits.map XY)]
def YZ (x:Rte):PV:= .agg [.int .i64 x.typ,.int .i64 x.start,.list x.rests_c (x.rests.map eB),.list x.visits_c (x.visits.map XY)]
@[go_sem] theorem ZuV (x:Rte):YZ x= .agg [.int .i64 x.typ,.int .i64 x.start,.list x.rests_c (x.rests.map eB),.list x.visits_c (x.visits.map XY)]:=Eq.trans rfl rfl
@[go_sem] theorem Znf (l:List Rte):Zdt 4 (l.map YZ)=true:=Ug (f:=YZ) (S:=4) (fun _=>rfl) l
def Rte.wf (B:Nat) (x:Rte):Prop:=I64 x.typ/\I64 x.start/\x.rests.length<=B/\(∀b∈x.rests,True)/\x.visits.length<=B/\(∀y∈x.visits,Vis.wf B y)
theorem Zhw {B m cs} (h:YL Tryz.prog B m 64 cs): ∃x:Rte,cs=ZzL x/\x.wf B:=by
 obtain ⟨h1,m',h2⟩:=XB Zqd Zvw h;obtain ⟨a0,a1,a2,a3,rfl⟩:=ZyQ h1;obtain ⟨n0,e0,w0⟩:=Zv Tryz.underlying3 (h2 (0,3) (by simp));obtain ⟨n1,e1,w1⟩:=Zv Tryz.underlying3 (h2 (1,3) (by simp));obtain ⟨y2,e2,w2,_,z2⟩:=ZM Tryz.underlying61 (h2 (2,61) (by simp));obtain ⟨n2,rfl,u2⟩:=Zd1 z2;obtain ⟨y3,e3,w3,_,z3⟩:=ZM Tryz.underlying62 (h2 (3,62) (by simp));obtain ⟨n3,rfl,u3⟩:=Xv (f:=XY) fun y hy=>ZjG (z3 y hy);simp [ZuC,ZwF,ZiL] at e0 e1 e2 e3;subst e0;subst e1;subst e2;subst e3;exact ⟨⟨n0,n1,false,n2,false,n3⟩,rfl,ZQ w0,ZQ w1,by simpa using w2,u2,by simpa using w3,u3⟩
theorem ZjB {B v} (h:FitV Tryz.prog B 64 v): ∃x:Rte,v=YZ x/\x.wf B:=by
 obtain ⟨k,cs,h,e⟩:=h.out;obtain ⟨x,rfl,hw⟩:=Zhw h;exact ⟨x,e.trans (by rw [Qn,if_pos (XC Zqd)];rfl),hw⟩
structure Tim where
 arr:Int
 beg:Int
 dep:Int
 rest:Bool
 deriving Inhabited
def eTim (x:Tim):PV:= .agg [.int .i64 x.arr,.int .i64 x.beg,.int .i64 x.dep,.bool x.rest]
@[go_sem] theorem ZuB (x:Tim):eTim x= .agg [.int .i64 x.arr,.int .i64 x.beg,.int .i64 x.dep,.bool x.rest]:=Eq.trans rfl rfl
@[go_sem] theorem Zt4 (l:List Tim):okE 4 (l.map eTim)=true:=Q5 fun _=>rfl
structure She where
 rest:Bool
 dep:Int
 times_c:Bool
 times:List (Tim)
 fin:Int
 miles:Int
 deriving Inhabited
def Zf2 (x:She):PV:= .agg [.bool x.rest,.int .i64 x.dep,.list x.times_c (x.times.map eTim),.int .i64 x.fin,.int .i64 x.miles]
@[go_sem] theorem Zvk (x:She):Zf2 x= .agg [.bool x.rest,.int .i64 x.dep,.list x.times_c (x.times.map eTim),.int .i64 x.fin,.int .i64 x.miles]:=Eq.trans rfl rfl
structure Sco where
 cost:Int
 moved:Int
 other:Int
 work:Int
 deriving Inhabited
def JX (x:Sco):PV:= .agg [.int .i64 x.cost,.int .i64 x.moved,.int .i64 x.other,.int .i64 x.work]
@[go_sem] theorem Zu7 (x:Sco):JX x= .agg [.int .i64 x.cost,.int .i64 x.moved,.int .i64 x.other,.int .i64 x.work]:=Eq.trans rfl rfl
structure Pln where
 routes_c:Bool
 routes:List (Rte)
 unserved_c:Bool
 unserved:List (Int)
 deriving Inhabited
def ZzJ (x:Pln):List PV:= [.list x.routes_c (x.routes.map YZ),.list x.unserved_c (x.unserved.map eI)]
def Qw (x:Pln):PV:= .agg [.list x.routes_c (x.routes.map YZ),.list x.unserved_c (x.unserved.map eI)]
@[go_sem] theorem ZwL (x:Pln):Qw x= .agg [.list x.routes_c (x.routes.map YZ),.list x.unserved_c (x.unserved.map eI)]:=Eq.trans rfl rfl
def Pln.wf (B:Nat) (x:Pln):Prop:=x.routes.length<=B/\(∀y∈x.routes,Rte.wf B y)/\x.unserved.length<=B/\(∀n∈x.unserved,I64 n)
theorem Zgr {B m cs} (h:YL Tryz.prog B m 34 cs): ∃x:Pln,cs=ZzJ x/\x.wf B:=by
 obtain ⟨h1,m',h2⟩:=XB ZpD Zvx h;obtain ⟨a0,a1,rfl⟩:=Zow h1;obtain ⟨y0,e0,w0,_,z0⟩:=ZM Tryz.underlying31 (h2 (0,31) (by simp));obtain ⟨n0,rfl,u0⟩:=Xv (f:=YZ) fun y hy=>ZjB (z0 y hy);obtain ⟨y1,e1,w1,_,z1⟩:=ZM Tryz.underlying32 (h2 (1,32) (by simp));obtain ⟨n1,rfl,u1⟩:=JK z1;simp [Zuv,Zkc] at e0 e1;subst e0;subst e1;exact ⟨⟨false,n0,false,n1⟩,rfl,by simpa using w0,u0,by simpa using w1,u1⟩
theorem ZjX {B v} (h:FitV Tryz.prog B 34 v): ∃x:Pln,v=Qw x/\x.wf B:=by
 obtain ⟨k,cs,h,e⟩:=h.out;obtain ⟨x,rfl,hw⟩:=Zgr h;exact ⟨x,e.trans (by rw [Qn,if_pos (XC ZpD)];rfl),hw⟩
theorem own : ownKnob Tryz.prog.godebug=none:=by kernel_rfl
theorem ZjS : laidOutB Tryz.prog=true:=by kernel_rfl
abbrev Flt := Int×List UInt8
def eF (f:Flt):PV:= .agg [.int .i64 f.1,.str f.2]
@[go_sem] theorem ZzC (f:Flt):eF f= .agg [.int .i64 f.1,.str f.2]:=Eq.trans rfl rfl
@[go_sem] theorem Zyi (l:List Flt):okE 2 (l.map eF)=true:=Q5 fun _=>rfl
def dec (n:Nat):List UInt8:=if h:n<10 then [UInt8.ofNat (48+n)] else dec (n / 10)++ [UInt8.ofNat (48+n%10)]
termination_by n
decreasing_by omega
theorem Ze2 : ∀(k n:Nat),n<k->(dec n).length<=n+1:=by
 intro k
 induction k with
 | zero=>intro n h;omega
 | succ k ih =>
  intro n h;rw [dec]
  split
  ·simp
  ·have:=ih (n / 10) (by omega);simp;omega
theorem Vw : ∀(d n:Nat),n<10^(d+1)->(dec n).length<=d+1:=by
 intro d
 induction d with
 | zero=>intro n h;rw [dec,dif_pos (by omega)];simp
 | succ d ih =>
  intro n h;rw [dec]
  split
  ·simp
  ·have:=ih (n / 10) (by rw [Nat.div_lt_iff_lt_mul (by omega)];rw [Nat.pow_succ] at h;exact h);simp;omega
def Zai (n:Int):List UInt8:=if n<0 then 45::dec n.natAbs else dec n.natAbs
theorem Wn (n:Int) (h:I64 n):(Zai n).length<=20:=by
 have h1:n.natAbs<10^(18+1):=by omega
 have:=Vw 18 n.natAbs h1;unfold Zai
 split<;>simp<;>omega
structure FR {α:Type} (p:α->Prop) (C:Prop) (b:Nat) (l:List α):Prop where
 len:l.length<=b
 emp:l= []↔C
 all: ∀x∈l,p x
theorem FR.nil {α:Type} {p:α->Prop} {C:Prop} {b:Nat} (h:C):FR p C b []:=⟨by simp,by simp [h],by simp⟩
theorem FR.no {α:Type} {p:α->Prop} {C c:Prop} {b:Nat} {l:List α} (h:FR p C b l) (hc:c):FR p (C/\c) (b+1) l:=⟨by have:=h.len;omega,by rw [h.emp];simp [hc],h.all⟩
theorem FR.yes {α:Type} {p:α->Prop} {C c:Prop} {b:Nat} {l:List α} {x:α} (h:FR p C b l) (hc: ¬c) (hx:p x):FR p (C/\c) (b+1) (l++ [x]) :=
 ⟨by have:=h.len;simp;omega,by simp [hc],fun y hy=>by
  rcases List.mem_append.1 hy with hy | hy
  ·exact h.all y hy
  ·simp at hy;subst hy;exact hx⟩
theorem FR.app {α:Type} {p:α->Prop} {C D:Prop} {b d:Nat} {l m:List α} (h:FR p C b l) (k:FR p D d m):FR p (C/\D) (b+d) (l++m) :=
 ⟨by have:=h.len;have:=k.len;simp;omega,by rw [List.append_eq_nil_iff,h.emp,k.emp],fun y hy=>by
  rcases List.mem_append.1 hy with hy | hy
  ·exact h.all y hy
  ·exact k.all y hy⟩
theorem FR.to {α:Type} {p:α->Prop} {C D:Prop} {b d:Nat} {l:List α} (h:FR p C b l) (hb:b<=d) (hc:C↔D):FR p D d l:=⟨Nat.le_trans h.len hb,h.emp.trans hc,h.all⟩
theorem Zg {p:Nat->Prop} {k:Nat} :(∀j,j<k+1->p j)↔((∀j,j<k->p j)/\p k) :=
 ⟨fun h=>⟨fun j hj=>h j (by omega),h k (by omega)⟩,fun h j hj=>by
  rcases Nat.lt_or_ge j k with h1 | h1
  ·exact h.1 j h1
  ·have:j=k:=by omega
   rw [this];exact h.2⟩
def Wc (c:UInt8):Bool:=decide (48<=c.toNat/\c.toNat<=57)
def YJ (c:UInt8):Bool:=decide (97<=c.toNat/\c.toNat<=122)||decide (65<=c.toNat/\c.toNat<=90)||decide (c.toNat=95)
def nameOk (s:List UInt8):Bool:=decide (1<=s.length)&&decide (s.length<=16)&& !Wc (nth s 0)&&s.all fun c=>YJ c||Wc c
def rng (n lo hi:Int):Bool:=decide (lo<=n/\n<=hi)
def Zia (n:Int):Bool:=rng n 0 4096
def Zql (l:List Pt) (i:Nat):Prop:=(0<=(nth l i).t/\(nth l i).t<=4096/\(nth l i).t<=(nth l i).a/\(nth l i).a<=(nth l i).t+4096)/\(0<i->(nth l (i-1)).t<(nth l i).t/\(nth l (i-1)).a<=(nth l i).a)
def YD (l:List Pt):Prop:=(1<=l.length/\l.length<=16)/\ ∀i,i<l.length->Zql l i
def VZ (l:List Pt) (i:Nat):Prop:=Zia (nth l i).t=true/\Zia (nth l i).a=true/\(0<i->(nth l (i-1)).t<(nth l i).t)
def Zfm (n:Net) (i:Nat):Prop :=
 ((((((0<=(nth n.arcs i).src/\(nth n.arcs i).src<n.places.length/\0<=(nth n.arcs i).dst/\(nth n.arcs i).dst<n.places.length) /\
 (0<=(nth n.arcs i).prof/\(nth n.arcs i).prof<=7/\0<=(nth n.arcs i).miles/\(nth n.arcs i).miles<=10000/\(nth n.arcs i).src≠(nth n.arcs i).dst)) /\
 (∀k,k<i-> ¬((nth n.arcs i).src=(nth n.arcs k).src/\(nth n.arcs i).dst=(nth n.arcs k).dst/\(nth n.arcs i).prof=(nth n.arcs k).prof))) /\
 YD (nth n.arcs i).travel)/\(nth n.arcs i).slow.length<=16)/\ ∀k,k<(nth n.arcs i).slow.length->VZ (nth n.arcs i).slow k)
def Zkz (n:Net) (i:Nat):Prop:=nameOk (nth n.places i)=true/\ ∀k,k<i->nth n.places k≠nth n.places i
def W8 (n:Net):Prop:=n.places.length<=24/\ ∀i,i<n.places.length->Zkz n i
def netOk (n:Net):Prop:=(W8 n/\n.arcs.length<=1024)/\ ∀i,i<n.arcs.length->Zfm n i
set_option maxRecDepth 8000
set_option maxHeartbeats 4000000
theorem Zet (c:UInt8):PC 222 [.p (.int .u8 (c.toNat:Nat))] (.bool (Wc c)):=by
 refine Zb Tryz.func222 rfl Zq0 ?_;simp (disch:=omega) only [Tryz.f222,go_sem,seval];refine gT ?_ ?_<;>intro h<;>simp (disch:=omega) only [Sh.out h,go_sem,seval]
 all_goals (simp [Wc];first | done | omega | (rw [Bool.eq_iff_iff];simp;omega))
theorem Zio (c:UInt8):PC 223 [.p (.int .u8 (c.toNat:Nat))] (.bool (YJ c)):=by
 refine Zb Tryz.func223 rfl ZqU ?_;simp (disch:=omega) only [Tryz.f223,go_sem,seval]
 repeat' (first | (refine ZU (fun hq=> ?_) (fun hq=> ?_)<;>(try simp only [decide_eq_true_eq,decide_eq_false_iff_not,Classical.not_not] at hq)<;>simp (disch:=omega) only [Sh.out hq,go_sem,seval]) | (refine ZS (fun hq=> ?_) (fun hq=> ?_)<;>(try simp only [decide_eq_true_eq,decide_eq_false_iff_not,Classical.not_not] at hq)<;>simp (disch:=omega) only [Sh.out hq,go_sem,seval]) | (refine Xd (fun hq=> ?_) (fun hq=> ?_)<;>(try simp only [decide_eq_true_eq,decide_eq_false_iff_not,Classical.not_not] at hq)<;>simp (disch:=omega) only [Sh.out hq,go_sem,seval]))
 all_goals (simp [YJ];first | done | omega | (rw [Bool.eq_iff_iff];simp;omega))
theorem ZdH (s:List UInt8) (hs:s.length<=1048576):PC 170 [.p (.str s)] (.bool (nameOk s)):=by
 refine Zb Tryz.func170 rfl ZnQ ?_;simp (disch:=omega) only [Tryz.f170,go_sem,seval];refine gF ?_ ?_<;>intro h<;>simp (disch:=omega) only [Sh.out h,go_sem,seval]
 ·have: ¬ 1<=s.length:=by omega
  simp [nameOk,this]
 ·refine gF ?_ ?_<;>intro h2<;>simp (disch:=omega) only [Sh.out h2,go_sem,seval]
  ·have: ¬s.length<=16:=by omega
   simp [nameOk,this]
  ·have g1:1<=s.length:=by omega
   have g2:s.length<=16:=by omega
   refine (Zet (nth s 0)).use ?_;simp (disch:=omega) only [go_sem,seval];refine cD ?_ ?_<;>intro h3<;>simp (disch:=omega) only [Sh.out h3,go_sem,seval]
   ·simp [nameOk,h3]
   ·refine Zf [0] (fun k:Nat=> [(3,.p (.int .i64 k))]) (fun _=> []) (fun k=>k<=s.length/\ ∀j,j<k->(YJ (nth s j)||Wc (nth s j))=true) (fun k=>s.length-k) 0 (by simp) (Weak.mk ?_) ?_
    ·simp (disch:=omega) only [go_sem,seval]
    ·rintro k ⟨hk,hno⟩;simp (disch:=omega) only [go_sem,seval]
     have XZ: ∀j,j<s.length->(YJ (nth s j)||Wc (nth s j))=false->nameOk s=false:=fun j hj e=>by
      have:s.all (fun c=>YJ c||Wc c)=false:=by
       rw [List.all_eq_false];exact ⟨nth s j,by rw [Ze hj];exact List.getElem_mem _,by rw [e];simp⟩
      simp [nameOk,this]
     refine cD ?_ ?_<;>intro h4<;>simp (disch:=omega) only [Sh.out h4,go_sem,seval]
     ·have hk2:k<s.length:=by omega
      refine (Zio (nth s k)).use ?_;simp (disch:=omega) only [go_sem,seval];refine gT ?_ ?_<;>intro h5<;>simp (disch:=omega) only [Sh.out h5,go_sem,seval]
      ·refine (Zet (nth s k)).use ?_;simp (disch:=omega) only [go_sem,seval];refine cD ?_ ?_<;>intro h6<;>simp (disch:=omega) only [Sh.out h6,go_sem,seval]
       ·simp only [Bool.not_eq_true'] at h5 h6;rw [XZ k hk2 (by rw [h5,h6];rfl)]
       ·simp only [Bool.not_eq_false'] at h6;exact ⟨k+1,⟨by omega,Zg.2 ⟨hno,by simp [h6]⟩⟩,by omega,wk⟩
      ·simp only [Bool.not_eq_false'] at h5;exact ⟨k+1,⟨by omega,Zg.2 ⟨hno,by simp [h5]⟩⟩,by omega,wk⟩
     ·have:s.all (fun c=>YJ c||Wc c)=true:=by
       rw [List.all_eq_true];intro c hc;obtain ⟨j,hj,rfl⟩:=List.mem_iff_getElem.1 hc;rw [<- Ze hj];exact hno j (by omega)
      simp [nameOk,g1,g2,h3,this]
theorem VN (n:Int) (hn:I64 n):PC 119 [.p (.int .i64 n)] (.str (Zai n)):=by
 refine Zb Tryz.func119 rfl ZnX ?_;simp (disch:=omega) only [Tryz.f119,go_sem,seval]
 have h19:n.natAbs<10^(18+1):=by omega
 have hdl:=Vw 18 n.natAbs h19
 refine ZA [7] [0] (fun q:Int×List UInt8×Bool=> [(3,.p (.str q.2.1)),(4,.p (.int .i64 q.1)),(5,.p (.bool q.2.2))]) (fun _=> [])
  (fun q=>I64 q.1/\(q.2.2=true->dec q.1.natAbs++q.2.1=dec n.natAbs)/\(q.2.2=false->q.2.1=dec n.natAbs)) (fun q=>if q.2.2 then q.1.natAbs+1 else 0) (n,[],true) (by simp;omega) (Weak.mk ?_) ?_
 ·simp (disch:=omega) only [go_sem,seval]
 ·rintro ⟨m,s,again⟩ ⟨hm,h1,h2⟩;simp only at hm h1 h2;simp (disch:=omega) only [go_sem,seval]
  cases again with
  | false =>
   simp (disch:=omega) only [go_sem,seval];have h2:=h2 rfl
   have hl2:([45]:List UInt8).length+(dec n.natAbs).length<=9223372036854775807:=by simp;omega
   refine cD ?_ ?_<;>intro h3<;>simp (disch:=omega) only [Sh.out h3,go_sem,seval]
   ·simp (disch:=omega) only [Zai,h2,h3,ZhD hl2,go_sem,seval]
   ·simp (disch:=omega) only [Zai,h2,h3,go_sem,seval]
  | true =>
   have h1:=h1 rfl
   have hls:(dec m.natAbs).length+s.length=(dec n.natAbs).length:=by rw [<- h1];simp
   simp (disch:=omega) only [go_sem,seval]
   have e1:(m.tmod 10).natAbs=m.natAbs%10:=by rw [Int.natAbs_tmod];rfl
   have e2:(m.tdiv 10).natAbs=m.natAbs / 10:=by rw [Int.natAbs_tdiv];rfl
   have e3:m.tmod 10<10/\ -10<m.tmod 10:=⟨Int.tmod_lt_of_pos _ (by decide),by omega⟩;refine Zo [0,3,4] (fun _:Unit=> [(6,.p (.int .i64 ((m.natAbs%10:Nat):Int)))]) (fun _=> []) (fun _=>True) ?_ ?_
   ·simp (disch:=omega) only [go_sem,seval];refine cD ?_ ?_<;>intro h3<;>simp (disch:=omega) only [Sh.out h3,go_sem,seval]
    ·exact ⟨(),Weak.mk (by simp (disch:=omega) only [go_sem,seval];simp;omega)⟩
    ·exact ⟨(),Weak.mk (by simp (disch:=omega) only [go_sem,seval];simp;omega)⟩
   ·intro _ _;refine Zc [] _ _ _ _ ?_;simp (disch:=first | omega | (simp only [List.length_cons,List.length_nil,List.length_append,List.length_map,List.length_take,List.length_drop]<;>omega)) only [go_sem,seval]
    have e4:(48+((m.natAbs%10:Nat):Int)).toNat=48+m.natAbs%10:=by omega
    refine ⟨(m.tdiv 10,UInt8.ofNat (48+m.natAbs%10)::s,decide (m.tdiv 10≠0)),⟨?_,?_,?_⟩,?_,Weak.mk ?_⟩
    ·simp only;omega
    ·simp only [decide_eq_true_eq];intro hne
     have h10: ¬m.natAbs<10:=by omega
     rw [e2,<- h1,dec.eq_def m.natAbs,dif_neg h10];simp
    ·simp only [decide_eq_false_iff_not,Classical.not_not];intro hz
     have h10:m.natAbs<10:=by omega
     rw [<- h1,dec.eq_def m.natAbs,dif_pos h10,Nat.mod_eq_of_lt h10];simp
    ·simp only [if_true]
     split
     ·rename_i hne;simp only [decide_eq_true_eq] at hne;omega
     ·omega
    ·simp (disch:=omega) only [e4,go_sem,seval]
def pF (k:Nat) (f:Flt):Prop:=f.2.length<=k
theorem Zi0 (l:List Pt) (c:Bool) (hl:l.length<=1048576):ACalls Tryz.prog 171 [.p (.list c (l.map ePt))] [] fun x H'=> ∃m:List Flt,FR (pF 20) (YD l) (2*l.length+1) m/\x= .sl 0 0 m.length m.length/\H'= [.elems 2 (m.map eF)]:=by
 refine ZD [2] Tryz.func171 rfl Zo0 ?_;simp (disch:=omega) only [Tryz.f171,go_sem,seval];refine Zn (Weak.ofNil 3 2 (by simp (disch:=omega) only [go_sem,seval]) (by simp) (Weak.refl _ _ _)) ?_;refine Zo [0] (fun m:List Flt=> [(3,.sl 0 0 m.length m.length)]) (fun m=> [.elems 2 (m.map eF)]) (fun m=>FR (pF 20) (1<=l.length/\l.length<=16) 1 m) ?_ ?_
 ·simp (disch:=omega) only [go_sem,seval]
  repeat' (first | (refine ZU (fun hq=> ?_) (fun hq=> ?_)<;>(try simp only [decide_eq_true_eq,decide_eq_false_iff_not,Classical.not_not] at hq)<;>simp (disch:=omega) only [Sh.out hq,go_sem,seval]) | (refine ZS (fun hq=> ?_) (fun hq=> ?_)<;>(try simp only [decide_eq_true_eq,decide_eq_false_iff_not,Classical.not_not] at hq)<;>simp (disch:=omega) only [Sh.out hq,go_sem,seval]) | (refine Xd (fun hq=> ?_) (fun hq=> ?_)<;>(try simp only [decide_eq_true_eq,decide_eq_false_iff_not,Classical.not_not] at hq)<;>simp (disch:=omega) only [Sh.out hq,go_sem,seval]))
  ·exact ⟨[(4,[])],⟨by simp,by simp;omega,by simp [pF]⟩,wk⟩
  ·exact ⟨[(4,[])],⟨by simp,by simp;omega,by simp [pF]⟩,wk⟩
  ·exact ⟨[],FR.nil (by omega),wk⟩
 ·intro m hm;refine Zc [] _ _ _ _ ?_;simp (disch:=omega) only [go_sem,seval];refine ZA [8] [0] (fun q:Nat×List Flt=> [(3,.sl 0 0 q.2.length q.2.length),(4,.p (.int .i64 q.1))]) (fun q=> [.elems 2 (q.2.map eF)]) (fun q=>q.1<=l.length/\FR (pF 20) ((1<=l.length/\l.length<=16)/\ ∀j,j<q.1->Zql l j) (2*q.1+1) q.2) (fun q=>l.length-q.1) (0,m) ⟨by simp,hm.to (by simp) (by simp)⟩ (Weak.mk ?_) ?_
  ·simp (disch:=omega) only [go_sem,seval]
  ·rintro ⟨k,m⟩ ⟨hk,hm⟩;simp only at hk hm;have hml:=hm.len;simp (disch:=omega) only [go_sem,seval];refine cD ?_ ?_<;>intro h<;>simp (disch:=omega) only [Sh.out h,go_sem,seval]
   ·have hk2:k<l.length:=by omega
    refine Zo [0,4,5] (fun m:List Flt=> [(3,.sl 0 0 m.length m.length)]) (fun m=> [.elems 2 (m.map eF),.cells [.p (.int .i64 (nth l k).t),.p (.int .i64 (nth l k).a)]])
     (fun m=>FR (pF 20) (((1<=l.length/\l.length<=16)/\ ∀j,j<k->Zql l j)/\(0<=(nth l k).t/\(nth l k).t<=4096/\(nth l k).t<=(nth l k).a/\(nth l k).a<=(nth l k).t+4096)) (2*k+1+1) m) ?_ ?_
    ·simp (disch:=omega) only [go_sem,seval]
     have hI:I64 (k:Int):=by omega
     have hdl:=Wn k hI
     repeat' (first | (refine ZU (fun hq=> ?_) (fun hq=> ?_)<;>(try simp only [decide_eq_true_eq,decide_eq_false_iff_not,Classical.not_not] at hq)<;>simp (disch:=omega) only [Sh.out hq,go_sem,seval]) | (refine ZS (fun hq=> ?_) (fun hq=> ?_)<;>(try simp only [decide_eq_true_eq,decide_eq_false_iff_not,Classical.not_not] at hq)<;>simp (disch:=omega) only [Sh.out hq,go_sem,seval]) | (refine Xd (fun hq=> ?_) (fun hq=> ?_)<;>(try simp only [decide_eq_true_eq,decide_eq_false_iff_not,Classical.not_not] at hq)<;>simp (disch:=omega) only [Sh.out hq,go_sem,seval]))
     all_goals try exact ⟨m,hm.no (by omega),wk⟩
     all_goals
      refine (VN k hI).use ?_;simp (disch:=omega) only [go_sem,seval];exact ⟨m++ [(2,Zai k)],hm.yes (by omega) (by simp only [pF];omega),wk⟩
    ·intro m hm;have hml:=hm.len;refine Zc [] _ _ _ _ ?_;simp (disch:=omega) only [go_sem,seval]
     have hI:I64 (k:Int):=by omega
     have hdl:=Wn k hI;refine Zh Zm (by kernel_rfl) (by kernel_rfl) ?_;simp (disch:=omega) only [go_sem,seval]
     repeat' (first | (refine ZU (fun hq=> ?_) (fun hq=> ?_)<;>(try simp only [decide_eq_true_eq,decide_eq_false_iff_not,Classical.not_not] at hq)<;>simp (disch:=omega) only [Sh.out hq,go_sem,seval]) | (refine ZS (fun hq=> ?_) (fun hq=> ?_)<;>(try simp only [decide_eq_true_eq,decide_eq_false_iff_not,Classical.not_not] at hq)<;>simp (disch:=omega) only [Sh.out hq,go_sem,seval]) | (refine Xd (fun hq=> ?_) (fun hq=> ?_)<;>(try simp only [decide_eq_true_eq,decide_eq_false_iff_not,Classical.not_not] at hq)<;>simp (disch:=omega) only [Sh.out hq,go_sem,seval]))
     all_goals try exact ⟨(k+1,m),⟨by simp only;omega,(hm.no (c:=0<k->(nth l (k-1)).t<(nth l k).t/\(nth l (k-1)).a<=(nth l k).a) (by omega)).to (by simp only;omega) (by simp only [Zg,Zql,and_assoc])⟩,by simp only;omega,wk⟩
     all_goals
      refine (VN k hI).use ?_;simp (disch:=omega) only [go_sem,seval];exact ⟨(k+1,m++ [(13,Zai k)]),⟨by simp only;omega,(hm.yes (c:=0<k->(nth l (k-1)).t<(nth l k).t/\(nth l (k-1)).a<=(nth l k).a) (by omega) (by simp only [pF];omega)).to (by simp only;omega) (by simp only [Zg,Zql,and_assoc])⟩,by simp only;omega,wk⟩
   ·have hkn:k=l.length:=by omega
    subst hkn;exact ⟨m,hm.to (by omega) (by rw [YD]),0,by simp (disch:=omega) only [go_sem,seval]⟩
set_option maxHeartbeats 8000000
theorem pF.mono {j k:Nat} (h:j<=k) {f:Flt} (hf:pF j f):pF k f:=Nat.le_trans hf h
theorem FR.pmono {α:Type} {p q:α->Prop} {C:Prop} {b:Nat} {l:List α} (h:FR p C b l) (hp: ∀x,p x->q x):FR q C b l:=⟨h.len,h.emp,fun x hx=>hp x (h.all x hx)⟩
theorem Zb4 (n:Int):PC 172 [.p (.int .i64 n)] (.bool (Zia n)):=by
 refine Zb Tryz.func172 rfl Zqe ?_;simp (disch:=omega) only [Tryz.f172,go_sem,seval]
 repeat' (first | (refine ZU (fun hq=> ?_) (fun hq=> ?_)<;>(try simp only [decide_eq_true_eq,decide_eq_false_iff_not,Classical.not_not] at hq)<;>simp (disch:=omega) only [Sh.out hq,go_sem,seval]) | (refine ZS (fun hq=> ?_) (fun hq=> ?_)<;>(try simp only [decide_eq_true_eq,decide_eq_false_iff_not,Classical.not_not] at hq)<;>simp (disch:=omega) only [Sh.out hq,go_sem,seval]) | (refine Xd (fun hq=> ?_) (fun hq=> ?_)<;>(try simp only [decide_eq_true_eq,decide_eq_false_iff_not,Classical.not_not] at hq)<;>simp (disch:=omega) only [Sh.out hq,go_sem,seval]))
 all_goals (simp [Zia,rng];first | done | omega | (rw [Bool.eq_iff_iff];simp;omega))
def Zz (n:Net):List AM.Obj:= [.cells [.p (.list n.places_c (n.places.map eS)),.p (.list n.arcs_c (n.arcs.map QV))]]
theorem ZcB (n:Net) (hp:n.places.length<=1048576) (hs: ∀s∈n.places,s.length<=1048576):ACalls Tryz.prog 115 [.p (ZbU n)] [] fun x H'=> ∃m:List Flt,FR (pF 26) (W8 n) (n.places.length+1) m/\x= .sl 0 0 m.length m.length/\H'= [.elems 2 (m.map eF)]:=by
 refine ZD [2] Tryz.func115 rfl ZqP ?_;simp (disch:=omega) only [Tryz.f115,go_sem,seval];refine Zn (Weak.ofNil 3 2 (by simp (disch:=omega) only [go_sem,seval]) (by simp) (Weak.refl _ _ _)) ?_;refine Zo [1] (fun m:List Flt=> [(3,.sl 1 0 m.length m.length)]) (fun m=>Zz n++ [.elems 2 (m.map eF)]) (fun m=>FR (pF 26) (n.places.length<=24) 1 m) ?_ ?_
 ·simp (disch:=omega) only [go_sem,seval];refine cD ?_ ?_<;>intro h<;>simp (disch:=omega) only [Sh.out h,go_sem,seval]
  ·exact ⟨[(4,[112,108,97,99,101,115])],⟨by simp,by simp;omega,by simp [pF]⟩,Weak.mk (by simp (disch:=omega) only [Zz,go_sem,seval])⟩
  ·exact ⟨[],FR.nil (by omega),Weak.mk (by simp (disch:=omega) only [Zz,go_sem,seval])⟩
 ·intro m hm;refine Zc [] _ _ _ _ ?_;simp (disch:=omega) only [Zz,go_sem,seval];refine Zf [1] (fun q:Nat×List Flt=> [(3,.sl 1 0 q.2.length q.2.length),(4,.p (.int .i64 q.1))]) (fun q=>Zz n++ [.elems 2 (q.2.map eF)]) (fun q=>q.1<=n.places.length/\FR (pF 26) (n.places.length<=24/\ ∀j,j<q.1->Zkz n j) (q.1+1) q.2) (fun q=>n.places.length-q.1) (0,m) ⟨by simp,hm.to (by simp) (by simp)⟩ (Weak.mk ?_) ?_
  ·simp (disch:=omega) only [Zz,go_sem,seval]
  ·rintro ⟨k,m⟩ ⟨hk,hm⟩;simp only at hk hm;have hml:=hm.len;simp (disch:=omega) only [Zz,go_sem,seval];refine cD ?_ ?_<;>intro h<;>simp (disch:=omega) only [Sh.out h,go_sem,seval]
   ·have hk2:k<n.places.length:=by omega
    have hI:I64 (k:Int):=by omega
    have hdl:=Wn k hI;refine (VN k hI).use ?_;simp (disch:=omega) only [go_sem,seval];simp (disch:=first | omega | (simp only [List.length_cons,List.length_nil,List.length_append,List.length_map,List.length_take,List.length_drop]<;>omega)) only [go_sem,seval];refine (ZdH (nth n.places k) (hs _ (by rw [Ze hk2];exact List.getElem_mem _))).use ?_;simp (disch:=omega) only [go_sem,seval];refine cD ?_ ?_<;>intro h2<;>simp (disch:=omega) only [Sh.out h2,go_sem,seval]
    ·simp only [Bool.not_eq_true'] at h2;exact ⟨(k+1,m++ [(5,[112,108,97,99,101,32]++Zai k)]),⟨by simp only;omega,(hm.yes (c:=Zkz n k) (by rw [Zkz,h2];simp) (by simp [pF];omega)).to (by simp) (by simp only [Zg,and_assoc])⟩,by simp only;omega,Weak.mk (by simp (disch:=omega) only [Zz,go_sem,seval])⟩
    ·simp only [Bool.not_eq_false'] at h2;refine Zf [1,3,4,5] (fun q:Nat×Bool=> [(6,.p (.bool q.2)),(7,.p (.int .i64 q.1))]) (fun _=>Zz n++ [.elems 2 (m.map eF)]) (fun q=>q.1<=k/\(q.2=false↔ ∀j,j<q.1->nth n.places j≠nth n.places k)) (fun q=>k-q.1) (0,false) (by simp) (Weak.mk ?_) ?_
     ·simp (disch:=omega) only [Zz,go_sem,seval]
     ·rintro ⟨j,b⟩ ⟨hj,hb⟩;simp only at hj hb;simp (disch:=omega) only [Zz,go_sem,seval];refine cD ?_ ?_<;>intro h3<;>simp (disch:=omega) only [Sh.out h3,go_sem,seval]
      ·refine Zx 14 Zm (by kernel_rfl) (by kernel_rfl) ?_;simp (disch:=omega) only [go_sem,seval]
       have hjn:j<n.places.length:=by omega
       cases b with
       | true =>
        simp (disch:=omega) only [go_sem,seval];exact ⟨(j+1,true),⟨by simp only;omega,by rw [Zg,<- hb];simp⟩,by simp only;omega,Weak.mk (by simp (disch:=omega) only [Zz,go_sem,seval])⟩
       | false =>
        simp (disch:=omega) only [go_sem,seval];refine ⟨(j+1,decide (nth n.places j=nth n.places k)),⟨by simp only;omega,by rw [Zg,<- hb];simp⟩,by simp only;omega,Weak.mk (by simp (disch:=omega) only [Zz,go_sem,seval])⟩
      ·have hjk:j=k:=by omega
       subst hjk
       cases b with
       | true =>
        simp (disch:=omega) only [go_sem,seval]
        have hno: ¬Zkz n j:=fun h5=>by have:=hb.2 h5.2;cases this
        exact ⟨(j+1,m++ [(6,[112,108,97,99,101,32]++Zai j)]),⟨by simp only;omega,(hm.yes (c:=Zkz n j) hno (by simp [pF];omega)).to (by simp) (by simp only [Zg,and_assoc])⟩,by simp only;omega,Weak.mk (by simp (disch:=omega) only [Zz,go_sem,seval])⟩
       | false =>
        simp (disch:=omega) only [go_sem,seval];exact ⟨(j+1,m),⟨by simp only;omega,(hm.no (c:=Zkz n j) ⟨h2,hb.1 rfl⟩).to (by simp) (by simp only [Zg,and_assoc])⟩,by simp only;omega,Weak.mk (by simp (disch:=omega) only [Zz,go_sem,seval])⟩
   ·have hkn:k=n.places.length:=by omega
    subst hkn;exact ⟨m,hm.to (by omega) (by rw [W8]),1,by simp (disch:=omega) only [go_sem,seval]⟩
set_option maxHeartbeats 16000000
def XP (a:Arc):AM.Obj:= .cells [.p (.int .i64 a.src),.p (.int .i64 a.dst),.p (.int .i64 a.prof),.p (.int .i64 a.miles),.p (.list a.travel_c (a.travel.map ePt)),.p (.list a.slow_c (a.slow.map ePt))]
abbrev XJ (a b:Arc):Prop:=a.src=b.src/\a.dst=b.dst/\a.prof=b.prof
theorem ZjQ (n:Net) (i:Nat) (hi:i<n.arcs.length) (hp:n.places.length<=1048576) (ha:n.arcs.length<=1048576) (ht:(nth n.arcs i).travel.length<=1048576) (hsl:(nth n.arcs i).slow.length<=1048576) :
  ACalls Tryz.prog 116 [.p (ZbU n),.p (.int .i64 (i:Nat))] [] fun x H'=> ∃m:List Flt,FR (pF 26) (Zfm n i) 4000000 m/\x= .sl 0 0 m.length m.length/\H'= [.elems 2 (m.map eF)]:=by
 refine ZD [4] Tryz.func116 rfl Zp8 ?_;simp (disch:=omega) only [Tryz.f116,go_sem,seval]
 have hI:I64 (i:Int):=by omega
 have hdl:=Wn i hI;refine (VN i hI).use ?_;simp (disch:=omega) only [go_sem,seval];simp (disch:=first | omega | (simp only [List.length_cons,List.length_nil,List.length_append,List.length_map,List.length_take,List.length_drop]<;>omega)) only [go_sem,seval]
 have hat:(97::114::99::32::Zai i).length<=26:=by simp;omega
 generalize hga:nth n.arcs i=a at ht hsl ⊢;generalize 97::114::99::32::Zai i=at' at hat ⊢;refine Zn (Weak.ofNil 5 2 (by simp (disch:=omega) only [go_sem,seval]) (by simp) (Weak.refl _ _ _)) ?_;refine Zo [1,2,6,7] (fun m:List Flt=> [(5,.sl 2 0 m.length m.length)]) (fun m=>Zz n++ [XP a,.elems 2 (m.map eF)]) (fun m=>FR (pF 26) (0<=a.src/\a.src<n.places.length/\0<=a.dst/\a.dst<n.places.length) 1 m) ?_ ?_
 ·simp (disch:=omega) only [go_sem,seval]
  repeat' (first | (refine ZU (fun hq=> ?_) (fun hq=> ?_)<;>(try simp only [decide_eq_true_eq,decide_eq_false_iff_not,Classical.not_not] at hq)<;>simp (disch:=omega) only [Sh.out hq,go_sem,seval]) | (refine ZS (fun hq=> ?_) (fun hq=> ?_)<;>(try simp only [decide_eq_true_eq,decide_eq_false_iff_not,Classical.not_not] at hq)<;>simp (disch:=omega) only [Sh.out hq,go_sem,seval]) | (refine Xd (fun hq=> ?_) (fun hq=> ?_)<;>(try simp only [decide_eq_true_eq,decide_eq_false_iff_not,Classical.not_not] at hq)<;>simp (disch:=omega) only [Sh.out hq,go_sem,seval]))
  all_goals try exact ⟨[],FR.nil (by omega),Weak.mk (by simp (disch:=omega) only [Zz,XP,go_sem,seval])⟩
  all_goals exact ⟨[(11,at')],⟨by simp,by simp;omega,by simpa [pF] using hat⟩,Weak.mk (by simp (disch:=omega) only [Zz,XP,go_sem,seval])⟩
 ·intro m hm;refine Zc [6] _ _ _ _ ?_;simp (disch:=omega) only [Zz,XP,go_sem,seval];have hml:=hm.len
  refine Zo [1,2,6,7] (fun m:List Flt=> [(5,.sl 2 0 m.length m.length)]) (fun m=>Zz n++ [XP a,.elems 2 (m.map eF)])
   (fun m=>FR (pF 26) ((0<=a.src/\a.src<n.places.length/\0<=a.dst/\a.dst<n.places.length)/\(0<=a.prof/\a.prof<=7/\0<=a.miles/\a.miles<=10000/\a.src≠a.dst)) 2 m) ?_ ?_
  ·simp (disch:=omega) only [go_sem,seval]
   repeat' (first | (refine ZU (fun hq=> ?_) (fun hq=> ?_)<;>(try simp only [decide_eq_true_eq,decide_eq_false_iff_not,Classical.not_not] at hq)<;>simp (disch:=omega) only [Sh.out hq,go_sem,seval]) | (refine ZS (fun hq=> ?_) (fun hq=> ?_)<;>(try simp only [decide_eq_true_eq,decide_eq_false_iff_not,Classical.not_not] at hq)<;>simp (disch:=omega) only [Sh.out hq,go_sem,seval]) | (refine Xd (fun hq=> ?_) (fun hq=> ?_)<;>(try simp only [decide_eq_true_eq,decide_eq_false_iff_not,Classical.not_not] at hq)<;>simp (disch:=omega) only [Sh.out hq,go_sem,seval]))
   all_goals try exact ⟨m,hm.no (by omega),Weak.mk (by simp (disch:=omega) only [Zz,XP,go_sem,seval])⟩
   all_goals exact ⟨m++ [(2,at')],hm.yes (by omega) (by simpa [pF] using hat),Weak.mk (by simp (disch:=omega) only [Zz,XP,go_sem,seval])⟩
  ·clear hm hml;intro m hm;refine Zc [14] _ _ _ _ ?_;simp (disch:=omega) only [Zz,XP,go_sem,seval];have hml:=hm.len;refine ZA [14] [1,2,5,6,7] (fun q:Nat×Bool=> [(8,.p (.bool q.2)),(9,.p (.int .i64 q.1))]) (fun _=>Zz n++ [XP a,.elems 2 (m.map eF)]) (fun q=>q.1<=i/\(q.2=false↔ ∀j,j<q.1-> ¬XJ a (nth n.arcs j))) (fun q=>i-q.1) (0,false) (by simp) (Weak.mk ?_) ?_
   ·simp (disch:=omega) only [Zz,XP,go_sem,seval]
   ·rintro ⟨k,b⟩ ⟨hk,hb⟩;simp only at hk hb;simp (disch:=omega) only [Zz,XP,go_sem,seval];refine cD ?_ ?_<;>intro h<;>simp (disch:=omega) only [Sh.out h,go_sem,seval]
    ·have hkn:k<n.arcs.length:=by omega
     cases b with
     | true =>
      simp (disch:=omega) only [go_sem,seval];exact ⟨(k+1,true),⟨by simp only;omega,by rw [Zg,<- hb];simp⟩,by simp only;omega,Weak.mk (by simp (disch:=omega) only [Zz,XP,go_sem,seval])⟩
     | false =>
      simp (disch:=omega) only [go_sem,seval]
      repeat' (first | (refine ZU (fun hq=> ?_) (fun hq=> ?_)<;>(try simp only [decide_eq_true_eq,decide_eq_false_iff_not,Classical.not_not] at hq)<;>simp (disch:=omega) only [Sh.out hq,go_sem,seval]) | (refine ZS (fun hq=> ?_) (fun hq=> ?_)<;>(try simp only [decide_eq_true_eq,decide_eq_false_iff_not,Classical.not_not] at hq)<;>simp (disch:=omega) only [Sh.out hq,go_sem,seval]) | (refine Xd (fun hq=> ?_) (fun hq=> ?_)<;>(try simp only [decide_eq_true_eq,decide_eq_false_iff_not,Classical.not_not] at hq)<;>simp (disch:=omega) only [Sh.out hq,go_sem,seval]))
      all_goals refine ⟨(k+1,decide (XJ a (nth n.arcs k))),⟨by simp only;omega,by rw [Zg,<- hb];simp⟩,by simp only;omega,Weak.mk ?_⟩
      all_goals simp (disch:=omega) only [Zz,XP,go_sem,seval]
      all_goals simp [XJ, *]
    ·have hki:k=i:=by omega
     subst hki;have htw:(b=false↔ ∀j,j<k-> ¬XJ a (nth n.arcs j)):=hb;clear hb hk h
     refine Zo [6,7] (fun m:List Flt=> [(5,.sl 2 0 m.length m.length)]) (fun m=>Zz n++ [XP a,.elems 2 (m.map eF)])
      (fun m=>FR (pF 26) (((0<=a.src/\a.src<n.places.length/\0<=a.dst/\a.dst<n.places.length)/\(0<=a.prof/\a.prof<=7/\0<=a.miles/\a.miles<=10000/\a.src≠a.dst))/\ ∀j,j<k-> ¬XJ a (nth n.arcs j)) 3 m) ?_ ?_
     ·simp (disch:=omega) only [go_sem,seval]
      cases b with
      | true =>
       simp (disch:=omega) only [go_sem,seval];exact ⟨m++ [(6,at')],hm.yes (by rw [<- htw];simp) (by simpa [pF] using hat),Weak.mk (by simp (disch:=omega) only [Zz,XP,go_sem,seval])⟩
      | false =>
       simp (disch:=omega) only [go_sem,seval];exact ⟨m,hm.no (htw.1 rfl),Weak.mk (by simp (disch:=omega) only [Zz,XP,go_sem,seval])⟩
     ·clear hm hml;intro m hm;refine Zc [21] _ _ _ _ ?_;simp (disch:=omega) only [Zz,XP,go_sem,seval];have hml:=hm.len;refine ((Zi0 a.travel a.travel_c ht).frozenE).useV fun lt hlt=> ?_;simp (disch:=omega) only [go_sem,seval];have hltl:=hlt.len
      refine ZA [21] [6,7,11] (fun q:Nat×List Flt=> [(5,.sl 2 0 q.2.length q.2.length),(12,.p (.int .i64 q.1))]) (fun q=>Zz n++ [XP a,.elems 2 (q.2.map eF)])
       (fun q=>q.1<=lt.length/\FR (pF 26) ((((0<=a.src/\a.src<n.places.length/\0<=a.dst/\a.dst<n.places.length)/\(0<=a.prof/\a.prof<=7/\0<=a.miles/\a.miles<=10000/\a.src≠a.dst))/\ ∀j,j<k-> ¬XJ a (nth n.arcs j))/\q.1=0) (3+q.1) q.2) (fun q=>lt.length-q.1) (0,m) ⟨by simp,hm.to (by simp) (by simp)⟩ (Weak.mk ?_) ?_
      ·simp (disch:=omega) only [Zz,XP,go_sem,seval]
      ·clear hm hml;rintro ⟨j,m⟩ ⟨hj,hm⟩;simp only at hj hm;have hml:=hm.len;simp (disch:=omega) only [Zz,XP,go_sem,seval];refine cD ?_ ?_<;>intro h<;>simp (disch:=omega) only [Sh.out h,go_sem,seval]
       ·have hj2:j<lt.length:=by omega
        exact ⟨(j+1,m++ [((nth lt j).1,at')]),⟨by simp only;omega,(hm.yes (c:=False) (by simp) (by simpa [pF] using hat)).to (by simp only;omega) (by simp)⟩,by simp only;omega,Weak.mk (by simp (disch:=omega) only [Zz,XP,go_sem,seval])⟩
       ·have hjl:j=lt.length:=by omega
        subst hjl;have hm2:=hm.to (d:=3+lt.length) (D:=(((0<=a.src/\a.src<n.places.length/\0<=a.dst/\a.dst<n.places.length)/\(0<=a.prof/\a.prof<=7/\0<=a.miles/\a.miles<=10000/\a.src≠a.dst))/\ ∀j,j<k-> ¬XJ a (nth n.arcs j))/\YD a.travel) (Nat.le_refl _) (by rw [<- hlt.emp,List.eq_nil_iff_length_eq_zero]);clear hm
        refine Zo [6,7] (fun m:List Flt=> [(5,.sl 2 0 m.length m.length)]) (fun m=>Zz n++ [XP a,.elems 2 (m.map eF)])
         (fun m=>FR (pF 26) (((((0<=a.src/\a.src<n.places.length/\0<=a.dst/\a.dst<n.places.length)/\(0<=a.prof/\a.prof<=7/\0<=a.miles/\a.miles<=10000/\a.src≠a.dst))/\ ∀j,j<k-> ¬XJ a (nth n.arcs j))/\YD a.travel)/\a.slow.length<=16) (4+lt.length) m) ?_ ?_
        ·simp (disch:=omega) only [go_sem,seval];refine cD ?_ ?_<;>intro h2<;>simp (disch:=omega) only [Sh.out h2,go_sem,seval]
         ·exact ⟨m++ [(4,at')],(hm2.yes (by omega) (by simpa [pF] using hat)).to (by omega) Iff.rfl,Weak.mk (by simp (disch:=omega) only [Zz,XP,go_sem,seval])⟩
         ·exact ⟨m,(hm2.no (by omega)).to (by omega) Iff.rfl,Weak.mk (by simp (disch:=omega) only [Zz,XP,go_sem,seval])⟩
        ·clear hm2 hml h hj;intro m hm;refine Zc [] _ _ _ _ ?_;simp (disch:=omega) only [Zz,XP,go_sem,seval]
         refine Zf [6,7] (fun q:Nat×List Flt=> [(5,.sl 2 0 q.2.length q.2.length),(13,.p (.int .i64 q.1))]) (fun q=>Zz n++ [XP a,.elems 2 (q.2.map eF)])
          (fun q=>q.1<=a.slow.length/\FR (pF 26) ((((((0<=a.src/\a.src<n.places.length/\0<=a.dst/\a.dst<n.places.length)/\(0<=a.prof/\a.prof<=7/\0<=a.miles/\a.miles<=10000/\a.src≠a.dst))/\ ∀j,j<k-> ¬XJ a (nth n.arcs j))/\YD a.travel)/\a.slow.length<=16)/\ ∀j,j<q.1->VZ a.slow j) (4+lt.length+q.1) q.2) (fun q=>a.slow.length-q.1) (0,m) ⟨by simp,hm.to (by simp) (by simp)⟩ (Weak.mk ?_) ?_
         ·simp (disch:=omega) only [Zz,XP,go_sem,seval]
         ·clear hm;rintro ⟨j,m⟩ ⟨hj,hm⟩;simp only at hj hm;have hml:=hm.len;simp (disch:=omega) only [Zz,XP,go_sem,seval];refine cD ?_ ?_<;>intro h<;>simp (disch:=omega) only [Sh.out h,go_sem,seval]
          ·have hj2:j<a.slow.length:=by omega
           refine Zh Zm (by kernel_rfl) (by kernel_rfl) ?_;simp (disch:=omega) only [go_sem,seval];refine Zs (Zb4 (nth a.slow j).t) ?_;simp (disch:=omega) only [go_sem,seval];have hslo:VZ a.slow j↔(Zia (nth a.slow j).t=true/\Zia (nth a.slow j).a=true/\(0<j->(nth a.slow (j-1)).t<(nth a.slow j).t)):=Iff.rfl;have hyes: ¬VZ a.slow j->_:=fun hs=>(hm.yes (x:=(2,at')) hs (by simpa [pF] using hat)).to (D:=(((((0<=a.src/\a.src<n.places.length/\0<=a.dst/\a.dst<n.places.length)/\(0<=a.prof/\a.prof<=7/\0<=a.miles/\a.miles<=10000/\a.src≠a.dst))/\ ∀j,j<k-> ¬XJ a (nth n.arcs j))/\YD a.travel)/\a.slow.length<=16)/\ ∀i,i<j+1->VZ a.slow i) (d:=4+lt.length+(j+1)) (by omega) (by simp only [Zg,and_assoc])
           have hno:VZ a.slow j->_:=fun hs=>(hm.no hs).to (D:=(((((0<=a.src/\a.src<n.places.length/\0<=a.dst/\a.dst<n.places.length)/\(0<=a.prof/\a.prof<=7/\0<=a.miles/\a.miles<=10000/\a.src≠a.dst))/\ ∀j,j<k-> ¬XJ a (nth n.arcs j))/\YD a.travel)/\a.slow.length<=16)/\ ∀i,i<j+1->VZ a.slow i) (d:=4+lt.length+(j+1)) (by omega) (by simp only [Zg,and_assoc])
           cases ht1:Zia (nth a.slow j).t with
           | false =>
            simp (disch:=omega) only [go_sem,seval];exact ⟨(j+1,m++ [(2,at')]),⟨by simp only;omega,hyes (by rw [hslo,ht1];simp)⟩,by simp only;omega,Weak.mk (by simp (disch:=omega) only [Zz,XP,go_sem,seval])⟩
           | true =>
            simp (disch:=omega) only [go_sem,seval];refine Zs (Zb4 (nth a.slow j).a) ?_;simp (disch:=omega) only [go_sem,seval]
            cases ht2:Zia (nth a.slow j).a with
            | false =>
             simp (disch:=omega) only [go_sem,seval];exact ⟨(j+1,m++ [(2,at')]),⟨by simp only;omega,hyes (by rw [hslo,ht2];simp)⟩,by simp only;omega,Weak.mk (by simp (disch:=omega) only [Zz,XP,go_sem,seval])⟩
            | true =>
             simp (disch:=omega) only [go_sem,seval]
             repeat' (first | (refine ZU (fun hq=> ?_) (fun hq=> ?_)<;>(try simp only [decide_eq_true_eq,decide_eq_false_iff_not,Classical.not_not] at hq)<;>simp (disch:=omega) only [Sh.out hq,go_sem,seval]) | (refine ZS (fun hq=> ?_) (fun hq=> ?_)<;>(try simp only [decide_eq_true_eq,decide_eq_false_iff_not,Classical.not_not] at hq)<;>simp (disch:=omega) only [Sh.out hq,go_sem,seval]) | (refine Xd (fun hq=> ?_) (fun hq=> ?_)<;>(try simp only [decide_eq_true_eq,decide_eq_false_iff_not,Classical.not_not] at hq)<;>simp (disch:=omega) only [Sh.out hq,go_sem,seval]))
             ·exact ⟨(j+1,m++ [(2,at')]),⟨by simp only;omega,hyes (by rw [hslo];omega)⟩,by simp only;omega,Weak.mk (by simp (disch:=omega) only [Zz,XP,go_sem,seval])⟩
             ·exact ⟨(j+1,m),⟨by simp only;omega,hno (by rw [hslo];exact ⟨ht1,ht2,by omega⟩)⟩,by simp only;omega,Weak.mk (by simp (disch:=omega) only [Zz,XP,go_sem,seval])⟩
             ·exact ⟨(j+1,m),⟨by simp only;omega,hno (by rw [hslo];exact ⟨ht1,ht2,by omega⟩)⟩,by simp only;omega,Weak.mk (by simp (disch:=omega) only [Zz,XP,go_sem,seval])⟩
          ·have hjn:j=a.slow.length:=by omega
           subst hjn;exact ⟨m,hm.to (by omega) (by rw [Zfm,hga]),2,by simp (disch:=omega) only [Zz,XP,go_sem,seval]⟩
theorem Zl {α:Type} [Inhabited α] {l:List α} {i:Nat} (h:i<l.length):nth l i∈l:=by rw [Ze h];exact List.getElem_mem _
theorem Zp7 (n:Net) (hw:n.wf 1048576):ACalls Tryz.prog 76 [.p (ZbU n)] [] fun x H'=> ∃m:List Flt,FR (pF 26) (netOk n) 4194306000000 m/\x= .sl 0 0 m.length m.length/\H'= [.elems 2 (m.map eF)]:=by
 obtain ⟨w1,w2,w3,w4⟩:=hw;refine ZD [2] Tryz.func76 rfl Zwy ?_;simp (disch:=omega) only [Tryz.f76,go_sem,seval];refine (ZcB n w1 w2).useE fun m hm=> ?_;simp (disch:=omega) only [go_sem,seval];have hml:=hm.len;refine Zo [1] (fun m:List Flt=> [(3,.sl 1 0 m.length m.length)]) (fun m=>Zz n++ [.elems 2 (m.map eF)]) (fun m=>FR (pF 26) (W8 n/\n.arcs.length<=1024) (n.places.length+2) m) ?_ ?_
 ·simp (disch:=omega) only [go_sem,seval];refine cD ?_ ?_<;>intro h<;>simp (disch:=omega) only [Sh.out h,go_sem,seval]
  ·exact ⟨m++ [(4,[97,114,99,115])],hm.yes (by omega) (by simp [pF]),Weak.mk (by simp (disch:=omega) only [Zz,go_sem,seval])⟩
  ·exact ⟨m,hm.no (by omega),Weak.mk (by simp (disch:=omega) only [Zz,go_sem,seval])⟩
 ·clear hm hml;intro m hm;refine Zc [] _ _ _ _ ?_;simp (disch:=omega) only [Zz,go_sem,seval];refine Zf [1] (fun q:Nat×List Flt=> [(3,.sl 1 0 q.2.length q.2.length),(4,.p (.int .i64 q.1))]) (fun q=>Zz n++ [.elems 2 (q.2.map eF)]) (fun q=>q.1<=n.arcs.length/\FR (pF 26) ((W8 n/\n.arcs.length<=1024)/\ ∀j,j<q.1->Zfm n j) (n.places.length+2+q.1*4000000) q.2) (fun q=>n.arcs.length-q.1) (0,m) ⟨by simp,hm.to (by simp) (by simp)⟩ (Weak.mk ?_) ?_
  ·simp (disch:=omega) only [Zz,go_sem,seval]
  ·clear hm;rintro ⟨k,m⟩ ⟨hk,hm⟩;simp only at hk hm;have hml:=hm.len;simp (disch:=omega) only [Zz,go_sem,seval];refine cD ?_ ?_<;>intro h<;>simp (disch:=omega) only [Sh.out h,go_sem,seval]
   ·have hk2:k<n.arcs.length:=by omega
    have ha:=w4 _ (Zl hk2);refine (ZjQ n k hk2 w1 w3 ha.2.2.2.2.1 ha.2.2.2.2.2.2.1).useE fun f hf=> ?_;simp (disch:=omega) only [go_sem,seval];have hfl:=hf.len
    have q1:(m.length+f.length)*24<=140737488355328:=by omega
    have q2:m.length+f.length<=140737488355328:=by omega
    simp (disch:=omega) only [q1,q2,go_sem,seval];refine ⟨(k+1,m++f),⟨by simp only;omega,(hm.app hf).to (by simp only;omega) (by simp only [Zg,and_assoc])⟩,by simp only;omega,Weak.mk ?_⟩;simp (disch:=omega) only [Zz,List.length_append,List.map_append,go_sem,seval]
   ·have hkn:k=n.arcs.length:=by omega
    subst hkn;exact ⟨m,hm.to (by omega) (by rw [netOk]),1,by simp (disch:=omega) only [Zz,go_sem,seval]⟩
theorem Yo (n lo hi:Int):PC 117 [.p (.int .i64 n),.p (.int .i64 lo),.p (.int .i64 hi)] (.bool (rng n lo hi)):=by
 refine Zb Tryz.func117 rfl ZpQ ?_;simp (disch:=omega) only [Tryz.f117,go_sem,seval];refine gT ?_ ?_<;>intro h<;>simp (disch:=omega) only [Sh.out h,go_sem,seval]
 all_goals (simp [rng];first | done | omega | (rw [Bool.eq_iff_iff];simp;omega))
def WE (l:List Int) (d:Int):Bool:=rng l.length 1 3&&decide ((l.length:Int)=d)&&l.all fun n=>rng n 0 1000
theorem Zcr (l:List Int) (c:Bool) (d:Int) (hl:l.length<=1048576):PC 174 [.p (.list c (l.map eI)),.p (.int .i64 d)] (.bool (WE l d)):=by
 refine Zb Tryz.func174 rfl ZmJ ?_;simp (disch:=omega) only [Tryz.f174,go_sem,seval];refine (Yo l.length 1 3).use ?_;simp (disch:=omega) only [go_sem,seval];refine gF ?_ ?_<;>intro h<;>simp (disch:=omega) only [Sh.out h,go_sem,seval]
 ·simp only [Bool.not_eq_true'] at h;simp [WE,h]
 ·simp only [Bool.not_eq_false'] at h;refine cD ?_ ?_<;>intro h2<;>simp (disch:=omega) only [Sh.out h2,go_sem,seval]
  ·simp [WE,h,h2]
  ·simp only [Classical.not_not] at h2;subst h2;refine Zf [0] (fun k:Nat=> [(5,.p (.int .i64 k))]) (fun _=> []) (fun k=>k<=l.length/\ ∀j,j<k->rng (nth l j) 0 1000=true) (fun k=>l.length-k) 0 (by simp) (Weak.mk ?_) ?_
   ·simp (disch:=omega) only [go_sem,seval]
   ·rintro k ⟨hk,hno⟩;simp (disch:=omega) only [go_sem,seval];refine cD ?_ ?_<;>intro h3<;>simp (disch:=omega) only [Sh.out h3,go_sem,seval]
    ·have hk2:k<l.length:=by omega
     refine (Yo (nth l k) 0 1000).use ?_;simp (disch:=omega) only [go_sem,seval];refine cD ?_ ?_<;>intro h4<;>simp (disch:=omega) only [Sh.out h4,go_sem,seval]
     ·simp only [Bool.not_eq_true'] at h4
      have:l.all (fun n=>rng n 0 1000)=false:=by
       rw [List.all_eq_false];exact ⟨nth l k,Zl hk2,by rw [h4];simp⟩
      simp [WE,this]
     ·simp only [Bool.not_eq_false'] at h4;exact ⟨k+1,⟨by omega,Zg.2 ⟨hno,h4⟩⟩,by omega,wk⟩
    ·have:l.all (fun n=>rng n 0 1000)=true:=by
      rw [List.all_eq_true];intro x hx;obtain ⟨j,hj,rfl⟩:=List.mem_iff_getElem.1 hx;rw [<- Ze hj];exact hno j (by omega)
     simp [WE,h,this]
def KI (l:List Typ) (i:Nat) (s:List UInt8):Bool:=(List.range i).any fun j=>decide ((nth l j).name=s)
theorem Yi {l:List Typ} {i:Nat} {s:List UInt8} :KI l i s=false↔ ∀j,j<i->(nth l j).name≠s:=by
 simp [KI,List.any_eq_false]
theorem ZeM (l:List Typ) (c:Bool) (i:Nat) (s:List UInt8) (hi:i<=l.length) (hl:l.length<=1048576):PC 173 [.p (.list c (l.map QE)),.p (.int .i64 (i:Nat)),.p (.str s)] (.bool (KI l i s)):=by
 refine Zb Tryz.func173 rfl Zp4 ?_;simp (disch:=omega) only [Tryz.f173,go_sem,seval];refine Zf [0,1,2] (fun k:Nat=> [(7,.p (.int .i64 k))]) (fun _=> []) (fun k=>k<=i/\ ∀j,j<k->(nth l j).name≠s) (fun k=>i-k) 0 (by simp) (Weak.mk ?_) ?_
 ·simp (disch:=omega) only [go_sem,seval]
 ·rintro k ⟨hk,hno⟩;simp (disch:=omega) only [go_sem,seval];refine cD ?_ ?_<;>intro h3<;>simp (disch:=omega) only [Sh.out h3,go_sem,seval]
  ·have hk2:k<l.length:=by omega
   refine cD ?_ ?_<;>intro h4<;>simp (disch:=omega) only [Sh.out h4,go_sem,seval]
   ·have:KI l i s=true:=by
     cases hq:KI l i s with
     | true=>rfl
     | false=>exact absurd h4 (Yi.1 hq k (by omega))
    rw [this]
   ·exact ⟨k+1,⟨by omega,Zg.2 ⟨hno,h4⟩⟩,by omega,wk⟩
  ·have:k=i:=by omega
   subst this;rw [Yi.2 hno]
def dimsOf (l:List Typ):Int:=if l.length=0 then 0 else ((nth l 0).cap.length:Int)
theorem Zcb (l:List Typ) (c:Bool) (hl:l.length<=1048576):PC 79 [.p (.list c (l.map QE))] (.int .i64 (dimsOf l)):=by
 refine Zb Tryz.func79 rfl Zup ?_;simp (disch:=omega) only [Tryz.f79,go_sem,seval];refine cD ?_ ?_<;>intro h<;>simp (disch:=omega) only [Sh.out h,go_sem,seval]
 ·have:l.length=0:=by omega
  simp [dimsOf,this]
 ·have h0:0<l.length:=by omega
  have h1:l.length≠0:=by omega
  simp (disch:=first | omega | (simp only [List.length_cons,List.length_nil,List.length_append,List.length_map,List.length_take,List.length_drop]<;>omega)) only [dimsOf,h1,go_sem,seval]
def Xl (t:Typ):AM.Obj:= .cells [.p (.str t.name),.p (.int .i64 t.count),.p (.int .i64 t.src),.p (.int .i64 t.dst),.p (.list t.cap_c (t.cap.map eI)),.p (.int .i64 t.skills),.p (.int .i64 t.prof),.p (.int .i64 t.opn),.p (.int .i64 t.cls),.p (.int .i64 t.drive),.p (.int .i64 t.rest),.p (.int .i64 t.fixed),.p (.int .i64 t.perMile),.p (.int .i64 t.perTick)]
def Jj (n:Net) (l:List Typ) (i:Nat):Prop:=((((((((nameOk (nth l i).name=true)/\(∀j,j<i->(nth l j).name≠(nth l i).name))/\rng (nth l i).count 0 10=true)/\(rng (nth l i).src 0 (n.places.length-1)=true/\rng (nth l i).dst 0 (n.places.length-1)=true))/\WE (nth l i).cap (dimsOf l)=true)/\rng (nth l i).skills 0 1073741823=true)/\(rng (nth l i).opn 0 (nth l i).cls=true/\(nth l i).cls<=4096))/\(rng (nth l i).drive 1 4096=true/\rng (nth l i).rest 0 4096=true))/\(rng (nth l i).prof 0 7=true/\rng (nth l i).fixed 0 100000=true/\rng (nth l i).perMile 0 100=true/\rng (nth l i).perTick 0 100=true)
theorem ZeG (n:Net) (l:List Typ) (c:Bool) (i:Nat) (hi:i<l.length) (hl:l.length<=1048576) (hw:n.wf 1048576) (ht:(nth l i).wf 1048576) :
  ACalls Tryz.prog 118 [.p (ZbU n),.p (.list c (l.map QE)),.p (.int .i64 (i:Nat))] [] fun x H'=> ∃m:List Int,FR (fun _=>True) (Jj n l i) 9 m/\x= .sl 0 0 m.length m.length/\H'= [.elems 1 (m.map eI)]:=by
 obtain ⟨w1,w2,w3,w4⟩:=hw;refine ZD [3] Tryz.func118 rfl Zpj ?_;simp (disch:=omega) only [Tryz.f118,go_sem,seval];have hty:Jj n l i↔((((((((nameOk (nth l i).name=true)/\(∀j,j<i->(nth l j).name≠(nth l i).name))/\rng (nth l i).count 0 10=true)/\(rng (nth l i).src 0 (n.places.length-1)=true/\rng (nth l i).dst 0 (n.places.length-1)=true))/\WE (nth l i).cap (dimsOf l)=true)/\rng (nth l i).skills 0 1073741823=true)/\(rng (nth l i).opn 0 (nth l i).cls=true/\(nth l i).cls<=4096))/\(rng (nth l i).drive 1 4096=true/\rng (nth l i).rest 0 4096=true))/\(rng (nth l i).prof 0 7=true/\rng (nth l i).fixed 0 100000=true/\rng (nth l i).perMile 0 100=true/\rng (nth l i).perTick 0 100=true):=Iff.rfl
 generalize hga:nth l i=t at ht hty ⊢;have hname:=ht.1;have hcap:=ht.2.2.2.2.1;refine Zn (Weak.ofNil 8 1 (by simp (disch:=omega) only [go_sem,seval]) (by simp) (Weak.refl _ _ _)) ?_;refine Zo [1,2,3,7] (fun m:List Int=> [(8,.sl 2 0 m.length m.length)]) (fun m=>Zz n++ [Xl t,.elems 1 (m.map eI)]) (fun m=>FR (fun _=>True) (nameOk t.name=true) 1 m) ?_ ?_
 ·simp (disch:=omega) only [go_sem,seval];refine (ZdH t.name hname).use ?_;simp (disch:=omega) only [go_sem,seval];refine cD ?_ ?_<;>intro h0<;>simp (disch:=omega) only [Sh.out h0,go_sem,seval]
  ·simp only [Bool.not_eq_true'] at h0;exact ⟨[5],⟨by simp,by simp [h0],by simp⟩,Weak.mk (by simp (disch:=omega) only [Zz,Xl,go_sem,seval])⟩
  ·simp only [Bool.not_eq_false'] at h0;exact ⟨[],FR.nil (by simp [h0]),Weak.mk (by simp (disch:=omega) only [Zz,Xl,go_sem,seval])⟩
 ·skip
  intro m hm;refine Zc [5] _ _ _ _ ?_;simp (disch:=omega) only [Zz,Xl,go_sem,seval];have hml:=hm.len;refine Zo [1,3,7] (fun m:List Int=> [(8,.sl 2 0 m.length m.length)]) (fun m=>Zz n++ [Xl t,.elems 1 (m.map eI)]) (fun m=>FR (fun _=>True) ((nameOk t.name=true)/\(∀j,j<i->(nth l j).name≠t.name)) 2 m) ?_ ?_
  ·simp (disch:=omega) only [go_sem,seval];refine (ZeM l c i t.name (by omega) hl).use ?_;simp (disch:=omega) only [go_sem,seval];refine cD ?_ ?_<;>intro h<;>simp (disch:=omega) only [Sh.out h,go_sem,seval]
   ·exact ⟨m++ [6],hm.yes (by rw [<- Yi,h];simp) trivial,Weak.mk (by simp (disch:=omega) only [Zz,Xl,go_sem,seval])⟩
   ·exact ⟨m,hm.no (by exact Yi.1 h),Weak.mk (by simp (disch:=omega) only [Zz,Xl,go_sem,seval])⟩
  ·clear hm hml;intro m hm;refine Zc [7] _ _ _ _ ?_;simp (disch:=omega) only [Zz,Xl,go_sem,seval];have hml:=hm.len;refine Zo [1,3,7] (fun m:List Int=> [(8,.sl 2 0 m.length m.length)]) (fun m=>Zz n++ [Xl t,.elems 1 (m.map eI)]) (fun m=>FR (fun _=>True) (((nameOk t.name=true)/\(∀j,j<i->(nth l j).name≠t.name))/\rng t.count 0 10=true) 3 m) ?_ ?_
   ·simp (disch:=omega) only [go_sem,seval];refine (Yo t.count 0 10).use ?_;simp (disch:=omega) only [go_sem,seval];refine cD ?_ ?_<;>intro h0<;>simp (disch:=omega) only [Sh.out h0,go_sem,seval]
    ·simp only [Bool.not_eq_true'] at h0;exact ⟨m++ [22],hm.yes (by simp [h0]) trivial,Weak.mk (by simp (disch:=omega) only [Zz,Xl,go_sem,seval])⟩
    ·simp only [Bool.not_eq_false'] at h0;exact ⟨m,hm.no (by simp [h0]),Weak.mk (by simp (disch:=omega) only [Zz,Xl,go_sem,seval])⟩
   ·clear hm hml;intro m hm;refine Zc [9] _ _ _ _ ?_;simp (disch:=omega) only [Zz,Xl,go_sem,seval];have hml:=hm.len;refine Zo [1,7] (fun m:List Int=> [(8,.sl 2 0 m.length m.length)]) (fun m=>Zz n++ [Xl t,.elems 1 (m.map eI)]) (fun m=>FR (fun _=>True) ((((nameOk t.name=true)/\(∀j,j<i->(nth l j).name≠t.name))/\rng t.count 0 10=true)/\(rng t.src 0 (n.places.length-1)=true/\rng t.dst 0 (n.places.length-1)=true)) 4 m) ?_ ?_
    ·simp (disch:=omega) only [go_sem,seval];refine (Yo t.src 0 (n.places.length-1)).use ?_;simp (disch:=omega) only [go_sem,seval];refine gF ?_ ?_<;>intro h0<;>simp (disch:=omega) only [Sh.out h0,go_sem,seval]
     ·simp only [Bool.not_eq_true'] at h0;exact ⟨m++ [11],hm.yes (by simp [h0]) trivial,Weak.mk (by simp (disch:=omega) only [Zz,Xl,go_sem,seval])⟩
     ·simp only [Bool.not_eq_false'] at h0;refine (Yo t.dst 0 (n.places.length-1)).use ?_;simp (disch:=omega) only [go_sem,seval];refine cD ?_ ?_<;>intro h1<;>simp (disch:=omega) only [Sh.out h1,go_sem,seval]
      ·simp only [Bool.not_eq_true'] at h1;exact ⟨m++ [11],hm.yes (by simp [h1]) trivial,Weak.mk (by simp (disch:=omega) only [Zz,Xl,go_sem,seval])⟩
      ·simp only [Bool.not_eq_false'] at h1;exact ⟨m,hm.no (by simp [h0,h1]),Weak.mk (by simp (disch:=omega) only [Zz,Xl,go_sem,seval])⟩
    ·clear hm hml;intro m hm;refine Zc [11] _ _ _ _ ?_;simp (disch:=omega) only [Zz,Xl,go_sem,seval];have hml:=hm.len;refine Zo [7] (fun m:List Int=> [(8,.sl 2 0 m.length m.length)]) (fun m=>Zz n++ [Xl t,.elems 1 (m.map eI)]) (fun m=>FR (fun _=>True) (((((nameOk t.name=true)/\(∀j,j<i->(nth l j).name≠t.name))/\rng t.count 0 10=true)/\(rng t.src 0 (n.places.length-1)=true/\rng t.dst 0 (n.places.length-1)=true))/\WE t.cap (dimsOf l)=true) 5 m) ?_ ?_
     ·simp (disch:=omega) only [go_sem,seval];refine Zh Zm (by kernel_rfl) (by kernel_rfl) ?_;simp (disch:=omega) only [go_sem,seval];refine Zs (Zcb l c hl) ?_;simp (disch:=omega) only [go_sem,seval];refine Zs (Zcr t.cap t.cap_c (dimsOf l) hcap) ?_;simp (disch:=omega) only [go_sem,seval];refine cD ?_ ?_<;>intro h<;>simp (disch:=omega) only [Sh.out h,go_sem,seval]
      ·simp only [Bool.not_eq_true'] at h;exact ⟨m++ [17],hm.yes (by simp [h]) trivial,Weak.mk (by simp (disch:=omega) only [Zz,Xl,go_sem,seval])⟩
      ·simp only [Bool.not_eq_false'] at h;exact ⟨m,hm.no (by simp [h]),Weak.mk (by simp (disch:=omega) only [Zz,Xl,go_sem,seval])⟩
     ·clear hm hml;intro m hm;refine Zc [13] _ _ _ _ ?_;simp (disch:=omega) only [Zz,Xl,go_sem,seval];have hml:=hm.len;refine Zo [7] (fun m:List Int=> [(8,.sl 2 0 m.length m.length)]) (fun m=>Zz n++ [Xl t,.elems 1 (m.map eI)]) (fun m=>FR (fun _=>True) ((((((nameOk t.name=true)/\(∀j,j<i->(nth l j).name≠t.name))/\rng t.count 0 10=true)/\(rng t.src 0 (n.places.length-1)=true/\rng t.dst 0 (n.places.length-1)=true))/\WE t.cap (dimsOf l)=true)/\rng t.skills 0 1073741823=true) 6 m) ?_ ?_
      ·simp (disch:=omega) only [go_sem,seval];refine (Yo t.skills 0 1073741823).use ?_;simp (disch:=omega) only [go_sem,seval];refine cD ?_ ?_<;>intro h0<;>simp (disch:=omega) only [Sh.out h0,go_sem,seval]
       ·simp only [Bool.not_eq_true'] at h0;exact ⟨m++ [18],hm.yes (by simp [h0]) trivial,Weak.mk (by simp (disch:=omega) only [Zz,Xl,go_sem,seval])⟩
       ·simp only [Bool.not_eq_false'] at h0;exact ⟨m,hm.no (by simp [h0]),Weak.mk (by simp (disch:=omega) only [Zz,Xl,go_sem,seval])⟩
      ·clear hm hml;intro m hm;refine Zc [15] _ _ _ _ ?_;simp (disch:=omega) only [Zz,Xl,go_sem,seval];have hml:=hm.len;refine Zo [7] (fun m:List Int=> [(8,.sl 2 0 m.length m.length)]) (fun m=>Zz n++ [Xl t,.elems 1 (m.map eI)]) (fun m=>FR (fun _=>True) (((((((nameOk t.name=true)/\(∀j,j<i->(nth l j).name≠t.name))/\rng t.count 0 10=true)/\(rng t.src 0 (n.places.length-1)=true/\rng t.dst 0 (n.places.length-1)=true))/\WE t.cap (dimsOf l)=true)/\rng t.skills 0 1073741823=true)/\(rng t.opn 0 t.cls=true/\t.cls<=4096)) 7 m) ?_ ?_
       ·simp (disch:=omega) only [go_sem,seval];refine (Yo t.opn 0 t.cls).use ?_;simp (disch:=omega) only [go_sem,seval];refine gF ?_ ?_<;>intro h0<;>simp (disch:=omega) only [Sh.out h0,go_sem,seval]
        ·simp only [Bool.not_eq_true'] at h0;exact ⟨m++ [15],hm.yes (by simp [h0]) trivial,Weak.mk (by simp (disch:=omega) only [Zz,Xl,go_sem,seval])⟩
        ·simp only [Bool.not_eq_false'] at h0;refine cD ?_ ?_<;>intro h1<;>simp (disch:=omega) only [Sh.out h1,go_sem,seval]
         ·exact ⟨m++ [15],hm.yes (by omega) trivial,Weak.mk (by simp (disch:=omega) only [Zz,Xl,go_sem,seval])⟩
         ·exact ⟨m,hm.no (by exact ⟨h0,by omega⟩),Weak.mk (by simp (disch:=omega) only [Zz,Xl,go_sem,seval])⟩
       ·clear hm hml;intro m hm;refine Zc [17] _ _ _ _ ?_;simp (disch:=omega) only [Zz,Xl,go_sem,seval];have hml:=hm.len;refine Zo [7] (fun m:List Int=> [(8,.sl 2 0 m.length m.length)]) (fun m=>Zz n++ [Xl t,.elems 1 (m.map eI)]) (fun m=>FR (fun _=>True) ((((((((nameOk t.name=true)/\(∀j,j<i->(nth l j).name≠t.name))/\rng t.count 0 10=true)/\(rng t.src 0 (n.places.length-1)=true/\rng t.dst 0 (n.places.length-1)=true))/\WE t.cap (dimsOf l)=true)/\rng t.skills 0 1073741823=true)/\(rng t.opn 0 t.cls=true/\t.cls<=4096))/\(rng t.drive 1 4096=true/\rng t.rest 0 4096=true)) 8 m) ?_ ?_
        ·simp (disch:=omega) only [go_sem,seval];refine (Yo t.drive 1 4096).use ?_;simp (disch:=omega) only [go_sem,seval];refine gF ?_ ?_<;>intro h0<;>simp (disch:=omega) only [Sh.out h0,go_sem,seval]
         ·simp only [Bool.not_eq_true'] at h0;exact ⟨m++ [16],hm.yes (by simp [h0]) trivial,Weak.mk (by simp (disch:=omega) only [Zz,Xl,go_sem,seval])⟩
         ·simp only [Bool.not_eq_false'] at h0;refine (Yo t.rest 0 4096).use ?_;simp (disch:=omega) only [go_sem,seval];refine cD ?_ ?_<;>intro h1<;>simp (disch:=omega) only [Sh.out h1,go_sem,seval]
          ·simp only [Bool.not_eq_true'] at h1;exact ⟨m++ [16],hm.yes (by simp [h1]) trivial,Weak.mk (by simp (disch:=omega) only [Zz,Xl,go_sem,seval])⟩
          ·simp only [Bool.not_eq_false'] at h1;exact ⟨m,hm.no (by simp [h0,h1]),Weak.mk (by simp (disch:=omega) only [Zz,Xl,go_sem,seval])⟩
        ·clear hm hml;intro m hm;refine Zc [19] _ _ _ _ ?_;simp (disch:=omega) only [Zz,Xl,go_sem,seval];have hml:=hm.len;refine Zo [] (fun m:List Int=> [(8,.sl 2 0 m.length m.length)]) (fun m=>Zz n++ [Xl t,.elems 1 (m.map eI)]) (fun m=>FR (fun _=>True) (((((((((nameOk t.name=true)/\(∀j,j<i->(nth l j).name≠t.name))/\rng t.count 0 10=true)/\(rng t.src 0 (n.places.length-1)=true/\rng t.dst 0 (n.places.length-1)=true))/\WE t.cap (dimsOf l)=true)/\rng t.skills 0 1073741823=true)/\(rng t.opn 0 t.cls=true/\t.cls<=4096))/\(rng t.drive 1 4096=true/\rng t.rest 0 4096=true))/\(rng t.prof 0 7=true/\rng t.fixed 0 100000=true/\rng t.perMile 0 100=true/\rng t.perTick 0 100=true)) 9 m) ?_ ?_
         ·simp (disch:=omega) only [go_sem,seval];refine (Yo t.prof 0 7).use ?_;simp (disch:=omega) only [go_sem,seval];refine gF ?_ ?_<;>intro h0<;>simp (disch:=omega) only [Sh.out h0,go_sem,seval]
          ·simp only [Bool.not_eq_true'] at h0;exact ⟨m++ [2],hm.yes (by simp [h0]) trivial,Weak.mk (by simp (disch:=omega) only [Zz,Xl,go_sem,seval])⟩
          ·simp only [Bool.not_eq_false'] at h0;refine (Yo t.fixed 0 100000).use ?_;simp (disch:=omega) only [go_sem,seval];refine gF ?_ ?_<;>intro h1<;>simp (disch:=omega) only [Sh.out h1,go_sem,seval]
           ·simp only [Bool.not_eq_true'] at h1;exact ⟨m++ [2],hm.yes (by simp [h1]) trivial,Weak.mk (by simp (disch:=omega) only [Zz,Xl,go_sem,seval])⟩
           ·simp only [Bool.not_eq_false'] at h1;refine (Yo t.perMile 0 100).use ?_;simp (disch:=omega) only [go_sem,seval];refine gF ?_ ?_<;>intro h2<;>simp (disch:=omega) only [Sh.out h2,go_sem,seval]
            ·simp only [Bool.not_eq_true'] at h2;exact ⟨m++ [2],hm.yes (by simp [h2]) trivial,Weak.mk (by simp (disch:=omega) only [Zz,Xl,go_sem,seval])⟩
            ·simp only [Bool.not_eq_false'] at h2;refine (Yo t.perTick 0 100).use ?_;simp (disch:=omega) only [go_sem,seval];refine cD ?_ ?_<;>intro h3<;>simp (disch:=omega) only [Sh.out h3,go_sem,seval]
             ·simp only [Bool.not_eq_true'] at h3;exact ⟨m++ [2],hm.yes (by simp [h3]) trivial,Weak.mk (by simp (disch:=omega) only [Zz,Xl,go_sem,seval])⟩
             ·simp only [Bool.not_eq_false'] at h3;exact ⟨m,hm.no (by simp [h0,h1,h2,h3]),Weak.mk (by simp (disch:=omega) only [Zz,Xl,go_sem,seval])⟩
         ·clear hm hml;intro m hm;refine Zc [] _ _ _ _ ?_;simp (disch:=omega) only [Zz,Xl,go_sem,seval];have hml:=hm.len;exact ⟨m,hm.to (by omega) (by rw [hty]),2,by simp (disch:=omega) only [Zz,Xl,go_sem,seval]⟩
def typesOk (n:Net) (l:List Typ):Prop:=rng l.length 1 6=true/\ ∀i,i<l.length->Jj n l i
theorem ZmC (n:Net) (l:List Typ) (c:Bool) (hw:n.wf 1048576) (hl:l.length<=1048576) (hlw: ∀t∈l,t.wf 1048576) :
  ACalls Tryz.prog 77 [.p (ZbU n),.p (.list c (l.map QE))] [] fun x H'=> ∃m:List Flt,FR (pF 20) (typesOk n l) (1+9*l.length) m/\x= .sl 0 0 m.length m.length/\H'= [.elems 2 (m.map eF)]:=by
 refine ZD [2] Tryz.func77 rfl ZvO ?_;simp (disch:=omega) only [Tryz.f77,go_sem,seval];refine Zn (Weak.ofNil 5 2 (by simp (disch:=omega) only [go_sem,seval]) (by simp) (Weak.refl _ _ _)) ?_;refine Zo [1,2] (fun m:List Flt=> [(5,.sl 1 0 m.length m.length)]) (fun m=>Zz n++ [.elems 2 (m.map eF)]) (fun m=>FR (pF 20) (rng l.length 1 6=true) 1 m) ?_ ?_
 ·simp (disch:=omega) only [go_sem,seval];refine (Yo l.length 1 6).use ?_;simp (disch:=omega) only [go_sem,seval];refine cD ?_ ?_<;>intro h<;>simp (disch:=omega) only [Sh.out h,go_sem,seval]
  ·simp only [Bool.not_eq_true'] at h;exact ⟨[(4,[])],⟨by simp,by simp [h],by simp [pF]⟩,Weak.mk (by simp (disch:=omega) only [Zz,go_sem,seval])⟩
  ·simp only [Bool.not_eq_false'] at h;exact ⟨[],FR.nil h,Weak.mk (by simp (disch:=omega) only [Zz,go_sem,seval])⟩
 ·intro m hm;refine Zc [] _ _ _ _ ?_;simp (disch:=omega) only [Zz,go_sem,seval];refine Zf [1,2] (fun q:Nat×List Flt=> [(5,.sl 1 0 q.2.length q.2.length),(6,.p (.int .i64 q.1))]) (fun q=>Zz n++ [.elems 2 (q.2.map eF)]) (fun q=>q.1<=l.length/\FR (pF 20) (rng l.length 1 6=true/\ ∀j,j<q.1->Jj n l j) (1+9*q.1) q.2) (fun q=>l.length-q.1) (0,m) ⟨by simp,hm.to (by simp) (by simp)⟩ (Weak.mk ?_) ?_
  ·simp (disch:=omega) only [Zz,go_sem,seval]
  ·clear hm;rintro ⟨k,m⟩ ⟨hk,hm⟩;simp only at hk hm;have hml:=hm.len;simp (disch:=omega) only [Zz,go_sem,seval];refine cD ?_ ?_<;>intro h<;>simp (disch:=omega) only [Sh.out h,go_sem,seval]
   ·have hk2:k<l.length:=by omega
    have hI:I64 (k:Int):=by omega
    have hdl:=Wn k hI;refine ((ZeG n l c k hk2 hl hw (hlw _ (Zl hk2))).frozenE).useV fun e he=> ?_;simp (disch:=omega) only [go_sem,seval];have hel:=he.len;refine Zf [1,2,6,7] (fun q:Nat×List Flt=> [(5,.sl 1 0 q.2.length q.2.length),(8,.p (.int .i64 q.1))]) (fun q=>Zz n++ [.elems 2 (q.2.map eF)]) (fun q=>q.1<=e.length/\FR (pF 20) ((rng l.length 1 6=true/\ ∀j,j<k->Jj n l j)/\q.1=0) (1+9*k+q.1) q.2) (fun q=>e.length-q.1) (0,m) ⟨by simp,hm.to (by simp) (by simp)⟩ (Weak.mk ?_) ?_
    ·simp (disch:=omega) only [Zz,go_sem,seval]
    ·clear hm hml;rintro ⟨j,m⟩ ⟨hj,hm⟩;simp only at hj hm;have hml:=hm.len;simp (disch:=omega) only [Zz,go_sem,seval];refine cD ?_ ?_<;>intro h2<;>simp (disch:=omega) only [Sh.out h2,go_sem,seval]
     ·have hj2:j<e.length:=by omega
      refine Zx 9 Zm (by kernel_rfl) (by kernel_rfl) ?_;simp (disch:=omega) only [go_sem,seval];refine Zs (VN k hI) ?_;simp (disch:=omega) only [go_sem,seval];exact ⟨(j+1,m++ [(nth e j,Zai k)]),⟨by simp only;omega,(hm.yes (c:=False) (by simp) (by simpa [pF] using hdl)).to (by simp only;omega) (by simp)⟩,by simp only;omega,Weak.mk (by simp (disch:=omega) only [Zz,go_sem,seval])⟩
     ·have hjl:j=e.length:=by omega
      subst hjl;exact ⟨(k+1,m),⟨by simp only;omega,hm.to (by simp only;omega) (by simp only [Zg,and_assoc];rw [<- he.emp,List.eq_nil_iff_length_eq_zero])⟩,by simp only;omega,Weak.mk (by simp (disch:=omega) only [Zz,go_sem,seval])⟩
   ·have hkn:k=l.length:=by omega
    subst hkn;exact ⟨m,hm.to (by omega) (by rw [typesOk]),1,by simp (disch:=omega) only [Zz,go_sem,seval]⟩
theorem Zaa (n lo hi:Int):PC 176 [.p (.int .i64 n),.p (.int .i64 lo),.p (.int .i64 hi)] (.bool (rng n lo hi)):=by
 refine Zb Tryz.func176 rfl Zqs ?_;simp (disch:=omega) only [Tryz.f176,go_sem,seval];refine gT ?_ ?_<;>intro h<;>simp (disch:=omega) only [Sh.out h,go_sem,seval]
 all_goals (simp [rng];first | done | omega | (rw [Bool.eq_iff_iff];simp;omega))
def loadOk (l:List Int) (d:Int):Bool:=decide ((l.length:Int)=d)&&l.all fun n=>rng n 0 1000
theorem Ze9 (l:List Int) (c:Bool) (d:Int) (hl:l.length<=1048576):PC 175 [.p (.list c (l.map eI)),.p (.int .i64 d)] (.bool (loadOk l d)):=by
 refine Zb Tryz.func175 rfl Zmy ?_;simp (disch:=omega) only [Tryz.f175,go_sem,seval];refine cD ?_ ?_<;>intro h2<;>simp (disch:=omega) only [Sh.out h2,go_sem,seval]
 ·simp [loadOk,h2]
 ·simp only [Classical.not_not] at h2;subst h2;refine Zf [0] (fun k:Nat=> [(5,.p (.int .i64 k))]) (fun _=> []) (fun k=>k<=l.length/\ ∀j,j<k->rng (nth l j) 0 1000=true) (fun k=>l.length-k) 0 (by simp) (Weak.mk ?_) ?_
  ·simp (disch:=omega) only [go_sem,seval]
  ·rintro k ⟨hk,hno⟩;simp (disch:=omega) only [go_sem,seval];refine cD ?_ ?_<;>intro h3<;>simp (disch:=omega) only [Sh.out h3,go_sem,seval]
   ·have hk2:k<l.length:=by omega
    have hbad:rng (nth l k) 0 1000=false->loadOk l l.length=false:=fun h4=>by
     have:l.all (fun n=>rng n 0 1000)=false:=by
      rw [List.all_eq_false];exact ⟨nth l k,Zl hk2,by rw [h4];simp⟩
     simp [loadOk,this]
    repeat' (first | (refine ZU (fun hq=> ?_) (fun hq=> ?_)<;>(try simp only [decide_eq_true_eq,decide_eq_false_iff_not,Classical.not_not] at hq)<;>simp (disch:=omega) only [Sh.out hq,go_sem,seval]) | (refine ZS (fun hq=> ?_) (fun hq=> ?_)<;>(try simp only [decide_eq_true_eq,decide_eq_false_iff_not,Classical.not_not] at hq)<;>simp (disch:=omega) only [Sh.out hq,go_sem,seval]) | (refine Xd (fun hq=> ?_) (fun hq=> ?_)<;>(try simp only [decide_eq_true_eq,decide_eq_false_iff_not,Classical.not_not] at hq)<;>simp (disch:=omega) only [Sh.out hq,go_sem,seval]))
    all_goals first
     | (rw [hbad (by simp [rng];omega)])
     | exact ⟨k+1,⟨by omega,Zg.2 ⟨hno,by simp [rng];omega⟩⟩,by omega,wk⟩
   ·have:l.all (fun n=>rng n 0 1000)=true:=by
     rw [List.all_eq_true];intro x hx;obtain ⟨j,hj,rfl⟩:=List.mem_iff_getElem.1 hx;rw [<- Ze hj];exact hno j (by omega)
    simp [loadOk,this]
def stpOk (s:Stp):Bool:=decide ((s.place= -1/\s.opn=0/\s.cls=0/\s.serv=0)\/(0<=s.place/\0<=s.opn/\s.opn<=s.cls/\s.cls<=4096/\0<=s.serv/\s.serv<=4096))
def ZlS (s:Stp):Int:=if stpOk s=true then 0 else 2
theorem Zjc (s:Stp):PC 177 [.p (Zil s)] (.int .i64 (ZlS s)):=by
 refine Zb Tryz.func177 rfl Zpx ?_;simp (disch:=omega) only [Tryz.f177,go_sem,seval]
 repeat' (first | (refine ZU (fun hq=> ?_) (fun hq=> ?_)<;>(try simp only [decide_eq_true_eq,decide_eq_false_iff_not,Classical.not_not] at hq)<;>simp (disch:=omega) only [Sh.out hq,go_sem,seval]) | (refine ZS (fun hq=> ?_) (fun hq=> ?_)<;>(try simp only [decide_eq_true_eq,decide_eq_false_iff_not,Classical.not_not] at hq)<;>simp (disch:=omega) only [Sh.out hq,go_sem,seval]) | (refine Xd (fun hq=> ?_) (fun hq=> ?_)<;>(try simp only [decide_eq_true_eq,decide_eq_false_iff_not,Classical.not_not] at hq)<;>simp (disch:=omega) only [Sh.out hq,go_sem,seval]))
 all_goals (simp only [ZlS,stpOk,decide_eq_true_eq])
 all_goals first
  | (exfalso;omega)
  | (rw [if_pos (by omega)])
  | (rw [if_neg (by omega)])
def Xy (l:List Ord) (i:Nat):Bool:=(List.range i).all fun j=>decide ((nth l j).name≠(nth l i).name)
theorem WM {l:List Ord} {i:Nat} :Xy l i=true↔ ∀j,j<i->(nth l j).name≠(nth l i).name:=by simp [Xy]
def sel (b:Bool) (e:Int):List Int:=if b=true then [] else [e]
theorem YP (b:Bool) (e:Int):(sel b e).length<=1:=by unfold sel;split<;>simp
theorem Wb {b:Bool} {e:Int} {m p:List Int} (h:m=p) (hb:b=true):m=p++sel b e:=by simp [sel,hb,h]
theorem YV {b:Bool} {e:Int} {m p:List Int} (h:m=p) (hb:b=false):m++ [e]=p++sel b e:=by simp [sel,hb,h]
def Ye (t:Ord):AM.Obj:= .cells [.p (.str t.name),.p (.list t.load_c (t.load.map eI)),.p (.int .i64 t.pick.place),.p (.int .i64 t.pick.opn),.p (.int .i64 t.pick.cls),.p (.int .i64 t.pick.serv),.p (.int .i64 t.drp.place),.p (.int .i64 t.drp.opn),.p (.int .i64 t.drp.cls),.p (.int .i64 t.drp.serv),.p (.int .i64 t.skills),.p (.int .i64 t.penalty),.p (.int .i64 t.split),.p (.int .i64 t.last),.p (.int .i64 t.now),.p (.bool t.off)]
def ZbG (t:Ord):Bool:=decide (t.pick.place≠ -1)&&decide (t.drp.place≠ -1)
def argOk (t:Ord) (ty:Int):Bool:=rng t.penalty (-1) 1000000&&rng t.split 1 4&&decide (¬(1<t.split/\ZbG t=true)/\ -1<=t.last/\t.last<ty/\ -1<=t.now/\t.now<ty)
def Xu (np:Nat) (d ty:Int) (l:List Ord) (i:Nat):List Int:=sel (nameOk (nth l i).name) 5++sel (Xy l i) 6++sel (loadOk (nth l i).load d) 17++sel ((rng (nth l i).pick.place (-1) ((np:Int)-1)&&rng (nth l i).drp.place (-1) ((np:Int)-1))) 11++sel (decide (¬((nth l i).pick.place= -1/\(nth l i).drp.place= -1))) 19++sel ((stpOk (nth l i).pick&&stpOk (nth l i).drp)) 14++sel (rng (nth l i).skills 0 1073741823) 18++sel (argOk (nth l i) ty) 2
theorem VX (np:Nat) (d ty:Int) (l:List Ord) (i:Nat):(Xu np d ty l i).length<=8:=by
 have h:=YP;simp only [Xu,List.length_append];have h1:=fun b=>h b 5;have h2:=fun b=>h b 6;have h3:=fun b=>h b 17;have h4:=fun b=>h b 11;have h5:=fun b=>h b 19;have h6:=fun b=>h b 14;have h7:=fun b=>h b 18;have h8:=fun b=>h b 2;have a1:=h1 (nameOk (nth l i).name);have a2:=h2 (Xy l i);have a3:=h3 (loadOk (nth l i).load d);have a4:=h4 (rng (nth l i).pick.place (-1) ((np:Int)-1)&&rng (nth l i).drp.place (-1) ((np:Int)-1));have a5:=h5 (decide (¬((nth l i).pick.place= -1/\(nth l i).drp.place= -1)));have a6:=h6 (stpOk (nth l i).pick&&stpOk (nth l i).drp)
 have a7:=h7 (rng (nth l i).skills 0 1073741823);have a8:=h8 (argOk (nth l i) ty);omega
theorem Zei (np:Nat) (d ty:Int) (l:List Ord) (c:Bool) (i:Nat) (hi:i<l.length) (hl:l.length<=1048576) (hnp:np<=1048576) (ht:(nth l i).wf 1048576) :
  ACalls Tryz.prog 120 [.p (.int .i64 (np:Nat)),.p (.int .i64 d),.p (.int .i64 ty),.p (.list c (l.map V5)),.p (.int .i64 (i:Nat))] [] fun x H'=>x= .sl 0 0 (Xu np d ty l i).length (Xu np d ty l i).length/\H'= [.elems 1 ((Xu np d ty l i).map eI)]:=by
 suffices hh:ACalls Tryz.prog 120 [.p (.int .i64 (np:Nat)),.p (.int .i64 d),.p (.int .i64 ty),.p (.list c (l.map V5)),.p (.int .i64 (i:Nat))] [] fun x H'=> ∃m:List Int,m=Xu np d ty l i/\x= .sl 0 0 m.length m.length/\H'= [.elems 1 (m.map eI)] by
  refine hh.mono ?_;rintro x H' ⟨m,rfl,h1,h2⟩;exact ⟨h1,h2⟩
 refine ZD [3] Tryz.func120 rfl ZnY ?_;simp (disch:=omega) only [Tryz.f120,go_sem,seval];have hty:Xu np d ty l i=sel (nameOk (nth l i).name) 5++sel (Xy l i) 6++sel (loadOk (nth l i).load d) 17++sel ((rng (nth l i).pick.place (-1) ((np:Int)-1)&&rng (nth l i).drp.place (-1) ((np:Int)-1))) 11++sel (decide (¬((nth l i).pick.place= -1/\(nth l i).drp.place= -1))) 19++sel ((stpOk (nth l i).pick&&stpOk (nth l i).drp)) 14++sel (rng (nth l i).skills 0 1073741823) 18++sel (argOk (nth l i) ty) 2:=rfl
 have hleng: ∀m:List Int,∀p:List Int,m=p->p.length<=8->m.length<=8:=fun m p h1 h2=>by rw [h1];exact h2
 generalize hga:nth l i=t at ht hty ⊢;have hname:=ht.1;have hload:=ht.2.1;refine Zn (Weak.ofNil 11 1 (by simp (disch:=omega) only [go_sem,seval]) (by simp) (Weak.refl _ _ _)) ?_;refine Zo [0,1,2,3,4,12] (fun m:List Int=> [(11,.sl 1 0 m.length m.length)]) (fun m=> [Ye t,.elems 1 (m.map eI)]) (fun m=>m=sel (nameOk t.name) 5) ?_ ?_
 ·simp (disch:=omega) only [go_sem,seval];refine (ZdH t.name hname).use ?_;simp (disch:=omega) only [go_sem,seval];refine cD ?_ ?_<;>intro h<;>simp (disch:=omega) only [Sh.out h,go_sem,seval]
  ·simp only [Bool.not_eq_true'] at h;exact ⟨[5],by simp [sel,h],Weak.mk (by simp (disch:=omega) only [Ye,go_sem,seval])⟩
  ·simp only [Bool.not_eq_false'] at h;exact ⟨[],by simp [sel,h],Weak.mk (by simp (disch:=omega) only [Ye,go_sem,seval])⟩
 ·skip
  intro m hm;refine Zc [5] _ _ _ _ ?_;simp (disch:=omega) only [Ye,go_sem,seval]
  have hml:m.length<=8:=by
   rw [hm]
   try simp only [List.length_append]
   have h:=YP;have a0:=h (nameOk t.name) 5;omega
  refine Zo [0,1,2,12] (fun m:List Int=> [(11,.sl 1 0 m.length m.length)]) (fun m=> [Ye t,.elems 1 (m.map eI)]) (fun m=>m=sel (nameOk t.name) 5++sel (Xy l i) 6) ?_ ?_
  ·simp (disch:=omega) only [go_sem,seval];refine Zf [0,1,2,3,4,11,12] (fun k:Nat=> [(13,.p (.int .i64 k))]) (fun _=> [Ye t,.elems 1 (m.map eI)]) (fun k=>k<=i/\ ∀j,j<k->(nth l j).name≠(nth l i).name) (fun k=>i-k) 0 (by simp) (Weak.mk ?_) ?_
   ·simp (disch:=omega) only [Ye,go_sem,seval]
   ·rintro k ⟨hk,hno⟩;simp (disch:=omega) only [Ye,go_sem,seval];refine cD ?_ ?_<;>intro h3<;>simp (disch:=omega) only [Sh.out h3,go_sem,seval]
    ·have hk2:k<l.length:=by omega
     refine Zh Zm (by kernel_rfl) (by kernel_rfl) ?_;simp (disch:=omega) only [go_sem,seval];refine cD ?_ ?_<;>intro h4<;>simp (disch:=omega) only [Sh.out h4,go_sem,seval]
     ·exact ⟨m++ [6],YV hm (by cases hq:Xy l i with | false=>rfl | true=>exact absurd (by rw [hga];exact h4) (WM.1 hq k (by omega))),Weak.mk (by simp (disch:=omega) only [Ye,go_sem,seval])⟩
     ·exact ⟨k+1,⟨by omega,Zg.2 ⟨hno,by rw [hga];exact h4⟩⟩,by omega,Weak.mk (by simp (disch:=omega) only [Ye,go_sem,seval])⟩
    ·have hki:k=i:=by omega
     subst hki;exact ⟨m,Wb hm (WM.2 hno),Weak.mk (by simp (disch:=omega) only [Ye,go_sem,seval])⟩
  ·clear hm hml;intro m hm;refine Zc [10] _ _ _ _ ?_;simp (disch:=omega) only [Ye,go_sem,seval]
   have hml:m.length<=8:=by
    rw [hm]
    try simp only [List.length_append]
    have h:=YP;have a0:=h (nameOk t.name) 5;have a1:=h (Xy l i) 6;omega
   refine Zo [0,2,12] (fun m:List Int=> [(11,.sl 1 0 m.length m.length)]) (fun m=> [Ye t,.elems 1 (m.map eI)]) (fun m=>m=sel (nameOk t.name) 5++sel (Xy l i) 6++sel (loadOk t.load d) 17) ?_ ?_
   ·simp (disch:=omega) only [go_sem,seval];refine (Ze9 t.load t.load_c d hload).use ?_;simp (disch:=omega) only [go_sem,seval];refine cD ?_ ?_<;>intro h<;>simp (disch:=omega) only [Sh.out h,go_sem,seval]
    ·simp only [Bool.not_eq_true'] at h;exact ⟨m++ [17],YV hm (h),Weak.mk (by simp (disch:=omega) only [Ye,go_sem,seval])⟩
    ·simp only [Bool.not_eq_false'] at h;exact ⟨m,Wb hm (h),Weak.mk (by simp (disch:=omega) only [Ye,go_sem,seval])⟩
   ·clear hm hml;intro m hm;refine Zc [12] _ _ _ _ ?_;simp (disch:=omega) only [Ye,go_sem,seval]
    have hml:m.length<=8:=by
     rw [hm]
     try simp only [List.length_append]
     have h:=YP;have a0:=h (nameOk t.name) 5;have a1:=h (Xy l i) 6;have a2:=h (loadOk t.load d) 17;omega
    refine Zo [2,12] (fun m:List Int=> [(11,.sl 1 0 m.length m.length)]) (fun m=> [Ye t,.elems 1 (m.map eI)]) (fun m=>m=sel (nameOk t.name) 5++sel (Xy l i) 6++sel (loadOk t.load d) 17++sel ((rng t.pick.place (-1) ((np:Int)-1)&&rng t.drp.place (-1) ((np:Int)-1))) 11) ?_ ?_
    ·simp (disch:=omega) only [go_sem,seval];refine (Zaa t.pick.place (-1) ((np:Int)-1)).use ?_;simp (disch:=omega) only [go_sem,seval];refine gF ?_ ?_<;>intro h<;>simp (disch:=omega) only [Sh.out h,go_sem,seval]
     ·simp only [Bool.not_eq_true'] at h;exact ⟨m++ [11],YV hm (by simp [h]),Weak.mk (by simp (disch:=omega) only [Ye,go_sem,seval])⟩
     ·simp only [Bool.not_eq_false'] at h;refine (Zaa t.drp.place (-1) ((np:Int)-1)).use ?_;simp (disch:=omega) only [go_sem,seval];refine cD ?_ ?_<;>intro h2<;>simp (disch:=omega) only [Sh.out h2,go_sem,seval]
      ·simp only [Bool.not_eq_true'] at h2;exact ⟨m++ [11],YV hm (by simp [h2]),Weak.mk (by simp (disch:=omega) only [Ye,go_sem,seval])⟩
      ·simp only [Bool.not_eq_false'] at h2;exact ⟨m,Wb hm (by simp [h,h2]),Weak.mk (by simp (disch:=omega) only [Ye,go_sem,seval])⟩
    ·clear hm hml;intro m hm;refine Zc [14] _ _ _ _ ?_;simp (disch:=omega) only [Ye,go_sem,seval]
     have hml:m.length<=8:=by
      rw [hm]
      try simp only [List.length_append]
      have h:=YP;have a0:=h (nameOk t.name) 5;have a1:=h (Xy l i) 6;have a2:=h (loadOk t.load d) 17;have a3:=h ((rng t.pick.place (-1) ((np:Int)-1)&&rng t.drp.place (-1) ((np:Int)-1))) 11;omega
     refine Zo [2,12] (fun m:List Int=> [(11,.sl 1 0 m.length m.length)]) (fun m=> [Ye t,.elems 1 (m.map eI)]) (fun m=>m=sel (nameOk t.name) 5++sel (Xy l i) 6++sel (loadOk t.load d) 17++sel ((rng t.pick.place (-1) ((np:Int)-1)&&rng t.drp.place (-1) ((np:Int)-1))) 11++sel (decide (¬(t.pick.place= -1/\t.drp.place= -1))) 19) ?_ ?_
     ·simp (disch:=omega) only [go_sem,seval]
      repeat' (first | (refine ZU (fun hq=> ?_) (fun hq=> ?_)<;>(try simp only [decide_eq_true_eq,decide_eq_false_iff_not,Classical.not_not] at hq)<;>simp (disch:=omega) only [Sh.out hq,go_sem,seval]) | (refine ZS (fun hq=> ?_) (fun hq=> ?_)<;>(try simp only [decide_eq_true_eq,decide_eq_false_iff_not,Classical.not_not] at hq)<;>simp (disch:=omega) only [Sh.out hq,go_sem,seval]) | (refine Xd (fun hq=> ?_) (fun hq=> ?_)<;>(try simp only [decide_eq_true_eq,decide_eq_false_iff_not,Classical.not_not] at hq)<;>simp (disch:=omega) only [Sh.out hq,go_sem,seval]))
      all_goals first
       | exact ⟨m++ [19],YV hm (by first | (simp;done) | (simp;omega)),Weak.mk (by simp (disch:=omega) only [Ye,go_sem,seval])⟩
       | exact ⟨m,Wb hm (by first | (simp;done) | (simp;omega)),Weak.mk (by simp (disch:=omega) only [Ye,go_sem,seval])⟩
     ·clear hm hml;intro m hm;refine Zc [16] _ _ _ _ ?_;simp (disch:=omega) only [Ye,go_sem,seval]
      have hml:m.length<=8:=by
       rw [hm]
       try simp only [List.length_append]
       have h:=YP;have a0:=h (nameOk t.name) 5;have a1:=h (Xy l i) 6;have a2:=h (loadOk t.load d) 17;have a3:=h ((rng t.pick.place (-1) ((np:Int)-1)&&rng t.drp.place (-1) ((np:Int)-1))) 11;have a4:=h (decide (¬(t.pick.place= -1/\t.drp.place= -1))) 19;omega
      refine Zo [2,12] (fun m:List Int=> [(11,.sl 1 0 m.length m.length)]) (fun m=> [Ye t,.elems 1 (m.map eI)]) (fun m=>m=sel (nameOk t.name) 5++sel (Xy l i) 6++sel (loadOk t.load d) 17++sel ((rng t.pick.place (-1) ((np:Int)-1)&&rng t.drp.place (-1) ((np:Int)-1))) 11++sel (decide (¬(t.pick.place= -1/\t.drp.place= -1))) 19++sel ((stpOk t.pick&&stpOk t.drp)) 14) ?_ ?_
      ·simp (disch:=omega) only [go_sem,seval];refine (Zjc t.pick).use ?_;simp (disch:=omega) only [go_sem,seval]
       cases h:stpOk t.pick with
       | false =>
        simp (disch:=omega) only [ZlS,h,go_sem,seval];exact ⟨m++ [14],YV hm (by simp [h]),Weak.mk (by simp (disch:=omega) only [Ye,go_sem,seval])⟩
       | true =>
        simp (disch:=omega) only [ZlS,h,go_sem,seval];refine (Zjc t.drp).use ?_;simp (disch:=omega) only [go_sem,seval]
        cases h2:stpOk t.drp with
        | false =>
         simp (disch:=omega) only [ZlS,h2,go_sem,seval];exact ⟨m++ [14],YV hm (by simp [h2]),Weak.mk (by simp (disch:=omega) only [Ye,go_sem,seval])⟩
        | true =>
         simp (disch:=omega) only [ZlS,h2,go_sem,seval];exact ⟨m,Wb hm (by simp [h,h2]),Weak.mk (by simp (disch:=omega) only [Ye,go_sem,seval])⟩
      ·clear hm hml;intro m hm;refine Zc [18] _ _ _ _ ?_;simp (disch:=omega) only [Ye,go_sem,seval]
       have hml:m.length<=8:=by
        rw [hm]
        try simp only [List.length_append]
        have h:=YP;have a0:=h (nameOk t.name) 5;have a1:=h (Xy l i) 6;have a2:=h (loadOk t.load d) 17;have a3:=h ((rng t.pick.place (-1) ((np:Int)-1)&&rng t.drp.place (-1) ((np:Int)-1))) 11;have a4:=h (decide (¬(t.pick.place= -1/\t.drp.place= -1))) 19;have a5:=h ((stpOk t.pick&&stpOk t.drp)) 14;omega
       refine Zo [2,12] (fun m:List Int=> [(11,.sl 1 0 m.length m.length)]) (fun m=> [Ye t,.elems 1 (m.map eI)]) (fun m=>m=sel (nameOk t.name) 5++sel (Xy l i) 6++sel (loadOk t.load d) 17++sel ((rng t.pick.place (-1) ((np:Int)-1)&&rng t.drp.place (-1) ((np:Int)-1))) 11++sel (decide (¬(t.pick.place= -1/\t.drp.place= -1))) 19++sel ((stpOk t.pick&&stpOk t.drp)) 14++sel (rng t.skills 0 1073741823) 18) ?_ ?_
       ·simp (disch:=omega) only [go_sem,seval];refine (Zaa t.skills 0 1073741823).use ?_;simp (disch:=omega) only [go_sem,seval];refine cD ?_ ?_<;>intro h<;>simp (disch:=omega) only [Sh.out h,go_sem,seval]
        ·simp only [Bool.not_eq_true'] at h;exact ⟨m++ [18],YV hm (h),Weak.mk (by simp (disch:=omega) only [Ye,go_sem,seval])⟩
        ·simp only [Bool.not_eq_false'] at h;exact ⟨m,Wb hm (h),Weak.mk (by simp (disch:=omega) only [Ye,go_sem,seval])⟩
       ·clear hm hml;intro m hm;refine Zc [20] _ _ _ _ ?_;simp (disch:=omega) only [Ye,go_sem,seval]
        have hml:m.length<=8:=by
         rw [hm]
         try simp only [List.length_append]
         have h:=YP;have a0:=h (nameOk t.name) 5;have a1:=h (Xy l i) 6;have a2:=h (loadOk t.load d) 17;have a3:=h ((rng t.pick.place (-1) ((np:Int)-1)&&rng t.drp.place (-1) ((np:Int)-1))) 11;have a4:=h (decide (¬(t.pick.place= -1/\t.drp.place= -1))) 19;have a5:=h ((stpOk t.pick&&stpOk t.drp)) 14;have a6:=h (rng t.skills 0 1073741823) 18;omega
        refine Zo [2,11,12] (fun b:Bool=> [(14,.p (.bool b))]) (fun _=> [Ye t,.elems 1 (m.map eI)]) (fun b=>b=ZbG t) ?_ ?_
        ·simp (disch:=omega) only [go_sem,seval]
         repeat' (first | (refine ZU (fun hq=> ?_) (fun hq=> ?_)<;>(try simp only [decide_eq_true_eq,decide_eq_false_iff_not,Classical.not_not] at hq)<;>simp (disch:=omega) only [Sh.out hq,go_sem,seval]) | (refine ZS (fun hq=> ?_) (fun hq=> ?_)<;>(try simp only [decide_eq_true_eq,decide_eq_false_iff_not,Classical.not_not] at hq)<;>simp (disch:=omega) only [Sh.out hq,go_sem,seval]) | (refine Xd (fun hq=> ?_) (fun hq=> ?_)<;>(try simp only [decide_eq_true_eq,decide_eq_false_iff_not,Classical.not_not] at hq)<;>simp (disch:=omega) only [Sh.out hq,go_sem,seval]))
         all_goals refine ⟨ZbG t,rfl,Weak.mk ?_⟩
         all_goals (simp (disch:=omega) only [Ye,go_sem,seval];simp [ZbG, *])
        ·rintro b hb;refine Zc [21] _ _ _ _ ?_;simp (disch:=omega) only [Ye,go_sem,seval];refine Zo [] (fun m:List Int=> [(11,.sl 1 0 m.length m.length)]) (fun m=> [Ye t,.elems 1 (m.map eI)]) (fun m=>m=sel (nameOk t.name) 5++sel (Xy l i) 6++sel (loadOk t.load d) 17++sel ((rng t.pick.place (-1) ((np:Int)-1)&&rng t.drp.place (-1) ((np:Int)-1))) 11++sel (decide (¬(t.pick.place= -1/\t.drp.place= -1))) 19++sel ((stpOk t.pick&&stpOk t.drp)) 14++sel (rng t.skills 0 1073741823) 18++sel (argOk t ty) 2) ?_ ?_
         ·simp (disch:=omega) only [go_sem,seval];refine (Zaa t.penalty (-1) 1000000).use ?_;simp (disch:=omega) only [go_sem,seval];refine gF ?_ ?_<;>intro h<;>simp (disch:=omega) only [Sh.out h,go_sem,seval]
          ·simp only [Bool.not_eq_true'] at h;exact ⟨m++ [2],YV hm (by simp [argOk,h]),Weak.mk (by simp (disch:=omega) only [Ye,go_sem,seval])⟩
          ·simp only [Bool.not_eq_false'] at h;refine (Zaa t.split 1 4).use ?_;simp (disch:=omega) only [go_sem,seval];refine gF ?_ ?_<;>intro h2<;>simp (disch:=omega) only [Sh.out h2,go_sem,seval]
           ·simp only [Bool.not_eq_true'] at h2;exact ⟨m++ [2],YV hm (by simp [argOk,h2]),Weak.mk (by simp (disch:=omega) only [Ye,go_sem,seval])⟩
           ·simp only [Bool.not_eq_false'] at h2
            cases b with
            | true =>
             repeat' (first | (refine ZU (fun hq=> ?_) (fun hq=> ?_)<;>(try simp only [decide_eq_true_eq,decide_eq_false_iff_not,Classical.not_not] at hq)<;>simp (disch:=omega) only [Sh.out hq,go_sem,seval]) | (refine ZS (fun hq=> ?_) (fun hq=> ?_)<;>(try simp only [decide_eq_true_eq,decide_eq_false_iff_not,Classical.not_not] at hq)<;>simp (disch:=omega) only [Sh.out hq,go_sem,seval]) | (refine Xd (fun hq=> ?_) (fun hq=> ?_)<;>(try simp only [decide_eq_true_eq,decide_eq_false_iff_not,Classical.not_not] at hq)<;>simp (disch:=omega) only [Sh.out hq,go_sem,seval]))
             all_goals first
              | exact ⟨m++ [2],YV hm (by rw [argOk,<- hb];first | (simp;done) | (simp;omega)),Weak.mk (by simp (disch:=omega) only [Ye,go_sem,seval])⟩
              | exact ⟨m,Wb hm (by rw [argOk,<- hb,h,h2];first | (simp;done) | (simp;omega)),Weak.mk (by simp (disch:=omega) only [Ye,go_sem,seval])⟩
            | false =>
             repeat' (first | (refine ZU (fun hq=> ?_) (fun hq=> ?_)<;>(try simp only [decide_eq_true_eq,decide_eq_false_iff_not,Classical.not_not] at hq)<;>simp (disch:=omega) only [Sh.out hq,go_sem,seval]) | (refine ZS (fun hq=> ?_) (fun hq=> ?_)<;>(try simp only [decide_eq_true_eq,decide_eq_false_iff_not,Classical.not_not] at hq)<;>simp (disch:=omega) only [Sh.out hq,go_sem,seval]) | (refine Xd (fun hq=> ?_) (fun hq=> ?_)<;>(try simp only [decide_eq_true_eq,decide_eq_false_iff_not,Classical.not_not] at hq)<;>simp (disch:=omega) only [Sh.out hq,go_sem,seval]))
             all_goals first
              | exact ⟨m++ [2],YV hm (by rw [argOk,<- hb];first | (simp;done) | (simp;omega)),Weak.mk (by simp (disch:=omega) only [Ye,go_sem,seval])⟩
              | exact ⟨m,Wb hm (by rw [argOk,<- hb,h,h2];first | (simp;done) | (simp;omega)),Weak.mk (by simp (disch:=omega) only [Ye,go_sem,seval])⟩
         ·clear hm hml;intro m hm;refine Zc [] _ _ _ _ ?_;simp (disch:=omega) only [Ye,go_sem,seval]
          have hml:m.length<=8:=by
           rw [hm]
           try simp only [List.length_append]
           have h:=YP;have a0:=h (nameOk t.name) 5;have a1:=h (Xy l i) 6;have a2:=h (loadOk t.load d) 17;have a3:=h ((rng t.pick.place (-1) ((np:Int)-1)&&rng t.drp.place (-1) ((np:Int)-1))) 11;have a4:=h (decide (¬(t.pick.place= -1/\t.drp.place= -1))) 19;have a5:=h ((stpOk t.pick&&stpOk t.drp)) 14;have a6:=h (rng t.skills 0 1073741823) 18;have a7:=h (argOk t ty) 2;omega
          exact ⟨m,by rw [hm,hty],1,by simp (disch:=omega) only [Ye,go_sem,seval]⟩
def Z7 (np:Nat) (d ty:Int) (l:List Ord) (k:Nat):List Flt:=(if l.length<=10 then [] else [(4,[])])++(List.range k).flatMap fun i=>(Xu np d ty l i).map fun e=>(e,Zai i)
theorem VY (np:Nat) (d ty:Int) (l:List Ord) (k:Nat):Z7 np d ty l (k+1)=Z7 np d ty l k++(Xu np d ty l k).map fun e=>(e,Zai k):=by
 simp [Z7,List.range_succ]
theorem YQ (np:Nat) (d ty:Int) (l:List Ord): ∀k,(Z7 np d ty l k).length<=1+8*k
 | 0=>by simp [Z7];split<;>simp
 | k+1=>by
  have h1:=YQ np d ty l k;have h2:=VX np d ty l k;rw [VY];simp;omega
theorem Zro (n:Net) (d ty:Int) (l:List Ord) (c:Bool) (hw:n.wf 1048576) (hl:l.length<=1048576) (hlw: ∀t∈l,t.wf 1048576) :
  ACalls Tryz.prog 78 [.p (ZbU n),.p (.int .i64 d),.p (.int .i64 ty),.p (.list c (l.map V5))] [] fun x H'=>x= .sl 0 0 (Z7 n.places.length d ty l l.length).length (Z7 n.places.length d ty l l.length).length/\H'= [.elems 2 ((Z7 n.places.length d ty l l.length).map eF)]:=by
 obtain ⟨w1,w2,w3,w4⟩:=hw
 suffices hh:ACalls Tryz.prog 78 [.p (ZbU n),.p (.int .i64 d),.p (.int .i64 ty),.p (.list c (l.map V5))] [] fun x H'=> ∃m:List Flt,m=Z7 n.places.length d ty l l.length/\x= .sl 0 0 m.length m.length/\H'= [.elems 2 (m.map eF)] by
  refine hh.mono ?_;rintro x H' ⟨m,rfl,h1,h2⟩;exact ⟨h1,h2⟩
 refine ZD [2] Tryz.func78 rfl Zui ?_;simp (disch:=omega) only [Tryz.f78,go_sem,seval];refine Zn (Weak.ofNil 9 2 (by simp (disch:=omega) only [go_sem,seval]) (by simp) (Weak.refl _ _ _)) ?_;refine Zo [1,2,3,4] (fun m:List Flt=> [(9,.sl 1 0 m.length m.length)]) (fun m=>Zz n++ [.elems 2 (m.map eF)]) (fun m=>m=Z7 n.places.length d ty l 0) ?_ ?_
 ·simp (disch:=omega) only [go_sem,seval];refine cD ?_ ?_<;>intro h<;>simp (disch:=omega) only [Sh.out h,go_sem,seval]
  ·exact ⟨[(4,[])],by rw [Z7,if_neg (by omega)];rfl,Weak.mk (by simp (disch:=omega) only [Zz,go_sem,seval])⟩
  ·exact ⟨[],by rw [Z7,if_pos (by omega)];rfl,Weak.mk (by simp (disch:=omega) only [Zz,go_sem,seval])⟩
 ·intro m hm;refine Zc [] _ _ _ _ ?_;simp (disch:=omega) only [Zz,go_sem,seval];refine Zf [1,2,3,4] (fun q:Nat×List Flt=> [(9,.sl 1 0 q.2.length q.2.length),(10,.p (.int .i64 q.1))]) (fun q=>Zz n++ [.elems 2 (q.2.map eF)]) (fun q=>q.1<=l.length/\q.2=Z7 n.places.length d ty l q.1) (fun q=>l.length-q.1) (0,m) ⟨by simp,hm⟩ (Weak.mk ?_) ?_
  ·simp (disch:=omega) only [Zz,go_sem,seval]
  ·clear hm;rintro ⟨k,m⟩ ⟨hk,hm⟩;simp only at hk hm;have hml:=YQ n.places.length d ty l k;rw [<- hm] at hml;simp (disch:=omega) only [Zz,go_sem,seval];refine cD ?_ ?_<;>intro h<;>simp (disch:=omega) only [Sh.out h,go_sem,seval]
   ·have hk2:k<l.length:=by omega
    have hI:I64 (k:Int):=by omega
    have hrl:=VX n.places.length d ty l k;refine ((Zei n.places.length d ty l c k hk2 hl w1 (hlw _ (Zl hk2))).frozen (by simp)).use ?_;simp (disch:=omega) only [go_sem,seval];generalize hre:Xu n.places.length d ty l k=e at hrl ⊢;refine Zf [1,2,3,4,10,11] (fun q:Nat×List Flt=> [(9,.sl 1 0 q.2.length q.2.length),(12,.p (.int .i64 q.1))]) (fun q=>Zz n++ [.elems 2 (q.2.map eF)]) (fun q=>q.1<=e.length/\q.2=Z7 n.places.length d ty l k++(e.take q.1).map fun e=>(e,Zai k)) (fun q=>e.length-q.1) (0,m) ⟨by simp,by simp [hm]⟩ (Weak.mk ?_) ?_
    ·simp (disch:=omega) only [Zz,go_sem,seval]
    ·clear hm hml;rintro ⟨j,m⟩ ⟨hj,hm⟩;simp only at hj hm;have hml:=YQ n.places.length d ty l k
     have hml2:m.length<=1+8*k+8:=by rw [hm];simp;omega
     simp (disch:=omega) only [Zz,go_sem,seval];refine cD ?_ ?_<;>intro h2<;>simp (disch:=omega) only [Sh.out h2,go_sem,seval]
     ·have hj2:j<e.length:=by omega
      refine Zx 9 Zm (by kernel_rfl) (by kernel_rfl) ?_;simp (disch:=omega) only [go_sem,seval];refine Zs (VN k hI) ?_;simp (disch:=omega) only [go_sem,seval];refine ⟨(j+1,m++ [(nth e j,Zai k)]),⟨by simp only;omega,?_⟩,by simp only;omega,Weak.mk (by simp (disch:=omega) only [Zz,go_sem,seval])⟩;simp only [hm,List.append_assoc];rw [List.take_succ_eq_append_getElem hj2,List.map_append,Ze hj2]
      rfl
     ·have hjl:j=e.length:=by omega
      subst hjl;refine ⟨(k+1,m),⟨by simp only;omega,?_⟩,by simp only;omega,Weak.mk (by simp (disch:=omega) only [Zz,go_sem,seval])⟩;simp only [hm,VY,hre,List.take_length]
   ·have hkn:k=l.length:=by omega
    subst hkn;exact ⟨m,hm,1,by simp (disch:=omega) only [Zz,go_sem,seval]⟩
structure OrdOk (np:Nat) (d ty:Int) (l:List Ord) (i:Nat):Prop where
 name:nameOk (nth l i).name=true
 twin: ∀j,j<i->(nth l j).name≠(nth l i).name
 load:loadOk (nth l i).load d=true
 pick: -1<=(nth l i).pick.place/\(nth l i).pick.place<np
 drp: -1<=(nth l i).drp.place/\(nth l i).drp.place<np
 one: ¬((nth l i).pick.place= -1/\(nth l i).drp.place= -1)
 pstp:stpOk (nth l i).pick=true
 dstp:stpOk (nth l i).drp=true
 skills:0<=(nth l i).skills/\(nth l i).skills<=1073741823
 arg:argOk (nth l i) ty=true
theorem ZkS {b:Bool} {e:Int} :sel b e= []↔b=true:=by unfold sel;split<;>simp_all
theorem Kv {np:Nat} {d ty:Int} {l:List Ord} {i:Nat} :Xu np d ty l i= []↔OrdOk np d ty l i:=by
 simp only [Xu,List.append_eq_nil_iff,ZkS,Bool.and_eq_true,decide_eq_true_eq,rng,WM]
 constructor
 ·rintro ⟨⟨⟨⟨⟨⟨⟨a1,a2⟩,a3⟩,a4⟩,a5⟩,a6⟩,a7⟩,a8⟩;exact ⟨a1,a2,a3,by omega,by omega,a5,a6.1,a6.2,a7,a8⟩
 ·intro h;obtain ⟨b1,b2⟩:=h.pick;obtain ⟨b3,b4⟩:=h.drp;exact ⟨⟨⟨⟨⟨⟨⟨h.name,h.twin⟩,h.load⟩,by omega,by omega⟩,h.one⟩,h.pstp,h.dstp⟩,h.skills⟩,h.arg⟩
def ordersOk (np:Nat) (d ty:Int) (l:List Ord):Prop:=l.length<=10/\ ∀i,i<l.length->OrdOk np d ty l i
theorem Zax {np:Nat} {d ty:Int} {l:List Ord} :Z7 np d ty l l.length= []↔ordersOk np d ty l:=by
 simp only [Z7,List.append_eq_nil_iff,List.flatMap_eq_nil_iff,List.mem_range,List.map_eq_nil_iff,Kv,ordersOk];refine and_congr ?_ Iff.rfl
 split<;>simp_all
theorem Zcx {np:Nat} {d ty:Int} {l:List Ord} (hl:l.length<=1048576): ∀f∈Z7 np d ty l l.length,pF 20 f:=by
 intro f hf;simp only [Z7,List.mem_append,List.mem_flatMap,List.mem_range,List.mem_map] at hf;rcases hf with hf | ⟨i,hi,e,he,rfl⟩
 ·split at hf<;>simp at hf
  subst hf;simp [pF]
 ·exact Wn i (by omega)
theorem ZcR (n:Int) (h0:0<=n) (hn:n<=4611686018427387904):PC 178 [.p (.int .i64 n)] (.str (dec n.toNat)):=by
 refine Zb Tryz.func178 rfl ZqM ?_;simp (disch:=omega) only [Tryz.f178,go_sem,seval];refine Zf [] (fun q:Int×List UInt8=> [(0,.p (.int .i64 q.1)),(3,.p (.str q.2))]) (fun _=> []) (fun q=>0<=q.1/\q.1<=n/\dec q.1.toNat++q.2=dec n.toNat) (fun q=>q.1.toNat) (n,[]) (by simp [h0]) (Weak.mk ?_) ?_
 ·simp (disch:=omega) only [go_sem,seval]
 ·rintro ⟨m,s⟩ ⟨hm,hmn,hs⟩;simp only at hm hmn hs;have hl:=Ze2 _ n.toNat (Nat.lt_succ_self _)
  have hl2:(dec m.toNat).length+s.length=(dec n.toNat).length:=by rw [<- hs];simp
  simp (disch:=first | omega | (simp only [List.length_cons,List.length_nil,List.length_append,List.length_map,List.length_take,List.length_drop]<;>omega)) only [go_sem,seval];refine cD ?_ ?_<;>intro h<;>simp (disch:=omega) only [Sh.out h,go_sem,seval]
  ·simp (disch:=first | omega | (simp only [List.length_cons,List.length_nil,List.length_append,List.length_map,List.length_take,List.length_drop]<;>omega)) only [go_sem,seval]
   have h2: ¬m.toNat<10:=by omega
   have e1:(48+m%10).toNat=48+m.toNat%10:=by omega
   have e2:(m / 10).toNat=m.toNat / 10:=by omega
   refine ⟨(m / 10,UInt8.ofNat (48+m%10).toNat::s),⟨by simp only;omega,by simp only;omega,?_⟩,by simp only;omega,Weak.mk ?_⟩
   ·simp only [e1,e2];rw [<- hs,dec.eq_def m.toNat,dif_neg h2];simp
   ·simp (disch:=omega) only [go_sem,seval]
  ·simp (disch:=first | omega | (simp only [List.length_cons,List.length_nil,List.length_append,List.length_map,List.length_take,List.length_drop]<;>omega)) only [go_sem,seval]
   have h2:m.toNat<10:=by omega
   have e1:(48+m).toNat=48+m.toNat:=by omega
   rw [<- hs,dec.eq_def m.toNat,dif_pos h2,e1]
   rfl
def okP (n:Int) (p:Int×Int):Bool:=decide (0<=p.1/\p.1<n)&&decide (0<=p.2/\p.2<n)&&decide (¬p.1=p.2)
def atW (word:List UInt8) (i:Nat):List UInt8:=word++ [32]++dec i
def flt (n:Int) (word:List UInt8) (sm:Int×Int->Int×Int->Bool) (l:List (Int×Int)) (i:Nat):List (Int×List UInt8) :=
 if okP n (nth l i)=false then [(2,atW word i)] else if (l.take i).any (sm (nth l i)) then [(6,atW word i)] else []
def hdr (word:List UInt8) (l:List (Int×Int)):List (Int×List UInt8):=if 16<l.length then [(4,word)] else []
def JQ (n:Int) (word:List UInt8) (sm:Int×Int->Int×Int->Bool) (l:List (Int×Int)) (k:Nat):List (Int×List UInt8):=hdr word l++(List.range k).flatMap (flt n word sm l)
theorem Kd (n word sm l k):JQ n word sm l (k+1)=JQ n word sm l k++flt n word sm l k:=by simp [JQ,List.range_succ,List.flatMap_append]
theorem Kx (n word sm l):JQ n word sm l 0=hdr word l:=by simp [JQ]
theorem Zjz (n word sm l i):(flt n word sm l i).length<=1:=by unfold flt;split<;>(try split)<;>simp
theorem W1 (n word sm l): ∀k,(JQ n word sm l k).length<=k+1:=by
 intro k
 induction k with
 | zero=>rw [Kx];unfold hdr;split<;>simp
 | succ k ih=>rw [Kd];have:=Zjz n word sm l k;simp;omega
def chk (n:Int) (ap be:List (Int×Int)):List (Int×List UInt8) :=
 JQ n [97,112,97,114,116] (fun p q=>decide (p=q\/(p.1=q.2/\p.2=q.1))) ap ap.length++JQ n [98,101,102,111,114,101] (fun p q=>decide (p=q)) be be.length
def smR (turned:Bool) (p q:Int×Int):Bool:=decide (q.1=p.1/\q.2=p.2)||(turned&&decide (q.1=p.2/\q.2=p.1))
theorem Zhj : smR true=fun p q=>decide (p=q\/(p.1=q.2/\p.2=q.1)):=by
 funext p q
 simp only [smR,Bool.true_and,Zq2]
 congr 1
 simp only [Prod.ext_iff,eq_iff_iff]
 constructor
 ·rintro (h | h)
  ·exact .inl ⟨h.1.symm,h.2.symm⟩
  ·exact .inr ⟨h.2.symm,h.1.symm⟩
 ·rintro (h | h)
  ·exact .inl ⟨h.1.symm,h.2.symm⟩
  ·exact .inr ⟨h.2.symm,h.1.symm⟩
theorem Zec : smR false=fun p q=>decide (p=q):=by
 funext p q
 simp only [smR,Bool.false_and,Bool.or_false]
 congr 1
 simp only [Prod.ext_iff,eq_iff_iff];exact ⟨fun h=>⟨h.1.symm,h.2.symm⟩,fun h=>⟨h.1.symm,h.2.symm⟩⟩
def tw (turned:Bool) (l:List (Int×Int)) (p:Int×Int) (j:Nat):Bool:=(l.take j).any (smR turned p)
theorem ZkP (turned l p):tw turned l p 0=false:=by simp [tw]
theorem Zjy (turned:Bool) (l:List (Int×Int)) (p:Int×Int) (j:Nat) (h:j<l.length):tw turned l p (j+1)=(tw turned l p j||smR turned p (nth l j)):=by
 rw [tw,tw,List.take_succ_eq_append_getElem h,List.any_append,Ze h];simp only [List.any_cons,List.any_nil,Bool.or_false]
theorem Zcd (n:Int) (word:List UInt8) (l:List (Int×Int)) (c:Bool) (turned:Bool) (hw:word.length<=1000) (hl:l.length<=1048576) :
  ACalls Tryz.prog 121 [.p (.int .i64 n),.p (.list c (l.map eP)),.p (.str word),.p (.bool turned)] [] fun x H'=>x= .sl 0 0 (JQ n word (smR turned) l l.length).length (JQ n word (smR turned) l l.length).length/\H'= [.elems 2 ((JQ n word (smR turned) l l.length).map eF)]:=by
 refine Q6 [2] (fn:=Tryz.f121) (by simp) Tryz.func121 rfl ZoM ?_;simp (disch:=omega) only [Tryz.f121,go_sem,seval];refine Zn (Weak.ofNil 9 2 (by simp (disch:=omega) only [go_sem,seval]) (by simp) (Weak.refl _ _ _)) ?_;simp (disch:=omega) only [go_sem,seval];refine Zo [0,1,2,3] (fun _:Unit=> [(9,.sl 0 0 (hdr word l).length (hdr word l).length)]) (fun _=> [.elems 2 ((hdr word l).map eF)]) (fun _=>True) ?_ ?_
 ·simp (disch:=omega) only [go_sem,seval];refine cD ?_ ?_<;>intro h<;>simp (disch:=omega) only [Sh.out h,go_sem,seval]
  ·refine ⟨(),Weak.mk ?_⟩
   have h2:16<l.length:=by omega
   simp (disch:=omega) only [hdr,h2,go_sem,seval]
  ·refine ⟨(),Weak.mk ?_⟩
   have h2: ¬ 16<l.length:=by omega
   simp (disch:=omega) only [hdr,h2,go_sem,seval]
 ·intro _ _;refine Zc [] _ _ _ _ ?_;simp (disch:=omega) only [go_sem,seval];refine Zf [0,1,2,3] (fun k:Nat=> [(9,.sl 0 0 (JQ n word (smR turned) l k).length (JQ n word (smR turned) l k).length),(10,.p (.int .i64 k))]) (fun k=> [.elems 2 ((JQ n word (smR turned) l k).map eF)]) (fun k=>k<=l.length) (fun k=>l.length-k) 0 (by simp) (Weak.mk ?_) ?_
  ·simp (disch:=omega) only [Kx,go_sem,seval]
  ·intro k hk;have hfl:=W1 n word (smR turned) l k;have hdl:=Ze2 _ k (Nat.lt_succ_self _);simp (disch:=omega) only [go_sem,seval];refine cD ?_ ?_<;>intro h<;>simp (disch:=omega) only [Sh.out h,go_sem,seval]
   ·have hk2:k<l.length:=by omega
    simp (disch:=first | omega | (simp only [List.length_cons,List.length_nil,List.length_append,List.length_map,List.length_take,List.length_drop]<;>omega)) only [go_sem,seval];refine (ZcR (k:Int) (by omega) (by omega)).use ?_;simp (disch:=first | omega | (simp only [List.length_cons,List.length_nil,List.length_append,List.length_map,List.length_take,List.length_drop]<;>omega)) only [go_sem,seval];have hs:=Kd n word (smR turned) l k
    have hbad:okP n (nth l k)=false->flt n word (smR turned) l k= [(2,word++ [32]++dec k)]:=fun e=>by simp [flt,e,atW]
    repeat' (first | (refine ZU (fun hq=> ?_) (fun hq=> ?_)<;>(try simp only [decide_eq_true_eq,decide_eq_false_iff_not,Classical.not_not] at hq)<;>simp (disch:=omega) only [Sh.out hq,go_sem,seval]) | (refine ZS (fun hq=> ?_) (fun hq=> ?_)<;>(try simp only [decide_eq_true_eq,decide_eq_false_iff_not,Classical.not_not] at hq)<;>simp (disch:=omega) only [Sh.out hq,go_sem,seval]) | (refine Xd (fun hq=> ?_) (fun hq=> ?_)<;>(try simp only [decide_eq_true_eq,decide_eq_false_iff_not,Classical.not_not] at hq)<;>simp (disch:=omega) only [Sh.out hq,go_sem,seval]))
    all_goals try (
     have e:=hbad (by simp [okP];omega)
     exact ⟨k+1,by omega,by omega,Weak.mk (by simp (disch:=omega) only [hs,e,go_sem,seval])⟩)
    have hok:okP n (nth l k)=true:=by simp [okP];omega
    refine Zf [0,1,2,3,9,10,11,12,13] (fun j:Nat=> [(14,.p (.bool (tw turned l (nth l k) j))),(15,.p (.int .i64 j))]) (fun _=> [.elems 2 ((JQ n word (smR turned) l k).map eF)]) (fun j=>j<=k) (fun j=>k-j) 0 (by simp) (Weak.mk ?_) ?_
    ·simp (disch:=omega) only [ZkP,go_sem,seval]
    ·intro j hj;simp (disch:=omega) only [go_sem,seval];refine cD ?_ ?_<;>intro h4<;>simp (disch:=omega) only [Sh.out h4,go_sem,seval]
     ·have hts:=Zjy turned l (nth l k) j (by omega);generalize tw turned l (nth l k) j=q at hts ⊢
      repeat' (first | (refine ZU (fun hq=> ?_) (fun hq=> ?_)<;>(try simp only [decide_eq_true_eq,decide_eq_false_iff_not,Classical.not_not] at hq)<;>simp (disch:=omega) only [Sh.out hq,go_sem,seval]) | (refine ZS (fun hq=> ?_) (fun hq=> ?_)<;>(try simp only [decide_eq_true_eq,decide_eq_false_iff_not,Classical.not_not] at hq)<;>simp (disch:=omega) only [Sh.out hq,go_sem,seval]) | (refine Xd (fun hq=> ?_) (fun hq=> ?_)<;>(try simp only [decide_eq_true_eq,decide_eq_false_iff_not,Classical.not_not] at hq)<;>simp (disch:=omega) only [Sh.out hq,go_sem,seval]))
      all_goals refine ⟨j+1,by omega,by omega,Weak.mk ?_⟩
      all_goals clear hs hbad hfl hdl
      all_goals simp (disch:=omega) only [hts,go_sem,seval]
      all_goals simp [smR, *]
      all_goals first | omega | (simp [smR, *] at hts;exact hts)
     ·have hjk:j=k:=by omega
      subst hjk;refine cD ?_ ?_<;>intro h5<;>simp (disch:=omega) only [Sh.out h5,go_sem,seval]
      ·have e:flt n word (smR turned) l j= [(6,word++ [32]++dec j)]:=by
        have h6:(l.take j).any (smR turned (nth l j))=true:=h5;simp [flt,hok,h6,atW]
       exact ⟨j+1,by omega,by omega,Weak.mk (by simp (disch:=omega) only [hs,e,go_sem,seval])⟩
      ·have e:flt n word (smR turned) l j= []:=by
        have h6:(l.take j).any (smR turned (nth l j))=false:=h5;simp only [flt,hok,h6,Bool.true_eq_false,Bool.false_eq_true,if_false]
       exact ⟨j+1,by omega,by omega,Weak.mk (by simp (disch:=omega) only [hs,e,go_sem,seval])⟩
   ·have:k=l.length:=by omega
    subst this;exact ⟨0,by simp (disch:=omega) only [go_sem,seval]⟩
theorem ZgX (n:Int) (ap be:List (Int×Int)) (c c':Bool) (hl:ap.length<=1048576) (hl2:be.length<=1048576) :
  ACalls Tryz.prog 80 [.p (.int .i64 n),.p (.list c (ap.map eP)),.p (.list c' (be.map eP))] [] fun x H'=>x= .sl 0 0 (chk n ap be).length (chk n ap be).length/\H'= [.elems 2 ((chk n ap be).map eF)]:=by
 refine VT (fn:=Tryz.f80) (by simp) Tryz.func80 rfl ZwB ?_;simp (disch:=omega) only [Tryz.f80,go_sem,seval];have h1:=W1 n [97,112,97,114,116] (smR true) ap ap.length;have h2:=W1 n [98,101,102,111,114,101] (smR false) be be.length;refine (Zcd n _ ap c true (by decide) hl).useF ?_;simp (disch:=omega) only [go_sem,seval];refine (Zcd n _ be c' false (by decide) hl2).useF ?_;simp (disch:=omega) only [go_sem,seval];refine ⟨0,?_⟩;rw [chk,<- Zhj,<- Zec];simp (disch:=omega) only [go_sem,seval]
@[go_sem] theorem ZmG {H:List AM.Obj} {β:Type} {S b o n:Nat} {xs:List PV} {g:β->PV} {m:List β} (hb:(n+m.length)*b<=140737488355328) (hb2:n+m.length<=140737488355328) :
  JU H (some (S,b)) (.elems S xs) o n (some (m.map g))=if xs.length=n/\okE S (m.map g)=true then some (.sl o 0 (n+m.length) (n+m.length),ost H o (.elems S (xs++m.map g))) else none:=by
 rw [Zg7];simp only [List.length_map,hb,hb2,and_true]
def und (word:List UInt8) (f:Flt):Flt:=(f.1,if f.2= [] then word else word++ [32]++f.2)
theorem Vg (word:List UInt8) (l:List Flt) (c:Bool) (hword:word.length<=100) (hl:l.length<=4194306000000) (hp: ∀f∈l,pF 100 f) :
  ACalls Tryz.prog 75 [.p (.str word),.p (.list c (l.map eF))] [] fun x H'=>x= .sl 0 0 (l.map (und word)).length (l.map (und word)).length/\H'= [.elems 2 ((l.map (und word)).map eF)]:=by
 suffices hh:ACalls Tryz.prog 75 [.p (.str word),.p (.list c (l.map eF))] [] fun x H'=> ∃m:List Flt,m=l.map (und word)/\x= .sl 0 0 m.length m.length/\H'= [.elems 2 (m.map eF)] by
  refine hh.mono ?_;rintro x H' ⟨m,rfl,h1,h2⟩;exact ⟨h1,h2⟩
 refine ZD [2] Tryz.func75 rfl ZwV ?_;simp (disch:=omega) only [Tryz.f75,go_sem,seval];refine Zn (Weak.ofNil 5 2 (by simp (disch:=omega) only [go_sem,seval]) (by simp) (Weak.refl _ _ _)) ?_;refine Zc [] _ _ _ _ ?_;simp (disch:=omega) only [go_sem,seval];refine Zf [0,1] (fun q:Nat×List Flt=> [(5,.sl 0 0 q.2.length q.2.length),(6,.p (.int .i64 q.1))]) (fun q=> [.elems 2 (q.2.map eF)]) (fun q=>q.1<=l.length/\q.2=(l.take q.1).map (und word)) (fun q=>l.length-q.1) (0,[]) ⟨by simp,by simp⟩ (Weak.mk ?_) ?_
 ·simp (disch:=omega) only [go_sem,seval]
 ·rintro ⟨k,m⟩ ⟨hk,hm⟩;simp only at hk hm
  have hml:m.length<=k:=by rw [hm];simp;omega
  simp (disch:=omega) only [go_sem,seval];refine cD ?_ ?_<;>intro h<;>simp (disch:=omega) only [Sh.out h,go_sem,seval]
  ·have hk2:k<l.length:=by omega
   have hpk:=hp _ (Zl hk2);unfold pF at hpk
   have hnext: ∀f,f=und word (nth l k)->m++ [f]=(l.take (k+1)).map (und word):=fun f hf=>by
    rw [hf,hm,List.take_succ_eq_append_getElem hk2,List.map_append,Ze hk2];rfl
   refine cD ?_ ?_<;>intro h2<;>simp (disch:=omega) only [Sh.out h2,go_sem,seval]
   ·have h3: ¬(nth l k).2= []:=by simpa using h2
    simp (disch:=first | omega | (simp only [List.length_cons,List.length_nil,List.length_append,List.length_map,List.length_take,List.length_drop]<;>omega)) only [go_sem,seval];refine ⟨(k+1,m++ [((nth l k).1,word++ [32]++(nth l k).2)]),⟨by simp only;omega,hnext _ (by simp [und,h3])⟩,by simp only;omega,Weak.mk (by simp (disch:=first | omega | (simp only [List.length_cons,List.length_nil,List.length_append,List.length_map,List.length_take,List.length_drop]<;>omega)) only [go_sem,seval])⟩
   ·have h3:(nth l k).2= []:=by simpa using h2
    refine ⟨(k+1,m++ [((nth l k).1,word)]),⟨by simp only;omega,hnext _ (by simp [und,h3])⟩,by simp only;omega,Weak.mk (by simp (disch:=first | omega | (simp only [List.length_cons,List.length_nil,List.length_append,List.length_map,List.length_take,List.length_drop]<;>omega)) only [go_sem,seval])⟩
  ·have hkn:k=l.length:=by omega
   subst hkn;exact ⟨m,by rw [hm,List.take_length],0,by simp (disch:=omega) only [go_sem,seval]⟩
theorem ZpO {n:Int} {ap be:List (Int×Int)} (ha:ap.length<=1048576) (hb:be.length<=1048576): ∀f∈chk n ap be,pF 100 f:=by
 have key: ∀(word:List UInt8) (sm:Int×Int->Int×Int->Bool) (l:List (Int×Int)),word.length<=6->l.length<=1048576-> ∀f∈JQ n word sm l l.length,pF 100 f:=fun word sm l hw hl f hf=>by
  simp only [JQ,List.mem_append,List.mem_flatMap,List.mem_range] at hf;rcases hf with hf | ⟨i,hi,hf⟩
  ·unfold hdr at hf;split at hf<;>simp at hf;subst hf;simp [pF];omega
  ·have hd:=Vw 6 i (by omega)
   have: ∀e:Int,pF 100 (e,atW word i):=fun e=>by simp [pF,atW];omega
   unfold flt at hf
   split at hf
   ·simp at hf;subst hf;exact this _
   ·split at hf<;>simp at hf
    subst hf;exact this _
 intro f hf;rcases List.mem_append.1 hf with hf | hf
 ·exact key _ _ _ (by simp) ha f hf
 ·exact key _ _ _ (by simp) hb f hf
theorem Zk1 {n:Int} {ap be:List (Int×Int)} :(chk n ap be).length<=ap.length+be.length+2:=by
 have h1:=W1 n [97,112,97,114,116] (fun p q=>decide (p=q\/(p.1=q.2/\p.2=q.1))) ap ap.length;have h2:=W1 n [98,101,102,111,114,101] (fun p q=>decide (p=q)) be be.length;rw [chk,List.length_append];omega
structure InstOk (x:Inst):Prop where
 net:netOk x.net
 types:typesOk x.net x.types
 orders:ordersOk x.net.places.length (dimsOf x.types) x.types.length x.orders
 rules:chk x.orders.length x.apart x.before= []
theorem FR.und {p:Flt->Prop} {C:Prop} {b:Nat} {l:List Flt} (h:FR p C b l) (word:List UInt8):FR (fun _=>True) C b (l.map (und word)) :=
 ⟨by simpa using h.len,by rw [List.map_eq_nil_iff];exact h.emp,fun _ _=>trivial⟩
theorem Zq9 (x:Inst) (hw:x.wf 1048576):ACalls Tryz.prog 41 [.p (ZC x)] [] fun y H'=> ∃m:List Flt,FR (fun _=>True) (InstOk x) 4194400000000 m/\y= .sl 0 0 m.length m.length/\H'= [.elems 2 (m.map eF)]:=by
 obtain ⟨w1,w2,w3,w4,w5,w6,w7,w8,w9⟩:=hw;refine ZD [] Tryz.func41 rfl ZuD ?_;simp (disch:=omega) only [Tryz.f41,go_sem,seval];have ol:=YQ x.net.places.length (dimsOf x.types) x.types.length x.orders x.orders.length;have oat:=Zcx (np:=x.net.places.length) (d:=dimsOf x.types) (ty:=x.types.length) w4;have onil:=Zax (np:=x.net.places.length) (d:=dimsOf x.types) (ty:=x.types.length) (l:=x.orders);have cl:=Zk1 (n:=x.orders.length) (ap:=x.apart) (be:=x.before);have cat:=ZpO (n:=x.orders.length) w6 w8;refine ((Zp7 x.net w1).frozenE).useV fun m1 h1=> ?_
 simp (disch:=omega) only [go_sem,seval];have h1p:=h1.pmono (q:=pF 100) fun f hf=>hf.mono (by omega);have u1:=Vg [110,101,116] m1 false (by simp) h1.len h1p.all;have f1:=h1.und [110,101,116];generalize m1.map (und [110,101,116])=q1 at u1 f1;have f1l:=f1.len;refine (u1).useF ?_;simp (disch:=omega) only [go_sem,seval];refine ((ZmC x.net x.types x.types_c w1 w2 w3).frozenE).useV fun m2 h2=> ?_;simp (disch:=omega) only [go_sem,seval];have h2p:=h2.pmono (q:=pF 100) fun f hf=>hf.mono (by omega);have h2l:=h2.len;have u2:=(Vg [116,121,112,101,115] m2 false (by simp) (by omega) h2p.all).frozen (by simp)
 have f2:=h2.und [116,121,112,101,115];generalize m2.map (und [116,121,112,101,115])=q2 at u2 f2;have f2l:=f2.len;refine (u2).use ?_;simp (disch:=omega) only [go_sem,seval];have u3:=(Vg [111,114,100,101,114,115] (Z7 x.net.places.length (dimsOf x.types) x.types.length x.orders x.orders.length) false (by simp) (by omega) fun f hf=>(oat f hf).mono (by omega)).frozen (by simp);have f3:=(show FR (fun _=>True) (ordersOk x.net.places.length (dimsOf x.types) x.types.length x.orders) (1+8*x.orders.length) (Z7 x.net.places.length (dimsOf x.types) x.types.length x.orders x.orders.length) from ⟨ol,onil,fun _ _=>trivial⟩).und [111,114,100,101,114,115]
 generalize (Z7 x.net.places.length (dimsOf x.types) x.types.length x.orders x.orders.length).map (und [111,114,100,101,114,115])=q3 at u3 f3;have f3l:=f3.len;refine Zx 13 Zm (by kernel_rfl) (by kernel_rfl) ?_;simp (disch:=omega) only [go_sem,seval];refine Zs (Zcb x.types x.types_c w2) ?_;simp (disch:=omega) only [go_sem,seval];refine Zs ((Zro x.net (dimsOf x.types) x.types.length x.orders x.orders_c w1 w4 w5).frozen (by simp)) ?_;simp (disch:=omega) only [go_sem,seval];refine Zs (u3) ?_;simp (disch:=omega) only [go_sem,seval];have u4:=(Vg [114,117,108,101,115] (chk x.orders.length x.apart x.before) false (by simp) (by omega) cat).frozen (by simp)
 have f4:=(show FR (fun _=>True) (chk x.orders.length x.apart x.before= []) (x.apart.length+x.before.length+2) (chk x.orders.length x.apart x.before) from ⟨cl,Iff.rfl,fun _ _=>trivial⟩).und [114,117,108,101,115];generalize (chk x.orders.length x.apart x.before).map (und [114,117,108,101,115])=q4 at u4 f4;have f4l:=f4.len;refine ((ZgX x.orders.length x.apart x.before x.apart_c x.before_c w6 w8).frozen (by simp)).use ?_;simp (disch:=omega) only [go_sem,seval];refine (u4).use ?_;simp (disch:=omega) only [go_sem,seval];refine ⟨q1++q2++q3++q4,((f1.app f2).app f3 |>.app f4).to (by omega) ⟨fun ⟨⟨⟨a,b⟩,c⟩,d⟩=>⟨a,b,c,d⟩,fun h=>⟨⟨⟨h.net,h.types⟩,h.orders⟩,h.rules⟩⟩,1,?_⟩
 simp (disch:=omega) only [go_sem,seval]
def Za (x:Inst):AM.Obj:= .cells [.p (.list x.net.places_c (x.net.places.map eS)),.p (.list x.net.arcs_c (x.net.arcs.map QV)),.p (.list x.types_c (x.types.map QE)),.p (.list x.orders_c (x.orders.map V5)),.p (.list x.apart_c (x.apart.map eP)),.p (.list x.before_c (x.before.map eP))]
def zSco : Sco:=⟨0,0,0,0⟩
theorem Zdz (a:Int):IntKind.i64.wrap ((BitVec.ofInt 64 a&&&BitVec.ofInt 64 1).toNat:Int)=a%2:=by
 have h:((BitVec.ofInt 64 a&&&BitVec.ofInt 64 1).toNat:Int)=a%2:=by
  rw [BitVec.toNat_and]
  have:(BitVec.ofInt 64 1).toNat=1:=by decide
  rw [this,Nat.and_one_is_mod]
  have:((BitVec.ofInt 64 a).toNat:Int)=a%2^64:=by simp [BitVec.toNat_ofInt];omega
  omega
 rw [h];exact IntWalk.i64_in _ (by omega)
def Zdn (s i:Int):Bool:=decide (0<=i)&&decide (i<=62)&&decide (s.fdiv (2^i.toNat)%2=1)
theorem Zuj (s i:Int):PC 134 [.p (.int .i64 s),.p (.int .i64 i)] (.bool (Zdn s i)):=by
 refine Zb Tryz.func134 rfl ZnM ?_;simp (disch:=omega) only [Tryz.f134,go_sem,seval];refine gT ?_ ?_<;>intro h<;>simp (disch:=omega) only [Sh.out h,go_sem,seval]
 ·refine gT ?_ ?_<;>intro h1<;>simp (disch:=omega) only [Sh.out h1,go_sem,seval]
  ·have:min i.toNat 64=i.toNat:=by omega
   rw [this]
   erw [Zdz]
   simp [Zdn,h,h1]
  ·simp [Zdn,h,h1]
 ·simp [Zdn,h]
def YX (s:Int) (k:Nat):List Int:=((List.range k).filter fun (i:Nat)=>Zdn s (i:Int)).map fun (i:Nat)=>(i:Int)
theorem Zfe (s:Int):YX s 0= []:=by simp [YX]
theorem ZgO {s:Int} {k:Nat} (h:Zdn s (k:Int)=true):YX s (k+1)=YX s k++ [(k:Int)]:=by simp [YX,List.range_succ,List.filter_append,h]
theorem Zk4 {s:Int} {k:Nat} (h:Zdn s (k:Int)=false):YX s (k+1)=YX s k:=by simp [YX,List.range_succ,List.filter_append,h]
theorem ZbS (s:Int) (k:Nat):(YX s k).length<=k:=by
 simp only [YX,List.length_map];exact Nat.le_trans (List.length_filter_le _ _) (by simp)
theorem Zfo (s:Int):ACalls Tryz.prog 90 [.p (.int .i64 s)] [] fun x H'=>x= .sl 0 0 (YX s 63).length (YX s 63).length/\H'= [.elems 1 ((YX s 63).map eI)]:=by
 refine VT (fn:=Tryz.f90) (by simp) Tryz.func90 rfl ZuZ ?_;simp (disch:=omega) only [Tryz.f90,go_sem,seval];refine Zf [0] (fun k:Nat=> [(3,.sl 0 0 (YX s k).length (YX s k).length),(5,.p (.int .i64 k))]) (fun k=> [.elems 1 ((YX s k).map eI)]) (fun k=>k<=63) (fun k=>63-k) 0 (by simp) (Weak.ofNil 3 1 (by simp (disch:=omega) only [go_sem,seval]) (by simp) (Weak.mk ?_)) ?_
 ·simp (disch:=omega) only [Zfe,go_sem,seval]
 ·intro k hk;have hl:=ZbS s k;simp (disch:=omega) only [go_sem,seval];refine cD ?_ ?_<;>intro h<;>simp (disch:=omega) only [Sh.out h,go_sem,seval]
  ·refine (Zuj s k).use ?_;simp (disch:=omega) only [go_sem,seval];refine cD ?_ ?_<;>intro h2<;>simp (disch:=omega) only [Sh.out h2,go_sem,seval]
   ·refine ⟨k+1,by omega,by omega,Weak.mk ?_⟩;simp (disch:=omega) only [ZgO h2,go_sem,seval]
   ·exact ⟨k+1,by omega,by omega,Weak.mk (by simp (disch:=omega) only [Zk4 h2,go_sem,seval])⟩
  ·have:k=63:=by omega
   subst this;exact ⟨0,by simp (disch:=omega) only [go_sem,seval]⟩
def hv (s k:Nat):Nat:=s / pw k
theorem ZoZ (s k:Nat):s.testBit k=decide (hv s k%2=1):=by
 rw [Nat.testBit_eq_decide_div_mod_eq]
 rfl
theorem Zbx (s i:Nat) (hi:i<=62):Zdn (s:Int) (i:Int)=s.testBit i:=by
 rw [ZoZ,hv]
 have h1:(0:Int)<=i:=by omega
 have h2:(i:Int)<=62:=by omega
 simp only [Zdn,h1,h2,decide_true,Bool.true_and,Int.toNat_natCast]
 have e:((s:Int)).fdiv (2^i)=((s / pw i:Nat):Int):=by
  have:(2:Int)^i=((pw i:Nat):Int):=by simp [pw]
  rw [this,Int.fdiv_eq_ediv_of_nonneg _ (by omega)];simp
 simp only [e];rw [Bool.eq_iff_iff];simp only [decide_eq_true_eq];omega
theorem Vy {α:Type} [Inhabited α] {l:List α} {f:α->Bool} {k:Nat} (h:k<l.length) (hf:f (nth l k)=true):l.any f=true:=by
 rw [List.any_eq_true];exact ⟨nth l k,by rw [Ze h];exact List.getElem_mem _,hf⟩
theorem Ky {α:Type} [Inhabited α] {l:List α} {f:α->Bool} (h: ∀j,j<l.length->f (nth l j)=false):l.any f=false:=by
 rw [List.any_eq_false];intro x hx;obtain ⟨j,hj,rfl⟩:=List.mem_iff_getElem.1 hx;rw [<- Ze hj,h j hj];simp
deriving instance DecidableEq for Vis
theorem Zge {v w:Vis} :v=w↔v.order=w.order/\v.drp=w.drp:=by cases v;cases w;simp
def fIx (f:Vis->Bool) (l:List Vis):Int:=match l.findIdx? f with | some i=>(i:Int) | none=> -1
def vIx (l:List Vis) (v:Vis):Int:=fIx (fun w=>decide (v=w)) l
theorem ZbM {f:Vis->Bool} {l:List Vis} {k:Nat} (hk:k<l.length) (h:f (nth l k)=true) (hno: ∀j,j<k->f (nth l j)=false):fIx f l=(k:Int):=by
 have:l.findIdx? f=some k:=by
  rw [List.findIdx?_eq_some_iff_getElem];refine ⟨hk,by rw [<- Ze hk];exact h,fun j hj=> ?_⟩;have h2:=hno j hj;rw [Ze (by omega)] at h2;simpa using h2
 simp [fIx,this]
theorem Zfc {f:Vis->Bool} {l:List Vis} (hno: ∀j,j<l.length->f (nth l j)=false):fIx f l= -1:=by
 have:l.findIdx? f=none:=by
  rw [List.findIdx?_eq_none_iff];intro x hx;obtain ⟨j,hj,rfl⟩:=List.mem_iff_getElem.1 hx;rw [<- Ze hj];exact hno j hj
 simp [fIx,this]
theorem ZfV {f:Vis->Bool} {l:List Vis} :decide (0<=fIx f l)=l.any f:=by
 unfold fIx
 cases h:l.findIdx? f with
 | none =>
  rw [List.findIdx?_eq_none_iff] at h
  have:l.any f=false:=by rw [List.any_eq_false];intro x hx;simp [h x hx]
  simp [this]
 | some i =>
  rw [List.findIdx?_eq_some_iff_getElem] at h;obtain ⟨h1,h2,_⟩:=h
  have:l.any f=true:=by rw [List.any_eq_true];exact ⟨l[i],List.getElem_mem _,h2⟩
  simp [this]
theorem ZeV {f:Vis->Bool} {l:List Vis} :fIx f l<l.length/\ -1<=fIx f l:=by
 unfold fIx
 cases h:l.findIdx? f with
 | none=>simp;omega
 | some i =>
  rw [List.findIdx?_eq_some_iff_getElem] at h;obtain ⟨h1,_⟩:=h;simp;omega
theorem Zf7 (l:List Vis) (c:Bool) (v:Vis) (hl:l.length<=1048576):PC 243 [.p (.list c (l.map XY)),.p (XY v)] (.int .i64 (vIx l v)):=by
 refine Zb Tryz.func243 rfl Zpr ?_;simp (disch:=omega) only [Tryz.f243,go_sem,seval];refine Zf [0,3,7] (fun k:Nat=> [(8,.p (.int .i64 k))]) (fun _=> [.cells [.p (.int .i64 v.order),.p (.bool v.drp)]]) (fun k=>k<=l.length/\ ∀j,j<k->decide (v=nth l j)=false) (fun k=>l.length-k) 0 (by simp) (Weak.mk ?_) ?_
 ·simp (disch:=omega) only [go_sem,seval]
 ·rintro k ⟨hk,hno⟩;simp (disch:=omega) only [go_sem,seval];refine cD ?_ ?_<;>intro h<;>simp (disch:=omega) only [Sh.out h,go_sem,seval]
  ·have hk2:k<l.length:=by omega
   refine Zh Zm (by kernel_rfl) (by kernel_rfl) ?_;simp (disch:=omega) only [go_sem,seval];refine cD ?_ ?_<;>intro h2<;>simp (disch:=omega) only [Sh.out h2,go_sem,seval]
   ·have:v=nth l k:=by simpa [Zge] using h2
    rw [vIx,ZbM hk2 (by simpa using this) hno]
   ·have: ¬v=nth l k:=by simpa [Zge] using h2
    exact ⟨k+1,⟨by omega,Zg.2 ⟨hno,by simpa using this⟩⟩,by omega,wk⟩
  ·have hkl:k=l.length:=by omega
   subst hkl;rw [vIx,Zfc hno]
theorem ZdX (l:List Vis) (c:Bool) (v:Vis) (hl:l.length<=1048576):PC 208 [.p (.list c (l.map XY)),.p (XY v)] (.int .i64 (vIx l v)):=by
 refine Zb Tryz.func208 rfl ZmT ?_;simp (disch:=omega) only [Tryz.f208,go_sem,seval];refine (Zf7 l c v hl).use ?_;simp (disch:=omega) only [go_sem,seval]
theorem Kw (l:List Vis) (c:Bool) (v:Vis) (hl:l.length<=1048576):PC 209 [.p (.list c (l.map XY)),.p (XY v)] (.bool (decide (0<=vIx l v))):=by
 refine Zb Tryz.func209 rfl Zm6 ?_;simp (disch:=omega) only [Tryz.f209,go_sem,seval];refine (Zf7 l c v hl).use ?_;simp (disch:=omega) only [go_sem,seval]
theorem ZjO (l:List Ord) (c:Bool) (n:Int) (hl:l.length<=1048576):PC 238 [.p (.list c (l.map V5)),.p (.int .i64 n)] (.bool (decide (0<=n/\n<l.length))):=by
 refine Zb Tryz.func238 rfl Zi9 ?_;simp (disch:=omega) only [Tryz.f238,go_sem,seval];refine gT ?_ ?_<;>intro h<;>simp (disch:=omega) only [Sh.out h,go_sem,seval]
 all_goals (try simp [h])
def Yk (l:List Ord) (i:Nat):List Vis:=(if 0<=(nth l i).pick.place then [⟨i,false⟩] else [])++(if 0<=(nth l i).drp.place then [⟨i,true⟩] else [])
theorem Zce (l:List Ord) (i:Nat):(Yk l i).length<=2:=by unfold Yk;split<;>split<;>simp
theorem Zdg (l:List Ord) (c:Bool) (i:Nat) (hi:i<l.length) (hl:l.length<=1048576):ACalls Tryz.prog 205 [.p (.list c (l.map V5)),.p (.int .i64 (i:Nat))] [] fun x H'=>x= .sl 0 0 (Yk l i).length (Yk l i).length/\H'= [.elems 2 ((Yk l i).map XY)]:=by
 suffices hh:ACalls Tryz.prog 205 [.p (.list c (l.map V5)),.p (.int .i64 (i:Nat))] [] fun x H'=> ∃m:List Vis,m=Yk l i/\x= .sl 0 0 m.length m.length/\H'= [.elems 2 (m.map XY)] by
  refine hh.mono ?_;rintro x H' ⟨m,rfl,h1,h2⟩;exact ⟨h1,h2⟩
 refine ZD [2] Tryz.func205 rfl Zpl ?_;simp (disch:=omega) only [Tryz.f205,go_sem,seval];refine Zn (Weak.ofNil 5 2 (by simp (disch:=omega) only [go_sem,seval]) (by simp) (Weak.refl _ _ _)) ?_;refine Zc [4] _ _ _ _ ?_;simp (disch:=omega) only [go_sem,seval];refine (ZjO l c i hl).use ?_;simp (disch:=omega) only [go_sem,seval]
 have h0:(0:Int)<=(i:Int)/\(i:Int)<(l.length:Int):=by omega
 simp (disch:=omega) only [h0,go_sem,seval];refine Zo [0,1] (fun m:List Vis=> [(5,.sl 0 0 m.length m.length)]) (fun m=> [.elems 2 (m.map XY)]) (fun m=>m=(if 0<=(nth l i).pick.place then [⟨i,false⟩] else [])) ?_ ?_
 ·simp (disch:=omega) only [go_sem,seval];refine cD ?_ ?_<;>intro h<;>simp (disch:=omega) only [Sh.out h,go_sem,seval]
  ·exact ⟨[⟨i,false⟩],by simp [h],wk⟩
  ·exact ⟨[],by simp [h],wk⟩
 ·intro m hm
  have hml:m.length<=1:=by rw [hm];split<;>simp
  refine Zc [] _ _ _ _ ?_;simp (disch:=omega) only [go_sem,seval];refine cD ?_ ?_<;>intro h<;>simp (disch:=omega) only [Sh.out h,go_sem,seval]
  ·exact ⟨m++ [⟨i,true⟩],by rw [Yk,hm,if_pos h],0,by simp (disch:=omega) only [go_sem,seval]⟩
  ·exact ⟨m,by rw [Yk,hm,if_neg h,List.append_nil],0,by simp (disch:=omega) only [go_sem,seval]⟩
theorem visits_c (l:List Ord) (c:Bool) (i:Nat) (hi:i<l.length) (hl:l.length<=1048576):PC 205 [.p (.list c (l.map V5)),.p (.int .i64 (i:Nat))] (.list false ((Yk l i).map XY)) :=
 (Zdg l c i hi hl).frozen (by simp)
def Y4 (l:List Vis):Bool:=(List.range l.length).any fun i=>decide (0<=vIx (l.take i) (nth l i))
theorem ZkK (l:List Vis) (c:Bool) (hl:l.length<=1048576):PC 156 [.p (.list c (l.map XY))] (.bool (Y4 l)):=by
 refine Zb Tryz.func156 rfl ZnG ?_;simp (disch:=omega) only [Tryz.f156,go_sem,seval];refine Zf [0,5,6] (fun k:Nat=> [(7,.p (.int .i64 k))]) (fun _=> []) (fun k=>k<=l.length/\ ∀j,j<k->decide (0<=vIx (l.take j) (nth l j))=false) (fun k=>l.length-k) 0 (by simp) (Weak.mk ?_) ?_
 ·simp (disch:=omega) only [go_sem,seval]
 ·rintro k ⟨hk,hno⟩;simp (disch:=omega) only [go_sem,seval];refine cD ?_ ?_<;>intro h<;>simp (disch:=omega) only [Sh.out h,go_sem,seval]
  ·have hk2:k<l.length:=by omega
   refine Zh Zm (by kernel_rfl) (by kernel_rfl) ?_;simp (disch:=omega) only [go_sem,seval];refine Zs (ZdX (l.take k) _ (nth l k) (by simp;omega)) ?_;simp (disch:=omega) only [go_sem,seval];refine cD ?_ ?_<;>intro h2<;>simp (disch:=omega) only [Sh.out h2,go_sem,seval]
   ·have:Y4 l=true:=by rw [Y4,List.any_eq_true];exact ⟨k,by simpa using hk2,by simpa using h2⟩
    rw [this]
   ·exact ⟨k+1,⟨by omega,Zg.2 ⟨hno,by simpa using h2⟩⟩,by omega,wk⟩
  ·have hkl:k=l.length:=by omega
   subst hkl
   have:Y4 l=false:=by rw [Y4,List.any_eq_false];intro j hj;simpa using hno j (by simpa using hj)
   rw [this]
theorem UG (l:List Vis) (c:Bool) (g:FuncId) (caps:List V) (H:List AM.Obj) (f:Vis->Bool) (hl:l.length<=1048576) (hW:wkH H H.length H H) (hc:ZT H.length caps=true)
  (hg: ∀v∈l,ACalls Tryz.prog g (.p (XY v)::caps) H fun x H'=>x= .p (.bool (f v))/\H'=H) :
  ACalls Tryz.prog 150 [.p (.list c (l.map XY)),.fn (.func g) [] caps] H fun x H'=>x= .p (.int .i64 (fIx f l))/\H'=H:=by
 refine Xa Tryz.func150 rfl ZrC (Zc [] _ _ _ _ ?_);simp (disch:=omega) only [Tryz.f150,go_sem,seval];refine Zf [0,1,7] (fun k:Nat=> [(8,.p (.int .i64 k))]) (fun _=>H) (fun k=>k<=l.length/\ ∀j,j<k->f (nth l j)=false) (fun k=>l.length-k) 0 (by simp) (Weak.mk ?_) ?_
 ·simp (disch:=omega) only [hW,hc,go_sem,seval];simp
 ·rintro k ⟨hk,hno⟩;simp (disch:=omega) only [go_sem,seval];refine cD ?_ ?_<;>intro h<;>simp (disch:=omega) only [Sh.out h,go_sem,seval]
  ·have hk2:k<l.length:=by omega
   refine (hg (nth l k) (Zl hk2)).useH ?_;simp (disch:=omega) only [go_sem,seval];refine cD ?_ ?_<;>intro h2<;>simp (disch:=omega) only [Sh.out h2,go_sem,seval]
   ·rw [ZbM hk2 h2 hno]
   ·have h3:f (nth l k)=false:=by simpa using h2
    refine ⟨k+1,⟨by omega,Zg.2 ⟨hno,h3⟩⟩,by omega,Weak.mk ?_⟩;simp (disch:=omega) only [hW,hc,go_sem,seval];simp
  ·have hkl:k=l.length:=by omega
   subst hkl;rw [Zfc hno]
theorem Ys (l:List Vis) (c:Bool) (g:FuncId) (caps:List V) (H:List AM.Obj) (f:Vis->Bool) (hl:l.length<=1048576) (hW:wkH H H.length H H) (hc:ZT H.length caps=true)
  (hg: ∀v∈l,ACalls Tryz.prog g (.p (XY v)::caps) H fun x H'=>x= .p (.bool (f v))/\H'=H) :
  ACalls Tryz.prog 105 [.p (.list c (l.map XY)),.fn (.func g) [] caps] H fun x H'=>x= .p (.bool (l.any f))/\H'=H:=by
 refine Xa Tryz.func105 rfl ZnS (Zc [] _ _ _ _ ?_);simp (disch:=omega) only [Tryz.f105,go_sem,seval];refine (UG l c g caps H f hl hW hc hg).useH ?_;simp (disch:=omega) only [go_sem,seval];rw [ZfV]
def Xb (l:List Vis) (o:Int):Bool:=l.any fun v=>decide (v.order=o)
theorem Zqr (v:Vis) (o:Int):ACalls Tryz.prog 210 [.p (XY v),.ptr 0 0] [.cells [.p (.int .i64 o)]] fun x H'=>x= .p (.bool (decide (v.order=o)))/\H'= [.cells [.p (.int .i64 o)]]:=by
 refine Zd [] Tryz.func210 rfl ZmV ?_;simp (disch:=omega) only [Tryz.f210,go_sem,seval];exact we
theorem Zf1 (v:Vis) (o:Int):ACalls Tryz.prog 211 [.p (XY v),.ptr 0 0] [.cells [.p (.int .i64 o)]] fun x H'=>x= .p (.bool (decide (v.order=o)))/\H'= [.cells [.p (.int .i64 o)]]:=by
 refine Zd [] Tryz.func211 rfl Zrq ?_;simp (disch:=omega) only [Tryz.f211,go_sem,seval];exact we
theorem Ui (l:List Vis) (c:Bool) (o:Int) (hl:l.length<=1048576):PC 158 [.p (.list c (l.map XY)),.p (.int .i64 o)] (.bool (Xb l o)):=by
 refine Zb Tryz.func158 rfl Znk ?_;simp (disch:=omega) only [Tryz.f158,go_sem,seval];refine (Ys l c 210 [.ptr 0 0] [.cells [.p (.int .i64 o)]] (fun v=>decide (v.order=o)) hl (by simp (disch:=omega) only [go_sem,seval]) (by rfl) (fun v _=>Zqr v o)).useH ?_;simp (disch:=omega) only [go_sem,seval];rw [Xb]
def XF (l:List Vis) (a b:Int):Bool:=if fIx (fun v=>decide (v.order=b)) l<0 then true else Xb l a&& !Xb (l.drop (fIx (fun v=>decide (v.order=b)) l).toNat) a
theorem Zay (l:List Vis) (c:Bool) (a b:Int) (hl:l.length<=1048576):PC 159 [.p (.list c (l.map XY)),.p (.int .i64 a),.p (.int .i64 b)] (.bool (XF l a b)):=by
 refine Zb Tryz.func159 rfl ZnB ?_;simp (disch:=omega) only [Tryz.f159,go_sem,seval];refine (UG l c 211 [.ptr 0 0] [.cells [.p (.int .i64 b)]] (fun v=>decide (v.order=b)) hl (by simp (disch:=omega) only [go_sem,seval]) (by rfl) (fun v _=>Zf1 v b)).useH ?_;have hlt:=ZeV (f:=fun v=>decide (v.order=b)) (l:=l);simp (disch:=omega) only [go_sem,seval];refine cD ?_ ?_<;>intro h<;>simp (disch:=omega) only [Sh.out h,go_sem,seval]
 ·rw [XF,if_pos h]
 ·refine (Ui l c a hl).use ?_;simp (disch:=omega) only [go_sem,seval];generalize hq:fIx (fun v=>decide (v.order=b)) l=q at hlt h ⊢
  cases h2:Xb l a with
  | false =>
   simp (disch:=omega) only [go_sem,seval];rw [XF,hq,if_neg h,h2];rfl
  | true =>
   simp (disch:=omega) only [List.take_length,go_sem,seval];refine (Ui (l.drop q.toNat) _ a (by simp;omega)).use ?_;simp (disch:=omega) only [go_sem,seval];rw [XF,hq,if_neg h,h2];rfl
def JY (l:List Vis):Int->List Vis->Bool
 | _,[]=>true
 | last,w::r=>decide (last<vIx l w)&&JY l (vIx l w) r
def pairB (os:List Ord) (l:List Vis) (v:Vis):Bool:=decide (0<=vIx (Yk os v.order.toNat) v)&&JY l (-1) (Yk os v.order.toNat)
theorem ZaW (x:Inst) (l:List Vis) (c:Bool) (hl:l.length<=1048576) (ho:x.orders.length<=1048576) (hv: ∀v∈l,0<=v.order/\v.order<x.orders.length) :
  PC 157 [.p (ZC x),.p (.list c (l.map XY))] (.bool (l.all (pairB x.orders l))):=by
 refine Zb Tryz.func157 rfl ZrF ?_;simp (disch:=omega) only [Tryz.f157,go_sem,seval];refine Zf [1,2,12,13] (fun k:Nat=> [(14,.p (.int .i64 k))]) (fun _=> [Za x]) (fun k=>k<=l.length/\ ∀j,j<k->pairB x.orders l (nth l j)=true) (fun k=>l.length-k) 0 (by simp) (Weak.mk ?_) ?_
 ·simp (disch:=omega) only [Za,go_sem,seval]
 ·rintro k ⟨hk,hno⟩;simp (disch:=omega) only [Za,go_sem,seval];refine cD ?_ ?_<;>intro h<;>simp (disch:=omega) only [Sh.out h,go_sem,seval]
  ·have hk2:k<l.length:=by omega
   obtain ⟨v1,v2⟩:=hv _ (Zl hk2)
   have hbad:pairB x.orders l (nth l k)=false->l.all (pairB x.orders l)=false:=fun h4=>by
    rw [List.all_eq_false];exact ⟨nth l k,Zl hk2,by rw [h4];simp⟩
   obtain ⟨i,hi⟩: ∃i:Nat,(nth l k).order=(i:Int):=⟨(nth l k).order.toNat,by omega⟩
   have hp:pairB x.orders l (nth l k)=(decide (0<=vIx (Yk x.orders i) (nth l k))&&JY l (-1) (Yk x.orders i)):=by rw [pairB,hi];rfl
   rw [hi] at v1 v2;simp (disch:=omega) only [hi,go_sem,seval];refine (visits_c x.orders x.orders_c i (by omega) ho).use ?_;simp (disch:=omega) only [go_sem,seval];have hvl:=Zce x.orders i;have hcon:=Kw (Yk x.orders i) false (nth l k) (by omega);rw [ZeU,hi] at hcon;refine (hcon).use ?_;simp (disch:=omega) only [go_sem,seval];refine cD ?_ ?_<;>intro h2<;>simp (disch:=omega) only [Sh.out h2,go_sem,seval]
   ·rw [hbad (by rw [hp];simp;intro h3;omega)]
   ·have h2':0<=vIx (Yk x.orders i) (nth l k):=by omega
    generalize hown:Yk x.orders i=own at hvl hp h2' ⊢
    have hp2:pairB x.orders l (nth l k)=JY l (-1) own:=by rw [hp];simp [h2']
    refine Zf [1,2,12,13,14,27,28] (fun q:Nat×Int=> [(8,.p (.int .i64 q.2)),(29,.p (.int .i64 q.1))]) (fun _=> [Za x,.cells [.p (.int .i64 (i:Int)),.p (.bool (nth l k).drp)]]) (fun q=>q.1<=own.length/\JY l (-1) own=JY l q.2 (own.drop q.1)) (fun q=>own.length-q.1) (0,-1) (by simp) (Weak.mk ?_) ?_
    ·simp (disch:=omega) only [Za,go_sem,seval]
    ·rintro ⟨j,last⟩ ⟨hj,ha⟩;simp only at hj ha;simp (disch:=omega) only [Za,go_sem,seval];refine cD ?_ ?_<;>intro h3<;>simp (disch:=omega) only [Sh.out h3,go_sem,seval]
     ·have hj2:j<own.length:=by omega
      have hd:own.drop j=nth own j::own.drop (j+1):=by rw [List.drop_eq_getElem_cons hj2,Ze hj2]
      rw [hd] at ha;refine (ZdX l c (nth own j) hl).use ?_;simp (disch:=omega) only [go_sem,seval];refine cD ?_ ?_<;>intro h4<;>simp (disch:=omega) only [Sh.out h4,go_sem,seval]
      ·rw [hbad (by rw [hp2,ha,JY];simp;intro h5;omega)]
      ·have h5:last<vIx l (nth own j):=by omega
       exact ⟨(j+1,vIx l (nth own j)),⟨by simp only;omega,by rw [ha,JY];simp [h5]⟩,by simp only;omega,Weak.mk (by simp (disch:=omega) only [Za,go_sem,seval])⟩
     ·have hjl:j=own.length:=by omega
      subst hjl;exact ⟨k+1,⟨by omega,Zg.2 ⟨hno,by rw [hp2,ha];simp [JY]⟩⟩,by omega,Weak.mk (by simp (disch:=omega) only [Za,go_sem,seval])⟩
  ·have hkl:k=l.length:=by omega
   subst hkl
   have:l.all (pairB x.orders l)=true:=by
    rw [List.all_eq_true];intro v hv;obtain ⟨j,hj,rfl⟩:=List.mem_iff_getElem.1 hv;rw [<- Ze hj];exact hno j hj
   rw [this]
def Zy (r:Rte):AM.Obj:= .cells [.p (.int .i64 r.typ),.p (.int .i64 r.start),.p (.list r.rests_c (r.rests.map eB)),.p (.list r.visits_c (r.visits.map XY))]
def VS (x:Inst) (v:Vis):Bool:= !decide (0<=v.order/\v.order<(x.orders.length:Int))
theorem ZhK (x:Inst) (r:Rte) (v:Vis) (ho:x.orders.length<=1048576):ACalls Tryz.prog 154 [.p (XY v),.ptr 0 0] [Za x,Zy r] fun y H'=>y= .p (.bool (VS x v))/\H'= [Za x,Zy r]:=by
 refine Zd [] Tryz.func154 rfl Zqo ?_;simp (disch:=omega) only [Tryz.f154,Za,Zy,go_sem,seval];refine gF ?_ ?_<;>intro h<;>simp (disch:=omega) only [Sh.out h,go_sem,seval]
 ·have e:VS x v=true:=by
   have: ¬(0<=v.order):=by omega
   simp [VS,this]
  rw [e];exact we (by simp (disch:=omega) only [Za,Zy,go_sem,seval])
 ·have e:VS x v=decide ((x.orders.length:Int)<=v.order):=by
   have h0:0<=v.order:=by omega
   rw [Bool.eq_iff_iff];simp [VS,h0]
  rw [e];exact we (by simp (disch:=omega) only [Za,Zy,go_sem,seval])
theorem Zhi (x:Inst) (r:Rte) (v:Vis) (ho:x.orders.length<=1048576) (h1:0<=v.order) (h2:v.order<x.orders.length):ACalls Tryz.prog 155 [.p (XY v),.ptr 0 0] [Za x,Zy r] fun y H'=>y= .p (.bool (nth x.orders v.order.toNat).off)/\H'= [Za x,Zy r]:=by
 have h3:v.order.toNat<x.orders.length:=by omega
 refine Zd [] Tryz.func155 rfl Zpb ?_;simp (disch:=omega) only [Tryz.f155,Za,Zy,Xx,go_sem,seval];exact we (by simp (disch:=omega) only [Za,Zy,go_sem,seval])
def ZW (x:Inst) (l:List Vis):Int :=
 if l.length=0\/l.any (VS x)=true then 2
 else if (l.any fun v=>(nth x.orders v.order.toNat).off)=true then 9
 else if Y4 l=true then 6
 else if l.all (pairB x.orders l)=false then 19
 else if (x.apart.any fun p=>Xb l p.1&&Xb l p.2)=true then 20
 else if (x.before.any fun p=> !XF l p.1 p.2)=true then 21
 else 0
theorem ZcN (x:Inst) (r:Rte) (ho:x.orders.length<=1048576) (hl:r.visits.length<=1048576) (hap:x.apart.length<=1048576) (hbe:x.before.length<=1048576) :
  PC 110 [.p (ZC x),.p (YZ r)] (.int .i64 (ZW x r.visits)):=by
 refine Zb Tryz.func110 rfl Znx ?_;simp (disch:=omega) only [Tryz.f110,go_sem,seval];refine gF ?_ ?_<;>intro h0<;>simp (disch:=omega) only [Sh.out h0,go_sem,seval]
 ·have:r.visits.length=0:=by omega
  simp [ZW,this]
 ·have h00: ¬r.visits.length=0:=by omega
  refine (Ys r.visits r.visits_c 154 [.ptr 0 0] [Za x,Zy r] (VS x) hl (by simp (disch:=omega) only [Za,Zy,go_sem,seval]) (by rfl) (fun v _=>ZhK x r v ho)).useH ?_;simp (disch:=omega) only [Za,Zy,go_sem,seval];refine cD ?_ ?_<;>intro h1<;>simp (disch:=omega) only [Sh.out h1,go_sem,seval]
  ·rw [ZW,if_pos (.inr h1)]
  ·have h1':r.visits.any (VS x)=false:=by simpa using h1
   have c1: ¬(r.visits.length=0\/r.visits.any (VS x)=true):=by rw [h1'];simp;simpa using h00
   have hin: ∀v∈r.visits,0<=v.order/\v.order<x.orders.length:=fun v hv=>by
    rw [List.any_eq_false] at h1';simpa [VS] using h1' v hv
   refine (Ys r.visits r.visits_c 155 [.ptr 0 0] [Za x,Zy r] (fun v=>(nth x.orders v.order.toNat).off) hl (by simp (disch:=omega) only [Za,Zy,go_sem,seval]) (by rfl) (fun v hv=>Zhi x r v ho (hin v hv).1 (hin v hv).2)).useH ?_;simp (disch:=omega) only [Za,Zy,go_sem,seval];refine cD ?_ ?_<;>intro h2<;>simp (disch:=omega) only [Sh.out h2,go_sem,seval]
   ·rw [ZW,if_neg c1,if_pos h2]
   ·refine (ZkK r.visits r.visits_c hl).use ?_;simp (disch:=omega) only [go_sem,seval];refine cD ?_ ?_<;>intro h3<;>simp (disch:=omega) only [Sh.out h3,go_sem,seval]
    ·rw [ZW,if_neg c1,if_neg (by simpa using h2),if_pos h3]
    ·refine (ZaW x r.visits r.visits_c hl ho hin).use ?_;simp (disch:=omega) only [go_sem,seval];refine cD ?_ ?_<;>intro h4<;>simp (disch:=omega) only [Sh.out h4,go_sem,seval]
     ·have h4':r.visits.all (pairB x.orders r.visits)=false:=by simpa using h4
      rw [ZW,if_neg c1,if_neg (by simpa using h2),if_neg (by simpa using h3),if_pos h4']
     ·have h4':r.visits.all (pairB x.orders r.visits)=true:=by simpa using h4
      have hc:ZW x r.visits=if (x.apart.any fun p=>Xb r.visits p.1&&Xb r.visits p.2)=true then 20 else if (x.before.any fun p=> !XF r.visits p.1 p.2)=true then 21 else 0:=by
       rw [ZW,if_neg c1,if_neg (by simpa using h2),if_neg (by simpa using h3),if_neg (by rw [h4'];simp)]
      clear h4 h4' h3 h2 c1 h1' h1 h0;refine Zf [2,5,33,34] (fun k:Nat=> [(35,.p (.int .i64 k))]) (fun _=> [Za x,Zy r]) (fun k=>k<=x.apart.length/\ ∀j,j<k->(Xb r.visits (nth x.apart j).1&&Xb r.visits (nth x.apart j).2)=false) (fun k=>x.apart.length-k) 0 (by simp) (Weak.mk ?_) ?_
      ·simp (disch:=omega) only [Za,Zy,go_sem,seval]
      ·rintro k ⟨hk,hno⟩;simp (disch:=omega) only [Za,Zy,go_sem,seval];refine cD ?_ ?_<;>intro h<;>simp (disch:=omega) only [Sh.out h,go_sem,seval]
       ·have hk2:k<x.apart.length:=by omega
        refine (Ui r.visits r.visits_c (nth x.apart k).1 hl).use ?_;simp (disch:=omega) only [go_sem,seval];refine gT ?_ ?_<;>intro h2<;>simp (disch:=omega) only [Sh.out h2,go_sem,seval]
        ·refine (Ui r.visits r.visits_c (nth x.apart k).2 hl).use ?_;simp (disch:=omega) only [go_sem,seval];refine cD ?_ ?_<;>intro h3<;>simp (disch:=omega) only [Sh.out h3,go_sem,seval]
         ·rw [hc,if_pos (Vy hk2 (by rw [h2,h3];rfl))]
         ·exact ⟨k+1,⟨by omega,Zg.2 ⟨hno,by simp [h2];simpa using h3⟩⟩,by omega,Weak.mk (by simp (disch:=omega) only [Za,Zy,go_sem,seval])⟩
        ·exact ⟨k+1,⟨by omega,Zg.2 ⟨hno,by simp [h2]⟩⟩,by omega,Weak.mk (by simp (disch:=omega) only [Za,Zy,go_sem,seval])⟩
       ·have hkl:k=x.apart.length:=by omega
        subst hkl;rw [hc,Ky hno];clear hno hk h hc;rw [if_neg (by simp)];refine Zf [5,51,52] (fun k:Nat=> [(53,.p (.int .i64 k))]) (fun _=> [Za x,Zy r]) (fun k=>k<=x.before.length/\ ∀j,j<k->(!XF r.visits (nth x.before j).1 (nth x.before j).2)=false) (fun k=>x.before.length-k) 0 (by simp) (Weak.mk ?_) ?_
        ·simp (disch:=omega) only [Za,Zy,go_sem,seval]
        ·rintro k ⟨hk,hno⟩;simp (disch:=omega) only [Za,Zy,go_sem,seval];refine cD ?_ ?_<;>intro h<;>simp (disch:=omega) only [Sh.out h,go_sem,seval]
         ·have hk2:k<x.before.length:=by omega
          refine (Zay r.visits r.visits_c (nth x.before k).1 (nth x.before k).2 hl).use ?_;simp (disch:=omega) only [go_sem,seval];refine cD ?_ ?_<;>intro h2<;>simp (disch:=omega) only [Sh.out h2,go_sem,seval]
          ·have h3:(!XF r.visits (nth x.before k).1 (nth x.before k).2)=true:=by simpa using h2
           rw [if_pos (Vy hk2 h3)]
          ·have h3:(!XF r.visits (nth x.before k).1 (nth x.before k).2)=false:=by simpa using h2
           exact ⟨k+1,⟨by omega,Zg.2 ⟨hno,h3⟩⟩,by omega,Weak.mk (by simp (disch:=omega) only [Za,Zy,go_sem,seval])⟩
         ·have hkl:k=x.before.length:=by omega
          subst hkl;rw [Ky hno]
          rfl
@[go_sem] theorem Ztp {H:List AM.Obj} {n cs cs'} :wkV H n (.tup cs) (.tup cs')=(cs'=cs/\ZT n cs=true):=by simp [wkV,frz,refB]
@[go_sem] theorem Zct {a b:V} :YT [a,b]= .tup [a,b]:=Eq.trans rfl rfl
theorem Zdo {g:FuncId} {args:List V} {a b:PV} {H:List AM.Obj} {K:V->List AM.Obj->Prop} (h:ACalls Tryz.prog g args [] fun x H'=>x= .tup [.p a,.p b]/\H'= []) (k:K (.tup [.p a,.p b]) H) (ha:ZT 0 args=true:=by rfl):ACalls Tryz.prog g args H K :=
 (h.behind ha H).mono fun x H' hq=>by
  obtain ⟨y,H1,⟨rfl,rfl⟩,rfl,rfl⟩:=hq;simpa [shV,Zar] using k
def X2 (l:List Vis):Nat:=l.foldl (fun s v=>s|||pw v.order.toNat) 0
def inS (v:Vis):Bool:=decide (0<=v.order/\v.order<=62)
theorem Qj {l:List Vis} {k:Nat} (hk:k<l.length):X2 (l.take (k+1))=X2 (l.take k)|||pw (nth l k).order.toNat:=by
 rw [List.take_succ_eq_append_getElem hk,X2,List.foldl_append,Ze hk];rfl
theorem Qh : ∀(k:Nat) {l:List Vis},k<=l.length->(∀v∈l.take k,inS v=true)->X2 (l.take k)<9223372036854775808
 | 0,l,_,_=>by simp [X2]
 | k+1,l,hk,h=>by
  have hk2:k<l.length:=by omega
  have ih:=Qh k (l:=l) (by omega) fun v hv=>h v (List.take_subset_take_left l (by omega) hv);have hv:=h (nth l k) (by rw [Ze hk2];exact List.mem_iff_getElem.2 ⟨k,by simp;omega,by simp⟩);simp only [inS,decide_eq_true_eq] at hv;have h2:pw (nth l k).order.toNat<=pw 62:=Zez (by omega);have h3:=Zdb;rw [Qj hk2];exact Nat.or_lt_two_pow (n:=63) (by omega) (by omega)
def J4 (l:List Vis):Int×Int:=if l.all inS=true then (((X2 l:Nat):Int),0) else (0,2)
theorem WH (r:Rte) (hl:r.visits.length<=1048576):PT 89 [.p (YZ r)] [.p (.int .i64 (J4 r.visits).1),.p (.int .i64 (J4 r.visits).2)]:=by
 refine Zd [] Tryz.func89 rfl Zuk ?_;simp (disch:=omega) only [Tryz.f89,go_sem,seval];refine Zf [8,9] (fun k:Nat=> [(4,.p (.int .i64 (X2 (r.visits.take k):Nat))),(10,.p (.int .i64 k))]) (fun _=> [Zy r]) (fun k=>k<=r.visits.length/\ ∀j,j<k->inS (nth r.visits j)=true) (fun k=>r.visits.length-k) 0 (by simp) (Weak.mk ?_) ?_
 ·simp (disch:=omega) only [Zy,X2,List.take_zero,List.foldl_nil,go_sem,seval]
 ·rintro k ⟨hk,hno⟩
  have hlt:=Qh k hk fun v hv=>by
   obtain ⟨j,hj,rfl⟩:=List.mem_iff_getElem.1 hv;simp at hj;rw [List.getElem_take,<- Ze (by omega)];exact hno j (by omega)
  simp (disch:=omega) only [Zy,go_sem,seval];refine cD ?_ ?_<;>intro h<;>simp (disch:=omega) only [Sh.out h,go_sem,seval]
  ·have hk2:k<r.visits.length:=by omega
   have hbad:inS (nth r.visits k)=false->J4 r.visits=(0,2):=fun h4=>by
    have:r.visits.all inS=false:=by rw [List.all_eq_false];exact ⟨nth r.visits k,Zl hk2,by rw [h4];simp⟩
    simp [J4,this]
   have hs:=Qj hk2
   have hp:(nth r.visits k).order<=62->pw (nth r.visits k).order.toNat<=4611686018427387904:=fun h=>by rw [<- Zdb];exact Zez (by omega)
   refine gF ?_ ?_<;>intro h1<;>simp (disch:=omega) only [Sh.out h1,go_sem,seval]
   ·have e:=hbad (by simp [inS];omega);rw [e];exact we
   ·refine cD ?_ ?_<;>intro h2<;>simp (disch:=omega) only [Sh.out h2,go_sem,seval]
    ·have e:=hbad (by simp [inS];omega);rw [e];exact we
    ·exact ⟨k+1,⟨by omega,Zg.2 ⟨hno,by simp [inS];omega⟩⟩,by omega,Weak.mk (by simp (disch:=omega) only [Zy,hs,go_sem,seval])⟩
  ·have hkl:k=r.visits.length:=by omega
   subst hkl
   have:r.visits.all inS=true:=by
    rw [List.all_eq_true];intro v hv;obtain ⟨j,hj,rfl⟩:=List.mem_iff_getElem.1 hv;rw [<- Ze hj];exact hno j hj
   have e:J4 r.visits=(((X2 r.visits:Nat):Int),0):=by simp [J4,this]
   rw [e,List.take_length];exact we
def dn (v:Vis):Int:=if v.drp=true then 1 else 0
def UE (l own:List Vis):Bool:=own.all fun w=>decide (0<=vIx l w)
def Zhx (v:Vis):AM.Obj:= .cells [.p (.int .i64 v.order),.p (.bool v.drp)]
theorem Zel {l:List Vis} {v:Vis} : -1<=vIx l v/\vIx l v<l.length:=by
 have:=ZeV (f:=fun w=>decide (v=w)) (l:=l);rw [vIx];omega
def ZzH (nx:List Vis->List Vis):Nat->List Vis->List (List Vis)->List (List Vis)×Bool
 | 0,l,outs=>(outs++ [l],decide (outs.length+1<=8192))
 | f+1,l,outs=>(nx l).foldl (fun acc v=>if acc.2=true then ZzH nx f (l++ [v]) acc.1 else acc) (outs,true)
def UO (S:Nat) (i:Int):Bool:=decide (0<=i/\i<=62)&&S.testBit i.toNat
theorem W2 (S:Nat) (i:Int) (hS:S<9223372036854775808):PC 47 [.p (.int .i64 (S:Nat)),.p (.int .i64 i)] (.bool (UO S i)):=by
 refine Zb Tryz.func47 rfl Zv0 ?_;simp (disch:=omega) only [Tryz.f47,go_sem,seval];refine gT ?_ ?_<;>intro h<;>simp (disch:=omega) only [Sh.out h,go_sem,seval]
 ·refine gT ?_ ?_<;>intro h1<;>simp (disch:=omega) only [Sh.out h1,go_sem,seval]
  ·refine gT ?_ ?_<;>intro h2<;>simp (disch:=omega) only [Sh.out h2,go_sem,seval]
   ·have e:((S / pw i.toNat:Nat):Int).tmod 2=((S / pw i.toNat%2:Nat):Int):=by rw [Int.tmod_eq_emod_of_nonneg (Int.natCast_nonneg _)];exact (Int.natCast_emod _ _).symm
    rw [e];have h3:(((S / pw i.toNat%2:Nat):Int)=1)=(S.testBit i.toNat=true):=ZaV;have h4:0<=i/\i<=62:=⟨h1,h2⟩;simp only [h3,UO,h4,and_self,decide_true,Bool.true_and,Bool.decide_eq_true]
   ·simp [UO,h2]
  ·simp [UO,h1]
 ·omega
theorem Zam (x:Inst) (i:Nat) (hi:i<x.orders.length) (hl:x.orders.length<=1048576) (hpl: ∀o∈x.orders,-1<=o.pick.place/\ -1<=o.drp.place):ACalls Tryz.prog 179 [.p (ZC x),.p (.int .i64 (i:Nat))] [] fun y H'=>y= .sl 0 0 (Yk x.orders i).length (Yk x.orders i).length/\H'= [.elems 2 ((Yk x.orders i).map XY)]:=by
 suffices hh:ACalls Tryz.prog 179 [.p (ZC x),.p (.int .i64 (i:Nat))] [] fun y H'=> ∃m:List Vis,m=Yk x.orders i/\y= .sl 0 0 m.length m.length/\H'= [.elems 2 (m.map XY)] by
  refine hh.mono ?_;rintro x H' ⟨m,rfl,h1,h2⟩;exact ⟨h1,h2⟩
 obtain ⟨h1,h2⟩:=hpl _ (Zl hi);refine ZD [2] Tryz.func179 rfl Zqc ?_;simp (disch:=omega) only [Tryz.f179,go_sem,seval];refine Zn (Weak.ofNil 5 2 (by simp (disch:=omega) only [go_sem,seval]) (by simp) (Weak.refl _ _ _)) ?_;refine Zo [1,2] (fun m:List Vis=> [(5,.sl 1 0 m.length m.length)]) (fun m=> [Za x,.elems 2 (m.map XY)]) (fun m=>m=(if 0<=(nth x.orders i).pick.place then [⟨i,false⟩] else [])) ?_ ?_
 ·simp (disch:=omega) only [go_sem,seval];refine cD ?_ ?_<;>intro h<;>simp (disch:=omega) only [Sh.out h,go_sem,seval]
  ·exact ⟨[⟨i,false⟩],by rw [if_pos (by omega)],Weak.mk (by simp (disch:=omega) only [Za,go_sem,seval])⟩
  ·exact ⟨[],by rw [if_neg (by omega)],Weak.mk (by simp (disch:=omega) only [Za,go_sem,seval])⟩
 ·intro m hm
  have hml:m.length<=1:=by rw [hm];split<;>simp
  refine Zc [] _ _ _ _ ?_;simp (disch:=omega) only [Za,go_sem,seval];refine cD ?_ ?_<;>intro h<;>simp (disch:=omega) only [Sh.out h,go_sem,seval]
  ·exact ⟨m++ [⟨i,true⟩],by rw [Yk,hm,if_pos (c:=0<=(nth x.orders i).drp.place) (by omega)],1,by simp (disch:=omega) only [go_sem,seval]⟩
  ·exact ⟨m,by rw [Yk,hm,if_neg (c:=0<=(nth x.orders i).drp.place) (by omega),List.append_nil],1,by simp (disch:=omega) only [go_sem,seval]⟩
theorem ZdZ (x:Inst) (i:Nat) (hi:i<x.orders.length) (hl:x.orders.length<=1048576) (hpl: ∀o∈x.orders,-1<=o.pick.place/\ -1<=o.drp.place):PC 179 [.p (ZC x),.p (.int .i64 (i:Nat))] (.list false ((Yk x.orders i).map XY)) :=
 (Zam x i hi hl hpl).frozen (by simp)
theorem WS (l:List Vis) (c:Bool) (v:Vis) (hl:l.length<=1048576):PC 122 [.p (.list c (l.map XY)),.p (XY v)] (.int .i64 (vIx l v)):=by
 refine Zb Tryz.func122 rfl Zoy ?_;simp (disch:=omega) only [Tryz.f122,go_sem,seval];refine Zf [0,3] (fun k:Nat=> [(5,.p (.int .i64 k))]) (fun _=> [Zhx v]) (fun k=>k<=l.length/\ ∀j,j<k->decide (v=nth l j)=false) (fun k=>l.length-k) 0 (by simp) (Weak.mk ?_) ?_
 ·simp (disch:=omega) only [Zhx,go_sem,seval]
 ·rintro k ⟨hk,hno⟩;simp (disch:=omega) only [Zhx,go_sem,seval];refine cD ?_ ?_<;>intro h<;>simp (disch:=omega) only [Sh.out h,go_sem,seval]
  ·have hk2:k<l.length:=by omega
   refine Zh Zm (by kernel_rfl) (by kernel_rfl) ?_;simp (disch:=omega) only [go_sem,seval];refine cD ?_ ?_<;>intro h2<;>simp (disch:=omega) only [Sh.out h2,go_sem,seval]
   ·have:v=nth l k:=Eq.symm (by rw [Zge];simpa using h2);rw [vIx,ZbM hk2 (by simpa using this) hno]
   ·have: ¬v=nth l k:=fun e=>by rw [<- e] at h2;simp at h2
    exact ⟨k+1,⟨by omega,Zg.2 ⟨hno,by simpa using this⟩⟩,by omega,Weak.mk (by simp (disch:=omega) only [Zhx,go_sem,seval])⟩
  ·have hkl:k=l.length:=by omega
   subst hkl;rw [vIx,Zfc hno]
theorem ZaK (l s:List Vis) (c d:Bool) (hl:l.length<=1048576) (hs:s.length<=1048576):PC 180 [.p (.list c (l.map XY)),.p (.list d (s.map XY))] (.bool (UE l s)):=by
 refine Zb Tryz.func180 rfl ZnL ?_;simp (disch:=omega) only [Tryz.f180,go_sem,seval];refine Zf [0,1] (fun k:Nat=> [(5,.p (.int .i64 k))]) (fun _=> []) (fun k=>k<=s.length/\ ∀j,j<k->decide (0<=vIx l (nth s j))=true) (fun k=>s.length-k) 0 (by simp) (Weak.mk ?_) ?_
 ·simp (disch:=omega) only [go_sem,seval]
 ·rintro k ⟨hk,hno⟩;simp (disch:=omega) only [go_sem,seval];refine cD ?_ ?_<;>intro h<;>simp (disch:=omega) only [Sh.out h,go_sem,seval]
  ·have hk2:k<s.length:=by omega
   refine (WS l c (nth s k) hl).use ?_;simp (disch:=omega) only [go_sem,seval];refine cD ?_ ?_<;>intro h2<;>simp (disch:=omega) only [Sh.out h2,go_sem,seval]
   ·have:UE l s=false:=by rw [UE,List.all_eq_false];exact ⟨nth s k,Zl hk2,by simp;omega⟩
    rw [this]
   ·exact ⟨k+1,⟨by omega,Zg.2 ⟨hno,by simp;omega⟩⟩,by omega,wk⟩
  ·have hkl:k=s.length:=by omega
   subst hkl
   have:UE l s=true:=by
    rw [UE,List.all_eq_true];intro w hw;obtain ⟨j,hj,rfl⟩:=List.mem_iff_getElem.1 hw;rw [<- Ze hj];exact hno j hj
   rw [this]
theorem ZdO {S n:Nat} (h:S.testBit n=true):S|||pw n=S:=by
 apply Nat.eq_of_testBit_eq;intro i;rw [Nat.testBit_or,Q1]
 by_cases h2:n=i
 ·subst h2;simp [h]
 ·simp [h2]
theorem Zgp {S n:Nat} (h:S.testBit n=false):S|||pw n=S+pw n:=by
 have e:S%2^(n+1)=S%2^n+2^n*(S / 2^n%2):=Nat.mod_pow_succ;rw [Nat.testBit_eq_decide_div_mod_eq] at h
 have h0:S / 2^n%2=0:=by simp at h;omega
 rw [h0,Nat.mul_zero,Nat.add_zero] at e;have hp:0<2^n:=Nat.two_pow_pos n
 have hs:2^(n+1)=2^n+2^n:=by rw [Nat.pow_succ];omega
 have r1:S%2^(n+1)<2^n:=by rw [e];exact Nat.mod_lt _ hp
 have e1:=Nat.two_pow_add_eq_or_of_lt (i:=n) r1 1;have e2:=Nat.two_pow_add_eq_or_of_lt (i:=n+1) (b:=2^n*1+S%2^(n+1)) (by omega) (S / 2^(n+1));have e3:=Nat.two_pow_add_eq_or_of_lt (i:=n+1) (b:=S%2^(n+1)) (by omega) (S / 2^(n+1));have e4:=Nat.div_add_mod S (2^(n+1));rw [pw]
 calc S|||2^n=(2^(n+1)*(S / 2^(n+1))+S%2^(n+1))|||2^n:=by rw [e4]
  _=2^(n+1)*(S / 2^(n+1))|||(2^n*1|||S%2^(n+1)):=by rw [e3,Nat.or_assoc,Nat.mul_one,Nat.or_comm (2^n)]
  _=2^(n+1)*(S / 2^(n+1))+(2^n*1+S%2^(n+1)):=by rw [<- e1,<- e2]
  _=S+2^n:=by omega
theorem Ze3 (r:Rte) (hl:r.visits.length<=1048576):PT 20 [.p (YZ r)] [.p (.int .i64 (J4 r.visits).1),.p (.int .i64 (J4 r.visits).2)]:=by
 refine Zd [] Tryz.func20 rfl Zvu ?_;simp (disch:=omega) only [Tryz.f20,go_sem,seval];refine Zf [1] (fun k:Nat=> [(4,.p (.int .i64 (X2 (r.visits.take k):Nat))),(5,.p (.int .i64 k))]) (fun _=> [Zy r]) (fun k=>k<=r.visits.length/\ ∀j,j<k->inS (nth r.visits j)=true) (fun k=>r.visits.length-k) 0 (by simp) (Weak.mk ?_) ?_
 ·simp (disch:=omega) only [Zy,X2,List.take_zero,List.foldl_nil,go_sem,seval]
 ·rintro k ⟨hk,hno⟩
  have hlt:=Qh k hk fun v hv=>by
   obtain ⟨j,hj,rfl⟩:=List.mem_iff_getElem.1 hv;simp at hj;rw [List.getElem_take,<- Ze (by omega)];exact hno j (by omega)
  simp (disch:=omega) only [Zy,go_sem,seval];refine cD ?_ ?_<;>intro h<;>simp (disch:=omega) only [Sh.out h,go_sem,seval]
  ·have hk2:k<r.visits.length:=by omega
   have hbad:inS (nth r.visits k)=false->J4 r.visits=(0,2):=fun h4=>by
    have:r.visits.all inS=false:=by rw [List.all_eq_false];exact ⟨nth r.visits k,Zl hk2,by rw [h4];simp⟩
    simp [J4,this]
   have hs:=Qj hk2
   have hp:(nth r.visits k).order<=62->pw (nth r.visits k).order.toNat<=4611686018427387904:=fun h=>by rw [<- Zdb];exact Zez (by omega)
   refine gF ?_ ?_<;>intro h1<;>simp (disch:=omega) only [Sh.out h1,go_sem,seval]
   ·have e:=hbad (by simp [inS];omega);rw [e];exact we
   ·refine cD ?_ ?_<;>intro h2<;>simp (disch:=omega) only [Sh.out h2,go_sem,seval]
    ·have e:=hbad (by simp [inS];omega);rw [e];exact we
    ·have h4:=hp (by omega);refine (W2 (X2 (r.visits.take k)) (nth r.visits k).order hlt).use ?_;simp (disch:=omega) only [go_sem,seval]
     have hin:0<=(nth r.visits k).order/\(nth r.visits k).order<=62:=by omega
     have hnh:UO (X2 (r.visits.take k)) (nth r.visits k).order=(X2 (r.visits.take k)).testBit (nth r.visits k).order.toNat:=by simp [UO,hin]
     rw [hnh];have hno2:=(Zg (p:=fun j=>inS (nth r.visits j)=true)).2 ⟨hno,by simp [inS];omega⟩
     have hlt2:=Qh (k+1) hk2 fun v hv=>by
      obtain ⟨j,hj,rfl⟩:=List.mem_iff_getElem.1 hv;simp at hj;rw [List.getElem_take,<- Ze (by omega)];exact hno2 j (by omega)
     refine cD ?_ ?_<;>intro h5<;>simp (disch:=omega) only [Sh.out h5,go_sem,seval]
     ·have h6:(X2 (r.visits.take k)).testBit (nth r.visits k).order.toNat=false:=by simpa using h5
      rw [Zgp h6] at hs;rw [hs] at hlt2;exact ⟨k+1,⟨by omega,hno2⟩,by omega,Weak.mk (by simp (disch:=omega) only [Zy,hs,Int.natCast_add,go_sem,seval])⟩
     ·have h6:(X2 (r.visits.take k)).testBit (nth r.visits k).order.toNat=true:=by simpa using h5
      rw [ZdO h6] at hs;exact ⟨k+1,⟨by omega,hno2⟩,by omega,Weak.mk (by simp (disch:=omega) only [Zy,hs,go_sem,seval])⟩
  ·have hkl:k=r.visits.length:=by omega
   subst hkl
   have:r.visits.all inS=true:=by
    rw [List.all_eq_true];intro v hv;obtain ⟨j,hj,rfl⟩:=List.mem_iff_getElem.1 hv;rw [<- Ze hj];exact hno j hj
   have e:J4 r.visits=(((X2 r.visits:Nat):Int),0):=by simp [J4,this]
   rw [e,List.take_length];exact we
def Plc (x:Inst):Prop:= ∀o∈x.orders,-1<=o.pick.place/\ -1<=o.drp.place
theorem ZkH {l:List Vis} {v w:Vis} (h:vIx l v=vIx l w) (h0:0<=vIx l v):v=w:=by
 unfold vIx fIx at h h0
 cases hv:l.findIdx? (fun u=>decide (v=u)) with
 | none=>rw [hv] at h0;simp at h0
 | some i =>
  rw [hv] at h
  cases hw:l.findIdx? (fun u=>decide (w=u)) with
  | none=>rw [hw] at h;simp at h
  | some j =>
   rw [hw] at h
   have hij:i=j:=by simp at h;omega
   subst hij;rw [List.findIdx?_eq_some_iff_getElem] at hv hw;obtain ⟨h1,h2,_⟩:=hv;obtain ⟨_,h4,_⟩:=hw;simp at h2 h4;rw [h2,h4]
theorem ZcW (os:List Ord) (i:Nat):Yk os i= []\/Yk os i= [⟨i,false⟩]\/Yk os i= [⟨i,true⟩]\/Yk os i= [⟨i,false⟩,⟨i,true⟩]:=by
 unfold Yk;split<;>split<;>simp
theorem ZhE {l own:List Vis} (ho:own= []\/(∃v,own= [v])\/ ∃v w,own= [v,w]/\v≠w) :
  JY l (-1) own=(UE l own&& !(decide (own.length=2)&&decide (vIx l (nth own 1)<vIx l (nth own 0)))):=by
 rcases ho with rfl | ⟨v,rfl⟩ | ⟨v,w,rfl,hne⟩
 ·rfl
 ·have:= @Zel l v
  by_cases h:0<=vIx l v
  ·have: -1<vIx l v:=by omega
   simp [JY,UE,h,this]
  ·have: ¬ -1<vIx l v:=by omega
   simp [JY,UE,h,this]
 ·have hne2:0<=vIx l v->vIx l v≠vIx l w:=fun h0 h=>hne (ZkH h h0);have h1:= @Zel l v;have h2:= @Zel l w;rw [Bool.eq_iff_iff];simp [JY,UE,nth];omega
theorem Zgs (os:List Ord) (i:Nat):Yk os i= []\/(∃v,Yk os i= [v])\/ ∃v w,Yk os i= [v,w]/\v≠w:=by
 rcases ZcW os i with h | h | h | h
 ·exact .inl h
 ·exact .inr (.inl ⟨_,h⟩)
 ·exact .inr (.inl ⟨_,h⟩)
 ·exact .inr (.inr ⟨_,_,h,by simp⟩)
theorem Zci {α:Type} [Inhabited α] {l:List α} {f:α->Bool} {k:Nat} (hk:k<l.length) (h:f (nth l k)=false):l.all f=false:=by
 rw [List.all_eq_false];exact ⟨nth l k,Zl hk,by rw [h];simp⟩
theorem ZeF {α:Type} [Inhabited α] {l:List α} {f:α->Bool} (h: ∀j,j<l.length->f (nth l j)=true):l.all f=true:=by
 rw [List.all_eq_true];intro v hv;obtain ⟨j,hj,rfl⟩:=List.mem_iff_getElem.1 hv;rw [<- Ze hj];exact h j hj
theorem Ze7 (x:Inst) (l:List Vis) (c:Bool) (hl:l.length<=1048576) (ho:x.orders.length<=1048576) (hp:Plc x) (hv: ∀v∈l,0<=v.order/\v.order<x.orders.length) :
  PC 123 [.p (ZC x),.p (.list c (l.map XY))] (.bool (l.all (pairB x.orders l))):=by
 refine Zb Tryz.func123 rfl Zny ?_;simp (disch:=omega) only [Tryz.f123,go_sem,seval];refine Zf [1,2] (fun k:Nat=> [(5,.p (.int .i64 k))]) (fun _=> [Za x]) (fun k=>k<=l.length/\ ∀j,j<k->pairB x.orders l (nth l j)=true) (fun k=>l.length-k) 0 (by simp) (Weak.mk ?_) ?_
 ·simp (disch:=omega) only [Za,go_sem,seval]
 ·rintro k ⟨hk,hno⟩;simp (disch:=omega) only [Za,go_sem,seval];refine cD ?_ ?_<;>intro h<;>simp (disch:=omega) only [Sh.out h,go_sem,seval]
  ·have hk2:k<l.length:=by omega
   obtain ⟨v1,v2⟩:=hv _ (Zl hk2);obtain ⟨i,hi⟩: ∃i:Nat,(nth l k).order=(i:Int):=⟨(nth l k).order.toNat,by omega⟩;rw [hi] at v1 v2
   have hpb:pairB x.orders l (nth l k)=(decide (0<=vIx (Yk x.orders i) (nth l k))&&JY l (-1) (Yk x.orders i)):=by rw [pairB,hi];rfl
   have hown:=Zgs x.orders i;rw [ZhE hown] at hpb;refine Zh Zm (by kernel_rfl) (by kernel_rfl) ?_;simp (disch:=omega) only [hi,go_sem,seval];refine Zs (ZdZ x i (by omega) ho hp) ?_;simp (disch:=omega) only [go_sem,seval];have hvl:=Zce x.orders i;generalize Yk x.orders i=own at hvl hpb;have hix:=WS own false (nth l k) (by omega);rw [ZeU,hi] at hix;refine Zh Zm (by kernel_rfl) (by kernel_rfl) ?_;simp (disch:=omega) only [hi,go_sem,seval];refine Zs (hix) ?_;simp (disch:=omega) only [go_sem,seval];refine gF ?_ ?_<;>intro h2<;>simp (disch:=omega) only [Sh.out h2,go_sem,seval]
   ·have h3: ¬ 0<=vIx own (nth l k):=by omega
    rw [Zci hk2 (by rw [hpb];simp [h3])]
   ·have h3:0<=vIx own (nth l k):=by omega
    have hgo:pairB x.orders l (nth l k)=true-> ∀j,j<k+1->pairB x.orders l (nth l j)=true:=fun e=>Zg.2 ⟨hno,e⟩;refine Zs (ZaK l own c false hl (by omega)) ?_;simp (disch:=omega) only [go_sem,seval];refine gF ?_ ?_<;>intro h4<;>simp (disch:=omega) only [Sh.out h4,go_sem,seval]
    ·have h5:UE l own=false:=by simpa using h4
     rw [Zci hk2 (by rw [hpb,h5];simp)]
    ·have h5:UE l own=true:=by simpa using h4
     rw [h5] at hpb;refine gT ?_ ?_<;>intro h6<;>simp (disch:=omega) only [Sh.out h6,go_sem,seval]
     ·have h7:own.length=2:=by omega
      refine Zs (WS l c (nth own 0) hl) ?_;simp (disch:=omega) only [go_sem,seval];refine Zs (WS l c (nth own 1) hl) ?_;simp (disch:=omega) only [go_sem,seval];refine cD ?_ ?_<;>intro h8<;>simp (disch:=omega) only [Sh.out h8,go_sem,seval]
      ·rw [Zci hk2 (by rw [hpb];simp [h7,h8])]
      ·exact ⟨k+1,⟨by omega,hgo (by rw [hpb];simp [h3];omega)⟩,by omega,Weak.mk (by simp (disch:=omega) only [Za,go_sem,seval])⟩
     ·exact ⟨k+1,⟨by omega,hgo (by rw [hpb];simp [h3];omega)⟩,by omega,Weak.mk (by simp (disch:=omega) only [Za,go_sem,seval])⟩
  ·have hkl:k=l.length:=by omega
   subst hkl;rw [ZeF hno]
def apB (x:Inst) (S:Nat):Bool:=x.apart.any fun p=>UO S p.1&&UO S p.2
theorem ZhQ (x:Inst) (S:Nat) (hS:S<9223372036854775808) (ha:x.apart.length<=1048576):PC 124 [.p (ZC x),.p (.int .i64 (S:Nat))] (.bool (!apB x S)):=by
 refine Zb Tryz.func124 rfl ZoX ?_;simp (disch:=omega) only [Tryz.f124,go_sem,seval];refine Zf [1,2] (fun k:Nat=> [(5,.p (.int .i64 k))]) (fun _=> [Za x]) (fun k=>k<=x.apart.length/\ ∀j,j<k->(UO S (nth x.apart j).1&&UO S (nth x.apart j).2)=false) (fun k=>x.apart.length-k) 0 (by simp) (Weak.mk ?_) ?_
 ·simp (disch:=omega) only [Za,go_sem,seval]
 ·rintro k ⟨hk,hno⟩;simp (disch:=omega) only [Za,go_sem,seval];refine cD ?_ ?_<;>intro h<;>simp (disch:=omega) only [Sh.out h,go_sem,seval]
  ·have hk2:k<x.apart.length:=by omega
   refine (W2 S (nth x.apart k).1 hS).use ?_;simp (disch:=omega) only [go_sem,seval];refine gT ?_ ?_<;>intro h2<;>simp (disch:=omega) only [Sh.out h2,go_sem,seval]
   ·refine (W2 S (nth x.apart k).2 hS).use ?_;simp (disch:=omega) only [go_sem,seval];refine cD ?_ ?_<;>intro h3<;>simp (disch:=omega) only [Sh.out h3,go_sem,seval]
    ·have:apB x S=true:=Vy hk2 (by rw [h2,h3];rfl);rw [this];rfl
    ·exact ⟨k+1,⟨by omega,Zg.2 ⟨hno,by rw [h2,h3];rfl⟩⟩,by omega,Weak.mk (by simp (disch:=omega) only [Za,go_sem,seval])⟩
   ·exact ⟨k+1,⟨by omega,Zg.2 ⟨hno,by rw [h2];rfl⟩⟩,by omega,Weak.mk (by simp (disch:=omega) only [Za,go_sem,seval])⟩
  ·have hkl:k=x.apart.length:=by omega
   subst hkl;have:apB x S=false:=Ky hno;rw [this];rfl
def V7 (l:List Vis) (a b:Int) (j k:Nat):Bool:=decide ((nth l j).order=a)&&decide ((nth l k).order=b)
def Va (S:Nat) (l:List Vis) (p:Int×Int):Bool:= !UO S p.2||(UO S p.1&&(List.range l.length).all fun j=>(List.range j).all fun k=> !V7 l p.1 p.2 j k)
theorem ZdP (x:Inst) (S:Nat) (l:List Vis) (c:Bool) (hS:S<9223372036854775808) (hl:l.length<=1048576) (hb:x.before.length<=1048576):PC 125 [.p (ZC x),.p (.int .i64 (S:Nat)),.p (.list c (l.map XY))] (.bool (x.before.all (Va S l))):=by
 refine Zb Tryz.func125 rfl ZpX ?_;simp (disch:=omega) only [Tryz.f125,go_sem,seval];refine Zf [1,2,3] (fun k:Nat=> [(7,.p (.int .i64 k))]) (fun _=> [Za x]) (fun k=>k<=x.before.length/\ ∀j,j<k->Va S l (nth x.before j)=true) (fun k=>x.before.length-k) 0 (by simp) (Weak.mk ?_) ?_
 ·simp (disch:=omega) only [Za,go_sem,seval]
 ·rintro i ⟨hi,hno⟩;simp (disch:=omega) only [Za,go_sem,seval];refine cD ?_ ?_<;>intro h<;>simp (disch:=omega) only [Sh.out h,go_sem,seval]
  ·have hi2:i<x.before.length:=by omega
   have hgo:Va S l (nth x.before i)=true-> ∀j,j<i+1->Va S l (nth x.before j)=true:=fun e=>Zg.2 ⟨hno,e⟩;have hbad:Va S l (nth x.before i)=false->x.before.all (Va S l)=false:=fun e=>Zci hi2 e;have hdef:Va S l (nth x.before i)=(!UO S (nth x.before i).2||(UO S (nth x.before i).1&&(List.range l.length).all fun j=>(List.range j).all fun k=> !V7 l (nth x.before i).1 (nth x.before i).2 j k)):=rfl;generalize Va S l (nth x.before i)=R at hgo hbad hdef;generalize nth x.before i=p at hdef ⊢;refine (W2 S p.2 hS).use ?_;simp (disch:=omega) only [go_sem,seval]
   refine cD ?_ ?_<;>intro h2<;>simp (disch:=omega) only [Sh.out h2,go_sem,seval]
   ·have h3:UO S p.2=false:=by simpa using h2
    exact ⟨i+1,⟨by omega,hgo (by rw [hdef,h3];rfl)⟩,by omega,Weak.mk (by simp (disch:=omega) only [Za,go_sem,seval])⟩
   ·have h3:UO S p.2=true:=by simpa using h2
    refine (W2 S p.1 hS).use ?_;simp (disch:=omega) only [go_sem,seval];refine cD ?_ ?_<;>intro h4<;>simp (disch:=omega) only [Sh.out h4,go_sem,seval]
    ·have h5:UO S p.1=false:=by simpa using h4
     rw [hbad (by rw [hdef,h3,h5];rfl)]
    ·have h5:UO S p.1=true:=by simpa using h4
     rw [h3,h5] at hdef;simp only [Bool.not_true,Bool.false_or,Bool.true_and] at hdef;refine Zf [1,2,3,7,8,9] (fun k:Nat=> [(10,.p (.int .i64 k))]) (fun _=> [Za x]) (fun k=>k<=l.length/\ ∀j,j<k-> ∀q,q<j->V7 l p.1 p.2 j q=false) (fun k=>l.length-k) 0 (by simp) (Weak.mk ?_) ?_
     ·simp (disch:=omega) only [Za,go_sem,seval]
     ·rintro j ⟨hj,hnj⟩;simp (disch:=omega) only [Za,go_sem,seval];refine cD ?_ ?_<;>intro h6<;>simp (disch:=omega) only [Sh.out h6,go_sem,seval]
      ·have hj2:j<l.length:=by omega
       refine Zf [1,2,3,7,8,9,10] (fun k:Nat=> [(11,.p (.int .i64 k))]) (fun _=> [Za x]) (fun k=>k<=j/\ ∀q,q<k->V7 l p.1 p.2 j q=false) (fun k=>j-k) 0 (by simp) (Weak.mk ?_) ?_
       ·simp (disch:=omega) only [Za,go_sem,seval]
       ·rintro k ⟨hk,hnk⟩;simp (disch:=omega) only [Za,go_sem,seval];refine cD ?_ ?_<;>intro h7<;>simp (disch:=omega) only [Sh.out h7,go_sem,seval]
        ·have hk2:k<j:=by omega
         refine gT ?_ ?_<;>intro h8<;>simp (disch:=omega) only [Sh.out h8,go_sem,seval]
         ·refine cD ?_ ?_<;>intro h9<;>simp (disch:=omega) only [Sh.out h9,go_sem,seval]
          ·rw [hbad (by
            rw [hdef,List.all_eq_false];refine ⟨j,by simpa using hj2,?_⟩;rw [Bool.not_eq_true,List.all_eq_false]
            exact ⟨k,by simpa using hk2,by simp [V7,h8,h9]⟩)]
          ·exact ⟨k+1,⟨by omega,Zg.2 ⟨hnk,by simp [V7,h9]⟩⟩,by omega,Weak.mk (by simp (disch:=omega) only [Za,go_sem,seval])⟩
         ·exact ⟨k+1,⟨by omega,Zg.2 ⟨hnk,by simp [V7,h8]⟩⟩,by omega,Weak.mk (by simp (disch:=omega) only [Za,go_sem,seval])⟩
        ·have hkl:k=j:=by omega
         subst hkl;exact ⟨k+1,⟨by omega,(Zg (p:=fun j=> ∀q,q<j->V7 l p.1 p.2 j q=false)).2 ⟨hnj,hnk⟩⟩,by omega,Weak.mk (by simp (disch:=omega) only [Za,go_sem,seval])⟩
      ·have hjl:j=l.length:=by omega
       subst hjl;refine ⟨i+1,⟨by omega,hgo ?_⟩,by omega,Weak.mk (by simp (disch:=omega) only [Za,go_sem,seval])⟩;rw [hdef,List.all_eq_true];intro j hj;rw [List.all_eq_true];intro k hk;simp at hj hk;simp [hnj j hj k hk]
  ·have hkl:i=x.before.length:=by omega
   subst hkl;rw [ZeF hno]
theorem Zhe {S:Nat} {i:Int} :UO S i=true↔0<=i/\i<=62/\S.testBit i.toNat=true:=by simp [UO,and_assoc]
theorem WN {l:List Vis} {v:Vis} :0<=vIx l v↔v∈l:=by
 have:=ZfV (f:=fun w=>decide (v=w)) (l:=l)
 have h2:(l.any fun w=>decide (v=w))=true↔v∈l:=by
  rw [List.any_eq_true];exact ⟨fun ⟨w,hw,e⟩=>by simp at e;rw [e];exact hw,fun h=>⟨v,h,by simp⟩⟩
 rw [<- h2,<- this,vIx];simp
def Vne (x:Inst):Prop:= ∀i,i<x.orders.length->Yk x.orders i≠ []
def ext (nx:List Vis->List Vis):Nat->List Vis->List (List Vis)->List (List Vis)
 | 0,l,outs=>if 8192<outs.length then outs else outs++ [l]
 | f+1,l,outs=>if 8192<outs.length then outs else (nx l).foldl (fun acc v=>ext nx f (l++ [v]) acc) outs
def Ziy (x:Inst) (l:List Vis):Int :=
 if l.any (VS x)=true then 2
 else if l.length=0 then 2
 else if (l.any fun v=>(nth x.orders v.order.toNat).off)=true then 9
 else if ((List.range l.length).any fun i=>decide (vIx l (nth l i)≠(i:Int)))=true then 6
 else if l.all (pairB x.orders l)=false then 19
 else if apB x (X2 l)=true then 20
 else if x.before.all (Va (X2 l) l)=false then 21
 else 0
theorem Zda (x:Inst) (r:Rte) (ho:x.orders.length<=60) (hl:r.visits.length<=1048576) (hap:x.apart.length<=1048576) (hbe:x.before.length<=1048576) (hp:Plc x) :
  PC 81 [.p (ZC x),.p (YZ r)] (.int .i64 (Ziy x r.visits)):=by
 refine Zb Tryz.func81 rfl ZwD ?_;simp (disch:=omega) only [Tryz.f81,go_sem,seval];refine Zf [2,3,5] (fun k:Nat=> [(6,.p (.int .i64 k))]) (fun _=> [Za x,Zy r]) (fun k=>k<=r.visits.length/\ ∀j,j<k->VS x (nth r.visits j)=false) (fun k=>r.visits.length-k) 0 (by simp) (Weak.mk ?_) ?_
 ·simp (disch:=omega) only [Za,Zy,go_sem,seval]
 ·rintro k ⟨hk,hno⟩;simp (disch:=omega) only [Za,Zy,go_sem,seval];refine cD ?_ ?_<;>intro h<;>simp (disch:=omega) only [Sh.out h,go_sem,seval]
  ·have hk2:k<r.visits.length:=by omega
   refine Zh Zm (by kernel_rfl) (by kernel_rfl) ?_;simp (disch:=omega) only [go_sem,seval];refine gF ?_ ?_<;>intro h2<;>simp (disch:=omega) only [Sh.out h2,go_sem,seval]
   ·have:VS x (nth r.visits k)=true:=by simp [VS];omega
    rw [Ziy,if_pos (Vy hk2 this)]
   ·refine cD ?_ ?_<;>intro h3<;>simp (disch:=omega) only [Sh.out h3,go_sem,seval]
    ·have:VS x (nth r.visits k)=true:=by simp [VS];omega
     rw [Ziy,if_pos (Vy hk2 this)]
    ·exact ⟨k+1,⟨by omega,Zg.2 ⟨hno,by simp [VS];omega⟩⟩,by omega,Weak.mk (by simp (disch:=omega) only [Za,Zy,go_sem,seval])⟩
  ·have hkl:k=r.visits.length:=by omega
   subst hkl
   have hr1:Ziy x r.visits=if r.visits.length=0 then 2 else if (r.visits.any fun v=>(nth x.orders v.order.toNat).off)=true then 9 else if ((List.range r.visits.length).any fun i=>decide (vIx r.visits (nth r.visits i)≠(i:Int)))=true then 6 else if r.visits.all (pairB x.orders r.visits)=false then 19 else if apB x (X2 r.visits)=true then 20 else if x.before.all (Va (X2 r.visits) r.visits)=false then 21 else 0:=by
    rw [Ziy,if_neg (by rw [Ky hno];simp)]
   have hin: ∀j,j<r.visits.length->0<=(nth r.visits j).order/\(nth r.visits j).order<x.orders.length:=fun j hj=>by
    have:=hno j hj;simpa [VS] using this
   have hmem: ∀v∈r.visits,0<=v.order/\v.order<x.orders.length:=fun v hv=>by
    obtain ⟨j,hj,rfl⟩:=List.mem_iff_getElem.1 hv;rw [<- Ze hj];exact hin j hj
   have hord:J4 r.visits=(((X2 r.visits:Nat):Int),0):=by
    rw [J4,if_pos];rw [List.all_eq_true];intro v hv;have:=hmem v hv;simp [inS];omega
   have hlt:X2 r.visits<9223372036854775808:=by
    have:=Qh r.visits.length (l:=r.visits) (Nat.le_refl _) (fun v hv=>by
     rw [List.take_length] at hv;have:=hmem v hv
     simp [inS];omega)
    rwa [List.take_length] at this
   have hoc:=Ze3 r hl;rw [hord] at hoc;refine Zdo hoc ?_;simp (disch:=omega) only [Za,Zy,go_sem,seval];refine cD ?_ ?_<;>intro h3<;>simp (disch:=omega) only [Sh.out h3,go_sem,seval]
   ·rw [hr1,if_pos (by omega)]
   ·rw [hr1,if_neg (by omega)];clear hno hr1 h3 h hk;refine Zf [2,5,7] (fun k:Nat=> [(9,.p (.int .i64 k))]) (fun _=> [Za x,Zy r]) (fun k=>k<=r.visits.length/\ ∀j,j<k->(nth x.orders (nth r.visits j).order.toNat).off=false) (fun k=>r.visits.length-k) 0 (by simp) (Weak.mk ?_) ?_
    ·simp (disch:=omega) only [Za,Zy,go_sem,seval]
    ·rintro k ⟨hk,hno⟩;simp (disch:=omega) only [Za,Zy,go_sem,seval];refine cD ?_ ?_<;>intro h<;>simp (disch:=omega) only [Sh.out h,go_sem,seval]
     ·have hk2:k<r.visits.length:=by omega
      obtain ⟨i1,i2⟩:=hin k hk2
      have i3:(nth r.visits k).order.toNat<x.orders.length:=by omega
      refine Zh Zm (by kernel_rfl) (by kernel_rfl) ?_;simp (disch:=omega) only [Xx,go_sem,seval];refine cD ?_ ?_<;>intro h4<;>simp (disch:=omega) only [Sh.out h4,go_sem,seval]
      ·rw [if_pos (Vy hk2 h4)]
      ·exact ⟨k+1,⟨by omega,Zg.2 ⟨hno,h4⟩⟩,by omega,Weak.mk (by simp (disch:=omega) only [Za,Zy,go_sem,seval])⟩
     ·have hkl:k=r.visits.length:=by omega
      subst hkl;have e9:(r.visits.any fun v=>(nth x.orders v.order.toNat).off)=false:=Ky hno;rw [e9,if_neg (by simp)];clear hno h hk;refine Zf [2,5,7] (fun k:Nat=> [(10,.p (.int .i64 k))]) (fun _=> [Za x,Zy r]) (fun k=>k<=r.visits.length/\ ∀j,j<k->vIx r.visits (nth r.visits j)=(j:Int)) (fun k=>r.visits.length-k) 0 (by simp) (Weak.mk ?_) ?_
      ·simp (disch:=omega) only [Za,Zy,go_sem,seval]
      ·rintro k ⟨hk,hno⟩;simp (disch:=omega) only [Za,Zy,go_sem,seval];refine cD ?_ ?_<;>intro h<;>simp (disch:=omega) only [Sh.out h,go_sem,seval]
       ·have hk2:k<r.visits.length:=by omega
        refine (WS r.visits r.visits_c (nth r.visits k) hl).use ?_;simp (disch:=omega) only [go_sem,seval];refine cD ?_ ?_<;>intro h4<;>simp (disch:=omega) only [Sh.out h4,go_sem,seval]
        ·have:((List.range r.visits.length).any fun i=>decide (vIx r.visits (nth r.visits i)≠(i:Int)))=true:=by
          rw [List.any_eq_true];exact ⟨k,by simpa using hk2,by simpa using h4⟩
         rw [if_pos this]
        ·exact ⟨k+1,⟨by omega,Zg.2 ⟨hno,by omega⟩⟩,by omega,Weak.mk (by simp (disch:=omega) only [Za,Zy,go_sem,seval])⟩
       ·have hkl:k=r.visits.length:=by omega
        subst hkl
        have:((List.range r.visits.length).any fun i=>decide (vIx r.visits (nth r.visits i)≠(i:Int)))=false:=by
         rw [List.any_eq_false];intro i hi;simpa using hno i (by simpa using hi)
        rw [this,if_neg (by simp)];refine (Ze7 x r.visits r.visits_c hl (by omega) hp hmem).use ?_;simp (disch:=omega) only [go_sem,seval];refine cD ?_ ?_<;>intro h4<;>simp (disch:=omega) only [Sh.out h4,go_sem,seval]
        ·rw [if_pos (by simpa using h4)]
        ·rw [if_neg (by simpa using h4)];refine (ZhQ x (X2 r.visits) hlt hap).use ?_;simp (disch:=omega) only [go_sem,seval];refine cD ?_ ?_<;>intro h5<;>simp (disch:=omega) only [Sh.out h5,go_sem,seval]
         ·rw [if_pos (by simpa using h5)]
         ·rw [if_neg (by simpa using h5)];refine (ZdP x (X2 r.visits) r.visits r.visits_c hlt hl hbe).use ?_;simp (disch:=omega) only [go_sem,seval];refine cD ?_ ?_<;>intro h6<;>simp (disch:=omega) only [Sh.out h6,go_sem,seval]
          ·rw [if_pos (by simpa using h6)]
          ·rw [if_neg (by simpa using h6)]
structure IFacts (x:Inst):Prop where
 len:x.orders.length<=10
 plc:Plc x
 vne:Vne x
 val:Val x.orders.length x.before
 ne: ∀p∈x.before,p.1≠p.2
 aval:Val x.orders.length x.apart
theorem Zi4 {n:Int} {word:List UInt8} {sm:Int×Int->Int×Int->Bool} {l:List (Int×Int)} (h:JQ n word sm l l.length= []): ∀p∈l,okP n p=true:=by
 intro p hp;obtain ⟨i,hi,rfl⟩:=List.mem_iff_getElem.1 hp;have h2:=(List.append_eq_nil_iff.1 h).2;rw [List.flatMap_eq_nil_iff] at h2;have h3:=h2 i (by simpa using hi);rw [flt,Ze hi] at h3
 cases h4:okP n l[i] with
 | true=>rfl
 | false=>rw [h4] at h3;simp at h3
theorem KD {x:Inst} (h:InstOk x):IFacts x:=by
 have ho:=h.orders;obtain ⟨h1,h2⟩:=List.append_eq_nil_iff.1 h.rules;have ha:=Zi4 h1;have hb:=Zi4 h2
 have hpl:Plc x:=fun o hm=>by
  obtain ⟨i,hi,rfl⟩:=List.mem_iff_getElem.1 hm;have:=ho.2 i hi;rw [<- Ze hi];exact ⟨this.pick.1,this.drp.1⟩
 have val: ∀l:List (Int×Int),(∀p∈l,okP x.orders.length p=true)->Val x.orders.length l:=fun l h p hp=>by
  have:=h p hp;simp [okP] at this;omega
 refine ⟨ho.1,hpl,fun i hi=> ?_,val _ hb,fun p hp=> ?_,val _ ha⟩
 ·have h3:=ho.2 i hi;have h4:=hpl _ (Zl hi);have h5:=h3.one;unfold Yk
  by_cases h6:0<=(nth x.orders i).pick.place
  ·simp [h6]
  ·have:0<=(nth x.orders i).drp.place:=by omega
   simp [this]
 ·have:=hb p hp;simp [okP] at this;exact this.2
theorem Z5 {l:List Vis} {o:Int} :Xb l o=true↔ ∃v∈l,v.order=o:=by simp [Xb]
theorem Uc : ∀(l:List Vis) (i:Nat),(X2 l).testBit i=true↔ ∃v∈l,v.order.toNat=i:=by
 have key: ∀(l:List Vis) (s i:Nat),(l.foldl (fun s v=>s|||pw v.order.toNat) s).testBit i=true↔s.testBit i=true\/ ∃v∈l,v.order.toNat=i:=by
  intro l
  induction l with
  | nil=>intro s i;simp
  | cons v l ih =>
   intro s i;rw [List.foldl_cons,ih,Nat.testBit_or,Q1,Bool.or_eq_true,decide_eq_true_eq,or_assoc];refine or_congr Iff.rfl ?_
   constructor
   ·rintro (h | ⟨w,hw,h⟩)
    ·exact ⟨v,by simp,h⟩
    ·exact ⟨w,by simp [hw],h⟩
   ·rintro ⟨w,hw,h⟩;rcases List.mem_cons.1 hw with rfl | hw
    ·exact .inl h
    ·exact .inr ⟨w,hw,h⟩
 intro l i;rw [X2,key];simp
def Inr (x:Inst) (l:List Vis):Prop:= ∀v∈l,0<=v.order/\v.order<x.orders.length
theorem Up {x:Inst} {l:List Vis} (hi:Inr x l) (hn:x.orders.length<=60) (o:Int) (h:0<=o/\o<=62):UO (X2 l) o=Xb l o:=by
 rw [Bool.eq_iff_iff,Zhe,Uc,Z5]
 constructor
 ·rintro ⟨h1,h2,v,hv,h3⟩;have:=hi v hv;exact ⟨v,hv,by omega⟩
 ·rintro ⟨v,hv,rfl⟩;exact ⟨h.1,h.2,v,hv,rfl⟩
theorem QL {l:List Vis} (hd:l.Nodup) {k:Nat} (hk:k<l.length):vIx l (nth l k)=(k:Int):=by
 refine ZbM hk (by simp) fun j hj=> ?_
 have:nth l k≠nth l j:=by
  rw [Ze hk,Ze (by omega)];exact fun e=>(List.pairwise_iff_getElem.1 hd) j k (by omega) hk hj e.symm
 simpa using this
theorem Zki {l:List Vis} {v:Vis} (h:0<=vIx l v):(vIx l v).toNat<l.length/\nth l (vIx l v).toNat=v:=by
 have hl:=ZeV (f:=fun w=>decide (v=w)) (l:=l);unfold vIx fIx at h ⊢
 cases hv:l.findIdx? (fun u=>decide (v=u)) with
 | none=>rw [hv] at h;simp at h
 | some i =>
  rw [List.findIdx?_eq_some_iff_getElem] at hv;obtain ⟨h1,h2,_⟩:=hv;simp at h2;exact ⟨by simpa using h1,by simp [Ze h1,h2]⟩
theorem ZnI {l:List Vis} {k:Nat} (hk:k<l.length):0<=vIx l (nth l k)/\vIx l (nth l k)<=(k:Int):=by
 have hm:0<=vIx l (nth l k):=WN.2 (Zl hk);refine ⟨hm,?_⟩;unfold vIx fIx at hm ⊢
 cases hv:l.findIdx? (fun u=>decide (nth l k=u)) with
 | none=>rw [hv] at hm;simp at hm
 | some i =>
  rw [List.findIdx?_eq_some_iff_getElem] at hv;obtain ⟨h1,h2,h3⟩:=hv;simp;rcases Nat.lt_or_ge k i with h4 | h4
  ·have:=h3 k h4;rw [<- Ze hk] at this;simp at this
  ·exact h4
theorem UA {l:List Vis} {v:Vis} {i:Nat} (h:v∈l.take i): ∃j,j<i/\j<l.length/\nth l j=v:=by
 obtain ⟨j,hj,rfl⟩:=List.mem_iff_getElem.1 h;simp at hj;exact ⟨j,by omega,by omega,by rw [List.getElem_take,Ze (by omega)]⟩
theorem Q7 {l:List Vis} {i j:Nat} (h:j<i) (hl:j<l.length):nth l j∈l.take i:=by
 rw [Ze hl];exact List.mem_iff_getElem.2 ⟨j,by simp;omega,by simp⟩
theorem QD {l:List Vis} :Y4 l=false↔l.Nodup:=by
 rw [Y4,List.any_eq_false]
 constructor
 ·intro h;rw [List.nodup_iff_pairwise_ne,List.pairwise_iff_getElem];intro i j hi hj hij e;have:=h j (by simpa using hj);simp only [decide_eq_true_eq,WN] at this;refine this ?_;rw [Ze hj,<- e,<- Ze hi];exact Q7 hij hi
 ·intro h j hj;simp only [decide_eq_true_eq,WN];intro hm;obtain ⟨i,h1,h2,h3⟩:=UA hm
  have hj2:j<l.length:=by simpa using hj
  have e1:=QL h h2;have e2:=QL h hj2;rw [h3] at e1;omega
theorem Zew {l:List Vis} :((List.range l.length).any fun i=>decide (vIx l (nth l i)≠(i:Int)))=Y4 l:=by
 rw [Bool.eq_iff_iff]
 constructor
 ·intro h;rw [List.any_eq_true] at h;obtain ⟨i,hi,h2⟩:=h
  cases ht:Y4 l with
  | true=>rfl
  | false=>have:=QL (QD.1 ht) (by simpa using hi);simp [this] at h2
 ·intro h;rw [Y4,List.any_eq_true] at h;obtain ⟨j,hj,h2⟩:=h;simp only [decide_eq_true_eq,WN] at h2;obtain ⟨i,h3,h4,h5⟩:=UA h2;rw [List.any_eq_true];refine ⟨j,hj,?_⟩;have:=(ZnI h4).2;rw [h5] at this;simp only [ne_eq,decide_not,Bool.not_eq_true',decide_eq_false_iff_not];omega
def oIx (l:List Vis) (b:Int):Int:=fIx (fun v=>decide (v.order=b)) l
theorem Zaq {l:List Vis} {b:Int} :0<=oIx l b↔ ∃v∈l,v.order=b:=by
 have:=ZfV (f:=fun v=>decide (v.order=b)) (l:=l);rw [<- Z5,Xb,<- this,oIx];simp
theorem ZaH {l:List Vis} {b:Int} (h:0<=oIx l b):(oIx l b).toNat<l.length/\(nth l (oIx l b).toNat).order=b/\ ∀j,j<(oIx l b).toNat->(nth l j).order≠b:=by
 unfold oIx fIx at h ⊢
 cases hv:l.findIdx? (fun v=>decide (v.order=b)) with
 | none=>rw [hv] at h;simp at h
 | some i =>
  rw [List.findIdx?_eq_some_iff_getElem] at hv;obtain ⟨h1,h2,h3⟩:=hv;simp at h2;refine ⟨by simpa using h1,by simpa [Ze h1] using h2,fun j hj=> ?_⟩
  have hj2:j<i:=by simpa using hj
  have:=h3 j hj2;rw [Ze (by omega)];simpa using this
theorem ZpA {l:List Vis} {b:Int} {k:Nat} (hk:k<l.length) (h:(nth l k).order=b):0<=oIx l b/\oIx l b<=(k:Int):=by
 have h0:0<=oIx l b:=Zaq.2 ⟨_,Zl hk,h⟩;refine ⟨h0,?_⟩;obtain ⟨h1,h2,h3⟩:=ZaH h0;rcases Nat.lt_or_ge k (oIx l b).toNat with h4 | h4
 ·exact absurd h (h3 k h4)
 ·omega
theorem ZaT {l:List Vis} {a b:Int} :XF l a b=true↔(0<=oIx l b->(∃v∈l,v.order=a)/\ ∀j,j<l.length->(nth l j).order=a->(j:Int)<oIx l b):=by
 unfold XF;rw [show fIx (fun v=>decide (v.order=b)) l=oIx l b from rfl]
 by_cases h:oIx l b<0
 ·rw [if_pos h];exact ⟨fun _ h2=>by omega,fun _=>rfl⟩
 ·rw [if_neg h,Bool.and_eq_true,Z5]
  have h0:0<=oIx l b:=by omega
  obtain ⟨h1,h2,h3⟩:=ZaH h0
  have hd:(!Xb (l.drop (oIx l b).toNat) a)=true↔ ∀j,j<l.length->(nth l j).order=a->(j:Int)<oIx l b:=by
   rw [Bool.not_eq_true',<- Bool.not_eq_true,Z5]
   constructor
   ·intro hno j hj e;rcases Int.lt_or_le (j:Int) (oIx l b) with h4 | h4
    ·exact h4
    ·refine absurd ⟨nth l j,?_,e⟩ hno;rw [Ze hj];exact List.mem_iff_getElem.2 ⟨j-(oIx l b).toNat,by simp;omega,by simp;congr 1;omega⟩
   ·rintro XZ ⟨v,hv,e⟩;obtain ⟨j,hj,rfl⟩:=List.mem_iff_getElem.1 hv;simp at hj;rw [List.getElem_drop] at e;have:=XZ ((oIx l b).toNat+j) (by omega) (by rw [Ze (by omega)];exact e);omega
  rw [hd];exact ⟨fun h _=>h,fun h=>h h0⟩
theorem ZcH {x:Inst} {l:List Vis} (hi:Inr x l) (hn:x.orders.length<=60) {p:Int×Int} (h1:0<=p.1/\p.1<x.orders.length) (h2:0<=p.2/\p.2<x.orders.length) (hne:p.1≠p.2):Va (X2 l) l p=XF l p.1 p.2:=by
 rw [Bool.eq_iff_iff,ZaT,Va,Up hi hn _ (by omega),Up hi hn _ (by omega)];simp only [Bool.or_eq_true,Bool.not_eq_true',Bool.and_eq_true];rw [<- Bool.not_eq_true,Z5,Z5,<- Zaq,<- Zaq (b:=p.1)]
 constructor
 ·rintro (h | ⟨h3,h4⟩) h0
  ·exact absurd h0 h
  ·refine ⟨h3,fun j hj e=> ?_⟩;rw [List.all_eq_true] at h4;have h5:=h4 j (by simpa using hj);rw [List.all_eq_true] at h5;obtain ⟨g1,g2,g3⟩:=ZaH h0;rcases Int.lt_or_le (j:Int) (oIx l p.2) with h6 | h6
   ·exact h6
   ·have hne2:j≠(oIx l p.2).toNat:=fun e2=>hne (by rw [<- e,e2];exact g2);have:=h5 (oIx l p.2).toNat (by simp;omega);simp [V7,e,g2] at this
 ·intro h
  by_cases h0:0<=oIx l p.2
  ·obtain ⟨h3,h4⟩:=h h0;refine .inr ⟨h3,?_⟩;rw [List.all_eq_true];intro j hj;rw [List.all_eq_true];intro k hk;simp at hj hk
   cases hb:V7 l p.1 p.2 j k with
   | false=>rfl
   | true =>
    simp [V7] at hb;have h5:=h4 j hj hb.1;have h6:=(ZpA (by omega) hb.2).2;omega
  ·exact .inl h0
theorem ZjW {x:Inst} (hf:IFacts x) (l:List Vis):Ziy x l=ZW x l:=by
 by_cases ho:l.any (VS x)=true
 ·rw [Ziy,if_pos ho,ZW,if_pos (.inr ho)]
 ·have ho':l.any (VS x)=false:=by simpa using ho
  have hi:Inr x l:=fun v hv=>by
   rw [List.any_eq_false] at ho';simpa [VS] using ho' v hv
  have hn:x.orders.length<=60:=by have:=hf.len;omega
  rw [Ziy,if_neg ho,ZW]
  by_cases h0:l.length=0
  ·rw [if_pos h0,if_pos (.inl h0)]
  ·have hc: ¬(l.length=0\/l.any (VS x)=true):=fun h=>h.elim h0 ho;rw [if_neg h0,if_neg hc,Zew]
   have e1:apB x (X2 l)=x.apart.any fun p=>Xb l p.1&&Xb l p.2:=by
    rw [apB,Bool.eq_iff_iff,List.any_eq_true,List.any_eq_true]
    have: ∀p∈x.apart,(UO (X2 l) p.1&&UO (X2 l) p.2)=(Xb l p.1&&Xb l p.2):=fun p hp=>by
     have:=hf.aval p hp;rw [Up hi hn _ (by omega),Up hi hn _ (by omega)]
    exact ⟨fun ⟨p,hp,h⟩=>⟨p,hp,by rw [<- this p hp];exact h⟩,fun ⟨p,hp,h⟩=>⟨p,hp,by rw [this p hp];exact h⟩⟩
   have e2:(x.before.all (Va (X2 l) l)=false)=((x.before.any fun p=> !XF l p.1 p.2)=true):=by
    have: ∀p∈x.before,Va (X2 l) l p=XF l p.1 p.2:=fun p hp=>by
     have:=hf.val p hp;exact ZcH hi hn (by omega) (by omega) (hf.ne p hp)
    rw [List.all_eq_false,List.any_eq_true];simp only [eq_iff_iff];exact ⟨fun ⟨p,hp,h⟩=>⟨p,hp,by rw [<- this p hp];simpa using h⟩,fun ⟨p,hp,h⟩=>⟨p,hp,by rw [this p hp];simpa using h⟩⟩
   rw [e1];simp only [e2]
def Zt (p:Pln):AM.Obj:= .cells [.p (.list p.routes_c (p.routes.map YZ)),.p (.list p.unserved_c (p.unserved.map eI))]
def rteB (r:Rte):Prop:=r.visits.length<=1048576/\r.rests.length<=1048576
def X0 (f:Nat->Int) (n:Nat):List Int:=(List.range n).map f
theorem X1 {f n} :(X0 f n).length=n:=by simp [X0]
theorem ZbA {f:Nat->Int} {n j:Nat} (h:j<n):nth (X0 f n) j=f j:=by rw [Ze (by rw [X1];exact h)];simp [X0]
theorem Qc {f g:Nat->Int} {n:Nat} (h: ∀i,i<n->f i=g i):X0 f n=X0 g n:=List.map_congr_left fun i hi=>h i (List.mem_range.1 hi)
theorem Zb9 {f n j v} :(X0 f n).set j v=X0 (fun i=>if i=j then v else f i) n:=by
 refine List.ext_getElem (by simp [X0]) fun i h1 h2=> ?_
 have hi:i<n:=by simpa [X0] using h2
 rw [List.getElem_set];simp only [X0,List.getElem_map,List.getElem_range]
 by_cases c:j=i
 ·subst c;simp
 ·rw [if_neg c,if_neg (fun e=>c e.symm)]
def ZR (rs:List Rte):Nat->Nat->Int
 | 0,_=> -1
 | k+1,o=>if Xb (nth rs k).visits (o:Int)=true then (k:Int) else ZR rs k o
theorem WU {rs:List Rte} {o:Nat} : ∀k:Nat,-1<=ZR rs k o/\ZR rs k o<(k:Int)
 | 0=>by simp [ZR]
 | k+1=>by
  have:=WU (rs:=rs) (o:=o) k;rw [ZR];split<;>omega
def Qp (rs:List Rte) (k:Nat) (l:List Vis) (o:Nat):Int:=if Xb l (o:Int)=true then (k:Int) else ZR rs k o
def ZfO (n:Nat) (v:Vis):Bool:=decide (v.order<0)||decide ((n:Int)<=v.order)
def Qt (x:Inst) (r:Rte):Bool:=(decide (r.typ<0)||decide ((x.types.length:Int)<=r.typ))||r.visits.any (ZfO x.orders.length)
def twV (rs:List Rte) (k:Nat) (l:List Vis):Bool:=l.any fun v=>decide (0<=ZR rs k v.order.toNat)
def twB (rs:List Rte):Nat->Bool
 | 0=>false
 | k+1=>twB rs k||twV rs k (nth rs k).visits
def V8 (x:Inst) (p:Pln):Int:=if p.routes.any (Qt x)=true then 2 else if twB p.routes p.routes.length=true then 6 else 0
def Q4 (rs:List Rte) (i:Int):Int:=if 0<=i then (nth rs i.toNat).typ else-1
def Ur (x:Inst) (p:Pln):List Int:=X0 (fun o=>Q4 p.routes (ZR p.routes p.routes.length o)) x.orders.length
theorem W6 {x p} :(Ur x p).length=x.orders.length:=X1
theorem ZeK {l:List Vis} {v:Vis} {o:Int} :Xb (l++ [v]) o=(Xb l o||decide (v.order=o)):=by simp [Xb]
theorem Zf4 {rs:List Rte} {k:Nat} {l:List Vis} {v:Vis} {n:Nat} (h:0<=v.order/\v.order<(n:Int)):(X0 (Qp rs k l) n).set v.order.toNat (k:Int)=X0 (Qp rs k (l++ [v])) n:=by
 rw [Zb9];refine Qc fun i hi=> ?_;rw [Qp,Qp,ZeK]
 by_cases c:i=v.order.toNat
 ·rw [if_pos c,if_pos (by simp;omega)]
 ·rw [if_neg c]
  have:decide (v.order=(i:Int))=false:=by rw [decide_eq_false_iff_not];omega
  rw [this,Bool.or_false]
theorem ZhW {rs:List Rte} {k:Nat} :Qp rs k (nth rs k).visits=ZR rs (k+1):=funext fun o=>rfl
theorem ZbC {rs:List Rte} {k:Nat} :Qp rs k []=ZR rs k:=funext fun o=>by simp [Qp,Xb]
theorem ZgM {rs:List Rte} {k:Nat} {l:List Vis} {o:Nat} : -1<=Qp rs k l o/\Qp rs k l o<=(k:Int):=by
 have:=WU (rs:=rs) (o:=o) k;rw [Qp];split<;>omega
theorem Zie {rs:List Rte} {k:Nat} {l:List Vis} {v:Vis} (h:0<=v.order) {b:Bool} :((b||twV rs k l)||(decide (Qp rs k l v.order.toNat≠ -1)&&decide (Qp rs k l v.order.toNat≠(k:Int))))=(b||twV rs k (l++ [v])):=by
 have hr:=WU (rs:=rs) (o:=v.order.toNat) k
 have e:twV rs k (l++ [v])=(twV rs k l||decide (0<=ZR rs k v.order.toNat)):=by simp [twV]
 rw [e,Qp]
 by_cases c:Xb l (v.order.toNat:Int)=true
 ·rw [if_pos c]
  have:decide (0<=ZR rs k v.order.toNat)=true->twV rs k l=true:=fun h2=>by
   obtain ⟨w,hw,e2⟩:=Z5.1 c;rw [twV,List.any_eq_true];refine ⟨w,hw,?_⟩;rw [e2,Int.toNat_natCast];exact h2
  cases h3:twV rs k l with
  | true=>simp
  | false =>
   have h4:decide (0<=ZR rs k v.order.toNat)=false:=by
    cases h5:decide (0<=ZR rs k v.order.toNat) with
    | true=>rw [this h5] at h3;cases h3
    | false=>rfl
   simp [h4]
 ·rw [if_neg c];have h1:decide (ZR rs k v.order.toNat≠ -1)=decide (0<=ZR rs k v.order.toNat):=decide_eq_decide.2 (by omega);have h2:decide (ZR rs k v.order.toNat≠(k:Int))=true:=decide_eq_true (by omega);rw [h1,h2,Bool.and_true,Bool.or_assoc]
theorem Ut {x:Inst} {p:Pln} {k:Nat} (h:k<p.routes.length) (hb:Qt x (nth p.routes k)=true):V8 x p=2:=by
 rw [V8,if_pos (List.any_eq_true.2 ⟨_,Zl h,hb⟩)]
theorem ZjF {x:Inst} {p:Pln} (h: ∀j,j<p.routes.length->Qt x (nth p.routes j)=false):p.routes.any (Qt x)=false:=by
 rw [List.any_eq_false];intro r hr;obtain ⟨j,hj,rfl⟩:=List.mem_iff_getElem.1 hr;have:=h j hj;rw [Ze hj] at this;simp [this]
theorem Zak {x:Inst} {p:Pln} (h: ∀j,j<p.routes.length->Qt x (nth p.routes j)=false):V8 x p=if twB p.routes p.routes.length=true then 6 else 0:=by
 rw [V8,ZjF h];simp
set_option maxRecDepth 60000
def QA : List Rte->Int->Int
 | [],_=> -1
 | r::t,o=>if Xb r.visits o=true then r.typ else QA t o
theorem ZkU {α:Type} [Inhabited α] {l:List α} {k:Nat} (h:k<l.length):l.drop k=nth l k::l.drop (k+1):=by rw [List.drop_eq_getElem_cons h,Ze h]
theorem Zfd {v:Vis} {l:List Vis} {o:Int} :Xb (v::l) o=(decide (v.order=o)||Xb l o):=rfl
theorem J6 (p:Pln) (o:Int) (hr:p.routes.length<=1048576) (hv: ∀r∈p.routes,r.visits.length<=1048576) :
  PC 69 [.p (Qw p),.p (.int .i64 o)] (.int .i64 (QA p.routes o)):=by
 refine Zb Tryz.func69 rfl Zw2 ?_;simp (disch:=omega) only [Tryz.f69,go_sem,seval];refine Zf [1,2] (fun k:Nat=> [(5,.p (.int .i64 k))]) (fun _=> [Zt p]) (fun k=>k<=p.routes.length/\QA p.routes o=QA (p.routes.drop k) o) (fun k=>p.routes.length-k) 0 (by simp) (Weak.mk ?_) ?_
 ·simp (disch:=omega) only [Zt,go_sem,seval]
 ·rintro k ⟨hk,he⟩;simp (disch:=omega) only [Zt,go_sem,seval];refine cD ?_ ?_<;>intro h<;>simp (disch:=omega) only [Sh.out h,go_sem,seval]
  ·have hk2:k<p.routes.length:=by omega
   have hvl:=hv _ (Zl hk2);rw [ZkU hk2,QA] at he;refine Zf [1,2,5] (fun q:Nat=> [(6,.p (.int .i64 q))]) (fun _=> [Zt p]) (fun q=>q<=(nth p.routes k).visits.length/\Xb (nth p.routes k).visits o=Xb ((nth p.routes k).visits.drop q) o) (fun q=>(nth p.routes k).visits.length-q) 0 (by simp) (Weak.mk ?_) ?_
   ·simp (disch:=omega) only [Zt,go_sem,seval]
   ·rintro q ⟨hq,hh⟩;simp (disch:=omega) only [Zt,go_sem,seval];refine cD ?_ ?_<;>intro h2<;>simp (disch:=omega) only [Sh.out h2,go_sem,seval]
    ·have hq2:q<(nth p.routes k).visits.length:=by omega
     rw [ZkU hq2,Zfd] at hh;refine cD ?_ ?_<;>intro h3<;>simp (disch:=omega) only [Sh.out h3,go_sem,seval]
     ·rw [he,if_pos (by rw [hh,decide_eq_true h3];rfl)]
     ·rw [decide_eq_false h3,Bool.false_or] at hh;exact ⟨q+1,⟨by omega,hh⟩,by omega,Weak.mk (by simp (disch:=omega) only [Zt,go_sem,seval])⟩
    ·have hql:q=(nth p.routes k).visits.length:=by omega
     rw [hql,List.drop_length] at hh;rw [if_neg (by rw [hh];simp [Xb])] at he;exact ⟨k+1,⟨by omega,he⟩,by omega,Weak.mk (by simp (disch:=omega) only [Zt,go_sem,seval])⟩
  ·have hkl:k=p.routes.length:=by omega
   rw [hkl,List.drop_length,QA] at he;rw [he]
def nW (rs:List Rte) (o:Int):Nat->Nat
 | 0=>0
 | k+1=>nW rs o k+if Xb (nth rs k).visits o=true then 1 else 0
theorem Zrx {rs:List Rte} {o:Int} : ∀k,nW rs o k<=k
 | 0=>by simp [nW]
 | k+1=>by have:=Zrx (rs:=rs) (o:=o) k;rw [nW];split<;>omega
theorem Wx {rs:List Rte} {o:Int} : ∀ {k:Nat},1<=nW rs o k↔ ∃a,a<k/\Xb (nth rs a).visits o=true
 | 0=>by simp [nW]
 | k+1=>by
  rw [nW]
  constructor
  ·intro h
   by_cases c:Xb (nth rs k).visits o=true
   ·exact ⟨k,by omega,c⟩
   ·rw [if_neg c] at h;obtain ⟨a,h1,h2⟩:=Wx.1 (show 1<=nW rs o k by omega);exact ⟨a,by omega,h2⟩
  ·rintro ⟨a,h1,h2⟩
   by_cases c:a=k
   ·subst c;rw [if_pos h2];omega
   ·have:=Wx.2 ⟨a,show a<k by omega,h2⟩;omega
theorem ZdC {rs:List Rte} {o:Int} : ∀ {k:Nat},2<=nW rs o k↔ ∃a b,a<b/\b<k/\Xb (nth rs a).visits o=true/\Xb (nth rs b).visits o=true
 | 0=>by simp [nW]
 | k+1=>by
  rw [nW]
  constructor
  ·intro h
   by_cases c:Xb (nth rs k).visits o=true
   ·rw [if_pos c] at h;obtain ⟨a,h1,h2⟩:=Wx.1 (show 1<=nW rs o k by omega);exact ⟨a,k,h1,by omega,h2,c⟩
   ·rw [if_neg c] at h;obtain ⟨a,b,h1,h2,h3⟩:=ZdC.1 (show 2<=nW rs o k by omega);exact ⟨a,b,h1,by omega,h3⟩
  ·rintro ⟨a,b,h1,h2,h3,h4⟩
   by_cases c:b=k
   ·subst c;have:=Wx.2 ⟨a,h1,h3⟩;rw [if_pos h4];omega
   ·have:=ZdC.2 ⟨a,b,h1,show b<k by omega,h3,h4⟩;omega
theorem Wd {rs:List Rte} {o:Nat} : ∀ {k:Nat},0<=ZR rs k o↔ ∃a,a<k/\Xb (nth rs a).visits (o:Int)=true
 | 0=>by simp [ZR]
 | k+1=>by
  rw [ZR]
  constructor
  ·intro h
   by_cases c:Xb (nth rs k).visits (o:Int)=true
   ·exact ⟨k,by omega,c⟩
   ·rw [if_neg c] at h;obtain ⟨a,h1,h2⟩:=Wd.1 h;exact ⟨a,by omega,h2⟩
  ·rintro ⟨a,h1,h2⟩
   by_cases c:Xb (nth rs k).visits (o:Int)=true
   ·rw [if_pos c];omega
   ·rw [if_neg c];refine Wd.2 ⟨a,?_,h2⟩
    by_cases c2:a=k
    ·subst c2;exact absurd h2 c
    ·omega
theorem Jr {rs:List Rte} : ∀ {k:Nat},(∀j,j<k-> ∀v∈(nth rs j).visits,0<=v.order)->(twB rs k=true↔ ∃o:Nat,2<=nW rs (o:Int) k/\ ∃j,j<k/\Xb (nth rs j).visits (o:Int)=true)
 | 0,_=>by simp [twB,nW]
 | k+1,h=>by
  rw [twB,Bool.or_eq_true,Jr fun j hj=>h j (by omega)]
  constructor
  ·rintro (⟨o,h1,j,h2,h3⟩ | h1)
   ·exact ⟨o,by rw [nW];omega,j,by omega,h3⟩
   ·rw [twV,List.any_eq_true] at h1;obtain ⟨v,hv,h2⟩:=h1;have h3:=Wd.1 (of_decide_eq_true h2);have h4:=Wx.2 h3;have h5:Xb (nth rs k).visits (v.order.toNat:Int)=true:=Z5.2 ⟨v,hv,by have:=h k (by omega) v hv;omega⟩;exact ⟨v.order.toNat,by rw [nW,if_pos h5];omega,k,by omega,h5⟩
  ·rintro ⟨o,h1,_⟩;rw [nW] at h1
   by_cases c:Xb (nth rs k).visits (o:Int)=true
   ·rw [if_pos c] at h1;refine .inr ?_;obtain ⟨v,hv,e⟩:=Z5.1 c;rw [twV,List.any_eq_true];refine ⟨v,hv,decide_eq_true ?_⟩;rw [e,Int.toNat_natCast,Wd];exact Wx.1 (by omega)
   ·rw [if_neg c] at h1;obtain ⟨a,b,q1,q2,q3,q4⟩:=ZdC.1 (show 2<=nW rs o k by omega);exact .inl ⟨o,by omega,a,by omega,q3⟩
theorem KE {o:Int} {r:Rte} : ∀ {a:List Rte},QA (a++ [r]) o=if (a.any fun r=>Xb r.visits o)=true then QA a o else if Xb r.visits o=true then r.typ else-1
 | []=>by simp [QA]
 | s::t=>by
  rw [List.cons_append,QA,QA,KE]
  by_cases c:Xb s.visits o=true
  ·simp [c]
  ·simp [c]
theorem Kn {rs:List Rte} {o:Nat} : ∀ {k:Nat},k<=rs.length->nW rs (o:Int) k<=1->QA (rs.take k) (o:Int)=Q4 rs (ZR rs k o)
 | 0,_,_=>by simp [QA,ZR,Q4]
 | k+1,hk,h=>by
  have hk2:k<rs.length:=by omega
  rw [nW] at h;rw [List.take_succ_eq_append_getElem hk2,<- Ze hk2,KE,ZR]
  have hany:((rs.take k).any fun r=>Xb r.visits (o:Int))=true↔1<=nW rs (o:Int) k:=by
   rw [Wx,List.any_eq_true]
   constructor
   ·rintro ⟨r,hr,h1⟩;obtain ⟨a,ha,rfl⟩:=List.mem_iff_getElem.1 hr;rw [List.length_take] at ha;rw [List.getElem_take] at h1;exact ⟨a,by omega,by rw [Ze (by omega)];exact h1⟩
   ·rintro ⟨a,ha,h1⟩;refine ⟨nth rs a,?_,h1⟩;rw [Ze (by omega),List.mem_take_iff_getElem];exact ⟨a,by omega,rfl⟩
  by_cases c:Xb (nth rs k).visits (o:Int)=true
  ·rw [if_pos c] at h;rw [if_neg (by rw [hany];omega),if_pos c,if_pos c,Q4,if_pos (by omega),Int.toNat_natCast]
  ·rw [if_neg c] at h;have ih:=Kn (rs:=rs) (o:=o) (k:=k) (by omega) (by omega);rw [if_neg c,if_neg c,<- ih]
   split
   ·rfl
   ·rename_i h2;rw [hany] at h2;have h3: ¬ 0<=ZR rs k o:=fun h4=>h2 (Wx.2 (Wd.1 h4));rw [ih,Q4,if_neg h3]
theorem Ze1 {x:Inst} {p:Pln} (h:V8 x p=0):(∀r∈p.routes,Qt x r=false)/\twB p.routes p.routes.length=false:=by
 rw [V8] at h
 split at h
 ·omega
 ·rename_i h1
  split at h
  ·omega
  ·rename_i h2;refine ⟨fun r hr=> ?_,by simpa using h2⟩;rw [List.any_eq_true] at h1
   cases h3:Qt x r with
   | false=>rfl
   | true=>exact absurd ⟨r,hr,h3⟩ h1
theorem Vh {x:Inst} {r:Rte} (h:Qt x r=false):(0<=r.typ/\r.typ<(x.types.length:Int))/\ ∀v∈r.visits,0<=v.order/\v.order<(x.orders.length:Int):=by
 simp only [Qt,Bool.or_eq_false_iff,decide_eq_false_iff_not,List.any_eq_false] at h;refine ⟨by omega,fun v hv=> ?_⟩;have:=h.2 v hv;simp only [ZfO,Bool.or_eq_true,decide_eq_true_eq] at this;omega
theorem ZhC {x:Inst} {p:Pln} (h:V8 x p=0):X0 (fun i=>QA p.routes (i:Int)) x.orders.length=Ur x p:=by
 obtain ⟨h1,h2⟩:=Ze1 h;refine Qc fun i _=> ?_
 have h3:nW p.routes (i:Int) p.routes.length<=1:=by
  refine Nat.le_of_not_lt fun h4=> ?_;have h5:=(Jr (rs:=p.routes) (k:=p.routes.length) fun j hj v hv=>((Vh (h1 _ (Zl hj))).2 v hv).1).2 ⟨i,h4,by obtain ⟨a,q1,q2⟩:=Wx.1 (show 1<=nW p.routes (i:Int) p.routes.length by omega);exact ⟨a,q1,q2⟩⟩;rw [h2] at h5;cases h5
 have:=Kn (rs:=p.routes) (o:=i) (k:=p.routes.length) (Nat.le_refl _) h3;rwa [List.take_length] at this
def JS {α:Type} (f:Nat->α) (n:Nat):List α:=(List.range n).map f
section
variable {α : Type} {f g : Nat -> α} {n j : Nat}
theorem JC : (JS f n).length=n:=by simp [JS]
theorem ZgP [Inhabited α] (h:j<n):nth (JS f n) j=f j:=by rw [Ze (by rw [JC];exact h)];simp [JS]
theorem ZeT : JS f (n+1)=JS f n++ [f n]:=by simp [JS,List.range_succ]
end
def Zb1 (l:List Ord) (s:List UInt8):Int:=match l.findIdx? (fun o=>decide (o.name=s)) with | some i=>(i:Int) | none=> -1
theorem ZfD {l:List Ord} {s:List UInt8} {k:Nat} (hk:k<l.length) (h:(nth l k).name=s) (hno: ∀j,j<k->(nth l j).name≠s):Zb1 l s=(k:Int):=by
 have:l.findIdx? (fun o=>decide (o.name=s))=some k:=by
  rw [List.findIdx?_eq_some_iff_getElem];refine ⟨hk,by rw [<- Ze hk];exact decide_eq_true h,fun j hj=> ?_⟩;have h2:=hno j hj;rw [Ze (by omega)] at h2;simpa using h2
 simp [Zb1,this]
theorem Zf6 {l:List Ord} {s:List UInt8} (hno: ∀j,j<l.length->(nth l j).name≠s):Zb1 l s= -1:=by
 have:l.findIdx? (fun o=>decide (o.name=s))=none:=by
  rw [List.findIdx?_eq_none_iff];intro x hx;obtain ⟨j,hj,rfl⟩:=List.mem_iff_getElem.1 hx;rw [<- Ze hj];exact decide_eq_false (hno j hj)
 simp [Zb1,this]
theorem Zch {l:List Ord} {s:List UInt8} : -1<=Zb1 l s/\Zb1 l s<(l.length:Int):=by
 unfold Zb1
 cases h:l.findIdx? (fun o=>decide (o.name=s)) with
 | none=>simp;omega
 | some i =>
  rw [List.findIdx?_eq_some_iff_getElem] at h;obtain ⟨h1,_⟩:=h;simp only;omega
theorem ZkY (x:Inst) (s:List UInt8) (ho:x.orders.length<=1048576):PC 67 [.p (ZC x),.p (.str s)] (.int .i64 (Zb1 x.orders s)):=by
 refine Zb Tryz.func67 rfl Zu9 ?_;simp (disch:=omega) only [Tryz.f67,go_sem,seval];refine Zf [1,8,9] (fun k:Nat=> [(10,.p (.int .i64 k))]) (fun _=> [Za x]) (fun k=>k<=x.orders.length/\ ∀j,j<k->(nth x.orders j).name≠s) (fun k=>x.orders.length-k) 0 (by simp) (Weak.mk ?_) ?_
 ·simp (disch:=omega) only [Za,go_sem,seval]
 ·rintro k ⟨hk,hno⟩;simp (disch:=omega) only [Za,go_sem,seval];refine cD ?_ ?_<;>intro h<;>simp (disch:=omega) only [Sh.out h,go_sem,seval]
  ·have hk2:k<x.orders.length:=by omega
   refine cD ?_ ?_<;>intro h2<;>simp (disch:=omega) only [Sh.out h2,go_sem,seval]
   ·rw [ZfD hk2 h2 hno]
   ·exact ⟨k+1,⟨by omega,Zg.2 ⟨hno,h2⟩⟩,by omega,Weak.mk (by simp (disch:=omega) only [Za,go_sem,seval])⟩
  ·have hkl:k=x.orders.length:=by omega
   subst hkl;rw [Zf6 hno]
theorem Zd5 (x:Inst) (s:List UInt8) (ho:x.orders.length<=1048576):PC 36 [.p (ZC x),.p (.str s)] (.int .i64 (Zb1 x.orders s)):=by
 refine Zb Tryz.func36 rfl ZuP ?_;simp (disch:=omega) only [Tryz.f36,go_sem,seval];refine Zf [1,2] (fun k:Nat=> [(5,.p (.int .i64 k))]) (fun _=> [Za x]) (fun k=>k<=x.orders.length/\ ∀j,j<k->(nth x.orders j).name≠s) (fun k=>x.orders.length-k) 0 (by simp) (Weak.mk ?_) ?_
 ·simp (disch:=omega) only [Za,go_sem,seval]
 ·rintro k ⟨hk,hno⟩;simp (disch:=omega) only [Za,go_sem,seval];refine cD ?_ ?_<;>intro h<;>simp (disch:=omega) only [Sh.out h,go_sem,seval]
  ·have hk2:k<x.orders.length:=by omega
   refine cD ?_ ?_<;>intro h2<;>simp (disch:=omega) only [Sh.out h2,go_sem,seval]
   ·rw [ZfD hk2 h2 hno]
   ·exact ⟨k+1,⟨by omega,Zg.2 ⟨hno,h2⟩⟩,by omega,Weak.mk (by simp (disch:=omega) only [Za,go_sem,seval])⟩
  ·have hkl:k=x.orders.length:=by omega
   subst hkl;rw [Zf6 hno]
end Go.Proofs.YtbdmjphjnniogaaGreatDoor.K
set_option linter.unusedVariables false
set_option linter.unusedSimpArgs false
namespace Go.Proofs.YtbdmjphjnniogaaGreatDoor.K
section
variable {L : Type} (fin : L -> Int) (beats : L -> L -> Bool) (nxt : Nat -> L -> Bool -> Option L) (choices : Nat -> List Bool)
def fmL : Option L->List L->Option L
 | b,[]=>b
 | none,x::l=>fmL (some x) l
 | some m,x::l=>if fin x<fin m then fmL (some x) l else fmL (some m) l
theorem VO : ∀(b:Option L) (l r:List L),fmL fin b (l++r)=fmL fin (fmL fin b l) r
 | b,[],r=>by cases b<;>simp [fmL]
 | none,x::l,r=>by rw [List.cons_append,fmL,fmL,VO]
 | some m,x::l,r=>by
  rw [List.cons_append,fmL,fmL]
  split
  ·rw [VO]
  ·rw [VO]
theorem Vi : ∀(l:List L) (m:L),∃z,fmL fin (some m) l=some z/\fin z<=fin m/\ ∀y∈l,fin z<=fin y
 | [],m=>⟨m,rfl,by omega,by simp⟩
 | x::l,m=>by
  rw [fmL]
  split
  ·rename_i h;obtain ⟨z,e,h1,h2⟩:=Vi l x;refine ⟨z,e,by omega,fun y hy=> ?_⟩;rcases List.mem_cons.1 hy with rfl | hy
   ·exact h1
   ·exact h2 y hy
  ·rename_i h;obtain ⟨z,e,h1,h2⟩:=Vi l m;refine ⟨z,e,h1,fun y hy=> ?_⟩;rcases List.mem_cons.1 hy with rfl | hy
   ·omega
   ·exact h2 y hy
theorem Za9 : ∀(l:List L) (m:L),(∀y∈l,fin m<=fin y)->fmL fin (some m) l=some m
 | [],m,_=>rfl
 | x::l,m,h=>by
  have:=h x List.mem_cons_self;rw [fmL,if_neg (by omega)];exact Za9 l m fun y hy=>h y (List.mem_cons_of_mem _ hy)
theorem ZfE (A B:List L) (h: ∀y∈B,∃z∈A,fin z<=fin y):fmL fin none (A++B)=fmL fin none A:=by
 rw [VO]
 cases A with
 | nil=>cases B with
  | nil=>rfl
  | cons y B=>obtain ⟨z,hz,_⟩:=h y List.mem_cons_self;simp at hz
 | cons a A =>
  rw [fmL];obtain ⟨z,e,h1,h2⟩:=Vi fin A a;rw [e];refine Za9 fin B z fun y hy=> ?_;obtain ⟨q,hq,hle⟩:=h y hy;rcases List.mem_cons.1 hq with rfl | hq
  ·omega
  ·have:=h2 q hq;omega
def Xc : List L->List L->List L
 | out,[]=>out
 | out,x::l=>if out.any (fun m=>beats m x)=true then Xc out l else Xc (out++ [x]) l
theorem Qa {R:L->List L} : ∀(c out:List L),(∀x∈out++c,∀m∈out++c,beats m x=true-> ∀y∈R x,∃z∈R m,fin z<=fin y)->fmL fin none ((Xc beats out c).flatMap R)=fmL fin none ((out++c).flatMap R)
 | [],out,_=>by simp [Xc]
 | x::c,out,h=>by
  rw [Xc]
  split
  ·rename_i hb;obtain ⟨m,hm,hb⟩:=List.any_eq_true.1 hb
   have hb:beats m x=true:=by simpa using hb
   rw [Qa c out (fun a ha b hb=>h a (by simp only [List.mem_append,List.mem_cons] at ha ⊢;rcases ha with h | h<;>simp [h]) b (by simp only [List.mem_append,List.mem_cons] at hb ⊢;rcases hb with h | h<;>simp [h]))];rw [List.flatMap_append,List.flatMap_append,List.flatMap_cons,<- List.append_assoc,VO,VO (l:=out.flatMap R++R x)];rw [ZfE fin (out.flatMap R) (R x)];intro y hy;obtain ⟨z,hz,hle⟩:=h x (by simp) m (by simp [hm]) hb y hy;exact ⟨z,List.mem_flatMap.2 ⟨m,hm,hz⟩,hle⟩
  ·rw [Qa c (out++ [x]) (by simpa using h)];simp
theorem W0 : ∀(c out:List L),∀x∈Xc beats out c,x∈out++c
 | [],out,x,h=>by simpa [Xc] using h
 | a::c,out,x,h=>by
  rw [Xc] at h
  split at h
  ·have:=W0 c out x h;simp only [List.mem_append,List.mem_cons] at this ⊢;rcases this with h | h<;>simp [h]
  ·have:=W0 c (out++ [a]) x h;simpa using this
def ZgV : Nat->Nat->List (List Bool)
 | 0,_=> [[]]
 | j+1,k=>(choices k).flatMap fun b=>(ZgV j (k+1)).map (b:: ·)
def VP : Nat->L->List Bool->Option L
 | _,x,[]=>some x
 | k,x,b::bs=>match nxt k x b with
  | some y=>VP (k+1) y bs
  | none=>none
def Ym (j k:Nat) (x:L):List L:=(ZgV choices j k).filterMap (VP nxt k x)
def YB (k:Nat) (l:List L):List L:=l.flatMap fun x=>(choices k).filterMap (nxt k x)
def V4 : Nat->Nat->List L->List L
 | 0,_,l=>l
 | j+1,k,l=>V4 j (k+1) (Xc beats [] (YB nxt choices k l))
theorem QR (k:Nat) (x:L):Ym nxt choices 0 k x= [x]:=rfl
theorem QX (j k:Nat) (x:L):Ym nxt choices (j+1) k x=((choices k).filterMap (nxt k x)).flatMap (Ym nxt choices j (k+1)):=by
 unfold Ym;rw [ZgV]
 induction choices k with
 | nil=>rfl
 | cons b bs ih =>
  rw [List.flatMap_cons,List.filterMap_append,ih,List.filterMap_cons]
  cases h:nxt k x b with
  | none =>
   rw [List.filterMap_map]
   have:(VP nxt k x∘fun l=>b::l)=fun _=>none:=by funext l;simp [VP,h]
   rw [this];simp
  | some y =>
   rw [List.filterMap_map]
   have:(VP nxt k x∘fun l=>b::l)=VP nxt (k+1) y:=by funext l;simp [VP,h]
   rw [this];rfl
theorem Kr {n:Nat} {Inv:Nat->L->Prop} (hI: ∀k x b y,Inv k x->nxt k x b=some y->Inv (k+1) y) (hd: ∀k m x b y,Inv k m->Inv k x->beats m x=true->nxt k x b=some y-> ∃z,nxt k m b=some z/\beats z y=true)
  (he: ∀m x,Inv n m->Inv n x->beats m x=true->fin m<=fin x): ∀(j k:Nat) (m x:L),k+j=n->Inv k m->Inv k x->beats m x=true-> ∀y∈Ym nxt choices j k x,∃z∈Ym nxt choices j k m,fin z<=fin y
 | 0,k,m,x,hk,h1,h2,hb,y,hy=>by
  rw [QR] at hy ⊢;simp at hy;subst hy
  have hk:k=n:=by omega
  subst hk;exact ⟨m,by simp,he m y h1 h2 hb⟩
 | j+1,k,m,x,hk,h1,h2,hb,y,hy=>by
  rw [QX] at hy ⊢;obtain ⟨q,hq,hy⟩:=List.mem_flatMap.1 hy;obtain ⟨b,hbm,hn⟩:=List.mem_filterMap.1 hq;obtain ⟨z,hz,hzb⟩:=hd k m x b q h1 h2 hb hn;obtain ⟨u,hu,hle⟩:=Kr hI hd he j (k+1) z q (by omega) (hI k m b z h1 hz) (hI k x b q h2 hn) hzb y hy;exact ⟨u,List.mem_flatMap.2 ⟨z,List.mem_filterMap.2 ⟨b,hbm,hz⟩,hu⟩,hle⟩
theorem Zfz {n:Nat} {Inv:Nat->L->Prop} (hI: ∀k x b y,Inv k x->nxt k x b=some y->Inv (k+1) y) (hd: ∀k m x b y,Inv k m->Inv k x->beats m x=true->nxt k x b=some y-> ∃z,nxt k m b=some z/\beats z y=true)
  (he: ∀m x,Inv n m->Inv n x->beats m x=true->fin m<=fin x): ∀(j k:Nat) (l:List L),k+j=n->(∀x∈l,Inv k x)->fmL fin none (V4 beats nxt choices j k l)=fmL fin none (l.flatMap (Ym nxt choices j k))
 | 0,k,l,hk,hl=>by
  have:l.flatMap (Ym nxt choices 0 k)=l:=by
   have:Ym nxt choices 0 k=fun x=> [x]:=by funext x;exact QR nxt choices k x
   rw [this];simp
  rw [this];rfl
 | j+1,k,l,hk,hl=>by
  have hc: ∀x∈YB nxt choices k l,Inv (k+1) x:=fun x hx=>by
   obtain ⟨q,hq,hx⟩:=List.mem_flatMap.1 hx;obtain ⟨b,_,hn⟩:=List.mem_filterMap.1 hx;exact hI k q b x (hl q hq) hn
  have e:l.flatMap (Ym nxt choices (j+1) k)=(YB nxt choices k l).flatMap (Ym nxt choices j (k+1)):=by
   rw [YB,List.flatMap_assoc]
   congr 1
   funext x
   exact QX nxt choices j k x
  rw [V4,Zfz hI hd he j (k+1) _ (by omega) (fun x hx=>hc x (by simpa using W0 beats _ _ x hx)),Qa fin beats _ _ (fun x hx m hm hb y hy=> ?_),e]
  ·simp
  ·exact Kr fin beats nxt choices hI hd he j (k+1) m x (by omega) (hc m (by simpa using hm)) (hc x (by simpa using hx)) hb y hy
def X3 : List Bool->List (List Bool)
 | []=> [[]]
 | b::bs=>if b then (X3 bs).map (true:: ·) else (X3 bs).map (false:: ·)++(X3 (List.replicate bs.length false)).map (true:: ·)
termination_by l => l.length
decreasing_by all_goals simp
def Xt : List Bool->Option (List Bool)
 | []=>none
 | b::bs=>match Xt bs with
  | some l=>some (b::l)
  | none=>if b then none else some (true::List.replicate bs.length false)
theorem fromB_next : ∀l:List Bool,X3 l=l::(match Xt l with | some r=>X3 r | none=> [])
 | []=>by simp [X3,Xt]
 | b::bs=>by
  have ih:=fromB_next bs
  have e0: ∀l:List Bool,X3 (true::l)=(X3 l).map (true:: ·):=fun l=>by rw [X3];simp
  have e1: ∀l:List Bool,X3 (false::l)=(X3 l).map (false:: ·)++(X3 (List.replicate l.length false)).map (true:: ·):=fun l=>by rw [X3];simp
  cases b with
  | true =>
   rw [e0,ih,Xt]
   cases h:Xt bs with
   | none=>simp
   | some r=>simp [e0]
  | false =>
   rw [e1,ih,Xt]
   cases h:Xt bs with
   | none=>simp [e0]
   | some r =>
    have hl:r.length=bs.length:=nlen bs r h;simp [e1,hl]
where nlen : ∀(l r:List Bool),Xt l=some r->r.length=l.length
 | [],r,h=>by simp [Xt] at h
 | b::bs,r,h=>by
  rw [Xt] at h
  cases h2:Xt bs with
  | none =>
   rw [h2] at h
   cases b<;>simp at h
   subst h;simp
  | some q =>
   rw [h2] at h;simp at h;subst h;simp [nlen bs q h2]
theorem ZbW {n:Nat} : ∀(j k:Nat),(∀q,k<=q->choices q= [false,true])->ZgV choices j k=X3 (List.replicate j false)
 | 0,k,_=>by simp [ZgV,X3]
 | j+1,k,h=>by
  rw [ZgV,h k (Nat.le_refl _),ZbW (n:=n) j (k+1) (fun q hq=>h q (by omega)),List.replicate_succ,X3];simp
end
end Go.Proofs.YtbdmjphjnniogaaGreatDoor.K
set_option linter.unusedVariables false
set_option linter.unusedSimpArgs false
namespace Go.Proofs.YtbdmjphjnniogaaGreatDoor.K
open Go Go.AM Go.Proofs
def onB (x:Inst) (l:List Vis) (n i:Nat):Bool:=(l.take n).foldl (fun on v=>if v.order=(i:Int) then !v.drp else on) (decide ((nth x.orders i).pick.place<0))
theorem ZhM {x:Inst} {l:List Vis} {i:Nat} :onB x l 0 i=decide ((nth x.orders i).pick.place<0):=by simp [onB]
theorem JO {x:Inst} {l:List Vis} {n i:Nat} (h:n<l.length):onB x l (n+1) i=if (nth l n).order=(i:Int) then !(nth l n).drp else onB x l n i:=by
 rw [onB,List.take_succ_eq_append_getElem h,List.foldl_append,Ze h];rfl
structure SqOk (x:Inst) (l:List Vis):Prop where
 ne:l≠ []
 inr:Inr x l
 nd:l.Nodup
 pair: ∀v∈l,pairB x.orders l v=true
theorem YN {x:Inst} {l:List Vis} (h:ZW x l=0):SqOk x l:=by
 unfold ZW at h
 split at h
 ·simp at h
 ·rename_i h1
  split at h
  ·simp at h
  ·split at h
   ·simp at h
   ·rename_i h3
    split at h
    ·simp at h
    ·rename_i h4;refine ⟨fun e=>h1 (.inl (by simp [e])),fun v hv=> ?_,QD.1 (by simpa using h3),fun v hv=> ?_⟩
     ·have h5: ¬(l.any (VS x))=true:=fun e=>h1 (.inr e)
      have h6:VS x v=false:=by
       cases hb:VS x v with
       | false=>rfl
       | true=>exact absurd (List.any_eq_true.2 ⟨v,hv,hb⟩) h5
      simpa [VS] using h6
     ·have h5:l.all (pairB x.orders l)=true:=by simpa using h4
      exact List.all_eq_true.1 h5 v hv
structure OwnV (x:Inst) (l:List Vis) (i:Nat):Prop where
 pick:0<=(nth x.orders i).pick.place->(⟨i,false⟩:Vis)∈l
 drp:0<=(nth x.orders i).drp.place->(⟨i,true⟩:Vis)∈l
 both:0<=(nth x.orders i).pick.place->0<=(nth x.orders i).drp.place->vIx l ⟨i,false⟩<vIx l ⟨i,true⟩
 isP:(⟨i,false⟩:Vis)∈l->0<=(nth x.orders i).pick.place
 isD:(⟨i,true⟩:Vis)∈l->0<=(nth x.orders i).drp.place
theorem SqOk.own {x:Inst} {l:List Vis} (h:SqOk x l) {i:Nat} (hi: ∃v∈l,v.order=(i:Int)):OwnV x l i:=by
 obtain ⟨v0,hv0,ho⟩:=hi
 have key: ∀v∈l,v.order=(i:Int)->v∈Yk x.orders i/\JY l (-1) (Yk x.orders i)=true:=fun v hv hvo=>by
  have:=h.pair v hv;simp only [pairB,hvo,Int.toNat_natCast,Bool.and_eq_true,decide_eq_true_eq] at this;exact ⟨WN.1 this.1,this.2⟩
 obtain ⟨_,hasc⟩:=key v0 hv0 ho;have mem: ∀b:Bool,(⟨i,b⟩:Vis)∈l->(⟨i,b⟩:Vis)∈Yk x.orders i:=fun b hb=>(key _ hb rfl).1
 have hp:(⟨i,false⟩:Vis)∈Yk x.orders i->0<=(nth x.orders i).pick.place:=fun hm=>by
  unfold Yk at hm;rcases List.mem_append.1 hm with hm | hm
  ·split at hm
   ·assumption
   ·simp at hm
  ·split at hm<;>simp at hm
 have hd:(⟨i,true⟩:Vis)∈Yk x.orders i->0<=(nth x.orders i).drp.place:=fun hm=>by
  unfold Yk at hm;rcases List.mem_append.1 hm with hm | hm
  ·split at hm<;>simp at hm
  ·split at hm
   ·assumption
   ·simp at hm
 have m1: ∀v,-1<vIx l v->v∈l:=fun v hv=>WN.1 (by omega);unfold Yk at hasc
 by_cases c1:0<=(nth x.orders i).pick.place<;>by_cases c2:0<=(nth x.orders i).drp.place
 ·simp only [c1,c2,if_true,List.cons_append,List.nil_append,JY,Bool.and_true,Bool.and_eq_true,decide_eq_true_eq] at hasc;exact ⟨fun _=>m1 _ hasc.1,fun _=>m1 _ (by omega),fun _ _=>hasc.2,fun _=>c1,fun _=>c2⟩
 ·simp only [c1,c2,if_true,if_false,List.append_nil,JY,Bool.and_true,decide_eq_true_eq] at hasc;exact ⟨fun _=>m1 _ hasc,fun h=>absurd h c2,fun _ h=>absurd h c2,fun _=>c1,fun hm=>hd (mem _ hm)⟩
 ·simp only [c1,c2,if_true,if_false,List.nil_append,JY,Bool.and_true,decide_eq_true_eq] at hasc;exact ⟨fun h=>absurd h c1,fun _=>m1 _ hasc,fun h=>absurd h c1,fun hm=>hp (mem _ hm),fun _=>c2⟩
 ·exact ⟨fun h=>absurd h c1,fun h=>absurd h c2,fun h=>absurd h c1,fun hm=>hp (mem _ hm),fun hm=>hd (mem _ hm)⟩
theorem Wo {l:List Vis} (hn:l.Nodup) {v:Vis} {n:Nat} :v∈l.take n↔0<=vIx l v/\vIx l v<(n:Int):=by
 constructor
 ·intro h;obtain ⟨j,h1,h2,rfl⟩:=UA h;rw [QL hn h2];omega
 ·intro ⟨h1,h2⟩;obtain ⟨h3,h4⟩:=Zki h1;rw [<- h4];exact Q7 (by omega) h3
theorem Zjj {x:Inst} {l:List Vis} (h:SqOk x l) (i:Nat): ∀n,n<=l.length->onB x l n i=if (⟨i,true⟩:Vis)∈l.take n then false else if (⟨i,false⟩:Vis)∈l.take n then true else decide ((nth x.orders i).pick.place<0)
 | 0,_=>by simp [onB]
 | n+1,hn=>by
  have hk:n<l.length:=by omega
  have hat:=QL h.nd hk;rw [JO hk,Zjj h i n (by omega)]
  by_cases c:(nth l n).order=(i:Int)
  ·rw [if_pos c];have ho:=h.own (i:=i) ⟨nth l n,Zl hk,c⟩
   cases hd:(nth l n).drp with
   | true =>
    have hv:nth l n=⟨i,true⟩:=by rw [<- c,<- hd]
    rw [hv] at hat;have:(⟨i,true⟩:Vis)∈l.take (n+1):=(Wo h.nd).2 (by omega);rw [if_pos this];rfl
   | false =>
    have hv:nth l n=⟨i,false⟩:=by rw [<- c,<- hd]
    rw [hv] at hat;have h1:(⟨i,false⟩:Vis)∈l.take (n+1):=(Wo h.nd).2 (by omega)
    have h2: ¬(⟨i,true⟩:Vis)∈l.take (n+1):=fun hm=>by
     have h3:=List.mem_of_mem_take hm;have h4:=(Wo h.nd).1 hm;have h5:=ho.both (ho.isP (List.mem_of_mem_take h1)) (ho.isD h3);omega
    rw [if_neg h2,if_pos h1];rfl
  ·rw [if_neg c]
   have e: ∀b:Bool,((⟨i,b⟩:Vis)∈l.take (n+1))=((⟨i,b⟩:Vis)∈l.take n):=fun b=>by
    rw [List.take_succ_eq_append_getElem hk,List.mem_append,<- Ze hk];refine propext ⟨fun hm=>hm.resolve_right fun hm=> ?_,.inl⟩;simp at hm;exact c (by rw [<- hm])
   simp only [e]
theorem Zrb {x:Inst} {l:List Vis} (h:SqOk x l) {k i:Nat} (hk:k<l.length) (hi:(nth l k).order=(i:Int)):onB x l k i=(nth l k).drp:=by
 have hat:=QL h.nd hk;have ho:=h.own (i:=i) ⟨nth l k,Zl hk,hi⟩;have hm:=Zl hk;rw [Zjj h i k (by omega)]
 cases hd:(nth l k).drp with
 | true =>
  have hv:nth l k=⟨i,true⟩:=by rw [<- hi,<- hd]
  rw [hv] at hat hm
  have h1: ¬(⟨i,true⟩:Vis)∈l.take k:=fun hm=>by have:=(Wo h.nd).1 hm;omega
  rw [if_neg h1]
  by_cases c:0<=(nth x.orders i).pick.place
  ·have h2:=ho.both c (ho.isD hm);have h3:(⟨i,false⟩:Vis)∈l.take k:=(Wo h.nd).2 ⟨WN.2 (ho.pick c),by omega⟩;rw [if_pos h3]
  ·have:(nth x.orders i).pick.place<0:=by omega
   split<;>simp [this]
 | false =>
  have hv:nth l k=⟨i,false⟩:=by rw [<- hi,<- hd]
  rw [hv] at hat hm;have hp:=ho.isP hm
  have h1: ¬(⟨i,false⟩:Vis)∈l.take k:=fun hm=>by have:=(Wo h.nd).1 hm;omega
  have h2: ¬(nth x.orders i).pick.place<0:=by omega
  rw [if_neg h1]
  split<;>simp [h2]
theorem ZjE {f g:Nat->Int} {i:Nat} (h: ∀q,q≠i->f q=g q): ∀n,i<n->((List.range n).map f).sum=((List.range n).map g).sum+(f i-g i):=by
 have same: ∀n,n<=i->((List.range n).map f).sum=((List.range n).map g).sum:=fun n hn=>by
  congr 1
  refine List.map_congr_left fun q hq=>h q ?_;have:=List.mem_range.1 hq;omega
 intro n
 induction n with
 | zero=>intro h;omega
 | succ n ih =>
  intro hi;simp only [List.range_succ,List.map_append,List.map_cons,List.map_nil,List.sum_append,List.sum_cons,List.sum_nil]
  by_cases hn:i=n
  ·subst hn;rw [same i (Nat.le_refl _)];omega
  ·rw [ih (by omega),h n (by omega)];omega
theorem Zf3 {f:Nat->Int} {b:Int} (hb:0<=b) (h: ∀q,0<=f q/\f q<=b): ∀n:Nat,0<=((List.range n).map f).sum/\((List.range n).map f).sum<=b*n
 | 0=>by simp
 | n+1=>by
  have ih:=Zf3 hb h n;have:=h n;simp only [List.range_succ,List.map_append,List.map_cons,List.map_nil,List.sum_append,List.sum_cons,List.sum_nil];rw [Int.natCast_add,Int.mul_add];omega
theorem Wk {p:Nat->Bool} {f:Nat->Int} : ∀l:List Nat,((l.filter p).map f).sum=(l.map fun i=>if p i=true then f i else 0).sum
 | []=>rfl
 | a::l=>by
  rw [List.filter_cons,List.map_cons,List.sum_cons]
  by_cases h:p a=true
  ·rw [if_pos h,List.map_cons,List.sum_cons,Wk l,if_pos h]
  ·rw [if_neg h,Wk l,if_neg h];omega
def Zdp (x:Inst) (l:List Vis) (n j:Nat):Int:=((List.range x.orders.length).map fun i=>if (onB x l n i&&Xb l i)=true then nth (nth x.orders i).load j else 0).sum
theorem KF {x:Inst} {l:List Vis} (h:SqOk x l) {k j:Nat} (hk:k<l.length):Zdp x l (k+1) j=if (nth l k).drp=true then Zdp x l k j-nth (nth x.orders (nth l k).order.toNat).load j else Zdp x l k j+nth (nth x.orders (nth l k).order.toNat).load j:=by
 obtain ⟨v1,v2⟩:=h.inr _ (Zl hk);obtain ⟨i,hi⟩: ∃i:Nat,(nth l k).order=(i:Int):=⟨(nth l k).order.toNat,by omega⟩;have hh:Xb l (i:Int)=true:=Z5.2 ⟨_,Zl hk,hi⟩;have h1:=Zrb h hk hi
 have h2:onB x l (k+1) i= !(nth l k).drp:=by rw [JO hk,if_pos hi]
 unfold Zdp
 rw [ZjE (f:=fun i=>if (onB x l (k+1) i&&Xb l i)=true then nth (nth x.orders i).load j else 0) (g:=fun i=>if (onB x l k i&&Xb l i)=true then nth (nth x.orders i).load j else 0) (i:=i) (fun q hq=>by
  have:onB x l (k+1) q=onB x l k q:=by rw [JO hk,if_neg (by omega)]
  simp only [this]) x.orders.length (by omega)]
 rw [h1,h2,hh,hi,Int.toNat_natCast]
 cases (nth l k).drp
 ·simp
 ·simp;omega
def Y8 (x:Inst) (l:List Vis) (n:Nat):List Int:=(List.range (dimsOf x.types).toNat).map fun j=>Zdp x l n j
def Zey (a b:List Int):List Int:=(List.range a.length).map fun j=>nth a j+nth b j
def ZsP (a b:List Int):List Int:=(List.range a.length).map fun j=>nth a j-nth b j
theorem WZ {x:Inst} {l:List Vis} {n:Nat} :(Y8 x l n).length=(dimsOf x.types).toNat:=by simp [Y8]
theorem Wj {f:Nat->Int} {n j:Nat} (h:j<n):nth ((List.range n).map f) j=f j:=by
 rw [Ze (by simpa using h)];simp
theorem ZfJ {x:Inst} {l:List Vis} (h:SqOk x l) {k:Nat} (hk:k<l.length):Y8 x l (k+1)=if (nth l k).drp=true then ZsP (Y8 x l k) (nth x.orders (nth l k).order.toNat).load else Zey (Y8 x l k) (nth x.orders (nth l k).order.toNat).load:=by
 have key: ∀g:Nat->Int,(∀j,j<(dimsOf x.types).toNat->Zdp x l (k+1) j=g j)->Y8 x l (k+1)=(List.range (dimsOf x.types).toNat).map g:=fun g hg =>
  List.map_congr_left fun j hj=>hg j (List.mem_range.1 hj)
 split
 ·rename_i hd;unfold ZsP;rw [WZ];refine key _ fun j hj=> ?_;rw [KF h hk,if_pos hd,Y8,Wj hj]
 ·rename_i hd;unfold Zey;rw [WZ];refine key _ fun j hj=> ?_;rw [KF h hk,if_neg hd,Y8,Wj hj]
end Go.Proofs.YtbdmjphjnniogaaGreatDoor.K
