/- Declarations that the closing texts need, part 13: joined by tools/slim.py. -/
import Derived.Test.YthmplgaldjpgiaaGreatDoorZ12
import Derived.Test.YthmplgaldjpgiaaGreatDoorRows
namespace Go.Proofs.YthmplgaldjpgiaaGreatDoor.K
open Go Go.AM Go.Proofs
theorem Zl0 : Tryz.prog.cellsOf 3=1:=by kernel_rfl
theorem ZCt : Tryz.prog.cellsOf 4=1:=by kernel_rfl
theorem ZCn : Tryz.prog.cellsOf 9=1:=by kernel_rfl
theorem ZyQ : Tryz.prog.cellsOf 22=1:=by kernel_rfl
theorem ZBt : Tryz.prog.cellsOf 23=1:=by kernel_rfl
theorem ZtW : Tryz.prog.cellsOf 25=2:=by kernel_rfl
theorem Zyx : pcs Tryz.prog 25=some [(0,22),(1,23)]:=by kernel_rfl
theorem ZAs : Tryz.prog.cellsOf 26=1:=by kernel_rfl
theorem Zz1 : Tryz.prog.cellsOf 27=1:=by kernel_rfl
theorem ZyT : Tryz.prog.cellsOf 28=1:=by kernel_rfl
theorem Zy4 : Tryz.prog.cellsOf 30=6:=by kernel_rfl
theorem Zrp : pcs Tryz.prog 30=some [(0,25),(2,26),(3,27),(4,28),(5,28)]:=by kernel_rfl
theorem ZA7 : Tryz.prog.cellsOf 33=1:=by kernel_rfl
theorem ZmH : Tryz.prog.cellsOf 34=1:=by kernel_rfl
theorem Zzf : Tryz.prog.cellsOf 36=2:=by kernel_rfl
theorem ZrR : pcs Tryz.prog 36=some [(0,33),(1,34)]:=by kernel_rfl
theorem ZAC : Tryz.prog.cellsOf 42=1:=by kernel_rfl
theorem ZBd : Tryz.prog.cellsOf 43=1:=by kernel_rfl
theorem Zz2 : Tryz.prog.cellsOf 45=4:=by kernel_rfl
theorem ZuE : pcs Tryz.prog 45=some [(0,3),(1,3),(2,42),(3,43)]:=by kernel_rfl
theorem ZqC : Tryz.prog.cellsOf 66=4:=by kernel_rfl
theorem Zzt : pcs Tryz.prog 66=some [(0,3),(1,3),(2,3),(3,3)]:=by kernel_rfl
theorem ZAj : Tryz.prog.cellsOf 68=16:=by kernel_rfl
theorem ZqZ : pcs Tryz.prog 68=some [(0,9),(1,34),(2,66),(6,66),(10,3),(11,3),(12,3),(13,3),(14,3),(15,4)]:=by kernel_rfl
theorem ZyN : Tryz.prog.cellsOf 93=14:=by kernel_rfl
theorem ZrH : pcs Tryz.prog 93=some [(0,9),(1,3),(2,3),(3,3),(4,34),(5,3),(6,3),(7,3),(8,3),(9,3),(10,3),(11,3),(12,3),(13,3)]:=by kernel_rfl
theorem ZqU : Tryz.prog.cellsOf 126=2:=by kernel_rfl
theorem ZlF : pcs Tryz.prog 126=some [(0,3),(1,4)]:=by kernel_rfl
theorem Zrx : Tryz.prog.cellsOf 192=1:=by kernel_rfl
theorem ZuH : Tryz.prog.cellsOf 194=6:=by kernel_rfl
theorem Zl3 : pcs Tryz.prog 194=some [(0,3),(1,3),(2,3),(3,3),(4,192),(5,192)]:=by kernel_rfl
theorem Zt7 : Tryz.prog.cellsOf 197=2:=by kernel_rfl
theorem Zmf : pcs Tryz.prog 197=some [(0,3),(1,3)]:=by kernel_rfl
theorem Zsv : Tryz.prog.cellsOf 202=2:=by kernel_rfl
theorem ZlQ : pcs Tryz.prog 202=some [(0,3),(1,3)]:=by kernel_rfl
set_option linter.unusedVariables false
set_option linter.unusedSimpArgs false
mutual
theorem Zhp {H:Type} :(d:DataW H)->dsz d<=Rows.uptoBulk d
 | .lit l=>by cases l<;>simp [dsz,Rows.uptoBulk]
 | .nil=>by simp [dsz,Rows.uptoBulk]
 | .ptr d=>by have:=Zhp d;simp only [dsz,Rows.uptoBulk];omega
 | .slice es sp=>by have:=Jd es;have:=Jd sp;simp only [dsz,Rows.uptoBulk];omega
 | .agg ps=>by have:=Jd ps;simp only [dsz,Rows.uptoBulk];omega
 | .iface _ d=>by have:=Zhp d;simp only [dsz,Rows.uptoBulk];omega
 | .map es=>by simp only [dsz,Rows.uptoBulk];omega
 | .held h=>by simp [dsz,Rows.uptoBulk]
theorem Jd {H:Type} :(l:List (DataW H))->Zbl l<=Rows.uptoBulkAll l
 | []=>by simp [Zbl,Rows.uptoBulkAll]
 | d::r=>by have:=Zhp d;have:=Jd r;simp only [Zbl,Rows.uptoBulkAll];omega
end
theorem KA {H:Type} {l:List (DataW H)} (h:Rows.uptoSmall H l=true):Zbl l<=1048576:=by
 have h1:=Jd l;have h2:Rows.uptoBulkAll l<=1048576:=of_decide_eq_true h;omega
abbrev I64 (n:Int):Prop:= -9223372036854775808<=n/\n<=9223372036854775807
def eI (n:Int):PV:= .int .i64 n
def eB (b:Bool):PV:= .bool b
def eS (s:List UInt8):PV:= .str s
def eP (p:Int×Int):PV:= .agg [.int .i64 p.1,.int .i64 p.2]
@[go_sem] theorem ZEE (n:Int):eI n= .int .i64 n:=Eq.trans rfl rfl
@[go_sem] theorem ZEO (b:Bool):eB b= .bool b:=Eq.trans rfl rfl
@[go_sem] theorem ZDU (s:List UInt8):eS s= .str s:=Eq.trans rfl rfl
@[go_sem] theorem ZEg (p:Int×Int):eP p= .agg [.int .i64 p.1,.int .i64 p.2]:=Eq.trans rfl rfl
@[go_sem] theorem ZCA (l:List Int):okE 1 (l.map eI)=true:=JJ fun _=>rfl
@[go_sem] theorem Zy5 (l:List Bool):ZcB 1 (l.map eB)=true:=Qp (f:=eB) (S:=1) (fun _=>rfl) l
theorem Zad {B xs} (h: ∀y∈xs,FitV Tryz.prog B 3 y): ∃l:List Int,xs=l.map eI/\ ∀n∈l,I64 n :=
 XW (f:=eI) fun y hy=>by
  obtain ⟨n,rfl,w⟩:=Zmt Tryz.underlying3 (h y hy);exact ⟨n,rfl,ZO w⟩
theorem ZhZ {B xs} (h: ∀y∈xs,FitV Tryz.prog B 4 y): ∃l:List Bool,xs=l.map eB/\ ∀b∈l,True :=
 XW (f:=eB) fun y hy=>by
  obtain ⟨b,rfl⟩:=ZjD Tryz.underlying4 (h y hy);exact ⟨b,rfl,trivial⟩
theorem ZiO {B xs} (h: ∀y∈xs,FitV Tryz.prog B 9 y): ∃l:List (List UInt8),xs=l.map eS/\ ∀s∈l,s.length<=B :=
 XW (f:=eS) fun y hy=>by
  obtain ⟨s,rfl,w,_⟩:=Zm6 Tryz.underlying9 (h y hy);exact ⟨s,rfl,w⟩
theorem Zt2 {α:Type} {l:List α} (h:l.length=2): ∃a0 a1,l= [a0,a1]:=by
 match l,h with | [a0,a1],_=>exact ⟨a0,a1,rfl⟩
theorem ZBz {α:Type} {l:List α} (h:l.length=6): ∃a0 a1 a2 a3 a4 a5,l= [a0,a1,a2,a3,a4,a5]:=by
 match l,h with | [a0,a1,a2,a3,a4,a5],_=>exact ⟨a0,a1,a2,a3,a4,a5,rfl⟩
theorem Zzv {α:Type} {l:List α} (h:l.length=14): ∃a0 a1 a2 a3 a4 a5 a6 a7 a8 a9 a10 a11 a12 a13,l= [a0,a1,a2,a3,a4,a5,a6,a7,a8,a9,a10,a11,a12,a13]:=by
 match l,h with | [a0,a1,a2,a3,a4,a5,a6,a7,a8,a9,a10,a11,a12,a13],_=>exact ⟨a0,a1,a2,a3,a4,a5,a6,a7,a8,a9,a10,a11,a12,a13,rfl⟩
theorem ZCT {α:Type} {l:List α} (h:l.length=4): ∃a0 a1 a2 a3,l= [a0,a1,a2,a3]:=by
 match l,h with | [a0,a1,a2,a3],_=>exact ⟨a0,a1,a2,a3,rfl⟩
theorem Zzx {α:Type} {l:List α} (h:l.length=16): ∃a0 a1 a2 a3 a4 a5 a6 a7 a8 a9 a10 a11 a12 a13 a14 a15,l= [a0,a1,a2,a3,a4,a5,a6,a7,a8,a9,a10,a11,a12,a13,a14,a15]:=by
 match l,h with | [a0,a1,a2,a3,a4,a5,a6,a7,a8,a9,a10,a11,a12,a13,a14,a15],_=>exact ⟨a0,a1,a2,a3,a4,a5,a6,a7,a8,a9,a10,a11,a12,a13,a14,a15,rfl⟩
structure Pt where
 t:Int
 a:Int
 deriving Inhabited
def cPt (x:Pt):List PV:= [.int .i64 x.t,.int .i64 x.a]
def ePt (x:Pt):PV:= .agg [.int .i64 x.t,.int .i64 x.a]
@[go_sem] theorem ZC0 (x:Pt):ePt x= .agg [.int .i64 x.t,.int .i64 x.a]:=Eq.trans rfl rfl
def Pt.wf (B:Nat) (x:Pt):Prop:=I64 x.t/\I64 x.a
theorem Zmq {B m cs} (h:Wj Tryz.prog B m 197 cs): ∃x:Pt,cs=cPt x/\x.wf B:=by
 obtain ⟨h1,m',h2⟩:=XO Zmf Zt7 h;obtain ⟨a0,a1,rfl⟩:=Zt2 h1;obtain ⟨n0,e0,w0⟩:=Zu Tryz.underlying3 (h2 (0,3) (by simp));obtain ⟨n1,e1,w1⟩:=Zu Tryz.underlying3 (h2 (1,3) (by simp));simp [Zl0] at e0 e1;subst e0;subst e1;exact ⟨⟨n0,n1⟩,rfl,ZO w0,ZO w1⟩
theorem Zle {B v} (h:FitV Tryz.prog B 197 v): ∃x:Pt,v=ePt x/\x.wf B:=by
 obtain ⟨k,cs,h,e⟩:=h.out;obtain ⟨x,rfl,hw⟩:=Zmq h;exact ⟨x,e.trans (by rw [JP,if_pos (XR Zmf)];rfl),hw⟩
structure Arc where
 src:Int
 dst:Int
 prof:Int
 miles:Int
 travel_c:Bool
 travel:List (Pt)
 slow_c:Bool
 slow:List (Pt)
 deriving Inhabited
def ZDZ (x:Arc):List PV:= [.int .i64 x.src,.int .i64 x.dst,.int .i64 x.prof,.int .i64 x.miles,.list x.travel_c (x.travel.map ePt),.list x.slow_c (x.slow.map ePt)]
def JU (x:Arc):PV:= .agg [.int .i64 x.src,.int .i64 x.dst,.int .i64 x.prof,.int .i64 x.miles,.list x.travel_c (x.travel.map ePt),.list x.slow_c (x.slow.map ePt)]
@[go_sem] theorem Zy0 (x:Arc):JU x= .agg [.int .i64 x.src,.int .i64 x.dst,.int .i64 x.prof,.int .i64 x.miles,.list x.travel_c (x.travel.map ePt),.list x.slow_c (x.slow.map ePt)]:=Eq.trans rfl rfl
def Arc.wf (B:Nat) (x:Arc):Prop:=I64 x.src/\I64 x.dst/\I64 x.prof/\I64 x.miles/\x.travel.length<=B/\(∀y∈x.travel,Pt.wf B y)/\x.slow.length<=B/\(∀y∈x.slow,Pt.wf B y)
theorem Zjx {B m cs} (h:Wj Tryz.prog B m 194 cs): ∃x:Arc,cs=ZDZ x/\x.wf B:=by
 obtain ⟨h1,m',h2⟩:=XO Zl3 ZuH h;obtain ⟨a0,a1,a2,a3,a4,a5,rfl⟩:=ZBz h1;obtain ⟨n0,e0,w0⟩:=Zu Tryz.underlying3 (h2 (0,3) (by simp));obtain ⟨n1,e1,w1⟩:=Zu Tryz.underlying3 (h2 (1,3) (by simp));obtain ⟨n2,e2,w2⟩:=Zu Tryz.underlying3 (h2 (2,3) (by simp));obtain ⟨n3,e3,w3⟩:=Zu Tryz.underlying3 (h2 (3,3) (by simp));obtain ⟨y4,e4,w4,_,z4⟩:=ZL Tryz.underlying192 (h2 (4,192) (by simp));obtain ⟨n4,rfl,u4⟩:=XW (f:=ePt) fun y hy=>Zle (z4 y hy);obtain ⟨y5,e5,w5,_,z5⟩:=ZL Tryz.underlying192 (h2 (5,192) (by simp))
 obtain ⟨n5,rfl,u5⟩:=XW (f:=ePt) fun y hy=>Zle (z5 y hy);simp [Zrx,Zl0] at e0 e1 e2 e3 e4 e5;subst e0;subst e1;subst e2;subst e3;subst e4;subst e5;exact ⟨⟨n0,n1,n2,n3,false,n4,false,n5⟩,rfl,ZO w0,ZO w1,ZO w2,ZO w3,by simpa using w4,u4,by simpa using w5,u5⟩
theorem ZnS {B v} (h:FitV Tryz.prog B 194 v): ∃x:Arc,v=JU x/\x.wf B:=by
 obtain ⟨k,cs,h,e⟩:=h.out;obtain ⟨x,rfl,hw⟩:=Zjx h;exact ⟨x,e.trans (by rw [JP,if_pos (XR Zl3)];rfl),hw⟩
structure Net where
 places_c:Bool
 places:List (List UInt8)
 arcs_c:Bool
 arcs:List (Arc)
 deriving Inhabited
def ZBD (x:Net):List PV:= [.list x.places_c (x.places.map eS),.list x.arcs_c (x.arcs.map JU)]
def Zgj (x:Net):PV:= .agg [.list x.places_c (x.places.map eS),.list x.arcs_c (x.arcs.map JU)]
@[go_sem] theorem ZAN (x:Net):Zgj x= .agg [.list x.places_c (x.places.map eS),.list x.arcs_c (x.arcs.map JU)]:=Eq.trans rfl rfl
def Net.wf (B:Nat) (x:Net):Prop:=x.places.length<=B/\(∀s∈x.places,s.length<=B)/\x.arcs.length<=B/\(∀y∈x.arcs,Arc.wf B y)
theorem Zku {B m cs} (h:Wj Tryz.prog B m 25 cs): ∃x:Net,cs=ZBD x/\x.wf B:=by
 obtain ⟨h1,m',h2⟩:=XO Zyx ZtW h;obtain ⟨a0,a1,rfl⟩:=Zt2 h1;obtain ⟨y0,e0,w0,_,z0⟩:=ZL Tryz.underlying22 (h2 (0,22) (by simp));obtain ⟨n0,rfl,u0⟩:=ZiO z0;obtain ⟨y1,e1,w1,_,z1⟩:=ZL Tryz.underlying23 (h2 (1,23) (by simp));obtain ⟨n1,rfl,u1⟩:=XW (f:=JU) fun y hy=>ZnS (z1 y hy);simp [ZBt,ZyQ] at e0 e1;subst e0;subst e1;exact ⟨⟨false,n0,false,n1⟩,rfl,by simpa using w0,u0,by simpa using w1,u1⟩
structure Typ where
 name:List UInt8
 count:Int
 src:Int
 dst:Int
 cap_c:Bool
 cap:List (Int)
 skills:Int
 prof:Int
 opn:Int
 cls:Int
 drive:Int
 rest:Int
 fixed:Int
 perMile:Int
 perTick:Int
 deriving Inhabited
def JQ (x:Typ):List PV:= [.str x.name,.int .i64 x.count,.int .i64 x.src,.int .i64 x.dst,.list x.cap_c (x.cap.map eI),.int .i64 x.skills,.int .i64 x.prof,.int .i64 x.opn,.int .i64 x.cls,.int .i64 x.drive,.int .i64 x.rest,.int .i64 x.fixed,.int .i64 x.perMile,.int .i64 x.perTick]
def JY (x:Typ):PV:= .agg [.str x.name,.int .i64 x.count,.int .i64 x.src,.int .i64 x.dst,.list x.cap_c (x.cap.map eI),.int .i64 x.skills,.int .i64 x.prof,.int .i64 x.opn,.int .i64 x.cls,.int .i64 x.drive,.int .i64 x.rest,.int .i64 x.fixed,.int .i64 x.perMile,.int .i64 x.perTick]
@[go_sem] theorem ZyX (x:Typ):JY x= .agg [.str x.name,.int .i64 x.count,.int .i64 x.src,.int .i64 x.dst,.list x.cap_c (x.cap.map eI),.int .i64 x.skills,.int .i64 x.prof,.int .i64 x.opn,.int .i64 x.cls,.int .i64 x.drive,.int .i64 x.rest,.int .i64 x.fixed,.int .i64 x.perMile,.int .i64 x.perTick]:=Eq.trans rfl rfl
def Typ.wf (B:Nat) (x:Typ):Prop:=x.name.length<=B/\I64 x.count/\I64 x.src/\I64 x.dst/\x.cap.length<=B/\(∀n∈x.cap,I64 n)/\I64 x.skills/\I64 x.prof/\I64 x.opn/\I64 x.cls/\I64 x.drive/\I64 x.rest/\I64 x.fixed/\I64 x.perMile/\I64 x.perTick
theorem ZjE {B m cs} (h:Wj Tryz.prog B m 93 cs): ∃x:Typ,cs=JQ x/\x.wf B:=by
 obtain ⟨h1,m',h2⟩:=XO ZrH ZyN h;obtain ⟨a0,a1,a2,a3,a4,a5,a6,a7,a8,a9,a10,a11,a12,a13,rfl⟩:=Zzv h1;obtain ⟨n0,e0,w0,_⟩:=Zaf Tryz.underlying9 (h2 (0,9) (by simp));obtain ⟨n1,e1,w1⟩:=Zu Tryz.underlying3 (h2 (1,3) (by simp));obtain ⟨n2,e2,w2⟩:=Zu Tryz.underlying3 (h2 (2,3) (by simp));obtain ⟨n3,e3,w3⟩:=Zu Tryz.underlying3 (h2 (3,3) (by simp));obtain ⟨y4,e4,w4,_,z4⟩:=ZL Tryz.underlying34 (h2 (4,34) (by simp));obtain ⟨n4,rfl,u4⟩:=Zad z4;obtain ⟨n5,e5,w5⟩:=Zu Tryz.underlying3 (h2 (5,3) (by simp))
 obtain ⟨n6,e6,w6⟩:=Zu Tryz.underlying3 (h2 (6,3) (by simp));obtain ⟨n7,e7,w7⟩:=Zu Tryz.underlying3 (h2 (7,3) (by simp));obtain ⟨n8,e8,w8⟩:=Zu Tryz.underlying3 (h2 (8,3) (by simp));obtain ⟨n9,e9,w9⟩:=Zu Tryz.underlying3 (h2 (9,3) (by simp));obtain ⟨n10,e10,w10⟩:=Zu Tryz.underlying3 (h2 (10,3) (by simp));obtain ⟨n11,e11,w11⟩:=Zu Tryz.underlying3 (h2 (11,3) (by simp));obtain ⟨n12,e12,w12⟩:=Zu Tryz.underlying3 (h2 (12,3) (by simp));obtain ⟨n13,e13,w13⟩:=Zu Tryz.underlying3 (h2 (13,3) (by simp));simp [ZmH,Zl0,ZCn] at e0 e1 e2 e3 e4 e5 e6 e7 e8 e9 e10 e11 e12 e13
 subst e0;subst e1;subst e2;subst e3;subst e4;subst e5;subst e6;subst e7;subst e8;subst e9;subst e10;subst e11;subst e12;subst e13;exact ⟨⟨n0,n1,n2,n3,false,n4,n5,n6,n7,n8,n9,n10,n11,n12,n13⟩,rfl,w0,ZO w1,ZO w2,ZO w3,by simpa using w4,u4,ZO w5,ZO w6,ZO w7,ZO w8,ZO w9,ZO w10,ZO w11,ZO w12,ZO w13⟩
theorem ZnZ {B v} (h:FitV Tryz.prog B 93 v): ∃x:Typ,v=JY x/\x.wf B:=by
 obtain ⟨k,cs,h,e⟩:=h.out;obtain ⟨x,rfl,hw⟩:=ZjE h;exact ⟨x,e.trans (by rw [JP,if_pos (XR ZrH)];rfl),hw⟩
structure Stp where
 place:Int
 opn:Int
 cls:Int
 serv:Int
 deriving Inhabited
def J3 (x:Stp):List PV:= [.int .i64 x.place,.int .i64 x.opn,.int .i64 x.cls,.int .i64 x.serv]
def ZiL (x:Stp):PV:= .agg [.int .i64 x.place,.int .i64 x.opn,.int .i64 x.cls,.int .i64 x.serv]
@[go_sem] theorem ZBo (x:Stp):ZiL x= .agg [.int .i64 x.place,.int .i64 x.opn,.int .i64 x.cls,.int .i64 x.serv]:=Eq.trans rfl rfl
def Stp.wf (B:Nat) (x:Stp):Prop:=I64 x.place/\I64 x.opn/\I64 x.cls/\I64 x.serv
theorem Zd5 {B m cs} (h:Wj Tryz.prog B m 66 cs): ∃x:Stp,cs=J3 x/\x.wf B:=by
 obtain ⟨h1,m',h2⟩:=XO Zzt ZqC h;obtain ⟨a0,a1,a2,a3,rfl⟩:=ZCT h1;obtain ⟨n0,e0,w0⟩:=Zu Tryz.underlying3 (h2 (0,3) (by simp));obtain ⟨n1,e1,w1⟩:=Zu Tryz.underlying3 (h2 (1,3) (by simp));obtain ⟨n2,e2,w2⟩:=Zu Tryz.underlying3 (h2 (2,3) (by simp));obtain ⟨n3,e3,w3⟩:=Zu Tryz.underlying3 (h2 (3,3) (by simp));simp [Zl0] at e0 e1 e2 e3;subst e0;subst e1;subst e2;subst e3;exact ⟨⟨n0,n1,n2,n3⟩,rfl,ZO w0,ZO w1,ZO w2,ZO w3⟩
theorem Zro {B v} (h:FitV Tryz.prog B 202 v): ∃x:Int×Int,v=eP x/\I64 x.1/\I64 x.2:=by
 obtain ⟨k,cs,h,e⟩:=h.out;obtain ⟨h1,m',h2⟩:=XO ZlQ Zsv h;obtain ⟨a,b,rfl⟩:=Zt2 h1;obtain ⟨n0,e0,w0⟩:=Zu Tryz.underlying3 (h2 (0,3) (by simp));obtain ⟨n1,e1,w1⟩:=Zu Tryz.underlying3 (h2 (1,3) (by simp));simp [Zl0] at e0 e1;subst e0;subst e1;exact ⟨(n0,n1),e.trans (by rw [JP,if_pos (XR ZlQ)];rfl),ZO w0,ZO w1⟩
structure Ord where
 name:List UInt8
 load_c:Bool
 load:List (Int)
 pick:Stp
 drp:Stp
 skills:Int
 penalty:Int
 split:Int
 last:Int
 now:Int
 off:Bool
 deriving Inhabited
def ZD0 (x:Ord):List PV:= [.str x.name,.list x.load_c (x.load.map eI),.int .i64 x.pick.place,.int .i64 x.pick.opn,.int .i64 x.pick.cls,.int .i64 x.pick.serv,.int .i64 x.drp.place,.int .i64 x.drp.opn,.int .i64 x.drp.cls,.int .i64 x.drp.serv,.int .i64 x.skills,.int .i64 x.penalty,.int .i64 x.split,.int .i64 x.last,.int .i64 x.now,.bool x.off]
def Vt (x:Ord):PV:= .agg [.str x.name,.list x.load_c (x.load.map eI),.int .i64 x.pick.place,.int .i64 x.pick.opn,.int .i64 x.pick.cls,.int .i64 x.pick.serv,.int .i64 x.drp.place,.int .i64 x.drp.opn,.int .i64 x.drp.cls,.int .i64 x.drp.serv,.int .i64 x.skills,.int .i64 x.penalty,.int .i64 x.split,.int .i64 x.last,.int .i64 x.now,.bool x.off]
@[go_sem] theorem Zy8 (x:Ord):Vt x= .agg [.str x.name,.list x.load_c (x.load.map eI),.int .i64 x.pick.place,.int .i64 x.pick.opn,.int .i64 x.pick.cls,.int .i64 x.pick.serv,.int .i64 x.drp.place,.int .i64 x.drp.opn,.int .i64 x.drp.cls,.int .i64 x.drp.serv,.int .i64 x.skills,.int .i64 x.penalty,.int .i64 x.split,.int .i64 x.last,.int .i64 x.now,.bool x.off]:=Eq.trans rfl rfl
def Ord.wf (B:Nat) (x:Ord):Prop:=x.name.length<=B/\x.load.length<=B/\(∀n∈x.load,I64 n)/\Stp.wf B x.pick/\Stp.wf B x.drp/\I64 x.skills/\I64 x.penalty/\I64 x.split/\I64 x.last/\I64 x.now
theorem Zkg {B m cs} (h:Wj Tryz.prog B m 68 cs): ∃x:Ord,cs=ZD0 x/\x.wf B:=by
 obtain ⟨h1,m',h2⟩:=XO ZqZ ZAj h;obtain ⟨a0,a1,a2,a3,a4,a5,a6,a7,a8,a9,a10,a11,a12,a13,a14,a15,rfl⟩:=Zzx h1;obtain ⟨n0,e0,w0,_⟩:=Zaf Tryz.underlying9 (h2 (0,9) (by simp));obtain ⟨y1,e1,w1,_,z1⟩:=ZL Tryz.underlying34 (h2 (1,34) (by simp));obtain ⟨n1,rfl,u1⟩:=Zad z1;obtain ⟨n2,e2,w2⟩:=Zd5 (h2 (2,66) (by simp));obtain ⟨n3,e3,w3⟩:=Zd5 (h2 (6,66) (by simp));obtain ⟨n4,e4,w4⟩:=Zu Tryz.underlying3 (h2 (10,3) (by simp));obtain ⟨n5,e5,w5⟩:=Zu Tryz.underlying3 (h2 (11,3) (by simp));obtain ⟨n6,e6,w6⟩:=Zu Tryz.underlying3 (h2 (12,3) (by simp))
 obtain ⟨n7,e7,w7⟩:=Zu Tryz.underlying3 (h2 (13,3) (by simp));obtain ⟨n8,e8,w8⟩:=Zu Tryz.underlying3 (h2 (14,3) (by simp));obtain ⟨n9,e9⟩:=Ju Tryz.underlying4 (h2 (15,4) (by simp));simp [ZmH,ZqC,ZCt,Zl0,ZCn,J3,J3] at e0 e1 e2 e3 e4 e5 e6 e7 e8 e9;subst e0;subst e1;obtain ⟨rfl,rfl,rfl,rfl⟩:=e2;obtain ⟨rfl,rfl,rfl,rfl⟩:=e3;subst e4;subst e5;subst e6;subst e7;subst e8;subst e9;exact ⟨⟨n0,false,n1,n2,n3,n4,n5,n6,n7,n8,n9⟩,rfl,w0,by simpa using w1,u1,w2,w3,ZO w4,ZO w5,ZO w6,ZO w7,ZO w8⟩
theorem Znn {B v} (h:FitV Tryz.prog B 68 v): ∃x:Ord,v=Vt x/\x.wf B:=by
 obtain ⟨k,cs,h,e⟩:=h.out;obtain ⟨x,rfl,hw⟩:=Zkg h;exact ⟨x,e.trans (by rw [JP,if_pos (XR ZqZ)];rfl),hw⟩
structure Inst where
 net:Net
 types_c:Bool
 types:List (Typ)
 orders_c:Bool
 orders:List (Ord)
 apart_c:Bool
 apart:List (Int×Int)
 before_c:Bool
 before:List (Int×Int)
 deriving Inhabited
def Zyu (x:Inst):List PV:= [.list x.net.places_c (x.net.places.map eS),.list x.net.arcs_c (x.net.arcs.map JU),.list x.types_c (x.types.map JY),.list x.orders_c (x.orders.map Vt),.list x.apart_c (x.apart.map eP),.list x.before_c (x.before.map eP)]
def ZT (x:Inst):PV:= .agg [.list x.net.places_c (x.net.places.map eS),.list x.net.arcs_c (x.net.arcs.map JU),.list x.types_c (x.types.map JY),.list x.orders_c (x.orders.map Vt),.list x.apart_c (x.apart.map eP),.list x.before_c (x.before.map eP)]
@[go_sem] theorem ZwC (x:Inst):ZT x= .agg [.list x.net.places_c (x.net.places.map eS),.list x.net.arcs_c (x.net.arcs.map JU),.list x.types_c (x.types.map JY),.list x.orders_c (x.orders.map Vt),.list x.apart_c (x.apart.map eP),.list x.before_c (x.before.map eP)]:=Eq.trans rfl rfl
def Inst.wf (B:Nat) (x:Inst):Prop:=Net.wf B x.net/\x.types.length<=B/\(∀y∈x.types,Typ.wf B y)/\x.orders.length<=B/\(∀y∈x.orders,Ord.wf B y)/\x.apart.length<=B/\(∀p∈x.apart,I64 p.1/\I64 p.2)/\x.before.length<=B/\(∀p∈x.before,I64 p.1/\I64 p.2)
theorem Ziu {B m cs} (h:Wj Tryz.prog B m 30 cs): ∃x:Inst,cs=Zyu x/\x.wf B:=by
 obtain ⟨h1,m',h2⟩:=XO Zrp Zy4 h;obtain ⟨a0,a1,a2,a3,a4,a5,rfl⟩:=ZBz h1;obtain ⟨n0,e0,w0⟩:=Zku (h2 (0,25) (by simp));obtain ⟨y1,e1,w1,_,z1⟩:=ZL Tryz.underlying26 (h2 (2,26) (by simp));obtain ⟨n1,rfl,u1⟩:=XW (f:=JY) fun y hy=>ZnZ (z1 y hy);obtain ⟨y2,e2,w2,_,z2⟩:=ZL Tryz.underlying27 (h2 (3,27) (by simp));obtain ⟨n2,rfl,u2⟩:=XW (f:=Vt) fun y hy=>Znn (z2 y hy);obtain ⟨y3,e3,w3,_,z3⟩:=ZL Tryz.underlying28 (h2 (4,28) (by simp));obtain ⟨n3,rfl,u3⟩:=XW (f:=eP) fun y hy=>Zro (z3 y hy)
 obtain ⟨y4,e4,w4,_,z4⟩:=ZL Tryz.underlying28 (h2 (5,28) (by simp));obtain ⟨n4,rfl,u4⟩:=XW (f:=eP) fun y hy=>Zro (z4 y hy);simp [ZyT,Zz1,ZAs,ZtW,ZBD] at e0 e1 e2 e3 e4;obtain ⟨rfl,rfl⟩:=e0;subst e1;subst e2;subst e3;subst e4;exact ⟨⟨n0,false,n1,false,n2,false,n3,false,n4⟩,rfl,w0,by simpa using w1,u1,by simpa using w2,u2,by simpa using w3,u3,by simpa using w4,u4⟩
theorem ZdV {B v} (h:FitV Tryz.prog B 30 v): ∃x:Inst,v=ZT x/\x.wf B:=by
 obtain ⟨k,cs,h,e⟩:=h.out;obtain ⟨x,rfl,hw⟩:=Ziu h;exact ⟨x,e.trans (by rw [JP,if_pos (XR Zrp)];rfl),hw⟩
structure Vis where
 order:Int
 drp:Bool
 deriving Inhabited
def ZD9 (x:Vis):List PV:= [.int .i64 x.order,.bool x.drp]
def Xi (x:Vis):PV:= .agg [.int .i64 x.order,.bool x.drp]
@[go_sem] theorem ZnV (x:Vis):Xi x= .agg [.int .i64 x.order,.bool x.drp]:=Eq.trans rfl rfl
@[go_sem] theorem Zp2 (l:List Vis):ZcB 2 (l.map Xi)=true:=Qp (f:=Xi) (S:=2) (fun _=>rfl) l
@[go_sem] theorem ZwS (l:List Vis):okE 2 (l.map Xi)=true:=JJ fun _=>rfl
def Vis.wf (B:Nat) (x:Vis):Prop:=I64 x.order
theorem Zkc {B m cs} (h:Wj Tryz.prog B m 126 cs): ∃x:Vis,cs=ZD9 x/\x.wf B:=by
 obtain ⟨h1,m',h2⟩:=XO ZlF ZqU h;obtain ⟨a0,a1,rfl⟩:=Zt2 h1;obtain ⟨n0,e0,w0⟩:=Zu Tryz.underlying3 (h2 (0,3) (by simp));obtain ⟨n1,e1⟩:=Ju Tryz.underlying4 (h2 (1,4) (by simp));simp [ZCt,Zl0] at e0 e1;subst e0;subst e1;exact ⟨⟨n0,n1⟩,rfl,ZO w0⟩
theorem ZmV {B v} (h:FitV Tryz.prog B 126 v): ∃x:Vis,v=Xi x/\x.wf B:=by
 obtain ⟨k,cs,h,e⟩:=h.out;obtain ⟨x,rfl,hw⟩:=Zkc h;exact ⟨x,e.trans (by rw [JP,if_pos (XR ZlF)];rfl),hw⟩
structure Rte where
 typ:Int
 start:Int
 rests_c:Bool
 rests:List (Bool)
 visits_c:Bool
 visits:List (Vis)
 deriving Inhabited
def ZEw (x:Rte):List PV:= [.int .i64 x.typ,.int .i64 x.start,.list x.rests_c (x.rests.map eB),.list x.visits_c (x.visits.map Xi)]
def eRte (x:Rte):PV:= .agg [.int .i64 x.typ,.int .i64 x.start,.list x.rests_c (x.rests.map eB),.list x.visits_c (x.visits.map Xi)]
@[go_sem] theorem Zz9 (x:Rte):eRte x= .agg [.int .i64 x.typ,.int .i64 x.start,.list x.rests_c (x.rests.map eB),.list x.visits_c (x.visits.map Xi)]:=Eq.trans rfl rfl
@[go_sem] theorem Zwx (l:List Rte):okE 4 (l.map eRte)=true:=JJ fun _=>rfl
def Rte.wf (B:Nat) (x:Rte):Prop:=I64 x.typ/\I64 x.start/\x.rests.length<=B/\(∀b∈x.rests,True)/\x.visits.length<=B/\(∀y∈x.visits,Vis.wf B y)
theorem Zj4 {B m cs} (h:Wj Tryz.prog B m 45 cs): ∃x:Rte,cs=ZEw x/\x.wf B:=by
 obtain ⟨h1,m',h2⟩:=XO ZuE Zz2 h;obtain ⟨a0,a1,a2,a3,rfl⟩:=ZCT h1;obtain ⟨n0,e0,w0⟩:=Zu Tryz.underlying3 (h2 (0,3) (by simp));obtain ⟨n1,e1,w1⟩:=Zu Tryz.underlying3 (h2 (1,3) (by simp));obtain ⟨y2,e2,w2,_,z2⟩:=ZL Tryz.underlying42 (h2 (2,42) (by simp));obtain ⟨n2,rfl,u2⟩:=ZhZ z2;obtain ⟨y3,e3,w3,_,z3⟩:=ZL Tryz.underlying43 (h2 (3,43) (by simp));obtain ⟨n3,rfl,u3⟩:=XW (f:=Xi) fun y hy=>ZmV (z3 y hy);simp [ZBd,ZAC,Zl0] at e0 e1 e2 e3;subst e0;subst e1;subst e2;subst e3;exact ⟨⟨n0,n1,false,n2,false,n3⟩,rfl,ZO w0,ZO w1,by simpa using w2,u2,by simpa using w3,u3⟩
theorem Zos {B v} (h:FitV Tryz.prog B 45 v): ∃x:Rte,v=eRte x/\x.wf B:=by
 obtain ⟨k,cs,h,e⟩:=h.out;obtain ⟨x,rfl,hw⟩:=Zj4 h;exact ⟨x,e.trans (by rw [JP,if_pos (XR ZuE)];rfl),hw⟩
structure Tim where
 arr:Int
 beg:Int
 dep:Int
 rest:Bool
 deriving Inhabited
def eTim (x:Tim):PV:= .agg [.int .i64 x.arr,.int .i64 x.beg,.int .i64 x.dep,.bool x.rest]
@[go_sem] theorem ZzK (x:Tim):eTim x= .agg [.int .i64 x.arr,.int .i64 x.beg,.int .i64 x.dep,.bool x.rest]:=Eq.trans rfl rfl
@[go_sem] theorem ZxW (l:List Tim):okE 4 (l.map eTim)=true:=JJ fun _=>rfl
structure She where
 rest:Bool
 dep:Int
 times_c:Bool
 times:List (Tim)
 fin:Int
 miles:Int
 deriving Inhabited
def Zo3 (x:She):PV:= .agg [.bool x.rest,.int .i64 x.dep,.list x.times_c (x.times.map eTim),.int .i64 x.fin,.int .i64 x.miles]
@[go_sem] theorem ZAY (x:She):Zo3 x= .agg [.bool x.rest,.int .i64 x.dep,.list x.times_c (x.times.map eTim),.int .i64 x.fin,.int .i64 x.miles]:=Eq.trans rfl rfl
structure Sco where
 cost:Int
 moved:Int
 other:Int
 work:Int
 deriving Inhabited
def ZfF (x:Sco):PV:= .agg [.int .i64 x.cost,.int .i64 x.moved,.int .i64 x.other,.int .i64 x.work]
@[go_sem] theorem ZzM (x:Sco):ZfF x= .agg [.int .i64 x.cost,.int .i64 x.moved,.int .i64 x.other,.int .i64 x.work]:=Eq.trans rfl rfl
structure Pln where
 routes_c:Bool
 routes:List (Rte)
 unserved_c:Bool
 unserved:List (Int)
 deriving Inhabited
def ZEi (x:Pln):List PV:= [.list x.routes_c (x.routes.map eRte),.list x.unserved_c (x.unserved.map eI)]
def JB (x:Pln):PV:= .agg [.list x.routes_c (x.routes.map eRte),.list x.unserved_c (x.unserved.map eI)]
@[go_sem] theorem Zy9 (x:Pln):JB x= .agg [.list x.routes_c (x.routes.map eRte),.list x.unserved_c (x.unserved.map eI)]:=Eq.trans rfl rfl
def Pln.wf (B:Nat) (x:Pln):Prop:=x.routes.length<=B/\(∀y∈x.routes,Rte.wf B y)/\x.unserved.length<=B/\(∀n∈x.unserved,I64 n)
theorem Zkl {B m cs} (h:Wj Tryz.prog B m 36 cs): ∃x:Pln,cs=ZEi x/\x.wf B:=by
 obtain ⟨h1,m',h2⟩:=XO ZrR Zzf h;obtain ⟨a0,a1,rfl⟩:=Zt2 h1;obtain ⟨y0,e0,w0,_,z0⟩:=ZL Tryz.underlying33 (h2 (0,33) (by simp));obtain ⟨n0,rfl,u0⟩:=XW (f:=eRte) fun y hy=>Zos (z0 y hy);obtain ⟨y1,e1,w1,_,z1⟩:=ZL Tryz.underlying34 (h2 (1,34) (by simp));obtain ⟨n1,rfl,u1⟩:=Zad z1;simp [ZA7,ZmH] at e0 e1;subst e0;subst e1;exact ⟨⟨false,n0,false,n1⟩,rfl,by simpa using w0,u0,by simpa using w1,u1⟩
theorem Zmn {B v} (h:FitV Tryz.prog B 36 v): ∃x:Pln,v=JB x/\x.wf B:=by
 obtain ⟨k,cs,h,e⟩:=h.out;obtain ⟨x,rfl,hw⟩:=Zkl h;exact ⟨x,e.trans (by rw [JP,if_pos (XR ZrR)];rfl),hw⟩
structure Col where
 typ:Int
 set:Int
 price:Int
 route:Rte
 deriving Inhabited
def ZtO (x:Col):List PV:= [.int .i64 x.typ,.int .i64 x.set,.int .i64 x.price,.int .i64 x.route.typ,.int .i64 x.route.start,.list x.route.rests_c (x.route.rests.map eB),.list x.route.visits_c (x.route.visits.map Xi)]
def XT (x:Col):PV:= .agg [.int .i64 x.typ,.int .i64 x.set,.int .i64 x.price,.int .i64 x.route.typ,.int .i64 x.route.start,.list x.route.rests_c (x.route.rests.map eB),.list x.route.visits_c (x.route.visits.map Xi)]
@[go_sem] theorem Zze (x:Col):XT x= .agg [.int .i64 x.typ,.int .i64 x.set,.int .i64 x.price,.int .i64 x.route.typ,.int .i64 x.route.start,.list x.route.rests_c (x.route.rests.map eB),.list x.route.visits_c (x.route.visits.map Xi)]:=Eq.trans rfl rfl
@[go_sem] theorem Ztt (l:List Col):ZcB 7 (l.map XT)=true:=Qp (f:=XT) (S:=7) (fun _=>rfl) l
theorem own : ownKnob Tryz.prog.godebug=none:=by kernel_rfl
theorem Zit : laidOutB Tryz.prog=true:=by kernel_rfl
abbrev Flt := Int×List UInt8
def eF (f:Flt):PV:= .agg [.int .i64 f.1,.str f.2]
@[go_sem] theorem ZEF (f:Flt):eF f= .agg [.int .i64 f.1,.str f.2]:=Eq.trans rfl rfl
@[go_sem] theorem ZBT (l:List Flt):okE 2 (l.map eF)=true:=JJ fun _=>rfl
def dec (n:Nat):List UInt8:=if h:n<10 then [UInt8.ofNat (48+n)] else dec (n / 10)++ [UInt8.ofNat (48+n%10)]
termination_by n
decreasing_by omega
theorem Zgk : ∀(k n:Nat),n<k->(dec n).length<=n+1:=by
 intro k
 induction k with
 | zero=>intro n h;omega
 | succ k ih =>
  intro n h;rw [dec]
  split
  ·simp
  ·have:=ih (n / 10) (by omega);simp;omega
theorem Ul : ∀(d n:Nat),n<10^(d+1)->(dec n).length<=d+1:=by
 intro d
 induction d with
 | zero=>intro n h;rw [dec,dif_pos (by omega)];simp
 | succ d ih =>
  intro n h;rw [dec]
  split
  ·simp
  ·have:=ih (n / 10) (by rw [Nat.div_lt_iff_lt_mul (by omega)];rw [Nat.pow_succ] at h;exact h);simp;omega
def ZcA (n:Int):List UInt8:=if n<0 then 45::dec n.natAbs else dec n.natAbs
theorem WH (n:Int) (h:I64 n):(ZcA n).length<=20:=by
 have h1:n.natAbs<10^(18+1):=by omega
 have:=Ul 18 n.natAbs h1;unfold ZcA
 split<;>simp<;>omega
structure FR {α:Type} (p:α->Prop) (C:Prop) (b:Nat) (l:List α):Prop where
 len:l.length<=b
 emp:l= []↔C
 all: ∀x∈l,p x
theorem FR.nil {α:Type} {p:α->Prop} {C:Prop} {b:Nat} (h:C):FR p C b []:=⟨by simp,by simp [h],by simp⟩
theorem FR.no {α:Type} {p:α->Prop} {C c:Prop} {b:Nat} {l:List α} (h:FR p C b l) (hc:c):FR p (C/\c) (b+1) l:=⟨by have:=h.len;omega,by rw [h.emp];simp [hc],h.all⟩
theorem FR.yes {α:Type} {p:α->Prop} {C c:Prop} {b:Nat} {l:List α} {x:α} (h:FR p C b l) (hc: ¬c) (hx:p x):FR p (C/\c) (b+1) (l++ [x]) :=
 ⟨by have:=h.len;simp;omega,by simp [hc],fun y hy=>by
  rcases List.mem_append.1 hy with hy | hy
  ·exact h.all y hy
  ·simp at hy;subst hy;exact hx⟩
theorem FR.app {α:Type} {p:α->Prop} {C D:Prop} {b d:Nat} {l m:List α} (h:FR p C b l) (k:FR p D d m):FR p (C/\D) (b+d) (l++m) :=
 ⟨by have:=h.len;have:=k.len;simp;omega,by rw [List.append_eq_nil_iff,h.emp,k.emp],fun y hy=>by
  rcases List.mem_append.1 hy with hy | hy
  ·exact h.all y hy
  ·exact k.all y hy⟩
theorem FR.to {α:Type} {p:α->Prop} {C D:Prop} {b d:Nat} {l:List α} (h:FR p C b l) (hb:b<=d) (hc:C↔D):FR p D d l:=⟨Nat.le_trans h.len hb,h.emp.trans hc,h.all⟩
theorem Zl {p:Nat->Prop} {k:Nat} :(∀j,j<k+1->p j)↔((∀j,j<k->p j)/\p k) :=
 ⟨fun h=>⟨fun j hj=>h j (by omega),h k (by omega)⟩,fun h j hj=>by
  rcases Nat.lt_or_ge j k with h1 | h1
  ·exact h.1 j h1
  ·have:j=k:=by omega
   rw [this];exact h.2⟩
def WC (c:UInt8):Bool:=decide (48<=c.toNat/\c.toNat<=57)
def Wh (c:UInt8):Bool:=decide (97<=c.toNat/\c.toNat<=122)||decide (65<=c.toNat/\c.toNat<=90)||decide (c.toNat=95)
def nameOk (s:List UInt8):Bool:=decide (1<=s.length)&&decide (s.length<=16)&& !WC (nth s 0)&&s.all fun c=>Wh c||WC c
def rng (n lo hi:Int):Bool:=decide (lo<=n/\n<=hi)
def Zkv (n:Int):Bool:=rng n 0 4096
def ZsB (l:List Pt) (i:Nat):Prop:=(0<=(nth l i).t/\(nth l i).t<=4096/\(nth l i).t<=(nth l i).a/\(nth l i).a<=(nth l i).t+4096)/\(0<i->(nth l (i-1)).t<(nth l i).t/\(nth l (i-1)).a<=(nth l i).a)
def Y4 (l:List Pt):Prop:=(1<=l.length/\l.length<=16)/\ ∀i,i<l.length->ZsB l i
def U4 (l:List Pt) (i:Nat):Prop:=Zkv (nth l i).t=true/\Zkv (nth l i).a=true/\(0<i->(nth l (i-1)).t<(nth l i).t)
def Zhv (n:Net) (i:Nat):Prop :=
 ((((((0<=(nth n.arcs i).src/\(nth n.arcs i).src<n.places.length/\0<=(nth n.arcs i).dst/\(nth n.arcs i).dst<n.places.length) /\
 (0<=(nth n.arcs i).prof/\(nth n.arcs i).prof<=7/\0<=(nth n.arcs i).miles/\(nth n.arcs i).miles<=10000/\(nth n.arcs i).src≠(nth n.arcs i).dst)) /\
 (∀k,k<i-> ¬((nth n.arcs i).src=(nth n.arcs k).src/\(nth n.arcs i).dst=(nth n.arcs k).dst/\(nth n.arcs i).prof=(nth n.arcs k).prof))) /\
 Y4 (nth n.arcs i).travel)/\(nth n.arcs i).slow.length<=16)/\ ∀k,k<(nth n.arcs i).slow.length->U4 (nth n.arcs i).slow k)
def ZmE (n:Net) (i:Nat):Prop:=nameOk (nth n.places i)=true/\ ∀k,k<i->nth n.places k≠nth n.places i
def VM (n:Net):Prop:=n.places.length<=24/\ ∀i,i<n.places.length->ZmE n i
def netOk (n:Net):Prop:=(VM n/\n.arcs.length<=1024)/\ ∀i,i<n.arcs.length->Zhv n i
set_option maxRecDepth 8000
set_option maxHeartbeats 4000000
theorem ZgF (c:UInt8):PC 185 [.p (.int .u8 (c.toNat:Nat))] (.bool (WC c)):=by
 refine Za Tryz.func185 rfl ZqE ?_;simp (disch:=omega) only [Tryz.f185,go_sem,seval];refine gT ?_ ?_<;>intro h<;>simp (disch:=omega) only [Sh.out h,go_sem,seval]
 all_goals (simp [WC];first | done | omega | (rw [Bool.eq_iff_iff];simp;omega))
theorem Zj5 (c:UInt8):PC 186 [.p (.int .u8 (c.toNat:Nat))] (.bool (Wh c)):=by
 refine Za Tryz.func186 rfl ZuQ ?_;simp (disch:=omega) only [Tryz.f186,go_sem,seval]
 repeat' (first | (refine ZP (fun hq=> ?_) (fun hq=> ?_)<;>(try simp only [decide_eq_true_eq,decide_eq_false_iff_not,Classical.not_not] at hq)<;>simp (disch:=omega) only [Sh.out hq,go_sem,seval]) | (refine ZQ (fun hq=> ?_) (fun hq=> ?_)<;>(try simp only [decide_eq_true_eq,decide_eq_false_iff_not,Classical.not_not] at hq)<;>simp (disch:=omega) only [Sh.out hq,go_sem,seval]) | (refine Z8 (fun hq=> ?_) (fun hq=> ?_)<;>(try simp only [decide_eq_true_eq,decide_eq_false_iff_not,Classical.not_not] at hq)<;>simp (disch:=omega) only [Sh.out hq,go_sem,seval]))
 all_goals (simp [Wh];first | done | omega | (rw [Bool.eq_iff_iff];simp;omega))
theorem Zgm (s:List UInt8) (hs:s.length<=1048576):PC 118 [.p (.str s)] (.bool (nameOk s)):=by
 refine Za Tryz.func118 rfl ZuP ?_;simp (disch:=omega) only [Tryz.f118,go_sem,seval];refine gF ?_ ?_<;>intro h<;>simp (disch:=omega) only [Sh.out h,go_sem,seval]
 ·have: ¬ 1<=s.length:=by omega
  simp [nameOk,this]
 ·refine gF ?_ ?_<;>intro h2<;>simp (disch:=omega) only [Sh.out h2,go_sem,seval]
  ·have: ¬s.length<=16:=by omega
   simp [nameOk,this]
  ·have g1:1<=s.length:=by omega
   have g2:s.length<=16:=by omega
   refine (ZgF (nth s 0)).use ?_;simp (disch:=omega) only [go_sem,seval];refine cD ?_ ?_<;>intro h3<;>simp (disch:=omega) only [Sh.out h3,go_sem,seval]
   ·simp [nameOk,h3]
   ·refine Zg [0] (fun k:Nat=> [(3,.p (.int .i64 k))]) (fun _=> []) (fun k=>k<=s.length/\ ∀j,j<k->(Wh (nth s j)||WC (nth s j))=true) (fun k=>s.length-k) 0 (by simp) (Weak.mk ?_) ?_
    ·simp (disch:=omega) only [go_sem,seval]
    ·rintro k ⟨hk,hno⟩;simp (disch:=omega) only [go_sem,seval]
     have hall: ∀j,j<s.length->(Wh (nth s j)||WC (nth s j))=false->nameOk s=false:=fun j hj e=>by
      have:s.all (fun c=>Wh c||WC c)=false:=by
       rw [List.all_eq_false];exact ⟨nth s j,by rw [Zd hj];exact List.getElem_mem _,by rw [e];simp⟩
      simp [nameOk,this]
     refine cD ?_ ?_<;>intro h4<;>simp (disch:=omega) only [Sh.out h4,go_sem,seval]
     ·have hk2:k<s.length:=by omega
      refine (Zj5 (nth s k)).use ?_;simp (disch:=omega) only [go_sem,seval];refine gT ?_ ?_<;>intro h5<;>simp (disch:=omega) only [Sh.out h5,go_sem,seval]
      ·refine (ZgF (nth s k)).use ?_;simp (disch:=omega) only [go_sem,seval];refine cD ?_ ?_<;>intro h6<;>simp (disch:=omega) only [Sh.out h6,go_sem,seval]
       ·simp only [Bool.not_eq_true'] at h5 h6;rw [hall k hk2 (by rw [h5,h6];rfl)]
       ·simp only [Bool.not_eq_false'] at h6;exact ⟨k+1,⟨by omega,Zl.2 ⟨hno,by simp [h6]⟩⟩,by omega,wk⟩
      ·simp only [Bool.not_eq_false'] at h5;exact ⟨k+1,⟨by omega,Zl.2 ⟨hno,by simp [h5]⟩⟩,by omega,wk⟩
     ·have:s.all (fun c=>Wh c||WC c)=true:=by
       rw [List.all_eq_true];intro c hc;obtain ⟨j,hj,rfl⟩:=List.mem_iff_getElem.1 hc;rw [<- Zd hj];exact hno j (by omega)
      simp [nameOk,g1,g2,h3,this]
theorem UD (n:Int) (hn:I64 n):PC 78 [.p (.int .i64 n)] (.str (ZcA n)):=by
 refine Za Tryz.func78 rfl ZAU ?_;simp (disch:=omega) only [Tryz.f78,go_sem,seval]
 have h19:n.natAbs<10^(18+1):=by omega
 have hdl:=Ul 18 n.natAbs h19
 refine ZZ [7] [0] (fun q:Int×List UInt8×Bool=> [(3,.p (.str q.2.1)),(4,.p (.int .i64 q.1)),(5,.p (.bool q.2.2))]) (fun _=> [])
  (fun q=>I64 q.1/\(q.2.2=true->dec q.1.natAbs++q.2.1=dec n.natAbs)/\(q.2.2=false->q.2.1=dec n.natAbs)) (fun q=>if q.2.2 then q.1.natAbs+1 else 0) (n,[],true) (by simp;omega) (Weak.mk ?_) ?_
 ·simp (disch:=omega) only [go_sem,seval]
 ·rintro ⟨m,s,again⟩ ⟨hm,h1,h2⟩;simp only at hm h1 h2;simp (disch:=omega) only [go_sem,seval]
  cases again with
  | false =>
   simp (disch:=omega) only [go_sem,seval];have h2:=h2 rfl
   have hl2:([45]:List UInt8).length+(dec n.natAbs).length<=9223372036854775807:=by simp;omega
   refine cD ?_ ?_<;>intro h3<;>simp (disch:=omega) only [Sh.out h3,go_sem,seval]
   ·simp (disch:=omega) only [ZcA,h2,h3,Zi1 hl2,go_sem,seval]
   ·simp (disch:=omega) only [ZcA,h2,h3,go_sem,seval]
  | true =>
   have h1:=h1 rfl
   have hls:(dec m.natAbs).length+s.length=(dec n.natAbs).length:=by rw [<- h1];simp
   simp (disch:=omega) only [go_sem,seval]
   have e1:(m.tmod 10).natAbs=m.natAbs%10:=by rw [Int.natAbs_tmod];rfl
   have e2:(m.tdiv 10).natAbs=m.natAbs / 10:=by rw [Int.natAbs_tdiv];rfl
   have e3:m.tmod 10<10/\ -10<m.tmod 10:=⟨Int.tmod_lt_of_pos _ (by decide),by omega⟩;refine Zo [0,3,4] (fun _:Unit=> [(6,.p (.int .i64 ((m.natAbs%10:Nat):Int)))]) (fun _=> []) (fun _=>True) ?_ ?_
   ·simp (disch:=omega) only [go_sem,seval];refine cD ?_ ?_<;>intro h3<;>simp (disch:=omega) only [Sh.out h3,go_sem,seval]
    ·exact ⟨(),Weak.mk (by simp (disch:=omega) only [go_sem,seval];simp;omega)⟩
    ·exact ⟨(),Weak.mk (by simp (disch:=omega) only [go_sem,seval];simp;omega)⟩
   ·intro _ _;refine Zb [] _ _ _ _ ?_;simp (disch:=first | omega | (simp only [List.length_cons,List.length_nil,List.length_append,List.length_map,List.length_take,List.length_drop]<;>omega)) only [go_sem,seval]
    have e4:(48+((m.natAbs%10:Nat):Int)).toNat=48+m.natAbs%10:=by omega
    refine ⟨(m.tdiv 10,UInt8.ofNat (48+m.natAbs%10)::s,decide (m.tdiv 10≠0)),⟨?_,?_,?_⟩,?_,Weak.mk ?_⟩
    ·simp only;omega
    ·simp only [decide_eq_true_eq];intro hne
     have h10: ¬m.natAbs<10:=by omega
     rw [e2,<- h1,dec.eq_def m.natAbs,dif_neg h10];simp
    ·simp only [decide_eq_false_iff_not,Classical.not_not];intro hz
     have h10:m.natAbs<10:=by omega
     rw [<- h1,dec.eq_def m.natAbs,dif_pos h10,Nat.mod_eq_of_lt h10];simp
    ·simp only [if_true]
     split
     ·rename_i hne;simp only [decide_eq_true_eq] at hne;omega
     ·omega
    ·simp (disch:=omega) only [e4,go_sem,seval]
def pF (k:Nat) (f:Flt):Prop:=f.2.length<=k
theorem Zu6 (l:List Pt) (c:Bool) (hl:l.length<=1048576):ACalls Tryz.prog 119 [.p (.list c (l.map ePt))] [] fun x H'=> ∃m:List Flt,FR (pF 20) (Y4 l) (2*l.length+1) m/\x= .sl 0 0 m.length m.length/\H'= [.elems 2 (m.map eF)]:=by
 refine Zz [2] Tryz.func119 rfl Zuh ?_;simp (disch:=omega) only [Tryz.f119,go_sem,seval];refine Zm (Weak.ofNil 3 2 (by simp (disch:=omega) only [go_sem,seval]) (by simp) (Weak.refl _ _ _)) ?_;refine Zo [0] (fun m:List Flt=> [(3,.sl 0 0 m.length m.length)]) (fun m=> [.elems 2 (m.map eF)]) (fun m=>FR (pF 20) (1<=l.length/\l.length<=16) 1 m) ?_ ?_
 ·simp (disch:=omega) only [go_sem,seval]
  repeat' (first | (refine ZP (fun hq=> ?_) (fun hq=> ?_)<;>(try simp only [decide_eq_true_eq,decide_eq_false_iff_not,Classical.not_not] at hq)<;>simp (disch:=omega) only [Sh.out hq,go_sem,seval]) | (refine ZQ (fun hq=> ?_) (fun hq=> ?_)<;>(try simp only [decide_eq_true_eq,decide_eq_false_iff_not,Classical.not_not] at hq)<;>simp (disch:=omega) only [Sh.out hq,go_sem,seval]) | (refine Z8 (fun hq=> ?_) (fun hq=> ?_)<;>(try simp only [decide_eq_true_eq,decide_eq_false_iff_not,Classical.not_not] at hq)<;>simp (disch:=omega) only [Sh.out hq,go_sem,seval]))
  ·exact ⟨[(4,[])],⟨by simp,by simp;omega,by simp [pF]⟩,wk⟩
  ·exact ⟨[(4,[])],⟨by simp,by simp;omega,by simp [pF]⟩,wk⟩
  ·exact ⟨[],FR.nil (by omega),wk⟩
 ·intro m hm;refine Zb [] _ _ _ _ ?_;simp (disch:=omega) only [go_sem,seval];refine ZZ [8] [0] (fun q:Nat×List Flt=> [(3,.sl 0 0 q.2.length q.2.length),(4,.p (.int .i64 q.1))]) (fun q=> [.elems 2 (q.2.map eF)]) (fun q=>q.1<=l.length/\FR (pF 20) ((1<=l.length/\l.length<=16)/\ ∀j,j<q.1->ZsB l j) (2*q.1+1) q.2) (fun q=>l.length-q.1) (0,m) ⟨by simp,hm.to (by simp) (by simp)⟩ (Weak.mk ?_) ?_
  ·simp (disch:=omega) only [go_sem,seval]
  ·rintro ⟨k,m⟩ ⟨hk,hm⟩;simp only at hk hm;have hml:=hm.len;simp (disch:=omega) only [go_sem,seval];refine cD ?_ ?_<;>intro h<;>simp (disch:=omega) only [Sh.out h,go_sem,seval]
   ·have hk2:k<l.length:=by omega
    refine Zo [0,4,5] (fun m:List Flt=> [(3,.sl 0 0 m.length m.length)]) (fun m=> [.elems 2 (m.map eF),.cells [.p (.int .i64 (nth l k).t),.p (.int .i64 (nth l k).a)]])
     (fun m=>FR (pF 20) (((1<=l.length/\l.length<=16)/\ ∀j,j<k->ZsB l j)/\(0<=(nth l k).t/\(nth l k).t<=4096/\(nth l k).t<=(nth l k).a/\(nth l k).a<=(nth l k).t+4096)) (2*k+1+1) m) ?_ ?_
    ·simp (disch:=omega) only [go_sem,seval]
     have hI:I64 (k:Int):=by omega
     have hdl:=WH k hI
     repeat' (first | (refine ZP (fun hq=> ?_) (fun hq=> ?_)<;>(try simp only [decide_eq_true_eq,decide_eq_false_iff_not,Classical.not_not] at hq)<;>simp (disch:=omega) only [Sh.out hq,go_sem,seval]) | (refine ZQ (fun hq=> ?_) (fun hq=> ?_)<;>(try simp only [decide_eq_true_eq,decide_eq_false_iff_not,Classical.not_not] at hq)<;>simp (disch:=omega) only [Sh.out hq,go_sem,seval]) | (refine Z8 (fun hq=> ?_) (fun hq=> ?_)<;>(try simp only [decide_eq_true_eq,decide_eq_false_iff_not,Classical.not_not] at hq)<;>simp (disch:=omega) only [Sh.out hq,go_sem,seval]))
     all_goals try exact ⟨m,hm.no (by omega),wk⟩
     all_goals
      refine (UD k hI).use ?_;simp (disch:=omega) only [go_sem,seval];exact ⟨m++ [(2,ZcA k)],hm.yes (by omega) (by simp only [pF];omega),wk⟩
    ·intro m hm;have hml:=hm.len;refine Zb [] _ _ _ _ ?_;simp (disch:=omega) only [go_sem,seval]
     have hI:I64 (k:Int):=by omega
     have hdl:=WH k hI;refine Zh mixed (by kernel_rfl) (by kernel_rfl) ?_;simp (disch:=omega) only [go_sem,seval]
     repeat' (first | (refine ZP (fun hq=> ?_) (fun hq=> ?_)<;>(try simp only [decide_eq_true_eq,decide_eq_false_iff_not,Classical.not_not] at hq)<;>simp (disch:=omega) only [Sh.out hq,go_sem,seval]) | (refine ZQ (fun hq=> ?_) (fun hq=> ?_)<;>(try simp only [decide_eq_true_eq,decide_eq_false_iff_not,Classical.not_not] at hq)<;>simp (disch:=omega) only [Sh.out hq,go_sem,seval]) | (refine Z8 (fun hq=> ?_) (fun hq=> ?_)<;>(try simp only [decide_eq_true_eq,decide_eq_false_iff_not,Classical.not_not] at hq)<;>simp (disch:=omega) only [Sh.out hq,go_sem,seval]))
     all_goals try exact ⟨(k+1,m),⟨by simp only;omega,(hm.no (c:=0<k->(nth l (k-1)).t<(nth l k).t/\(nth l (k-1)).a<=(nth l k).a) (by omega)).to (by simp only;omega) (by simp only [Zl,ZsB,and_assoc])⟩,by simp only;omega,wk⟩
     all_goals
      refine (UD k hI).use ?_;simp (disch:=omega) only [go_sem,seval];exact ⟨(k+1,m++ [(13,ZcA k)]),⟨by simp only;omega,(hm.yes (c:=0<k->(nth l (k-1)).t<(nth l k).t/\(nth l (k-1)).a<=(nth l k).a) (by omega) (by simp only [pF];omega)).to (by simp only;omega) (by simp only [Zl,ZsB,and_assoc])⟩,by simp only;omega,wk⟩
   ·have hkn:k=l.length:=by omega
    subst hkn;exact ⟨m,hm.to (by omega) (by rw [Y4]),0,by simp (disch:=omega) only [go_sem,seval]⟩
set_option maxHeartbeats 8000000
theorem pF.mono {j k:Nat} (h:j<=k) {f:Flt} (hf:pF j f):pF k f:=Nat.le_trans hf h
theorem FR.pmono {α:Type} {p q:α->Prop} {C:Prop} {b:Nat} {l:List α} (h:FR p C b l) (hp: ∀x,p x->q x):FR q C b l:=⟨h.len,h.emp,fun x hx=>hp x (h.all x hx)⟩
theorem Zd7 (n:Int):PC 120 [.p (.int .i64 n)] (.bool (Zkv n)):=by
 refine Za Tryz.func120 rfl ZsV ?_;simp (disch:=omega) only [Tryz.f120,go_sem,seval]
 repeat' (first | (refine ZP (fun hq=> ?_) (fun hq=> ?_)<;>(try simp only [decide_eq_true_eq,decide_eq_false_iff_not,Classical.not_not] at hq)<;>simp (disch:=omega) only [Sh.out hq,go_sem,seval]) | (refine ZQ (fun hq=> ?_) (fun hq=> ?_)<;>(try simp only [decide_eq_true_eq,decide_eq_false_iff_not,Classical.not_not] at hq)<;>simp (disch:=omega) only [Sh.out hq,go_sem,seval]) | (refine Z8 (fun hq=> ?_) (fun hq=> ?_)<;>(try simp only [decide_eq_true_eq,decide_eq_false_iff_not,Classical.not_not] at hq)<;>simp (disch:=omega) only [Sh.out hq,go_sem,seval]))
 all_goals (simp [Zkv,rng];first | done | omega | (rw [Bool.eq_iff_iff];simp;omega))
def Zy (n:Net):List AM.Obj:= [.cells [.p (.list n.places_c (n.places.map eS)),.p (.list n.arcs_c (n.arcs.map JU))]]
theorem Zfk (n:Net) (hp:n.places.length<=1048576) (hs: ∀s∈n.places,s.length<=1048576):ACalls Tryz.prog 74 [.p (Zgj n)] [] fun x H'=> ∃m:List Flt,FR (pF 26) (VM n) (n.places.length+1) m/\x= .sl 0 0 m.length m.length/\H'= [.elems 2 (m.map eF)]:=by
 refine Zz [2] Tryz.func74 rfl ZzJ ?_;simp (disch:=omega) only [Tryz.f74,go_sem,seval];refine Zm (Weak.ofNil 3 2 (by simp (disch:=omega) only [go_sem,seval]) (by simp) (Weak.refl _ _ _)) ?_;refine Zo [1] (fun m:List Flt=> [(3,.sl 1 0 m.length m.length)]) (fun m=>Zy n++ [.elems 2 (m.map eF)]) (fun m=>FR (pF 26) (n.places.length<=24) 1 m) ?_ ?_
 ·simp (disch:=omega) only [go_sem,seval];refine cD ?_ ?_<;>intro h<;>simp (disch:=omega) only [Sh.out h,go_sem,seval]
  ·exact ⟨[(4,[112,108,97,99,101,115])],⟨by simp,by simp;omega,by simp [pF]⟩,Weak.mk (by simp (disch:=omega) only [Zy,go_sem,seval])⟩
  ·exact ⟨[],FR.nil (by omega),Weak.mk (by simp (disch:=omega) only [Zy,go_sem,seval])⟩
 ·intro m hm;refine Zb [] _ _ _ _ ?_;simp (disch:=omega) only [Zy,go_sem,seval];refine Zg [1] (fun q:Nat×List Flt=> [(3,.sl 1 0 q.2.length q.2.length),(4,.p (.int .i64 q.1))]) (fun q=>Zy n++ [.elems 2 (q.2.map eF)]) (fun q=>q.1<=n.places.length/\FR (pF 26) (n.places.length<=24/\ ∀j,j<q.1->ZmE n j) (q.1+1) q.2) (fun q=>n.places.length-q.1) (0,m) ⟨by simp,hm.to (by simp) (by simp)⟩ (Weak.mk ?_) ?_
  ·simp (disch:=omega) only [Zy,go_sem,seval]
  ·rintro ⟨k,m⟩ ⟨hk,hm⟩;simp only at hk hm;have hml:=hm.len;simp (disch:=omega) only [Zy,go_sem,seval];refine cD ?_ ?_<;>intro h<;>simp (disch:=omega) only [Sh.out h,go_sem,seval]
   ·have hk2:k<n.places.length:=by omega
    have hI:I64 (k:Int):=by omega
    have hdl:=WH k hI;refine (UD k hI).use ?_;simp (disch:=omega) only [go_sem,seval];simp (disch:=first | omega | (simp only [List.length_cons,List.length_nil,List.length_append,List.length_map,List.length_take,List.length_drop]<;>omega)) only [go_sem,seval];refine (Zgm (nth n.places k) (hs _ (by rw [Zd hk2];exact List.getElem_mem _))).use ?_;simp (disch:=omega) only [go_sem,seval];refine cD ?_ ?_<;>intro h2<;>simp (disch:=omega) only [Sh.out h2,go_sem,seval]
    ·simp only [Bool.not_eq_true'] at h2;exact ⟨(k+1,m++ [(5,[112,108,97,99,101,32]++ZcA k)]),⟨by simp only;omega,(hm.yes (c:=ZmE n k) (by rw [ZmE,h2];simp) (by simp [pF];omega)).to (by simp) (by simp only [Zl,and_assoc])⟩,by simp only;omega,Weak.mk (by simp (disch:=omega) only [Zy,go_sem,seval])⟩
    ·simp only [Bool.not_eq_false'] at h2;refine Zg [1,3,4,5] (fun q:Nat×Bool=> [(6,.p (.bool q.2)),(7,.p (.int .i64 q.1))]) (fun _=>Zy n++ [.elems 2 (m.map eF)]) (fun q=>q.1<=k/\(q.2=false↔ ∀j,j<q.1->nth n.places j≠nth n.places k)) (fun q=>k-q.1) (0,false) (by simp) (Weak.mk ?_) ?_
     ·simp (disch:=omega) only [Zy,go_sem,seval]
     ·rintro ⟨j,b⟩ ⟨hj,hb⟩;simp only at hj hb;simp (disch:=omega) only [Zy,go_sem,seval];refine cD ?_ ?_<;>intro h3<;>simp (disch:=omega) only [Sh.out h3,go_sem,seval]
      ·refine Zq 14 mixed (by kernel_rfl) (by kernel_rfl) ?_;simp (disch:=omega) only [go_sem,seval]
       have hjn:j<n.places.length:=by omega
       cases b with
       | true =>
        simp (disch:=omega) only [go_sem,seval];exact ⟨(j+1,true),⟨by simp only;omega,by rw [Zl,<- hb];simp⟩,by simp only;omega,Weak.mk (by simp (disch:=omega) only [Zy,go_sem,seval])⟩
       | false =>
        simp (disch:=omega) only [go_sem,seval];refine ⟨(j+1,decide (nth n.places j=nth n.places k)),⟨by simp only;omega,by rw [Zl,<- hb];simp⟩,by simp only;omega,Weak.mk (by simp (disch:=omega) only [Zy,go_sem,seval])⟩
      ·have hjk:j=k:=by omega
       subst hjk
       cases b with
       | true =>
        simp (disch:=omega) only [go_sem,seval]
        have hno: ¬ZmE n j:=fun h5=>by have:=hb.2 h5.2;cases this
        exact ⟨(j+1,m++ [(6,[112,108,97,99,101,32]++ZcA j)]),⟨by simp only;omega,(hm.yes (c:=ZmE n j) hno (by simp [pF];omega)).to (by simp) (by simp only [Zl,and_assoc])⟩,by simp only;omega,Weak.mk (by simp (disch:=omega) only [Zy,go_sem,seval])⟩
       | false =>
        simp (disch:=omega) only [go_sem,seval];exact ⟨(j+1,m),⟨by simp only;omega,(hm.no (c:=ZmE n j) ⟨h2,hb.1 rfl⟩).to (by simp) (by simp only [Zl,and_assoc])⟩,by simp only;omega,Weak.mk (by simp (disch:=omega) only [Zy,go_sem,seval])⟩
   ·have hkn:k=n.places.length:=by omega
    subst hkn;exact ⟨m,hm.to (by omega) (by rw [VM]),1,by simp (disch:=omega) only [go_sem,seval]⟩
set_option maxHeartbeats 16000000
def YY (a:Arc):AM.Obj:= .cells [.p (.int .i64 a.src),.p (.int .i64 a.dst),.p (.int .i64 a.prof),.p (.int .i64 a.miles),.p (.list a.travel_c (a.travel.map ePt)),.p (.list a.slow_c (a.slow.map ePt))]
abbrev XN (a b:Arc):Prop:=a.src=b.src/\a.dst=b.dst/\a.prof=b.prof
theorem Zoh (n:Net) (i:Nat) (hi:i<n.arcs.length) (hp:n.places.length<=1048576) (ha:n.arcs.length<=1048576) (ht:(nth n.arcs i).travel.length<=1048576) (hsl:(nth n.arcs i).slow.length<=1048576) :
  ACalls Tryz.prog 75 [.p (Zgj n),.p (.int .i64 (i:Nat))] [] fun x H'=> ∃m:List Flt,FR (pF 26) (Zhv n i) 4000000 m/\x= .sl 0 0 m.length m.length/\H'= [.elems 2 (m.map eF)]:=by
 refine Zz [4] Tryz.func75 rfl Zzy ?_;simp (disch:=omega) only [Tryz.f75,go_sem,seval]
 have hI:I64 (i:Int):=by omega
 have hdl:=WH i hI;refine (UD i hI).use ?_;simp (disch:=omega) only [go_sem,seval];simp (disch:=first | omega | (simp only [List.length_cons,List.length_nil,List.length_append,List.length_map,List.length_take,List.length_drop]<;>omega)) only [go_sem,seval]
 have hat:(97::114::99::32::ZcA i).length<=26:=by simp;omega
 generalize hga:nth n.arcs i=a at ht hsl ⊢;generalize 97::114::99::32::ZcA i=at' at hat ⊢;refine Zm (Weak.ofNil 5 2 (by simp (disch:=omega) only [go_sem,seval]) (by simp) (Weak.refl _ _ _)) ?_;refine Zo [1,2,6,7] (fun m:List Flt=> [(5,.sl 2 0 m.length m.length)]) (fun m=>Zy n++ [YY a,.elems 2 (m.map eF)]) (fun m=>FR (pF 26) (0<=a.src/\a.src<n.places.length/\0<=a.dst/\a.dst<n.places.length) 1 m) ?_ ?_
 ·simp (disch:=omega) only [go_sem,seval]
  repeat' (first | (refine ZP (fun hq=> ?_) (fun hq=> ?_)<;>(try simp only [decide_eq_true_eq,decide_eq_false_iff_not,Classical.not_not] at hq)<;>simp (disch:=omega) only [Sh.out hq,go_sem,seval]) | (refine ZQ (fun hq=> ?_) (fun hq=> ?_)<;>(try simp only [decide_eq_true_eq,decide_eq_false_iff_not,Classical.not_not] at hq)<;>simp (disch:=omega) only [Sh.out hq,go_sem,seval]) | (refine Z8 (fun hq=> ?_) (fun hq=> ?_)<;>(try simp only [decide_eq_true_eq,decide_eq_false_iff_not,Classical.not_not] at hq)<;>simp (disch:=omega) only [Sh.out hq,go_sem,seval]))
  all_goals try exact ⟨[],FR.nil (by omega),Weak.mk (by simp (disch:=omega) only [Zy,YY,go_sem,seval])⟩
  all_goals exact ⟨[(11,at')],⟨by simp,by simp;omega,by simpa [pF] using hat⟩,Weak.mk (by simp (disch:=omega) only [Zy,YY,go_sem,seval])⟩
 ·intro m hm;refine Zb [6] _ _ _ _ ?_;simp (disch:=omega) only [Zy,YY,go_sem,seval];have hml:=hm.len
  refine Zo [1,2,6,7] (fun m:List Flt=> [(5,.sl 2 0 m.length m.length)]) (fun m=>Zy n++ [YY a,.elems 2 (m.map eF)])
   (fun m=>FR (pF 26) ((0<=a.src/\a.src<n.places.length/\0<=a.dst/\a.dst<n.places.length)/\(0<=a.prof/\a.prof<=7/\0<=a.miles/\a.miles<=10000/\a.src≠a.dst)) 2 m) ?_ ?_
  ·simp (disch:=omega) only [go_sem,seval]
   repeat' (first | (refine ZP (fun hq=> ?_) (fun hq=> ?_)<;>(try simp only [decide_eq_true_eq,decide_eq_false_iff_not,Classical.not_not] at hq)<;>simp (disch:=omega) only [Sh.out hq,go_sem,seval]) | (refine ZQ (fun hq=> ?_) (fun hq=> ?_)<;>(try simp only [decide_eq_true_eq,decide_eq_false_iff_not,Classical.not_not] at hq)<;>simp (disch:=omega) only [Sh.out hq,go_sem,seval]) | (refine Z8 (fun hq=> ?_) (fun hq=> ?_)<;>(try simp only [decide_eq_true_eq,decide_eq_false_iff_not,Classical.not_not] at hq)<;>simp (disch:=omega) only [Sh.out hq,go_sem,seval]))
   all_goals try exact ⟨m,hm.no (by omega),Weak.mk (by simp (disch:=omega) only [Zy,YY,go_sem,seval])⟩
   all_goals exact ⟨m++ [(2,at')],hm.yes (by omega) (by simpa [pF] using hat),Weak.mk (by simp (disch:=omega) only [Zy,YY,go_sem,seval])⟩
  ·clear hm hml;intro m hm;refine Zb [14] _ _ _ _ ?_;simp (disch:=omega) only [Zy,YY,go_sem,seval];have hml:=hm.len;refine ZZ [14] [1,2,5,6,7] (fun q:Nat×Bool=> [(8,.p (.bool q.2)),(9,.p (.int .i64 q.1))]) (fun _=>Zy n++ [YY a,.elems 2 (m.map eF)]) (fun q=>q.1<=i/\(q.2=false↔ ∀j,j<q.1-> ¬XN a (nth n.arcs j))) (fun q=>i-q.1) (0,false) (by simp) (Weak.mk ?_) ?_
   ·simp (disch:=omega) only [Zy,YY,go_sem,seval]
   ·rintro ⟨k,b⟩ ⟨hk,hb⟩;simp only at hk hb;simp (disch:=omega) only [Zy,YY,go_sem,seval];refine cD ?_ ?_<;>intro h<;>simp (disch:=omega) only [Sh.out h,go_sem,seval]
    ·have hkn:k<n.arcs.length:=by omega
     cases b with
     | true =>
      simp (disch:=omega) only [go_sem,seval];exact ⟨(k+1,true),⟨by simp only;omega,by rw [Zl,<- hb];simp⟩,by simp only;omega,Weak.mk (by simp (disch:=omega) only [Zy,YY,go_sem,seval])⟩
     | false =>
      simp (disch:=omega) only [go_sem,seval]
      repeat' (first | (refine ZP (fun hq=> ?_) (fun hq=> ?_)<;>(try simp only [decide_eq_true_eq,decide_eq_false_iff_not,Classical.not_not] at hq)<;>simp (disch:=omega) only [Sh.out hq,go_sem,seval]) | (refine ZQ (fun hq=> ?_) (fun hq=> ?_)<;>(try simp only [decide_eq_true_eq,decide_eq_false_iff_not,Classical.not_not] at hq)<;>simp (disch:=omega) only [Sh.out hq,go_sem,seval]) | (refine Z8 (fun hq=> ?_) (fun hq=> ?_)<;>(try simp only [decide_eq_true_eq,decide_eq_false_iff_not,Classical.not_not] at hq)<;>simp (disch:=omega) only [Sh.out hq,go_sem,seval]))
      all_goals refine ⟨(k+1,decide (XN a (nth n.arcs k))),⟨by simp only;omega,by rw [Zl,<- hb];simp⟩,by simp only;omega,Weak.mk ?_⟩
      all_goals simp (disch:=omega) only [Zy,YY,go_sem,seval]
      all_goals simp [XN, *]
    ·have hki:k=i:=by omega
     subst hki;have htw:(b=false↔ ∀j,j<k-> ¬XN a (nth n.arcs j)):=hb;clear hb hk h
     refine Zo [6,7] (fun m:List Flt=> [(5,.sl 2 0 m.length m.length)]) (fun m=>Zy n++ [YY a,.elems 2 (m.map eF)])
      (fun m=>FR (pF 26) (((0<=a.src/\a.src<n.places.length/\0<=a.dst/\a.dst<n.places.length)/\(0<=a.prof/\a.prof<=7/\0<=a.miles/\a.miles<=10000/\a.src≠a.dst))/\ ∀j,j<k-> ¬XN a (nth n.arcs j)) 3 m) ?_ ?_
     ·simp (disch:=omega) only [go_sem,seval]
      cases b with
      | true =>
       simp (disch:=omega) only [go_sem,seval];exact ⟨m++ [(6,at')],hm.yes (by rw [<- htw];simp) (by simpa [pF] using hat),Weak.mk (by simp (disch:=omega) only [Zy,YY,go_sem,seval])⟩
      | false =>
       simp (disch:=omega) only [go_sem,seval];exact ⟨m,hm.no (htw.1 rfl),Weak.mk (by simp (disch:=omega) only [Zy,YY,go_sem,seval])⟩
     ·clear hm hml;intro m hm;refine Zb [21] _ _ _ _ ?_;simp (disch:=omega) only [Zy,YY,go_sem,seval];have hml:=hm.len;refine ((Zu6 a.travel a.travel_c ht).frozenE).useV fun lt hlt=> ?_;simp (disch:=omega) only [go_sem,seval];have hltl:=hlt.len
      refine ZZ [21] [6,7,11] (fun q:Nat×List Flt=> [(5,.sl 2 0 q.2.length q.2.length),(12,.p (.int .i64 q.1))]) (fun q=>Zy n++ [YY a,.elems 2 (q.2.map eF)])
       (fun q=>q.1<=lt.length/\FR (pF 26) ((((0<=a.src/\a.src<n.places.length/\0<=a.dst/\a.dst<n.places.length)/\(0<=a.prof/\a.prof<=7/\0<=a.miles/\a.miles<=10000/\a.src≠a.dst))/\ ∀j,j<k-> ¬XN a (nth n.arcs j))/\q.1=0) (3+q.1) q.2) (fun q=>lt.length-q.1) (0,m) ⟨by simp,hm.to (by simp) (by simp)⟩ (Weak.mk ?_) ?_
      ·simp (disch:=omega) only [Zy,YY,go_sem,seval]
      ·clear hm hml;rintro ⟨j,m⟩ ⟨hj,hm⟩;simp only at hj hm;have hml:=hm.len;simp (disch:=omega) only [Zy,YY,go_sem,seval];refine cD ?_ ?_<;>intro h<;>simp (disch:=omega) only [Sh.out h,go_sem,seval]
       ·have hj2:j<lt.length:=by omega
        exact ⟨(j+1,m++ [((nth lt j).1,at')]),⟨by simp only;omega,(hm.yes (c:=False) (by simp) (by simpa [pF] using hat)).to (by simp only;omega) (by simp)⟩,by simp only;omega,Weak.mk (by simp (disch:=omega) only [Zy,YY,go_sem,seval])⟩
       ·have hjl:j=lt.length:=by omega
        subst hjl;have hm2:=hm.to (d:=3+lt.length) (D:=(((0<=a.src/\a.src<n.places.length/\0<=a.dst/\a.dst<n.places.length)/\(0<=a.prof/\a.prof<=7/\0<=a.miles/\a.miles<=10000/\a.src≠a.dst))/\ ∀j,j<k-> ¬XN a (nth n.arcs j))/\Y4 a.travel) (Nat.le_refl _) (by rw [<- hlt.emp,List.eq_nil_iff_length_eq_zero]);clear hm
        refine Zo [6,7] (fun m:List Flt=> [(5,.sl 2 0 m.length m.length)]) (fun m=>Zy n++ [YY a,.elems 2 (m.map eF)])
         (fun m=>FR (pF 26) (((((0<=a.src/\a.src<n.places.length/\0<=a.dst/\a.dst<n.places.length)/\(0<=a.prof/\a.prof<=7/\0<=a.miles/\a.miles<=10000/\a.src≠a.dst))/\ ∀j,j<k-> ¬XN a (nth n.arcs j))/\Y4 a.travel)/\a.slow.length<=16) (4+lt.length) m) ?_ ?_
        ·simp (disch:=omega) only [go_sem,seval];refine cD ?_ ?_<;>intro h2<;>simp (disch:=omega) only [Sh.out h2,go_sem,seval]
         ·exact ⟨m++ [(4,at')],(hm2.yes (by omega) (by simpa [pF] using hat)).to (by omega) Iff.rfl,Weak.mk (by simp (disch:=omega) only [Zy,YY,go_sem,seval])⟩
         ·exact ⟨m,(hm2.no (by omega)).to (by omega) Iff.rfl,Weak.mk (by simp (disch:=omega) only [Zy,YY,go_sem,seval])⟩
        ·clear hm2 hml h hj;intro m hm;refine Zb [] _ _ _ _ ?_;simp (disch:=omega) only [Zy,YY,go_sem,seval]
         refine Zg [6,7] (fun q:Nat×List Flt=> [(5,.sl 2 0 q.2.length q.2.length),(13,.p (.int .i64 q.1))]) (fun q=>Zy n++ [YY a,.elems 2 (q.2.map eF)])
          (fun q=>q.1<=a.slow.length/\FR (pF 26) ((((((0<=a.src/\a.src<n.places.length/\0<=a.dst/\a.dst<n.places.length)/\(0<=a.prof/\a.prof<=7/\0<=a.miles/\a.miles<=10000/\a.src≠a.dst))/\ ∀j,j<k-> ¬XN a (nth n.arcs j))/\Y4 a.travel)/\a.slow.length<=16)/\ ∀j,j<q.1->U4 a.slow j) (4+lt.length+q.1) q.2) (fun q=>a.slow.length-q.1) (0,m) ⟨by simp,hm.to (by simp) (by simp)⟩ (Weak.mk ?_) ?_
         ·simp (disch:=omega) only [Zy,YY,go_sem,seval]
         ·clear hm;rintro ⟨j,m⟩ ⟨hj,hm⟩;simp only at hj hm;have hml:=hm.len;simp (disch:=omega) only [Zy,YY,go_sem,seval];refine cD ?_ ?_<;>intro h<;>simp (disch:=omega) only [Sh.out h,go_sem,seval]
          ·have hj2:j<a.slow.length:=by omega
           refine Zh mixed (by kernel_rfl) (by kernel_rfl) ?_;simp (disch:=omega) only [go_sem,seval];refine Zk (Zd7 (nth a.slow j).t) ?_;simp (disch:=omega) only [go_sem,seval];have hslo:U4 a.slow j↔(Zkv (nth a.slow j).t=true/\Zkv (nth a.slow j).a=true/\(0<j->(nth a.slow (j-1)).t<(nth a.slow j).t)):=Iff.rfl;have hyes: ¬U4 a.slow j->_:=fun hs=>(hm.yes (x:=(2,at')) hs (by simpa [pF] using hat)).to (D:=(((((0<=a.src/\a.src<n.places.length/\0<=a.dst/\a.dst<n.places.length)/\(0<=a.prof/\a.prof<=7/\0<=a.miles/\a.miles<=10000/\a.src≠a.dst))/\ ∀j,j<k-> ¬XN a (nth n.arcs j))/\Y4 a.travel)/\a.slow.length<=16)/\ ∀i,i<j+1->U4 a.slow i) (d:=4+lt.length+(j+1)) (by omega) (by simp only [Zl,and_assoc])
           have hno:U4 a.slow j->_:=fun hs=>(hm.no hs).to (D:=(((((0<=a.src/\a.src<n.places.length/\0<=a.dst/\a.dst<n.places.length)/\(0<=a.prof/\a.prof<=7/\0<=a.miles/\a.miles<=10000/\a.src≠a.dst))/\ ∀j,j<k-> ¬XN a (nth n.arcs j))/\Y4 a.travel)/\a.slow.length<=16)/\ ∀i,i<j+1->U4 a.slow i) (d:=4+lt.length+(j+1)) (by omega) (by simp only [Zl,and_assoc])
           cases ht1:Zkv (nth a.slow j).t with
           | false =>
            simp (disch:=omega) only [go_sem,seval];exact ⟨(j+1,m++ [(2,at')]),⟨by simp only;omega,hyes (by rw [hslo,ht1];simp)⟩,by simp only;omega,Weak.mk (by simp (disch:=omega) only [Zy,YY,go_sem,seval])⟩
           | true =>
            simp (disch:=omega) only [go_sem,seval];refine Zk (Zd7 (nth a.slow j).a) ?_;simp (disch:=omega) only [go_sem,seval]
            cases ht2:Zkv (nth a.slow j).a with
            | false =>
             simp (disch:=omega) only [go_sem,seval];exact ⟨(j+1,m++ [(2,at')]),⟨by simp only;omega,hyes (by rw [hslo,ht2];simp)⟩,by simp only;omega,Weak.mk (by simp (disch:=omega) only [Zy,YY,go_sem,seval])⟩
            | true =>
             simp (disch:=omega) only [go_sem,seval]
             repeat' (first | (refine ZP (fun hq=> ?_) (fun hq=> ?_)<;>(try simp only [decide_eq_true_eq,decide_eq_false_iff_not,Classical.not_not] at hq)<;>simp (disch:=omega) only [Sh.out hq,go_sem,seval]) | (refine ZQ (fun hq=> ?_) (fun hq=> ?_)<;>(try simp only [decide_eq_true_eq,decide_eq_false_iff_not,Classical.not_not] at hq)<;>simp (disch:=omega) only [Sh.out hq,go_sem,seval]) | (refine Z8 (fun hq=> ?_) (fun hq=> ?_)<;>(try simp only [decide_eq_true_eq,decide_eq_false_iff_not,Classical.not_not] at hq)<;>simp (disch:=omega) only [Sh.out hq,go_sem,seval]))
             ·exact ⟨(j+1,m++ [(2,at')]),⟨by simp only;omega,hyes (by rw [hslo];omega)⟩,by simp only;omega,Weak.mk (by simp (disch:=omega) only [Zy,YY,go_sem,seval])⟩
             ·exact ⟨(j+1,m),⟨by simp only;omega,hno (by rw [hslo];exact ⟨ht1,ht2,by omega⟩)⟩,by simp only;omega,Weak.mk (by simp (disch:=omega) only [Zy,YY,go_sem,seval])⟩
             ·exact ⟨(j+1,m),⟨by simp only;omega,hno (by rw [hslo];exact ⟨ht1,ht2,by omega⟩)⟩,by simp only;omega,Weak.mk (by simp (disch:=omega) only [Zy,YY,go_sem,seval])⟩
          ·have hjn:j=a.slow.length:=by omega
           subst hjn;exact ⟨m,hm.to (by omega) (by rw [Zhv,hga]),2,by simp (disch:=omega) only [Zy,YY,go_sem,seval]⟩
theorem ZC {α:Type} [Inhabited α] {l:List α} {i:Nat} (h:i<l.length):nth l i∈l:=by rw [Zd h];exact List.getElem_mem _
theorem Zut (n:Net) (hw:n.wf 1048576):ACalls Tryz.prog 44 [.p (Zgj n)] [] fun x H'=> ∃m:List Flt,FR (pF 26) (netOk n) 4194306000000 m/\x= .sl 0 0 m.length m.length/\H'= [.elems 2 (m.map eF)]:=by
 obtain ⟨w1,w2,w3,w4⟩:=hw;refine Zz [2] Tryz.func44 rfl ZA0 ?_;simp (disch:=omega) only [Tryz.f44,go_sem,seval];refine (Zfk n w1 w2).useE fun m hm=> ?_;simp (disch:=omega) only [go_sem,seval];have hml:=hm.len;refine Zo [1] (fun m:List Flt=> [(3,.sl 1 0 m.length m.length)]) (fun m=>Zy n++ [.elems 2 (m.map eF)]) (fun m=>FR (pF 26) (VM n/\n.arcs.length<=1024) (n.places.length+2) m) ?_ ?_
 ·simp (disch:=omega) only [go_sem,seval];refine cD ?_ ?_<;>intro h<;>simp (disch:=omega) only [Sh.out h,go_sem,seval]
  ·exact ⟨m++ [(4,[97,114,99,115])],hm.yes (by omega) (by simp [pF]),Weak.mk (by simp (disch:=omega) only [Zy,go_sem,seval])⟩
  ·exact ⟨m,hm.no (by omega),Weak.mk (by simp (disch:=omega) only [Zy,go_sem,seval])⟩
 ·clear hm hml;intro m hm;refine Zb [] _ _ _ _ ?_;simp (disch:=omega) only [Zy,go_sem,seval];refine Zg [1] (fun q:Nat×List Flt=> [(3,.sl 1 0 q.2.length q.2.length),(4,.p (.int .i64 q.1))]) (fun q=>Zy n++ [.elems 2 (q.2.map eF)]) (fun q=>q.1<=n.arcs.length/\FR (pF 26) ((VM n/\n.arcs.length<=1024)/\ ∀j,j<q.1->Zhv n j) (n.places.length+2+q.1*4000000) q.2) (fun q=>n.arcs.length-q.1) (0,m) ⟨by simp,hm.to (by simp) (by simp)⟩ (Weak.mk ?_) ?_
  ·simp (disch:=omega) only [Zy,go_sem,seval]
  ·clear hm;rintro ⟨k,m⟩ ⟨hk,hm⟩;simp only at hk hm;have hml:=hm.len;simp (disch:=omega) only [Zy,go_sem,seval];refine cD ?_ ?_<;>intro h<;>simp (disch:=omega) only [Sh.out h,go_sem,seval]
   ·have hk2:k<n.arcs.length:=by omega
    have ha:=w4 _ (ZC hk2);refine (Zoh n k hk2 w1 w3 ha.2.2.2.2.1 ha.2.2.2.2.2.2.1).useE fun f hf=> ?_;simp (disch:=omega) only [go_sem,seval];have hfl:=hf.len
    have q1:(m.length+f.length)*24<=140737488355328:=by omega
    have q2:m.length+f.length<=140737488355328:=by omega
    simp (disch:=omega) only [q1,q2,go_sem,seval];refine ⟨(k+1,m++f),⟨by simp only;omega,(hm.app hf).to (by simp only;omega) (by simp only [Zl,and_assoc])⟩,by simp only;omega,Weak.mk ?_⟩;simp (disch:=omega) only [Zy,List.length_append,List.map_append,go_sem,seval]
   ·have hkn:k=n.arcs.length:=by omega
    subst hkn;exact ⟨m,hm.to (by omega) (by rw [netOk]),1,by simp (disch:=omega) only [Zy,go_sem,seval]⟩
theorem YL (n lo hi:Int):PC 76 [.p (.int .i64 n),.p (.int .i64 lo),.p (.int .i64 hi)] (.bool (rng n lo hi)):=by
 refine Za Tryz.func76 rfl ZAg ?_;simp (disch:=omega) only [Tryz.f76,go_sem,seval];refine gT ?_ ?_<;>intro h<;>simp (disch:=omega) only [Sh.out h,go_sem,seval]
 all_goals (simp [rng];first | done | omega | (rw [Bool.eq_iff_iff];simp;omega))
def VN (l:List Int) (d:Int):Bool:=rng l.length 1 3&&decide ((l.length:Int)=d)&&l.all fun n=>rng n 0 1000
theorem Zfn (l:List Int) (c:Bool) (d:Int) (hl:l.length<=1048576):PC 122 [.p (.list c (l.map eI)),.p (.int .i64 d)] (.bool (VN l d)):=by
 refine Za Tryz.func122 rfl Zqk ?_;simp (disch:=omega) only [Tryz.f122,go_sem,seval];refine (YL l.length 1 3).use ?_;simp (disch:=omega) only [go_sem,seval];refine gF ?_ ?_<;>intro h<;>simp (disch:=omega) only [Sh.out h,go_sem,seval]
 ·simp only [Bool.not_eq_true'] at h;simp [VN,h]
 ·simp only [Bool.not_eq_false'] at h;refine cD ?_ ?_<;>intro h2<;>simp (disch:=omega) only [Sh.out h2,go_sem,seval]
  ·simp [VN,h,h2]
  ·simp only [Classical.not_not] at h2;subst h2;refine Zg [0] (fun k:Nat=> [(5,.p (.int .i64 k))]) (fun _=> []) (fun k=>k<=l.length/\ ∀j,j<k->rng (nth l j) 0 1000=true) (fun k=>l.length-k) 0 (by simp) (Weak.mk ?_) ?_
   ·simp (disch:=omega) only [go_sem,seval]
   ·rintro k ⟨hk,hno⟩;simp (disch:=omega) only [go_sem,seval];refine cD ?_ ?_<;>intro h3<;>simp (disch:=omega) only [Sh.out h3,go_sem,seval]
    ·have hk2:k<l.length:=by omega
     refine (YL (nth l k) 0 1000).use ?_;simp (disch:=omega) only [go_sem,seval];refine cD ?_ ?_<;>intro h4<;>simp (disch:=omega) only [Sh.out h4,go_sem,seval]
     ·simp only [Bool.not_eq_true'] at h4
      have:l.all (fun n=>rng n 0 1000)=false:=by
       rw [List.all_eq_false];exact ⟨nth l k,ZC hk2,by rw [h4];simp⟩
      simp [VN,this]
     ·simp only [Bool.not_eq_false'] at h4;exact ⟨k+1,⟨by omega,Zl.2 ⟨hno,h4⟩⟩,by omega,wk⟩
    ·have:l.all (fun n=>rng n 0 1000)=true:=by
      rw [List.all_eq_true];intro x hx;obtain ⟨j,hj,rfl⟩:=List.mem_iff_getElem.1 hx;rw [<- Zd hj];exact hno j (by omega)
     simp [VN,h,this]
def Zcb (l:List Typ) (i:Nat) (s:List UInt8):Bool:=(List.range i).any fun j=>decide ((nth l j).name=s)
theorem YN {l:List Typ} {i:Nat} {s:List UInt8} :Zcb l i s=false↔ ∀j,j<i->(nth l j).name≠s:=by
 simp [Zcb,List.any_eq_false]
theorem Ziz (l:List Typ) (c:Bool) (i:Nat) (s:List UInt8) (hi:i<=l.length) (hl:l.length<=1048576):PC 121 [.p (.list c (l.map JY)),.p (.int .i64 (i:Nat)),.p (.str s)] (.bool (Zcb l i s)):=by
 refine Za Tryz.func121 rfl ZpU ?_;simp (disch:=omega) only [Tryz.f121,go_sem,seval];refine Zg [0,1,2] (fun k:Nat=> [(7,.p (.int .i64 k))]) (fun _=> []) (fun k=>k<=i/\ ∀j,j<k->(nth l j).name≠s) (fun k=>i-k) 0 (by simp) (Weak.mk ?_) ?_
 ·simp (disch:=omega) only [go_sem,seval]
 ·rintro k ⟨hk,hno⟩;simp (disch:=omega) only [go_sem,seval];refine cD ?_ ?_<;>intro h3<;>simp (disch:=omega) only [Sh.out h3,go_sem,seval]
  ·have hk2:k<l.length:=by omega
   refine cD ?_ ?_<;>intro h4<;>simp (disch:=omega) only [Sh.out h4,go_sem,seval]
   ·have:Zcb l i s=true:=by
     cases hq:Zcb l i s with
     | true=>rfl
     | false=>exact absurd h4 (YN.1 hq k (by omega))
    rw [this]
   ·exact ⟨k+1,⟨by omega,Zl.2 ⟨hno,h4⟩⟩,by omega,wk⟩
  ·have:k=i:=by omega
   subst this;rw [YN.2 hno]
def dimsOf (l:List Typ):Int:=if l.length=0 then 0 else ((nth l 0).cap.length:Int)
theorem ZdE (l:List Typ) (c:Bool) (hl:l.length<=1048576):PC 47 [.p (.list c (l.map JY))] (.int .i64 (dimsOf l)):=by
 refine Za Tryz.func47 rfl ZAd ?_;simp (disch:=omega) only [Tryz.f47,go_sem,seval];refine cD ?_ ?_<;>intro h<;>simp (disch:=omega) only [Sh.out h,go_sem,seval]
 ·have:l.length=0:=by omega
  simp [dimsOf,this]
 ·have h0:0<l.length:=by omega
  have h1:l.length≠0:=by omega
  simp (disch:=first | omega | (simp only [List.length_cons,List.length_nil,List.length_append,List.length_map,List.length_take,List.length_drop]<;>omega)) only [dimsOf,h1,go_sem,seval]
def Yc (t:Typ):AM.Obj:= .cells [.p (.str t.name),.p (.int .i64 t.count),.p (.int .i64 t.src),.p (.int .i64 t.dst),.p (.list t.cap_c (t.cap.map eI)),.p (.int .i64 t.skills),.p (.int .i64 t.prof),.p (.int .i64 t.opn),.p (.int .i64 t.cls),.p (.int .i64 t.drive),.p (.int .i64 t.rest),.p (.int .i64 t.fixed),.p (.int .i64 t.perMile),.p (.int .i64 t.perTick)]
def K6 (n:Net) (l:List Typ) (i:Nat):Prop:=((((((((nameOk (nth l i).name=true)/\(∀j,j<i->(nth l j).name≠(nth l i).name))/\rng (nth l i).count 0 10=true)/\(rng (nth l i).src 0 (n.places.length-1)=true/\rng (nth l i).dst 0 (n.places.length-1)=true))/\VN (nth l i).cap (dimsOf l)=true)/\rng (nth l i).skills 0 1073741823=true)/\(rng (nth l i).opn 0 (nth l i).cls=true/\(nth l i).cls<=4096))/\(rng (nth l i).drive 1 4096=true/\rng (nth l i).rest 0 4096=true))/\(rng (nth l i).prof 0 7=true/\rng (nth l i).fixed 0 100000=true/\rng (nth l i).perMile 0 100=true/\rng (nth l i).perTick 0 100=true)
theorem Zg5 (n:Net) (l:List Typ) (c:Bool) (i:Nat) (hi:i<l.length) (hl:l.length<=1048576) (hw:n.wf 1048576) (ht:(nth l i).wf 1048576) :
  ACalls Tryz.prog 77 [.p (Zgj n),.p (.list c (l.map JY)),.p (.int .i64 (i:Nat))] [] fun x H'=> ∃m:List Int,FR (fun _=>True) (K6 n l i) 9 m/\x= .sl 0 0 m.length m.length/\H'= [.elems 1 (m.map eI)]:=by
 obtain ⟨w1,w2,w3,w4⟩:=hw;refine Zz [3] Tryz.func77 rfl ZAa ?_;simp (disch:=omega) only [Tryz.f77,go_sem,seval];have hty:K6 n l i↔((((((((nameOk (nth l i).name=true)/\(∀j,j<i->(nth l j).name≠(nth l i).name))/\rng (nth l i).count 0 10=true)/\(rng (nth l i).src 0 (n.places.length-1)=true/\rng (nth l i).dst 0 (n.places.length-1)=true))/\VN (nth l i).cap (dimsOf l)=true)/\rng (nth l i).skills 0 1073741823=true)/\(rng (nth l i).opn 0 (nth l i).cls=true/\(nth l i).cls<=4096))/\(rng (nth l i).drive 1 4096=true/\rng (nth l i).rest 0 4096=true))/\(rng (nth l i).prof 0 7=true/\rng (nth l i).fixed 0 100000=true/\rng (nth l i).perMile 0 100=true/\rng (nth l i).perTick 0 100=true):=Iff.rfl
 generalize hga:nth l i=t at ht hty ⊢;have hname:=ht.1;have hcap:=ht.2.2.2.2.1;refine Zm (Weak.ofNil 8 1 (by simp (disch:=omega) only [go_sem,seval]) (by simp) (Weak.refl _ _ _)) ?_;refine Zo [1,2,3,7] (fun m:List Int=> [(8,.sl 2 0 m.length m.length)]) (fun m=>Zy n++ [Yc t,.elems 1 (m.map eI)]) (fun m=>FR (fun _=>True) (nameOk t.name=true) 1 m) ?_ ?_
 ·simp (disch:=omega) only [go_sem,seval];refine (Zgm t.name hname).use ?_;simp (disch:=omega) only [go_sem,seval];refine cD ?_ ?_<;>intro h0<;>simp (disch:=omega) only [Sh.out h0,go_sem,seval]
  ·simp only [Bool.not_eq_true'] at h0;exact ⟨[5],⟨by simp,by simp [h0],by simp⟩,Weak.mk (by simp (disch:=omega) only [Zy,Yc,go_sem,seval])⟩
  ·simp only [Bool.not_eq_false'] at h0;exact ⟨[],FR.nil (by simp [h0]),Weak.mk (by simp (disch:=omega) only [Zy,Yc,go_sem,seval])⟩
 ·skip
  intro m hm;refine Zb [5] _ _ _ _ ?_;simp (disch:=omega) only [Zy,Yc,go_sem,seval];have hml:=hm.len;refine Zo [1,3,7] (fun m:List Int=> [(8,.sl 2 0 m.length m.length)]) (fun m=>Zy n++ [Yc t,.elems 1 (m.map eI)]) (fun m=>FR (fun _=>True) ((nameOk t.name=true)/\(∀j,j<i->(nth l j).name≠t.name)) 2 m) ?_ ?_
  ·simp (disch:=omega) only [go_sem,seval];refine (Ziz l c i t.name (by omega) hl).use ?_;simp (disch:=omega) only [go_sem,seval];refine cD ?_ ?_<;>intro h<;>simp (disch:=omega) only [Sh.out h,go_sem,seval]
   ·exact ⟨m++ [6],hm.yes (by rw [<- YN,h];simp) trivial,Weak.mk (by simp (disch:=omega) only [Zy,Yc,go_sem,seval])⟩
   ·exact ⟨m,hm.no (by exact YN.1 h),Weak.mk (by simp (disch:=omega) only [Zy,Yc,go_sem,seval])⟩
  ·clear hm hml;intro m hm;refine Zb [7] _ _ _ _ ?_;simp (disch:=omega) only [Zy,Yc,go_sem,seval];have hml:=hm.len;refine Zo [1,3,7] (fun m:List Int=> [(8,.sl 2 0 m.length m.length)]) (fun m=>Zy n++ [Yc t,.elems 1 (m.map eI)]) (fun m=>FR (fun _=>True) (((nameOk t.name=true)/\(∀j,j<i->(nth l j).name≠t.name))/\rng t.count 0 10=true) 3 m) ?_ ?_
   ·simp (disch:=omega) only [go_sem,seval];refine (YL t.count 0 10).use ?_;simp (disch:=omega) only [go_sem,seval];refine cD ?_ ?_<;>intro h0<;>simp (disch:=omega) only [Sh.out h0,go_sem,seval]
    ·simp only [Bool.not_eq_true'] at h0;exact ⟨m++ [22],hm.yes (by simp [h0]) trivial,Weak.mk (by simp (disch:=omega) only [Zy,Yc,go_sem,seval])⟩
    ·simp only [Bool.not_eq_false'] at h0;exact ⟨m,hm.no (by simp [h0]),Weak.mk (by simp (disch:=omega) only [Zy,Yc,go_sem,seval])⟩
   ·clear hm hml;intro m hm;refine Zb [9] _ _ _ _ ?_;simp (disch:=omega) only [Zy,Yc,go_sem,seval];have hml:=hm.len;refine Zo [1,7] (fun m:List Int=> [(8,.sl 2 0 m.length m.length)]) (fun m=>Zy n++ [Yc t,.elems 1 (m.map eI)]) (fun m=>FR (fun _=>True) ((((nameOk t.name=true)/\(∀j,j<i->(nth l j).name≠t.name))/\rng t.count 0 10=true)/\(rng t.src 0 (n.places.length-1)=true/\rng t.dst 0 (n.places.length-1)=true)) 4 m) ?_ ?_
    ·simp (disch:=omega) only [go_sem,seval];refine (YL t.src 0 (n.places.length-1)).use ?_;simp (disch:=omega) only [go_sem,seval];refine gF ?_ ?_<;>intro h0<;>simp (disch:=omega) only [Sh.out h0,go_sem,seval]
     ·simp only [Bool.not_eq_true'] at h0;exact ⟨m++ [11],hm.yes (by simp [h0]) trivial,Weak.mk (by simp (disch:=omega) only [Zy,Yc,go_sem,seval])⟩
     ·simp only [Bool.not_eq_false'] at h0;refine (YL t.dst 0 (n.places.length-1)).use ?_;simp (disch:=omega) only [go_sem,seval];refine cD ?_ ?_<;>intro h1<;>simp (disch:=omega) only [Sh.out h1,go_sem,seval]
      ·simp only [Bool.not_eq_true'] at h1;exact ⟨m++ [11],hm.yes (by simp [h1]) trivial,Weak.mk (by simp (disch:=omega) only [Zy,Yc,go_sem,seval])⟩
      ·simp only [Bool.not_eq_false'] at h1;exact ⟨m,hm.no (by simp [h0,h1]),Weak.mk (by simp (disch:=omega) only [Zy,Yc,go_sem,seval])⟩
    ·clear hm hml;intro m hm;refine Zb [11] _ _ _ _ ?_;simp (disch:=omega) only [Zy,Yc,go_sem,seval];have hml:=hm.len;refine Zo [7] (fun m:List Int=> [(8,.sl 2 0 m.length m.length)]) (fun m=>Zy n++ [Yc t,.elems 1 (m.map eI)]) (fun m=>FR (fun _=>True) (((((nameOk t.name=true)/\(∀j,j<i->(nth l j).name≠t.name))/\rng t.count 0 10=true)/\(rng t.src 0 (n.places.length-1)=true/\rng t.dst 0 (n.places.length-1)=true))/\VN t.cap (dimsOf l)=true) 5 m) ?_ ?_
     ·simp (disch:=omega) only [go_sem,seval];refine Zh mixed (by kernel_rfl) (by kernel_rfl) ?_;simp (disch:=omega) only [go_sem,seval];refine Zk (ZdE l c hl) ?_;simp (disch:=omega) only [go_sem,seval];refine Zk (Zfn t.cap t.cap_c (dimsOf l) hcap) ?_;simp (disch:=omega) only [go_sem,seval];refine cD ?_ ?_<;>intro h<;>simp (disch:=omega) only [Sh.out h,go_sem,seval]
      ·simp only [Bool.not_eq_true'] at h;exact ⟨m++ [17],hm.yes (by simp [h]) trivial,Weak.mk (by simp (disch:=omega) only [Zy,Yc,go_sem,seval])⟩
      ·simp only [Bool.not_eq_false'] at h;exact ⟨m,hm.no (by simp [h]),Weak.mk (by simp (disch:=omega) only [Zy,Yc,go_sem,seval])⟩
     ·clear hm hml;intro m hm;refine Zb [13] _ _ _ _ ?_;simp (disch:=omega) only [Zy,Yc,go_sem,seval];have hml:=hm.len;refine Zo [7] (fun m:List Int=> [(8,.sl 2 0 m.length m.length)]) (fun m=>Zy n++ [Yc t,.elems 1 (m.map eI)]) (fun m=>FR (fun _=>True) ((((((nameOk t.name=true)/\(∀j,j<i->(nth l j).name≠t.name))/\rng t.count 0 10=true)/\(rng t.src 0 (n.places.length-1)=true/\rng t.dst 0 (n.places.length-1)=true))/\VN t.cap (dimsOf l)=true)/\rng t.skills 0 1073741823=true) 6 m) ?_ ?_
      ·simp (disch:=omega) only [go_sem,seval];refine (YL t.skills 0 1073741823).use ?_;simp (disch:=omega) only [go_sem,seval];refine cD ?_ ?_<;>intro h0<;>simp (disch:=omega) only [Sh.out h0,go_sem,seval]
       ·simp only [Bool.not_eq_true'] at h0;exact ⟨m++ [18],hm.yes (by simp [h0]) trivial,Weak.mk (by simp (disch:=omega) only [Zy,Yc,go_sem,seval])⟩
       ·simp only [Bool.not_eq_false'] at h0;exact ⟨m,hm.no (by simp [h0]),Weak.mk (by simp (disch:=omega) only [Zy,Yc,go_sem,seval])⟩
      ·clear hm hml;intro m hm;refine Zb [15] _ _ _ _ ?_;simp (disch:=omega) only [Zy,Yc,go_sem,seval];have hml:=hm.len;refine Zo [7] (fun m:List Int=> [(8,.sl 2 0 m.length m.length)]) (fun m=>Zy n++ [Yc t,.elems 1 (m.map eI)]) (fun m=>FR (fun _=>True) (((((((nameOk t.name=true)/\(∀j,j<i->(nth l j).name≠t.name))/\rng t.count 0 10=true)/\(rng t.src 0 (n.places.length-1)=true/\rng t.dst 0 (n.places.length-1)=true))/\VN t.cap (dimsOf l)=true)/\rng t.skills 0 1073741823=true)/\(rng t.opn 0 t.cls=true/\t.cls<=4096)) 7 m) ?_ ?_
       ·simp (disch:=omega) only [go_sem,seval];refine (YL t.opn 0 t.cls).use ?_;simp (disch:=omega) only [go_sem,seval];refine gF ?_ ?_<;>intro h0<;>simp (disch:=omega) only [Sh.out h0,go_sem,seval]
        ·simp only [Bool.not_eq_true'] at h0;exact ⟨m++ [15],hm.yes (by simp [h0]) trivial,Weak.mk (by simp (disch:=omega) only [Zy,Yc,go_sem,seval])⟩
        ·simp only [Bool.not_eq_false'] at h0;refine cD ?_ ?_<;>intro h1<;>simp (disch:=omega) only [Sh.out h1,go_sem,seval]
         ·exact ⟨m++ [15],hm.yes (by omega) trivial,Weak.mk (by simp (disch:=omega) only [Zy,Yc,go_sem,seval])⟩
         ·exact ⟨m,hm.no (by exact ⟨h0,by omega⟩),Weak.mk (by simp (disch:=omega) only [Zy,Yc,go_sem,seval])⟩
       ·clear hm hml;intro m hm;refine Zb [17] _ _ _ _ ?_;simp (disch:=omega) only [Zy,Yc,go_sem,seval];have hml:=hm.len;refine Zo [7] (fun m:List Int=> [(8,.sl 2 0 m.length m.length)]) (fun m=>Zy n++ [Yc t,.elems 1 (m.map eI)]) (fun m=>FR (fun _=>True) ((((((((nameOk t.name=true)/\(∀j,j<i->(nth l j).name≠t.name))/\rng t.count 0 10=true)/\(rng t.src 0 (n.places.length-1)=true/\rng t.dst 0 (n.places.length-1)=true))/\VN t.cap (dimsOf l)=true)/\rng t.skills 0 1073741823=true)/\(rng t.opn 0 t.cls=true/\t.cls<=4096))/\(rng t.drive 1 4096=true/\rng t.rest 0 4096=true)) 8 m) ?_ ?_
        ·simp (disch:=omega) only [go_sem,seval];refine (YL t.drive 1 4096).use ?_;simp (disch:=omega) only [go_sem,seval];refine gF ?_ ?_<;>intro h0<;>simp (disch:=omega) only [Sh.out h0,go_sem,seval]
         ·simp only [Bool.not_eq_true'] at h0;exact ⟨m++ [16],hm.yes (by simp [h0]) trivial,Weak.mk (by simp (disch:=omega) only [Zy,Yc,go_sem,seval])⟩
         ·simp only [Bool.not_eq_false'] at h0;refine (YL t.rest 0 4096).use ?_;simp (disch:=omega) only [go_sem,seval];refine cD ?_ ?_<;>intro h1<;>simp (disch:=omega) only [Sh.out h1,go_sem,seval]
          ·simp only [Bool.not_eq_true'] at h1;exact ⟨m++ [16],hm.yes (by simp [h1]) trivial,Weak.mk (by simp (disch:=omega) only [Zy,Yc,go_sem,seval])⟩
          ·simp only [Bool.not_eq_false'] at h1;exact ⟨m,hm.no (by simp [h0,h1]),Weak.mk (by simp (disch:=omega) only [Zy,Yc,go_sem,seval])⟩
        ·clear hm hml;intro m hm;refine Zb [19] _ _ _ _ ?_;simp (disch:=omega) only [Zy,Yc,go_sem,seval];have hml:=hm.len;refine Zo [] (fun m:List Int=> [(8,.sl 2 0 m.length m.length)]) (fun m=>Zy n++ [Yc t,.elems 1 (m.map eI)]) (fun m=>FR (fun _=>True) (((((((((nameOk t.name=true)/\(∀j,j<i->(nth l j).name≠t.name))/\rng t.count 0 10=true)/\(rng t.src 0 (n.places.length-1)=true/\rng t.dst 0 (n.places.length-1)=true))/\VN t.cap (dimsOf l)=true)/\rng t.skills 0 1073741823=true)/\(rng t.opn 0 t.cls=true/\t.cls<=4096))/\(rng t.drive 1 4096=true/\rng t.rest 0 4096=true))/\(rng t.prof 0 7=true/\rng t.fixed 0 100000=true/\rng t.perMile 0 100=true/\rng t.perTick 0 100=true)) 9 m) ?_ ?_
         ·simp (disch:=omega) only [go_sem,seval];refine (YL t.prof 0 7).use ?_;simp (disch:=omega) only [go_sem,seval];refine gF ?_ ?_<;>intro h0<;>simp (disch:=omega) only [Sh.out h0,go_sem,seval]
          ·simp only [Bool.not_eq_true'] at h0;exact ⟨m++ [2],hm.yes (by simp [h0]) trivial,Weak.mk (by simp (disch:=omega) only [Zy,Yc,go_sem,seval])⟩
          ·simp only [Bool.not_eq_false'] at h0;refine (YL t.fixed 0 100000).use ?_;simp (disch:=omega) only [go_sem,seval];refine gF ?_ ?_<;>intro h1<;>simp (disch:=omega) only [Sh.out h1,go_sem,seval]
           ·simp only [Bool.not_eq_true'] at h1;exact ⟨m++ [2],hm.yes (by simp [h1]) trivial,Weak.mk (by simp (disch:=omega) only [Zy,Yc,go_sem,seval])⟩
           ·simp only [Bool.not_eq_false'] at h1;refine (YL t.perMile 0 100).use ?_;simp (disch:=omega) only [go_sem,seval];refine gF ?_ ?_<;>intro h2<;>simp (disch:=omega) only [Sh.out h2,go_sem,seval]
            ·simp only [Bool.not_eq_true'] at h2;exact ⟨m++ [2],hm.yes (by simp [h2]) trivial,Weak.mk (by simp (disch:=omega) only [Zy,Yc,go_sem,seval])⟩
            ·simp only [Bool.not_eq_false'] at h2;refine (YL t.perTick 0 100).use ?_;simp (disch:=omega) only [go_sem,seval];refine cD ?_ ?_<;>intro h3<;>simp (disch:=omega) only [Sh.out h3,go_sem,seval]
             ·simp only [Bool.not_eq_true'] at h3;exact ⟨m++ [2],hm.yes (by simp [h3]) trivial,Weak.mk (by simp (disch:=omega) only [Zy,Yc,go_sem,seval])⟩
             ·simp only [Bool.not_eq_false'] at h3;exact ⟨m,hm.no (by simp [h0,h1,h2,h3]),Weak.mk (by simp (disch:=omega) only [Zy,Yc,go_sem,seval])⟩
         ·clear hm hml;intro m hm;refine Zb [] _ _ _ _ ?_;simp (disch:=omega) only [Zy,Yc,go_sem,seval];have hml:=hm.len;exact ⟨m,hm.to (by omega) (by rw [hty]),2,by simp (disch:=omega) only [Zy,Yc,go_sem,seval]⟩
def typesOk (n:Net) (l:List Typ):Prop:=rng l.length 1 6=true/\ ∀i,i<l.length->K6 n l i
theorem ZqV (n:Net) (l:List Typ) (c:Bool) (hw:n.wf 1048576) (hl:l.length<=1048576) (hlw: ∀t∈l,t.wf 1048576) :
  ACalls Tryz.prog 45 [.p (Zgj n),.p (.list c (l.map JY))] [] fun x H'=> ∃m:List Flt,FR (pF 20) (typesOk n l) (1+9*l.length) m/\x= .sl 0 0 m.length m.length/\H'= [.elems 2 (m.map eF)]:=by
 refine Zz [2] Tryz.func45 rfl Zyp ?_;simp (disch:=omega) only [Tryz.f45,go_sem,seval];refine Zm (Weak.ofNil 5 2 (by simp (disch:=omega) only [go_sem,seval]) (by simp) (Weak.refl _ _ _)) ?_;refine Zo [1,2] (fun m:List Flt=> [(5,.sl 1 0 m.length m.length)]) (fun m=>Zy n++ [.elems 2 (m.map eF)]) (fun m=>FR (pF 20) (rng l.length 1 6=true) 1 m) ?_ ?_
 ·simp (disch:=omega) only [go_sem,seval];refine (YL l.length 1 6).use ?_;simp (disch:=omega) only [go_sem,seval];refine cD ?_ ?_<;>intro h<;>simp (disch:=omega) only [Sh.out h,go_sem,seval]
  ·simp only [Bool.not_eq_true'] at h;exact ⟨[(4,[])],⟨by simp,by simp [h],by simp [pF]⟩,Weak.mk (by simp (disch:=omega) only [Zy,go_sem,seval])⟩
  ·simp only [Bool.not_eq_false'] at h;exact ⟨[],FR.nil h,Weak.mk (by simp (disch:=omega) only [Zy,go_sem,seval])⟩
 ·intro m hm;refine Zb [] _ _ _ _ ?_;simp (disch:=omega) only [Zy,go_sem,seval];refine Zg [1,2] (fun q:Nat×List Flt=> [(5,.sl 1 0 q.2.length q.2.length),(6,.p (.int .i64 q.1))]) (fun q=>Zy n++ [.elems 2 (q.2.map eF)]) (fun q=>q.1<=l.length/\FR (pF 20) (rng l.length 1 6=true/\ ∀j,j<q.1->K6 n l j) (1+9*q.1) q.2) (fun q=>l.length-q.1) (0,m) ⟨by simp,hm.to (by simp) (by simp)⟩ (Weak.mk ?_) ?_
  ·simp (disch:=omega) only [Zy,go_sem,seval]
  ·clear hm;rintro ⟨k,m⟩ ⟨hk,hm⟩;simp only at hk hm;have hml:=hm.len;simp (disch:=omega) only [Zy,go_sem,seval];refine cD ?_ ?_<;>intro h<;>simp (disch:=omega) only [Sh.out h,go_sem,seval]
   ·have hk2:k<l.length:=by omega
    have hI:I64 (k:Int):=by omega
    have hdl:=WH k hI;refine ((Zg5 n l c k hk2 hl hw (hlw _ (ZC hk2))).frozenE).useV fun e he=> ?_;simp (disch:=omega) only [go_sem,seval];have hel:=he.len;refine Zg [1,2,6,7] (fun q:Nat×List Flt=> [(5,.sl 1 0 q.2.length q.2.length),(8,.p (.int .i64 q.1))]) (fun q=>Zy n++ [.elems 2 (q.2.map eF)]) (fun q=>q.1<=e.length/\FR (pF 20) ((rng l.length 1 6=true/\ ∀j,j<k->K6 n l j)/\q.1=0) (1+9*k+q.1) q.2) (fun q=>e.length-q.1) (0,m) ⟨by simp,hm.to (by simp) (by simp)⟩ (Weak.mk ?_) ?_
    ·simp (disch:=omega) only [Zy,go_sem,seval]
    ·clear hm hml;rintro ⟨j,m⟩ ⟨hj,hm⟩;simp only at hj hm;have hml:=hm.len;simp (disch:=omega) only [Zy,go_sem,seval];refine cD ?_ ?_<;>intro h2<;>simp (disch:=omega) only [Sh.out h2,go_sem,seval]
     ·have hj2:j<e.length:=by omega
      refine Zq 9 mixed (by kernel_rfl) (by kernel_rfl) ?_;simp (disch:=omega) only [go_sem,seval];refine Zk (UD k hI) ?_;simp (disch:=omega) only [go_sem,seval];exact ⟨(j+1,m++ [(nth e j,ZcA k)]),⟨by simp only;omega,(hm.yes (c:=False) (by simp) (by simpa [pF] using hdl)).to (by simp only;omega) (by simp)⟩,by simp only;omega,Weak.mk (by simp (disch:=omega) only [Zy,go_sem,seval])⟩
     ·have hjl:j=e.length:=by omega
      subst hjl;exact ⟨(k+1,m),⟨by simp only;omega,hm.to (by simp only;omega) (by simp only [Zl,and_assoc];rw [<- he.emp,List.eq_nil_iff_length_eq_zero])⟩,by simp only;omega,Weak.mk (by simp (disch:=omega) only [Zy,go_sem,seval])⟩
   ·have hkn:k=l.length:=by omega
    subst hkn;exact ⟨m,hm.to (by omega) (by rw [typesOk]),1,by simp (disch:=omega) only [Zy,go_sem,seval]⟩
theorem Zbc (n lo hi:Int):PC 124 [.p (.int .i64 n),.p (.int .i64 lo),.p (.int .i64 hi)] (.bool (rng n lo hi)):=by
 refine Za Tryz.func124 rfl Zvh ?_;simp (disch:=omega) only [Tryz.f124,go_sem,seval];refine gT ?_ ?_<;>intro h<;>simp (disch:=omega) only [Sh.out h,go_sem,seval]
 all_goals (simp [rng];first | done | omega | (rw [Bool.eq_iff_iff];simp;omega))
def loadOk (l:List Int) (d:Int):Bool:=decide ((l.length:Int)=d)&&l.all fun n=>rng n 0 1000
theorem ZfW (l:List Int) (c:Bool) (d:Int) (hl:l.length<=1048576):PC 123 [.p (.list c (l.map eI)),.p (.int .i64 d)] (.bool (loadOk l d)):=by
 refine Za Tryz.func123 rfl Zrg ?_;simp (disch:=omega) only [Tryz.f123,go_sem,seval];refine cD ?_ ?_<;>intro h2<;>simp (disch:=omega) only [Sh.out h2,go_sem,seval]
 ·simp [loadOk,h2]
 ·simp only [Classical.not_not] at h2;subst h2;refine Zg [0] (fun k:Nat=> [(5,.p (.int .i64 k))]) (fun _=> []) (fun k=>k<=l.length/\ ∀j,j<k->rng (nth l j) 0 1000=true) (fun k=>l.length-k) 0 (by simp) (Weak.mk ?_) ?_
  ·simp (disch:=omega) only [go_sem,seval]
  ·rintro k ⟨hk,hno⟩;simp (disch:=omega) only [go_sem,seval];refine cD ?_ ?_<;>intro h3<;>simp (disch:=omega) only [Sh.out h3,go_sem,seval]
   ·have hk2:k<l.length:=by omega
    have hbad:rng (nth l k) 0 1000=false->loadOk l l.length=false:=fun h4=>by
     have:l.all (fun n=>rng n 0 1000)=false:=by
      rw [List.all_eq_false];exact ⟨nth l k,ZC hk2,by rw [h4];simp⟩
     simp [loadOk,this]
    repeat' (first | (refine ZP (fun hq=> ?_) (fun hq=> ?_)<;>(try simp only [decide_eq_true_eq,decide_eq_false_iff_not,Classical.not_not] at hq)<;>simp (disch:=omega) only [Sh.out hq,go_sem,seval]) | (refine ZQ (fun hq=> ?_) (fun hq=> ?_)<;>(try simp only [decide_eq_true_eq,decide_eq_false_iff_not,Classical.not_not] at hq)<;>simp (disch:=omega) only [Sh.out hq,go_sem,seval]) | (refine Z8 (fun hq=> ?_) (fun hq=> ?_)<;>(try simp only [decide_eq_true_eq,decide_eq_false_iff_not,Classical.not_not] at hq)<;>simp (disch:=omega) only [Sh.out hq,go_sem,seval]))
    all_goals first
     | (rw [hbad (by simp [rng];omega)])
     | exact ⟨k+1,⟨by omega,Zl.2 ⟨hno,by simp [rng];omega⟩⟩,by omega,wk⟩
   ·have:l.all (fun n=>rng n 0 1000)=true:=by
     rw [List.all_eq_true];intro x hx;obtain ⟨j,hj,rfl⟩:=List.mem_iff_getElem.1 hx;rw [<- Zd hj];exact hno j (by omega)
    simp [loadOk,this]
def stpOk (s:Stp):Bool:=decide ((s.place= -1/\s.opn=0/\s.cls=0/\s.serv=0)\/(0<=s.place/\0<=s.opn/\s.opn<=s.cls/\s.cls<=4096/\0<=s.serv/\s.serv<=4096))
def ZoP (s:Stp):Int:=if stpOk s=true then 0 else 2
theorem Zlf (s:Stp):PC 125 [.p (ZiL s)] (.int .i64 (ZoP s)):=by
 refine Za Tryz.func125 rfl ZqQ ?_;simp (disch:=omega) only [Tryz.f125,go_sem,seval]
 repeat' (first | (refine ZP (fun hq=> ?_) (fun hq=> ?_)<;>(try simp only [decide_eq_true_eq,decide_eq_false_iff_not,Classical.not_not] at hq)<;>simp (disch:=omega) only [Sh.out hq,go_sem,seval]) | (refine ZQ (fun hq=> ?_) (fun hq=> ?_)<;>(try simp only [decide_eq_true_eq,decide_eq_false_iff_not,Classical.not_not] at hq)<;>simp (disch:=omega) only [Sh.out hq,go_sem,seval]) | (refine Z8 (fun hq=> ?_) (fun hq=> ?_)<;>(try simp only [decide_eq_true_eq,decide_eq_false_iff_not,Classical.not_not] at hq)<;>simp (disch:=omega) only [Sh.out hq,go_sem,seval]))
 all_goals (simp only [ZoP,stpOk,decide_eq_true_eq])
 all_goals first
  | (exfalso;omega)
  | (rw [if_pos (by omega)])
  | (rw [if_neg (by omega)])
def XG (l:List Ord) (i:Nat):Bool:=(List.range i).all fun j=>decide ((nth l j).name≠(nth l i).name)
theorem Vv {l:List Ord} {i:Nat} :XG l i=true↔ ∀j,j<i->(nth l j).name≠(nth l i).name:=by simp [XG]
def sel (b:Bool) (e:Int):List Int:=if b=true then [] else [e]
theorem Wu (b:Bool) (e:Int):(sel b e).length<=1:=by unfold sel;split<;>simp
theorem Wy {b:Bool} {e:Int} {m p:List Int} (h:m=p) (hb:b=true):m=p++sel b e:=by simp [sel,hb,h]
theorem Wx {b:Bool} {e:Int} {m p:List Int} (h:m=p) (hb:b=false):m++ [e]=p++sel b e:=by simp [sel,hb,h]
def Yb (t:Ord):AM.Obj:= .cells [.p (.str t.name),.p (.list t.load_c (t.load.map eI)),.p (.int .i64 t.pick.place),.p (.int .i64 t.pick.opn),.p (.int .i64 t.pick.cls),.p (.int .i64 t.pick.serv),.p (.int .i64 t.drp.place),.p (.int .i64 t.drp.opn),.p (.int .i64 t.drp.cls),.p (.int .i64 t.drp.serv),.p (.int .i64 t.skills),.p (.int .i64 t.penalty),.p (.int .i64 t.split),.p (.int .i64 t.last),.p (.int .i64 t.now),.p (.bool t.off)]
def Zeh (t:Ord):Bool:=decide (t.pick.place≠ -1)&&decide (t.drp.place≠ -1)
def argOk (t:Ord) (ty:Int):Bool:=rng t.penalty (-1) 1000000&&rng t.split 1 4&&decide (¬(1<t.split/\Zeh t=true)/\ -1<=t.last/\t.last<ty/\ -1<=t.now/\t.now<ty)
def Xy (np:Nat) (d ty:Int) (l:List Ord) (i:Nat):List Int:=sel (nameOk (nth l i).name) 5++sel (XG l i) 6++sel (loadOk (nth l i).load d) 17++sel ((rng (nth l i).pick.place (-1) ((np:Int)-1)&&rng (nth l i).drp.place (-1) ((np:Int)-1))) 11++sel (decide (¬((nth l i).pick.place= -1/\(nth l i).drp.place= -1))) 19++sel ((stpOk (nth l i).pick&&stpOk (nth l i).drp)) 14++sel (rng (nth l i).skills 0 1073741823) 18++sel (argOk (nth l i) ty) 2
theorem UT (np:Nat) (d ty:Int) (l:List Ord) (i:Nat):(Xy np d ty l i).length<=8:=by
 have h:=Wu;simp only [Xy,List.length_append];have h1:=fun b=>h b 5;have h2:=fun b=>h b 6;have h3:=fun b=>h b 17;have h4:=fun b=>h b 11;have h5:=fun b=>h b 19;have h6:=fun b=>h b 14;have h7:=fun b=>h b 18;have h8:=fun b=>h b 2;have a1:=h1 (nameOk (nth l i).name);have a2:=h2 (XG l i);have a3:=h3 (loadOk (nth l i).load d);have a4:=h4 (rng (nth l i).pick.place (-1) ((np:Int)-1)&&rng (nth l i).drp.place (-1) ((np:Int)-1));have a5:=h5 (decide (¬((nth l i).pick.place= -1/\(nth l i).drp.place= -1)));have a6:=h6 (stpOk (nth l i).pick&&stpOk (nth l i).drp)
 have a7:=h7 (rng (nth l i).skills 0 1073741823);have a8:=h8 (argOk (nth l i) ty);omega
theorem Zie (np:Nat) (d ty:Int) (l:List Ord) (c:Bool) (i:Nat) (hi:i<l.length) (hl:l.length<=1048576) (hnp:np<=1048576) (ht:(nth l i).wf 1048576) :
  ACalls Tryz.prog 79 [.p (.int .i64 (np:Nat)),.p (.int .i64 d),.p (.int .i64 ty),.p (.list c (l.map Vt)),.p (.int .i64 (i:Nat))] [] fun x H'=>x= .sl 0 0 (Xy np d ty l i).length (Xy np d ty l i).length/\H'= [.elems 1 ((Xy np d ty l i).map eI)]:=by
 suffices hh:ACalls Tryz.prog 79 [.p (.int .i64 (np:Nat)),.p (.int .i64 d),.p (.int .i64 ty),.p (.list c (l.map Vt)),.p (.int .i64 (i:Nat))] [] fun x H'=> ∃m:List Int,m=Xy np d ty l i/\x= .sl 0 0 m.length m.length/\H'= [.elems 1 (m.map eI)] by
  refine hh.mono ?_;rintro x H' ⟨m,rfl,h1,h2⟩;exact ⟨h1,h2⟩
 refine Zz [3] Tryz.func79 rfl Zx6 ?_;simp (disch:=omega) only [Tryz.f79,go_sem,seval];have hty:Xy np d ty l i=sel (nameOk (nth l i).name) 5++sel (XG l i) 6++sel (loadOk (nth l i).load d) 17++sel ((rng (nth l i).pick.place (-1) ((np:Int)-1)&&rng (nth l i).drp.place (-1) ((np:Int)-1))) 11++sel (decide (¬((nth l i).pick.place= -1/\(nth l i).drp.place= -1))) 19++sel ((stpOk (nth l i).pick&&stpOk (nth l i).drp)) 14++sel (rng (nth l i).skills 0 1073741823) 18++sel (argOk (nth l i) ty) 2:=rfl
 have hleng: ∀m:List Int,∀p:List Int,m=p->p.length<=8->m.length<=8:=fun m p h1 h2=>by rw [h1];exact h2
 generalize hga:nth l i=t at ht hty ⊢;have hname:=ht.1;have hload:=ht.2.1;refine Zm (Weak.ofNil 11 1 (by simp (disch:=omega) only [go_sem,seval]) (by simp) (Weak.refl _ _ _)) ?_;refine Zo [0,1,2,3,4,12] (fun m:List Int=> [(11,.sl 1 0 m.length m.length)]) (fun m=> [Yb t,.elems 1 (m.map eI)]) (fun m=>m=sel (nameOk t.name) 5) ?_ ?_
 ·simp (disch:=omega) only [go_sem,seval];refine (Zgm t.name hname).use ?_;simp (disch:=omega) only [go_sem,seval];refine cD ?_ ?_<;>intro h<;>simp (disch:=omega) only [Sh.out h,go_sem,seval]
  ·simp only [Bool.not_eq_true'] at h;exact ⟨[5],by simp [sel,h],Weak.mk (by simp (disch:=omega) only [Yb,go_sem,seval])⟩
  ·simp only [Bool.not_eq_false'] at h;exact ⟨[],by simp [sel,h],Weak.mk (by simp (disch:=omega) only [Yb,go_sem,seval])⟩
 ·skip
  intro m hm;refine Zb [5] _ _ _ _ ?_;simp (disch:=omega) only [Yb,go_sem,seval]
  have hml:m.length<=8:=by
   rw [hm]
   try simp only [List.length_append]
   have h:=Wu;have a0:=h (nameOk t.name) 5;omega
  refine Zo [0,1,2,12] (fun m:List Int=> [(11,.sl 1 0 m.length m.length)]) (fun m=> [Yb t,.elems 1 (m.map eI)]) (fun m=>m=sel (nameOk t.name) 5++sel (XG l i) 6) ?_ ?_
  ·simp (disch:=omega) only [go_sem,seval];refine Zg [0,1,2,3,4,11,12] (fun k:Nat=> [(13,.p (.int .i64 k))]) (fun _=> [Yb t,.elems 1 (m.map eI)]) (fun k=>k<=i/\ ∀j,j<k->(nth l j).name≠(nth l i).name) (fun k=>i-k) 0 (by simp) (Weak.mk ?_) ?_
   ·simp (disch:=omega) only [Yb,go_sem,seval]
   ·rintro k ⟨hk,hno⟩;simp (disch:=omega) only [Yb,go_sem,seval];refine cD ?_ ?_<;>intro h3<;>simp (disch:=omega) only [Sh.out h3,go_sem,seval]
    ·have hk2:k<l.length:=by omega
     refine Zh mixed (by kernel_rfl) (by kernel_rfl) ?_;simp (disch:=omega) only [go_sem,seval];refine cD ?_ ?_<;>intro h4<;>simp (disch:=omega) only [Sh.out h4,go_sem,seval]
     ·exact ⟨m++ [6],Wx hm (by cases hq:XG l i with | false=>rfl | true=>exact absurd (by rw [hga];exact h4) (Vv.1 hq k (by omega))),Weak.mk (by simp (disch:=omega) only [Yb,go_sem,seval])⟩
     ·exact ⟨k+1,⟨by omega,Zl.2 ⟨hno,by rw [hga];exact h4⟩⟩,by omega,Weak.mk (by simp (disch:=omega) only [Yb,go_sem,seval])⟩
    ·have hki:k=i:=by omega
     subst hki;exact ⟨m,Wy hm (Vv.2 hno),Weak.mk (by simp (disch:=omega) only [Yb,go_sem,seval])⟩
  ·clear hm hml;intro m hm;refine Zb [10] _ _ _ _ ?_;simp (disch:=omega) only [Yb,go_sem,seval]
   have hml:m.length<=8:=by
    rw [hm]
    try simp only [List.length_append]
    have h:=Wu;have a0:=h (nameOk t.name) 5;have a1:=h (XG l i) 6;omega
   refine Zo [0,2,12] (fun m:List Int=> [(11,.sl 1 0 m.length m.length)]) (fun m=> [Yb t,.elems 1 (m.map eI)]) (fun m=>m=sel (nameOk t.name) 5++sel (XG l i) 6++sel (loadOk t.load d) 17) ?_ ?_
   ·simp (disch:=omega) only [go_sem,seval];refine (ZfW t.load t.load_c d hload).use ?_;simp (disch:=omega) only [go_sem,seval];refine cD ?_ ?_<;>intro h<;>simp (disch:=omega) only [Sh.out h,go_sem,seval]
    ·simp only [Bool.not_eq_true'] at h;exact ⟨m++ [17],Wx hm (h),Weak.mk (by simp (disch:=omega) only [Yb,go_sem,seval])⟩
    ·simp only [Bool.not_eq_false'] at h;exact ⟨m,Wy hm (h),Weak.mk (by simp (disch:=omega) only [Yb,go_sem,seval])⟩
   ·clear hm hml;intro m hm;refine Zb [12] _ _ _ _ ?_;simp (disch:=omega) only [Yb,go_sem,seval]
    have hml:m.length<=8:=by
     rw [hm]
     try simp only [List.length_append]
     have h:=Wu;have a0:=h (nameOk t.name) 5;have a1:=h (XG l i) 6;have a2:=h (loadOk t.load d) 17;omega
    refine Zo [2,12] (fun m:List Int=> [(11,.sl 1 0 m.length m.length)]) (fun m=> [Yb t,.elems 1 (m.map eI)]) (fun m=>m=sel (nameOk t.name) 5++sel (XG l i) 6++sel (loadOk t.load d) 17++sel ((rng t.pick.place (-1) ((np:Int)-1)&&rng t.drp.place (-1) ((np:Int)-1))) 11) ?_ ?_
    ·simp (disch:=omega) only [go_sem,seval];refine (Zbc t.pick.place (-1) ((np:Int)-1)).use ?_;simp (disch:=omega) only [go_sem,seval];refine gF ?_ ?_<;>intro h<;>simp (disch:=omega) only [Sh.out h,go_sem,seval]
     ·simp only [Bool.not_eq_true'] at h;exact ⟨m++ [11],Wx hm (by simp [h]),Weak.mk (by simp (disch:=omega) only [Yb,go_sem,seval])⟩
     ·simp only [Bool.not_eq_false'] at h;refine (Zbc t.drp.place (-1) ((np:Int)-1)).use ?_;simp (disch:=omega) only [go_sem,seval];refine cD ?_ ?_<;>intro h2<;>simp (disch:=omega) only [Sh.out h2,go_sem,seval]
      ·simp only [Bool.not_eq_true'] at h2;exact ⟨m++ [11],Wx hm (by simp [h2]),Weak.mk (by simp (disch:=omega) only [Yb,go_sem,seval])⟩
      ·simp only [Bool.not_eq_false'] at h2;exact ⟨m,Wy hm (by simp [h,h2]),Weak.mk (by simp (disch:=omega) only [Yb,go_sem,seval])⟩
    ·clear hm hml;intro m hm;refine Zb [14] _ _ _ _ ?_;simp (disch:=omega) only [Yb,go_sem,seval]
     have hml:m.length<=8:=by
      rw [hm]
      try simp only [List.length_append]
      have h:=Wu;have a0:=h (nameOk t.name) 5;have a1:=h (XG l i) 6;have a2:=h (loadOk t.load d) 17;have a3:=h ((rng t.pick.place (-1) ((np:Int)-1)&&rng t.drp.place (-1) ((np:Int)-1))) 11;omega
     refine Zo [2,12] (fun m:List Int=> [(11,.sl 1 0 m.length m.length)]) (fun m=> [Yb t,.elems 1 (m.map eI)]) (fun m=>m=sel (nameOk t.name) 5++sel (XG l i) 6++sel (loadOk t.load d) 17++sel ((rng t.pick.place (-1) ((np:Int)-1)&&rng t.drp.place (-1) ((np:Int)-1))) 11++sel (decide (¬(t.pick.place= -1/\t.drp.place= -1))) 19) ?_ ?_
     ·simp (disch:=omega) only [go_sem,seval]
      repeat' (first | (refine ZP (fun hq=> ?_) (fun hq=> ?_)<;>(try simp only [decide_eq_true_eq,decide_eq_false_iff_not,Classical.not_not] at hq)<;>simp (disch:=omega) only [Sh.out hq,go_sem,seval]) | (refine ZQ (fun hq=> ?_) (fun hq=> ?_)<;>(try simp only [decide_eq_true_eq,decide_eq_false_iff_not,Classical.not_not] at hq)<;>simp (disch:=omega) only [Sh.out hq,go_sem,seval]) | (refine Z8 (fun hq=> ?_) (fun hq=> ?_)<;>(try simp only [decide_eq_true_eq,decide_eq_false_iff_not,Classical.not_not] at hq)<;>simp (disch:=omega) only [Sh.out hq,go_sem,seval]))
      all_goals first
       | exact ⟨m++ [19],Wx hm (by first | (simp;done) | (simp;omega)),Weak.mk (by simp (disch:=omega) only [Yb,go_sem,seval])⟩
       | exact ⟨m,Wy hm (by first | (simp;done) | (simp;omega)),Weak.mk (by simp (disch:=omega) only [Yb,go_sem,seval])⟩
     ·clear hm hml;intro m hm;refine Zb [16] _ _ _ _ ?_;simp (disch:=omega) only [Yb,go_sem,seval]
      have hml:m.length<=8:=by
       rw [hm]
       try simp only [List.length_append]
       have h:=Wu;have a0:=h (nameOk t.name) 5;have a1:=h (XG l i) 6;have a2:=h (loadOk t.load d) 17;have a3:=h ((rng t.pick.place (-1) ((np:Int)-1)&&rng t.drp.place (-1) ((np:Int)-1))) 11;have a4:=h (decide (¬(t.pick.place= -1/\t.drp.place= -1))) 19;omega
      refine Zo [2,12] (fun m:List Int=> [(11,.sl 1 0 m.length m.length)]) (fun m=> [Yb t,.elems 1 (m.map eI)]) (fun m=>m=sel (nameOk t.name) 5++sel (XG l i) 6++sel (loadOk t.load d) 17++sel ((rng t.pick.place (-1) ((np:Int)-1)&&rng t.drp.place (-1) ((np:Int)-1))) 11++sel (decide (¬(t.pick.place= -1/\t.drp.place= -1))) 19++sel ((stpOk t.pick&&stpOk t.drp)) 14) ?_ ?_
      ·simp (disch:=omega) only [go_sem,seval];refine (Zlf t.pick).use ?_;simp (disch:=omega) only [go_sem,seval]
       cases h:stpOk t.pick with
       | false =>
        simp (disch:=omega) only [ZoP,h,go_sem,seval];exact ⟨m++ [14],Wx hm (by simp [h]),Weak.mk (by simp (disch:=omega) only [Yb,go_sem,seval])⟩
       | true =>
        simp (disch:=omega) only [ZoP,h,go_sem,seval];refine (Zlf t.drp).use ?_;simp (disch:=omega) only [go_sem,seval]
        cases h2:stpOk t.drp with
        | false =>
         simp (disch:=omega) only [ZoP,h2,go_sem,seval];exact ⟨m++ [14],Wx hm (by simp [h2]),Weak.mk (by simp (disch:=omega) only [Yb,go_sem,seval])⟩
        | true =>
         simp (disch:=omega) only [ZoP,h2,go_sem,seval];exact ⟨m,Wy hm (by simp [h,h2]),Weak.mk (by simp (disch:=omega) only [Yb,go_sem,seval])⟩
      ·clear hm hml;intro m hm;refine Zb [18] _ _ _ _ ?_;simp (disch:=omega) only [Yb,go_sem,seval]
       have hml:m.length<=8:=by
        rw [hm]
        try simp only [List.length_append]
        have h:=Wu;have a0:=h (nameOk t.name) 5;have a1:=h (XG l i) 6;have a2:=h (loadOk t.load d) 17;have a3:=h ((rng t.pick.place (-1) ((np:Int)-1)&&rng t.drp.place (-1) ((np:Int)-1))) 11;have a4:=h (decide (¬(t.pick.place= -1/\t.drp.place= -1))) 19;have a5:=h ((stpOk t.pick&&stpOk t.drp)) 14;omega
       refine Zo [2,12] (fun m:List Int=> [(11,.sl 1 0 m.length m.length)]) (fun m=> [Yb t,.elems 1 (m.map eI)]) (fun m=>m=sel (nameOk t.name) 5++sel (XG l i) 6++sel (loadOk t.load d) 17++sel ((rng t.pick.place (-1) ((np:Int)-1)&&rng t.drp.place (-1) ((np:Int)-1))) 11++sel (decide (¬(t.pick.place= -1/\t.drp.place= -1))) 19++sel ((stpOk t.pick&&stpOk t.drp)) 14++sel (rng t.skills 0 1073741823) 18) ?_ ?_
       ·simp (disch:=omega) only [go_sem,seval];refine (Zbc t.skills 0 1073741823).use ?_;simp (disch:=omega) only [go_sem,seval];refine cD ?_ ?_<;>intro h<;>simp (disch:=omega) only [Sh.out h,go_sem,seval]
        ·simp only [Bool.not_eq_true'] at h;exact ⟨m++ [18],Wx hm (h),Weak.mk (by simp (disch:=omega) only [Yb,go_sem,seval])⟩
        ·simp only [Bool.not_eq_false'] at h;exact ⟨m,Wy hm (h),Weak.mk (by simp (disch:=omega) only [Yb,go_sem,seval])⟩
       ·clear hm hml;intro m hm;refine Zb [20] _ _ _ _ ?_;simp (disch:=omega) only [Yb,go_sem,seval]
        have hml:m.length<=8:=by
         rw [hm]
         try simp only [List.length_append]
         have h:=Wu;have a0:=h (nameOk t.name) 5;have a1:=h (XG l i) 6;have a2:=h (loadOk t.load d) 17;have a3:=h ((rng t.pick.place (-1) ((np:Int)-1)&&rng t.drp.place (-1) ((np:Int)-1))) 11;have a4:=h (decide (¬(t.pick.place= -1/\t.drp.place= -1))) 19;have a5:=h ((stpOk t.pick&&stpOk t.drp)) 14;have a6:=h (rng t.skills 0 1073741823) 18;omega
        refine Zo [2,11,12] (fun b:Bool=> [(14,.p (.bool b))]) (fun _=> [Yb t,.elems 1 (m.map eI)]) (fun b=>b=Zeh t) ?_ ?_
        ·simp (disch:=omega) only [go_sem,seval]
         repeat' (first | (refine ZP (fun hq=> ?_) (fun hq=> ?_)<;>(try simp only [decide_eq_true_eq,decide_eq_false_iff_not,Classical.not_not] at hq)<;>simp (disch:=omega) only [Sh.out hq,go_sem,seval]) | (refine ZQ (fun hq=> ?_) (fun hq=> ?_)<;>(try simp only [decide_eq_true_eq,decide_eq_false_iff_not,Classical.not_not] at hq)<;>simp (disch:=omega) only [Sh.out hq,go_sem,seval]) | (refine Z8 (fun hq=> ?_) (fun hq=> ?_)<;>(try simp only [decide_eq_true_eq,decide_eq_false_iff_not,Classical.not_not] at hq)<;>simp (disch:=omega) only [Sh.out hq,go_sem,seval]))
         all_goals refine ⟨Zeh t,rfl,Weak.mk ?_⟩
         all_goals (simp (disch:=omega) only [Yb,go_sem,seval];simp [Zeh, *])
        ·rintro b hb;refine Zb [21] _ _ _ _ ?_;simp (disch:=omega) only [Yb,go_sem,seval];refine Zo [] (fun m:List Int=> [(11,.sl 1 0 m.length m.length)]) (fun m=> [Yb t,.elems 1 (m.map eI)]) (fun m=>m=sel (nameOk t.name) 5++sel (XG l i) 6++sel (loadOk t.load d) 17++sel ((rng t.pick.place (-1) ((np:Int)-1)&&rng t.drp.place (-1) ((np:Int)-1))) 11++sel (decide (¬(t.pick.place= -1/\t.drp.place= -1))) 19++sel ((stpOk t.pick&&stpOk t.drp)) 14++sel (rng t.skills 0 1073741823) 18++sel (argOk t ty) 2) ?_ ?_
         ·simp (disch:=omega) only [go_sem,seval];refine (Zbc t.penalty (-1) 1000000).use ?_;simp (disch:=omega) only [go_sem,seval];refine gF ?_ ?_<;>intro h<;>simp (disch:=omega) only [Sh.out h,go_sem,seval]
          ·simp only [Bool.not_eq_true'] at h;exact ⟨m++ [2],Wx hm (by simp [argOk,h]),Weak.mk (by simp (disch:=omega) only [Yb,go_sem,seval])⟩
          ·simp only [Bool.not_eq_false'] at h;refine (Zbc t.split 1 4).use ?_;simp (disch:=omega) only [go_sem,seval];refine gF ?_ ?_<;>intro h2<;>simp (disch:=omega) only [Sh.out h2,go_sem,seval]
           ·simp only [Bool.not_eq_true'] at h2;exact ⟨m++ [2],Wx hm (by simp [argOk,h2]),Weak.mk (by simp (disch:=omega) only [Yb,go_sem,seval])⟩
           ·simp only [Bool.not_eq_false'] at h2
            cases b with
            | true =>
             repeat' (first | (refine ZP (fun hq=> ?_) (fun hq=> ?_)<;>(try simp only [decide_eq_true_eq,decide_eq_false_iff_not,Classical.not_not] at hq)<;>simp (disch:=omega) only [Sh.out hq,go_sem,seval]) | (refine ZQ (fun hq=> ?_) (fun hq=> ?_)<;>(try simp only [decide_eq_true_eq,decide_eq_false_iff_not,Classical.not_not] at hq)<;>simp (disch:=omega) only [Sh.out hq,go_sem,seval]) | (refine Z8 (fun hq=> ?_) (fun hq=> ?_)<;>(try simp only [decide_eq_true_eq,decide_eq_false_iff_not,Classical.not_not] at hq)<;>simp (disch:=omega) only [Sh.out hq,go_sem,seval]))
             all_goals first
              | exact ⟨m++ [2],Wx hm (by rw [argOk,<- hb];first | (simp;done) | (simp;omega)),Weak.mk (by simp (disch:=omega) only [Yb,go_sem,seval])⟩
              | exact ⟨m,Wy hm (by rw [argOk,<- hb,h,h2];first | (simp;done) | (simp;omega)),Weak.mk (by simp (disch:=omega) only [Yb,go_sem,seval])⟩
            | false =>
             repeat' (first | (refine ZP (fun hq=> ?_) (fun hq=> ?_)<;>(try simp only [decide_eq_true_eq,decide_eq_false_iff_not,Classical.not_not] at hq)<;>simp (disch:=omega) only [Sh.out hq,go_sem,seval]) | (refine ZQ (fun hq=> ?_) (fun hq=> ?_)<;>(try simp only [decide_eq_true_eq,decide_eq_false_iff_not,Classical.not_not] at hq)<;>simp (disch:=omega) only [Sh.out hq,go_sem,seval]) | (refine Z8 (fun hq=> ?_) (fun hq=> ?_)<;>(try simp only [decide_eq_true_eq,decide_eq_false_iff_not,Classical.not_not] at hq)<;>simp (disch:=omega) only [Sh.out hq,go_sem,seval]))
             all_goals first
              | exact ⟨m++ [2],Wx hm (by rw [argOk,<- hb];first | (simp;done) | (simp;omega)),Weak.mk (by simp (disch:=omega) only [Yb,go_sem,seval])⟩
              | exact ⟨m,Wy hm (by rw [argOk,<- hb,h,h2];first | (simp;done) | (simp;omega)),Weak.mk (by simp (disch:=omega) only [Yb,go_sem,seval])⟩
         ·clear hm hml;intro m hm;refine Zb [] _ _ _ _ ?_;simp (disch:=omega) only [Yb,go_sem,seval]
          have hml:m.length<=8:=by
           rw [hm]
           try simp only [List.length_append]
           have h:=Wu;have a0:=h (nameOk t.name) 5;have a1:=h (XG l i) 6;have a2:=h (loadOk t.load d) 17;have a3:=h ((rng t.pick.place (-1) ((np:Int)-1)&&rng t.drp.place (-1) ((np:Int)-1))) 11;have a4:=h (decide (¬(t.pick.place= -1/\t.drp.place= -1))) 19;have a5:=h ((stpOk t.pick&&stpOk t.drp)) 14;have a6:=h (rng t.skills 0 1073741823) 18;have a7:=h (argOk t ty) 2;omega
          exact ⟨m,by rw [hm,hty],1,by simp (disch:=omega) only [Yb,go_sem,seval]⟩
def Z1 (np:Nat) (d ty:Int) (l:List Ord) (k:Nat):List Flt:=(if l.length<=10 then [] else [(4,[])])++(List.range k).flatMap fun i=>(Xy np d ty l i).map fun e=>(e,ZcA i)
theorem UR (np:Nat) (d ty:Int) (l:List Ord) (k:Nat):Z1 np d ty l (k+1)=Z1 np d ty l k++(Xy np d ty l k).map fun e=>(e,ZcA k):=by
 simp [Z1,List.range_succ]
theorem Wr (np:Nat) (d ty:Int) (l:List Ord): ∀k,(Z1 np d ty l k).length<=1+8*k
 | 0=>by simp [Z1];split<;>simp
 | k+1=>by
  have h1:=Wr np d ty l k;have h2:=UT np d ty l k;rw [UR];simp;omega
theorem Zso (n:Net) (d ty:Int) (l:List Ord) (c:Bool) (hw:n.wf 1048576) (hl:l.length<=1048576) (hlw: ∀t∈l,t.wf 1048576) :
  ACalls Tryz.prog 46 [.p (Zgj n),.p (.int .i64 d),.p (.int .i64 ty),.p (.list c (l.map Vt))] [] fun x H'=>x= .sl 0 0 (Z1 n.places.length d ty l l.length).length (Z1 n.places.length d ty l l.length).length/\H'= [.elems 2 ((Z1 n.places.length d ty l l.length).map eF)]:=by
 obtain ⟨w1,w2,w3,w4⟩:=hw
 suffices hh:ACalls Tryz.prog 46 [.p (Zgj n),.p (.int .i64 d),.p (.int .i64 ty),.p (.list c (l.map Vt))] [] fun x H'=> ∃m:List Flt,m=Z1 n.places.length d ty l l.length/\x= .sl 0 0 m.length m.length/\H'= [.elems 2 (m.map eF)] by
  refine hh.mono ?_;rintro x H' ⟨m,rfl,h1,h2⟩;exact ⟨h1,h2⟩
 refine Zz [2] Tryz.func46 rfl ZAA ?_;simp (disch:=omega) only [Tryz.f46,go_sem,seval];refine Zm (Weak.ofNil 9 2 (by simp (disch:=omega) only [go_sem,seval]) (by simp) (Weak.refl _ _ _)) ?_;refine Zo [1,2,3,4] (fun m:List Flt=> [(9,.sl 1 0 m.length m.length)]) (fun m=>Zy n++ [.elems 2 (m.map eF)]) (fun m=>m=Z1 n.places.length d ty l 0) ?_ ?_
 ·simp (disch:=omega) only [go_sem,seval];refine cD ?_ ?_<;>intro h<;>simp (disch:=omega) only [Sh.out h,go_sem,seval]
  ·exact ⟨[(4,[])],by rw [Z1,if_neg (by omega)];rfl,Weak.mk (by simp (disch:=omega) only [Zy,go_sem,seval])⟩
  ·exact ⟨[],by rw [Z1,if_pos (by omega)];rfl,Weak.mk (by simp (disch:=omega) only [Zy,go_sem,seval])⟩
 ·intro m hm;refine Zb [] _ _ _ _ ?_;simp (disch:=omega) only [Zy,go_sem,seval];refine Zg [1,2,3,4] (fun q:Nat×List Flt=> [(9,.sl 1 0 q.2.length q.2.length),(10,.p (.int .i64 q.1))]) (fun q=>Zy n++ [.elems 2 (q.2.map eF)]) (fun q=>q.1<=l.length/\q.2=Z1 n.places.length d ty l q.1) (fun q=>l.length-q.1) (0,m) ⟨by simp,hm⟩ (Weak.mk ?_) ?_
  ·simp (disch:=omega) only [Zy,go_sem,seval]
  ·clear hm;rintro ⟨k,m⟩ ⟨hk,hm⟩;simp only at hk hm;have hml:=Wr n.places.length d ty l k;rw [<- hm] at hml;simp (disch:=omega) only [Zy,go_sem,seval];refine cD ?_ ?_<;>intro h<;>simp (disch:=omega) only [Sh.out h,go_sem,seval]
   ·have hk2:k<l.length:=by omega
    have hI:I64 (k:Int):=by omega
    have hrl:=UT n.places.length d ty l k;refine ((Zie n.places.length d ty l c k hk2 hl w1 (hlw _ (ZC hk2))).frozen (by simp)).use ?_;simp (disch:=omega) only [go_sem,seval];generalize hre:Xy n.places.length d ty l k=e at hrl ⊢;refine Zg [1,2,3,4,10,11] (fun q:Nat×List Flt=> [(9,.sl 1 0 q.2.length q.2.length),(12,.p (.int .i64 q.1))]) (fun q=>Zy n++ [.elems 2 (q.2.map eF)]) (fun q=>q.1<=e.length/\q.2=Z1 n.places.length d ty l k++(e.take q.1).map fun e=>(e,ZcA k)) (fun q=>e.length-q.1) (0,m) ⟨by simp,by simp [hm]⟩ (Weak.mk ?_) ?_
    ·simp (disch:=omega) only [Zy,go_sem,seval]
    ·clear hm hml;rintro ⟨j,m⟩ ⟨hj,hm⟩;simp only at hj hm;have hml:=Wr n.places.length d ty l k
     have hml2:m.length<=1+8*k+8:=by rw [hm];simp;omega
     simp (disch:=omega) only [Zy,go_sem,seval];refine cD ?_ ?_<;>intro h2<;>simp (disch:=omega) only [Sh.out h2,go_sem,seval]
     ·have hj2:j<e.length:=by omega
      refine Zq 9 mixed (by kernel_rfl) (by kernel_rfl) ?_;simp (disch:=omega) only [go_sem,seval];refine Zk (UD k hI) ?_;simp (disch:=omega) only [go_sem,seval];refine ⟨(j+1,m++ [(nth e j,ZcA k)]),⟨by simp only;omega,?_⟩,by simp only;omega,Weak.mk (by simp (disch:=omega) only [Zy,go_sem,seval])⟩;simp only [hm,List.append_assoc];rw [List.take_succ_eq_append_getElem hj2,List.map_append,Zd hj2]
      rfl
     ·have hjl:j=e.length:=by omega
      subst hjl;refine ⟨(k+1,m),⟨by simp only;omega,?_⟩,by simp only;omega,Weak.mk (by simp (disch:=omega) only [Zy,go_sem,seval])⟩;simp only [hm,UR,hre,List.take_length]
   ·have hkn:k=l.length:=by omega
    subst hkn;exact ⟨m,hm,1,by simp (disch:=omega) only [Zy,go_sem,seval]⟩
structure OrdOk (np:Nat) (d ty:Int) (l:List Ord) (i:Nat):Prop where
 name:nameOk (nth l i).name=true
 twin: ∀j,j<i->(nth l j).name≠(nth l i).name
 load:loadOk (nth l i).load d=true
 pick: -1<=(nth l i).pick.place/\(nth l i).pick.place<np
 drp: -1<=(nth l i).drp.place/\(nth l i).drp.place<np
 one: ¬((nth l i).pick.place= -1/\(nth l i).drp.place= -1)
 pstp:stpOk (nth l i).pick=true
 dstp:stpOk (nth l i).drp=true
 skills:0<=(nth l i).skills/\(nth l i).skills<=1073741823
 arg:argOk (nth l i) ty=true
theorem ZoA {b:Bool} {e:Int} :sel b e= []↔b=true:=by unfold sel;split<;>simp_all
theorem Zbj {np:Nat} {d ty:Int} {l:List Ord} {i:Nat} :Xy np d ty l i= []↔OrdOk np d ty l i:=by
 simp only [Xy,List.append_eq_nil_iff,ZoA,Bool.and_eq_true,decide_eq_true_eq,rng,Vv]
 constructor
 ·rintro ⟨⟨⟨⟨⟨⟨⟨a1,a2⟩,a3⟩,a4⟩,a5⟩,a6⟩,a7⟩,a8⟩;exact ⟨a1,a2,a3,by omega,by omega,a5,a6.1,a6.2,a7,a8⟩
 ·intro h;obtain ⟨b1,b2⟩:=h.pick;obtain ⟨b3,b4⟩:=h.drp;exact ⟨⟨⟨⟨⟨⟨⟨h.name,h.twin⟩,h.load⟩,by omega,by omega⟩,h.one⟩,h.pstp,h.dstp⟩,h.skills⟩,h.arg⟩
def ordersOk (np:Nat) (d ty:Int) (l:List Ord):Prop:=l.length<=10/\ ∀i,i<l.length->OrdOk np d ty l i
theorem QH {np:Nat} {d ty:Int} {l:List Ord} :Z1 np d ty l l.length= []↔ordersOk np d ty l:=by
 simp only [Z1,List.append_eq_nil_iff,List.flatMap_eq_nil_iff,List.mem_range,List.map_eq_nil_iff,Zbj,ordersOk];refine and_congr ?_ Iff.rfl
 split<;>simp_all
theorem ZfG {np:Nat} {d ty:Int} {l:List Ord} (hl:l.length<=1048576): ∀f∈Z1 np d ty l l.length,pF 20 f:=by
 intro f hf;simp only [Z1,List.mem_append,List.mem_flatMap,List.mem_range,List.mem_map] at hf;rcases hf with hf | ⟨i,hi,e,he,rfl⟩
 ·split at hf<;>simp at hf
  subst hf;simp [pF]
 ·exact WH i (by omega)
theorem Zfl (n:Int) (h0:0<=n) (hn:n<=4611686018427387904):PC 126 [.p (.int .i64 n)] (.str (dec n.toNat)):=by
 refine Za Tryz.func126 rfl ZuW ?_;simp (disch:=omega) only [Tryz.f126,go_sem,seval];refine Zg [] (fun q:Int×List UInt8=> [(0,.p (.int .i64 q.1)),(3,.p (.str q.2))]) (fun _=> []) (fun q=>0<=q.1/\q.1<=n/\dec q.1.toNat++q.2=dec n.toNat) (fun q=>q.1.toNat) (n,[]) (by simp [h0]) (Weak.mk ?_) ?_
 ·simp (disch:=omega) only [go_sem,seval]
 ·rintro ⟨m,s⟩ ⟨hm,hmn,hs⟩;simp only at hm hmn hs;have hl:=Zgk _ n.toNat (Nat.lt_succ_self _)
  have hl2:(dec m.toNat).length+s.length=(dec n.toNat).length:=by rw [<- hs];simp
  simp (disch:=first | omega | (simp only [List.length_cons,List.length_nil,List.length_append,List.length_map,List.length_take,List.length_drop]<;>omega)) only [go_sem,seval];refine cD ?_ ?_<;>intro h<;>simp (disch:=omega) only [Sh.out h,go_sem,seval]
  ·simp (disch:=first | omega | (simp only [List.length_cons,List.length_nil,List.length_append,List.length_map,List.length_take,List.length_drop]<;>omega)) only [go_sem,seval]
   have h2: ¬m.toNat<10:=by omega
   have e1:(48+m%10).toNat=48+m.toNat%10:=by omega
   have e2:(m / 10).toNat=m.toNat / 10:=by omega
   refine ⟨(m / 10,UInt8.ofNat (48+m%10).toNat::s),⟨by simp only;omega,by simp only;omega,?_⟩,by simp only;omega,Weak.mk ?_⟩
   ·simp only [e1,e2];rw [<- hs,dec.eq_def m.toNat,dif_neg h2];simp
   ·simp (disch:=omega) only [go_sem,seval]
  ·simp (disch:=first | omega | (simp only [List.length_cons,List.length_nil,List.length_append,List.length_map,List.length_take,List.length_drop]<;>omega)) only [go_sem,seval]
   have h2:m.toNat<10:=by omega
   have e1:(48+m).toNat=48+m.toNat:=by omega
   rw [<- hs,dec.eq_def m.toNat,dif_pos h2,e1]
   rfl
def okP (n:Int) (p:Int×Int):Bool:=decide (0<=p.1/\p.1<n)&&decide (0<=p.2/\p.2<n)&&decide (¬p.1=p.2)
def atW (word:List UInt8) (i:Nat):List UInt8:=word++ [32]++dec i
def flt (n:Int) (word:List UInt8) (sm:Int×Int->Int×Int->Bool) (l:List (Int×Int)) (i:Nat):List (Int×List UInt8) :=
 if okP n (nth l i)=false then [(2,atW word i)] else if (l.take i).any (sm (nth l i)) then [(6,atW word i)] else []
def hdr (word:List UInt8) (l:List (Int×Int)):List (Int×List UInt8):=if 16<l.length then [(4,word)] else []
def ZaW (n:Int) (word:List UInt8) (sm:Int×Int->Int×Int->Bool) (l:List (Int×Int)) (k:Nat):List (Int×List UInt8):=hdr word l++(List.range k).flatMap (flt n word sm l)
theorem Zb5 (n word sm l k):ZaW n word sm l (k+1)=ZaW n word sm l k++flt n word sm l k:=by simp [ZaW,List.range_succ,List.flatMap_append]
theorem Zbu (n word sm l):ZaW n word sm l 0=hdr word l:=by simp [ZaW]
theorem Zna (n word sm l i):(flt n word sm l i).length<=1:=by unfold flt;split<;>(try split)<;>simp
theorem VV (n word sm l): ∀k,(ZaW n word sm l k).length<=k+1:=by
 intro k
 induction k with
 | zero=>rw [Zbu];unfold hdr;split<;>simp
 | succ k ih=>rw [Zb5];have:=Zna n word sm l k;simp;omega
def chk (n:Int) (ap be:List (Int×Int)):List (Int×List UInt8) :=
 ZaW n [97,112,97,114,116] (fun p q=>decide (p=q\/(p.1=q.2/\p.2=q.1))) ap ap.length++ZaW n [98,101,102,111,114,101] (fun p q=>decide (p=q)) be be.length
def smR (turned:Bool) (p q:Int×Int):Bool:=decide (q.1=p.1/\q.2=p.2)||(turned&&decide (q.1=p.2/\q.2=p.1))
theorem ZkA : smR true=fun p q=>decide (p=q\/(p.1=q.2/\p.2=q.1)):=by
 funext p q
 simp only [smR,Bool.true_and,ZrQ]
 congr 1
 simp only [Prod.ext_iff,eq_iff_iff]
 constructor
 ·rintro (h | h)
  ·exact .inl ⟨h.1.symm,h.2.symm⟩
  ·exact .inr ⟨h.2.symm,h.1.symm⟩
 ·rintro (h | h)
  ·exact .inl ⟨h.1.symm,h.2.symm⟩
  ·exact .inr ⟨h.2.symm,h.1.symm⟩
theorem ZhJ : smR false=fun p q=>decide (p=q):=by
 funext p q
 simp only [smR,Bool.false_and,Bool.or_false]
 congr 1
 simp only [Prod.ext_iff,eq_iff_iff];exact ⟨fun h=>⟨h.1.symm,h.2.symm⟩,fun h=>⟨h.1.symm,h.2.symm⟩⟩
def tw (turned:Bool) (l:List (Int×Int)) (p:Int×Int) (j:Nat):Bool:=(l.take j).any (smR turned p)
theorem ZmN (turned l p):tw turned l p 0=false:=by simp [tw]
theorem Zoc (turned:Bool) (l:List (Int×Int)) (p:Int×Int) (j:Nat) (h:j<l.length):tw turned l p (j+1)=(tw turned l p j||smR turned p (nth l j)):=by
 rw [tw,tw,List.take_succ_eq_append_getElem h,List.any_append,Zd h];simp only [List.any_cons,List.any_nil,Bool.or_false]
theorem ZeQ (n:Int) (word:List UInt8) (l:List (Int×Int)) (c:Bool) (turned:Bool) (hw:word.length<=1000) (hl:l.length<=1048576) :
  ACalls Tryz.prog 80 [.p (.int .i64 n),.p (.list c (l.map eP)),.p (.str word),.p (.bool turned)] [] fun x H'=>x= .sl 0 0 (ZaW n word (smR turned) l l.length).length (ZaW n word (smR turned) l l.length).length/\H'= [.elems 2 ((ZaW n word (smR turned) l l.length).map eF)]:=by
 refine ZaB [2] (fn:=Tryz.f80) (by simp) Tryz.func80 rfl ZyZ ?_;simp (disch:=omega) only [Tryz.f80,go_sem,seval];refine Zm (Weak.ofNil 9 2 (by simp (disch:=omega) only [go_sem,seval]) (by simp) (Weak.refl _ _ _)) ?_;simp (disch:=omega) only [go_sem,seval];refine Zo [0,1,2,3] (fun _:Unit=> [(9,.sl 0 0 (hdr word l).length (hdr word l).length)]) (fun _=> [.elems 2 ((hdr word l).map eF)]) (fun _=>True) ?_ ?_
 ·simp (disch:=omega) only [go_sem,seval];refine cD ?_ ?_<;>intro h<;>simp (disch:=omega) only [Sh.out h,go_sem,seval]
  ·refine ⟨(),Weak.mk ?_⟩
   have h2:16<l.length:=by omega
   simp (disch:=omega) only [hdr,h2,go_sem,seval]
  ·refine ⟨(),Weak.mk ?_⟩
   have h2: ¬ 16<l.length:=by omega
   simp (disch:=omega) only [hdr,h2,go_sem,seval]
 ·intro _ _;refine Zb [] _ _ _ _ ?_;simp (disch:=omega) only [go_sem,seval];refine Zg [0,1,2,3] (fun k:Nat=> [(9,.sl 0 0 (ZaW n word (smR turned) l k).length (ZaW n word (smR turned) l k).length),(10,.p (.int .i64 k))]) (fun k=> [.elems 2 ((ZaW n word (smR turned) l k).map eF)]) (fun k=>k<=l.length) (fun k=>l.length-k) 0 (by simp) (Weak.mk ?_) ?_
  ·simp (disch:=omega) only [Zbu,go_sem,seval]
  ·intro k hk;have hfl:=VV n word (smR turned) l k;have hdl:=Zgk _ k (Nat.lt_succ_self _);simp (disch:=omega) only [go_sem,seval];refine cD ?_ ?_<;>intro h<;>simp (disch:=omega) only [Sh.out h,go_sem,seval]
   ·have hk2:k<l.length:=by omega
    simp (disch:=first | omega | (simp only [List.length_cons,List.length_nil,List.length_append,List.length_map,List.length_take,List.length_drop]<;>omega)) only [go_sem,seval];refine (Zfl (k:Int) (by omega) (by omega)).use ?_;simp (disch:=first | omega | (simp only [List.length_cons,List.length_nil,List.length_append,List.length_map,List.length_take,List.length_drop]<;>omega)) only [go_sem,seval];have hs:=Zb5 n word (smR turned) l k
    have hbad:okP n (nth l k)=false->flt n word (smR turned) l k= [(2,word++ [32]++dec k)]:=fun e=>by simp [flt,e,atW]
    repeat' (first | (refine ZP (fun hq=> ?_) (fun hq=> ?_)<;>(try simp only [decide_eq_true_eq,decide_eq_false_iff_not,Classical.not_not] at hq)<;>simp (disch:=omega) only [Sh.out hq,go_sem,seval]) | (refine ZQ (fun hq=> ?_) (fun hq=> ?_)<;>(try simp only [decide_eq_true_eq,decide_eq_false_iff_not,Classical.not_not] at hq)<;>simp (disch:=omega) only [Sh.out hq,go_sem,seval]) | (refine Z8 (fun hq=> ?_) (fun hq=> ?_)<;>(try simp only [decide_eq_true_eq,decide_eq_false_iff_not,Classical.not_not] at hq)<;>simp (disch:=omega) only [Sh.out hq,go_sem,seval]))
    all_goals try (
     have e:=hbad (by simp [okP];omega)
     exact ⟨k+1,by omega,by omega,Weak.mk (by simp (disch:=omega) only [hs,e,go_sem,seval])⟩)
    have hok:okP n (nth l k)=true:=by simp [okP];omega
    refine Zg [0,1,2,3,9,10,11,12,13] (fun j:Nat=> [(14,.p (.bool (tw turned l (nth l k) j))),(15,.p (.int .i64 j))]) (fun _=> [.elems 2 ((ZaW n word (smR turned) l k).map eF)]) (fun j=>j<=k) (fun j=>k-j) 0 (by simp) (Weak.mk ?_) ?_
    ·simp (disch:=omega) only [ZmN,go_sem,seval]
    ·intro j hj;simp (disch:=omega) only [go_sem,seval];refine cD ?_ ?_<;>intro h4<;>simp (disch:=omega) only [Sh.out h4,go_sem,seval]
     ·have hts:=Zoc turned l (nth l k) j (by omega);generalize tw turned l (nth l k) j=q at hts ⊢
      repeat' (first | (refine ZP (fun hq=> ?_) (fun hq=> ?_)<;>(try simp only [decide_eq_true_eq,decide_eq_false_iff_not,Classical.not_not] at hq)<;>simp (disch:=omega) only [Sh.out hq,go_sem,seval]) | (refine ZQ (fun hq=> ?_) (fun hq=> ?_)<;>(try simp only [decide_eq_true_eq,decide_eq_false_iff_not,Classical.not_not] at hq)<;>simp (disch:=omega) only [Sh.out hq,go_sem,seval]) | (refine Z8 (fun hq=> ?_) (fun hq=> ?_)<;>(try simp only [decide_eq_true_eq,decide_eq_false_iff_not,Classical.not_not] at hq)<;>simp (disch:=omega) only [Sh.out hq,go_sem,seval]))
      all_goals refine ⟨j+1,by omega,by omega,Weak.mk ?_⟩
      all_goals clear hs hbad hfl hdl
      all_goals simp (disch:=omega) only [hts,go_sem,seval]
      all_goals simp [smR, *]
      all_goals first | omega | (simp [smR, *] at hts;exact hts)
     ·have hjk:j=k:=by omega
      subst hjk;refine cD ?_ ?_<;>intro h5<;>simp (disch:=omega) only [Sh.out h5,go_sem,seval]
      ·have e:flt n word (smR turned) l j= [(6,word++ [32]++dec j)]:=by
        have h6:(l.take j).any (smR turned (nth l j))=true:=h5;simp [flt,hok,h6,atW]
       exact ⟨j+1,by omega,by omega,Weak.mk (by simp (disch:=omega) only [hs,e,go_sem,seval])⟩
      ·have e:flt n word (smR turned) l j= []:=by
        have h6:(l.take j).any (smR turned (nth l j))=false:=h5;simp only [flt,hok,h6,Bool.true_eq_false,Bool.false_eq_true,if_false]
       exact ⟨j+1,by omega,by omega,Weak.mk (by simp (disch:=omega) only [hs,e,go_sem,seval])⟩
   ·have:k=l.length:=by omega
    subst this;exact ⟨0,by simp (disch:=omega) only [go_sem,seval]⟩
theorem Zkj (n:Int) (ap be:List (Int×Int)) (c c':Bool) (hl:ap.length<=1048576) (hl2:be.length<=1048576) :
  ACalls Tryz.prog 48 [.p (.int .i64 n),.p (.list c (ap.map eP)),.p (.list c' (be.map eP))] [] fun x H'=>x= .sl 0 0 (chk n ap be).length (chk n ap be).length/\H'= [.elems 2 ((chk n ap be).map eF)]:=by
 refine YI (fn:=Tryz.f48) (by simp) Tryz.func48 rfl ZAh ?_;simp (disch:=omega) only [Tryz.f48,go_sem,seval];have h1:=VV n [97,112,97,114,116] (smR true) ap ap.length;have h2:=VV n [98,101,102,111,114,101] (smR false) be be.length;refine (ZeQ n _ ap c true (by decide) hl).useF ?_;simp (disch:=omega) only [go_sem,seval];refine (ZeQ n _ be c' false (by decide) hl2).useF ?_;simp (disch:=omega) only [go_sem,seval];refine ⟨0,?_⟩;rw [chk,<- ZkA,<- ZhJ];simp (disch:=omega) only [go_sem,seval]
@[go_sem] theorem Zr6 {H:List AM.Obj} {β:Type} {S b o n:Nat} {xs:List PV} {g:β->PV} {m:List β} (hb:(n+m.length)*b<=140737488355328) (hb2:n+m.length<=140737488355328) :
  JS H (some (S,b)) (.elems S xs) o n (some (m.map g))=if xs.length=n/\okE S (m.map g)=true then some (.sl o 0 (n+m.length) (n+m.length),ost H o (.elems S (xs++m.map g))) else none:=by
 rw [ZjA];simp only [List.length_map,hb,hb2,and_true]
def und (word:List UInt8) (f:Flt):Flt:=(f.1,if f.2= [] then word else word++ [32]++f.2)
theorem VS (word:List UInt8) (l:List Flt) (c:Bool) (hword:word.length<=100) (hl:l.length<=4194306000000) (hp: ∀f∈l,pF 100 f) :
  ACalls Tryz.prog 43 [.p (.str word),.p (.list c (l.map eF))] [] fun x H'=>x= .sl 0 0 (l.map (und word)).length (l.map (und word)).length/\H'= [.elems 2 ((l.map (und word)).map eF)]:=by
 suffices hh:ACalls Tryz.prog 43 [.p (.str word),.p (.list c (l.map eF))] [] fun x H'=> ∃m:List Flt,m=l.map (und word)/\x= .sl 0 0 m.length m.length/\H'= [.elems 2 (m.map eF)] by
  refine hh.mono ?_;rintro x H' ⟨m,rfl,h1,h2⟩;exact ⟨h1,h2⟩
 refine Zz [2] Tryz.func43 rfl ZyR ?_;simp (disch:=omega) only [Tryz.f43,go_sem,seval];refine Zm (Weak.ofNil 5 2 (by simp (disch:=omega) only [go_sem,seval]) (by simp) (Weak.refl _ _ _)) ?_;refine Zb [] _ _ _ _ ?_;simp (disch:=omega) only [go_sem,seval];refine Zg [0,1] (fun q:Nat×List Flt=> [(5,.sl 0 0 q.2.length q.2.length),(6,.p (.int .i64 q.1))]) (fun q=> [.elems 2 (q.2.map eF)]) (fun q=>q.1<=l.length/\q.2=(l.take q.1).map (und word)) (fun q=>l.length-q.1) (0,[]) ⟨by simp,by simp⟩ (Weak.mk ?_) ?_
 ·simp (disch:=omega) only [go_sem,seval]
 ·rintro ⟨k,m⟩ ⟨hk,hm⟩;simp only at hk hm
  have hml:m.length<=k:=by rw [hm];simp;omega
  simp (disch:=omega) only [go_sem,seval];refine cD ?_ ?_<;>intro h<;>simp (disch:=omega) only [Sh.out h,go_sem,seval]
  ·have hk2:k<l.length:=by omega
   have hpk:=hp _ (ZC hk2);unfold pF at hpk
   have hnext: ∀f,f=und word (nth l k)->m++ [f]=(l.take (k+1)).map (und word):=fun f hf=>by
    rw [hf,hm,List.take_succ_eq_append_getElem hk2,List.map_append,Zd hk2];rfl
   refine cD ?_ ?_<;>intro h2<;>simp (disch:=omega) only [Sh.out h2,go_sem,seval]
   ·have h3: ¬(nth l k).2= []:=by simpa using h2
    simp (disch:=first | omega | (simp only [List.length_cons,List.length_nil,List.length_append,List.length_map,List.length_take,List.length_drop]<;>omega)) only [go_sem,seval];refine ⟨(k+1,m++ [((nth l k).1,word++ [32]++(nth l k).2)]),⟨by simp only;omega,hnext _ (by simp [und,h3])⟩,by simp only;omega,Weak.mk (by simp (disch:=first | omega | (simp only [List.length_cons,List.length_nil,List.length_append,List.length_map,List.length_take,List.length_drop]<;>omega)) only [go_sem,seval])⟩
   ·have h3:(nth l k).2= []:=by simpa using h2
    refine ⟨(k+1,m++ [((nth l k).1,word)]),⟨by simp only;omega,hnext _ (by simp [und,h3])⟩,by simp only;omega,Weak.mk (by simp (disch:=first | omega | (simp only [List.length_cons,List.length_nil,List.length_append,List.length_map,List.length_take,List.length_drop]<;>omega)) only [go_sem,seval])⟩
  ·have hkn:k=l.length:=by omega
   subst hkn;exact ⟨m,by rw [hm,List.take_length],0,by simp (disch:=omega) only [go_sem,seval]⟩
theorem Zp7 {n:Int} {ap be:List (Int×Int)} (ha:ap.length<=1048576) (hb:be.length<=1048576): ∀f∈chk n ap be,pF 100 f:=by
 have key: ∀(word:List UInt8) (sm:Int×Int->Int×Int->Bool) (l:List (Int×Int)),word.length<=6->l.length<=1048576-> ∀f∈ZaW n word sm l l.length,pF 100 f:=fun word sm l hw hl f hf=>by
  simp only [ZaW,List.mem_append,List.mem_flatMap,List.mem_range] at hf;rcases hf with hf | ⟨i,hi,hf⟩
  ·unfold hdr at hf;split at hf<;>simp at hf;subst hf;simp [pF];omega
  ·have hd:=Ul 6 i (by omega)
   have: ∀e:Int,pF 100 (e,atW word i):=fun e=>by simp [pF,atW];omega
   unfold flt at hf
   split at hf
   ·simp at hf;subst hf;exact this _
   ·split at hf<;>simp at hf
    subst hf;exact this _
 intro f hf;rcases List.mem_append.1 hf with hf | hf
 ·exact key _ _ _ (by simp) ha f hf
 ·exact key _ _ _ (by simp) hb f hf
theorem ZmJ {n:Int} {ap be:List (Int×Int)} :(chk n ap be).length<=ap.length+be.length+2:=by
 have h1:=VV n [97,112,97,114,116] (fun p q=>decide (p=q\/(p.1=q.2/\p.2=q.1))) ap ap.length;have h2:=VV n [98,101,102,111,114,101] (fun p q=>decide (p=q)) be be.length;rw [chk,List.length_append];omega
structure InstOk (x:Inst):Prop where
 net:netOk x.net
 types:typesOk x.net x.types
 orders:ordersOk x.net.places.length (dimsOf x.types) x.types.length x.orders
 rules:chk x.orders.length x.apart x.before= []
theorem FR.und {p:Flt->Prop} {C:Prop} {b:Nat} {l:List Flt} (h:FR p C b l) (word:List UInt8):FR (fun _=>True) C b (l.map (und word)) :=
 ⟨by simpa using h.len,by rw [List.map_eq_nil_iff];exact h.emp,fun _ _=>trivial⟩
theorem Zs4 (x:Inst) (hw:x.wf 1048576):ACalls Tryz.prog 15 [.p (ZT x)] [] fun y H'=> ∃m:List Flt,FR (fun _=>True) (InstOk x) 4194400000000 m/\y= .sl 0 0 m.length m.length/\H'= [.elems 2 (m.map eF)]:=by
 obtain ⟨w1,w2,w3,w4,w5,w6,w7,w8,w9⟩:=hw;refine Zz [] Tryz.func15 rfl ZAD ?_;simp (disch:=omega) only [Tryz.f15,go_sem,seval];have ol:=Wr x.net.places.length (dimsOf x.types) x.types.length x.orders x.orders.length;have oat:=ZfG (np:=x.net.places.length) (d:=dimsOf x.types) (ty:=x.types.length) w4;have onil:=QH (np:=x.net.places.length) (d:=dimsOf x.types) (ty:=x.types.length) (l:=x.orders);have cl:=ZmJ (n:=x.orders.length) (ap:=x.apart) (be:=x.before);have cat:=Zp7 (n:=x.orders.length) w6 w8;refine ((Zut x.net w1).frozenE).useV fun m1 h1=> ?_
 simp (disch:=omega) only [go_sem,seval];have h1p:=h1.pmono (q:=pF 100) fun f hf=>hf.mono (by omega);have u1:=VS [110,101,116] m1 false (by simp) h1.len h1p.all;have f1:=h1.und [110,101,116];generalize m1.map (und [110,101,116])=q1 at u1 f1;have f1l:=f1.len;refine (u1).useF ?_;simp (disch:=omega) only [go_sem,seval];refine ((ZqV x.net x.types x.types_c w1 w2 w3).frozenE).useV fun m2 h2=> ?_;simp (disch:=omega) only [go_sem,seval];have h2p:=h2.pmono (q:=pF 100) fun f hf=>hf.mono (by omega);have h2l:=h2.len;have u2:=(VS [116,121,112,101,115] m2 false (by simp) (by omega) h2p.all).frozen (by simp)
 have f2:=h2.und [116,121,112,101,115];generalize m2.map (und [116,121,112,101,115])=q2 at u2 f2;have f2l:=f2.len;refine (u2).use ?_;simp (disch:=omega) only [go_sem,seval];have u3:=(VS [111,114,100,101,114,115] (Z1 x.net.places.length (dimsOf x.types) x.types.length x.orders x.orders.length) false (by simp) (by omega) fun f hf=>(oat f hf).mono (by omega)).frozen (by simp);have f3:=(show FR (fun _=>True) (ordersOk x.net.places.length (dimsOf x.types) x.types.length x.orders) (1+8*x.orders.length) (Z1 x.net.places.length (dimsOf x.types) x.types.length x.orders x.orders.length) from ⟨ol,onil,fun _ _=>trivial⟩).und [111,114,100,101,114,115]
 generalize (Z1 x.net.places.length (dimsOf x.types) x.types.length x.orders x.orders.length).map (und [111,114,100,101,114,115])=q3 at u3 f3;have f3l:=f3.len;refine Zq 13 mixed (by kernel_rfl) (by kernel_rfl) ?_;simp (disch:=omega) only [go_sem,seval];refine Zk (ZdE x.types x.types_c w2) ?_;simp (disch:=omega) only [go_sem,seval];refine Zk ((Zso x.net (dimsOf x.types) x.types.length x.orders x.orders_c w1 w4 w5).frozen (by simp)) ?_;simp (disch:=omega) only [go_sem,seval];refine Zk (u3) ?_;simp (disch:=omega) only [go_sem,seval];have u4:=(VS [114,117,108,101,115] (chk x.orders.length x.apart x.before) false (by simp) (by omega) cat).frozen (by simp)
 have f4:=(show FR (fun _=>True) (chk x.orders.length x.apart x.before= []) (x.apart.length+x.before.length+2) (chk x.orders.length x.apart x.before) from ⟨cl,Iff.rfl,fun _ _=>trivial⟩).und [114,117,108,101,115];generalize (chk x.orders.length x.apart x.before).map (und [114,117,108,101,115])=q4 at u4 f4;have f4l:=f4.len;refine ((Zkj x.orders.length x.apart x.before x.apart_c x.before_c w6 w8).frozen (by simp)).use ?_;simp (disch:=omega) only [go_sem,seval];refine (u4).use ?_;simp (disch:=omega) only [go_sem,seval];refine ⟨q1++q2++q3++q4,((f1.app f2).app f3 |>.app f4).to (by omega) ⟨fun ⟨⟨⟨a,b⟩,c⟩,d⟩=>⟨a,b,c,d⟩,fun h=>⟨⟨⟨h.net,h.types⟩,h.orders⟩,h.rules⟩⟩,1,?_⟩
 simp (disch:=omega) only [go_sem,seval]
def Ze (x:Inst):AM.Obj:= .cells [.p (.list x.net.places_c (x.net.places.map eS)),.p (.list x.net.arcs_c (x.net.arcs.map JU)),.p (.list x.types_c (x.types.map JY)),.p (.list x.orders_c (x.orders.map Vt)),.p (.list x.apart_c (x.apart.map eP)),.p (.list x.before_c (x.before.map eP))]
def zSco : Sco:=⟨0,0,0,0⟩
theorem Zii (a:Int):IntKind.i64.wrap ((BitVec.ofInt 64 a&&&BitVec.ofInt 64 1).toNat:Int)=a%2:=by
 have h:((BitVec.ofInt 64 a&&&BitVec.ofInt 64 1).toNat:Int)=a%2:=by
  rw [BitVec.toNat_and]
  have:(BitVec.ofInt 64 1).toNat=1:=by decide
  rw [this,Nat.and_one_is_mod]
  have:((BitVec.ofInt 64 a).toNat:Int)=a%2^64:=by simp [BitVec.toNat_ofInt];omega
  omega
 rw [h];exact IntWalk.i64_in _ (by omega)
def sHas (s i:Int):Bool:=decide (0<=i)&&decide (i<=62)&&decide (s.fdiv (2^i.toNat)%2=1)
theorem ZbC (s i:Int):PC 84 [.p (.int .i64 s),.p (.int .i64 i)] (.bool (sHas s i)):=by
 refine Za Tryz.func84 rfl ZzE ?_;simp (disch:=omega) only [Tryz.f84,go_sem,seval];refine gT ?_ ?_<;>intro h<;>simp (disch:=omega) only [Sh.out h,go_sem,seval]
 ·refine gT ?_ ?_<;>intro h1<;>simp (disch:=omega) only [Sh.out h1,go_sem,seval]
  ·have:min i.toNat 64=i.toNat:=by omega
   rw [this]
   erw [Zii]
   simp [sHas,h,h1]
  ·simp [sHas,h,h1]
 ·simp [sHas,h]
def XS (s:Int) (k:Nat):List Int:=((List.range k).filter fun (i:Nat)=>sHas s (i:Int)).map fun (i:Nat)=>(i:Int)
theorem Zgx (s:Int):XS s 0= []:=by simp [XS]
theorem Zep {s:Int} {k:Nat} (h:sHas s (k:Int)=true):XS s (k+1)=XS s k++ [(k:Int)]:=by simp [XS,List.range_succ,List.filter_append,h]
theorem ZgP {s:Int} {k:Nat} (h:sHas s (k:Int)=false):XS s (k+1)=XS s k:=by simp [XS,List.range_succ,List.filter_append,h]
theorem Qt (s:Int) (k:Nat):(XS s k).length<=k:=by
 simp only [XS,List.length_map];exact Nat.le_trans (List.length_filter_le _ _) (by simp)
theorem JL (s:Int):ACalls Tryz.prog 91 [.p (.int .i64 s)] [] fun x H'=>x= .sl 0 0 (XS s 63).length (XS s 63).length/\H'= [.elems 1 ((XS s 63).map eI)]:=by
 refine YI (fn:=Tryz.f91) (by simp) Tryz.func91 rfl Zyi ?_;simp (disch:=omega) only [Tryz.f91,go_sem,seval];refine Zg [0] (fun k:Nat=> [(3,.sl 0 0 (XS s k).length (XS s k).length),(5,.p (.int .i64 k))]) (fun k=> [.elems 1 ((XS s k).map eI)]) (fun k=>k<=63) (fun k=>63-k) 0 (by simp) (Weak.ofNil 3 1 (by simp (disch:=omega) only [go_sem,seval]) (by simp) (Weak.mk ?_)) ?_
 ·simp (disch:=omega) only [Zgx,go_sem,seval]
 ·intro k hk;have hl:=Qt s k;simp (disch:=omega) only [go_sem,seval];refine cD ?_ ?_<;>intro h<;>simp (disch:=omega) only [Sh.out h,go_sem,seval]
  ·refine (ZbC s k).use ?_;simp (disch:=omega) only [go_sem,seval];refine cD ?_ ?_<;>intro h2<;>simp (disch:=omega) only [Sh.out h2,go_sem,seval]
   ·refine ⟨k+1,by omega,by omega,Weak.mk ?_⟩;simp (disch:=omega) only [Zep h2,go_sem,seval]
   ·exact ⟨k+1,by omega,by omega,Weak.mk (by simp (disch:=omega) only [ZgP h2,go_sem,seval])⟩
  ·have:k=63:=by omega
   subst this;exact ⟨0,by simp (disch:=omega) only [go_sem,seval]⟩
def eN (n:Nat):PV:= .int .i64 (n:Int)
@[go_sem] theorem ZEI (n:Nat):eN n= .int .i64 (n:Int):=Eq.trans rfl rfl
theorem Zkb (n:Nat) (be:List (Int×Int)) (c:Bool) (hn:n<=60) (hl:be.length<=1048576) (hv:Val n be) :
  ACalls Tryz.prog 141 [.p (.int .i64 (n:Int)),.p (.list c (be.map eP))] [] fun x H'=>x= .sl 0 0 n n/\H'= [.elems 1 ((V5 n be).map eN)]:=by
 refine YI (fn:=Tryz.f141) (by simpa using (Zb1 hv).len) Tryz.func141 rfl Zva ?_;simp (disch:=omega) only [Tryz.f141,go_sem,seval];have hp60:pw n<=pw 62:=Ze6 (by omega);have h62:=Zje;refine Zg [0,1] (fun q:List Nat×Bool=> [(5,.sl 0 0 n n),(6,.p (.bool q.2))]) (fun q=> [.elems 1 (q.1.map eN)]) (fun q=>Snd n be q.1/\(q.2=false->tot (pas q.1 be)=tot q.1)) (fun q=>2*(n*pw n-tot q.1)+(if q.2 then 1 else 0)) (List.replicate n 0,true) ⟨Snd.zero n be,by simp⟩ (Weak.mk ?_) ?_
 ·simp (disch:=omega) only [List.map_replicate,go_sem,seval]
 ·rintro ⟨out,more⟩ ⟨hs,hm⟩;simp only at hs hm;simp (disch:=omega) only [go_sem,seval];refine cD ?_ ?_<;>intro h<;>simp (disch:=omega) only [Sh.out h,go_sem,seval]
  ·have hrs: ∀i,Snd n be (pas out (be.take i)):=fun i=>hs.rnd hv _ fun p hp=>List.mem_of_mem_take hp
   have hsuc: ∀i,i<be.length->pas out (be.take (i+1))=cst (pas out (be.take i)) (nth be i):=fun i hi=>by
    rw [List.take_succ_eq_append_getElem hi,ZfB,<- Zd hi];rfl
   refine Zg [0,1,16,17] (fun i:Nat=> [(5,.sl 0 0 n n),(6,.p (.bool (decide (tot out<tot (pas out (be.take i)))))),(18,.p (.int .i64 i))]) (fun i=> [.elems 1 ((pas out (be.take i)).map eN)]) (fun i=>i<=be.length) (fun i=>be.length-i) 0 (by simp) (Weak.mk ?_) ?_
   ·simp (disch:=omega) only [pas,List.take_zero,List.foldl_nil,go_sem,seval];simp
   ·intro i hi;have hsi:=hrs i;generalize hgo:pas out (be.take i)=o at hsi ⊢;have hlo:=hsi.len;simp (disch:=omega) only [go_sem,seval];refine cD ?_ ?_<;>intro h2<;>simp (disch:=omega) only [Sh.out h2,go_sem,seval]
    ·have hib:i<be.length:=by omega
     have hvi:=hv (nth be i) (by rw [Zd hib];exact List.getElem_mem _)
     have g1: ¬(nth be i).1<0:=by omega
     have g2: ¬(nth be i).2<0:=by omega
     have g3: ¬(n:Int)<=(nth be i).1:=by omega
     have g4: ¬(n:Int)<=(nth be i).2:=by omega
     have g5:(nth be i).1.toNat<n:=by omega
     have g6:(nth be i).2.toNat<n:=by omega
     have b1:=hsi.lt _ g5;have b2:=hsi.lt _ g6;have b3:nth o (nth be i).2.toNat|||nth o (nth be i).1.toNat<pw n:=Nat.or_lt_two_pow b2 b1;have b4:pw (nth be i).1.toNat<=pw 62:=Ze6 (by omega);have hst:=ZhM o (nth be i) (by omega);have hnx:=hsuc i hib;rw [hgo] at hnx;refine Kv mixed (by kernel_rfl) ?_;simp (disch:=omega) only [hlo,g1,g2,g3,g4,go_sem,seval];refine Kv mixed (by kernel_rfl) ?_;simp (disch:=first | omega | (simp only [List.length_cons,List.length_nil,List.length_append,List.length_map,List.length_take,List.length_drop]<;>omega)) only [hlo,g5,g6,Z2,go_sem,seval]
     have htm:tot out<=tot o:=by
      have:=(QZ hv (be.take i) out (fun p hp=>List.mem_of_mem_take hp) hs).1;rwa [hgo] at this
     have hsv:o.set (nth be i).2.toNat (nth o (nth be i).2.toNat|||nth o (nth be i).1.toNat|||pw (nth be i).1.toNat)=cst o (nth be i):=rfl;refine cD ?_ ?_<;>intro h3<;>simp (disch:=omega) only [Sh.out h3,hlo,go_sem,seval]
     ·have hne: ¬cst o (nth be i)=o:=fun e=>by
       apply h3
       have e2:nth (cst o (nth be i)) (nth be i).2.toNat=nth o (nth be i).2.toNat:=by rw [e]
       rw [cst,ZaJ _ _ _ _ (by omega)] at e2;simp only [if_true] at e2;rw [e2]
      have hlt:tot out<tot (cst o (nth be i)):=by
       have h5:=hst.1;have h6:tot (cst o (nth be i))≠tot o:=fun e=>hne (hst.2 e);omega
      simp (disch:=first | omega | (simp only [List.length_cons,List.length_nil,List.length_append,List.length_map,List.length_take,List.length_drop]<;>omega)) only [hlo,g6,go_sem,seval];refine ⟨i+1,by omega,by omega,Weak.mk ?_⟩;simp (disch:=omega) only [hnx,hlt,go_sem,seval];rw [<- hsv,List.map_set]
      rfl
     ·have heq:cst o (nth be i)=o:=by
       have e:nth o (nth be i).2.toNat|||nth o (nth be i).1.toNat|||pw (nth be i).1.toNat=nth o (nth be i).2.toNat:=by simp only [Classical.not_not] at h3;exact_mod_cast h3
       rw [<- hsv,e];apply List.ext_getElem (by simp);intro k hk1 hk2;rw [List.getElem_set]
       split
       ·rename_i hk;subst hk;rw [Zd hk2]
       ·rfl
      refine ⟨i+1,by omega,by omega,Weak.mk ?_⟩;simp (disch:=omega) only [hnx,heq,go_sem,seval]
    ·have hi2:i=be.length:=by omega
     subst hi2;rw [List.take_length] at hgo;subst hgo;have hpt:=QZ hv be out (fun _ h=>h) hs;have hbd:=hsi.bound;refine ⟨(pas out be,decide (tot out<tot (pas out be))),⟨hsi,fun e=> ?_⟩,?_,Weak.mk ?_⟩
     ·simp only [decide_eq_false_iff_not] at e
      have e2:tot (pas out be)=tot out:=by have:=hpt.1;omega
      rw [(hpt.2 e2).1,e2]
     ·simp only;rw [h]
      by_cases h7:tot out<tot (pas out be)
      ·simp only [h7,decide_true,if_true];omega
      ·simp only [h7,decide_false,if_true];have:=hpt.1;simp;omega
     ·simp (disch:=omega) only [go_sem,seval]
  ·refine ⟨0,?_⟩;have:out=V5 n be:=(Zjf hv (hs.clo hv (hm h))).symm;rw [this];simp (disch:=omega) only [go_sem,seval]
def hv (s k:Nat):Nat:=s / pw k
theorem Zp3 (s k:Nat):s.testBit k=decide (hv s k%2=1):=by
 rw [Nat.testBit_eq_decide_div_mod_eq]
 rfl
theorem XB (s i:Nat) (hi:i<=62):sHas (s:Int) (i:Int)=s.testBit i:=by
 rw [Zp3,hv]
 have h1:(0:Int)<=i:=by omega
 have h2:(i:Int)<=62:=by omega
 simp only [sHas,h1,h2,decide_true,Bool.true_and,Int.toNat_natCast]
 have e:((s:Int)).fdiv (2^i)=((s / pw i:Nat):Int):=by
  have:(2:Int)^i=((pw i:Nat):Int):=by simp [pw]
  rw [this,Int.fdiv_eq_ediv_of_nonneg _ (by omega)];simp
 simp only [e];rw [Bool.eq_iff_iff];simp only [decide_eq_true_eq];omega
theorem Vz {α:Type} [Inhabited α] {l:List α} {f:α->Bool} {k:Nat} (h:k<l.length) (hf:f (nth l k)=true):l.any f=true:=by
 rw [List.any_eq_true];exact ⟨nth l k,by rw [Zd h];exact List.getElem_mem _,hf⟩
theorem Q7 {α:Type} [Inhabited α] {l:List α} {f:α->Bool} (h: ∀j,j<l.length->f (nth l j)=false):l.any f=false:=by
 rw [List.any_eq_false];intro x hx;obtain ⟨j,hj,rfl⟩:=List.mem_iff_getElem.1 hx;rw [<- Zd hj,h j hj];simp
theorem Yz {p:Nat->Prop} {k:Nat} (h: ∀j,j<k->p j) (hk:p k): ∀j,j<k+1->p j:=fun j hj=>by
 rcases Nat.lt_or_ge j k with h1 | h1
 ·exact h j h1
 ·have:j=k:=by omega
  rw [this];exact hk
theorem Zkq {s:Int} {k:Nat} {x:Int} (h:x∈XS s k):0<=x/\x<k:=by
 simp only [XS,List.mem_map,List.mem_filter,List.mem_range] at h;obtain ⟨i,⟨hi,_⟩,rfl⟩:=h;omega
noncomputable def XP (os:List Ord) (ap be:List (Int×Int)) (s:Int):Int :=
 if s<0 then 2
 else if (XS s 63).any (fun i=>decide ((os.length:Int)<=i)) then 2
 else if (XS s 63).any (fun i=>(nth os i.toNat).off) then 9
 else if ap.any (fun p=>sHas s p.1&&sHas s p.2) then 20
 else if be.any (fun p=>sHas s p.2&& !sHas s p.1) then 21
 else if (XS s 63).any (fun i=>sHas ((nth (V5 os.length be) i.toNat:Nat):Int) i) then 21
 else 0
theorem ZgC (net:Net) (tyc:Bool) (tys:List Typ) (c1 c2 c3:Bool) (os:List Ord) (ap be:List (Int×Int)) (s:Int) (hn:os.length<=60) (hla:ap.length<=1048576) (hl:be.length<=1048576) (hv:Val os.length be) :
  PC 90 [.p (ZT ⟨net,tyc,tys,c1,os,c2,ap,c3,be⟩),.p (.int .i64 s)] (.int .i64 (XP os ap be s)):=by
 have hc:=Zb1 hv;have hlen:=hc.len;have hm:=Qt s 63;refine Za Tryz.func90 rfl ZBc ?_;simp (disch:=omega) only [Tryz.f90,go_sem,seval];refine cD ?_ ?_<;>intro hs0<;>simp (disch:=omega) only [Sh.out hs0,go_sem,seval]
 ·simp [XP,hs0]
 ·refine ((JL s).frozen (by simp)).use ?_;simp (disch:=omega) only [go_sem,seval];generalize hgm:XS s 63=m at hm ⊢
  have hnn: ∀k,k<m.length->0<=nth m k/\nth m k<63:=fun k hk=>by
   have:nth m k∈XS s 63:=by rw [hgm,Zd hk];exact List.getElem_mem _
   exact_mod_cast Zkq this
  have e0: ¬s<0:=hs0;refine Zg [1,2,5,21,22] (fun k:Nat=> [(23,.p (.int .i64 k))]) (fun _=> [Ze ⟨net,tyc,tys,c1,os,c2,ap,c3,be⟩]) (fun k=>k<=m.length/\ ∀j,j<k->decide ((os.length:Int)<=nth m j)=false) (fun k=>m.length-k) 0 (by simp) (Weak.mk ?_) ?_
  ·simp (disch:=omega) only [Ze,go_sem,seval]
  ·rintro k ⟨hk,hno⟩;simp (disch:=omega) only [Ze,go_sem,seval];refine cD ?_ ?_<;>intro h<;>simp (disch:=omega) only [Sh.out h,go_sem,seval]
   ·have hk2:k<m.length:=by omega
    refine cD ?_ ?_<;>intro h4<;>simp (disch:=omega) only [Sh.out h4,go_sem,seval]
    ·have e1:m.any (fun i=>decide ((os.length:Int)<=i))=true:=Vz hk2 (by simp [h4]);simp [XP,e0,hgm,e1]
    ·exact ⟨k+1,⟨by omega,Yz hno (by simp [h4])⟩,by omega,Weak.mk (by simp (disch:=omega) only [Ze,go_sem,seval])⟩
   ·have hkm:k=m.length:=by omega
    subst hkm;have e1:m.any (fun i=>decide ((os.length:Int)<=i))=false:=Q7 hno
    have hin: ∀j,j<m.length->(nth m j).toNat<os.length:=fun j hj=>by
     have q1:=hno j hj;have q2:=hnn j hj;simp only [decide_eq_false_iff_not] at q1;omega
    clear hno hk h;refine Zg [1,2,5,33,34] (fun k:Nat=> [(35,.p (.int .i64 k))]) (fun _=> [Ze ⟨net,tyc,tys,c1,os,c2,ap,c3,be⟩]) (fun k=>k<=m.length/\ ∀j,j<k->(nth os (nth m j).toNat).off=false) (fun k=>m.length-k) 0 (by simp) (Weak.mk ?_) ?_
    ·simp (disch:=omega) only [Ze,go_sem,seval]
    ·rintro k ⟨hk,hno⟩;simp (disch:=omega) only [Ze,go_sem,seval];refine cD ?_ ?_<;>intro h<;>simp (disch:=omega) only [Sh.out h,go_sem,seval]
     ·have hk2:k<m.length:=by omega
      have g1:=hin k hk2;have g2:=hnn k hk2;simp (disch:=omega) only [Z2,go_sem,seval];refine cD ?_ ?_<;>intro h4<;>simp (disch:=omega) only [Sh.out h4,go_sem,seval]
      ·have e2:m.any (fun i=>(nth os i.toNat).off)=true:=Vz hk2 h4;simp [XP,e0,hgm,e1,e2]
      ·exact ⟨k+1,⟨by omega,Yz hno h4⟩,by omega,Weak.mk (by simp (disch:=omega) only [Ze,go_sem,seval])⟩
     ·have hkm:k=m.length:=by omega
      subst hkm;have e2:m.any (fun i=>(nth os i.toNat).off)=false:=Q7 hno;clear hno hk h;refine Zg [1,2,5,47,48] (fun k:Nat=> [(49,.p (.int .i64 k))]) (fun _=> [Ze ⟨net,tyc,tys,c1,os,c2,ap,c3,be⟩]) (fun k=>k<=ap.length/\ ∀j,j<k->(sHas s (nth ap j).1&&sHas s (nth ap j).2)=false) (fun k=>ap.length-k) 0 (by simp) (Weak.mk ?_) ?_
      ·simp (disch:=omega) only [Ze,go_sem,seval]
      ·rintro k ⟨hk,hno⟩;simp (disch:=omega) only [Ze,go_sem,seval];refine cD ?_ ?_<;>intro h<;>simp (disch:=omega) only [Sh.out h,go_sem,seval]
       ·have hk2:k<ap.length:=by omega
        refine (ZbC s (nth ap k).1).use ?_;simp (disch:=omega) only [go_sem,seval];refine gT ?_ ?_<;>intro h5<;>simp (disch:=omega) only [Sh.out h5,go_sem,seval]
        ·refine (ZbC s (nth ap k).2).use ?_;simp (disch:=omega) only [go_sem,seval];refine cD ?_ ?_<;>intro h6<;>simp (disch:=omega) only [Sh.out h6,go_sem,seval]
         ·have e3:ap.any (fun p=>sHas s p.1&&sHas s p.2)=true:=Vz hk2 (by simp [h5,h6]);simp [XP,e0,hgm,e1,e2,e3]
         ·exact ⟨k+1,⟨by omega,Yz hno (by simp [h5,h6])⟩,by omega,Weak.mk (by simp (disch:=omega) only [Ze,go_sem,seval])⟩
        ·exact ⟨k+1,⟨by omega,Yz hno (by simp [h5])⟩,by omega,Weak.mk (by simp (disch:=omega) only [Ze,go_sem,seval])⟩
       ·have hkm:k=ap.length:=by omega
        subst hkm;have e3:ap.any (fun p=>sHas s p.1&&sHas s p.2)=false:=Q7 hno;clear hno hk h;refine Zg [1,2,5,65,66] (fun k:Nat=> [(67,.p (.int .i64 k))]) (fun _=> [Ze ⟨net,tyc,tys,c1,os,c2,ap,c3,be⟩]) (fun k=>k<=be.length/\ ∀j,j<k->(sHas s (nth be j).2&& !sHas s (nth be j).1)=false) (fun k=>be.length-k) 0 (by simp) (Weak.mk ?_) ?_
        ·simp (disch:=omega) only [Ze,go_sem,seval]
        ·rintro k ⟨hk,hno⟩;simp (disch:=omega) only [Ze,go_sem,seval];refine cD ?_ ?_<;>intro h<;>simp (disch:=omega) only [Sh.out h,go_sem,seval]
         ·have hk2:k<be.length:=by omega
          refine (ZbC s (nth be k).2).use ?_;simp (disch:=omega) only [go_sem,seval];refine gT ?_ ?_<;>intro h5<;>simp (disch:=omega) only [Sh.out h5,go_sem,seval]
          ·refine (ZbC s (nth be k).1).use ?_;simp (disch:=omega) only [go_sem,seval];refine cD ?_ ?_<;>intro h6<;>simp (disch:=omega) only [Sh.out h6,go_sem,seval]
           ·have e4:be.any (fun p=>sHas s p.2&& !sHas s p.1)=true:=Vz hk2 (by simp [h5,h6]);simp [XP,e0,hgm,e1,e2,e3,e4]
           ·exact ⟨k+1,⟨by omega,Yz hno (by simp [h5,h6])⟩,by omega,Weak.mk (by simp (disch:=omega) only [Ze,go_sem,seval])⟩
          ·exact ⟨k+1,⟨by omega,Yz hno (by simp [h5])⟩,by omega,Weak.mk (by simp (disch:=omega) only [Ze,go_sem,seval])⟩
         ·have hkm:k=be.length:=by omega
          subst hkm;have e4:be.any (fun p=>sHas s p.2&& !sHas s p.1)=false:=Q7 hno;clear hno hk h;refine ((Zkb os.length be c3 hn hl hv).frozen (by simpa using hlen)).use ?_;simp (disch:=omega) only [go_sem,seval];refine Zg [5,14,89,90] (fun k:Nat=> [(91,.p (.int .i64 k))]) (fun _=> [Ze ⟨net,tyc,tys,c1,os,c2,ap,c3,be⟩]) (fun k=>k<=m.length/\ ∀j,j<k->sHas ((nth (V5 os.length be) (nth m j).toNat:Nat):Int) (nth m j)=false) (fun k=>m.length-k) 0 (by simp) (Weak.mk ?_) ?_
          ·simp (disch:=omega) only [Ze,go_sem,seval]
          ·rintro k ⟨hk,hno⟩;simp (disch:=omega) only [Ze,go_sem,seval];refine cD ?_ ?_<;>intro h<;>simp (disch:=omega) only [Sh.out h,go_sem,seval]
           ·have hk2:k<m.length:=by omega
            have g1:=hin k hk2;have g2:=hnn k hk2;simp (disch:=omega) only [hlen,Z2,go_sem,seval];refine (ZbC ((nth (V5 os.length be) (nth m k).toNat:Nat):Int) (nth m k)).use ?_;simp (disch:=omega) only [go_sem,seval];refine cD ?_ ?_<;>intro h6<;>simp (disch:=omega) only [Sh.out h6,go_sem,seval]
            ·have e5:m.any (fun i=>sHas ((nth (V5 os.length be) i.toNat:Nat):Int) i)=true:=Vz hk2 h6;simp [XP,e0,hgm,e1,e2,e3,e4,e5]
            ·exact ⟨k+1,⟨by omega,Yz hno h6⟩,by omega,Weak.mk (by simp (disch:=omega) only [Ze,go_sem,seval])⟩
           ·have hkm:k=m.length:=by omega
            subst hkm;have e5:m.any (fun i=>sHas ((nth (V5 os.length be) i.toNat:Nat):Int) i)=false:=Q7 hno;simp [XP,e0,hgm,e1,e2,e3,e4,e5]
deriving instance DecidableEq for Vis
theorem Ks {v w:Vis} :v=w↔v.order=w.order/\v.drp=w.drp:=by cases v;cases w;simp
def fIx (f:Vis->Bool) (l:List Vis):Int:=match l.findIdx? f with | some i=>(i:Int) | none=> -1
def vIx (l:List Vis) (v:Vis):Int:=fIx (fun w=>decide (v=w)) l
theorem ZhQ {f:Vis->Bool} {l:List Vis} {k:Nat} (hk:k<l.length) (h:f (nth l k)=true) (hno: ∀j,j<k->f (nth l j)=false):fIx f l=(k:Int):=by
 have:l.findIdx? f=some k:=by
  rw [List.findIdx?_eq_some_iff_getElem];refine ⟨hk,by rw [<- Zd hk];exact h,fun j hj=> ?_⟩;have h2:=hno j hj;rw [Zd (by omega)] at h2;simpa using h2
 simp [fIx,this]
theorem Zlg {f:Vis->Bool} {l:List Vis} (hno: ∀j,j<l.length->f (nth l j)=false):fIx f l= -1:=by
 have:l.findIdx? f=none:=by
  rw [List.findIdx?_eq_none_iff];intro x hx;obtain ⟨j,hj,rfl⟩:=List.mem_iff_getElem.1 hx;rw [<- Zd hj];exact hno j hj
 simp [fIx,this]
theorem Zic {f:Vis->Bool} {l:List Vis} :decide (0<=fIx f l)=l.any f:=by
 unfold fIx
 cases h:l.findIdx? f with
 | none =>
  rw [List.findIdx?_eq_none_iff] at h
  have:l.any f=false:=by rw [List.any_eq_false];intro x hx;simp [h x hx]
  simp [this]
 | some i =>
  rw [List.findIdx?_eq_some_iff_getElem] at h;obtain ⟨h1,h2,_⟩:=h
  have:l.any f=true:=by rw [List.any_eq_true];exact ⟨l[i],List.getElem_mem _,h2⟩
  simp [this]
theorem Zlc {f:Vis->Bool} {l:List Vis} :fIx f l<l.length/\ -1<=fIx f l:=by
 unfold fIx
 cases h:l.findIdx? f with
 | none=>simp;omega
 | some i =>
  rw [List.findIdx?_eq_some_iff_getElem] at h;obtain ⟨h1,_⟩:=h;simp;omega
theorem Ziq (l:List Vis) (c:Bool) (v:Vis) (hl:l.length<=1048576):PC 233 [.p (.list c (l.map Xi)),.p (Xi v)] (.int .i64 (vIx l v)):=by
 refine Za Tryz.func233 rfl Zq7 ?_;simp (disch:=omega) only [Tryz.f233,go_sem,seval];refine Zg [0,3,7] (fun k:Nat=> [(8,.p (.int .i64 k))]) (fun _=> [.cells [.p (.int .i64 v.order),.p (.bool v.drp)]]) (fun k=>k<=l.length/\ ∀j,j<k->decide (v=nth l j)=false) (fun k=>l.length-k) 0 (by simp) (Weak.mk ?_) ?_
 ·simp (disch:=omega) only [go_sem,seval]
 ·rintro k ⟨hk,hno⟩;simp (disch:=omega) only [go_sem,seval];refine cD ?_ ?_<;>intro h<;>simp (disch:=omega) only [Sh.out h,go_sem,seval]
  ·have hk2:k<l.length:=by omega
   refine Zh mixed (by kernel_rfl) (by kernel_rfl) ?_;simp (disch:=omega) only [go_sem,seval];refine cD ?_ ?_<;>intro h2<;>simp (disch:=omega) only [Sh.out h2,go_sem,seval]
   ·have:v=nth l k:=by simpa [Ks] using h2
    rw [vIx,ZhQ hk2 (by simpa using this) hno]
   ·have: ¬v=nth l k:=by simpa [Ks] using h2
    exact ⟨k+1,⟨by omega,Zl.2 ⟨hno,by simpa using this⟩⟩,by omega,wk⟩
  ·have hkl:k=l.length:=by omega
   subst hkl;rw [vIx,Zlg hno]
theorem Jf (l:List Vis) (c:Bool) (v:Vis) (hl:l.length<=1048576):PC 203 [.p (.list c (l.map Xi)),.p (Xi v)] (.int .i64 (vIx l v)):=by
 refine Za Tryz.func203 rfl Zrc ?_;simp (disch:=omega) only [Tryz.f203,go_sem,seval];refine (Ziq l c v hl).use ?_;simp (disch:=omega) only [go_sem,seval]
theorem Zby (l:List Vis) (c:Bool) (v:Vis) (hl:l.length<=1048576):PC 204 [.p (.list c (l.map Xi)),.p (Xi v)] (.bool (decide (0<=vIx l v))):=by
 refine Za Tryz.func204 rfl Ztl ?_;simp (disch:=omega) only [Tryz.f204,go_sem,seval];refine (Ziq l c v hl).use ?_;simp (disch:=omega) only [go_sem,seval]
theorem ZmR (l:List Ord) (c:Bool) (n:Int) (hl:l.length<=1048576):PC 142 [.p (.list c (l.map Vt)),.p (.int .i64 n)] (.bool (decide (0<=n/\n<l.length))):=by
 refine Za Tryz.func142 rfl Zln ?_;simp (disch:=omega) only [Tryz.f142,go_sem,seval];refine gT ?_ ?_<;>intro h<;>simp (disch:=omega) only [Sh.out h,go_sem,seval]
 all_goals (try simp [h])
def Z9 (l:List Ord) (i:Nat):List Vis:=(if 0<=(nth l i).pick.place then [⟨i,false⟩] else [])++(if 0<=(nth l i).drp.place then [⟨i,true⟩] else [])
theorem YM (l:List Ord) (i:Nat):(Z9 l i).length<=2:=by unfold Z9;split<;>split<;>simp
theorem Xc {l:List Ord} {i:Nat} {v:Vis} (h:v∈Z9 l i):v.order=i:=by
 unfold Z9 at h;rcases List.mem_append.1 h with h | h<;>(split at h<;>simp at h;subst h;rfl)
theorem ZeZ (l:List Ord) (c:Bool) (i:Nat) (hi:i<l.length) (hl:l.length<=1048576):ACalls Tryz.prog 92 [.p (.list c (l.map Vt)),.p (.int .i64 (i:Nat))] [] fun x H'=>x= .sl 0 0 (Z9 l i).length (Z9 l i).length/\H'= [.elems 2 ((Z9 l i).map Xi)]:=by
 suffices hh:ACalls Tryz.prog 92 [.p (.list c (l.map Vt)),.p (.int .i64 (i:Nat))] [] fun x H'=> ∃m:List Vis,m=Z9 l i/\x= .sl 0 0 m.length m.length/\H'= [.elems 2 (m.map Xi)] by
  refine hh.mono ?_;rintro x H' ⟨m,rfl,h1,h2⟩;exact ⟨h1,h2⟩
 refine Zz [2] Tryz.func92 rfl Zy1 ?_;simp (disch:=omega) only [Tryz.f92,go_sem,seval];refine Zm (Weak.ofNil 5 2 (by simp (disch:=omega) only [go_sem,seval]) (by simp) (Weak.refl _ _ _)) ?_;refine Zb [4] _ _ _ _ ?_;simp (disch:=omega) only [go_sem,seval];refine (ZmR l c i hl).use ?_;simp (disch:=omega) only [go_sem,seval]
 have h0:(0:Int)<=(i:Int)/\(i:Int)<(l.length:Int):=by omega
 simp (disch:=omega) only [h0,go_sem,seval];refine Zo [0,1] (fun m:List Vis=> [(5,.sl 0 0 m.length m.length)]) (fun m=> [.elems 2 (m.map Xi)]) (fun m=>m=(if 0<=(nth l i).pick.place then [⟨i,false⟩] else [])) ?_ ?_
 ·simp (disch:=omega) only [go_sem,seval];refine cD ?_ ?_<;>intro h<;>simp (disch:=omega) only [Sh.out h,go_sem,seval]
  ·exact ⟨[⟨i,false⟩],by simp [h],wk⟩
  ·exact ⟨[],by simp [h],wk⟩
 ·intro m hm
  have hml:m.length<=1:=by rw [hm];split<;>simp
  refine Zb [] _ _ _ _ ?_;simp (disch:=omega) only [go_sem,seval];refine cD ?_ ?_<;>intro h<;>simp (disch:=omega) only [Sh.out h,go_sem,seval]
  ·exact ⟨m++ [⟨i,true⟩],by rw [Z9,hm,if_pos h],0,by simp (disch:=omega) only [go_sem,seval]⟩
  ·exact ⟨m,by rw [Z9,hm,if_neg h,List.append_nil],0,by simp (disch:=omega) only [go_sem,seval]⟩
theorem visits_c (l:List Ord) (c:Bool) (i:Nat) (hi:i<l.length) (hl:l.length<=1048576):PC 92 [.p (.list c (l.map Vt)),.p (.int .i64 (i:Nat))] (.list false ((Z9 l i).map Xi)) :=
 (ZeZ l c i hi hl).frozen (by simp)
def UV (l:List Vis):Bool:=(List.range l.length).any fun i=>decide (0<=vIx (l.take i) (nth l i))
theorem Zot (l:List Vis) (c:Bool) (hl:l.length<=1048576):PC 165 [.p (.list c (l.map Xi))] (.bool (UV l)):=by
 refine Za Tryz.func165 rfl Zus ?_;simp (disch:=omega) only [Tryz.f165,go_sem,seval];refine Zg [0,5,6] (fun k:Nat=> [(7,.p (.int .i64 k))]) (fun _=> []) (fun k=>k<=l.length/\ ∀j,j<k->decide (0<=vIx (l.take j) (nth l j))=false) (fun k=>l.length-k) 0 (by simp) (Weak.mk ?_) ?_
 ·simp (disch:=omega) only [go_sem,seval]
 ·rintro k ⟨hk,hno⟩;simp (disch:=omega) only [go_sem,seval];refine cD ?_ ?_<;>intro h<;>simp (disch:=omega) only [Sh.out h,go_sem,seval]
  ·have hk2:k<l.length:=by omega
   refine Zh mixed (by kernel_rfl) (by kernel_rfl) ?_;simp (disch:=omega) only [go_sem,seval];refine Zk (Jf (l.take k) _ (nth l k) (by simp;omega)) ?_;simp (disch:=omega) only [go_sem,seval];refine cD ?_ ?_<;>intro h2<;>simp (disch:=omega) only [Sh.out h2,go_sem,seval]
   ·have:UV l=true:=by rw [UV,List.any_eq_true];exact ⟨k,by simpa using hk2,by simpa using h2⟩
    rw [this]
   ·exact ⟨k+1,⟨by omega,Zl.2 ⟨hno,by simpa using h2⟩⟩,by omega,wk⟩
  ·have hkl:k=l.length:=by omega
   subst hkl
   have:UV l=false:=by rw [UV,List.any_eq_false];intro j hj;simpa using hno j (by simpa using hj)
   rw [this]
theorem Jj (l:List Vis) (c:Bool) (g:FuncId) (caps:List V) (H:List AM.Obj) (f:Vis->Bool) (hl:l.length<=1048576) (hW:wkH H H.length H H) (hc:ZR H.length caps=true)
  (hg: ∀v∈l,ACalls Tryz.prog g (.p (Xi v)::caps) H fun x H'=>x= .p (.bool (f v))/\H'=H) :
  ACalls Tryz.prog 202 [.p (.list c (l.map Xi)),.fn (.func g) [] caps] H fun x H'=>x= .p (.int .i64 (fIx f l))/\H'=H:=by
 refine Xh Tryz.func202 rfl Zun (Zb [] _ _ _ _ ?_);simp (disch:=omega) only [Tryz.f202,go_sem,seval];refine Zg [0,1,7] (fun k:Nat=> [(8,.p (.int .i64 k))]) (fun _=>H) (fun k=>k<=l.length/\ ∀j,j<k->f (nth l j)=false) (fun k=>l.length-k) 0 (by simp) (Weak.mk ?_) ?_
 ·simp (disch:=omega) only [hW,hc,go_sem,seval];simp
 ·rintro k ⟨hk,hno⟩;simp (disch:=omega) only [go_sem,seval];refine cD ?_ ?_<;>intro h<;>simp (disch:=omega) only [Sh.out h,go_sem,seval]
  ·have hk2:k<l.length:=by omega
   refine (hg (nth l k) (ZC hk2)).useH ?_;simp (disch:=omega) only [go_sem,seval];refine cD ?_ ?_<;>intro h2<;>simp (disch:=omega) only [Sh.out h2,go_sem,seval]
   ·rw [ZhQ hk2 h2 hno]
   ·have h3:f (nth l k)=false:=by simpa using h2
    refine ⟨k+1,⟨by omega,Zl.2 ⟨hno,h3⟩⟩,by omega,Weak.mk ?_⟩;simp (disch:=omega) only [hW,hc,go_sem,seval];simp
  ·have hkl:k=l.length:=by omega
   subst hkl;rw [Zlg hno]
theorem Y0 (l:List Vis) (c:Bool) (g:FuncId) (caps:List V) (H:List AM.Obj) (f:Vis->Bool) (hl:l.length<=1048576) (hW:wkH H H.length H H) (hc:ZR H.length caps=true)
  (hg: ∀v∈l,ACalls Tryz.prog g (.p (Xi v)::caps) H fun x H'=>x= .p (.bool (f v))/\H'=H) :
  ACalls Tryz.prog 162 [.p (.list c (l.map Xi)),.fn (.func g) [] caps] H fun x H'=>x= .p (.bool (l.any f))/\H'=H:=by
 refine Xh Tryz.func162 rfl Zu8 (Zb [] _ _ _ _ ?_);simp (disch:=omega) only [Tryz.f162,go_sem,seval];refine (Jj l c g caps H f hl hW hc hg).useH ?_;simp (disch:=omega) only [go_sem,seval];rw [Zic]
def hasO (l:List Vis) (o:Int):Bool:=l.any fun v=>decide (v.order=o)
theorem Zug (v:Vis) (o:Int):ACalls Tryz.prog 205 [.p (Xi v),.ptr 0 0] [.cells [.p (.int .i64 o)]] fun x H'=>x= .p (.bool (decide (v.order=o)))/\H'= [.cells [.p (.int .i64 o)]]:=by
 refine Zc [] Tryz.func205 rfl ZqI ?_;simp (disch:=omega) only [Tryz.f205,go_sem,seval];exact we
theorem Zin (v:Vis) (o:Int):ACalls Tryz.prog 206 [.p (Xi v),.ptr 0 0] [.cells [.p (.int .i64 o)]] fun x H'=>x= .p (.bool (decide (v.order=o)))/\H'= [.cells [.p (.int .i64 o)]]:=by
 refine Zc [] Tryz.func206 rfl Zu3 ?_;simp (disch:=omega) only [Tryz.f206,go_sem,seval];exact we
theorem Ql (l:List Vis) (c:Bool) (o:Int) (hl:l.length<=1048576):PC 167 [.p (.list c (l.map Xi)),.p (.int .i64 o)] (.bool (hasO l o)):=by
 refine Za Tryz.func167 rfl Zsg ?_;simp (disch:=omega) only [Tryz.f167,go_sem,seval];refine (Y0 l c 205 [.ptr 0 0] [.cells [.p (.int .i64 o)]] (fun v=>decide (v.order=o)) hl (by simp (disch:=omega) only [go_sem,seval]) (by rfl) (fun v _=>Zug v o)).useH ?_;simp (disch:=omega) only [go_sem,seval];rw [hasO]
def beforeB (l:List Vis) (a b:Int):Bool:=if fIx (fun v=>decide (v.order=b)) l<0 then true else hasO l a&& !hasO (l.drop (fIx (fun v=>decide (v.order=b)) l).toNat) a
theorem Zc9 (l:List Vis) (c:Bool) (a b:Int) (hl:l.length<=1048576):PC 168 [.p (.list c (l.map Xi)),.p (.int .i64 a),.p (.int .i64 b)] (.bool (beforeB l a b)):=by
 refine Za Tryz.func168 rfl ZtU ?_;simp (disch:=omega) only [Tryz.f168,go_sem,seval];refine (Jj l c 206 [.ptr 0 0] [.cells [.p (.int .i64 b)]] (fun v=>decide (v.order=b)) hl (by simp (disch:=omega) only [go_sem,seval]) (by rfl) (fun v _=>Zin v b)).useH ?_;have hlt:=Zlc (f:=fun v=>decide (v.order=b)) (l:=l);simp (disch:=omega) only [go_sem,seval];refine cD ?_ ?_<;>intro h<;>simp (disch:=omega) only [Sh.out h,go_sem,seval]
 ·rw [beforeB,if_pos h]
 ·refine (Ql l c a hl).use ?_;simp (disch:=omega) only [go_sem,seval];generalize hq:fIx (fun v=>decide (v.order=b)) l=q at hlt h ⊢
  cases h2:hasO l a with
  | false =>
   simp (disch:=omega) only [go_sem,seval];rw [beforeB,hq,if_neg h,h2];rfl
  | true =>
   simp (disch:=omega) only [List.take_length,go_sem,seval];refine (Ql (l.drop q.toNat) _ a (by simp;omega)).use ?_;simp (disch:=omega) only [go_sem,seval];rw [beforeB,hq,if_neg h,h2];rfl
def Za4 (l:List Vis):Int->List Vis->Bool
 | _,[]=>true
 | last,w::r=>decide (last<vIx l w)&&Za4 l (vIx l w) r
def pairB (os:List Ord) (l:List Vis) (v:Vis):Bool:=decide (0<=vIx (Z9 os v.order.toNat) v)&&Za4 l (-1) (Z9 os v.order.toNat)
theorem Zdt (x:Inst) (l:List Vis) (c:Bool) (hl:l.length<=1048576) (ho:x.orders.length<=1048576) (hv: ∀v∈l,0<=v.order/\v.order<x.orders.length) :
  PC 166 [.p (ZT x),.p (.list c (l.map Xi))] (.bool (l.all (pairB x.orders l))):=by
 refine Za Tryz.func166 rfl Zrq ?_;simp (disch:=omega) only [Tryz.f166,go_sem,seval];refine Zg [1,2,12,13] (fun k:Nat=> [(14,.p (.int .i64 k))]) (fun _=> [Ze x]) (fun k=>k<=l.length/\ ∀j,j<k->pairB x.orders l (nth l j)=true) (fun k=>l.length-k) 0 (by simp) (Weak.mk ?_) ?_
 ·simp (disch:=omega) only [Ze,go_sem,seval]
 ·rintro k ⟨hk,hno⟩;simp (disch:=omega) only [Ze,go_sem,seval];refine cD ?_ ?_<;>intro h<;>simp (disch:=omega) only [Sh.out h,go_sem,seval]
  ·have hk2:k<l.length:=by omega
   obtain ⟨v1,v2⟩:=hv _ (ZC hk2)
   have hbad:pairB x.orders l (nth l k)=false->l.all (pairB x.orders l)=false:=fun h4=>by
    rw [List.all_eq_false];exact ⟨nth l k,ZC hk2,by rw [h4];simp⟩
   obtain ⟨i,hi⟩: ∃i:Nat,(nth l k).order=(i:Int):=⟨(nth l k).order.toNat,by omega⟩
   have hp:pairB x.orders l (nth l k)=(decide (0<=vIx (Z9 x.orders i) (nth l k))&&Za4 l (-1) (Z9 x.orders i)):=by rw [pairB,hi];rfl
   rw [hi] at v1 v2;simp (disch:=omega) only [hi,go_sem,seval];refine (visits_c x.orders x.orders_c i (by omega) ho).use ?_;simp (disch:=omega) only [go_sem,seval];have hvl:=YM x.orders i;have hcon:=Zby (Z9 x.orders i) false (nth l k) (by omega);rw [ZnV,hi] at hcon;refine (hcon).use ?_;simp (disch:=omega) only [go_sem,seval];refine cD ?_ ?_<;>intro h2<;>simp (disch:=omega) only [Sh.out h2,go_sem,seval]
   ·rw [hbad (by rw [hp];simp;intro h3;omega)]
   ·have h2':0<=vIx (Z9 x.orders i) (nth l k):=by omega
    generalize hown:Z9 x.orders i=own at hvl hp h2' ⊢
    have hp2:pairB x.orders l (nth l k)=Za4 l (-1) own:=by rw [hp];simp [h2']
    refine Zg [1,2,12,13,14,27,28] (fun q:Nat×Int=> [(8,.p (.int .i64 q.2)),(29,.p (.int .i64 q.1))]) (fun _=> [Ze x,.cells [.p (.int .i64 (i:Int)),.p (.bool (nth l k).drp)]]) (fun q=>q.1<=own.length/\Za4 l (-1) own=Za4 l q.2 (own.drop q.1)) (fun q=>own.length-q.1) (0,-1) (by simp) (Weak.mk ?_) ?_
    ·simp (disch:=omega) only [Ze,go_sem,seval]
    ·rintro ⟨j,last⟩ ⟨hj,ha⟩;simp only at hj ha;simp (disch:=omega) only [Ze,go_sem,seval];refine cD ?_ ?_<;>intro h3<;>simp (disch:=omega) only [Sh.out h3,go_sem,seval]
     ·have hj2:j<own.length:=by omega
      have hd:own.drop j=nth own j::own.drop (j+1):=by rw [List.drop_eq_getElem_cons hj2,Zd hj2]
      rw [hd] at ha;refine (Jf l c (nth own j) hl).use ?_;simp (disch:=omega) only [go_sem,seval];refine cD ?_ ?_<;>intro h4<;>simp (disch:=omega) only [Sh.out h4,go_sem,seval]
      ·rw [hbad (by rw [hp2,ha,Za4];simp;intro h5;omega)]
      ·have h5:last<vIx l (nth own j):=by omega
       exact ⟨(j+1,vIx l (nth own j)),⟨by simp only;omega,by rw [ha,Za4];simp [h5]⟩,by simp only;omega,Weak.mk (by simp (disch:=omega) only [Ze,go_sem,seval])⟩
     ·have hjl:j=own.length:=by omega
      subst hjl;exact ⟨k+1,⟨by omega,Zl.2 ⟨hno,by rw [hp2,ha];simp [Za4]⟩⟩,by omega,Weak.mk (by simp (disch:=omega) only [Ze,go_sem,seval])⟩
  ·have hkl:k=l.length:=by omega
   subst hkl
   have:l.all (pairB x.orders l)=true:=by
    rw [List.all_eq_true];intro v hv;obtain ⟨j,hj,rfl⟩:=List.mem_iff_getElem.1 hv;rw [<- Zd hj];exact hno j hj
   rw [this]
def Xd (r:Rte):AM.Obj:= .cells [.p (.int .i64 r.typ),.p (.int .i64 r.start),.p (.list r.rests_c (r.rests.map eB)),.p (.list r.visits_c (r.visits.map Xi))]
def ZbN (x:Inst) (v:Vis):Bool:= !decide (0<=v.order/\v.order<(x.orders.length:Int))
theorem ZjR (x:Inst) (r:Rte) (v:Vis) (ho:x.orders.length<=1048576):ACalls Tryz.prog 163 [.p (Xi v),.ptr 0 0] [Ze x,Xd r] fun y H'=>y= .p (.bool (ZbN x v))/\H'= [Ze x,Xd r]:=by
 refine Zc [] Tryz.func163 rfl ZqK ?_;simp (disch:=omega) only [Tryz.f163,Ze,Xd,go_sem,seval];refine gF ?_ ?_<;>intro h<;>simp (disch:=omega) only [Sh.out h,go_sem,seval]
 ·have e:ZbN x v=true:=by
   have: ¬(0<=v.order):=by omega
   simp [ZbN,this]
  rw [e];exact we (by simp (disch:=omega) only [Ze,Xd,go_sem,seval])
 ·have e:ZbN x v=decide ((x.orders.length:Int)<=v.order):=by
   have h0:0<=v.order:=by omega
   rw [Bool.eq_iff_iff];simp [ZbN,h0]
  rw [e];exact we (by simp (disch:=omega) only [Ze,Xd,go_sem,seval])
theorem ZjX (x:Inst) (r:Rte) (v:Vis) (ho:x.orders.length<=1048576) (h1:0<=v.order) (h2:v.order<x.orders.length):ACalls Tryz.prog 164 [.p (Xi v),.ptr 0 0] [Ze x,Xd r] fun y H'=>y= .p (.bool (nth x.orders v.order.toNat).off)/\H'= [Ze x,Xd r]:=by
 have h3:v.order.toNat<x.orders.length:=by omega
 refine Zc [] Tryz.func164 rfl ZqA ?_;simp (disch:=omega) only [Tryz.f164,Ze,Xd,Z2,go_sem,seval];exact we (by simp (disch:=omega) only [Ze,Xd,go_sem,seval])
def Xm (x:Inst) (l:List Vis):Int :=
 if l.length=0\/l.any (ZbN x)=true then 2
 else if (l.any fun v=>(nth x.orders v.order.toNat).off)=true then 9
 else if UV l=true then 6
 else if l.all (pairB x.orders l)=false then 19
 else if (x.apart.any fun p=>hasO l p.1&&hasO l p.2)=true then 20
 else if (x.before.any fun p=> !beforeB l p.1 p.2)=true then 21
 else 0
theorem ZeX (x:Inst) (r:Rte) (ho:x.orders.length<=1048576) (hl:r.visits.length<=1048576) (hap:x.apart.length<=1048576) (hbe:x.before.length<=1048576) :
  PC 99 [.p (ZT x),.p (eRte r)] (.int .i64 (Xm x r.visits)):=by
 refine Za Tryz.func99 rfl ZzL ?_;simp (disch:=omega) only [Tryz.f99,go_sem,seval];refine gF ?_ ?_<;>intro h0<;>simp (disch:=omega) only [Sh.out h0,go_sem,seval]
 ·have:r.visits.length=0:=by omega
  simp [Xm,this]
 ·have h00: ¬r.visits.length=0:=by omega
  refine (Y0 r.visits r.visits_c 163 [.ptr 0 0] [Ze x,Xd r] (ZbN x) hl (by simp (disch:=omega) only [Ze,Xd,go_sem,seval]) (by rfl) (fun v _=>ZjR x r v ho)).useH ?_;simp (disch:=omega) only [Ze,Xd,go_sem,seval];refine cD ?_ ?_<;>intro h1<;>simp (disch:=omega) only [Sh.out h1,go_sem,seval]
  ·rw [Xm,if_pos (.inr h1)]
  ·have h1':r.visits.any (ZbN x)=false:=by simpa using h1
   have c1: ¬(r.visits.length=0\/r.visits.any (ZbN x)=true):=by rw [h1'];simp;simpa using h00
   have hin: ∀v∈r.visits,0<=v.order/\v.order<x.orders.length:=fun v hv=>by
    rw [List.any_eq_false] at h1';simpa [ZbN] using h1' v hv
   refine (Y0 r.visits r.visits_c 164 [.ptr 0 0] [Ze x,Xd r] (fun v=>(nth x.orders v.order.toNat).off) hl (by simp (disch:=omega) only [Ze,Xd,go_sem,seval]) (by rfl) (fun v hv=>ZjX x r v ho (hin v hv).1 (hin v hv).2)).useH ?_;simp (disch:=omega) only [Ze,Xd,go_sem,seval];refine cD ?_ ?_<;>intro h2<;>simp (disch:=omega) only [Sh.out h2,go_sem,seval]
   ·rw [Xm,if_neg c1,if_pos h2]
   ·refine (Zot r.visits r.visits_c hl).use ?_;simp (disch:=omega) only [go_sem,seval];refine cD ?_ ?_<;>intro h3<;>simp (disch:=omega) only [Sh.out h3,go_sem,seval]
    ·rw [Xm,if_neg c1,if_neg (by simpa using h2),if_pos h3]
    ·refine (Zdt x r.visits r.visits_c hl ho hin).use ?_;simp (disch:=omega) only [go_sem,seval];refine cD ?_ ?_<;>intro h4<;>simp (disch:=omega) only [Sh.out h4,go_sem,seval]
     ·have h4':r.visits.all (pairB x.orders r.visits)=false:=by simpa using h4
      rw [Xm,if_neg c1,if_neg (by simpa using h2),if_neg (by simpa using h3),if_pos h4']
     ·have h4':r.visits.all (pairB x.orders r.visits)=true:=by simpa using h4
      have hc:Xm x r.visits=if (x.apart.any fun p=>hasO r.visits p.1&&hasO r.visits p.2)=true then 20 else if (x.before.any fun p=> !beforeB r.visits p.1 p.2)=true then 21 else 0:=by
       rw [Xm,if_neg c1,if_neg (by simpa using h2),if_neg (by simpa using h3),if_neg (by rw [h4'];simp)]
      clear h4 h4' h3 h2 c1 h1' h1 h0;refine Zg [2,5,33,34] (fun k:Nat=> [(35,.p (.int .i64 k))]) (fun _=> [Ze x,Xd r]) (fun k=>k<=x.apart.length/\ ∀j,j<k->(hasO r.visits (nth x.apart j).1&&hasO r.visits (nth x.apart j).2)=false) (fun k=>x.apart.length-k) 0 (by simp) (Weak.mk ?_) ?_
      ·simp (disch:=omega) only [Ze,Xd,go_sem,seval]
      ·rintro k ⟨hk,hno⟩;simp (disch:=omega) only [Ze,Xd,go_sem,seval];refine cD ?_ ?_<;>intro h<;>simp (disch:=omega) only [Sh.out h,go_sem,seval]
       ·have hk2:k<x.apart.length:=by omega
        refine (Ql r.visits r.visits_c (nth x.apart k).1 hl).use ?_;simp (disch:=omega) only [go_sem,seval];refine gT ?_ ?_<;>intro h2<;>simp (disch:=omega) only [Sh.out h2,go_sem,seval]
        ·refine (Ql r.visits r.visits_c (nth x.apart k).2 hl).use ?_;simp (disch:=omega) only [go_sem,seval];refine cD ?_ ?_<;>intro h3<;>simp (disch:=omega) only [Sh.out h3,go_sem,seval]
         ·rw [hc,if_pos (Vz hk2 (by rw [h2,h3];rfl))]
         ·exact ⟨k+1,⟨by omega,Zl.2 ⟨hno,by simp [h2];simpa using h3⟩⟩,by omega,Weak.mk (by simp (disch:=omega) only [Ze,Xd,go_sem,seval])⟩
        ·exact ⟨k+1,⟨by omega,Zl.2 ⟨hno,by simp [h2]⟩⟩,by omega,Weak.mk (by simp (disch:=omega) only [Ze,Xd,go_sem,seval])⟩
       ·have hkl:k=x.apart.length:=by omega
        subst hkl;rw [hc,Q7 hno];clear hno hk h hc;rw [if_neg (by simp)];refine Zg [5,51,52] (fun k:Nat=> [(53,.p (.int .i64 k))]) (fun _=> [Ze x,Xd r]) (fun k=>k<=x.before.length/\ ∀j,j<k->(!beforeB r.visits (nth x.before j).1 (nth x.before j).2)=false) (fun k=>x.before.length-k) 0 (by simp) (Weak.mk ?_) ?_
        ·simp (disch:=omega) only [Ze,Xd,go_sem,seval]
        ·rintro k ⟨hk,hno⟩;simp (disch:=omega) only [Ze,Xd,go_sem,seval];refine cD ?_ ?_<;>intro h<;>simp (disch:=omega) only [Sh.out h,go_sem,seval]
         ·have hk2:k<x.before.length:=by omega
          refine (Zc9 r.visits r.visits_c (nth x.before k).1 (nth x.before k).2 hl).use ?_;simp (disch:=omega) only [go_sem,seval];refine cD ?_ ?_<;>intro h2<;>simp (disch:=omega) only [Sh.out h2,go_sem,seval]
          ·have h3:(!beforeB r.visits (nth x.before k).1 (nth x.before k).2)=true:=by simpa using h2
           rw [if_pos (Vz hk2 h3)]
          ·have h3:(!beforeB r.visits (nth x.before k).1 (nth x.before k).2)=false:=by simpa using h2
           exact ⟨k+1,⟨by omega,Zl.2 ⟨hno,h3⟩⟩,by omega,Weak.mk (by simp (disch:=omega) only [Ze,Xd,go_sem,seval])⟩
         ·have hkl:k=x.before.length:=by omega
          subst hkl;rw [Q7 hno]
          rfl
@[go_sem] theorem Zxt {H:List AM.Obj} {n cs cs'} :wkV H n (.tup cs) (.tup cs')=(cs'=cs/\ZR n cs=true):=by simp [wkV,frz,refB]
@[go_sem] theorem Zfj {a b:V} :Vc [a,b]= .tup [a,b]:=Eq.trans rfl rfl
theorem ZcP {g:FuncId} {args:List V} {a b:PV} {H:List AM.Obj} {K:V->List AM.Obj->Prop} (h:ACalls Tryz.prog g args [] fun x H'=>x= .tup [.p a,.p b]/\H'= []) (k:K (.tup [.p a,.p b]) H) (ha:ZR 0 args=true:=by rfl):ACalls Tryz.prog g args H K :=
 (h.behind ha H).mono fun x H' hq=>by
  obtain ⟨y,H1,⟨rfl,rfl⟩,rfl,rfl⟩:=hq;simpa [shV,shVs] using k
def XA (l:List Vis):Nat:=l.foldl (fun s v=>s|||pw v.order.toNat) 0
def inS (v:Vis):Bool:=decide (0<=v.order/\v.order<=62)
theorem Zbh {l:List Vis} {k:Nat} (hk:k<l.length):XA (l.take (k+1))=XA (l.take k)|||pw (nth l k).order.toNat:=by
 rw [List.take_succ_eq_append_getElem hk,XA,List.foldl_append,Zd hk];rfl
theorem ZcW : ∀(k:Nat) {l:List Vis},k<=l.length->(∀v∈l.take k,inS v=true)->XA (l.take k)<9223372036854775808
 | 0,l,_,_=>by simp [XA]
 | k+1,l,hk,h=>by
  have hk2:k<l.length:=by omega
  have ih:=ZcW k (l:=l) (by omega) fun v hv=>h v (List.take_subset_take_left l (by omega) hv);have hv:=h (nth l k) (by rw [Zd hk2];exact List.mem_iff_getElem.2 ⟨k,by simp;omega,by simp⟩);simp only [inS,decide_eq_true_eq] at hv;have h2:pw (nth l k).order.toNat<=pw 62:=Ze6 (by omega);have h3:=Zje;rw [Zbh hk2];exact Nat.or_lt_two_pow (n:=63) (by omega) (by omega)
def ZfO (l:List Vis):Int×Int:=if l.all inS=true then (((XA l:Nat):Int),0) else (0,2)
theorem Vu (r:Rte) (hl:r.visits.length<=1048576):PT 62 [.p (eRte r)] [.p (.int .i64 (ZfO r.visits).1),.p (.int .i64 (ZfO r.visits).2)]:=by
 refine Zc [] Tryz.func62 rfl ZAy ?_;simp (disch:=omega) only [Tryz.f62,go_sem,seval];refine Zg [8,9] (fun k:Nat=> [(4,.p (.int .i64 (XA (r.visits.take k):Nat))),(10,.p (.int .i64 k))]) (fun _=> [Xd r]) (fun k=>k<=r.visits.length/\ ∀j,j<k->inS (nth r.visits j)=true) (fun k=>r.visits.length-k) 0 (by simp) (Weak.mk ?_) ?_
 ·simp (disch:=omega) only [Xd,XA,List.take_zero,List.foldl_nil,go_sem,seval]
 ·rintro k ⟨hk,hno⟩
  have hlt:=ZcW k hk fun v hv=>by
   obtain ⟨j,hj,rfl⟩:=List.mem_iff_getElem.1 hv;simp at hj;rw [List.getElem_take,<- Zd (by omega)];exact hno j (by omega)
  simp (disch:=omega) only [Xd,go_sem,seval];refine cD ?_ ?_<;>intro h<;>simp (disch:=omega) only [Sh.out h,go_sem,seval]
  ·have hk2:k<r.visits.length:=by omega
   have hbad:inS (nth r.visits k)=false->ZfO r.visits=(0,2):=fun h4=>by
    have:r.visits.all inS=false:=by rw [List.all_eq_false];exact ⟨nth r.visits k,ZC hk2,by rw [h4];simp⟩
    simp [ZfO,this]
   have hs:=Zbh hk2
   have hp:(nth r.visits k).order<=62->pw (nth r.visits k).order.toNat<=4611686018427387904:=fun h=>by rw [<- Zje];exact Ze6 (by omega)
   refine gF ?_ ?_<;>intro h1<;>simp (disch:=omega) only [Sh.out h1,go_sem,seval]
   ·have e:=hbad (by simp [inS];omega);rw [e];exact we
   ·refine cD ?_ ?_<;>intro h2<;>simp (disch:=omega) only [Sh.out h2,go_sem,seval]
    ·have e:=hbad (by simp [inS];omega);rw [e];exact we
    ·exact ⟨k+1,⟨by omega,Zl.2 ⟨hno,by simp [inS];omega⟩⟩,by omega,Weak.mk (by simp (disch:=omega) only [Xd,hs,go_sem,seval])⟩
  ·have hkl:k=r.visits.length:=by omega
   subst hkl
   have:r.visits.all inS=true:=by
    rw [List.all_eq_true];intro v hv;obtain ⟨j,hj,rfl⟩:=List.mem_iff_getElem.1 hv;rw [<- Zd hj];exact hno j hj
   have e:ZfO r.visits=(((XA r.visits:Nat):Int),0):=by simp [ZfO,this]
   rw [e,List.take_length];exact we
def Vk (a b:Int):Int:=if a<b then-1 else if b<a then 1 else 0
theorem ZgT (a:Int):PC 69 [.p (.int .i64 a)] (.bool false):=by
 refine Za Tryz.func69 rfl ZBi ?_;simp (disch:=omega) only [Tryz.f69,go_sem,seval]
 try simp
theorem Zab (a b:Int):PC 40 [.p (.int .i64 a),.p (.int .i64 b)] (.int .i64 (Vk a b)):=by
 refine Za Tryz.func40 rfl ZzU ?_;simp (disch:=omega) only [Tryz.f40,go_sem,seval];refine (ZgT a).use ?_;simp (disch:=omega) only [go_sem,seval];refine (ZgT b).use ?_;simp (disch:=omega) only [go_sem,seval];refine cD ?_ ?_<;>intro h<;>simp (disch:=omega) only [Sh.out h,go_sem,seval]
 ·simp [Vk,h]
 ·refine cD ?_ ?_<;>intro h2<;>simp (disch:=omega) only [Sh.out h2,go_sem,seval]
  ·simp [Vk,h,h2]
  ·simp [Vk,h,h2]
def orI (l:List Int):Int:=(l.find? fun n=>decide (n≠0)).getD 0
theorem Zsz {l:List Int} {k:Nat} (hk:k<l.length) (h:nth l k≠0) (hno: ∀j,j<k->nth l j=0):orI l=nth l k:=by
 have:l.find? (fun n=>decide (n≠0))=some (nth l k):=by
  rw [List.find?_eq_some_iff_getElem];refine ⟨by simpa using h,k,hk,(Zd hk).symm,fun j hj=> ?_⟩;have:=hno j hj;rw [Zd (by omega)] at this;simp [this]
 simp only [orI,this,Option.getD_some]
theorem Zta {l:List Int} (hno: ∀j,j<l.length->nth l j=0):orI l=0:=by
 have:l.find? (fun n=>decide (n≠0))=none:=by
  rw [List.find?_eq_none];intro x hx;obtain ⟨j,hj,rfl⟩:=List.mem_iff_getElem.1 hx;rw [<- Zd hj,hno j hj];simp
 simp only [orI,this,Option.getD_none]
theorem Zwi (l:List Int) (c:Bool) (hl:l.length<=100):PC 39 [.p (.list c (l.map eI))] (.int .i64 (orI l)):=by
 refine Za Tryz.func39 rfl ZAm ?_;simp (disch:=omega) only [Tryz.f39,go_sem,seval];refine Zg [3,6,7] (fun k:Nat=> [(8,.p (.int .i64 k))]) (fun _=> []) (fun k=>k<=l.length/\ ∀j,j<k->nth l j=0) (fun k=>l.length-k) 0 (by simp) (Weak.mk ?_) ?_
 ·simp (disch:=omega) only [go_sem,seval]
 ·rintro k ⟨hk,hno⟩;simp (disch:=omega) only [go_sem,seval];refine cD ?_ ?_<;>intro h<;>simp (disch:=omega) only [Sh.out h,go_sem,seval]
  ·have hk2:k<l.length:=by omega
   refine cD ?_ ?_<;>intro h2<;>simp (disch:=omega) only [Sh.out h2,go_sem,seval]
   ·rw [Zsz hk2 h2 hno]
   ·exact ⟨k+1,⟨by omega,Zl.2 ⟨hno,by simpa using h2⟩⟩,by omega,wk⟩
  ·have hkl:k=l.length:=by omega
   subst hkl;rw [Zta hno]
theorem KR (a b:Int):orI [a,b]=if a=0 then b else a:=by
 by_cases h:a=0
 ·by_cases h2:b=0<;>simp [orI,h,h2]
 ·simp [orI,h]
def dn (v:Vis):Int:=if v.drp=true then 1 else 0
theorem Zei (v:Vis):PC 240 [.p (Xi v)] (.int .i64 (dn v)):=by
 refine Za Tryz.func240 rfl ZuZ ?_;simp (disch:=omega) only [Tryz.f240,go_sem,seval];refine cD ?_ ?_<;>intro h<;>simp (disch:=omega) only [Sh.out h,go_sem,seval]
 ·simp [dn,h]
 ·simp [dn,h]
def ZqO (a b:Vis):Int:=if Vk a.order b.order=0 then Vk (dn a) (dn b) else Vk a.order b.order
theorem Zhj (a b:Vis):PC 220 [.p (Xi a),.p (Xi b)] (.int .i64 (ZqO a b)):=by
 refine Za Tryz.func220 rfl Zq0 ?_;simp (disch:=omega) only [Tryz.f220,go_sem,seval];refine Zh mixed (by kernel_rfl) (by kernel_rfl) ?_;simp (disch:=omega) only [go_sem,seval];refine Zk (Zab a.order b.order) ?_;simp (disch:=omega) only [go_sem,seval];refine Zk (Zei a) ?_;simp (disch:=omega) only [go_sem,seval];refine Zk (Zei b) ?_;simp (disch:=omega) only [go_sem,seval];refine Zk (Zab (dn a) (dn b)) ?_;simp (disch:=omega) only [go_sem,seval];refine Zk (Zwi [Vk a.order b.order,Vk (dn a) (dn b)] false (by simp)) ?_
 simp (disch:=omega) only [go_sem,seval];rw [KR,ZqO]
def Zk9 : List Vis->List Vis->Int
 | [],[]=>0
 | [],_::_=> -1
 | _::_,[]=>1
 | a::r,b::s=>if ZqO a b=0 then Zk9 r s else ZqO a b
theorem Qd {α:Type} [Inhabited α] {l:List α} {k:Nat} (h:k<l.length):l.drop k=nth l k::l.drop (k+1):=by rw [List.drop_eq_getElem_cons h,Zd h]
theorem Zaz (a b:List Vis) (c d:Bool) (ha:a.length<=1048576) (hb:b.length<=1048576) :
  PC 219 [.p (.list c (a.map Xi)),.p (.list d (b.map Xi)),.fn (.func 220) [] []] (.int .i64 (Zk9 a b)):=by
 refine Za Tryz.func219 rfl ZsT ?_;simp (disch:=omega) only [Tryz.f219,go_sem,seval];refine Zg [0,1,2,11,12] (fun k:Nat=> [(13,.p (.int .i64 k))]) (fun _=> []) (fun k=>k<=a.length/\k<=b.length/\Zk9 a b=Zk9 (a.drop k) (b.drop k)) (fun k=>a.length-k) 0 (by simp) (Weak.mk ?_) ?_
 ·simp (disch:=omega) only [go_sem,seval]
 ·rintro k ⟨hk,hkb,hle⟩;simp (disch:=omega) only [go_sem,seval];refine cD ?_ ?_<;>intro h<;>simp (disch:=omega) only [Sh.out h,go_sem,seval]
  ·have hk2:k<a.length:=by omega
   rw [Qd hk2] at hle;refine cD ?_ ?_<;>intro h2<;>simp (disch:=omega) only [Sh.out h2,go_sem,seval]
   ·have:b.drop k= []:=List.drop_eq_nil_of_le (by omega);rw [hle,this];rfl
   ·have hk3:k<b.length:=by omega
    rw [Qd hk3] at hle;refine (Zhj (nth a k) (nth b k)).use ?_;simp (disch:=omega) only [go_sem,seval];refine cD ?_ ?_<;>intro h3<;>simp (disch:=omega) only [Sh.out h3,go_sem,seval]
    ·rw [hle,Zk9,if_neg h3]
    ·have h4:ZqO (nth a k) (nth b k)=0:=by omega
     exact ⟨k+1,⟨by omega,by omega,by rw [hle,Zk9,if_pos h4]⟩,by omega,wk⟩
  ·have hkl:k=a.length:=by omega
   subst hkl;rw [List.drop_length] at hle;refine cD ?_ ?_<;>intro h2<;>simp (disch:=omega) only [Sh.out h2,go_sem,seval]
   ·rw [Qd (by omega)] at hle;rw [hle];rfl
   ·have:b.drop a.length= []:=List.drop_eq_nil_of_le (by omega);rw [hle,this];rfl
theorem ZfY (a b:List Vis) (c d:Bool) (ha:a.length<=1048576) (hb:b.length<=1048576):PC 190 [.p (.list c (a.map Xi)),.p (.list d (b.map Xi))] (.bool (decide (Zk9 a b<0))):=by
 refine Za Tryz.func190 rfl ZsG ?_;simp (disch:=omega) only [Tryz.f190,go_sem,seval];refine (Zaz a b c d ha hb).use ?_;simp (disch:=omega) only [go_sem,seval]
def ZcT (l:List Vis) (v:Vis):List Vis->Bool
 | []=>true
 | w::r=>if w=v then true else decide (0<=vIx l w)&&ZcT l v r
def Zc5 (l own:List Vis):Bool:=own.all fun w=>decide (0<=vIx l w)
def ZfT (os:List Ord) (l:List Vis) (o:Int) (p:Int×Int):Bool:=decide (p.2≠o)||Zc5 l (Z9 os p.1.toNat)
def Wv (x:Inst) (l:List Vis) (v:Vis):Bool:=decide (vIx l v<0)&&ZcT l v (Z9 x.orders v.order.toNat)&&x.before.all (ZfT x.orders l v.order)
def WG (v:Vis):AM.Obj:= .cells [.p (.int .i64 v.order),.p (.bool v.drp)]
theorem Zfq (x:Inst) (l:List Vis) (c:Bool) (v:Vis) (hl:l.length<=1048576) (ho:x.orders.length<=1048576) (hbl:x.before.length<=1048576) (hv:0<=v.order/\v.order<x.orders.length) (hb: ∀p∈x.before,0<=p.1/\p.1<x.orders.length) :
  PC 191 [.p (ZT x),.p (.list c (l.map Xi)),.p (Xi v)] (.bool (Wv x l v)):=by
 refine YR [3] Tryz.func191 rfl ZqH ?_;simp (disch:=omega) only [Tryz.f191,go_sem,seval];refine (Jf l c v hl).use ?_;simp (disch:=omega) only [go_sem,seval];refine cD ?_ ?_<;>intro h<;>simp (disch:=omega) only [Sh.out h,go_sem,seval]
 ·have: ¬vIx l v<0:=by omega
  rw [Wv];simp [this]
 ·have h1:vIx l v<0:=by omega
  obtain ⟨i,hi⟩: ∃i:Nat,v.order=(i:Int):=⟨v.order.toNat,by omega⟩
  have hr:Wv x l v=(ZcT l v (Z9 x.orders i)&&x.before.all (ZfT x.orders l v.order)):=by
   rw [Wv,hi];simp [h1]
  have hvi:=visits_c x.orders x.orders_c i (by omega) ho;rw [<- hi] at hvi;refine Zo [1,3,5] (fun _:Unit=> []) (fun _=> [Ze x,WG v]) (fun _=>ZcT l v (Z9 x.orders i)=true) ?_ ?_
  ·simp (disch:=omega) only [go_sem,seval];refine (hvi).use ?_;simp (disch:=omega) only [go_sem,seval];have hvl:=YM x.orders i;generalize hown:Z9 x.orders i=own at hvl hr ⊢;refine Zg [1,3,5,21,22] (fun k:Nat=> [(23,.p (.int .i64 k))]) (fun _=> [Ze x,WG v]) (fun k=>k<=own.length/\ZcT l v own=ZcT l v (own.drop k)) (fun k=>own.length-k) 0 (by simp) (Weak.mk ?_) ?_
   ·simp (disch:=omega) only [Ze,WG,go_sem,seval]
   ·rintro k ⟨hk,hp⟩;simp (disch:=omega) only [Ze,WG,go_sem,seval];refine cD ?_ ?_<;>intro h2<;>simp (disch:=omega) only [Sh.out h2,go_sem,seval]
    ·have hk2:k<own.length:=by omega
     rw [Qd hk2] at hp;refine cD ?_ ?_<;>intro h3<;>simp (disch:=omega) only [Sh.out h3,go_sem,seval]
     ·have h4:nth own k=v:=by rw [Ks];simpa using h3
      exact ⟨(),by rw [hp,ZcT,if_pos h4],Weak.mk (by simp (disch:=omega) only [Ze,WG,go_sem,seval])⟩
     ·have h4: ¬nth own k=v:=by rw [Ks];simpa using h3
      refine (Jf l c (nth own k) hl).use ?_;simp (disch:=omega) only [go_sem,seval];refine cD ?_ ?_<;>intro h5<;>simp (disch:=omega) only [Sh.out h5,go_sem,seval]
      ·have h6: ¬ 0<=vIx l (nth own k):=by omega
       have:ZcT l v own=false:=by rw [hp,ZcT,if_neg h4];simp [h6]
       rw [hr,this];rfl
      ·have h6:0<=vIx l (nth own k):=by omega
       exact ⟨k+1,⟨by omega,by rw [hp,ZcT,if_neg h4];simp [h6]⟩,by omega,Weak.mk (by simp (disch:=omega) only [Ze,WG,go_sem,seval])⟩
    ·have hkl:k=own.length:=by omega
     subst hkl;exact ⟨(),by rw [hp,List.drop_length];rfl,Weak.mk (by simp (disch:=omega) only [Ze,WG,go_sem,seval])⟩
  ·rintro _ hpre;rw [hpre,Bool.true_and] at hr;refine Zb [] _ _ _ _ ?_;simp (disch:=omega) only [Ze,WG,go_sem,seval];refine Zg [1,3,5,36,37] (fun k:Nat=> [(38,.p (.int .i64 k))]) (fun _=> [Ze x,WG v]) (fun k=>k<=x.before.length/\ ∀j,j<k->ZfT x.orders l v.order (nth x.before j)=true) (fun k=>x.before.length-k) 0 (by simp) (Weak.mk ?_) ?_
   ·simp (disch:=omega) only [Ze,WG,go_sem,seval]
   ·rintro k ⟨hk,hno⟩;simp (disch:=omega) only [Ze,WG,go_sem,seval];refine cD ?_ ?_<;>intro h2<;>simp (disch:=omega) only [Sh.out h2,go_sem,seval]
    ·have hk2:k<x.before.length:=by omega
     have hbk:=hb _ (ZC hk2)
     have hbad:ZfT x.orders l v.order (nth x.before k)=false->Wv x l v=false:=fun h4=>by
      rw [hr,List.all_eq_false];exact ⟨nth x.before k,ZC hk2,by rw [h4];simp⟩
     refine cD ?_ ?_<;>intro h3<;>simp (disch:=omega) only [Sh.out h3,go_sem,seval]
     ·exact ⟨k+1,⟨by omega,Zl.2 ⟨hno,by simp [ZfT,h3]⟩⟩,by omega,Weak.mk (by simp (disch:=omega) only [Ze,WG,go_sem,seval])⟩
     ·obtain ⟨a,hao⟩: ∃a:Nat,(nth x.before k).1=(a:Int):=⟨(nth x.before k).1.toNat,by omega⟩;have hva:=visits_c x.orders x.orders_c a (by omega) ho;rw [<- hao] at hva
      have h3':(nth x.before k).2=v.order:=by simpa using h3
      have hbe:ZfT x.orders l v.order (nth x.before k)=Zc5 l (Z9 x.orders a):=by rw [ZfT,hao,h3'];simp
      refine (hva).use ?_;simp (disch:=omega) only [go_sem,seval];have hvl:=YM x.orders a;generalize hown:Z9 x.orders a=own at hvl hbe ⊢;refine Zg [1,3,5,36,37,38,51,52] (fun k:Nat=> [(53,.p (.int .i64 k))]) (fun _=> [Ze x,WG v,.cells [.p (.int .i64 (nth x.before k).1),.p (.int .i64 (nth x.before k).2)]]) (fun q=>q<=own.length/\ ∀j,j<q->decide (0<=vIx l (nth own j))=true) (fun k=>own.length-k) 0 (by simp) (Weak.mk ?_) ?_
      ·simp (disch:=omega) only [Ze,WG,go_sem,seval]
      ·rintro q ⟨hq,hnq⟩;simp (disch:=omega) only [Ze,WG,go_sem,seval];refine cD ?_ ?_<;>intro h4<;>simp (disch:=omega) only [Sh.out h4,go_sem,seval]
       ·have hq2:q<own.length:=by omega
        refine (Jf l c (nth own q) hl).use ?_;simp (disch:=omega) only [go_sem,seval];refine cD ?_ ?_<;>intro h5<;>simp (disch:=omega) only [Sh.out h5,go_sem,seval]
        ·have h6: ¬ 0<=vIx l (nth own q):=by omega
         rw [hbad (by rw [hbe,Zc5,List.all_eq_false];exact ⟨nth own q,ZC hq2,by simpa using h6⟩)]
        ·exact ⟨q+1,⟨by omega,Zl.2 ⟨hnq,by simp;omega⟩⟩,by omega,Weak.mk (by simp (disch:=omega) only [Ze,WG,go_sem,seval])⟩
       ·have hql:q=own.length:=by omega
        subst hql
        have:Zc5 l own=true:=by
         rw [Zc5,List.all_eq_true];intro w hw;obtain ⟨j,hj,rfl⟩:=List.mem_iff_getElem.1 hw;rw [<- Zd hj];exact hnq j hj
        exact ⟨k+1,⟨by omega,Zl.2 ⟨hno,by rw [hbe,this]⟩⟩,by omega,Weak.mk (by simp (disch:=omega) only [Ze,WG,go_sem,seval])⟩
    ·have hkl:k=x.before.length:=by omega
     subst hkl
     have:x.before.all (ZfT x.orders l v.order)=true:=by
      rw [List.all_eq_true];intro w hw;obtain ⟨j,hj,rfl⟩:=List.mem_iff_getElem.1 hw;rw [<- Zd hj];exact hno j hj
     rw [hr,this]
def Qb (x:Inst) (S:Nat) (l:List Vis) (i:Nat):List Vis:=if S.testBit i=true/\(nth x.orders i).off=false then (Z9 x.orders i).filter (Wv x l) else []
def nextU (x:Inst) (S:Nat) (l:List Vis) (k:Nat):List Vis:=(List.range k).flatMap (Qb x S l)
theorem Kp (x S l k):nextU x S l (k+1)=nextU x S l k++Qb x S l k:=by simp [nextU,List.range_succ]
theorem Zgc (x S l i):(Qb x S l i).length<=2:=by
 unfold Qb;split
 ·exact Nat.le_trans (List.length_filter_le _ _) (YM _ _)
 ·simp
theorem Jl (x S l): ∀k,(nextU x S l k).length<=2*k
 | 0=>by simp [nextU]
 | k+1=>by
  have h1:=Jl x S l k;have h2:=Zgc x S l k;rw [Kp,List.length_append];omega
theorem Zgp (x:Inst) (S:Nat) (l:List Vis) (c:Bool) (hS:S<9223372036854775808) (hl:l.length<=1048576) (ho:x.orders.length<=60) (hbl:x.before.length<=1048576) (hb: ∀p∈x.before,0<=p.1/\p.1<x.orders.length) :
  PC 146 [.p (ZT x),.p (.int .i64 (S:Nat)),.p (.list c (l.map Xi))] (.list false ((nextU x S l x.orders.length).map Xi)):=by
 refine ACalls.frozen (S:=2) (n:=(nextU x S l x.orders.length).length) (by simp) ?_
 suffices hh:ACalls Tryz.prog 146 [.p (ZT x),.p (.int .i64 (S:Nat)),.p (.list c (l.map Xi))] [] fun y H'=> ∃m:List Vis,m=nextU x S l x.orders.length/\y= .sl 0 0 m.length m.length/\H'= [.elems 2 (m.map Xi)] by
  refine hh.mono ?_;rintro x H' ⟨m,rfl,h1,h2⟩;exact ⟨h1,h2⟩
 refine Zz [2] Tryz.func146 rfl Zvi ?_;simp (disch:=omega) only [Tryz.f146,go_sem,seval];refine Zm (Weak.ofNil 7 2 (by simp (disch:=omega) only [go_sem,seval]) (by simp) (Weak.refl _ _ _)) ?_;refine Zb [] _ _ _ _ ?_;simp (disch:=omega) only [go_sem,seval];refine Zg [1,2,3,13,14] (fun q:Nat×List Vis=> [(7,.sl 1 0 q.2.length q.2.length),(15,.p (.int .i64 q.1))]) (fun q=> [Ze x,.elems 2 (q.2.map Xi)]) (fun q=>q.1<=x.orders.length/\q.2=nextU x S l q.1) (fun q=>x.orders.length-q.1) (0,[]) ⟨by simp,by simp [nextU]⟩ (Weak.mk ?_) ?_
 ·simp (disch:=omega) only [Ze,go_sem,seval]
 ·rintro ⟨k,m⟩ ⟨hk,hm⟩;simp only at hk hm
  have hml:m.length<=2*k:=by rw [hm];exact Jl x S l k
  have hsc:=Kp x S l k;simp (disch:=omega) only [Ze,go_sem,seval];refine cD ?_ ?_<;>intro h<;>simp (disch:=omega) only [Sh.out h,go_sem,seval]
  ·have hk2:k<x.orders.length:=by omega
   refine gF ?_ ?_<;>intro h62<;>simp (disch:=omega) only [Sh.out h62,go_sem,seval]
   ·omega
   refine gF ?_ ?_<;>intro h2<;>simp (disch:=omega) only [Sh.out h2,go_sem,seval]
   ·have hbit:S.testBit k=false:=by simpa only [Zis] using h2
    have e:Qb x S l k= []:=by simp [Qb,hbit]
    exact ⟨(k+1,m),⟨by simp only;omega,by simp only [hsc,e,hm,List.append_nil]⟩,by simp only;omega,Weak.mk (by simp (disch:=omega) only [Ze,go_sem,seval])⟩
   ·have hbit:S.testBit k=true:=by
     cases hq:S.testBit k with
     | true=>rfl
     | false=>exact absurd (by simpa only [Zis] using hq) h2
    refine cD ?_ ?_<;>intro h3<;>simp (disch:=omega) only [Sh.out h3,go_sem,seval]
    ·have e:Qb x S l k= []:=by simp [Qb,h3]
     exact ⟨(k+1,m),⟨by simp only;omega,by simp only [hsc,e,hm,List.append_nil]⟩,by simp only;omega,Weak.mk (by simp (disch:=omega) only [Ze,go_sem,seval])⟩
    ·have h3':(nth x.orders k).off=false:=by simpa using h3
     have e:Qb x S l k=(Z9 x.orders k).filter (Wv x l):=by simp [Qb,hbit,h3']
     refine (visits_c x.orders x.orders_c k hk2 (by omega)).use ?_;simp (disch:=omega) only [go_sem,seval];have hvl:=YM x.orders k;have hvo: ∀v∈Z9 x.orders k,v.order=k:=fun v hv=>Xc hv;generalize hown:Z9 x.orders k=own at hvl e hvo ⊢;refine Zg [1,2,3,13,14,15,36,37] (fun q:Nat×List Vis=> [(7,.sl 1 0 q.2.length q.2.length),(38,.p (.int .i64 q.1))]) (fun q=> [Ze x,.elems 2 (q.2.map Xi),Yb (nth x.orders k)]) (fun q=>q.1<=own.length/\q.2=m++(own.take q.1).filter (Wv x l)) (fun q=>own.length-q.1) (0,m) ⟨by simp,by simp⟩ (Weak.mk ?_) ?_
     ·simp (disch:=omega) only [Ze,Yb,h3',go_sem,seval]
     ·rintro ⟨j,m2⟩ ⟨hj,hm2⟩;simp only at hj hm2
      have hm2l:m2.length<=2*k+2:=by
       have:=List.length_filter_le (Wv x l) (own.take j);rw [hm2,List.length_append];simp at this;omega
      simp (disch:=omega) only [Ze,Yb,h3',go_sem,seval];refine cD ?_ ?_<;>intro h4<;>simp (disch:=omega) only [Sh.out h4,go_sem,seval]
      ·have hj2:j<own.length:=by omega
       have hvj:=hvo _ (ZC hj2)
       have htk:own.take (j+1)=own.take j++ [nth own j]:=by rw [List.take_succ_eq_append_getElem hj2,Zd hj2]
       have hrd:=Zfq x l c (nth own j) hl (by omega) hbl (by omega) hb;refine (hrd).use ?_;simp (disch:=omega) only [go_sem,seval];refine cD ?_ ?_<;>intro h5<;>simp (disch:=omega) only [Sh.out h5,go_sem,seval]
       ·exact ⟨(j+1,m2++ [nth own j]),⟨by simp only;omega,by simp only [htk,List.filter_append,hm2,List.append_assoc];simp [h5]⟩,by simp only;omega,Weak.mk (by simp (disch:=omega) only [Ze,Yb,h3',go_sem,seval])⟩
       ·exact ⟨(j+1,m2),⟨by simp only;omega,by simp only [htk,List.filter_append,hm2];simp [h5]⟩,by simp only;omega,Weak.mk (by simp (disch:=omega) only [Ze,Yb,h3',go_sem,seval])⟩
      ·have hjl:j=own.length:=by omega
       subst hjl;exact ⟨(k+1,m2),⟨by simp only;omega,by simp only [hsc,e,hm2,hm,List.take_length]⟩,by simp only;omega,Weak.mk (by simp (disch:=omega) only [Ze,go_sem,seval])⟩
  ·have hkn:k=x.orders.length:=by omega
   subst hkn;exact ⟨m,hm,1,by simp (disch:=omega) only [Ze,go_sem,seval]⟩
theorem Zru (l:List Vis) (c:Bool) (hl:l.length<=1048576):PC 149 [.p (.list c (l.map Xi))] (.list true (l.map Xi)):=by
 refine Za Tryz.func149 rfl ZqY ?_;simp (disch:=omega) only [Tryz.f149,go_sem,seval]
@[go_sem] theorem ZBP {H:List AM.Obj} {u2:TypeId} {xs:List PV} {y:V} {k:V->List AM.Obj->Prop} {tt} :ZkF Tryz.prog H 43 u2 (.p (.list true xs)) y (Zv k tt)=pst ((ZoQ (some (2,16)) xs (Ys (Tryz.prog.underlying u2) H y)).map .p) (Zv (fun v=>k v H) ⟨⟩):=Zfa ZlS
def ZEJ (nx:List Vis->List Vis):Nat->List Vis->List (List Vis)->List (List Vis)×Bool
 | 0,l,outs=>(outs++ [l],decide (outs.length+1<=8192))
 | f+1,l,outs=>(nx l).foldl (fun acc v=>if acc.2=true then ZEJ nx f (l++ [v]) acc.1 else acc) (outs,true)
def ZaY (x:Inst) (S k:Nat):Nat:=((List.range k).map fun i=>if S.testBit i=true then (Z9 x.orders i).length else 0).sum
theorem V7 (x S k):ZaY x S (k+1)=ZaY x S k+if S.testBit k=true then (Z9 x.orders k).length else 0:=by simp [ZaY,List.range_succ]
theorem ZcM (x S): ∀k,ZaY x S k<=2*k
 | 0=>by simp [ZaY]
 | k+1=>by
  have h1:=ZcM x S k;have h2:=YM x.orders k;rw [V7]
  split<;>omega
def nHas (S:Nat) (i:Int):Bool:=decide (0<=i/\i<=62)&&S.testBit i.toNat
theorem ZkW {S i:Nat} (h:i<=62):nHas S (i:Int)=S.testBit i:=by
 have:(0:Int)<=i/\(i:Int)<=62:=by omega
 simp [nHas,this]
def Plc (x:Inst):Prop:= ∀o∈x.orders,-1<=o.pick.place/\ -1<=o.drp.place
theorem UG (os:List Ord) (i:Nat):Z9 os i= []\/Z9 os i= [⟨i,false⟩]\/Z9 os i= [⟨i,true⟩]\/Z9 os i= [⟨i,false⟩,⟨i,true⟩]:=by
 unfold Z9;split<;>split<;>simp
def apB (x:Inst) (S:Nat):Bool:=x.apart.any fun p=>nHas S p.1&&nHas S p.2
theorem ZdH (S:Nat) (i:Int):sHas (S:Int) i=nHas S i:=by
 by_cases h:0<=i/\i<=62
 ·obtain ⟨k,rfl⟩: ∃k:Nat,i=(k:Int):=⟨i.toNat,by omega⟩;rw [XB S k (by omega),ZkW (by omega)]
 ·have h2:nHas S i=false:=by simp only [nHas,h,decide_false,Bool.false_and]
  rw [h2,sHas]
  by_cases h3:0<=i
  ·have: ¬i<=62:=by omega
   simp [this]
  ·simp [h3]
theorem KQ {S:Nat} {i:Int} :nHas S i=true↔0<=i/\i<=62/\S.testBit i.toNat=true:=by simp [nHas,and_assoc]
theorem ZhT {S n i:Nat} (h:S / pw n=0) (hi:S.testBit i=true):i<n:=by
 rcases Nat.lt_or_ge i n with h2 | h2
 ·exact h2
 ·have h3:S<2^n:=by
   have:=(Nat.div_eq_zero_iff).1 h;rcases this with h4 | h4
   ·have:=Zf7 n;omega
   ·exact h4
  have h5:S<2^i:=Nat.lt_of_lt_of_le h3 (Nat.pow_le_pow_right (by omega) h2);rw [Nat.testBit_lt_two_pow h5] at hi
  cases hi
theorem WP {S:Nat} {a:Int} :a∈XS (S:Int) 63↔ ∃i:Nat,a=(i:Int)/\i<63/\S.testBit i=true:=by
 simp only [XS,List.mem_map,List.mem_filter,List.mem_range]
 constructor
 ·rintro ⟨i,⟨h1,h2⟩,rfl⟩;rw [XB S i (by omega)] at h2;exact ⟨i,rfl,h1,h2⟩
 ·rintro ⟨i,rfl,h1,h2⟩;exact ⟨i,⟨h1,by rw [XB S i (by omega)];exact h2⟩,rfl⟩
structure Alw (x:Inst) (S:Nat):Prop where
 off: ∀i,i<x.orders.length->S.testBit i=true->(nth x.orders i).off=false
 apart:apB x S=false
 closed: ∀p∈x.before,nHas S p.2=true->nHas S p.1=true
 acyc: ∀i,i<x.orders.length->S.testBit i=true-> ¬Ch x.before i i
theorem Yx {c:Prop} [Decidable c] {a b:Int} (ha:a≠0):(if c then a else b)=0↔ ¬c/\b=0:=by
 by_cases h:c<;>simp [h,ha]
theorem Vr {x:Inst} {S:Nat} (hn:x.orders.length<=60) (hS:S / pw x.orders.length=0) (hv:Val x.orders.length x.before):XP x.orders x.apart x.before (S:Int)=0↔Alw x S:=by
 have hlt: ∀i,S.testBit i=true->i<x.orders.length:=fun i h=>ZhT hS h
 have e0: ¬(S:Int)<0:=by omega
 unfold XP;rw [if_neg e0,Yx (by omega),Yx (by omega),Yx (by omega),Yx (by omega),Yx (by omega)];simp only [and_true]
 constructor
 ·rintro ⟨_,h2,h3,h4,h5⟩;simp only [Bool.not_eq_true] at h2 h3 h4 h5;rw [List.any_eq_false] at h2 h4 h5;refine ⟨fun i hi hb=> ?_,?_,fun p hp hb=> ?_,fun i hi hb hc=> ?_⟩
  ·have:=h2 (i:Int) (WP.2 ⟨i,rfl,by omega,hb⟩);simpa using this
  ·rw [apB];simpa only [ZdH] using h3
  ·have:=h4 p hp;simp only [ZdH,hb,Bool.true_and,Bool.not_eq_true,Bool.not_eq_false'] at this;exact this
  ·have:=h5 (i:Int) (WP.2 ⟨i,rfl,by omega,hb⟩);rw [Int.toNat_natCast,XB _ _ (by omega)] at this;exact this ((Y6 hv i i hi).2 hc)
 ·rintro ⟨h1,h2,h3,h4⟩;refine ⟨?_,?_,?_,?_,?_⟩
  ·simp only [Bool.not_eq_true];rw [List.any_eq_false];intro a ha;obtain ⟨i,rfl,h5,h6⟩:=WP.1 ha;have:=hlt i h6;simp;omega
  ·simp only [Bool.not_eq_true];rw [List.any_eq_false];intro a ha;obtain ⟨i,rfl,h5,h6⟩:=WP.1 ha;simp [h1 i (hlt i h6) h6]
  ·simp only [ZdH,Bool.not_eq_true];exact h2
  ·simp only [Bool.not_eq_true];rw [List.any_eq_false];intro p hp;simp only [ZdH]
   cases h5:nHas S p.2
   ·simp
   ·simp [h3 p hp h5]
  ·simp only [Bool.not_eq_true];rw [List.any_eq_false];intro a ha;obtain ⟨i,rfl,h5,h6⟩:=WP.1 ha;rw [Int.toNat_natCast,XB _ _ (by omega),Y6 hv i i (hlt i h6)];exact h4 i (hlt i h6) h6
theorem Zbw {f g:Nat->Bool} {b:Nat} : ∀(l:List Nat),(∀a,f a=true->g a=true)->f b=false->g b=true->b∈l->(l.filter f).length<(l.filter g).length
 | [],_,_,_,h=>by simp at h
 | x::l,hfg,hf,hg,h=>by
  have hle: ∀l:List Nat,(l.filter f).length<=(l.filter g).length:=by
   intro l
   induction l with
   | nil=>simp
   | cons y l ih =>
    simp only [List.filter_cons]
    cases hy:f y with
    | true=>simp [hfg y hy];exact ih
    | false =>
    simp only [Bool.false_eq_true,if_false]
    split
    ·simp only [List.length_cons];omega
    ·omega
  simp only [List.filter_cons];rcases List.mem_cons.1 h with rfl | h
  ·have:=hle l;simp [hf,hg];omega
  ·have:=Zbw l hfg hf hg h
   cases hy:f x with
   | true=>simp [hfg x hy];exact this
   | false =>
    simp only [Bool.false_eq_true,if_false]
    split
    ·simp only [List.length_cons];omega
    ·omega
theorem Zfx {n:Nat} {be:List (Int×Int)} (hv:Val n be) {P:Nat->Prop} (hP: ∀i,P i->i<n/\ ¬Ch be i i) {i:Nat} (hi:P i): ∃i,P i/\ ∀p∈be,p.2=(i:Int)-> ¬P p.1.toNat:=by
 suffices h: ∀(k i:Nat),P i->((List.range n).filter fun a=>(nth (V5 n be) i).testBit a).length<k-> ∃i,P i/\ ∀p∈be,p.2=(i:Int)-> ¬P p.1.toNat from h _ i hi (Nat.lt_succ_self _)
 intro k
 induction k with
 | zero=>intro i _ h;omega
 | succ k ih =>
  intro i hi hk
  by_cases h: ∃p∈be,p.2=(i:Int)/\P p.1.toNat
  ·obtain ⟨p,hp,h1,h2⟩:=h;obtain ⟨v1,v2,v3,v4⟩:=hv p hp;have hE:Ed be p.1.toNat i:=⟨p,hp,by omega,h1⟩;refine ih p.1.toNat h2 (Nat.lt_of_lt_of_le (Zbw (b:=p.1.toNat) _ (fun a ha=> ?_) ?_ ?_ ?_) (by omega:((List.range n).filter fun a=>(nth (V5 n be) i).testBit a).length<=k))
   ·exact (Y6 hv a i (hP i hi).1).2 (((Y6 hv a _ (hP _ h2).1).1 ha).more hE)
   ·cases hb:(nth (V5 n be) p.1.toNat).testBit p.1.toNat with
    | false=>rfl
    | true=>exact absurd ((Y6 hv _ _ (hP _ h2).1).1 hb) (hP _ h2).2
   ·exact (Y6 hv _ i (hP i hi).1).2 (.one hE)
   ·simpa using (hP _ h2).1
  ·exact ⟨i,hi,fun p hp h1 h2=>h ⟨p,hp,h1,h2⟩⟩
theorem Xl {l:List Vis} {v:Vis} :0<=vIx l v↔v∈l:=by
 have:=Zic (f:=fun w=>decide (v=w)) (l:=l)
 have h2:(l.any fun w=>decide (v=w))=true↔v∈l:=by
  rw [List.any_eq_true];exact ⟨fun ⟨w,hw,e⟩=>by simp at e;rw [e];exact hw,fun h=>⟨v,h,by simp⟩⟩
 rw [<- h2,<- this,vIx];simp
theorem ZpW {l:List Vis} {v:Vis} :vIx l v<0↔v ∉ l:=by rw [<- Xl];omega
theorem ZfX {l own:List Vis} :Zc5 l own=true↔ ∀w∈own,w∈l:=by
 rw [Zc5,List.all_eq_true];exact ⟨fun h w hw=>Xl.1 (by simpa using h w hw),fun h w hw=>by simpa using Xl.2 (h w hw)⟩
theorem ZdU {os:List Ord} {l:List Vis} {o:Int} {p:Int×Int} :ZfT os l o p=true↔(p.2=o-> ∀w∈Z9 os p.1.toNat,w∈l):=by
 rw [ZfT,Bool.or_eq_true,ZfX,decide_eq_true_eq]
 by_cases h:p.2=o<;>simp [h]
theorem ZjH {x:Inst} {l:List Vis} {o:Int} :x.before.all (ZfT x.orders l o)=true↔ ∀p∈x.before,p.2=o-> ∀w∈Z9 x.orders p.1.toNat,w∈l:=by
 rw [List.all_eq_true];exact ⟨fun h p hp=>ZdU.1 (h p hp),fun h p hp=>ZdU.2 (h p hp)⟩
def Vne (x:Inst):Prop:= ∀i,i<x.orders.length->Z9 x.orders i≠ []
inductive Gr (x:Inst) (S:Nat):List Vis->Prop where
 | nil:Gr x S []
 | snoc {l:List Vis} {v:Vis} (h:Gr x S l) (hv:v∈nextU x S l x.orders.length):Gr x S (l++ [v])
theorem Zfb (os:List Ord) (i:Nat):(Z9 os i).Nodup:=by
 rcases UG os i with h | h | h | h<;>rw [h]<;>simp
theorem Zke {os:List Ord} {i:Nat} {l:List Vis} {v:Vis} (hv:v∈Z9 os i):ZcT l v (Z9 os i)=true↔(v.drp=true->⟨i,false⟩∈Z9 os i->⟨i,false⟩∈l):=by
 rcases UG os i with h | h | h | h<;>rw [h] at hv ⊢ <;>simp at hv
 ·subst hv;simp [ZcT]
 ·subst hv;simp [ZcT]
 ·rcases hv with rfl | rfl
  ·simp [ZcT]
  ·simp [ZcT,Xl]
theorem Yk {x:Inst} {l:List Vis} {v:Vis} {i:Nat} (hv:v∈Z9 x.orders i):Wv x l v=true↔v ∉ l/\(v.drp=true->⟨i,false⟩∈Z9 x.orders i->⟨i,false⟩∈l)/\ ∀p∈x.before,p.2=(i:Int)-> ∀w∈Z9 x.orders p.1.toNat,w∈l:=by
 have h:=Xc hv;rw [Wv,h,Int.toNat_natCast,Bool.and_eq_true,Bool.and_eq_true,decide_eq_true_eq,ZpW,Zke hv,ZjH,and_assoc]
theorem YQ {x:Inst} {S:Nat} {l:List Vis} {v:Vis} {k:Nat} :v∈nextU x S l k↔ ∃i,i<k/\S.testBit i=true/\(nth x.orders i).off=false/\v∈Z9 x.orders i/\Wv x l v=true:=by
 rw [nextU,List.mem_flatMap]
 constructor
 ·rintro ⟨i,hi,h⟩;rw [Qb] at h
  split at h
  ·rename_i hc;rw [List.mem_filter] at h;exact ⟨i,by simpa using hi,hc.1,hc.2,h.1,h.2⟩
  ·simp at h
 ·rintro ⟨i,hi,h1,h2,h3,h4⟩;exact ⟨i,by simpa using hi,by rw [Qb,if_pos ⟨h1,h2⟩,List.mem_filter];exact ⟨h3,h4⟩⟩
def Zcx (x:Inst) (S k:Nat):List Vis:=(List.range k).flatMap fun i=>if S.testBit i=true then Z9 x.orders i else []
theorem Zck (x S k):Zcx x S (k+1)=Zcx x S k++if S.testBit k=true then Z9 x.orders k else []:=by simp [Zcx,List.range_succ]
theorem WQ (x S): ∀k,(Zcx x S k).length=ZaY x S k
 | 0=>by simp [Zcx,ZaY]
 | k+1=>by
  rw [Zck,V7,List.length_append,WQ x S k]
  split<;>simp
theorem X2 {x S k v} :v∈Zcx x S k↔ ∃i,i<k/\S.testBit i=true/\v∈Z9 x.orders i:=by
 rw [Zcx,List.mem_flatMap]
 constructor
 ·rintro ⟨i,hi,h⟩
  split at h
  ·exact ⟨i,by simpa using hi,by assumption,h⟩
  ·simp at h
 ·rintro ⟨i,hi,h1,h2⟩;exact ⟨i,by simpa using hi,by rw [if_pos h1];exact h2⟩
theorem Uz (x S): ∀k,(Zcx x S k).Nodup
 | 0=>by simp [Zcx]
 | k+1=>by
  rw [Zck,List.nodup_append];refine ⟨Uz x S k,?_,fun a ha b hb=> ?_⟩
  ·split
   ·exact Zfb _ _
   ·simp
  ·obtain ⟨i,hi,_,h2⟩:=X2.1 ha
   split at hb
   ·have h3:=Xc h2;have h4:=Xc hb;rintro rfl;omega
   ·simp at hb
theorem Gr.nodup {x S l} (h:Gr x S l):l.Nodup:=by
 induction h with
 | nil=>simp
 | snoc _ hv ih =>
  obtain ⟨i,_,_,_,h4,h5⟩:=YQ.1 hv;rw [List.nodup_append];refine ⟨ih,by simp,fun a ha b hb=> ?_⟩;simp at hb;subst hb;exact fun e=>((Yk h4).1 h5).1 (e ▸ ha)
theorem Gr.sub {x S l} (h:Gr x S l): ∀v∈l,v∈Zcx x S x.orders.length:=by
 induction h with
 | nil=>simp
 | snoc _ hv ih =>
  obtain ⟨i,h1,h2,_,h4,_⟩:=YQ.1 hv;intro w hw;rcases List.mem_append.1 hw with hw | hw
  ·exact ih w hw
  ·simp at hw;subst hw;exact X2.2 ⟨i,h1,h2,h4⟩
theorem ZaQ {α:Type} [DecidableEq α] {l m:List α} (hl:l.Nodup) (h: ∀v∈l,v∈m):l.length<=m.length:=List.Nodup.length_le_of_subset hl h
theorem Zp6 {α:Type} [DecidableEq α] {l m:List α} (hl:l.Nodup) (h: ∀v∈l,v∈m) (hm:m.length<=l.length): ∀v∈m,v∈l:=fun v hv=>by
 refine Classical.byContradiction fun hno=> ?_
 have:(v::l).length<=m.length:=ZaQ (by simp [hno,hl]) (fun w hw=>by
  rcases List.mem_cons.1 hw with rfl | hw
  ·exact hv
  ·exact h w hw)
 simp at this;omega
theorem Gr.len {x S l} (h:Gr x S l):l.length<=ZaY x S x.orders.length:=by
 rw [<- WQ];exact ZaQ h.nodup h.sub
theorem Gr.full {x S l} (h:Gr x S l) (hl:l.length=ZaY x S x.orders.length): ∀v∈Zcx x S x.orders.length,v∈l:=Zp6 h.nodup h.sub (by rw [WQ];omega)
theorem Gr.more {x S l} (ha:Alw x S) (hn:x.orders.length<=60) (hv:Val x.orders.length x.before) (hm: ∃v∈Zcx x S x.orders.length,v ∉ l): ∃v,v∈nextU x S l x.orders.length:=by
 obtain ⟨v,hva,hvl⟩:=hm;obtain ⟨i,h1,h2,h3⟩:=X2.1 hva;obtain ⟨j,⟨j1,j2,w,j3,j4⟩,hj⟩:=Zfx hv (P:=fun i=>i<x.orders.length/\S.testBit i=true/\ ∃w∈Z9 x.orders i,w ∉ l) (fun i hi=>⟨hi.1,ha.acyc i hi.1 hi.2.1⟩) ⟨h1,h2,v,h3,hvl⟩
 have hpre: ∀p∈x.before,p.2=(j:Int)-> ∀w∈Z9 x.orders p.1.toNat,w∈l:=fun p hp e w hw=>by
  refine Classical.byContradiction fun hno=> ?_;obtain ⟨v1,v2,v3,v4⟩:=hv p hp;have:=ha.closed p hp (KQ.2 ⟨by omega,by omega,by rw [e];simpa using j2⟩);exact hj p hp e ⟨by omega,(KQ.1 this).2.2,w,hw,hno⟩
 by_cases hf:(⟨j,false⟩:Vis)∈Z9 x.orders j/\(⟨j,false⟩:Vis) ∉ l
 ·exact ⟨⟨j,false⟩,YQ.2 ⟨j,j1,j2,ha.off j j1 j2,hf.1,(Yk hf.1).2 ⟨hf.2,by simp,hpre⟩⟩⟩
 ·refine ⟨w,YQ.2 ⟨j,j1,j2,ha.off j j1 j2,j3,(Yk j3).2 ⟨j4,fun _ hq=> ?_,hpre⟩⟩⟩;exact Classical.byContradiction fun hno=>hf ⟨hq,hno⟩
theorem Gr.next_nil {x S l} (h:Gr x S l) (ha:Alw x S) (hn:x.orders.length<=60) (hv:Val x.orders.length x.before):nextU x S l x.orders.length= []↔l.length=ZaY x S x.orders.length:=by
 constructor
 ·intro e;refine Classical.byContradiction fun hno=> ?_
  have hex: ∃v∈Zcx x S x.orders.length,v ∉ l:=Classical.byContradiction fun hno2=>hno (by
   have h1: ∀v∈Zcx x S x.orders.length,v∈l:=fun v hv=>Classical.byContradiction fun h3=>hno2 ⟨v,hv,h3⟩;have:=ZaQ (Uz x S _) h1;rw [WQ] at this;have:=h.len
   omega)
  obtain ⟨v,hv⟩:=Gr.more (l:=l) ha hn hv hex;rw [e] at hv;simp at hv
 ·intro e;rw [List.eq_nil_iff_forall_not_mem];intro v hv;obtain ⟨i,h1,h2,_,h4,h5⟩:=YQ.1 hv;exact ((Yk h4).1 h5).1 (h.full e v (X2.2 ⟨i,h1,h2,h4⟩))
theorem Zho {x:Inst} {S:Nat} (hne:Vne x) (hS:S / pw x.orders.length=0) (h0:S≠0):0<ZaY x S x.orders.length:=by
 have: ∃i,S.testBit i=true:=by
  refine Classical.byContradiction fun hno=>h0 (Nat.eq_of_testBit_eq fun i=> ?_)
  cases h:S.testBit i with
  | false=>simp
  | true=>exact absurd ⟨i,h⟩ hno
 obtain ⟨i,hi⟩:=this;have hlt:=ZhT hS hi;obtain ⟨v,hv⟩:=List.exists_mem_of_ne_nil _ (hne i hlt);have hm:v∈Zcx x S x.orders.length:=X2.2 ⟨i,hlt,hi,hv⟩;have:=List.length_pos_of_mem hm;rwa [WQ] at this
def ext (nx:List Vis->List Vis):Nat->List Vis->List (List Vis)->List (List Vis)
 | 0,l,outs=>if 8192<outs.length then outs else outs++ [l]
 | f+1,l,outs=>if 8192<outs.length then outs else (nx l).foldl (fun acc v=>ext nx f (l++ [v]) acc) outs
theorem ZhK {S n:Nat} (hS:S<9223372036854775808) (h: ∀j,j<63->S.testBit j=true->j<n):S / pw n=0:=by
 refine Nat.div_eq_of_lt ?_;refine Nat.lt_pow_two_of_testBit S fun i hi=> ?_;rcases Nat.lt_or_ge i 63 with h2 | h2
 ·cases hb:S.testBit i with
  | false=>rfl
  | true=>have:=h i h2 hb;omega
 ·exact Nat.testBit_lt_two_pow (Nat.lt_of_lt_of_le hS (Nat.pow_le_pow_right (by omega) h2:2^63<=2^i))
structure IFacts (x:Inst):Prop where
 len:x.orders.length<=10
 plc:Plc x
 vne:Vne x
 val:Val x.orders.length x.before
 ne: ∀p∈x.before,p.1≠p.2
 aval:Val x.orders.length x.apart
theorem Zly {n:Int} {word:List UInt8} {sm:Int×Int->Int×Int->Bool} {l:List (Int×Int)} (h:ZaW n word sm l l.length= []): ∀p∈l,okP n p=true:=by
 intro p hp;obtain ⟨i,hi,rfl⟩:=List.mem_iff_getElem.1 hp;have h2:=(List.append_eq_nil_iff.1 h).2;rw [List.flatMap_eq_nil_iff] at h2;have h3:=h2 i (by simpa using hi);rw [flt,Zd hi] at h3
 cases h4:okP n l[i] with
 | true=>rfl
 | false=>rw [h4] at h3;simp at h3
theorem Z4 {x:Inst} (h:InstOk x):IFacts x:=by
 have ho:=h.orders;obtain ⟨h1,h2⟩:=List.append_eq_nil_iff.1 h.rules;have ha:=Zly h1;have hb:=Zly h2
 have hpl:Plc x:=fun o hm=>by
  obtain ⟨i,hi,rfl⟩:=List.mem_iff_getElem.1 hm;have:=ho.2 i hi;rw [<- Zd hi];exact ⟨this.pick.1,this.drp.1⟩
 have val: ∀l:List (Int×Int),(∀p∈l,okP x.orders.length p=true)->Val x.orders.length l:=fun l h p hp=>by
  have:=h p hp;simp [okP] at this;omega
 refine ⟨ho.1,hpl,fun i hi=> ?_,val _ hb,fun p hp=> ?_,val _ ha⟩
 ·have h3:=ho.2 i hi;have h4:=hpl _ (ZC hi);have h5:=h3.one;unfold Z9
  by_cases h6:0<=(nth x.orders i).pick.place
  ·simp [h6]
  ·have:0<=(nth x.orders i).drp.place:=by omega
   simp [this]
 ·have:=hb p hp;simp [okP] at this;exact this.2
theorem ZV {l:List Vis} {o:Int} :hasO l o=true↔ ∃v∈l,v.order=o:=by simp [hasO]
theorem WV : ∀(l:List Vis) (i:Nat),(XA l).testBit i=true↔ ∃v∈l,v.order.toNat=i:=by
 have key: ∀(l:List Vis) (s i:Nat),(l.foldl (fun s v=>s|||pw v.order.toNat) s).testBit i=true↔s.testBit i=true\/ ∃v∈l,v.order.toNat=i:=by
  intro l
  induction l with
  | nil=>intro s i;simp
  | cons v l ih =>
   intro s i;rw [List.foldl_cons,ih,Nat.testBit_or,Ui,Bool.or_eq_true,decide_eq_true_eq,or_assoc];refine or_congr Iff.rfl ?_
   constructor
   ·rintro (h | ⟨w,hw,h⟩)
    ·exact ⟨v,by simp,h⟩
    ·exact ⟨w,by simp [hw],h⟩
   ·rintro ⟨w,hw,h⟩;rcases List.mem_cons.1 hw with rfl | hw
    ·exact .inl h
    ·exact .inr ⟨w,hw,h⟩
 intro l i;rw [XA,key];simp
def Inr (x:Inst) (l:List Vis):Prop:= ∀v∈l,0<=v.order/\v.order<x.orders.length
theorem V0 {x:Inst} {l:List Vis} (hi:Inr x l) (hn:x.orders.length<=60) (o:Int) (h:0<=o/\o<=62):nHas (XA l) o=hasO l o:=by
 rw [Bool.eq_iff_iff,KQ,WV,ZV]
 constructor
 ·rintro ⟨h1,h2,v,hv,h3⟩;have:=hi v hv;exact ⟨v,hv,by omega⟩
 ·rintro ⟨v,hv,rfl⟩;exact ⟨h.1,h.2,v,hv,rfl⟩
theorem Vd {l:List Vis} (hd:l.Nodup) {k:Nat} (hk:k<l.length):vIx l (nth l k)=(k:Int):=by
 refine ZhQ hk (by simp) fun j hj=> ?_
 have:nth l k≠nth l j:=by
  rw [Zd hk,Zd (by omega)];exact fun e=>(List.pairwise_iff_getElem.1 hd) j k (by omega) hk hj e.symm
 simpa using this
theorem Zaq {l:List Vis} {v:Vis} (h:0<=vIx l v):(vIx l v).toNat<l.length/\nth l (vIx l v).toNat=v:=by
 have hl:=Zlc (f:=fun w=>decide (v=w)) (l:=l);unfold vIx fIx at h ⊢
 cases hv:l.findIdx? (fun u=>decide (v=u)) with
 | none=>rw [hv] at h;simp at h
 | some i =>
  rw [List.findIdx?_eq_some_iff_getElem] at hv;obtain ⟨h1,h2,_⟩:=hv;simp at h2;exact ⟨by simpa using h1,by simp [Zd h1,h2]⟩
theorem Zry {l:List Vis} {k:Nat} (hk:k<l.length):0<=vIx l (nth l k)/\vIx l (nth l k)<=(k:Int):=by
 have hm:0<=vIx l (nth l k):=Xl.2 (ZC hk);refine ⟨hm,?_⟩;unfold vIx fIx at hm ⊢
 cases hv:l.findIdx? (fun u=>decide (nth l k=u)) with
 | none=>rw [hv] at hm;simp at hm
 | some i =>
  rw [List.findIdx?_eq_some_iff_getElem] at hv;obtain ⟨h1,h2,h3⟩:=hv;simp;rcases Nat.lt_or_ge k i with h4 | h4
  ·have:=h3 k h4;rw [<- Zd hk] at this;simp at this
  ·exact h4
theorem Uf {l:List Vis} {v:Vis} {i:Nat} (h:v∈l.take i): ∃j,j<i/\j<l.length/\nth l j=v:=by
 obtain ⟨j,hj,rfl⟩:=List.mem_iff_getElem.1 h;simp at hj;exact ⟨j,by omega,by omega,by rw [List.getElem_take,Zd (by omega)]⟩
theorem Qu {l:List Vis} {i j:Nat} (h:j<i) (hl:j<l.length):nth l j∈l.take i:=by
 rw [Zd hl];exact List.mem_iff_getElem.2 ⟨j,by simp;omega,by simp⟩
theorem J8 {l:List Vis} :UV l=false↔l.Nodup:=by
 rw [UV,List.any_eq_false]
 constructor
 ·intro h;rw [List.nodup_iff_pairwise_ne,List.pairwise_iff_getElem];intro i j hi hj hij e;have:=h j (by simpa using hj);simp only [decide_eq_true_eq,Xl] at this;refine this ?_;rw [Zd hj,<- e,<- Zd hi];exact Qu hij hi
 ·intro h j hj;simp only [decide_eq_true_eq,Xl];intro hm;obtain ⟨i,h1,h2,h3⟩:=Uf hm
  have hj2:j<l.length:=by simpa using hj
  have e1:=Vd h h2;have e2:=Vd h hj2;rw [h3] at e1;omega
def oIx (l:List Vis) (b:Int):Int:=fIx (fun v=>decide (v.order=b)) l
theorem KS {l:List Vis} {b:Int} :0<=oIx l b↔ ∃v∈l,v.order=b:=by
 have:=Zic (f:=fun v=>decide (v.order=b)) (l:=l);rw [<- ZV,hasO,<- this,oIx];simp
theorem Zai {l:List Vis} {b:Int} (h:0<=oIx l b):(oIx l b).toNat<l.length/\(nth l (oIx l b).toNat).order=b/\ ∀j,j<(oIx l b).toNat->(nth l j).order≠b:=by
 unfold oIx fIx at h ⊢
 cases hv:l.findIdx? (fun v=>decide (v.order=b)) with
 | none=>rw [hv] at h;simp at h
 | some i =>
  rw [List.findIdx?_eq_some_iff_getElem] at hv;obtain ⟨h1,h2,h3⟩:=hv;simp at h2;refine ⟨by simpa using h1,by simpa [Zd h1] using h2,fun j hj=> ?_⟩
  have hj2:j<i:=by simpa using hj
  have:=h3 j hj2;rw [Zd (by omega)];simpa using this
theorem Zrh {l:List Vis} {b:Int} {k:Nat} (hk:k<l.length) (h:(nth l k).order=b):0<=oIx l b/\oIx l b<=(k:Int):=by
 have h0:0<=oIx l b:=KS.2 ⟨_,ZC hk,h⟩;refine ⟨h0,?_⟩;obtain ⟨h1,h2,h3⟩:=Zai h0;rcases Nat.lt_or_ge k (oIx l b).toNat with h4 | h4
 ·exact absurd h (h3 k h4)
 ·omega
theorem Wf {l:List Vis} {a b:Int} :beforeB l a b=true↔(0<=oIx l b->(∃v∈l,v.order=a)/\ ∀j,j<l.length->(nth l j).order=a->(j:Int)<oIx l b):=by
 unfold beforeB;rw [show fIx (fun v=>decide (v.order=b)) l=oIx l b from rfl]
 by_cases h:oIx l b<0
 ·rw [if_pos h];exact ⟨fun _ h2=>by omega,fun _=>rfl⟩
 ·rw [if_neg h,Bool.and_eq_true,ZV]
  have h0:0<=oIx l b:=by omega
  obtain ⟨h1,h2,h3⟩:=Zai h0
  have hd:(!hasO (l.drop (oIx l b).toNat) a)=true↔ ∀j,j<l.length->(nth l j).order=a->(j:Int)<oIx l b:=by
   rw [Bool.not_eq_true',<- Bool.not_eq_true,ZV]
   constructor
   ·intro hno j hj e;rcases Int.lt_or_le (j:Int) (oIx l b) with h4 | h4
    ·exact h4
    ·refine absurd ⟨nth l j,?_,e⟩ hno;rw [Zd hj];exact List.mem_iff_getElem.2 ⟨j-(oIx l b).toNat,by simp;omega,by simp;congr 1;omega⟩
   ·rintro hall ⟨v,hv,e⟩;obtain ⟨j,hj,rfl⟩:=List.mem_iff_getElem.1 hv;simp at hj;rw [List.getElem_drop] at e;have:=hall ((oIx l b).toNat+j) (by omega) (by rw [Zd (by omega)];exact e);omega
  rw [hd];exact ⟨fun h _=>h,fun h=>h h0⟩
structure RightV (x:Inst) (l:List Vis):Prop where
 ne:l≠ []
 inr:Inr x l
 off: ∀v∈l,(nth x.orders v.order.toNat).off=false
 nodup:l.Nodup
 pair: ∀v∈l,pairB x.orders l v=true
 apart: ∀p∈x.apart,¬(hasO l p.1=true/\hasO l p.2=true)
 before: ∀p∈x.before,beforeB l p.1 p.2=true
theorem ZgZ {x:Inst} {l:List Vis} :Xm x l=0↔RightV x l:=by
 unfold Xm;rw [Yx (by omega),Yx (by omega),Yx (by omega),Yx (by omega),Yx (by omega),Yx (by omega)];simp only [and_true,Bool.not_eq_true,J8]
 have hin:l.any (ZbN x)=false↔Inr x l:=by
  rw [List.any_eq_false];exact ⟨fun h v hv=>by simpa [ZbN] using h v hv,fun h v hv=>by simpa [ZbN] using h v hv⟩
 constructor
 ·rintro ⟨h1,h2,h3,h4,h5,h6⟩;rw [not_or,Bool.not_eq_true,hin] at h1;rw [List.any_eq_false] at h2 h5 h6;refine ⟨fun e=>h1.1 (by rw [e];rfl),h1.2,fun v hv=>by simpa using h2 v hv,h3,?_,fun p hp=>by simpa using h5 p hp,fun p hp=>by simpa using h6 p hp⟩
  have:l.all (pairB x.orders l)=true:=by simpa using h4
  exact List.all_eq_true.1 this
 ·intro h;refine ⟨?_,?_,h.nodup,?_,?_,?_⟩
  ·rw [not_or,Bool.not_eq_true,hin];exact ⟨fun e=>h.ne (List.eq_nil_of_length_eq_zero e),h.inr⟩
  ·rw [List.any_eq_false];intro v hv;simp [h.off v hv]
  ·rw [List.all_eq_true.2 h.pair];simp
  ·rw [List.any_eq_false];intro p hp;simpa using h.apart p hp
  ·rw [List.any_eq_false];intro p hp;simpa using h.before p hp
theorem Zb6 {os:List Ord} {l:List Vis} {v:Vis} {i:Nat} (h:v.order=(i:Int)):pairB os l v=true↔v∈Z9 os i/\(∀w∈Z9 os i,w∈l)/\((⟨i,false⟩:Vis)∈Z9 os i->(⟨i,true⟩:Vis)∈Z9 os i->vIx l ⟨i,false⟩<vIx l ⟨i,true⟩):=by
 rw [pairB,h,Int.toNat_natCast,Bool.and_eq_true,decide_eq_true_eq,Xl];refine and_congr Iff.rfl ?_
 have hm: ∀w:Vis,-1<vIx l w↔w∈l:=fun w=>by rw [<- Xl];omega
 rcases UG os i with e | e | e | e<;>rw [e]
 ·simp [Za4]
 ·simp [Za4,hm]
 ·simp [Za4,hm]
 ·simp only [Za4,Bool.and_true,Bool.and_eq_true,decide_eq_true_eq,hm,List.mem_cons,List.not_mem_nil,or_false,forall_eq_or_imp,forall_eq]
  constructor
  ·rintro ⟨h1,h2⟩;exact ⟨⟨h1,Xl.1 (by have:=Xl.2 h1;omega)⟩,fun _ _=>h2⟩
  ·rintro ⟨⟨h1,_⟩,h2⟩;exact ⟨h1,h2 (by simp) (by simp)⟩
section
variable {x : Inst} {l : List Vis}
theorem RightV.bit (h:RightV x l) (i:Nat):(XA l).testBit i=true↔ ∃v∈l,v.order=(i:Int):=by
 rw [WV];exact ⟨fun ⟨v,hv,e⟩=>⟨v,hv,by have:=h.inr v hv;omega⟩,fun ⟨v,hv,e⟩=>⟨v,hv,by omega⟩⟩
theorem RightV.lt (h:RightV x l) (hf:IFacts x):XA l<9223372036854775808/\XA l / pw x.orders.length=0:=by
 have h1:XA l<9223372036854775808:=by
  have:=ZcW l.length (l:=l) (Nat.le_refl _) (fun v hv=>by
   rw [List.take_length] at hv;have:=h.inr v hv;have:=hf.len
   simp [inS];omega)
  rwa [List.take_length] at this
 refine ⟨h1,ZhK h1 fun j _ hj=> ?_⟩;obtain ⟨v,hv,e⟩:=(h.bit j).1 hj;have:=h.inr v hv;omega
theorem RightV.ord (h:RightV x l) (hf:IFacts x):ZfO l=(((XA l:Nat):Int),0):=by
 rw [ZfO,if_pos];rw [List.all_eq_true];intro v hv;have:=h.inr v hv;have:=hf.len;simp [inS];omega
theorem RightV.pairs (h:RightV x l) {v:Vis} (hv:v∈l): ∃i:Nat,v.order=(i:Int)/\i<x.orders.length/\v∈Z9 x.orders i/\(∀w∈Z9 x.orders i,w∈l)/\((⟨i,false⟩:Vis)∈Z9 x.orders i->(⟨i,true⟩:Vis)∈Z9 x.orders i->vIx l ⟨i,false⟩<vIx l ⟨i,true⟩):=by
 have h1:=h.inr v hv
 have e:v.order=(v.order.toNat:Int):=by omega
 exact ⟨v.order.toNat,e,by omega,(Zb6 e).1 (h.pair v hv)⟩
theorem RightV.step (h:RightV x l) {a b:Nat} (hE:Ed x.before a b) (hb:0<=oIx l b):0<=oIx l a/\oIx l a<oIx l b:=by
 obtain ⟨p,hp,e1,e2⟩:=hE;have hbe:=Wf.1 (h.before p hp);rw [e1,e2] at hbe;obtain ⟨h1,h2⟩:=hbe hb;have h0:=KS.2 h1;obtain ⟨g1,g2,_⟩:=Zai h0;have:=h2 _ g1 g2;exact ⟨h0,by omega⟩
theorem RightV.chain (h:RightV x l) {a b:Nat} (hc:Ch x.before a b) (hb:0<=oIx l b):0<=oIx l a/\oIx l a<oIx l b:=by
 induction hc with
 | one hE=>exact h.step hE hb
 | more _ hE ih =>
  have h1:=h.step hE hb;have h2:=ih h1.1;exact ⟨h2.1,by omega⟩
theorem RightV.alw (h:RightV x l) (hf:IFacts x):Alw x (XA l):=by
 have hn:x.orders.length<=60:=by have:=hf.len;omega
 refine ⟨fun i hi hb=> ?_,?_,fun p hp hb=> ?_,fun i hi hb hc=> ?_⟩
 ·obtain ⟨v,hv,e⟩:=(h.bit i).1 hb;have:=h.off v hv;rwa [e,Int.toNat_natCast] at this
 ·rw [apB,List.any_eq_false];intro p hp;have hv:=hf.aval p hp;rw [V0 h.inr hn _ (by omega),V0 h.inr hn _ (by omega),Bool.and_eq_true];exact h.apart p hp
 ·have hv:=hf.val p hp;rw [V0 h.inr hn _ (by omega)] at hb ⊢;rw [ZV] at hb ⊢;exact (Wf.1 (h.before p hp) (KS.2 hb)).1
 ·have hb2:=KS.2 ((h.bit i).1 hb);have:=(h.chain hc hb2).2;omega
theorem RightV.gr (h:RightV x l) (hf:IFacts x): ∀k,k<=l.length->Gr x (XA l) (l.take k)
 | 0,_=>by simpa using Gr.nil
 | k+1,hk=>by
  have hk2:k<l.length:=by omega
  have ih:=h.gr hf k (by omega)
  have e:l.take (k+1)=l.take k++ [nth l k]:=by rw [List.take_succ_eq_append_getElem hk2,Zd hk2]
  rw [e];obtain ⟨i,e1,hi,h1,h2,h3⟩:=h.pairs (ZC hk2);refine .snoc ih (YQ.2 ⟨i,hi,(h.bit i).2 ⟨_,ZC hk2,e1⟩,?_,h1,(Yk h1).2 ⟨?_,?_,?_⟩⟩)
  ·have:=h.off _ (ZC hk2);rwa [e1,Int.toNat_natCast] at this
  ·intro hm;obtain ⟨j,j1,j2,j3⟩:=Uf hm;have q1:=Vd h.nodup j2;have q2:=Vd h.nodup hk2;rw [j3] at q1;omega
  ·intro hd hq
   have e2:nth l k=⟨i,true⟩:=by rw [Ks];exact ⟨e1,hd⟩
   have h4:=h3 hq (by rw [<- e2];exact h1);rw [<- e2,Vd h.nodup hk2] at h4;have h5:=Xl.2 (h2 _ hq);obtain ⟨g1,g2⟩:=Zaq h5;rw [<- g2];exact Qu (by omega) g1
  ·intro p hp hpe w hw;obtain ⟨v1,v2,v3,v4⟩:=hf.val p hp;have hoi:=Zrh hk2 e1;have hbe:=Wf.1 (h.before p hp);rw [hpe] at hbe;obtain ⟨⟨v,hv,ev⟩,h5⟩:=hbe hoi.1;obtain ⟨a,a1,a2,a3,a4,a5⟩:=h.pairs hv
   have:a=p.1.toNat:=by omega
   subst this;have hwl:=a4 w hw;obtain ⟨g1,g2⟩:=Zaq (Xl.2 hwl);have h6:=h5 _ g1 (by rw [g2,Xc hw];omega);rw [<- g2];exact Qu (by omega) g1
theorem RightV.len (h:RightV x l) (hf:IFacts x):l.length=ZaY x (XA l) x.orders.length:=by
 have h1:=h.gr hf l.length (Nat.le_refl _);rw [List.take_length] at h1;have h2:=h1.len
 have h3: ∀v∈Zcx x (XA l) x.orders.length,v∈l:=fun v hv=>by
  obtain ⟨i,i1,i2,i3⟩:=X2.1 hv;obtain ⟨w,hw,e⟩:=(h.bit i).1 i2;obtain ⟨a,a1,a2,a3,a4,a5⟩:=h.pairs hw
  have:a=i:=by omega
  subst this;exact a4 v i3
 have h4:=ZaQ (Uz _ _ _) h3;rw [WQ] at h4;omega
theorem Gr.at {S:Nat} (h:Gr x S l): ∀k,k<l.length->nth l k∈nextU x S (l.take k) x.orders.length:=by
 induction h with
 | nil=>simp
 | snoc h hv ih =>
  rename_i l v;intro k hk;simp at hk;rcases Nat.lt_or_ge k l.length with h2 | h2
  ·have e1:nth (l++ [v]) k=nth l k:=by rw [Zd (by simp;omega),Zd h2,List.getElem_append_left h2]
   rw [e1,List.take_append_of_le_length (by omega)];exact ih k h2
  ·have:k=l.length:=by omega
   subst this
   have e1:nth (l++ [v]) l.length=v:=by rw [Zd (by simp)];simp
   rw [e1,List.take_append_of_le_length (Nat.le_refl _),List.take_length];exact hv
theorem Gr.right {S:Nat} (h:Gr x S l) (hf:IFacts x) (ha:Alw x S) (h0:S≠0) (hS:S / pw x.orders.length=0) (hl:l.length=ZaY x S x.orders.length):RightV x l/\XA l=S:=by
 have hn:x.orders.length<=60:=by have:=hf.len;omega
 have hfull:=h.full hl
 have hsub: ∀v∈l,∃i:Nat,v.order=(i:Int)/\i<x.orders.length/\S.testBit i=true/\v∈Z9 x.orders i:=fun v hv=>by
  obtain ⟨i,i1,i2,i3⟩:=X2.1 (h.sub v hv);exact ⟨i,Xc i3,i1,i2,i3⟩
 have hinr:Inr x l:=fun v hv=>by obtain ⟨i,e,i1,_,_⟩:=hsub v hv;omega
 have hgo: ∀k,k<l.length-> ∃i:Nat,(nth l k).order=(i:Int)/\nth l k∈Z9 x.orders i/\nth l k ∉ l.take k/\((nth l k).drp=true->(⟨i,false⟩:Vis)∈Z9 x.orders i->(⟨i,false⟩:Vis)∈l.take k)/\ ∀p∈x.before,p.2=(i:Int)-> ∀w∈Z9 x.orders p.1.toNat,w∈l.take k:=fun k hk=>by
  obtain ⟨i,i1,i2,i3,i4,i5⟩:=YQ.1 (h.at k hk);obtain ⟨r1,r2,r3⟩:=(Yk i4).1 i5;exact ⟨i,Xc i4,i4,r1,r2,r3⟩
 have hbit:XA l=S:=Nat.eq_of_testBit_eq fun i=>by
  rw [Bool.eq_iff_iff,WV]
  constructor
  ·rintro ⟨v,hv,e⟩;obtain ⟨j,j1,j2,j3,j4⟩:=hsub v hv
   have:i=j:=by omega
   rw [this];exact j3
  ·intro hb;have hi:=ZhT hS hb;obtain ⟨w,hw⟩:=List.exists_mem_of_ne_nil _ (hf.vne i hi);have:=Xc hw;exact ⟨w,hfull w (X2.2 ⟨i,hi,hb,hw⟩),by omega⟩
 refine ⟨⟨fun e=> ?_,hinr,fun v hv=> ?_,h.nodup,fun v hv=> ?_,fun p hp=> ?_,fun p hp=> ?_⟩,hbit⟩
 ·have:=Zho hf.vne hS h0;rw [e] at hl;simp at hl;omega
 ·obtain ⟨i,i1,i2,i3,i4⟩:=hsub v hv;rw [i1,Int.toNat_natCast];exact ha.off i i2 i3
 ·obtain ⟨i,i1,i2,i3,i4⟩:=hsub v hv;refine (Zb6 i1).2 ⟨i4,fun w hw=>hfull w (X2.2 ⟨i,i2,i3,hw⟩),fun hq1 hq2=> ?_⟩;have m2:=Xl.2 (hfull _ (X2.2 ⟨i,i2,i3,hq2⟩));obtain ⟨g1,g2⟩:=Zaq m2;obtain ⟨j,j1,j2,j3,j4,j5⟩:=hgo _ g1;rw [g2] at j1 j4
  have:j=i:=by simp at j1;omega
  subst this;obtain ⟨q,q1,q2,q3⟩:=Uf (j4 rfl hq1);have:=(Zry q2).2;rw [q3] at this;omega
 ·have:=ha.apart;rw [apB,List.any_eq_false] at this;have h2:=this p hp;have hv:=hf.aval p hp;rw [<- hbit,V0 hinr hn _ (by omega),V0 hinr hn _ (by omega),Bool.and_eq_true] at h2;exact h2
 ·rw [Wf];intro hb;have hv:=hf.val p hp;obtain ⟨g1,g2,g3⟩:=Zai hb;obtain ⟨j,j1,j2,j3,j4,j5⟩:=hgo _ g1;have hall:=j5 p hp (by rw [<- g2,j1]);refine ⟨?_,fun q hq e=> ?_⟩
  ·obtain ⟨w,hw⟩:=List.exists_mem_of_ne_nil _ (hf.vne p.1.toNat (by omega));exact ⟨w,List.mem_of_mem_take (hall w hw),by rw [Xc hw];omega⟩
  ·obtain ⟨i,i1,i2,i3,i4⟩:=hsub _ (ZC hq)
   have:i=p.1.toNat:=by omega
   subst this;obtain ⟨q2,r1,r2,r3⟩:=Uf (hall _ i4);have e1:=Vd h.nodup r2;have e2:=Vd h.nodup hq;rw [r3] at e1;omega
end
section
variable {σ : Type}
def lvR (nx:List Vis->List Vis):Nat->List Vis->List (List Vis)
 | 0,l=> [l]
 | f+1,l=>if nx l= [] then [l] else (nx l).flatMap fun v=>lvR nx f (l++ [v])
def lvW (nx:List Vis->List Vis) (go:σ->Vis->σ) (emp:σ->Bool):Nat->List Vis->σ->List (List Vis)
 | 0,l,_=> [l]
 | f+1,l,s=>(nx l).flatMap fun v=>if emp (go s v)=true then [] else lvW nx go emp f (l++ [v]) (go s v)
theorem Zhc {nx:List Vis->List Vis} : ∀(f:Nat) (l m:List Vis),m∈lvR nx f l-> ∃r,m=l++r
 | 0,l,m,h=>by simp only [lvR,List.mem_cons,List.not_mem_nil,or_false] at h;exact ⟨[],by simp [h]⟩
 | f+1,l,m,h=>by
  rw [lvR] at h
  split at h
  ·simp only [List.mem_cons,List.not_mem_nil,or_false] at h;exact ⟨[],by simp [h]⟩
  ·obtain ⟨v,_,h⟩:=List.mem_flatMap.1 h;obtain ⟨r,rfl⟩:=Zhc f _ m h;exact ⟨v::r,by simp⟩
theorem YC {α β:Type} {p:β->Bool} {g:α->List β} : ∀l:List α,(l.flatMap g).filter p=l.flatMap fun a=>(g a).filter p
 | []=>rfl
 | a::l=>by rw [List.flatMap_cons,List.flatMap_cons,List.filter_append,YC l]
theorem U1 {α β:Type} {g h:α->List β} : ∀ {l:List α},(∀a∈l,g a=h a)->l.flatMap g=l.flatMap h
 | [],_=>rfl
 | a::l,e=>by rw [List.flatMap_cons,List.flatMap_cons,e a (by simp),U1 fun b hb=>e b (List.mem_cons_of_mem _ hb)]
theorem Zsw {nx:List Vis->List Vis} {go:σ->Vis->σ} {emp:σ->Bool} {ok:List Vis->Bool} {G:List Vis->Prop} {R:List Vis->σ->Prop} {tot:Nat}
  (hG: ∀l v,G l->v∈nx l->G (l++ [v])) (hR: ∀l s v,G l->R l s->v∈nx l->R (l++ [v]) (go s v)) (hE: ∀l s,G l->R l s->emp s=true-> ∀r,ok (l++r)=false)
  (hN: ∀l,G l->l.length<tot->nx l≠ []): ∀(f:Nat) (l:List Vis) (s:σ),G l->R l s->l.length+f=tot->(lvR nx f l).filter ok=(lvW nx go emp f l s).filter ok
 | 0,l,s,_,_,_=>rfl
 | f+1,l,s,hl,hs,ht=>by
  rw [lvR,lvW,if_neg (hN l hl (by omega)),YC,YC];refine U1 fun v hv=> ?_;have h1:=hG l v hl hv;have h2:=hR l s v hl hs hv
  split
  ·rename_i he;rw [List.filter_nil,List.filter_eq_nil_iff];intro m hm;obtain ⟨r,rfl⟩:=Zhc f _ m hm;rw [hE _ _ h1 h2 he r];simp
  ·exact Zsw hG hR hE hN f _ _ h1 h2 (by simp;omega)
def WW (ok:List Vis->Bool) (col:List Vis->Col) (better:Col->Col->Bool) (b:Col×Bool) (l:List Vis):Col×Bool:=if ok l=true/\(b.2=false\/better (col l) b.1=true) then (col l,true) else b
theorem Wq {ok:List Vis->Bool} {col:List Vis->Col} {better:Col->Col->Bool} : ∀(L:List (List Vis)) (b:Col×Bool),L.foldl (WW ok col better) b=(L.filter ok).foldl (WW ok col better) b
 | [],b=>rfl
 | l::L,b=>by
  rw [List.foldl_cons,List.filter_cons]
  split
  ·rw [List.foldl_cons];exact Wq L _
  ·rename_i h;rw [WW,if_neg (fun g=>h g.1)];exact Wq L b
end
def Xb (p:Pln):AM.Obj:= .cells [.p (.list p.routes_c (p.routes.map eRte)),.p (.list p.unserved_c (p.unserved.map eI))]
def Zdq (r:Rte):Prop:=r.visits.length<=1048576/\r.rests.length<=1048576
end Go.Proofs.YthmplgaldjpgiaaGreatDoor.K
set_option linter.unusedVariables false
set_option linter.unusedSimpArgs false
namespace Go.Proofs.YthmplgaldjpgiaaGreatDoor.K
section
variable {L : Type} (fin : L -> Int) (beats : L -> L -> Bool) (nxt : Nat -> L -> Bool -> Option L) (choices : Nat -> List Bool)
def fmL : Option L->List L->Option L
 | b,[]=>b
 | none,x::l=>fmL (some x) l
 | some m,x::l=>if fin x<fin m then fmL (some x) l else fmL (some m) l
theorem Uv : ∀(b:Option L) (l r:List L),fmL fin b (l++r)=fmL fin (fmL fin b l) r
 | b,[],r=>by cases b<;>simp [fmL]
 | none,x::l,r=>by rw [List.cons_append,fmL,fmL,Uv]
 | some m,x::l,r=>by
  rw [List.cons_append,fmL,fmL]
  split
  ·rw [Uv]
  ·rw [Uv]
theorem WR : ∀(l:List L) (m:L),∃z,fmL fin (some m) l=some z/\fin z<=fin m/\ ∀y∈l,fin z<=fin y
 | [],m=>⟨m,rfl,by omega,by simp⟩
 | x::l,m=>by
  rw [fmL]
  split
  ·rename_i h;obtain ⟨z,e,h1,h2⟩:=WR l x;refine ⟨z,e,by omega,fun y hy=> ?_⟩;rcases List.mem_cons.1 hy with rfl | hy
   ·exact h1
   ·exact h2 y hy
  ·rename_i h;obtain ⟨z,e,h1,h2⟩:=WR l m;refine ⟨z,e,h1,fun y hy=> ?_⟩;rcases List.mem_cons.1 hy with rfl | hy
   ·omega
   ·exact h2 y hy
theorem ZdB : ∀(l:List L) (m:L),(∀y∈l,fin m<=fin y)->fmL fin (some m) l=some m
 | [],m,_=>rfl
 | x::l,m,h=>by
  have:=h x List.mem_cons_self;rw [fmL,if_neg (by omega)];exact ZdB l m fun y hy=>h y (List.mem_cons_of_mem _ hy)
theorem ZfV (A B:List L) (h: ∀y∈B,∃z∈A,fin z<=fin y):fmL fin none (A++B)=fmL fin none A:=by
 rw [Uv]
 cases A with
 | nil=>cases B with
  | nil=>rfl
  | cons y B=>obtain ⟨z,hz,_⟩:=h y List.mem_cons_self;simp at hz
 | cons a A =>
  rw [fmL];obtain ⟨z,e,h1,h2⟩:=WR fin A a;rw [e];refine ZdB fin B z fun y hy=> ?_;obtain ⟨q,hq,hle⟩:=h y hy;rcases List.mem_cons.1 hq with rfl | hq
  ·omega
  ·have:=h2 q hq;omega
def Z6 : List L->List L->List L
 | out,[]=>out
 | out,x::l=>if out.any (fun m=>beats m x)=true then Z6 out l else Z6 (out++ [x]) l
theorem JN {R:L->List L} : ∀(c out:List L),(∀x∈out++c,∀m∈out++c,beats m x=true-> ∀y∈R x,∃z∈R m,fin z<=fin y)->fmL fin none ((Z6 beats out c).flatMap R)=fmL fin none ((out++c).flatMap R)
 | [],out,_=>by simp [Z6]
 | x::c,out,h=>by
  rw [Z6]
  split
  ·rename_i hb;obtain ⟨m,hm,hb⟩:=List.any_eq_true.1 hb
   have hb:beats m x=true:=by simpa using hb
   rw [JN c out (fun a ha b hb=>h a (by simp only [List.mem_append,List.mem_cons] at ha ⊢;rcases ha with h | h<;>simp [h]) b (by simp only [List.mem_append,List.mem_cons] at hb ⊢;rcases hb with h | h<;>simp [h]))];rw [List.flatMap_append,List.flatMap_append,List.flatMap_cons,<- List.append_assoc,Uv,Uv (l:=out.flatMap R++R x)];rw [ZfV fin (out.flatMap R) (R x)];intro y hy;obtain ⟨z,hz,hle⟩:=h x (by simp) m (by simp [hm]) hb y hy;exact ⟨z,List.mem_flatMap.2 ⟨m,hm,hz⟩,hle⟩
  ·rw [JN c (out++ [x]) (by simpa using h)];simp
theorem V1 : ∀(c out:List L),∀x∈Z6 beats out c,x∈out++c
 | [],out,x,h=>by simpa [Z6] using h
 | a::c,out,x,h=>by
  rw [Z6] at h
  split at h
  ·have:=V1 c out x h;simp only [List.mem_append,List.mem_cons] at this ⊢;rcases this with h | h<;>simp [h]
  ·have:=V1 c (out++ [a]) x h;simpa using this
def ZkY : Nat->Nat->List (List Bool)
 | 0,_=> [[]]
 | j+1,k=>(choices k).flatMap fun b=>(ZkY j (k+1)).map (b:: ·)
def JW : Nat->L->List Bool->Option L
 | _,x,[]=>some x
 | k,x,b::bs=>match nxt k x b with
  | some y=>JW (k+1) y bs
  | none=>none
def YT (j k:Nat) (x:L):List L:=(ZkY choices j k).filterMap (JW nxt k x)
def Y5 (k:Nat) (l:List L):List L:=l.flatMap fun x=>(choices k).filterMap (nxt k x)
def U8 : Nat->Nat->List L->List L
 | 0,_,l=>l
 | j+1,k,l=>U8 j (k+1) (Z6 beats [] (Y5 nxt choices k l))
theorem KI (k:Nat) (x:L):YT nxt choices 0 k x= [x]:=rfl
theorem Kf (j k:Nat) (x:L):YT nxt choices (j+1) k x=((choices k).filterMap (nxt k x)).flatMap (YT nxt choices j (k+1)):=by
 unfold YT;rw [ZkY]
 induction choices k with
 | nil=>rfl
 | cons b bs ih =>
  rw [List.flatMap_cons,List.filterMap_append,ih,List.filterMap_cons]
  cases h:nxt k x b with
  | none =>
   rw [List.filterMap_map]
   have:(JW nxt k x∘fun l=>b::l)=fun _=>none:=by funext l;simp [JW,h]
   rw [this];simp
  | some y =>
   rw [List.filterMap_map]
   have:(JW nxt k x∘fun l=>b::l)=JW nxt (k+1) y:=by funext l;simp [JW,h]
   rw [this];rfl
theorem Zbb {n:Nat} {Inv:Nat->L->Prop} (hI: ∀k x b y,Inv k x->nxt k x b=some y->Inv (k+1) y) (hd: ∀k m x b y,Inv k m->Inv k x->beats m x=true->nxt k x b=some y-> ∃z,nxt k m b=some z/\beats z y=true)
  (he: ∀m x,Inv n m->Inv n x->beats m x=true->fin m<=fin x): ∀(j k:Nat) (m x:L),k+j=n->Inv k m->Inv k x->beats m x=true-> ∀y∈YT nxt choices j k x,∃z∈YT nxt choices j k m,fin z<=fin y
 | 0,k,m,x,hk,h1,h2,hb,y,hy=>by
  rw [KI] at hy ⊢;simp at hy;subst hy
  have hk:k=n:=by omega
  subst hk;exact ⟨m,by simp,he m y h1 h2 hb⟩
 | j+1,k,m,x,hk,h1,h2,hb,y,hy=>by
  rw [Kf] at hy ⊢;obtain ⟨q,hq,hy⟩:=List.mem_flatMap.1 hy;obtain ⟨b,hbm,hn⟩:=List.mem_filterMap.1 hq;obtain ⟨z,hz,hzb⟩:=hd k m x b q h1 h2 hb hn;obtain ⟨u,hu,hle⟩:=Zbb hI hd he j (k+1) z q (by omega) (hI k m b z h1 hz) (hI k x b q h2 hn) hzb y hy;exact ⟨u,List.mem_flatMap.2 ⟨z,List.mem_filterMap.2 ⟨b,hbm,hz⟩,hu⟩,hle⟩
theorem Zhy {n:Nat} {Inv:Nat->L->Prop} (hI: ∀k x b y,Inv k x->nxt k x b=some y->Inv (k+1) y) (hd: ∀k m x b y,Inv k m->Inv k x->beats m x=true->nxt k x b=some y-> ∃z,nxt k m b=some z/\beats z y=true)
  (he: ∀m x,Inv n m->Inv n x->beats m x=true->fin m<=fin x): ∀(j k:Nat) (l:List L),k+j=n->(∀x∈l,Inv k x)->fmL fin none (U8 beats nxt choices j k l)=fmL fin none (l.flatMap (YT nxt choices j k))
 | 0,k,l,hk,hl=>by
  have:l.flatMap (YT nxt choices 0 k)=l:=by
   have:YT nxt choices 0 k=fun x=> [x]:=by funext x;exact KI nxt choices k x
   rw [this];simp
  rw [this];rfl
 | j+1,k,l,hk,hl=>by
  have hc: ∀x∈Y5 nxt choices k l,Inv (k+1) x:=fun x hx=>by
   obtain ⟨q,hq,hx⟩:=List.mem_flatMap.1 hx;obtain ⟨b,_,hn⟩:=List.mem_filterMap.1 hx;exact hI k q b x (hl q hq) hn
  have e:l.flatMap (YT nxt choices (j+1) k)=(Y5 nxt choices k l).flatMap (YT nxt choices j (k+1)):=by
   rw [Y5,List.flatMap_assoc]
   congr 1
   funext x
   exact Kf nxt choices j k x
  rw [U8,Zhy hI hd he j (k+1) _ (by omega) (fun x hx=>hc x (by simpa using V1 beats _ _ x hx)),JN fin beats _ _ (fun x hx m hm hb y hy=> ?_),e]
  ·simp
  ·exact Zbb fin beats nxt choices hI hd he j (k+1) m x (by omega) (hc m (by simpa using hm)) (hc x (by simpa using hx)) hb y hy
def Yv : List Bool->List (List Bool)
 | []=> [[]]
 | b::bs=>if b then (Yv bs).map (true:: ·) else (Yv bs).map (false:: ·)++(Yv (List.replicate bs.length false)).map (true:: ·)
termination_by l => l.length
decreasing_by all_goals simp
def QG : List Bool->Option (List Bool)
 | []=>none
 | b::bs=>match QG bs with
  | some l=>some (b::l)
  | none=>if b then none else some (true::List.replicate bs.length false)
theorem WX : ∀l:List Bool,Yv l=l::(match QG l with | some r=>Yv r | none=> [])
 | []=>by simp [Yv,QG]
 | b::bs=>by
  have ih:=WX bs
  have e0: ∀l:List Bool,Yv (true::l)=(Yv l).map (true:: ·):=fun l=>by rw [Yv];simp
  have e1: ∀l:List Bool,Yv (false::l)=(Yv l).map (false:: ·)++(Yv (List.replicate l.length false)).map (true:: ·):=fun l=>by rw [Yv];simp
  cases b with
  | true =>
   rw [e0,ih,QG]
   cases h:QG bs with
   | none=>simp
   | some r=>simp [e0]
  | false =>
   rw [e1,ih,QG]
   cases h:QG bs with
   | none=>simp [e0]
   | some r =>
    have hl:r.length=bs.length:=nlen bs r h;simp [e1,hl]
where nlen : ∀(l r:List Bool),QG l=some r->r.length=l.length
 | [],r,h=>by simp [QG] at h
 | b::bs,r,h=>by
  rw [QG] at h
  cases h2:QG bs with
  | none =>
   rw [h2] at h
   cases b<;>simp at h
   subst h;simp
  | some q =>
   rw [h2] at h;simp at h;subst h;simp [nlen bs q h2]
theorem ZeD {n:Nat} : ∀(j k:Nat),(∀q,k<=q->choices q= [false,true])->ZkY choices j k=Yv (List.replicate j false)
 | 0,k,_=>by simp [ZkY,Yv]
 | j+1,k,h=>by
  rw [ZkY,h k (Nat.le_refl _),ZeD (n:=n) j (k+1) (fun q hq=>h q (by omega)),List.replicate_succ,Yv];simp
end
end Go.Proofs.YthmplgaldjpgiaaGreatDoor.K
