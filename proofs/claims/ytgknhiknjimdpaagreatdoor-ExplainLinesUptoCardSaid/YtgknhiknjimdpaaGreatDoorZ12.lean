/- Declarations that the closing texts need, part 12: joined by tools/slim.py. -/
import Derived.Test.YtgknhiknjimdpaaGreatDoorZ11
import Derived.Test.YtgknhiknjimdpaaGreatDoorRows
namespace Go.Proofs.YtgknhiknjimdpaaGreatDoor.K
open Go Go.AM Go.Proofs
theorem ZbF : Tryz.prog.cellsOf 3=1:=by kernel_rfl
theorem Zk8 : Tryz.prog.cellsOf 4=1:=by kernel_rfl
theorem ZjV : Tryz.prog.cellsOf 9=1:=by kernel_rfl
theorem Zh6 : Tryz.prog.cellsOf 22=1:=by kernel_rfl
theorem ZiI : Tryz.prog.cellsOf 23=1:=by kernel_rfl
theorem Zfy : Tryz.prog.cellsOf 25=2:=by kernel_rfl
theorem ZiX : pcs Tryz.prog 25=some [(0,22),(1,23)]:=by kernel_rfl
theorem Zjk : Tryz.prog.cellsOf 26=1:=by kernel_rfl
theorem Zjl : Tryz.prog.cellsOf 27=1:=by kernel_rfl
theorem Zie : Tryz.prog.cellsOf 28=1:=by kernel_rfl
theorem Ziz : Tryz.prog.cellsOf 30=6:=by kernel_rfl
theorem Zev : pcs Tryz.prog 30=some [(0,25),(2,26),(3,27),(4,28),(5,28)]:=by kernel_rfl
theorem Zem : Tryz.prog.cellsOf 32=1:=by kernel_rfl
theorem ZiQ : Tryz.prog.cellsOf 54=14:=by kernel_rfl
theorem Zeo : pcs Tryz.prog 54=some [(0,9),(1,3),(2,3),(3,3),(4,32),(5,3),(6,3),(7,3),(8,3),(9,3),(10,3),(11,3),(12,3),(13,3)]:=by kernel_rfl
theorem Zft : Tryz.prog.cellsOf 56=4:=by kernel_rfl
theorem Zi9 : pcs Tryz.prog 56=some [(0,3),(1,3),(2,3),(3,3)]:=by kernel_rfl
theorem Ziq : Tryz.prog.cellsOf 58=16:=by kernel_rfl
theorem ZdK : pcs Tryz.prog 58=some [(0,9),(1,32),(2,56),(6,56),(10,3),(11,3),(12,3),(13,3),(14,3),(15,4)]:=by kernel_rfl
theorem Zjc : Tryz.prog.cellsOf 79=2:=by kernel_rfl
theorem ZeZ : pcs Tryz.prog 79=some [(0,3),(1,3)]:=by kernel_rfl
theorem Zh5 : Tryz.prog.cellsOf 89=1:=by kernel_rfl
theorem Ziw : Tryz.prog.cellsOf 91=6:=by kernel_rfl
theorem ZdH : pcs Tryz.prog 91=some [(0,3),(1,3),(2,3),(3,3),(4,89),(5,89)]:=by kernel_rfl
theorem ZhT : Tryz.prog.cellsOf 94=2:=by kernel_rfl
theorem ZdY : pcs Tryz.prog 94=some [(0,3),(1,3)]:=by kernel_rfl
theorem Zfq : Tryz.prog.cellsOf 118=2:=by kernel_rfl
theorem Zbk : pcs Tryz.prog 118=some [(0,3),(1,3)]:=by kernel_rfl
set_option linter.unusedVariables false
set_option linter.unusedSimpArgs false
mutual
theorem Jn {H:Type} :(d:DataW H)->dsz d<=Rows.uptoBulk d
 | .lit l=>by cases l<;>simp [dsz,Rows.uptoBulk]
 | .nil=>by simp [dsz,Rows.uptoBulk]
 | .ptr d=>by have:=Jn d;simp only [dsz,Rows.uptoBulk];omega
 | .slice es sp=>by have:=Wq es;have:=Wq sp;simp only [dsz,Rows.uptoBulk];omega
 | .agg ps=>by have:=Wq ps;simp only [dsz,Rows.uptoBulk];omega
 | .iface _ d=>by have:=Jn d;simp only [dsz,Rows.uptoBulk];omega
 | .map es=>by simp only [dsz,Rows.uptoBulk];omega
 | .held h=>by simp [dsz,Rows.uptoBulk]
theorem Wq {H:Type} :(l:List (DataW H))->V5 l<=Rows.uptoBulkAll l
 | []=>by simp [V5,Rows.uptoBulkAll]
 | d::r=>by have:=Jn d;have:=Wq r;simp only [V5,Rows.uptoBulkAll];omega
end
theorem QI {H:Type} {l:List (DataW H)} (h:Rows.uptoSmall H l=true):V5 l<=1048576:=by
 have h1:=Wq l;have h2:Rows.uptoBulkAll l<=1048576:=of_decide_eq_true h;omega
abbrev I64 (n:Int):Prop:= -9223372036854775808<=n/\n<=9223372036854775807
def eI (n:Int):PV:= .int .i64 n
def eB (b:Bool):PV:= .bool b
def eS (s:List UInt8):PV:= .str s
def eP (p:Int×Int):PV:= .agg [.int .i64 p.1,.int .i64 p.2]
@[go_sem] theorem Zla (n:Int):eI n= .int .i64 n:=Eq.trans rfl rfl
@[go_sem] theorem ZkN (s:List UInt8):eS s= .str s:=Eq.trans rfl rfl
@[go_sem] theorem ZkS (p:Int×Int):eP p= .agg [.int .i64 p.1,.int .i64 p.2]:=Eq.trans rfl rfl
theorem Qi {B xs} (h: ∀y∈xs,FitV Tryz.prog B 3 y): ∃l:List Int,xs=l.map eI/\ ∀n∈l,I64 n :=
 Xg (f:=eI) fun y hy=>by
  obtain ⟨n,rfl,w⟩:=Zcv Tryz.underlying3 (h y hy);exact ⟨n,rfl,Zz w⟩
theorem Zaw {B xs} (h: ∀y∈xs,FitV Tryz.prog B 9 y): ∃l:List (List UInt8),xs=l.map eS/\ ∀s∈l,s.length<=B :=
 Xg (f:=eS) fun y hy=>by
  obtain ⟨s,rfl,w,_⟩:=Zb9 Tryz.underlying9 (h y hy);exact ⟨s,rfl,w⟩
theorem Zhq {α:Type} {l:List α} (h:l.length=2): ∃a0 a1,l= [a0,a1]:=by
 match l,h with | [a0,a1],_=>exact ⟨a0,a1,rfl⟩
theorem ZjK {α:Type} {l:List α} (h:l.length=6): ∃a0 a1 a2 a3 a4 a5,l= [a0,a1,a2,a3,a4,a5]:=by
 match l,h with | [a0,a1,a2,a3,a4,a5],_=>exact ⟨a0,a1,a2,a3,a4,a5,rfl⟩
theorem ZhP {α:Type} {l:List α} (h:l.length=14): ∃a0 a1 a2 a3 a4 a5 a6 a7 a8 a9 a10 a11 a12 a13,l= [a0,a1,a2,a3,a4,a5,a6,a7,a8,a9,a10,a11,a12,a13]:=by
 match l,h with | [a0,a1,a2,a3,a4,a5,a6,a7,a8,a9,a10,a11,a12,a13],_=>exact ⟨a0,a1,a2,a3,a4,a5,a6,a7,a8,a9,a10,a11,a12,a13,rfl⟩
theorem Zk0 {α:Type} {l:List α} (h:l.length=4): ∃a0 a1 a2 a3,l= [a0,a1,a2,a3]:=by
 match l,h with | [a0,a1,a2,a3],_=>exact ⟨a0,a1,a2,a3,rfl⟩
theorem Zjm {α:Type} {l:List α} (h:l.length=16): ∃a0 a1 a2 a3 a4 a5 a6 a7 a8 a9 a10 a11 a12 a13 a14 a15,l= [a0,a1,a2,a3,a4,a5,a6,a7,a8,a9,a10,a11,a12,a13,a14,a15]:=by
 match l,h with | [a0,a1,a2,a3,a4,a5,a6,a7,a8,a9,a10,a11,a12,a13,a14,a15],_=>exact ⟨a0,a1,a2,a3,a4,a5,a6,a7,a8,a9,a10,a11,a12,a13,a14,a15,rfl⟩
structure Pt where
 t:Int
 a:Int
 deriving Inhabited
def cPt (x:Pt):List PV:= [.int .i64 x.t,.int .i64 x.a]
def ePt (x:Pt):PV:= .agg [.int .i64 x.t,.int .i64 x.a]
@[go_sem] theorem Zkf (x:Pt):ePt x= .agg [.int .i64 x.t,.int .i64 x.a]:=Eq.trans rfl rfl
def Pt.wf (B:Nat) (x:Pt):Prop:=I64 x.t/\I64 x.a
theorem Zcs {B m cs} (h:XJ Tryz.prog B m 118 cs): ∃x:Pt,cs=cPt x/\x.wf B:=by
 obtain ⟨h1,m',h2⟩:=Z8 Zbk Zfq h;obtain ⟨a0,a1,rfl⟩:=Zhq h1;obtain ⟨n0,e0,w0⟩:=Zg Tryz.underlying3 (h2 (0,3) (by simp));obtain ⟨n1,e1,w1⟩:=Zg Tryz.underlying3 (h2 (1,3) (by simp));simp [ZbF] at e0 e1;subst e0;subst e1;exact ⟨⟨n0,n1⟩,rfl,Zz w0,Zz w1⟩
theorem Zbn {B v} (h:FitV Tryz.prog B 118 v): ∃x:Pt,v=ePt x/\x.wf B:=by
 obtain ⟨k,cs,h,e⟩:=h.out;obtain ⟨x,rfl,hw⟩:=Zcs h;exact ⟨x,e.trans (by rw [WV,if_pos (Z9 Zbk)];rfl),hw⟩
structure Arc where
 src:Int
 dst:Int
 prof:Int
 miles:Int
 travel_c:Bool
 travel:List (Pt)
 slow_c:Bool
 slow:List (Pt)
 deriving Inhabited
def ZkL (x:Arc):List PV:= [.int .i64 x.src,.int .i64 x.dst,.int .i64 x.prof,.int .i64 x.miles,.list x.travel_c (x.travel.map ePt),.list x.slow_c (x.slow.map ePt)]
def KN (x:Arc):PV:= .agg [.int .i64 x.src,.int .i64 x.dst,.int .i64 x.prof,.int .i64 x.miles,.list x.travel_c (x.travel.map ePt),.list x.slow_c (x.slow.map ePt)]
@[go_sem] theorem Zjn (x:Arc):KN x= .agg [.int .i64 x.src,.int .i64 x.dst,.int .i64 x.prof,.int .i64 x.miles,.list x.travel_c (x.travel.map ePt),.list x.slow_c (x.slow.map ePt)]:=Eq.trans rfl rfl
def Arc.wf (B:Nat) (x:Arc):Prop:=I64 x.src/\I64 x.dst/\I64 x.prof/\I64 x.miles/\x.travel.length<=B/\(∀y∈x.travel,Pt.wf B y)/\x.slow.length<=B/\(∀y∈x.slow,Pt.wf B y)
theorem Zal {B m cs} (h:XJ Tryz.prog B m 91 cs): ∃x:Arc,cs=ZkL x/\x.wf B:=by
 obtain ⟨h1,m',h2⟩:=Z8 ZdH Ziw h;obtain ⟨a0,a1,a2,a3,a4,a5,rfl⟩:=ZjK h1;obtain ⟨n0,e0,w0⟩:=Zg Tryz.underlying3 (h2 (0,3) (by simp));obtain ⟨n1,e1,w1⟩:=Zg Tryz.underlying3 (h2 (1,3) (by simp));obtain ⟨n2,e2,w2⟩:=Zg Tryz.underlying3 (h2 (2,3) (by simp));obtain ⟨n3,e3,w3⟩:=Zg Tryz.underlying3 (h2 (3,3) (by simp));obtain ⟨y4,e4,w4,_,z4⟩:=ZJ Tryz.underlying89 (h2 (4,89) (by simp));obtain ⟨n4,rfl,u4⟩:=Xg (f:=ePt) fun y hy=>Zbn (z4 y hy);obtain ⟨y5,e5,w5,_,z5⟩:=ZJ Tryz.underlying89 (h2 (5,89) (by simp))
 obtain ⟨n5,rfl,u5⟩:=Xg (f:=ePt) fun y hy=>Zbn (z5 y hy);simp [Zh5,ZbF] at e0 e1 e2 e3 e4 e5;subst e0;subst e1;subst e2;subst e3;subst e4;subst e5;exact ⟨⟨n0,n1,n2,n3,false,n4,false,n5⟩,rfl,Zz w0,Zz w1,Zz w2,Zz w3,by simpa using w4,u4,by simpa using w5,u5⟩
theorem ZbH {B v} (h:FitV Tryz.prog B 91 v): ∃x:Arc,v=KN x/\x.wf B:=by
 obtain ⟨k,cs,h,e⟩:=h.out;obtain ⟨x,rfl,hw⟩:=Zal h;exact ⟨x,e.trans (by rw [WV,if_pos (Z9 ZdH)];rfl),hw⟩
structure Net where
 places_c:Bool
 places:List (List UInt8)
 arcs_c:Bool
 arcs:List (Arc)
 deriving Inhabited
def ZjT (x:Net):List PV:= [.list x.places_c (x.places.map eS),.list x.arcs_c (x.arcs.map KN)]
def Zbj (x:Net):PV:= .agg [.list x.places_c (x.places.map eS),.list x.arcs_c (x.arcs.map KN)]
@[go_sem] theorem Zig (x:Net):Zbj x= .agg [.list x.places_c (x.places.map eS),.list x.arcs_c (x.arcs.map KN)]:=Eq.trans rfl rfl
def Net.wf (B:Nat) (x:Net):Prop:=x.places.length<=B/\(∀s∈x.places,s.length<=B)/\x.arcs.length<=B/\(∀y∈x.arcs,Arc.wf B y)
theorem ZaV {B m cs} (h:XJ Tryz.prog B m 25 cs): ∃x:Net,cs=ZjT x/\x.wf B:=by
 obtain ⟨h1,m',h2⟩:=Z8 ZiX Zfy h;obtain ⟨a0,a1,rfl⟩:=Zhq h1;obtain ⟨y0,e0,w0,_,z0⟩:=ZJ Tryz.underlying22 (h2 (0,22) (by simp));obtain ⟨n0,rfl,u0⟩:=Zaw z0;obtain ⟨y1,e1,w1,_,z1⟩:=ZJ Tryz.underlying23 (h2 (1,23) (by simp));obtain ⟨n1,rfl,u1⟩:=Xg (f:=KN) fun y hy=>ZbH (z1 y hy);simp [ZiI,Zh6] at e0 e1;subst e0;subst e1;exact ⟨⟨false,n0,false,n1⟩,rfl,by simpa using w0,u0,by simpa using w1,u1⟩
structure Typ where
 name:List UInt8
 count:Int
 src:Int
 dst:Int
 cap_c:Bool
 cap:List (Int)
 skills:Int
 prof:Int
 opn:Int
 cls:Int
 drive:Int
 rest:Int
 fixed:Int
 perMile:Int
 perTick:Int
 deriving Inhabited
def Zk3 (x:Typ):List PV:= [.str x.name,.int .i64 x.count,.int .i64 x.src,.int .i64 x.dst,.list x.cap_c (x.cap.map eI),.int .i64 x.skills,.int .i64 x.prof,.int .i64 x.opn,.int .i64 x.cls,.int .i64 x.drive,.int .i64 x.rest,.int .i64 x.fixed,.int .i64 x.perMile,.int .i64 x.perTick]
def JQ (x:Typ):PV:= .agg [.str x.name,.int .i64 x.count,.int .i64 x.src,.int .i64 x.dst,.list x.cap_c (x.cap.map eI),.int .i64 x.skills,.int .i64 x.prof,.int .i64 x.opn,.int .i64 x.cls,.int .i64 x.drive,.int .i64 x.rest,.int .i64 x.fixed,.int .i64 x.perMile,.int .i64 x.perTick]
@[go_sem] theorem ZiP (x:Typ):JQ x= .agg [.str x.name,.int .i64 x.count,.int .i64 x.src,.int .i64 x.dst,.list x.cap_c (x.cap.map eI),.int .i64 x.skills,.int .i64 x.prof,.int .i64 x.opn,.int .i64 x.cls,.int .i64 x.drive,.int .i64 x.rest,.int .i64 x.fixed,.int .i64 x.perMile,.int .i64 x.perTick]:=Eq.trans rfl rfl
def Typ.wf (B:Nat) (x:Typ):Prop:=x.name.length<=B/\I64 x.count/\I64 x.src/\I64 x.dst/\x.cap.length<=B/\(∀n∈x.cap,I64 n)/\I64 x.skills/\I64 x.prof/\I64 x.opn/\I64 x.cls/\I64 x.drive/\I64 x.rest/\I64 x.fixed/\I64 x.perMile/\I64 x.perTick
theorem ZaY {B m cs} (h:XJ Tryz.prog B m 54 cs): ∃x:Typ,cs=Zk3 x/\x.wf B:=by
 obtain ⟨h1,m',h2⟩:=Z8 Zeo ZiQ h;obtain ⟨a0,a1,a2,a3,a4,a5,a6,a7,a8,a9,a10,a11,a12,a13,rfl⟩:=ZhP h1;obtain ⟨n0,e0,w0,_⟩:=WZ Tryz.underlying9 (h2 (0,9) (by simp));obtain ⟨n1,e1,w1⟩:=Zg Tryz.underlying3 (h2 (1,3) (by simp));obtain ⟨n2,e2,w2⟩:=Zg Tryz.underlying3 (h2 (2,3) (by simp));obtain ⟨n3,e3,w3⟩:=Zg Tryz.underlying3 (h2 (3,3) (by simp));obtain ⟨y4,e4,w4,_,z4⟩:=ZJ Tryz.underlying32 (h2 (4,32) (by simp));obtain ⟨n4,rfl,u4⟩:=Qi z4;obtain ⟨n5,e5,w5⟩:=Zg Tryz.underlying3 (h2 (5,3) (by simp))
 obtain ⟨n6,e6,w6⟩:=Zg Tryz.underlying3 (h2 (6,3) (by simp));obtain ⟨n7,e7,w7⟩:=Zg Tryz.underlying3 (h2 (7,3) (by simp));obtain ⟨n8,e8,w8⟩:=Zg Tryz.underlying3 (h2 (8,3) (by simp));obtain ⟨n9,e9,w9⟩:=Zg Tryz.underlying3 (h2 (9,3) (by simp));obtain ⟨n10,e10,w10⟩:=Zg Tryz.underlying3 (h2 (10,3) (by simp));obtain ⟨n11,e11,w11⟩:=Zg Tryz.underlying3 (h2 (11,3) (by simp));obtain ⟨n12,e12,w12⟩:=Zg Tryz.underlying3 (h2 (12,3) (by simp));obtain ⟨n13,e13,w13⟩:=Zg Tryz.underlying3 (h2 (13,3) (by simp));simp [Zem,ZbF,ZjV] at e0 e1 e2 e3 e4 e5 e6 e7 e8 e9 e10 e11 e12 e13
 subst e0;subst e1;subst e2;subst e3;subst e4;subst e5;subst e6;subst e7;subst e8;subst e9;subst e10;subst e11;subst e12;subst e13;exact ⟨⟨n0,n1,n2,n3,false,n4,n5,n6,n7,n8,n9,n10,n11,n12,n13⟩,rfl,w0,Zz w1,Zz w2,Zz w3,by simpa using w4,u4,Zz w5,Zz w6,Zz w7,Zz w8,Zz w9,Zz w10,Zz w11,Zz w12,Zz w13⟩
theorem ZbD {B v} (h:FitV Tryz.prog B 54 v): ∃x:Typ,v=JQ x/\x.wf B:=by
 obtain ⟨k,cs,h,e⟩:=h.out;obtain ⟨x,rfl,hw⟩:=ZaY h;exact ⟨x,e.trans (by rw [WV,if_pos (Z9 Zeo)];rfl),hw⟩
structure Stp where
 place:Int
 opn:Int
 cls:Int
 serv:Int
 deriving Inhabited
def ZhY (x:Stp):List PV:= [.int .i64 x.place,.int .i64 x.opn,.int .i64 x.cls,.int .i64 x.serv]
def ZjP (x:Stp):PV:= .agg [.int .i64 x.place,.int .i64 x.opn,.int .i64 x.cls,.int .i64 x.serv]
@[go_sem] theorem ZhV (x:Stp):ZjP x= .agg [.int .i64 x.place,.int .i64 x.opn,.int .i64 x.cls,.int .i64 x.serv]:=Eq.trans rfl rfl
def Stp.wf (B:Nat) (x:Stp):Prop:=I64 x.place/\I64 x.opn/\I64 x.cls/\I64 x.serv
theorem Ql {B m cs} (h:XJ Tryz.prog B m 56 cs): ∃x:Stp,cs=ZhY x/\x.wf B:=by
 obtain ⟨h1,m',h2⟩:=Z8 Zi9 Zft h;obtain ⟨a0,a1,a2,a3,rfl⟩:=Zk0 h1;obtain ⟨n0,e0,w0⟩:=Zg Tryz.underlying3 (h2 (0,3) (by simp));obtain ⟨n1,e1,w1⟩:=Zg Tryz.underlying3 (h2 (1,3) (by simp));obtain ⟨n2,e2,w2⟩:=Zg Tryz.underlying3 (h2 (2,3) (by simp));obtain ⟨n3,e3,w3⟩:=Zg Tryz.underlying3 (h2 (3,3) (by simp));simp [ZbF] at e0 e1 e2 e3;subst e0;subst e1;subst e2;subst e3;exact ⟨⟨n0,n1,n2,n3⟩,rfl,Zz w0,Zz w1,Zz w2,Zz w3⟩
theorem Zfz {B v} (h:FitV Tryz.prog B 94 v): ∃x:Int×Int,v=eP x/\I64 x.1/\I64 x.2:=by
 obtain ⟨k,cs,h,e⟩:=h.out;obtain ⟨h1,m',h2⟩:=Z8 ZdY ZhT h;obtain ⟨a,b,rfl⟩:=Zhq h1;obtain ⟨n0,e0,w0⟩:=Zg Tryz.underlying3 (h2 (0,3) (by simp));obtain ⟨n1,e1,w1⟩:=Zg Tryz.underlying3 (h2 (1,3) (by simp));simp [ZbF] at e0 e1;subst e0;subst e1;exact ⟨(n0,n1),e.trans (by rw [WV,if_pos (Z9 ZdY)];rfl),Zz w0,Zz w1⟩
structure Ord where
 name:List UInt8
 load_c:Bool
 load:List (Int)
 pick:Stp
 drp:Stp
 skills:Int
 penalty:Int
 split:Int
 last:Int
 now:Int
 off:Bool
 deriving Inhabited
def Zk5 (x:Ord):List PV:= [.str x.name,.list x.load_c (x.load.map eI),.int .i64 x.pick.place,.int .i64 x.pick.opn,.int .i64 x.pick.cls,.int .i64 x.pick.serv,.int .i64 x.drp.place,.int .i64 x.drp.opn,.int .i64 x.drp.cls,.int .i64 x.drp.serv,.int .i64 x.skills,.int .i64 x.penalty,.int .i64 x.split,.int .i64 x.last,.int .i64 x.now,.bool x.off]
def Ur (x:Ord):PV:= .agg [.str x.name,.list x.load_c (x.load.map eI),.int .i64 x.pick.place,.int .i64 x.pick.opn,.int .i64 x.pick.cls,.int .i64 x.pick.serv,.int .i64 x.drp.place,.int .i64 x.drp.opn,.int .i64 x.drp.cls,.int .i64 x.drp.serv,.int .i64 x.skills,.int .i64 x.penalty,.int .i64 x.split,.int .i64 x.last,.int .i64 x.now,.bool x.off]
@[go_sem] theorem Zh3 (x:Ord):Ur x= .agg [.str x.name,.list x.load_c (x.load.map eI),.int .i64 x.pick.place,.int .i64 x.pick.opn,.int .i64 x.pick.cls,.int .i64 x.pick.serv,.int .i64 x.drp.place,.int .i64 x.drp.opn,.int .i64 x.drp.cls,.int .i64 x.drp.serv,.int .i64 x.skills,.int .i64 x.penalty,.int .i64 x.split,.int .i64 x.last,.int .i64 x.now,.bool x.off]:=Eq.trans rfl rfl
def Ord.wf (B:Nat) (x:Ord):Prop:=x.name.length<=B/\x.load.length<=B/\(∀n∈x.load,I64 n)/\Stp.wf B x.pick/\Stp.wf B x.drp/\I64 x.skills/\I64 x.penalty/\I64 x.split/\I64 x.last/\I64 x.now
theorem Zay {B m cs} (h:XJ Tryz.prog B m 58 cs): ∃x:Ord,cs=Zk5 x/\x.wf B:=by
 obtain ⟨h1,m',h2⟩:=Z8 ZdK Ziq h;obtain ⟨a0,a1,a2,a3,a4,a5,a6,a7,a8,a9,a10,a11,a12,a13,a14,a15,rfl⟩:=Zjm h1;obtain ⟨n0,e0,w0,_⟩:=WZ Tryz.underlying9 (h2 (0,9) (by simp));obtain ⟨y1,e1,w1,_,z1⟩:=ZJ Tryz.underlying32 (h2 (1,32) (by simp));obtain ⟨n1,rfl,u1⟩:=Qi z1;obtain ⟨n2,e2,w2⟩:=Ql (h2 (2,56) (by simp));obtain ⟨n3,e3,w3⟩:=Ql (h2 (6,56) (by simp));obtain ⟨n4,e4,w4⟩:=Zg Tryz.underlying3 (h2 (10,3) (by simp));obtain ⟨n5,e5,w5⟩:=Zg Tryz.underlying3 (h2 (11,3) (by simp));obtain ⟨n6,e6,w6⟩:=Zg Tryz.underlying3 (h2 (12,3) (by simp))
 obtain ⟨n7,e7,w7⟩:=Zg Tryz.underlying3 (h2 (13,3) (by simp));obtain ⟨n8,e8,w8⟩:=Zg Tryz.underlying3 (h2 (14,3) (by simp));obtain ⟨n9,e9⟩:=Kp Tryz.underlying4 (h2 (15,4) (by simp));simp [Zem,Zft,Zk8,ZbF,ZjV,ZhY,ZhY] at e0 e1 e2 e3 e4 e5 e6 e7 e8 e9;subst e0;subst e1;obtain ⟨rfl,rfl,rfl,rfl⟩:=e2;obtain ⟨rfl,rfl,rfl,rfl⟩:=e3;subst e4;subst e5;subst e6;subst e7;subst e8;subst e9;exact ⟨⟨n0,false,n1,n2,n3,n4,n5,n6,n7,n8,n9⟩,rfl,w0,by simpa using w1,u1,w2,w3,Zz w4,Zz w5,Zz w6,Zz w7,Zz w8⟩
theorem Zcc {B v} (h:FitV Tryz.prog B 58 v): ∃x:Ord,v=Ur x/\x.wf B:=by
 obtain ⟨k,cs,h,e⟩:=h.out;obtain ⟨x,rfl,hw⟩:=Zay h;exact ⟨x,e.trans (by rw [WV,if_pos (Z9 ZdK)];rfl),hw⟩
structure Inst where
 net:Net
 types_c:Bool
 types:List (Typ)
 orders_c:Bool
 orders:List (Ord)
 apart_c:Bool
 apart:List (Int×Int)
 before_c:Bool
 before:List (Int×Int)
 deriving Inhabited
def ZiF (x:Inst):List PV:= [.list x.net.places_c (x.net.places.map eS),.list x.net.arcs_c (x.net.arcs.map KN),.list x.types_c (x.types.map JQ),.list x.orders_c (x.orders.map Ur),.list x.apart_c (x.apart.map eP),.list x.before_c (x.before.map eP)]
def Xw (x:Inst):PV:= .agg [.list x.net.places_c (x.net.places.map eS),.list x.net.arcs_c (x.net.arcs.map KN),.list x.types_c (x.types.map JQ),.list x.orders_c (x.orders.map Ur),.list x.apart_c (x.apart.map eP),.list x.before_c (x.before.map eP)]
@[go_sem] theorem Zgr (x:Inst):Xw x= .agg [.list x.net.places_c (x.net.places.map eS),.list x.net.arcs_c (x.net.arcs.map KN),.list x.types_c (x.types.map JQ),.list x.orders_c (x.orders.map Ur),.list x.apart_c (x.apart.map eP),.list x.before_c (x.before.map eP)]:=Eq.trans rfl rfl
def Inst.wf (B:Nat) (x:Inst):Prop:=Net.wf B x.net/\x.types.length<=B/\(∀y∈x.types,Typ.wf B y)/\x.orders.length<=B/\(∀y∈x.orders,Ord.wf B y)/\x.apart.length<=B/\(∀p∈x.apart,I64 p.1/\I64 p.2)/\x.before.length<=B/\(∀p∈x.before,I64 p.1/\I64 p.2)
theorem Jl {B m cs} (h:XJ Tryz.prog B m 30 cs): ∃x:Inst,cs=ZiF x/\x.wf B:=by
 obtain ⟨h1,m',h2⟩:=Z8 Zev Ziz h;obtain ⟨a0,a1,a2,a3,a4,a5,rfl⟩:=ZjK h1;obtain ⟨n0,e0,w0⟩:=ZaV (h2 (0,25) (by simp));obtain ⟨y1,e1,w1,_,z1⟩:=ZJ Tryz.underlying26 (h2 (2,26) (by simp));obtain ⟨n1,rfl,u1⟩:=Xg (f:=JQ) fun y hy=>ZbD (z1 y hy);obtain ⟨y2,e2,w2,_,z2⟩:=ZJ Tryz.underlying27 (h2 (3,27) (by simp));obtain ⟨n2,rfl,u2⟩:=Xg (f:=Ur) fun y hy=>Zcc (z2 y hy);obtain ⟨y3,e3,w3,_,z3⟩:=ZJ Tryz.underlying28 (h2 (4,28) (by simp));obtain ⟨n3,rfl,u3⟩:=Xg (f:=eP) fun y hy=>Zfz (z3 y hy)
 obtain ⟨y4,e4,w4,_,z4⟩:=ZJ Tryz.underlying28 (h2 (5,28) (by simp));obtain ⟨n4,rfl,u4⟩:=Xg (f:=eP) fun y hy=>Zfz (z4 y hy);simp [Zie,Zjl,Zjk,Zfy,ZjT] at e0 e1 e2 e3 e4;obtain ⟨rfl,rfl⟩:=e0;subst e1;subst e2;subst e3;subst e4;exact ⟨⟨n0,false,n1,false,n2,false,n3,false,n4⟩,rfl,w0,by simpa using w1,u1,by simpa using w2,u2,by simpa using w3,u3,by simpa using w4,u4⟩
theorem ZaN {B v} (h:FitV Tryz.prog B 30 v): ∃x:Inst,v=Xw x/\x.wf B:=by
 obtain ⟨k,cs,h,e⟩:=h.out;obtain ⟨x,rfl,hw⟩:=Jl h;exact ⟨x,e.trans (by rw [WV,if_pos (Z9 Zev)];rfl),hw⟩
structure Vis where
 order:Int
 drp:Bool
 deriving Inhabited
def KT (x:Vis):PV:= .agg [.int .i64 x.order,.bool x.drp]
@[go_sem] theorem Zi3 (x:Vis):KT x= .agg [.int .i64 x.order,.bool x.drp]:=Eq.trans rfl rfl
structure Rte where
 typ:Int
 start:Int
 rests_c:Bool
 rests:List (Bool)
 visits_c:Bool
 visits:List (Vis)
 deriving Inhabited
def ZjE (x:Rte):PV:= .agg [.int .i64 x.typ,.int .i64 x.start,.list x.rests_c (x.rests.map eB),.list x.visits_c (x.visits.map KT)]
@[go_sem] theorem Zjw (x:Rte):ZjE x= .agg [.int .i64 x.typ,.int .i64 x.start,.list x.rests_c (x.rests.map eB),.list x.visits_c (x.visits.map KT)]:=Eq.trans rfl rfl
structure Itm where
 kind:Int
 a:Int
 deriving Inhabited
def ZkM (x:Itm):List PV:= [.int .i64 x.kind,.int .i64 x.a]
def XN (x:Itm):PV:= .agg [.int .i64 x.kind,.int .i64 x.a]
@[go_sem] theorem Zi8 (x:Itm):XN x= .agg [.int .i64 x.kind,.int .i64 x.a]:=Eq.trans rfl rfl
def Itm.wf (B:Nat) (x:Itm):Prop:=I64 x.kind/\I64 x.a
theorem ZaF {B m cs} (h:XJ Tryz.prog B m 79 cs): ∃x:Itm,cs=ZkM x/\x.wf B:=by
 obtain ⟨h1,m',h2⟩:=Z8 ZeZ Zjc h;obtain ⟨a0,a1,rfl⟩:=Zhq h1;obtain ⟨n0,e0,w0⟩:=Zg Tryz.underlying3 (h2 (0,3) (by simp));obtain ⟨n1,e1,w1⟩:=Zg Tryz.underlying3 (h2 (1,3) (by simp));simp [ZbF] at e0 e1;subst e0;subst e1;exact ⟨⟨n0,n1⟩,rfl,Zz w0,Zz w1⟩
theorem Zb8 {B v} (h:FitV Tryz.prog B 79 v): ∃x:Itm,v=XN x/\x.wf B:=by
 obtain ⟨k,cs,h,e⟩:=h.out;obtain ⟨x,rfl,hw⟩:=ZaF h;exact ⟨x,e.trans (by rw [WV,if_pos (Z9 ZeZ)];rfl),hw⟩
theorem own : ownKnob Tryz.prog.godebug=none:=by kernel_rfl
theorem Zb0 : laidOutB Tryz.prog=true:=by kernel_rfl
theorem Zax {B x} (h:FitV Tryz.prog B 46 x): ∃l:List Itm,x= .list false (l.map XN)/\l.length<=B/\ ∀v∈l,v.wf B:=by
 obtain ⟨xs,rfl,h1,_,h2⟩:=Jx Tryz.underlying46 h;obtain ⟨l,rfl,h3⟩:=Xg (f:=XN) fun y hy=>Zb8 (h2 y hy);exact ⟨l,rfl,by simpa using h1,h3⟩
abbrev Flt := Int×List UInt8
def eF (f:Flt):PV:= .agg [.int .i64 f.1,.str f.2]
@[go_sem] theorem Zk9 (f:Flt):eF f= .agg [.int .i64 f.1,.str f.2]:=Eq.trans rfl rfl
@[go_sem] theorem Zkd (l:List Flt):okE 2 (l.map eF)=true:=Zcn fun _=>rfl
def dec (n:Nat):List UInt8:=if h:n<10 then [UInt8.ofNat (48+n)] else dec (n / 10)++ [UInt8.ofNat (48+n%10)]
termination_by n
decreasing_by omega
theorem J1 : ∀(k n:Nat),n<k->(dec n).length<=n+1:=by
 intro k
 induction k with
 | zero=>intro n h;omega
 | succ k ih =>
  intro n h;rw [dec]
  split
  ·simp
  ·have:=ih (n / 10) (by omega);simp;omega
theorem YG : ∀(d n:Nat),n<10^(d+1)->(dec n).length<=d+1:=by
 intro d
 induction d with
 | zero=>intro n h;rw [dec,dif_pos (by omega)];simp
 | succ d ih =>
  intro n h;rw [dec]
  split
  ·simp
  ·have:=ih (n / 10) (by rw [Nat.div_lt_iff_lt_mul (by omega)];rw [Nat.pow_succ] at h;exact h);simp;omega
def Us (n:Int):List UInt8:=if n<0 then 45::dec n.natAbs else dec n.natAbs
theorem XY (n:Int) (h:I64 n):(Us n).length<=20:=by
 have h1:n.natAbs<10^(18+1):=by omega
 have:=YG 18 n.natAbs h1;unfold Us
 split<;>simp<;>omega
structure FR {α:Type} (p:α->Prop) (C:Prop) (b:Nat) (l:List α):Prop where
 len:l.length<=b
 emp:l= []↔C
 all: ∀x∈l,p x
theorem FR.nil {α:Type} {p:α->Prop} {C:Prop} {b:Nat} (h:C):FR p C b []:=⟨by simp,by simp [h],by simp⟩
theorem FR.no {α:Type} {p:α->Prop} {C c:Prop} {b:Nat} {l:List α} (h:FR p C b l) (hc:c):FR p (C/\c) (b+1) l:=⟨by have:=h.len;omega,by rw [h.emp];simp [hc],h.all⟩
theorem FR.yes {α:Type} {p:α->Prop} {C c:Prop} {b:Nat} {l:List α} {x:α} (h:FR p C b l) (hc: ¬c) (hx:p x):FR p (C/\c) (b+1) (l++ [x]) :=
 ⟨by have:=h.len;simp;omega,by simp [hc],fun y hy=>by
  rcases List.mem_append.1 hy with hy | hy
  ·exact h.all y hy
  ·simp at hy;subst hy;exact hx⟩
theorem FR.app {α:Type} {p:α->Prop} {C D:Prop} {b d:Nat} {l m:List α} (h:FR p C b l) (k:FR p D d m):FR p (C/\D) (b+d) (l++m) :=
 ⟨by have:=h.len;have:=k.len;simp;omega,by rw [List.append_eq_nil_iff,h.emp,k.emp],fun y hy=>by
  rcases List.mem_append.1 hy with hy | hy
  ·exact h.all y hy
  ·exact k.all y hy⟩
theorem FR.to {α:Type} {p:α->Prop} {C D:Prop} {b d:Nat} {l:List α} (h:FR p C b l) (hb:b<=d) (hc:C↔D):FR p D d l:=⟨Nat.le_trans h.len hb,h.emp.trans hc,h.all⟩
theorem Zu {p:Nat->Prop} {k:Nat} :(∀j,j<k+1->p j)↔((∀j,j<k->p j)/\p k) :=
 ⟨fun h=>⟨fun j hj=>h j (by omega),h k (by omega)⟩,fun h j hj=>by
  rcases Nat.lt_or_ge j k with h1 | h1
  ·exact h.1 j h1
  ·have:j=k:=by omega
   rw [this];exact h.2⟩
def XT (c:UInt8):Bool:=decide (48<=c.toNat/\c.toNat<=57)
def XG (c:UInt8):Bool:=decide (97<=c.toNat/\c.toNat<=122)||decide (65<=c.toNat/\c.toNat<=90)||decide (c.toNat=95)
def nameOk (s:List UInt8):Bool:=decide (1<=s.length)&&decide (s.length<=16)&& !XT (nth s 0)&&s.all fun c=>XG c||XT c
def rng (n lo hi:Int):Bool:=decide (lo<=n/\n<=hi)
def Za6 (n:Int):Bool:=rng n 0 4096
def ZfE (l:List Pt) (i:Nat):Prop:=(0<=(nth l i).t/\(nth l i).t<=4096/\(nth l i).t<=(nth l i).a/\(nth l i).a<=(nth l i).t+4096)/\(0<i->(nth l (i-1)).t<(nth l i).t/\(nth l (i-1)).a<=(nth l i).a)
def V4 (l:List Pt):Prop:=(1<=l.length/\l.length<=16)/\ ∀i,i<l.length->ZfE l i
def Y6 (l:List Pt) (i:Nat):Prop:=Za6 (nth l i).t=true/\Za6 (nth l i).a=true/\(0<i->(nth l (i-1)).t<(nth l i).t)
def Za2 (n:Net) (i:Nat):Prop :=
 ((((((0<=(nth n.arcs i).src/\(nth n.arcs i).src<n.places.length/\0<=(nth n.arcs i).dst/\(nth n.arcs i).dst<n.places.length) /\
 (0<=(nth n.arcs i).prof/\(nth n.arcs i).prof<=7/\0<=(nth n.arcs i).miles/\(nth n.arcs i).miles<=10000/\(nth n.arcs i).src≠(nth n.arcs i).dst)) /\
 (∀k,k<i-> ¬((nth n.arcs i).src=(nth n.arcs k).src/\(nth n.arcs i).dst=(nth n.arcs k).dst/\(nth n.arcs i).prof=(nth n.arcs k).prof))) /\
 V4 (nth n.arcs i).travel)/\(nth n.arcs i).slow.length<=16)/\ ∀k,k<(nth n.arcs i).slow.length->Y6 (nth n.arcs i).slow k)
def ZbS (n:Net) (i:Nat):Prop:=nameOk (nth n.places i)=true/\ ∀k,k<i->nth n.places k≠nth n.places i
def Yj (n:Net):Prop:=n.places.length<=24/\ ∀i,i<n.places.length->ZbS n i
def netOk (n:Net):Prop:=(Yj n/\n.arcs.length<=1024)/\ ∀i,i<n.arcs.length->Za2 n i
set_option maxRecDepth 8000
set_option maxHeartbeats 4000000
theorem JU (c:UInt8):PC 89 [.p (.int .u8 (c.toNat:Nat))] (.bool (XT c)):=by
 refine Zd Tryz.func89 rfl Zjg ?_;simp (disch:=omega) only [Tryz.f89,go_sem,seval];refine gT ?_ ?_<;>intro h<;>simp (disch:=omega) only [Sh.out h,go_sem,seval]
 all_goals (simp [XT];first | done | omega | (rw [Bool.eq_iff_iff];simp;omega))
theorem ZaI (c:UInt8):PC 90 [.p (.int .u8 (c.toNat:Nat))] (.bool (XG c)):=by
 refine Zd Tryz.func90 rfl ZiE ?_;simp (disch:=omega) only [Tryz.f90,go_sem,seval]
 repeat' (first | (refine ZB (fun hq=> ?_) (fun hq=> ?_)<;>(try simp only [decide_eq_true_eq,decide_eq_false_iff_not,Classical.not_not] at hq)<;>simp (disch:=omega) only [Sh.out hq,go_sem,seval]) | (refine ZD (fun hq=> ?_) (fun hq=> ?_)<;>(try simp only [decide_eq_true_eq,decide_eq_false_iff_not,Classical.not_not] at hq)<;>simp (disch:=omega) only [Sh.out hq,go_sem,seval]) | (refine ZL (fun hq=> ?_) (fun hq=> ?_)<;>(try simp only [decide_eq_true_eq,decide_eq_false_iff_not,Classical.not_not] at hq)<;>simp (disch:=omega) only [Sh.out hq,go_sem,seval]))
 all_goals (simp [XG];first | done | omega | (rw [Bool.eq_iff_iff];simp;omega))
theorem Ko (s:List UInt8) (hs:s.length<=1048576):PC 58 [.p (.str s)] (.bool (nameOk s)):=by
 refine Zd Tryz.func58 rfl ZiC ?_;simp (disch:=omega) only [Tryz.f58,go_sem,seval];refine gF ?_ ?_<;>intro h<;>simp (disch:=omega) only [Sh.out h,go_sem,seval]
 ·have: ¬ 1<=s.length:=by omega
  simp [nameOk,this]
 ·refine gF ?_ ?_<;>intro h2<;>simp (disch:=omega) only [Sh.out h2,go_sem,seval]
  ·have: ¬s.length<=16:=by omega
   simp [nameOk,this]
  ·have g1:1<=s.length:=by omega
   have g2:s.length<=16:=by omega
   refine (JU (nth s 0)).use ?_;simp (disch:=omega) only [go_sem,seval];refine cD ?_ ?_<;>intro h3<;>simp (disch:=omega) only [Sh.out h3,go_sem,seval]
   ·simp [nameOk,h3]
   ·refine Zs [0] (fun k:Nat=> [(3,.p (.int .i64 k))]) (fun _=> []) (fun k=>k<=s.length/\ ∀j,j<k->(XG (nth s j)||XT (nth s j))=true) (fun k=>s.length-k) 0 (by simp) (Weak.mk ?_) ?_
    ·simp (disch:=omega) only [go_sem,seval]
    ·rintro k ⟨hk,hno⟩;simp (disch:=omega) only [go_sem,seval]
     have X7: ∀j,j<s.length->(XG (nth s j)||XT (nth s j))=false->nameOk s=false:=fun j hj e=>by
      have:s.all (fun c=>XG c||XT c)=false:=by
       rw [List.all_eq_false];exact ⟨nth s j,by rw [Zn hj];exact List.getElem_mem _,by rw [e];simp⟩
      simp [nameOk,this]
     refine cD ?_ ?_<;>intro h4<;>simp (disch:=omega) only [Sh.out h4,go_sem,seval]
     ·have hk2:k<s.length:=by omega
      refine (ZaI (nth s k)).use ?_;simp (disch:=omega) only [go_sem,seval];refine gT ?_ ?_<;>intro h5<;>simp (disch:=omega) only [Sh.out h5,go_sem,seval]
      ·refine (JU (nth s k)).use ?_;simp (disch:=omega) only [go_sem,seval];refine cD ?_ ?_<;>intro h6<;>simp (disch:=omega) only [Sh.out h6,go_sem,seval]
       ·simp only [Bool.not_eq_true'] at h5 h6;rw [X7 k hk2 (by rw [h5,h6];rfl)]
       ·simp only [Bool.not_eq_false'] at h6;exact ⟨k+1,⟨by omega,Zu.2 ⟨hno,by simp [h6]⟩⟩,by omega,wk⟩
      ·simp only [Bool.not_eq_false'] at h5;exact ⟨k+1,⟨by omega,Zu.2 ⟨hno,by simp [h5]⟩⟩,by omega,wk⟩
     ·have:s.all (fun c=>XG c||XT c)=true:=by
       rw [List.all_eq_true];intro c hc;obtain ⟨j,hj,rfl⟩:=List.mem_iff_getElem.1 hc;rw [<- Zn hj];exact hno j (by omega)
      simp [nameOk,g1,g2,h3,this]
theorem YA (n:Int) (hn:I64 n):PC 45 [.p (.int .i64 n)] (.str (Us n)):=by
 refine Zd Tryz.func45 rfl ZiT ?_;simp (disch:=omega) only [Tryz.f45,go_sem,seval]
 have h19:n.natAbs<10^(18+1):=by omega
 have hdl:=YG 18 n.natAbs h19
 refine Y5 [7] [0] (fun q:Int×List UInt8×Bool=> [(3,.p (.str q.2.1)),(4,.p (.int .i64 q.1)),(5,.p (.bool q.2.2))]) (fun _=> [])
  (fun q=>I64 q.1/\(q.2.2=true->dec q.1.natAbs++q.2.1=dec n.natAbs)/\(q.2.2=false->q.2.1=dec n.natAbs)) (fun q=>if q.2.2 then q.1.natAbs+1 else 0) (n,[],true) (by simp;omega) (Weak.mk ?_) ?_
 ·simp (disch:=omega) only [go_sem,seval]
 ·rintro ⟨m,s,again⟩ ⟨hm,h1,h2⟩;simp only at hm h1 h2;simp (disch:=omega) only [go_sem,seval]
  cases again with
  | false =>
   simp (disch:=omega) only [go_sem,seval];have h2:=h2 rfl
   have hl2:([45]:List UInt8).length+(dec n.natAbs).length<=9223372036854775807:=by simp;omega
   refine cD ?_ ?_<;>intro h3<;>simp (disch:=omega) only [Sh.out h3,go_sem,seval]
   ·simp (disch:=omega) only [Us,h2,h3,Zao hl2,go_sem,seval]
   ·simp (disch:=omega) only [Us,h2,h3,go_sem,seval]
  | true =>
   have h1:=h1 rfl
   have hls:(dec m.natAbs).length+s.length=(dec n.natAbs).length:=by rw [<- h1];simp
   simp (disch:=omega) only [go_sem,seval]
   have e1:(m.tmod 10).natAbs=m.natAbs%10:=by rw [Int.natAbs_tmod];rfl
   have e2:(m.tdiv 10).natAbs=m.natAbs / 10:=by rw [Int.natAbs_tdiv];rfl
   have e3:m.tmod 10<10/\ -10<m.tmod 10:=⟨Int.tmod_lt_of_pos _ (by decide),by omega⟩;refine Zh [0,3,4] (fun _:Unit=> [(6,.p (.int .i64 ((m.natAbs%10:Nat):Int)))]) (fun _=> []) (fun _=>True) ?_ ?_
   ·simp (disch:=omega) only [go_sem,seval];refine cD ?_ ?_<;>intro h3<;>simp (disch:=omega) only [Sh.out h3,go_sem,seval]
    ·exact ⟨(),Weak.mk (by simp (disch:=omega) only [go_sem,seval];simp;omega)⟩
    ·exact ⟨(),Weak.mk (by simp (disch:=omega) only [go_sem,seval];simp;omega)⟩
   ·intro _ _;refine Za [] _ _ _ _ ?_;simp (disch:=first | omega | (simp only [List.length_cons,List.length_nil,List.length_append,List.length_map,List.length_take,List.length_drop]<;>omega)) only [go_sem,seval]
    have e4:(48+((m.natAbs%10:Nat):Int)).toNat=48+m.natAbs%10:=by omega
    refine ⟨(m.tdiv 10,UInt8.ofNat (48+m.natAbs%10)::s,decide (m.tdiv 10≠0)),⟨?_,?_,?_⟩,?_,Weak.mk ?_⟩
    ·simp only;omega
    ·simp only [decide_eq_true_eq];intro hne
     have h10: ¬m.natAbs<10:=by omega
     rw [e2,<- h1,dec.eq_def m.natAbs,dif_neg h10];simp
    ·simp only [decide_eq_false_iff_not,Classical.not_not];intro hz
     have h10:m.natAbs<10:=by omega
     rw [<- h1,dec.eq_def m.natAbs,dif_pos h10,Nat.mod_eq_of_lt h10];simp
    ·simp only [if_true]
     split
     ·rename_i hne;simp only [decide_eq_true_eq] at hne;omega
     ·omega
    ·simp (disch:=omega) only [e4,go_sem,seval]
def pF (k:Nat) (f:Flt):Prop:=f.2.length<=k
theorem Ze1 (l:List Pt) (c:Bool) (hl:l.length<=1048576):ACalls Tryz.prog 59 [.p (.list c (l.map ePt))] [] fun x H'=> ∃m:List Flt,FR (pF 20) (V4 l) (2*l.length+1) m/\x= .sl 0 0 m.length m.length/\H'= [.elems 2 (m.map eF)]:=by
 refine Zi [2] Tryz.func59 rfl ZiN ?_;simp (disch:=omega) only [Tryz.f59,go_sem,seval];refine ZM (Weak.ofNil 3 2 (by simp (disch:=omega) only [go_sem,seval]) (by simp) (Weak.refl _ _ _)) ?_;refine Zh [0] (fun m:List Flt=> [(3,.sl 0 0 m.length m.length)]) (fun m=> [.elems 2 (m.map eF)]) (fun m=>FR (pF 20) (1<=l.length/\l.length<=16) 1 m) ?_ ?_
 ·simp (disch:=omega) only [go_sem,seval]
  repeat' (first | (refine ZB (fun hq=> ?_) (fun hq=> ?_)<;>(try simp only [decide_eq_true_eq,decide_eq_false_iff_not,Classical.not_not] at hq)<;>simp (disch:=omega) only [Sh.out hq,go_sem,seval]) | (refine ZD (fun hq=> ?_) (fun hq=> ?_)<;>(try simp only [decide_eq_true_eq,decide_eq_false_iff_not,Classical.not_not] at hq)<;>simp (disch:=omega) only [Sh.out hq,go_sem,seval]) | (refine ZL (fun hq=> ?_) (fun hq=> ?_)<;>(try simp only [decide_eq_true_eq,decide_eq_false_iff_not,Classical.not_not] at hq)<;>simp (disch:=omega) only [Sh.out hq,go_sem,seval]))
  ·exact ⟨[(4,[])],⟨by simp,by simp;omega,by simp [pF]⟩,wk⟩
  ·exact ⟨[(4,[])],⟨by simp,by simp;omega,by simp [pF]⟩,wk⟩
  ·exact ⟨[],FR.nil (by omega),wk⟩
 ·intro m hm;refine Za [] _ _ _ _ ?_;simp (disch:=omega) only [go_sem,seval];refine Y5 [8] [0] (fun q:Nat×List Flt=> [(3,.sl 0 0 q.2.length q.2.length),(4,.p (.int .i64 q.1))]) (fun q=> [.elems 2 (q.2.map eF)]) (fun q=>q.1<=l.length/\FR (pF 20) ((1<=l.length/\l.length<=16)/\ ∀j,j<q.1->ZfE l j) (2*q.1+1) q.2) (fun q=>l.length-q.1) (0,m) ⟨by simp,hm.to (by simp) (by simp)⟩ (Weak.mk ?_) ?_
  ·simp (disch:=omega) only [go_sem,seval]
  ·rintro ⟨k,m⟩ ⟨hk,hm⟩;simp only at hk hm;have hml:=hm.len;simp (disch:=omega) only [go_sem,seval];refine cD ?_ ?_<;>intro h<;>simp (disch:=omega) only [Sh.out h,go_sem,seval]
   ·have hk2:k<l.length:=by omega
    refine Zh [0,4,5] (fun m:List Flt=> [(3,.sl 0 0 m.length m.length)]) (fun m=> [.elems 2 (m.map eF),.cells [.p (.int .i64 (nth l k).t),.p (.int .i64 (nth l k).a)]])
     (fun m=>FR (pF 20) (((1<=l.length/\l.length<=16)/\ ∀j,j<k->ZfE l j)/\(0<=(nth l k).t/\(nth l k).t<=4096/\(nth l k).t<=(nth l k).a/\(nth l k).a<=(nth l k).t+4096)) (2*k+1+1) m) ?_ ?_
    ·simp (disch:=omega) only [go_sem,seval]
     have hI:I64 (k:Int):=by omega
     have hdl:=XY k hI
     repeat' (first | (refine ZB (fun hq=> ?_) (fun hq=> ?_)<;>(try simp only [decide_eq_true_eq,decide_eq_false_iff_not,Classical.not_not] at hq)<;>simp (disch:=omega) only [Sh.out hq,go_sem,seval]) | (refine ZD (fun hq=> ?_) (fun hq=> ?_)<;>(try simp only [decide_eq_true_eq,decide_eq_false_iff_not,Classical.not_not] at hq)<;>simp (disch:=omega) only [Sh.out hq,go_sem,seval]) | (refine ZL (fun hq=> ?_) (fun hq=> ?_)<;>(try simp only [decide_eq_true_eq,decide_eq_false_iff_not,Classical.not_not] at hq)<;>simp (disch:=omega) only [Sh.out hq,go_sem,seval]))
     all_goals try exact ⟨m,hm.no (by omega),wk⟩
     all_goals
      refine (YA k hI).use ?_;simp (disch:=omega) only [go_sem,seval];exact ⟨m++ [(2,Us k)],hm.yes (by omega) (by simp only [pF];omega),wk⟩
    ·intro m hm;have hml:=hm.len;refine Za [] _ _ _ _ ?_;simp (disch:=omega) only [go_sem,seval]
     have hI:I64 (k:Int):=by omega
     have hdl:=XY k hI;refine Zk mixed (by kernel_rfl) (by kernel_rfl) ?_;simp (disch:=omega) only [go_sem,seval]
     repeat' (first | (refine ZB (fun hq=> ?_) (fun hq=> ?_)<;>(try simp only [decide_eq_true_eq,decide_eq_false_iff_not,Classical.not_not] at hq)<;>simp (disch:=omega) only [Sh.out hq,go_sem,seval]) | (refine ZD (fun hq=> ?_) (fun hq=> ?_)<;>(try simp only [decide_eq_true_eq,decide_eq_false_iff_not,Classical.not_not] at hq)<;>simp (disch:=omega) only [Sh.out hq,go_sem,seval]) | (refine ZL (fun hq=> ?_) (fun hq=> ?_)<;>(try simp only [decide_eq_true_eq,decide_eq_false_iff_not,Classical.not_not] at hq)<;>simp (disch:=omega) only [Sh.out hq,go_sem,seval]))
     all_goals try exact ⟨(k+1,m),⟨by simp only;omega,(hm.no (c:=0<k->(nth l (k-1)).t<(nth l k).t/\(nth l (k-1)).a<=(nth l k).a) (by omega)).to (by simp only;omega) (by simp only [Zu,ZfE,and_assoc])⟩,by simp only;omega,wk⟩
     all_goals
      refine (YA k hI).use ?_;simp (disch:=omega) only [go_sem,seval];exact ⟨(k+1,m++ [(13,Us k)]),⟨by simp only;omega,(hm.yes (c:=0<k->(nth l (k-1)).t<(nth l k).t/\(nth l (k-1)).a<=(nth l k).a) (by omega) (by simp only [pF];omega)).to (by simp only;omega) (by simp only [Zu,ZfE,and_assoc])⟩,by simp only;omega,wk⟩
   ·have hkn:k=l.length:=by omega
    subst hkn;exact ⟨m,hm.to (by omega) (by rw [V4]),0,by simp (disch:=omega) only [go_sem,seval]⟩
set_option maxHeartbeats 8000000
theorem pF.mono {j k:Nat} (h:j<=k) {f:Flt} (hf:pF j f):pF k f:=Nat.le_trans hf h
theorem FR.pmono {α:Type} {p q:α->Prop} {C:Prop} {b:Nat} {l:List α} (h:FR p C b l) (hp: ∀x,p x->q x):FR q C b l:=⟨h.len,h.emp,fun x hx=>hp x (h.all x hx)⟩
theorem Qh (n:Int):PC 60 [.p (.int .i64 n)] (.bool (Za6 n)):=by
 refine Zd Tryz.func60 rfl ZhO ?_;simp (disch:=omega) only [Tryz.f60,go_sem,seval]
 repeat' (first | (refine ZB (fun hq=> ?_) (fun hq=> ?_)<;>(try simp only [decide_eq_true_eq,decide_eq_false_iff_not,Classical.not_not] at hq)<;>simp (disch:=omega) only [Sh.out hq,go_sem,seval]) | (refine ZD (fun hq=> ?_) (fun hq=> ?_)<;>(try simp only [decide_eq_true_eq,decide_eq_false_iff_not,Classical.not_not] at hq)<;>simp (disch:=omega) only [Sh.out hq,go_sem,seval]) | (refine ZL (fun hq=> ?_) (fun hq=> ?_)<;>(try simp only [decide_eq_true_eq,decide_eq_false_iff_not,Classical.not_not] at hq)<;>simp (disch:=omega) only [Sh.out hq,go_sem,seval]))
 all_goals (simp [Za6,rng];first | done | omega | (rw [Bool.eq_iff_iff];simp;omega))
def Zp (n:Net):List AM.Obj:= [.cells [.p (.list n.places_c (n.places.map eS)),.p (.list n.arcs_c (n.arcs.map KN))]]
theorem Q1 (n:Net) (hp:n.places.length<=1048576) (hs: ∀s∈n.places,s.length<=1048576):ACalls Tryz.prog 41 [.p (Zbj n)] [] fun x H'=> ∃m:List Flt,FR (pF 26) (Yj n) (n.places.length+1) m/\x= .sl 0 0 m.length m.length/\H'= [.elems 2 (m.map eF)]:=by
 refine Zi [2] Tryz.func41 rfl Zjq ?_;simp (disch:=omega) only [Tryz.f41,go_sem,seval];refine ZM (Weak.ofNil 3 2 (by simp (disch:=omega) only [go_sem,seval]) (by simp) (Weak.refl _ _ _)) ?_;refine Zh [1] (fun m:List Flt=> [(3,.sl 1 0 m.length m.length)]) (fun m=>Zp n++ [.elems 2 (m.map eF)]) (fun m=>FR (pF 26) (n.places.length<=24) 1 m) ?_ ?_
 ·simp (disch:=omega) only [go_sem,seval];refine cD ?_ ?_<;>intro h<;>simp (disch:=omega) only [Sh.out h,go_sem,seval]
  ·exact ⟨[(4,[112,108,97,99,101,115])],⟨by simp,by simp;omega,by simp [pF]⟩,Weak.mk (by simp (disch:=omega) only [Zp,go_sem,seval])⟩
  ·exact ⟨[],FR.nil (by omega),Weak.mk (by simp (disch:=omega) only [Zp,go_sem,seval])⟩
 ·intro m hm;refine Za [] _ _ _ _ ?_;simp (disch:=omega) only [Zp,go_sem,seval];refine Zs [1] (fun q:Nat×List Flt=> [(3,.sl 1 0 q.2.length q.2.length),(4,.p (.int .i64 q.1))]) (fun q=>Zp n++ [.elems 2 (q.2.map eF)]) (fun q=>q.1<=n.places.length/\FR (pF 26) (n.places.length<=24/\ ∀j,j<q.1->ZbS n j) (q.1+1) q.2) (fun q=>n.places.length-q.1) (0,m) ⟨by simp,hm.to (by simp) (by simp)⟩ (Weak.mk ?_) ?_
  ·simp (disch:=omega) only [Zp,go_sem,seval]
  ·rintro ⟨k,m⟩ ⟨hk,hm⟩;simp only at hk hm;have hml:=hm.len;simp (disch:=omega) only [Zp,go_sem,seval];refine cD ?_ ?_<;>intro h<;>simp (disch:=omega) only [Sh.out h,go_sem,seval]
   ·have hk2:k<n.places.length:=by omega
    have hI:I64 (k:Int):=by omega
    have hdl:=XY k hI;refine (YA k hI).use ?_;simp (disch:=omega) only [go_sem,seval];simp (disch:=first | omega | (simp only [List.length_cons,List.length_nil,List.length_append,List.length_map,List.length_take,List.length_drop]<;>omega)) only [go_sem,seval];refine (Ko (nth n.places k) (hs _ (by rw [Zn hk2];exact List.getElem_mem _))).use ?_;simp (disch:=omega) only [go_sem,seval];refine cD ?_ ?_<;>intro h2<;>simp (disch:=omega) only [Sh.out h2,go_sem,seval]
    ·simp only [Bool.not_eq_true'] at h2;exact ⟨(k+1,m++ [(5,[112,108,97,99,101,32]++Us k)]),⟨by simp only;omega,(hm.yes (c:=ZbS n k) (by rw [ZbS,h2];simp) (by simp [pF];omega)).to (by simp) (by simp only [Zu,and_assoc])⟩,by simp only;omega,Weak.mk (by simp (disch:=omega) only [Zp,go_sem,seval])⟩
    ·simp only [Bool.not_eq_false'] at h2;refine Zs [1,3,4,5] (fun q:Nat×Bool=> [(6,.p (.bool q.2)),(7,.p (.int .i64 q.1))]) (fun _=>Zp n++ [.elems 2 (m.map eF)]) (fun q=>q.1<=k/\(q.2=false↔ ∀j,j<q.1->nth n.places j≠nth n.places k)) (fun q=>k-q.1) (0,false) (by simp) (Weak.mk ?_) ?_
     ·simp (disch:=omega) only [Zp,go_sem,seval]
     ·rintro ⟨j,b⟩ ⟨hj,hb⟩;simp only at hj hb;simp (disch:=omega) only [Zp,go_sem,seval];refine cD ?_ ?_<;>intro h3<;>simp (disch:=omega) only [Sh.out h3,go_sem,seval]
      ·refine Xy 14 mixed (by kernel_rfl) (by kernel_rfl) ?_;simp (disch:=omega) only [go_sem,seval]
       have hjn:j<n.places.length:=by omega
       cases b with
       | true =>
        simp (disch:=omega) only [go_sem,seval];exact ⟨(j+1,true),⟨by simp only;omega,by rw [Zu,<- hb];simp⟩,by simp only;omega,Weak.mk (by simp (disch:=omega) only [Zp,go_sem,seval])⟩
       | false =>
        simp (disch:=omega) only [go_sem,seval];refine ⟨(j+1,decide (nth n.places j=nth n.places k)),⟨by simp only;omega,by rw [Zu,<- hb];simp⟩,by simp only;omega,Weak.mk (by simp (disch:=omega) only [Zp,go_sem,seval])⟩
      ·have hjk:j=k:=by omega
       subst hjk
       cases b with
       | true =>
        simp (disch:=omega) only [go_sem,seval]
        have hno: ¬ZbS n j:=fun h5=>by have:=hb.2 h5.2;cases this
        exact ⟨(j+1,m++ [(6,[112,108,97,99,101,32]++Us j)]),⟨by simp only;omega,(hm.yes (c:=ZbS n j) hno (by simp [pF];omega)).to (by simp) (by simp only [Zu,and_assoc])⟩,by simp only;omega,Weak.mk (by simp (disch:=omega) only [Zp,go_sem,seval])⟩
       | false =>
        simp (disch:=omega) only [go_sem,seval];exact ⟨(j+1,m),⟨by simp only;omega,(hm.no (c:=ZbS n j) ⟨h2,hb.1 rfl⟩).to (by simp) (by simp only [Zu,and_assoc])⟩,by simp only;omega,Weak.mk (by simp (disch:=omega) only [Zp,go_sem,seval])⟩
   ·have hkn:k=n.places.length:=by omega
    subst hkn;exact ⟨m,hm.to (by omega) (by rw [Yj]),1,by simp (disch:=omega) only [go_sem,seval]⟩
set_option maxHeartbeats 16000000
def XZ (a:Arc):AM.Obj:= .cells [.p (.int .i64 a.src),.p (.int .i64 a.dst),.p (.int .i64 a.prof),.p (.int .i64 a.miles),.p (.list a.travel_c (a.travel.map ePt)),.p (.list a.slow_c (a.slow.map ePt))]
abbrev ZX (a b:Arc):Prop:=a.src=b.src/\a.dst=b.dst/\a.prof=b.prof
theorem Zb4 (n:Net) (i:Nat) (hi:i<n.arcs.length) (hp:n.places.length<=1048576) (ha:n.arcs.length<=1048576) (ht:(nth n.arcs i).travel.length<=1048576) (hsl:(nth n.arcs i).slow.length<=1048576) :
  ACalls Tryz.prog 42 [.p (Zbj n),.p (.int .i64 (i:Nat))] [] fun x H'=> ∃m:List Flt,FR (pF 26) (Za2 n i) 4000000 m/\x= .sl 0 0 m.length m.length/\H'= [.elems 2 (m.map eF)]:=by
 refine Zi [4] Tryz.func42 rfl Zjv ?_;simp (disch:=omega) only [Tryz.f42,go_sem,seval]
 have hI:I64 (i:Int):=by omega
 have hdl:=XY i hI;refine (YA i hI).use ?_;simp (disch:=omega) only [go_sem,seval];simp (disch:=first | omega | (simp only [List.length_cons,List.length_nil,List.length_append,List.length_map,List.length_take,List.length_drop]<;>omega)) only [go_sem,seval]
 have hat:(97::114::99::32::Us i).length<=26:=by simp;omega
 generalize hga:nth n.arcs i=a at ht hsl ⊢;generalize 97::114::99::32::Us i=at' at hat ⊢;refine ZM (Weak.ofNil 5 2 (by simp (disch:=omega) only [go_sem,seval]) (by simp) (Weak.refl _ _ _)) ?_;refine Zh [1,2,6,7] (fun m:List Flt=> [(5,.sl 2 0 m.length m.length)]) (fun m=>Zp n++ [XZ a,.elems 2 (m.map eF)]) (fun m=>FR (pF 26) (0<=a.src/\a.src<n.places.length/\0<=a.dst/\a.dst<n.places.length) 1 m) ?_ ?_
 ·simp (disch:=omega) only [go_sem,seval]
  repeat' (first | (refine ZB (fun hq=> ?_) (fun hq=> ?_)<;>(try simp only [decide_eq_true_eq,decide_eq_false_iff_not,Classical.not_not] at hq)<;>simp (disch:=omega) only [Sh.out hq,go_sem,seval]) | (refine ZD (fun hq=> ?_) (fun hq=> ?_)<;>(try simp only [decide_eq_true_eq,decide_eq_false_iff_not,Classical.not_not] at hq)<;>simp (disch:=omega) only [Sh.out hq,go_sem,seval]) | (refine ZL (fun hq=> ?_) (fun hq=> ?_)<;>(try simp only [decide_eq_true_eq,decide_eq_false_iff_not,Classical.not_not] at hq)<;>simp (disch:=omega) only [Sh.out hq,go_sem,seval]))
  all_goals try exact ⟨[],FR.nil (by omega),Weak.mk (by simp (disch:=omega) only [Zp,XZ,go_sem,seval])⟩
  all_goals exact ⟨[(11,at')],⟨by simp,by simp;omega,by simpa [pF] using hat⟩,Weak.mk (by simp (disch:=omega) only [Zp,XZ,go_sem,seval])⟩
 ·intro m hm;refine Za [6] _ _ _ _ ?_;simp (disch:=omega) only [Zp,XZ,go_sem,seval];have hml:=hm.len
  refine Zh [1,2,6,7] (fun m:List Flt=> [(5,.sl 2 0 m.length m.length)]) (fun m=>Zp n++ [XZ a,.elems 2 (m.map eF)])
   (fun m=>FR (pF 26) ((0<=a.src/\a.src<n.places.length/\0<=a.dst/\a.dst<n.places.length)/\(0<=a.prof/\a.prof<=7/\0<=a.miles/\a.miles<=10000/\a.src≠a.dst)) 2 m) ?_ ?_
  ·simp (disch:=omega) only [go_sem,seval]
   repeat' (first | (refine ZB (fun hq=> ?_) (fun hq=> ?_)<;>(try simp only [decide_eq_true_eq,decide_eq_false_iff_not,Classical.not_not] at hq)<;>simp (disch:=omega) only [Sh.out hq,go_sem,seval]) | (refine ZD (fun hq=> ?_) (fun hq=> ?_)<;>(try simp only [decide_eq_true_eq,decide_eq_false_iff_not,Classical.not_not] at hq)<;>simp (disch:=omega) only [Sh.out hq,go_sem,seval]) | (refine ZL (fun hq=> ?_) (fun hq=> ?_)<;>(try simp only [decide_eq_true_eq,decide_eq_false_iff_not,Classical.not_not] at hq)<;>simp (disch:=omega) only [Sh.out hq,go_sem,seval]))
   all_goals try exact ⟨m,hm.no (by omega),Weak.mk (by simp (disch:=omega) only [Zp,XZ,go_sem,seval])⟩
   all_goals exact ⟨m++ [(2,at')],hm.yes (by omega) (by simpa [pF] using hat),Weak.mk (by simp (disch:=omega) only [Zp,XZ,go_sem,seval])⟩
  ·clear hm hml;intro m hm;refine Za [14] _ _ _ _ ?_;simp (disch:=omega) only [Zp,XZ,go_sem,seval];have hml:=hm.len;refine Y5 [14] [1,2,5,6,7] (fun q:Nat×Bool=> [(8,.p (.bool q.2)),(9,.p (.int .i64 q.1))]) (fun _=>Zp n++ [XZ a,.elems 2 (m.map eF)]) (fun q=>q.1<=i/\(q.2=false↔ ∀j,j<q.1-> ¬ZX a (nth n.arcs j))) (fun q=>i-q.1) (0,false) (by simp) (Weak.mk ?_) ?_
   ·simp (disch:=omega) only [Zp,XZ,go_sem,seval]
   ·rintro ⟨k,b⟩ ⟨hk,hb⟩;simp only at hk hb;simp (disch:=omega) only [Zp,XZ,go_sem,seval];refine cD ?_ ?_<;>intro h<;>simp (disch:=omega) only [Sh.out h,go_sem,seval]
    ·have hkn:k<n.arcs.length:=by omega
     cases b with
     | true =>
      simp (disch:=omega) only [go_sem,seval];exact ⟨(k+1,true),⟨by simp only;omega,by rw [Zu,<- hb];simp⟩,by simp only;omega,Weak.mk (by simp (disch:=omega) only [Zp,XZ,go_sem,seval])⟩
     | false =>
      simp (disch:=omega) only [go_sem,seval]
      repeat' (first | (refine ZB (fun hq=> ?_) (fun hq=> ?_)<;>(try simp only [decide_eq_true_eq,decide_eq_false_iff_not,Classical.not_not] at hq)<;>simp (disch:=omega) only [Sh.out hq,go_sem,seval]) | (refine ZD (fun hq=> ?_) (fun hq=> ?_)<;>(try simp only [decide_eq_true_eq,decide_eq_false_iff_not,Classical.not_not] at hq)<;>simp (disch:=omega) only [Sh.out hq,go_sem,seval]) | (refine ZL (fun hq=> ?_) (fun hq=> ?_)<;>(try simp only [decide_eq_true_eq,decide_eq_false_iff_not,Classical.not_not] at hq)<;>simp (disch:=omega) only [Sh.out hq,go_sem,seval]))
      all_goals refine ⟨(k+1,decide (ZX a (nth n.arcs k))),⟨by simp only;omega,by rw [Zu,<- hb];simp⟩,by simp only;omega,Weak.mk ?_⟩
      all_goals simp (disch:=omega) only [Zp,XZ,go_sem,seval]
      all_goals simp [ZX, *]
    ·have hki:k=i:=by omega
     subst hki;have htw:(b=false↔ ∀j,j<k-> ¬ZX a (nth n.arcs j)):=hb;clear hb hk h
     refine Zh [6,7] (fun m:List Flt=> [(5,.sl 2 0 m.length m.length)]) (fun m=>Zp n++ [XZ a,.elems 2 (m.map eF)])
      (fun m=>FR (pF 26) (((0<=a.src/\a.src<n.places.length/\0<=a.dst/\a.dst<n.places.length)/\(0<=a.prof/\a.prof<=7/\0<=a.miles/\a.miles<=10000/\a.src≠a.dst))/\ ∀j,j<k-> ¬ZX a (nth n.arcs j)) 3 m) ?_ ?_
     ·simp (disch:=omega) only [go_sem,seval]
      cases b with
      | true =>
       simp (disch:=omega) only [go_sem,seval];exact ⟨m++ [(6,at')],hm.yes (by rw [<- htw];simp) (by simpa [pF] using hat),Weak.mk (by simp (disch:=omega) only [Zp,XZ,go_sem,seval])⟩
      | false =>
       simp (disch:=omega) only [go_sem,seval];exact ⟨m,hm.no (htw.1 rfl),Weak.mk (by simp (disch:=omega) only [Zp,XZ,go_sem,seval])⟩
     ·clear hm hml;intro m hm;refine Za [21] _ _ _ _ ?_;simp (disch:=omega) only [Zp,XZ,go_sem,seval];have hml:=hm.len;refine ((Ze1 a.travel a.travel_c ht).frozenE).useV fun lt hlt=> ?_;simp (disch:=omega) only [go_sem,seval];have hltl:=hlt.len
      refine Y5 [21] [6,7,11] (fun q:Nat×List Flt=> [(5,.sl 2 0 q.2.length q.2.length),(12,.p (.int .i64 q.1))]) (fun q=>Zp n++ [XZ a,.elems 2 (q.2.map eF)])
       (fun q=>q.1<=lt.length/\FR (pF 26) ((((0<=a.src/\a.src<n.places.length/\0<=a.dst/\a.dst<n.places.length)/\(0<=a.prof/\a.prof<=7/\0<=a.miles/\a.miles<=10000/\a.src≠a.dst))/\ ∀j,j<k-> ¬ZX a (nth n.arcs j))/\q.1=0) (3+q.1) q.2) (fun q=>lt.length-q.1) (0,m) ⟨by simp,hm.to (by simp) (by simp)⟩ (Weak.mk ?_) ?_
      ·simp (disch:=omega) only [Zp,XZ,go_sem,seval]
      ·clear hm hml;rintro ⟨j,m⟩ ⟨hj,hm⟩;simp only at hj hm;have hml:=hm.len;simp (disch:=omega) only [Zp,XZ,go_sem,seval];refine cD ?_ ?_<;>intro h<;>simp (disch:=omega) only [Sh.out h,go_sem,seval]
       ·have hj2:j<lt.length:=by omega
        exact ⟨(j+1,m++ [((nth lt j).1,at')]),⟨by simp only;omega,(hm.yes (c:=False) (by simp) (by simpa [pF] using hat)).to (by simp only;omega) (by simp)⟩,by simp only;omega,Weak.mk (by simp (disch:=omega) only [Zp,XZ,go_sem,seval])⟩
       ·have hjl:j=lt.length:=by omega
        subst hjl;have hm2:=hm.to (d:=3+lt.length) (D:=(((0<=a.src/\a.src<n.places.length/\0<=a.dst/\a.dst<n.places.length)/\(0<=a.prof/\a.prof<=7/\0<=a.miles/\a.miles<=10000/\a.src≠a.dst))/\ ∀j,j<k-> ¬ZX a (nth n.arcs j))/\V4 a.travel) (Nat.le_refl _) (by rw [<- hlt.emp,List.eq_nil_iff_length_eq_zero]);clear hm
        refine Zh [6,7] (fun m:List Flt=> [(5,.sl 2 0 m.length m.length)]) (fun m=>Zp n++ [XZ a,.elems 2 (m.map eF)])
         (fun m=>FR (pF 26) (((((0<=a.src/\a.src<n.places.length/\0<=a.dst/\a.dst<n.places.length)/\(0<=a.prof/\a.prof<=7/\0<=a.miles/\a.miles<=10000/\a.src≠a.dst))/\ ∀j,j<k-> ¬ZX a (nth n.arcs j))/\V4 a.travel)/\a.slow.length<=16) (4+lt.length) m) ?_ ?_
        ·simp (disch:=omega) only [go_sem,seval];refine cD ?_ ?_<;>intro h2<;>simp (disch:=omega) only [Sh.out h2,go_sem,seval]
         ·exact ⟨m++ [(4,at')],(hm2.yes (by omega) (by simpa [pF] using hat)).to (by omega) Iff.rfl,Weak.mk (by simp (disch:=omega) only [Zp,XZ,go_sem,seval])⟩
         ·exact ⟨m,(hm2.no (by omega)).to (by omega) Iff.rfl,Weak.mk (by simp (disch:=omega) only [Zp,XZ,go_sem,seval])⟩
        ·clear hm2 hml h hj;intro m hm;refine Za [] _ _ _ _ ?_;simp (disch:=omega) only [Zp,XZ,go_sem,seval]
         refine Zs [6,7] (fun q:Nat×List Flt=> [(5,.sl 2 0 q.2.length q.2.length),(13,.p (.int .i64 q.1))]) (fun q=>Zp n++ [XZ a,.elems 2 (q.2.map eF)])
          (fun q=>q.1<=a.slow.length/\FR (pF 26) ((((((0<=a.src/\a.src<n.places.length/\0<=a.dst/\a.dst<n.places.length)/\(0<=a.prof/\a.prof<=7/\0<=a.miles/\a.miles<=10000/\a.src≠a.dst))/\ ∀j,j<k-> ¬ZX a (nth n.arcs j))/\V4 a.travel)/\a.slow.length<=16)/\ ∀j,j<q.1->Y6 a.slow j) (4+lt.length+q.1) q.2) (fun q=>a.slow.length-q.1) (0,m) ⟨by simp,hm.to (by simp) (by simp)⟩ (Weak.mk ?_) ?_
         ·simp (disch:=omega) only [Zp,XZ,go_sem,seval]
         ·clear hm;rintro ⟨j,m⟩ ⟨hj,hm⟩;simp only at hj hm;have hml:=hm.len;simp (disch:=omega) only [Zp,XZ,go_sem,seval];refine cD ?_ ?_<;>intro h<;>simp (disch:=omega) only [Sh.out h,go_sem,seval]
          ·have hj2:j<a.slow.length:=by omega
           refine Zk mixed (by kernel_rfl) (by kernel_rfl) ?_;simp (disch:=omega) only [go_sem,seval];refine Zm (Qh (nth a.slow j).t) ?_;simp (disch:=omega) only [go_sem,seval];have hslo:Y6 a.slow j↔(Za6 (nth a.slow j).t=true/\Za6 (nth a.slow j).a=true/\(0<j->(nth a.slow (j-1)).t<(nth a.slow j).t)):=Iff.rfl;have hyes: ¬Y6 a.slow j->_:=fun hs=>(hm.yes (x:=(2,at')) hs (by simpa [pF] using hat)).to (D:=(((((0<=a.src/\a.src<n.places.length/\0<=a.dst/\a.dst<n.places.length)/\(0<=a.prof/\a.prof<=7/\0<=a.miles/\a.miles<=10000/\a.src≠a.dst))/\ ∀j,j<k-> ¬ZX a (nth n.arcs j))/\V4 a.travel)/\a.slow.length<=16)/\ ∀i,i<j+1->Y6 a.slow i) (d:=4+lt.length+(j+1)) (by omega) (by simp only [Zu,and_assoc])
           have hno:Y6 a.slow j->_:=fun hs=>(hm.no hs).to (D:=(((((0<=a.src/\a.src<n.places.length/\0<=a.dst/\a.dst<n.places.length)/\(0<=a.prof/\a.prof<=7/\0<=a.miles/\a.miles<=10000/\a.src≠a.dst))/\ ∀j,j<k-> ¬ZX a (nth n.arcs j))/\V4 a.travel)/\a.slow.length<=16)/\ ∀i,i<j+1->Y6 a.slow i) (d:=4+lt.length+(j+1)) (by omega) (by simp only [Zu,and_assoc])
           cases ht1:Za6 (nth a.slow j).t with
           | false =>
            simp (disch:=omega) only [go_sem,seval];exact ⟨(j+1,m++ [(2,at')]),⟨by simp only;omega,hyes (by rw [hslo,ht1];simp)⟩,by simp only;omega,Weak.mk (by simp (disch:=omega) only [Zp,XZ,go_sem,seval])⟩
           | true =>
            simp (disch:=omega) only [go_sem,seval];refine Zm (Qh (nth a.slow j).a) ?_;simp (disch:=omega) only [go_sem,seval]
            cases ht2:Za6 (nth a.slow j).a with
            | false =>
             simp (disch:=omega) only [go_sem,seval];exact ⟨(j+1,m++ [(2,at')]),⟨by simp only;omega,hyes (by rw [hslo,ht2];simp)⟩,by simp only;omega,Weak.mk (by simp (disch:=omega) only [Zp,XZ,go_sem,seval])⟩
            | true =>
             simp (disch:=omega) only [go_sem,seval]
             repeat' (first | (refine ZB (fun hq=> ?_) (fun hq=> ?_)<;>(try simp only [decide_eq_true_eq,decide_eq_false_iff_not,Classical.not_not] at hq)<;>simp (disch:=omega) only [Sh.out hq,go_sem,seval]) | (refine ZD (fun hq=> ?_) (fun hq=> ?_)<;>(try simp only [decide_eq_true_eq,decide_eq_false_iff_not,Classical.not_not] at hq)<;>simp (disch:=omega) only [Sh.out hq,go_sem,seval]) | (refine ZL (fun hq=> ?_) (fun hq=> ?_)<;>(try simp only [decide_eq_true_eq,decide_eq_false_iff_not,Classical.not_not] at hq)<;>simp (disch:=omega) only [Sh.out hq,go_sem,seval]))
             ·exact ⟨(j+1,m++ [(2,at')]),⟨by simp only;omega,hyes (by rw [hslo];omega)⟩,by simp only;omega,Weak.mk (by simp (disch:=omega) only [Zp,XZ,go_sem,seval])⟩
             ·exact ⟨(j+1,m),⟨by simp only;omega,hno (by rw [hslo];exact ⟨ht1,ht2,by omega⟩)⟩,by simp only;omega,Weak.mk (by simp (disch:=omega) only [Zp,XZ,go_sem,seval])⟩
             ·exact ⟨(j+1,m),⟨by simp only;omega,hno (by rw [hslo];exact ⟨ht1,ht2,by omega⟩)⟩,by simp only;omega,Weak.mk (by simp (disch:=omega) only [Zp,XZ,go_sem,seval])⟩
          ·have hjn:j=a.slow.length:=by omega
           subst hjn;exact ⟨m,hm.to (by omega) (by rw [Za2,hga]),2,by simp (disch:=omega) only [Zp,XZ,go_sem,seval]⟩
theorem ZP {α:Type} [Inhabited α] {l:List α} {i:Nat} (h:i<l.length):nth l i∈l:=by rw [Zn h];exact List.getElem_mem _
theorem Zeq (n:Net) (hw:n.wf 1048576):ACalls Tryz.prog 26 [.p (Zbj n)] [] fun x H'=> ∃m:List Flt,FR (pF 26) (netOk n) 4194306000000 m/\x= .sl 0 0 m.length m.length/\H'= [.elems 2 (m.map eF)]:=by
 obtain ⟨w1,w2,w3,w4⟩:=hw;refine Zi [2] Tryz.func26 rfl Ziv ?_;simp (disch:=omega) only [Tryz.f26,go_sem,seval];refine (Q1 n w1 w2).useE fun m hm=> ?_;simp (disch:=omega) only [go_sem,seval];have hml:=hm.len;refine Zh [1] (fun m:List Flt=> [(3,.sl 1 0 m.length m.length)]) (fun m=>Zp n++ [.elems 2 (m.map eF)]) (fun m=>FR (pF 26) (Yj n/\n.arcs.length<=1024) (n.places.length+2) m) ?_ ?_
 ·simp (disch:=omega) only [go_sem,seval];refine cD ?_ ?_<;>intro h<;>simp (disch:=omega) only [Sh.out h,go_sem,seval]
  ·exact ⟨m++ [(4,[97,114,99,115])],hm.yes (by omega) (by simp [pF]),Weak.mk (by simp (disch:=omega) only [Zp,go_sem,seval])⟩
  ·exact ⟨m,hm.no (by omega),Weak.mk (by simp (disch:=omega) only [Zp,go_sem,seval])⟩
 ·clear hm hml;intro m hm;refine Za [] _ _ _ _ ?_;simp (disch:=omega) only [Zp,go_sem,seval];refine Zs [1] (fun q:Nat×List Flt=> [(3,.sl 1 0 q.2.length q.2.length),(4,.p (.int .i64 q.1))]) (fun q=>Zp n++ [.elems 2 (q.2.map eF)]) (fun q=>q.1<=n.arcs.length/\FR (pF 26) ((Yj n/\n.arcs.length<=1024)/\ ∀j,j<q.1->Za2 n j) (n.places.length+2+q.1*4000000) q.2) (fun q=>n.arcs.length-q.1) (0,m) ⟨by simp,hm.to (by simp) (by simp)⟩ (Weak.mk ?_) ?_
  ·simp (disch:=omega) only [Zp,go_sem,seval]
  ·clear hm;rintro ⟨k,m⟩ ⟨hk,hm⟩;simp only at hk hm;have hml:=hm.len;simp (disch:=omega) only [Zp,go_sem,seval];refine cD ?_ ?_<;>intro h<;>simp (disch:=omega) only [Sh.out h,go_sem,seval]
   ·have hk2:k<n.arcs.length:=by omega
    have ha:=w4 _ (ZP hk2);refine (Zb4 n k hk2 w1 w3 ha.2.2.2.2.1 ha.2.2.2.2.2.2.1).useE fun f hf=> ?_;simp (disch:=omega) only [go_sem,seval];have hfl:=hf.len
    have q1:(m.length+f.length)*24<=140737488355328:=by omega
    have q2:m.length+f.length<=140737488355328:=by omega
    simp (disch:=omega) only [q1,q2,go_sem,seval];refine ⟨(k+1,m++f),⟨by simp only;omega,(hm.app hf).to (by simp only;omega) (by simp only [Zu,and_assoc])⟩,by simp only;omega,Weak.mk ?_⟩;simp (disch:=omega) only [Zp,List.length_append,List.map_append,go_sem,seval]
   ·have hkn:k=n.arcs.length:=by omega
    subst hkn;exact ⟨m,hm.to (by omega) (by rw [netOk]),1,by simp (disch:=omega) only [Zp,go_sem,seval]⟩
theorem Xn (n lo hi:Int):PC 43 [.p (.int .i64 n),.p (.int .i64 lo),.p (.int .i64 hi)] (.bool (rng n lo hi)):=by
 refine Zd Tryz.func43 rfl Zix ?_;simp (disch:=omega) only [Tryz.f43,go_sem,seval];refine gT ?_ ?_<;>intro h<;>simp (disch:=omega) only [Sh.out h,go_sem,seval]
 all_goals (simp [rng];first | done | omega | (rw [Bool.eq_iff_iff];simp;omega))
def YR (l:List Int) (d:Int):Bool:=rng l.length 1 3&&decide ((l.length:Int)=d)&&l.all fun n=>rng n 0 1000
theorem QH (l:List Int) (c:Bool) (d:Int) (hl:l.length<=1048576):PC 62 [.p (.list c (l.map eI)),.p (.int .i64 d)] (.bool (YR l d)):=by
 refine Zd Tryz.func62 rfl ZhQ ?_;simp (disch:=omega) only [Tryz.f62,go_sem,seval];refine (Xn l.length 1 3).use ?_;simp (disch:=omega) only [go_sem,seval];refine gF ?_ ?_<;>intro h<;>simp (disch:=omega) only [Sh.out h,go_sem,seval]
 ·simp only [Bool.not_eq_true'] at h;simp [YR,h]
 ·simp only [Bool.not_eq_false'] at h;refine cD ?_ ?_<;>intro h2<;>simp (disch:=omega) only [Sh.out h2,go_sem,seval]
  ·simp [YR,h,h2]
  ·simp only [Classical.not_not] at h2;subst h2;refine Zs [0] (fun k:Nat=> [(5,.p (.int .i64 k))]) (fun _=> []) (fun k=>k<=l.length/\ ∀j,j<k->rng (nth l j) 0 1000=true) (fun k=>l.length-k) 0 (by simp) (Weak.mk ?_) ?_
   ·simp (disch:=omega) only [go_sem,seval]
   ·rintro k ⟨hk,hno⟩;simp (disch:=omega) only [go_sem,seval];refine cD ?_ ?_<;>intro h3<;>simp (disch:=omega) only [Sh.out h3,go_sem,seval]
    ·have hk2:k<l.length:=by omega
     refine (Xn (nth l k) 0 1000).use ?_;simp (disch:=omega) only [go_sem,seval];refine cD ?_ ?_<;>intro h4<;>simp (disch:=omega) only [Sh.out h4,go_sem,seval]
     ·simp only [Bool.not_eq_true'] at h4
      have:l.all (fun n=>rng n 0 1000)=false:=by
       rw [List.all_eq_false];exact ⟨nth l k,ZP hk2,by rw [h4];simp⟩
      simp [YR,this]
     ·simp only [Bool.not_eq_false'] at h4;exact ⟨k+1,⟨by omega,Zu.2 ⟨hno,h4⟩⟩,by omega,wk⟩
    ·have:l.all (fun n=>rng n 0 1000)=true:=by
      rw [List.all_eq_true];intro x hx;obtain ⟨j,hj,rfl⟩:=List.mem_iff_getElem.1 hx;rw [<- Zn hj];exact hno j (by omega)
     simp [YR,h,this]
def VN (l:List Typ) (i:Nat) (s:List UInt8):Bool:=(List.range i).any fun j=>decide ((nth l j).name=s)
theorem Xo {l:List Typ} {i:Nat} {s:List UInt8} :VN l i s=false↔ ∀j,j<i->(nth l j).name≠s:=by
 simp [VN,List.any_eq_false]
theorem Ka (l:List Typ) (c:Bool) (i:Nat) (s:List UInt8) (hi:i<=l.length) (hl:l.length<=1048576):PC 61 [.p (.list c (l.map JQ)),.p (.int .i64 (i:Nat)),.p (.str s)] (.bool (VN l i s)):=by
 refine Zd Tryz.func61 rfl Zi0 ?_;simp (disch:=omega) only [Tryz.f61,go_sem,seval];refine Zs [0,1,2] (fun k:Nat=> [(7,.p (.int .i64 k))]) (fun _=> []) (fun k=>k<=i/\ ∀j,j<k->(nth l j).name≠s) (fun k=>i-k) 0 (by simp) (Weak.mk ?_) ?_
 ·simp (disch:=omega) only [go_sem,seval]
 ·rintro k ⟨hk,hno⟩;simp (disch:=omega) only [go_sem,seval];refine cD ?_ ?_<;>intro h3<;>simp (disch:=omega) only [Sh.out h3,go_sem,seval]
  ·have hk2:k<l.length:=by omega
   refine cD ?_ ?_<;>intro h4<;>simp (disch:=omega) only [Sh.out h4,go_sem,seval]
   ·have:VN l i s=true:=by
     cases hq:VN l i s with
     | true=>rfl
     | false=>exact absurd h4 (Xo.1 hq k (by omega))
    rw [this]
   ·exact ⟨k+1,⟨by omega,Zu.2 ⟨hno,h4⟩⟩,by omega,wk⟩
  ·have:k=i:=by omega
   subst this;rw [Xo.2 hno]
def dimsOf (l:List Typ):Int:=if l.length=0 then 0 else ((nth l 0).cap.length:Int)
theorem Qv (l:List Typ) (c:Bool) (hl:l.length<=1048576):PC 29 [.p (.list c (l.map JQ))] (.int .i64 (dimsOf l)):=by
 refine Zd Tryz.func29 rfl Zjj ?_;simp (disch:=omega) only [Tryz.f29,go_sem,seval];refine cD ?_ ?_<;>intro h<;>simp (disch:=omega) only [Sh.out h,go_sem,seval]
 ·have:l.length=0:=by omega
  simp [dimsOf,this]
 ·have h0:0<l.length:=by omega
  have h1:l.length≠0:=by omega
  simp (disch:=first | omega | (simp only [List.length_cons,List.length_nil,List.length_append,List.length_map,List.length_take,List.length_drop]<;>omega)) only [dimsOf,h1,go_sem,seval]
def Xs (t:Typ):AM.Obj:= .cells [.p (.str t.name),.p (.int .i64 t.count),.p (.int .i64 t.src),.p (.int .i64 t.dst),.p (.list t.cap_c (t.cap.map eI)),.p (.int .i64 t.skills),.p (.int .i64 t.prof),.p (.int .i64 t.opn),.p (.int .i64 t.cls),.p (.int .i64 t.drive),.p (.int .i64 t.rest),.p (.int .i64 t.fixed),.p (.int .i64 t.perMile),.p (.int .i64 t.perTick)]
def KH (n:Net) (l:List Typ) (i:Nat):Prop:=((((((((nameOk (nth l i).name=true)/\(∀j,j<i->(nth l j).name≠(nth l i).name))/\rng (nth l i).count 0 10=true)/\(rng (nth l i).src 0 (n.places.length-1)=true/\rng (nth l i).dst 0 (n.places.length-1)=true))/\YR (nth l i).cap (dimsOf l)=true)/\rng (nth l i).skills 0 1073741823=true)/\(rng (nth l i).opn 0 (nth l i).cls=true/\(nth l i).cls<=4096))/\(rng (nth l i).drive 1 4096=true/\rng (nth l i).rest 0 4096=true))/\(rng (nth l i).prof 0 7=true/\rng (nth l i).fixed 0 100000=true/\rng (nth l i).perMile 0 100=true/\rng (nth l i).perTick 0 100=true)
theorem Kf (n:Net) (l:List Typ) (c:Bool) (i:Nat) (hi:i<l.length) (hl:l.length<=1048576) (hw:n.wf 1048576) (ht:(nth l i).wf 1048576) :
  ACalls Tryz.prog 44 [.p (Zbj n),.p (.list c (l.map JQ)),.p (.int .i64 (i:Nat))] [] fun x H'=> ∃m:List Int,FR (fun _=>True) (KH n l i) 9 m/\x= .sl 0 0 m.length m.length/\H'= [.elems 1 (m.map eI)]:=by
 obtain ⟨w1,w2,w3,w4⟩:=hw;refine Zi [3] Tryz.func44 rfl ZiR ?_;simp (disch:=omega) only [Tryz.f44,go_sem,seval];have hty:KH n l i↔((((((((nameOk (nth l i).name=true)/\(∀j,j<i->(nth l j).name≠(nth l i).name))/\rng (nth l i).count 0 10=true)/\(rng (nth l i).src 0 (n.places.length-1)=true/\rng (nth l i).dst 0 (n.places.length-1)=true))/\YR (nth l i).cap (dimsOf l)=true)/\rng (nth l i).skills 0 1073741823=true)/\(rng (nth l i).opn 0 (nth l i).cls=true/\(nth l i).cls<=4096))/\(rng (nth l i).drive 1 4096=true/\rng (nth l i).rest 0 4096=true))/\(rng (nth l i).prof 0 7=true/\rng (nth l i).fixed 0 100000=true/\rng (nth l i).perMile 0 100=true/\rng (nth l i).perTick 0 100=true):=Iff.rfl
 generalize hga:nth l i=t at ht hty ⊢;have hname:=ht.1;have hcap:=ht.2.2.2.2.1;refine ZM (Weak.ofNil 8 1 (by simp (disch:=omega) only [go_sem,seval]) (by simp) (Weak.refl _ _ _)) ?_;refine Zh [1,2,3,7] (fun m:List Int=> [(8,.sl 2 0 m.length m.length)]) (fun m=>Zp n++ [Xs t,.elems 1 (m.map eI)]) (fun m=>FR (fun _=>True) (nameOk t.name=true) 1 m) ?_ ?_
 ·simp (disch:=omega) only [go_sem,seval];refine (Ko t.name hname).use ?_;simp (disch:=omega) only [go_sem,seval];refine cD ?_ ?_<;>intro h0<;>simp (disch:=omega) only [Sh.out h0,go_sem,seval]
  ·simp only [Bool.not_eq_true'] at h0;exact ⟨[5],⟨by simp,by simp [h0],by simp⟩,Weak.mk (by simp (disch:=omega) only [Zp,Xs,go_sem,seval])⟩
  ·simp only [Bool.not_eq_false'] at h0;exact ⟨[],FR.nil (by simp [h0]),Weak.mk (by simp (disch:=omega) only [Zp,Xs,go_sem,seval])⟩
 ·skip
  intro m hm;refine Za [5] _ _ _ _ ?_;simp (disch:=omega) only [Zp,Xs,go_sem,seval];have hml:=hm.len;refine Zh [1,3,7] (fun m:List Int=> [(8,.sl 2 0 m.length m.length)]) (fun m=>Zp n++ [Xs t,.elems 1 (m.map eI)]) (fun m=>FR (fun _=>True) ((nameOk t.name=true)/\(∀j,j<i->(nth l j).name≠t.name)) 2 m) ?_ ?_
  ·simp (disch:=omega) only [go_sem,seval];refine (Ka l c i t.name (by omega) hl).use ?_;simp (disch:=omega) only [go_sem,seval];refine cD ?_ ?_<;>intro h<;>simp (disch:=omega) only [Sh.out h,go_sem,seval]
   ·exact ⟨m++ [6],hm.yes (by rw [<- Xo,h];simp) trivial,Weak.mk (by simp (disch:=omega) only [Zp,Xs,go_sem,seval])⟩
   ·exact ⟨m,hm.no (by exact Xo.1 h),Weak.mk (by simp (disch:=omega) only [Zp,Xs,go_sem,seval])⟩
  ·clear hm hml;intro m hm;refine Za [7] _ _ _ _ ?_;simp (disch:=omega) only [Zp,Xs,go_sem,seval];have hml:=hm.len;refine Zh [1,3,7] (fun m:List Int=> [(8,.sl 2 0 m.length m.length)]) (fun m=>Zp n++ [Xs t,.elems 1 (m.map eI)]) (fun m=>FR (fun _=>True) (((nameOk t.name=true)/\(∀j,j<i->(nth l j).name≠t.name))/\rng t.count 0 10=true) 3 m) ?_ ?_
   ·simp (disch:=omega) only [go_sem,seval];refine (Xn t.count 0 10).use ?_;simp (disch:=omega) only [go_sem,seval];refine cD ?_ ?_<;>intro h0<;>simp (disch:=omega) only [Sh.out h0,go_sem,seval]
    ·simp only [Bool.not_eq_true'] at h0;exact ⟨m++ [22],hm.yes (by simp [h0]) trivial,Weak.mk (by simp (disch:=omega) only [Zp,Xs,go_sem,seval])⟩
    ·simp only [Bool.not_eq_false'] at h0;exact ⟨m,hm.no (by simp [h0]),Weak.mk (by simp (disch:=omega) only [Zp,Xs,go_sem,seval])⟩
   ·clear hm hml;intro m hm;refine Za [9] _ _ _ _ ?_;simp (disch:=omega) only [Zp,Xs,go_sem,seval];have hml:=hm.len;refine Zh [1,7] (fun m:List Int=> [(8,.sl 2 0 m.length m.length)]) (fun m=>Zp n++ [Xs t,.elems 1 (m.map eI)]) (fun m=>FR (fun _=>True) ((((nameOk t.name=true)/\(∀j,j<i->(nth l j).name≠t.name))/\rng t.count 0 10=true)/\(rng t.src 0 (n.places.length-1)=true/\rng t.dst 0 (n.places.length-1)=true)) 4 m) ?_ ?_
    ·simp (disch:=omega) only [go_sem,seval];refine (Xn t.src 0 (n.places.length-1)).use ?_;simp (disch:=omega) only [go_sem,seval];refine gF ?_ ?_<;>intro h0<;>simp (disch:=omega) only [Sh.out h0,go_sem,seval]
     ·simp only [Bool.not_eq_true'] at h0;exact ⟨m++ [11],hm.yes (by simp [h0]) trivial,Weak.mk (by simp (disch:=omega) only [Zp,Xs,go_sem,seval])⟩
     ·simp only [Bool.not_eq_false'] at h0;refine (Xn t.dst 0 (n.places.length-1)).use ?_;simp (disch:=omega) only [go_sem,seval];refine cD ?_ ?_<;>intro h1<;>simp (disch:=omega) only [Sh.out h1,go_sem,seval]
      ·simp only [Bool.not_eq_true'] at h1;exact ⟨m++ [11],hm.yes (by simp [h1]) trivial,Weak.mk (by simp (disch:=omega) only [Zp,Xs,go_sem,seval])⟩
      ·simp only [Bool.not_eq_false'] at h1;exact ⟨m,hm.no (by simp [h0,h1]),Weak.mk (by simp (disch:=omega) only [Zp,Xs,go_sem,seval])⟩
    ·clear hm hml;intro m hm;refine Za [11] _ _ _ _ ?_;simp (disch:=omega) only [Zp,Xs,go_sem,seval];have hml:=hm.len;refine Zh [7] (fun m:List Int=> [(8,.sl 2 0 m.length m.length)]) (fun m=>Zp n++ [Xs t,.elems 1 (m.map eI)]) (fun m=>FR (fun _=>True) (((((nameOk t.name=true)/\(∀j,j<i->(nth l j).name≠t.name))/\rng t.count 0 10=true)/\(rng t.src 0 (n.places.length-1)=true/\rng t.dst 0 (n.places.length-1)=true))/\YR t.cap (dimsOf l)=true) 5 m) ?_ ?_
     ·simp (disch:=omega) only [go_sem,seval];refine Zk mixed (by kernel_rfl) (by kernel_rfl) ?_;simp (disch:=omega) only [go_sem,seval];refine Zm (Qv l c hl) ?_;simp (disch:=omega) only [go_sem,seval];refine Zm (QH t.cap t.cap_c (dimsOf l) hcap) ?_;simp (disch:=omega) only [go_sem,seval];refine cD ?_ ?_<;>intro h<;>simp (disch:=omega) only [Sh.out h,go_sem,seval]
      ·simp only [Bool.not_eq_true'] at h;exact ⟨m++ [17],hm.yes (by simp [h]) trivial,Weak.mk (by simp (disch:=omega) only [Zp,Xs,go_sem,seval])⟩
      ·simp only [Bool.not_eq_false'] at h;exact ⟨m,hm.no (by simp [h]),Weak.mk (by simp (disch:=omega) only [Zp,Xs,go_sem,seval])⟩
     ·clear hm hml;intro m hm;refine Za [13] _ _ _ _ ?_;simp (disch:=omega) only [Zp,Xs,go_sem,seval];have hml:=hm.len;refine Zh [7] (fun m:List Int=> [(8,.sl 2 0 m.length m.length)]) (fun m=>Zp n++ [Xs t,.elems 1 (m.map eI)]) (fun m=>FR (fun _=>True) ((((((nameOk t.name=true)/\(∀j,j<i->(nth l j).name≠t.name))/\rng t.count 0 10=true)/\(rng t.src 0 (n.places.length-1)=true/\rng t.dst 0 (n.places.length-1)=true))/\YR t.cap (dimsOf l)=true)/\rng t.skills 0 1073741823=true) 6 m) ?_ ?_
      ·simp (disch:=omega) only [go_sem,seval];refine (Xn t.skills 0 1073741823).use ?_;simp (disch:=omega) only [go_sem,seval];refine cD ?_ ?_<;>intro h0<;>simp (disch:=omega) only [Sh.out h0,go_sem,seval]
       ·simp only [Bool.not_eq_true'] at h0;exact ⟨m++ [18],hm.yes (by simp [h0]) trivial,Weak.mk (by simp (disch:=omega) only [Zp,Xs,go_sem,seval])⟩
       ·simp only [Bool.not_eq_false'] at h0;exact ⟨m,hm.no (by simp [h0]),Weak.mk (by simp (disch:=omega) only [Zp,Xs,go_sem,seval])⟩
      ·clear hm hml;intro m hm;refine Za [15] _ _ _ _ ?_;simp (disch:=omega) only [Zp,Xs,go_sem,seval];have hml:=hm.len;refine Zh [7] (fun m:List Int=> [(8,.sl 2 0 m.length m.length)]) (fun m=>Zp n++ [Xs t,.elems 1 (m.map eI)]) (fun m=>FR (fun _=>True) (((((((nameOk t.name=true)/\(∀j,j<i->(nth l j).name≠t.name))/\rng t.count 0 10=true)/\(rng t.src 0 (n.places.length-1)=true/\rng t.dst 0 (n.places.length-1)=true))/\YR t.cap (dimsOf l)=true)/\rng t.skills 0 1073741823=true)/\(rng t.opn 0 t.cls=true/\t.cls<=4096)) 7 m) ?_ ?_
       ·simp (disch:=omega) only [go_sem,seval];refine (Xn t.opn 0 t.cls).use ?_;simp (disch:=omega) only [go_sem,seval];refine gF ?_ ?_<;>intro h0<;>simp (disch:=omega) only [Sh.out h0,go_sem,seval]
        ·simp only [Bool.not_eq_true'] at h0;exact ⟨m++ [15],hm.yes (by simp [h0]) trivial,Weak.mk (by simp (disch:=omega) only [Zp,Xs,go_sem,seval])⟩
        ·simp only [Bool.not_eq_false'] at h0;refine cD ?_ ?_<;>intro h1<;>simp (disch:=omega) only [Sh.out h1,go_sem,seval]
         ·exact ⟨m++ [15],hm.yes (by omega) trivial,Weak.mk (by simp (disch:=omega) only [Zp,Xs,go_sem,seval])⟩
         ·exact ⟨m,hm.no (by exact ⟨h0,by omega⟩),Weak.mk (by simp (disch:=omega) only [Zp,Xs,go_sem,seval])⟩
       ·clear hm hml;intro m hm;refine Za [17] _ _ _ _ ?_;simp (disch:=omega) only [Zp,Xs,go_sem,seval];have hml:=hm.len;refine Zh [7] (fun m:List Int=> [(8,.sl 2 0 m.length m.length)]) (fun m=>Zp n++ [Xs t,.elems 1 (m.map eI)]) (fun m=>FR (fun _=>True) ((((((((nameOk t.name=true)/\(∀j,j<i->(nth l j).name≠t.name))/\rng t.count 0 10=true)/\(rng t.src 0 (n.places.length-1)=true/\rng t.dst 0 (n.places.length-1)=true))/\YR t.cap (dimsOf l)=true)/\rng t.skills 0 1073741823=true)/\(rng t.opn 0 t.cls=true/\t.cls<=4096))/\(rng t.drive 1 4096=true/\rng t.rest 0 4096=true)) 8 m) ?_ ?_
        ·simp (disch:=omega) only [go_sem,seval];refine (Xn t.drive 1 4096).use ?_;simp (disch:=omega) only [go_sem,seval];refine gF ?_ ?_<;>intro h0<;>simp (disch:=omega) only [Sh.out h0,go_sem,seval]
         ·simp only [Bool.not_eq_true'] at h0;exact ⟨m++ [16],hm.yes (by simp [h0]) trivial,Weak.mk (by simp (disch:=omega) only [Zp,Xs,go_sem,seval])⟩
         ·simp only [Bool.not_eq_false'] at h0;refine (Xn t.rest 0 4096).use ?_;simp (disch:=omega) only [go_sem,seval];refine cD ?_ ?_<;>intro h1<;>simp (disch:=omega) only [Sh.out h1,go_sem,seval]
          ·simp only [Bool.not_eq_true'] at h1;exact ⟨m++ [16],hm.yes (by simp [h1]) trivial,Weak.mk (by simp (disch:=omega) only [Zp,Xs,go_sem,seval])⟩
          ·simp only [Bool.not_eq_false'] at h1;exact ⟨m,hm.no (by simp [h0,h1]),Weak.mk (by simp (disch:=omega) only [Zp,Xs,go_sem,seval])⟩
        ·clear hm hml;intro m hm;refine Za [19] _ _ _ _ ?_;simp (disch:=omega) only [Zp,Xs,go_sem,seval];have hml:=hm.len;refine Zh [] (fun m:List Int=> [(8,.sl 2 0 m.length m.length)]) (fun m=>Zp n++ [Xs t,.elems 1 (m.map eI)]) (fun m=>FR (fun _=>True) (((((((((nameOk t.name=true)/\(∀j,j<i->(nth l j).name≠t.name))/\rng t.count 0 10=true)/\(rng t.src 0 (n.places.length-1)=true/\rng t.dst 0 (n.places.length-1)=true))/\YR t.cap (dimsOf l)=true)/\rng t.skills 0 1073741823=true)/\(rng t.opn 0 t.cls=true/\t.cls<=4096))/\(rng t.drive 1 4096=true/\rng t.rest 0 4096=true))/\(rng t.prof 0 7=true/\rng t.fixed 0 100000=true/\rng t.perMile 0 100=true/\rng t.perTick 0 100=true)) 9 m) ?_ ?_
         ·simp (disch:=omega) only [go_sem,seval];refine (Xn t.prof 0 7).use ?_;simp (disch:=omega) only [go_sem,seval];refine gF ?_ ?_<;>intro h0<;>simp (disch:=omega) only [Sh.out h0,go_sem,seval]
          ·simp only [Bool.not_eq_true'] at h0;exact ⟨m++ [2],hm.yes (by simp [h0]) trivial,Weak.mk (by simp (disch:=omega) only [Zp,Xs,go_sem,seval])⟩
          ·simp only [Bool.not_eq_false'] at h0;refine (Xn t.fixed 0 100000).use ?_;simp (disch:=omega) only [go_sem,seval];refine gF ?_ ?_<;>intro h1<;>simp (disch:=omega) only [Sh.out h1,go_sem,seval]
           ·simp only [Bool.not_eq_true'] at h1;exact ⟨m++ [2],hm.yes (by simp [h1]) trivial,Weak.mk (by simp (disch:=omega) only [Zp,Xs,go_sem,seval])⟩
           ·simp only [Bool.not_eq_false'] at h1;refine (Xn t.perMile 0 100).use ?_;simp (disch:=omega) only [go_sem,seval];refine gF ?_ ?_<;>intro h2<;>simp (disch:=omega) only [Sh.out h2,go_sem,seval]
            ·simp only [Bool.not_eq_true'] at h2;exact ⟨m++ [2],hm.yes (by simp [h2]) trivial,Weak.mk (by simp (disch:=omega) only [Zp,Xs,go_sem,seval])⟩
            ·simp only [Bool.not_eq_false'] at h2;refine (Xn t.perTick 0 100).use ?_;simp (disch:=omega) only [go_sem,seval];refine cD ?_ ?_<;>intro h3<;>simp (disch:=omega) only [Sh.out h3,go_sem,seval]
             ·simp only [Bool.not_eq_true'] at h3;exact ⟨m++ [2],hm.yes (by simp [h3]) trivial,Weak.mk (by simp (disch:=omega) only [Zp,Xs,go_sem,seval])⟩
             ·simp only [Bool.not_eq_false'] at h3;exact ⟨m,hm.no (by simp [h0,h1,h2,h3]),Weak.mk (by simp (disch:=omega) only [Zp,Xs,go_sem,seval])⟩
         ·clear hm hml;intro m hm;refine Za [] _ _ _ _ ?_;simp (disch:=omega) only [Zp,Xs,go_sem,seval];have hml:=hm.len;exact ⟨m,hm.to (by omega) (by rw [hty]),2,by simp (disch:=omega) only [Zp,Xs,go_sem,seval]⟩
def typesOk (n:Net) (l:List Typ):Prop:=rng l.length 1 6=true/\ ∀i,i<l.length->KH n l i
theorem Ze9 (n:Net) (l:List Typ) (c:Bool) (hw:n.wf 1048576) (hl:l.length<=1048576) (hlw: ∀t∈l,t.wf 1048576) :
  ACalls Tryz.prog 27 [.p (Zbj n),.p (.list c (l.map JQ))] [] fun x H'=> ∃m:List Flt,FR (pF 20) (typesOk n l) (1+9*l.length) m/\x= .sl 0 0 m.length m.length/\H'= [.elems 2 (m.map eF)]:=by
 refine Zi [2] Tryz.func27 rfl ZiW ?_;simp (disch:=omega) only [Tryz.f27,go_sem,seval];refine ZM (Weak.ofNil 5 2 (by simp (disch:=omega) only [go_sem,seval]) (by simp) (Weak.refl _ _ _)) ?_;refine Zh [1,2] (fun m:List Flt=> [(5,.sl 1 0 m.length m.length)]) (fun m=>Zp n++ [.elems 2 (m.map eF)]) (fun m=>FR (pF 20) (rng l.length 1 6=true) 1 m) ?_ ?_
 ·simp (disch:=omega) only [go_sem,seval];refine (Xn l.length 1 6).use ?_;simp (disch:=omega) only [go_sem,seval];refine cD ?_ ?_<;>intro h<;>simp (disch:=omega) only [Sh.out h,go_sem,seval]
  ·simp only [Bool.not_eq_true'] at h;exact ⟨[(4,[])],⟨by simp,by simp [h],by simp [pF]⟩,Weak.mk (by simp (disch:=omega) only [Zp,go_sem,seval])⟩
  ·simp only [Bool.not_eq_false'] at h;exact ⟨[],FR.nil h,Weak.mk (by simp (disch:=omega) only [Zp,go_sem,seval])⟩
 ·intro m hm;refine Za [] _ _ _ _ ?_;simp (disch:=omega) only [Zp,go_sem,seval];refine Zs [1,2] (fun q:Nat×List Flt=> [(5,.sl 1 0 q.2.length q.2.length),(6,.p (.int .i64 q.1))]) (fun q=>Zp n++ [.elems 2 (q.2.map eF)]) (fun q=>q.1<=l.length/\FR (pF 20) (rng l.length 1 6=true/\ ∀j,j<q.1->KH n l j) (1+9*q.1) q.2) (fun q=>l.length-q.1) (0,m) ⟨by simp,hm.to (by simp) (by simp)⟩ (Weak.mk ?_) ?_
  ·simp (disch:=omega) only [Zp,go_sem,seval]
  ·clear hm;rintro ⟨k,m⟩ ⟨hk,hm⟩;simp only at hk hm;have hml:=hm.len;simp (disch:=omega) only [Zp,go_sem,seval];refine cD ?_ ?_<;>intro h<;>simp (disch:=omega) only [Sh.out h,go_sem,seval]
   ·have hk2:k<l.length:=by omega
    have hI:I64 (k:Int):=by omega
    have hdl:=XY k hI;refine ((Kf n l c k hk2 hl hw (hlw _ (ZP hk2))).frozenE).useV fun e he=> ?_;simp (disch:=omega) only [go_sem,seval];have hel:=he.len;refine Zs [1,2,6,7] (fun q:Nat×List Flt=> [(5,.sl 1 0 q.2.length q.2.length),(8,.p (.int .i64 q.1))]) (fun q=>Zp n++ [.elems 2 (q.2.map eF)]) (fun q=>q.1<=e.length/\FR (pF 20) ((rng l.length 1 6=true/\ ∀j,j<k->KH n l j)/\q.1=0) (1+9*k+q.1) q.2) (fun q=>e.length-q.1) (0,m) ⟨by simp,hm.to (by simp) (by simp)⟩ (Weak.mk ?_) ?_
    ·simp (disch:=omega) only [Zp,go_sem,seval]
    ·clear hm hml;rintro ⟨j,m⟩ ⟨hj,hm⟩;simp only at hj hm;have hml:=hm.len;simp (disch:=omega) only [Zp,go_sem,seval];refine cD ?_ ?_<;>intro h2<;>simp (disch:=omega) only [Sh.out h2,go_sem,seval]
     ·have hj2:j<e.length:=by omega
      refine Xy 9 mixed (by kernel_rfl) (by kernel_rfl) ?_;simp (disch:=omega) only [go_sem,seval];refine Zm (YA k hI) ?_;simp (disch:=omega) only [go_sem,seval];exact ⟨(j+1,m++ [(nth e j,Us k)]),⟨by simp only;omega,(hm.yes (c:=False) (by simp) (by simpa [pF] using hdl)).to (by simp only;omega) (by simp)⟩,by simp only;omega,Weak.mk (by simp (disch:=omega) only [Zp,go_sem,seval])⟩
     ·have hjl:j=e.length:=by omega
      subst hjl;exact ⟨(k+1,m),⟨by simp only;omega,hm.to (by simp only;omega) (by simp only [Zu,and_assoc];rw [<- he.emp,List.eq_nil_iff_length_eq_zero])⟩,by simp only;omega,Weak.mk (by simp (disch:=omega) only [Zp,go_sem,seval])⟩
   ·have hkn:k=l.length:=by omega
    subst hkn;exact ⟨m,hm.to (by omega) (by rw [typesOk]),1,by simp (disch:=omega) only [Zp,go_sem,seval]⟩
theorem V0 (n lo hi:Int):PC 64 [.p (.int .i64 n),.p (.int .i64 lo),.p (.int .i64 hi)] (.bool (rng n lo hi)):=by
 refine Zd Tryz.func64 rfl Zjy ?_;simp (disch:=omega) only [Tryz.f64,go_sem,seval];refine gT ?_ ?_<;>intro h<;>simp (disch:=omega) only [Sh.out h,go_sem,seval]
 all_goals (simp [rng];first | done | omega | (rw [Bool.eq_iff_iff];simp;omega))
def loadOk (l:List Int) (d:Int):Bool:=decide ((l.length:Int)=d)&&l.all fun n=>rng n 0 1000
theorem Kj (l:List Int) (c:Bool) (d:Int) (hl:l.length<=1048576):PC 63 [.p (.list c (l.map eI)),.p (.int .i64 d)] (.bool (loadOk l d)):=by
 refine Zd Tryz.func63 rfl Zjp ?_;simp (disch:=omega) only [Tryz.f63,go_sem,seval];refine cD ?_ ?_<;>intro h2<;>simp (disch:=omega) only [Sh.out h2,go_sem,seval]
 ·simp [loadOk,h2]
 ·simp only [Classical.not_not] at h2;subst h2;refine Zs [0] (fun k:Nat=> [(5,.p (.int .i64 k))]) (fun _=> []) (fun k=>k<=l.length/\ ∀j,j<k->rng (nth l j) 0 1000=true) (fun k=>l.length-k) 0 (by simp) (Weak.mk ?_) ?_
  ·simp (disch:=omega) only [go_sem,seval]
  ·rintro k ⟨hk,hno⟩;simp (disch:=omega) only [go_sem,seval];refine cD ?_ ?_<;>intro h3<;>simp (disch:=omega) only [Sh.out h3,go_sem,seval]
   ·have hk2:k<l.length:=by omega
    have hbad:rng (nth l k) 0 1000=false->loadOk l l.length=false:=fun h4=>by
     have:l.all (fun n=>rng n 0 1000)=false:=by
      rw [List.all_eq_false];exact ⟨nth l k,ZP hk2,by rw [h4];simp⟩
     simp [loadOk,this]
    repeat' (first | (refine ZB (fun hq=> ?_) (fun hq=> ?_)<;>(try simp only [decide_eq_true_eq,decide_eq_false_iff_not,Classical.not_not] at hq)<;>simp (disch:=omega) only [Sh.out hq,go_sem,seval]) | (refine ZD (fun hq=> ?_) (fun hq=> ?_)<;>(try simp only [decide_eq_true_eq,decide_eq_false_iff_not,Classical.not_not] at hq)<;>simp (disch:=omega) only [Sh.out hq,go_sem,seval]) | (refine ZL (fun hq=> ?_) (fun hq=> ?_)<;>(try simp only [decide_eq_true_eq,decide_eq_false_iff_not,Classical.not_not] at hq)<;>simp (disch:=omega) only [Sh.out hq,go_sem,seval]))
    all_goals first
     | (rw [hbad (by simp [rng];omega)])
     | exact ⟨k+1,⟨by omega,Zu.2 ⟨hno,by simp [rng];omega⟩⟩,by omega,wk⟩
   ·have:l.all (fun n=>rng n 0 1000)=true:=by
     rw [List.all_eq_true];intro x hx;obtain ⟨j,hj,rfl⟩:=List.mem_iff_getElem.1 hx;rw [<- Zn hj];exact hno j (by omega)
    simp [loadOk,this]
def stpOk (s:Stp):Bool:=decide ((s.place= -1/\s.opn=0/\s.cls=0/\s.serv=0)\/(0<=s.place/\0<=s.opn/\s.opn<=s.cls/\s.cls<=4096/\0<=s.serv/\s.serv<=4096))
def ZcT (s:Stp):Int:=if stpOk s=true then 0 else 2
theorem Za5 (s:Stp):PC 65 [.p (ZjP s)] (.int .i64 (ZcT s)):=by
 refine Zd Tryz.func65 rfl ZhR ?_;simp (disch:=omega) only [Tryz.f65,go_sem,seval]
 repeat' (first | (refine ZB (fun hq=> ?_) (fun hq=> ?_)<;>(try simp only [decide_eq_true_eq,decide_eq_false_iff_not,Classical.not_not] at hq)<;>simp (disch:=omega) only [Sh.out hq,go_sem,seval]) | (refine ZD (fun hq=> ?_) (fun hq=> ?_)<;>(try simp only [decide_eq_true_eq,decide_eq_false_iff_not,Classical.not_not] at hq)<;>simp (disch:=omega) only [Sh.out hq,go_sem,seval]) | (refine ZL (fun hq=> ?_) (fun hq=> ?_)<;>(try simp only [decide_eq_true_eq,decide_eq_false_iff_not,Classical.not_not] at hq)<;>simp (disch:=omega) only [Sh.out hq,go_sem,seval]))
 all_goals (simp only [ZcT,stpOk,decide_eq_true_eq])
 all_goals first
  | (exfalso;omega)
  | (rw [if_pos (by omega)])
  | (rw [if_neg (by omega)])
def ZU (l:List Ord) (i:Nat):Bool:=(List.range i).all fun j=>decide ((nth l j).name≠(nth l i).name)
theorem Ya {l:List Ord} {i:Nat} :ZU l i=true↔ ∀j,j<i->(nth l j).name≠(nth l i).name:=by simp [ZU]
def sel (b:Bool) (e:Int):List Int:=if b=true then [] else [e]
theorem XB (b:Bool) (e:Int):(sel b e).length<=1:=by unfold sel;split<;>simp
theorem XR {b:Bool} {e:Int} {m p:List Int} (h:m=p) (hb:b=true):m=p++sel b e:=by simp [sel,hb,h]
theorem XH {b:Bool} {e:Int} {m p:List Int} (h:m=p) (hb:b=false):m++ [e]=p++sel b e:=by simp [sel,hb,h]
def Z7 (t:Ord):AM.Obj:= .cells [.p (.str t.name),.p (.list t.load_c (t.load.map eI)),.p (.int .i64 t.pick.place),.p (.int .i64 t.pick.opn),.p (.int .i64 t.pick.cls),.p (.int .i64 t.pick.serv),.p (.int .i64 t.drp.place),.p (.int .i64 t.drp.opn),.p (.int .i64 t.drp.cls),.p (.int .i64 t.drp.serv),.p (.int .i64 t.skills),.p (.int .i64 t.penalty),.p (.int .i64 t.split),.p (.int .i64 t.last),.p (.int .i64 t.now),.p (.bool t.off)]
def U5 (t:Ord):Bool:=decide (t.pick.place≠ -1)&&decide (t.drp.place≠ -1)
def argOk (t:Ord) (ty:Int):Bool:=rng t.penalty (-1) 1000000&&rng t.split 1 4&&decide (¬(1<t.split/\U5 t=true)/\ -1<=t.last/\t.last<ty/\ -1<=t.now/\t.now<ty)
def ZR (np:Nat) (d ty:Int) (l:List Ord) (i:Nat):List Int:=sel (nameOk (nth l i).name) 5++sel (ZU l i) 6++sel (loadOk (nth l i).load d) 17++sel ((rng (nth l i).pick.place (-1) ((np:Int)-1)&&rng (nth l i).drp.place (-1) ((np:Int)-1))) 11++sel (decide (¬((nth l i).pick.place= -1/\(nth l i).drp.place= -1))) 19++sel ((stpOk (nth l i).pick&&stpOk (nth l i).drp)) 14++sel (rng (nth l i).skills 0 1073741823) 18++sel (argOk (nth l i) ty) 2
theorem YL (np:Nat) (d ty:Int) (l:List Ord) (i:Nat):(ZR np d ty l i).length<=8:=by
 have h:=XB;simp only [ZR,List.length_append];have h1:=fun b=>h b 5;have h2:=fun b=>h b 6;have h3:=fun b=>h b 17;have h4:=fun b=>h b 11;have h5:=fun b=>h b 19;have h6:=fun b=>h b 14;have h7:=fun b=>h b 18;have h8:=fun b=>h b 2;have a1:=h1 (nameOk (nth l i).name);have a2:=h2 (ZU l i);have a3:=h3 (loadOk (nth l i).load d);have a4:=h4 (rng (nth l i).pick.place (-1) ((np:Int)-1)&&rng (nth l i).drp.place (-1) ((np:Int)-1));have a5:=h5 (decide (¬((nth l i).pick.place= -1/\(nth l i).drp.place= -1)));have a6:=h6 (stpOk (nth l i).pick&&stpOk (nth l i).drp)
 have a7:=h7 (rng (nth l i).skills 0 1073741823);have a8:=h8 (argOk (nth l i) ty);omega
theorem JJ (np:Nat) (d ty:Int) (l:List Ord) (c:Bool) (i:Nat) (hi:i<l.length) (hl:l.length<=1048576) (hnp:np<=1048576) (ht:(nth l i).wf 1048576) :
  ACalls Tryz.prog 46 [.p (.int .i64 (np:Nat)),.p (.int .i64 d),.p (.int .i64 ty),.p (.list c (l.map Ur)),.p (.int .i64 (i:Nat))] [] fun x H'=>x= .sl 0 0 (ZR np d ty l i).length (ZR np d ty l i).length/\H'= [.elems 1 ((ZR np d ty l i).map eI)]:=by
 suffices hh:ACalls Tryz.prog 46 [.p (.int .i64 (np:Nat)),.p (.int .i64 d),.p (.int .i64 ty),.p (.list c (l.map Ur)),.p (.int .i64 (i:Nat))] [] fun x H'=> ∃m:List Int,m=ZR np d ty l i/\x= .sl 0 0 m.length m.length/\H'= [.elems 1 (m.map eI)] by
  refine hh.mono ?_;rintro x H' ⟨m,rfl,h1,h2⟩;exact ⟨h1,h2⟩
 refine Zi [3] Tryz.func46 rfl Zik ?_;simp (disch:=omega) only [Tryz.f46,go_sem,seval];have hty:ZR np d ty l i=sel (nameOk (nth l i).name) 5++sel (ZU l i) 6++sel (loadOk (nth l i).load d) 17++sel ((rng (nth l i).pick.place (-1) ((np:Int)-1)&&rng (nth l i).drp.place (-1) ((np:Int)-1))) 11++sel (decide (¬((nth l i).pick.place= -1/\(nth l i).drp.place= -1))) 19++sel ((stpOk (nth l i).pick&&stpOk (nth l i).drp)) 14++sel (rng (nth l i).skills 0 1073741823) 18++sel (argOk (nth l i) ty) 2:=rfl
 have hleng: ∀m:List Int,∀p:List Int,m=p->p.length<=8->m.length<=8:=fun m p h1 h2=>by rw [h1];exact h2
 generalize hga:nth l i=t at ht hty ⊢;have hname:=ht.1;have hload:=ht.2.1;refine ZM (Weak.ofNil 11 1 (by simp (disch:=omega) only [go_sem,seval]) (by simp) (Weak.refl _ _ _)) ?_;refine Zh [0,1,2,3,4,12] (fun m:List Int=> [(11,.sl 1 0 m.length m.length)]) (fun m=> [Z7 t,.elems 1 (m.map eI)]) (fun m=>m=sel (nameOk t.name) 5) ?_ ?_
 ·simp (disch:=omega) only [go_sem,seval];refine (Ko t.name hname).use ?_;simp (disch:=omega) only [go_sem,seval];refine cD ?_ ?_<;>intro h<;>simp (disch:=omega) only [Sh.out h,go_sem,seval]
  ·simp only [Bool.not_eq_true'] at h;exact ⟨[5],by simp [sel,h],Weak.mk (by simp (disch:=omega) only [Z7,go_sem,seval])⟩
  ·simp only [Bool.not_eq_false'] at h;exact ⟨[],by simp [sel,h],Weak.mk (by simp (disch:=omega) only [Z7,go_sem,seval])⟩
 ·skip
  intro m hm;refine Za [5] _ _ _ _ ?_;simp (disch:=omega) only [Z7,go_sem,seval]
  have hml:m.length<=8:=by
   rw [hm]
   try simp only [List.length_append]
   have h:=XB;have a0:=h (nameOk t.name) 5;omega
  refine Zh [0,1,2,12] (fun m:List Int=> [(11,.sl 1 0 m.length m.length)]) (fun m=> [Z7 t,.elems 1 (m.map eI)]) (fun m=>m=sel (nameOk t.name) 5++sel (ZU l i) 6) ?_ ?_
  ·simp (disch:=omega) only [go_sem,seval];refine Zs [0,1,2,3,4,11,12] (fun k:Nat=> [(13,.p (.int .i64 k))]) (fun _=> [Z7 t,.elems 1 (m.map eI)]) (fun k=>k<=i/\ ∀j,j<k->(nth l j).name≠(nth l i).name) (fun k=>i-k) 0 (by simp) (Weak.mk ?_) ?_
   ·simp (disch:=omega) only [Z7,go_sem,seval]
   ·rintro k ⟨hk,hno⟩;simp (disch:=omega) only [Z7,go_sem,seval];refine cD ?_ ?_<;>intro h3<;>simp (disch:=omega) only [Sh.out h3,go_sem,seval]
    ·have hk2:k<l.length:=by omega
     refine Zk mixed (by kernel_rfl) (by kernel_rfl) ?_;simp (disch:=omega) only [go_sem,seval];refine cD ?_ ?_<;>intro h4<;>simp (disch:=omega) only [Sh.out h4,go_sem,seval]
     ·exact ⟨m++ [6],XH hm (by cases hq:ZU l i with | false=>rfl | true=>exact absurd (by rw [hga];exact h4) (Ya.1 hq k (by omega))),Weak.mk (by simp (disch:=omega) only [Z7,go_sem,seval])⟩
     ·exact ⟨k+1,⟨by omega,Zu.2 ⟨hno,by rw [hga];exact h4⟩⟩,by omega,Weak.mk (by simp (disch:=omega) only [Z7,go_sem,seval])⟩
    ·have hki:k=i:=by omega
     subst hki;exact ⟨m,XR hm (Ya.2 hno),Weak.mk (by simp (disch:=omega) only [Z7,go_sem,seval])⟩
  ·clear hm hml;intro m hm;refine Za [10] _ _ _ _ ?_;simp (disch:=omega) only [Z7,go_sem,seval]
   have hml:m.length<=8:=by
    rw [hm]
    try simp only [List.length_append]
    have h:=XB;have a0:=h (nameOk t.name) 5;have a1:=h (ZU l i) 6;omega
   refine Zh [0,2,12] (fun m:List Int=> [(11,.sl 1 0 m.length m.length)]) (fun m=> [Z7 t,.elems 1 (m.map eI)]) (fun m=>m=sel (nameOk t.name) 5++sel (ZU l i) 6++sel (loadOk t.load d) 17) ?_ ?_
   ·simp (disch:=omega) only [go_sem,seval];refine (Kj t.load t.load_c d hload).use ?_;simp (disch:=omega) only [go_sem,seval];refine cD ?_ ?_<;>intro h<;>simp (disch:=omega) only [Sh.out h,go_sem,seval]
    ·simp only [Bool.not_eq_true'] at h;exact ⟨m++ [17],XH hm (h),Weak.mk (by simp (disch:=omega) only [Z7,go_sem,seval])⟩
    ·simp only [Bool.not_eq_false'] at h;exact ⟨m,XR hm (h),Weak.mk (by simp (disch:=omega) only [Z7,go_sem,seval])⟩
   ·clear hm hml;intro m hm;refine Za [12] _ _ _ _ ?_;simp (disch:=omega) only [Z7,go_sem,seval]
    have hml:m.length<=8:=by
     rw [hm]
     try simp only [List.length_append]
     have h:=XB;have a0:=h (nameOk t.name) 5;have a1:=h (ZU l i) 6;have a2:=h (loadOk t.load d) 17;omega
    refine Zh [2,12] (fun m:List Int=> [(11,.sl 1 0 m.length m.length)]) (fun m=> [Z7 t,.elems 1 (m.map eI)]) (fun m=>m=sel (nameOk t.name) 5++sel (ZU l i) 6++sel (loadOk t.load d) 17++sel ((rng t.pick.place (-1) ((np:Int)-1)&&rng t.drp.place (-1) ((np:Int)-1))) 11) ?_ ?_
    ·simp (disch:=omega) only [go_sem,seval];refine (V0 t.pick.place (-1) ((np:Int)-1)).use ?_;simp (disch:=omega) only [go_sem,seval];refine gF ?_ ?_<;>intro h<;>simp (disch:=omega) only [Sh.out h,go_sem,seval]
     ·simp only [Bool.not_eq_true'] at h;exact ⟨m++ [11],XH hm (by simp [h]),Weak.mk (by simp (disch:=omega) only [Z7,go_sem,seval])⟩
     ·simp only [Bool.not_eq_false'] at h;refine (V0 t.drp.place (-1) ((np:Int)-1)).use ?_;simp (disch:=omega) only [go_sem,seval];refine cD ?_ ?_<;>intro h2<;>simp (disch:=omega) only [Sh.out h2,go_sem,seval]
      ·simp only [Bool.not_eq_true'] at h2;exact ⟨m++ [11],XH hm (by simp [h2]),Weak.mk (by simp (disch:=omega) only [Z7,go_sem,seval])⟩
      ·simp only [Bool.not_eq_false'] at h2;exact ⟨m,XR hm (by simp [h,h2]),Weak.mk (by simp (disch:=omega) only [Z7,go_sem,seval])⟩
    ·clear hm hml;intro m hm;refine Za [14] _ _ _ _ ?_;simp (disch:=omega) only [Z7,go_sem,seval]
     have hml:m.length<=8:=by
      rw [hm]
      try simp only [List.length_append]
      have h:=XB;have a0:=h (nameOk t.name) 5;have a1:=h (ZU l i) 6;have a2:=h (loadOk t.load d) 17;have a3:=h ((rng t.pick.place (-1) ((np:Int)-1)&&rng t.drp.place (-1) ((np:Int)-1))) 11;omega
     refine Zh [2,12] (fun m:List Int=> [(11,.sl 1 0 m.length m.length)]) (fun m=> [Z7 t,.elems 1 (m.map eI)]) (fun m=>m=sel (nameOk t.name) 5++sel (ZU l i) 6++sel (loadOk t.load d) 17++sel ((rng t.pick.place (-1) ((np:Int)-1)&&rng t.drp.place (-1) ((np:Int)-1))) 11++sel (decide (¬(t.pick.place= -1/\t.drp.place= -1))) 19) ?_ ?_
     ·simp (disch:=omega) only [go_sem,seval]
      repeat' (first | (refine ZB (fun hq=> ?_) (fun hq=> ?_)<;>(try simp only [decide_eq_true_eq,decide_eq_false_iff_not,Classical.not_not] at hq)<;>simp (disch:=omega) only [Sh.out hq,go_sem,seval]) | (refine ZD (fun hq=> ?_) (fun hq=> ?_)<;>(try simp only [decide_eq_true_eq,decide_eq_false_iff_not,Classical.not_not] at hq)<;>simp (disch:=omega) only [Sh.out hq,go_sem,seval]) | (refine ZL (fun hq=> ?_) (fun hq=> ?_)<;>(try simp only [decide_eq_true_eq,decide_eq_false_iff_not,Classical.not_not] at hq)<;>simp (disch:=omega) only [Sh.out hq,go_sem,seval]))
      all_goals first
       | exact ⟨m++ [19],XH hm (by first | (simp;done) | (simp;omega)),Weak.mk (by simp (disch:=omega) only [Z7,go_sem,seval])⟩
       | exact ⟨m,XR hm (by first | (simp;done) | (simp;omega)),Weak.mk (by simp (disch:=omega) only [Z7,go_sem,seval])⟩
     ·clear hm hml;intro m hm;refine Za [16] _ _ _ _ ?_;simp (disch:=omega) only [Z7,go_sem,seval]
      have hml:m.length<=8:=by
       rw [hm]
       try simp only [List.length_append]
       have h:=XB;have a0:=h (nameOk t.name) 5;have a1:=h (ZU l i) 6;have a2:=h (loadOk t.load d) 17;have a3:=h ((rng t.pick.place (-1) ((np:Int)-1)&&rng t.drp.place (-1) ((np:Int)-1))) 11;have a4:=h (decide (¬(t.pick.place= -1/\t.drp.place= -1))) 19;omega
      refine Zh [2,12] (fun m:List Int=> [(11,.sl 1 0 m.length m.length)]) (fun m=> [Z7 t,.elems 1 (m.map eI)]) (fun m=>m=sel (nameOk t.name) 5++sel (ZU l i) 6++sel (loadOk t.load d) 17++sel ((rng t.pick.place (-1) ((np:Int)-1)&&rng t.drp.place (-1) ((np:Int)-1))) 11++sel (decide (¬(t.pick.place= -1/\t.drp.place= -1))) 19++sel ((stpOk t.pick&&stpOk t.drp)) 14) ?_ ?_
      ·simp (disch:=omega) only [go_sem,seval];refine (Za5 t.pick).use ?_;simp (disch:=omega) only [go_sem,seval]
       cases h:stpOk t.pick with
       | false =>
        simp (disch:=omega) only [ZcT,h,go_sem,seval];exact ⟨m++ [14],XH hm (by simp [h]),Weak.mk (by simp (disch:=omega) only [Z7,go_sem,seval])⟩
       | true =>
        simp (disch:=omega) only [ZcT,h,go_sem,seval];refine (Za5 t.drp).use ?_;simp (disch:=omega) only [go_sem,seval]
        cases h2:stpOk t.drp with
        | false =>
         simp (disch:=omega) only [ZcT,h2,go_sem,seval];exact ⟨m++ [14],XH hm (by simp [h2]),Weak.mk (by simp (disch:=omega) only [Z7,go_sem,seval])⟩
        | true =>
         simp (disch:=omega) only [ZcT,h2,go_sem,seval];exact ⟨m,XR hm (by simp [h,h2]),Weak.mk (by simp (disch:=omega) only [Z7,go_sem,seval])⟩
      ·clear hm hml;intro m hm;refine Za [18] _ _ _ _ ?_;simp (disch:=omega) only [Z7,go_sem,seval]
       have hml:m.length<=8:=by
        rw [hm]
        try simp only [List.length_append]
        have h:=XB;have a0:=h (nameOk t.name) 5;have a1:=h (ZU l i) 6;have a2:=h (loadOk t.load d) 17;have a3:=h ((rng t.pick.place (-1) ((np:Int)-1)&&rng t.drp.place (-1) ((np:Int)-1))) 11;have a4:=h (decide (¬(t.pick.place= -1/\t.drp.place= -1))) 19;have a5:=h ((stpOk t.pick&&stpOk t.drp)) 14;omega
       refine Zh [2,12] (fun m:List Int=> [(11,.sl 1 0 m.length m.length)]) (fun m=> [Z7 t,.elems 1 (m.map eI)]) (fun m=>m=sel (nameOk t.name) 5++sel (ZU l i) 6++sel (loadOk t.load d) 17++sel ((rng t.pick.place (-1) ((np:Int)-1)&&rng t.drp.place (-1) ((np:Int)-1))) 11++sel (decide (¬(t.pick.place= -1/\t.drp.place= -1))) 19++sel ((stpOk t.pick&&stpOk t.drp)) 14++sel (rng t.skills 0 1073741823) 18) ?_ ?_
       ·simp (disch:=omega) only [go_sem,seval];refine (V0 t.skills 0 1073741823).use ?_;simp (disch:=omega) only [go_sem,seval];refine cD ?_ ?_<;>intro h<;>simp (disch:=omega) only [Sh.out h,go_sem,seval]
        ·simp only [Bool.not_eq_true'] at h;exact ⟨m++ [18],XH hm (h),Weak.mk (by simp (disch:=omega) only [Z7,go_sem,seval])⟩
        ·simp only [Bool.not_eq_false'] at h;exact ⟨m,XR hm (h),Weak.mk (by simp (disch:=omega) only [Z7,go_sem,seval])⟩
       ·clear hm hml;intro m hm;refine Za [20] _ _ _ _ ?_;simp (disch:=omega) only [Z7,go_sem,seval]
        have hml:m.length<=8:=by
         rw [hm]
         try simp only [List.length_append]
         have h:=XB;have a0:=h (nameOk t.name) 5;have a1:=h (ZU l i) 6;have a2:=h (loadOk t.load d) 17;have a3:=h ((rng t.pick.place (-1) ((np:Int)-1)&&rng t.drp.place (-1) ((np:Int)-1))) 11;have a4:=h (decide (¬(t.pick.place= -1/\t.drp.place= -1))) 19;have a5:=h ((stpOk t.pick&&stpOk t.drp)) 14;have a6:=h (rng t.skills 0 1073741823) 18;omega
        refine Zh [2,11,12] (fun b:Bool=> [(14,.p (.bool b))]) (fun _=> [Z7 t,.elems 1 (m.map eI)]) (fun b=>b=U5 t) ?_ ?_
        ·simp (disch:=omega) only [go_sem,seval]
         repeat' (first | (refine ZB (fun hq=> ?_) (fun hq=> ?_)<;>(try simp only [decide_eq_true_eq,decide_eq_false_iff_not,Classical.not_not] at hq)<;>simp (disch:=omega) only [Sh.out hq,go_sem,seval]) | (refine ZD (fun hq=> ?_) (fun hq=> ?_)<;>(try simp only [decide_eq_true_eq,decide_eq_false_iff_not,Classical.not_not] at hq)<;>simp (disch:=omega) only [Sh.out hq,go_sem,seval]) | (refine ZL (fun hq=> ?_) (fun hq=> ?_)<;>(try simp only [decide_eq_true_eq,decide_eq_false_iff_not,Classical.not_not] at hq)<;>simp (disch:=omega) only [Sh.out hq,go_sem,seval]))
         all_goals refine ⟨U5 t,rfl,Weak.mk ?_⟩
         all_goals (simp (disch:=omega) only [Z7,go_sem,seval];simp [U5, *])
        ·rintro b hb;refine Za [21] _ _ _ _ ?_;simp (disch:=omega) only [Z7,go_sem,seval];refine Zh [] (fun m:List Int=> [(11,.sl 1 0 m.length m.length)]) (fun m=> [Z7 t,.elems 1 (m.map eI)]) (fun m=>m=sel (nameOk t.name) 5++sel (ZU l i) 6++sel (loadOk t.load d) 17++sel ((rng t.pick.place (-1) ((np:Int)-1)&&rng t.drp.place (-1) ((np:Int)-1))) 11++sel (decide (¬(t.pick.place= -1/\t.drp.place= -1))) 19++sel ((stpOk t.pick&&stpOk t.drp)) 14++sel (rng t.skills 0 1073741823) 18++sel (argOk t ty) 2) ?_ ?_
         ·simp (disch:=omega) only [go_sem,seval];refine (V0 t.penalty (-1) 1000000).use ?_;simp (disch:=omega) only [go_sem,seval];refine gF ?_ ?_<;>intro h<;>simp (disch:=omega) only [Sh.out h,go_sem,seval]
          ·simp only [Bool.not_eq_true'] at h;exact ⟨m++ [2],XH hm (by simp [argOk,h]),Weak.mk (by simp (disch:=omega) only [Z7,go_sem,seval])⟩
          ·simp only [Bool.not_eq_false'] at h;refine (V0 t.split 1 4).use ?_;simp (disch:=omega) only [go_sem,seval];refine gF ?_ ?_<;>intro h2<;>simp (disch:=omega) only [Sh.out h2,go_sem,seval]
           ·simp only [Bool.not_eq_true'] at h2;exact ⟨m++ [2],XH hm (by simp [argOk,h2]),Weak.mk (by simp (disch:=omega) only [Z7,go_sem,seval])⟩
           ·simp only [Bool.not_eq_false'] at h2
            cases b with
            | true =>
             repeat' (first | (refine ZB (fun hq=> ?_) (fun hq=> ?_)<;>(try simp only [decide_eq_true_eq,decide_eq_false_iff_not,Classical.not_not] at hq)<;>simp (disch:=omega) only [Sh.out hq,go_sem,seval]) | (refine ZD (fun hq=> ?_) (fun hq=> ?_)<;>(try simp only [decide_eq_true_eq,decide_eq_false_iff_not,Classical.not_not] at hq)<;>simp (disch:=omega) only [Sh.out hq,go_sem,seval]) | (refine ZL (fun hq=> ?_) (fun hq=> ?_)<;>(try simp only [decide_eq_true_eq,decide_eq_false_iff_not,Classical.not_not] at hq)<;>simp (disch:=omega) only [Sh.out hq,go_sem,seval]))
             all_goals first
              | exact ⟨m++ [2],XH hm (by rw [argOk,<- hb];first | (simp;done) | (simp;omega)),Weak.mk (by simp (disch:=omega) only [Z7,go_sem,seval])⟩
              | exact ⟨m,XR hm (by rw [argOk,<- hb,h,h2];first | (simp;done) | (simp;omega)),Weak.mk (by simp (disch:=omega) only [Z7,go_sem,seval])⟩
            | false =>
             repeat' (first | (refine ZB (fun hq=> ?_) (fun hq=> ?_)<;>(try simp only [decide_eq_true_eq,decide_eq_false_iff_not,Classical.not_not] at hq)<;>simp (disch:=omega) only [Sh.out hq,go_sem,seval]) | (refine ZD (fun hq=> ?_) (fun hq=> ?_)<;>(try simp only [decide_eq_true_eq,decide_eq_false_iff_not,Classical.not_not] at hq)<;>simp (disch:=omega) only [Sh.out hq,go_sem,seval]) | (refine ZL (fun hq=> ?_) (fun hq=> ?_)<;>(try simp only [decide_eq_true_eq,decide_eq_false_iff_not,Classical.not_not] at hq)<;>simp (disch:=omega) only [Sh.out hq,go_sem,seval]))
             all_goals first
              | exact ⟨m++ [2],XH hm (by rw [argOk,<- hb];first | (simp;done) | (simp;omega)),Weak.mk (by simp (disch:=omega) only [Z7,go_sem,seval])⟩
              | exact ⟨m,XR hm (by rw [argOk,<- hb,h,h2];first | (simp;done) | (simp;omega)),Weak.mk (by simp (disch:=omega) only [Z7,go_sem,seval])⟩
         ·clear hm hml;intro m hm;refine Za [] _ _ _ _ ?_;simp (disch:=omega) only [Z7,go_sem,seval]
          have hml:m.length<=8:=by
           rw [hm]
           try simp only [List.length_append]
           have h:=XB;have a0:=h (nameOk t.name) 5;have a1:=h (ZU l i) 6;have a2:=h (loadOk t.load d) 17;have a3:=h ((rng t.pick.place (-1) ((np:Int)-1)&&rng t.drp.place (-1) ((np:Int)-1))) 11;have a4:=h (decide (¬(t.pick.place= -1/\t.drp.place= -1))) 19;have a5:=h ((stpOk t.pick&&stpOk t.drp)) 14;have a6:=h (rng t.skills 0 1073741823) 18;have a7:=h (argOk t ty) 2;omega
          exact ⟨m,by rw [hm,hty],1,by simp (disch:=omega) only [Z7,go_sem,seval]⟩
def ZH (np:Nat) (d ty:Int) (l:List Ord) (k:Nat):List Flt:=(if l.length<=10 then [] else [(4,[])])++(List.range k).flatMap fun i=>(ZR np d ty l i).map fun e=>(e,Us i)
theorem YN (np:Nat) (d ty:Int) (l:List Ord) (k:Nat):ZH np d ty l (k+1)=ZH np d ty l k++(ZR np d ty l k).map fun e=>(e,Us k):=by
 simp [ZH,List.range_succ]
theorem XF (np:Nat) (d ty:Int) (l:List Ord): ∀k,(ZH np d ty l k).length<=1+8*k
 | 0=>by simp [ZH];split<;>simp
 | k+1=>by
  have h1:=XF np d ty l k;have h2:=YL np d ty l k;rw [YN];simp;omega
theorem ZfA (n:Net) (d ty:Int) (l:List Ord) (c:Bool) (hw:n.wf 1048576) (hl:l.length<=1048576) (hlw: ∀t∈l,t.wf 1048576) :
  ACalls Tryz.prog 28 [.p (Zbj n),.p (.int .i64 d),.p (.int .i64 ty),.p (.list c (l.map Ur))] [] fun x H'=>x= .sl 0 0 (ZH n.places.length d ty l l.length).length (ZH n.places.length d ty l l.length).length/\H'= [.elems 2 ((ZH n.places.length d ty l l.length).map eF)]:=by
 obtain ⟨w1,w2,w3,w4⟩:=hw
 suffices hh:ACalls Tryz.prog 28 [.p (Zbj n),.p (.int .i64 d),.p (.int .i64 ty),.p (.list c (l.map Ur))] [] fun x H'=> ∃m:List Flt,m=ZH n.places.length d ty l l.length/\x= .sl 0 0 m.length m.length/\H'= [.elems 2 (m.map eF)] by
  refine hh.mono ?_;rintro x H' ⟨m,rfl,h1,h2⟩;exact ⟨h1,h2⟩
 refine Zi [2] Tryz.func28 rfl ZiA ?_;simp (disch:=omega) only [Tryz.f28,go_sem,seval];refine ZM (Weak.ofNil 9 2 (by simp (disch:=omega) only [go_sem,seval]) (by simp) (Weak.refl _ _ _)) ?_;refine Zh [1,2,3,4] (fun m:List Flt=> [(9,.sl 1 0 m.length m.length)]) (fun m=>Zp n++ [.elems 2 (m.map eF)]) (fun m=>m=ZH n.places.length d ty l 0) ?_ ?_
 ·simp (disch:=omega) only [go_sem,seval];refine cD ?_ ?_<;>intro h<;>simp (disch:=omega) only [Sh.out h,go_sem,seval]
  ·exact ⟨[(4,[])],by rw [ZH,if_neg (by omega)];rfl,Weak.mk (by simp (disch:=omega) only [Zp,go_sem,seval])⟩
  ·exact ⟨[],by rw [ZH,if_pos (by omega)];rfl,Weak.mk (by simp (disch:=omega) only [Zp,go_sem,seval])⟩
 ·intro m hm;refine Za [] _ _ _ _ ?_;simp (disch:=omega) only [Zp,go_sem,seval];refine Zs [1,2,3,4] (fun q:Nat×List Flt=> [(9,.sl 1 0 q.2.length q.2.length),(10,.p (.int .i64 q.1))]) (fun q=>Zp n++ [.elems 2 (q.2.map eF)]) (fun q=>q.1<=l.length/\q.2=ZH n.places.length d ty l q.1) (fun q=>l.length-q.1) (0,m) ⟨by simp,hm⟩ (Weak.mk ?_) ?_
  ·simp (disch:=omega) only [Zp,go_sem,seval]
  ·clear hm;rintro ⟨k,m⟩ ⟨hk,hm⟩;simp only at hk hm;have hml:=XF n.places.length d ty l k;rw [<- hm] at hml;simp (disch:=omega) only [Zp,go_sem,seval];refine cD ?_ ?_<;>intro h<;>simp (disch:=omega) only [Sh.out h,go_sem,seval]
   ·have hk2:k<l.length:=by omega
    have hI:I64 (k:Int):=by omega
    have hrl:=YL n.places.length d ty l k;refine ((JJ n.places.length d ty l c k hk2 hl w1 (hlw _ (ZP hk2))).frozen (by simp)).use ?_;simp (disch:=omega) only [go_sem,seval];generalize hre:ZR n.places.length d ty l k=e at hrl ⊢;refine Zs [1,2,3,4,10,11] (fun q:Nat×List Flt=> [(9,.sl 1 0 q.2.length q.2.length),(12,.p (.int .i64 q.1))]) (fun q=>Zp n++ [.elems 2 (q.2.map eF)]) (fun q=>q.1<=e.length/\q.2=ZH n.places.length d ty l k++(e.take q.1).map fun e=>(e,Us k)) (fun q=>e.length-q.1) (0,m) ⟨by simp,by simp [hm]⟩ (Weak.mk ?_) ?_
    ·simp (disch:=omega) only [Zp,go_sem,seval]
    ·clear hm hml;rintro ⟨j,m⟩ ⟨hj,hm⟩;simp only at hj hm;have hml:=XF n.places.length d ty l k
     have hml2:m.length<=1+8*k+8:=by rw [hm];simp;omega
     simp (disch:=omega) only [Zp,go_sem,seval];refine cD ?_ ?_<;>intro h2<;>simp (disch:=omega) only [Sh.out h2,go_sem,seval]
     ·have hj2:j<e.length:=by omega
      refine Xy 9 mixed (by kernel_rfl) (by kernel_rfl) ?_;simp (disch:=omega) only [go_sem,seval];refine Zm (YA k hI) ?_;simp (disch:=omega) only [go_sem,seval];refine ⟨(j+1,m++ [(nth e j,Us k)]),⟨by simp only;omega,?_⟩,by simp only;omega,Weak.mk (by simp (disch:=omega) only [Zp,go_sem,seval])⟩;simp only [hm,List.append_assoc];rw [List.take_succ_eq_append_getElem hj2,List.map_append,Zn hj2]
      rfl
     ·have hjl:j=e.length:=by omega
      subst hjl;refine ⟨(k+1,m),⟨by simp only;omega,?_⟩,by simp only;omega,Weak.mk (by simp (disch:=omega) only [Zp,go_sem,seval])⟩;simp only [hm,YN,hre,List.take_length]
   ·have hkn:k=l.length:=by omega
    subst hkn;exact ⟨m,hm,1,by simp (disch:=omega) only [Zp,go_sem,seval]⟩
structure OrdOk (np:Nat) (d ty:Int) (l:List Ord) (i:Nat):Prop where
 name:nameOk (nth l i).name=true
 twin: ∀j,j<i->(nth l j).name≠(nth l i).name
 load:loadOk (nth l i).load d=true
 pick: -1<=(nth l i).pick.place/\(nth l i).pick.place<np
 drp: -1<=(nth l i).drp.place/\(nth l i).drp.place<np
 one: ¬((nth l i).pick.place= -1/\(nth l i).drp.place= -1)
 pstp:stpOk (nth l i).pick=true
 dstp:stpOk (nth l i).drp=true
 skills:0<=(nth l i).skills/\(nth l i).skills<=1073741823
 arg:argOk (nth l i) ty=true
theorem Zcl {b:Bool} {e:Int} :sel b e= []↔b=true:=by unfold sel;split<;>simp_all
theorem VR {np:Nat} {d ty:Int} {l:List Ord} {i:Nat} :ZR np d ty l i= []↔OrdOk np d ty l i:=by
 simp only [ZR,List.append_eq_nil_iff,Zcl,Bool.and_eq_true,decide_eq_true_eq,rng,Ya]
 constructor
 ·rintro ⟨⟨⟨⟨⟨⟨⟨a1,a2⟩,a3⟩,a4⟩,a5⟩,a6⟩,a7⟩,a8⟩;exact ⟨a1,a2,a3,by omega,by omega,a5,a6.1,a6.2,a7,a8⟩
 ·intro h;obtain ⟨b1,b2⟩:=h.pick;obtain ⟨b3,b4⟩:=h.drp;exact ⟨⟨⟨⟨⟨⟨⟨h.name,h.twin⟩,h.load⟩,by omega,by omega⟩,h.one⟩,h.pstp,h.dstp⟩,h.skills⟩,h.arg⟩
def ordersOk (np:Nat) (d ty:Int) (l:List Ord):Prop:=l.length<=10/\ ∀i,i<l.length->OrdOk np d ty l i
theorem Uu {np:Nat} {d ty:Int} {l:List Ord} :ZH np d ty l l.length= []↔ordersOk np d ty l:=by
 simp only [ZH,List.append_eq_nil_iff,List.flatMap_eq_nil_iff,List.mem_range,List.map_eq_nil_iff,VR,ordersOk];refine and_congr ?_ Iff.rfl
 split<;>simp_all
theorem Q2 {np:Nat} {d ty:Int} {l:List Ord} (hl:l.length<=1048576): ∀f∈ZH np d ty l l.length,pF 20 f:=by
 intro f hf;simp only [ZH,List.mem_append,List.mem_flatMap,List.mem_range,List.mem_map] at hf;rcases hf with hf | ⟨i,hi,e,he,rfl⟩
 ·split at hf<;>simp at hf
  subst hf;simp [pF]
 ·exact XY i (by omega)
theorem Q4 (n:Int) (h0:0<=n) (hn:n<=4611686018427387904):PC 66 [.p (.int .i64 n)] (.str (dec n.toNat)):=by
 refine Zd Tryz.func66 rfl Zio ?_;simp (disch:=omega) only [Tryz.f66,go_sem,seval];refine Zs [] (fun q:Int×List UInt8=> [(0,.p (.int .i64 q.1)),(3,.p (.str q.2))]) (fun _=> []) (fun q=>0<=q.1/\q.1<=n/\dec q.1.toNat++q.2=dec n.toNat) (fun q=>q.1.toNat) (n,[]) (by simp [h0]) (Weak.mk ?_) ?_
 ·simp (disch:=omega) only [go_sem,seval]
 ·rintro ⟨m,s⟩ ⟨hm,hmn,hs⟩;simp only at hm hmn hs;have hl:=J1 _ n.toNat (Nat.lt_succ_self _)
  have hl2:(dec m.toNat).length+s.length=(dec n.toNat).length:=by rw [<- hs];simp
  simp (disch:=first | omega | (simp only [List.length_cons,List.length_nil,List.length_append,List.length_map,List.length_take,List.length_drop]<;>omega)) only [go_sem,seval];refine cD ?_ ?_<;>intro h<;>simp (disch:=omega) only [Sh.out h,go_sem,seval]
  ·simp (disch:=first | omega | (simp only [List.length_cons,List.length_nil,List.length_append,List.length_map,List.length_take,List.length_drop]<;>omega)) only [go_sem,seval]
   have h2: ¬m.toNat<10:=by omega
   have e1:(48+m%10).toNat=48+m.toNat%10:=by omega
   have e2:(m / 10).toNat=m.toNat / 10:=by omega
   refine ⟨(m / 10,UInt8.ofNat (48+m%10).toNat::s),⟨by simp only;omega,by simp only;omega,?_⟩,by simp only;omega,Weak.mk ?_⟩
   ·simp only [e1,e2];rw [<- hs,dec.eq_def m.toNat,dif_neg h2];simp
   ·simp (disch:=omega) only [go_sem,seval]
  ·simp (disch:=first | omega | (simp only [List.length_cons,List.length_nil,List.length_append,List.length_map,List.length_take,List.length_drop]<;>omega)) only [go_sem,seval]
   have h2:m.toNat<10:=by omega
   have e1:(48+m).toNat=48+m.toNat:=by omega
   rw [<- hs,dec.eq_def m.toNat,dif_pos h2,e1]
   rfl
def okP (n:Int) (p:Int×Int):Bool:=decide (0<=p.1/\p.1<n)&&decide (0<=p.2/\p.2<n)&&decide (¬p.1=p.2)
def atW (word:List UInt8) (i:Nat):List UInt8:=word++ [32]++dec i
def flt (n:Int) (word:List UInt8) (sm:Int×Int->Int×Int->Bool) (l:List (Int×Int)) (i:Nat):List (Int×List UInt8) :=
 if okP n (nth l i)=false then [(2,atW word i)] else if (l.take i).any (sm (nth l i)) then [(6,atW word i)] else []
def hdr (word:List UInt8) (l:List (Int×Int)):List (Int×List UInt8):=if 16<l.length then [(4,word)] else []
def WF (n:Int) (word:List UInt8) (sm:Int×Int->Int×Int->Bool) (l:List (Int×Int)) (k:Nat):List (Int×List UInt8):=hdr word l++(List.range k).flatMap (flt n word sm l)
theorem VH (n word sm l k):WF n word sm l (k+1)=WF n word sm l k++flt n word sm l k:=by simp [WF,List.range_succ,List.flatMap_append]
theorem Um (n word sm l):WF n word sm l 0=hdr word l:=by simp [WF]
theorem ZbV (n word sm l i):(flt n word sm l i).length<=1:=by unfold flt;split<;>(try split)<;>simp
theorem Yi (n word sm l): ∀k,(WF n word sm l k).length<=k+1:=by
 intro k
 induction k with
 | zero=>rw [Um];unfold hdr;split<;>simp
 | succ k ih=>rw [VH];have:=ZbV n word sm l k;simp;omega
def chk (n:Int) (ap be:List (Int×Int)):List (Int×List UInt8) :=
 WF n [97,112,97,114,116] (fun p q=>decide (p=q\/(p.1=q.2/\p.2=q.1))) ap ap.length++WF n [98,101,102,111,114,101] (fun p q=>decide (p=q)) be be.length
def smR (turned:Bool) (p q:Int×Int):Bool:=decide (q.1=p.1/\q.2=p.2)||(turned&&decide (q.1=p.2/\q.2=p.1))
theorem ZaG : smR true=fun p q=>decide (p=q\/(p.1=q.2/\p.2=q.1)):=by
 funext p q
 simp only [smR,Bool.true_and,ZeQ]
 congr 1
 simp only [Prod.ext_iff,eq_iff_iff]
 constructor
 ·rintro (h | h)
  ·exact .inl ⟨h.1.symm,h.2.symm⟩
  ·exact .inr ⟨h.2.symm,h.1.symm⟩
 ·rintro (h | h)
  ·exact .inl ⟨h.1.symm,h.2.symm⟩
  ·exact .inr ⟨h.2.symm,h.1.symm⟩
theorem Jy : smR false=fun p q=>decide (p=q):=by
 funext p q
 simp only [smR,Bool.false_and,Bool.or_false]
 congr 1
 simp only [Prod.ext_iff,eq_iff_iff];exact ⟨fun h=>⟨h.1.symm,h.2.symm⟩,fun h=>⟨h.1.symm,h.2.symm⟩⟩
def tw (turned:Bool) (l:List (Int×Int)) (p:Int×Int) (j:Nat):Bool:=(l.take j).any (smR turned p)
theorem Zce (turned l p):tw turned l p 0=false:=by simp [tw]
theorem ZbZ (turned:Bool) (l:List (Int×Int)) (p:Int×Int) (j:Nat) (h:j<l.length):tw turned l p (j+1)=(tw turned l p j||smR turned p (nth l j)):=by
 rw [tw,tw,List.take_succ_eq_append_getElem h,List.any_append,Zn h];simp only [List.any_cons,List.any_nil,Bool.or_false]
theorem U2 (n:Int) (word:List UInt8) (l:List (Int×Int)) (c:Bool) (turned:Bool) (hw:word.length<=1000) (hl:l.length<=1048576) :
  ACalls Tryz.prog 47 [.p (.int .i64 n),.p (.list c (l.map eP)),.p (.str word),.p (.bool turned)] [] fun x H'=>x= .sl 0 0 (WF n word (smR turned) l l.length).length (WF n word (smR turned) l l.length).length/\H'= [.elems 2 ((WF n word (smR turned) l l.length).map eF)]:=by
 refine Vd [2] (fn:=Tryz.f47) (by simp) Tryz.func47 rfl Zil ?_;simp (disch:=omega) only [Tryz.f47,go_sem,seval];refine ZM (Weak.ofNil 9 2 (by simp (disch:=omega) only [go_sem,seval]) (by simp) (Weak.refl _ _ _)) ?_;simp (disch:=omega) only [go_sem,seval];refine Zh [0,1,2,3] (fun _:Unit=> [(9,.sl 0 0 (hdr word l).length (hdr word l).length)]) (fun _=> [.elems 2 ((hdr word l).map eF)]) (fun _=>True) ?_ ?_
 ·simp (disch:=omega) only [go_sem,seval];refine cD ?_ ?_<;>intro h<;>simp (disch:=omega) only [Sh.out h,go_sem,seval]
  ·refine ⟨(),Weak.mk ?_⟩
   have h2:16<l.length:=by omega
   simp (disch:=omega) only [hdr,h2,go_sem,seval]
  ·refine ⟨(),Weak.mk ?_⟩
   have h2: ¬ 16<l.length:=by omega
   simp (disch:=omega) only [hdr,h2,go_sem,seval]
 ·intro _ _;refine Za [] _ _ _ _ ?_;simp (disch:=omega) only [go_sem,seval];refine Zs [0,1,2,3] (fun k:Nat=> [(9,.sl 0 0 (WF n word (smR turned) l k).length (WF n word (smR turned) l k).length),(10,.p (.int .i64 k))]) (fun k=> [.elems 2 ((WF n word (smR turned) l k).map eF)]) (fun k=>k<=l.length) (fun k=>l.length-k) 0 (by simp) (Weak.mk ?_) ?_
  ·simp (disch:=omega) only [Um,go_sem,seval]
  ·intro k hk;have hfl:=Yi n word (smR turned) l k;have hdl:=J1 _ k (Nat.lt_succ_self _);simp (disch:=omega) only [go_sem,seval];refine cD ?_ ?_<;>intro h<;>simp (disch:=omega) only [Sh.out h,go_sem,seval]
   ·have hk2:k<l.length:=by omega
    simp (disch:=first | omega | (simp only [List.length_cons,List.length_nil,List.length_append,List.length_map,List.length_take,List.length_drop]<;>omega)) only [go_sem,seval];refine (Q4 (k:Int) (by omega) (by omega)).use ?_;simp (disch:=first | omega | (simp only [List.length_cons,List.length_nil,List.length_append,List.length_map,List.length_take,List.length_drop]<;>omega)) only [go_sem,seval];have hs:=VH n word (smR turned) l k
    have hbad:okP n (nth l k)=false->flt n word (smR turned) l k= [(2,word++ [32]++dec k)]:=fun e=>by simp [flt,e,atW]
    repeat' (first | (refine ZB (fun hq=> ?_) (fun hq=> ?_)<;>(try simp only [decide_eq_true_eq,decide_eq_false_iff_not,Classical.not_not] at hq)<;>simp (disch:=omega) only [Sh.out hq,go_sem,seval]) | (refine ZD (fun hq=> ?_) (fun hq=> ?_)<;>(try simp only [decide_eq_true_eq,decide_eq_false_iff_not,Classical.not_not] at hq)<;>simp (disch:=omega) only [Sh.out hq,go_sem,seval]) | (refine ZL (fun hq=> ?_) (fun hq=> ?_)<;>(try simp only [decide_eq_true_eq,decide_eq_false_iff_not,Classical.not_not] at hq)<;>simp (disch:=omega) only [Sh.out hq,go_sem,seval]))
    all_goals try (
     have e:=hbad (by simp [okP];omega)
     exact ⟨k+1,by omega,by omega,Weak.mk (by simp (disch:=omega) only [hs,e,go_sem,seval])⟩)
    have hok:okP n (nth l k)=true:=by simp [okP];omega
    refine Zs [0,1,2,3,9,10,11,12,13] (fun j:Nat=> [(14,.p (.bool (tw turned l (nth l k) j))),(15,.p (.int .i64 j))]) (fun _=> [.elems 2 ((WF n word (smR turned) l k).map eF)]) (fun j=>j<=k) (fun j=>k-j) 0 (by simp) (Weak.mk ?_) ?_
    ·simp (disch:=omega) only [Zce,go_sem,seval]
    ·intro j hj;simp (disch:=omega) only [go_sem,seval];refine cD ?_ ?_<;>intro h4<;>simp (disch:=omega) only [Sh.out h4,go_sem,seval]
     ·have hts:=ZbZ turned l (nth l k) j (by omega);generalize tw turned l (nth l k) j=q at hts ⊢
      repeat' (first | (refine ZB (fun hq=> ?_) (fun hq=> ?_)<;>(try simp only [decide_eq_true_eq,decide_eq_false_iff_not,Classical.not_not] at hq)<;>simp (disch:=omega) only [Sh.out hq,go_sem,seval]) | (refine ZD (fun hq=> ?_) (fun hq=> ?_)<;>(try simp only [decide_eq_true_eq,decide_eq_false_iff_not,Classical.not_not] at hq)<;>simp (disch:=omega) only [Sh.out hq,go_sem,seval]) | (refine ZL (fun hq=> ?_) (fun hq=> ?_)<;>(try simp only [decide_eq_true_eq,decide_eq_false_iff_not,Classical.not_not] at hq)<;>simp (disch:=omega) only [Sh.out hq,go_sem,seval]))
      all_goals refine ⟨j+1,by omega,by omega,Weak.mk ?_⟩
      all_goals clear hs hbad hfl hdl
      all_goals simp (disch:=omega) only [hts,go_sem,seval]
      all_goals simp [smR, *]
      all_goals first | omega | (simp [smR, *] at hts;exact hts)
     ·have hjk:j=k:=by omega
      subst hjk;refine cD ?_ ?_<;>intro h5<;>simp (disch:=omega) only [Sh.out h5,go_sem,seval]
      ·have e:flt n word (smR turned) l j= [(6,word++ [32]++dec j)]:=by
        have h6:(l.take j).any (smR turned (nth l j))=true:=h5;simp [flt,hok,h6,atW]
       exact ⟨j+1,by omega,by omega,Weak.mk (by simp (disch:=omega) only [hs,e,go_sem,seval])⟩
      ·have e:flt n word (smR turned) l j= []:=by
        have h6:(l.take j).any (smR turned (nth l j))=false:=h5;simp only [flt,hok,h6,Bool.true_eq_false,Bool.false_eq_true,if_false]
       exact ⟨j+1,by omega,by omega,Weak.mk (by simp (disch:=omega) only [hs,e,go_sem,seval])⟩
   ·have:k=l.length:=by omega
    subst this;exact ⟨0,by simp (disch:=omega) only [go_sem,seval]⟩
theorem ZaJ (n:Int) (ap be:List (Int×Int)) (c c':Bool) (hl:ap.length<=1048576) (hl2:be.length<=1048576) :
  ACalls Tryz.prog 30 [.p (.int .i64 n),.p (.list c (ap.map eP)),.p (.list c' (be.map eP))] [] fun x H'=>x= .sl 0 0 (chk n ap be).length (chk n ap be).length/\H'= [.elems 2 ((chk n ap be).map eF)]:=by
 refine VC (fn:=Tryz.f30) (by simp) Tryz.func30 rfl Zi5 ?_;simp (disch:=omega) only [Tryz.f30,go_sem,seval];have h1:=Yi n [97,112,97,114,116] (smR true) ap ap.length;have h2:=Yi n [98,101,102,111,114,101] (smR false) be be.length;refine (U2 n _ ap c true (by decide) hl).useF ?_;simp (disch:=omega) only [go_sem,seval];refine (U2 n _ be c' false (by decide) hl2).useF ?_;simp (disch:=omega) only [go_sem,seval];refine ⟨0,?_⟩;rw [chk,<- ZaG,<- Jy];simp (disch:=omega) only [go_sem,seval]
@[go_sem] theorem ZeC {H:List AM.Obj} {β:Type} {S b o n:Nat} {xs:List PV} {g:β->PV} {m:List β} (hb:(n+m.length)*b<=140737488355328) (hb2:n+m.length<=140737488355328) :
  UZ H (some (S,b)) (.elems S xs) o n (some (m.map g))=if xs.length=n/\okE S (m.map g)=true then some (.sl o 0 (n+m.length) (n+m.length),ost H o (.elems S (xs++m.map g))) else none:=by
 rw [ZaC];simp only [List.length_map,hb,hb2,and_true]
def und (word:List UInt8) (f:Flt):Flt:=(f.1,if f.2= [] then word else word++ [32]++f.2)
theorem Yq (word:List UInt8) (l:List Flt) (c:Bool) (hword:word.length<=100) (hl:l.length<=4194306000000) (hp: ∀f∈l,pF 100 f) :
  ACalls Tryz.prog 25 [.p (.str word),.p (.list c (l.map eF))] [] fun x H'=>x= .sl 0 0 (l.map (und word)).length (l.map (und word)).length/\H'= [.elems 2 ((l.map (und word)).map eF)]:=by
 suffices hh:ACalls Tryz.prog 25 [.p (.str word),.p (.list c (l.map eF))] [] fun x H'=> ∃m:List Flt,m=l.map (und word)/\x= .sl 0 0 m.length m.length/\H'= [.elems 2 (m.map eF)] by
  refine hh.mono ?_;rintro x H' ⟨m,rfl,h1,h2⟩;exact ⟨h1,h2⟩
 refine Zi [2] Tryz.func25 rfl ZiH ?_;simp (disch:=omega) only [Tryz.f25,go_sem,seval];refine ZM (Weak.ofNil 5 2 (by simp (disch:=omega) only [go_sem,seval]) (by simp) (Weak.refl _ _ _)) ?_;refine Za [] _ _ _ _ ?_;simp (disch:=omega) only [go_sem,seval];refine Zs [0,1] (fun q:Nat×List Flt=> [(5,.sl 0 0 q.2.length q.2.length),(6,.p (.int .i64 q.1))]) (fun q=> [.elems 2 (q.2.map eF)]) (fun q=>q.1<=l.length/\q.2=(l.take q.1).map (und word)) (fun q=>l.length-q.1) (0,[]) ⟨by simp,by simp⟩ (Weak.mk ?_) ?_
 ·simp (disch:=omega) only [go_sem,seval]
 ·rintro ⟨k,m⟩ ⟨hk,hm⟩;simp only at hk hm
  have hml:m.length<=k:=by rw [hm];simp;omega
  simp (disch:=omega) only [go_sem,seval];refine cD ?_ ?_<;>intro h<;>simp (disch:=omega) only [Sh.out h,go_sem,seval]
  ·have hk2:k<l.length:=by omega
   have hpk:=hp _ (ZP hk2);unfold pF at hpk
   have hnext: ∀f,f=und word (nth l k)->m++ [f]=(l.take (k+1)).map (und word):=fun f hf=>by
    rw [hf,hm,List.take_succ_eq_append_getElem hk2,List.map_append,Zn hk2];rfl
   refine cD ?_ ?_<;>intro h2<;>simp (disch:=omega) only [Sh.out h2,go_sem,seval]
   ·have h3: ¬(nth l k).2= []:=by simpa using h2
    simp (disch:=first | omega | (simp only [List.length_cons,List.length_nil,List.length_append,List.length_map,List.length_take,List.length_drop]<;>omega)) only [go_sem,seval];refine ⟨(k+1,m++ [((nth l k).1,word++ [32]++(nth l k).2)]),⟨by simp only;omega,hnext _ (by simp [und,h3])⟩,by simp only;omega,Weak.mk (by simp (disch:=first | omega | (simp only [List.length_cons,List.length_nil,List.length_append,List.length_map,List.length_take,List.length_drop]<;>omega)) only [go_sem,seval])⟩
   ·have h3:(nth l k).2= []:=by simpa using h2
    refine ⟨(k+1,m++ [((nth l k).1,word)]),⟨by simp only;omega,hnext _ (by simp [und,h3])⟩,by simp only;omega,Weak.mk (by simp (disch:=first | omega | (simp only [List.length_cons,List.length_nil,List.length_append,List.length_map,List.length_take,List.length_drop]<;>omega)) only [go_sem,seval])⟩
  ·have hkn:k=l.length:=by omega
   subst hkn;exact ⟨m,by rw [hm,List.take_length],0,by simp (disch:=omega) only [go_sem,seval]⟩
theorem Zew {n:Int} {ap be:List (Int×Int)} (ha:ap.length<=1048576) (hb:be.length<=1048576): ∀f∈chk n ap be,pF 100 f:=by
 have key: ∀(word:List UInt8) (sm:Int×Int->Int×Int->Bool) (l:List (Int×Int)),word.length<=6->l.length<=1048576-> ∀f∈WF n word sm l l.length,pF 100 f:=fun word sm l hw hl f hf=>by
  simp only [WF,List.mem_append,List.mem_flatMap,List.mem_range] at hf;rcases hf with hf | ⟨i,hi,hf⟩
  ·unfold hdr at hf;split at hf<;>simp at hf;subst hf;simp [pF];omega
  ·have hd:=YG 6 i (by omega)
   have: ∀e:Int,pF 100 (e,atW word i):=fun e=>by simp [pF,atW];omega
   unfold flt at hf
   split at hf
   ·simp at hf;subst hf;exact this _
   ·split at hf<;>simp at hf
    subst hf;exact this _
 intro f hf;rcases List.mem_append.1 hf with hf | hf
 ·exact key _ _ _ (by simp) ha f hf
 ·exact key _ _ _ (by simp) hb f hf
theorem Zcz {n:Int} {ap be:List (Int×Int)} :(chk n ap be).length<=ap.length+be.length+2:=by
 have h1:=Yi n [97,112,97,114,116] (fun p q=>decide (p=q\/(p.1=q.2/\p.2=q.1))) ap ap.length;have h2:=Yi n [98,101,102,111,114,101] (fun p q=>decide (p=q)) be be.length;rw [chk,List.length_append];omega
structure InstOk (x:Inst):Prop where
 net:netOk x.net
 types:typesOk x.net x.types
 orders:ordersOk x.net.places.length (dimsOf x.types) x.types.length x.orders
 rules:chk x.orders.length x.apart x.before= []
theorem FR.und {p:Flt->Prop} {C:Prop} {b:Nat} {l:List Flt} (h:FR p C b l) (word:List UInt8):FR (fun _=>True) C b (l.map (und word)) :=
 ⟨by simpa using h.len,by rw [List.map_eq_nil_iff];exact h.emp,fun _ _=>trivial⟩
theorem Zfk (x:Inst) (hw:x.wf 1048576):ACalls Tryz.prog 11 [.p (Xw x)] [] fun y H'=> ∃m:List Flt,FR (fun _=>True) (InstOk x) 4194400000000 m/\y= .sl 0 0 m.length m.length/\H'= [.elems 2 (m.map eF)]:=by
 obtain ⟨w1,w2,w3,w4,w5,w6,w7,w8,w9⟩:=hw;refine Zi [] Tryz.func11 rfl Zjt ?_;simp (disch:=omega) only [Tryz.f11,go_sem,seval];have ol:=XF x.net.places.length (dimsOf x.types) x.types.length x.orders x.orders.length;have oat:=Q2 (np:=x.net.places.length) (d:=dimsOf x.types) (ty:=x.types.length) w4;have onil:=Uu (np:=x.net.places.length) (d:=dimsOf x.types) (ty:=x.types.length) (l:=x.orders);have cl:=Zcz (n:=x.orders.length) (ap:=x.apart) (be:=x.before);have cat:=Zew (n:=x.orders.length) w6 w8;refine ((Zeq x.net w1).frozenE).useV fun m1 h1=> ?_
 simp (disch:=omega) only [go_sem,seval];have h1p:=h1.pmono (q:=pF 100) fun f hf=>hf.mono (by omega);have u1:=Yq [110,101,116] m1 false (by simp) h1.len h1p.all;have f1:=h1.und [110,101,116];generalize m1.map (und [110,101,116])=q1 at u1 f1;have f1l:=f1.len;refine (u1).useF ?_;simp (disch:=omega) only [go_sem,seval];refine ((Ze9 x.net x.types x.types_c w1 w2 w3).frozenE).useV fun m2 h2=> ?_;simp (disch:=omega) only [go_sem,seval];have h2p:=h2.pmono (q:=pF 100) fun f hf=>hf.mono (by omega);have h2l:=h2.len;have u2:=(Yq [116,121,112,101,115] m2 false (by simp) (by omega) h2p.all).frozen (by simp)
 have f2:=h2.und [116,121,112,101,115];generalize m2.map (und [116,121,112,101,115])=q2 at u2 f2;have f2l:=f2.len;refine (u2).use ?_;simp (disch:=omega) only [go_sem,seval];have u3:=(Yq [111,114,100,101,114,115] (ZH x.net.places.length (dimsOf x.types) x.types.length x.orders x.orders.length) false (by simp) (by omega) fun f hf=>(oat f hf).mono (by omega)).frozen (by simp);have f3:=(show FR (fun _=>True) (ordersOk x.net.places.length (dimsOf x.types) x.types.length x.orders) (1+8*x.orders.length) (ZH x.net.places.length (dimsOf x.types) x.types.length x.orders x.orders.length) from ⟨ol,onil,fun _ _=>trivial⟩).und [111,114,100,101,114,115]
 generalize (ZH x.net.places.length (dimsOf x.types) x.types.length x.orders x.orders.length).map (und [111,114,100,101,114,115])=q3 at u3 f3;have f3l:=f3.len;refine Xy 13 mixed (by kernel_rfl) (by kernel_rfl) ?_;simp (disch:=omega) only [go_sem,seval];refine Zm (Qv x.types x.types_c w2) ?_;simp (disch:=omega) only [go_sem,seval];refine Zm ((ZfA x.net (dimsOf x.types) x.types.length x.orders x.orders_c w1 w4 w5).frozen (by simp)) ?_;simp (disch:=omega) only [go_sem,seval];refine Zm (u3) ?_;simp (disch:=omega) only [go_sem,seval];have u4:=(Yq [114,117,108,101,115] (chk x.orders.length x.apart x.before) false (by simp) (by omega) cat).frozen (by simp)
 have f4:=(show FR (fun _=>True) (chk x.orders.length x.apart x.before= []) (x.apart.length+x.before.length+2) (chk x.orders.length x.apart x.before) from ⟨cl,Iff.rfl,fun _ _=>trivial⟩).und [114,117,108,101,115];generalize (chk x.orders.length x.apart x.before).map (und [114,117,108,101,115])=q4 at u4 f4;have f4l:=f4.len;refine ((ZaJ x.orders.length x.apart x.before x.apart_c x.before_c w6 w8).frozen (by simp)).use ?_;simp (disch:=omega) only [go_sem,seval];refine (u4).use ?_;simp (disch:=omega) only [go_sem,seval];refine ⟨q1++q2++q3++q4,((f1.app f2).app f3 |>.app f4).to (by omega) ⟨fun ⟨⟨⟨a,b⟩,c⟩,d⟩=>⟨a,b,c,d⟩,fun h=>⟨⟨⟨h.net,h.types⟩,h.orders⟩,h.rules⟩⟩,1,?_⟩
 simp (disch:=omega) only [go_sem,seval]
def Zr (x:Inst):AM.Obj:= .cells [.p (.list x.net.places_c (x.net.places.map eS)),.p (.list x.net.arcs_c (x.net.arcs.map KN)),.p (.list x.types_c (x.types.map JQ)),.p (.list x.orders_c (x.orders.map Ur)),.p (.list x.apart_c (x.apart.map eP)),.p (.list x.before_c (x.before.map eP))]
def hv (s k:Nat):Nat:=s / pw k
deriving instance DecidableEq for Vis
theorem Zbp {v w:Vis} :v=w↔v.order=w.order/\v.drp=w.drp:=by cases v;cases w;simp
def fIx (f:Vis->Bool) (l:List Vis):Int:=match l.findIdx? f with | some i=>(i:Int) | none=> -1
def vIx (l:List Vis) (v:Vis):Int:=fIx (fun w=>decide (v=w)) l
theorem Zfb {f:Vis->Bool} {l:List Vis} {k:Nat} (hk:k<l.length) (h:f (nth l k)=true) (hno: ∀j,j<k->f (nth l j)=false):fIx f l=(k:Int):=by
 have:l.findIdx? f=some k:=by
  rw [List.findIdx?_eq_some_iff_getElem];refine ⟨hk,by rw [<- Zn hk];exact h,fun j hj=> ?_⟩;have h2:=hno j hj;rw [Zn (by omega)] at h2;simpa using h2
 simp [fIx,this]
theorem ZeA {f:Vis->Bool} {l:List Vis} (hno: ∀j,j<l.length->f (nth l j)=false):fIx f l= -1:=by
 have:l.findIdx? f=none:=by
  rw [List.findIdx?_eq_none_iff];intro x hx;obtain ⟨j,hj,rfl⟩:=List.mem_iff_getElem.1 hx;rw [<- Zn hj];exact hno j hj
 simp [fIx,this]
theorem ZiO (l:List Vis) (c:Bool) (v:Vis) (hl:l.length<=1048576):PC 202 [.p (.list c (l.map KT)),.p (KT v)] (.int .i64 (vIx l v)):=by
 refine Zd Tryz.func202 rfl ZdS ?_;simp (disch:=omega) only [Tryz.f202,go_sem,seval];refine Zs [0,3,7] (fun k:Nat=> [(8,.p (.int .i64 k))]) (fun _=> [.cells [.p (.int .i64 v.order),.p (.bool v.drp)]]) (fun k=>k<=l.length/\ ∀j,j<k->decide (v=nth l j)=false) (fun k=>l.length-k) 0 (by simp) (Weak.mk ?_) ?_
 ·simp (disch:=omega) only [go_sem,seval]
 ·rintro k ⟨hk,hno⟩;simp (disch:=omega) only [go_sem,seval];refine cD ?_ ?_<;>intro h<;>simp (disch:=omega) only [Sh.out h,go_sem,seval]
  ·have hk2:k<l.length:=by omega
   refine Zk mixed (by kernel_rfl) (by kernel_rfl) ?_;simp (disch:=omega) only [go_sem,seval];refine cD ?_ ?_<;>intro h2<;>simp (disch:=omega) only [Sh.out h2,go_sem,seval]
   ·have:v=nth l k:=by simpa [Zbp] using h2
    rw [vIx,Zfb hk2 (by simpa using this) hno]
   ·have: ¬v=nth l k:=by simpa [Zbp] using h2
    exact ⟨k+1,⟨by omega,Zu.2 ⟨hno,by simpa using this⟩⟩,by omega,wk⟩
  ·have hkl:k=l.length:=by omega
   subst hkl;rw [vIx,ZeA hno]
theorem ZcB (l:List Ord) (c:Bool) (n:Int) (hl:l.length<=1048576):PC 125 [.p (.list c (l.map Ur)),.p (.int .i64 n)] (.bool (decide (0<=n/\n<l.length))):=by
 refine Zd Tryz.func125 rfl ZeU ?_;simp (disch:=omega) only [Tryz.f125,go_sem,seval];refine gT ?_ ?_<;>intro h<;>simp (disch:=omega) only [Sh.out h,go_sem,seval]
 all_goals (try simp [h])
def Zai (l:List Ord) (i:Nat):List Vis:=(if 0<=(nth l i).pick.place then [⟨i,false⟩] else [])++(if 0<=(nth l i).drp.place then [⟨i,true⟩] else [])
theorem Q6 (l:List Ord) (c:Bool) (i:Nat) (hi:i<l.length) (hl:l.length<=1048576):ACalls Tryz.prog 97 [.p (.list c (l.map Ur)),.p (.int .i64 (i:Nat))] [] fun x H'=>x= .sl 0 0 (Zai l i).length (Zai l i).length/\H'= [.elems 2 ((Zai l i).map KT)]:=by
 suffices hh:ACalls Tryz.prog 97 [.p (.list c (l.map Ur)),.p (.int .i64 (i:Nat))] [] fun x H'=> ∃m:List Vis,m=Zai l i/\x= .sl 0 0 m.length m.length/\H'= [.elems 2 (m.map KT)] by
  refine hh.mono ?_;rintro x H' ⟨m,rfl,h1,h2⟩;exact ⟨h1,h2⟩
 refine Zi [2] Tryz.func97 rfl Zi7 ?_;simp (disch:=omega) only [Tryz.f97,go_sem,seval];refine ZM (Weak.ofNil 5 2 (by simp (disch:=omega) only [go_sem,seval]) (by simp) (Weak.refl _ _ _)) ?_;refine Za [4] _ _ _ _ ?_;simp (disch:=omega) only [go_sem,seval];refine (ZcB l c i hl).use ?_;simp (disch:=omega) only [go_sem,seval]
 have h0:(0:Int)<=(i:Int)/\(i:Int)<(l.length:Int):=by omega
 simp (disch:=omega) only [h0,go_sem,seval];refine Zh [0,1] (fun m:List Vis=> [(5,.sl 0 0 m.length m.length)]) (fun m=> [.elems 2 (m.map KT)]) (fun m=>m=(if 0<=(nth l i).pick.place then [⟨i,false⟩] else [])) ?_ ?_
 ·simp (disch:=omega) only [go_sem,seval];refine cD ?_ ?_<;>intro h<;>simp (disch:=omega) only [Sh.out h,go_sem,seval]
  ·exact ⟨[⟨i,false⟩],by simp [h],wk⟩
  ·exact ⟨[],by simp [h],wk⟩
 ·intro m hm
  have hml:m.length<=1:=by rw [hm];split<;>simp
  refine Za [] _ _ _ _ ?_;simp (disch:=omega) only [go_sem,seval];refine cD ?_ ?_<;>intro h<;>simp (disch:=omega) only [Sh.out h,go_sem,seval]
  ·exact ⟨m++ [⟨i,true⟩],by rw [Zai,hm,if_pos h],0,by simp (disch:=omega) only [go_sem,seval]⟩
  ·exact ⟨m,by rw [Zai,hm,if_neg h,List.append_nil],0,by simp (disch:=omega) only [go_sem,seval]⟩
theorem visits_c (l:List Ord) (c:Bool) (i:Nat) (hi:i<l.length) (hl:l.length<=1048576):PC 97 [.p (.list c (l.map Ur)),.p (.int .i64 (i:Nat))] (.list false ((Zai l i).map KT)) :=
 (Q6 l c i hi hl).frozen (by simp)
def ZgE (r:Rte):AM.Obj:= .cells [.p (.int .i64 r.typ),.p (.int .i64 r.start),.p (.list r.rests_c (r.rests.map eB)),.p (.list r.visits_c (r.visits.map KT))]
@[go_sem] theorem Zgh {H:List AM.Obj} {n cs cs'} :wkV H n (.tup cs) (.tup cs')=(cs'=cs/\ZS n cs=true):=by simp [wkV,frz,refB]
@[go_sem] theorem QJ {a b:V} :Xm [a,b]= .tup [a,b]:=Eq.trans rfl rfl
def Zap (l:List Vis):Nat:=l.foldl (fun s v=>s|||pw v.order.toNat) 0
def inS (v:Vis):Bool:=decide (0<=v.order/\v.order<=62)
theorem Uo {l:List Vis} {k:Nat} (hk:k<l.length):Zap (l.take (k+1))=Zap (l.take k)|||pw (nth l k).order.toNat:=by
 rw [List.take_succ_eq_append_getElem hk,Zap,List.foldl_append,Zn hk];rfl
theorem Ki : ∀(k:Nat) {l:List Vis},k<=l.length->(∀v∈l.take k,inS v=true)->Zap (l.take k)<9223372036854775808
 | 0,l,_,_=>by simp [Zap]
 | k+1,l,hk,h=>by
  have hk2:k<l.length:=by omega
  have ih:=Ki k (l:=l) (by omega) fun v hv=>h v (List.take_subset_take_left l (by omega) hv);have hv:=h (nth l k) (by rw [Zn hk2];exact List.mem_iff_getElem.2 ⟨k,by simp;omega,by simp⟩);simp only [inS,decide_eq_true_eq] at hv;have h2:pw (nth l k).order.toNat<=pw 62:=ZcQ (by omega);have h3:=ZbY;rw [Uo hk2];exact Nat.or_lt_two_pow (n:=63) (by omega) (by omega)
def ZcU (l:List Vis):Int×Int:=if l.all inS=true then (((Zap l:Nat):Int),0) else (0,2)
theorem Zb6 (r:Rte) (hl:r.visits.length<=1048576):PT 209 [.p (ZjE r)] [.p (.int .i64 (ZcU r.visits).1),.p (.int .i64 (ZcU r.visits).2)]:=by
 refine Yb [] Tryz.func209 rfl ZdF ?_;simp (disch:=omega) only [Tryz.f209,go_sem,seval];refine Zs [8,9] (fun k:Nat=> [(4,.p (.int .i64 (Zap (r.visits.take k):Nat))),(10,.p (.int .i64 k))]) (fun _=> [ZgE r]) (fun k=>k<=r.visits.length/\ ∀j,j<k->inS (nth r.visits j)=true) (fun k=>r.visits.length-k) 0 (by simp) (Weak.mk ?_) ?_
 ·simp (disch:=omega) only [ZgE,Zap,List.take_zero,List.foldl_nil,go_sem,seval]
 ·rintro k ⟨hk,hno⟩
  have hlt:=Ki k hk fun v hv=>by
   obtain ⟨j,hj,rfl⟩:=List.mem_iff_getElem.1 hv;simp at hj;rw [List.getElem_take,<- Zn (by omega)];exact hno j (by omega)
  simp (disch:=omega) only [ZgE,go_sem,seval];refine cD ?_ ?_<;>intro h<;>simp (disch:=omega) only [Sh.out h,go_sem,seval]
  ·have hk2:k<r.visits.length:=by omega
   have hbad:inS (nth r.visits k)=false->ZcU r.visits=(0,2):=fun h4=>by
    have:r.visits.all inS=false:=by rw [List.all_eq_false];exact ⟨nth r.visits k,ZP hk2,by rw [h4];simp⟩
    simp [ZcU,this]
   have hs:=Uo hk2
   have hp:(nth r.visits k).order<=62->pw (nth r.visits k).order.toNat<=4611686018427387904:=fun h=>by rw [<- ZbY];exact ZcQ (by omega)
   refine gF ?_ ?_<;>intro h1<;>simp (disch:=omega) only [Sh.out h1,go_sem,seval]
   ·have e:=hbad (by simp [inS];omega);rw [e];exact we
   ·refine cD ?_ ?_<;>intro h2<;>simp (disch:=omega) only [Sh.out h2,go_sem,seval]
    ·have e:=hbad (by simp [inS];omega);rw [e];exact we
    ·exact ⟨k+1,⟨by omega,Zu.2 ⟨hno,by simp [inS];omega⟩⟩,by omega,Weak.mk (by simp (disch:=omega) only [ZgE,hs,go_sem,seval])⟩
  ·have hkl:k=r.visits.length:=by omega
   subst hkl
   have:r.visits.all inS=true:=by
    rw [List.all_eq_true];intro v hv;obtain ⟨j,hj,rfl⟩:=List.mem_iff_getElem.1 hv;rw [<- Zn hj];exact hno j hj
   have e:ZcU r.visits=(((Zap r.visits:Nat):Int),0):=by simp [ZcU,this]
   rw [e,List.take_length];exact we
def QX (a b:Int):Int:=if a<b then-1 else if b<a then 1 else 0
theorem KS (a:Int):PC 110 [.p (.int .i64 a)] (.bool false):=by
 refine Zd Tryz.func110 rfl ZeT ?_;simp (disch:=omega) only [Tryz.f110,go_sem,seval]
 try simp
theorem ZdX (a b:Int):PC 85 [.p (.int .i64 a),.p (.int .i64 b)] (.int .i64 (QX a b)):=by
 refine Zd Tryz.func85 rfl Zid ?_;simp (disch:=omega) only [Tryz.f85,go_sem,seval];refine (KS a).use ?_;simp (disch:=omega) only [go_sem,seval];refine (KS b).use ?_;simp (disch:=omega) only [go_sem,seval];refine cD ?_ ?_<;>intro h<;>simp (disch:=omega) only [Sh.out h,go_sem,seval]
 ·simp [QX,h]
 ·refine cD ?_ ?_<;>intro h2<;>simp (disch:=omega) only [Sh.out h2,go_sem,seval]
  ·simp [QX,h,h2]
  ·simp [QX,h,h2]
def orI (l:List Int):Int:=(l.find? fun n=>decide (n≠0)).getD 0
theorem Zex {l:List Int} {k:Nat} (hk:k<l.length) (h:nth l k≠0) (hno: ∀j,j<k->nth l j=0):orI l=nth l k:=by
 have:l.find? (fun n=>decide (n≠0))=some (nth l k):=by
  rw [List.find?_eq_some_iff_getElem];refine ⟨by simpa using h,k,hk,(Zn hk).symm,fun j hj=> ?_⟩;have:=hno j hj;rw [Zn (by omega)] at this;simp [this]
 simp only [orI,this,Option.getD_some]
theorem Zd5 {l:List Int} (hno: ∀j,j<l.length->nth l j=0):orI l=0:=by
 have:l.find? (fun n=>decide (n≠0))=none:=by
  rw [List.find?_eq_none];intro x hx;obtain ⟨j,hj,rfl⟩:=List.mem_iff_getElem.1 hx;rw [<- Zn hj,hno j hj];simp
 simp only [orI,this,Option.getD_none]
theorem ZkO (l:List Int) (c:Bool) (hl:l.length<=100):PC 84 [.p (.list c (l.map eI))] (.int .i64 (orI l)):=by
 refine Zd Tryz.func84 rfl ZiK ?_;simp (disch:=omega) only [Tryz.f84,go_sem,seval];refine Zs [3,6,7] (fun k:Nat=> [(8,.p (.int .i64 k))]) (fun _=> []) (fun k=>k<=l.length/\ ∀j,j<k->nth l j=0) (fun k=>l.length-k) 0 (by simp) (Weak.mk ?_) ?_
 ·simp (disch:=omega) only [go_sem,seval]
 ·rintro k ⟨hk,hno⟩;simp (disch:=omega) only [go_sem,seval];refine cD ?_ ?_<;>intro h<;>simp (disch:=omega) only [Sh.out h,go_sem,seval]
  ·have hk2:k<l.length:=by omega
   refine cD ?_ ?_<;>intro h2<;>simp (disch:=omega) only [Sh.out h2,go_sem,seval]
   ·rw [Zex hk2 h2 hno]
   ·exact ⟨k+1,⟨by omega,Zu.2 ⟨hno,by simpa using h2⟩⟩,by omega,wk⟩
  ·have hkl:k=l.length:=by omega
   subst hkl;rw [Zd5 hno]
theorem ZbL (a b:Int):orI [a,b]=if a=0 then b else a:=by
 by_cases h:a=0
 ·by_cases h2:b=0<;>simp [orI,h,h2]
 ·simp [orI,h]
def dn (v:Vis):Int:=if v.drp=true then 1 else 0
def ZlK (nx:List Vis->List Vis):Nat->List Vis->List (List Vis)->List (List Vis)×Bool
 | 0,l,outs=>(outs++ [l],decide (outs.length+1<=8192))
 | f+1,l,outs=>(nx l).foldl (fun acc v=>if acc.2=true then ZlK nx f (l++ [v]) acc.1 else acc) (outs,true)
theorem Ui {a b:Int} :QX a b=0↔a=b:=by unfold QX;split<;>(try split)<;>omega
def Plc (x:Inst):Prop:= ∀o∈x.orders,-1<=o.pick.place/\ -1<=o.drp.place
def Vne (x:Inst):Prop:= ∀i,i<x.orders.length->Zai x.orders i≠ []
def ext (nx:List Vis->List Vis):Nat->List Vis->List (List Vis)->List (List Vis)
 | 0,l,outs=>if 8192<outs.length then outs else outs++ [l]
 | f+1,l,outs=>if 8192<outs.length then outs else (nx l).foldl (fun acc v=>ext nx f (l++ [v]) acc) outs
structure IFacts (x:Inst):Prop where
 len:x.orders.length<=10
 plc:Plc x
 vne:Vne x
 val:Val x.orders.length x.before
 ne: ∀p∈x.before,p.1≠p.2
 aval:Val x.orders.length x.apart
theorem Zbr {n:Int} {word:List UInt8} {sm:Int×Int->Int×Int->Bool} {l:List (Int×Int)} (h:WF n word sm l l.length= []): ∀p∈l,okP n p=true:=by
 intro p hp;obtain ⟨i,hi,rfl⟩:=List.mem_iff_getElem.1 hp;have h2:=(List.append_eq_nil_iff.1 h).2;rw [List.flatMap_eq_nil_iff] at h2;have h3:=h2 i (by simpa using hi);rw [flt,Zn hi] at h3
 cases h4:okP n l[i] with
 | true=>rfl
 | false=>rw [h4] at h3;simp at h3
theorem Jo {x:Inst} (h:InstOk x):IFacts x:=by
 have ho:=h.orders;obtain ⟨h1,h2⟩:=List.append_eq_nil_iff.1 h.rules;have ha:=Zbr h1;have hb:=Zbr h2
 have hpl:Plc x:=fun o hm=>by
  obtain ⟨i,hi,rfl⟩:=List.mem_iff_getElem.1 hm;have:=ho.2 i hi;rw [<- Zn hi];exact ⟨this.pick.1,this.drp.1⟩
 have val: ∀l:List (Int×Int),(∀p∈l,okP x.orders.length p=true)->Val x.orders.length l:=fun l h p hp=>by
  have:=h p hp;simp [okP] at this;omega
 refine ⟨ho.1,hpl,fun i hi=> ?_,val _ hb,fun p hp=> ?_,val _ ha⟩
 ·have h3:=ho.2 i hi;have h4:=hpl _ (ZP hi);have h5:=h3.one;unfold Zai
  by_cases h6:0<=(nth x.orders i).pick.place
  ·simp [h6]
  ·have:0<=(nth x.orders i).drp.place:=by omega
   simp [this]
 ·have:=hb p hp;simp [okP] at this;exact this.2
theorem JH {a b:Int} :QX a b<0↔a<b:=by unfold QX;split<;>(try split)<;>omega
end Go.Proofs.YtgknhiknjimdpaaGreatDoor.K
