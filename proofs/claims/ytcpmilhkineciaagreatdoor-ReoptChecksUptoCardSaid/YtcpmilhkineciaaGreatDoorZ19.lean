/- Declarations that the closing texts need, part 19: joined by tools/slim.py. -/
import Derived.Test.YtcpmilhkineciaaGreatDoorZ18
import Derived.Test.YtcpmilhkineciaaGreatDoorRows
namespace Go.Proofs.YtcpmilhkineciaaGreatDoor.K
open Go Go.AM Go.Proofs
theorem Zgt : Tryz.prog.cellsOf 3=1:=by kernel_rfl
theorem ZxT : Tryz.prog.cellsOf 4=1:=by kernel_rfl
theorem Zw9 : Tryz.prog.cellsOf 9=1:=by kernel_rfl
theorem Zu1 : Tryz.prog.cellsOf 30=1:=by kernel_rfl
theorem ZjQ : Tryz.prog.cellsOf 31=1:=by kernel_rfl
theorem ZnZ : Tryz.prog.cellsOf 33=2:=by kernel_rfl
theorem ZnV : pcs Tryz.prog 33=some [(0,30),(1,31)]:=by kernel_rfl
theorem ZvZ : Tryz.prog.cellsOf 35=1:=by kernel_rfl
theorem Zvl : Tryz.prog.cellsOf 36=1:=by kernel_rfl
theorem Zmx : Tryz.prog.cellsOf 38=2:=by kernel_rfl
theorem Zwa : pcs Tryz.prog 38=some [(0,35),(1,36)]:=by kernel_rfl
theorem ZvF : Tryz.prog.cellsOf 39=1:=by kernel_rfl
theorem Zwc : Tryz.prog.cellsOf 40=1:=by kernel_rfl
theorem Zug : Tryz.prog.cellsOf 41=1:=by kernel_rfl
theorem ZnU : Tryz.prog.cellsOf 43=6:=by kernel_rfl
theorem Zvd : pcs Tryz.prog 43=some [(0,38),(2,39),(3,40),(4,41),(5,41)]:=by kernel_rfl
theorem Zwi : Tryz.prog.cellsOf 46=1:=by kernel_rfl
theorem Zur : Tryz.prog.cellsOf 47=1:=by kernel_rfl
theorem ZvC : Tryz.prog.cellsOf 49=4:=by kernel_rfl
theorem Zqv : pcs Tryz.prog 49=some [(0,3),(1,3),(2,46),(3,47)]:=by kernel_rfl
theorem ZpG : Tryz.prog.cellsOf 57=4:=by kernel_rfl
theorem Zvp : pcs Tryz.prog 57=some [(0,3),(1,3),(2,3),(3,3)]:=by kernel_rfl
theorem Zvr : Tryz.prog.cellsOf 59=16:=by kernel_rfl
theorem Zp5 : pcs Tryz.prog 59=some [(0,9),(1,31),(2,57),(6,57),(10,3),(11,3),(12,3),(13,3),(14,3),(15,4)]:=by kernel_rfl
theorem ZuA : Tryz.prog.cellsOf 63=15:=by kernel_rfl
theorem Zqn : pcs Tryz.prog 63=some [(0,43),(6,33),(8,3),(9,43)]:=by kernel_rfl
theorem ZvU : Tryz.prog.cellsOf 82=14:=by kernel_rfl
theorem ZmS : pcs Tryz.prog 82=some [(0,9),(1,3),(2,3),(3,3),(4,31),(5,3),(6,3),(7,3),(8,3),(9,3),(10,3),(11,3),(12,3),(13,3)]:=by kernel_rfl
theorem ZoO : Tryz.prog.cellsOf 126=2:=by kernel_rfl
theorem Ziv : pcs Tryz.prog 126=some [(0,3),(1,4)]:=by kernel_rfl
theorem Zrr : Tryz.prog.cellsOf 127=1:=by kernel_rfl
theorem Zrm : Tryz.prog.cellsOf 129=6:=by kernel_rfl
theorem Zit : pcs Tryz.prog 129=some [(0,3),(1,3),(2,3),(3,3),(4,127),(5,127)]:=by kernel_rfl
theorem Zmd : Tryz.prog.cellsOf 132=2:=by kernel_rfl
theorem ZhX : pcs Tryz.prog 132=some [(0,3),(1,3)]:=by kernel_rfl
theorem Znb : Tryz.prog.cellsOf 188=2:=by kernel_rfl
theorem Zh3 : pcs Tryz.prog 188=some [(0,3),(1,3)]:=by kernel_rfl
set_option linter.unusedVariables false
set_option linter.unusedSimpArgs false
mutual
theorem ZcZ {H:Type} :(d:DataW H)->dsz d<=Rows.uptoBulk d
 | .lit l=>by cases l<;>simp [dsz,Rows.uptoBulk]
 | .nil=>by simp [dsz,Rows.uptoBulk]
 | .ptr d=>by have:=ZcZ d;simp only [dsz,Rows.uptoBulk];omega
 | .slice es sp=>by have:=UH es;have:=UH sp;simp only [dsz,Rows.uptoBulk];omega
 | .agg ps=>by have:=UH ps;simp only [dsz,Rows.uptoBulk];omega
 | .iface _ d=>by have:=ZcZ d;simp only [dsz,Rows.uptoBulk];omega
 | .map es=>by simp only [dsz,Rows.uptoBulk];omega
 | .held h=>by simp [dsz,Rows.uptoBulk]
theorem UH {H:Type} :(l:List (DataW H))->Ku l<=Rows.uptoBulkAll l
 | []=>by simp [Ku,Rows.uptoBulkAll]
 | d::r=>by have:=ZcZ d;have:=UH r;simp only [Ku,Rows.uptoBulkAll];omega
end
theorem Zb0 {H:Type} {l:List (DataW H)} (h:Rows.uptoSmall H l=true):Ku l<=1048576:=by
 have h1:=UH l;have h2:Rows.uptoBulkAll l<=1048576:=of_decide_eq_true h;omega
abbrev I64 (n:Int):Prop:= -9223372036854775808<=n/\n<=9223372036854775807
def eI (n:Int):PV:= .int .i64 n
def eB (b:Bool):PV:= .bool b
def eS (s:List UInt8):PV:= .str s
def eP (p:Int×Int):PV:= .agg [.int .i64 p.1,.int .i64 p.2]
@[go_sem] theorem ZzG (n:Int):eI n= .int .i64 n:=Eq.trans rfl rfl
@[go_sem] theorem ZAj (b:Bool):eB b= .bool b:=Eq.trans rfl rfl
@[go_sem] theorem Zzl (s:List UInt8):eS s= .str s:=Eq.trans rfl rfl
@[go_sem] theorem ZzE (p:Int×Int):eP p= .agg [.int .i64 p.1,.int .i64 p.2]:=Eq.trans rfl rfl
@[go_sem] theorem ZwL (l:List Bool):Zed 1 (l.map eB)=true:=QX (f:=eB) (S:=1) (fun _=>rfl) l
@[go_sem] theorem Zw7 (l:List Bool):okE 1 (l.map eB)=true:=QP fun _=>rfl
theorem QH {B xs} (h: ∀y∈xs,FitV Tryz.prog B 3 y): ∃l:List Int,xs=l.map eI/\ ∀n∈l,I64 n :=
 XM (f:=eI) fun y hy=>by
  obtain ⟨n,rfl,w⟩:=Zkd Tryz.underlying3 (h y hy);exact ⟨n,rfl,ZN w⟩
theorem Ze4 {B xs} (h: ∀y∈xs,FitV Tryz.prog B 4 y): ∃l:List Bool,xs=l.map eB/\ ∀b∈l,True :=
 XM (f:=eB) fun y hy=>by
  obtain ⟨b,rfl⟩:=Zhr Tryz.underlying4 (h y hy);exact ⟨b,rfl,trivial⟩
theorem Zhs {B xs} (h: ∀y∈xs,FitV Tryz.prog B 9 y): ∃l:List (List UInt8),xs=l.map eS/\ ∀s∈l,s.length<=B :=
 XM (f:=eS) fun y hy=>by
  obtain ⟨s,rfl,w,_⟩:=Zj6 Tryz.underlying9 (h y hy);exact ⟨s,rfl,w⟩
theorem Zrs {α:Type} {l:List α} (h:l.length=2): ∃a0 a1,l= [a0,a1]:=by
 match l,h with | [a0,a1],_=>exact ⟨a0,a1,rfl⟩
theorem Zx3 {α:Type} {l:List α} (h:l.length=6): ∃a0 a1 a2 a3 a4 a5,l= [a0,a1,a2,a3,a4,a5]:=by
 match l,h with | [a0,a1,a2,a3,a4,a5],_=>exact ⟨a0,a1,a2,a3,a4,a5,rfl⟩
theorem Zuy {α:Type} {l:List α} (h:l.length=14): ∃a0 a1 a2 a3 a4 a5 a6 a7 a8 a9 a10 a11 a12 a13,l= [a0,a1,a2,a3,a4,a5,a6,a7,a8,a9,a10,a11,a12,a13]:=by
 match l,h with | [a0,a1,a2,a3,a4,a5,a6,a7,a8,a9,a10,a11,a12,a13],_=>exact ⟨a0,a1,a2,a3,a4,a5,a6,a7,a8,a9,a10,a11,a12,a13,rfl⟩
theorem Zyq {α:Type} {l:List α} (h:l.length=4): ∃a0 a1 a2 a3,l= [a0,a1,a2,a3]:=by
 match l,h with | [a0,a1,a2,a3],_=>exact ⟨a0,a1,a2,a3,rfl⟩
theorem Zuj {α:Type} {l:List α} (h:l.length=16): ∃a0 a1 a2 a3 a4 a5 a6 a7 a8 a9 a10 a11 a12 a13 a14 a15,l= [a0,a1,a2,a3,a4,a5,a6,a7,a8,a9,a10,a11,a12,a13,a14,a15]:=by
 match l,h with | [a0,a1,a2,a3,a4,a5,a6,a7,a8,a9,a10,a11,a12,a13,a14,a15],_=>exact ⟨a0,a1,a2,a3,a4,a5,a6,a7,a8,a9,a10,a11,a12,a13,a14,a15,rfl⟩
structure Pt where
 t:Int
 a:Int
 deriving Inhabited
def cPt (x:Pt):List PV:= [.int .i64 x.t,.int .i64 x.a]
def ePt (x:Pt):PV:= .agg [.int .i64 x.t,.int .i64 x.a]
@[go_sem] theorem ZxA (x:Pt):ePt x= .agg [.int .i64 x.t,.int .i64 x.a]:=Eq.trans rfl rfl
def Pt.wf (B:Nat) (x:Pt):Prop:=I64 x.t/\I64 x.a
theorem Zi9 {B m cs} (h:YE Tryz.prog B m 188 cs): ∃x:Pt,cs=cPt x/\x.wf B:=by
 obtain ⟨h1,m',h2⟩:=Xt Zh3 Znb h;obtain ⟨a0,a1,rfl⟩:=Zrs h1;obtain ⟨n0,e0,w0⟩:=Zt Tryz.underlying3 (h2 (0,3) (by simp));obtain ⟨n1,e1,w1⟩:=Zt Tryz.underlying3 (h2 (1,3) (by simp));simp [Zgt] at e0 e1;subst e0;subst e1;exact ⟨⟨n0,n1⟩,rfl,ZN w0,ZN w1⟩
theorem Zia {B v} (h:FitV Tryz.prog B 188 v): ∃x:Pt,v=ePt x/\x.wf B:=by
 obtain ⟨k,cs,h,e⟩:=h.out;obtain ⟨x,rfl,hw⟩:=Zi9 h;exact ⟨x,e.trans (by rw [UV,if_pos (XC Zh3)];rfl),hw⟩
structure Arc where
 src:Int
 dst:Int
 prof:Int
 miles:Int
 travel_c:Bool
 travel:List (Pt)
 slow_c:Bool
 slow:List (Pt)
 deriving Inhabited
def ZzO (x:Arc):List PV:= [.int .i64 x.src,.int .i64 x.dst,.int .i64 x.prof,.int .i64 x.miles,.list x.travel_c (x.travel.map ePt),.list x.slow_c (x.slow.map ePt)]
def VM (x:Arc):PV:= .agg [.int .i64 x.src,.int .i64 x.dst,.int .i64 x.prof,.int .i64 x.miles,.list x.travel_c (x.travel.map ePt),.list x.slow_c (x.slow.map ePt)]
@[go_sem] theorem ZvV (x:Arc):VM x= .agg [.int .i64 x.src,.int .i64 x.dst,.int .i64 x.prof,.int .i64 x.miles,.list x.travel_c (x.travel.map ePt),.list x.slow_c (x.slow.map ePt)]:=Eq.trans rfl rfl
def Arc.wf (B:Nat) (x:Arc):Prop:=I64 x.src/\I64 x.dst/\I64 x.prof/\I64 x.miles/\x.travel.length<=B/\(∀y∈x.travel,Pt.wf B y)/\x.slow.length<=B/\(∀y∈x.slow,Pt.wf B y)
theorem Zgq {B m cs} (h:YE Tryz.prog B m 129 cs): ∃x:Arc,cs=ZzO x/\x.wf B:=by
 obtain ⟨h1,m',h2⟩:=Xt Zit Zrm h;obtain ⟨a0,a1,a2,a3,a4,a5,rfl⟩:=Zx3 h1;obtain ⟨n0,e0,w0⟩:=Zt Tryz.underlying3 (h2 (0,3) (by simp));obtain ⟨n1,e1,w1⟩:=Zt Tryz.underlying3 (h2 (1,3) (by simp));obtain ⟨n2,e2,w2⟩:=Zt Tryz.underlying3 (h2 (2,3) (by simp));obtain ⟨n3,e3,w3⟩:=Zt Tryz.underlying3 (h2 (3,3) (by simp));obtain ⟨y4,e4,w4,_,z4⟩:=ZO Tryz.underlying127 (h2 (4,127) (by simp));obtain ⟨n4,rfl,u4⟩:=XM (f:=ePt) fun y hy=>Zia (z4 y hy);obtain ⟨y5,e5,w5,_,z5⟩:=ZO Tryz.underlying127 (h2 (5,127) (by simp))
 obtain ⟨n5,rfl,u5⟩:=XM (f:=ePt) fun y hy=>Zia (z5 y hy);simp [Zrr,Zgt] at e0 e1 e2 e3 e4 e5;subst e0;subst e1;subst e2;subst e3;subst e4;subst e5;exact ⟨⟨n0,n1,n2,n3,false,n4,false,n5⟩,rfl,ZN w0,ZN w1,ZN w2,ZN w3,by simpa using w4,u4,by simpa using w5,u5⟩
theorem ZiX {B v} (h:FitV Tryz.prog B 129 v): ∃x:Arc,v=VM x/\x.wf B:=by
 obtain ⟨k,cs,h,e⟩:=h.out;obtain ⟨x,rfl,hw⟩:=Zgq h;exact ⟨x,e.trans (by rw [UV,if_pos (XC Zit)];rfl),hw⟩
structure Net where
 places_c:Bool
 places:List (List UInt8)
 arcs_c:Bool
 arcs:List (Arc)
 deriving Inhabited
def ZyN (x:Net):List PV:= [.list x.places_c (x.places.map eS),.list x.arcs_c (x.arcs.map VM)]
def ZaQ (x:Net):PV:= .agg [.list x.places_c (x.places.map eS),.list x.arcs_c (x.arcs.map VM)]
@[go_sem] theorem Zvf (x:Net):ZaQ x= .agg [.list x.places_c (x.places.map eS),.list x.arcs_c (x.arcs.map VM)]:=Eq.trans rfl rfl
def Net.wf (B:Nat) (x:Net):Prop:=x.places.length<=B/\(∀s∈x.places,s.length<=B)/\x.arcs.length<=B/\(∀y∈x.arcs,Arc.wf B y)
theorem ZhT {B m cs} (h:YE Tryz.prog B m 38 cs): ∃x:Net,cs=ZyN x/\x.wf B:=by
 obtain ⟨h1,m',h2⟩:=Xt Zwa Zmx h;obtain ⟨a0,a1,rfl⟩:=Zrs h1;obtain ⟨y0,e0,w0,_,z0⟩:=ZO Tryz.underlying35 (h2 (0,35) (by simp));obtain ⟨n0,rfl,u0⟩:=Zhs z0;obtain ⟨y1,e1,w1,_,z1⟩:=ZO Tryz.underlying36 (h2 (1,36) (by simp));obtain ⟨n1,rfl,u1⟩:=XM (f:=VM) fun y hy=>ZiX (z1 y hy);simp [Zvl,ZvZ] at e0 e1;subst e0;subst e1;exact ⟨⟨false,n0,false,n1⟩,rfl,by simpa using w0,u0,by simpa using w1,u1⟩
structure Typ where
 name:List UInt8
 count:Int
 src:Int
 dst:Int
 cap_c:Bool
 cap:List (Int)
 skills:Int
 prof:Int
 opn:Int
 cls:Int
 drive:Int
 rest:Int
 fixed:Int
 perMile:Int
 perTick:Int
 deriving Inhabited
def ZAi (x:Typ):List PV:= [.str x.name,.int .i64 x.count,.int .i64 x.src,.int .i64 x.dst,.list x.cap_c (x.cap.map eI),.int .i64 x.skills,.int .i64 x.prof,.int .i64 x.opn,.int .i64 x.cls,.int .i64 x.drive,.int .i64 x.rest,.int .i64 x.fixed,.int .i64 x.perMile,.int .i64 x.perTick]
def VK (x:Typ):PV:= .agg [.str x.name,.int .i64 x.count,.int .i64 x.src,.int .i64 x.dst,.list x.cap_c (x.cap.map eI),.int .i64 x.skills,.int .i64 x.prof,.int .i64 x.opn,.int .i64 x.cls,.int .i64 x.drive,.int .i64 x.rest,.int .i64 x.fixed,.int .i64 x.perMile,.int .i64 x.perTick]
@[go_sem] theorem Zv6 (x:Typ):VK x= .agg [.str x.name,.int .i64 x.count,.int .i64 x.src,.int .i64 x.dst,.list x.cap_c (x.cap.map eI),.int .i64 x.skills,.int .i64 x.prof,.int .i64 x.opn,.int .i64 x.cls,.int .i64 x.drive,.int .i64 x.rest,.int .i64 x.fixed,.int .i64 x.perMile,.int .i64 x.perTick]:=Eq.trans rfl rfl
def Typ.wf (B:Nat) (x:Typ):Prop:=x.name.length<=B/\I64 x.count/\I64 x.src/\I64 x.dst/\x.cap.length<=B/\(∀n∈x.cap,I64 n)/\I64 x.skills/\I64 x.prof/\I64 x.opn/\I64 x.cls/\I64 x.drive/\I64 x.rest/\I64 x.fixed/\I64 x.perMile/\I64 x.perTick
theorem ZhR {B m cs} (h:YE Tryz.prog B m 82 cs): ∃x:Typ,cs=ZAi x/\x.wf B:=by
 obtain ⟨h1,m',h2⟩:=Xt ZmS ZvU h;obtain ⟨a0,a1,a2,a3,a4,a5,a6,a7,a8,a9,a10,a11,a12,a13,rfl⟩:=Zuy h1;obtain ⟨n0,e0,w0,_⟩:=Qx Tryz.underlying9 (h2 (0,9) (by simp));obtain ⟨n1,e1,w1⟩:=Zt Tryz.underlying3 (h2 (1,3) (by simp));obtain ⟨n2,e2,w2⟩:=Zt Tryz.underlying3 (h2 (2,3) (by simp));obtain ⟨n3,e3,w3⟩:=Zt Tryz.underlying3 (h2 (3,3) (by simp));obtain ⟨y4,e4,w4,_,z4⟩:=ZO Tryz.underlying31 (h2 (4,31) (by simp));obtain ⟨n4,rfl,u4⟩:=QH z4;obtain ⟨n5,e5,w5⟩:=Zt Tryz.underlying3 (h2 (5,3) (by simp))
 obtain ⟨n6,e6,w6⟩:=Zt Tryz.underlying3 (h2 (6,3) (by simp));obtain ⟨n7,e7,w7⟩:=Zt Tryz.underlying3 (h2 (7,3) (by simp));obtain ⟨n8,e8,w8⟩:=Zt Tryz.underlying3 (h2 (8,3) (by simp));obtain ⟨n9,e9,w9⟩:=Zt Tryz.underlying3 (h2 (9,3) (by simp));obtain ⟨n10,e10,w10⟩:=Zt Tryz.underlying3 (h2 (10,3) (by simp));obtain ⟨n11,e11,w11⟩:=Zt Tryz.underlying3 (h2 (11,3) (by simp));obtain ⟨n12,e12,w12⟩:=Zt Tryz.underlying3 (h2 (12,3) (by simp));obtain ⟨n13,e13,w13⟩:=Zt Tryz.underlying3 (h2 (13,3) (by simp));simp [ZjQ,Zgt,Zw9] at e0 e1 e2 e3 e4 e5 e6 e7 e8 e9 e10 e11 e12 e13
 subst e0;subst e1;subst e2;subst e3;subst e4;subst e5;subst e6;subst e7;subst e8;subst e9;subst e10;subst e11;subst e12;subst e13;exact ⟨⟨n0,n1,n2,n3,false,n4,n5,n6,n7,n8,n9,n10,n11,n12,n13⟩,rfl,w0,ZN w1,ZN w2,ZN w3,by simpa using w4,u4,ZN w5,ZN w6,ZN w7,ZN w8,ZN w9,ZN w10,ZN w11,ZN w12,ZN w13⟩
theorem ZjK {B v} (h:FitV Tryz.prog B 82 v): ∃x:Typ,v=VK x/\x.wf B:=by
 obtain ⟨k,cs,h,e⟩:=h.out;obtain ⟨x,rfl,hw⟩:=ZhR h;exact ⟨x,e.trans (by rw [UV,if_pos (XC ZmS)];rfl),hw⟩
structure Stp where
 place:Int
 opn:Int
 cls:Int
 serv:Int
 deriving Inhabited
def ZuY (x:Stp):List PV:= [.int .i64 x.place,.int .i64 x.opn,.int .i64 x.cls,.int .i64 x.serv]
def ZfS (x:Stp):PV:= .agg [.int .i64 x.place,.int .i64 x.opn,.int .i64 x.cls,.int .i64 x.serv]
@[go_sem] theorem Zu5 (x:Stp):ZfS x= .agg [.int .i64 x.place,.int .i64 x.opn,.int .i64 x.cls,.int .i64 x.serv]:=Eq.trans rfl rfl
def Stp.wf (B:Nat) (x:Stp):Prop:=I64 x.place/\I64 x.opn/\I64 x.cls/\I64 x.serv
theorem Zbk {B m cs} (h:YE Tryz.prog B m 57 cs): ∃x:Stp,cs=ZuY x/\x.wf B:=by
 obtain ⟨h1,m',h2⟩:=Xt Zvp ZpG h;obtain ⟨a0,a1,a2,a3,rfl⟩:=Zyq h1;obtain ⟨n0,e0,w0⟩:=Zt Tryz.underlying3 (h2 (0,3) (by simp));obtain ⟨n1,e1,w1⟩:=Zt Tryz.underlying3 (h2 (1,3) (by simp));obtain ⟨n2,e2,w2⟩:=Zt Tryz.underlying3 (h2 (2,3) (by simp));obtain ⟨n3,e3,w3⟩:=Zt Tryz.underlying3 (h2 (3,3) (by simp));simp [Zgt] at e0 e1 e2 e3;subst e0;subst e1;subst e2;subst e3;exact ⟨⟨n0,n1,n2,n3⟩,rfl,ZN w0,ZN w1,ZN w2,ZN w3⟩
theorem Zn1 {B v} (h:FitV Tryz.prog B 132 v): ∃x:Int×Int,v=eP x/\I64 x.1/\I64 x.2:=by
 obtain ⟨k,cs,h,e⟩:=h.out;obtain ⟨h1,m',h2⟩:=Xt ZhX Zmd h;obtain ⟨a,b,rfl⟩:=Zrs h1;obtain ⟨n0,e0,w0⟩:=Zt Tryz.underlying3 (h2 (0,3) (by simp));obtain ⟨n1,e1,w1⟩:=Zt Tryz.underlying3 (h2 (1,3) (by simp));simp [Zgt] at e0 e1;subst e0;subst e1;exact ⟨(n0,n1),e.trans (by rw [UV,if_pos (XC ZhX)];rfl),ZN w0,ZN w1⟩
structure Ord where
 name:List UInt8
 load_c:Bool
 load:List (Int)
 pick:Stp
 drp:Stp
 skills:Int
 penalty:Int
 split:Int
 last:Int
 now:Int
 off:Bool
 deriving Inhabited
def Zzr (x:Ord):List PV:= [.str x.name,.list x.load_c (x.load.map eI),.int .i64 x.pick.place,.int .i64 x.pick.opn,.int .i64 x.pick.cls,.int .i64 x.pick.serv,.int .i64 x.drp.place,.int .i64 x.drp.opn,.int .i64 x.drp.cls,.int .i64 x.drp.serv,.int .i64 x.skills,.int .i64 x.penalty,.int .i64 x.split,.int .i64 x.last,.int .i64 x.now,.bool x.off]
def WK (x:Ord):PV:= .agg [.str x.name,.list x.load_c (x.load.map eI),.int .i64 x.pick.place,.int .i64 x.pick.opn,.int .i64 x.pick.cls,.int .i64 x.pick.serv,.int .i64 x.drp.place,.int .i64 x.drp.opn,.int .i64 x.drp.cls,.int .i64 x.drp.serv,.int .i64 x.skills,.int .i64 x.penalty,.int .i64 x.split,.int .i64 x.last,.int .i64 x.now,.bool x.off]
@[go_sem] theorem Zvj (x:Ord):WK x= .agg [.str x.name,.list x.load_c (x.load.map eI),.int .i64 x.pick.place,.int .i64 x.pick.opn,.int .i64 x.pick.cls,.int .i64 x.pick.serv,.int .i64 x.drp.place,.int .i64 x.drp.opn,.int .i64 x.drp.cls,.int .i64 x.drp.serv,.int .i64 x.skills,.int .i64 x.penalty,.int .i64 x.split,.int .i64 x.last,.int .i64 x.now,.bool x.off]:=Eq.trans rfl rfl
def Ord.wf (B:Nat) (x:Ord):Prop:=x.name.length<=B/\x.load.length<=B/\(∀n∈x.load,I64 n)/\Stp.wf B x.pick/\Stp.wf B x.drp/\I64 x.skills/\I64 x.penalty/\I64 x.split/\I64 x.last/\I64 x.now
theorem Zf5 {B m cs} (h:YE Tryz.prog B m 59 cs): ∃x:Ord,cs=Zzr x/\x.wf B:=by
 obtain ⟨h1,m',h2⟩:=Xt Zp5 Zvr h;obtain ⟨a0,a1,a2,a3,a4,a5,a6,a7,a8,a9,a10,a11,a12,a13,a14,a15,rfl⟩:=Zuj h1;obtain ⟨n0,e0,w0,_⟩:=Qx Tryz.underlying9 (h2 (0,9) (by simp));obtain ⟨y1,e1,w1,_,z1⟩:=ZO Tryz.underlying31 (h2 (1,31) (by simp));obtain ⟨n1,rfl,u1⟩:=QH z1;obtain ⟨n2,e2,w2⟩:=Zbk (h2 (2,57) (by simp));obtain ⟨n3,e3,w3⟩:=Zbk (h2 (6,57) (by simp));obtain ⟨n4,e4,w4⟩:=Zt Tryz.underlying3 (h2 (10,3) (by simp));obtain ⟨n5,e5,w5⟩:=Zt Tryz.underlying3 (h2 (11,3) (by simp));obtain ⟨n6,e6,w6⟩:=Zt Tryz.underlying3 (h2 (12,3) (by simp))
 obtain ⟨n7,e7,w7⟩:=Zt Tryz.underlying3 (h2 (13,3) (by simp));obtain ⟨n8,e8,w8⟩:=Zt Tryz.underlying3 (h2 (14,3) (by simp));obtain ⟨n9,e9⟩:=UL Tryz.underlying4 (h2 (15,4) (by simp));simp [ZjQ,ZpG,ZxT,Zgt,Zw9,ZuY,ZuY] at e0 e1 e2 e3 e4 e5 e6 e7 e8 e9;subst e0;subst e1;obtain ⟨rfl,rfl,rfl,rfl⟩:=e2;obtain ⟨rfl,rfl,rfl,rfl⟩:=e3;subst e4;subst e5;subst e6;subst e7;subst e8;subst e9;exact ⟨⟨n0,false,n1,n2,n3,n4,n5,n6,n7,n8,n9⟩,rfl,w0,by simpa using w1,u1,w2,w3,ZN w4,ZN w5,ZN w6,ZN w7,ZN w8⟩
theorem ZiZ {B v} (h:FitV Tryz.prog B 59 v): ∃x:Ord,v=WK x/\x.wf B:=by
 obtain ⟨k,cs,h,e⟩:=h.out;obtain ⟨x,rfl,hw⟩:=Zf5 h;exact ⟨x,e.trans (by rw [UV,if_pos (XC Zp5)];rfl),hw⟩
structure Inst where
 net:Net
 types_c:Bool
 types:List (Typ)
 orders_c:Bool
 orders:List (Ord)
 apart_c:Bool
 apart:List (Int×Int)
 before_c:Bool
 before:List (Int×Int)
 deriving Inhabited
def ZkU (x:Inst):List PV:= [.list x.net.places_c (x.net.places.map eS),.list x.net.arcs_c (x.net.arcs.map VM),.list x.types_c (x.types.map VK),.list x.orders_c (x.orders.map WK),.list x.apart_c (x.apart.map eP),.list x.before_c (x.before.map eP)]
def ZK (x:Inst):PV:= .agg [.list x.net.places_c (x.net.places.map eS),.list x.net.arcs_c (x.net.arcs.map VM),.list x.types_c (x.types.map VK),.list x.orders_c (x.orders.map WK),.list x.apart_c (x.apart.map eP),.list x.before_c (x.before.map eP)]
@[go_sem] theorem Zts (x:Inst):ZK x= .agg [.list x.net.places_c (x.net.places.map eS),.list x.net.arcs_c (x.net.arcs.map VM),.list x.types_c (x.types.map VK),.list x.orders_c (x.orders.map WK),.list x.apart_c (x.apart.map eP),.list x.before_c (x.before.map eP)]:=Eq.trans rfl rfl
def Inst.wf (B:Nat) (x:Inst):Prop:=Net.wf B x.net/\x.types.length<=B/\(∀y∈x.types,Typ.wf B y)/\x.orders.length<=B/\(∀y∈x.orders,Ord.wf B y)/\x.apart.length<=B/\(∀p∈x.apart,I64 p.1/\I64 p.2)/\x.before.length<=B/\(∀p∈x.before,I64 p.1/\I64 p.2)
theorem Ke {B m cs} (h:YE Tryz.prog B m 43 cs): ∃x:Inst,cs=ZkU x/\x.wf B:=by
 obtain ⟨h1,m',h2⟩:=Xt Zvd ZnU h;obtain ⟨a0,a1,a2,a3,a4,a5,rfl⟩:=Zx3 h1;obtain ⟨n0,e0,w0⟩:=ZhT (h2 (0,38) (by simp));obtain ⟨y1,e1,w1,_,z1⟩:=ZO Tryz.underlying39 (h2 (2,39) (by simp));obtain ⟨n1,rfl,u1⟩:=XM (f:=VK) fun y hy=>ZjK (z1 y hy);obtain ⟨y2,e2,w2,_,z2⟩:=ZO Tryz.underlying40 (h2 (3,40) (by simp));obtain ⟨n2,rfl,u2⟩:=XM (f:=WK) fun y hy=>ZiZ (z2 y hy);obtain ⟨y3,e3,w3,_,z3⟩:=ZO Tryz.underlying41 (h2 (4,41) (by simp));obtain ⟨n3,rfl,u3⟩:=XM (f:=eP) fun y hy=>Zn1 (z3 y hy)
 obtain ⟨y4,e4,w4,_,z4⟩:=ZO Tryz.underlying41 (h2 (5,41) (by simp));obtain ⟨n4,rfl,u4⟩:=XM (f:=eP) fun y hy=>Zn1 (z4 y hy);simp [Zug,Zwc,ZvF,Zmx,ZyN] at e0 e1 e2 e3 e4;obtain ⟨rfl,rfl⟩:=e0;subst e1;subst e2;subst e3;subst e4;exact ⟨⟨n0,false,n1,false,n2,false,n3,false,n4⟩,rfl,w0,by simpa using w1,u1,by simpa using w2,u2,by simpa using w3,u3,by simpa using w4,u4⟩
structure Vis where
 order:Int
 drp:Bool
 deriving Inhabited
def Zzm (x:Vis):List PV:= [.int .i64 x.order,.bool x.drp]
def XK (x:Vis):PV:= .agg [.int .i64 x.order,.bool x.drp]
@[go_sem] theorem ZeS (x:Vis):XK x= .agg [.int .i64 x.order,.bool x.drp]:=Eq.trans rfl rfl
@[go_sem] theorem ZmY (l:List Vis):Zed 2 (l.map XK)=true:=QX (f:=XK) (S:=2) (fun _=>rfl) l
@[go_sem] theorem Zs1 (l:List Vis):okE 2 (l.map XK)=true:=QP fun _=>rfl
def Vis.wf (B:Nat) (x:Vis):Prop:=I64 x.order
theorem Zgx {B m cs} (h:YE Tryz.prog B m 126 cs): ∃x:Vis,cs=Zzm x/\x.wf B:=by
 obtain ⟨h1,m',h2⟩:=Xt Ziv ZoO h;obtain ⟨a0,a1,rfl⟩:=Zrs h1;obtain ⟨n0,e0,w0⟩:=Zt Tryz.underlying3 (h2 (0,3) (by simp));obtain ⟨n1,e1⟩:=UL Tryz.underlying4 (h2 (1,4) (by simp));simp [ZxT,Zgt] at e0 e1;subst e0;subst e1;exact ⟨⟨n0,n1⟩,rfl,ZN w0⟩
theorem Zjj {B v} (h:FitV Tryz.prog B 126 v): ∃x:Vis,v=XK x/\x.wf B:=by
 obtain ⟨k,cs,h,e⟩:=h.out;obtain ⟨x,rfl,hw⟩:=Zgx h;exact ⟨x,e.trans (by rw [UV,if_pos (XC Ziv)];rfl),hw⟩
structure Rte where
 typ:Int
 start:Int
 rests_c:Bool
 rests:List (Bool)
 visits_c:Bool
 visits:List (Vis)
 deriving Inhabited
def ZzQ (x:Rte):List PV:= [.int .i64 x.typ,.int .i64 x.start,.list x.rests_c (x.rests.map eB),.list x.visits_c (x.visits.map XK)]
def Xl (x:Rte):PV:= .agg [.int .i64 x.typ,.int .i64 x.start,.list x.rests_c (x.rests.map eB),.list x.visits_c (x.visits.map XK)]
@[go_sem] theorem ZvA (x:Rte):Xl x= .agg [.int .i64 x.typ,.int .i64 x.start,.list x.rests_c (x.rests.map eB),.list x.visits_c (x.visits.map XK)]:=Eq.trans rfl rfl
def Rte.wf (B:Nat) (x:Rte):Prop:=I64 x.typ/\I64 x.start/\x.rests.length<=B/\(∀b∈x.rests,True)/\x.visits.length<=B/\(∀y∈x.visits,Vis.wf B y)
theorem ZgI {B m cs} (h:YE Tryz.prog B m 49 cs): ∃x:Rte,cs=ZzQ x/\x.wf B:=by
 obtain ⟨h1,m',h2⟩:=Xt Zqv ZvC h;obtain ⟨a0,a1,a2,a3,rfl⟩:=Zyq h1;obtain ⟨n0,e0,w0⟩:=Zt Tryz.underlying3 (h2 (0,3) (by simp));obtain ⟨n1,e1,w1⟩:=Zt Tryz.underlying3 (h2 (1,3) (by simp));obtain ⟨y2,e2,w2,_,z2⟩:=ZO Tryz.underlying46 (h2 (2,46) (by simp));obtain ⟨n2,rfl,u2⟩:=Ze4 z2;obtain ⟨y3,e3,w3,_,z3⟩:=ZO Tryz.underlying47 (h2 (3,47) (by simp));obtain ⟨n3,rfl,u3⟩:=XM (f:=XK) fun y hy=>Zjj (z3 y hy);simp [Zur,Zwi,Zgt] at e0 e1 e2 e3;subst e0;subst e1;subst e2;subst e3;exact ⟨⟨n0,n1,false,n2,false,n3⟩,rfl,ZN w0,ZN w1,by simpa using w2,u2,by simpa using w3,u3⟩
theorem ZjY {B v} (h:FitV Tryz.prog B 49 v): ∃x:Rte,v=Xl x/\x.wf B:=by
 obtain ⟨k,cs,h,e⟩:=h.out;obtain ⟨x,rfl,hw⟩:=ZgI h;exact ⟨x,e.trans (by rw [UV,if_pos (XC Zqv)];rfl),hw⟩
structure Tim where
 arr:Int
 beg:Int
 dep:Int
 rest:Bool
 deriving Inhabited
def eTim (x:Tim):PV:= .agg [.int .i64 x.arr,.int .i64 x.beg,.int .i64 x.dep,.bool x.rest]
@[go_sem] theorem ZuS (x:Tim):eTim x= .agg [.int .i64 x.arr,.int .i64 x.beg,.int .i64 x.dep,.bool x.rest]:=Eq.trans rfl rfl
@[go_sem] theorem Ztp (l:List Tim):okE 4 (l.map eTim)=true:=QP fun _=>rfl
structure She where
 rest:Bool
 dep:Int
 times_c:Bool
 times:List (Tim)
 fin:Int
 miles:Int
 deriving Inhabited
def ZaO (x:She):PV:= .agg [.bool x.rest,.int .i64 x.dep,.list x.times_c (x.times.map eTim),.int .i64 x.fin,.int .i64 x.miles]
@[go_sem] theorem Zuz (x:She):ZaO x= .agg [.bool x.rest,.int .i64 x.dep,.list x.times_c (x.times.map eTim),.int .i64 x.fin,.int .i64 x.miles]:=Eq.trans rfl rfl
structure Sco where
 cost:Int
 moved:Int
 other:Int
 work:Int
 deriving Inhabited
def ZqL (x:Sco):PV:= .agg [.int .i64 x.cost,.int .i64 x.moved,.int .i64 x.other,.int .i64 x.work]
@[go_sem] theorem ZvO (x:Sco):ZqL x= .agg [.int .i64 x.cost,.int .i64 x.moved,.int .i64 x.other,.int .i64 x.work]:=Eq.trans rfl rfl
structure Pln where
 routes_c:Bool
 routes:List (Rte)
 unserved_c:Bool
 unserved:List (Int)
 deriving Inhabited
def ZxY (x:Pln):List PV:= [.list x.routes_c (x.routes.map Xl),.list x.unserved_c (x.unserved.map eI)]
def Zad (x:Pln):PV:= .agg [.list x.routes_c (x.routes.map Xl),.list x.unserved_c (x.unserved.map eI)]
@[go_sem] theorem Zv3 (x:Pln):Zad x= .agg [.list x.routes_c (x.routes.map Xl),.list x.unserved_c (x.unserved.map eI)]:=Eq.trans rfl rfl
def Pln.wf (B:Nat) (x:Pln):Prop:=x.routes.length<=B/\(∀y∈x.routes,Rte.wf B y)/\x.unserved.length<=B/\(∀n∈x.unserved,I64 n)
theorem ZaM {B m cs} (h:YE Tryz.prog B m 33 cs): ∃x:Pln,cs=ZxY x/\x.wf B:=by
 obtain ⟨h1,m',h2⟩:=Xt ZnV ZnZ h;obtain ⟨a0,a1,rfl⟩:=Zrs h1;obtain ⟨y0,e0,w0,_,z0⟩:=ZO Tryz.underlying30 (h2 (0,30) (by simp));obtain ⟨n0,rfl,u0⟩:=XM (f:=Xl) fun y hy=>ZjY (z0 y hy);obtain ⟨y1,e1,w1,_,z1⟩:=ZO Tryz.underlying31 (h2 (1,31) (by simp));obtain ⟨n1,rfl,u1⟩:=QH z1;simp [Zu1,ZjQ] at e0 e1;subst e0;subst e1;exact ⟨⟨false,n0,false,n1⟩,rfl,by simpa using w0,u0,by simpa using w1,u1⟩
theorem Zkr {B v} (h:FitV Tryz.prog B 33 v): ∃x:Pln,v=Zad x/\x.wf B:=by
 obtain ⟨k,cs,h,e⟩:=h.out;obtain ⟨x,rfl,hw⟩:=ZaM h;exact ⟨x,e.trans (by rw [UV,if_pos (XC ZnV)];rfl),hw⟩
structure Cas where
 x:Inst
 p:Pln
 now:Int
 y:Inst
 deriving Inhabited
def ZoK (x:Cas):List PV:= [.list x.x.net.places_c (x.x.net.places.map eS),.list x.x.net.arcs_c (x.x.net.arcs.map VM),.list x.x.types_c (x.x.types.map VK),.list x.x.orders_c (x.x.orders.map WK),.list x.x.apart_c (x.x.apart.map eP),.list x.x.before_c (x.x.before.map eP),.list x.p.routes_c (x.p.routes.map Xl),.list x.p.unserved_c (x.p.unserved.map eI),.int .i64 x.now,.list x.y.net.places_c (x.y.net.places.map eS),.list x.y.net.arcs_c (x.y.net.arcs.map VM),.list x.y.types_c (x.y.types.map VK),.list x.y.orders_c (x.y.orders.map WK),.list x.y.apart_c (x.y.apart.map eP),.list x.y.before_c (x.y.before.map eP)]
def Zpu (x:Cas):PV:= .agg [.list x.x.net.places_c (x.x.net.places.map eS),.list x.x.net.arcs_c (x.x.net.arcs.map VM),.list x.x.types_c (x.x.types.map VK),.list x.x.orders_c (x.x.orders.map WK),.list x.x.apart_c (x.x.apart.map eP),.list x.x.before_c (x.x.before.map eP),.list x.p.routes_c (x.p.routes.map Xl),.list x.p.unserved_c (x.p.unserved.map eI),.int .i64 x.now,.list x.y.net.places_c (x.y.net.places.map eS),.list x.y.net.arcs_c (x.y.net.arcs.map VM),.list x.y.types_c (x.y.types.map VK),.list x.y.orders_c (x.y.orders.map WK),.list x.y.apart_c (x.y.apart.map eP),.list x.y.before_c (x.y.before.map eP)]
@[go_sem] theorem ZwT (x:Cas):Zpu x= .agg [.list x.x.net.places_c (x.x.net.places.map eS),.list x.x.net.arcs_c (x.x.net.arcs.map VM),.list x.x.types_c (x.x.types.map VK),.list x.x.orders_c (x.x.orders.map WK),.list x.x.apart_c (x.x.apart.map eP),.list x.x.before_c (x.x.before.map eP),.list x.p.routes_c (x.p.routes.map Xl),.list x.p.unserved_c (x.p.unserved.map eI),.int .i64 x.now,.list x.y.net.places_c (x.y.net.places.map eS),.list x.y.net.arcs_c (x.y.net.arcs.map VM),.list x.y.types_c (x.y.types.map VK),.list x.y.orders_c (x.y.orders.map WK),.list x.y.apart_c (x.y.apart.map eP),.list x.y.before_c (x.y.before.map eP)]:=Eq.trans rfl rfl
def Cas.wf (B:Nat) (x:Cas):Prop:=Inst.wf B x.x/\Pln.wf B x.p/\I64 x.now/\Inst.wf B x.y
theorem ZuH {α:Type} {l:List α} (h:l.length=15): ∃a0 a1 a2 a3 a4 a5 a6 a7 a8 a9 a10 a11 a12 a13 a14,l= [a0,a1,a2,a3,a4,a5,a6,a7,a8,a9,a10,a11,a12,a13,a14]:=by
 match l,h with | [a0,a1,a2,a3,a4,a5,a6,a7,a8,a9,a10,a11,a12,a13,a14],_=>exact ⟨a0,a1,a2,a3,a4,a5,a6,a7,a8,a9,a10,a11,a12,a13,a14,rfl⟩
theorem ZhJ {B m cs} (h:YE Tryz.prog B m 63 cs): ∃x:Cas,cs=ZoK x/\x.wf B:=by
 obtain ⟨h1,m',h2⟩:=Xt Zqn ZuA h;obtain ⟨a0,a1,a2,a3,a4,a5,a6,a7,a8,a9,a10,a11,a12,a13,a14,rfl⟩:=ZuH h1;obtain ⟨n0,e0,w0⟩:=Ke (h2 (0,43) (by simp));obtain ⟨n1,e1,w1⟩:=ZaM (h2 (6,33) (by simp));obtain ⟨n2,e2,w2⟩:=Zt Tryz.underlying3 (h2 (8,3) (by simp));obtain ⟨n3,e3,w3⟩:=Ke (h2 (9,43) (by simp));simp [ZnU,ZnZ,Zgt,ZkU,ZxY,ZkU] at e0 e1 e2 e3;obtain ⟨rfl,rfl,rfl,rfl,rfl,rfl⟩:=e0;obtain ⟨rfl,rfl⟩:=e1;subst e2;obtain ⟨rfl,rfl,rfl,rfl,rfl,rfl⟩:=e3;exact ⟨⟨n0,n1,n2,n3⟩,rfl,w0,w1,ZN w2,w3⟩
theorem Zj9 {B v} (h:FitV Tryz.prog B 63 v): ∃x:Cas,v=Zpu x/\x.wf B:=by
 obtain ⟨k,cs,h,e⟩:=h.out;obtain ⟨x,rfl,hw⟩:=ZhJ h;exact ⟨x,e.trans (by rw [UV,if_pos (XC Zqn)];rfl),hw⟩
theorem own : ownKnob Tryz.prog.godebug=none:=by kernel_rfl
theorem ZjB : laidOutB Tryz.prog=true:=by kernel_rfl
def Zb (x:Inst):AM.Obj:= .cells [.p (.list x.net.places_c (x.net.places.map eS)),.p (.list x.net.arcs_c (x.net.arcs.map VM)),.p (.list x.types_c (x.types.map VK)),.p (.list x.orders_c (x.orders.map WK)),.p (.list x.apart_c (x.apart.map eP)),.p (.list x.before_c (x.before.map eP))]
def zSco : Sco:=⟨0,0,0,0⟩
def Zv (p:Pln):AM.Obj:= .cells [.p (.list p.routes_c (p.routes.map Xl)),.p (.list p.unserved_c (p.unserved.map eI))]
def VG (r:Rte):Prop:=r.visits.length<=1048576/\r.rests.length<=1048576
abbrev Flt := Int×List UInt8
def eF (f:Flt):PV:= .agg [.int .i64 f.1,.str f.2]
@[go_sem] theorem Zz7 (f:Flt):eF f= .agg [.int .i64 f.1,.str f.2]:=Eq.trans rfl rfl
@[go_sem] theorem ZyK (l:List Flt):okE 2 (l.map eF)=true:=QP fun _=>rfl
def dec (n:Nat):List UInt8:=if h:n<10 then [UInt8.ofNat (48+n)] else dec (n / 10)++ [UInt8.ofNat (48+n%10)]
termination_by n
decreasing_by omega
theorem ZeX : ∀(k n:Nat),n<k->(dec n).length<=n+1:=by
 intro k
 induction k with
 | zero=>intro n h;omega
 | succ k ih =>
  intro n h;rw [dec]
  split
  ·simp
  ·have:=ih (n / 10) (by omega);simp;omega
theorem Vv : ∀(d n:Nat),n<10^(d+1)->(dec n).length<=d+1:=by
 intro d
 induction d with
 | zero=>intro n h;rw [dec,dif_pos (by omega)];simp
 | succ d ih =>
  intro n h;rw [dec]
  split
  ·simp
  ·have:=ih (n / 10) (by rw [Nat.div_lt_iff_lt_mul (by omega)];rw [Nat.pow_succ] at h;exact h);simp;omega
def KN (n:Int):List UInt8:=if n<0 then 45::dec n.natAbs else dec n.natAbs
theorem Wj (n:Int) (h:I64 n):(KN n).length<=20:=by
 have h1:n.natAbs<10^(18+1):=by omega
 have:=Vv 18 n.natAbs h1;unfold KN
 split<;>simp<;>omega
structure FR {α:Type} (p:α->Prop) (C:Prop) (b:Nat) (l:List α):Prop where
 len:l.length<=b
 emp:l= []↔C
 all: ∀x∈l,p x
theorem FR.nil {α:Type} {p:α->Prop} {C:Prop} {b:Nat} (h:C):FR p C b []:=⟨by simp,by simp [h],by simp⟩
theorem FR.no {α:Type} {p:α->Prop} {C c:Prop} {b:Nat} {l:List α} (h:FR p C b l) (hc:c):FR p (C/\c) (b+1) l:=⟨by have:=h.len;omega,by rw [h.emp];simp [hc],h.all⟩
theorem FR.yes {α:Type} {p:α->Prop} {C c:Prop} {b:Nat} {l:List α} {x:α} (h:FR p C b l) (hc: ¬c) (hx:p x):FR p (C/\c) (b+1) (l++ [x]) :=
 ⟨by have:=h.len;simp;omega,by simp [hc],fun y hy=>by
  rcases List.mem_append.1 hy with hy | hy
  ·exact h.all y hy
  ·simp at hy;subst hy;exact hx⟩
theorem FR.app {α:Type} {p:α->Prop} {C D:Prop} {b d:Nat} {l m:List α} (h:FR p C b l) (k:FR p D d m):FR p (C/\D) (b+d) (l++m) :=
 ⟨by have:=h.len;have:=k.len;simp;omega,by rw [List.append_eq_nil_iff,h.emp,k.emp],fun y hy=>by
  rcases List.mem_append.1 hy with hy | hy
  ·exact h.all y hy
  ·exact k.all y hy⟩
theorem FR.to {α:Type} {p:α->Prop} {C D:Prop} {b d:Nat} {l:List α} (h:FR p C b l) (hb:b<=d) (hc:C↔D):FR p D d l:=⟨Nat.le_trans h.len hb,h.emp.trans hc,h.all⟩
theorem Ze {p:Nat->Prop} {k:Nat} :(∀j,j<k+1->p j)↔((∀j,j<k->p j)/\p k) :=
 ⟨fun h=>⟨fun j hj=>h j (by omega),h k (by omega)⟩,fun h j hj=>by
  rcases Nat.lt_or_ge j k with h1 | h1
  ·exact h.1 j h1
  ·have:j=k:=by omega
   rw [this];exact h.2⟩
def Y1 (c:UInt8):Bool:=decide (48<=c.toNat/\c.toNat<=57)
def YN (c:UInt8):Bool:=decide (97<=c.toNat/\c.toNat<=122)||decide (65<=c.toNat/\c.toNat<=90)||decide (c.toNat=95)
def nameOk (s:List UInt8):Bool:=decide (1<=s.length)&&decide (s.length<=16)&& !Y1 (nth s 0)&&s.all fun c=>YN c||Y1 c
def rng (n lo hi:Int):Bool:=decide (lo<=n/\n<=hi)
def ZgX (n:Int):Bool:=rng n 0 4096
def ZpD (l:List Pt) (i:Nat):Prop:=(0<=(nth l i).t/\(nth l i).t<=4096/\(nth l i).t<=(nth l i).a/\(nth l i).a<=(nth l i).t+4096)/\(0<i->(nth l (i-1)).t<(nth l i).t/\(nth l (i-1)).a<=(nth l i).a)
def Yy (l:List Pt):Prop:=(1<=l.length/\l.length<=16)/\ ∀i,i<l.length->ZpD l i
def VJ (l:List Pt) (i:Nat):Prop:=ZgX (nth l i).t=true/\ZgX (nth l i).a=true/\(0<i->(nth l (i-1)).t<(nth l i).t)
def Zds (n:Net) (i:Nat):Prop :=
 ((((((0<=(nth n.arcs i).src/\(nth n.arcs i).src<n.places.length/\0<=(nth n.arcs i).dst/\(nth n.arcs i).dst<n.places.length) /\
 (0<=(nth n.arcs i).prof/\(nth n.arcs i).prof<=7/\0<=(nth n.arcs i).miles/\(nth n.arcs i).miles<=10000/\(nth n.arcs i).src≠(nth n.arcs i).dst)) /\
 (∀k,k<i-> ¬((nth n.arcs i).src=(nth n.arcs k).src/\(nth n.arcs i).dst=(nth n.arcs k).dst/\(nth n.arcs i).prof=(nth n.arcs k).prof))) /\
 Yy (nth n.arcs i).travel)/\(nth n.arcs i).slow.length<=16)/\ ∀k,k<(nth n.arcs i).slow.length->VJ (nth n.arcs i).slow k)
def Zkz (n:Net) (i:Nat):Prop:=nameOk (nth n.places i)=true/\ ∀k,k<i->nth n.places k≠nth n.places i
def W0 (n:Net):Prop:=n.places.length<=24/\ ∀i,i<n.places.length->Zkz n i
def netOk (n:Net):Prop:=(W0 n/\n.arcs.length<=1024)/\ ∀i,i<n.arcs.length->Zds n i
set_option maxRecDepth 8000
set_option maxHeartbeats 4000000
theorem ZeM (c:UInt8):PC 275 [.p (.int .u8 (c.toNat:Nat))] (.bool (Y1 c)):=by
 refine Za Tryz.func275 rfl ZoA ?_;simp (disch:=omega) only [Tryz.f275,go_sem,seval];refine gT ?_ ?_<;>intro h<;>simp (disch:=omega) only [Sh.out h,go_sem,seval]
 all_goals (simp [Y1];first | done | omega | (rw [Bool.eq_iff_iff];simp;omega))
theorem Zg2 (c:UInt8):PC 276 [.p (.int .u8 (c.toNat:Nat))] (.bool (YN c)):=by
 refine Za Tryz.func276 rfl Znp ?_;simp (disch:=omega) only [Tryz.f276,go_sem,seval]
 repeat' (first | (refine ZR (fun hq=> ?_) (fun hq=> ?_)<;>(try simp only [decide_eq_true_eq,decide_eq_false_iff_not,Classical.not_not] at hq)<;>simp (disch:=omega) only [Sh.out hq,go_sem,seval]) | (refine ZS (fun hq=> ?_) (fun hq=> ?_)<;>(try simp only [decide_eq_true_eq,decide_eq_false_iff_not,Classical.not_not] at hq)<;>simp (disch:=omega) only [Sh.out hq,go_sem,seval]) | (refine Z9 (fun hq=> ?_) (fun hq=> ?_)<;>(try simp only [decide_eq_true_eq,decide_eq_false_iff_not,Classical.not_not] at hq)<;>simp (disch:=omega) only [Sh.out hq,go_sem,seval]))
 all_goals (simp [YN];first | done | omega | (rw [Bool.eq_iff_iff];simp;omega))
theorem Zen (s:List UInt8) (hs:s.length<=1048576):PC 227 [.p (.str s)] (.bool (nameOk s)):=by
 refine Za Tryz.func227 rfl ZoH ?_;simp (disch:=omega) only [Tryz.f227,go_sem,seval];refine gF ?_ ?_<;>intro h<;>simp (disch:=omega) only [Sh.out h,go_sem,seval]
 ·have: ¬ 1<=s.length:=by omega
  simp [nameOk,this]
 ·refine gF ?_ ?_<;>intro h2<;>simp (disch:=omega) only [Sh.out h2,go_sem,seval]
  ·have: ¬s.length<=16:=by omega
   simp [nameOk,this]
  ·have g1:1<=s.length:=by omega
   have g2:s.length<=16:=by omega
   refine (ZeM (nth s 0)).use ?_;simp (disch:=omega) only [go_sem,seval];refine cD ?_ ?_<;>intro h3<;>simp (disch:=omega) only [Sh.out h3,go_sem,seval]
   ·simp [nameOk,h3]
   ·refine Zg [0] (fun k:Nat=> [(3,.p (.int .i64 k))]) (fun _=> []) (fun k=>k<=s.length/\ ∀j,j<k->(YN (nth s j)||Y1 (nth s j))=true) (fun k=>s.length-k) 0 (by simp) (Weak.mk ?_) ?_
    ·simp (disch:=omega) only [go_sem,seval]
    ·rintro k ⟨hk,hno⟩;simp (disch:=omega) only [go_sem,seval]
     have XW: ∀j,j<s.length->(YN (nth s j)||Y1 (nth s j))=false->nameOk s=false:=fun j hj e=>by
      have:s.all (fun c=>YN c||Y1 c)=false:=by
       rw [List.all_eq_false];exact ⟨nth s j,by rw [Zf hj];exact List.getElem_mem _,by rw [e];simp⟩
      simp [nameOk,this]
     refine cD ?_ ?_<;>intro h4<;>simp (disch:=omega) only [Sh.out h4,go_sem,seval]
     ·have hk2:k<s.length:=by omega
      refine (Zg2 (nth s k)).use ?_;simp (disch:=omega) only [go_sem,seval];refine gT ?_ ?_<;>intro h5<;>simp (disch:=omega) only [Sh.out h5,go_sem,seval]
      ·refine (ZeM (nth s k)).use ?_;simp (disch:=omega) only [go_sem,seval];refine cD ?_ ?_<;>intro h6<;>simp (disch:=omega) only [Sh.out h6,go_sem,seval]
       ·simp only [Bool.not_eq_true'] at h5 h6;rw [XW k hk2 (by rw [h5,h6];rfl)]
       ·simp only [Bool.not_eq_false'] at h6;exact ⟨k+1,⟨by omega,Ze.2 ⟨hno,by simp [h6]⟩⟩,by omega,wk⟩
      ·simp only [Bool.not_eq_false'] at h5;exact ⟨k+1,⟨by omega,Ze.2 ⟨hno,by simp [h5]⟩⟩,by omega,wk⟩
     ·have:s.all (fun c=>YN c||Y1 c)=true:=by
       rw [List.all_eq_true];intro c hc;obtain ⟨j,hj,rfl⟩:=List.mem_iff_getElem.1 hc;rw [<- Zf hj];exact hno j (by omega)
      simp [nameOk,g1,g2,h3,this]
theorem VA (n:Int) (hn:I64 n):PC 175 [.p (.int .i64 n)] (.str (KN n)):=by
 refine Za Tryz.func175 rfl Zog ?_;simp (disch:=omega) only [Tryz.f175,go_sem,seval]
 have h19:n.natAbs<10^(18+1):=by omega
 have hdl:=Vv 18 n.natAbs h19
 refine ZM [7] [0] (fun q:Int×List UInt8×Bool=> [(3,.p (.str q.2.1)),(4,.p (.int .i64 q.1)),(5,.p (.bool q.2.2))]) (fun _=> [])
  (fun q=>I64 q.1/\(q.2.2=true->dec q.1.natAbs++q.2.1=dec n.natAbs)/\(q.2.2=false->q.2.1=dec n.natAbs)) (fun q=>if q.2.2 then q.1.natAbs+1 else 0) (n,[],true) (by simp;omega) (Weak.mk ?_) ?_
 ·simp (disch:=omega) only [go_sem,seval]
 ·rintro ⟨m,s,again⟩ ⟨hm,h1,h2⟩;simp only at hm h1 h2;simp (disch:=omega) only [go_sem,seval]
  cases again with
  | false =>
   simp (disch:=omega) only [go_sem,seval];have h2:=h2 rfl
   have hl2:([45]:List UInt8).length+(dec n.natAbs).length<=9223372036854775807:=by simp;omega
   refine cD ?_ ?_<;>intro h3<;>simp (disch:=omega) only [Sh.out h3,go_sem,seval]
   ·simp (disch:=omega) only [KN,h2,h3,Zhv hl2,go_sem,seval]
   ·simp (disch:=omega) only [KN,h2,h3,go_sem,seval]
  | true =>
   have h1:=h1 rfl
   have hls:(dec m.natAbs).length+s.length=(dec n.natAbs).length:=by rw [<- h1];simp
   simp (disch:=omega) only [go_sem,seval]
   have e1:(m.tmod 10).natAbs=m.natAbs%10:=by rw [Int.natAbs_tmod];rfl
   have e2:(m.tdiv 10).natAbs=m.natAbs / 10:=by rw [Int.natAbs_tdiv];rfl
   have e3:m.tmod 10<10/\ -10<m.tmod 10:=⟨Int.tmod_lt_of_pos _ (by decide),by omega⟩;refine Zm [0,3,4] (fun _:Unit=> [(6,.p (.int .i64 ((m.natAbs%10:Nat):Int)))]) (fun _=> []) (fun _=>True) ?_ ?_
   ·simp (disch:=omega) only [go_sem,seval];refine cD ?_ ?_<;>intro h3<;>simp (disch:=omega) only [Sh.out h3,go_sem,seval]
    ·exact ⟨(),Weak.mk (by simp (disch:=omega) only [go_sem,seval];simp;omega)⟩
    ·exact ⟨(),Weak.mk (by simp (disch:=omega) only [go_sem,seval];simp;omega)⟩
   ·intro _ _;refine Zc [] _ _ _ _ ?_;simp (disch:=first | omega | (simp only [List.length_cons,List.length_nil,List.length_append,List.length_map,List.length_take,List.length_drop]<;>omega)) only [go_sem,seval]
    have e4:(48+((m.natAbs%10:Nat):Int)).toNat=48+m.natAbs%10:=by omega
    refine ⟨(m.tdiv 10,UInt8.ofNat (48+m.natAbs%10)::s,decide (m.tdiv 10≠0)),⟨?_,?_,?_⟩,?_,Weak.mk ?_⟩
    ·simp only;omega
    ·simp only [decide_eq_true_eq];intro hne
     have h10: ¬m.natAbs<10:=by omega
     rw [e2,<- h1,dec.eq_def m.natAbs,dif_neg h10];simp
    ·simp only [decide_eq_false_iff_not,Classical.not_not];intro hz
     have h10:m.natAbs<10:=by omega
     rw [<- h1,dec.eq_def m.natAbs,dif_pos h10,Nat.mod_eq_of_lt h10];simp
    ·simp only [if_true]
     split
     ·rename_i hne;simp only [decide_eq_true_eq] at hne;omega
     ·omega
    ·simp (disch:=omega) only [e4,go_sem,seval]
def pF (k:Nat) (f:Flt):Prop:=f.2.length<=k
theorem Ziw (l:List Pt) (c:Bool) (hl:l.length<=1048576):ACalls Tryz.prog 228 [.p (.list c (l.map ePt))] [] fun x H'=> ∃m:List Flt,FR (pF 20) (Yy l) (2*l.length+1) m/\x= .sl 0 0 m.length m.length/\H'= [.elems 2 (m.map eF)]:=by
 refine ZA [2] Tryz.func228 rfl ZqM ?_;simp (disch:=omega) only [Tryz.f228,go_sem,seval];refine Zs (Weak.ofNil 3 2 (by simp (disch:=omega) only [go_sem,seval]) (by simp) (Weak.refl _ _ _)) ?_;refine Zm [0] (fun m:List Flt=> [(3,.sl 0 0 m.length m.length)]) (fun m=> [.elems 2 (m.map eF)]) (fun m=>FR (pF 20) (1<=l.length/\l.length<=16) 1 m) ?_ ?_
 ·simp (disch:=omega) only [go_sem,seval]
  repeat' (first | (refine ZR (fun hq=> ?_) (fun hq=> ?_)<;>(try simp only [decide_eq_true_eq,decide_eq_false_iff_not,Classical.not_not] at hq)<;>simp (disch:=omega) only [Sh.out hq,go_sem,seval]) | (refine ZS (fun hq=> ?_) (fun hq=> ?_)<;>(try simp only [decide_eq_true_eq,decide_eq_false_iff_not,Classical.not_not] at hq)<;>simp (disch:=omega) only [Sh.out hq,go_sem,seval]) | (refine Z9 (fun hq=> ?_) (fun hq=> ?_)<;>(try simp only [decide_eq_true_eq,decide_eq_false_iff_not,Classical.not_not] at hq)<;>simp (disch:=omega) only [Sh.out hq,go_sem,seval]))
  ·exact ⟨[(4,[])],⟨by simp,by simp;omega,by simp [pF]⟩,wk⟩
  ·exact ⟨[(4,[])],⟨by simp,by simp;omega,by simp [pF]⟩,wk⟩
  ·exact ⟨[],FR.nil (by omega),wk⟩
 ·intro m hm;refine Zc [] _ _ _ _ ?_;simp (disch:=omega) only [go_sem,seval];refine ZM [8] [0] (fun q:Nat×List Flt=> [(3,.sl 0 0 q.2.length q.2.length),(4,.p (.int .i64 q.1))]) (fun q=> [.elems 2 (q.2.map eF)]) (fun q=>q.1<=l.length/\FR (pF 20) ((1<=l.length/\l.length<=16)/\ ∀j,j<q.1->ZpD l j) (2*q.1+1) q.2) (fun q=>l.length-q.1) (0,m) ⟨by simp,hm.to (by simp) (by simp)⟩ (Weak.mk ?_) ?_
  ·simp (disch:=omega) only [go_sem,seval]
  ·rintro ⟨k,m⟩ ⟨hk,hm⟩;simp only at hk hm;have hml:=hm.len;simp (disch:=omega) only [go_sem,seval];refine cD ?_ ?_<;>intro h<;>simp (disch:=omega) only [Sh.out h,go_sem,seval]
   ·have hk2:k<l.length:=by omega
    refine Zm [0,4,5] (fun m:List Flt=> [(3,.sl 0 0 m.length m.length)]) (fun m=> [.elems 2 (m.map eF),.cells [.p (.int .i64 (nth l k).t),.p (.int .i64 (nth l k).a)]])
     (fun m=>FR (pF 20) (((1<=l.length/\l.length<=16)/\ ∀j,j<k->ZpD l j)/\(0<=(nth l k).t/\(nth l k).t<=4096/\(nth l k).t<=(nth l k).a/\(nth l k).a<=(nth l k).t+4096)) (2*k+1+1) m) ?_ ?_
    ·simp (disch:=omega) only [go_sem,seval]
     have hI:I64 (k:Int):=by omega
     have hdl:=Wj k hI
     repeat' (first | (refine ZR (fun hq=> ?_) (fun hq=> ?_)<;>(try simp only [decide_eq_true_eq,decide_eq_false_iff_not,Classical.not_not] at hq)<;>simp (disch:=omega) only [Sh.out hq,go_sem,seval]) | (refine ZS (fun hq=> ?_) (fun hq=> ?_)<;>(try simp only [decide_eq_true_eq,decide_eq_false_iff_not,Classical.not_not] at hq)<;>simp (disch:=omega) only [Sh.out hq,go_sem,seval]) | (refine Z9 (fun hq=> ?_) (fun hq=> ?_)<;>(try simp only [decide_eq_true_eq,decide_eq_false_iff_not,Classical.not_not] at hq)<;>simp (disch:=omega) only [Sh.out hq,go_sem,seval]))
     all_goals try exact ⟨m,hm.no (by omega),wk⟩
     all_goals
      refine (VA k hI).use ?_;simp (disch:=omega) only [go_sem,seval];exact ⟨m++ [(2,KN k)],hm.yes (by omega) (by simp only [pF];omega),wk⟩
    ·intro m hm;have hml:=hm.len;refine Zc [] _ _ _ _ ?_;simp (disch:=omega) only [go_sem,seval]
     have hI:I64 (k:Int):=by omega
     have hdl:=Wj k hI;refine Zh Zp (by kernel_rfl) (by kernel_rfl) ?_;simp (disch:=omega) only [go_sem,seval]
     repeat' (first | (refine ZR (fun hq=> ?_) (fun hq=> ?_)<;>(try simp only [decide_eq_true_eq,decide_eq_false_iff_not,Classical.not_not] at hq)<;>simp (disch:=omega) only [Sh.out hq,go_sem,seval]) | (refine ZS (fun hq=> ?_) (fun hq=> ?_)<;>(try simp only [decide_eq_true_eq,decide_eq_false_iff_not,Classical.not_not] at hq)<;>simp (disch:=omega) only [Sh.out hq,go_sem,seval]) | (refine Z9 (fun hq=> ?_) (fun hq=> ?_)<;>(try simp only [decide_eq_true_eq,decide_eq_false_iff_not,Classical.not_not] at hq)<;>simp (disch:=omega) only [Sh.out hq,go_sem,seval]))
     all_goals try exact ⟨(k+1,m),⟨by simp only;omega,(hm.no (c:=0<k->(nth l (k-1)).t<(nth l k).t/\(nth l (k-1)).a<=(nth l k).a) (by omega)).to (by simp only;omega) (by simp only [Ze,ZpD,and_assoc])⟩,by simp only;omega,wk⟩
     all_goals
      refine (VA k hI).use ?_;simp (disch:=omega) only [go_sem,seval];exact ⟨(k+1,m++ [(13,KN k)]),⟨by simp only;omega,(hm.yes (c:=0<k->(nth l (k-1)).t<(nth l k).t/\(nth l (k-1)).a<=(nth l k).a) (by omega) (by simp only [pF];omega)).to (by simp only;omega) (by simp only [Ze,ZpD,and_assoc])⟩,by simp only;omega,wk⟩
   ·have hkn:k=l.length:=by omega
    subst hkn;exact ⟨m,hm.to (by omega) (by rw [Yy]),0,by simp (disch:=omega) only [go_sem,seval]⟩
set_option maxHeartbeats 8000000
theorem pF.mono {j k:Nat} (h:j<=k) {f:Flt} (hf:pF j f):pF k f:=Nat.le_trans hf h
theorem FR.pmono {α:Type} {p q:α->Prop} {C:Prop} {b:Nat} {l:List α} (h:FR p C b l) (hp: ∀x,p x->q x):FR q C b l:=⟨h.len,h.emp,fun x hx=>hp x (h.all x hx)⟩
theorem Zbv (n:Int):PC 229 [.p (.int .i64 n)] (.bool (ZgX n)):=by
 refine Za Tryz.func229 rfl Zot ?_;simp (disch:=omega) only [Tryz.f229,go_sem,seval]
 repeat' (first | (refine ZR (fun hq=> ?_) (fun hq=> ?_)<;>(try simp only [decide_eq_true_eq,decide_eq_false_iff_not,Classical.not_not] at hq)<;>simp (disch:=omega) only [Sh.out hq,go_sem,seval]) | (refine ZS (fun hq=> ?_) (fun hq=> ?_)<;>(try simp only [decide_eq_true_eq,decide_eq_false_iff_not,Classical.not_not] at hq)<;>simp (disch:=omega) only [Sh.out hq,go_sem,seval]) | (refine Z9 (fun hq=> ?_) (fun hq=> ?_)<;>(try simp only [decide_eq_true_eq,decide_eq_false_iff_not,Classical.not_not] at hq)<;>simp (disch:=omega) only [Sh.out hq,go_sem,seval]))
 all_goals (simp [ZgX,rng];first | done | omega | (rw [Bool.eq_iff_iff];simp;omega))
def Zx (n:Net):List AM.Obj:= [.cells [.p (.list n.places_c (n.places.map eS)),.p (.list n.arcs_c (n.arcs.map VM))]]
theorem Zcg (n:Net) (hp:n.places.length<=1048576) (hs: ∀s∈n.places,s.length<=1048576):ACalls Tryz.prog 171 [.p (ZaQ n)] [] fun x H'=> ∃m:List Flt,FR (pF 26) (W0 n) (n.places.length+1) m/\x= .sl 0 0 m.length m.length/\H'= [.elems 2 (m.map eF)]:=by
 refine ZA [2] Tryz.func171 rfl Zqk ?_;simp (disch:=omega) only [Tryz.f171,go_sem,seval];refine Zs (Weak.ofNil 3 2 (by simp (disch:=omega) only [go_sem,seval]) (by simp) (Weak.refl _ _ _)) ?_;refine Zm [1] (fun m:List Flt=> [(3,.sl 1 0 m.length m.length)]) (fun m=>Zx n++ [.elems 2 (m.map eF)]) (fun m=>FR (pF 26) (n.places.length<=24) 1 m) ?_ ?_
 ·simp (disch:=omega) only [go_sem,seval];refine cD ?_ ?_<;>intro h<;>simp (disch:=omega) only [Sh.out h,go_sem,seval]
  ·exact ⟨[(4,[112,108,97,99,101,115])],⟨by simp,by simp;omega,by simp [pF]⟩,Weak.mk (by simp (disch:=omega) only [Zx,go_sem,seval])⟩
  ·exact ⟨[],FR.nil (by omega),Weak.mk (by simp (disch:=omega) only [Zx,go_sem,seval])⟩
 ·intro m hm;refine Zc [] _ _ _ _ ?_;simp (disch:=omega) only [Zx,go_sem,seval];refine Zg [1] (fun q:Nat×List Flt=> [(3,.sl 1 0 q.2.length q.2.length),(4,.p (.int .i64 q.1))]) (fun q=>Zx n++ [.elems 2 (q.2.map eF)]) (fun q=>q.1<=n.places.length/\FR (pF 26) (n.places.length<=24/\ ∀j,j<q.1->Zkz n j) (q.1+1) q.2) (fun q=>n.places.length-q.1) (0,m) ⟨by simp,hm.to (by simp) (by simp)⟩ (Weak.mk ?_) ?_
  ·simp (disch:=omega) only [Zx,go_sem,seval]
  ·rintro ⟨k,m⟩ ⟨hk,hm⟩;simp only at hk hm;have hml:=hm.len;simp (disch:=omega) only [Zx,go_sem,seval];refine cD ?_ ?_<;>intro h<;>simp (disch:=omega) only [Sh.out h,go_sem,seval]
   ·have hk2:k<n.places.length:=by omega
    have hI:I64 (k:Int):=by omega
    have hdl:=Wj k hI;refine (VA k hI).use ?_;simp (disch:=omega) only [go_sem,seval];simp (disch:=first | omega | (simp only [List.length_cons,List.length_nil,List.length_append,List.length_map,List.length_take,List.length_drop]<;>omega)) only [go_sem,seval];refine (Zen (nth n.places k) (hs _ (by rw [Zf hk2];exact List.getElem_mem _))).use ?_;simp (disch:=omega) only [go_sem,seval];refine cD ?_ ?_<;>intro h2<;>simp (disch:=omega) only [Sh.out h2,go_sem,seval]
    ·simp only [Bool.not_eq_true'] at h2;exact ⟨(k+1,m++ [(5,[112,108,97,99,101,32]++KN k)]),⟨by simp only;omega,(hm.yes (c:=Zkz n k) (by rw [Zkz,h2];simp) (by simp [pF];omega)).to (by simp) (by simp only [Ze,and_assoc])⟩,by simp only;omega,Weak.mk (by simp (disch:=omega) only [Zx,go_sem,seval])⟩
    ·simp only [Bool.not_eq_false'] at h2;refine Zg [1,3,4,5] (fun q:Nat×Bool=> [(6,.p (.bool q.2)),(7,.p (.int .i64 q.1))]) (fun _=>Zx n++ [.elems 2 (m.map eF)]) (fun q=>q.1<=k/\(q.2=false↔ ∀j,j<q.1->nth n.places j≠nth n.places k)) (fun q=>k-q.1) (0,false) (by simp) (Weak.mk ?_) ?_
     ·simp (disch:=omega) only [Zx,go_sem,seval]
     ·rintro ⟨j,b⟩ ⟨hj,hb⟩;simp only at hj hb;simp (disch:=omega) only [Zx,go_sem,seval];refine cD ?_ ?_<;>intro h3<;>simp (disch:=omega) only [Sh.out h3,go_sem,seval]
      ·refine Zy 14 Zp (by kernel_rfl) (by kernel_rfl) ?_;simp (disch:=omega) only [go_sem,seval]
       have hjn:j<n.places.length:=by omega
       cases b with
       | true =>
        simp (disch:=omega) only [go_sem,seval];exact ⟨(j+1,true),⟨by simp only;omega,by rw [Ze,<- hb];simp⟩,by simp only;omega,Weak.mk (by simp (disch:=omega) only [Zx,go_sem,seval])⟩
       | false =>
        simp (disch:=omega) only [go_sem,seval];refine ⟨(j+1,decide (nth n.places j=nth n.places k)),⟨by simp only;omega,by rw [Ze,<- hb];simp⟩,by simp only;omega,Weak.mk (by simp (disch:=omega) only [Zx,go_sem,seval])⟩
      ·have hjk:j=k:=by omega
       subst hjk
       cases b with
       | true =>
        simp (disch:=omega) only [go_sem,seval]
        have hno: ¬Zkz n j:=fun h5=>by have:=hb.2 h5.2;cases this
        exact ⟨(j+1,m++ [(6,[112,108,97,99,101,32]++KN j)]),⟨by simp only;omega,(hm.yes (c:=Zkz n j) hno (by simp [pF];omega)).to (by simp) (by simp only [Ze,and_assoc])⟩,by simp only;omega,Weak.mk (by simp (disch:=omega) only [Zx,go_sem,seval])⟩
       | false =>
        simp (disch:=omega) only [go_sem,seval];exact ⟨(j+1,m),⟨by simp only;omega,(hm.no (c:=Zkz n j) ⟨h2,hb.1 rfl⟩).to (by simp) (by simp only [Ze,and_assoc])⟩,by simp only;omega,Weak.mk (by simp (disch:=omega) only [Zx,go_sem,seval])⟩
   ·have hkn:k=n.places.length:=by omega
    subst hkn;exact ⟨m,hm.to (by omega) (by rw [W0]),1,by simp (disch:=omega) only [go_sem,seval]⟩
set_option maxHeartbeats 16000000
def XS (a:Arc):AM.Obj:= .cells [.p (.int .i64 a.src),.p (.int .i64 a.dst),.p (.int .i64 a.prof),.p (.int .i64 a.miles),.p (.list a.travel_c (a.travel.map ePt)),.p (.list a.slow_c (a.slow.map ePt))]
abbrev XE (a b:Arc):Prop:=a.src=b.src/\a.dst=b.dst/\a.prof=b.prof
theorem Zj1 (n:Net) (i:Nat) (hi:i<n.arcs.length) (hp:n.places.length<=1048576) (ha:n.arcs.length<=1048576) (ht:(nth n.arcs i).travel.length<=1048576) (hsl:(nth n.arcs i).slow.length<=1048576) :
  ACalls Tryz.prog 172 [.p (ZaQ n),.p (.int .i64 (i:Nat))] [] fun x H'=> ∃m:List Flt,FR (pF 26) (Zds n i) 4000000 m/\x= .sl 0 0 m.length m.length/\H'= [.elems 2 (m.map eF)]:=by
 refine ZA [4] Tryz.func172 rfl Zq6 ?_;simp (disch:=omega) only [Tryz.f172,go_sem,seval]
 have hI:I64 (i:Int):=by omega
 have hdl:=Wj i hI;refine (VA i hI).use ?_;simp (disch:=omega) only [go_sem,seval];simp (disch:=first | omega | (simp only [List.length_cons,List.length_nil,List.length_append,List.length_map,List.length_take,List.length_drop]<;>omega)) only [go_sem,seval]
 have hat:(97::114::99::32::KN i).length<=26:=by simp;omega
 generalize hga:nth n.arcs i=a at ht hsl ⊢;generalize 97::114::99::32::KN i=at' at hat ⊢;refine Zs (Weak.ofNil 5 2 (by simp (disch:=omega) only [go_sem,seval]) (by simp) (Weak.refl _ _ _)) ?_;refine Zm [1,2,6,7] (fun m:List Flt=> [(5,.sl 2 0 m.length m.length)]) (fun m=>Zx n++ [XS a,.elems 2 (m.map eF)]) (fun m=>FR (pF 26) (0<=a.src/\a.src<n.places.length/\0<=a.dst/\a.dst<n.places.length) 1 m) ?_ ?_
 ·simp (disch:=omega) only [go_sem,seval]
  repeat' (first | (refine ZR (fun hq=> ?_) (fun hq=> ?_)<;>(try simp only [decide_eq_true_eq,decide_eq_false_iff_not,Classical.not_not] at hq)<;>simp (disch:=omega) only [Sh.out hq,go_sem,seval]) | (refine ZS (fun hq=> ?_) (fun hq=> ?_)<;>(try simp only [decide_eq_true_eq,decide_eq_false_iff_not,Classical.not_not] at hq)<;>simp (disch:=omega) only [Sh.out hq,go_sem,seval]) | (refine Z9 (fun hq=> ?_) (fun hq=> ?_)<;>(try simp only [decide_eq_true_eq,decide_eq_false_iff_not,Classical.not_not] at hq)<;>simp (disch:=omega) only [Sh.out hq,go_sem,seval]))
  all_goals try exact ⟨[],FR.nil (by omega),Weak.mk (by simp (disch:=omega) only [Zx,XS,go_sem,seval])⟩
  all_goals exact ⟨[(11,at')],⟨by simp,by simp;omega,by simpa [pF] using hat⟩,Weak.mk (by simp (disch:=omega) only [Zx,XS,go_sem,seval])⟩
 ·intro m hm;refine Zc [6] _ _ _ _ ?_;simp (disch:=omega) only [Zx,XS,go_sem,seval];have hml:=hm.len
  refine Zm [1,2,6,7] (fun m:List Flt=> [(5,.sl 2 0 m.length m.length)]) (fun m=>Zx n++ [XS a,.elems 2 (m.map eF)])
   (fun m=>FR (pF 26) ((0<=a.src/\a.src<n.places.length/\0<=a.dst/\a.dst<n.places.length)/\(0<=a.prof/\a.prof<=7/\0<=a.miles/\a.miles<=10000/\a.src≠a.dst)) 2 m) ?_ ?_
  ·simp (disch:=omega) only [go_sem,seval]
   repeat' (first | (refine ZR (fun hq=> ?_) (fun hq=> ?_)<;>(try simp only [decide_eq_true_eq,decide_eq_false_iff_not,Classical.not_not] at hq)<;>simp (disch:=omega) only [Sh.out hq,go_sem,seval]) | (refine ZS (fun hq=> ?_) (fun hq=> ?_)<;>(try simp only [decide_eq_true_eq,decide_eq_false_iff_not,Classical.not_not] at hq)<;>simp (disch:=omega) only [Sh.out hq,go_sem,seval]) | (refine Z9 (fun hq=> ?_) (fun hq=> ?_)<;>(try simp only [decide_eq_true_eq,decide_eq_false_iff_not,Classical.not_not] at hq)<;>simp (disch:=omega) only [Sh.out hq,go_sem,seval]))
   all_goals try exact ⟨m,hm.no (by omega),Weak.mk (by simp (disch:=omega) only [Zx,XS,go_sem,seval])⟩
   all_goals exact ⟨m++ [(2,at')],hm.yes (by omega) (by simpa [pF] using hat),Weak.mk (by simp (disch:=omega) only [Zx,XS,go_sem,seval])⟩
  ·clear hm hml;intro m hm;refine Zc [14] _ _ _ _ ?_;simp (disch:=omega) only [Zx,XS,go_sem,seval];have hml:=hm.len;refine ZM [14] [1,2,5,6,7] (fun q:Nat×Bool=> [(8,.p (.bool q.2)),(9,.p (.int .i64 q.1))]) (fun _=>Zx n++ [XS a,.elems 2 (m.map eF)]) (fun q=>q.1<=i/\(q.2=false↔ ∀j,j<q.1-> ¬XE a (nth n.arcs j))) (fun q=>i-q.1) (0,false) (by simp) (Weak.mk ?_) ?_
   ·simp (disch:=omega) only [Zx,XS,go_sem,seval]
   ·rintro ⟨k,b⟩ ⟨hk,hb⟩;simp only at hk hb;simp (disch:=omega) only [Zx,XS,go_sem,seval];refine cD ?_ ?_<;>intro h<;>simp (disch:=omega) only [Sh.out h,go_sem,seval]
    ·have hkn:k<n.arcs.length:=by omega
     cases b with
     | true =>
      simp (disch:=omega) only [go_sem,seval];exact ⟨(k+1,true),⟨by simp only;omega,by rw [Ze,<- hb];simp⟩,by simp only;omega,Weak.mk (by simp (disch:=omega) only [Zx,XS,go_sem,seval])⟩
     | false =>
      simp (disch:=omega) only [go_sem,seval]
      repeat' (first | (refine ZR (fun hq=> ?_) (fun hq=> ?_)<;>(try simp only [decide_eq_true_eq,decide_eq_false_iff_not,Classical.not_not] at hq)<;>simp (disch:=omega) only [Sh.out hq,go_sem,seval]) | (refine ZS (fun hq=> ?_) (fun hq=> ?_)<;>(try simp only [decide_eq_true_eq,decide_eq_false_iff_not,Classical.not_not] at hq)<;>simp (disch:=omega) only [Sh.out hq,go_sem,seval]) | (refine Z9 (fun hq=> ?_) (fun hq=> ?_)<;>(try simp only [decide_eq_true_eq,decide_eq_false_iff_not,Classical.not_not] at hq)<;>simp (disch:=omega) only [Sh.out hq,go_sem,seval]))
      all_goals refine ⟨(k+1,decide (XE a (nth n.arcs k))),⟨by simp only;omega,by rw [Ze,<- hb];simp⟩,by simp only;omega,Weak.mk ?_⟩
      all_goals simp (disch:=omega) only [Zx,XS,go_sem,seval]
      all_goals simp [XE, *]
    ·have hki:k=i:=by omega
     subst hki;have htw:(b=false↔ ∀j,j<k-> ¬XE a (nth n.arcs j)):=hb;clear hb hk h
     refine Zm [6,7] (fun m:List Flt=> [(5,.sl 2 0 m.length m.length)]) (fun m=>Zx n++ [XS a,.elems 2 (m.map eF)])
      (fun m=>FR (pF 26) (((0<=a.src/\a.src<n.places.length/\0<=a.dst/\a.dst<n.places.length)/\(0<=a.prof/\a.prof<=7/\0<=a.miles/\a.miles<=10000/\a.src≠a.dst))/\ ∀j,j<k-> ¬XE a (nth n.arcs j)) 3 m) ?_ ?_
     ·simp (disch:=omega) only [go_sem,seval]
      cases b with
      | true =>
       simp (disch:=omega) only [go_sem,seval];exact ⟨m++ [(6,at')],hm.yes (by rw [<- htw];simp) (by simpa [pF] using hat),Weak.mk (by simp (disch:=omega) only [Zx,XS,go_sem,seval])⟩
      | false =>
       simp (disch:=omega) only [go_sem,seval];exact ⟨m,hm.no (htw.1 rfl),Weak.mk (by simp (disch:=omega) only [Zx,XS,go_sem,seval])⟩
     ·clear hm hml;intro m hm;refine Zc [21] _ _ _ _ ?_;simp (disch:=omega) only [Zx,XS,go_sem,seval];have hml:=hm.len;refine ((Ziw a.travel a.travel_c ht).frozenE).useV fun lt hlt=> ?_;simp (disch:=omega) only [go_sem,seval];have hltl:=hlt.len
      refine ZM [21] [6,7,11] (fun q:Nat×List Flt=> [(5,.sl 2 0 q.2.length q.2.length),(12,.p (.int .i64 q.1))]) (fun q=>Zx n++ [XS a,.elems 2 (q.2.map eF)])
       (fun q=>q.1<=lt.length/\FR (pF 26) ((((0<=a.src/\a.src<n.places.length/\0<=a.dst/\a.dst<n.places.length)/\(0<=a.prof/\a.prof<=7/\0<=a.miles/\a.miles<=10000/\a.src≠a.dst))/\ ∀j,j<k-> ¬XE a (nth n.arcs j))/\q.1=0) (3+q.1) q.2) (fun q=>lt.length-q.1) (0,m) ⟨by simp,hm.to (by simp) (by simp)⟩ (Weak.mk ?_) ?_
      ·simp (disch:=omega) only [Zx,XS,go_sem,seval]
      ·clear hm hml;rintro ⟨j,m⟩ ⟨hj,hm⟩;simp only at hj hm;have hml:=hm.len;simp (disch:=omega) only [Zx,XS,go_sem,seval];refine cD ?_ ?_<;>intro h<;>simp (disch:=omega) only [Sh.out h,go_sem,seval]
       ·have hj2:j<lt.length:=by omega
        exact ⟨(j+1,m++ [((nth lt j).1,at')]),⟨by simp only;omega,(hm.yes (c:=False) (by simp) (by simpa [pF] using hat)).to (by simp only;omega) (by simp)⟩,by simp only;omega,Weak.mk (by simp (disch:=omega) only [Zx,XS,go_sem,seval])⟩
       ·have hjl:j=lt.length:=by omega
        subst hjl;have hm2:=hm.to (d:=3+lt.length) (D:=(((0<=a.src/\a.src<n.places.length/\0<=a.dst/\a.dst<n.places.length)/\(0<=a.prof/\a.prof<=7/\0<=a.miles/\a.miles<=10000/\a.src≠a.dst))/\ ∀j,j<k-> ¬XE a (nth n.arcs j))/\Yy a.travel) (Nat.le_refl _) (by rw [<- hlt.emp,List.eq_nil_iff_length_eq_zero]);clear hm
        refine Zm [6,7] (fun m:List Flt=> [(5,.sl 2 0 m.length m.length)]) (fun m=>Zx n++ [XS a,.elems 2 (m.map eF)])
         (fun m=>FR (pF 26) (((((0<=a.src/\a.src<n.places.length/\0<=a.dst/\a.dst<n.places.length)/\(0<=a.prof/\a.prof<=7/\0<=a.miles/\a.miles<=10000/\a.src≠a.dst))/\ ∀j,j<k-> ¬XE a (nth n.arcs j))/\Yy a.travel)/\a.slow.length<=16) (4+lt.length) m) ?_ ?_
        ·simp (disch:=omega) only [go_sem,seval];refine cD ?_ ?_<;>intro h2<;>simp (disch:=omega) only [Sh.out h2,go_sem,seval]
         ·exact ⟨m++ [(4,at')],(hm2.yes (by omega) (by simpa [pF] using hat)).to (by omega) Iff.rfl,Weak.mk (by simp (disch:=omega) only [Zx,XS,go_sem,seval])⟩
         ·exact ⟨m,(hm2.no (by omega)).to (by omega) Iff.rfl,Weak.mk (by simp (disch:=omega) only [Zx,XS,go_sem,seval])⟩
        ·clear hm2 hml h hj;intro m hm;refine Zc [] _ _ _ _ ?_;simp (disch:=omega) only [Zx,XS,go_sem,seval]
         refine Zg [6,7] (fun q:Nat×List Flt=> [(5,.sl 2 0 q.2.length q.2.length),(13,.p (.int .i64 q.1))]) (fun q=>Zx n++ [XS a,.elems 2 (q.2.map eF)])
          (fun q=>q.1<=a.slow.length/\FR (pF 26) ((((((0<=a.src/\a.src<n.places.length/\0<=a.dst/\a.dst<n.places.length)/\(0<=a.prof/\a.prof<=7/\0<=a.miles/\a.miles<=10000/\a.src≠a.dst))/\ ∀j,j<k-> ¬XE a (nth n.arcs j))/\Yy a.travel)/\a.slow.length<=16)/\ ∀j,j<q.1->VJ a.slow j) (4+lt.length+q.1) q.2) (fun q=>a.slow.length-q.1) (0,m) ⟨by simp,hm.to (by simp) (by simp)⟩ (Weak.mk ?_) ?_
         ·simp (disch:=omega) only [Zx,XS,go_sem,seval]
         ·clear hm;rintro ⟨j,m⟩ ⟨hj,hm⟩;simp only at hj hm;have hml:=hm.len;simp (disch:=omega) only [Zx,XS,go_sem,seval];refine cD ?_ ?_<;>intro h<;>simp (disch:=omega) only [Sh.out h,go_sem,seval]
          ·have hj2:j<a.slow.length:=by omega
           refine Zh Zp (by kernel_rfl) (by kernel_rfl) ?_;simp (disch:=omega) only [go_sem,seval];refine Zn (Zbv (nth a.slow j).t) ?_;simp (disch:=omega) only [go_sem,seval];have hslo:VJ a.slow j↔(ZgX (nth a.slow j).t=true/\ZgX (nth a.slow j).a=true/\(0<j->(nth a.slow (j-1)).t<(nth a.slow j).t)):=Iff.rfl;have hyes: ¬VJ a.slow j->_:=fun hs=>(hm.yes (x:=(2,at')) hs (by simpa [pF] using hat)).to (D:=(((((0<=a.src/\a.src<n.places.length/\0<=a.dst/\a.dst<n.places.length)/\(0<=a.prof/\a.prof<=7/\0<=a.miles/\a.miles<=10000/\a.src≠a.dst))/\ ∀j,j<k-> ¬XE a (nth n.arcs j))/\Yy a.travel)/\a.slow.length<=16)/\ ∀i,i<j+1->VJ a.slow i) (d:=4+lt.length+(j+1)) (by omega) (by simp only [Ze,and_assoc])
           have hno:VJ a.slow j->_:=fun hs=>(hm.no hs).to (D:=(((((0<=a.src/\a.src<n.places.length/\0<=a.dst/\a.dst<n.places.length)/\(0<=a.prof/\a.prof<=7/\0<=a.miles/\a.miles<=10000/\a.src≠a.dst))/\ ∀j,j<k-> ¬XE a (nth n.arcs j))/\Yy a.travel)/\a.slow.length<=16)/\ ∀i,i<j+1->VJ a.slow i) (d:=4+lt.length+(j+1)) (by omega) (by simp only [Ze,and_assoc])
           cases ht1:ZgX (nth a.slow j).t with
           | false =>
            simp (disch:=omega) only [go_sem,seval];exact ⟨(j+1,m++ [(2,at')]),⟨by simp only;omega,hyes (by rw [hslo,ht1];simp)⟩,by simp only;omega,Weak.mk (by simp (disch:=omega) only [Zx,XS,go_sem,seval])⟩
           | true =>
            simp (disch:=omega) only [go_sem,seval];refine Zn (Zbv (nth a.slow j).a) ?_;simp (disch:=omega) only [go_sem,seval]
            cases ht2:ZgX (nth a.slow j).a with
            | false =>
             simp (disch:=omega) only [go_sem,seval];exact ⟨(j+1,m++ [(2,at')]),⟨by simp only;omega,hyes (by rw [hslo,ht2];simp)⟩,by simp only;omega,Weak.mk (by simp (disch:=omega) only [Zx,XS,go_sem,seval])⟩
            | true =>
             simp (disch:=omega) only [go_sem,seval]
             repeat' (first | (refine ZR (fun hq=> ?_) (fun hq=> ?_)<;>(try simp only [decide_eq_true_eq,decide_eq_false_iff_not,Classical.not_not] at hq)<;>simp (disch:=omega) only [Sh.out hq,go_sem,seval]) | (refine ZS (fun hq=> ?_) (fun hq=> ?_)<;>(try simp only [decide_eq_true_eq,decide_eq_false_iff_not,Classical.not_not] at hq)<;>simp (disch:=omega) only [Sh.out hq,go_sem,seval]) | (refine Z9 (fun hq=> ?_) (fun hq=> ?_)<;>(try simp only [decide_eq_true_eq,decide_eq_false_iff_not,Classical.not_not] at hq)<;>simp (disch:=omega) only [Sh.out hq,go_sem,seval]))
             ·exact ⟨(j+1,m++ [(2,at')]),⟨by simp only;omega,hyes (by rw [hslo];omega)⟩,by simp only;omega,Weak.mk (by simp (disch:=omega) only [Zx,XS,go_sem,seval])⟩
             ·exact ⟨(j+1,m),⟨by simp only;omega,hno (by rw [hslo];exact ⟨ht1,ht2,by omega⟩)⟩,by simp only;omega,Weak.mk (by simp (disch:=omega) only [Zx,XS,go_sem,seval])⟩
             ·exact ⟨(j+1,m),⟨by simp only;omega,hno (by rw [hslo];exact ⟨ht1,ht2,by omega⟩)⟩,by simp only;omega,Weak.mk (by simp (disch:=omega) only [Zx,XS,go_sem,seval])⟩
          ·have hjn:j=a.slow.length:=by omega
           subst hjn;exact ⟨m,hm.to (by omega) (by rw [Zds,hga]),2,by simp (disch:=omega) only [Zx,XS,go_sem,seval]⟩
theorem Zl {α:Type} [Inhabited α] {l:List α} {i:Nat} (h:i<l.length):nth l i∈l:=by rw [Zf h];exact List.getElem_mem _
theorem Zq2 (n:Net) (hw:n.wf 1048576):ACalls Tryz.prog 127 [.p (ZaQ n)] [] fun x H'=> ∃m:List Flt,FR (pF 26) (netOk n) 4194306000000 m/\x= .sl 0 0 m.length m.length/\H'= [.elems 2 (m.map eF)]:=by
 obtain ⟨w1,w2,w3,w4⟩:=hw;refine ZA [2] Tryz.func127 rfl Zmg ?_;simp (disch:=omega) only [Tryz.f127,go_sem,seval];refine (Zcg n w1 w2).useE fun m hm=> ?_;simp (disch:=omega) only [go_sem,seval];have hml:=hm.len;refine Zm [1] (fun m:List Flt=> [(3,.sl 1 0 m.length m.length)]) (fun m=>Zx n++ [.elems 2 (m.map eF)]) (fun m=>FR (pF 26) (W0 n/\n.arcs.length<=1024) (n.places.length+2) m) ?_ ?_
 ·simp (disch:=omega) only [go_sem,seval];refine cD ?_ ?_<;>intro h<;>simp (disch:=omega) only [Sh.out h,go_sem,seval]
  ·exact ⟨m++ [(4,[97,114,99,115])],hm.yes (by omega) (by simp [pF]),Weak.mk (by simp (disch:=omega) only [Zx,go_sem,seval])⟩
  ·exact ⟨m,hm.no (by omega),Weak.mk (by simp (disch:=omega) only [Zx,go_sem,seval])⟩
 ·clear hm hml;intro m hm;refine Zc [] _ _ _ _ ?_;simp (disch:=omega) only [Zx,go_sem,seval];refine Zg [1] (fun q:Nat×List Flt=> [(3,.sl 1 0 q.2.length q.2.length),(4,.p (.int .i64 q.1))]) (fun q=>Zx n++ [.elems 2 (q.2.map eF)]) (fun q=>q.1<=n.arcs.length/\FR (pF 26) ((W0 n/\n.arcs.length<=1024)/\ ∀j,j<q.1->Zds n j) (n.places.length+2+q.1*4000000) q.2) (fun q=>n.arcs.length-q.1) (0,m) ⟨by simp,hm.to (by simp) (by simp)⟩ (Weak.mk ?_) ?_
  ·simp (disch:=omega) only [Zx,go_sem,seval]
  ·clear hm;rintro ⟨k,m⟩ ⟨hk,hm⟩;simp only at hk hm;have hml:=hm.len;simp (disch:=omega) only [Zx,go_sem,seval];refine cD ?_ ?_<;>intro h<;>simp (disch:=omega) only [Sh.out h,go_sem,seval]
   ·have hk2:k<n.arcs.length:=by omega
    have ha:=w4 _ (Zl hk2);refine (Zj1 n k hk2 w1 w3 ha.2.2.2.2.1 ha.2.2.2.2.2.2.1).useE fun f hf=> ?_;simp (disch:=omega) only [go_sem,seval];have hfl:=hf.len
    have q1:(m.length+f.length)*24<=140737488355328:=by omega
    have q2:m.length+f.length<=140737488355328:=by omega
    simp (disch:=omega) only [q1,q2,go_sem,seval];refine ⟨(k+1,m++f),⟨by simp only;omega,(hm.app hf).to (by simp only;omega) (by simp only [Ze,and_assoc])⟩,by simp only;omega,Weak.mk ?_⟩;simp (disch:=omega) only [Zx,List.length_append,List.map_append,go_sem,seval]
   ·have hkn:k=n.arcs.length:=by omega
    subst hkn;exact ⟨m,hm.to (by omega) (by rw [netOk]),1,by simp (disch:=omega) only [Zx,go_sem,seval]⟩
theorem Yi (n lo hi:Int):PC 173 [.p (.int .i64 n),.p (.int .i64 lo),.p (.int .i64 hi)] (.bool (rng n lo hi)):=by
 refine Za Tryz.func173 rfl Zmt ?_;simp (disch:=omega) only [Tryz.f173,go_sem,seval];refine gT ?_ ?_<;>intro h<;>simp (disch:=omega) only [Sh.out h,go_sem,seval]
 all_goals (simp [rng];first | done | omega | (rw [Bool.eq_iff_iff];simp;omega))
def WC (l:List Int) (d:Int):Bool:=rng l.length 1 3&&decide ((l.length:Int)=d)&&l.all fun n=>rng n 0 1000
theorem Zcf (l:List Int) (c:Bool) (d:Int) (hl:l.length<=1048576):PC 231 [.p (.list c (l.map eI)),.p (.int .i64 d)] (.bool (WC l d)):=by
 refine Za Tryz.func231 rfl Znf ?_;simp (disch:=omega) only [Tryz.f231,go_sem,seval];refine (Yi l.length 1 3).use ?_;simp (disch:=omega) only [go_sem,seval];refine gF ?_ ?_<;>intro h<;>simp (disch:=omega) only [Sh.out h,go_sem,seval]
 ·simp only [Bool.not_eq_true'] at h;simp [WC,h]
 ·simp only [Bool.not_eq_false'] at h;refine cD ?_ ?_<;>intro h2<;>simp (disch:=omega) only [Sh.out h2,go_sem,seval]
  ·simp [WC,h,h2]
  ·simp only [Classical.not_not] at h2;subst h2;refine Zg [0] (fun k:Nat=> [(5,.p (.int .i64 k))]) (fun _=> []) (fun k=>k<=l.length/\ ∀j,j<k->rng (nth l j) 0 1000=true) (fun k=>l.length-k) 0 (by simp) (Weak.mk ?_) ?_
   ·simp (disch:=omega) only [go_sem,seval]
   ·rintro k ⟨hk,hno⟩;simp (disch:=omega) only [go_sem,seval];refine cD ?_ ?_<;>intro h3<;>simp (disch:=omega) only [Sh.out h3,go_sem,seval]
    ·have hk2:k<l.length:=by omega
     refine (Yi (nth l k) 0 1000).use ?_;simp (disch:=omega) only [go_sem,seval];refine cD ?_ ?_<;>intro h4<;>simp (disch:=omega) only [Sh.out h4,go_sem,seval]
     ·simp only [Bool.not_eq_true'] at h4
      have:l.all (fun n=>rng n 0 1000)=false:=by
       rw [List.all_eq_false];exact ⟨nth l k,Zl hk2,by rw [h4];simp⟩
      simp [WC,this]
     ·simp only [Bool.not_eq_false'] at h4;exact ⟨k+1,⟨by omega,Ze.2 ⟨hno,h4⟩⟩,by omega,wk⟩
    ·have:l.all (fun n=>rng n 0 1000)=true:=by
      rw [List.all_eq_true];intro x hx;obtain ⟨j,hj,rfl⟩:=List.mem_iff_getElem.1 hx;rw [<- Zf hj];exact hno j (by omega)
     simp [WC,h,this]
def Kx (l:List Typ) (i:Nat) (s:List UInt8):Bool:=(List.range i).any fun j=>decide ((nth l j).name=s)
theorem Yl {l:List Typ} {i:Nat} {s:List UInt8} :Kx l i s=false↔ ∀j,j<i->(nth l j).name≠s:=by
 simp [Kx,List.any_eq_false]
theorem ZeI (l:List Typ) (c:Bool) (i:Nat) (s:List UInt8) (hi:i<=l.length) (hl:l.length<=1048576):PC 230 [.p (.list c (l.map VK)),.p (.int .i64 (i:Nat)),.p (.str s)] (.bool (Kx l i s)):=by
 refine Za Tryz.func230 rfl Zni ?_;simp (disch:=omega) only [Tryz.f230,go_sem,seval];refine Zg [0,1,2] (fun k:Nat=> [(7,.p (.int .i64 k))]) (fun _=> []) (fun k=>k<=i/\ ∀j,j<k->(nth l j).name≠s) (fun k=>i-k) 0 (by simp) (Weak.mk ?_) ?_
 ·simp (disch:=omega) only [go_sem,seval]
 ·rintro k ⟨hk,hno⟩;simp (disch:=omega) only [go_sem,seval];refine cD ?_ ?_<;>intro h3<;>simp (disch:=omega) only [Sh.out h3,go_sem,seval]
  ·have hk2:k<l.length:=by omega
   refine cD ?_ ?_<;>intro h4<;>simp (disch:=omega) only [Sh.out h4,go_sem,seval]
   ·have:Kx l i s=true:=by
     cases hq:Kx l i s with
     | true=>rfl
     | false=>exact absurd h4 (Yl.1 hq k (by omega))
    rw [this]
   ·exact ⟨k+1,⟨by omega,Ze.2 ⟨hno,h4⟩⟩,by omega,wk⟩
  ·have:k=i:=by omega
   subst this;rw [Yl.2 hno]
def dimsOf (l:List Typ):Int:=if l.length=0 then 0 else ((nth l 0).cap.length:Int)
theorem Zba (l:List Typ) (c:Bool) (hl:l.length<=1048576):PC 130 [.p (.list c (l.map VK))] (.int .i64 (dimsOf l)):=by
 refine Za Tryz.func130 rfl ZqK ?_;simp (disch:=omega) only [Tryz.f130,go_sem,seval];refine cD ?_ ?_<;>intro h<;>simp (disch:=omega) only [Sh.out h,go_sem,seval]
 ·have:l.length=0:=by omega
  simp [dimsOf,this]
 ·have h0:0<l.length:=by omega
  have h1:l.length≠0:=by omega
  simp (disch:=first | omega | (simp only [List.length_cons,List.length_nil,List.length_append,List.length_map,List.length_take,List.length_drop]<;>omega)) only [dimsOf,h1,go_sem,seval]
def Xg (t:Typ):AM.Obj:= .cells [.p (.str t.name),.p (.int .i64 t.count),.p (.int .i64 t.src),.p (.int .i64 t.dst),.p (.list t.cap_c (t.cap.map eI)),.p (.int .i64 t.skills),.p (.int .i64 t.prof),.p (.int .i64 t.opn),.p (.int .i64 t.cls),.p (.int .i64 t.drive),.p (.int .i64 t.rest),.p (.int .i64 t.fixed),.p (.int .i64 t.perMile),.p (.int .i64 t.perTick)]
def QR (n:Net) (l:List Typ) (i:Nat):Prop:=((((((((nameOk (nth l i).name=true)/\(∀j,j<i->(nth l j).name≠(nth l i).name))/\rng (nth l i).count 0 10=true)/\(rng (nth l i).src 0 (n.places.length-1)=true/\rng (nth l i).dst 0 (n.places.length-1)=true))/\WC (nth l i).cap (dimsOf l)=true)/\rng (nth l i).skills 0 1073741823=true)/\(rng (nth l i).opn 0 (nth l i).cls=true/\(nth l i).cls<=4096))/\(rng (nth l i).drive 1 4096=true/\rng (nth l i).rest 0 4096=true))/\(rng (nth l i).prof 0 7=true/\rng (nth l i).fixed 0 100000=true/\rng (nth l i).perMile 0 100=true/\rng (nth l i).perTick 0 100=true)
theorem Zfr (n:Net) (l:List Typ) (c:Bool) (i:Nat) (hi:i<l.length) (hl:l.length<=1048576) (hw:n.wf 1048576) (ht:(nth l i).wf 1048576) :
  ACalls Tryz.prog 174 [.p (ZaQ n),.p (.list c (l.map VK)),.p (.int .i64 (i:Nat))] [] fun x H'=> ∃m:List Int,FR (fun _=>True) (QR n l i) 9 m/\x= .sl 0 0 m.length m.length/\H'= [.elems 1 (m.map eI)]:=by
 obtain ⟨w1,w2,w3,w4⟩:=hw;refine ZA [3] Tryz.func174 rfl Zrb ?_;simp (disch:=omega) only [Tryz.f174,go_sem,seval];have hty:QR n l i↔((((((((nameOk (nth l i).name=true)/\(∀j,j<i->(nth l j).name≠(nth l i).name))/\rng (nth l i).count 0 10=true)/\(rng (nth l i).src 0 (n.places.length-1)=true/\rng (nth l i).dst 0 (n.places.length-1)=true))/\WC (nth l i).cap (dimsOf l)=true)/\rng (nth l i).skills 0 1073741823=true)/\(rng (nth l i).opn 0 (nth l i).cls=true/\(nth l i).cls<=4096))/\(rng (nth l i).drive 1 4096=true/\rng (nth l i).rest 0 4096=true))/\(rng (nth l i).prof 0 7=true/\rng (nth l i).fixed 0 100000=true/\rng (nth l i).perMile 0 100=true/\rng (nth l i).perTick 0 100=true):=Iff.rfl
 generalize hga:nth l i=t at ht hty ⊢;have hname:=ht.1;have hcap:=ht.2.2.2.2.1;refine Zs (Weak.ofNil 8 1 (by simp (disch:=omega) only [go_sem,seval]) (by simp) (Weak.refl _ _ _)) ?_;refine Zm [1,2,3,7] (fun m:List Int=> [(8,.sl 2 0 m.length m.length)]) (fun m=>Zx n++ [Xg t,.elems 1 (m.map eI)]) (fun m=>FR (fun _=>True) (nameOk t.name=true) 1 m) ?_ ?_
 ·simp (disch:=omega) only [go_sem,seval];refine (Zen t.name hname).use ?_;simp (disch:=omega) only [go_sem,seval];refine cD ?_ ?_<;>intro h0<;>simp (disch:=omega) only [Sh.out h0,go_sem,seval]
  ·simp only [Bool.not_eq_true'] at h0;exact ⟨[5],⟨by simp,by simp [h0],by simp⟩,Weak.mk (by simp (disch:=omega) only [Zx,Xg,go_sem,seval])⟩
  ·simp only [Bool.not_eq_false'] at h0;exact ⟨[],FR.nil (by simp [h0]),Weak.mk (by simp (disch:=omega) only [Zx,Xg,go_sem,seval])⟩
 ·skip
  intro m hm;refine Zc [5] _ _ _ _ ?_;simp (disch:=omega) only [Zx,Xg,go_sem,seval];have hml:=hm.len;refine Zm [1,3,7] (fun m:List Int=> [(8,.sl 2 0 m.length m.length)]) (fun m=>Zx n++ [Xg t,.elems 1 (m.map eI)]) (fun m=>FR (fun _=>True) ((nameOk t.name=true)/\(∀j,j<i->(nth l j).name≠t.name)) 2 m) ?_ ?_
  ·simp (disch:=omega) only [go_sem,seval];refine (ZeI l c i t.name (by omega) hl).use ?_;simp (disch:=omega) only [go_sem,seval];refine cD ?_ ?_<;>intro h<;>simp (disch:=omega) only [Sh.out h,go_sem,seval]
   ·exact ⟨m++ [6],hm.yes (by rw [<- Yl,h];simp) trivial,Weak.mk (by simp (disch:=omega) only [Zx,Xg,go_sem,seval])⟩
   ·exact ⟨m,hm.no (by exact Yl.1 h),Weak.mk (by simp (disch:=omega) only [Zx,Xg,go_sem,seval])⟩
  ·clear hm hml;intro m hm;refine Zc [7] _ _ _ _ ?_;simp (disch:=omega) only [Zx,Xg,go_sem,seval];have hml:=hm.len;refine Zm [1,3,7] (fun m:List Int=> [(8,.sl 2 0 m.length m.length)]) (fun m=>Zx n++ [Xg t,.elems 1 (m.map eI)]) (fun m=>FR (fun _=>True) (((nameOk t.name=true)/\(∀j,j<i->(nth l j).name≠t.name))/\rng t.count 0 10=true) 3 m) ?_ ?_
   ·simp (disch:=omega) only [go_sem,seval];refine (Yi t.count 0 10).use ?_;simp (disch:=omega) only [go_sem,seval];refine cD ?_ ?_<;>intro h0<;>simp (disch:=omega) only [Sh.out h0,go_sem,seval]
    ·simp only [Bool.not_eq_true'] at h0;exact ⟨m++ [22],hm.yes (by simp [h0]) trivial,Weak.mk (by simp (disch:=omega) only [Zx,Xg,go_sem,seval])⟩
    ·simp only [Bool.not_eq_false'] at h0;exact ⟨m,hm.no (by simp [h0]),Weak.mk (by simp (disch:=omega) only [Zx,Xg,go_sem,seval])⟩
   ·clear hm hml;intro m hm;refine Zc [9] _ _ _ _ ?_;simp (disch:=omega) only [Zx,Xg,go_sem,seval];have hml:=hm.len;refine Zm [1,7] (fun m:List Int=> [(8,.sl 2 0 m.length m.length)]) (fun m=>Zx n++ [Xg t,.elems 1 (m.map eI)]) (fun m=>FR (fun _=>True) ((((nameOk t.name=true)/\(∀j,j<i->(nth l j).name≠t.name))/\rng t.count 0 10=true)/\(rng t.src 0 (n.places.length-1)=true/\rng t.dst 0 (n.places.length-1)=true)) 4 m) ?_ ?_
    ·simp (disch:=omega) only [go_sem,seval];refine (Yi t.src 0 (n.places.length-1)).use ?_;simp (disch:=omega) only [go_sem,seval];refine gF ?_ ?_<;>intro h0<;>simp (disch:=omega) only [Sh.out h0,go_sem,seval]
     ·simp only [Bool.not_eq_true'] at h0;exact ⟨m++ [11],hm.yes (by simp [h0]) trivial,Weak.mk (by simp (disch:=omega) only [Zx,Xg,go_sem,seval])⟩
     ·simp only [Bool.not_eq_false'] at h0;refine (Yi t.dst 0 (n.places.length-1)).use ?_;simp (disch:=omega) only [go_sem,seval];refine cD ?_ ?_<;>intro h1<;>simp (disch:=omega) only [Sh.out h1,go_sem,seval]
      ·simp only [Bool.not_eq_true'] at h1;exact ⟨m++ [11],hm.yes (by simp [h1]) trivial,Weak.mk (by simp (disch:=omega) only [Zx,Xg,go_sem,seval])⟩
      ·simp only [Bool.not_eq_false'] at h1;exact ⟨m,hm.no (by simp [h0,h1]),Weak.mk (by simp (disch:=omega) only [Zx,Xg,go_sem,seval])⟩
    ·clear hm hml;intro m hm;refine Zc [11] _ _ _ _ ?_;simp (disch:=omega) only [Zx,Xg,go_sem,seval];have hml:=hm.len;refine Zm [7] (fun m:List Int=> [(8,.sl 2 0 m.length m.length)]) (fun m=>Zx n++ [Xg t,.elems 1 (m.map eI)]) (fun m=>FR (fun _=>True) (((((nameOk t.name=true)/\(∀j,j<i->(nth l j).name≠t.name))/\rng t.count 0 10=true)/\(rng t.src 0 (n.places.length-1)=true/\rng t.dst 0 (n.places.length-1)=true))/\WC t.cap (dimsOf l)=true) 5 m) ?_ ?_
     ·simp (disch:=omega) only [go_sem,seval];refine Zh Zp (by kernel_rfl) (by kernel_rfl) ?_;simp (disch:=omega) only [go_sem,seval];refine Zn (Zba l c hl) ?_;simp (disch:=omega) only [go_sem,seval];refine Zn (Zcf t.cap t.cap_c (dimsOf l) hcap) ?_;simp (disch:=omega) only [go_sem,seval];refine cD ?_ ?_<;>intro h<;>simp (disch:=omega) only [Sh.out h,go_sem,seval]
      ·simp only [Bool.not_eq_true'] at h;exact ⟨m++ [17],hm.yes (by simp [h]) trivial,Weak.mk (by simp (disch:=omega) only [Zx,Xg,go_sem,seval])⟩
      ·simp only [Bool.not_eq_false'] at h;exact ⟨m,hm.no (by simp [h]),Weak.mk (by simp (disch:=omega) only [Zx,Xg,go_sem,seval])⟩
     ·clear hm hml;intro m hm;refine Zc [13] _ _ _ _ ?_;simp (disch:=omega) only [Zx,Xg,go_sem,seval];have hml:=hm.len;refine Zm [7] (fun m:List Int=> [(8,.sl 2 0 m.length m.length)]) (fun m=>Zx n++ [Xg t,.elems 1 (m.map eI)]) (fun m=>FR (fun _=>True) ((((((nameOk t.name=true)/\(∀j,j<i->(nth l j).name≠t.name))/\rng t.count 0 10=true)/\(rng t.src 0 (n.places.length-1)=true/\rng t.dst 0 (n.places.length-1)=true))/\WC t.cap (dimsOf l)=true)/\rng t.skills 0 1073741823=true) 6 m) ?_ ?_
      ·simp (disch:=omega) only [go_sem,seval];refine (Yi t.skills 0 1073741823).use ?_;simp (disch:=omega) only [go_sem,seval];refine cD ?_ ?_<;>intro h0<;>simp (disch:=omega) only [Sh.out h0,go_sem,seval]
       ·simp only [Bool.not_eq_true'] at h0;exact ⟨m++ [18],hm.yes (by simp [h0]) trivial,Weak.mk (by simp (disch:=omega) only [Zx,Xg,go_sem,seval])⟩
       ·simp only [Bool.not_eq_false'] at h0;exact ⟨m,hm.no (by simp [h0]),Weak.mk (by simp (disch:=omega) only [Zx,Xg,go_sem,seval])⟩
      ·clear hm hml;intro m hm;refine Zc [15] _ _ _ _ ?_;simp (disch:=omega) only [Zx,Xg,go_sem,seval];have hml:=hm.len;refine Zm [7] (fun m:List Int=> [(8,.sl 2 0 m.length m.length)]) (fun m=>Zx n++ [Xg t,.elems 1 (m.map eI)]) (fun m=>FR (fun _=>True) (((((((nameOk t.name=true)/\(∀j,j<i->(nth l j).name≠t.name))/\rng t.count 0 10=true)/\(rng t.src 0 (n.places.length-1)=true/\rng t.dst 0 (n.places.length-1)=true))/\WC t.cap (dimsOf l)=true)/\rng t.skills 0 1073741823=true)/\(rng t.opn 0 t.cls=true/\t.cls<=4096)) 7 m) ?_ ?_
       ·simp (disch:=omega) only [go_sem,seval];refine (Yi t.opn 0 t.cls).use ?_;simp (disch:=omega) only [go_sem,seval];refine gF ?_ ?_<;>intro h0<;>simp (disch:=omega) only [Sh.out h0,go_sem,seval]
        ·simp only [Bool.not_eq_true'] at h0;exact ⟨m++ [15],hm.yes (by simp [h0]) trivial,Weak.mk (by simp (disch:=omega) only [Zx,Xg,go_sem,seval])⟩
        ·simp only [Bool.not_eq_false'] at h0;refine cD ?_ ?_<;>intro h1<;>simp (disch:=omega) only [Sh.out h1,go_sem,seval]
         ·exact ⟨m++ [15],hm.yes (by omega) trivial,Weak.mk (by simp (disch:=omega) only [Zx,Xg,go_sem,seval])⟩
         ·exact ⟨m,hm.no (by exact ⟨h0,by omega⟩),Weak.mk (by simp (disch:=omega) only [Zx,Xg,go_sem,seval])⟩
       ·clear hm hml;intro m hm;refine Zc [17] _ _ _ _ ?_;simp (disch:=omega) only [Zx,Xg,go_sem,seval];have hml:=hm.len;refine Zm [7] (fun m:List Int=> [(8,.sl 2 0 m.length m.length)]) (fun m=>Zx n++ [Xg t,.elems 1 (m.map eI)]) (fun m=>FR (fun _=>True) ((((((((nameOk t.name=true)/\(∀j,j<i->(nth l j).name≠t.name))/\rng t.count 0 10=true)/\(rng t.src 0 (n.places.length-1)=true/\rng t.dst 0 (n.places.length-1)=true))/\WC t.cap (dimsOf l)=true)/\rng t.skills 0 1073741823=true)/\(rng t.opn 0 t.cls=true/\t.cls<=4096))/\(rng t.drive 1 4096=true/\rng t.rest 0 4096=true)) 8 m) ?_ ?_
        ·simp (disch:=omega) only [go_sem,seval];refine (Yi t.drive 1 4096).use ?_;simp (disch:=omega) only [go_sem,seval];refine gF ?_ ?_<;>intro h0<;>simp (disch:=omega) only [Sh.out h0,go_sem,seval]
         ·simp only [Bool.not_eq_true'] at h0;exact ⟨m++ [16],hm.yes (by simp [h0]) trivial,Weak.mk (by simp (disch:=omega) only [Zx,Xg,go_sem,seval])⟩
         ·simp only [Bool.not_eq_false'] at h0;refine (Yi t.rest 0 4096).use ?_;simp (disch:=omega) only [go_sem,seval];refine cD ?_ ?_<;>intro h1<;>simp (disch:=omega) only [Sh.out h1,go_sem,seval]
          ·simp only [Bool.not_eq_true'] at h1;exact ⟨m++ [16],hm.yes (by simp [h1]) trivial,Weak.mk (by simp (disch:=omega) only [Zx,Xg,go_sem,seval])⟩
          ·simp only [Bool.not_eq_false'] at h1;exact ⟨m,hm.no (by simp [h0,h1]),Weak.mk (by simp (disch:=omega) only [Zx,Xg,go_sem,seval])⟩
        ·clear hm hml;intro m hm;refine Zc [19] _ _ _ _ ?_;simp (disch:=omega) only [Zx,Xg,go_sem,seval];have hml:=hm.len;refine Zm [] (fun m:List Int=> [(8,.sl 2 0 m.length m.length)]) (fun m=>Zx n++ [Xg t,.elems 1 (m.map eI)]) (fun m=>FR (fun _=>True) (((((((((nameOk t.name=true)/\(∀j,j<i->(nth l j).name≠t.name))/\rng t.count 0 10=true)/\(rng t.src 0 (n.places.length-1)=true/\rng t.dst 0 (n.places.length-1)=true))/\WC t.cap (dimsOf l)=true)/\rng t.skills 0 1073741823=true)/\(rng t.opn 0 t.cls=true/\t.cls<=4096))/\(rng t.drive 1 4096=true/\rng t.rest 0 4096=true))/\(rng t.prof 0 7=true/\rng t.fixed 0 100000=true/\rng t.perMile 0 100=true/\rng t.perTick 0 100=true)) 9 m) ?_ ?_
         ·simp (disch:=omega) only [go_sem,seval];refine (Yi t.prof 0 7).use ?_;simp (disch:=omega) only [go_sem,seval];refine gF ?_ ?_<;>intro h0<;>simp (disch:=omega) only [Sh.out h0,go_sem,seval]
          ·simp only [Bool.not_eq_true'] at h0;exact ⟨m++ [2],hm.yes (by simp [h0]) trivial,Weak.mk (by simp (disch:=omega) only [Zx,Xg,go_sem,seval])⟩
          ·simp only [Bool.not_eq_false'] at h0;refine (Yi t.fixed 0 100000).use ?_;simp (disch:=omega) only [go_sem,seval];refine gF ?_ ?_<;>intro h1<;>simp (disch:=omega) only [Sh.out h1,go_sem,seval]
           ·simp only [Bool.not_eq_true'] at h1;exact ⟨m++ [2],hm.yes (by simp [h1]) trivial,Weak.mk (by simp (disch:=omega) only [Zx,Xg,go_sem,seval])⟩
           ·simp only [Bool.not_eq_false'] at h1;refine (Yi t.perMile 0 100).use ?_;simp (disch:=omega) only [go_sem,seval];refine gF ?_ ?_<;>intro h2<;>simp (disch:=omega) only [Sh.out h2,go_sem,seval]
            ·simp only [Bool.not_eq_true'] at h2;exact ⟨m++ [2],hm.yes (by simp [h2]) trivial,Weak.mk (by simp (disch:=omega) only [Zx,Xg,go_sem,seval])⟩
            ·simp only [Bool.not_eq_false'] at h2;refine (Yi t.perTick 0 100).use ?_;simp (disch:=omega) only [go_sem,seval];refine cD ?_ ?_<;>intro h3<;>simp (disch:=omega) only [Sh.out h3,go_sem,seval]
             ·simp only [Bool.not_eq_true'] at h3;exact ⟨m++ [2],hm.yes (by simp [h3]) trivial,Weak.mk (by simp (disch:=omega) only [Zx,Xg,go_sem,seval])⟩
             ·simp only [Bool.not_eq_false'] at h3;exact ⟨m,hm.no (by simp [h0,h1,h2,h3]),Weak.mk (by simp (disch:=omega) only [Zx,Xg,go_sem,seval])⟩
         ·clear hm hml;intro m hm;refine Zc [] _ _ _ _ ?_;simp (disch:=omega) only [Zx,Xg,go_sem,seval];have hml:=hm.len;exact ⟨m,hm.to (by omega) (by rw [hty]),2,by simp (disch:=omega) only [Zx,Xg,go_sem,seval]⟩
def typesOk (n:Net) (l:List Typ):Prop:=rng l.length 1 6=true/\ ∀i,i<l.length->QR n l i
theorem ZqS (n:Net) (l:List Typ) (c:Bool) (hw:n.wf 1048576) (hl:l.length<=1048576) (hlw: ∀t∈l,t.wf 1048576) :
  ACalls Tryz.prog 128 [.p (ZaQ n),.p (.list c (l.map VK))] [] fun x H'=> ∃m:List Flt,FR (pF 20) (typesOk n l) (1+9*l.length) m/\x= .sl 0 0 m.length m.length/\H'= [.elems 2 (m.map eF)]:=by
 refine ZA [2] Tryz.func128 rfl ZpQ ?_;simp (disch:=omega) only [Tryz.f128,go_sem,seval];refine Zs (Weak.ofNil 5 2 (by simp (disch:=omega) only [go_sem,seval]) (by simp) (Weak.refl _ _ _)) ?_;refine Zm [1,2] (fun m:List Flt=> [(5,.sl 1 0 m.length m.length)]) (fun m=>Zx n++ [.elems 2 (m.map eF)]) (fun m=>FR (pF 20) (rng l.length 1 6=true) 1 m) ?_ ?_
 ·simp (disch:=omega) only [go_sem,seval];refine (Yi l.length 1 6).use ?_;simp (disch:=omega) only [go_sem,seval];refine cD ?_ ?_<;>intro h<;>simp (disch:=omega) only [Sh.out h,go_sem,seval]
  ·simp only [Bool.not_eq_true'] at h;exact ⟨[(4,[])],⟨by simp,by simp [h],by simp [pF]⟩,Weak.mk (by simp (disch:=omega) only [Zx,go_sem,seval])⟩
  ·simp only [Bool.not_eq_false'] at h;exact ⟨[],FR.nil h,Weak.mk (by simp (disch:=omega) only [Zx,go_sem,seval])⟩
 ·intro m hm;refine Zc [] _ _ _ _ ?_;simp (disch:=omega) only [Zx,go_sem,seval];refine Zg [1,2] (fun q:Nat×List Flt=> [(5,.sl 1 0 q.2.length q.2.length),(6,.p (.int .i64 q.1))]) (fun q=>Zx n++ [.elems 2 (q.2.map eF)]) (fun q=>q.1<=l.length/\FR (pF 20) (rng l.length 1 6=true/\ ∀j,j<q.1->QR n l j) (1+9*q.1) q.2) (fun q=>l.length-q.1) (0,m) ⟨by simp,hm.to (by simp) (by simp)⟩ (Weak.mk ?_) ?_
  ·simp (disch:=omega) only [Zx,go_sem,seval]
  ·clear hm;rintro ⟨k,m⟩ ⟨hk,hm⟩;simp only at hk hm;have hml:=hm.len;simp (disch:=omega) only [Zx,go_sem,seval];refine cD ?_ ?_<;>intro h<;>simp (disch:=omega) only [Sh.out h,go_sem,seval]
   ·have hk2:k<l.length:=by omega
    have hI:I64 (k:Int):=by omega
    have hdl:=Wj k hI;refine ((Zfr n l c k hk2 hl hw (hlw _ (Zl hk2))).frozenE).useV fun e he=> ?_;simp (disch:=omega) only [go_sem,seval];have hel:=he.len;refine Zg [1,2,6,7] (fun q:Nat×List Flt=> [(5,.sl 1 0 q.2.length q.2.length),(8,.p (.int .i64 q.1))]) (fun q=>Zx n++ [.elems 2 (q.2.map eF)]) (fun q=>q.1<=e.length/\FR (pF 20) ((rng l.length 1 6=true/\ ∀j,j<k->QR n l j)/\q.1=0) (1+9*k+q.1) q.2) (fun q=>e.length-q.1) (0,m) ⟨by simp,hm.to (by simp) (by simp)⟩ (Weak.mk ?_) ?_
    ·simp (disch:=omega) only [Zx,go_sem,seval]
    ·clear hm hml;rintro ⟨j,m⟩ ⟨hj,hm⟩;simp only at hj hm;have hml:=hm.len;simp (disch:=omega) only [Zx,go_sem,seval];refine cD ?_ ?_<;>intro h2<;>simp (disch:=omega) only [Sh.out h2,go_sem,seval]
     ·have hj2:j<e.length:=by omega
      refine Zy 9 Zp (by kernel_rfl) (by kernel_rfl) ?_;simp (disch:=omega) only [go_sem,seval];refine Zn (VA k hI) ?_;simp (disch:=omega) only [go_sem,seval];exact ⟨(j+1,m++ [(nth e j,KN k)]),⟨by simp only;omega,(hm.yes (c:=False) (by simp) (by simpa [pF] using hdl)).to (by simp only;omega) (by simp)⟩,by simp only;omega,Weak.mk (by simp (disch:=omega) only [Zx,go_sem,seval])⟩
     ·have hjl:j=e.length:=by omega
      subst hjl;exact ⟨(k+1,m),⟨by simp only;omega,hm.to (by simp only;omega) (by simp only [Ze,and_assoc];rw [<- he.emp,List.eq_nil_iff_length_eq_zero])⟩,by simp only;omega,Weak.mk (by simp (disch:=omega) only [Zx,go_sem,seval])⟩
   ·have hkn:k=l.length:=by omega
    subst hkn;exact ⟨m,hm.to (by omega) (by rw [typesOk]),1,by simp (disch:=omega) only [Zx,go_sem,seval]⟩
theorem JM (n lo hi:Int):PC 233 [.p (.int .i64 n),.p (.int .i64 lo),.p (.int .i64 hi)] (.bool (rng n lo hi)):=by
 refine Za Tryz.func233 rfl ZlY ?_;simp (disch:=omega) only [Tryz.f233,go_sem,seval];refine gT ?_ ?_<;>intro h<;>simp (disch:=omega) only [Sh.out h,go_sem,seval]
 all_goals (simp [rng];first | done | omega | (rw [Bool.eq_iff_iff];simp;omega))
def loadOk (l:List Int) (d:Int):Bool:=decide ((l.length:Int)=d)&&l.all fun n=>rng n 0 1000
theorem ZdM (l:List Int) (c:Bool) (d:Int) (hl:l.length<=1048576):PC 232 [.p (.list c (l.map eI)),.p (.int .i64 d)] (.bool (loadOk l d)):=by
 refine Za Tryz.func232 rfl Zrl ?_;simp (disch:=omega) only [Tryz.f232,go_sem,seval];refine cD ?_ ?_<;>intro h2<;>simp (disch:=omega) only [Sh.out h2,go_sem,seval]
 ·simp [loadOk,h2]
 ·simp only [Classical.not_not] at h2;subst h2;refine Zg [0] (fun k:Nat=> [(5,.p (.int .i64 k))]) (fun _=> []) (fun k=>k<=l.length/\ ∀j,j<k->rng (nth l j) 0 1000=true) (fun k=>l.length-k) 0 (by simp) (Weak.mk ?_) ?_
  ·simp (disch:=omega) only [go_sem,seval]
  ·rintro k ⟨hk,hno⟩;simp (disch:=omega) only [go_sem,seval];refine cD ?_ ?_<;>intro h3<;>simp (disch:=omega) only [Sh.out h3,go_sem,seval]
   ·have hk2:k<l.length:=by omega
    have hbad:rng (nth l k) 0 1000=false->loadOk l l.length=false:=fun h4=>by
     have:l.all (fun n=>rng n 0 1000)=false:=by
      rw [List.all_eq_false];exact ⟨nth l k,Zl hk2,by rw [h4];simp⟩
     simp [loadOk,this]
    repeat' (first | (refine ZR (fun hq=> ?_) (fun hq=> ?_)<;>(try simp only [decide_eq_true_eq,decide_eq_false_iff_not,Classical.not_not] at hq)<;>simp (disch:=omega) only [Sh.out hq,go_sem,seval]) | (refine ZS (fun hq=> ?_) (fun hq=> ?_)<;>(try simp only [decide_eq_true_eq,decide_eq_false_iff_not,Classical.not_not] at hq)<;>simp (disch:=omega) only [Sh.out hq,go_sem,seval]) | (refine Z9 (fun hq=> ?_) (fun hq=> ?_)<;>(try simp only [decide_eq_true_eq,decide_eq_false_iff_not,Classical.not_not] at hq)<;>simp (disch:=omega) only [Sh.out hq,go_sem,seval]))
    all_goals first
     | (rw [hbad (by simp [rng];omega)])
     | exact ⟨k+1,⟨by omega,Ze.2 ⟨hno,by simp [rng];omega⟩⟩,by omega,wk⟩
   ·have:l.all (fun n=>rng n 0 1000)=true:=by
     rw [List.all_eq_true];intro x hx;obtain ⟨j,hj,rfl⟩:=List.mem_iff_getElem.1 hx;rw [<- Zf hj];exact hno j (by omega)
    simp [loadOk,this]
def stpOk (s:Stp):Bool:=decide ((s.place= -1/\s.opn=0/\s.cls=0/\s.serv=0)\/(0<=s.place/\0<=s.opn/\s.opn<=s.cls/\s.cls<=4096/\0<=s.serv/\s.serv<=4096))
def ZlJ (s:Stp):Int:=if stpOk s=true then 0 else 2
theorem ZhY (s:Stp):PC 234 [.p (ZfS s)] (.int .i64 (ZlJ s)):=by
 refine Za Tryz.func234 rfl ZoC ?_;simp (disch:=omega) only [Tryz.f234,go_sem,seval]
 repeat' (first | (refine ZR (fun hq=> ?_) (fun hq=> ?_)<;>(try simp only [decide_eq_true_eq,decide_eq_false_iff_not,Classical.not_not] at hq)<;>simp (disch:=omega) only [Sh.out hq,go_sem,seval]) | (refine ZS (fun hq=> ?_) (fun hq=> ?_)<;>(try simp only [decide_eq_true_eq,decide_eq_false_iff_not,Classical.not_not] at hq)<;>simp (disch:=omega) only [Sh.out hq,go_sem,seval]) | (refine Z9 (fun hq=> ?_) (fun hq=> ?_)<;>(try simp only [decide_eq_true_eq,decide_eq_false_iff_not,Classical.not_not] at hq)<;>simp (disch:=omega) only [Sh.out hq,go_sem,seval]))
 all_goals (simp only [ZlJ,stpOk,decide_eq_true_eq])
 all_goals first
  | (exfalso;omega)
  | (rw [if_pos (by omega)])
  | (rw [if_neg (by omega)])
def Xx (l:List Ord) (i:Nat):Bool:=(List.range i).all fun j=>decide ((nth l j).name≠(nth l i).name)
theorem WH {l:List Ord} {i:Nat} :Xx l i=true↔ ∀j,j<i->(nth l j).name≠(nth l i).name:=by simp [Xx]
def sel (b:Bool) (e:Int):List Int:=if b=true then [] else [e]
theorem YJ (b:Bool) (e:Int):(sel b e).length<=1:=by unfold sel;split<;>simp
theorem Y0 {b:Bool} {e:Int} {m p:List Int} (h:m=p) (hb:b=true):m=p++sel b e:=by simp [sel,hb,h]
theorem YS {b:Bool} {e:Int} {m p:List Int} (h:m=p) (hb:b=false):m++ [e]=p++sel b e:=by simp [sel,hb,h]
def Ye (t:Ord):AM.Obj:= .cells [.p (.str t.name),.p (.list t.load_c (t.load.map eI)),.p (.int .i64 t.pick.place),.p (.int .i64 t.pick.opn),.p (.int .i64 t.pick.cls),.p (.int .i64 t.pick.serv),.p (.int .i64 t.drp.place),.p (.int .i64 t.drp.opn),.p (.int .i64 t.drp.cls),.p (.int .i64 t.drp.serv),.p (.int .i64 t.skills),.p (.int .i64 t.penalty),.p (.int .i64 t.split),.p (.int .i64 t.last),.p (.int .i64 t.now),.p (.bool t.off)]
def Zbr (t:Ord):Bool:=decide (t.pick.place≠ -1)&&decide (t.drp.place≠ -1)
def argOk (t:Ord) (ty:Int):Bool:=rng t.penalty (-1) 1000000&&rng t.split 1 4&&decide (¬(1<t.split/\Zbr t=true)/\ -1<=t.last/\t.last<ty/\ -1<=t.now/\t.now<ty)
def Xs (np:Nat) (d ty:Int) (l:List Ord) (i:Nat):List Int:=sel (nameOk (nth l i).name) 5++sel (Xx l i) 6++sel (loadOk (nth l i).load d) 17++sel ((rng (nth l i).pick.place (-1) ((np:Int)-1)&&rng (nth l i).drp.place (-1) ((np:Int)-1))) 11++sel (decide (¬((nth l i).pick.place= -1/\(nth l i).drp.place= -1))) 19++sel ((stpOk (nth l i).pick&&stpOk (nth l i).drp)) 14++sel (rng (nth l i).skills 0 1073741823) 18++sel (argOk (nth l i) ty) 2
theorem VV (np:Nat) (d ty:Int) (l:List Ord) (i:Nat):(Xs np d ty l i).length<=8:=by
 have h:=YJ;simp only [Xs,List.length_append];have h1:=fun b=>h b 5;have h2:=fun b=>h b 6;have h3:=fun b=>h b 17;have h4:=fun b=>h b 11;have h5:=fun b=>h b 19;have h6:=fun b=>h b 14;have h7:=fun b=>h b 18;have h8:=fun b=>h b 2;have a1:=h1 (nameOk (nth l i).name);have a2:=h2 (Xx l i);have a3:=h3 (loadOk (nth l i).load d);have a4:=h4 (rng (nth l i).pick.place (-1) ((np:Int)-1)&&rng (nth l i).drp.place (-1) ((np:Int)-1));have a5:=h5 (decide (¬((nth l i).pick.place= -1/\(nth l i).drp.place= -1)));have a6:=h6 (stpOk (nth l i).pick&&stpOk (nth l i).drp)
 have a7:=h7 (rng (nth l i).skills 0 1073741823);have a8:=h8 (argOk (nth l i) ty);omega
theorem Zei (np:Nat) (d ty:Int) (l:List Ord) (c:Bool) (i:Nat) (hi:i<l.length) (hl:l.length<=1048576) (hnp:np<=1048576) (ht:(nth l i).wf 1048576) :
  ACalls Tryz.prog 176 [.p (.int .i64 (np:Nat)),.p (.int .i64 d),.p (.int .i64 ty),.p (.list c (l.map WK)),.p (.int .i64 (i:Nat))] [] fun x H'=>x= .sl 0 0 (Xs np d ty l i).length (Xs np d ty l i).length/\H'= [.elems 1 ((Xs np d ty l i).map eI)]:=by
 suffices hh:ACalls Tryz.prog 176 [.p (.int .i64 (np:Nat)),.p (.int .i64 d),.p (.int .i64 ty),.p (.list c (l.map WK)),.p (.int .i64 (i:Nat))] [] fun x H'=> ∃m:List Int,m=Xs np d ty l i/\x= .sl 0 0 m.length m.length/\H'= [.elems 1 (m.map eI)] by
  refine hh.mono ?_;rintro x H' ⟨m,rfl,h1,h2⟩;exact ⟨h1,h2⟩
 refine ZA [3] Tryz.func176 rfl ZoU ?_;simp (disch:=omega) only [Tryz.f176,go_sem,seval];have hty:Xs np d ty l i=sel (nameOk (nth l i).name) 5++sel (Xx l i) 6++sel (loadOk (nth l i).load d) 17++sel ((rng (nth l i).pick.place (-1) ((np:Int)-1)&&rng (nth l i).drp.place (-1) ((np:Int)-1))) 11++sel (decide (¬((nth l i).pick.place= -1/\(nth l i).drp.place= -1))) 19++sel ((stpOk (nth l i).pick&&stpOk (nth l i).drp)) 14++sel (rng (nth l i).skills 0 1073741823) 18++sel (argOk (nth l i) ty) 2:=rfl
 have hleng: ∀m:List Int,∀p:List Int,m=p->p.length<=8->m.length<=8:=fun m p h1 h2=>by rw [h1];exact h2
 generalize hga:nth l i=t at ht hty ⊢;have hname:=ht.1;have hload:=ht.2.1;refine Zs (Weak.ofNil 11 1 (by simp (disch:=omega) only [go_sem,seval]) (by simp) (Weak.refl _ _ _)) ?_;refine Zm [0,1,2,3,4,12] (fun m:List Int=> [(11,.sl 1 0 m.length m.length)]) (fun m=> [Ye t,.elems 1 (m.map eI)]) (fun m=>m=sel (nameOk t.name) 5) ?_ ?_
 ·simp (disch:=omega) only [go_sem,seval];refine (Zen t.name hname).use ?_;simp (disch:=omega) only [go_sem,seval];refine cD ?_ ?_<;>intro h<;>simp (disch:=omega) only [Sh.out h,go_sem,seval]
  ·simp only [Bool.not_eq_true'] at h;exact ⟨[5],by simp [sel,h],Weak.mk (by simp (disch:=omega) only [Ye,go_sem,seval])⟩
  ·simp only [Bool.not_eq_false'] at h;exact ⟨[],by simp [sel,h],Weak.mk (by simp (disch:=omega) only [Ye,go_sem,seval])⟩
 ·skip
  intro m hm;refine Zc [5] _ _ _ _ ?_;simp (disch:=omega) only [Ye,go_sem,seval]
  have hml:m.length<=8:=by
   rw [hm]
   try simp only [List.length_append]
   have h:=YJ;have a0:=h (nameOk t.name) 5;omega
  refine Zm [0,1,2,12] (fun m:List Int=> [(11,.sl 1 0 m.length m.length)]) (fun m=> [Ye t,.elems 1 (m.map eI)]) (fun m=>m=sel (nameOk t.name) 5++sel (Xx l i) 6) ?_ ?_
  ·simp (disch:=omega) only [go_sem,seval];refine Zg [0,1,2,3,4,11,12] (fun k:Nat=> [(13,.p (.int .i64 k))]) (fun _=> [Ye t,.elems 1 (m.map eI)]) (fun k=>k<=i/\ ∀j,j<k->(nth l j).name≠(nth l i).name) (fun k=>i-k) 0 (by simp) (Weak.mk ?_) ?_
   ·simp (disch:=omega) only [Ye,go_sem,seval]
   ·rintro k ⟨hk,hno⟩;simp (disch:=omega) only [Ye,go_sem,seval];refine cD ?_ ?_<;>intro h3<;>simp (disch:=omega) only [Sh.out h3,go_sem,seval]
    ·have hk2:k<l.length:=by omega
     refine Zh Zp (by kernel_rfl) (by kernel_rfl) ?_;simp (disch:=omega) only [go_sem,seval];refine cD ?_ ?_<;>intro h4<;>simp (disch:=omega) only [Sh.out h4,go_sem,seval]
     ·exact ⟨m++ [6],YS hm (by cases hq:Xx l i with | false=>rfl | true=>exact absurd (by rw [hga];exact h4) (WH.1 hq k (by omega))),Weak.mk (by simp (disch:=omega) only [Ye,go_sem,seval])⟩
     ·exact ⟨k+1,⟨by omega,Ze.2 ⟨hno,by rw [hga];exact h4⟩⟩,by omega,Weak.mk (by simp (disch:=omega) only [Ye,go_sem,seval])⟩
    ·have hki:k=i:=by omega
     subst hki;exact ⟨m,Y0 hm (WH.2 hno),Weak.mk (by simp (disch:=omega) only [Ye,go_sem,seval])⟩
  ·clear hm hml;intro m hm;refine Zc [10] _ _ _ _ ?_;simp (disch:=omega) only [Ye,go_sem,seval]
   have hml:m.length<=8:=by
    rw [hm]
    try simp only [List.length_append]
    have h:=YJ;have a0:=h (nameOk t.name) 5;have a1:=h (Xx l i) 6;omega
   refine Zm [0,2,12] (fun m:List Int=> [(11,.sl 1 0 m.length m.length)]) (fun m=> [Ye t,.elems 1 (m.map eI)]) (fun m=>m=sel (nameOk t.name) 5++sel (Xx l i) 6++sel (loadOk t.load d) 17) ?_ ?_
   ·simp (disch:=omega) only [go_sem,seval];refine (ZdM t.load t.load_c d hload).use ?_;simp (disch:=omega) only [go_sem,seval];refine cD ?_ ?_<;>intro h<;>simp (disch:=omega) only [Sh.out h,go_sem,seval]
    ·simp only [Bool.not_eq_true'] at h;exact ⟨m++ [17],YS hm (h),Weak.mk (by simp (disch:=omega) only [Ye,go_sem,seval])⟩
    ·simp only [Bool.not_eq_false'] at h;exact ⟨m,Y0 hm (h),Weak.mk (by simp (disch:=omega) only [Ye,go_sem,seval])⟩
   ·clear hm hml;intro m hm;refine Zc [12] _ _ _ _ ?_;simp (disch:=omega) only [Ye,go_sem,seval]
    have hml:m.length<=8:=by
     rw [hm]
     try simp only [List.length_append]
     have h:=YJ;have a0:=h (nameOk t.name) 5;have a1:=h (Xx l i) 6;have a2:=h (loadOk t.load d) 17;omega
    refine Zm [2,12] (fun m:List Int=> [(11,.sl 1 0 m.length m.length)]) (fun m=> [Ye t,.elems 1 (m.map eI)]) (fun m=>m=sel (nameOk t.name) 5++sel (Xx l i) 6++sel (loadOk t.load d) 17++sel ((rng t.pick.place (-1) ((np:Int)-1)&&rng t.drp.place (-1) ((np:Int)-1))) 11) ?_ ?_
    ·simp (disch:=omega) only [go_sem,seval];refine (JM t.pick.place (-1) ((np:Int)-1)).use ?_;simp (disch:=omega) only [go_sem,seval];refine gF ?_ ?_<;>intro h<;>simp (disch:=omega) only [Sh.out h,go_sem,seval]
     ·simp only [Bool.not_eq_true'] at h;exact ⟨m++ [11],YS hm (by simp [h]),Weak.mk (by simp (disch:=omega) only [Ye,go_sem,seval])⟩
     ·simp only [Bool.not_eq_false'] at h;refine (JM t.drp.place (-1) ((np:Int)-1)).use ?_;simp (disch:=omega) only [go_sem,seval];refine cD ?_ ?_<;>intro h2<;>simp (disch:=omega) only [Sh.out h2,go_sem,seval]
      ·simp only [Bool.not_eq_true'] at h2;exact ⟨m++ [11],YS hm (by simp [h2]),Weak.mk (by simp (disch:=omega) only [Ye,go_sem,seval])⟩
      ·simp only [Bool.not_eq_false'] at h2;exact ⟨m,Y0 hm (by simp [h,h2]),Weak.mk (by simp (disch:=omega) only [Ye,go_sem,seval])⟩
    ·clear hm hml;intro m hm;refine Zc [14] _ _ _ _ ?_;simp (disch:=omega) only [Ye,go_sem,seval]
     have hml:m.length<=8:=by
      rw [hm]
      try simp only [List.length_append]
      have h:=YJ;have a0:=h (nameOk t.name) 5;have a1:=h (Xx l i) 6;have a2:=h (loadOk t.load d) 17;have a3:=h ((rng t.pick.place (-1) ((np:Int)-1)&&rng t.drp.place (-1) ((np:Int)-1))) 11;omega
     refine Zm [2,12] (fun m:List Int=> [(11,.sl 1 0 m.length m.length)]) (fun m=> [Ye t,.elems 1 (m.map eI)]) (fun m=>m=sel (nameOk t.name) 5++sel (Xx l i) 6++sel (loadOk t.load d) 17++sel ((rng t.pick.place (-1) ((np:Int)-1)&&rng t.drp.place (-1) ((np:Int)-1))) 11++sel (decide (¬(t.pick.place= -1/\t.drp.place= -1))) 19) ?_ ?_
     ·simp (disch:=omega) only [go_sem,seval]
      repeat' (first | (refine ZR (fun hq=> ?_) (fun hq=> ?_)<;>(try simp only [decide_eq_true_eq,decide_eq_false_iff_not,Classical.not_not] at hq)<;>simp (disch:=omega) only [Sh.out hq,go_sem,seval]) | (refine ZS (fun hq=> ?_) (fun hq=> ?_)<;>(try simp only [decide_eq_true_eq,decide_eq_false_iff_not,Classical.not_not] at hq)<;>simp (disch:=omega) only [Sh.out hq,go_sem,seval]) | (refine Z9 (fun hq=> ?_) (fun hq=> ?_)<;>(try simp only [decide_eq_true_eq,decide_eq_false_iff_not,Classical.not_not] at hq)<;>simp (disch:=omega) only [Sh.out hq,go_sem,seval]))
      all_goals first
       | exact ⟨m++ [19],YS hm (by first | (simp;done) | (simp;omega)),Weak.mk (by simp (disch:=omega) only [Ye,go_sem,seval])⟩
       | exact ⟨m,Y0 hm (by first | (simp;done) | (simp;omega)),Weak.mk (by simp (disch:=omega) only [Ye,go_sem,seval])⟩
     ·clear hm hml;intro m hm;refine Zc [16] _ _ _ _ ?_;simp (disch:=omega) only [Ye,go_sem,seval]
      have hml:m.length<=8:=by
       rw [hm]
       try simp only [List.length_append]
       have h:=YJ;have a0:=h (nameOk t.name) 5;have a1:=h (Xx l i) 6;have a2:=h (loadOk t.load d) 17;have a3:=h ((rng t.pick.place (-1) ((np:Int)-1)&&rng t.drp.place (-1) ((np:Int)-1))) 11;have a4:=h (decide (¬(t.pick.place= -1/\t.drp.place= -1))) 19;omega
      refine Zm [2,12] (fun m:List Int=> [(11,.sl 1 0 m.length m.length)]) (fun m=> [Ye t,.elems 1 (m.map eI)]) (fun m=>m=sel (nameOk t.name) 5++sel (Xx l i) 6++sel (loadOk t.load d) 17++sel ((rng t.pick.place (-1) ((np:Int)-1)&&rng t.drp.place (-1) ((np:Int)-1))) 11++sel (decide (¬(t.pick.place= -1/\t.drp.place= -1))) 19++sel ((stpOk t.pick&&stpOk t.drp)) 14) ?_ ?_
      ·simp (disch:=omega) only [go_sem,seval];refine (ZhY t.pick).use ?_;simp (disch:=omega) only [go_sem,seval]
       cases h:stpOk t.pick with
       | false =>
        simp (disch:=omega) only [ZlJ,h,go_sem,seval];exact ⟨m++ [14],YS hm (by simp [h]),Weak.mk (by simp (disch:=omega) only [Ye,go_sem,seval])⟩
       | true =>
        simp (disch:=omega) only [ZlJ,h,go_sem,seval];refine (ZhY t.drp).use ?_;simp (disch:=omega) only [go_sem,seval]
        cases h2:stpOk t.drp with
        | false =>
         simp (disch:=omega) only [ZlJ,h2,go_sem,seval];exact ⟨m++ [14],YS hm (by simp [h2]),Weak.mk (by simp (disch:=omega) only [Ye,go_sem,seval])⟩
        | true =>
         simp (disch:=omega) only [ZlJ,h2,go_sem,seval];exact ⟨m,Y0 hm (by simp [h,h2]),Weak.mk (by simp (disch:=omega) only [Ye,go_sem,seval])⟩
      ·clear hm hml;intro m hm;refine Zc [18] _ _ _ _ ?_;simp (disch:=omega) only [Ye,go_sem,seval]
       have hml:m.length<=8:=by
        rw [hm]
        try simp only [List.length_append]
        have h:=YJ;have a0:=h (nameOk t.name) 5;have a1:=h (Xx l i) 6;have a2:=h (loadOk t.load d) 17;have a3:=h ((rng t.pick.place (-1) ((np:Int)-1)&&rng t.drp.place (-1) ((np:Int)-1))) 11;have a4:=h (decide (¬(t.pick.place= -1/\t.drp.place= -1))) 19;have a5:=h ((stpOk t.pick&&stpOk t.drp)) 14;omega
       refine Zm [2,12] (fun m:List Int=> [(11,.sl 1 0 m.length m.length)]) (fun m=> [Ye t,.elems 1 (m.map eI)]) (fun m=>m=sel (nameOk t.name) 5++sel (Xx l i) 6++sel (loadOk t.load d) 17++sel ((rng t.pick.place (-1) ((np:Int)-1)&&rng t.drp.place (-1) ((np:Int)-1))) 11++sel (decide (¬(t.pick.place= -1/\t.drp.place= -1))) 19++sel ((stpOk t.pick&&stpOk t.drp)) 14++sel (rng t.skills 0 1073741823) 18) ?_ ?_
       ·simp (disch:=omega) only [go_sem,seval];refine (JM t.skills 0 1073741823).use ?_;simp (disch:=omega) only [go_sem,seval];refine cD ?_ ?_<;>intro h<;>simp (disch:=omega) only [Sh.out h,go_sem,seval]
        ·simp only [Bool.not_eq_true'] at h;exact ⟨m++ [18],YS hm (h),Weak.mk (by simp (disch:=omega) only [Ye,go_sem,seval])⟩
        ·simp only [Bool.not_eq_false'] at h;exact ⟨m,Y0 hm (h),Weak.mk (by simp (disch:=omega) only [Ye,go_sem,seval])⟩
       ·clear hm hml;intro m hm;refine Zc [20] _ _ _ _ ?_;simp (disch:=omega) only [Ye,go_sem,seval]
        have hml:m.length<=8:=by
         rw [hm]
         try simp only [List.length_append]
         have h:=YJ;have a0:=h (nameOk t.name) 5;have a1:=h (Xx l i) 6;have a2:=h (loadOk t.load d) 17;have a3:=h ((rng t.pick.place (-1) ((np:Int)-1)&&rng t.drp.place (-1) ((np:Int)-1))) 11;have a4:=h (decide (¬(t.pick.place= -1/\t.drp.place= -1))) 19;have a5:=h ((stpOk t.pick&&stpOk t.drp)) 14;have a6:=h (rng t.skills 0 1073741823) 18;omega
        refine Zm [2,11,12] (fun b:Bool=> [(14,.p (.bool b))]) (fun _=> [Ye t,.elems 1 (m.map eI)]) (fun b=>b=Zbr t) ?_ ?_
        ·simp (disch:=omega) only [go_sem,seval]
         repeat' (first | (refine ZR (fun hq=> ?_) (fun hq=> ?_)<;>(try simp only [decide_eq_true_eq,decide_eq_false_iff_not,Classical.not_not] at hq)<;>simp (disch:=omega) only [Sh.out hq,go_sem,seval]) | (refine ZS (fun hq=> ?_) (fun hq=> ?_)<;>(try simp only [decide_eq_true_eq,decide_eq_false_iff_not,Classical.not_not] at hq)<;>simp (disch:=omega) only [Sh.out hq,go_sem,seval]) | (refine Z9 (fun hq=> ?_) (fun hq=> ?_)<;>(try simp only [decide_eq_true_eq,decide_eq_false_iff_not,Classical.not_not] at hq)<;>simp (disch:=omega) only [Sh.out hq,go_sem,seval]))
         all_goals refine ⟨Zbr t,rfl,Weak.mk ?_⟩
         all_goals (simp (disch:=omega) only [Ye,go_sem,seval];simp [Zbr, *])
        ·rintro b hb;refine Zc [21] _ _ _ _ ?_;simp (disch:=omega) only [Ye,go_sem,seval];refine Zm [] (fun m:List Int=> [(11,.sl 1 0 m.length m.length)]) (fun m=> [Ye t,.elems 1 (m.map eI)]) (fun m=>m=sel (nameOk t.name) 5++sel (Xx l i) 6++sel (loadOk t.load d) 17++sel ((rng t.pick.place (-1) ((np:Int)-1)&&rng t.drp.place (-1) ((np:Int)-1))) 11++sel (decide (¬(t.pick.place= -1/\t.drp.place= -1))) 19++sel ((stpOk t.pick&&stpOk t.drp)) 14++sel (rng t.skills 0 1073741823) 18++sel (argOk t ty) 2) ?_ ?_
         ·simp (disch:=omega) only [go_sem,seval];refine (JM t.penalty (-1) 1000000).use ?_;simp (disch:=omega) only [go_sem,seval];refine gF ?_ ?_<;>intro h<;>simp (disch:=omega) only [Sh.out h,go_sem,seval]
          ·simp only [Bool.not_eq_true'] at h;exact ⟨m++ [2],YS hm (by simp [argOk,h]),Weak.mk (by simp (disch:=omega) only [Ye,go_sem,seval])⟩
          ·simp only [Bool.not_eq_false'] at h;refine (JM t.split 1 4).use ?_;simp (disch:=omega) only [go_sem,seval];refine gF ?_ ?_<;>intro h2<;>simp (disch:=omega) only [Sh.out h2,go_sem,seval]
           ·simp only [Bool.not_eq_true'] at h2;exact ⟨m++ [2],YS hm (by simp [argOk,h2]),Weak.mk (by simp (disch:=omega) only [Ye,go_sem,seval])⟩
           ·simp only [Bool.not_eq_false'] at h2
            cases b with
            | true =>
             repeat' (first | (refine ZR (fun hq=> ?_) (fun hq=> ?_)<;>(try simp only [decide_eq_true_eq,decide_eq_false_iff_not,Classical.not_not] at hq)<;>simp (disch:=omega) only [Sh.out hq,go_sem,seval]) | (refine ZS (fun hq=> ?_) (fun hq=> ?_)<;>(try simp only [decide_eq_true_eq,decide_eq_false_iff_not,Classical.not_not] at hq)<;>simp (disch:=omega) only [Sh.out hq,go_sem,seval]) | (refine Z9 (fun hq=> ?_) (fun hq=> ?_)<;>(try simp only [decide_eq_true_eq,decide_eq_false_iff_not,Classical.not_not] at hq)<;>simp (disch:=omega) only [Sh.out hq,go_sem,seval]))
             all_goals first
              | exact ⟨m++ [2],YS hm (by rw [argOk,<- hb];first | (simp;done) | (simp;omega)),Weak.mk (by simp (disch:=omega) only [Ye,go_sem,seval])⟩
              | exact ⟨m,Y0 hm (by rw [argOk,<- hb,h,h2];first | (simp;done) | (simp;omega)),Weak.mk (by simp (disch:=omega) only [Ye,go_sem,seval])⟩
            | false =>
             repeat' (first | (refine ZR (fun hq=> ?_) (fun hq=> ?_)<;>(try simp only [decide_eq_true_eq,decide_eq_false_iff_not,Classical.not_not] at hq)<;>simp (disch:=omega) only [Sh.out hq,go_sem,seval]) | (refine ZS (fun hq=> ?_) (fun hq=> ?_)<;>(try simp only [decide_eq_true_eq,decide_eq_false_iff_not,Classical.not_not] at hq)<;>simp (disch:=omega) only [Sh.out hq,go_sem,seval]) | (refine Z9 (fun hq=> ?_) (fun hq=> ?_)<;>(try simp only [decide_eq_true_eq,decide_eq_false_iff_not,Classical.not_not] at hq)<;>simp (disch:=omega) only [Sh.out hq,go_sem,seval]))
             all_goals first
              | exact ⟨m++ [2],YS hm (by rw [argOk,<- hb];first | (simp;done) | (simp;omega)),Weak.mk (by simp (disch:=omega) only [Ye,go_sem,seval])⟩
              | exact ⟨m,Y0 hm (by rw [argOk,<- hb,h,h2];first | (simp;done) | (simp;omega)),Weak.mk (by simp (disch:=omega) only [Ye,go_sem,seval])⟩
         ·clear hm hml;intro m hm;refine Zc [] _ _ _ _ ?_;simp (disch:=omega) only [Ye,go_sem,seval]
          have hml:m.length<=8:=by
           rw [hm]
           try simp only [List.length_append]
           have h:=YJ;have a0:=h (nameOk t.name) 5;have a1:=h (Xx l i) 6;have a2:=h (loadOk t.load d) 17;have a3:=h ((rng t.pick.place (-1) ((np:Int)-1)&&rng t.drp.place (-1) ((np:Int)-1))) 11;have a4:=h (decide (¬(t.pick.place= -1/\t.drp.place= -1))) 19;have a5:=h ((stpOk t.pick&&stpOk t.drp)) 14;have a6:=h (rng t.skills 0 1073741823) 18;have a7:=h (argOk t ty) 2;omega
          exact ⟨m,by rw [hm,hty],1,by simp (disch:=omega) only [Ye,go_sem,seval]⟩
def Z5 (np:Nat) (d ty:Int) (l:List Ord) (k:Nat):List Flt:=(if l.length<=10 then [] else [(4,[])])++(List.range k).flatMap fun i=>(Xs np d ty l i).map fun e=>(e,KN i)
theorem VR (np:Nat) (d ty:Int) (l:List Ord) (k:Nat):Z5 np d ty l (k+1)=Z5 np d ty l k++(Xs np d ty l k).map fun e=>(e,KN k):=by
 simp [Z5,List.range_succ]
theorem YG (np:Nat) (d ty:Int) (l:List Ord): ∀k,(Z5 np d ty l k).length<=1+8*k
 | 0=>by simp [Z5];split<;>simp
 | k+1=>by
  have h1:=YG np d ty l k;have h2:=VV np d ty l k;rw [VR];simp;omega
theorem Zm7 (n:Net) (d ty:Int) (l:List Ord) (c:Bool) (hw:n.wf 1048576) (hl:l.length<=1048576) (hlw: ∀t∈l,t.wf 1048576) :
  ACalls Tryz.prog 129 [.p (ZaQ n),.p (.int .i64 d),.p (.int .i64 ty),.p (.list c (l.map WK))] [] fun x H'=>x= .sl 0 0 (Z5 n.places.length d ty l l.length).length (Z5 n.places.length d ty l l.length).length/\H'= [.elems 2 ((Z5 n.places.length d ty l l.length).map eF)]:=by
 obtain ⟨w1,w2,w3,w4⟩:=hw
 suffices hh:ACalls Tryz.prog 129 [.p (ZaQ n),.p (.int .i64 d),.p (.int .i64 ty),.p (.list c (l.map WK))] [] fun x H'=> ∃m:List Flt,m=Z5 n.places.length d ty l l.length/\x= .sl 0 0 m.length m.length/\H'= [.elems 2 (m.map eF)] by
  refine hh.mono ?_;rintro x H' ⟨m,rfl,h1,h2⟩;exact ⟨h1,h2⟩
 refine ZA [2] Tryz.func129 rfl Zmi ?_;simp (disch:=omega) only [Tryz.f129,go_sem,seval];refine Zs (Weak.ofNil 9 2 (by simp (disch:=omega) only [go_sem,seval]) (by simp) (Weak.refl _ _ _)) ?_;refine Zm [1,2,3,4] (fun m:List Flt=> [(9,.sl 1 0 m.length m.length)]) (fun m=>Zx n++ [.elems 2 (m.map eF)]) (fun m=>m=Z5 n.places.length d ty l 0) ?_ ?_
 ·simp (disch:=omega) only [go_sem,seval];refine cD ?_ ?_<;>intro h<;>simp (disch:=omega) only [Sh.out h,go_sem,seval]
  ·exact ⟨[(4,[])],by rw [Z5,if_neg (by omega)];rfl,Weak.mk (by simp (disch:=omega) only [Zx,go_sem,seval])⟩
  ·exact ⟨[],by rw [Z5,if_pos (by omega)];rfl,Weak.mk (by simp (disch:=omega) only [Zx,go_sem,seval])⟩
 ·intro m hm;refine Zc [] _ _ _ _ ?_;simp (disch:=omega) only [Zx,go_sem,seval];refine Zg [1,2,3,4] (fun q:Nat×List Flt=> [(9,.sl 1 0 q.2.length q.2.length),(10,.p (.int .i64 q.1))]) (fun q=>Zx n++ [.elems 2 (q.2.map eF)]) (fun q=>q.1<=l.length/\q.2=Z5 n.places.length d ty l q.1) (fun q=>l.length-q.1) (0,m) ⟨by simp,hm⟩ (Weak.mk ?_) ?_
  ·simp (disch:=omega) only [Zx,go_sem,seval]
  ·clear hm;rintro ⟨k,m⟩ ⟨hk,hm⟩;simp only at hk hm;have hml:=YG n.places.length d ty l k;rw [<- hm] at hml;simp (disch:=omega) only [Zx,go_sem,seval];refine cD ?_ ?_<;>intro h<;>simp (disch:=omega) only [Sh.out h,go_sem,seval]
   ·have hk2:k<l.length:=by omega
    have hI:I64 (k:Int):=by omega
    have hrl:=VV n.places.length d ty l k;refine ((Zei n.places.length d ty l c k hk2 hl w1 (hlw _ (Zl hk2))).frozen (by simp)).use ?_;simp (disch:=omega) only [go_sem,seval];generalize hre:Xs n.places.length d ty l k=e at hrl ⊢;refine Zg [1,2,3,4,10,11] (fun q:Nat×List Flt=> [(9,.sl 1 0 q.2.length q.2.length),(12,.p (.int .i64 q.1))]) (fun q=>Zx n++ [.elems 2 (q.2.map eF)]) (fun q=>q.1<=e.length/\q.2=Z5 n.places.length d ty l k++(e.take q.1).map fun e=>(e,KN k)) (fun q=>e.length-q.1) (0,m) ⟨by simp,by simp [hm]⟩ (Weak.mk ?_) ?_
    ·simp (disch:=omega) only [Zx,go_sem,seval]
    ·clear hm hml;rintro ⟨j,m⟩ ⟨hj,hm⟩;simp only at hj hm;have hml:=YG n.places.length d ty l k
     have hml2:m.length<=1+8*k+8:=by rw [hm];simp;omega
     simp (disch:=omega) only [Zx,go_sem,seval];refine cD ?_ ?_<;>intro h2<;>simp (disch:=omega) only [Sh.out h2,go_sem,seval]
     ·have hj2:j<e.length:=by omega
      refine Zy 9 Zp (by kernel_rfl) (by kernel_rfl) ?_;simp (disch:=omega) only [go_sem,seval];refine Zn (VA k hI) ?_;simp (disch:=omega) only [go_sem,seval];refine ⟨(j+1,m++ [(nth e j,KN k)]),⟨by simp only;omega,?_⟩,by simp only;omega,Weak.mk (by simp (disch:=omega) only [Zx,go_sem,seval])⟩;simp only [hm,List.append_assoc];rw [List.take_succ_eq_append_getElem hj2,List.map_append,Zf hj2]
      rfl
     ·have hjl:j=e.length:=by omega
      subst hjl;refine ⟨(k+1,m),⟨by simp only;omega,?_⟩,by simp only;omega,Weak.mk (by simp (disch:=omega) only [Zx,go_sem,seval])⟩;simp only [hm,VR,hre,List.take_length]
   ·have hkn:k=l.length:=by omega
    subst hkn;exact ⟨m,hm,1,by simp (disch:=omega) only [Zx,go_sem,seval]⟩
structure OrdOk (np:Nat) (d ty:Int) (l:List Ord) (i:Nat):Prop where
 name:nameOk (nth l i).name=true
 twin: ∀j,j<i->(nth l j).name≠(nth l i).name
 load:loadOk (nth l i).load d=true
 pick: -1<=(nth l i).pick.place/\(nth l i).pick.place<np
 drp: -1<=(nth l i).drp.place/\(nth l i).drp.place<np
 one: ¬((nth l i).pick.place= -1/\(nth l i).drp.place= -1)
 pstp:stpOk (nth l i).pick=true
 dstp:stpOk (nth l i).drp=true
 skills:0<=(nth l i).skills/\(nth l i).skills<=1073741823
 arg:argOk (nth l i) ty=true
theorem ZkV {b:Bool} {e:Int} :sel b e= []↔b=true:=by unfold sel;split<;>simp_all
theorem JE {np:Nat} {d ty:Int} {l:List Ord} {i:Nat} :Xs np d ty l i= []↔OrdOk np d ty l i:=by
 simp only [Xs,List.append_eq_nil_iff,ZkV,Bool.and_eq_true,decide_eq_true_eq,rng,WH]
 constructor
 ·rintro ⟨⟨⟨⟨⟨⟨⟨a1,a2⟩,a3⟩,a4⟩,a5⟩,a6⟩,a7⟩,a8⟩;exact ⟨a1,a2,a3,by omega,by omega,a5,a6.1,a6.2,a7,a8⟩
 ·intro h;obtain ⟨b1,b2⟩:=h.pick;obtain ⟨b3,b4⟩:=h.drp;exact ⟨⟨⟨⟨⟨⟨⟨h.name,h.twin⟩,h.load⟩,by omega,by omega⟩,h.one⟩,h.pstp,h.dstp⟩,h.skills⟩,h.arg⟩
def ordersOk (np:Nat) (d ty:Int) (l:List Ord):Prop:=l.length<=10/\ ∀i,i<l.length->OrdOk np d ty l i
theorem Zak {np:Nat} {d ty:Int} {l:List Ord} :Z5 np d ty l l.length= []↔ordersOk np d ty l:=by
 simp only [Z5,List.append_eq_nil_iff,List.flatMap_eq_nil_iff,List.mem_range,List.map_eq_nil_iff,JE,ordersOk];refine and_congr ?_ Iff.rfl
 split<;>simp_all
theorem ZcD {np:Nat} {d ty:Int} {l:List Ord} (hl:l.length<=1048576): ∀f∈Z5 np d ty l l.length,pF 20 f:=by
 intro f hf;simp only [Z5,List.mem_append,List.mem_flatMap,List.mem_range,List.mem_map] at hf;rcases hf with hf | ⟨i,hi,e,he,rfl⟩
 ·split at hf<;>simp at hf
  subst hf;simp [pF]
 ·exact Wj i (by omega)
theorem Zcn (n:Int) (h0:0<=n) (hn:n<=4611686018427387904):PC 235 [.p (.int .i64 n)] (.str (dec n.toNat)):=by
 refine Za Tryz.func235 rfl ZoG ?_;simp (disch:=omega) only [Tryz.f235,go_sem,seval];refine Zg [] (fun q:Int×List UInt8=> [(0,.p (.int .i64 q.1)),(3,.p (.str q.2))]) (fun _=> []) (fun q=>0<=q.1/\q.1<=n/\dec q.1.toNat++q.2=dec n.toNat) (fun q=>q.1.toNat) (n,[]) (by simp [h0]) (Weak.mk ?_) ?_
 ·simp (disch:=omega) only [go_sem,seval]
 ·rintro ⟨m,s⟩ ⟨hm,hmn,hs⟩;simp only at hm hmn hs;have hl:=ZeX _ n.toNat (Nat.lt_succ_self _)
  have hl2:(dec m.toNat).length+s.length=(dec n.toNat).length:=by rw [<- hs];simp
  simp (disch:=first | omega | (simp only [List.length_cons,List.length_nil,List.length_append,List.length_map,List.length_take,List.length_drop]<;>omega)) only [go_sem,seval];refine cD ?_ ?_<;>intro h<;>simp (disch:=omega) only [Sh.out h,go_sem,seval]
  ·simp (disch:=first | omega | (simp only [List.length_cons,List.length_nil,List.length_append,List.length_map,List.length_take,List.length_drop]<;>omega)) only [go_sem,seval]
   have h2: ¬m.toNat<10:=by omega
   have e1:(48+m%10).toNat=48+m.toNat%10:=by omega
   have e2:(m / 10).toNat=m.toNat / 10:=by omega
   refine ⟨(m / 10,UInt8.ofNat (48+m%10).toNat::s),⟨by simp only;omega,by simp only;omega,?_⟩,by simp only;omega,Weak.mk ?_⟩
   ·simp only [e1,e2];rw [<- hs,dec.eq_def m.toNat,dif_neg h2];simp
   ·simp (disch:=omega) only [go_sem,seval]
  ·simp (disch:=first | omega | (simp only [List.length_cons,List.length_nil,List.length_append,List.length_map,List.length_take,List.length_drop]<;>omega)) only [go_sem,seval]
   have h2:m.toNat<10:=by omega
   have e1:(48+m).toNat=48+m.toNat:=by omega
   rw [<- hs,dec.eq_def m.toNat,dif_pos h2,e1]
   rfl
def okP (n:Int) (p:Int×Int):Bool:=decide (0<=p.1/\p.1<n)&&decide (0<=p.2/\p.2<n)&&decide (¬p.1=p.2)
def atW (word:List UInt8) (i:Nat):List UInt8:=word++ [32]++dec i
def flt (n:Int) (word:List UInt8) (sm:Int×Int->Int×Int->Bool) (l:List (Int×Int)) (i:Nat):List (Int×List UInt8) :=
 if okP n (nth l i)=false then [(2,atW word i)] else if (l.take i).any (sm (nth l i)) then [(6,atW word i)] else []
def hdr (word:List UInt8) (l:List (Int×Int)):List (Int×List UInt8):=if 16<l.length then [(4,word)] else []
def Js (n:Int) (word:List UInt8) (sm:Int×Int->Int×Int->Bool) (l:List (Int×Int)) (k:Nat):List (Int×List UInt8):=hdr word l++(List.range k).flatMap (flt n word sm l)
theorem KI (n word sm l k):Js n word sm l (k+1)=Js n word sm l k++flt n word sm l k:=by simp [Js,List.range_succ,List.flatMap_append]
theorem JO (n word sm l):Js n word sm l 0=hdr word l:=by simp [Js]
theorem Zj8 (n word sm l i):(flt n word sm l i).length<=1:=by unfold flt;split<;>(try split)<;>simp
theorem W2 (n word sm l): ∀k,(Js n word sm l k).length<=k+1:=by
 intro k
 induction k with
 | zero=>rw [JO];unfold hdr;split<;>simp
 | succ k ih=>rw [KI];have:=Zj8 n word sm l k;simp;omega
def chk (n:Int) (ap be:List (Int×Int)):List (Int×List UInt8) :=
 Js n [97,112,97,114,116] (fun p q=>decide (p=q\/(p.1=q.2/\p.2=q.1))) ap ap.length++Js n [98,101,102,111,114,101] (fun p q=>decide (p=q)) be be.length
def smR (turned:Bool) (p q:Int×Int):Bool:=decide (q.1=p.1/\q.2=p.2)||(turned&&decide (q.1=p.2/\q.2=p.1))
theorem ZhE : smR true=fun p q=>decide (p=q\/(p.1=q.2/\p.2=q.1)):=by
 funext p q
 simp only [smR,Bool.true_and,ZoN]
 congr 1
 simp only [Prod.ext_iff,eq_iff_iff]
 constructor
 ·rintro (h | h)
  ·exact .inl ⟨h.1.symm,h.2.symm⟩
  ·exact .inr ⟨h.2.symm,h.1.symm⟩
 ·rintro (h | h)
  ·exact .inl ⟨h.1.symm,h.2.symm⟩
  ·exact .inr ⟨h.2.symm,h.1.symm⟩
theorem ZdT : smR false=fun p q=>decide (p=q):=by
 funext p q
 simp only [smR,Bool.false_and,Bool.or_false]
 congr 1
 simp only [Prod.ext_iff,eq_iff_iff];exact ⟨fun h=>⟨h.1.symm,h.2.symm⟩,fun h=>⟨h.1.symm,h.2.symm⟩⟩
def tw (turned:Bool) (l:List (Int×Int)) (p:Int×Int) (j:Nat):Bool:=(l.take j).any (smR turned p)
theorem Zj4 (turned l p):tw turned l p 0=false:=by simp [tw]
theorem ZjU (turned:Bool) (l:List (Int×Int)) (p:Int×Int) (j:Nat) (h:j<l.length):tw turned l p (j+1)=(tw turned l p j||smR turned p (nth l j)):=by
 rw [tw,tw,List.take_succ_eq_append_getElem h,List.any_append,Zf h];simp only [List.any_cons,List.any_nil,Bool.or_false]
theorem ZbI (n:Int) (word:List UInt8) (l:List (Int×Int)) (c:Bool) (turned:Bool) (hw:word.length<=1000) (hl:l.length<=1048576) :
  ACalls Tryz.prog 177 [.p (.int .i64 n),.p (.list c (l.map eP)),.p (.str word),.p (.bool turned)] [] fun x H'=>x= .sl 0 0 (Js n word (smR turned) l l.length).length (Js n word (smR turned) l l.length).length/\H'= [.elems 2 ((Js n word (smR turned) l l.length).map eF)]:=by
 refine Ji [2] (fn:=Tryz.f177) (by simp) Tryz.func177 rfl Zns ?_;simp (disch:=omega) only [Tryz.f177,go_sem,seval];refine Zs (Weak.ofNil 9 2 (by simp (disch:=omega) only [go_sem,seval]) (by simp) (Weak.refl _ _ _)) ?_;simp (disch:=omega) only [go_sem,seval];refine Zm [0,1,2,3] (fun _:Unit=> [(9,.sl 0 0 (hdr word l).length (hdr word l).length)]) (fun _=> [.elems 2 ((hdr word l).map eF)]) (fun _=>True) ?_ ?_
 ·simp (disch:=omega) only [go_sem,seval];refine cD ?_ ?_<;>intro h<;>simp (disch:=omega) only [Sh.out h,go_sem,seval]
  ·refine ⟨(),Weak.mk ?_⟩
   have h2:16<l.length:=by omega
   simp (disch:=omega) only [hdr,h2,go_sem,seval]
  ·refine ⟨(),Weak.mk ?_⟩
   have h2: ¬ 16<l.length:=by omega
   simp (disch:=omega) only [hdr,h2,go_sem,seval]
 ·intro _ _;refine Zc [] _ _ _ _ ?_;simp (disch:=omega) only [go_sem,seval];refine Zg [0,1,2,3] (fun k:Nat=> [(9,.sl 0 0 (Js n word (smR turned) l k).length (Js n word (smR turned) l k).length),(10,.p (.int .i64 k))]) (fun k=> [.elems 2 ((Js n word (smR turned) l k).map eF)]) (fun k=>k<=l.length) (fun k=>l.length-k) 0 (by simp) (Weak.mk ?_) ?_
  ·simp (disch:=omega) only [JO,go_sem,seval]
  ·intro k hk;have hfl:=W2 n word (smR turned) l k;have hdl:=ZeX _ k (Nat.lt_succ_self _);simp (disch:=omega) only [go_sem,seval];refine cD ?_ ?_<;>intro h<;>simp (disch:=omega) only [Sh.out h,go_sem,seval]
   ·have hk2:k<l.length:=by omega
    simp (disch:=first | omega | (simp only [List.length_cons,List.length_nil,List.length_append,List.length_map,List.length_take,List.length_drop]<;>omega)) only [go_sem,seval];refine (Zcn (k:Int) (by omega) (by omega)).use ?_;simp (disch:=first | omega | (simp only [List.length_cons,List.length_nil,List.length_append,List.length_map,List.length_take,List.length_drop]<;>omega)) only [go_sem,seval];have hs:=KI n word (smR turned) l k
    have hbad:okP n (nth l k)=false->flt n word (smR turned) l k= [(2,word++ [32]++dec k)]:=fun e=>by simp [flt,e,atW]
    repeat' (first | (refine ZR (fun hq=> ?_) (fun hq=> ?_)<;>(try simp only [decide_eq_true_eq,decide_eq_false_iff_not,Classical.not_not] at hq)<;>simp (disch:=omega) only [Sh.out hq,go_sem,seval]) | (refine ZS (fun hq=> ?_) (fun hq=> ?_)<;>(try simp only [decide_eq_true_eq,decide_eq_false_iff_not,Classical.not_not] at hq)<;>simp (disch:=omega) only [Sh.out hq,go_sem,seval]) | (refine Z9 (fun hq=> ?_) (fun hq=> ?_)<;>(try simp only [decide_eq_true_eq,decide_eq_false_iff_not,Classical.not_not] at hq)<;>simp (disch:=omega) only [Sh.out hq,go_sem,seval]))
    all_goals try (
     have e:=hbad (by simp [okP];omega)
     exact ⟨k+1,by omega,by omega,Weak.mk (by simp (disch:=omega) only [hs,e,go_sem,seval])⟩)
    have hok:okP n (nth l k)=true:=by simp [okP];omega
    refine Zg [0,1,2,3,9,10,11,12,13] (fun j:Nat=> [(14,.p (.bool (tw turned l (nth l k) j))),(15,.p (.int .i64 j))]) (fun _=> [.elems 2 ((Js n word (smR turned) l k).map eF)]) (fun j=>j<=k) (fun j=>k-j) 0 (by simp) (Weak.mk ?_) ?_
    ·simp (disch:=omega) only [Zj4,go_sem,seval]
    ·intro j hj;simp (disch:=omega) only [go_sem,seval];refine cD ?_ ?_<;>intro h4<;>simp (disch:=omega) only [Sh.out h4,go_sem,seval]
     ·have hts:=ZjU turned l (nth l k) j (by omega);generalize tw turned l (nth l k) j=q at hts ⊢
      repeat' (first | (refine ZR (fun hq=> ?_) (fun hq=> ?_)<;>(try simp only [decide_eq_true_eq,decide_eq_false_iff_not,Classical.not_not] at hq)<;>simp (disch:=omega) only [Sh.out hq,go_sem,seval]) | (refine ZS (fun hq=> ?_) (fun hq=> ?_)<;>(try simp only [decide_eq_true_eq,decide_eq_false_iff_not,Classical.not_not] at hq)<;>simp (disch:=omega) only [Sh.out hq,go_sem,seval]) | (refine Z9 (fun hq=> ?_) (fun hq=> ?_)<;>(try simp only [decide_eq_true_eq,decide_eq_false_iff_not,Classical.not_not] at hq)<;>simp (disch:=omega) only [Sh.out hq,go_sem,seval]))
      all_goals refine ⟨j+1,by omega,by omega,Weak.mk ?_⟩
      all_goals clear hs hbad hfl hdl
      all_goals simp (disch:=omega) only [hts,go_sem,seval]
      all_goals simp [smR, *]
      all_goals first | omega | (simp [smR, *] at hts;exact hts)
     ·have hjk:j=k:=by omega
      subst hjk;refine cD ?_ ?_<;>intro h5<;>simp (disch:=omega) only [Sh.out h5,go_sem,seval]
      ·have e:flt n word (smR turned) l j= [(6,word++ [32]++dec j)]:=by
        have h6:(l.take j).any (smR turned (nth l j))=true:=h5;simp [flt,hok,h6,atW]
       exact ⟨j+1,by omega,by omega,Weak.mk (by simp (disch:=omega) only [hs,e,go_sem,seval])⟩
      ·have e:flt n word (smR turned) l j= []:=by
        have h6:(l.take j).any (smR turned (nth l j))=false:=h5;simp only [flt,hok,h6,Bool.true_eq_false,Bool.false_eq_true,if_false]
       exact ⟨j+1,by omega,by omega,Weak.mk (by simp (disch:=omega) only [hs,e,go_sem,seval])⟩
   ·have:k=l.length:=by omega
    subst this;exact ⟨0,by simp (disch:=omega) only [go_sem,seval]⟩
theorem ZfZ (n:Int) (ap be:List (Int×Int)) (c c':Bool) (hl:ap.length<=1048576) (hl2:be.length<=1048576) :
  ACalls Tryz.prog 131 [.p (.int .i64 n),.p (.list c (ap.map eP)),.p (.list c' (be.map eP))] [] fun x H'=>x= .sl 0 0 (chk n ap be).length (chk n ap be).length/\H'= [.elems 2 ((chk n ap be).map eF)]:=by
 refine VI (fn:=Tryz.f131) (by simp) Tryz.func131 rfl Zom ?_;simp (disch:=omega) only [Tryz.f131,go_sem,seval];have h1:=W2 n [97,112,97,114,116] (smR true) ap ap.length;have h2:=W2 n [98,101,102,111,114,101] (smR false) be be.length;refine (ZbI n _ ap c true (by decide) hl).useF ?_;simp (disch:=omega) only [go_sem,seval];refine (ZbI n _ be c' false (by decide) hl2).useF ?_;simp (disch:=omega) only [go_sem,seval];refine ⟨0,?_⟩;rw [chk,<- ZhE,<- ZdT];simp (disch:=omega) only [go_sem,seval]
@[go_sem] theorem ZnG {H:List AM.Obj} {β:Type} {S b o n:Nat} {xs:List PV} {g:β->PV} {m:List β} (hb:(n+m.length)*b<=140737488355328) (hb2:n+m.length<=140737488355328) :
  Qp H (some (S,b)) (.elems S xs) o n (some (m.map g))=if xs.length=n/\okE S (m.map g)=true then some (.sl o 0 (n+m.length) (n+m.length),ost H o (.elems S (xs++m.map g))) else none:=by
 rw [ZgZ];simp only [List.length_map,hb,hb2,and_true]
def und (word:List UInt8) (f:Flt):Flt:=(f.1,if f.2= [] then word else word++ [32]++f.2)
theorem WZ (word:List UInt8) (l:List Flt) (c:Bool) (hword:word.length<=100) (hl:l.length<=4194306000000) (hp: ∀f∈l,pF 100 f) :
  ACalls Tryz.prog 126 [.p (.str word),.p (.list c (l.map eF))] [] fun x H'=>x= .sl 0 0 (l.map (und word)).length (l.map (und word)).length/\H'= [.elems 2 ((l.map (und word)).map eF)]:=by
 suffices hh:ACalls Tryz.prog 126 [.p (.str word),.p (.list c (l.map eF))] [] fun x H'=> ∃m:List Flt,m=l.map (und word)/\x= .sl 0 0 m.length m.length/\H'= [.elems 2 (m.map eF)] by
  refine hh.mono ?_;rintro x H' ⟨m,rfl,h1,h2⟩;exact ⟨h1,h2⟩
 refine ZA [2] Tryz.func126 rfl ZpU ?_;simp (disch:=omega) only [Tryz.f126,go_sem,seval];refine Zs (Weak.ofNil 5 2 (by simp (disch:=omega) only [go_sem,seval]) (by simp) (Weak.refl _ _ _)) ?_;refine Zc [] _ _ _ _ ?_;simp (disch:=omega) only [go_sem,seval];refine Zg [0,1] (fun q:Nat×List Flt=> [(5,.sl 0 0 q.2.length q.2.length),(6,.p (.int .i64 q.1))]) (fun q=> [.elems 2 (q.2.map eF)]) (fun q=>q.1<=l.length/\q.2=(l.take q.1).map (und word)) (fun q=>l.length-q.1) (0,[]) ⟨by simp,by simp⟩ (Weak.mk ?_) ?_
 ·simp (disch:=omega) only [go_sem,seval]
 ·rintro ⟨k,m⟩ ⟨hk,hm⟩;simp only at hk hm
  have hml:m.length<=k:=by rw [hm];simp;omega
  simp (disch:=omega) only [go_sem,seval];refine cD ?_ ?_<;>intro h<;>simp (disch:=omega) only [Sh.out h,go_sem,seval]
  ·have hk2:k<l.length:=by omega
   have hpk:=hp _ (Zl hk2);unfold pF at hpk
   have hnext: ∀f,f=und word (nth l k)->m++ [f]=(l.take (k+1)).map (und word):=fun f hf=>by
    rw [hf,hm,List.take_succ_eq_append_getElem hk2,List.map_append,Zf hk2];rfl
   refine cD ?_ ?_<;>intro h2<;>simp (disch:=omega) only [Sh.out h2,go_sem,seval]
   ·have h3: ¬(nth l k).2= []:=by simpa using h2
    simp (disch:=first | omega | (simp only [List.length_cons,List.length_nil,List.length_append,List.length_map,List.length_take,List.length_drop]<;>omega)) only [go_sem,seval];refine ⟨(k+1,m++ [((nth l k).1,word++ [32]++(nth l k).2)]),⟨by simp only;omega,hnext _ (by simp [und,h3])⟩,by simp only;omega,Weak.mk (by simp (disch:=first | omega | (simp only [List.length_cons,List.length_nil,List.length_append,List.length_map,List.length_take,List.length_drop]<;>omega)) only [go_sem,seval])⟩
   ·have h3:(nth l k).2= []:=by simpa using h2
    refine ⟨(k+1,m++ [((nth l k).1,word)]),⟨by simp only;omega,hnext _ (by simp [und,h3])⟩,by simp only;omega,Weak.mk (by simp (disch:=first | omega | (simp only [List.length_cons,List.length_nil,List.length_append,List.length_map,List.length_take,List.length_drop]<;>omega)) only [go_sem,seval])⟩
  ·have hkn:k=l.length:=by omega
   subst hkn;exact ⟨m,by rw [hm,List.take_length],0,by simp (disch:=omega) only [go_sem,seval]⟩
theorem Zn2 {n:Int} {ap be:List (Int×Int)} (ha:ap.length<=1048576) (hb:be.length<=1048576): ∀f∈chk n ap be,pF 100 f:=by
 have key: ∀(word:List UInt8) (sm:Int×Int->Int×Int->Bool) (l:List (Int×Int)),word.length<=6->l.length<=1048576-> ∀f∈Js n word sm l l.length,pF 100 f:=fun word sm l hw hl f hf=>by
  simp only [Js,List.mem_append,List.mem_flatMap,List.mem_range] at hf;rcases hf with hf | ⟨i,hi,hf⟩
  ·unfold hdr at hf;split at hf<;>simp at hf;subst hf;simp [pF];omega
  ·have hd:=Vv 6 i (by omega)
   have: ∀e:Int,pF 100 (e,atW word i):=fun e=>by simp [pF,atW];omega
   unfold flt at hf
   split at hf
   ·simp at hf;subst hf;exact this _
   ·split at hf<;>simp at hf
    subst hf;exact this _
 intro f hf;rcases List.mem_append.1 hf with hf | hf
 ·exact key _ _ _ (by simp) ha f hf
 ·exact key _ _ _ (by simp) hb f hf
theorem ZjZ {n:Int} {ap be:List (Int×Int)} :(chk n ap be).length<=ap.length+be.length+2:=by
 have h1:=W2 n [97,112,97,114,116] (fun p q=>decide (p=q\/(p.1=q.2/\p.2=q.1))) ap ap.length;have h2:=W2 n [98,101,102,111,114,101] (fun p q=>decide (p=q)) be be.length;rw [chk,List.length_append];omega
structure InstOk (x:Inst):Prop where
 net:netOk x.net
 types:typesOk x.net x.types
 orders:ordersOk x.net.places.length (dimsOf x.types) x.types.length x.orders
 rules:chk x.orders.length x.apart x.before= []
theorem FR.und {p:Flt->Prop} {C:Prop} {b:Nat} {l:List Flt} (h:FR p C b l) (word:List UInt8):FR (fun _=>True) C b (l.map (und word)) :=
 ⟨by simpa using h.len,by rw [List.map_eq_nil_iff];exact h.emp,fun _ _=>trivial⟩
theorem Zqd (x:Inst) (hw:x.wf 1048576):ACalls Tryz.prog 79 [.p (ZK x)] [] fun y H'=> ∃m:List Flt,FR (fun _=>True) (InstOk x) 4194400000000 m/\y= .sl 0 0 m.length m.length/\H'= [.elems 2 (m.map eF)]:=by
 obtain ⟨w1,w2,w3,w4,w5,w6,w7,w8,w9⟩:=hw;refine ZA [] Tryz.func79 rfl ZvG ?_;simp (disch:=omega) only [Tryz.f79,go_sem,seval];have ol:=YG x.net.places.length (dimsOf x.types) x.types.length x.orders x.orders.length;have oat:=ZcD (np:=x.net.places.length) (d:=dimsOf x.types) (ty:=x.types.length) w4;have onil:=Zak (np:=x.net.places.length) (d:=dimsOf x.types) (ty:=x.types.length) (l:=x.orders);have cl:=ZjZ (n:=x.orders.length) (ap:=x.apart) (be:=x.before);have cat:=Zn2 (n:=x.orders.length) w6 w8;refine ((Zq2 x.net w1).frozenE).useV fun m1 h1=> ?_
 simp (disch:=omega) only [go_sem,seval];have h1p:=h1.pmono (q:=pF 100) fun f hf=>hf.mono (by omega);have u1:=WZ [110,101,116] m1 false (by simp) h1.len h1p.all;have f1:=h1.und [110,101,116];generalize m1.map (und [110,101,116])=q1 at u1 f1;have f1l:=f1.len;refine (u1).useF ?_;simp (disch:=omega) only [go_sem,seval];refine ((ZqS x.net x.types x.types_c w1 w2 w3).frozenE).useV fun m2 h2=> ?_;simp (disch:=omega) only [go_sem,seval];have h2p:=h2.pmono (q:=pF 100) fun f hf=>hf.mono (by omega);have h2l:=h2.len;have u2:=(WZ [116,121,112,101,115] m2 false (by simp) (by omega) h2p.all).frozen (by simp)
 have f2:=h2.und [116,121,112,101,115];generalize m2.map (und [116,121,112,101,115])=q2 at u2 f2;have f2l:=f2.len;refine (u2).use ?_;simp (disch:=omega) only [go_sem,seval];have u3:=(WZ [111,114,100,101,114,115] (Z5 x.net.places.length (dimsOf x.types) x.types.length x.orders x.orders.length) false (by simp) (by omega) fun f hf=>(oat f hf).mono (by omega)).frozen (by simp);have f3:=(show FR (fun _=>True) (ordersOk x.net.places.length (dimsOf x.types) x.types.length x.orders) (1+8*x.orders.length) (Z5 x.net.places.length (dimsOf x.types) x.types.length x.orders x.orders.length) from ⟨ol,onil,fun _ _=>trivial⟩).und [111,114,100,101,114,115]
 generalize (Z5 x.net.places.length (dimsOf x.types) x.types.length x.orders x.orders.length).map (und [111,114,100,101,114,115])=q3 at u3 f3;have f3l:=f3.len;refine Zy 13 Zp (by kernel_rfl) (by kernel_rfl) ?_;simp (disch:=omega) only [go_sem,seval];refine Zn (Zba x.types x.types_c w2) ?_;simp (disch:=omega) only [go_sem,seval];refine Zn ((Zm7 x.net (dimsOf x.types) x.types.length x.orders x.orders_c w1 w4 w5).frozen (by simp)) ?_;simp (disch:=omega) only [go_sem,seval];refine Zn (u3) ?_;simp (disch:=omega) only [go_sem,seval];have u4:=(WZ [114,117,108,101,115] (chk x.orders.length x.apart x.before) false (by simp) (by omega) cat).frozen (by simp)
 have f4:=(show FR (fun _=>True) (chk x.orders.length x.apart x.before= []) (x.apart.length+x.before.length+2) (chk x.orders.length x.apart x.before) from ⟨cl,Iff.rfl,fun _ _=>trivial⟩).und [114,117,108,101,115];generalize (chk x.orders.length x.apart x.before).map (und [114,117,108,101,115])=q4 at u4 f4;have f4l:=f4.len;refine ((ZfZ x.orders.length x.apart x.before x.apart_c x.before_c w6 w8).frozen (by simp)).use ?_;simp (disch:=omega) only [go_sem,seval];refine (u4).use ?_;simp (disch:=omega) only [go_sem,seval];refine ⟨q1++q2++q3++q4,((f1.app f2).app f3 |>.app f4).to (by omega) ⟨fun ⟨⟨⟨a,b⟩,c⟩,d⟩=>⟨a,b,c,d⟩,fun h=>⟨⟨⟨h.net,h.types⟩,h.orders⟩,h.rules⟩⟩,1,?_⟩
 simp (disch:=omega) only [go_sem,seval]
theorem ZcX (a:Int):IntKind.i64.wrap ((BitVec.ofInt 64 a&&&BitVec.ofInt 64 1).toNat:Int)=a%2:=by
 have h:((BitVec.ofInt 64 a&&&BitVec.ofInt 64 1).toNat:Int)=a%2:=by
  rw [BitVec.toNat_and]
  have:(BitVec.ofInt 64 1).toNat=1:=by decide
  rw [this,Nat.and_one_is_mod]
  have:((BitVec.ofInt 64 a).toNat:Int)=a%2^64:=by simp [BitVec.toNat_ofInt];omega
  omega
 rw [h];exact IntWalk.i64_in _ (by omega)
def ZcS (s i:Int):Bool:=decide (0<=i)&&decide (i<=62)&&decide (s.fdiv (2^i.toNat)%2=1)
theorem ZwO (s i:Int):PC 96 [.p (.int .i64 s),.p (.int .i64 i)] (.bool (ZcS s i)):=by
 refine Za Tryz.func96 rfl Zve ?_;simp (disch:=omega) only [Tryz.f96,go_sem,seval];refine gT ?_ ?_<;>intro h<;>simp (disch:=omega) only [Sh.out h,go_sem,seval]
 ·refine gT ?_ ?_<;>intro h1<;>simp (disch:=omega) only [Sh.out h1,go_sem,seval]
  ·have:min i.toNat 64=i.toNat:=by omega
   rw [this]
   erw [ZcX]
   simp [ZcS,h,h1]
  ·simp [ZcS,h,h1]
 ·simp [ZcS,h]
def YR (s:Int) (k:Nat):List Int:=((List.range k).filter fun (i:Nat)=>ZcS s (i:Int)).map fun (i:Nat)=>(i:Int)
theorem Zfq (s:Int):YR s 0= []:=by simp [YR]
theorem Zf2 {s:Int} {k:Nat} (h:ZcS s (k:Int)=true):YR s (k+1)=YR s k++ [(k:Int)]:=by simp [YR,List.range_succ,List.filter_append,h]
theorem Zi4 {s:Int} {k:Nat} (h:ZcS s (k:Int)=false):YR s (k+1)=YR s k:=by simp [YR,List.range_succ,List.filter_append,h]
theorem Zbq (s:Int) (k:Nat):(YR s k).length<=k:=by
 simp only [YR,List.length_map];exact Nat.le_trans (List.length_filter_le _ _) (by simp)
theorem Zdk (s:Int):ACalls Tryz.prog 61 [.p (.int .i64 s)] [] fun x H'=>x= .sl 0 0 (YR s 63).length (YR s 63).length/\H'= [.elems 1 ((YR s 63).map eI)]:=by
 refine VI (fn:=Tryz.f61) (by simp) Tryz.func61 rfl Zuk ?_;simp (disch:=omega) only [Tryz.f61,go_sem,seval];refine Zg [0] (fun k:Nat=> [(3,.sl 0 0 (YR s k).length (YR s k).length),(5,.p (.int .i64 k))]) (fun k=> [.elems 1 ((YR s k).map eI)]) (fun k=>k<=63) (fun k=>63-k) 0 (by simp) (Weak.ofNil 3 1 (by simp (disch:=omega) only [go_sem,seval]) (by simp) (Weak.mk ?_)) ?_
 ·simp (disch:=omega) only [Zfq,go_sem,seval]
 ·intro k hk;have hl:=Zbq s k;simp (disch:=omega) only [go_sem,seval];refine cD ?_ ?_<;>intro h<;>simp (disch:=omega) only [Sh.out h,go_sem,seval]
  ·refine (ZwO s k).use ?_;simp (disch:=omega) only [go_sem,seval];refine cD ?_ ?_<;>intro h2<;>simp (disch:=omega) only [Sh.out h2,go_sem,seval]
   ·refine ⟨k+1,by omega,by omega,Weak.mk ?_⟩;simp (disch:=omega) only [Zf2 h2,go_sem,seval]
   ·exact ⟨k+1,by omega,by omega,Weak.mk (by simp (disch:=omega) only [Zi4 h2,go_sem,seval])⟩
  ·have:k=63:=by omega
   subst this;exact ⟨0,by simp (disch:=omega) only [go_sem,seval]⟩
def hv (s k:Nat):Nat:=s / pw k
theorem Znx (s k:Nat):s.testBit k=decide (hv s k%2=1):=by
 rw [Nat.testBit_eq_decide_div_mod_eq]
 rfl
theorem ZaK (s i:Nat) (hi:i<=62):ZcS (s:Int) (i:Int)=s.testBit i:=by
 rw [Znx,hv]
 have h1:(0:Int)<=i:=by omega
 have h2:(i:Int)<=62:=by omega
 simp only [ZcS,h1,h2,decide_true,Bool.true_and,Int.toNat_natCast]
 have e:((s:Int)).fdiv (2^i)=((s / pw i:Nat):Int):=by
  have:(2:Int)^i=((pw i:Nat):Int):=by simp [pw]
  rw [this,Int.fdiv_eq_ediv_of_nonneg _ (by omega)];simp
 simp only [e];rw [Bool.eq_iff_iff];simp only [decide_eq_true_eq];omega
theorem Vs {α:Type} [Inhabited α] {l:List α} {f:α->Bool} {k:Nat} (h:k<l.length) (hf:f (nth l k)=true):l.any f=true:=by
 rw [List.any_eq_true];exact ⟨nth l k,by rw [Zf h];exact List.getElem_mem _,hf⟩
theorem JB {α:Type} [Inhabited α] {l:List α} {f:α->Bool} (h: ∀j,j<l.length->f (nth l j)=false):l.any f=false:=by
 rw [List.any_eq_false];intro x hx;obtain ⟨j,hj,rfl⟩:=List.mem_iff_getElem.1 hx;rw [<- Zf hj,h j hj];simp
deriving instance DecidableEq for Vis
theorem JR {v w:Vis} :v=w↔v.order=w.order/\v.drp=w.drp:=by cases v;cases w;simp
def fIx (f:Vis->Bool) (l:List Vis):Int:=match l.findIdx? f with | some i=>(i:Int) | none=> -1
def vIx (l:List Vis) (v:Vis):Int:=fIx (fun w=>decide (v=w)) l
theorem Zbp {f:Vis->Bool} {l:List Vis} {k:Nat} (hk:k<l.length) (h:f (nth l k)=true) (hno: ∀j,j<k->f (nth l j)=false):fIx f l=(k:Int):=by
 have:l.findIdx? f=some k:=by
  rw [List.findIdx?_eq_some_iff_getElem];refine ⟨hk,by rw [<- Zf hk];exact h,fun j hj=> ?_⟩;have h2:=hno j hj;rw [Zf (by omega)] at h2;simpa using h2
 simp [fIx,this]
theorem Zea {f:Vis->Bool} {l:List Vis} (hno: ∀j,j<l.length->f (nth l j)=false):fIx f l= -1:=by
 have:l.findIdx? f=none:=by
  rw [List.findIdx?_eq_none_iff];intro x hx;obtain ⟨j,hj,rfl⟩:=List.mem_iff_getElem.1 hx;rw [<- Zf hj];exact hno j hj
 simp [fIx,this]
theorem Zec {f:Vis->Bool} {l:List Vis} :decide (0<=fIx f l)=l.any f:=by
 unfold fIx
 cases h:l.findIdx? f with
 | none =>
  rw [List.findIdx?_eq_none_iff] at h
  have:l.any f=false:=by rw [List.any_eq_false];intro x hx;simp [h x hx]
  simp [this]
 | some i =>
  rw [List.findIdx?_eq_some_iff_getElem] at h;obtain ⟨h1,h2,_⟩:=h
  have:l.any f=true:=by rw [List.any_eq_true];exact ⟨l[i],List.getElem_mem _,h2⟩
  simp [this]
theorem Zeq {f:Vis->Bool} {l:List Vis} :fIx f l<l.length/\ -1<=fIx f l:=by
 unfold fIx
 cases h:l.findIdx? f with
 | none=>simp;omega
 | some i =>
  rw [List.findIdx?_eq_some_iff_getElem] at h;obtain ⟨h1,_⟩:=h;simp;omega
theorem Zd8 (l:List Vis) (c:Bool) (v:Vis) (hl:l.length<=1048576):PC 309 [.p (.list c (l.map XK)),.p (XK v)] (.int .i64 (vIx l v)):=by
 refine Za Tryz.func309 rfl ZnT ?_;simp (disch:=omega) only [Tryz.f309,go_sem,seval];refine Zg [0,3,7] (fun k:Nat=> [(8,.p (.int .i64 k))]) (fun _=> [.cells [.p (.int .i64 v.order),.p (.bool v.drp)]]) (fun k=>k<=l.length/\ ∀j,j<k->decide (v=nth l j)=false) (fun k=>l.length-k) 0 (by simp) (Weak.mk ?_) ?_
 ·simp (disch:=omega) only [go_sem,seval]
 ·rintro k ⟨hk,hno⟩;simp (disch:=omega) only [go_sem,seval];refine cD ?_ ?_<;>intro h<;>simp (disch:=omega) only [Sh.out h,go_sem,seval]
  ·have hk2:k<l.length:=by omega
   refine Zh Zp (by kernel_rfl) (by kernel_rfl) ?_;simp (disch:=omega) only [go_sem,seval];refine cD ?_ ?_<;>intro h2<;>simp (disch:=omega) only [Sh.out h2,go_sem,seval]
   ·have:v=nth l k:=by simpa [JR] using h2
    rw [vIx,Zbp hk2 (by simpa using this) hno]
   ·have: ¬v=nth l k:=by simpa [JR] using h2
    exact ⟨k+1,⟨by omega,Ze.2 ⟨hno,by simpa using this⟩⟩,by omega,wk⟩
  ·have hkl:k=l.length:=by omega
   subst hkl;rw [vIx,Zea hno]
theorem Zfv (l:List Vis) (c:Bool) (v:Vis) (hl:l.length<=1048576):PC 287 [.p (.list c (l.map XK)),.p (XK v)] (.int .i64 (vIx l v)):=by
 refine Za Tryz.func287 rfl Zpg ?_;simp (disch:=omega) only [Tryz.f287,go_sem,seval];refine (Zd8 l c v hl).use ?_;simp (disch:=omega) only [go_sem,seval]
theorem KA (l:List Vis) (c:Bool) (v:Vis) (hl:l.length<=1048576):PC 288 [.p (.list c (l.map XK)),.p (XK v)] (.bool (decide (0<=vIx l v))):=by
 refine Za Tryz.func288 rfl Zq0 ?_;simp (disch:=omega) only [Tryz.f288,go_sem,seval];refine (Zd8 l c v hl).use ?_;simp (disch:=omega) only [go_sem,seval]
theorem Zkl (l:List Ord) (c:Bool) (n:Int) (hl:l.length<=1048576):PC 237 [.p (.list c (l.map WK)),.p (.int .i64 n)] (.bool (decide (0<=n/\n<l.length))):=by
 refine Za Tryz.func237 rfl ZhU ?_;simp (disch:=omega) only [Tryz.f237,go_sem,seval];refine gT ?_ ?_<;>intro h<;>simp (disch:=omega) only [Sh.out h,go_sem,seval]
 all_goals (try simp [h])
def Yj (l:List Ord) (i:Nat):List Vis:=(if 0<=(nth l i).pick.place then [⟨i,false⟩] else [])++(if 0<=(nth l i).drp.place then [⟨i,true⟩] else [])
theorem Zbc (l:List Ord) (i:Nat):(Yj l i).length<=2:=by unfold Yj;split<;>split<;>simp
theorem ZbT (l:List Ord) (c:Bool) (i:Nat) (hi:i<l.length) (hl:l.length<=1048576):ACalls Tryz.prog 179 [.p (.list c (l.map WK)),.p (.int .i64 (i:Nat))] [] fun x H'=>x= .sl 0 0 (Yj l i).length (Yj l i).length/\H'= [.elems 2 ((Yj l i).map XK)]:=by
 suffices hh:ACalls Tryz.prog 179 [.p (.list c (l.map WK)),.p (.int .i64 (i:Nat))] [] fun x H'=> ∃m:List Vis,m=Yj l i/\x= .sl 0 0 m.length m.length/\H'= [.elems 2 (m.map XK)] by
  refine hh.mono ?_;rintro x H' ⟨m,rfl,h1,h2⟩;exact ⟨h1,h2⟩
 refine ZA [2] Tryz.func179 rfl ZnR ?_;simp (disch:=omega) only [Tryz.f179,go_sem,seval];refine Zs (Weak.ofNil 5 2 (by simp (disch:=omega) only [go_sem,seval]) (by simp) (Weak.refl _ _ _)) ?_;refine Zc [4] _ _ _ _ ?_;simp (disch:=omega) only [go_sem,seval];refine (Zkl l c i hl).use ?_;simp (disch:=omega) only [go_sem,seval]
 have h0:(0:Int)<=(i:Int)/\(i:Int)<(l.length:Int):=by omega
 simp (disch:=omega) only [h0,go_sem,seval];refine Zm [0,1] (fun m:List Vis=> [(5,.sl 0 0 m.length m.length)]) (fun m=> [.elems 2 (m.map XK)]) (fun m=>m=(if 0<=(nth l i).pick.place then [⟨i,false⟩] else [])) ?_ ?_
 ·simp (disch:=omega) only [go_sem,seval];refine cD ?_ ?_<;>intro h<;>simp (disch:=omega) only [Sh.out h,go_sem,seval]
  ·exact ⟨[⟨i,false⟩],by simp [h],wk⟩
  ·exact ⟨[],by simp [h],wk⟩
 ·intro m hm
  have hml:m.length<=1:=by rw [hm];split<;>simp
  refine Zc [] _ _ _ _ ?_;simp (disch:=omega) only [go_sem,seval];refine cD ?_ ?_<;>intro h<;>simp (disch:=omega) only [Sh.out h,go_sem,seval]
  ·exact ⟨m++ [⟨i,true⟩],by rw [Yj,hm,if_pos h],0,by simp (disch:=omega) only [go_sem,seval]⟩
  ·exact ⟨m,by rw [Yj,hm,if_neg h,List.append_nil],0,by simp (disch:=omega) only [go_sem,seval]⟩
theorem visits_c (l:List Ord) (c:Bool) (i:Nat) (hi:i<l.length) (hl:l.length<=1048576):PC 179 [.p (.list c (l.map WK)),.p (.int .i64 (i:Nat))] (.list false ((Yj l i).map XK)) :=
 (ZbT l c i hi hl).frozen (by simp)
def YV (l:List Vis):Bool:=(List.range l.length).any fun i=>decide (0<=vIx (l.take i) (nth l i))
theorem ZkR (l:List Vis) (c:Bool) (hl:l.length<=1048576):PC 261 [.p (.list c (l.map XK))] (.bool (YV l)):=by
 refine Za Tryz.func261 rfl Zmc ?_;simp (disch:=omega) only [Tryz.f261,go_sem,seval];refine Zg [0,5,6] (fun k:Nat=> [(7,.p (.int .i64 k))]) (fun _=> []) (fun k=>k<=l.length/\ ∀j,j<k->decide (0<=vIx (l.take j) (nth l j))=false) (fun k=>l.length-k) 0 (by simp) (Weak.mk ?_) ?_
 ·simp (disch:=omega) only [go_sem,seval]
 ·rintro k ⟨hk,hno⟩;simp (disch:=omega) only [go_sem,seval];refine cD ?_ ?_<;>intro h<;>simp (disch:=omega) only [Sh.out h,go_sem,seval]
  ·have hk2:k<l.length:=by omega
   refine Zh Zp (by kernel_rfl) (by kernel_rfl) ?_;simp (disch:=omega) only [go_sem,seval];refine Zn (Zfv (l.take k) _ (nth l k) (by simp;omega)) ?_;simp (disch:=omega) only [go_sem,seval];refine cD ?_ ?_<;>intro h2<;>simp (disch:=omega) only [Sh.out h2,go_sem,seval]
   ·have:YV l=true:=by rw [YV,List.any_eq_true];exact ⟨k,by simpa using hk2,by simpa using h2⟩
    rw [this]
   ·exact ⟨k+1,⟨by omega,Ze.2 ⟨hno,by simpa using h2⟩⟩,by omega,wk⟩
  ·have hkl:k=l.length:=by omega
   subst hkl
   have:YV l=false:=by rw [YV,List.any_eq_false];intro j hj;simpa using hno j (by simpa using hj)
   rw [this]
theorem Uz (l:List Vis) (c:Bool) (g:FuncId) (caps:List V) (H:List AM.Obj) (f:Vis->Bool) (hl:l.length<=1048576) (hW:wkH H H.length H H) (hc:ZJ H.length caps=true)
  (hg: ∀v∈l,ACalls Tryz.prog g (.p (XK v)::caps) H fun x H'=>x= .p (.bool (f v))/\H'=H) :
  ACalls Tryz.prog 226 [.p (.list c (l.map XK)),.fn (.func g) [] caps] H fun x H'=>x= .p (.int .i64 (fIx f l))/\H'=H:=by
 refine Z3 Tryz.func226 rfl ZpW (Zc [] _ _ _ _ ?_);simp (disch:=omega) only [Tryz.f226,go_sem,seval];refine Zg [0,1,7] (fun k:Nat=> [(8,.p (.int .i64 k))]) (fun _=>H) (fun k=>k<=l.length/\ ∀j,j<k->f (nth l j)=false) (fun k=>l.length-k) 0 (by simp) (Weak.mk ?_) ?_
 ·simp (disch:=omega) only [hW,hc,go_sem,seval];simp
 ·rintro k ⟨hk,hno⟩;simp (disch:=omega) only [go_sem,seval];refine cD ?_ ?_<;>intro h<;>simp (disch:=omega) only [Sh.out h,go_sem,seval]
  ·have hk2:k<l.length:=by omega
   refine (hg (nth l k) (Zl hk2)).useH ?_;simp (disch:=omega) only [go_sem,seval];refine cD ?_ ?_<;>intro h2<;>simp (disch:=omega) only [Sh.out h2,go_sem,seval]
   ·rw [Zbp hk2 h2 hno]
   ·have h3:f (nth l k)=false:=by simpa using h2
    refine ⟨k+1,⟨by omega,Ze.2 ⟨hno,h3⟩⟩,by omega,Weak.mk ?_⟩;simp (disch:=omega) only [hW,hc,go_sem,seval];simp
  ·have hkl:k=l.length:=by omega
   subst hkl;rw [Zea hno]
theorem Xq (l:List Vis) (c:Bool) (g:FuncId) (caps:List V) (H:List AM.Obj) (f:Vis->Bool) (hl:l.length<=1048576) (hW:wkH H H.length H H) (hc:ZJ H.length caps=true)
  (hg: ∀v∈l,ACalls Tryz.prog g (.p (XK v)::caps) H fun x H'=>x= .p (.bool (f v))/\H'=H) :
  ACalls Tryz.prog 168 [.p (.list c (l.map XK)),.fn (.func g) [] caps] H fun x H'=>x= .p (.bool (l.any f))/\H'=H:=by
 refine Z3 Tryz.func168 rfl ZpE (Zc [] _ _ _ _ ?_);simp (disch:=omega) only [Tryz.f168,go_sem,seval];refine (Uz l c g caps H f hl hW hc hg).useH ?_;simp (disch:=omega) only [go_sem,seval];rw [Zec]
def X2 (l:List Vis) (o:Int):Bool:=l.any fun v=>decide (v.order=o)
theorem ZqN (v:Vis) (o:Int):ACalls Tryz.prog 289 [.p (XK v),.ptr 0 0] [.cells [.p (.int .i64 o)]] fun x H'=>x= .p (.bool (decide (v.order=o)))/\H'= [.cells [.p (.int .i64 o)]]:=by
 refine Zd [] Tryz.func289 rfl Zl2 ?_;simp (disch:=omega) only [Tryz.f289,go_sem,seval];exact we
theorem ZdR (v:Vis) (o:Int):ACalls Tryz.prog 290 [.p (XK v),.ptr 0 0] [.cells [.p (.int .i64 o)]] fun x H'=>x= .p (.bool (decide (v.order=o)))/\H'= [.cells [.p (.int .i64 o)]]:=by
 refine Zd [] Tryz.func290 rfl Znl ?_;simp (disch:=omega) only [Tryz.f290,go_sem,seval];exact we
theorem Uc (l:List Vis) (c:Bool) (o:Int) (hl:l.length<=1048576):PC 263 [.p (.list c (l.map XK)),.p (.int .i64 o)] (.bool (X2 l o)):=by
 refine Za Tryz.func263 rfl Zmh ?_;simp (disch:=omega) only [Tryz.f263,go_sem,seval];refine (Xq l c 289 [.ptr 0 0] [.cells [.p (.int .i64 o)]] (fun v=>decide (v.order=o)) hl (by simp (disch:=omega) only [go_sem,seval]) (by rfl) (fun v _=>ZqN v o)).useH ?_;simp (disch:=omega) only [go_sem,seval];rw [X2]
def XI (l:List Vis) (a b:Int):Bool:=if fIx (fun v=>decide (v.order=b)) l<0 then true else X2 l a&& !X2 (l.drop (fIx (fun v=>decide (v.order=b)) l).toNat) a
theorem Zaq (l:List Vis) (c:Bool) (a b:Int) (hl:l.length<=1048576):PC 264 [.p (.list c (l.map XK)),.p (.int .i64 a),.p (.int .i64 b)] (.bool (XI l a b)):=by
 refine Za Tryz.func264 rfl Zq9 ?_;simp (disch:=omega) only [Tryz.f264,go_sem,seval];refine (Uz l c 290 [.ptr 0 0] [.cells [.p (.int .i64 b)]] (fun v=>decide (v.order=b)) hl (by simp (disch:=omega) only [go_sem,seval]) (by rfl) (fun v _=>ZdR v b)).useH ?_;have hlt:=Zeq (f:=fun v=>decide (v.order=b)) (l:=l);simp (disch:=omega) only [go_sem,seval];refine cD ?_ ?_<;>intro h<;>simp (disch:=omega) only [Sh.out h,go_sem,seval]
 ·rw [XI,if_pos h]
 ·refine (Uc l c a hl).use ?_;simp (disch:=omega) only [go_sem,seval];generalize hq:fIx (fun v=>decide (v.order=b)) l=q at hlt h ⊢
  cases h2:X2 l a with
  | false =>
   simp (disch:=omega) only [go_sem,seval];rw [XI,hq,if_neg h,h2];rfl
  | true =>
   simp (disch:=omega) only [List.take_length,go_sem,seval];refine (Uc (l.drop q.toNat) _ a (by simp;omega)).use ?_;simp (disch:=omega) only [go_sem,seval];rw [XI,hq,if_neg h,h2];rfl
def Ju (l:List Vis):Int->List Vis->Bool
 | _,[]=>true
 | last,w::r=>decide (last<vIx l w)&&Ju l (vIx l w) r
def pairB (os:List Ord) (l:List Vis) (v:Vis):Bool:=decide (0<=vIx (Yj os v.order.toNat) v)&&Ju l (-1) (Yj os v.order.toNat)
theorem Zar (x:Inst) (l:List Vis) (c:Bool) (hl:l.length<=1048576) (ho:x.orders.length<=1048576) (hv: ∀v∈l,0<=v.order/\v.order<x.orders.length) :
  PC 262 [.p (ZK x),.p (.list c (l.map XK))] (.bool (l.all (pairB x.orders l))):=by
 refine Za Tryz.func262 rfl Zmf ?_;simp (disch:=omega) only [Tryz.f262,go_sem,seval];refine Zg [1,2,12,13] (fun k:Nat=> [(14,.p (.int .i64 k))]) (fun _=> [Zb x]) (fun k=>k<=l.length/\ ∀j,j<k->pairB x.orders l (nth l j)=true) (fun k=>l.length-k) 0 (by simp) (Weak.mk ?_) ?_
 ·simp (disch:=omega) only [Zb,go_sem,seval]
 ·rintro k ⟨hk,hno⟩;simp (disch:=omega) only [Zb,go_sem,seval];refine cD ?_ ?_<;>intro h<;>simp (disch:=omega) only [Sh.out h,go_sem,seval]
  ·have hk2:k<l.length:=by omega
   obtain ⟨v1,v2⟩:=hv _ (Zl hk2)
   have hbad:pairB x.orders l (nth l k)=false->l.all (pairB x.orders l)=false:=fun h4=>by
    rw [List.all_eq_false];exact ⟨nth l k,Zl hk2,by rw [h4];simp⟩
   obtain ⟨i,hi⟩: ∃i:Nat,(nth l k).order=(i:Int):=⟨(nth l k).order.toNat,by omega⟩
   have hp:pairB x.orders l (nth l k)=(decide (0<=vIx (Yj x.orders i) (nth l k))&&Ju l (-1) (Yj x.orders i)):=by rw [pairB,hi];rfl
   rw [hi] at v1 v2;simp (disch:=omega) only [hi,go_sem,seval];refine (visits_c x.orders x.orders_c i (by omega) ho).use ?_;simp (disch:=omega) only [go_sem,seval];have hvl:=Zbc x.orders i;have hcon:=KA (Yj x.orders i) false (nth l k) (by omega);rw [ZeS,hi] at hcon;refine (hcon).use ?_;simp (disch:=omega) only [go_sem,seval];refine cD ?_ ?_<;>intro h2<;>simp (disch:=omega) only [Sh.out h2,go_sem,seval]
   ·rw [hbad (by rw [hp];simp;intro h3;omega)]
   ·have h2':0<=vIx (Yj x.orders i) (nth l k):=by omega
    generalize hown:Yj x.orders i=own at hvl hp h2' ⊢
    have hp2:pairB x.orders l (nth l k)=Ju l (-1) own:=by rw [hp];simp [h2']
    refine Zg [1,2,12,13,14,27,28] (fun q:Nat×Int=> [(8,.p (.int .i64 q.2)),(29,.p (.int .i64 q.1))]) (fun _=> [Zb x,.cells [.p (.int .i64 (i:Int)),.p (.bool (nth l k).drp)]]) (fun q=>q.1<=own.length/\Ju l (-1) own=Ju l q.2 (own.drop q.1)) (fun q=>own.length-q.1) (0,-1) (by simp) (Weak.mk ?_) ?_
    ·simp (disch:=omega) only [Zb,go_sem,seval]
    ·rintro ⟨j,last⟩ ⟨hj,ha⟩;simp only at hj ha;simp (disch:=omega) only [Zb,go_sem,seval];refine cD ?_ ?_<;>intro h3<;>simp (disch:=omega) only [Sh.out h3,go_sem,seval]
     ·have hj2:j<own.length:=by omega
      have hd:own.drop j=nth own j::own.drop (j+1):=by rw [List.drop_eq_getElem_cons hj2,Zf hj2]
      rw [hd] at ha;refine (Zfv l c (nth own j) hl).use ?_;simp (disch:=omega) only [go_sem,seval];refine cD ?_ ?_<;>intro h4<;>simp (disch:=omega) only [Sh.out h4,go_sem,seval]
      ·rw [hbad (by rw [hp2,ha,Ju];simp;intro h5;omega)]
      ·have h5:last<vIx l (nth own j):=by omega
       exact ⟨(j+1,vIx l (nth own j)),⟨by simp only;omega,by rw [ha,Ju];simp [h5]⟩,by simp only;omega,Weak.mk (by simp (disch:=omega) only [Zb,go_sem,seval])⟩
     ·have hjl:j=own.length:=by omega
      subst hjl;exact ⟨k+1,⟨by omega,Ze.2 ⟨hno,by rw [hp2,ha];simp [Ju]⟩⟩,by omega,Weak.mk (by simp (disch:=omega) only [Zb,go_sem,seval])⟩
  ·have hkl:k=l.length:=by omega
   subst hkl
   have:l.all (pairB x.orders l)=true:=by
    rw [List.all_eq_true];intro v hv;obtain ⟨j,hj,rfl⟩:=List.mem_iff_getElem.1 hv;rw [<- Zf hj];exact hno j hj
   rw [this]
def Zo (r:Rte):AM.Obj:= .cells [.p (.int .i64 r.typ),.p (.int .i64 r.start),.p (.list r.rests_c (r.rests.map eB)),.p (.list r.visits_c (r.visits.map XK))]
def VN (x:Inst) (v:Vis):Bool:= !decide (0<=v.order/\v.order<(x.orders.length:Int))
theorem ZhO (x:Inst) (r:Rte) (v:Vis) (ho:x.orders.length<=1048576):ACalls Tryz.prog 259 [.p (XK v),.ptr 0 0] [Zb x,Zo r] fun y H'=>y= .p (.bool (VN x v))/\H'= [Zb x,Zo r]:=by
 refine Zd [] Tryz.func259 rfl Zo7 ?_;simp (disch:=omega) only [Tryz.f259,Zb,Zo,go_sem,seval];refine gF ?_ ?_<;>intro h<;>simp (disch:=omega) only [Sh.out h,go_sem,seval]
 ·have e:VN x v=true:=by
   have: ¬(0<=v.order):=by omega
   simp [VN,this]
  rw [e];exact we (by simp (disch:=omega) only [Zb,Zo,go_sem,seval])
 ·have e:VN x v=decide ((x.orders.length:Int)<=v.order):=by
   have h0:0<=v.order:=by omega
   rw [Bool.eq_iff_iff];simp [VN,h0]
  rw [e];exact we (by simp (disch:=omega) only [Zb,Zo,go_sem,seval])
theorem Zf3 (x:Inst) (r:Rte) (v:Vis) (ho:x.orders.length<=1048576) (h1:0<=v.order) (h2:v.order<x.orders.length):ACalls Tryz.prog 260 [.p (XK v),.ptr 0 0] [Zb x,Zo r] fun y H'=>y= .p (.bool (nth x.orders v.order.toNat).off)/\H'= [Zb x,Zo r]:=by
 have h3:v.order.toNat<x.orders.length:=by omega
 refine Zd [] Tryz.func260 rfl Zpb ?_;simp (disch:=omega) only [Tryz.f260,Zb,Zo,XY,go_sem,seval];exact we (by simp (disch:=omega) only [Zb,Zo,go_sem,seval])
def ZW (x:Inst) (l:List Vis):Int :=
 if l.length=0\/l.any (VN x)=true then 2
 else if (l.any fun v=>(nth x.orders v.order.toNat).off)=true then 9
 else if YV l=true then 6
 else if l.all (pairB x.orders l)=false then 19
 else if (x.apart.any fun p=>X2 l p.1&&X2 l p.2)=true then 20
 else if (x.before.any fun p=> !XI l p.1 p.2)=true then 21
 else 0
theorem Zcs (x:Inst) (r:Rte) (ho:x.orders.length<=1048576) (hl:r.visits.length<=1048576) (hap:x.apart.length<=1048576) (hbe:x.before.length<=1048576) :
  PC 219 [.p (ZK x),.p (Xl r)] (.int .i64 (ZW x r.visits)):=by
 refine Za Tryz.func219 rfl ZnL ?_;simp (disch:=omega) only [Tryz.f219,go_sem,seval];refine gF ?_ ?_<;>intro h0<;>simp (disch:=omega) only [Sh.out h0,go_sem,seval]
 ·have:r.visits.length=0:=by omega
  simp [ZW,this]
 ·have h00: ¬r.visits.length=0:=by omega
  refine (Xq r.visits r.visits_c 259 [.ptr 0 0] [Zb x,Zo r] (VN x) hl (by simp (disch:=omega) only [Zb,Zo,go_sem,seval]) (by rfl) (fun v _=>ZhO x r v ho)).useH ?_;simp (disch:=omega) only [Zb,Zo,go_sem,seval];refine cD ?_ ?_<;>intro h1<;>simp (disch:=omega) only [Sh.out h1,go_sem,seval]
  ·rw [ZW,if_pos (.inr h1)]
  ·have h1':r.visits.any (VN x)=false:=by simpa using h1
   have c1: ¬(r.visits.length=0\/r.visits.any (VN x)=true):=by rw [h1'];simp;simpa using h00
   have hin: ∀v∈r.visits,0<=v.order/\v.order<x.orders.length:=fun v hv=>by
    rw [List.any_eq_false] at h1';simpa [VN] using h1' v hv
   refine (Xq r.visits r.visits_c 260 [.ptr 0 0] [Zb x,Zo r] (fun v=>(nth x.orders v.order.toNat).off) hl (by simp (disch:=omega) only [Zb,Zo,go_sem,seval]) (by rfl) (fun v hv=>Zf3 x r v ho (hin v hv).1 (hin v hv).2)).useH ?_;simp (disch:=omega) only [Zb,Zo,go_sem,seval];refine cD ?_ ?_<;>intro h2<;>simp (disch:=omega) only [Sh.out h2,go_sem,seval]
   ·rw [ZW,if_neg c1,if_pos h2]
   ·refine (ZkR r.visits r.visits_c hl).use ?_;simp (disch:=omega) only [go_sem,seval];refine cD ?_ ?_<;>intro h3<;>simp (disch:=omega) only [Sh.out h3,go_sem,seval]
    ·rw [ZW,if_neg c1,if_neg (by simpa using h2),if_pos h3]
    ·refine (Zar x r.visits r.visits_c hl ho hin).use ?_;simp (disch:=omega) only [go_sem,seval];refine cD ?_ ?_<;>intro h4<;>simp (disch:=omega) only [Sh.out h4,go_sem,seval]
     ·have h4':r.visits.all (pairB x.orders r.visits)=false:=by simpa using h4
      rw [ZW,if_neg c1,if_neg (by simpa using h2),if_neg (by simpa using h3),if_pos h4']
     ·have h4':r.visits.all (pairB x.orders r.visits)=true:=by simpa using h4
      have hc:ZW x r.visits=if (x.apart.any fun p=>X2 r.visits p.1&&X2 r.visits p.2)=true then 20 else if (x.before.any fun p=> !XI r.visits p.1 p.2)=true then 21 else 0:=by
       rw [ZW,if_neg c1,if_neg (by simpa using h2),if_neg (by simpa using h3),if_neg (by rw [h4'];simp)]
      clear h4 h4' h3 h2 c1 h1' h1 h0;refine Zg [2,5,33,34] (fun k:Nat=> [(35,.p (.int .i64 k))]) (fun _=> [Zb x,Zo r]) (fun k=>k<=x.apart.length/\ ∀j,j<k->(X2 r.visits (nth x.apart j).1&&X2 r.visits (nth x.apart j).2)=false) (fun k=>x.apart.length-k) 0 (by simp) (Weak.mk ?_) ?_
      ·simp (disch:=omega) only [Zb,Zo,go_sem,seval]
      ·rintro k ⟨hk,hno⟩;simp (disch:=omega) only [Zb,Zo,go_sem,seval];refine cD ?_ ?_<;>intro h<;>simp (disch:=omega) only [Sh.out h,go_sem,seval]
       ·have hk2:k<x.apart.length:=by omega
        refine (Uc r.visits r.visits_c (nth x.apart k).1 hl).use ?_;simp (disch:=omega) only [go_sem,seval];refine gT ?_ ?_<;>intro h2<;>simp (disch:=omega) only [Sh.out h2,go_sem,seval]
        ·refine (Uc r.visits r.visits_c (nth x.apart k).2 hl).use ?_;simp (disch:=omega) only [go_sem,seval];refine cD ?_ ?_<;>intro h3<;>simp (disch:=omega) only [Sh.out h3,go_sem,seval]
         ·rw [hc,if_pos (Vs hk2 (by rw [h2,h3];rfl))]
         ·exact ⟨k+1,⟨by omega,Ze.2 ⟨hno,by simp [h2];simpa using h3⟩⟩,by omega,Weak.mk (by simp (disch:=omega) only [Zb,Zo,go_sem,seval])⟩
        ·exact ⟨k+1,⟨by omega,Ze.2 ⟨hno,by simp [h2]⟩⟩,by omega,Weak.mk (by simp (disch:=omega) only [Zb,Zo,go_sem,seval])⟩
       ·have hkl:k=x.apart.length:=by omega
        subst hkl;rw [hc,JB hno];clear hno hk h hc;rw [if_neg (by simp)];refine Zg [5,51,52] (fun k:Nat=> [(53,.p (.int .i64 k))]) (fun _=> [Zb x,Zo r]) (fun k=>k<=x.before.length/\ ∀j,j<k->(!XI r.visits (nth x.before j).1 (nth x.before j).2)=false) (fun k=>x.before.length-k) 0 (by simp) (Weak.mk ?_) ?_
        ·simp (disch:=omega) only [Zb,Zo,go_sem,seval]
        ·rintro k ⟨hk,hno⟩;simp (disch:=omega) only [Zb,Zo,go_sem,seval];refine cD ?_ ?_<;>intro h<;>simp (disch:=omega) only [Sh.out h,go_sem,seval]
         ·have hk2:k<x.before.length:=by omega
          refine (Zaq r.visits r.visits_c (nth x.before k).1 (nth x.before k).2 hl).use ?_;simp (disch:=omega) only [go_sem,seval];refine cD ?_ ?_<;>intro h2<;>simp (disch:=omega) only [Sh.out h2,go_sem,seval]
          ·have h3:(!XI r.visits (nth x.before k).1 (nth x.before k).2)=true:=by simpa using h2
           rw [if_pos (Vs hk2 h3)]
          ·have h3:(!XI r.visits (nth x.before k).1 (nth x.before k).2)=false:=by simpa using h2
           exact ⟨k+1,⟨by omega,Ze.2 ⟨hno,h3⟩⟩,by omega,Weak.mk (by simp (disch:=omega) only [Zb,Zo,go_sem,seval])⟩
         ·have hkl:k=x.before.length:=by omega
          subst hkl;rw [JB hno]
          rfl
end Go.Proofs.YtcpmilhkineciaaGreatDoor.K
set_option linter.unusedVariables false
set_option linter.unusedSimpArgs false
namespace Go.Proofs.YtcpmilhkineciaaGreatDoor.K
section
variable {L : Type} (fin : L -> Int) (beats : L -> L -> Bool) (nxt : Nat -> L -> Bool -> Option L) (choices : Nat -> List Bool)
def fmL : Option L->List L->Option L
 | b,[]=>b
 | none,x::l=>fmL (some x) l
 | some m,x::l=>if fin x<fin m then fmL (some x) l else fmL (some m) l
theorem Vj : ∀(b:Option L) (l r:List L),fmL fin b (l++r)=fmL fin (fmL fin b l) r
 | b,[],r=>by cases b<;>simp [fmL]
 | none,x::l,r=>by rw [List.cons_append,fmL,fmL,Vj]
 | some m,x::l,r=>by
  rw [List.cons_append,fmL,fmL]
  split
  ·rw [Vj]
  ·rw [Vj]
theorem Wh : ∀(l:List L) (m:L),∃z,fmL fin (some m) l=some z/\fin z<=fin m/\ ∀y∈l,fin z<=fin y
 | [],m=>⟨m,rfl,by omega,by simp⟩
 | x::l,m=>by
  rw [fmL]
  split
  ·rename_i h;obtain ⟨z,e,h1,h2⟩:=Wh l x;refine ⟨z,e,by omega,fun y hy=> ?_⟩;rcases List.mem_cons.1 hy with rfl | hy
   ·exact h1
   ·exact h2 y hy
  ·rename_i h;obtain ⟨z,e,h1,h2⟩:=Wh l m;refine ⟨z,e,h1,fun y hy=> ?_⟩;rcases List.mem_cons.1 hy with rfl | hy
   ·omega
   ·exact h2 y hy
theorem Za5 : ∀(l:List L) (m:L),(∀y∈l,fin m<=fin y)->fmL fin (some m) l=some m
 | [],m,_=>rfl
 | x::l,m,h=>by
  have:=h x List.mem_cons_self;rw [fmL,if_neg (by omega)];exact Za5 l m fun y hy=>h y (List.mem_cons_of_mem _ hy)
theorem Zee (A B:List L) (h: ∀y∈B,∃z∈A,fin z<=fin y):fmL fin none (A++B)=fmL fin none A:=by
 rw [Vj]
 cases A with
 | nil=>cases B with
  | nil=>rfl
  | cons y B=>obtain ⟨z,hz,_⟩:=h y List.mem_cons_self;simp at hz
 | cons a A =>
  rw [fmL];obtain ⟨z,e,h1,h2⟩:=Wh fin A a;rw [e];refine Za5 fin B z fun y hy=> ?_;obtain ⟨q,hq,hle⟩:=h y hy;rcases List.mem_cons.1 hq with rfl | hq
  ·omega
  ·have:=h2 q hq;omega
def Z8 : List L->List L->List L
 | out,[]=>out
 | out,x::l=>if out.any (fun m=>beats m x)=true then Z8 out l else Z8 (out++ [x]) l
theorem Ur {R:L->List L} : ∀(c out:List L),(∀x∈out++c,∀m∈out++c,beats m x=true-> ∀y∈R x,∃z∈R m,fin z<=fin y)->fmL fin none ((Z8 beats out c).flatMap R)=fmL fin none ((out++c).flatMap R)
 | [],out,_=>by simp [Z8]
 | x::c,out,h=>by
  rw [Z8]
  split
  ·rename_i hb;obtain ⟨m,hm,hb⟩:=List.any_eq_true.1 hb
   have hb:beats m x=true:=by simpa using hb
   rw [Ur c out (fun a ha b hb=>h a (by simp only [List.mem_append,List.mem_cons] at ha ⊢;rcases ha with h | h<;>simp [h]) b (by simp only [List.mem_append,List.mem_cons] at hb ⊢;rcases hb with h | h<;>simp [h]))];rw [List.flatMap_append,List.flatMap_append,List.flatMap_cons,<- List.append_assoc,Vj,Vj (l:=out.flatMap R++R x)];rw [Zee fin (out.flatMap R) (R x)];intro y hy;obtain ⟨z,hz,hle⟩:=h x (by simp) m (by simp [hm]) hb y hy;exact ⟨z,List.mem_flatMap.2 ⟨m,hm,hz⟩,hle⟩
  ·rw [Ur c (out++ [x]) (by simpa using h)];simp
theorem Vg : ∀(c out:List L),∀x∈Z8 beats out c,x∈out++c
 | [],out,x,h=>by simpa [Z8] using h
 | a::c,out,x,h=>by
  rw [Z8] at h
  split at h
  ·have:=Vg c out x h;simp only [List.mem_append,List.mem_cons] at this ⊢;rcases this with h | h<;>simp [h]
  ·have:=Vg c (out++ [a]) x h;simpa using this
def ZhP : Nat->Nat->List (List Bool)
 | 0,_=> [[]]
 | j+1,k=>(choices k).flatMap fun b=>(ZhP j (k+1)).map (b:: ·)
def WN : Nat->L->List Bool->Option L
 | _,x,[]=>some x
 | k,x,b::bs=>match nxt k x b with
  | some y=>WN (k+1) y bs
  | none=>none
def Yk (j k:Nat) (x:L):List L:=(ZhP choices j k).filterMap (WN nxt k x)
def YB (k:Nat) (l:List L):List L:=l.flatMap fun x=>(choices k).filterMap (nxt k x)
def VW : Nat->Nat->List L->List L
 | 0,_,l=>l
 | j+1,k,l=>VW j (k+1) (Z8 beats [] (YB nxt choices k l))
theorem Qj (k:Nat) (x:L):Yk nxt choices 0 k x= [x]:=rfl
theorem Qi (j k:Nat) (x:L):Yk nxt choices (j+1) k x=((choices k).filterMap (nxt k x)).flatMap (Yk nxt choices j (k+1)):=by
 unfold Yk;rw [ZhP]
 induction choices k with
 | nil=>rfl
 | cons b bs ih =>
  rw [List.flatMap_cons,List.filterMap_append,ih,List.filterMap_cons]
  cases h:nxt k x b with
  | none =>
   rw [List.filterMap_map]
   have:(WN nxt k x∘fun l=>b::l)=fun _=>none:=by funext l;simp [WN,h]
   rw [this];simp
  | some y =>
   rw [List.filterMap_map]
   have:(WN nxt k x∘fun l=>b::l)=WN nxt (k+1) y:=by funext l;simp [WN,h]
   rw [this];rfl
theorem JG {n:Nat} {Inv:Nat->L->Prop} (hI: ∀k x b y,Inv k x->nxt k x b=some y->Inv (k+1) y) (hd: ∀k m x b y,Inv k m->Inv k x->beats m x=true->nxt k x b=some y-> ∃z,nxt k m b=some z/\beats z y=true)
  (he: ∀m x,Inv n m->Inv n x->beats m x=true->fin m<=fin x): ∀(j k:Nat) (m x:L),k+j=n->Inv k m->Inv k x->beats m x=true-> ∀y∈Yk nxt choices j k x,∃z∈Yk nxt choices j k m,fin z<=fin y
 | 0,k,m,x,hk,h1,h2,hb,y,hy=>by
  rw [Qj] at hy ⊢;simp at hy;subst hy
  have hk:k=n:=by omega
  subst hk;exact ⟨m,by simp,he m y h1 h2 hb⟩
 | j+1,k,m,x,hk,h1,h2,hb,y,hy=>by
  rw [Qi] at hy ⊢;obtain ⟨q,hq,hy⟩:=List.mem_flatMap.1 hy;obtain ⟨b,hbm,hn⟩:=List.mem_filterMap.1 hq;obtain ⟨z,hz,hzb⟩:=hd k m x b q h1 h2 hb hn;obtain ⟨u,hu,hle⟩:=JG hI hd he j (k+1) z q (by omega) (hI k m b z h1 hz) (hI k x b q h2 hn) hzb y hy;exact ⟨u,List.mem_flatMap.2 ⟨z,List.mem_filterMap.2 ⟨b,hbm,hz⟩,hu⟩,hle⟩
theorem Zev {n:Nat} {Inv:Nat->L->Prop} (hI: ∀k x b y,Inv k x->nxt k x b=some y->Inv (k+1) y) (hd: ∀k m x b y,Inv k m->Inv k x->beats m x=true->nxt k x b=some y-> ∃z,nxt k m b=some z/\beats z y=true)
  (he: ∀m x,Inv n m->Inv n x->beats m x=true->fin m<=fin x): ∀(j k:Nat) (l:List L),k+j=n->(∀x∈l,Inv k x)->fmL fin none (VW beats nxt choices j k l)=fmL fin none (l.flatMap (Yk nxt choices j k))
 | 0,k,l,hk,hl=>by
  have:l.flatMap (Yk nxt choices 0 k)=l:=by
   have:Yk nxt choices 0 k=fun x=> [x]:=by funext x;exact Qj nxt choices k x
   rw [this];simp
  rw [this];rfl
 | j+1,k,l,hk,hl=>by
  have hc: ∀x∈YB nxt choices k l,Inv (k+1) x:=fun x hx=>by
   obtain ⟨q,hq,hx⟩:=List.mem_flatMap.1 hx;obtain ⟨b,_,hn⟩:=List.mem_filterMap.1 hx;exact hI k q b x (hl q hq) hn
  have e:l.flatMap (Yk nxt choices (j+1) k)=(YB nxt choices k l).flatMap (Yk nxt choices j (k+1)):=by
   rw [YB,List.flatMap_assoc]
   congr 1
   funext x
   exact Qi nxt choices j k x
  rw [VW,Zev hI hd he j (k+1) _ (by omega) (fun x hx=>hc x (by simpa using Vg beats _ _ x hx)),Ur fin beats _ _ (fun x hx m hm hb y hy=> ?_),e]
  ·simp
  ·exact JG fin beats nxt choices hI hd he j (k+1) m x (by omega) (hc m (by simpa using hm)) (hc x (by simpa using hx)) hb y hy
def X3 : List Bool->List (List Bool)
 | []=> [[]]
 | b::bs=>if b then (X3 bs).map (true:: ·) else (X3 bs).map (false:: ·)++(X3 (List.replicate bs.length false)).map (true:: ·)
termination_by l => l.length
decreasing_by all_goals simp
def Xp : List Bool->Option (List Bool)
 | []=>none
 | b::bs=>match Xp bs with
  | some l=>some (b::l)
  | none=>if b then none else some (true::List.replicate bs.length false)
theorem fromB_next : ∀l:List Bool,X3 l=l::(match Xp l with | some r=>X3 r | none=> [])
 | []=>by simp [X3,Xp]
 | b::bs=>by
  have ih:=fromB_next bs
  have e0: ∀l:List Bool,X3 (true::l)=(X3 l).map (true:: ·):=fun l=>by rw [X3];simp
  have e1: ∀l:List Bool,X3 (false::l)=(X3 l).map (false:: ·)++(X3 (List.replicate l.length false)).map (true:: ·):=fun l=>by rw [X3];simp
  cases b with
  | true =>
   rw [e0,ih,Xp]
   cases h:Xp bs with
   | none=>simp
   | some r=>simp [e0]
  | false =>
   rw [e1,ih,Xp]
   cases h:Xp bs with
   | none=>simp [e0]
   | some r =>
    have hl:r.length=bs.length:=nlen bs r h;simp [e1,hl]
where nlen : ∀(l r:List Bool),Xp l=some r->r.length=l.length
 | [],r,h=>by simp [Xp] at h
 | b::bs,r,h=>by
  rw [Xp] at h
  cases h2:Xp bs with
  | none =>
   rw [h2] at h
   cases b<;>simp at h
   subst h;simp
  | some q =>
   rw [h2] at h;simp at h;subst h;simp [nlen bs q h2]
theorem ZaY {n:Nat} : ∀(j k:Nat),(∀q,k<=q->choices q= [false,true])->ZhP choices j k=X3 (List.replicate j false)
 | 0,k,_=>by simp [ZhP,X3]
 | j+1,k,h=>by
  rw [ZhP,h k (Nat.le_refl _),ZaY (n:=n) j (k+1) (fun q hq=>h q (by omega)),List.replicate_succ,X3];simp
end
end Go.Proofs.YtcpmilhkineciaaGreatDoor.K
set_option linter.unusedVariables false
set_option linter.unusedSimpArgs false
namespace Go.Proofs.YtcpmilhkineciaaGreatDoor.K
open Go Go.AM Go.Proofs
set_option maxRecDepth 8000
set_option maxHeartbeats 8000000
@[go_sem] theorem Zr1 {H:List AM.Obj} {n cs cs'} :wkV H n (.tup cs) (.tup cs')=(cs'=cs/\ZJ n cs=true):=by simp [wkV,frz,refB]
@[go_sem] theorem Zb6 {a b:V} :YO [a,b]= .tup [a,b]:=Eq.trans rfl rfl
theorem Zjz {g:FuncId} {args:List V} {a b:PV} {H:List AM.Obj} {K:V->List AM.Obj->Prop} (h:ACalls Tryz.prog g args [] fun x H'=>x= .tup [.p a,.p b]/\H'= []) (k:K (.tup [.p a,.p b]) H) (ha:ZJ 0 args=true:=by rfl):ACalls Tryz.prog g args H K :=
 (h.behind ha H).mono fun x H' hq=>by
  obtain ⟨y,H1,⟨rfl,rfl⟩,rfl,rfl⟩:=hq;simpa [shV,shVs] using k
def ordS (l:List Vis):Nat:=l.foldl (fun s v=>s|||pw v.order.toNat) 0
def inS (v:Vis):Bool:=decide (0<=v.order/\v.order<=62)
theorem Up {l:List Vis} {k:Nat} (hk:k<l.length):ordS (l.take (k+1))=ordS (l.take k)|||pw (nth l k).order.toNat:=by
 rw [List.take_succ_eq_append_getElem hk,ordS,List.foldl_append,Zf hk];rfl
theorem Vn : ∀(k:Nat) {l:List Vis},k<=l.length->(∀v∈l.take k,inS v=true)->ordS (l.take k)<9223372036854775808
 | 0,l,_,_=>by simp [ordS]
 | k+1,l,hk,h=>by
  have hk2:k<l.length:=by omega
  have ih:=Vn k (l:=l) (by omega) fun v hv=>h v (List.take_subset_take_left l (by omega) hv);have hv:=h (nth l k) (by rw [Zf hk2];exact List.mem_iff_getElem.2 ⟨k,by simp;omega,by simp⟩);simp only [inS,decide_eq_true_eq] at hv;have h2:pw (nth l k).order.toNat<=pw 62:=Zaw (by omega);have h3:=Zb7;rw [Up hk2];exact Nat.or_lt_two_pow (n:=63) (by omega) (by omega)
def ordR (l:List Vis):Int×Int:=if l.all inS=true then (((ordS l:Nat):Int),0) else (0,2)
theorem WM (r:Rte) (hl:r.visits.length<=1048576):PT 60 [.p (Xl r)] [.p (.int .i64 (ordR r.visits).1),.p (.int .i64 (ordR r.visits).2)]:=by
 refine Zd [] Tryz.func60 rfl Zuw ?_;simp (disch:=omega) only [Tryz.f60,go_sem,seval];refine Zg [8,9] (fun k:Nat=> [(4,.p (.int .i64 (ordS (r.visits.take k):Nat))),(10,.p (.int .i64 k))]) (fun _=> [Zo r]) (fun k=>k<=r.visits.length/\ ∀j,j<k->inS (nth r.visits j)=true) (fun k=>r.visits.length-k) 0 (by simp) (Weak.mk ?_) ?_
 ·simp (disch:=omega) only [Zo,ordS,List.take_zero,List.foldl_nil,go_sem,seval]
 ·rintro k ⟨hk,hno⟩
  have hlt:=Vn k hk fun v hv=>by
   obtain ⟨j,hj,rfl⟩:=List.mem_iff_getElem.1 hv;simp at hj;rw [List.getElem_take,<- Zf (by omega)];exact hno j (by omega)
  simp (disch:=omega) only [Zo,go_sem,seval];refine cD ?_ ?_<;>intro h<;>simp (disch:=omega) only [Sh.out h,go_sem,seval]
  ·have hk2:k<r.visits.length:=by omega
   have hbad:inS (nth r.visits k)=false->ordR r.visits=(0,2):=fun h4=>by
    have:r.visits.all inS=false:=by rw [List.all_eq_false];exact ⟨nth r.visits k,Zl hk2,by rw [h4];simp⟩
    simp [ordR,this]
   have hs:=Up hk2
   have hp:(nth r.visits k).order<=62->pw (nth r.visits k).order.toNat<=4611686018427387904:=fun h=>by rw [<- Zb7];exact Zaw (by omega)
   refine gF ?_ ?_<;>intro h1<;>simp (disch:=omega) only [Sh.out h1,go_sem,seval]
   ·have e:=hbad (by simp [inS];omega);rw [e];exact we
   ·refine cD ?_ ?_<;>intro h2<;>simp (disch:=omega) only [Sh.out h2,go_sem,seval]
    ·have e:=hbad (by simp [inS];omega);rw [e];exact we
    ·exact ⟨k+1,⟨by omega,Ze.2 ⟨hno,by simp [inS];omega⟩⟩,by omega,Weak.mk (by simp (disch:=omega) only [Zo,hs,go_sem,seval])⟩
  ·have hkl:k=r.visits.length:=by omega
   subst hkl
   have:r.visits.all inS=true:=by
    rw [List.all_eq_true];intro v hv;obtain ⟨j,hj,rfl⟩:=List.mem_iff_getElem.1 hv;rw [<- Zf hj];exact hno j hj
   have e:ordR r.visits=(((ordS r.visits:Nat):Int),0):=by simp [ordR,this]
   rw [e,List.take_length];exact we
def dn (v:Vis):Int:=if v.drp=true then 1 else 0
def Uq (l own:List Vis):Bool:=own.all fun w=>decide (0<=vIx l w)
def ZgN (v:Vis):AM.Obj:= .cells [.p (.int .i64 v.order),.p (.bool v.drp)]
theorem Zfx {l:List Vis} {v:Vis} : -1<=vIx l v/\vIx l v<l.length:=by
 have:=Zeq (f:=fun w=>decide (v=w)) (l:=l);rw [vIx];omega
def ZAm (nx:List Vis->List Vis):Nat->List Vis->List (List Vis)->List (List Vis)×Bool
 | 0,l,outs=>(outs++ [l],decide (outs.length+1<=8192))
 | f+1,l,outs=>(nx l).foldl (fun acc v=>if acc.2=true then ZAm nx f (l++ [v]) acc.1 else acc) (outs,true)
def Uu (S:Nat) (i:Int):Bool:=decide (0<=i/\i<=62)&&S.testBit i.toNat
theorem Va (S:Nat) (i:Int) (hS:S<9223372036854775808):PC 93 [.p (.int .i64 (S:Nat)),.p (.int .i64 i)] (.bool (Uu S i)):=by
 refine Za Tryz.func93 rfl Zws ?_;simp (disch:=omega) only [Tryz.f93,go_sem,seval];refine gT ?_ ?_<;>intro h<;>simp (disch:=omega) only [Sh.out h,go_sem,seval]
 ·refine gT ?_ ?_<;>intro h1<;>simp (disch:=omega) only [Sh.out h1,go_sem,seval]
  ·refine gT ?_ ?_<;>intro h2<;>simp (disch:=omega) only [Sh.out h2,go_sem,seval]
   ·have e:((S / pw i.toNat:Nat):Int).tmod 2=((S / pw i.toNat%2:Nat):Int):=by rw [Int.tmod_eq_emod_of_nonneg (Int.natCast_nonneg _)];exact (Int.natCast_emod _ _).symm
    rw [e];have h3:(((S / pw i.toNat%2:Nat):Int)=1)=(S.testBit i.toNat=true):=KS;have h4:0<=i/\i<=62:=⟨h1,h2⟩;simp only [h3,Uu,h4,and_self,decide_true,Bool.true_and,Bool.decide_eq_true]
   ·simp [Uu,h2]
  ·simp [Uu,h1]
 ·omega
theorem ZaB (x:Inst) (i:Nat) (hi:i<x.orders.length) (hl:x.orders.length<=1048576) (hpl: ∀o∈x.orders,-1<=o.pick.place/\ -1<=o.drp.place):ACalls Tryz.prog 184 [.p (ZK x),.p (.int .i64 (i:Nat))] [] fun y H'=>y= .sl 0 0 (Yj x.orders i).length (Yj x.orders i).length/\H'= [.elems 2 ((Yj x.orders i).map XK)]:=by
 suffices hh:ACalls Tryz.prog 184 [.p (ZK x),.p (.int .i64 (i:Nat))] [] fun y H'=> ∃m:List Vis,m=Yj x.orders i/\y= .sl 0 0 m.length m.length/\H'= [.elems 2 (m.map XK)] by
  refine hh.mono ?_;rintro x H' ⟨m,rfl,h1,h2⟩;exact ⟨h1,h2⟩
 obtain ⟨h1,h2⟩:=hpl _ (Zl hi);refine ZA [2] Tryz.func184 rfl ZoF ?_;simp (disch:=omega) only [Tryz.f184,go_sem,seval];refine Zs (Weak.ofNil 5 2 (by simp (disch:=omega) only [go_sem,seval]) (by simp) (Weak.refl _ _ _)) ?_;refine Zm [1,2] (fun m:List Vis=> [(5,.sl 1 0 m.length m.length)]) (fun m=> [Zb x,.elems 2 (m.map XK)]) (fun m=>m=(if 0<=(nth x.orders i).pick.place then [⟨i,false⟩] else [])) ?_ ?_
 ·simp (disch:=omega) only [go_sem,seval];refine cD ?_ ?_<;>intro h<;>simp (disch:=omega) only [Sh.out h,go_sem,seval]
  ·exact ⟨[⟨i,false⟩],by rw [if_pos (by omega)],Weak.mk (by simp (disch:=omega) only [Zb,go_sem,seval])⟩
  ·exact ⟨[],by rw [if_neg (by omega)],Weak.mk (by simp (disch:=omega) only [Zb,go_sem,seval])⟩
 ·intro m hm
  have hml:m.length<=1:=by rw [hm];split<;>simp
  refine Zc [] _ _ _ _ ?_;simp (disch:=omega) only [Zb,go_sem,seval];refine cD ?_ ?_<;>intro h<;>simp (disch:=omega) only [Sh.out h,go_sem,seval]
  ·exact ⟨m++ [⟨i,true⟩],by rw [Yj,hm,if_pos (c:=0<=(nth x.orders i).drp.place) (by omega)],1,by simp (disch:=omega) only [go_sem,seval]⟩
  ·exact ⟨m,by rw [Yj,hm,if_neg (c:=0<=(nth x.orders i).drp.place) (by omega),List.append_nil],1,by simp (disch:=omega) only [go_sem,seval]⟩
theorem Zdi (x:Inst) (i:Nat) (hi:i<x.orders.length) (hl:x.orders.length<=1048576) (hpl: ∀o∈x.orders,-1<=o.pick.place/\ -1<=o.drp.place):PC 184 [.p (ZK x),.p (.int .i64 (i:Nat))] (.list false ((Yj x.orders i).map XK)) :=
 (ZaB x i hi hl hpl).frozen (by simp)
theorem W5 (l:List Vis) (c:Bool) (v:Vis) (hl:l.length<=1048576):PC 136 [.p (.list c (l.map XK)),.p (XK v)] (.int .i64 (vIx l v)):=by
 refine Za Tryz.func136 rfl Zn0 ?_;simp (disch:=omega) only [Tryz.f136,go_sem,seval];refine Zg [0,3] (fun k:Nat=> [(5,.p (.int .i64 k))]) (fun _=> [ZgN v]) (fun k=>k<=l.length/\ ∀j,j<k->decide (v=nth l j)=false) (fun k=>l.length-k) 0 (by simp) (Weak.mk ?_) ?_
 ·simp (disch:=omega) only [ZgN,go_sem,seval]
 ·rintro k ⟨hk,hno⟩;simp (disch:=omega) only [ZgN,go_sem,seval];refine cD ?_ ?_<;>intro h<;>simp (disch:=omega) only [Sh.out h,go_sem,seval]
  ·have hk2:k<l.length:=by omega
   refine Zh Zp (by kernel_rfl) (by kernel_rfl) ?_;simp (disch:=omega) only [go_sem,seval];refine cD ?_ ?_<;>intro h2<;>simp (disch:=omega) only [Sh.out h2,go_sem,seval]
   ·have:v=nth l k:=Eq.symm (by rw [JR];simpa using h2);rw [vIx,Zbp hk2 (by simpa using this) hno]
   ·have: ¬v=nth l k:=fun e=>by rw [<- e] at h2;simp at h2
    exact ⟨k+1,⟨by omega,Ze.2 ⟨hno,by simpa using this⟩⟩,by omega,Weak.mk (by simp (disch:=omega) only [ZgN,go_sem,seval])⟩
  ·have hkl:k=l.length:=by omega
   subst hkl;rw [vIx,Zea hno]
theorem Zao (l s:List Vis) (c d:Bool) (hl:l.length<=1048576) (hs:s.length<=1048576):PC 185 [.p (.list c (l.map XK)),.p (.list d (s.map XK))] (.bool (Uq l s)):=by
 refine Za Tryz.func185 rfl Zl0 ?_;simp (disch:=omega) only [Tryz.f185,go_sem,seval];refine Zg [0,1] (fun k:Nat=> [(5,.p (.int .i64 k))]) (fun _=> []) (fun k=>k<=s.length/\ ∀j,j<k->decide (0<=vIx l (nth s j))=true) (fun k=>s.length-k) 0 (by simp) (Weak.mk ?_) ?_
 ·simp (disch:=omega) only [go_sem,seval]
 ·rintro k ⟨hk,hno⟩;simp (disch:=omega) only [go_sem,seval];refine cD ?_ ?_<;>intro h<;>simp (disch:=omega) only [Sh.out h,go_sem,seval]
  ·have hk2:k<s.length:=by omega
   refine (W5 l c (nth s k) hl).use ?_;simp (disch:=omega) only [go_sem,seval];refine cD ?_ ?_<;>intro h2<;>simp (disch:=omega) only [Sh.out h2,go_sem,seval]
   ·have:Uq l s=false:=by rw [Uq,List.all_eq_false];exact ⟨nth s k,Zl hk2,by simp;omega⟩
    rw [this]
   ·exact ⟨k+1,⟨by omega,Ze.2 ⟨hno,by simp;omega⟩⟩,by omega,wk⟩
  ·have hkl:k=s.length:=by omega
   subst hkl
   have:Uq l s=true:=by
    rw [Uq,List.all_eq_true];intro w hw;obtain ⟨j,hj,rfl⟩:=List.mem_iff_getElem.1 hw;rw [<- Zf hj];exact hno j hj
   rw [this]
theorem ZfD {S n:Nat} (h:S.testBit n=true):S|||pw n=S:=by
 apply Nat.eq_of_testBit_eq;intro i;rw [Nat.testBit_or,Qq]
 by_cases h2:n=i
 ·subst h2;simp [h]
 ·simp [h2]
theorem Zhp {S n:Nat} (h:S.testBit n=false):S|||pw n=S+pw n:=by
 have e:S%2^(n+1)=S%2^n+2^n*(S / 2^n%2):=Nat.mod_pow_succ;rw [Nat.testBit_eq_decide_div_mod_eq] at h
 have h0:S / 2^n%2=0:=by simp at h;omega
 rw [h0,Nat.mul_zero,Nat.add_zero] at e;have hp:0<2^n:=Nat.two_pow_pos n
 have hs:2^(n+1)=2^n+2^n:=by rw [Nat.pow_succ];omega
 have r1:S%2^(n+1)<2^n:=by rw [e];exact Nat.mod_lt _ hp
 have e1:=Nat.two_pow_add_eq_or_of_lt (i:=n) r1 1;have e2:=Nat.two_pow_add_eq_or_of_lt (i:=n+1) (b:=2^n*1+S%2^(n+1)) (by omega) (S / 2^(n+1));have e3:=Nat.two_pow_add_eq_or_of_lt (i:=n+1) (b:=S%2^(n+1)) (by omega) (S / 2^(n+1));have e4:=Nat.div_add_mod S (2^(n+1));rw [pw]
 calc S|||2^n=(2^(n+1)*(S / 2^(n+1))+S%2^(n+1))|||2^n:=by rw [e4]
  _=2^(n+1)*(S / 2^(n+1))|||(2^n*1|||S%2^(n+1)):=by rw [e3,Nat.or_assoc,Nat.mul_one,Nat.or_comm (2^n)]
  _=2^(n+1)*(S / 2^(n+1))+(2^n*1+S%2^(n+1)):=by rw [<- e1,<- e2]
  _=S+2^n:=by omega
theorem KE (r:Rte) (hl:r.visits.length<=1048576):PT 56 [.p (Xl r)] [.p (.int .i64 (ordR r.visits).1),.p (.int .i64 (ordR r.visits).2)]:=by
 refine Zd [] Tryz.func56 rfl Zwr ?_;simp (disch:=omega) only [Tryz.f56,go_sem,seval];refine Zg [1] (fun k:Nat=> [(4,.p (.int .i64 (ordS (r.visits.take k):Nat))),(5,.p (.int .i64 k))]) (fun _=> [Zo r]) (fun k=>k<=r.visits.length/\ ∀j,j<k->inS (nth r.visits j)=true) (fun k=>r.visits.length-k) 0 (by simp) (Weak.mk ?_) ?_
 ·simp (disch:=omega) only [Zo,ordS,List.take_zero,List.foldl_nil,go_sem,seval]
 ·rintro k ⟨hk,hno⟩
  have hlt:=Vn k hk fun v hv=>by
   obtain ⟨j,hj,rfl⟩:=List.mem_iff_getElem.1 hv;simp at hj;rw [List.getElem_take,<- Zf (by omega)];exact hno j (by omega)
  simp (disch:=omega) only [Zo,go_sem,seval];refine cD ?_ ?_<;>intro h<;>simp (disch:=omega) only [Sh.out h,go_sem,seval]
  ·have hk2:k<r.visits.length:=by omega
   have hbad:inS (nth r.visits k)=false->ordR r.visits=(0,2):=fun h4=>by
    have:r.visits.all inS=false:=by rw [List.all_eq_false];exact ⟨nth r.visits k,Zl hk2,by rw [h4];simp⟩
    simp [ordR,this]
   have hs:=Up hk2
   have hp:(nth r.visits k).order<=62->pw (nth r.visits k).order.toNat<=4611686018427387904:=fun h=>by rw [<- Zb7];exact Zaw (by omega)
   refine gF ?_ ?_<;>intro h1<;>simp (disch:=omega) only [Sh.out h1,go_sem,seval]
   ·have e:=hbad (by simp [inS];omega);rw [e];exact we
   ·refine cD ?_ ?_<;>intro h2<;>simp (disch:=omega) only [Sh.out h2,go_sem,seval]
    ·have e:=hbad (by simp [inS];omega);rw [e];exact we
    ·have h4:=hp (by omega);refine (Va (ordS (r.visits.take k)) (nth r.visits k).order hlt).use ?_;simp (disch:=omega) only [go_sem,seval]
     have hin:0<=(nth r.visits k).order/\(nth r.visits k).order<=62:=by omega
     have hnh:Uu (ordS (r.visits.take k)) (nth r.visits k).order=(ordS (r.visits.take k)).testBit (nth r.visits k).order.toNat:=by simp [Uu,hin]
     rw [hnh];have hno2:=(Ze (p:=fun j=>inS (nth r.visits j)=true)).2 ⟨hno,by simp [inS];omega⟩
     have hlt2:=Vn (k+1) hk2 fun v hv=>by
      obtain ⟨j,hj,rfl⟩:=List.mem_iff_getElem.1 hv;simp at hj;rw [List.getElem_take,<- Zf (by omega)];exact hno2 j (by omega)
     refine cD ?_ ?_<;>intro h5<;>simp (disch:=omega) only [Sh.out h5,go_sem,seval]
     ·have h6:(ordS (r.visits.take k)).testBit (nth r.visits k).order.toNat=false:=by simpa using h5
      rw [Zhp h6] at hs;rw [hs] at hlt2;exact ⟨k+1,⟨by omega,hno2⟩,by omega,Weak.mk (by simp (disch:=omega) only [Zo,hs,Int.natCast_add,go_sem,seval])⟩
     ·have h6:(ordS (r.visits.take k)).testBit (nth r.visits k).order.toNat=true:=by simpa using h5
      rw [ZfD h6] at hs;exact ⟨k+1,⟨by omega,hno2⟩,by omega,Weak.mk (by simp (disch:=omega) only [Zo,hs,go_sem,seval])⟩
  ·have hkl:k=r.visits.length:=by omega
   subst hkl
   have:r.visits.all inS=true:=by
    rw [List.all_eq_true];intro v hv;obtain ⟨j,hj,rfl⟩:=List.mem_iff_getElem.1 hv;rw [<- Zf hj];exact hno j hj
   have e:ordR r.visits=(((ordS r.visits:Nat):Int),0):=by simp [ordR,this]
   rw [e,List.take_length];exact we
def Plc (x:Inst):Prop:= ∀o∈x.orders,-1<=o.pick.place/\ -1<=o.drp.place
theorem Zjd {l:List Vis} {v w:Vis} (h:vIx l v=vIx l w) (h0:0<=vIx l v):v=w:=by
 unfold vIx fIx at h h0
 cases hv:l.findIdx? (fun u=>decide (v=u)) with
 | none=>rw [hv] at h0;simp at h0
 | some i =>
  rw [hv] at h
  cases hw:l.findIdx? (fun u=>decide (w=u)) with
  | none=>rw [hw] at h;simp at h
  | some j =>
   rw [hw] at h
   have hij:i=j:=by simp at h;omega
   subst hij;rw [List.findIdx?_eq_some_iff_getElem] at hv hw;obtain ⟨h1,h2,_⟩:=hv;obtain ⟨_,h4,_⟩:=hw;simp at h2 h4;rw [h2,h4]
theorem Zce (os:List Ord) (i:Nat):Yj os i= []\/Yj os i= [⟨i,false⟩]\/Yj os i= [⟨i,true⟩]\/Yj os i= [⟨i,false⟩,⟨i,true⟩]:=by
 unfold Yj;split<;>split<;>simp
theorem Zgu {l own:List Vis} (ho:own= []\/(∃v,own= [v])\/ ∃v w,own= [v,w]/\v≠w) :
  Ju l (-1) own=(Uq l own&& !(decide (own.length=2)&&decide (vIx l (nth own 1)<vIx l (nth own 0)))):=by
 rcases ho with rfl | ⟨v,rfl⟩ | ⟨v,w,rfl,hne⟩
 ·rfl
 ·have:= @Zfx l v
  by_cases h:0<=vIx l v
  ·have: -1<vIx l v:=by omega
   simp [Ju,Uq,h,this]
  ·have: ¬ -1<vIx l v:=by omega
   simp [Ju,Uq,h,this]
 ·have hne2:0<=vIx l v->vIx l v≠vIx l w:=fun h0 h=>hne (Zjd h h0);have h1:= @Zfx l v;have h2:= @Zfx l w;rw [Bool.eq_iff_iff];simp [Ju,Uq,nth];omega
theorem ZfR (os:List Ord) (i:Nat):Yj os i= []\/(∃v,Yj os i= [v])\/ ∃v w,Yj os i= [v,w]/\v≠w:=by
 rcases Zce os i with h | h | h | h
 ·exact .inl h
 ·exact .inr (.inl ⟨_,h⟩)
 ·exact .inr (.inl ⟨_,h⟩)
 ·exact .inr (.inr ⟨_,_,h,by simp⟩)
theorem Zbn {α:Type} [Inhabited α] {l:List α} {f:α->Bool} {k:Nat} (hk:k<l.length) (h:f (nth l k)=false):l.all f=false:=by
 rw [List.all_eq_false];exact ⟨nth l k,Zl hk,by rw [h];simp⟩
theorem Zer {α:Type} [Inhabited α] {l:List α} {f:α->Bool} (h: ∀j,j<l.length->f (nth l j)=true):l.all f=true:=by
 rw [List.all_eq_true];intro v hv;obtain ⟨j,hj,rfl⟩:=List.mem_iff_getElem.1 hv;rw [<- Zf hj];exact h j hj
theorem ZdV (x:Inst) (l:List Vis) (c:Bool) (hl:l.length<=1048576) (ho:x.orders.length<=1048576) (hp:Plc x) (hv: ∀v∈l,0<=v.order/\v.order<x.orders.length) :
  PC 137 [.p (ZK x),.p (.list c (l.map XK))] (.bool (l.all (pairB x.orders l))):=by
 refine Za Tryz.func137 rfl ZqE ?_;simp (disch:=omega) only [Tryz.f137,go_sem,seval];refine Zg [1,2] (fun k:Nat=> [(5,.p (.int .i64 k))]) (fun _=> [Zb x]) (fun k=>k<=l.length/\ ∀j,j<k->pairB x.orders l (nth l j)=true) (fun k=>l.length-k) 0 (by simp) (Weak.mk ?_) ?_
 ·simp (disch:=omega) only [Zb,go_sem,seval]
 ·rintro k ⟨hk,hno⟩;simp (disch:=omega) only [Zb,go_sem,seval];refine cD ?_ ?_<;>intro h<;>simp (disch:=omega) only [Sh.out h,go_sem,seval]
  ·have hk2:k<l.length:=by omega
   obtain ⟨v1,v2⟩:=hv _ (Zl hk2);obtain ⟨i,hi⟩: ∃i:Nat,(nth l k).order=(i:Int):=⟨(nth l k).order.toNat,by omega⟩;rw [hi] at v1 v2
   have hpb:pairB x.orders l (nth l k)=(decide (0<=vIx (Yj x.orders i) (nth l k))&&Ju l (-1) (Yj x.orders i)):=by rw [pairB,hi];rfl
   have hown:=ZfR x.orders i;rw [Zgu hown] at hpb;refine Zh Zp (by kernel_rfl) (by kernel_rfl) ?_;simp (disch:=omega) only [hi,go_sem,seval];refine Zn (Zdi x i (by omega) ho hp) ?_;simp (disch:=omega) only [go_sem,seval];have hvl:=Zbc x.orders i;generalize Yj x.orders i=own at hvl hpb;have hix:=W5 own false (nth l k) (by omega);rw [ZeS,hi] at hix;refine Zh Zp (by kernel_rfl) (by kernel_rfl) ?_;simp (disch:=omega) only [hi,go_sem,seval];refine Zn (hix) ?_;simp (disch:=omega) only [go_sem,seval];refine gF ?_ ?_<;>intro h2<;>simp (disch:=omega) only [Sh.out h2,go_sem,seval]
   ·have h3: ¬ 0<=vIx own (nth l k):=by omega
    rw [Zbn hk2 (by rw [hpb];simp [h3])]
   ·have h3:0<=vIx own (nth l k):=by omega
    have hgo:pairB x.orders l (nth l k)=true-> ∀j,j<k+1->pairB x.orders l (nth l j)=true:=fun e=>Ze.2 ⟨hno,e⟩;refine Zn (Zao l own c false hl (by omega)) ?_;simp (disch:=omega) only [go_sem,seval];refine gF ?_ ?_<;>intro h4<;>simp (disch:=omega) only [Sh.out h4,go_sem,seval]
    ·have h5:Uq l own=false:=by simpa using h4
     rw [Zbn hk2 (by rw [hpb,h5];simp)]
    ·have h5:Uq l own=true:=by simpa using h4
     rw [h5] at hpb;refine gT ?_ ?_<;>intro h6<;>simp (disch:=omega) only [Sh.out h6,go_sem,seval]
     ·have h7:own.length=2:=by omega
      refine Zn (W5 l c (nth own 0) hl) ?_;simp (disch:=omega) only [go_sem,seval];refine Zn (W5 l c (nth own 1) hl) ?_;simp (disch:=omega) only [go_sem,seval];refine cD ?_ ?_<;>intro h8<;>simp (disch:=omega) only [Sh.out h8,go_sem,seval]
      ·rw [Zbn hk2 (by rw [hpb];simp [h7,h8])]
      ·exact ⟨k+1,⟨by omega,hgo (by rw [hpb];simp [h3];omega)⟩,by omega,Weak.mk (by simp (disch:=omega) only [Zb,go_sem,seval])⟩
     ·exact ⟨k+1,⟨by omega,hgo (by rw [hpb];simp [h3];omega)⟩,by omega,Weak.mk (by simp (disch:=omega) only [Zb,go_sem,seval])⟩
  ·have hkl:k=l.length:=by omega
   subst hkl;rw [Zer hno]
def apB (x:Inst) (S:Nat):Bool:=x.apart.any fun p=>Uu S p.1&&Uu S p.2
theorem Zhx (x:Inst) (S:Nat) (hS:S<9223372036854775808) (ha:x.apart.length<=1048576):PC 138 [.p (ZK x),.p (.int .i64 (S:Nat))] (.bool (!apB x S)):=by
 refine Za Tryz.func138 rfl Zrv ?_;simp (disch:=omega) only [Tryz.f138,go_sem,seval];refine Zg [1,2] (fun k:Nat=> [(5,.p (.int .i64 k))]) (fun _=> [Zb x]) (fun k=>k<=x.apart.length/\ ∀j,j<k->(Uu S (nth x.apart j).1&&Uu S (nth x.apart j).2)=false) (fun k=>x.apart.length-k) 0 (by simp) (Weak.mk ?_) ?_
 ·simp (disch:=omega) only [Zb,go_sem,seval]
 ·rintro k ⟨hk,hno⟩;simp (disch:=omega) only [Zb,go_sem,seval];refine cD ?_ ?_<;>intro h<;>simp (disch:=omega) only [Sh.out h,go_sem,seval]
  ·have hk2:k<x.apart.length:=by omega
   refine (Va S (nth x.apart k).1 hS).use ?_;simp (disch:=omega) only [go_sem,seval];refine gT ?_ ?_<;>intro h2<;>simp (disch:=omega) only [Sh.out h2,go_sem,seval]
   ·refine (Va S (nth x.apart k).2 hS).use ?_;simp (disch:=omega) only [go_sem,seval];refine cD ?_ ?_<;>intro h3<;>simp (disch:=omega) only [Sh.out h3,go_sem,seval]
    ·have:apB x S=true:=Vs hk2 (by rw [h2,h3];rfl);rw [this];rfl
    ·exact ⟨k+1,⟨by omega,Ze.2 ⟨hno,by rw [h2,h3];rfl⟩⟩,by omega,Weak.mk (by simp (disch:=omega) only [Zb,go_sem,seval])⟩
   ·exact ⟨k+1,⟨by omega,Ze.2 ⟨hno,by rw [h2];rfl⟩⟩,by omega,Weak.mk (by simp (disch:=omega) only [Zb,go_sem,seval])⟩
  ·have hkl:k=x.apart.length:=by omega
   subst hkl;have:apB x S=false:=JB hno;rw [this];rfl
def VY (l:List Vis) (a b:Int) (j k:Nat):Bool:=decide ((nth l j).order=a)&&decide ((nth l k).order=b)
def Vc (S:Nat) (l:List Vis) (p:Int×Int):Bool:= !Uu S p.2||(Uu S p.1&&(List.range l.length).all fun j=>(List.range j).all fun k=> !VY l p.1 p.2 j k)
theorem Zfg (x:Inst) (S:Nat) (l:List Vis) (c:Bool) (hS:S<9223372036854775808) (hl:l.length<=1048576) (hb:x.before.length<=1048576):PC 139 [.p (ZK x),.p (.int .i64 (S:Nat)),.p (.list c (l.map XK))] (.bool (x.before.all (Vc S l))):=by
 refine Za Tryz.func139 rfl Zmk ?_;simp (disch:=omega) only [Tryz.f139,go_sem,seval];refine Zg [1,2,3] (fun k:Nat=> [(7,.p (.int .i64 k))]) (fun _=> [Zb x]) (fun k=>k<=x.before.length/\ ∀j,j<k->Vc S l (nth x.before j)=true) (fun k=>x.before.length-k) 0 (by simp) (Weak.mk ?_) ?_
 ·simp (disch:=omega) only [Zb,go_sem,seval]
 ·rintro i ⟨hi,hno⟩;simp (disch:=omega) only [Zb,go_sem,seval];refine cD ?_ ?_<;>intro h<;>simp (disch:=omega) only [Sh.out h,go_sem,seval]
  ·have hi2:i<x.before.length:=by omega
   have hgo:Vc S l (nth x.before i)=true-> ∀j,j<i+1->Vc S l (nth x.before j)=true:=fun e=>Ze.2 ⟨hno,e⟩;have hbad:Vc S l (nth x.before i)=false->x.before.all (Vc S l)=false:=fun e=>Zbn hi2 e;have hdef:Vc S l (nth x.before i)=(!Uu S (nth x.before i).2||(Uu S (nth x.before i).1&&(List.range l.length).all fun j=>(List.range j).all fun k=> !VY l (nth x.before i).1 (nth x.before i).2 j k)):=rfl;generalize Vc S l (nth x.before i)=R at hgo hbad hdef;generalize nth x.before i=p at hdef ⊢;refine (Va S p.2 hS).use ?_;simp (disch:=omega) only [go_sem,seval]
   refine cD ?_ ?_<;>intro h2<;>simp (disch:=omega) only [Sh.out h2,go_sem,seval]
   ·have h3:Uu S p.2=false:=by simpa using h2
    exact ⟨i+1,⟨by omega,hgo (by rw [hdef,h3];rfl)⟩,by omega,Weak.mk (by simp (disch:=omega) only [Zb,go_sem,seval])⟩
   ·have h3:Uu S p.2=true:=by simpa using h2
    refine (Va S p.1 hS).use ?_;simp (disch:=omega) only [go_sem,seval];refine cD ?_ ?_<;>intro h4<;>simp (disch:=omega) only [Sh.out h4,go_sem,seval]
    ·have h5:Uu S p.1=false:=by simpa using h4
     rw [hbad (by rw [hdef,h3,h5];rfl)]
    ·have h5:Uu S p.1=true:=by simpa using h4
     rw [h3,h5] at hdef;simp only [Bool.not_true,Bool.false_or,Bool.true_and] at hdef;refine Zg [1,2,3,7,8,9] (fun k:Nat=> [(10,.p (.int .i64 k))]) (fun _=> [Zb x]) (fun k=>k<=l.length/\ ∀j,j<k-> ∀q,q<j->VY l p.1 p.2 j q=false) (fun k=>l.length-k) 0 (by simp) (Weak.mk ?_) ?_
     ·simp (disch:=omega) only [Zb,go_sem,seval]
     ·rintro j ⟨hj,hnj⟩;simp (disch:=omega) only [Zb,go_sem,seval];refine cD ?_ ?_<;>intro h6<;>simp (disch:=omega) only [Sh.out h6,go_sem,seval]
      ·have hj2:j<l.length:=by omega
       refine Zg [1,2,3,7,8,9,10] (fun k:Nat=> [(11,.p (.int .i64 k))]) (fun _=> [Zb x]) (fun k=>k<=j/\ ∀q,q<k->VY l p.1 p.2 j q=false) (fun k=>j-k) 0 (by simp) (Weak.mk ?_) ?_
       ·simp (disch:=omega) only [Zb,go_sem,seval]
       ·rintro k ⟨hk,hnk⟩;simp (disch:=omega) only [Zb,go_sem,seval];refine cD ?_ ?_<;>intro h7<;>simp (disch:=omega) only [Sh.out h7,go_sem,seval]
        ·have hk2:k<j:=by omega
         refine gT ?_ ?_<;>intro h8<;>simp (disch:=omega) only [Sh.out h8,go_sem,seval]
         ·refine cD ?_ ?_<;>intro h9<;>simp (disch:=omega) only [Sh.out h9,go_sem,seval]
          ·rw [hbad (by
            rw [hdef,List.all_eq_false];refine ⟨j,by simpa using hj2,?_⟩;rw [Bool.not_eq_true,List.all_eq_false]
            exact ⟨k,by simpa using hk2,by simp [VY,h8,h9]⟩)]
          ·exact ⟨k+1,⟨by omega,Ze.2 ⟨hnk,by simp [VY,h9]⟩⟩,by omega,Weak.mk (by simp (disch:=omega) only [Zb,go_sem,seval])⟩
         ·exact ⟨k+1,⟨by omega,Ze.2 ⟨hnk,by simp [VY,h8]⟩⟩,by omega,Weak.mk (by simp (disch:=omega) only [Zb,go_sem,seval])⟩
        ·have hkl:k=j:=by omega
         subst hkl;exact ⟨k+1,⟨by omega,(Ze (p:=fun j=> ∀q,q<j->VY l p.1 p.2 j q=false)).2 ⟨hnj,hnk⟩⟩,by omega,Weak.mk (by simp (disch:=omega) only [Zb,go_sem,seval])⟩
      ·have hjl:j=l.length:=by omega
       subst hjl;refine ⟨i+1,⟨by omega,hgo ?_⟩,by omega,Weak.mk (by simp (disch:=omega) only [Zb,go_sem,seval])⟩;rw [hdef,List.all_eq_true];intro j hj;rw [List.all_eq_true];intro k hk;simp at hj hk;simp [hnj j hj k hk]
  ·have hkl:i=x.before.length:=by omega
   subst hkl;rw [Zer hno]
theorem Zga {S:Nat} {i:Int} :Uu S i=true↔0<=i/\i<=62/\S.testBit i.toNat=true:=by simp [Uu,and_assoc]
theorem WB {l:List Vis} {v:Vis} :0<=vIx l v↔v∈l:=by
 have:=Zec (f:=fun w=>decide (v=w)) (l:=l)
 have h2:(l.any fun w=>decide (v=w))=true↔v∈l:=by
  rw [List.any_eq_true];exact ⟨fun ⟨w,hw,e⟩=>by simp at e;rw [e];exact hw,fun h=>⟨v,h,by simp⟩⟩
 rw [<- h2,<- this,vIx];simp
def Vne (x:Inst):Prop:= ∀i,i<x.orders.length->Yj x.orders i≠ []
def ext (nx:List Vis->List Vis):Nat->List Vis->List (List Vis)->List (List Vis)
 | 0,l,outs=>if 8192<outs.length then outs else outs++ [l]
 | f+1,l,outs=>if 8192<outs.length then outs else (nx l).foldl (fun acc v=>ext nx f (l++ [v]) acc) outs
def Zih (x:Inst) (l:List Vis):Int :=
 if l.any (VN x)=true then 2
 else if l.length=0 then 2
 else if (l.any fun v=>(nth x.orders v.order.toNat).off)=true then 9
 else if ((List.range l.length).any fun i=>decide (vIx l (nth l i)≠(i:Int)))=true then 6
 else if l.all (pairB x.orders l)=false then 19
 else if apB x (ordS l)=true then 20
 else if x.before.all (Vc (ordS l) l)=false then 21
 else 0
theorem ZcK (x:Inst) (r:Rte) (ho:x.orders.length<=60) (hl:r.visits.length<=1048576) (hap:x.apart.length<=1048576) (hbe:x.before.length<=1048576) (hp:Plc x) :
  PC 87 [.p (ZK x),.p (Xl r)] (.int .i64 (Zih x r.visits)):=by
 refine Za Tryz.func87 rfl Zv7 ?_;simp (disch:=omega) only [Tryz.f87,go_sem,seval];refine Zg [2,3,5] (fun k:Nat=> [(6,.p (.int .i64 k))]) (fun _=> [Zb x,Zo r]) (fun k=>k<=r.visits.length/\ ∀j,j<k->VN x (nth r.visits j)=false) (fun k=>r.visits.length-k) 0 (by simp) (Weak.mk ?_) ?_
 ·simp (disch:=omega) only [Zb,Zo,go_sem,seval]
 ·rintro k ⟨hk,hno⟩;simp (disch:=omega) only [Zb,Zo,go_sem,seval];refine cD ?_ ?_<;>intro h<;>simp (disch:=omega) only [Sh.out h,go_sem,seval]
  ·have hk2:k<r.visits.length:=by omega
   refine Zh Zp (by kernel_rfl) (by kernel_rfl) ?_;simp (disch:=omega) only [go_sem,seval];refine gF ?_ ?_<;>intro h2<;>simp (disch:=omega) only [Sh.out h2,go_sem,seval]
   ·have:VN x (nth r.visits k)=true:=by simp [VN];omega
    rw [Zih,if_pos (Vs hk2 this)]
   ·refine cD ?_ ?_<;>intro h3<;>simp (disch:=omega) only [Sh.out h3,go_sem,seval]
    ·have:VN x (nth r.visits k)=true:=by simp [VN];omega
     rw [Zih,if_pos (Vs hk2 this)]
    ·exact ⟨k+1,⟨by omega,Ze.2 ⟨hno,by simp [VN];omega⟩⟩,by omega,Weak.mk (by simp (disch:=omega) only [Zb,Zo,go_sem,seval])⟩
  ·have hkl:k=r.visits.length:=by omega
   subst hkl
   have hr1:Zih x r.visits=if r.visits.length=0 then 2 else if (r.visits.any fun v=>(nth x.orders v.order.toNat).off)=true then 9 else if ((List.range r.visits.length).any fun i=>decide (vIx r.visits (nth r.visits i)≠(i:Int)))=true then 6 else if r.visits.all (pairB x.orders r.visits)=false then 19 else if apB x (ordS r.visits)=true then 20 else if x.before.all (Vc (ordS r.visits) r.visits)=false then 21 else 0:=by
    rw [Zih,if_neg (by rw [JB hno];simp)]
   have hin: ∀j,j<r.visits.length->0<=(nth r.visits j).order/\(nth r.visits j).order<x.orders.length:=fun j hj=>by
    have:=hno j hj;simpa [VN] using this
   have hmem: ∀v∈r.visits,0<=v.order/\v.order<x.orders.length:=fun v hv=>by
    obtain ⟨j,hj,rfl⟩:=List.mem_iff_getElem.1 hv;rw [<- Zf hj];exact hin j hj
   have hord:ordR r.visits=(((ordS r.visits:Nat):Int),0):=by
    rw [ordR,if_pos];rw [List.all_eq_true];intro v hv;have:=hmem v hv;simp [inS];omega
   have hlt:ordS r.visits<9223372036854775808:=by
    have:=Vn r.visits.length (l:=r.visits) (Nat.le_refl _) (fun v hv=>by
     rw [List.take_length] at hv;have:=hmem v hv
     simp [inS];omega)
    rwa [List.take_length] at this
   have hoc:=KE r hl;rw [hord] at hoc;refine Zjz hoc ?_;simp (disch:=omega) only [Zb,Zo,go_sem,seval];refine cD ?_ ?_<;>intro h3<;>simp (disch:=omega) only [Sh.out h3,go_sem,seval]
   ·rw [hr1,if_pos (by omega)]
   ·rw [hr1,if_neg (by omega)];clear hno hr1 h3 h hk;refine Zg [2,5,7] (fun k:Nat=> [(9,.p (.int .i64 k))]) (fun _=> [Zb x,Zo r]) (fun k=>k<=r.visits.length/\ ∀j,j<k->(nth x.orders (nth r.visits j).order.toNat).off=false) (fun k=>r.visits.length-k) 0 (by simp) (Weak.mk ?_) ?_
    ·simp (disch:=omega) only [Zb,Zo,go_sem,seval]
    ·rintro k ⟨hk,hno⟩;simp (disch:=omega) only [Zb,Zo,go_sem,seval];refine cD ?_ ?_<;>intro h<;>simp (disch:=omega) only [Sh.out h,go_sem,seval]
     ·have hk2:k<r.visits.length:=by omega
      obtain ⟨i1,i2⟩:=hin k hk2
      have i3:(nth r.visits k).order.toNat<x.orders.length:=by omega
      refine Zh Zp (by kernel_rfl) (by kernel_rfl) ?_;simp (disch:=omega) only [XY,go_sem,seval];refine cD ?_ ?_<;>intro h4<;>simp (disch:=omega) only [Sh.out h4,go_sem,seval]
      ·rw [if_pos (Vs hk2 h4)]
      ·exact ⟨k+1,⟨by omega,Ze.2 ⟨hno,h4⟩⟩,by omega,Weak.mk (by simp (disch:=omega) only [Zb,Zo,go_sem,seval])⟩
     ·have hkl:k=r.visits.length:=by omega
      subst hkl;have e9:(r.visits.any fun v=>(nth x.orders v.order.toNat).off)=false:=JB hno;rw [e9,if_neg (by simp)];clear hno h hk;refine Zg [2,5,7] (fun k:Nat=> [(10,.p (.int .i64 k))]) (fun _=> [Zb x,Zo r]) (fun k=>k<=r.visits.length/\ ∀j,j<k->vIx r.visits (nth r.visits j)=(j:Int)) (fun k=>r.visits.length-k) 0 (by simp) (Weak.mk ?_) ?_
      ·simp (disch:=omega) only [Zb,Zo,go_sem,seval]
      ·rintro k ⟨hk,hno⟩;simp (disch:=omega) only [Zb,Zo,go_sem,seval];refine cD ?_ ?_<;>intro h<;>simp (disch:=omega) only [Sh.out h,go_sem,seval]
       ·have hk2:k<r.visits.length:=by omega
        refine (W5 r.visits r.visits_c (nth r.visits k) hl).use ?_;simp (disch:=omega) only [go_sem,seval];refine cD ?_ ?_<;>intro h4<;>simp (disch:=omega) only [Sh.out h4,go_sem,seval]
        ·have:((List.range r.visits.length).any fun i=>decide (vIx r.visits (nth r.visits i)≠(i:Int)))=true:=by
          rw [List.any_eq_true];exact ⟨k,by simpa using hk2,by simpa using h4⟩
         rw [if_pos this]
        ·exact ⟨k+1,⟨by omega,Ze.2 ⟨hno,by omega⟩⟩,by omega,Weak.mk (by simp (disch:=omega) only [Zb,Zo,go_sem,seval])⟩
       ·have hkl:k=r.visits.length:=by omega
        subst hkl
        have:((List.range r.visits.length).any fun i=>decide (vIx r.visits (nth r.visits i)≠(i:Int)))=false:=by
         rw [List.any_eq_false];intro i hi;simpa using hno i (by simpa using hi)
        rw [this,if_neg (by simp)];refine (ZdV x r.visits r.visits_c hl (by omega) hp hmem).use ?_;simp (disch:=omega) only [go_sem,seval];refine cD ?_ ?_<;>intro h4<;>simp (disch:=omega) only [Sh.out h4,go_sem,seval]
        ·rw [if_pos (by simpa using h4)]
        ·rw [if_neg (by simpa using h4)];refine (Zhx x (ordS r.visits) hlt hap).use ?_;simp (disch:=omega) only [go_sem,seval];refine cD ?_ ?_<;>intro h5<;>simp (disch:=omega) only [Sh.out h5,go_sem,seval]
         ·rw [if_pos (by simpa using h5)]
         ·rw [if_neg (by simpa using h5)];refine (Zfg x (ordS r.visits) r.visits r.visits_c hlt hl hbe).use ?_;simp (disch:=omega) only [go_sem,seval];refine cD ?_ ?_<;>intro h6<;>simp (disch:=omega) only [Sh.out h6,go_sem,seval]
          ·rw [if_pos (by simpa using h6)]
          ·rw [if_neg (by simpa using h6)]
structure IFacts (x:Inst):Prop where
 len:x.orders.length<=10
 plc:Plc x
 vne:Vne x
 val:Val x.orders.length x.before
 ne: ∀p∈x.before,p.1≠p.2
 aval:Val x.orders.length x.apart
theorem Zib {n:Int} {word:List UInt8} {sm:Int×Int->Int×Int->Bool} {l:List (Int×Int)} (h:Js n word sm l l.length= []): ∀p∈l,okP n p=true:=by
 intro p hp;obtain ⟨i,hi,rfl⟩:=List.mem_iff_getElem.1 hp;have h2:=(List.append_eq_nil_iff.1 h).2;rw [List.flatMap_eq_nil_iff] at h2;have h3:=h2 i (by simpa using hi);rw [flt,Zf hi] at h3
 cases h4:okP n l[i] with
 | true=>rfl
 | false=>rw [h4] at h3;simp at h3
theorem Kr {x:Inst} (h:InstOk x):IFacts x:=by
 have ho:=h.orders;obtain ⟨h1,h2⟩:=List.append_eq_nil_iff.1 h.rules;have ha:=Zib h1;have hb:=Zib h2
 have hpl:Plc x:=fun o hm=>by
  obtain ⟨i,hi,rfl⟩:=List.mem_iff_getElem.1 hm;have:=ho.2 i hi;rw [<- Zf hi];exact ⟨this.pick.1,this.drp.1⟩
 have val: ∀l:List (Int×Int),(∀p∈l,okP x.orders.length p=true)->Val x.orders.length l:=fun l h p hp=>by
  have:=h p hp;simp [okP] at this;omega
 refine ⟨ho.1,hpl,fun i hi=> ?_,val _ hb,fun p hp=> ?_,val _ ha⟩
 ·have h3:=ho.2 i hi;have h4:=hpl _ (Zl hi);have h5:=h3.one;unfold Yj
  by_cases h6:0<=(nth x.orders i).pick.place
  ·simp [h6]
  ·have:0<=(nth x.orders i).drp.place:=by omega
   simp [this]
 ·have:=hb p hp;simp [okP] at this;exact this.2
theorem Xm {l:List Vis} {o:Int} :X2 l o=true↔ ∃v∈l,v.order=o:=by simp [X2]
theorem Ud : ∀(l:List Vis) (i:Nat),(ordS l).testBit i=true↔ ∃v∈l,v.order.toNat=i:=by
 have key: ∀(l:List Vis) (s i:Nat),(l.foldl (fun s v=>s|||pw v.order.toNat) s).testBit i=true↔s.testBit i=true\/ ∃v∈l,v.order.toNat=i:=by
  intro l
  induction l with
  | nil=>intro s i;simp
  | cons v l ih =>
   intro s i;rw [List.foldl_cons,ih,Nat.testBit_or,Qq,Bool.or_eq_true,decide_eq_true_eq,or_assoc];refine or_congr Iff.rfl ?_
   constructor
   ·rintro (h | ⟨w,hw,h⟩)
    ·exact ⟨v,by simp,h⟩
    ·exact ⟨w,by simp [hw],h⟩
   ·rintro ⟨w,hw,h⟩;rcases List.mem_cons.1 hw with rfl | hw
    ·exact .inl h
    ·exact .inr ⟨w,hw,h⟩
 intro l i;rw [ordS,key];simp
def Inr (x:Inst) (l:List Vis):Prop:= ∀v∈l,0<=v.order/\v.order<x.orders.length
theorem Ui {x:Inst} {l:List Vis} (hi:Inr x l) (hn:x.orders.length<=60) (o:Int) (h:0<=o/\o<=62):Uu (ordS l) o=X2 l o:=by
 rw [Bool.eq_iff_iff,Zga,Ud,Xm]
 constructor
 ·rintro ⟨h1,h2,v,hv,h3⟩;have:=hi v hv;exact ⟨v,hv,by omega⟩
 ·rintro ⟨v,hv,rfl⟩;exact ⟨h.1,h.2,v,hv,rfl⟩
theorem Qt {l:List Vis} (hd:l.Nodup) {k:Nat} (hk:k<l.length):vIx l (nth l k)=(k:Int):=by
 refine Zbp hk (by simp) fun j hj=> ?_
 have:nth l k≠nth l j:=by
  rw [Zf hk,Zf (by omega)];exact fun e=>(List.pairwise_iff_getElem.1 hd) j k (by omega) hk hj e.symm
 simpa using this
theorem ZiU {l:List Vis} {v:Vis} (h:0<=vIx l v):(vIx l v).toNat<l.length/\nth l (vIx l v).toNat=v:=by
 have hl:=Zeq (f:=fun w=>decide (v=w)) (l:=l);unfold vIx fIx at h ⊢
 cases hv:l.findIdx? (fun u=>decide (v=u)) with
 | none=>rw [hv] at h;simp at h
 | some i =>
  rw [List.findIdx?_eq_some_iff_getElem] at hv;obtain ⟨h1,h2,_⟩:=hv;simp at h2;exact ⟨by simpa using h1,by simp [Zf h1,h2]⟩
theorem Zrz {l:List Vis} {k:Nat} (hk:k<l.length):0<=vIx l (nth l k)/\vIx l (nth l k)<=(k:Int):=by
 have hm:0<=vIx l (nth l k):=WB.2 (Zl hk);refine ⟨hm,?_⟩;unfold vIx fIx at hm ⊢
 cases hv:l.findIdx? (fun u=>decide (nth l k=u)) with
 | none=>rw [hv] at hm;simp at hm
 | some i =>
  rw [List.findIdx?_eq_some_iff_getElem] at hv;obtain ⟨h1,h2,h3⟩:=hv;simp;rcases Nat.lt_or_ge k i with h4 | h4
  ·have:=h3 k h4;rw [<- Zf hk] at this;simp at this
  ·exact h4
theorem Uf {l:List Vis} {v:Vis} {i:Nat} (h:v∈l.take i): ∃j,j<i/\j<l.length/\nth l j=v:=by
 obtain ⟨j,hj,rfl⟩:=List.mem_iff_getElem.1 h;simp at hj;exact ⟨j,by omega,by omega,by rw [List.getElem_take,Zf (by omega)]⟩
theorem QT {l:List Vis} {i j:Nat} (h:j<i) (hl:j<l.length):nth l j∈l.take i:=by
 rw [Zf hl];exact List.mem_iff_getElem.2 ⟨j,by simp;omega,by simp⟩
theorem Qd {l:List Vis} :YV l=false↔l.Nodup:=by
 rw [YV,List.any_eq_false]
 constructor
 ·intro h;rw [List.nodup_iff_pairwise_ne,List.pairwise_iff_getElem];intro i j hi hj hij e;have:=h j (by simpa using hj);simp only [decide_eq_true_eq,WB] at this;refine this ?_;rw [Zf hj,<- e,<- Zf hi];exact QT hij hi
 ·intro h j hj;simp only [decide_eq_true_eq,WB];intro hm;obtain ⟨i,h1,h2,h3⟩:=Uf hm
  have hj2:j<l.length:=by simpa using hj
  have e1:=Qt h h2;have e2:=Qt h hj2;rw [h3] at e1;omega
theorem Zep {l:List Vis} :((List.range l.length).any fun i=>decide (vIx l (nth l i)≠(i:Int)))=YV l:=by
 rw [Bool.eq_iff_iff]
 constructor
 ·intro h;rw [List.any_eq_true] at h;obtain ⟨i,hi,h2⟩:=h
  cases ht:YV l with
  | true=>rfl
  | false=>have:=Qt (Qd.1 ht) (by simpa using hi);simp [this] at h2
 ·intro h;rw [YV,List.any_eq_true] at h;obtain ⟨j,hj,h2⟩:=h;simp only [decide_eq_true_eq,WB] at h2;obtain ⟨i,h3,h4,h5⟩:=Uf h2;rw [List.any_eq_true];refine ⟨j,hj,?_⟩;have:=(Zrz h4).2;rw [h5] at this;simp only [ne_eq,decide_not,Bool.not_eq_true',decide_eq_false_iff_not];omega
def oIx (l:List Vis) (b:Int):Int:=fIx (fun v=>decide (v.order=b)) l
theorem Zas {l:List Vis} {b:Int} :0<=oIx l b↔ ∃v∈l,v.order=b:=by
 have:=Zec (f:=fun v=>decide (v.order=b)) (l:=l);rw [<- Xm,X2,<- this,oIx];simp
theorem KU {l:List Vis} {b:Int} (h:0<=oIx l b):(oIx l b).toNat<l.length/\(nth l (oIx l b).toNat).order=b/\ ∀j,j<(oIx l b).toNat->(nth l j).order≠b:=by
 unfold oIx fIx at h ⊢
 cases hv:l.findIdx? (fun v=>decide (v.order=b)) with
 | none=>rw [hv] at h;simp at h
 | some i =>
  rw [List.findIdx?_eq_some_iff_getElem] at hv;obtain ⟨h1,h2,h3⟩:=hv;simp at h2;refine ⟨by simpa using h1,by simpa [Zf h1] using h2,fun j hj=> ?_⟩
  have hj2:j<i:=by simpa using hj
  have:=h3 j hj2;rw [Zf (by omega)];simpa using this
theorem Znc {l:List Vis} {b:Int} {k:Nat} (hk:k<l.length) (h:(nth l k).order=b):0<=oIx l b/\oIx l b<=(k:Int):=by
 have h0:0<=oIx l b:=Zas.2 ⟨_,Zl hk,h⟩;refine ⟨h0,?_⟩;obtain ⟨h1,h2,h3⟩:=KU h0;rcases Nat.lt_or_ge k (oIx l b).toNat with h4 | h4
 ·exact absurd h (h3 k h4)
 ·omega
theorem Zae {l:List Vis} {a b:Int} :XI l a b=true↔(0<=oIx l b->(∃v∈l,v.order=a)/\ ∀j,j<l.length->(nth l j).order=a->(j:Int)<oIx l b):=by
 unfold XI;rw [show fIx (fun v=>decide (v.order=b)) l=oIx l b from rfl]
 by_cases h:oIx l b<0
 ·rw [if_pos h];exact ⟨fun _ h2=>by omega,fun _=>rfl⟩
 ·rw [if_neg h,Bool.and_eq_true,Xm]
  have h0:0<=oIx l b:=by omega
  obtain ⟨h1,h2,h3⟩:=KU h0
  have hd:(!X2 (l.drop (oIx l b).toNat) a)=true↔ ∀j,j<l.length->(nth l j).order=a->(j:Int)<oIx l b:=by
   rw [Bool.not_eq_true',<- Bool.not_eq_true,Xm]
   constructor
   ·intro hno j hj e;rcases Int.lt_or_le (j:Int) (oIx l b) with h4 | h4
    ·exact h4
    ·refine absurd ⟨nth l j,?_,e⟩ hno;rw [Zf hj];exact List.mem_iff_getElem.2 ⟨j-(oIx l b).toNat,by simp;omega,by simp;congr 1;omega⟩
   ·rintro XW ⟨v,hv,e⟩;obtain ⟨j,hj,rfl⟩:=List.mem_iff_getElem.1 hv;simp at hj;rw [List.getElem_drop] at e;have:=XW ((oIx l b).toNat+j) (by omega) (by rw [Zf (by omega)];exact e);omega
  rw [hd];exact ⟨fun h _=>h,fun h=>h h0⟩
theorem Zci {x:Inst} {l:List Vis} (hi:Inr x l) (hn:x.orders.length<=60) {p:Int×Int} (h1:0<=p.1/\p.1<x.orders.length) (h2:0<=p.2/\p.2<x.orders.length) (hne:p.1≠p.2):Vc (ordS l) l p=XI l p.1 p.2:=by
 rw [Bool.eq_iff_iff,Zae,Vc,Ui hi hn _ (by omega),Ui hi hn _ (by omega)];simp only [Bool.or_eq_true,Bool.not_eq_true',Bool.and_eq_true];rw [<- Bool.not_eq_true,Xm,Xm,<- Zas,<- Zas (b:=p.1)]
 constructor
 ·rintro (h | ⟨h3,h4⟩) h0
  ·exact absurd h0 h
  ·refine ⟨h3,fun j hj e=> ?_⟩;rw [List.all_eq_true] at h4;have h5:=h4 j (by simpa using hj);rw [List.all_eq_true] at h5;obtain ⟨g1,g2,g3⟩:=KU h0;rcases Int.lt_or_le (j:Int) (oIx l p.2) with h6 | h6
   ·exact h6
   ·have hne2:j≠(oIx l p.2).toNat:=fun e2=>hne (by rw [<- e,e2];exact g2);have:=h5 (oIx l p.2).toNat (by simp;omega);simp [VY,e,g2] at this
 ·intro h
  by_cases h0:0<=oIx l p.2
  ·obtain ⟨h3,h4⟩:=h h0;refine .inr ⟨h3,?_⟩;rw [List.all_eq_true];intro j hj;rw [List.all_eq_true];intro k hk;simp at hj hk
   cases hb:VY l p.1 p.2 j k with
   | false=>rfl
   | true =>
    simp [VY] at hb;have h5:=h4 j hj hb.1;have h6:=(Znc (by omega) hb.2).2;omega
  ·exact .inl h0
theorem Zjo {x:Inst} (hf:IFacts x) (l:List Vis):Zih x l=ZW x l:=by
 by_cases ho:l.any (VN x)=true
 ·rw [Zih,if_pos ho,ZW,if_pos (.inr ho)]
 ·have ho':l.any (VN x)=false:=by simpa using ho
  have hi:Inr x l:=fun v hv=>by
   rw [List.any_eq_false] at ho';simpa [VN] using ho' v hv
  have hn:x.orders.length<=60:=by have:=hf.len;omega
  rw [Zih,if_neg ho,ZW]
  by_cases h0:l.length=0
  ·rw [if_pos h0,if_pos (.inl h0)]
  ·have hc: ¬(l.length=0\/l.any (VN x)=true):=fun h=>h.elim h0 ho;rw [if_neg h0,if_neg hc,Zep]
   have e1:apB x (ordS l)=x.apart.any fun p=>X2 l p.1&&X2 l p.2:=by
    rw [apB,Bool.eq_iff_iff,List.any_eq_true,List.any_eq_true]
    have: ∀p∈x.apart,(Uu (ordS l) p.1&&Uu (ordS l) p.2)=(X2 l p.1&&X2 l p.2):=fun p hp=>by
     have:=hf.aval p hp;rw [Ui hi hn _ (by omega),Ui hi hn _ (by omega)]
    exact ⟨fun ⟨p,hp,h⟩=>⟨p,hp,by rw [<- this p hp];exact h⟩,fun ⟨p,hp,h⟩=>⟨p,hp,by rw [this p hp];exact h⟩⟩
   have e2:(x.before.all (Vc (ordS l) l)=false)=((x.before.any fun p=> !XI l p.1 p.2)=true):=by
    have: ∀p∈x.before,Vc (ordS l) l p=XI l p.1 p.2:=fun p hp=>by
     have:=hf.val p hp;exact Zci hi hn (by omega) (by omega) (hf.ne p hp)
    rw [List.all_eq_false,List.any_eq_true];simp only [eq_iff_iff];exact ⟨fun ⟨p,hp,h⟩=>⟨p,hp,by rw [<- this p hp];simpa using h⟩,fun ⟨p,hp,h⟩=>⟨p,hp,by rw [this p hp];simpa using h⟩⟩
   rw [e1];simp only [e2]
def onB (x:Inst) (l:List Vis) (n i:Nat):Bool:=(l.take n).foldl (fun on v=>if v.order=(i:Int) then !v.drp else on) (decide ((nth x.orders i).pick.place<0))
theorem ZgA {x:Inst} {l:List Vis} {i:Nat} :onB x l 0 i=decide ((nth x.orders i).pick.place<0):=by simp [onB]
theorem QZ {x:Inst} {l:List Vis} {n i:Nat} (h:n<l.length):onB x l (n+1) i=if (nth l n).order=(i:Int) then !(nth l n).drp else onB x l n i:=by
 rw [onB,List.take_succ_eq_append_getElem h,List.foldl_append,Zf h];rfl
structure SqOk (x:Inst) (l:List Vis):Prop where
 ne:l≠ []
 inr:Inr x l
 nd:l.Nodup
 pair: ∀v∈l,pairB x.orders l v=true
theorem Yt {x:Inst} {l:List Vis} (h:ZW x l=0):SqOk x l:=by
 unfold ZW at h
 split at h
 ·simp at h
 ·rename_i h1
  split at h
  ·simp at h
  ·split at h
   ·simp at h
   ·rename_i h3
    split at h
    ·simp at h
    ·rename_i h4;refine ⟨fun e=>h1 (.inl (by simp [e])),fun v hv=> ?_,Qd.1 (by simpa using h3),fun v hv=> ?_⟩
     ·have h5: ¬(l.any (VN x))=true:=fun e=>h1 (.inr e)
      have h6:VN x v=false:=by
       cases hb:VN x v with
       | false=>rfl
       | true=>exact absurd (List.any_eq_true.2 ⟨v,hv,hb⟩) h5
      simpa [VN] using h6
     ·have h5:l.all (pairB x.orders l)=true:=by simpa using h4
      exact List.all_eq_true.1 h5 v hv
structure OwnV (x:Inst) (l:List Vis) (i:Nat):Prop where
 pick:0<=(nth x.orders i).pick.place->(⟨i,false⟩:Vis)∈l
 drp:0<=(nth x.orders i).drp.place->(⟨i,true⟩:Vis)∈l
 both:0<=(nth x.orders i).pick.place->0<=(nth x.orders i).drp.place->vIx l ⟨i,false⟩<vIx l ⟨i,true⟩
 isP:(⟨i,false⟩:Vis)∈l->0<=(nth x.orders i).pick.place
 isD:(⟨i,true⟩:Vis)∈l->0<=(nth x.orders i).drp.place
theorem SqOk.own {x:Inst} {l:List Vis} (h:SqOk x l) {i:Nat} (hi: ∃v∈l,v.order=(i:Int)):OwnV x l i:=by
 obtain ⟨v0,hv0,ho⟩:=hi
 have key: ∀v∈l,v.order=(i:Int)->v∈Yj x.orders i/\Ju l (-1) (Yj x.orders i)=true:=fun v hv hvo=>by
  have:=h.pair v hv;simp only [pairB,hvo,Int.toNat_natCast,Bool.and_eq_true,decide_eq_true_eq] at this;exact ⟨WB.1 this.1,this.2⟩
 obtain ⟨_,hasc⟩:=key v0 hv0 ho;have mem: ∀b:Bool,(⟨i,b⟩:Vis)∈l->(⟨i,b⟩:Vis)∈Yj x.orders i:=fun b hb=>(key _ hb rfl).1
 have hp:(⟨i,false⟩:Vis)∈Yj x.orders i->0<=(nth x.orders i).pick.place:=fun hm=>by
  unfold Yj at hm;rcases List.mem_append.1 hm with hm | hm
  ·split at hm
   ·assumption
   ·simp at hm
  ·split at hm<;>simp at hm
 have hd:(⟨i,true⟩:Vis)∈Yj x.orders i->0<=(nth x.orders i).drp.place:=fun hm=>by
  unfold Yj at hm;rcases List.mem_append.1 hm with hm | hm
  ·split at hm<;>simp at hm
  ·split at hm
   ·assumption
   ·simp at hm
 have m1: ∀v,-1<vIx l v->v∈l:=fun v hv=>WB.1 (by omega);unfold Yj at hasc
 by_cases c1:0<=(nth x.orders i).pick.place<;>by_cases c2:0<=(nth x.orders i).drp.place
 ·simp only [c1,c2,if_true,List.cons_append,List.nil_append,Ju,Bool.and_true,Bool.and_eq_true,decide_eq_true_eq] at hasc;exact ⟨fun _=>m1 _ hasc.1,fun _=>m1 _ (by omega),fun _ _=>hasc.2,fun _=>c1,fun _=>c2⟩
 ·simp only [c1,c2,if_true,if_false,List.append_nil,Ju,Bool.and_true,decide_eq_true_eq] at hasc;exact ⟨fun _=>m1 _ hasc,fun h=>absurd h c2,fun _ h=>absurd h c2,fun _=>c1,fun hm=>hd (mem _ hm)⟩
 ·simp only [c1,c2,if_true,if_false,List.nil_append,Ju,Bool.and_true,decide_eq_true_eq] at hasc;exact ⟨fun h=>absurd h c1,fun _=>m1 _ hasc,fun h=>absurd h c1,fun hm=>hp (mem _ hm),fun _=>c2⟩
 ·exact ⟨fun h=>absurd h c1,fun h=>absurd h c2,fun h=>absurd h c1,fun hm=>hp (mem _ hm),fun hm=>hd (mem _ hm)⟩
theorem Wm {l:List Vis} (hn:l.Nodup) {v:Vis} {n:Nat} :v∈l.take n↔0<=vIx l v/\vIx l v<(n:Int):=by
 constructor
 ·intro h;obtain ⟨j,h1,h2,rfl⟩:=Uf h;rw [Qt hn h2];omega
 ·intro ⟨h1,h2⟩;obtain ⟨h3,h4⟩:=ZiU h1;rw [<- h4];exact QT (by omega) h3
theorem Ziy {x:Inst} {l:List Vis} (h:SqOk x l) (i:Nat): ∀n,n<=l.length->onB x l n i=if (⟨i,true⟩:Vis)∈l.take n then false else if (⟨i,false⟩:Vis)∈l.take n then true else decide ((nth x.orders i).pick.place<0)
 | 0,_=>by simp [onB]
 | n+1,hn=>by
  have hk:n<l.length:=by omega
  have hat:=Qt h.nd hk;rw [QZ hk,Ziy h i n (by omega)]
  by_cases c:(nth l n).order=(i:Int)
  ·rw [if_pos c];have ho:=h.own (i:=i) ⟨nth l n,Zl hk,c⟩
   cases hd:(nth l n).drp with
   | true =>
    have hv:nth l n=⟨i,true⟩:=by rw [<- c,<- hd]
    rw [hv] at hat;have:(⟨i,true⟩:Vis)∈l.take (n+1):=(Wm h.nd).2 (by omega);rw [if_pos this];rfl
   | false =>
    have hv:nth l n=⟨i,false⟩:=by rw [<- c,<- hd]
    rw [hv] at hat;have h1:(⟨i,false⟩:Vis)∈l.take (n+1):=(Wm h.nd).2 (by omega)
    have h2: ¬(⟨i,true⟩:Vis)∈l.take (n+1):=fun hm=>by
     have h3:=List.mem_of_mem_take hm;have h4:=(Wm h.nd).1 hm;have h5:=ho.both (ho.isP (List.mem_of_mem_take h1)) (ho.isD h3);omega
    rw [if_neg h2,if_pos h1];rfl
  ·rw [if_neg c]
   have e: ∀b:Bool,((⟨i,b⟩:Vis)∈l.take (n+1))=((⟨i,b⟩:Vis)∈l.take n):=fun b=>by
    rw [List.take_succ_eq_append_getElem hk,List.mem_append,<- Zf hk];refine propext ⟨fun hm=>hm.resolve_right fun hm=> ?_,.inl⟩;simp at hm;exact c (by rw [<- hm])
   simp only [e]
theorem ZpV {x:Inst} {l:List Vis} (h:SqOk x l) {k i:Nat} (hk:k<l.length) (hi:(nth l k).order=(i:Int)):onB x l k i=(nth l k).drp:=by
 have hat:=Qt h.nd hk;have ho:=h.own (i:=i) ⟨nth l k,Zl hk,hi⟩;have hm:=Zl hk;rw [Ziy h i k (by omega)]
 cases hd:(nth l k).drp with
 | true =>
  have hv:nth l k=⟨i,true⟩:=by rw [<- hi,<- hd]
  rw [hv] at hat hm
  have h1: ¬(⟨i,true⟩:Vis)∈l.take k:=fun hm=>by have:=(Wm h.nd).1 hm;omega
  rw [if_neg h1]
  by_cases c:0<=(nth x.orders i).pick.place
  ·have h2:=ho.both c (ho.isD hm);have h3:(⟨i,false⟩:Vis)∈l.take k:=(Wm h.nd).2 ⟨WB.2 (ho.pick c),by omega⟩;rw [if_pos h3]
  ·have:(nth x.orders i).pick.place<0:=by omega
   split<;>simp [this]
 | false =>
  have hv:nth l k=⟨i,false⟩:=by rw [<- hi,<- hd]
  rw [hv] at hat hm;have hp:=ho.isP hm
  have h1: ¬(⟨i,false⟩:Vis)∈l.take k:=fun hm=>by have:=(Wm h.nd).1 hm;omega
  have h2: ¬(nth x.orders i).pick.place<0:=by omega
  rw [if_neg h1]
  split<;>simp [h2]
theorem ZjG {f g:Nat->Int} {i:Nat} (h: ∀q,q≠i->f q=g q): ∀n,i<n->((List.range n).map f).sum=((List.range n).map g).sum+(f i-g i):=by
 have same: ∀n,n<=i->((List.range n).map f).sum=((List.range n).map g).sum:=fun n hn=>by
  congr 1
  refine List.map_congr_left fun q hq=>h q ?_;have:=List.mem_range.1 hq;omega
 intro n
 induction n with
 | zero=>intro h;omega
 | succ n ih =>
  intro hi;simp only [List.range_succ,List.map_append,List.map_cons,List.map_nil,List.sum_append,List.sum_cons,List.sum_nil]
  by_cases hn:i=n
  ·subst hn;rw [same i (Nat.le_refl _)];omega
  ·rw [ih (by omega),h n (by omega)];omega
theorem Zfn {f:Nat->Int} {b:Int} (hb:0<=b) (h: ∀q,0<=f q/\f q<=b): ∀n:Nat,0<=((List.range n).map f).sum/\((List.range n).map f).sum<=b*n
 | 0=>by simp
 | n+1=>by
  have ih:=Zfn hb h n;have:=h n;simp only [List.range_succ,List.map_append,List.map_cons,List.map_nil,List.sum_append,List.sum_cons,List.sum_nil];rw [Int.natCast_add,Int.mul_add];omega
theorem Wb {p:Nat->Bool} {f:Nat->Int} : ∀l:List Nat,((l.filter p).map f).sum=(l.map fun i=>if p i=true then f i else 0).sum
 | []=>rfl
 | a::l=>by
  rw [List.filter_cons,List.map_cons,List.sum_cons]
  by_cases h:p a=true
  ·rw [if_pos h,List.map_cons,List.sum_cons,Wb l,if_pos h]
  ·rw [if_neg h,Wb l,if_neg h];omega
def ZcR (x:Inst) (l:List Vis) (n j:Nat):Int:=((List.range x.orders.length).map fun i=>if (onB x l n i&&X2 l i)=true then nth (nth x.orders i).load j else 0).sum
theorem Kl {x:Inst} {l:List Vis} (h:SqOk x l) {k j:Nat} (hk:k<l.length):ZcR x l (k+1) j=if (nth l k).drp=true then ZcR x l k j-nth (nth x.orders (nth l k).order.toNat).load j else ZcR x l k j+nth (nth x.orders (nth l k).order.toNat).load j:=by
 obtain ⟨v1,v2⟩:=h.inr _ (Zl hk);obtain ⟨i,hi⟩: ∃i:Nat,(nth l k).order=(i:Int):=⟨(nth l k).order.toNat,by omega⟩;have hh:X2 l (i:Int)=true:=Xm.2 ⟨_,Zl hk,hi⟩;have h1:=ZpV h hk hi
 have h2:onB x l (k+1) i= !(nth l k).drp:=by rw [QZ hk,if_pos hi]
 unfold ZcR
 rw [ZjG (f:=fun i=>if (onB x l (k+1) i&&X2 l i)=true then nth (nth x.orders i).load j else 0) (g:=fun i=>if (onB x l k i&&X2 l i)=true then nth (nth x.orders i).load j else 0) (i:=i) (fun q hq=>by
  have:onB x l (k+1) q=onB x l k q:=by rw [QZ hk,if_neg (by omega)]
  simp only [this]) x.orders.length (by omega)]
 rw [h1,h2,hh,hi,Int.toNat_natCast]
 cases (nth l k).drp
 ·simp
 ·simp;omega
def Y9 (x:Inst) (l:List Vis) (n:Nat):List Int:=(List.range (dimsOf x.types).toNat).map fun j=>ZcR x l n j
def Ze5 (a b:List Int):List Int:=(List.range a.length).map fun j=>nth a j+nth b j
def ZrT (a b:List Int):List Int:=(List.range a.length).map fun j=>nth a j-nth b j
theorem Vb {x:Inst} {l:List Vis} {n:Nat} :(Y9 x l n).length=(dimsOf x.types).toNat:=by simp [Y9]
theorem Wf {f:Nat->Int} {n j:Nat} (h:j<n):nth ((List.range n).map f) j=f j:=by
 rw [Zf (by simpa using h)];simp
theorem Zfa {x:Inst} {l:List Vis} (h:SqOk x l) {k:Nat} (hk:k<l.length):Y9 x l (k+1)=if (nth l k).drp=true then ZrT (Y9 x l k) (nth x.orders (nth l k).order.toNat).load else Ze5 (Y9 x l k) (nth x.orders (nth l k).order.toNat).load:=by
 have key: ∀g:Nat->Int,(∀j,j<(dimsOf x.types).toNat->ZcR x l (k+1) j=g j)->Y9 x l (k+1)=(List.range (dimsOf x.types).toNat).map g:=fun g hg =>
  List.map_congr_left fun j hj=>hg j (List.mem_range.1 hj)
 split
 ·rename_i hd;unfold ZrT;rw [Vb];refine key _ fun j hj=> ?_;rw [Kl h hk,if_pos hd,Y9,Wf hj]
 ·rename_i hd;unfold Ze5;rw [Vb];refine key _ fun j hj=> ?_;rw [Kl h hk,if_neg hd,Y9,Wf hj]
set_option maxRecDepth 60000
def rtB (r:Rte):Bool:=decide (r.visits.length<=8)&&decide (r.rests.length<=9)
def smB (p:Pln):Bool:=(decide (p.routes.length<=4)&&decide (p.unserved.length<=6))&&p.routes.all rtB
theorem Zn4 {p:Pln} {k:Nat} (hk:k<p.routes.length) (h:rtB (nth p.routes k)=false):smB p=false:=by
 rw [smB,Bool.and_eq_false_iff];exact .inr (List.all_eq_false.2 ⟨_,Zl hk,by rw [h];simp⟩)
theorem ZAk {α:Type} [Inhabited α] {f:α->Bool} {l:List α} (h: ∀j,j<l.length->f (nth l j)=true):l.all f=true:=by
 rw [List.all_eq_true];intro r hr;obtain ⟨j,hj,rfl⟩:=List.mem_iff_getElem.1 hr;have:=h j hj;rwa [Zf hj] at this
def FitP (x:Inst) (n:Int):Prop:=x.orders.length<=n/\x.types.length<=2/\x.net.places.length<=6/\x.net.arcs.length<=40/\x.apart.length<=4/\x.before.length<=4/\InstOk x
theorem JQ (x:Inst) (hw:x.wf 1048576) (n:Int) (b:Bool) (hb:b=true↔FitP x n):PC 35 [.p (ZK x),.p (.int .i64 n)] (.bool b):=by
 have w1:=hw.1.1;have w2:=hw.1.2.2.1;have w3:=hw.2.1;have w4:=hw.2.2.2.1;have w5:=hw.2.2.2.2.2.1;have w6:=hw.2.2.2.2.2.2.2.1
 suffices hh:ACalls Tryz.prog 35 [.p (ZK x),.p (.int .i64 n)] [] fun y H'=> ∃b:Bool,(b=true↔FitP x n)/\y= .p (.bool b)/\H'= [] by
  refine hh.mono ?_;rintro y H' ⟨c,hc,rfl,rfl⟩
  have:c=b:=by rw [Bool.eq_iff_iff,hc,hb]
  subst this;exact ⟨rfl,rfl⟩
 refine ACalls.pureE (Z3 Tryz.func35 rfl Zwy (Zc [] _ _ _ _ ?_));simp (disch:=omega) only [Tryz.f35,go_sem,seval];refine gT ?_ ?_<;>intro h1<;>simp (disch:=omega) only [Sh.out h1,go_sem,seval]
 ·refine gT ?_ ?_<;>intro h2<;>simp (disch:=omega) only [Sh.out h2,go_sem,seval]
  ·refine gT ?_ ?_<;>intro h3<;>simp (disch:=omega) only [Sh.out h3,go_sem,seval]
   ·refine gT ?_ ?_<;>intro h4<;>simp (disch:=omega) only [Sh.out h4,go_sem,seval]
    ·refine gT ?_ ?_<;>intro h5<;>simp (disch:=omega) only [Sh.out h5,go_sem,seval]
     ·refine gT ?_ ?_<;>intro h6<;>simp (disch:=omega) only [Sh.out h6,go_sem,seval]
      ·refine ((Zqd x hw).frozenE).useV fun m hm=> ?_;simp (disch:=omega) only [go_sem,seval];refine ⟨decide (m.length=0),?_,by simp⟩;have:=hm.emp;rw [decide_eq_true_eq,List.length_eq_zero_iff,this];exact ⟨fun h=>⟨by omega,by omega,by omega,by omega,by omega,by omega,h⟩,fun h=>h.2.2.2.2.2.2⟩
      ·exact ⟨false,by simp [FitP];omega,rfl⟩
     ·exact ⟨false,by simp [FitP];omega,rfl⟩
    ·exact ⟨false,by simp [FitP];omega,rfl⟩
   ·exact ⟨false,by simp [FitP];omega,rfl⟩
  ·exact ⟨false,by simp [FitP];omega,rfl⟩
 ·exact ⟨false,by simp [FitP];omega,rfl⟩
def UX (l:List Pt) (t:Int) (i:Nat):Bool:=decide ((nth l i).t<=t)&&decide (t<(nth l (i+1)).t)
def ZfL (p q:Pt) (t:Int):Int:=p.a+((t-p.t)*(q.a-p.a)+q.t-p.t-1) / (q.t-p.t)
def Q1 (l:List Pt) (t:Int):Int:=match (List.range (l.length-1)).find? (UX l t) with
 | some i=>ZfL (nth l i) (nth l (i+1)) t
 | none=>if (nth l 0).t<t then t+(nth l (l.length-1)).a-(nth l (l.length-1)).t else t+(nth l 0).a-(nth l 0).t
theorem KX {l:List Pt} {t:Int} {i:Nat} (hi:i+1<l.length) (hno: ∀j,j<i->UX l t j=false) (h:UX l t i=true):Q1 l t=ZfL (nth l i) (nth l (i+1)) t:=by
 have:(List.range (l.length-1)).find? (UX l t)=some i:=by
  rw [List.find?_eq_some_iff_getElem];refine ⟨h,i,by simp;omega,by simp,fun j hj=> ?_⟩;simp [hno j hj]
 rw [Q1,this]
theorem QO {l:List Pt} {t:Int} (hno: ∀j,j+1<l.length->UX l t j=false):Q1 l t=if (nth l 0).t<t then t+(nth l (l.length-1)).a-(nth l (l.length-1)).t else t+(nth l 0).a-(nth l 0).t:=by
 have:(List.range (l.length-1)).find? (UX l t)=none:=by
  rw [List.find?_eq_none];intro j hj;simp at hj;rw [hno j (by omega)];simp
 rw [Q1,this]
theorem QB {p q:Pt} {t:Int} (h1:p.t<=t) (h2:t<q.t) (hp:0<=p.t) (hq:q.t<=4096) (ha:p.a<=q.a) (hpa:0<=p.a) (hqa:q.a<=8192):0<=(t-p.t)*(q.a-p.a)/\(t-p.t)*(q.a-p.a)<=33554432:=by
 refine ⟨Int.mul_nonneg (by omega) (by omega),?_⟩;have:(t-p.t)*(q.a-p.a)<=4096*8192:=Int.mul_le_mul (by omega) (by omega) (by omega) (by omega);omega
theorem Zb2 (l:List Pt) (c:Bool) (t:Int) (hl:Yy l) (ht:0<=t/\t<=1073741824):PC 325 [.p (.list c (l.map ePt)),.p (.int .i64 t)] (.int .i64 (Q1 l t)):=by
 obtain ⟨⟨hl1,hl2⟩,hpt⟩:=hl;refine Za Tryz.func325 rfl Zox ?_;simp (disch:=omega) only [Tryz.f325,go_sem,seval];refine ((Ziw l c (by omega)).frozenE).useV fun m hm=> ?_;simp (disch:=omega) only [go_sem,seval]
 have hm0:m.length=0:=by rw [hm.emp.2 ⟨⟨hl1,hl2⟩,hpt⟩];rfl
 have e1: ¬t<0:=by omega
 have e2: ¬ 1073741824<t:=by omega
 simp (disch:=omega) only [hm0,e1,e2,go_sem,seval];refine Zg [0,1] (fun k:Nat=> [(5,.p (.int .i64 k))]) (fun _=> []) (fun k=>k<l.length/\ ∀j,j<k->UX l t j=false) (fun k=>l.length-k) 0 (by simp;omega) (Weak.mk ?_) ?_
 ·simp (disch:=omega) only [go_sem,seval]
 ·rintro k ⟨hk,hno⟩;simp (disch:=omega) only [go_sem,seval];refine cD ?_ ?_<;>intro h<;>simp (disch:=omega) only [Sh.out h,go_sem,seval]
  ·have hk2:k+1<l.length:=by omega
   obtain ⟨⟨p1,p2,p3,p4⟩,_⟩:=hpt k hk;obtain ⟨⟨q1,q2,q3,q4⟩,q5⟩:=hpt (k+1) hk2;obtain ⟨r1,r2⟩:=q5 (by omega);rw [Nat.add_sub_cancel] at r1 r2;refine gT ?_ ?_<;>intro h2<;>simp (disch:=omega) only [Sh.out h2,go_sem,seval]
   ·refine cD ?_ ?_<;>intro h3<;>simp (disch:=omega) only [Sh.out h3,go_sem,seval]
    ·have hsg:UX l t k=true:=by simp [UX,h2,h3]
     rw [KX hk2 hno hsg];obtain ⟨s1,s2⟩:=QB h2 h3 p1 q2 r2 (by omega) (by omega);have d1:0<=((t-(nth l k).t)*((nth l (k+1)).a-(nth l k).a)+(nth l (k+1)).t-(nth l k).t-1) / ((nth l (k+1)).t-(nth l k).t):=Int.ediv_nonneg (by omega) (by omega);have d2:((t-(nth l k).t)*((nth l (k+1)).a-(nth l k).a)+(nth l (k+1)).t-(nth l k).t-1) / ((nth l (k+1)).t-(nth l k).t)<=33558528:=Int.le_trans (Int.ediv_le_self _ (by omega)) (by omega)
     have d3: ¬(nth l (k+1)).t-(nth l k).t=0:=by omega
     simp only [ZfL];refine Zh Zp (by kernel_rfl) (by kernel_rfl) ?_;simp (disch:=omega) only [d3,go_sem,seval]
    ·have hsg:UX l t k=false:=by simp [UX,h3]
     exact ⟨k+1,⟨by omega,Ze.2 ⟨hno,hsg⟩⟩,by omega,wk⟩
   ·have hsg:UX l t k=false:=by simp [UX,h2]
    exact ⟨k+1,⟨by omega,Ze.2 ⟨hno,hsg⟩⟩,by omega,wk⟩
  ·have hkl:k+1=l.length:=by omega
   rw [QO (fun j hj=>hno j (by omega))];obtain ⟨⟨p1,p2,p3,p4⟩,_⟩:=hpt 0 (by omega);obtain ⟨⟨q1,q2,q3,q4⟩,_⟩:=hpt (l.length-1) (by omega)
   have i1:((l.length:Int)-1).toNat=l.length-1:=by omega
   refine cD ?_ ?_<;>intro h2<;>simp (disch:=omega) only [Sh.out h2,go_sem,seval]
theorem ZL {α:Type} [Inhabited α] {l:List α} {i:Nat} (h:i<l.length):nth l i∈l:=by rw [Zf h];exact List.getElem_mem h
def Zt3 (a:Arc):Prop:=Yy a.travel/\a.slow.length<=16/\ ∀p∈a.slow,0<=p.t/\p.t<=4096/\0<=p.a/\p.a<=4096
def VX (l:List Pt) (t:Int) (k:Nat):Int:=(l.take k).foldl (fun s p=>if p.t<=t then s+p.a else s) 0
def Zgz (a:Arc) (t:Int):Int:=Q1 a.travel t+VX a.slow t a.slow.length
theorem Vp {l:List Pt} {t:Int} {k:Nat} (h:k<l.length):VX l t (k+1)=if (nth l k).t<=t then VX l t k+(nth l k).a else VX l t k:=by
 rw [VX,List.take_succ_eq_append_getElem h,List.foldl_append,Zf h];rfl
theorem Y3 {l:List Pt} {t:Int} (hl: ∀p∈l,0<=p.a/\p.a<=4096): ∀k,k<=l.length->0<=VX l t k/\VX l t k<=4096*k
 | 0,_=>by simp [VX]
 | k+1,h=>by
  have ih:=Y3 (t:=t) hl k (by omega);have hp:=hl _ (ZL (show k<l.length by omega));rw [Vp (by omega)]
  split<;>omega
theorem QG {l:List Pt} {t:Int} (hl:Yy l) (ht:0<=t/\t<=1073741824):0<=Q1 l t/\Q1 l t<=1107304448:=by
 obtain ⟨⟨hl1,hl2⟩,hpt⟩:=hl;unfold Q1
 split
 ·rename_i i hi;have hm:=List.mem_of_find?_eq_some hi;have hs:=List.find?_some hi;simp at hm;simp only [UX,Bool.and_eq_true,decide_eq_true_eq] at hs;obtain ⟨⟨p1,p2,p3,p4⟩,_⟩:=hpt i (by omega);obtain ⟨⟨q1,q2,q3,q4⟩,q5⟩:=hpt (i+1) (by omega);obtain ⟨r1,r2⟩:=q5 (by omega);rw [Nat.add_sub_cancel] at r1 r2;obtain ⟨s1,s2⟩:=QB hs.1 hs.2 p1 q2 r2 (by omega) (by omega);have d1:0<=((t-(nth l i).t)*((nth l (i+1)).a-(nth l i).a)+(nth l (i+1)).t-(nth l i).t-1) / ((nth l (i+1)).t-(nth l i).t):=Int.ediv_nonneg (by omega) (by omega);have d2:((t-(nth l i).t)*((nth l (i+1)).a-(nth l i).a)+(nth l (i+1)).t-(nth l i).t-1) / ((nth l (i+1)).t-(nth l i).t)<=33558528:=Int.le_trans (Int.ediv_le_self _ (by omega)) (by omega)
  unfold ZfL;omega
 ·obtain ⟨⟨p1,p2,p3,p4⟩,_⟩:=hpt 0 (by omega);obtain ⟨⟨q1,q2,q3,q4⟩,_⟩:=hpt (l.length-1) (by omega)
  split<;>omega
theorem ZcB (a:Arc) (t:Int) (ha:Zt3 a) (ht:0<=t/\t<=1073741824):PC 321 [.p (VM a),.p (.int .i64 t)] (.int .i64 (Zgz a t)):=by
 obtain ⟨h1,h2,h3⟩:=ha;have hr:=QG h1 ht;have hs:=Y3 (t:=t) (fun p hp=>(h3 p hp).2.2);refine Za Tryz.func321 rfl ZoW ?_;simp (disch:=omega) only [Tryz.f321,go_sem,seval];refine (Zb2 a.travel a.travel_c t h1 ht).use ?_;simp (disch:=omega) only [go_sem,seval];refine Zg [1,2] (fun k:Nat=> [(5,.p (.int .i64 (Q1 a.travel t+VX a.slow t k))),(6,.p (.int .i64 k))]) (fun _=> [XS a]) (fun k=>k<=a.slow.length) (fun k=>a.slow.length-k) 0 (by simp) (Weak.mk ?_) ?_
 ·simp (disch:=omega) only [XS,VX,List.foldl_nil,go_sem,seval];simp
 ·intro k hk;have hsk:=hs k hk;simp (disch:=omega) only [XS,go_sem,seval];refine cD ?_ ?_<;>intro h<;>simp (disch:=omega) only [Sh.out h,go_sem,seval]
  ·have hk2:k<a.slow.length:=by omega
   have hp:=h3 _ (ZL hk2);have hsn:=Vp (t:=t) hk2;refine cD ?_ ?_<;>intro h4<;>simp (disch:=omega) only [Sh.out h4,go_sem,seval]
   ·rw [if_pos h4] at hsn;exact ⟨k+1,by omega,by omega,Weak.mk (by simp (disch:=omega) only [XS,hsn,Int.add_assoc,go_sem,seval])⟩
   ·rw [if_neg h4] at hsn;exact ⟨k+1,by omega,by omega,Weak.mk (by simp (disch:=omega) only [XS,hsn,go_sem,seval])⟩
  ·have hkl:k=a.slow.length:=by omega
   subst hkl;simp only [Zgz]
theorem UI {β:Type} [Inhabited β] {a b:List β} (hl:a.length=b.length) (h: ∀j,j<a.length->nth a j=nth b j):a=b:=by
 apply List.ext_getElem hl;intro i h1 h2;have:=h i h1;rwa [Zf h1,Zf h2] at this
theorem Zha (a b:List Bool) (c d:Bool) (ha:a.length<=1048576) (hb:b.length<=1048576):PC 225 [.p (.list c (a.map eB)),.p (.list d (b.map eB))] (.bool (decide (a=b))):=by
 refine Za Tryz.func225 rfl ZlX ?_;simp (disch:=omega) only [Tryz.f225,go_sem,seval];refine cD ?_ ?_<;>intro h1<;>simp (disch:=omega) only [Sh.out h1,go_sem,seval]
 ·rw [decide_eq_false fun e=>h1 (by rw [e])]
 ·have hl:a.length=b.length:=by omega
  refine Zg [0,1,12] (fun k:Nat=> [(13,.p (.int .i64 k))]) (fun _=> []) (fun k=>k<=a.length/\ ∀j,j<k->nth a j=nth b j) (fun k=>a.length-k) 0 (by simp) (Weak.mk ?_) ?_
  ·simp (disch:=omega) only [go_sem,seval]
  ·rintro k ⟨hk,hno⟩;simp (disch:=omega) only [go_sem,seval];refine cD ?_ ?_<;>intro h2<;>simp (disch:=omega) only [Sh.out h2,go_sem,seval]
   ·have hk2:k<a.length:=by omega
    refine Zh Zp (by kernel_rfl) (by kernel_rfl) ?_;simp (disch:=omega) only [go_sem,seval];refine cD ?_ ?_<;>intro h3<;>simp (disch:=omega) only [Sh.out h3,go_sem,seval]
    ·rw [decide_eq_false fun e=>by rw [e] at h3;simp at h3]
    ·exact ⟨k+1,⟨by omega,Ze.2 ⟨hno,by simpa using h3⟩⟩,by omega,wk⟩
   ·rw [decide_eq_true (UI hl fun j hj=>hno j (by omega))]
theorem Zht (a b:List Vis) (c d:Bool) (ha:a.length<=1048576) (hb:b.length<=1048576):PC 224 [.p (.list c (a.map XK)),.p (.list d (b.map XK))] (.bool (decide (a=b))):=by
 refine Za Tryz.func224 rfl Zou ?_;simp (disch:=omega) only [Tryz.f224,go_sem,seval];refine cD ?_ ?_<;>intro h1<;>simp (disch:=omega) only [Sh.out h1,go_sem,seval]
 ·rw [decide_eq_false fun e=>h1 (by rw [e])]
 ·have hl:a.length=b.length:=by omega
  refine Zg [0,1,12] (fun k:Nat=> [(13,.p (.int .i64 k))]) (fun _=> []) (fun k=>k<=a.length/\ ∀j,j<k->nth a j=nth b j) (fun k=>a.length-k) 0 (by simp) (Weak.mk ?_) ?_
  ·simp (disch:=omega) only [go_sem,seval]
  ·rintro k ⟨hk,hno⟩;simp (disch:=omega) only [go_sem,seval];refine cD ?_ ?_<;>intro h2<;>simp (disch:=omega) only [Sh.out h2,go_sem,seval]
   ·have hk2:k<a.length:=by omega
    refine Zh Zp (by kernel_rfl) (by kernel_rfl) ?_;simp (disch:=omega) only [go_sem,seval];refine cD ?_ ?_<;>intro h3<;>simp (disch:=omega) only [Sh.out h3,go_sem,seval]
    ·rw [decide_eq_false fun e=>by rw [e] at h3;simp at h3]
    ·exact ⟨k+1,⟨by omega,Ze.2 ⟨hno,JR.2 (by simpa using h3)⟩⟩,by omega,wk⟩
   ·rw [decide_eq_true (UI hl fun j hj=>hno j (by omega))]
end Go.Proofs.YtcpmilhkineciaaGreatDoor.K
