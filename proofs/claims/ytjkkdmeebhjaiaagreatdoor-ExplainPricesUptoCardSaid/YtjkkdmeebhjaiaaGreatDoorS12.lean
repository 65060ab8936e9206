/- Declarations that the closing texts need, part 12: joined by tools/slim.py. -/
import Derived.Test.YtjkkdmeebhjaiaaGreatDoorS11
import Derived.Test.YtjkkdmeebhjaiaaGreatDoorRows
namespace Go.Proofs.YtjkkdmeebhjaiaaGreatDoor.K
open Go Go.AM Go.Proofs
theorem TC : Tryz.prog.cellsOf 3=1:=Zg
theorem Zm0 : Tryz.prog.cellsOf 4=1:=Zg
theorem ZhC : Tryz.prog.cellsOf 9=1:=Zg
theorem Zht : Tryz.prog.cellsOf 22=1:=Zg
theorem Zhu : Tryz.prog.cellsOf 23=1:=Zg
theorem vB : Tryz.prog.cellsOf 25=2:=Zg
theorem ZjE : GL Tryz.prog 25=some [(0,22),(1,23)]:=Zg
theorem Zhv : Tryz.prog.cellsOf 26=1:=Zg
theorem Zhw : Tryz.prog.cellsOf 27=1:=Zg
theorem Zhx : Tryz.prog.cellsOf 28=1:=Zg
theorem Zhy : Tryz.prog.cellsOf 30=6:=Zg
theorem vT : GL Tryz.prog 30=some [(0,25),(2,26),(3,27),(4,28),(5,28)]:=Zg
theorem vC : Tryz.prog.cellsOf 55=1:=Zg
theorem Zhz : Tryz.prog.cellsOf 63=14:=Zg
theorem vU : GL Tryz.prog 63=some [(0,9),(1,3),(2,3),(3,3),(4,55),(5,3),(6,3),(7,3),(8,3),(9,3),(10,3),(11,3),(12,3),(13,3)]:=Zg
theorem vD : Tryz.prog.cellsOf 65=4:=Zg
theorem ZjF : GL Tryz.prog 65=some [(0,3),(1,3),(2,3),(3,3)]:=Zg
theorem ZhA : Tryz.prog.cellsOf 67=16:=Zg
theorem vV : GL Tryz.prog 67=some [(0,9),(1,55),(2,65),(6,65),(10,3),(11,3),(12,3),(13,3),(14,3),(15,4)]:=Zg
theorem ZhB : Tryz.prog.cellsOf 89=2:=Zg
theorem vW : GL Tryz.prog 89=some [(0,3),(1,3)]:=Zg
theorem ZhD : Tryz.prog.cellsOf 99=1:=Zg
theorem yB : Tryz.prog.cellsOf 101=6:=Zg
theorem kZ : GL Tryz.prog 101=some [(0,3),(1,3),(2,3),(3,3),(4,99),(5,99)]:=Zg
theorem yC : Tryz.prog.cellsOf 139=2:=Zg
theorem lA : GL Tryz.prog 139=some [(0,3),(1,3)]:=Zg
set_option linter.unusedVariables false
set_option linter.unusedSimpArgs false
mutual
theorem O7 {H:Type} :(d:DataW H)->GJ d<=Rows.uptoBulk d
 | .lit l=>by cases l<;>simp [GJ,Rows.uptoBulk]
 | .nil=>by simp [GJ,Rows.uptoBulk]
 | .ptr d=>by have:=O7 d;simp only [GJ,Rows.uptoBulk];omega
 | .slice es sp=>by have:=B0 es;have:=B0 sp;simp only [GJ,Rows.uptoBulk];omega
 | .agg ps=>by have:=B0 ps;simp only [GJ,Rows.uptoBulk];omega
 | .iface _ d=>by have:=O7 d;simp only [GJ,Rows.uptoBulk];omega
 | .map es=>by simp only [GJ,Rows.uptoBulk];omega
 | .held h=>by simp [GJ,Rows.uptoBulk]
theorem B0 {H:Type} :(l:List (DataW H))->KG l<=Rows.uptoBulkAll l
 | []=>by simp [KG,Rows.uptoBulkAll]
 | d::r=>by have:=O7 d;have:=B0 r;simp only [KG,Rows.uptoBulkAll];omega
end
theorem P9 {H:Type} {l:List (DataW H)} (h:Rows.uptoSmall H l=true):KG l<=1048576:=by
 have h1:=B0 l;have h2:Rows.uptoBulkAll l<=1048576:=Cu h;omega
abbrev Qr (n:Int):Prop:= -9223372036854775808<=n/\n<=9223372036854775807
def eI (n:Int):PV:= .int .i64 n
def eB (b:Bool):PV:= .bool b
def eS (s:List UInt8):PV:= .str s
def eP (p:Int×Int):PV:= .agg [.int .i64 p.1,.int .i64 p.2]
@[go_sem] theorem Zpu (n:Int):eI n= .int .i64 n:=Zm rfl rfl
@[go_sem] theorem Zps (b:Bool):eB b= .bool b:=Zm rfl rfl
@[go_sem] theorem Zpy (s:List UInt8):eS s= .str s:=Zm rfl rfl
@[go_sem] theorem Zpw (p:Int×Int):eP p= .agg [.int .i64 p.1,.int .i64 p.2]:=Zm rfl rfl
@[go_sem] theorem ZnG (l:List Int):KT 1 (l.map eI)=true:=QF fun _=>rfl
@[go_sem] theorem Zk2 (l:List Bool):BO 1 (l.map eB)=true:=BP (f:=eB) (S:=1) (fun _=>rfl) l
@[go_sem] theorem ZnE (l:List Bool):KT 1 (l.map eB)=true:=QF fun _=>rfl
theorem MR {B xs} (h: ∀y∈xs,FitV Tryz.prog B 3 y): ∃l:List Int,xs=l.map eI/\ ∀n∈l,Qr n :=
 VZ (f:=eI) fun y hy=>by
  obtain ⟨n,rfl,w⟩:=RY Tryz.underlying3 (h y hy);exact ⟨n,rfl,Xz w⟩
theorem gU {B xs} (h: ∀y∈xs,FitV Tryz.prog B 9 y): ∃l:List (List UInt8),xs=l.map eS/\ ∀s∈l,s.length<=B :=
 VZ (f:=eS) fun y hy=>by
  obtain ⟨s,rfl,w,_⟩:=qK Tryz.underlying9 (h y hy);exact ⟨s,rfl,w⟩
theorem Zcv {α:Type} {l:List α} (h:l.length=2): ∃a0 a1,l= [a0,a1]:=by
 match l,h with | [a0,a1],_=>simp
theorem Zji {α:Type} {l:List α} (h:l.length=6): ∃a0 a1 a2 a3 a4 a5,l= [a0,a1,a2,a3,a4,a5]:=by
 match l,h with | [a0,a1,a2,a3,a4,a5],_=>simp
theorem Zjg {α:Type} {l:List α} (h:l.length=14): ∃a0 a1 a2 a3 a4 a5 a6 a7 a8 a9 a10 a11 a12 a13,l= [a0,a1,a2,a3,a4,a5,a6,a7,a8,a9,a10,a11,a12,a13]:=by
 match l,h with | [a0,a1,a2,a3,a4,a5,a6,a7,a8,a9,a10,a11,a12,a13],_=>simp
theorem Zns {α:Type} {l:List α} (h:l.length=4): ∃a0 a1 a2 a3,l= [a0,a1,a2,a3]:=by
 match l,h with | [a0,a1,a2,a3],_=>simp
theorem Zjh {α:Type} {l:List α} (h:l.length=16): ∃a0 a1 a2 a3 a4 a5 a6 a7 a8 a9 a10 a11 a12 a13 a14 a15,l= [a0,a1,a2,a3,a4,a5,a6,a7,a8,a9,a10,a11,a12,a13,a14,a15]:=by
 match l,h with | [a0,a1,a2,a3,a4,a5,a6,a7,a8,a9,a10,a11,a12,a13,a14,a15],_=>grind
structure Pt where
 t:Int
 a:Int
 deriving Inhabited
def cPt (x:Pt):List PV:= [.int .i64 x.t,.int .i64 x.a]
def Hp (x:Pt):PV:= .agg [.int .i64 x.t,.int .i64 x.a]
@[go_sem] theorem Zm1 (x:Pt):Hp x= .agg [.int .i64 x.t,.int .i64 x.a]:=Zm rfl rfl
def Pt.wf (B:Nat) (x:Pt):Prop:=Qr x.t/\Qr x.a
theorem qM {B m cs} (h:Wl Tryz.prog B m 139 cs): ∃x:Pt,cs=cPt x/\x.wf B:=by
 obtain ⟨h1,m',h2⟩:=V8 lA yC h;obtain ⟨a0,a1,rfl⟩:=Zcv h1;obtain ⟨n0,e0,w0⟩:=Z0 Tryz.underlying3 (h2 (0,3) Zb);obtain ⟨n1,e1,w1⟩:=Z0 Tryz.underlying3 (h2 (1,3) Zb);simp [TC] at e0 e1;subst e0;subst e1;exact ⟨⟨n0,n1⟩,rfl,Xz w0,Xz w1⟩
theorem gS {B v} (h:FitV Tryz.prog B 139 v): ∃x:Pt,v=Hp x/\x.wf B:=by
 obtain ⟨k,cs,h,e⟩:=h.out;obtain ⟨x,rfl,hw⟩:=qM h;exact ⟨x,e.trans (by rw [Kc,if_pos (Ug lA)];rfl),hw⟩
structure Arc where
 src:Int
 dst:Int
 prof:Int
 miles:Int
 travel_c:Bool
 travel:List (Pt)
 slow_c:Bool
 slow:List (Pt)
 deriving Inhabited
def ZmY (x:Arc):List PV:= [.int .i64 x.src,.int .i64 x.dst,.int .i64 x.prof,.int .i64 x.miles,.list x.travel_c (x.travel.map Hp),.list x.slow_c (x.slow.map Hp)]
def VE (x:Arc):PV:= .agg [.int .i64 x.src,.int .i64 x.dst,.int .i64 x.prof,.int .i64 x.miles,.list x.travel_c (x.travel.map Hp),.list x.slow_c (x.slow.map Hp)]
@[go_sem] theorem Zlb (x:Arc):VE x= .agg [.int .i64 x.src,.int .i64 x.dst,.int .i64 x.prof,.int .i64 x.miles,.list x.travel_c (x.travel.map Hp),.list x.slow_c (x.slow.map Hp)]:=Zm rfl rfl
def Arc.wf (B:Nat) (x:Arc):Prop:=Qr x.src/\Qr x.dst/\Qr x.prof/\Qr x.miles/\x.travel.length<=B/\(∀y∈x.travel,Pt.wf B y)/\x.slow.length<=B/\(∀y∈x.slow,Pt.wf B y)
theorem gX {B m cs} (h:Wl Tryz.prog B m 101 cs): ∃x:Arc,cs=ZmY x/\x.wf B:=by
 obtain ⟨h1,m',h2⟩:=V8 kZ yB h;obtain ⟨a0,a1,a2,a3,a4,a5,rfl⟩:=Zji h1;obtain ⟨n0,e0,w0⟩:=Z0 Tryz.underlying3 (h2 (0,3) Zb);obtain ⟨n1,e1,w1⟩:=Z0 Tryz.underlying3 (h2 (1,3) Zb);obtain ⟨n2,e2,w2⟩:=Z0 Tryz.underlying3 (h2 (2,3) Zb);obtain ⟨n3,e3,w3⟩:=Z0 Tryz.underlying3 (h2 (3,3) Zb);obtain ⟨y4,e4,w4,_,z4⟩:=YE Tryz.underlying99 (h2 (4,99) Zb);obtain ⟨n4,rfl,u4⟩:=VZ (f:=Hp) fun y hy=>gS (z4 y hy);obtain ⟨y5,e5,w5,_,z5⟩:=YE Tryz.underlying99 (h2 (5,99) Zb)
 obtain ⟨n5,rfl,u5⟩:=VZ (f:=Hp) fun y hy=>gS (z5 y hy);simp [ZhD,TC] at e0 e1 e2 e3 e4 e5;subst e0;subst e1;subst e2;subst e3;subst e4;subst e5;exact ⟨⟨n0,n1,n2,n3,false,n4,false,n5⟩,rfl,Xz w0,Xz w1,Xz w2,Xz w3,by grind,u4,by grind,u5⟩
theorem qH {B v} (h:FitV Tryz.prog B 101 v): ∃x:Arc,v=VE x/\x.wf B:=by
 obtain ⟨k,cs,h,e⟩:=h.out;obtain ⟨x,rfl,hw⟩:=gX h;exact ⟨x,e.trans (by rw [Kc,if_pos (Ug kZ)];rfl),hw⟩
structure Net where
 places_c:Bool
 places:List (List UInt8)
 arcs_c:Bool
 arcs:List (Arc)
 deriving Inhabited
def Zhs (x:Net):List PV:= [.list x.places_c (x.places.map eS),.list x.arcs_c (x.arcs.map VE)]
def B1 (x:Net):PV:= .agg [.list x.places_c (x.places.map eS),.list x.arcs_c (x.arcs.map VE)]
@[go_sem] theorem Zlg (x:Net):B1 x= .agg [.list x.places_c (x.places.map eS),.list x.arcs_c (x.arcs.map VE)]:=Zm rfl rfl
def Net.wf (B:Nat) (x:Net):Prop:=x.places.length<=B/\(∀s∈x.places,s.length<=B)/\x.arcs.length<=B/\(∀y∈x.arcs,Arc.wf B y)
theorem gY {B m cs} (h:Wl Tryz.prog B m 25 cs): ∃x:Net,cs=Zhs x/\x.wf B:=by
 obtain ⟨h1,m',h2⟩:=V8 ZjE vB h;obtain ⟨a0,a1,rfl⟩:=Zcv h1;obtain ⟨y0,e0,w0,_,z0⟩:=YE Tryz.underlying22 (h2 (0,22) Zb);obtain ⟨n0,rfl,u0⟩:=gU z0;obtain ⟨y1,e1,w1,_,z1⟩:=YE Tryz.underlying23 (h2 (1,23) Zb);obtain ⟨n1,rfl,u1⟩:=VZ (f:=VE) fun y hy=>qH (z1 y hy);simp [Zhu,Zht] at e0 e1;subst e0;subst e1;exact ⟨⟨false,n0,false,n1⟩,rfl,by grind,u0,by grind,u1⟩
structure Typ where
 name:List UInt8
 count:Int
 src:Int
 dst:Int
 cap_c:Bool
 cap:List (Int)
 skills:Int
 prof:Int
 opn:Int
 cls:Int
 drive:Int
 rest:Int
 fixed:Int
 perMile:Int
 perTick:Int
 deriving Inhabited
def KC (x:Typ):List PV:= [.str x.name,.int .i64 x.count,.int .i64 x.src,.int .i64 x.dst,.list x.cap_c (x.cap.map eI),.int .i64 x.skills,.int .i64 x.prof,.int .i64 x.opn,.int .i64 x.cls,.int .i64 x.drive,.int .i64 x.rest,.int .i64 x.fixed,.int .i64 x.perMile,.int .i64 x.perTick]
def X0 (x:Typ):PV:= .agg [.str x.name,.int .i64 x.count,.int .i64 x.src,.int .i64 x.dst,.list x.cap_c (x.cap.map eI),.int .i64 x.skills,.int .i64 x.prof,.int .i64 x.opn,.int .i64 x.cls,.int .i64 x.drive,.int .i64 x.rest,.int .i64 x.fixed,.int .i64 x.perMile,.int .i64 x.perTick]
@[go_sem] theorem Zlp (x:Typ):X0 x= .agg [.str x.name,.int .i64 x.count,.int .i64 x.src,.int .i64 x.dst,.list x.cap_c (x.cap.map eI),.int .i64 x.skills,.int .i64 x.prof,.int .i64 x.opn,.int .i64 x.cls,.int .i64 x.drive,.int .i64 x.rest,.int .i64 x.fixed,.int .i64 x.perMile,.int .i64 x.perTick]:=Zm rfl rfl
@[go_sem] theorem Zjy (l:List Typ):KT 14 (l.map X0)=true:=QF fun _=>rfl
def Typ.wf (B:Nat) (x:Typ):Prop:=x.name.length<=B/\Qr x.count/\Qr x.src/\Qr x.dst/\x.cap.length<=B/\(∀n∈x.cap,Qr n)/\Qr x.skills/\Qr x.prof/\Qr x.opn/\Qr x.cls/\Qr x.drive/\Qr x.rest/\Qr x.fixed/\Qr x.perMile/\Qr x.perTick
theorem hJ {B m cs} (h:Wl Tryz.prog B m 63 cs): ∃x:Typ,cs=KC x/\x.wf B:=by
 obtain ⟨h1,m',h2⟩:=V8 vU Zhz h;obtain ⟨a0,a1,a2,a3,a4,a5,a6,a7,a8,a9,a10,a11,a12,a13,rfl⟩:=Zjg h1;obtain ⟨n0,e0,w0,_⟩:=FC Tryz.underlying9 (h2 (0,9) Zb);obtain ⟨n1,e1,w1⟩:=Z0 Tryz.underlying3 (h2 (1,3) Zb);obtain ⟨n2,e2,w2⟩:=Z0 Tryz.underlying3 (h2 (2,3) Zb);obtain ⟨n3,e3,w3⟩:=Z0 Tryz.underlying3 (h2 (3,3) Zb);obtain ⟨y4,e4,w4,_,z4⟩:=YE Tryz.underlying55 (h2 (4,55) Zb);obtain ⟨n4,rfl,u4⟩:=MR z4;obtain ⟨n5,e5,w5⟩:=Z0 Tryz.underlying3 (h2 (5,3) Zb)
 obtain ⟨n6,e6,w6⟩:=Z0 Tryz.underlying3 (h2 (6,3) Zb);obtain ⟨n7,e7,w7⟩:=Z0 Tryz.underlying3 (h2 (7,3) Zb);obtain ⟨n8,e8,w8⟩:=Z0 Tryz.underlying3 (h2 (8,3) Zb);obtain ⟨n9,e9,w9⟩:=Z0 Tryz.underlying3 (h2 (9,3) Zb);obtain ⟨n10,e10,w10⟩:=Z0 Tryz.underlying3 (h2 (10,3) Zb);obtain ⟨n11,e11,w11⟩:=Z0 Tryz.underlying3 (h2 (11,3) Zb);obtain ⟨n12,e12,w12⟩:=Z0 Tryz.underlying3 (h2 (12,3) Zb);obtain ⟨n13,e13,w13⟩:=Z0 Tryz.underlying3 (h2 (13,3) Zb);simp [vC,TC,ZhC] at e0 e1 e2 e3 e4 e5 e6 e7 e8 e9 e10 e11 e12 e13
 subst e0;subst e1;subst e2;subst e3;subst e4;subst e5;subst e6;subst e7;subst e8;subst e9;subst e10;subst e11;subst e12;subst e13;exact ⟨⟨n0,n1,n2,n3,false,n4,n5,n6,n7,n8,n9,n10,n11,n12,n13⟩,rfl,w0,Xz w1,Xz w2,Xz w3,by grind,u4,Xz w5,Xz w6,Xz w7,Xz w8,Xz w9,Xz w10,Xz w11,Xz w12,Xz w13⟩
theorem qJ {B v} (h:FitV Tryz.prog B 63 v): ∃x:Typ,v=X0 x/\x.wf B:=by
 obtain ⟨k,cs,h,e⟩:=h.out;obtain ⟨x,rfl,hw⟩:=hJ h;exact ⟨x,e.trans (by rw [Kc,if_pos (Ug vU)];rfl),hw⟩
structure Stp where
 place:Int
 opn:Int
 cls:Int
 serv:Int
 deriving Inhabited
def AY (x:Stp):List PV:= [.int .i64 x.place,.int .i64 x.opn,.int .i64 x.cls,.int .i64 x.serv]
def Fw (x:Stp):PV:= .agg [.int .i64 x.place,.int .i64 x.opn,.int .i64 x.cls,.int .i64 x.serv]
@[go_sem] theorem Zlm (x:Stp):Fw x= .agg [.int .i64 x.place,.int .i64 x.opn,.int .i64 x.cls,.int .i64 x.serv]:=Zm rfl rfl
def Stp.wf (B:Nat) (x:Stp):Prop:=Qr x.place/\Qr x.opn/\Qr x.cls/\Qr x.serv
theorem MS {B m cs} (h:Wl Tryz.prog B m 65 cs): ∃x:Stp,cs=AY x/\x.wf B:=by
 obtain ⟨h1,m',h2⟩:=V8 ZjF vD h;obtain ⟨a0,a1,a2,a3,rfl⟩:=Zns h1;obtain ⟨n0,e0,w0⟩:=Z0 Tryz.underlying3 (h2 (0,3) Zb);obtain ⟨n1,e1,w1⟩:=Z0 Tryz.underlying3 (h2 (1,3) Zb);obtain ⟨n2,e2,w2⟩:=Z0 Tryz.underlying3 (h2 (2,3) Zb);obtain ⟨n3,e3,w3⟩:=Z0 Tryz.underlying3 (h2 (3,3) Zb);simp [TC] at e0 e1 e2 e3;subst e0;subst e1;subst e2;subst e3;exact ⟨⟨n0,n1,n2,n3⟩,rfl,Xz w0,Xz w1,Xz w2,Xz w3⟩
theorem vE {B v} (h:FitV Tryz.prog B 89 v): ∃x:Int×Int,v=eP x/\Qr x.1/\Qr x.2:=by
 obtain ⟨k,cs,h,e⟩:=h.out;obtain ⟨h1,m',h2⟩:=V8 vW ZhB h;obtain ⟨a,b,rfl⟩:=Zcv h1;obtain ⟨n0,e0,w0⟩:=Z0 Tryz.underlying3 (h2 (0,3) Zb);obtain ⟨n1,e1,w1⟩:=Z0 Tryz.underlying3 (h2 (1,3) Zb);simp [TC] at e0 e1;subst e0;subst e1;exact ⟨(n0,n1),e.trans (by rw [Kc,if_pos (Ug vW)];rfl),Xz w0,Xz w1⟩
structure Ord where
 name:List UInt8
 load_c:Bool
 load:List (Int)
 pick:Stp
 drp:Stp
 skills:Int
 penalty:Int
 split:Int
 last:Int
 now:Int
 off:Bool
 deriving Inhabited
def ZmZ (x:Ord):List PV:= [.str x.name,.list x.load_c (x.load.map eI),.int .i64 x.pick.place,.int .i64 x.pick.opn,.int .i64 x.pick.cls,.int .i64 x.pick.serv,.int .i64 x.drp.place,.int .i64 x.drp.opn,.int .i64 x.drp.cls,.int .i64 x.drp.serv,.int .i64 x.skills,.int .i64 x.penalty,.int .i64 x.split,.int .i64 x.last,.int .i64 x.now,.bool x.off]
def eOrd (x:Ord):PV:= .agg [.str x.name,.list x.load_c (x.load.map eI),.int .i64 x.pick.place,.int .i64 x.pick.opn,.int .i64 x.pick.cls,.int .i64 x.pick.serv,.int .i64 x.drp.place,.int .i64 x.drp.opn,.int .i64 x.drp.cls,.int .i64 x.drp.serv,.int .i64 x.skills,.int .i64 x.penalty,.int .i64 x.split,.int .i64 x.last,.int .i64 x.now,.bool x.off]
@[go_sem] theorem RR (x:Ord):eOrd x= .agg [.str x.name,.list x.load_c (x.load.map eI),.int .i64 x.pick.place,.int .i64 x.pick.opn,.int .i64 x.pick.cls,.int .i64 x.pick.serv,.int .i64 x.drp.place,.int .i64 x.drp.opn,.int .i64 x.drp.cls,.int .i64 x.drp.serv,.int .i64 x.skills,.int .i64 x.penalty,.int .i64 x.split,.int .i64 x.last,.int .i64 x.now,.bool x.off]:=Zm rfl rfl
@[go_sem] theorem Zjw (l:List Ord):KT 16 (l.map eOrd)=true:=QF fun _=>rfl
def Ord.wf (B:Nat) (x:Ord):Prop:=x.name.length<=B/\x.load.length<=B/\(∀n∈x.load,Qr n)/\Stp.wf B x.pick/\Stp.wf B x.drp/\Qr x.skills/\Qr x.penalty/\Qr x.split/\Qr x.last/\Qr x.now
theorem gZ {B m cs} (h:Wl Tryz.prog B m 67 cs): ∃x:Ord,cs=ZmZ x/\x.wf B:=by
 obtain ⟨h1,m',h2⟩:=V8 vV ZhA h;obtain ⟨a0,a1,a2,a3,a4,a5,a6,a7,a8,a9,a10,a11,a12,a13,a14,a15,rfl⟩:=Zjh h1;obtain ⟨n0,e0,w0,_⟩:=FC Tryz.underlying9 (h2 (0,9) Zb);obtain ⟨y1,e1,w1,_,z1⟩:=YE Tryz.underlying55 (h2 (1,55) Zb);obtain ⟨n1,rfl,u1⟩:=MR z1;obtain ⟨n2,e2,w2⟩:=MS (h2 (2,65) Zb);obtain ⟨n3,e3,w3⟩:=MS (h2 (6,65) Zb);obtain ⟨n4,e4,w4⟩:=Z0 Tryz.underlying3 (h2 (10,3) Zb);obtain ⟨n5,e5,w5⟩:=Z0 Tryz.underlying3 (h2 (11,3) Zb);obtain ⟨n6,e6,w6⟩:=Z0 Tryz.underlying3 (h2 (12,3) Zb)
 obtain ⟨n7,e7,w7⟩:=Z0 Tryz.underlying3 (h2 (13,3) Zb);obtain ⟨n8,e8,w8⟩:=Z0 Tryz.underlying3 (h2 (14,3) Zb);obtain ⟨n9,e9⟩:=TS Tryz.underlying4 (h2 (15,4) Zb);simp [vC,vD,Zm0,TC,ZhC,AY,AY] at e0 e1 e2 e3 e4 e5 e6 e7 e8 e9;subst e0;subst e1;obtain ⟨rfl,rfl,rfl,rfl⟩:=e2;obtain ⟨rfl,rfl,rfl,rfl⟩:=e3;subst e4;subst e5;subst e6;subst e7;subst e8;subst e9;exact ⟨⟨n0,false,n1,n2,n3,n4,n5,n6,n7,n8,n9⟩,rfl,w0,by grind,u1,w2,w3,Xz w4,Xz w5,Xz w6,Xz w7,Xz w8⟩
theorem qI {B v} (h:FitV Tryz.prog B 67 v): ∃x:Ord,v=eOrd x/\x.wf B:=by
 obtain ⟨k,cs,h,e⟩:=h.out;obtain ⟨x,rfl,hw⟩:=gZ h;exact ⟨x,e.trans (by rw [Kc,if_pos (Ug vV)];rfl),hw⟩
structure Inst where
 net:Net
 types_c:Bool
 types:List (Typ)
 orders_c:Bool
 orders:List (Ord)
 apart_c:Bool
 apart:List (Int×Int)
 before_c:Bool
 before:List (Int×Int)
 deriving Inhabited
def Zhr (x:Inst):List PV:= [.list x.net.places_c (x.net.places.map eS),.list x.net.arcs_c (x.net.arcs.map VE),.list x.types_c (x.types.map X0),.list x.orders_c (x.orders.map eOrd),.list x.apart_c (x.apart.map eP),.list x.before_c (x.before.map eP)]
def Zq (x:Inst):PV:= .agg [.list x.net.places_c (x.net.places.map eS),.list x.net.arcs_c (x.net.arcs.map VE),.list x.types_c (x.types.map X0),.list x.orders_c (x.orders.map eOrd),.list x.apart_c (x.apart.map eP),.list x.before_c (x.before.map eP)]
@[go_sem] theorem ZhF (x:Inst):Zq x= .agg [.list x.net.places_c (x.net.places.map eS),.list x.net.arcs_c (x.net.arcs.map VE),.list x.types_c (x.types.map X0),.list x.orders_c (x.orders.map eOrd),.list x.apart_c (x.apart.map eP),.list x.before_c (x.before.map eP)]:=Zm rfl rfl
def Inst.wf (B:Nat) (x:Inst):Prop:=Net.wf B x.net/\x.types.length<=B/\(∀y∈x.types,Typ.wf B y)/\x.orders.length<=B/\(∀y∈x.orders,Ord.wf B y)/\x.apart.length<=B/\(∀p∈x.apart,Qr p.1/\Qr p.2)/\x.before.length<=B/\(∀p∈x.before,Qr p.1/\Qr p.2)
theorem TR {B m cs} (h:Wl Tryz.prog B m 30 cs): ∃x:Inst,cs=Zhr x/\x.wf B:=by
 obtain ⟨h1,m',h2⟩:=V8 vT Zhy h;obtain ⟨a0,a1,a2,a3,a4,a5,rfl⟩:=Zji h1;obtain ⟨n0,e0,w0⟩:=gY (h2 (0,25) Zb);obtain ⟨y1,e1,w1,_,z1⟩:=YE Tryz.underlying26 (h2 (2,26) Zb);obtain ⟨n1,rfl,u1⟩:=VZ (f:=X0) fun y hy=>qJ (z1 y hy);obtain ⟨y2,e2,w2,_,z2⟩:=YE Tryz.underlying27 (h2 (3,27) Zb);obtain ⟨n2,rfl,u2⟩:=VZ (f:=eOrd) fun y hy=>qI (z2 y hy);obtain ⟨y3,e3,w3,_,z3⟩:=YE Tryz.underlying28 (h2 (4,28) Zb);obtain ⟨n3,rfl,u3⟩:=VZ (f:=eP) fun y hy=>vE (z3 y hy)
 obtain ⟨y4,e4,w4,_,z4⟩:=YE Tryz.underlying28 (h2 (5,28) Zb);obtain ⟨n4,rfl,u4⟩:=VZ (f:=eP) fun y hy=>vE (z4 y hy);simp [Zhx,Zhw,Zhv,vB,Zhs] at e0 e1 e2 e3 e4;obtain ⟨rfl,rfl⟩:=e0;subst e1;subst e2;subst e3;subst e4;exact ⟨⟨n0,false,n1,false,n2,false,n3,false,n4⟩,rfl,w0,by grind,u1,by grind,u2,by grind,u3,by grind,u4⟩
theorem gQ {B v} (h:FitV Tryz.prog B 30 v): ∃x:Inst,v=Zq x/\x.wf B:=by
 obtain ⟨k,cs,h,e⟩:=h.out;obtain ⟨x,rfl,hw⟩:=TR h;exact ⟨x,e.trans (by rw [Kc,if_pos (Ug vT)];rfl),hw⟩
structure Vis where
 order:Int
 drp:Bool
 deriving Inhabited
def Z5 (x:Vis):PV:= .agg [.int .i64 x.order,.bool x.drp]
@[go_sem] theorem RS (x:Vis):Z5 x= .agg [.int .i64 x.order,.bool x.drp]:=Zm rfl rfl
@[go_sem] theorem ZdY (l:List Vis):BO 2 (l.map Z5)=true:=BP (f:=Z5) (S:=2) (fun _=>rfl) l
@[go_sem] theorem Zjz (l:List Vis):KT 2 (l.map Z5)=true:=QF fun _=>rfl
structure Rte where
 typ:Int
 start:Int
 rests_c:Bool
 rests:List (Bool)
 visits_c:Bool
 visits:List (Vis)
 deriving Inhabited
def Wp (x:Rte):PV:= .agg [.int .i64 x.typ,.int .i64 x.start,.list x.rests_c (x.rests.map eB),.list x.visits_c (x.visits.map Z5)]
@[go_sem] theorem Zli (x:Rte):Wp x= .agg [.int .i64 x.typ,.int .i64 x.start,.list x.rests_c (x.rests.map eB),.list x.visits_c (x.visits.map Z5)]:=Zm rfl rfl
structure Tim where
 arr:Int
 beg:Int
 dep:Int
 rest:Bool
 deriving Inhabited
def eTim (x:Tim):PV:= .agg [.int .i64 x.arr,.int .i64 x.beg,.int .i64 x.dep,.bool x.rest]
@[go_sem] theorem Zln (x:Tim):eTim x= .agg [.int .i64 x.arr,.int .i64 x.beg,.int .i64 x.dep,.bool x.rest]:=Zm rfl rfl
@[go_sem] theorem Zjx (l:List Tim):KT 4 (l.map eTim)=true:=QF fun _=>rfl
structure She where
 rest:Bool
 dep:Int
 times_c:Bool
 times:List (Tim)
 fin:Int
 miles:Int
 deriving Inhabited
def Fu (x:She):PV:= .agg [.bool x.rest,.int .i64 x.dep,.list x.times_c (x.times.map eTim),.int .i64 x.fin,.int .i64 x.miles]
@[go_sem] theorem Zlk (x:She):Fu x= .agg [.bool x.rest,.int .i64 x.dep,.list x.times_c (x.times.map eTim),.int .i64 x.fin,.int .i64 x.miles]:=Zm rfl rfl
structure Sco where
 cost:Int
 moved:Int
 other:Int
 work:Int
 deriving Inhabited
def Ei (x:Sco):PV:= .agg [.int .i64 x.cost,.int .i64 x.moved,.int .i64 x.other,.int .i64 x.work]
@[go_sem] theorem Zlj (x:Sco):Ei x= .agg [.int .i64 x.cost,.int .i64 x.moved,.int .i64 x.other,.int .i64 x.work]:=Zm rfl rfl
structure Pln where
 routes_c:Bool
 routes:List (Rte)
 unserved_c:Bool
 unserved:List (Int)
 deriving Inhabited
def JL (x:Pln):PV:= .agg [.list x.routes_c (x.routes.map Wp),.list x.unserved_c (x.unserved.map eI)]
@[go_sem] theorem Zlh (x:Pln):JL x= .agg [.list x.routes_c (x.routes.map Wp),.list x.unserved_c (x.unserved.map eI)]:=Zm rfl rfl
structure Col where
 typ:Int
 set:Int
 price:Int
 route:Rte
 deriving Inhabited
def GU (x:Col):List PV:= [.int .i64 x.typ,.int .i64 x.set,.int .i64 x.price,.int .i64 x.route.typ,.int .i64 x.route.start,.list x.route.rests_c (x.route.rests.map eB),.list x.route.visits_c (x.route.visits.map Z5)]
def Xk (x:Col):PV:= .agg [.int .i64 x.typ,.int .i64 x.set,.int .i64 x.price,.int .i64 x.route.typ,.int .i64 x.route.start,.list x.route.rests_c (x.route.rests.map eB),.list x.route.visits_c (x.route.visits.map Z5)]
@[go_sem] theorem Zld (x:Col):Xk x= .agg [.int .i64 x.typ,.int .i64 x.set,.int .i64 x.price,.int .i64 x.route.typ,.int .i64 x.route.start,.list x.route.rests_c (x.route.rests.map eB),.list x.route.visits_c (x.route.visits.map Z5)]:=Zm rfl rfl
structure Itm where
 kind:Int
 a:Int
 deriving Inhabited
def Xg (x:Itm):PV:= .agg [.int .i64 x.kind,.int .i64 x.a]
@[go_sem] theorem Zle (x:Itm):Xg x= .agg [.int .i64 x.kind,.int .i64 x.a]:=Zm rfl rfl
@[go_sem] theorem ZdW (l:List Itm):BO 2 (l.map Xg)=true:=BP (f:=Xg) (S:=2) (fun _=>rfl) l
@[go_sem] theorem Zjv (l:List Itm):KT 2 (l.map Xg)=true:=QF fun _=>rfl
theorem own : ownKnob Tryz.prog.godebug=none:=Zg
theorem qX : laidOutB Tryz.prog=true:=Zg
def zeroI : Inst:=⟨⟨true,[],true,[]⟩,true,[],true,[],true,[],true,[]⟩
abbrev Flt := Int×List UInt8
def eF (f:Flt):PV:= .agg [.int .i64 f.1,.str f.2]
@[go_sem] theorem Zpt (f:Flt):eF f= .agg [.int .i64 f.1,.str f.2]:=Zm rfl rfl
@[go_sem] theorem ZnF (l:List Flt):KT 2 (l.map eF)=true:=QF fun _=>rfl
def dec (n:Nat):List UInt8:=if h:n<10 then [UInt8.ofNat (48+n)] else dec (n / 10)++ [UInt8.ofNat (48+n%10)]
termination_by n
decreasing_by omega
theorem RM : ∀(k n:Nat),n<k->(dec n).length<=n+1:=by
 intro k
 induction k with
 | zero=>omega
 | succ k ih =>
  grind [dec]
theorem Bl : ∀(d n:Nat),n<10^(d+1)->(dec n).length<=d+1:=by
 intro d
 induction d with
 | zero=>simp_all [dec]
 | succ d ih =>
  grind [dec]
def AZ (n:Int):List UInt8:=if n<0 then 45::dec n.natAbs else dec n.natAbs
theorem Jf (n:Int) (h:Qr n):(AZ n).length<=20:=by
 have h1:n.natAbs<10^(18+1):=Za
 have:=Bl 18 n.natAbs h1
 grind [AZ]
structure FR {α:Type} (p:α->Prop) (C:Prop) (b:Nat) (l:List α):Prop where
 len:l.length<=b
 emp:l= []↔C
 all: ∀x∈l,p x
theorem FR.nil {α:Type} {p:α->Prop} {C:Prop} {b:Nat} (h:C):FR p C b []:=⟨Zb,by simp [h],Zb⟩
theorem FR.no {α:Type} {p:α->Prop} {C c:Prop} {b:Nat} {l:List α} (h:FR p C b l) (hc:c):FR p (C/\c) (b+1) l:=⟨by have:=h.len;omega,by rw [h.emp];simp [hc],h.all⟩
theorem FR.yes {α:Type} {p:α->Prop} {C c:Prop} {b:Nat} {l:List α} {x:α} (h:FR p C b l) (hc: ¬c) (hx:p x):FR p (C/\c) (b+1) (l++ [x]) :=
 ⟨by have:=h.len;simp;omega,by simp [hc],fun y hy=>by
  rcases Xe.1 hy with hy | hy
  ·exact h.all y hy
  grind⟩
theorem FR.app {α:Type} {p:α->Prop} {C D:Prop} {b d:Nat} {l m:List α} (h:FR p C b l) (k:FR p D d m):FR p (C/\D) (b+d) (l++m) :=
 ⟨by have:=h.len;have:=k.len;simp;omega,by rw [VQ,h.emp,k.emp],fun y hy=>by
  rcases Xe.1 hy with hy | hy
  ·exact h.all y hy
  ·exact k.all y hy⟩
theorem FR.to {α:Type} {p:α->Prop} {C D:Prop} {b d:Nat} {l:List α} (h:FR p C b l) (hb:b<=d) (hc:C↔D):FR p D d l:=⟨JZ h.len hb,h.emp.trans hc,h.all⟩
theorem Zp {p:Nat->Prop} {k:Nat} :(∀j,j<k+1->p j)↔((∀j,j<k->p j)/\p k) :=
 ⟨fun h=>⟨fun j hj=>h j Za,h k Za⟩,fun h j hj=>by
  grind⟩
def JQ (c:UInt8):Bool:=decide (48<=c.toNat/\c.toNat<=57)
def Jl (c:UInt8):Bool:=decide (97<=c.toNat/\c.toNat<=122)||decide (65<=c.toNat/\c.toNat<=90)||decide (c.toNat=95)
def nameOk (s:List UInt8):Bool:=decide (1<=s.length)&&decide (s.length<=16)&& !JQ (nth s 0)&&s.all fun c=>Jl c||JQ c
def rng (n lo hi:Int):Bool:=decide (lo<=n/\n<=hi)
def LY (n:Int):Bool:=rng n 0 4096
def lL (l:List Pt) (i:Nat):Prop:=(0<=(nth l i).t/\(nth l i).t<=4096/\(nth l i).t<=(nth l i).a/\(nth l i).a<=(nth l i).t+4096)/\(0<i->(nth l (i-1)).t<(nth l i).t/\(nth l (i-1)).a<=(nth l i).a)
def WZ (l:List Pt):Prop:=(1<=l.length/\l.length<=16)/\ ∀i,i<l.length->lL l i
def K3 (l:List Pt) (i:Nat):Prop:=LY (nth l i).t=true/\LY (nth l i).a=true/\(0<i->(nth l (i-1)).t<(nth l i).t)
def Mk (n:Net) (i:Nat):Prop :=
 ((((((0<=(nth n.arcs i).src/\(nth n.arcs i).src<n.places.length/\0<=(nth n.arcs i).dst/\(nth n.arcs i).dst<n.places.length) /\
 (0<=(nth n.arcs i).prof/\(nth n.arcs i).prof<=7/\0<=(nth n.arcs i).miles/\(nth n.arcs i).miles<=10000/\(nth n.arcs i).src≠(nth n.arcs i).dst)) /\
 (∀k,k<i-> ¬((nth n.arcs i).src=(nth n.arcs k).src/\(nth n.arcs i).dst=(nth n.arcs k).dst/\(nth n.arcs i).prof=(nth n.arcs k).prof))) /\
 WZ (nth n.arcs i).travel)/\(nth n.arcs i).slow.length<=16)/\ ∀k,k<(nth n.arcs i).slow.length->K3 (nth n.arcs i).slow k)
def PI (n:Net) (i:Nat):Prop:=nameOk (nth n.places i)=true/\ ∀k,k<i->nth n.places k≠nth n.places i
def KW (n:Net):Prop:=n.places.length<=24/\ ∀i,i<n.places.length->PI n i
def netOk (n:Net):Prop:=(KW n/\n.arcs.length<=1024)/\ ∀i,i<n.arcs.length->Mk n i
set_option maxRecDepth 8000
set_option maxHeartbeats 4000000
theorem RO (c:UInt8):PC 128 [.p (.int .u8 (c.toNat:Nat))] (.bool (JQ c)):=by
 refine Zc Tryz.func128 rfl zV ?_;simp (disch:=omega) only [Tryz.f128,go_sem,seval];refine gT ?_ ?_<;>intro h<;>simp (disch:=omega) only [Sh.out h,go_sem,seval,↓reduceIte]
 all_goals (simp [JQ];first | done | omega | grind)
theorem jL (c:UInt8):PC 129 [.p (.int .u8 (c.toNat:Nat))] (.bool (Jl c)):=by
 refine Zc Tryz.func129 rfl zW ?_;simp (disch:=omega) only [Tryz.f129,go_sem,seval]
 repeat' (first | (refine gT ?_ ?_<;>intro hq<;>simp (disch:=omega) only [Sh.out hq,go_sem,seval,↓reduceIte]) | (refine gF ?_ ?_<;>intro hq<;>simp (disch:=omega) only [Sh.out hq,go_sem,seval,↓reduceIte]) | (refine Qu (fun hq=> ?_) (fun hq=> ?_)<;>(try simp only [Zr,X3,Z2] at hq)<;>simp (disch:=omega) only [Sh.out hq,go_sem,seval]))
 all_goals (simp [Jl];first | done | omega | (rw [Ww];simp;omega))
theorem Py (s:List UInt8) (hs:s.length<=1048576):PC 95 [.p (.str s)] (.bool (nameOk s)):=by
 refine Zc Tryz.func95 rfl Zi8 ?_;simp (disch:=omega) only [Tryz.f95,go_sem,seval];refine gF ?_ ?_<;>intro h<;>simp (disch:=omega) only [Sh.out h,go_sem,seval,↓reduceIte]
 ·grind [nameOk]
 ·refine gF ?_ ?_<;>intro h2<;>simp (disch:=omega) only [Sh.out h2,go_sem,seval]
  ·grind [nameOk]
  ·have g1:1<=s.length:=Za
   have g2:s.length<=16:=Za
   refine (RO (nth s 0)).use (Zd ?_);refine cD ?_ ?_<;>intro h3<;>simp (disch:=omega) only [Sh.out h3,go_sem,seval]
   ·simp [nameOk,h3]
   ·refine Zl [0] (fun k:Nat=> [(3,.p (.int .i64 k))]) (fun _=> []) (fun k=>k<=s.length/\ ∀j,j<k->(Jl (nth s j)||JQ (nth s j))=true) (fun k=>s.length-k) 0 Zb (Weak.mk ?_) ?_
    ·simp (disch:=omega) only [go_sem,seval,↓reduceIte]
    ·rintro k ⟨hk,hno⟩;refine Zd ?_
     have hall: ∀j,j<s.length->(Jl (nth s j)||JQ (nth s j))=false->nameOk s=false:=fun j hj e=>by
      grind [Zj,nameOk]
     refine cD ?_ ?_<;>intro h4<;>simp (disch:=omega) only [Sh.out h4,go_sem,seval,↓reduceIte]
     ·have hk2:k<s.length:=Za
      refine (jL (nth s k)).use (Zd ?_);refine gT ?_ ?_<;>intro h5<;>simp (disch:=omega) only [Sh.out h5,go_sem,seval,↓reduceIte]
      ·refine (RO (nth s k)).use (Zd ?_);refine cD ?_ ?_<;>intro h6<;>simp (disch:=omega) only [Sh.out h6,go_sem,seval,↓reduceIte]
       ·grind
       ·simp only [XF] at h6;exact ⟨k+1,⟨Za,Zp.2 ⟨hno,by simp [h6]⟩⟩,Za,wk⟩
      ·simp only [XF] at h5;exact ⟨k+1,⟨Za,Zp.2 ⟨hno,by simp [h5]⟩⟩,Za,wk⟩
     ·have:s.all (fun c=>Jl c||JQ c)=true:=by
       rw [ZD];intro c hc;obtain ⟨j,hj,rfl⟩:=ZO.1 hc
       grind [Zj]
      grind [nameOk]
theorem Ag (n:Int) (hn:Qr n):PC 74 [.p (.int .i64 n)] (.str (AZ n)):=by
 refine Zc Tryz.func74 rfl ZiQ ?_;simp (disch:=omega) only [Tryz.f74,go_sem,seval]
 have h19:n.natAbs<10^(18+1):=Za
 have hdl:=Bl 18 n.natAbs h19
 refine ZY [7] [0] (fun q:Int×List UInt8×Bool=> [(3,.p (.str q.2.1)),(4,.p (.int .i64 q.1)),(5,.p (.bool q.2.2))]) (fun _=> [])
  (fun q=>Qr q.1/\(q.2.2=true->dec q.1.natAbs++q.2.1=dec n.natAbs)/\(q.2.2=false->q.2.1=dec n.natAbs)) (fun q=>if q.2.2 then q.1.natAbs+1 else 0) (n,[],true) (by simp;omega) (Weak.mk ?_) ?_
 ·simp (disch:=omega) only [go_sem,seval,↓reduceIte]
 ·rintro ⟨m,s,again⟩ ⟨hm,h1,h2⟩;simp only at hm h1 h2;refine Zd ?_
  cases again with
  | false =>
   refine Zd ?_;have h2:=h2 rfl
   have hl2:([45]:List UInt8).length+(dec n.natAbs).length<=9223372036854775807:=by simp;omega
   refine cD ?_ ?_<;>intro h3<;>simp (disch:=omega) only [Sh.out h3,go_sem,seval]
   ·simp (disch:=omega) only [AZ,h2,h3,mC hl2,go_sem,seval,↓reduceIte]
   ·simp (disch:=omega) only [AZ,h2,h3,go_sem,seval,↓reduceIte]
  | true =>
   have h1:=h1 rfl
   have hls:(dec m.natAbs).length+s.length=(dec n.natAbs).length:=by grind
   refine Zd ?_
   have e1:(m.tmod 10).natAbs=m.natAbs%10:=Zb
   have e2:(m.tdiv 10).natAbs=m.natAbs / 10:=by grind
   have e3:m.tmod 10<10/\ -10<m.tmod 10:=⟨Int.tmod_lt_of_pos _ (by decide),Za⟩;refine ZJ [0,3,4] (fun _:Unit=> [(6,.p (.int .i64 ((m.natAbs%10:Nat):Int)))]) (fun _=> []) (fun _=>True) ?_ ?_
   ·refine Zd ?_;refine cD ?_ ?_<;>intro h3<;>simp (disch:=omega) only [Sh.out h3,go_sem,seval,↓reduceIte]
    ·exact ⟨(),Weak.mk (by refine Zd ?_;simp;omega)⟩
    ·exact ⟨(),Weak.mk (by refine Zd ?_;simp;omega)⟩
   ·intro _ _;refine Zh [] _ _ _ _ ?_;simp (disch:=first | omega | (simp only [ZA,ZH,Zz,Zx,Z7,Xx]<;>omega)) only [go_sem,seval,↓reduceIte]
    have e4:(48+((m.natAbs%10:Nat):Int)).toNat=48+m.natAbs%10:=Za
    refine ⟨(m.tdiv 10,UInt8.ofNat (48+m.natAbs%10)::s,decide (m.tdiv 10≠0)),⟨?_,?_,?_⟩,?_,Weak.mk ?_⟩
    ·omega
    ·simp only [Zr];intro hne
     have h10: ¬m.natAbs<10:=Za
     rw [e2,<- h1,dec.eq_def m.natAbs,dif_neg h10];simp
    ·simp only [X3,Z2];intro hz
     have h10:m.natAbs<10:=Za
     rw [<- h1,dec.eq_def m.natAbs,dif_pos h10,Cw h10];simp
    ·grind
    ·simp (disch:=omega) only [e4,go_sem,seval]
def pF (k:Nat) (f:Flt):Prop:=f.2.length<=k
theorem Xd {P:Program} {id:Nat} {l:List Oper} {fr:List V} {H:List AM.Obj} {Q:Exit->List V->List AM.Obj->Prop} {t} (h:hs P (l.map (·.dst)) H (Zu (fun fr'=>Q .normal (Lb fr') H) ⟨⟩) l (Lb fr)) (hm:P.follows .mixedOrders=true:=by exact mixed) (hB:WY (List.toArray l) l.length=true:=by kernel_rfl) (hR:KY (List.toArray l) l.length=true:=by kernel_rfl):AWP P (.region id (Zu (List.toArray l) t) true) fr H Q:=OP hm hB hR h
theorem fO (l:List Pt) (c:Bool) (hl:l.length<=1048576):ACalls Tryz.prog 96 [.p (.list c (l.map Hp))] [] fun x H'=> ∃m:List Flt,FR (pF 20) (WZ l) (2*l.length+1) m/\x= .sl 0 0 m.length m.length/\H'= [.elems 2 (m.map eF)]:=by
 refine ZG [2] Tryz.func96 rfl Zi9 ?_;simp (disch:=omega) only [Tryz.f96,go_sem,seval];refine Zo (Weak.ofNil 3 2 (by simp (disch:=omega) only [go_sem,seval]) Zb (Weak.refl _ _ _)) ?_;refine ZJ [0] (fun m:List Flt=> [(3,.sl 0 0 m.length m.length)]) (fun m=> [.elems 2 (m.map eF)]) (fun m=>FR (pF 20) (1<=l.length/\l.length<=16) 1 m) ?_ ?_
 ·refine Zd ?_
  repeat' (first | (refine V2 (fun hq=> ?_) (fun hq=> ?_)<;>(try simp only [Zr,X3,Z2] at hq)<;>simp (disch:=omega) only [Sh.out hq,go_sem,seval]) | (refine gF ?_ ?_<;>intro hq<;>simp (disch:=omega) only [Sh.out hq,go_sem,seval,↓reduceIte]) | (refine cD ?_ ?_<;>intro hq<;>simp (disch:=omega) only [Sh.out hq,go_sem,seval,↓reduceIte]))
  ·exact ⟨[(4,[])],⟨Zb,by simp;omega,by simp [pF]⟩,wk⟩
  ·exact ⟨[(4,[])],⟨Zb,by simp;omega,by simp [pF]⟩,wk⟩
  ·exact ⟨[],FR.nil Za,wk⟩
 ·intro m hm;refine Zh [] _ _ _ _ (Zd ?_);refine ZY [8] [0] (fun q:Nat×List Flt=> [(3,.sl 0 0 q.2.length q.2.length),(4,.p (.int .i64 q.1))]) (fun q=> [.elems 2 (q.2.map eF)]) (fun q=>q.1<=l.length/\FR (pF 20) ((1<=l.length/\l.length<=16)/\ ∀j,j<q.1->lL l j) (2*q.1+1) q.2) (fun q=>l.length-q.1) (0,m) ⟨Zb,hm.to Zb Zb⟩ (Weak.mk ?_) ?_
  ·simp (disch:=omega) only [go_sem,seval,↓reduceIte]
  ·rintro ⟨k,m⟩ ⟨hk,hm⟩;simp only at hk hm;have hml:=hm.len;refine Zd ?_;refine cD ?_ ?_<;>intro h<;>simp (disch:=omega) only [Sh.out h,go_sem,seval,↓reduceIte]
   ·have hk2:k<l.length:=Za
    refine ZJ [0,4,5] (fun m:List Flt=> [(3,.sl 0 0 m.length m.length)]) (fun m=> [.elems 2 (m.map eF),.cells [.p (.int .i64 (nth l k).t),.p (.int .i64 (nth l k).a)]])
     (fun m=>FR (pF 20) (((1<=l.length/\l.length<=16)/\ ∀j,j<k->lL l j)/\(0<=(nth l k).t/\(nth l k).t<=4096/\(nth l k).t<=(nth l k).a/\(nth l k).a<=(nth l k).t+4096)) (2*k+1+1) m) ?_ ?_
    ·refine Zd ?_
     have hI:Qr (k:Int):=Za
     have hdl:=Jf k hI
     repeat' (first | (refine V2 (fun hq=> ?_) (fun hq=> ?_)<;>(try simp only [Zr,X3,Z2] at hq)<;>simp (disch:=omega) only [Sh.out hq,go_sem,seval]) | (refine gF ?_ ?_<;>intro hq<;>simp (disch:=omega) only [Sh.out hq,go_sem,seval,↓reduceIte]) | (refine cD ?_ ?_<;>intro hq<;>simp (disch:=omega) only [Sh.out hq,go_sem,seval,↓reduceIte]))
     all_goals try exact ⟨m,hm.no Za,wk⟩
     all_goals
      refine (Ag k hI).use ?_;simp (disch:=omega) only [go_sem,seval,↓reduceIte];exact ⟨m++ [(2,AZ k)],hm.yes Za (by simp only [pF];omega),wk⟩
    ·intro m hm;have hml:=hm.len;refine Zh [] _ _ _ _ (Zd ?_)
     have hI:Qr (k:Int):=Za
     have hdl:=Jf k hI;refine Xd (Zd ?_)
     repeat' (first | (refine gT ?_ ?_<;>intro hq<;>simp (disch:=omega) only [Sh.out hq,go_sem,seval,↓reduceIte]) | (refine gF ?_ ?_<;>intro hq<;>simp (disch:=omega) only [Sh.out hq,go_sem,seval,↓reduceIte]) | (refine cD ?_ ?_<;>intro hq<;>simp (disch:=omega) only [Sh.out hq,go_sem,seval,↓reduceIte]))
     all_goals try exact ⟨(k+1,m),⟨by simp only;omega,(hm.no (c:=0<k->(nth l (k-1)).t<(nth l k).t/\(nth l (k-1)).a<=(nth l k).a) Za).to (by simp only;omega) (by simp only [Zp,lL,and_assoc])⟩,by simp only;omega,wk⟩
     all_goals
      refine (Ag k hI).use ?_;simp (disch:=omega) only [go_sem,seval,↓reduceIte];exact ⟨(k+1,m++ [(13,AZ k)]),⟨by simp only;omega,(hm.yes (c:=0<k->(nth l (k-1)).t<(nth l k).t/\(nth l (k-1)).a<=(nth l k).a) Za (by simp only [pF];omega)).to (by simp only;omega) (by simp only [Zp,lL,and_assoc])⟩,by simp only;omega,wk⟩
   ·have hkn:k=l.length:=Za
    subst hkn;exact ⟨m,hm.to Za (by rw [WZ]),0,by simp (disch:=omega) only [go_sem,seval]⟩
set_option maxHeartbeats 8000000
theorem pF.mono {j k:Nat} (h:j<=k) {f:Flt} (hf:pF j f):pF k f:=JZ hf h
theorem FR.pmono {α:Type} {p q:α->Prop} {C:Prop} {b:Nat} {l:List α} (h:FR p C b l) (hp: ∀x,p x->q x):FR q C b l:=⟨h.len,h.emp,fun x hx=>hp x (h.all x hx)⟩
theorem Of (n:Int):PC 97 [.p (.int .i64 n)] (.bool (LY n)):=by
 refine Zc Tryz.func97 rfl Zja ?_;simp (disch:=omega) only [Tryz.f97,go_sem,seval]
 repeat' (first | (refine gT ?_ ?_<;>intro hq<;>simp (disch:=omega) only [Sh.out hq,go_sem,seval,↓reduceIte]) | (refine U6 (fun hq=> ?_) (fun hq=> ?_)<;>(try simp only [Zr,X3,Z2] at hq)<;>simp (disch:=omega) only [Sh.out hq,go_sem,seval]) | (refine Qu (fun hq=> ?_) (fun hq=> ?_)<;>(try simp only [Zr,X3,Z2] at hq)<;>simp (disch:=omega) only [Sh.out hq,go_sem,seval]))
 all_goals (simp [LY,rng];first | done | omega | (rw [Ww];simp;omega))
def Z4 (n:Net):List AM.Obj:= [.cells [.p (.list n.places_c (n.places.map eS)),.p (.list n.arcs_c (n.arcs.map VE))]]
theorem K5 {P Q:Prop} (h:Q) (e:Q->P:=by intro h;simp (disch:=omega) only [Z4,go_sem,seval];exact h):P:=e h
theorem O4 (n:Net) (hp:n.places.length<=1048576) (hs: ∀s∈n.places,s.length<=1048576):ACalls Tryz.prog 70 [.p (B1 n)] [] fun x H'=> ∃m:List Flt,FR (pF 26) (KW n) (n.places.length+1) m/\x= .sl 0 0 m.length m.length/\H'= [.elems 2 (m.map eF)]:=by
 refine ZG [2] Tryz.func70 rfl ZiM ?_;simp (disch:=omega) only [Tryz.f70,go_sem,seval];refine Zo (Weak.ofNil 3 2 (by simp (disch:=omega) only [go_sem,seval]) Zb (Weak.refl _ _ _)) ?_;refine ZJ [1] (fun m:List Flt=> [(3,.sl 1 0 m.length m.length)]) (fun m=>Z4 n++ [.elems 2 (m.map eF)]) (fun m=>FR (pF 26) (n.places.length<=24) 1 m) ?_ ?_
 ·refine Zd ?_;refine ZX ?_ ?_<;>intro h
  ·exact ⟨[(4,[112,108,97,99,101,115])],⟨Zb,by simp;omega,by simp [pF]⟩,Weak.mk (by simp (disch:=omega) only [Z4,go_sem,seval])⟩
  ·exact ⟨[],FR.nil Za,Weak.mk (by simp (disch:=omega) only [Z4,go_sem,seval])⟩
 ·intro m hm;refine Zh [] _ _ _ _ (K5 ?_);refine Zl [1] (fun q:Nat×List Flt=> [(3,.sl 1 0 q.2.length q.2.length),(4,.p (.int .i64 q.1))]) (fun q=>Z4 n++ [.elems 2 (q.2.map eF)]) (fun q=>q.1<=n.places.length/\FR (pF 26) (n.places.length<=24/\ ∀j,j<q.1->PI n j) (q.1+1) q.2) (fun q=>n.places.length-q.1) (0,m) ⟨Zb,hm.to Zb Zb⟩ (Weak.mk ?_) ?_
  ·simp (disch:=omega) only [Z4,go_sem,seval]
  ·rintro ⟨k,m⟩ ⟨hk,hm⟩;simp only at hk hm;have hml:=hm.len;refine K5 ?_;refine cD ?_ ?_<;>intro h<;>simp (disch:=omega) only [Sh.out h,go_sem,seval,↓reduceIte]
   ·have hk2:k<n.places.length:=Za
    have hI:Qr (k:Int):=Za
    have hdl:=Jf k hI;refine (Ag k hI).use (Zd ?_);simp (disch:=first | omega | (simp only [ZA,ZH,Zz,Zx,Z7,Xx]<;>omega)) only [go_sem,seval,↓reduceIte];refine (Py (nth n.places k) (hs _ (by grind [Zj]))).use (Zd ?_);refine ZX ?_ ?_<;>intro h2
    ·simp only [XR] at h2;exact ⟨(k+1,m++ [(5,[112,108,97,99,101,32]++AZ k)]),⟨Za,(hm.yes (c:=PI n k) (by rw [PI,h2];simp) (by simp [pF];omega)).to Zb (by grind)⟩,Za,wk⟩
    ·simp only [XF] at h2;refine Zl [1,3,4,5] (fun q:Nat×Bool=> [(6,.p (.bool q.2)),(7,.p (.int .i64 q.1))]) (fun _=>Z4 n++ [.elems 2 (m.map eF)]) (fun q=>q.1<=k/\(q.2=false↔ ∀j,j<q.1->nth n.places j≠nth n.places k)) (fun q=>k-q.1) (0,false) Zb (Weak.mk ?_) ?_
     ·simp (disch:=omega) only [Z4,go_sem,seval]
     ·rintro ⟨j,b⟩ ⟨hj,hb⟩;simp only at hj hb;refine K5 ?_;refine cD ?_ ?_<;>intro h3<;>simp (disch:=omega) only [Sh.out h3,go_sem,seval,↓reduceIte]
      ·refine ZB 14 mixed Zg Zg (Zd ?_)
       have hjn:j<n.places.length:=Za
       cases b with
       | true =>
        refine Zd ?_;exact ⟨(j+1,true),⟨Za,by grind⟩,Za,wk⟩
       | false =>
        refine Zd ?_;refine ⟨(j+1,decide (nth n.places j=nth n.places k)),⟨Za,by grind⟩,Za,wk⟩
      ·have hjk:j=k:=Za
       subst hjk
       cases b with
       | true =>
        refine Zd ?_
        have hno: ¬PI n j:=fun h5=>by have:=hb.2 h5.2;cases this
        exact ⟨(j+1,m++ [(6,[112,108,97,99,101,32]++AZ j)]),⟨Za,(hm.yes (c:=PI n j) hno (by simp [pF];omega)).to Zb (by grind)⟩,Za,wk⟩
       | false =>
        refine Zd ?_;exact ⟨(j+1,m),⟨Za,(hm.no (c:=PI n j) ⟨h2,hb.1 rfl⟩).to Zb (by grind)⟩,Za,wk⟩
   ·have hkn:k=n.places.length:=Za
    subst hkn;exact ⟨m,hm.to Za (by rw [KW]),1,by simp (disch:=omega) only [go_sem,seval]⟩
set_option maxHeartbeats 16000000
def W4 (a:Arc):AM.Obj:= .cells [.p (.int .i64 a.src),.p (.int .i64 a.dst),.p (.int .i64 a.prof),.p (.int .i64 a.miles),.p (.list a.travel_c (a.travel.map Hp)),.p (.list a.slow_c (a.slow.map Hp))]
abbrev WC (a b:Arc):Prop:=a.src=b.src/\a.dst=b.dst/\a.prof=b.prof
theorem BF {P Q:Prop} (h:Q) (e:Q->P:=by intro h;simp (disch:=omega) only [Z4,W4,go_sem,seval];exact h):P:=e h
theorem pT (n:Net) (i:Nat) (hi:i<n.arcs.length) (hp:n.places.length<=1048576) (ha:n.arcs.length<=1048576) (ht:(nth n.arcs i).travel.length<=1048576) (hsl:(nth n.arcs i).slow.length<=1048576) :
  ACalls Tryz.prog 71 [.p (B1 n),.p (.int .i64 (i:Nat))] [] fun x H'=> ∃m:List Flt,FR (pF 26) (Mk n i) 4000000 m/\x= .sl 0 0 m.length m.length/\H'= [.elems 2 (m.map eF)]:=by
 refine ZG [4] Tryz.func71 rfl ZiN ?_;simp (disch:=omega) only [Tryz.f71,go_sem,seval]
 have hI:Qr (i:Int):=Za
 have hdl:=Jf i hI;refine (Ag i hI).use (Zd ?_);simp (disch:=first | omega | (simp only [ZA,ZH,Zz,Zx,Z7,Xx]<;>omega)) only [go_sem,seval,↓reduceIte]
 have hat:(97::114::99::32::AZ i).length<=26:=by simp;omega
 generalize hga:nth n.arcs i=a at ht hsl ⊢;generalize 97::114::99::32::AZ i=at' at hat ⊢;refine Zo (Weak.ofNil 5 2 (by simp (disch:=omega) only [go_sem,seval]) Zb (Weak.refl _ _ _)) ?_;refine ZJ [1,2,6,7] (fun m:List Flt=> [(5,.sl 2 0 m.length m.length)]) (fun m=>Z4 n++ [W4 a,.elems 2 (m.map eF)]) (fun m=>FR (pF 26) (0<=a.src/\a.src<n.places.length/\0<=a.dst/\a.dst<n.places.length) 1 m) ?_ ?_
 ·refine Zd ?_
  repeat' (first | (refine V2 (fun hq=> ?_) (fun hq=> ?_)<;>(try simp only [Zr,X3,Z2] at hq)<;>simp (disch:=omega) only [Sh.out hq,go_sem,seval]) | (refine gF ?_ ?_<;>intro hq<;>simp (disch:=omega) only [Sh.out hq,go_sem,seval]) | (refine cD ?_ ?_<;>intro hq<;>simp (disch:=omega) only [Sh.out hq,go_sem,seval]))
  all_goals try exact ⟨[],FR.nil Za,Weak.mk (by simp (disch:=omega) only [Z4,W4,go_sem,seval])⟩
  all_goals exact ⟨[(11,at')],⟨Zb,by simp;omega,by simpa [pF] using hat⟩,Weak.mk (by simp (disch:=omega) only [Z4,W4,go_sem,seval])⟩
 ·intro m hm;refine Zh [6] _ _ _ _ (BF ?_);have hml:=hm.len
  refine ZJ [1,2,6,7] (fun m:List Flt=> [(5,.sl 2 0 m.length m.length)]) (fun m=>Z4 n++ [W4 a,.elems 2 (m.map eF)])
   (fun m=>FR (pF 26) ((0<=a.src/\a.src<n.places.length/\0<=a.dst/\a.dst<n.places.length)/\(0<=a.prof/\a.prof<=7/\0<=a.miles/\a.miles<=10000/\a.src≠a.dst)) 2 m) ?_ ?_
  ·refine Zd ?_
   repeat' (first | (refine V2 (fun hq=> ?_) (fun hq=> ?_)<;>(try simp only [Zr,X3,Z2] at hq)<;>simp (disch:=omega) only [Sh.out hq,go_sem,seval]) | (refine gF ?_ ?_<;>intro hq<;>simp (disch:=omega) only [Sh.out hq,go_sem,seval]) | (refine cD ?_ ?_<;>intro hq<;>simp (disch:=omega) only [Sh.out hq,go_sem,seval]))
   all_goals try exact ⟨m,hm.no Za,Weak.mk (by simp (disch:=omega) only [Z4,W4,go_sem,seval])⟩
   all_goals exact ⟨m++ [(2,at')],hm.yes Za (by simpa [pF] using hat),Weak.mk (by simp (disch:=omega) only [Z4,W4,go_sem,seval])⟩
  ·clear hm hml;intro m hm;refine Zh [14] _ _ _ _ (BF ?_);have hml:=hm.len;refine ZY [14] [1,2,5,6,7] (fun q:Nat×Bool=> [(8,.p (.bool q.2)),(9,.p (.int .i64 q.1))]) (fun _=>Z4 n++ [W4 a,.elems 2 (m.map eF)]) (fun q=>q.1<=i/\(q.2=false↔ ∀j,j<q.1-> ¬WC a (nth n.arcs j))) (fun q=>i-q.1) (0,false) Zb (Weak.mk ?_) ?_
   ·simp (disch:=omega) only [Z4,W4,go_sem,seval]
   ·rintro ⟨k,b⟩ ⟨hk,hb⟩;simp only at hk hb;refine BF ?_;refine cD ?_ ?_<;>intro h<;>simp (disch:=omega) only [Sh.out h,go_sem,seval,↓reduceIte]
    ·have hkn:k<n.arcs.length:=Za
     cases b with
     | true =>
      refine Zd ?_;exact ⟨(k+1,true),⟨Za,by grind⟩,Za,wk⟩
     | false =>
      refine Zd ?_
      repeat' (first | (refine gT ?_ ?_<;>intro hq<;>simp (disch:=omega) only [Sh.out hq,go_sem,seval]) | (refine U6 (fun hq=> ?_) (fun hq=> ?_)<;>(try simp only [Zr,X3,Z2] at hq)<;>simp (disch:=omega) only [Sh.out hq,go_sem,seval]) | (refine Qu (fun hq=> ?_) (fun hq=> ?_)<;>(try simp only [Zr,X3,Z2] at hq)<;>simp (disch:=omega) only [Sh.out hq,go_sem,seval]))
      all_goals refine ⟨(k+1,decide (WC a (nth n.arcs k))),⟨by simp only;omega,by rw [Zp,<- hb];simp⟩,by simp only;omega,Weak.mk ?_⟩
      all_goals simp (disch:=omega) only [go_sem,seval]
      all_goals simp [WC, *]
    ·have hki:k=i:=Za
     subst hki;have htw:(b=false↔ ∀j,j<k-> ¬WC a (nth n.arcs j)):=hb;clear hb hk h
     refine ZJ [6,7] (fun m:List Flt=> [(5,.sl 2 0 m.length m.length)]) (fun m=>Z4 n++ [W4 a,.elems 2 (m.map eF)])
      (fun m=>FR (pF 26) (((0<=a.src/\a.src<n.places.length/\0<=a.dst/\a.dst<n.places.length)/\(0<=a.prof/\a.prof<=7/\0<=a.miles/\a.miles<=10000/\a.src≠a.dst))/\ ∀j,j<k-> ¬WC a (nth n.arcs j)) 3 m) ?_ ?_
     ·refine Zd ?_
      cases b with
      | true =>
       refine Zd ?_;exact ⟨m++ [(6,at')],hm.yes (by grind) (by grind [pF]),Weak.mk (by simp (disch:=omega) only [Z4,W4,go_sem,seval])⟩
      | false =>
       refine Zd ?_;exact ⟨m,hm.no (htw.1 rfl),Weak.mk (by simp (disch:=omega) only [Z4,W4,go_sem,seval])⟩
     ·clear hm hml;intro m hm;refine Zh [21] _ _ _ _ (BF ?_);have hml:=hm.len;refine ((fO a.travel a.travel_c ht).frozenE).useV fun lt hlt=>Zd ?_;have hltl:=hlt.len
      refine ZY [21] [6,7,11] (fun q:Nat×List Flt=> [(5,.sl 2 0 q.2.length q.2.length),(12,.p (.int .i64 q.1))]) (fun q=>Z4 n++ [W4 a,.elems 2 (q.2.map eF)])
       (fun q=>q.1<=lt.length/\FR (pF 26) ((((0<=a.src/\a.src<n.places.length/\0<=a.dst/\a.dst<n.places.length)/\(0<=a.prof/\a.prof<=7/\0<=a.miles/\a.miles<=10000/\a.src≠a.dst))/\ ∀j,j<k-> ¬WC a (nth n.arcs j))/\q.1=0) (3+q.1) q.2) (fun q=>lt.length-q.1) (0,m) ⟨Zb,hm.to Zb Zb⟩ (Weak.mk ?_) ?_
      ·simp (disch:=omega) only [Z4,W4,go_sem,seval]
      ·clear hm hml;rintro ⟨j,m⟩ ⟨hj,hm⟩;simp only at hj hm;have hml:=hm.len;refine BF ?_;refine ZX ?_ ?_<;>intro h
       ·have hj2:j<lt.length:=Za
        exact ⟨(j+1,m++ [((nth lt j).1,at')]),⟨Za,(hm.yes (c:=False) Zb (by grind [pF])).to Za Zb⟩,Za,wk⟩
       ·have hjl:j=lt.length:=Za
        subst hjl;have hm2:=hm.to (d:=3+lt.length) (D:=(((0<=a.src/\a.src<n.places.length/\0<=a.dst/\a.dst<n.places.length)/\(0<=a.prof/\a.prof<=7/\0<=a.miles/\a.miles<=10000/\a.src≠a.dst))/\ ∀j,j<k-> ¬WC a (nth n.arcs j))/\WZ a.travel) (ZF _) (by rw [<- hlt.emp,List.eq_nil_iff_length_eq_zero]);clear hm
        refine ZJ [6,7] (fun m:List Flt=> [(5,.sl 2 0 m.length m.length)]) (fun m=>Z4 n++ [W4 a,.elems 2 (m.map eF)])
         (fun m=>FR (pF 26) (((((0<=a.src/\a.src<n.places.length/\0<=a.dst/\a.dst<n.places.length)/\(0<=a.prof/\a.prof<=7/\0<=a.miles/\a.miles<=10000/\a.src≠a.dst))/\ ∀j,j<k-> ¬WC a (nth n.arcs j))/\WZ a.travel)/\a.slow.length<=16) (4+lt.length) m) ?_ ?_
        ·refine Zd ?_;refine ZX ?_ ?_<;>intro h2
         ·exact ⟨m++ [(4,at')],(hm2.yes Za (by grind [pF])).to Za Iff.rfl,Weak.mk (by simp (disch:=omega) only [Z4,W4,go_sem,seval])⟩
         ·exact ⟨m,(hm2.no Za).to Za Iff.rfl,Weak.mk (by simp (disch:=omega) only [Z4,W4,go_sem,seval])⟩
        ·clear hm2 hml h hj;intro m hm;refine Zh [] _ _ _ _ (BF ?_)
         refine Zl [6,7] (fun q:Nat×List Flt=> [(5,.sl 2 0 q.2.length q.2.length),(13,.p (.int .i64 q.1))]) (fun q=>Z4 n++ [W4 a,.elems 2 (q.2.map eF)])
          (fun q=>q.1<=a.slow.length/\FR (pF 26) ((((((0<=a.src/\a.src<n.places.length/\0<=a.dst/\a.dst<n.places.length)/\(0<=a.prof/\a.prof<=7/\0<=a.miles/\a.miles<=10000/\a.src≠a.dst))/\ ∀j,j<k-> ¬WC a (nth n.arcs j))/\WZ a.travel)/\a.slow.length<=16)/\ ∀j,j<q.1->K3 a.slow j) (4+lt.length+q.1) q.2) (fun q=>a.slow.length-q.1) (0,m) ⟨Zb,hm.to Zb Zb⟩ (Weak.mk ?_) ?_
         ·simp (disch:=omega) only [Z4,W4,go_sem,seval]
         ·clear hm;rintro ⟨j,m⟩ ⟨hj,hm⟩;simp only at hj hm;have hml:=hm.len;refine BF ?_;refine cD ?_ ?_<;>intro h<;>simp (disch:=omega) only [Sh.out h,go_sem,seval,↓reduceIte]
          ·have hj2:j<a.slow.length:=Za
           refine Xd (Zd ?_);refine Zn (Of (nth a.slow j).t) (Zd ?_);have hslo:K3 a.slow j↔(LY (nth a.slow j).t=true/\LY (nth a.slow j).a=true/\(0<j->(nth a.slow (j-1)).t<(nth a.slow j).t)):=Iff.rfl;have hyes: ¬K3 a.slow j->_:=fun hs=>(hm.yes (x:=(2,at')) hs (by grind [pF])).to (D:=(((((0<=a.src/\a.src<n.places.length/\0<=a.dst/\a.dst<n.places.length)/\(0<=a.prof/\a.prof<=7/\0<=a.miles/\a.miles<=10000/\a.src≠a.dst))/\ ∀j,j<k-> ¬WC a (nth n.arcs j))/\WZ a.travel)/\a.slow.length<=16)/\ ∀i,i<j+1->K3 a.slow i) (d:=4+lt.length+(j+1)) Za (by grind)
           have hno:K3 a.slow j->_:=fun hs=>(hm.no hs).to (D:=(((((0<=a.src/\a.src<n.places.length/\0<=a.dst/\a.dst<n.places.length)/\(0<=a.prof/\a.prof<=7/\0<=a.miles/\a.miles<=10000/\a.src≠a.dst))/\ ∀j,j<k-> ¬WC a (nth n.arcs j))/\WZ a.travel)/\a.slow.length<=16)/\ ∀i,i<j+1->K3 a.slow i) (d:=4+lt.length+(j+1)) Za (by grind)
           cases ht1:LY (nth a.slow j).t with
           | false =>
            refine Zd ?_;exact ⟨(j+1,m++ [(2,at')]),⟨Za,hyes (by grind)⟩,Za,wk⟩
           | true =>
            refine Zd ?_;refine Zn (Of (nth a.slow j).a) (Zd ?_)
            cases ht2:LY (nth a.slow j).a with
            | false =>
             refine Zd ?_;exact ⟨(j+1,m++ [(2,at')]),⟨Za,hyes (by grind)⟩,Za,wk⟩
            | true =>
             refine Zd ?_
             repeat' (first | (refine gT ?_ ?_<;>intro hq<;>simp (disch:=omega) only [Sh.out hq,go_sem,seval]) | (refine U6 (fun hq=> ?_) (fun hq=> ?_)<;>(try simp only [Zr,X3,Z2] at hq)<;>simp (disch:=omega) only [Sh.out hq,go_sem,seval]) | (refine cD ?_ ?_<;>intro hq<;>simp (disch:=omega) only [Sh.out hq,go_sem,seval]))
             ·exact ⟨(j+1,m++ [(2,at')]),⟨Za,hyes (by grind)⟩,Za,wk⟩
             ·exact ⟨(j+1,m),⟨Za,hno (by grind)⟩,Za,wk⟩
             ·exact ⟨(j+1,m),⟨Za,hno (by grind)⟩,Za,wk⟩
          ·have hjn:j=a.slow.length:=Za
           subst hjn;exact ⟨m,hm.to Za (by rw [Mk,hga]),2,by simp (disch:=omega) only [go_sem,seval]⟩
theorem Zt {α:Type} [Inhabited α] {l:List α} {i:Nat} (h:i<l.length):nth l i∈l:=by grind [Zj]
theorem yH (n:Net) (hw:n.wf 1048576):ACalls Tryz.prog 38 [.p (B1 n)] [] fun x H'=> ∃m:List Flt,FR (pF 26) (netOk n) 4194306000000 m/\x= .sl 0 0 m.length m.length/\H'= [.elems 2 (m.map eF)]:=by
 obtain ⟨w1,w2,w3,w4⟩:=hw;refine ZG [2] Tryz.func38 rfl Zii ?_;simp (disch:=omega) only [Tryz.f38,go_sem,seval];refine (O4 n w1 w2).useE fun m hm=>Zd ?_;have hml:=hm.len;refine ZJ [1] (fun m:List Flt=> [(3,.sl 1 0 m.length m.length)]) (fun m=>Z4 n++ [.elems 2 (m.map eF)]) (fun m=>FR (pF 26) (KW n/\n.arcs.length<=1024) (n.places.length+2) m) ?_ ?_
 ·refine Zd ?_;refine ZX ?_ ?_<;>intro h
  ·exact ⟨m++ [(4,[97,114,99,115])],hm.yes Za (by simp [pF]),Weak.mk (by simp (disch:=omega) only [Z4,go_sem,seval])⟩
  ·exact ⟨m,hm.no Za,Weak.mk (by simp (disch:=omega) only [Z4,go_sem,seval])⟩
 ·clear hm hml;intro m hm;refine Zh [] _ _ _ _ (K5 ?_);refine Zl [1] (fun q:Nat×List Flt=> [(3,.sl 1 0 q.2.length q.2.length),(4,.p (.int .i64 q.1))]) (fun q=>Z4 n++ [.elems 2 (q.2.map eF)]) (fun q=>q.1<=n.arcs.length/\FR (pF 26) ((KW n/\n.arcs.length<=1024)/\ ∀j,j<q.1->Mk n j) (n.places.length+2+q.1*4000000) q.2) (fun q=>n.arcs.length-q.1) (0,m) ⟨Zb,hm.to Zb Zb⟩ (Weak.mk ?_) ?_
  ·simp (disch:=omega) only [Z4,go_sem,seval]
  ·clear hm;rintro ⟨k,m⟩ ⟨hk,hm⟩;simp only at hk hm;have hml:=hm.len;refine K5 ?_;refine cD ?_ ?_<;>intro h<;>simp (disch:=omega) only [Sh.out h,go_sem,seval,↓reduceIte]
   ·have hk2:k<n.arcs.length:=Za
    have ha:=w4 _ (Zt hk2);refine (pT n k hk2 w1 w3 ha.2.2.2.2.1 ha.2.2.2.2.2.2.1).useE fun f hf=>Zd ?_;have hfl:=hf.len
    have q1:(m.length+f.length)*24<=140737488355328:=Za
    have q2:m.length+f.length<=140737488355328:=Za
    simp (disch:=omega) only [q1,q2,go_sem,seval];refine ⟨(k+1,m++f),⟨Za,(hm.app hf).to Za (by grind)⟩,Za,Weak.mk ?_⟩;simp (disch:=omega) only [Zz,Xn,go_sem,seval]
   ·have hkn:k=n.arcs.length:=Za
    subst hkn;exact ⟨m,hm.to Za (by rw [netOk]),1,by simp (disch:=omega) only [go_sem,seval]⟩
theorem Vo (n lo hi:Int):PC 72 [.p (.int .i64 n),.p (.int .i64 lo),.p (.int .i64 hi)] (.bool (rng n lo hi)):=by
 refine Zc Tryz.func72 rfl ZiO ?_;simp (disch:=omega) only [Tryz.f72,go_sem,seval];refine gT ?_ ?_<;>intro h<;>simp (disch:=omega) only [Sh.out h,go_sem,seval,↓reduceIte]
 all_goals (simp [rng];first | done | omega | (rw [Ww];simp;omega))
def Vl (l:List Int) (d:Int):Bool:=rng l.length 1 3&&decide ((l.length:Int)=d)&&l.all fun n=>rng n 0 1000
theorem O1 (l:List Int) (c:Bool) (d:Int) (hl:l.length<=1048576):PC 99 [.p (.list c (l.map eI)),.p (.int .i64 d)] (.bool (Vl l d)):=by
 refine Zc Tryz.func99 rfl Zjc ?_;simp (disch:=omega) only [Tryz.f99,go_sem,seval];refine (Vo l.length 1 3).use (Zd ?_);refine gF ?_ ?_<;>intro h<;>simp (disch:=omega) only [Sh.out h,go_sem,seval,↓reduceIte]
 ·grind [Vl]
 ·simp only [XF] at h;refine cD ?_ ?_<;>intro h2<;>simp (disch:=omega) only [Sh.out h2,go_sem,seval]
  ·simp [Vl,h,h2]
  ·simp only [Z2] at h2;subst h2;refine Zl [0] (fun k:Nat=> [(5,.p (.int .i64 k))]) (fun _=> []) (fun k=>k<=l.length/\ ∀j,j<k->rng (nth l j) 0 1000=true) (fun k=>l.length-k) 0 Zb (Weak.mk ?_) ?_
   ·simp (disch:=omega) only [go_sem,seval,↓reduceIte]
   ·rintro k ⟨hk,hno⟩;refine Zd ?_;refine cD ?_ ?_<;>intro h3<;>simp (disch:=omega) only [Sh.out h3,go_sem,seval,↓reduceIte]
    ·have hk2:k<l.length:=Za
     refine (Vo (nth l k) 0 1000).use (Zd ?_);refine cD ?_ ?_<;>intro h4<;>simp (disch:=omega) only [Sh.out h4,go_sem,seval,↓reduceIte]
     ·grind [Zt,Vl]
     ·simp only [XF] at h4;exact ⟨k+1,⟨Za,Zp.2 ⟨hno,h4⟩⟩,Za,wk⟩
    ·have:l.all (fun n=>rng n 0 1000)=true:=by
      rw [ZD];intro x hx;obtain ⟨j,hj,rfl⟩:=ZO.1 hx
      grind [Zj]
     grind [Vl]
def Pq (l:List Typ) (i:Nat) (s:List UInt8):Bool:=(List.range i).any fun j=>decide ((nth l j).name=s)
theorem US {l:List Typ} {i:Nat} {s:List UInt8} :Pq l i s=false↔ ∀j,j<i->(nth l j).name≠s:=by
 grind [Pq]
theorem T8 (l:List Typ) (c:Bool) (i:Nat) (s:List UInt8) (hi:i<=l.length) (hl:l.length<=1048576):PC 98 [.p (.list c (l.map X0)),.p (.int .i64 (i:Nat)),.p (.str s)] (.bool (Pq l i s)):=by
 refine Zc Tryz.func98 rfl Zjb ?_;simp (disch:=omega) only [Tryz.f98,go_sem,seval];refine Zl [0,1,2] (fun k:Nat=> [(7,.p (.int .i64 k))]) (fun _=> []) (fun k=>k<=i/\ ∀j,j<k->(nth l j).name≠s) (fun k=>i-k) 0 Zb (Weak.mk ?_) ?_
 ·simp (disch:=omega) only [go_sem,seval,↓reduceIte]
 ·rintro k ⟨hk,hno⟩;refine Zd ?_;refine cD ?_ ?_<;>intro h3<;>simp (disch:=omega) only [Sh.out h3,go_sem,seval,↓reduceIte]
  ·have hk2:k<l.length:=Za
   refine cD ?_ ?_<;>intro h4<;>simp (disch:=omega) only [Sh.out h4,go_sem,seval,↓reduceIte]
   ·grind [US]
   ·exact ⟨k+1,⟨Za,Zp.2 ⟨hno,h4⟩⟩,Za,wk⟩
  grind [US]
def dimsOf (l:List Typ):Int:=if l.length=0 then 0 else ((nth l 0).cap.length:Int)
theorem MF (l:List Typ) (c:Bool) (hl:l.length<=1048576):PC 41 [.p (.list c (l.map X0))] (.int .i64 (dimsOf l)):=by
 refine Zc Tryz.func41 rfl Zil ?_;simp (disch:=omega) only [Tryz.f41,go_sem,seval];refine cD ?_ ?_<;>intro h<;>simp (disch:=omega) only [Sh.out h,go_sem,seval,↓reduceIte]
 ·grind [dimsOf]
 ·have h0:0<l.length:=Za
  have h1:l.length≠0:=Za
  simp (disch:=first | omega | (simp only [ZA,ZH,Zz,Zx,Z7,Xx]<;>omega)) only [dimsOf,h1,go_sem,seval,↓reduceIte]
def X9 (t:Typ):AM.Obj:= .cells [.p (.str t.name),.p (.int .i64 t.count),.p (.int .i64 t.src),.p (.int .i64 t.dst),.p (.list t.cap_c (t.cap.map eI)),.p (.int .i64 t.skills),.p (.int .i64 t.prof),.p (.int .i64 t.opn),.p (.int .i64 t.cls),.p (.int .i64 t.drive),.p (.int .i64 t.rest),.p (.int .i64 t.fixed),.p (.int .i64 t.perMile),.p (.int .i64 t.perTick)]
def Jz (n:Net) (l:List Typ) (i:Nat):Prop:=((((((((nameOk (nth l i).name=true)/\(∀j,j<i->(nth l j).name≠(nth l i).name))/\rng (nth l i).count 0 10=true)/\(rng (nth l i).src 0 (n.places.length-1)=true/\rng (nth l i).dst 0 (n.places.length-1)=true))/\Vl (nth l i).cap (dimsOf l)=true)/\rng (nth l i).skills 0 1073741823=true)/\(rng (nth l i).opn 0 (nth l i).cls=true/\(nth l i).cls<=4096))/\(rng (nth l i).drive 1 4096=true/\rng (nth l i).rest 0 4096=true))/\(rng (nth l i).prof 0 7=true/\rng (nth l i).fixed 0 100000=true/\rng (nth l i).perMile 0 100=true/\rng (nth l i).perTick 0 100=true)
theorem C5 {P Q:Prop} (h:Q) (e:Q->P:=by intro h;simp (disch:=omega) only [Z4,X9,go_sem,seval];exact h):P:=e h
theorem bR (n:Net) (l:List Typ) (c:Bool) (i:Nat) (hi:i<l.length) (hl:l.length<=1048576) (hw:n.wf 1048576) (ht:(nth l i).wf 1048576) :
  ACalls Tryz.prog 73 [.p (B1 n),.p (.list c (l.map X0)),.p (.int .i64 (i:Nat))] [] fun x H'=> ∃m:List Int,FR (fun _=>True) (Jz n l i) 9 m/\x= .sl 0 0 m.length m.length/\H'= [.elems 1 (m.map eI)]:=by
 obtain ⟨w1,w2,w3,w4⟩:=hw;refine ZG [3] Tryz.func73 rfl ZiP ?_;simp (disch:=omega) only [Tryz.f73,go_sem,seval];have hty:Jz n l i↔((((((((nameOk (nth l i).name=true)/\(∀j,j<i->(nth l j).name≠(nth l i).name))/\rng (nth l i).count 0 10=true)/\(rng (nth l i).src 0 (n.places.length-1)=true/\rng (nth l i).dst 0 (n.places.length-1)=true))/\Vl (nth l i).cap (dimsOf l)=true)/\rng (nth l i).skills 0 1073741823=true)/\(rng (nth l i).opn 0 (nth l i).cls=true/\(nth l i).cls<=4096))/\(rng (nth l i).drive 1 4096=true/\rng (nth l i).rest 0 4096=true))/\(rng (nth l i).prof 0 7=true/\rng (nth l i).fixed 0 100000=true/\rng (nth l i).perMile 0 100=true/\rng (nth l i).perTick 0 100=true):=Iff.rfl
 generalize hga:nth l i=t at ht hty ⊢;have hname:=ht.1;have hcap:=ht.2.2.2.2.1;refine Zo (Weak.ofNil 8 1 (by simp (disch:=omega) only [go_sem,seval]) Zb (Weak.refl _ _ _)) ?_;refine ZJ [1,2,3,7] (fun m:List Int=> [(8,.sl 2 0 m.length m.length)]) (fun m=>Z4 n++ [X9 t,.elems 1 (m.map eI)]) (fun m=>FR (fun _=>True) (nameOk t.name=true) 1 m) ?_ ?_
 ·refine Zd ?_;refine (Py t.name hname).use (Zd ?_);refine ZX ?_ ?_<;>intro h0
  ·simp only [XR] at h0;exact ⟨[5],⟨Zb,by simp [h0],Zb⟩,Weak.mk (by simp (disch:=omega) only [Z4,X9,go_sem,seval])⟩
  ·simp only [XF] at h0;exact ⟨[],FR.nil (by simp [h0]),Weak.mk (by simp (disch:=omega) only [Z4,X9,go_sem,seval])⟩
 ·skip
  intro m hm;refine Zh [5] _ _ _ _ (C5 ?_);have hml:=hm.len;refine ZJ [1,3,7] (fun m:List Int=> [(8,.sl 2 0 m.length m.length)]) (fun m=>Z4 n++ [X9 t,.elems 1 (m.map eI)]) (fun m=>FR (fun _=>True) ((nameOk t.name=true)/\(∀j,j<i->(nth l j).name≠t.name)) 2 m) ?_ ?_
  ·refine Zd ?_;refine (T8 l c i t.name Za hl).use (Zd ?_);refine ZX ?_ ?_<;>intro h
   ·exact ⟨m++ [6],hm.yes (by grind [US]) trivial,Weak.mk (by simp (disch:=omega) only [Z4,X9,go_sem,seval])⟩
   ·exact ⟨m,hm.no (by exact US.1 h),Weak.mk (by simp (disch:=omega) only [Z4,X9,go_sem,seval])⟩
  ·clear hm hml;intro m hm;refine Zh [7] _ _ _ _ (C5 ?_);have hml:=hm.len;refine ZJ [1,3,7] (fun m:List Int=> [(8,.sl 2 0 m.length m.length)]) (fun m=>Z4 n++ [X9 t,.elems 1 (m.map eI)]) (fun m=>FR (fun _=>True) (((nameOk t.name=true)/\(∀j,j<i->(nth l j).name≠t.name))/\rng t.count 0 10=true) 3 m) ?_ ?_
   ·refine Zd ?_;refine (Vo t.count 0 10).use (Zd ?_);refine ZX ?_ ?_<;>intro h0
    ·simp only [XR] at h0;exact ⟨m++ [22],hm.yes (by simp [h0]) trivial,Weak.mk (by simp (disch:=omega) only [Z4,X9,go_sem,seval])⟩
    ·simp only [XF] at h0;exact ⟨m,hm.no (by simp [h0]),Weak.mk (by simp (disch:=omega) only [Z4,X9,go_sem,seval])⟩
   ·clear hm hml;intro m hm;refine Zh [9] _ _ _ _ (C5 ?_);have hml:=hm.len;refine ZJ [1,7] (fun m:List Int=> [(8,.sl 2 0 m.length m.length)]) (fun m=>Z4 n++ [X9 t,.elems 1 (m.map eI)]) (fun m=>FR (fun _=>True) ((((nameOk t.name=true)/\(∀j,j<i->(nth l j).name≠t.name))/\rng t.count 0 10=true)/\(rng t.src 0 (n.places.length-1)=true/\rng t.dst 0 (n.places.length-1)=true)) 4 m) ?_ ?_
    ·refine Zd ?_;refine (Vo t.src 0 (n.places.length-1)).use (Zd ?_);refine IX ?_ ?_<;>intro h0
     ·simp only [XR] at h0;exact ⟨m++ [11],hm.yes (by simp [h0]) trivial,Weak.mk (by simp (disch:=omega) only [Z4,X9,go_sem,seval])⟩
     ·simp only [XF] at h0;refine (Vo t.dst 0 (n.places.length-1)).use (Zd ?_);refine ZX ?_ ?_<;>intro h1
      ·simp only [XR] at h1;exact ⟨m++ [11],hm.yes (by simp [h1]) trivial,Weak.mk (by simp (disch:=omega) only [Z4,X9,go_sem,seval])⟩
      ·simp only [XF] at h1;exact ⟨m,hm.no (by simp [h0,h1]),Weak.mk (by simp (disch:=omega) only [Z4,X9,go_sem,seval])⟩
    ·clear hm hml;intro m hm;refine Zh [11] _ _ _ _ (C5 ?_);have hml:=hm.len;refine ZJ [7] (fun m:List Int=> [(8,.sl 2 0 m.length m.length)]) (fun m=>Z4 n++ [X9 t,.elems 1 (m.map eI)]) (fun m=>FR (fun _=>True) (((((nameOk t.name=true)/\(∀j,j<i->(nth l j).name≠t.name))/\rng t.count 0 10=true)/\(rng t.src 0 (n.places.length-1)=true/\rng t.dst 0 (n.places.length-1)=true))/\Vl t.cap (dimsOf l)=true) 5 m) ?_ ?_
     ·refine Zd ?_;refine Xd (Zd ?_);refine Zn (MF l c hl) (Zd ?_);refine Zn (O1 t.cap t.cap_c (dimsOf l) hcap) (Zd ?_);refine ZX ?_ ?_<;>intro h
      ·simp only [XR] at h;exact ⟨m++ [17],hm.yes (by simp [h]) trivial,Weak.mk (by simp (disch:=omega) only [Z4,X9,go_sem,seval])⟩
      ·simp only [XF] at h;exact ⟨m,hm.no (by simp [h]),Weak.mk (by simp (disch:=omega) only [Z4,X9,go_sem,seval])⟩
     ·clear hm hml;intro m hm;refine Zh [13] _ _ _ _ (C5 ?_);have hml:=hm.len;refine ZJ [7] (fun m:List Int=> [(8,.sl 2 0 m.length m.length)]) (fun m=>Z4 n++ [X9 t,.elems 1 (m.map eI)]) (fun m=>FR (fun _=>True) ((((((nameOk t.name=true)/\(∀j,j<i->(nth l j).name≠t.name))/\rng t.count 0 10=true)/\(rng t.src 0 (n.places.length-1)=true/\rng t.dst 0 (n.places.length-1)=true))/\Vl t.cap (dimsOf l)=true)/\rng t.skills 0 1073741823=true) 6 m) ?_ ?_
      ·refine Zd ?_;refine (Vo t.skills 0 1073741823).use (Zd ?_);refine ZX ?_ ?_<;>intro h0
       ·simp only [XR] at h0;exact ⟨m++ [18],hm.yes (by simp [h0]) trivial,Weak.mk (by simp (disch:=omega) only [Z4,X9,go_sem,seval])⟩
       ·simp only [XF] at h0;exact ⟨m,hm.no (by simp [h0]),Weak.mk (by simp (disch:=omega) only [Z4,X9,go_sem,seval])⟩
      ·clear hm hml;intro m hm;refine Zh [15] _ _ _ _ (C5 ?_);have hml:=hm.len;refine ZJ [7] (fun m:List Int=> [(8,.sl 2 0 m.length m.length)]) (fun m=>Z4 n++ [X9 t,.elems 1 (m.map eI)]) (fun m=>FR (fun _=>True) (((((((nameOk t.name=true)/\(∀j,j<i->(nth l j).name≠t.name))/\rng t.count 0 10=true)/\(rng t.src 0 (n.places.length-1)=true/\rng t.dst 0 (n.places.length-1)=true))/\Vl t.cap (dimsOf l)=true)/\rng t.skills 0 1073741823=true)/\(rng t.opn 0 t.cls=true/\t.cls<=4096)) 7 m) ?_ ?_
       ·refine Zd ?_;refine (Vo t.opn 0 t.cls).use (Zd ?_);refine IX ?_ ?_<;>intro h0
        ·simp only [XR] at h0;exact ⟨m++ [15],hm.yes (by simp [h0]) trivial,Weak.mk (by simp (disch:=omega) only [Z4,X9,go_sem,seval])⟩
        ·simp only [XF] at h0;refine ZX ?_ ?_<;>intro h1
         ·exact ⟨m++ [15],hm.yes Za trivial,Weak.mk (by simp (disch:=omega) only [Z4,X9,go_sem,seval])⟩
         ·exact ⟨m,hm.no (by grind),Weak.mk (by simp (disch:=omega) only [Z4,X9,go_sem,seval])⟩
       ·clear hm hml;intro m hm;refine Zh [17] _ _ _ _ (C5 ?_);have hml:=hm.len;refine ZJ [7] (fun m:List Int=> [(8,.sl 2 0 m.length m.length)]) (fun m=>Z4 n++ [X9 t,.elems 1 (m.map eI)]) (fun m=>FR (fun _=>True) ((((((((nameOk t.name=true)/\(∀j,j<i->(nth l j).name≠t.name))/\rng t.count 0 10=true)/\(rng t.src 0 (n.places.length-1)=true/\rng t.dst 0 (n.places.length-1)=true))/\Vl t.cap (dimsOf l)=true)/\rng t.skills 0 1073741823=true)/\(rng t.opn 0 t.cls=true/\t.cls<=4096))/\(rng t.drive 1 4096=true/\rng t.rest 0 4096=true)) 8 m) ?_ ?_
        ·refine Zd ?_;refine (Vo t.drive 1 4096).use (Zd ?_);refine IX ?_ ?_<;>intro h0
         ·simp only [XR] at h0;exact ⟨m++ [16],hm.yes (by simp [h0]) trivial,Weak.mk (by simp (disch:=omega) only [Z4,X9,go_sem,seval])⟩
         ·simp only [XF] at h0;refine (Vo t.rest 0 4096).use (Zd ?_);refine ZX ?_ ?_<;>intro h1
          ·simp only [XR] at h1;exact ⟨m++ [16],hm.yes (by simp [h1]) trivial,Weak.mk (by simp (disch:=omega) only [Z4,X9,go_sem,seval])⟩
          ·simp only [XF] at h1;exact ⟨m,hm.no (by simp [h0,h1]),Weak.mk (by simp (disch:=omega) only [Z4,X9,go_sem,seval])⟩
        ·clear hm hml;intro m hm;refine Zh [19] _ _ _ _ (C5 ?_);have hml:=hm.len;refine ZJ [] (fun m:List Int=> [(8,.sl 2 0 m.length m.length)]) (fun m=>Z4 n++ [X9 t,.elems 1 (m.map eI)]) (fun m=>FR (fun _=>True) (((((((((nameOk t.name=true)/\(∀j,j<i->(nth l j).name≠t.name))/\rng t.count 0 10=true)/\(rng t.src 0 (n.places.length-1)=true/\rng t.dst 0 (n.places.length-1)=true))/\Vl t.cap (dimsOf l)=true)/\rng t.skills 0 1073741823=true)/\(rng t.opn 0 t.cls=true/\t.cls<=4096))/\(rng t.drive 1 4096=true/\rng t.rest 0 4096=true))/\(rng t.prof 0 7=true/\rng t.fixed 0 100000=true/\rng t.perMile 0 100=true/\rng t.perTick 0 100=true)) 9 m) ?_ ?_
         ·refine Zd ?_;refine (Vo t.prof 0 7).use (Zd ?_);refine gF ?_ ?_<;>intro h0<;>simp (disch:=omega) only [Sh.out h0,go_sem,seval,↓reduceIte]
          ·simp only [XR] at h0;exact ⟨m++ [2],hm.yes (by simp [h0]) trivial,Weak.mk (by simp (disch:=omega) only [Z4,X9,go_sem,seval])⟩
          ·simp only [XF] at h0;refine (Vo t.fixed 0 100000).use (Zd ?_);refine gF ?_ ?_<;>intro h1<;>simp (disch:=omega) only [Sh.out h1,go_sem,seval,↓reduceIte]
           ·simp only [XR] at h1;exact ⟨m++ [2],hm.yes (by simp [h1]) trivial,Weak.mk (by simp (disch:=omega) only [Z4,X9,go_sem,seval])⟩
           ·simp only [XF] at h1;refine (Vo t.perMile 0 100).use (Zd ?_);refine gF ?_ ?_<;>intro h2<;>simp (disch:=omega) only [Sh.out h2,go_sem,seval,↓reduceIte]
            ·simp only [XR] at h2;exact ⟨m++ [2],hm.yes (by simp [h2]) trivial,Weak.mk (by simp (disch:=omega) only [Z4,X9,go_sem,seval])⟩
            ·simp only [XF] at h2;refine (Vo t.perTick 0 100).use (Zd ?_);refine cD ?_ ?_<;>intro h3<;>simp (disch:=omega) only [Sh.out h3,go_sem,seval,↓reduceIte]
             ·simp only [XR] at h3;exact ⟨m++ [2],hm.yes (by simp [h3]) trivial,Weak.mk (by simp (disch:=omega) only [Z4,X9,go_sem,seval])⟩
             ·simp only [XF] at h3;exact ⟨m,hm.no (by grind),Weak.mk (by simp (disch:=omega) only [Z4,X9,go_sem,seval])⟩
         ·clear hm hml;intro m hm;refine Zh [] _ _ _ _ (C5 ?_);have hml:=hm.len;exact ⟨m,hm.to Za (by rw [hty]),2,by simp (disch:=omega) only [go_sem,seval]⟩
def typesOk (n:Net) (l:List Typ):Prop:=rng l.length 1 6=true/\ ∀i,i<l.length->Jz n l i
theorem yI (n:Net) (l:List Typ) (c:Bool) (hw:n.wf 1048576) (hl:l.length<=1048576) (hlw: ∀t∈l,t.wf 1048576) :
  ACalls Tryz.prog 39 [.p (B1 n),.p (.list c (l.map X0))] [] fun x H'=> ∃m:List Flt,FR (pF 20) (typesOk n l) (1+9*l.length) m/\x= .sl 0 0 m.length m.length/\H'= [.elems 2 (m.map eF)]:=by
 refine ZG [2] Tryz.func39 rfl Zij ?_;simp (disch:=omega) only [Tryz.f39,go_sem,seval];refine Zo (Weak.ofNil 5 2 (by simp (disch:=omega) only [go_sem,seval]) Zb (Weak.refl _ _ _)) ?_;refine ZJ [1,2] (fun m:List Flt=> [(5,.sl 1 0 m.length m.length)]) (fun m=>Z4 n++ [.elems 2 (m.map eF)]) (fun m=>FR (pF 20) (rng l.length 1 6=true) 1 m) ?_ ?_
 ·refine Zd ?_;refine (Vo l.length 1 6).use (Zd ?_);refine ZX ?_ ?_<;>intro h
  ·simp only [XR] at h;exact ⟨[(4,[])],⟨Zb,by simp [h],by simp [pF]⟩,Weak.mk (by simp (disch:=omega) only [Z4,go_sem,seval])⟩
  ·simp only [XF] at h;exact ⟨[],FR.nil h,Weak.mk (by simp (disch:=omega) only [Z4,go_sem,seval])⟩
 ·intro m hm;refine Zh [] _ _ _ _ (K5 ?_);refine Zl [1,2] (fun q:Nat×List Flt=> [(5,.sl 1 0 q.2.length q.2.length),(6,.p (.int .i64 q.1))]) (fun q=>Z4 n++ [.elems 2 (q.2.map eF)]) (fun q=>q.1<=l.length/\FR (pF 20) (rng l.length 1 6=true/\ ∀j,j<q.1->Jz n l j) (1+9*q.1) q.2) (fun q=>l.length-q.1) (0,m) ⟨Zb,hm.to Zb Zb⟩ (Weak.mk ?_) ?_
  ·simp (disch:=omega) only [Z4,go_sem,seval]
  ·clear hm;rintro ⟨k,m⟩ ⟨hk,hm⟩;simp only at hk hm;have hml:=hm.len;refine K5 ?_;refine cD ?_ ?_<;>intro h<;>simp (disch:=omega) only [Sh.out h,go_sem,seval,↓reduceIte]
   ·have hk2:k<l.length:=Za
    have hI:Qr (k:Int):=Za
    have hdl:=Jf k hI;refine ((bR n l c k hk2 hl hw (hlw _ (Zt hk2))).frozenE).useV fun e he=>Zd ?_;have hel:=he.len;refine Zl [1,2,6,7] (fun q:Nat×List Flt=> [(5,.sl 1 0 q.2.length q.2.length),(8,.p (.int .i64 q.1))]) (fun q=>Z4 n++ [.elems 2 (q.2.map eF)]) (fun q=>q.1<=e.length/\FR (pF 20) ((rng l.length 1 6=true/\ ∀j,j<k->Jz n l j)/\q.1=0) (1+9*k+q.1) q.2) (fun q=>e.length-q.1) (0,m) ⟨Zb,hm.to Zb Zb⟩ (Weak.mk ?_) ?_
    ·simp (disch:=omega) only [Z4,go_sem,seval]
    ·clear hm hml;rintro ⟨j,m⟩ ⟨hj,hm⟩;simp only at hj hm;have hml:=hm.len;refine K5 ?_;refine ZX ?_ ?_<;>intro h2
     ·have hj2:j<e.length:=Za
      refine ZB 9 mixed Zg Zg (Zd ?_);refine Zn (Ag k hI) (Zd ?_);exact ⟨(j+1,m++ [(nth e j,AZ k)]),⟨Za,(hm.yes (c:=False) Zb (by grind [pF])).to Za Zb⟩,Za,wk⟩
     ·have hjl:j=e.length:=Za
      subst hjl;exact ⟨(k+1,m),⟨Za,hm.to Za (by simp only [Zp,and_assoc];rw [<- he.emp,List.eq_nil_iff_length_eq_zero])⟩,Za,wk⟩
   ·have hkn:k=l.length:=Za
    subst hkn;exact ⟨m,hm.to Za (by rw [typesOk]),1,by simp (disch:=omega) only [go_sem,seval]⟩
theorem FI (n lo hi:Int):PC 101 [.p (.int .i64 n),.p (.int .i64 lo),.p (.int .i64 hi)] (.bool (rng n lo hi)):=by
 refine Zc Tryz.func101 rfl zH ?_;simp (disch:=omega) only [Tryz.f101,go_sem,seval];refine gT ?_ ?_<;>intro h<;>simp (disch:=omega) only [Sh.out h,go_sem,seval,↓reduceIte]
 all_goals (simp [rng];first | done | omega | (rw [Ww];simp;omega))
def loadOk (l:List Int) (d:Int):Bool:=decide ((l.length:Int)=d)&&l.all fun n=>rng n 0 1000
theorem bI (l:List Int) (c:Bool) (d:Int) (hl:l.length<=1048576):PC 100 [.p (.list c (l.map eI)),.p (.int .i64 d)] (.bool (loadOk l d)):=by
 refine Zc Tryz.func100 rfl zG ?_;simp (disch:=omega) only [Tryz.f100,go_sem,seval];refine cD ?_ ?_<;>intro h2<;>simp (disch:=omega) only [Sh.out h2,go_sem,seval]
 ·simp [loadOk,h2]
 ·simp only [Z2] at h2;subst h2;refine Zl [0] (fun k:Nat=> [(5,.p (.int .i64 k))]) (fun _=> []) (fun k=>k<=l.length/\ ∀j,j<k->rng (nth l j) 0 1000=true) (fun k=>l.length-k) 0 Zb (Weak.mk ?_) ?_
  ·simp (disch:=omega) only [go_sem,seval,↓reduceIte]
  ·rintro k ⟨hk,hno⟩;refine Zd ?_;refine cD ?_ ?_<;>intro h3<;>simp (disch:=omega) only [Sh.out h3,go_sem,seval,↓reduceIte]
   ·have hk2:k<l.length:=Za
    have hbad:rng (nth l k) 0 1000=false->loadOk l l.length=false:=fun h4=>by
     grind [Zt,loadOk]
    repeat' (first | (refine V2 (fun hq=> ?_) (fun hq=> ?_)<;>(try simp only [Zr,X3,Z2] at hq)<;>simp (disch:=omega) only [Sh.out hq,go_sem,seval]) | (refine gF ?_ ?_<;>intro hq<;>simp (disch:=omega) only [Sh.out hq,go_sem,seval,↓reduceIte]) | (refine cD ?_ ?_<;>intro hq<;>simp (disch:=omega) only [Sh.out hq,go_sem,seval,↓reduceIte]))
    all_goals first
     | (rw [hbad (by simp [rng];omega)])
     | exact ⟨k+1,⟨Za,Zp.2 ⟨hno,by simp [rng];omega⟩⟩,Za,wk⟩
   ·have:l.all (fun n=>rng n 0 1000)=true:=by
     rw [ZD];intro x hx;obtain ⟨j,hj,rfl⟩:=ZO.1 hx
     grind [Zj]
    simp [loadOk,this]
def stpOk (s:Stp):Bool:=decide ((s.place= -1/\s.opn=0/\s.cls=0/\s.serv=0)\/(0<=s.place/\0<=s.opn/\s.opn<=s.cls/\s.cls<=4096/\0<=s.serv/\s.serv<=4096))
def cH (s:Stp):Int:=if stpOk s=true then 0 else 2
theorem fP (s:Stp):PC 102 [.p (Fw s)] (.int .i64 (cH s)):=by
 refine Zc Tryz.func102 rfl zJ ?_;simp (disch:=omega) only [Tryz.f102,go_sem,seval]
 repeat' (first | (refine gT ?_ ?_<;>intro hq<;>simp (disch:=omega) only [Sh.out hq,go_sem,seval,↓reduceIte]) | (refine gF ?_ ?_<;>intro hq<;>simp (disch:=omega) only [Sh.out hq,go_sem,seval,↓reduceIte]) | (refine cD ?_ ?_<;>intro hq<;>simp (disch:=omega) only [Sh.out hq,go_sem,seval,↓reduceIte]))
 all_goals (simp only [cH,stpOk,Zr])
 all_goals first
  | (exfalso;omega)
  | (rw [if_pos Za])
  | (rw [if_neg Za])
def Qg (l:List Ord) (i:Nat):Bool:=(List.range i).all fun j=>decide ((nth l j).name≠(nth l i).name)
theorem KR {l:List Ord} {i:Nat} :Qg l i=true↔ ∀j,j<i->(nth l j).name≠(nth l i).name:=by simp [Qg]
def Vf (b:Bool) (e:Int):List Int:=if b=true then [] else [e]
theorem UX (b:Bool) (e:Int):(Vf b e).length<=1:=by grind [Vf]
theorem QI {b:Bool} {e:Int} {m p:List Int} (h:m=p) (hb:b=true):m=p++Vf b e:=by simp [Vf,hb,h]
theorem UE {b:Bool} {e:Int} {m p:List Int} (h:m=p) (hb:b=false):m++ [e]=p++Vf b e:=by simp [Vf,hb,h]
def YD (t:Ord):AM.Obj:= .cells [.p (.str t.name),.p (.list t.load_c (t.load.map eI)),.p (.int .i64 t.pick.place),.p (.int .i64 t.pick.opn),.p (.int .i64 t.pick.cls),.p (.int .i64 t.pick.serv),.p (.int .i64 t.drp.place),.p (.int .i64 t.drp.opn),.p (.int .i64 t.drp.cls),.p (.int .i64 t.drp.serv),.p (.int .i64 t.skills),.p (.int .i64 t.penalty),.p (.int .i64 t.split),.p (.int .i64 t.last),.p (.int .i64 t.now),.p (.bool t.off)]
def Fm (t:Ord):Bool:=decide (t.pick.place≠ -1)&&decide (t.drp.place≠ -1)
def argOk (t:Ord) (ty:Int):Bool:=rng t.penalty (-1) 1000000&&rng t.split 1 4&&decide (¬(1<t.split/\Fm t=true)/\ -1<=t.last/\t.last<ty/\ -1<=t.now/\t.now<ty)
def Y5 (np:Nat) (d ty:Int) (l:List Ord) (i:Nat):List Int:=Vf (nameOk (nth l i).name) 5++Vf (Qg l i) 6++Vf (loadOk (nth l i).load d) 17++Vf ((rng (nth l i).pick.place (-1) ((np:Int)-1)&&rng (nth l i).drp.place (-1) ((np:Int)-1))) 11++Vf (decide (¬((nth l i).pick.place= -1/\(nth l i).drp.place= -1))) 19++Vf ((stpOk (nth l i).pick&&stpOk (nth l i).drp)) 14++Vf (rng (nth l i).skills 0 1073741823) 18++Vf (argOk (nth l i) ty) 2
theorem CI (np:Nat) (d ty:Int) (l:List Ord) (i:Nat):(Y5 np d ty l i).length<=8:=by
 grind [UX,Y5,Zz]
theorem Bb {P Q:Prop} (h:Q) (e:Q->P:=by intro h;simp (disch:=omega) only [YD,go_sem,seval];exact h):P:=e h
theorem bS (np:Nat) (d ty:Int) (l:List Ord) (c:Bool) (i:Nat) (hi:i<l.length) (hl:l.length<=1048576) (hnp:np<=1048576) (ht:(nth l i).wf 1048576) :
  ACalls Tryz.prog 75 [.p (.int .i64 (np:Nat)),.p (.int .i64 d),.p (.int .i64 ty),.p (.list c (l.map eOrd)),.p (.int .i64 (i:Nat))] [] fun x H'=>x= .sl 0 0 (Y5 np d ty l i).length (Y5 np d ty l i).length/\H'= [.elems 1 ((Y5 np d ty l i).map eI)]:=by
 suffices hh:ACalls Tryz.prog 75 [.p (.int .i64 (np:Nat)),.p (.int .i64 d),.p (.int .i64 ty),.p (.list c (l.map eOrd)),.p (.int .i64 (i:Nat))] [] fun x H'=> ∃m:List Int,m=Y5 np d ty l i/\x= .sl 0 0 m.length m.length/\H'= [.elems 1 (m.map eI)] by
  grind
 refine ZG [3] Tryz.func75 rfl ZiR ?_;simp (disch:=omega) only [Tryz.f75,go_sem,seval];have hty:Y5 np d ty l i=Vf (nameOk (nth l i).name) 5++Vf (Qg l i) 6++Vf (loadOk (nth l i).load d) 17++Vf ((rng (nth l i).pick.place (-1) ((np:Int)-1)&&rng (nth l i).drp.place (-1) ((np:Int)-1))) 11++Vf (decide (¬((nth l i).pick.place= -1/\(nth l i).drp.place= -1))) 19++Vf ((stpOk (nth l i).pick&&stpOk (nth l i).drp)) 14++Vf (rng (nth l i).skills 0 1073741823) 18++Vf (argOk (nth l i) ty) 2:=rfl
 have hleng: ∀m:List Int,∀p:List Int,m=p->p.length<=8->m.length<=8:=fun m p h1 h2=>by grind
 generalize hga:nth l i=t at ht hty ⊢;have hname:=ht.1;have hload:=ht.2.1;refine Zo (Weak.ofNil 11 1 (by simp (disch:=omega) only [go_sem,seval]) Zb (Weak.refl _ _ _)) ?_;refine ZJ [0,1,2,3,4,12] (fun m:List Int=> [(11,.sl 1 0 m.length m.length)]) (fun m=> [YD t,.elems 1 (m.map eI)]) (fun m=>m=Vf (nameOk t.name) 5) ?_ ?_
 ·refine Zd ?_;refine (Py t.name hname).use (Zd ?_);refine cD ?_ ?_<;>intro h<;>simp (disch:=omega) only [Sh.out h,go_sem,seval,↓reduceIte]
  ·simp only [XR] at h;exact ⟨[5],by simp [Vf,h],Weak.mk (by simp (disch:=omega) only [YD,go_sem,seval])⟩
  ·simp only [XF] at h;exact ⟨[],by simp [Vf,h],Weak.mk (by simp (disch:=omega) only [YD,go_sem,seval])⟩
 ·skip
  intro m hm;refine Zh [5] _ _ _ _ (Bb ?_)
  have hml:m.length<=8:=by
   grind [UX]
  refine ZJ [0,1,2,12] (fun m:List Int=> [(11,.sl 1 0 m.length m.length)]) (fun m=> [YD t,.elems 1 (m.map eI)]) (fun m=>m=Vf (nameOk t.name) 5++Vf (Qg l i) 6) ?_ ?_
  ·refine Zd ?_;refine Zl [0,1,2,3,4,11,12] (fun k:Nat=> [(13,.p (.int .i64 k))]) (fun _=> [YD t,.elems 1 (m.map eI)]) (fun k=>k<=i/\ ∀j,j<k->(nth l j).name≠(nth l i).name) (fun k=>i-k) 0 Zb (Weak.mk ?_) ?_
   ·simp (disch:=omega) only [YD,go_sem,seval,↓reduceIte]
   ·rintro k ⟨hk,hno⟩;refine Bb ?_;refine cD ?_ ?_<;>intro h3<;>simp (disch:=omega) only [Sh.out h3,go_sem,seval,↓reduceIte]
    ·have hk2:k<l.length:=Za
     refine Xd (Zd ?_);refine ZX ?_ ?_<;>intro h4
     ·exact ⟨m++ [6],UE hm (by grind [KR]),wk⟩
     ·exact ⟨k+1,⟨Za,Zp.2 ⟨hno,by grind⟩⟩,Za,wk⟩
    ·have hki:k=i:=Za
     subst hki;exact ⟨m,QI hm (KR.2 hno),wk⟩
  ·clear hm hml;intro m hm;refine Zh [10] _ _ _ _ (Bb ?_)
   have hml:m.length<=8:=by
    grind [UX]
   refine ZJ [0,2,12] (fun m:List Int=> [(11,.sl 1 0 m.length m.length)]) (fun m=> [YD t,.elems 1 (m.map eI)]) (fun m=>m=Vf (nameOk t.name) 5++Vf (Qg l i) 6++Vf (loadOk t.load d) 17) ?_ ?_
   ·refine Zd ?_;refine (bI t.load t.load_c d hload).use (Zd ?_);refine cD ?_ ?_<;>intro h<;>simp (disch:=omega) only [Sh.out h,go_sem,seval,↓reduceIte]
    ·simp only [XR] at h;exact ⟨m++ [17],UE hm (h),Weak.mk (by simp (disch:=omega) only [YD,go_sem,seval])⟩
    ·simp only [XF] at h;exact ⟨m,QI hm (h),Weak.mk (by simp (disch:=omega) only [YD,go_sem,seval])⟩
   ·clear hm hml;intro m hm;refine Zh [12] _ _ _ _ (Bb ?_)
    have hml:m.length<=8:=by
     grind [Zz,UX]
    refine ZJ [2,12] (fun m:List Int=> [(11,.sl 1 0 m.length m.length)]) (fun m=> [YD t,.elems 1 (m.map eI)]) (fun m=>m=Vf (nameOk t.name) 5++Vf (Qg l i) 6++Vf (loadOk t.load d) 17++Vf ((rng t.pick.place (-1) ((np:Int)-1)&&rng t.drp.place (-1) ((np:Int)-1))) 11) ?_ ?_
    ·refine Zd ?_;refine (FI t.pick.place (-1) ((np:Int)-1)).use (Zd ?_);refine IX ?_ ?_<;>intro h
     ·simp only [XR] at h;exact ⟨m++ [11],UE hm (by simp [h]),Weak.mk (by simp (disch:=omega) only [YD,go_sem,seval])⟩
     ·simp only [XF] at h;refine (FI t.drp.place (-1) ((np:Int)-1)).use (Zd ?_);refine ZX ?_ ?_<;>intro h2
      ·simp only [XR] at h2;exact ⟨m++ [11],UE hm (by simp [h2]),Weak.mk (by simp (disch:=omega) only [YD,go_sem,seval])⟩
      ·simp only [XF] at h2;exact ⟨m,QI hm (by simp [h,h2]),Weak.mk (by simp (disch:=omega) only [YD,go_sem,seval])⟩
    ·clear hm hml;intro m hm;refine Zh [14] _ _ _ _ (Bb ?_)
     have hml:m.length<=8:=by
      grind [Zz,UX]
     refine ZJ [2,12] (fun m:List Int=> [(11,.sl 1 0 m.length m.length)]) (fun m=> [YD t,.elems 1 (m.map eI)]) (fun m=>m=Vf (nameOk t.name) 5++Vf (Qg l i) 6++Vf (loadOk t.load d) 17++Vf ((rng t.pick.place (-1) ((np:Int)-1)&&rng t.drp.place (-1) ((np:Int)-1))) 11++Vf (decide (¬(t.pick.place= -1/\t.drp.place= -1))) 19) ?_ ?_
     ·refine Zd ?_
      repeat' (first | (refine gT ?_ ?_<;>intro hq<;>simp (disch:=omega) only [Sh.out hq,go_sem,seval]) | (refine U6 (fun hq=> ?_) (fun hq=> ?_)<;>(try simp only [Zr,X3,Z2] at hq)<;>simp (disch:=omega) only [Sh.out hq,go_sem,seval]) | (refine cD ?_ ?_<;>intro hq<;>simp (disch:=omega) only [Sh.out hq,go_sem,seval]))
      all_goals first
       | exact ⟨m++ [19],UE hm (by first | (simp;done) | (simp;omega)),Weak.mk (by simp (disch:=omega) only [YD,go_sem,seval])⟩
       | exact ⟨m,QI hm (by first | (simp;done) | (simp;omega)),Weak.mk (by simp (disch:=omega) only [YD,go_sem,seval])⟩
     ·clear hm hml;intro m hm;refine Zh [16] _ _ _ _ (Bb ?_)
      have hml:m.length<=8:=by
       grind [Zz,UX]
      refine ZJ [2,12] (fun m:List Int=> [(11,.sl 1 0 m.length m.length)]) (fun m=> [YD t,.elems 1 (m.map eI)]) (fun m=>m=Vf (nameOk t.name) 5++Vf (Qg l i) 6++Vf (loadOk t.load d) 17++Vf ((rng t.pick.place (-1) ((np:Int)-1)&&rng t.drp.place (-1) ((np:Int)-1))) 11++Vf (decide (¬(t.pick.place= -1/\t.drp.place= -1))) 19++Vf ((stpOk t.pick&&stpOk t.drp)) 14) ?_ ?_
      ·refine Zd ?_;refine (fP t.pick).use (Zd ?_)
       cases h:stpOk t.pick with
       | false =>
        simp (disch:=omega) only [cH,h,go_sem,seval];exact ⟨m++ [14],UE hm (by simp []),Weak.mk (by simp (disch:=omega) only [YD,go_sem,seval])⟩
       | true =>
        simp (disch:=omega) only [cH,h,go_sem,seval];refine (fP t.drp).use (Zd ?_)
        cases h2:stpOk t.drp with
        | false =>
         simp (disch:=omega) only [cH,h2,go_sem,seval];exact ⟨m++ [14],UE hm (by simp []),Weak.mk (by simp (disch:=omega) only [YD,go_sem,seval])⟩
        | true =>
         simp (disch:=omega) only [cH,h2,go_sem,seval];exact ⟨m,QI hm (by simp []),Weak.mk (by simp (disch:=omega) only [YD,go_sem,seval])⟩
      ·clear hm hml;intro m hm;refine Zh [18] _ _ _ _ (Bb ?_)
       have hml:m.length<=8:=by
        grind [Zz,UX]
       refine ZJ [2,12] (fun m:List Int=> [(11,.sl 1 0 m.length m.length)]) (fun m=> [YD t,.elems 1 (m.map eI)]) (fun m=>m=Vf (nameOk t.name) 5++Vf (Qg l i) 6++Vf (loadOk t.load d) 17++Vf ((rng t.pick.place (-1) ((np:Int)-1)&&rng t.drp.place (-1) ((np:Int)-1))) 11++Vf (decide (¬(t.pick.place= -1/\t.drp.place= -1))) 19++Vf ((stpOk t.pick&&stpOk t.drp)) 14++Vf (rng t.skills 0 1073741823) 18) ?_ ?_
       ·refine Zd ?_;refine (FI t.skills 0 1073741823).use (Zd ?_);refine ZX ?_ ?_<;>intro h
        ·simp only [XR] at h;exact ⟨m++ [18],UE hm (h),Weak.mk (by simp (disch:=omega) only [YD,go_sem,seval])⟩
        ·simp only [XF] at h;exact ⟨m,QI hm (h),Weak.mk (by simp (disch:=omega) only [YD,go_sem,seval])⟩
       ·clear hm hml;intro m hm;refine Zh [20] _ _ _ _ (Bb ?_)
        have hml:m.length<=8:=by
         grind [Zz,UX]
        refine ZJ [2,11,12] (fun b:Bool=> [(14,.p (.bool b))]) (fun _=> [YD t,.elems 1 (m.map eI)]) (fun b=>b=Fm t) ?_ ?_
        ·refine Zd ?_
         repeat' (first | (refine V2 (fun hq=> ?_) (fun hq=> ?_)<;>(try simp only [Zr,X3,Z2] at hq)<;>simp (disch:=omega) only [Sh.out hq,go_sem,seval]) | (refine U6 (fun hq=> ?_) (fun hq=> ?_)<;>(try simp only [Zr,X3,Z2] at hq)<;>simp (disch:=omega) only [Sh.out hq,go_sem,seval]) | (refine Qu (fun hq=> ?_) (fun hq=> ?_)<;>(try simp only [Zr,X3,Z2] at hq)<;>simp (disch:=omega) only [Sh.out hq,go_sem,seval]))
         all_goals refine ⟨Fm t,rfl,Weak.mk ?_⟩
         all_goals (simp (disch:=omega) only [YD,go_sem,seval];simp [Fm, *])
        ·rintro b hb;refine Zh [21] _ _ _ _ (Bb ?_);refine ZJ [] (fun m:List Int=> [(11,.sl 1 0 m.length m.length)]) (fun m=> [YD t,.elems 1 (m.map eI)]) (fun m=>m=Vf (nameOk t.name) 5++Vf (Qg l i) 6++Vf (loadOk t.load d) 17++Vf ((rng t.pick.place (-1) ((np:Int)-1)&&rng t.drp.place (-1) ((np:Int)-1))) 11++Vf (decide (¬(t.pick.place= -1/\t.drp.place= -1))) 19++Vf ((stpOk t.pick&&stpOk t.drp)) 14++Vf (rng t.skills 0 1073741823) 18++Vf (argOk t ty) 2) ?_ ?_
         ·refine Zd ?_;refine (FI t.penalty (-1) 1000000).use (Zd ?_);refine gF ?_ ?_<;>intro h<;>simp (disch:=omega) only [Sh.out h,go_sem,seval,↓reduceIte]
          ·simp only [XR] at h;exact ⟨m++ [2],UE hm (by simp [argOk,h]),Weak.mk (by simp (disch:=omega) only [YD,go_sem,seval])⟩
          ·simp only [XF] at h;refine (FI t.split 1 4).use (Zd ?_);refine gF ?_ ?_<;>intro h2<;>simp (disch:=omega) only [Sh.out h2,go_sem,seval,↓reduceIte]
           ·simp only [XR] at h2;exact ⟨m++ [2],UE hm (by simp [argOk,h2]),Weak.mk (by simp (disch:=omega) only [YD,go_sem,seval])⟩
           ·simp only [XF] at h2
            cases b with
            | true =>
             repeat' (first | (refine gT ?_ ?_<;>intro hq<;>simp (disch:=omega) only [Sh.out hq,go_sem,seval,↓reduceIte]) | (refine gF ?_ ?_<;>intro hq<;>simp (disch:=omega) only [Sh.out hq,go_sem,seval,↓reduceIte]) | (refine cD ?_ ?_<;>intro hq<;>simp (disch:=omega) only [Sh.out hq,go_sem,seval,↓reduceIte]))
             all_goals first
              | exact ⟨m++ [2],UE hm (by rw [argOk,<- hb];first | (simp;done) | (simp;omega)),Weak.mk (by simp (disch:=omega) only [YD,go_sem,seval])⟩
              | exact ⟨m,QI hm (by grind [argOk]),Weak.mk (by simp (disch:=omega) only [YD,go_sem,seval])⟩
            | false =>
             repeat' (first | (refine gT ?_ ?_<;>intro hq<;>simp (disch:=omega) only [Sh.out hq,go_sem,seval,↓reduceIte]) | (refine gF ?_ ?_<;>intro hq<;>simp (disch:=omega) only [Sh.out hq,go_sem,seval,↓reduceIte]) | (refine cD ?_ ?_<;>intro hq<;>simp (disch:=omega) only [Sh.out hq,go_sem,seval,↓reduceIte]))
             all_goals first
              | exact ⟨m++ [2],UE hm (by rw [argOk,<- hb];first | (simp;done) | (simp;omega)),Weak.mk (by simp (disch:=omega) only [YD,go_sem,seval])⟩
              | exact ⟨m,QI hm (by rw [argOk,<- hb,h,h2];first | (simp;done) | (simp;omega)),Weak.mk (by simp (disch:=omega) only [YD,go_sem,seval])⟩
         ·clear hm hml;intro m hm;refine Zh [] _ _ _ _ (Bb ?_)
          have hml:m.length<=8:=by
           grind [Zz,UX]
          exact ⟨m,by rw [hm,hty],1,by simp (disch:=omega) only [go_sem,seval]⟩
def X1 (np:Nat) (d ty:Int) (l:List Ord) (k:Nat):List Flt:=(if l.length<=10 then [] else [(4,[])])++(List.range k).flatMap fun i=>(Y5 np d ty l i).map fun e=>(e,AZ i)
theorem CL (np:Nat) (d ty:Int) (l:List Ord) (k:Nat):X1 np d ty l (k+1)=X1 np d ty l k++(Y5 np d ty l k).map fun e=>(e,AZ k):=by
 simp [X1,X8]
theorem QG (np:Nat) (d ty:Int) (l:List Ord): ∀k,(X1 np d ty l k).length<=1+8*k
 | 0=>by simp [X1];grind
 | k+1=>by
  have h1:=QG np d ty l k;have h2:=CI np d ty l k;rw [CL];simp;omega
theorem yJ (n:Net) (d ty:Int) (l:List Ord) (c:Bool) (hw:n.wf 1048576) (hl:l.length<=1048576) (hlw: ∀t∈l,t.wf 1048576) :
  ACalls Tryz.prog 40 [.p (B1 n),.p (.int .i64 d),.p (.int .i64 ty),.p (.list c (l.map eOrd))] [] fun x H'=>x= .sl 0 0 (X1 n.places.length d ty l l.length).length (X1 n.places.length d ty l l.length).length/\H'= [.elems 2 ((X1 n.places.length d ty l l.length).map eF)]:=by
 obtain ⟨w1,w2,w3,w4⟩:=hw
 suffices hh:ACalls Tryz.prog 40 [.p (B1 n),.p (.int .i64 d),.p (.int .i64 ty),.p (.list c (l.map eOrd))] [] fun x H'=> ∃m:List Flt,m=X1 n.places.length d ty l l.length/\x= .sl 0 0 m.length m.length/\H'= [.elems 2 (m.map eF)] by
  grind
 refine ZG [2] Tryz.func40 rfl Zik ?_;simp (disch:=omega) only [Tryz.f40,go_sem,seval];refine Zo (Weak.ofNil 9 2 (by simp (disch:=omega) only [go_sem,seval]) Zb (Weak.refl _ _ _)) ?_;refine ZJ [1,2,3,4] (fun m:List Flt=> [(9,.sl 1 0 m.length m.length)]) (fun m=>Z4 n++ [.elems 2 (m.map eF)]) (fun m=>m=X1 n.places.length d ty l 0) ?_ ?_
 ·refine Zd ?_;refine ZX ?_ ?_<;>intro h
  ·exact ⟨[(4,[])],by rw [X1,if_neg Za];rfl,Weak.mk (by simp (disch:=omega) only [Z4,go_sem,seval])⟩
  ·exact ⟨[],by rw [X1,if_pos Za];rfl,Weak.mk (by simp (disch:=omega) only [Z4,go_sem,seval])⟩
 ·intro m hm;refine Zh [] _ _ _ _ (K5 ?_);refine Zl [1,2,3,4] (fun q:Nat×List Flt=> [(9,.sl 1 0 q.2.length q.2.length),(10,.p (.int .i64 q.1))]) (fun q=>Z4 n++ [.elems 2 (q.2.map eF)]) (fun q=>q.1<=l.length/\q.2=X1 n.places.length d ty l q.1) (fun q=>l.length-q.1) (0,m) ⟨Zb,hm⟩ (Weak.mk ?_) ?_
  ·simp (disch:=omega) only [Z4,go_sem,seval]
  ·clear hm;rintro ⟨k,m⟩ ⟨hk,hm⟩;simp only at hk hm;have hml:=QG n.places.length d ty l k;rw [<- hm] at hml;refine K5 ?_;refine cD ?_ ?_<;>intro h<;>simp (disch:=omega) only [Sh.out h,go_sem,seval,↓reduceIte]
   ·have hk2:k<l.length:=Za
    have hI:Qr (k:Int):=Za
    have hrl:=CI n.places.length d ty l k;refine ((bS n.places.length d ty l c k hk2 hl w1 (hlw _ (Zt hk2))).frozen Zb).use (Zd ?_);generalize hre:Y5 n.places.length d ty l k=e at hrl ⊢;refine Zl [1,2,3,4,10,11] (fun q:Nat×List Flt=> [(9,.sl 1 0 q.2.length q.2.length),(12,.p (.int .i64 q.1))]) (fun q=>Z4 n++ [.elems 2 (q.2.map eF)]) (fun q=>q.1<=e.length/\q.2=X1 n.places.length d ty l k++(e.take q.1).map fun e=>(e,AZ k)) (fun q=>e.length-q.1) (0,m) ⟨Zb,by simp [hm]⟩ (Weak.mk ?_) ?_
    ·simp (disch:=omega) only [Z4,go_sem,seval]
    ·clear hm hml;rintro ⟨j,m⟩ ⟨hj,hm⟩;simp only at hj hm;have hml:=QG n.places.length d ty l k
     have hml2:m.length<=1+8*k+8:=by grind
     refine K5 ?_;refine ZX ?_ ?_<;>intro h2
     ·have hj2:j<e.length:=Za
      refine ZB 9 mixed Zg Zg (Zd ?_);refine Zn (Ag k hI) (Zd ?_);refine ⟨(j+1,m++ [(nth e j,AZ k)]),⟨Za,?_⟩,Za,wk⟩
      grind [XZ,Zj]
     ·have hjl:j=e.length:=Za
      subst hjl;refine ⟨(k+1,m),⟨Za,?_⟩,Za,wk⟩
      grind [CL]
   ·have hkn:k=l.length:=Za
    subst hkn;exact ⟨m,hm,1,by simp (disch:=omega) only [go_sem,seval]⟩
theorem cI {s:Stp} :stpOk s=true↔((s.place= -1/\s.opn=0/\s.cls=0/\s.serv=0)\/(0<=s.place/\0<=s.opn/\s.opn<=s.cls/\s.cls<=4096/\0<=s.serv/\s.serv<=4096)):=by simp [stpOk]
structure OrdOk (np:Nat) (d ty:Int) (l:List Ord) (i:Nat):Prop where
 name:nameOk (nth l i).name=true
 twin: ∀j,j<i->(nth l j).name≠(nth l i).name
 load:loadOk (nth l i).load d=true
 pick: -1<=(nth l i).pick.place/\(nth l i).pick.place<np
 drp: -1<=(nth l i).drp.place/\(nth l i).drp.place<np
 one: ¬((nth l i).pick.place= -1/\(nth l i).drp.place= -1)
 pstp:stpOk (nth l i).pick=true
 dstp:stpOk (nth l i).drp=true
 skills:0<=(nth l i).skills/\(nth l i).skills<=1073741823
 arg:argOk (nth l i) ty=true
theorem sX {b:Bool} {e:Int} :Vf b e= []↔b=true:=by grind [Vf]
theorem Lz {np:Nat} {d ty:Int} {l:List Ord} {i:Nat} :Y5 np d ty l i= []↔OrdOk np d ty l i:=by
 simp only [Y5,VQ,sX,Zv,Zr,rng,KR]
 constructor
 ·rintro ⟨⟨⟨⟨⟨⟨⟨a1,a2⟩,a3⟩,a4⟩,a5⟩,a6⟩,a7⟩,a8⟩;exact ⟨a1,a2,a3,Za,Za,a5,a6.1,a6.2,a7,a8⟩
 ·intro h;obtain ⟨b1,b2⟩:=h.pick;obtain ⟨b3,b4⟩:=h.drp;exact ⟨⟨⟨⟨⟨⟨⟨h.name,h.twin⟩,h.load⟩,Za,Za⟩,h.one⟩,h.pstp,h.dstp⟩,h.skills⟩,h.arg⟩
def ordersOk (np:Nat) (d ty:Int) (l:List Ord):Prop:=l.length<=10/\ ∀i,i<l.length->OrdOk np d ty l i
theorem NB {np:Nat} {d ty:Int} {l:List Ord} :X1 np d ty l l.length= []↔ordersOk np d ty l:=by
 simp_all [X1,Lz,ordersOk]
theorem PF {np:Nat} {d ty:Int} {l:List Ord} (hl:l.length<=1048576): ∀f∈X1 np d ty l l.length,pF 20 f:=by
 intro f hf;simp only [X1,Xe,XK,ZP,XT] at hf;rcases hf with hf | ⟨i,hi,e,he,rfl⟩
 ·grind [pF]
 ·exact Jf i Za
theorem PY (n:Int) (h0:0<=n) (hn:n<=4611686018427387904):PC 103 [.p (.int .i64 n)] (.str (dec n.toNat)):=by
 refine Zc Tryz.func103 rfl zK ?_;simp (disch:=omega) only [Tryz.f103,go_sem,seval];refine Zl [] (fun q:Int×List UInt8=> [(0,.p (.int .i64 q.1)),(3,.p (.str q.2))]) (fun _=> []) (fun q=>0<=q.1/\q.1<=n/\dec q.1.toNat++q.2=dec n.toNat) (fun q=>q.1.toNat) (n,[]) (by simp [h0]) (Weak.mk ?_) ?_
 ·simp (disch:=omega) only [go_sem,seval]
 ·rintro ⟨m,s⟩ ⟨hm,hmn,hs⟩;simp only at hm hmn hs;have hl:=RM _ n.toNat (Nat.lt_succ_self _)
  have hl2:(dec m.toNat).length+s.length=(dec n.toNat).length:=by grind
  simp (disch:=first | omega | (simp only [ZA,ZH,Zz,Zx,Z7,Xx]<;>omega)) only [go_sem,seval];refine cD ?_ ?_<;>intro h<;>simp (disch:=omega) only [Sh.out h,go_sem,seval,↓reduceIte]
  ·simp (disch:=first | omega | (simp only [ZA,ZH,Zz,Zx,Z7,Xx]<;>omega)) only [go_sem,seval]
   have h2: ¬m.toNat<10:=Za
   have e1:(48+m%10).toNat=48+m.toNat%10:=Za
   have e2:(m / 10).toNat=m.toNat / 10:=Za
   refine ⟨(m / 10,UInt8.ofNat (48+m%10).toNat::s),⟨Za,Za,?_⟩,Za,Weak.mk ?_⟩
   ·simp only [e1,e2];rw [<- hs,dec.eq_def m.toNat,dif_neg h2];simp
   ·simp (disch:=omega) only [go_sem,seval]
  ·simp (disch:=first | omega | (simp only [ZA,ZH,Zz,Zx,Z7,Xx]<;>omega)) only [go_sem,seval]
   have h2:m.toNat<10:=Za
   have e1:(48+m).toNat=48+m.toNat:=Za
   rw [<- hs,dec.eq_def m.toNat,dif_pos h2,e1]
   rfl
def aM (n:Int) (p:Int×Int):Bool:=decide (0<=p.1/\p.1<n)&&decide (0<=p.2/\p.2<n)&&decide (¬p.1=p.2)
def atW (word:List UInt8) (i:Nat):List UInt8:=word++ [32]++dec i
def RZ (n:Int) (word:List UInt8) (sm:Int×Int->Int×Int->Bool) (l:List (Int×Int)) (i:Nat):List (Int×List UInt8) :=
 if aM n (nth l i)=false then [(2,atW word i)] else if (l.take i).any (sm (nth l i)) then [(6,atW word i)] else []
def M3 (word:List UInt8) (l:List (Int×Int)):List (Int×List UInt8):=if 16<l.length then [(4,word)] else []
def Jj (n:Int) (word:List UInt8) (sm:Int×Int->Int×Int->Bool) (l:List (Int×Int)) (k:Nat):List (Int×List UInt8):=M3 word l++(List.range k).flatMap (RZ n word sm l)
theorem Hx (n word sm l k):Jj n word sm l (k+1)=Jj n word sm l k++RZ n word sm l k:=by grind [Jj,X8]
theorem Hy (n word sm l):Jj n word sm l 0=M3 word l:=by simp [Jj]
theorem qN (n word sm l i):(RZ n word sm l i).length<=1:=by grind [RZ]
theorem B7 (n word sm l): ∀k,(Jj n word sm l k).length<=k+1:=by
 intro k
 induction k with
 | zero=>grind [Hy,M3]
 | succ k ih=>grind [Hx,qN]
def chk (n:Int) (ap be:List (Int×Int)):List (Int×List UInt8) :=
 Jj n [97,112,97,114,116] (fun p q=>decide (p=q\/(p.1=q.2/\p.2=q.1))) ap ap.length++Jj n [98,101,102,111,114,101] (fun p q=>decide (p=q)) be be.length
def EW (turned:Bool) (p q:Int×Int):Bool:=decide (q.1=p.1/\q.2=p.2)||(turned&&decide (q.1=p.2/\q.2=p.1))
theorem mH : EW true=fun p q=>decide (p=q\/(p.1=q.2/\p.2=q.1)):=by
 funext p q
 simp only [EW,Vt,ZcG]
 grind
theorem bX : EW false=fun p q=>decide (p=q):=by
 funext p q
 simp only [EW,QB,Bool.or_false]
 grind
def tw (turned:Bool) (l:List (Int×Int)) (p:Int×Int) (j:Nat):Bool:=(l.take j).any (EW turned p)
theorem tS (turned l p):tw turned l p 0=false:=by simp [tw]
theorem tR (turned:Bool) (l:List (Int×Int)) (p:Int×Int) (j:Nat) (h:j<l.length):tw turned l p (j+1)=(tw turned l p j||EW turned p (nth l j)):=by
 rw [tw,tw,XZ h,List.any_append,Zj h];simp
theorem MM (n:Int) (word:List UInt8) (l:List (Int×Int)) (c:Bool) (turned:Bool) (hw:word.length<=1000) (hl:l.length<=1048576) :
  ACalls Tryz.prog 76 [.p (.int .i64 n),.p (.list c (l.map eP)),.p (.str word),.p (.bool turned)] [] fun x H'=>x= .sl 0 0 (Jj n word (EW turned) l l.length).length (Jj n word (EW turned) l l.length).length/\H'= [.elems 2 ((Jj n word (EW turned) l l.length).map eF)]:=by
 refine GP [2] (fn:=Tryz.f76) Zb Tryz.func76 rfl ZiS ?_;simp (disch:=omega) only [Tryz.f76,go_sem,seval];refine Zo (Weak.ofNil 9 2 (by simp (disch:=omega) only [go_sem,seval]) Zb (Weak.refl _ _ _)) (Zd ?_);refine ZJ [0,1,2,3] (fun _:Unit=> [(9,.sl 0 0 (M3 word l).length (M3 word l).length)]) (fun _=> [.elems 2 ((M3 word l).map eF)]) (fun _=>True) ?_ ?_
 ·refine Zd ?_;refine cD ?_ ?_<;>intro h<;>simp (disch:=omega) only [Sh.out h,go_sem,seval,↓reduceIte]
  ·refine ⟨(),Weak.mk ?_⟩
   have h2:16<l.length:=Za
   simp (disch:=omega) only [M3,h2,go_sem,seval,↓reduceIte]
  ·refine ⟨(),Weak.mk ?_⟩
   have h2: ¬ 16<l.length:=Za
   simp (disch:=omega) only [M3,h2,go_sem,seval,↓reduceIte]
 ·intro _ _;refine Zh [] _ _ _ _ (Zd ?_);refine Zl [0,1,2,3] (fun k:Nat=> [(9,.sl 0 0 (Jj n word (EW turned) l k).length (Jj n word (EW turned) l k).length),(10,.p (.int .i64 k))]) (fun k=> [.elems 2 ((Jj n word (EW turned) l k).map eF)]) (fun k=>k<=l.length) (fun k=>l.length-k) 0 Zb (Weak.mk ?_) ?_
  ·simp (disch:=omega) only [Hy,go_sem,seval,↓reduceIte]
  ·intro k hk;have hfl:=B7 n word (EW turned) l k;have hdl:=RM _ k (Nat.lt_succ_self _);refine Zd ?_;refine cD ?_ ?_<;>intro h<;>simp (disch:=omega) only [Sh.out h,go_sem,seval,↓reduceIte]
   ·have hk2:k<l.length:=Za
    simp (disch:=first | omega | (simp only [ZA,ZH,Zz,Zx,Z7,Xx]<;>omega)) only [go_sem,seval];refine (PY (k:Int) Za Za).use ?_;simp (disch:=first | omega | (simp only [ZA,ZH,Zz,Zx,Z7,Xx]<;>omega)) only [go_sem,seval];have hs:=Hx n word (EW turned) l k
    have hbad:aM n (nth l k)=false->RZ n word (EW turned) l k= [(2,word++ [32]++dec k)]:=fun e=>by simp [RZ,e,atW]
    repeat' (first | (refine V2 (fun hq=> ?_) (fun hq=> ?_)<;>(try simp only [Zr,X3,Z2] at hq)<;>simp (disch:=omega) only [Sh.out hq,go_sem,seval]) | (refine gF ?_ ?_<;>intro hq<;>simp (disch:=omega) only [Sh.out hq,go_sem,seval,↓reduceIte]) | (refine cD ?_ ?_<;>intro hq<;>simp (disch:=omega) only [Sh.out hq,go_sem,seval,↓reduceIte]))
    all_goals try (
     have e:=hbad (by simp [aM];omega)
     exact ⟨k+1,Za,Za,Weak.mk (by simp (disch:=omega) only [hs,e,go_sem,seval])⟩)
    have hok:aM n (nth l k)=true:=by simp [aM];omega
    refine Zl [0,1,2,3,9,10,11,12,13] (fun j:Nat=> [(14,.p (.bool (tw turned l (nth l k) j))),(15,.p (.int .i64 j))]) (fun _=> [.elems 2 ((Jj n word (EW turned) l k).map eF)]) (fun j=>j<=k) (fun j=>k-j) 0 Zb (Weak.mk ?_) ?_
    ·simp (disch:=omega) only [tS,go_sem,seval,↓reduceIte]
    ·intro j hj;refine Zd ?_;refine cD ?_ ?_<;>intro h4<;>simp (disch:=omega) only [Sh.out h4,go_sem,seval,↓reduceIte]
     ·have hts:=tR turned l (nth l k) j Za;generalize tw turned l (nth l k) j=q at hts ⊢
      repeat' (first | (refine gT ?_ ?_<;>intro hq<;>simp (disch:=omega) only [Sh.out hq,go_sem,seval,↓reduceIte]) | (refine gF ?_ ?_<;>intro hq<;>simp (disch:=omega) only [Sh.out hq,go_sem,seval,↓reduceIte]) | (refine Qu (fun hq=> ?_) (fun hq=> ?_)<;>(try simp only [Zr,X3,Z2] at hq)<;>simp (disch:=omega) only [Sh.out hq,go_sem,seval]))
      all_goals refine ⟨j+1,Za,Za,Weak.mk ?_⟩
      all_goals clear hs hbad hfl hdl
      all_goals simp (disch:=omega) only [hts,go_sem,seval]
      all_goals simp [EW, *]
      all_goals first | omega | (simp [EW, *] at hts;exact hts)
     ·have hjk:j=k:=Za
      subst hjk;refine cD ?_ ?_<;>intro h5<;>simp (disch:=omega) only [Sh.out h5,go_sem,seval,↓reduceIte]
      ·have e:RZ n word (EW turned) l j= [(6,word++ [32]++dec j)]:=by
        have h6:(l.take j).any (EW turned (nth l j))=true:=h5
        grind [RZ,atW]
       exact ⟨j+1,Za,Za,Weak.mk (by simp (disch:=omega) only [hs,e,go_sem,seval])⟩
      ·have e:RZ n word (EW turned) l j= []:=by
        have h6:(l.take j).any (EW turned (nth l j))=false:=h5
        simp_all [RZ]
       exact ⟨j+1,Za,Za,Weak.mk (by simp (disch:=omega) only [hs,e,go_sem,seval])⟩
   ·have:k=l.length:=Za
    subst this;exact ⟨0,by simp (disch:=omega) only [go_sem,seval]⟩
theorem lP (n:Int) (ap be:List (Int×Int)) (c c':Bool) (hl:ap.length<=1048576) (hl2:be.length<=1048576) :
  ACalls Tryz.prog 42 [.p (.int .i64 n),.p (.list c (ap.map eP)),.p (.list c' (be.map eP))] [] fun x H'=>x= .sl 0 0 (chk n ap be).length (chk n ap be).length/\H'= [.elems 2 ((chk n ap be).map eF)]:=by
 refine UK (fn:=Tryz.f42) Zb Tryz.func42 rfl Zim ?_;simp (disch:=omega) only [Tryz.f42,go_sem,seval];have h1:=B7 n [97,112,97,114,116] (EW true) ap ap.length;have h2:=B7 n [98,101,102,111,114,101] (EW false) be be.length;refine (MM n _ ap c true (by decide) hl).useF (Zd ?_);refine (MM n _ be c' false (by decide) hl2).useF (Zd ?_);refine ⟨0,?_⟩;rw [chk,<- mH,<- bX];simp (disch:=omega) only [go_sem,seval]
@[go_sem] theorem Zd6 {H:List AM.Obj} {β:Type} {S b o n:Nat} {xs:List PV} {g:β->PV} {m:List β} (hb:(n+m.length)*b<=140737488355328) (hb2:n+m.length<=140737488355328) :
  V5 H (some (S,b)) (.elems S xs) o n (some (m.map g))=if xs.length=n/\KT S (m.map g)=true then some (.sl o 0 (n+m.length) (n+m.length),F2 H o (.elems S (xs++m.map g))) else none:=by
 simp_all [eA]
def und (word:List UInt8) (f:Flt):Flt:=(f.1,if f.2= [] then word else word++ [32]++f.2)
theorem AV (word:List UInt8) (l:List Flt) (c:Bool) (hword:word.length<=100) (hl:l.length<=4194306000000) (hp: ∀f∈l,pF 100 f) :
  ACalls Tryz.prog 37 [.p (.str word),.p (.list c (l.map eF))] [] fun x H'=>x= .sl 0 0 (l.map (und word)).length (l.map (und word)).length/\H'= [.elems 2 ((l.map (und word)).map eF)]:=by
 suffices hh:ACalls Tryz.prog 37 [.p (.str word),.p (.list c (l.map eF))] [] fun x H'=> ∃m:List Flt,m=l.map (und word)/\x= .sl 0 0 m.length m.length/\H'= [.elems 2 (m.map eF)] by
  grind
 refine ZG [2] Tryz.func37 rfl Zih ?_;simp (disch:=omega) only [Tryz.f37,go_sem,seval];refine Zo (Weak.ofNil 5 2 (by simp (disch:=omega) only [go_sem,seval]) Zb (Weak.refl _ _ _)) ?_;refine Zh [] _ _ _ _ (Zd ?_);refine Zl [0,1] (fun q:Nat×List Flt=> [(5,.sl 0 0 q.2.length q.2.length),(6,.p (.int .i64 q.1))]) (fun q=> [.elems 2 (q.2.map eF)]) (fun q=>q.1<=l.length/\q.2=(l.take q.1).map (und word)) (fun q=>l.length-q.1) (0,[]) ⟨Zb,Zb⟩ (Weak.mk ?_) ?_
 ·simp (disch:=omega) only [go_sem,seval,↓reduceIte]
 ·rintro ⟨k,m⟩ ⟨hk,hm⟩;simp only at hk hm
  have hml:m.length<=k:=by grind
  refine Zd ?_;refine cD ?_ ?_<;>intro h<;>simp (disch:=omega) only [Sh.out h,go_sem,seval,↓reduceIte]
  ·have hk2:k<l.length:=Za
   have hpk:=hp _ (Zt hk2);unfold pF at hpk
   have hnext: ∀f,f=und word (nth l k)->m++ [f]=(l.take (k+1)).map (und word):=fun f hf=>by
    grind [XZ,Zj]
   refine cD ?_ ?_<;>intro h2<;>simp (disch:=omega) only [Sh.out h2,go_sem,seval,↓reduceIte]
   ·have h3: ¬(nth l k).2= []:=Za
    simp (disch:=first | omega | (simp only [ZA,ZH,Zz,Zx,Z7,Xx]<;>omega)) only [go_sem,seval,↓reduceIte];refine ⟨(k+1,m++ [((nth l k).1,word++ [32]++(nth l k).2)]),⟨Za,hnext _ (by simp [und,h3])⟩,Za,Weak.mk (by simp (disch:=first | omega | (simp only [ZA,ZH,Zz,Zx,Z7,Xx]<;>omega)) only [go_sem,seval])⟩
   ·have h3:(nth l k).2= []:=by grind
    refine ⟨(k+1,m++ [((nth l k).1,word)]),⟨Za,hnext _ (by simp [und,h3])⟩,Za,Weak.mk (by simp (disch:=first | omega | (simp only [ZA,ZH,Zz,Zx,Z7,Xx]<;>omega)) only [go_sem,seval])⟩
  ·have hkn:k=l.length:=Za
   subst hkn;exact ⟨m,by grind,0,by simp (disch:=omega) only [go_sem,seval]⟩
theorem yG {n:Int} {ap be:List (Int×Int)} (ha:ap.length<=1048576) (hb:be.length<=1048576): ∀f∈chk n ap be,pF 100 f:=by
 have key: ∀(word:List UInt8) (sm:Int×Int->Int×Int->Bool) (l:List (Int×Int)),word.length<=6->l.length<=1048576-> ∀f∈Jj n word sm l l.length,pF 100 f:=fun word sm l hw hl f hf=>by
  simp only [Jj,Xe,XK,ZP] at hf;rcases hf with hf | ⟨i,hi,hf⟩
  ·grind [M3,pF]
  ·have hd:=Bl 6 i Za
   grind [pF,atW,RZ]
 intro f hf;rcases Xe.1 hf with hf | hf
 ·grind
 grind
theorem pP {n:Int} {ap be:List (Int×Int)} :(chk n ap be).length<=ap.length+be.length+2:=by
 grind [B7,chk]
structure InstOk (x:Inst):Prop where
 net:netOk x.net
 types:typesOk x.net x.types
 orders:ordersOk x.net.places.length (dimsOf x.types) x.types.length x.orders
 rules:chk x.orders.length x.apart x.before= []
theorem FR.und {p:Flt->Prop} {C:Prop} {b:Nat} {l:List Flt} (h:FR p C b l) (word:List UInt8):FR (fun _=>True) C b (l.map (und word)) :=
 ⟨by simpa using h.len,by rw [List.map_eq_nil_iff];exact h.emp,fun _ _=>trivial⟩
theorem yK (x:Inst) (hw:x.wf 1048576):ACalls Tryz.prog 13 [.p (Zq x)] [] fun y H'=> ∃m:List Flt,FR (fun _=>True) (InstOk x) 4194400000000 m/\y= .sl 0 0 m.length m.length/\H'= [.elems 2 (m.map eF)]:=by
 obtain ⟨w1,w2,w3,w4,w5,w6,w7,w8,w9⟩:=hw;refine ZG [] Tryz.func13 rfl Zh0 ?_;simp (disch:=omega) only [Tryz.f13,go_sem,seval];have ol:=QG x.net.places.length (dimsOf x.types) x.types.length x.orders x.orders.length;have oat:=PF (np:=x.net.places.length) (d:=dimsOf x.types) (ty:=x.types.length) w4;have onil:=NB (np:=x.net.places.length) (d:=dimsOf x.types) (ty:=x.types.length) (l:=x.orders);have cl:=pP (n:=x.orders.length) (ap:=x.apart) (be:=x.before);have cat:=yG (n:=x.orders.length) w6 w8;refine ((yH x.net w1).frozenE).useV fun m1 h1=> ?_
 refine Zd ?_;have h1p:=h1.pmono (q:=pF 100) fun f hf=>hf.mono Za;have u1:=AV [110,101,116] m1 false Zb h1.len h1p.all;have f1:=h1.und [110,101,116];generalize m1.map (und [110,101,116])=q1 at u1 f1;have f1l:=f1.len;refine (u1).useF (Zd ?_);refine ((yI x.net x.types x.types_c w1 w2 w3).frozenE).useV fun m2 h2=>Zd ?_;have h2p:=h2.pmono (q:=pF 100) fun f hf=>hf.mono Za;have h2l:=h2.len;have u2:=(AV [116,121,112,101,115] m2 false Zb Za h2p.all).frozen Zb;have f2:=h2.und [116,121,112,101,115]
 generalize m2.map (und [116,121,112,101,115])=q2 at u2 f2;have f2l:=f2.len;refine (u2).use (Zd ?_);have u3:=(AV [111,114,100,101,114,115] (X1 x.net.places.length (dimsOf x.types) x.types.length x.orders x.orders.length) false Zb Za fun f hf=>(oat f hf).mono Za).frozen Zb;have f3:=(show FR (fun _=>True) (ordersOk x.net.places.length (dimsOf x.types) x.types.length x.orders) (1+8*x.orders.length) (X1 x.net.places.length (dimsOf x.types) x.types.length x.orders x.orders.length) from ⟨ol,onil,fun _ _=>trivial⟩).und [111,114,100,101,114,115]
 generalize (X1 x.net.places.length (dimsOf x.types) x.types.length x.orders x.orders.length).map (und [111,114,100,101,114,115])=q3 at u3 f3;have f3l:=f3.len;refine ZB 13 mixed Zg Zg (Zd ?_);refine Zn (MF x.types x.types_c w2) (Zd ?_);refine Zn ((yJ x.net (dimsOf x.types) x.types.length x.orders x.orders_c w1 w4 w5).frozen Zb) (Zd ?_);refine Zn (u3) (Zd ?_);have u4:=(AV [114,117,108,101,115] (chk x.orders.length x.apart x.before) false Zb Za cat).frozen Zb
 have f4:=(show FR (fun _=>True) (chk x.orders.length x.apart x.before= []) (x.apart.length+x.before.length+2) (chk x.orders.length x.apart x.before) from ⟨cl,Iff.rfl,fun _ _=>trivial⟩).und [114,117,108,101,115];generalize (chk x.orders.length x.apart x.before).map (und [114,117,108,101,115])=q4 at u4 f4;have f4l:=f4.len;refine ((lP x.orders.length x.apart x.before x.apart_c x.before_c w6 w8).frozen Zb).use (Zd ?_);refine (u4).use (Zd ?_);refine ⟨q1++q2++q3++q4,((f1.app f2).app f3 |>.app f4).to Za ⟨fun ⟨⟨⟨a,b⟩,c⟩,d⟩=>⟨a,b,c,d⟩,fun h=>⟨⟨⟨h.net,h.types⟩,h.orders⟩,h.rules⟩⟩,1,?_⟩
 simp (disch:=omega) only [go_sem,seval]
def Zf (x:Inst):AM.Obj:= .cells [.p (.list x.net.places_c (x.net.places.map eS)),.p (.list x.net.arcs_c (x.net.arcs.map VE)),.p (.list x.types_c (x.types.map X0)),.p (.list x.orders_c (x.orders.map eOrd)),.p (.list x.apart_c (x.apart.map eP)),.p (.list x.before_c (x.before.map eP))]
def zSco : Sco:=⟨0,0,0,0⟩
theorem nY (a:Int):IntKind.i64.wrap ((BitVec.ofInt 64 a&&&BitVec.ofInt 64 1).toNat:Int)=a%2:=by
 grind [BitVec.toNat_ofInt,IntWalk.i64_in]
def sHas (s i:Int):Bool:=decide (0<=i)&&decide (i<=62)&&decide (s.fdiv (2^i.toNat)%2=1)
theorem D1 (s i:Int):PC 140 [.p (.int .i64 s),.p (.int .i64 i)] (.bool (sHas s i)):=by
 refine Zc Tryz.func140 rfl Zaf ?_;simp (disch:=omega) only [Tryz.f140,go_sem,seval];refine gT ?_ ?_<;>intro h<;>simp (disch:=omega) only [Sh.out h,go_sem,seval,↓reduceIte]
 ·refine gT ?_ ?_<;>intro h1<;>simp (disch:=omega) only [Sh.out h1,go_sem,seval,↓reduceIte]
  ·have:min i.toNat 64=i.toNat:=Za
   rw [this]
   erw [nY]
   simp [sHas,h,h1]
  grind [sHas]
 ·simp [sHas,h]
def XY (s:Int) (k:Nat):List Int:=((List.range k).filter fun (i:Nat)=>sHas s (i:Int)).map fun (i:Nat)=>(i:Int)
theorem aC (s:Int):XY s 0= []:=by simp [XY]
theorem Nn {s:Int} {k:Nat} (h:sHas s (k:Int)=true):XY s (k+1)=XY s k++ [(k:Int)]:=by grind [XY,X8]
theorem So {s:Int} {k:Nat} (h:sHas s (k:Int)=false):XY s (k+1)=XY s k:=by grind [XY,X8]
theorem Cz (s:Int) (k:Nat):(XY s k).length<=k:=by
 grind [XY]
theorem Dw (s:Int):ACalls Tryz.prog 131 [.p (.int .i64 s)] [] fun x H'=>x= .sl 0 0 (XY s 63).length (XY s 63).length/\H'= [.elems 1 ((XY s 63).map eI)]:=by
 refine UK (fn:=Tryz.f131) Zb Tryz.func131 rfl zY ?_;simp (disch:=omega) only [Tryz.f131,go_sem,seval];refine Zl [0] (fun k:Nat=> [(3,.sl 0 0 (XY s k).length (XY s k).length),(5,.p (.int .i64 k))]) (fun k=> [.elems 1 ((XY s k).map eI)]) (fun k=>k<=63) (fun k=>63-k) 0 Zb (Weak.ofNil 3 1 (by simp (disch:=omega) only [go_sem,seval]) Zb (Weak.mk ?_)) ?_
 ·simp (disch:=omega) only [aC,go_sem,seval,↓reduceIte]
 ·intro k hk;have hl:=Cz s k;refine Zd ?_;refine cD ?_ ?_<;>intro h<;>simp (disch:=omega) only [Sh.out h,go_sem,seval,↓reduceIte]
  ·refine (D1 s k).use (Zd ?_);refine cD ?_ ?_<;>intro h2<;>simp (disch:=omega) only [Sh.out h2,go_sem,seval,↓reduceIte]
   ·refine ⟨k+1,Za,Za,Weak.mk ?_⟩;simp (disch:=omega) only [Nn h2,go_sem,seval]
   ·exact ⟨k+1,Za,Za,Weak.mk (by simp (disch:=omega) only [So h2,go_sem,seval])⟩
  ·have:k=63:=Za
   subst this;exact ⟨0,by simp (disch:=omega) only [go_sem,seval]⟩
def eN (n:Nat):PV:= .int .i64 (n:Int)
@[go_sem] theorem Zpv (n:Nat):eN n= .int .i64 (n:Int):=Zm rfl rfl
theorem fG (n:Nat) (be:List (Int×Int)) (c:Bool) (hn:n<=60) (hl:be.length<=1048576) (hv:Val n be) :
  ACalls Tryz.prog 162 [.p (.int .i64 (n:Int)),.p (.list c (be.map eP))] [] fun x H'=>x= .sl 0 0 n n/\H'= [.elems 1 ((Ko n be).map eN)]:=by
 refine UK (fn:=Tryz.f162) (by simpa using (Fq hv).len) Tryz.func162 rfl Zav ?_;simp (disch:=omega) only [Tryz.f162,go_sem,seval];have hp60:pw n<=pw 62:=Ks Za;have h62:=F9;refine Zl [0,1] (fun q:List Nat×Bool=> [(5,.sl 0 0 n n),(6,.p (.bool q.2))]) (fun q=> [.elems 1 (q.1.map eN)]) (fun q=>Snd n be q.1/\(q.2=false->tot (ES q.1 be)=tot q.1)) (fun q=>2*(n*pw n-tot q.1)+(if q.2 then 1 else 0)) (List.replicate n 0,true) ⟨Snd.zero n be,Zb⟩ (Weak.mk ?_) ?_
 ·simp (disch:=omega) only [Ap,go_sem,seval,↓reduceIte]
 ·rintro ⟨out,more⟩ ⟨hs,hm⟩;simp only at hs hm;refine Zd ?_;refine cD ?_ ?_<;>intro h<;>simp (disch:=omega) only [Sh.out h,go_sem,seval,↓reduceIte]
  ·have hrs: ∀i,Snd n be (ES out (be.take i)):=fun i=>hs.rnd hv _ fun p hp=>J6 hp
   have hsuc: ∀i,i<be.length->ES out (be.take (i+1))=Eh (ES out (be.take i)) (nth be i):=fun i hi=>by
    rw [XZ hi,PH,<- Zj hi];rfl
   refine Zl [0,1,16,17] (fun i:Nat=> [(5,.sl 0 0 n n),(6,.p (.bool (decide (tot out<tot (ES out (be.take i)))))),(18,.p (.int .i64 i))]) (fun i=> [.elems 1 ((ES out (be.take i)).map eN)]) (fun i=>i<=be.length) (fun i=>be.length-i) 0 Zb (Weak.mk ?_) ?_
   ·simp (disch:=omega) only [ES,Q2,Uz,go_sem,seval];simp
   ·intro i hi;have hsi:=hrs i;generalize hgo:ES out (be.take i)=o at hsi ⊢;have hlo:=hsi.len;refine Zd ?_;refine cD ?_ ?_<;>intro h2<;>simp (disch:=omega) only [Sh.out h2,go_sem,seval,↓reduceIte]
    ·have hib:i<be.length:=Za
     have hvi:=hv (nth be i) (by grind [Zj])
     have g1: ¬(nth be i).1<0:=Za
     have g2: ¬(nth be i).2<0:=Za
     have g3: ¬(n:Int)<=(nth be i).1:=Za
     have g4: ¬(n:Int)<=(nth be i).2:=Za
     have g5:(nth be i).1.toNat<n:=Za
     have g6:(nth be i).2.toNat<n:=Za
     have b1:=hsi.lt _ g5;have b2:=hsi.lt _ g6;have b3:nth o (nth be i).2.toNat|||nth o (nth be i).1.toNat<pw n:=Q1 b2 b1;have b4:pw (nth be i).1.toNat<=pw 62:=Ks Za;have hst:=RL o (nth be i) Za;have hnx:=hsuc i hib;rw [hgo] at hnx;refine Fg mixed Zg ?_;simp (disch:=omega) only [hlo,g1,g2,g3,g4,go_sem,seval];refine Fg mixed Zg ?_;simp (disch:=first | omega | (simp only [ZA,ZH,Zz,Zx,Z7,Xx]<;>omega)) only [hlo,g5,g6,Vm,go_sem,seval,↓reduceIte]
     have htm:tot out<=tot o:=by
      grind [CN]
     have hsv:o.set (nth be i).2.toNat (nth o (nth be i).2.toNat|||nth o (nth be i).1.toNat|||pw (nth be i).1.toNat)=Eh o (nth be i):=rfl;refine cD ?_ ?_<;>intro h3<;>simp (disch:=omega) only [Sh.out h3,go_sem,seval,↓reduceIte]
     ·have hne: ¬Eh o (nth be i)=o:=fun e=>by
       apply h3
       have e2:nth (Eh o (nth be i)) (nth be i).2.toNat=nth o (nth be i).2.toNat:=by rw [e]
       rw [Eh,EP _ _ _ _ Za] at e2
       grind
      have hlt:tot out<tot (Eh o (nth be i)):=by
       grind
      simp (disch:=first | omega | (simp only [ZA,ZH,Zz,Zx,Z7,Xx]<;>omega)) only [go_sem,seval,↓reduceIte];refine ⟨i+1,Za,Za,Weak.mk ?_⟩;simp (disch:=omega) only [hnx,hlt,go_sem,seval];rw [<- hsv,UD]
      rfl
     ·have heq:Eh o (nth be i)=o:=by
       have e:nth o (nth be i).2.toNat|||nth o (nth be i).1.toNat|||pw (nth be i).1.toNat=nth o (nth be i).2.toNat:=Za
       rw [<- hsv,e];apply Qc Zb
       simp_all [Zj]
      refine ⟨i+1,Za,Za,Weak.mk ?_⟩;simp (disch:=omega) only [hnx,heq,go_sem,seval]
    ·have hi2:i=be.length:=Za
     subst hi2;rw [XX] at hgo;subst hgo;have hpt:=CN hv be out (fun _ h=>h) hs;have hbd:=hsi.bound;refine ⟨(ES out be,decide (tot out<tot (ES out be))),⟨hsi,fun e=> ?_⟩,?_,Weak.mk ?_⟩
     ·grind
     ·grind
     ·simp (disch:=omega) only [go_sem,seval]
  ·refine ⟨0,?_⟩;have:out=Ko n be:=(fQ hv (hs.clo hv (hm h))).symm;rw [this];simp (disch:=omega) only [go_sem,seval]
def hv (s k:Nat):Nat:=s / pw k
theorem R7 (s:Nat):hv s 0=s:=by simp [hv,pw]
theorem R6 (s k:Nat):hv s (k+1)=hv s k / 2:=by grind [hv,EU,Nat.div_div_eq_div_mul]
theorem vH (s k:Nat):hv s k<=s:=Nat.div_le_self _ _
theorem iQ (s k:Nat):s.testBit k=decide (hv s k%2=1):=by
 rw [Nat.testBit_eq_decide_div_mod_eq]
 rfl
theorem WB (s i:Nat) (hi:i<=62):sHas (s:Int) (i:Int)=s.testBit i:=by
 rw [iQ,hv]
 have h1:(0:Int)<=i:=Za
 have h2:(i:Int)<=62:=Za
 simp only [sHas,h1,h2,W2,Vt,XS]
 have e:((s:Int)).fdiv (2^i)=((s / pw i:Nat):Int):=by
  grind [pw]
 grind
theorem Vj {α:Type} [Inhabited α] {l:List α} {f:α->Bool} {k:Nat} (h:k<l.length) (hf:f (nth l k)=true):l.any f=true:=by
 grind [Zj]
theorem QQ {α:Type} [Inhabited α] {l:List α} {f:α->Bool} (h: ∀j,j<l.length->f (nth l j)=false):l.any f=false:=by
 rw [WS];intro x hx;obtain ⟨j,hj,rfl⟩:=ZO.1 hx
 grind [Zj]
theorem Y8 {p:Nat->Prop} {k:Nat} (h: ∀j,j<k->p j) (hk:p k): ∀j,j<k+1->p j:=fun j hj=>by
 grind
theorem Zjm {s:Int} {k:Nat} {x:Int} (h:x∈XY s k):0<=x/\x<k:=by
 simp only [XY,XT,J8,ZP] at h;omega
noncomputable def Wd (os:List Ord) (ap be:List (Int×Int)) (s:Int):Int :=
 if s<0 then 2
 else if (XY s 63).any (fun i=>decide ((os.length:Int)<=i)) then 2
 else if (XY s 63).any (fun i=>(nth os i.toNat).off) then 9
 else if ap.any (fun p=>sHas s p.1&&sHas s p.2) then 20
 else if be.any (fun p=>sHas s p.2&& !sHas s p.1) then 21
 else if (XY s 63).any (fun i=>sHas ((nth (Ko os.length be) i.toNat:Nat):Int) i) then 21
 else 0
theorem YH {P Q:Prop} (h:Q) (e:Q->P:=by intro h;simp (disch:=omega) only [Zf,go_sem,seval];exact h):P:=e h
theorem Tf (net:Net) (tyc:Bool) (tys:List Typ) (c1 c2 c3:Bool) (os:List Ord) (ap be:List (Int×Int)) (s:Int) (hn:os.length<=60) (hla:ap.length<=1048576) (hl:be.length<=1048576) (hv:Val os.length be) :
  PC 130 [.p (Zq ⟨net,tyc,tys,c1,os,c2,ap,c3,be⟩),.p (.int .i64 s)] (.int .i64 (Wd os ap be s)):=by
 have hc:=Fq hv;have hlen:=hc.len;have hm:=Cz s 63;refine Zc Tryz.func130 rfl zX ?_;simp (disch:=omega) only [Tryz.f130,go_sem,seval];refine cD ?_ ?_<;>intro hs0<;>simp (disch:=omega) only [Sh.out hs0,go_sem,seval]
 ·simp [Wd,hs0]
 ·refine ((Dw s).frozen Zb).use (Zd ?_);generalize hgm:XY s 63=m at hm ⊢
  have hnn: ∀k,k<m.length->0<=nth m k/\nth m k<63:=fun k hk=>by
   grind [XY,Zj,JW]
  have e0: ¬s<0:=hs0;refine Zl [1,2,5,21,22] (fun k:Nat=> [(23,.p (.int .i64 k))]) (fun _=> [Zf ⟨net,tyc,tys,c1,os,c2,ap,c3,be⟩]) (fun k=>k<=m.length/\ ∀j,j<k->decide ((os.length:Int)<=nth m j)=false) (fun k=>m.length-k) 0 Zb (Weak.mk ?_) ?_
  ·simp (disch:=omega) only [Zf,go_sem,seval]
  ·rintro k ⟨hk,hno⟩;refine YH ?_;refine cD ?_ ?_<;>intro h<;>simp (disch:=omega) only [Sh.out h,go_sem,seval,↓reduceIte]
   ·have hk2:k<m.length:=Za
    refine ZX ?_ ?_<;>intro h4
    ·grind [Vj,Wd]
    ·exact ⟨k+1,⟨Za,Y8 hno (by simp [h4])⟩,Za,wk⟩
   ·have hkm:k=m.length:=Za
    subst hkm;have e1:m.any (fun i=>decide ((os.length:Int)<=i))=false:=QQ hno
    have hin: ∀j,j<m.length->(nth m j).toNat<os.length:=fun j hj=>by
     grind
    clear hno hk h;refine Zl [1,2,5,33,34] (fun k:Nat=> [(35,.p (.int .i64 k))]) (fun _=> [Zf ⟨net,tyc,tys,c1,os,c2,ap,c3,be⟩]) (fun k=>k<=m.length/\ ∀j,j<k->(nth os (nth m j).toNat).off=false) (fun k=>m.length-k) 0 Zb (Weak.mk ?_) ?_
    ·simp (disch:=omega) only [Zf,go_sem,seval]
    ·rintro k ⟨hk,hno⟩;refine YH ?_;refine cD ?_ ?_<;>intro h<;>simp (disch:=omega) only [Sh.out h,go_sem,seval,↓reduceIte]
     ·have hk2:k<m.length:=Za
      have g1:=hin k hk2;have g2:=hnn k hk2;refine Zd ?_;refine ZX ?_ ?_<;>intro h4
      ·grind [Vj,Wd]
      ·exact ⟨k+1,⟨Za,Y8 hno h4⟩,Za,wk⟩
     ·have hkm:k=m.length:=Za
      subst hkm;have e2:m.any (fun i=>(nth os i.toNat).off)=false:=QQ hno;clear hno hk h;refine Zl [1,2,5,47,48] (fun k:Nat=> [(49,.p (.int .i64 k))]) (fun _=> [Zf ⟨net,tyc,tys,c1,os,c2,ap,c3,be⟩]) (fun k=>k<=ap.length/\ ∀j,j<k->(sHas s (nth ap j).1&&sHas s (nth ap j).2)=false) (fun k=>ap.length-k) 0 Zb (Weak.mk ?_) ?_
      ·simp (disch:=omega) only [Zf,go_sem,seval]
      ·rintro k ⟨hk,hno⟩;refine YH ?_;refine cD ?_ ?_<;>intro h<;>simp (disch:=omega) only [Sh.out h,go_sem,seval,↓reduceIte]
       ·have hk2:k<ap.length:=Za
        refine (D1 s (nth ap k).1).use (Zd ?_);refine Je ?_ ?_<;>intro h5
        ·refine (D1 s (nth ap k).2).use (Zd ?_);refine ZX ?_ ?_<;>intro h6
         ·grind [Vj,Wd]
         ·exact ⟨k+1,⟨Za,Y8 hno (by simp [h5,h6])⟩,Za,wk⟩
        ·exact ⟨k+1,⟨Za,Y8 hno (by simp [h5])⟩,Za,wk⟩
       ·have hkm:k=ap.length:=Za
        subst hkm;have e3:ap.any (fun p=>sHas s p.1&&sHas s p.2)=false:=QQ hno;clear hno hk h;refine Zl [1,2,5,65,66] (fun k:Nat=> [(67,.p (.int .i64 k))]) (fun _=> [Zf ⟨net,tyc,tys,c1,os,c2,ap,c3,be⟩]) (fun k=>k<=be.length/\ ∀j,j<k->(sHas s (nth be j).2&& !sHas s (nth be j).1)=false) (fun k=>be.length-k) 0 Zb (Weak.mk ?_) ?_
        ·simp (disch:=omega) only [Zf,go_sem,seval]
        ·rintro k ⟨hk,hno⟩;refine YH ?_;refine cD ?_ ?_<;>intro h<;>simp (disch:=omega) only [Sh.out h,go_sem,seval,↓reduceIte]
         ·have hk2:k<be.length:=Za
          refine (D1 s (nth be k).2).use (Zd ?_);refine Je ?_ ?_<;>intro h5
          ·refine (D1 s (nth be k).1).use (Zd ?_);refine ZX ?_ ?_<;>intro h6
           ·grind [Vj,Wd]
           ·exact ⟨k+1,⟨Za,Y8 hno (by simp [h5,h6])⟩,Za,wk⟩
          ·exact ⟨k+1,⟨Za,Y8 hno (by simp [h5])⟩,Za,wk⟩
         ·have hkm:k=be.length:=Za
          subst hkm;have e4:be.any (fun p=>sHas s p.2&& !sHas s p.1)=false:=QQ hno;clear hno hk h;refine ((fG os.length be c3 hn hl hv).frozen (by grind)).use (Zd ?_);refine Zl [5,14,89,90] (fun k:Nat=> [(91,.p (.int .i64 k))]) (fun _=> [Zf ⟨net,tyc,tys,c1,os,c2,ap,c3,be⟩]) (fun k=>k<=m.length/\ ∀j,j<k->sHas ((nth (Ko os.length be) (nth m j).toNat:Nat):Int) (nth m j)=false) (fun k=>m.length-k) 0 Zb (Weak.mk ?_) ?_
          ·simp (disch:=omega) only [Zf,go_sem,seval]
          ·rintro k ⟨hk,hno⟩;refine YH ?_;refine cD ?_ ?_<;>intro h<;>simp (disch:=omega) only [Sh.out h,go_sem,seval,↓reduceIte]
           ·have hk2:k<m.length:=Za
            have g1:=hin k hk2;have g2:=hnn k hk2;refine Zd ?_;refine (D1 ((nth (Ko os.length be) (nth m k).toNat:Nat):Int) (nth m k)).use (Zd ?_);refine ZX ?_ ?_<;>intro h6
            ·grind [Vj,Wd]
            ·exact ⟨k+1,⟨Za,Y8 hno h6⟩,Za,wk⟩
           grind [Ko,QQ,Wd]
deriving instance DecidableEq for Vis
theorem DS {v w:Vis} :v=w↔v.order=w.order/\v.drp=w.drp:=by cases v;cases w;simp
def Hs (f:Vis->Bool) (l:List Vis):Int:=match l.findIdx? f with | some i=>(i:Int) | none=> -1
def vIx (l:List Vis) (v:Vis):Int:=Hs (fun w=>decide (v=w)) l
theorem I2 {f:Vis->Bool} {l:List Vis} {k:Nat} (hk:k<l.length) (h:f (nth l k)=true) (hno: ∀j,j<k->f (nth l j)=false):Hs f l=(k:Int):=by
 have:l.findIdx? f=some k:=by
  grind [VO,Zj]
 simp [Hs,this]
theorem Pf {f:Vis->Bool} {l:List Vis} (hno: ∀j,j<l.length->f (nth l j)=false):Hs f l= -1:=by
 have:l.findIdx? f=none:=by
  rw [EA];intro x hx;obtain ⟨j,hj,rfl⟩:=ZO.1 hx
  grind [Zj]
 simp [Hs,this]
theorem Pe {f:Vis->Bool} {l:List Vis} :decide (0<=Hs f l)=l.any f:=by
 grind [Hs]
theorem gN {f:Vis->Bool} {l:List Vis} :Hs f l<l.length/\ -1<=Hs f l:=by
 grind [Hs,VO]
theorem R8 (l:List Vis) (c:Bool) (v:Vis) (hl:l.length<=1048576):PC 252 [.p (.list c (l.map Z5)),.p (Z5 v)] (.int .i64 (vIx l v)):=by
 refine Zc Tryz.func252 rfl ZbE ?_;simp (disch:=omega) only [Tryz.f252,go_sem,seval];refine Zl [0,3,7] (fun k:Nat=> [(8,.p (.int .i64 k))]) (fun _=> [.cells [.p (.int .i64 v.order),.p (.bool v.drp)]]) (fun k=>k<=l.length/\ ∀j,j<k->decide (v=nth l j)=false) (fun k=>l.length-k) 0 Zb (Weak.mk ?_) ?_
 ·simp (disch:=omega) only [go_sem,seval,↓reduceIte]
 ·rintro k ⟨hk,hno⟩;refine Zd ?_;refine cD ?_ ?_<;>intro h<;>simp (disch:=omega) only [Sh.out h,go_sem,seval,↓reduceIte]
  ·have hk2:k<l.length:=Za
   refine Xd (Zd ?_);refine cD ?_ ?_<;>intro h2<;>simp (disch:=omega) only [Sh.out h2,go_sem,seval,↓reduceIte]
   ·grind [DS,vIx,I2]
   ·have: ¬v=nth l k:=by grind
    exact ⟨k+1,⟨Za,Zp.2 ⟨hno,by grind⟩⟩,Za,wk⟩
  grind [vIx,Pf]
theorem CO (l:List Vis) (c:Bool) (v:Vis) (hl:l.length<=1048576):PC 218 [.p (.list c (l.map Z5)),.p (Z5 v)] (.int .i64 (vIx l v)):=by
 refine Zc Tryz.func218 rfl Za8 ?_;simp (disch:=omega) only [Tryz.f218,go_sem,seval];refine (R8 l c v hl).use ?_;simp (disch:=omega) only [go_sem,seval]
theorem IZ (l:List Vis) (c:Bool) (v:Vis) (hl:l.length<=1048576):PC 259 [.p (.list c (l.map Z5)),.p (Z5 v)] (.bool (decide (0<=vIx l v))):=by
 refine Zc Tryz.func259 rfl ZbL ?_;simp (disch:=omega) only [Tryz.f259,go_sem,seval];refine (R8 l c v hl).use ?_;simp (disch:=omega) only [go_sem,seval]
theorem tO (l:List Ord) (c:Bool) (n:Int) (hl:l.length<=1048576):PC 163 [.p (.list c (l.map eOrd)),.p (.int .i64 n)] (.bool (decide (0<=n/\n<l.length))):=by
 refine Zc Tryz.func163 rfl iX ?_;simp (disch:=omega) only [Tryz.f163,go_sem,seval];refine gT ?_ ?_<;>intro h<;>simp (disch:=omega) only [Sh.out h,go_sem,seval,↓reduceIte]
 all_goals (try simp [h])
def ZU (l:List Ord) (i:Nat):List Vis:=(if 0<=(nth l i).pick.place then [⟨i,false⟩] else [])++(if 0<=(nth l i).drp.place then [⟨i,true⟩] else [])
theorem WD (l:List Ord) (i:Nat):(ZU l i).length<=2:=by grind [ZU]
theorem Ya {l:List Ord} {i:Nat} {v:Vis} (h:v∈ZU l i):v.order=i:=by
 grind [ZU]
theorem Rh (l:List Ord) (c:Bool) (i:Nat) (hi:i<l.length) (hl:l.length<=1048576):ACalls Tryz.prog 132 [.p (.list c (l.map eOrd)),.p (.int .i64 (i:Nat))] [] fun x H'=>x= .sl 0 0 (ZU l i).length (ZU l i).length/\H'= [.elems 2 ((ZU l i).map Z5)]:=by
 suffices hh:ACalls Tryz.prog 132 [.p (.list c (l.map eOrd)),.p (.int .i64 (i:Nat))] [] fun x H'=> ∃m:List Vis,m=ZU l i/\x= .sl 0 0 m.length m.length/\H'= [.elems 2 (m.map Z5)] by
  grind
 refine ZG [2] Tryz.func132 rfl zZ ?_;simp (disch:=omega) only [Tryz.f132,go_sem,seval];refine Zo (Weak.ofNil 5 2 (by simp (disch:=omega) only [go_sem,seval]) Zb (Weak.refl _ _ _)) ?_;refine Zh [4] _ _ _ _ (Zd ?_);refine (tO l c i hl).use (Zd ?_)
 have h0:(0:Int)<=(i:Int)/\(i:Int)<(l.length:Int):=Za
 simp (disch:=omega) only [h0,go_sem,seval];refine ZJ [0,1] (fun m:List Vis=> [(5,.sl 0 0 m.length m.length)]) (fun m=> [.elems 2 (m.map Z5)]) (fun m=>m=(if 0<=(nth l i).pick.place then [⟨i,false⟩] else [])) ?_ ?_
 ·refine Zd ?_;refine cD ?_ ?_<;>intro h<;>simp (disch:=omega) only [Sh.out h,go_sem,seval,↓reduceIte]
  ·exact ⟨[⟨i,false⟩],by simp [],wk⟩
  ·exact ⟨[],by simp [],wk⟩
 ·intro m hm
  have hml:m.length<=1:=by grind
  refine Zh [] _ _ _ _ (Zd ?_);refine cD ?_ ?_<;>intro h<;>simp (disch:=omega) only [Sh.out h,go_sem,seval,↓reduceIte]
  ·exact ⟨m++ [⟨i,true⟩],by simp_all [ZU],0,by simp (disch:=omega) only [go_sem,seval]⟩
  ·exact ⟨m,by simp_all [ZU],0,by simp (disch:=omega) only [go_sem,seval]⟩
theorem visits_c (l:List Ord) (c:Bool) (i:Nat) (hi:i<l.length) (hl:l.length<=1048576):PC 132 [.p (.list c (l.map eOrd)),.p (.int .i64 (i:Nat))] (.list false ((ZU l i).map Z5)) :=
 (Rh l c i hi hl).frozen Zb
def K8 (l:List Vis):Bool:=(List.range l.length).any fun i=>decide (0<=vIx (l.take i) (nth l i))
theorem tT (l:List Vis) (c:Bool) (hl:l.length<=1048576):PC 237 [.p (.list c (l.map Z5))] (.bool (K8 l)):=by
 refine Zc Tryz.func237 rfl Zbq ?_;simp (disch:=omega) only [Tryz.f237,go_sem,seval];refine Zl [0,5,6] (fun k:Nat=> [(7,.p (.int .i64 k))]) (fun _=> []) (fun k=>k<=l.length/\ ∀j,j<k->decide (0<=vIx (l.take j) (nth l j))=false) (fun k=>l.length-k) 0 Zb (Weak.mk ?_) ?_
 ·simp (disch:=omega) only [go_sem,seval,↓reduceIte]
 ·rintro k ⟨hk,hno⟩;refine Zd ?_;refine cD ?_ ?_<;>intro h<;>simp (disch:=omega) only [Sh.out h,go_sem,seval,↓reduceIte]
  ·have hk2:k<l.length:=Za
   refine Xd (Zd ?_);refine Zn (CO (l.take k) _ (nth l k) (by simp;omega)) (Zd ?_);refine cD ?_ ?_<;>intro h2<;>simp (disch:=omega) only [Sh.out h2,go_sem,seval,↓reduceIte]
   ·grind [K8]
   ·exact ⟨k+1,⟨Za,Zp.2 ⟨hno,by grind⟩⟩,Za,wk⟩
  grind [K8]
theorem D2 (l:List Vis) (c:Bool) (g:FuncId) (caps:List V) (H:List AM.Obj) (f:Vis->Bool) (hl:l.length<=1048576) (hW:Ox H H.length H H) (hc:Xj H.length caps=true)
  (hg: ∀v∈l,ACalls Tryz.prog g (.p (Z5 v)::caps) H fun x H'=>x= .p (.bool (f v))/\H'=H) :
  ACalls Tryz.prog 258 [.p (.list c (l.map Z5)),.fn (.func g) [] caps] H fun x H'=>x= .p (.int .i64 (Hs f l))/\H'=H:=by
 refine YL Tryz.func258 rfl ZbK (Zh [] _ _ _ _ ?_);simp (disch:=omega) only [Tryz.f258,go_sem,seval];refine Zl [0,1,7] (fun k:Nat=> [(8,.p (.int .i64 k))]) (fun _=>H) (fun k=>k<=l.length/\ ∀j,j<k->f (nth l j)=false) (fun k=>l.length-k) 0 Zb (Weak.mk ?_) ?_
 ·simp (disch:=omega) only [hW,hc,go_sem,seval];simp
 ·rintro k ⟨hk,hno⟩;refine Zd ?_;refine cD ?_ ?_<;>intro h<;>simp (disch:=omega) only [Sh.out h,go_sem,seval,↓reduceIte]
  ·have hk2:k<l.length:=Za
   refine (hg (nth l k) (Zt hk2)).useH (Zd ?_);refine cD ?_ ?_<;>intro h2<;>simp (disch:=omega) only [Sh.out h2,go_sem,seval,↓reduceIte]
   ·grind [I2]
   ·have h3:f (nth l k)=false:=Za
    refine ⟨k+1,⟨Za,Zp.2 ⟨hno,h3⟩⟩,Za,Weak.mk ?_⟩;simp (disch:=omega) only [hW,hc,go_sem,seval];simp
  grind [Pf]
theorem U8 (l:List Vis) (c:Bool) (g:FuncId) (caps:List V) (H:List AM.Obj) (f:Vis->Bool) (hl:l.length<=1048576) (hW:Ox H H.length H H) (hc:Xj H.length caps=true)
  (hg: ∀v∈l,ACalls Tryz.prog g (.p (Z5 v)::caps) H fun x H'=>x= .p (.bool (f v))/\H'=H) :
  ACalls Tryz.prog 234 [.p (.list c (l.map Z5)),.fn (.func g) [] caps] H fun x H'=>x= .p (.bool (l.any f))/\H'=H:=by
 refine YL Tryz.func234 rfl Zbn (Zh [] _ _ _ _ ?_);simp (disch:=omega) only [Tryz.f234,go_sem,seval];refine (D2 l c g caps H f hl hW hc hg).useH (Zd ?_);rw [Pe]
def hasO (l:List Vis) (o:Int):Bool:=l.any fun v=>decide (v.order=o)
theorem zB (v:Vis) (o:Int):ACalls Tryz.prog 260 [.p (Z5 v),.ptr 0 0] [.cells [.p (.int .i64 o)]] fun x H'=>x= .p (.bool (decide (v.order=o)))/\H'= [.cells [.p (.int .i64 o)]]:=by
 refine Ze [] Tryz.func260 rfl ZbM ?_;simp (disch:=omega) only [Tryz.f260,go_sem,seval];exact we
theorem Tv (v:Vis) (o:Int):ACalls Tryz.prog 261 [.p (Z5 v),.ptr 0 0] [.cells [.p (.int .i64 o)]] fun x H'=>x= .p (.bool (decide (v.order=o)))/\H'= [.cells [.p (.int .i64 o)]]:=by
 refine Ze [] Tryz.func261 rfl ZbN ?_;simp (disch:=omega) only [Tryz.f261,go_sem,seval];exact we
theorem C0 (l:List Vis) (c:Bool) (o:Int) (hl:l.length<=1048576):PC 239 [.p (.list c (l.map Z5)),.p (.int .i64 o)] (.bool (hasO l o)):=by
 refine Zc Tryz.func239 rfl Zbs ?_;simp (disch:=omega) only [Tryz.f239,go_sem,seval];refine (U8 l c 260 [.ptr 0 0] [.cells [.p (.int .i64 o)]] (fun v=>decide (v.order=o)) hl (by simp (disch:=omega) only [go_sem,seval]) (by rfl) (fun v _=>zB v o)).useH (Zd ?_);rw [hasO]
def beforeB (l:List Vis) (a b:Int):Bool:=if Hs (fun v=>decide (v.order=b)) l<0 then true else hasO l a&& !hasO (l.drop (Hs (fun v=>decide (v.order=b)) l).toNat) a
theorem N0 (l:List Vis) (c:Bool) (a b:Int) (hl:l.length<=1048576):PC 240 [.p (.list c (l.map Z5)),.p (.int .i64 a),.p (.int .i64 b)] (.bool (beforeB l a b)):=by
 refine Zc Tryz.func240 rfl Zbt ?_;simp (disch:=omega) only [Tryz.f240,go_sem,seval];refine (D2 l c 261 [.ptr 0 0] [.cells [.p (.int .i64 b)]] (fun v=>decide (v.order=b)) hl (by simp (disch:=omega) only [go_sem,seval]) (by rfl) (fun v _=>Tv v b)).useH ?_;have hlt:=gN (f:=fun v=>decide (v.order=b)) (l:=l);refine Zd ?_;refine cD ?_ ?_<;>intro h<;>simp (disch:=omega) only [Sh.out h,go_sem,seval]
 ·rw [beforeB,if_pos h]
 ·refine (C0 l c a hl).use (Zd ?_);generalize hq:Hs (fun v=>decide (v.order=b)) l=q at hlt h ⊢
  cases h2:hasO l a with
  | false =>
   refine Zd ?_
   simp_all [beforeB]
  | true =>
   simp (disch:=omega) only [XX,go_sem,seval];refine (C0 (l.drop q.toNat) _ a (by simp;omega)).use (Zd ?_)
   simp_all [beforeB,if_neg]
def QR (l:List Vis):Int->List Vis->Bool
 | _,[]=>true
 | last,w::r=>decide (last<vIx l w)&&QR l (vIx l w) r
def pairB (os:List Ord) (l:List Vis) (v:Vis):Bool:=decide (0<=vIx (ZU os v.order.toNat) v)&&QR l (-1) (ZU os v.order.toNat)
theorem N2 (x:Inst) (l:List Vis) (c:Bool) (hl:l.length<=1048576) (ho:x.orders.length<=1048576) (hv: ∀v∈l,0<=v.order/\v.order<x.orders.length) :
  PC 238 [.p (Zq x),.p (.list c (l.map Z5))] (.bool (l.all (pairB x.orders l))):=by
 refine Zc Tryz.func238 rfl Zbr ?_;simp (disch:=omega) only [Tryz.f238,go_sem,seval];refine Zl [1,2,12,13] (fun k:Nat=> [(14,.p (.int .i64 k))]) (fun _=> [Zf x]) (fun k=>k<=l.length/\ ∀j,j<k->pairB x.orders l (nth l j)=true) (fun k=>l.length-k) 0 Zb (Weak.mk ?_) ?_
 ·simp (disch:=omega) only [Zf,go_sem,seval]
 ·rintro k ⟨hk,hno⟩;refine YH ?_;refine cD ?_ ?_<;>intro h<;>simp (disch:=omega) only [Sh.out h,go_sem,seval,↓reduceIte]
  ·have hk2:k<l.length:=Za
   obtain ⟨v1,v2⟩:=hv _ (Zt hk2)
   have hbad:pairB x.orders l (nth l k)=false->l.all (pairB x.orders l)=false:=fun h4=>by
    grind [Zt]
   obtain ⟨i,hi⟩: ∃i:Nat,(nth l k).order=(i:Int):=⟨(nth l k).order.toNat,Za⟩
   have hp:pairB x.orders l (nth l k)=(decide (0<=vIx (ZU x.orders i) (nth l k))&&QR l (-1) (ZU x.orders i)):=by rw [pairB,hi];rfl
   rw [hi] at v1 v2;simp (disch:=omega) only [hi,go_sem,seval];refine (visits_c x.orders x.orders_c i Za ho).use (Zd ?_);have hvl:=WD x.orders i;have hcon:=IZ (ZU x.orders i) false (nth l k) Za;rw [RS,hi] at hcon;refine (hcon).use (Zd ?_);refine cD ?_ ?_<;>intro h2<;>simp (disch:=omega) only [Sh.out h2,go_sem,seval]
   ·grind
   ·have h2':0<=vIx (ZU x.orders i) (nth l k):=Za
    generalize hown:ZU x.orders i=own at hvl hp h2' ⊢
    have hp2:pairB x.orders l (nth l k)=QR l (-1) own:=by grind
    refine Zl [1,2,12,13,14,27,28] (fun q:Nat×Int=> [(8,.p (.int .i64 q.2)),(29,.p (.int .i64 q.1))]) (fun _=> [Zf x,.cells [.p (.int .i64 (i:Int)),.p (.bool (nth l k).drp)]]) (fun q=>q.1<=own.length/\QR l (-1) own=QR l q.2 (own.drop q.1)) (fun q=>own.length-q.1) (0,-1) Zb (Weak.mk ?_) ?_
    ·simp (disch:=omega) only [Zf,go_sem,seval]
    ·rintro ⟨j,last⟩ ⟨hj,ha⟩;simp only at hj ha;refine YH ?_;refine ZX ?_ ?_<;>intro h3
     ·have hj2:j<own.length:=Za
      have hd:own.drop j=nth own j::own.drop (j+1):=by rw [VP hj2,Zj hj2]
      rw [hd] at ha;refine (CO l c (nth own j) hl).use (Zd ?_);refine ZX ?_ ?_<;>intro h4
      ·grind [QR]
      ·have h5:last<vIx l (nth own j):=Za
       exact ⟨(j+1,vIx l (nth own j)),⟨Za,by grind [QR]⟩,Za,wk⟩
     ·have hjl:j=own.length:=Za
      subst hjl;exact ⟨k+1,⟨Za,Zp.2 ⟨hno,by grind [QR]⟩⟩,Za,wk⟩
  ·have hkl:k=l.length:=Za
   subst hkl
   have:l.all (pairB x.orders l)=true:=by
    rw [ZD];intro v hv;obtain ⟨j,hj,rfl⟩:=ZO.1 hv
    grind [Zj]
   rw [this]
def Xp (r:Rte):AM.Obj:= .cells [.p (.int .i64 r.typ),.p (.int .i64 r.start),.p (.list r.rests_c (r.rests.map eB)),.p (.list r.visits_c (r.visits.map Z5))]
def Vw (x:Inst) (v:Vis):Bool:= !decide (0<=v.order/\v.order<(x.orders.length:Int))
theorem fJ (x:Inst) (r:Rte) (v:Vis) (ho:x.orders.length<=1048576):ACalls Tryz.prog 235 [.p (Z5 v),.ptr 0 0] [Zf x,Xp r] fun y H'=>y= .p (.bool (Vw x v))/\H'= [Zf x,Xp r]:=by
 refine Ze [] Tryz.func235 rfl Zbo ?_;simp (disch:=omega) only [Tryz.f235,Zf,Xp,go_sem,seval];refine gF ?_ ?_<;>intro h<;>simp (disch:=omega) only [Sh.out h,go_sem,seval,↓reduceIte]
 ·have e:Vw x v=true:=by
   grind [Vw]
  rw [e];exact we
 ·have e:Vw x v=decide ((x.orders.length:Int)<=v.order):=by
   have h0:0<=v.order:=Za
   rw [Ww];simp [Vw,h0]
  rw [e];exact we
theorem fK (x:Inst) (r:Rte) (v:Vis) (ho:x.orders.length<=1048576) (h1:0<=v.order) (h2:v.order<x.orders.length):ACalls Tryz.prog 236 [.p (Z5 v),.ptr 0 0] [Zf x,Xp r] fun y H'=>y= .p (.bool (nth x.orders v.order.toNat).off)/\H'= [Zf x,Xp r]:=by
 have h3:v.order.toNat<x.orders.length:=Za
 refine Ze [] Tryz.func236 rfl Zbp ?_;simp (disch:=omega) only [Tryz.f236,Zf,Xp,go_sem,seval];exact we
def Xf (x:Inst) (l:List Vis):Int :=
 if l.length=0\/l.any (Vw x)=true then 2
 else if (l.any fun v=>(nth x.orders v.order.toNat).off)=true then 9
 else if K8 l=true then 6
 else if l.all (pairB x.orders l)=false then 19
 else if (x.apart.any fun p=>hasO l p.1&&hasO l p.2)=true then 20
 else if (x.before.any fun p=> !beforeB l p.1 p.2)=true then 21
 else 0
theorem K4 {P Q:Prop} (h:Q) (e:Q->P:=by intro h;simp (disch:=omega) only [Zf,Xp,go_sem,seval];exact h):P:=e h
theorem P7 (x:Inst) (r:Rte) (ho:x.orders.length<=1048576) (hl:r.visits.length<=1048576) (hap:x.apart.length<=1048576) (hbe:x.before.length<=1048576) :
  PC 211 [.p (Zq x),.p (Wp r)] (.int .i64 (Xf x r.visits)):=by
 refine Zc Tryz.func211 rfl Za1 ?_;simp (disch:=omega) only [Tryz.f211,go_sem,seval];refine gF ?_ ?_<;>intro h0<;>simp (disch:=omega) only [Sh.out h0,go_sem,seval]
 ·grind [Xf]
 ·have h00: ¬r.visits.length=0:=Za
  refine (U8 r.visits r.visits_c 235 [.ptr 0 0] [Zf x,Xp r] (Vw x) hl (by simp (disch:=omega) only [Zf,Xp,go_sem,seval]) (by rfl) (fun v _=>fJ x r v ho)).useH (K4 ?_);refine cD ?_ ?_<;>intro h1<;>simp (disch:=omega) only [Sh.out h1,go_sem,seval]
  ·simp_all [Xf]
  ·have h1':r.visits.any (Vw x)=false:=Za
   have c1: ¬(r.visits.length=0\/r.visits.any (Vw x)=true):=by grind
   have hin: ∀v∈r.visits,0<=v.order/\v.order<x.orders.length:=fun v hv=>by
    grind [Vw]
   refine (U8 r.visits r.visits_c 236 [.ptr 0 0] [Zf x,Xp r] (fun v=>(nth x.orders v.order.toNat).off) hl (by simp (disch:=omega) only [Zf,Xp,go_sem,seval]) (by rfl) (fun v hv=>fK x r v ho (hin v hv).1 (hin v hv).2)).useH (K4 ?_);refine cD ?_ ?_<;>intro h2<;>simp (disch:=omega) only [Sh.out h2,go_sem,seval]
   ·simp_all [Xf]
   ·refine (tT r.visits r.visits_c hl).use (Zd ?_);refine cD ?_ ?_<;>intro h3<;>simp (disch:=omega) only [Sh.out h3,go_sem,seval,↓reduceIte]
    ·simp_all [Xf,if_neg]
    ·refine (N2 x r.visits r.visits_c hl ho hin).use (Zd ?_);refine cD ?_ ?_<;>intro h4<;>simp (disch:=omega) only [Sh.out h4,go_sem,seval,↓reduceIte]
     ·simp_all [Xf,if_neg]
     ·have h4':r.visits.all (pairB x.orders r.visits)=true:=by grind
      have hc:Xf x r.visits=if (x.apart.any fun p=>hasO r.visits p.1&&hasO r.visits p.2)=true then 20 else if (x.before.any fun p=> !beforeB r.visits p.1 p.2)=true then 21 else 0:=by
       rw [Xf,if_neg c1,if_neg (by grind),if_neg (by grind),if_neg (by grind)]
      clear h4 h4' h3 h2 c1 h1' h1 h0;refine Zl [2,5,33,34] (fun k:Nat=> [(35,.p (.int .i64 k))]) (fun _=> [Zf x,Xp r]) (fun k=>k<=x.apart.length/\ ∀j,j<k->(hasO r.visits (nth x.apart j).1&&hasO r.visits (nth x.apart j).2)=false) (fun k=>x.apart.length-k) 0 Zb (Weak.mk ?_) ?_
      ·simp (disch:=omega) only [Zf,Xp,go_sem,seval]
      ·rintro k ⟨hk,hno⟩;refine K4 ?_;refine cD ?_ ?_<;>intro h<;>simp (disch:=omega) only [Sh.out h,go_sem,seval,↓reduceIte]
       ·have hk2:k<x.apart.length:=Za
        refine (C0 r.visits r.visits_c (nth x.apart k).1 hl).use (Zd ?_);refine Je ?_ ?_<;>intro h2
        ·refine (C0 r.visits r.visits_c (nth x.apart k).2 hl).use (Zd ?_);refine ZX ?_ ?_<;>intro h3
         ·rw [hc,if_pos (Vj hk2 (by grind))]
         ·exact ⟨k+1,⟨Za,Zp.2 ⟨hno,by grind⟩⟩,Za,wk⟩
        ·exact ⟨k+1,⟨Za,Zp.2 ⟨hno,by simp [h2]⟩⟩,Za,wk⟩
       ·have hkl:k=x.apart.length:=Za
        subst hkl;rw [hc,QQ hno];clear hno hk h hc;rw [if_neg Zb];refine Zl [5,51,52] (fun k:Nat=> [(53,.p (.int .i64 k))]) (fun _=> [Zf x,Xp r]) (fun k=>k<=x.before.length/\ ∀j,j<k->(!beforeB r.visits (nth x.before j).1 (nth x.before j).2)=false) (fun k=>x.before.length-k) 0 Zb (Weak.mk ?_) ?_
        ·simp (disch:=omega) only [Zf,Xp,go_sem,seval]
        ·rintro k ⟨hk,hno⟩;refine K4 ?_;refine cD ?_ ?_<;>intro h<;>simp (disch:=omega) only [Sh.out h,go_sem,seval,↓reduceIte]
         ·have hk2:k<x.before.length:=Za
          refine (N0 r.visits r.visits_c (nth x.before k).1 (nth x.before k).2 hl).use (Zd ?_);refine ZX ?_ ?_<;>intro h2
          ·have h3:(!beforeB r.visits (nth x.before k).1 (nth x.before k).2)=true:=Za
           rw [if_pos (Vj hk2 h3)]
          ·have h3:(!beforeB r.visits (nth x.before k).1 (nth x.before k).2)=false:=Za
           exact ⟨k+1,⟨Za,Zp.2 ⟨hno,h3⟩⟩,Za,wk⟩
         grind [QQ]
@[go_sem] theorem ZkM {H:List AM.Obj} {n cs cs'} :DU H n (.tup cs) (.tup cs')=(cs'=cs/\Xj n cs=true):=by simp [DU,cX,refB]
@[go_sem] theorem P0 {a b:V} :Q5 [a,b]= .tup [a,b]:=Zm rfl rfl
theorem YJ {g:FuncId} {args:List V} {a b:PV} {H:List AM.Obj} {K:V->List AM.Obj->Prop} (h:ACalls Tryz.prog g args [] fun x H'=>x= .tup [.p a,.p b]/\H'= []) (k:K (.tup [.p a,.p b]) H) (ha:Xj 0 args=true:=by rfl):ACalls Tryz.prog g args H K :=
 (h.behind ha H).mono fun x H' hq=>by
  obtain ⟨y,H1,⟨rfl,rfl⟩,rfl,rfl⟩:=hq
  grind [shV,shVs]
def Xo (l:List Vis):Nat:=l.foldl (fun s v=>s|||pw v.order.toNat) 0
def G1 (v:Vis):Bool:=decide (0<=v.order/\v.order<=62)
theorem DB {l:List Vis} {k:Nat} (hk:k<l.length):Xo (l.take (k+1))=Xo (l.take k)|||pw (nth l k).order.toNat:=by
 grind [XZ,Xo,Zj]
theorem AH : ∀(k:Nat) {l:List Vis},k<=l.length->(∀v∈l.take k,G1 v=true)->Xo (l.take k)<9223372036854775808
 | 0,l,_,_=>by simp [Xo]
 | k+1,l,hk,h=>by
  have hk2:k<l.length:=Za
  have ih:=AH k (l:=l) Za fun v hv=>h v (List.take_subset_take_left l Za hv);have hv:=h (nth l k) (by rw [Zj hk2];exact ZO.2 ⟨k,by simp;omega,Zb⟩);simp only [G1,Zr] at hv;have h2:pw (nth l k).order.toNat<=pw 62:=Ks Za;have h3:=F9;rw [DB hk2];exact Q1 (n:=63) Za Za
def Q4 (l:List Vis):Int×Int:=if l.all G1=true then (((Xo l:Nat):Int),0) else (0,2)
theorem N1 (r:Rte) (hl:r.visits.length<=1048576):PT 262 [.p (Wp r)] [.p (.int .i64 (Q4 r.visits).1),.p (.int .i64 (Q4 r.visits).2)]:=by
 refine Ze [] Tryz.func262 rfl ZbO ?_;simp (disch:=omega) only [Tryz.f262,go_sem,seval];refine Zl [8,9] (fun k:Nat=> [(4,.p (.int .i64 (Xo (r.visits.take k):Nat))),(10,.p (.int .i64 k))]) (fun _=> [Xp r]) (fun k=>k<=r.visits.length/\ ∀j,j<k->G1 (nth r.visits j)=true) (fun k=>r.visits.length-k) 0 Zb (Weak.mk ?_) ?_
 ·simp (disch:=omega) only [Xp,Xo,Q2,Uz,go_sem,seval]
 ·rintro k ⟨hk,hno⟩
  have hlt:=AH k hk fun v hv=>by
   obtain ⟨j,hj,rfl⟩:=ZO.1 hv
   grind [Zj]
  simp (disch:=omega) only [Xp,go_sem,seval];refine cD ?_ ?_<;>intro h<;>simp (disch:=omega) only [Sh.out h,go_sem,seval,↓reduceIte]
  ·have hk2:k<r.visits.length:=Za
   have hbad:G1 (nth r.visits k)=false->Q4 r.visits=(0,2):=fun h4=>by
    grind [Zt,Q4]
   have hs:=DB hk2
   have hp:(nth r.visits k).order<=62->pw (nth r.visits k).order.toNat<=4611686018427387904:=fun h=>by rw [<- F9];exact Ks Za
   refine gF ?_ ?_<;>intro h1<;>simp (disch:=omega) only [Sh.out h1,go_sem,seval,↓reduceIte]
   ·have e:=hbad (by simp [G1];omega);rw [e];exact we
   ·refine ZX ?_ ?_<;>intro h2
    ·have e:=hbad (by simp [G1];omega);rw [e];exact we
    ·exact ⟨k+1,⟨Za,Zp.2 ⟨hno,by simp [G1];omega⟩⟩,Za,Weak.mk (by simp (disch:=omega) only [hs,go_sem,seval])⟩
  ·have hkl:k=r.visits.length:=Za
   subst hkl
   have:r.visits.all G1=true:=by
    rw [ZD];intro v hv;obtain ⟨j,hj,rfl⟩:=ZO.1 hv
    grind [Zj]
   have e:Q4 r.visits=(((Xo r.visits:Nat):Int),0):=by simp [Q4,this]
   rw [e,XX];exact we
theorem Qe {α:Type} [Inhabited α] {a b:List α} (hl:a.length=b.length) (h: ∀j,j<a.length->nth a j=nth b j):a=b:=by
 grind [Qc,Zj]
def WH (a b:Int):Int:=if a<b then-1 else if b<a then 1 else 0
theorem Sc (a:Int):PC 127 [.p (.int .i64 a)] (.bool false):=by
 refine Zc Tryz.func127 rfl zU ?_;simp (disch:=omega) only [Tryz.f127,go_sem,seval]
 try simp
theorem DZ (a b:Int):PC 92 [.p (.int .i64 a),.p (.int .i64 b)] (.int .i64 (WH a b)):=by
 refine Zc Tryz.func92 rfl Zi6 ?_;simp (disch:=omega) only [Tryz.f92,go_sem,seval];refine (Sc a).use (Zd ?_);refine (Sc b).use (Zd ?_);refine cD ?_ ?_<;>intro h<;>simp (disch:=omega) only [Sh.out h,go_sem,seval]
 ·simp [WH,h]
 ·refine cD ?_ ?_<;>intro h2<;>simp (disch:=omega) only [Sh.out h2,go_sem,seval]
  ·simp [WH,h,h2]
  grind [WH]
def rQ (l:List Int):Int:=(l.find? fun n=>decide (n≠0)).getD 0
theorem ZcE {l:List Int} {k:Nat} (hk:k<l.length) (h:nth l k≠0) (hno: ∀j,j<k->nth l j=0):rQ l=nth l k:=by
 grind [nth,Ey,rQ]
theorem ZcF {l:List Int} (hno: ∀j,j<l.length->nth l j=0):rQ l=0:=by
 have:l.find? (fun n=>decide (n≠0))=none:=by
  rw [JT];intro x hx;obtain ⟨j,hj,rfl⟩:=ZO.1 hx
  grind [Zj]
 grind [rQ]
theorem rR (l:List Int) (c:Bool) (hl:l.length<=100):PC 91 [.p (.list c (l.map eI))] (.int .i64 (rQ l)):=by
 refine Zc Tryz.func91 rfl Zi5 ?_;simp (disch:=omega) only [Tryz.f91,go_sem,seval];refine Zl [3,6,7] (fun k:Nat=> [(8,.p (.int .i64 k))]) (fun _=> []) (fun k=>k<=l.length/\ ∀j,j<k->nth l j=0) (fun k=>l.length-k) 0 Zb (Weak.mk ?_) ?_
 ·simp (disch:=omega) only [go_sem,seval]
 ·rintro k ⟨hk,hno⟩;refine Zd ?_;refine cD ?_ ?_<;>intro h<;>simp (disch:=omega) only [Sh.out h,go_sem,seval,↓reduceIte]
  ·have hk2:k<l.length:=Za
   refine ZX ?_ ?_<;>intro h2
   ·grind [ZcE]
   ·exact ⟨k+1,⟨Za,Zp.2 ⟨hno,Za⟩⟩,Za,wk⟩
  grind [ZcF]
theorem ER (a b:Int):rQ [a,b]=if a=0 then b else a:=by
 grind [rQ]
def dn (v:Vis):Int:=if v.drp=true then 1 else 0
theorem Ns (v:Vis):PC 251 [.p (Z5 v)] (.int .i64 (dn v)):=by
 refine Zc Tryz.func251 rfl ZbD ?_;simp (disch:=omega) only [Tryz.f251,go_sem,seval];refine cD ?_ ?_<;>intro h<;>simp (disch:=omega) only [Sh.out h,go_sem,seval]
 ·simp [dn,h]
 ·simp [dn,h]
def Dl (a b:Vis):Int:=if WH a.order b.order=0 then WH (dn a) (dn b) else WH a.order b.order
theorem TL (a b:Vis):PC 217 [.p (Z5 a),.p (Z5 b)] (.int .i64 (Dl a b)):=by
 refine Zc Tryz.func217 rfl Za7 ?_;simp (disch:=omega) only [Tryz.f217,go_sem,seval];refine Xd (Zd ?_);refine Zn (DZ a.order b.order) (Zd ?_);refine Zn (Ns a) (Zd ?_);refine Zn (Ns b) (Zd ?_);refine Zn (DZ (dn a) (dn b)) (Zd ?_);refine Zn (rR [WH a.order b.order,WH (dn a) (dn b)] false Zb) (Zd ?_);rw [ER,Dl]
def Bo : List Vis->List Vis->Int
 | [],[]=>0
 | [],_::_=> -1
 | _::_,[]=>1
 | a::r,b::s=>if Dl a b=0 then Bo r s else Dl a b
theorem U9 {α:Type} [Inhabited α] {l:List α} {k:Nat} (h:k<l.length):l.drop k=nth l k::l.drop (k+1):=by rw [VP h,Zj h]
theorem GX (a b:List Vis) (c d:Bool) (ha:a.length<=1048576) (hb:b.length<=1048576) :
  PC 216 [.p (.list c (a.map Z5)),.p (.list d (b.map Z5)),.fn (.func 217) [] []] (.int .i64 (Bo a b)):=by
 refine Zc Tryz.func216 rfl Za6 ?_;simp (disch:=omega) only [Tryz.f216,go_sem,seval];refine Zl [0,1,2,11,12] (fun k:Nat=> [(13,.p (.int .i64 k))]) (fun _=> []) (fun k=>k<=a.length/\k<=b.length/\Bo a b=Bo (a.drop k) (b.drop k)) (fun k=>a.length-k) 0 Zb (Weak.mk ?_) ?_
 ·simp (disch:=omega) only [go_sem,seval,↓reduceIte]
 ·rintro k ⟨hk,hkb,hle⟩;refine Zd ?_;refine cD ?_ ?_<;>intro h<;>simp (disch:=omega) only [Sh.out h,go_sem,seval,↓reduceIte]
  ·have hk2:k<a.length:=Za
   rw [U9 hk2] at hle;refine cD ?_ ?_<;>intro h2<;>simp (disch:=omega) only [Sh.out h2,go_sem,seval,↓reduceIte]
   ·have:b.drop k= []:=Cn Za;rw [hle,this];rfl
   ·have hk3:k<b.length:=Za
    rw [U9 hk3] at hle;refine (TL (nth a k) (nth b k)).use (Zd ?_);refine cD ?_ ?_<;>intro h3<;>simp (disch:=omega) only [Sh.out h3,go_sem,seval,↓reduceIte]
    ·simp_all [Bo]
    ·have h4:Dl (nth a k) (nth b k)=0:=Za
     exact ⟨k+1,⟨Za,Za,by simp_all [Bo]⟩,Za,wk⟩
  ·have hkl:k=a.length:=Za
   subst hkl;rw [Ux] at hle;refine cD ?_ ?_<;>intro h2<;>simp (disch:=omega) only [Sh.out h2,go_sem,seval]
   ·rw [U9 Za] at hle;rw [hle];rfl
   ·have:b.drop a.length= []:=Cn Za;rw [hle,this];rfl
theorem bT (a b:List Vis) (c d:Bool) (ha:a.length<=1048576) (hb:b.length<=1048576):PC 196 [.p (.list c (a.map Z5)),.p (.list d (b.map Z5))] (.bool (decide (Bo a b<0))):=by
 refine Zc Tryz.func196 rfl ZaQ ?_;simp (disch:=omega) only [Tryz.f196,go_sem,seval];refine (GX a b c d ha hb).use ?_;simp (disch:=omega) only [go_sem,seval]
def Kx (l:List Vis) (v:Vis):List Vis->Bool
 | []=>true
 | w::r=>if w=v then true else decide (0<=vIx l w)&&Kx l v r
def V4 (l own:List Vis):Bool:=own.all fun w=>decide (0<=vIx l w)
def KB (os:List Ord) (l:List Vis) (o:Int) (p:Int×Int):Bool:=decide (p.2≠o)||V4 l (ZU os p.1.toNat)
def YO (x:Inst) (l:List Vis) (v:Vis):Bool:=decide (vIx l v<0)&&Kx l v (ZU x.orders v.order.toNat)&&x.before.all (KB x.orders l v.order)
def QM (v:Vis):AM.Obj:= .cells [.p (.int .i64 v.order),.p (.bool v.drp)]
theorem mY {l:List Vis} {v:Vis} : -1<=vIx l v/\vIx l v<l.length:=by
 simp_all [gN,vIx]
theorem P8 (x:Inst) (l:List Vis) (c:Bool) (v:Vis) (hl:l.length<=1048576) (ho:x.orders.length<=1048576) (hbl:x.before.length<=1048576) (hv:0<=v.order/\v.order<x.orders.length) (hb: ∀p∈x.before,0<=p.1/\p.1<x.orders.length) :
  PC 197 [.p (Zq x),.p (.list c (l.map Z5)),.p (Z5 v)] (.bool (YO x l v)):=by
 refine Vh [3] Tryz.func197 rfl ZaR ?_;simp (disch:=omega) only [Tryz.f197,go_sem,seval];refine (CO l c v hl).use (Zd ?_);refine cD ?_ ?_<;>intro h<;>simp (disch:=omega) only [Sh.out h,go_sem,seval]
 ·grind [YO]
 ·have h1:vIx l v<0:=Za
  obtain ⟨i,hi⟩: ∃i:Nat,v.order=(i:Int):=⟨v.order.toNat,Za⟩
  have hr:YO x l v=(Kx l v (ZU x.orders i)&&x.before.all (KB x.orders l v.order)):=by
   grind [YO]
  have hvi:=visits_c x.orders x.orders_c i Za ho;rw [<- hi] at hvi;refine ZJ [1,3,5] (fun _:Unit=> []) (fun _=> [Zf x,QM v]) (fun _=>Kx l v (ZU x.orders i)=true) ?_ ?_
  ·refine Zd ?_;refine (hvi).use (Zd ?_);have hvl:=WD x.orders i;generalize hown:ZU x.orders i=own at hvl hr ⊢;refine Zl [1,3,5,21,22] (fun k:Nat=> [(23,.p (.int .i64 k))]) (fun _=> [Zf x,QM v]) (fun k=>k<=own.length/\Kx l v own=Kx l v (own.drop k)) (fun k=>own.length-k) 0 Zb (Weak.mk ?_) ?_
   ·simp (disch:=omega) only [Zf,QM,go_sem,seval]
   ·rintro k ⟨hk,hp⟩;simp (disch:=omega) only [Zf,QM,go_sem,seval];refine ZX ?_ ?_<;>intro h2
    ·have hk2:k<own.length:=Za
     rw [U9 hk2] at hp;refine ZX ?_ ?_<;>intro h3
     ·have h4:nth own k=v:=by grind [DS]
      exact ⟨(),by simp_all [Kx],wk⟩
     ·have h4: ¬nth own k=v:=by grind
      refine (CO l c (nth own k) hl).use (Zd ?_);refine ZX ?_ ?_<;>intro h5
      ·have h6: ¬ 0<=vIx l (nth own k):=Za
       simp_all [Kx]
      ·have h6:0<=vIx l (nth own k):=Za
       exact ⟨k+1,⟨Za,by simp_all [Kx]⟩,Za,wk⟩
    ·have hkl:k=own.length:=Za
     subst hkl;exact ⟨(),by rw [hp,Ux];rfl,wk⟩
  ·rintro _ hpre;rw [hpre,Vt] at hr;refine Zh [] _ _ _ _ ?_;simp (disch:=omega) only [Zf,QM,go_sem,seval];refine Zl [1,3,5,36,37] (fun k:Nat=> [(38,.p (.int .i64 k))]) (fun _=> [Zf x,QM v]) (fun k=>k<=x.before.length/\ ∀j,j<k->KB x.orders l v.order (nth x.before j)=true) (fun k=>x.before.length-k) 0 Zb (Weak.mk ?_) ?_
   ·simp (disch:=omega) only [Zf,QM,go_sem,seval]
   ·rintro k ⟨hk,hno⟩;simp (disch:=omega) only [Zf,QM,go_sem,seval];refine cD ?_ ?_<;>intro h2<;>simp (disch:=omega) only [Sh.out h2,go_sem,seval,↓reduceIte]
    ·have hk2:k<x.before.length:=Za
     have hbk:=hb _ (Zt hk2)
     have hbad:KB x.orders l v.order (nth x.before k)=false->YO x l v=false:=fun h4=>by
      grind [Zt]
     refine ZX ?_ ?_<;>intro h3
     ·exact ⟨k+1,⟨Za,Zp.2 ⟨hno,by simp [KB,h3]⟩⟩,Za,wk⟩
     ·obtain ⟨a,hao⟩: ∃a:Nat,(nth x.before k).1=(a:Int):=⟨(nth x.before k).1.toNat,Za⟩;have hva:=visits_c x.orders x.orders_c a Za ho;rw [<- hao] at hva
      have h3':(nth x.before k).2=v.order:=Za
      have hbe:KB x.orders l v.order (nth x.before k)=V4 l (ZU x.orders a):=by grind [KB]
      refine (hva).use (Zd ?_);have hvl:=WD x.orders a;generalize hown:ZU x.orders a=own at hvl hbe ⊢;refine Zl [1,3,5,36,37,38,51,52] (fun k:Nat=> [(53,.p (.int .i64 k))]) (fun _=> [Zf x,QM v,.cells [.p (.int .i64 (nth x.before k).1),.p (.int .i64 (nth x.before k).2)]]) (fun q=>q<=own.length/\ ∀j,j<q->decide (0<=vIx l (nth own j))=true) (fun k=>own.length-k) 0 Zb (Weak.mk ?_) ?_
      ·simp (disch:=omega) only [Zf,QM,go_sem,seval]
      ·rintro q ⟨hq,hnq⟩;simp (disch:=omega) only [Zf,QM,go_sem,seval];refine ZX ?_ ?_<;>intro h4
       ·have hq2:q<own.length:=Za
        refine (CO l c (nth own q) hl).use (Zd ?_);refine ZX ?_ ?_<;>intro h5
        ·grind [V4,Zt]
        ·exact ⟨q+1,⟨Za,Zp.2 ⟨hnq,by simp;omega⟩⟩,Za,wk⟩
       ·have hql:q=own.length:=Za
        subst hql
        have:V4 l own=true:=by
         rw [V4,ZD];intro w hw;obtain ⟨j,hj,rfl⟩:=ZO.1 hw
         grind [Zj]
        exact ⟨k+1,⟨Za,Zp.2 ⟨hno,by grind⟩⟩,Za,wk⟩
    ·have hkl:k=x.before.length:=Za
     subst hkl
     have:x.before.all (KB x.orders l v.order)=true:=by
      rw [ZD];intro w hw;obtain ⟨j,hj,rfl⟩:=ZO.1 hw
      grind [Zj]
     rw [hr,this]
def Ud (x:Inst) (S:Nat) (l:List Vis) (i:Nat):List Vis:=if S.testBit i=true/\(nth x.orders i).off=false then (ZU x.orders i).filter (YO x l) else []
def nextU (x:Inst) (S:Nat) (l:List Vis) (k:Nat):List Vis:=(List.range k).flatMap (Ud x S l)
theorem Br (x S l k):nextU x S l (k+1)=nextU x S l k++Ud x S l k:=by simp [nextU,X8]
theorem aH (x S l i):(Ud x S l i).length<=2:=by
 grind [Ud,WD]
theorem Jq (x S l): ∀k,(nextU x S l k).length<=2*k
 | 0=>by simp [nextU]
 | k+1=>by
  have h1:=Jq x S l k;have h2:=aH x S l k;rw [Br,Zz];omega
theorem bU (x:Inst) (S:Nat) (l:List Vis) (c:Bool) (hS:S<9223372036854775808) (hl:l.length<=1048576) (ho:x.orders.length<=60) (hbl:x.before.length<=1048576) (hb: ∀p∈x.before,0<=p.1/\p.1<x.orders.length) :
  PC 167 [.p (Zq x),.p (.int .i64 (S:Nat)),.p (.list c (l.map Z5))] (.list false ((nextU x S l x.orders.length).map Z5)):=by
 refine ACalls.frozen (S:=2) (n:=(nextU x S l x.orders.length).length) Zb ?_
 suffices hh:ACalls Tryz.prog 167 [.p (Zq x),.p (.int .i64 (S:Nat)),.p (.list c (l.map Z5))] [] fun y H'=> ∃m:List Vis,m=nextU x S l x.orders.length/\y= .sl 0 0 m.length m.length/\H'= [.elems 2 (m.map Z5)] by
  grind
 refine ZG [2] Tryz.func167 rfl Zaz ?_;simp (disch:=omega) only [Tryz.f167,go_sem,seval];refine Zo (Weak.ofNil 7 2 (by simp (disch:=omega) only [go_sem,seval]) Zb (Weak.refl _ _ _)) ?_;refine Zh [] _ _ _ _ (Zd ?_);refine Zl [1,2,3,13,14] (fun q:Nat×List Vis=> [(7,.sl 1 0 q.2.length q.2.length),(15,.p (.int .i64 q.1))]) (fun q=> [Zf x,.elems 2 (q.2.map Z5)]) (fun q=>q.1<=x.orders.length/\q.2=nextU x S l q.1) (fun q=>x.orders.length-q.1) (0,[]) ⟨Zb,by simp [nextU]⟩ (Weak.mk ?_) ?_
 ·simp (disch:=omega) only [Zf,go_sem,seval]
 ·rintro ⟨k,m⟩ ⟨hk,hm⟩;simp only at hk hm
  have hml:m.length<=2*k:=by grind [Jq]
  have hsc:=Br x S l k;refine YH ?_;refine cD ?_ ?_<;>intro h<;>simp (disch:=omega) only [Sh.out h,go_sem,seval,↓reduceIte]
  ·have hk2:k<x.orders.length:=Za
   refine IX ?_ ?_<;>intro h62
   ·omega
   refine IX ?_ ?_<;>intro h2
   ·have hbit:S.testBit k=false:=by grind [IQ]
    have e:Ud x S l k= []:=by simp [Ud,hbit]
    exact ⟨(k+1,m),⟨Za,by grind⟩,Za,wk⟩
   ·have hbit:S.testBit k=true:=by
     grind [IQ]
    refine ZX ?_ ?_<;>intro h3
    ·have e:Ud x S l k= []:=by simp [Ud,h3]
     exact ⟨(k+1,m),⟨Za,by grind⟩,Za,wk⟩
    ·have h3':(nth x.orders k).off=false:=Za
     have e:Ud x S l k=(ZU x.orders k).filter (YO x l):=by grind [Ud]
     refine (visits_c x.orders x.orders_c k hk2 Za).use (Zd ?_);have hvl:=WD x.orders k;have hvo: ∀v∈ZU x.orders k,v.order=k:=fun v hv=>Ya hv;generalize hown:ZU x.orders k=own at hvl e hvo ⊢;refine Zl [1,2,3,13,14,15,36,37] (fun q:Nat×List Vis=> [(7,.sl 1 0 q.2.length q.2.length),(38,.p (.int .i64 q.1))]) (fun q=> [Zf x,.elems 2 (q.2.map Z5),YD (nth x.orders k)]) (fun q=>q.1<=own.length/\q.2=m++(own.take q.1).filter (YO x l)) (fun q=>own.length-q.1) (0,m) ⟨Zb,Zb⟩ (Weak.mk ?_) ?_
     ·simp (disch:=omega) only [Zf,YD,h3',go_sem,seval]
     ·rintro ⟨j,m2⟩ ⟨hj,hm2⟩;simp only at hj hm2
      have hm2l:m2.length<=2*k+2:=by
       grind
      simp (disch:=omega) only [Zf,YD,h3',go_sem,seval];refine ZX ?_ ?_<;>intro h4
      ·have hj2:j<own.length:=Za
       have hvj:=hvo _ (Zt hj2)
       have htk:own.take (j+1)=own.take j++ [nth own j]:=by rw [XZ hj2,Zj hj2]
       have hrd:=P8 x l c (nth own j) hl Za hbl Za hb;refine (hrd).use (Zd ?_);refine ZX ?_ ?_<;>intro h5
       ·exact ⟨(j+1,m2++ [nth own j]),⟨Za,by grind⟩,Za,Weak.mk (by simp (disch:=omega) only [h3',go_sem,seval])⟩
       ·exact ⟨(j+1,m2),⟨Za,by grind⟩,Za,Weak.mk (by simp (disch:=omega) only [h3',go_sem,seval])⟩
      ·have hjl:j=own.length:=Za
       subst hjl;exact ⟨(k+1,m2),⟨Za,by grind⟩,Za,wk⟩
  ·have hkn:k=x.orders.length:=Za
   subst hkn;exact ⟨m,hm,1,by simp (disch:=omega) only [go_sem,seval]⟩
theorem yL (l:List Vis) (c:Bool) (hl:l.length<=1048576):PC 170 [.p (.list c (l.map Z5))] (.list true (l.map Z5)):=by
 refine Zc Tryz.func170 rfl ZaC ?_;simp (disch:=omega) only [Tryz.f170,go_sem,seval,↓reduceIte]
@[go_sem] theorem Znb {H:List AM.Obj} {u2:TypeId} {xs:List PV} {y:V} {k:V->List AM.Obj->Prop} {tt} :RW Tryz.prog H 117 u2 (.p (.list true xs)) y (Zu k tt)=Bv ((Th (some (2,16)) xs (YB (Tryz.prog.underlying u2) H y)).map .p) (Zu (fun v=>k v H) ⟨⟩):=Pb Ru
def Zpg (nx:List Vis->List Vis):Nat->List Vis->List (List Vis)->List (List Vis)×Bool
 | 0,l,outs=>(outs++ [l],decide (outs.length+1<=8192))
 | f+1,l,outs=>(nx l).foldl (fun acc v=>if acc.2=true then Zpg nx f (l++ [v]) acc.1 else acc) (outs,true)
def K6 (x:Inst) (S k:Nat):Nat:=((List.range k).map fun i=>if S.testBit i=true then (ZU x.orders i).length else 0).sum
theorem AS (x S k):K6 x S (k+1)=K6 x S k+if S.testBit k=true then (ZU x.orders k).length else 0:=by simp [K6,X8]
theorem C7 (x S): ∀k,K6 x S k<=2*k
 | 0=>by simp [K6]
 | k+1=>by
  have h1:=C7 x S k;have h2:=WD x.orders k;rw [AS]
  split<;>omega
def nHas (S:Nat) (i:Int):Bool:=decide (0<=i/\i<=62)&&S.testBit i.toNat
theorem Nq {S i:Nat} (h:i<=62):nHas S (i:Int)=S.testBit i:=by
 grind [nHas]
theorem Jt (S:Nat) (i:Int) (hS:S<9223372036854775808):PC 187 [.p (.int .i64 (S:Nat)),.p (.int .i64 i)] (.bool (nHas S i)):=by
 refine Zc Tryz.func187 rfl ZaI ?_;simp (disch:=omega) only [Tryz.f187,go_sem,seval];refine gT ?_ ?_<;>intro h<;>simp (disch:=omega) only [Sh.out h,go_sem,seval,↓reduceIte]
 ·refine gT ?_ ?_<;>intro h1<;>simp (disch:=omega) only [Sh.out h1,go_sem,seval,↓reduceIte]
  ·refine gT ?_ ?_<;>intro h2<;>simp (disch:=omega) only [Sh.out h2,go_sem,seval,↓reduceIte]
   ·have e:((S / pw i.toNat:Nat):Int).tmod 2=((S / pw i.toNat%2:Nat):Int):=by rfl
    rw [e];have h3:(((S / pw i.toNat%2:Nat):Int)=1)=(S.testBit i.toNat=true):=IR
    simp_all [nHas]
   ·simp [nHas,h2]
  ·simp [nHas,h1]
 ·omega
theorem NX (x:Inst) (i:Nat) (hi:i<x.orders.length) (hl:x.orders.length<=1048576) (hpl: ∀o∈x.orders,-1<=o.pick.place/\ -1<=o.drp.place):ACalls Tryz.prog 189 [.p (Zq x),.p (.int .i64 (i:Nat))] [] fun y H'=>y= .sl 0 0 (ZU x.orders i).length (ZU x.orders i).length/\H'= [.elems 2 ((ZU x.orders i).map Z5)]:=by
 suffices hh:ACalls Tryz.prog 189 [.p (Zq x),.p (.int .i64 (i:Nat))] [] fun y H'=> ∃m:List Vis,m=ZU x.orders i/\y= .sl 0 0 m.length m.length/\H'= [.elems 2 (m.map Z5)] by
  grind
 obtain ⟨h1,h2⟩:=hpl _ (Zt hi);refine ZG [2] Tryz.func189 rfl ZaK ?_;simp (disch:=omega) only [Tryz.f189,go_sem,seval];refine Zo (Weak.ofNil 5 2 (by simp (disch:=omega) only [go_sem,seval]) Zb (Weak.refl _ _ _)) ?_;refine ZJ [1,2] (fun m:List Vis=> [(5,.sl 1 0 m.length m.length)]) (fun m=> [Zf x,.elems 2 (m.map Z5)]) (fun m=>m=(if 0<=(nth x.orders i).pick.place then [⟨i,false⟩] else [])) ?_ ?_
 ·refine Zd ?_;refine ZX ?_ ?_<;>intro h
  ·exact ⟨[⟨i,false⟩],by grind,Weak.mk (by simp (disch:=omega) only [Zf,go_sem,seval])⟩
  ·exact ⟨[],by grind,Weak.mk (by simp (disch:=omega) only [Zf,go_sem,seval])⟩
 ·intro m hm
  have hml:m.length<=1:=by grind
  refine Zh [] _ _ _ _ (YH ?_);refine cD ?_ ?_<;>intro h<;>simp (disch:=omega) only [Sh.out h,go_sem,seval,↓reduceIte]
  ·exact ⟨m++ [⟨i,true⟩],by rw [ZU,hm,if_pos (c:=0<=(nth x.orders i).drp.place) Za],1,by simp (disch:=omega) only [go_sem,seval]⟩
  ·exact ⟨m,by simp_all [ZU],1,by simp (disch:=omega) only [go_sem,seval]⟩
theorem DJ (x:Inst) (i:Nat) (hi:i<x.orders.length) (hl:x.orders.length<=1048576) (hpl: ∀o∈x.orders,-1<=o.pick.place/\ -1<=o.drp.place):PC 189 [.p (Zq x),.p (.int .i64 (i:Nat))] (.list false ((ZU x.orders i).map Z5)) :=
 (NX x i hi hl hpl).frozen Zb
theorem Qm (l:List Vis) (c:Bool) (v:Vis) (hl:l.length<=1048576):PC 190 [.p (.list c (l.map Z5)),.p (Z5 v)] (.int .i64 (vIx l v)):=by
 refine Zc Tryz.func190 rfl ZaL ?_;simp (disch:=omega) only [Tryz.f190,go_sem,seval];refine Zl [0,3] (fun k:Nat=> [(5,.p (.int .i64 k))]) (fun _=> [QM v]) (fun k=>k<=l.length/\ ∀j,j<k->decide (v=nth l j)=false) (fun k=>l.length-k) 0 Zb (Weak.mk ?_) ?_
 ·simp (disch:=omega) only [QM,go_sem,seval,↓reduceIte]
 ·rintro k ⟨hk,hno⟩;simp (disch:=omega) only [QM,go_sem,seval];refine cD ?_ ?_<;>intro h<;>simp (disch:=omega) only [Sh.out h,go_sem,seval,↓reduceIte]
  ·have hk2:k<l.length:=Za
   refine Xd (Zd ?_);refine cD ?_ ?_<;>intro h2<;>simp (disch:=omega) only [Sh.out h2,go_sem,seval,↓reduceIte]
   ·have:v=nth l k:=Eq.symm (by grind [DS])
    grind [vIx,I2]
   ·have: ¬v=nth l k:=fun e=>by grind
    exact ⟨k+1,⟨Za,Zp.2 ⟨hno,by grind⟩⟩,Za,wk⟩
  grind [vIx,Pf]
theorem D5 (l s:List Vis) (c d:Bool) (hl:l.length<=1048576) (hs:s.length<=1048576):PC 204 [.p (.list c (l.map Z5)),.p (.list d (s.map Z5))] (.bool (V4 l s)):=by
 refine Zc Tryz.func204 rfl ZaV ?_;simp (disch:=omega) only [Tryz.f204,go_sem,seval];refine Zl [0,1] (fun k:Nat=> [(5,.p (.int .i64 k))]) (fun _=> []) (fun k=>k<=s.length/\ ∀j,j<k->decide (0<=vIx l (nth s j))=true) (fun k=>s.length-k) 0 Zb (Weak.mk ?_) ?_
 ·simp (disch:=omega) only [go_sem,seval,↓reduceIte]
 ·rintro k ⟨hk,hno⟩;refine Zd ?_;refine cD ?_ ?_<;>intro h<;>simp (disch:=omega) only [Sh.out h,go_sem,seval,↓reduceIte]
  ·have hk2:k<s.length:=Za
   refine (Qm l c (nth s k) hl).use (Zd ?_);refine cD ?_ ?_<;>intro h2<;>simp (disch:=omega) only [Sh.out h2,go_sem,seval,↓reduceIte]
   ·grind [V4,Zt]
   ·exact ⟨k+1,⟨Za,Zp.2 ⟨hno,by simp;omega⟩⟩,Za,wk⟩
  ·have hkl:k=s.length:=Za
   subst hkl
   have:V4 l s=true:=by
    rw [V4,ZD];intro w hw;obtain ⟨j,hj,rfl⟩:=ZO.1 hw
    grind [Zj]
   rw [this]
theorem lU (a b:Vis):PC 210 [.p (Z5 a),.p (Z5 b)] (.bool (decide (Dl a b<0))):=by
 refine Zc Tryz.func210 rfl Za0 ?_;simp (disch:=omega) only [Tryz.f210,go_sem,seval]
 repeat' (first | (refine gT ?_ ?_<;>intro hq<;>simp (disch:=omega) only [Sh.out hq,go_sem,seval,↓reduceIte]) | (refine gF ?_ ?_<;>intro hq<;>simp (disch:=omega) only [Sh.out hq,go_sem,seval,↓reduceIte]) | (refine Qu (fun hq=> ?_) (fun hq=> ?_)<;>(try simp only [Zr,X3,Z2] at hq)<;>simp (disch:=omega) only [Sh.out hq,go_sem,seval]))
 ·simp_all [Dl,WH]
 ·rename_i h1 h2
  have ha:a.drp=false:=by grind
  cases hb:b.drp<;>simp [Dl,WH,dn,h2,ha,hb]
 ·grind [Dl,WH,dn]
 grind [Dl,WH]
theorem Dk {a b:Int} :WH a b=0↔a=b:=by grind [WH]
theorem yQ {a b:Vis} :dn a=dn b↔a.drp=b.drp:=by grind [dn]
theorem Hm {a b:Vis} :Dl a b=0↔a=b:=by
 grind [Dl,DS,Dk,yQ]
theorem sS (a b:List Vis) (c d:Bool) (ha:a.length<=1048576) (hb:b.length<=1048576):PC 192 [.p (.list c (a.map Z5)),.p (.list d (b.map Z5))] (.bool (decide (Bo a b<0))):=by
 refine Zc Tryz.func192 rfl ZaN ?_;simp (disch:=omega) only [Tryz.f192,go_sem,seval];refine Zl [0,1] (fun k:Nat=> [(5,.p (.int .i64 k))]) (fun _=> []) (fun k=>k<=a.length/\k<=b.length/\Bo a b=Bo (a.drop k) (b.drop k)) (fun k=>a.length-k) 0 Zb (Weak.mk ?_) ?_
 ·simp (disch:=omega) only [go_sem,seval,↓reduceIte]
 ·rintro k ⟨hk,hkb,hle⟩;refine Zd ?_;refine gT ?_ ?_<;>intro h<;>simp (disch:=omega) only [Sh.out h,go_sem,seval,↓reduceIte]
  ·refine cD ?_ ?_<;>intro h2<;>simp (disch:=omega) only [Sh.out h2,go_sem,seval,↓reduceIte]
   ·have hk2:k<a.length:=Za
    have hk3:k<b.length:=Za
    rw [U9 hk2,U9 hk3,Bo] at hle;refine Xd (Zd ?_);refine cD ?_ ?_<;>intro h3<;>simp (disch:=omega) only [Sh.out h3,go_sem,seval,↓reduceIte]
    ·have hne:Dl (nth a k) (nth b k)≠0:=fun e=>by
      grind [Hm]
     refine Xd (Zd ?_);refine Zn (lU (nth a k) (nth b k)) (Zd ?_)
     grind
    ·have e2:nth a k=nth b k:=by
      grind [DS]
     exact ⟨k+1,⟨Za,Za,by simp_all [Hm]⟩,Za,wk⟩
   grind [U9,Bo]
  ·have:a.drop k= []:=Cn Za;rw [hle,this]
   cases hb:b.drop k with
   | nil =>
    have:b.length<=k:=List.drop_eq_nil_iff.1 hb;simp [Bo];omega
   | cons x r =>
    have:k<b.length:=by
     grind
    simp [Bo];omega
theorem aU {S n:Nat} (h:S.testBit n=true):S|||pw n=S:=by
 apply Cr
 grind [Kl]
theorem kM {S n:Nat} (h:S.testBit n=false):S|||pw n=S+pw n:=by
 have e:S%2^(n+1)=S%2^n+2^n*(S / 2^n%2):=Nat.mod_pow_succ;rw [Nat.testBit_eq_decide_div_mod_eq] at h
 have h0:S / 2^n%2=0:=by grind
 rw [h0,Nat.mul_zero,VY] at e;have hp:0<2^n:=Nat.two_pow_pos n
 have hs:2^(n+1)=2^n+2^n:=Za
 have r1:S%2^(n+1)<2^n:=Za
 have e1:=Nat.two_pow_add_eq_or_of_lt (i:=n) r1 1;have e2:=Nat.two_pow_add_eq_or_of_lt (i:=n+1) (b:=2^n*1+S%2^(n+1)) Za (S / 2^(n+1));have e3:=Nat.two_pow_add_eq_or_of_lt (i:=n+1) (b:=S%2^(n+1)) Za (S / 2^(n+1));have e4:=Nat.div_add_mod S (2^(n+1));rw [pw]
 grind
theorem Ia (r:Rte) (hl:r.visits.length<=1048576):PT 147 [.p (Wp r)] [.p (.int .i64 (Q4 r.visits).1),.p (.int .i64 (Q4 r.visits).2)]:=by
 refine Ze [] Tryz.func147 rfl Zal ?_;simp (disch:=omega) only [Tryz.f147,go_sem,seval];refine Zl [1] (fun k:Nat=> [(4,.p (.int .i64 (Xo (r.visits.take k):Nat))),(5,.p (.int .i64 k))]) (fun _=> [Xp r]) (fun k=>k<=r.visits.length/\ ∀j,j<k->G1 (nth r.visits j)=true) (fun k=>r.visits.length-k) 0 Zb (Weak.mk ?_) ?_
 ·simp (disch:=omega) only [Xp,Xo,Q2,Uz,go_sem,seval]
 ·rintro k ⟨hk,hno⟩
  have hlt:=AH k hk fun v hv=>by
   obtain ⟨j,hj,rfl⟩:=ZO.1 hv
   grind [Zj]
  simp (disch:=omega) only [Xp,go_sem,seval];refine cD ?_ ?_<;>intro h<;>simp (disch:=omega) only [Sh.out h,go_sem,seval,↓reduceIte]
  ·have hk2:k<r.visits.length:=Za
   have hbad:G1 (nth r.visits k)=false->Q4 r.visits=(0,2):=fun h4=>by
    grind [Zt,Q4]
   have hs:=DB hk2
   have hp:(nth r.visits k).order<=62->pw (nth r.visits k).order.toNat<=4611686018427387904:=fun h=>by rw [<- F9];exact Ks Za
   refine gF ?_ ?_<;>intro h1<;>simp (disch:=omega) only [Sh.out h1,go_sem,seval,↓reduceIte]
   ·have e:=hbad (by simp [G1];omega);rw [e];exact we
   ·refine cD ?_ ?_<;>intro h2<;>simp (disch:=omega) only [Sh.out h2,go_sem,seval]
    ·have e:=hbad (by simp [G1];omega);rw [e];exact we
    ·have h4:=hp Za;refine (Jt (Xo (r.visits.take k)) (nth r.visits k).order hlt).use (Zd ?_)
     have hin:0<=(nth r.visits k).order/\(nth r.visits k).order<=62:=Za
     have hnh:nHas (Xo (r.visits.take k)) (nth r.visits k).order=(Xo (r.visits.take k)).testBit (nth r.visits k).order.toNat:=by simp [nHas,hin]
     rw [hnh];have hno2:=(Zp (p:=fun j=>G1 (nth r.visits j)=true)).2 ⟨hno,by simp [G1];omega⟩
     have hlt2:=AH (k+1) hk2 fun v hv=>by
      obtain ⟨j,hj,rfl⟩:=ZO.1 hv
      grind [Zj]
     refine ZX ?_ ?_<;>intro h5
     ·have h6:(Xo (r.visits.take k)).testBit (nth r.visits k).order.toNat=false:=by grind
      rw [kM h6] at hs;rw [hs] at hlt2;exact ⟨k+1,⟨Za,hno2⟩,Za,Weak.mk (by simp (disch:=omega) only [hs,Int.natCast_add,go_sem,seval])⟩
     ·have h6:(Xo (r.visits.take k)).testBit (nth r.visits k).order.toNat=true:=by grind
      rw [aU h6] at hs;exact ⟨k+1,⟨Za,hno2⟩,Za,Weak.mk (by simp (disch:=omega) only [hs,go_sem,seval])⟩
  ·have hkl:k=r.visits.length:=Za
   subst hkl
   have:r.visits.all G1=true:=by
    rw [ZD];intro v hv;obtain ⟨j,hj,rfl⟩:=ZO.1 hv
    grind [Zj]
   have e:Q4 r.visits=(((Xo r.visits:Nat):Int),0):=by simp [Q4,this]
   rw [e,XX];exact we
def Plc (x:Inst):Prop:= ∀o∈x.orders,-1<=o.pick.place/\ -1<=o.drp.place
theorem tW {l:List Vis} {v w:Vis} (h:vIx l v=vIx l w) (h0:0<=vIx l v):v=w:=by
 unfold vIx Hs at h h0
 cases hv:l.findIdx? (fun u=>decide (v=u)) with
 | none=>grind
 | some i =>
  grind [VO]
theorem Kn (os:List Ord) (i:Nat):ZU os i= []\/ZU os i= [⟨i,false⟩]\/ZU os i= [⟨i,true⟩]\/ZU os i= [⟨i,false⟩,⟨i,true⟩]:=by
 grind [ZU]
theorem kX {l own:List Vis} (ho:own= []\/(∃v,own= [v])\/ ∃v w,own= [v,w]/\v≠w) :
  QR l (-1) own=(V4 l own&& !(decide (own.length=2)&&decide (vIx l (nth own 1)<vIx l (nth own 0)))):=by
 rcases ho with rfl | ⟨v,rfl⟩ | ⟨v,w,rfl,hne⟩
 ·rfl
 ·grind [QR,V4]
 ·have hne2:0<=vIx l v->vIx l v≠vIx l w:=fun h0 h=>hne (tW h h0);have h1:= @mY l v;have h2:= @mY l w;rw [Ww];simp [QR,V4,nth];omega
theorem On (os:List Ord) (i:Nat):ZU os i= []\/(∃v,ZU os i= [v])\/ ∃v w,ZU os i= [v,w]/\v≠w:=by
 grind [Kn]
theorem E9 {α:Type} [Inhabited α] {l:List α} {f:α->Bool} {k:Nat} (hk:k<l.length) (h:f (nth l k)=false):l.all f=false:=by
 grind [Zt]
theorem IB {α:Type} [Inhabited α] {l:List α} {f:α->Bool} (h: ∀j,j<l.length->f (nth l j)=true):l.all f=true:=by
 rw [ZD];intro v hv;obtain ⟨j,hj,rfl⟩:=ZO.1 hv
 grind [Zj]
theorem bP (x:Inst) (l:List Vis) (c:Bool) (hl:l.length<=1048576) (ho:x.orders.length<=1048576) (hp:Plc x) (hv: ∀v∈l,0<=v.order/\v.order<x.orders.length) :
  PC 225 [.p (Zq x),.p (.list c (l.map Z5))] (.bool (l.all (pairB x.orders l))):=by
 refine Zc Tryz.func225 rfl Zbe ?_;simp (disch:=omega) only [Tryz.f225,go_sem,seval];refine Zl [1,2] (fun k:Nat=> [(5,.p (.int .i64 k))]) (fun _=> [Zf x]) (fun k=>k<=l.length/\ ∀j,j<k->pairB x.orders l (nth l j)=true) (fun k=>l.length-k) 0 Zb (Weak.mk ?_) ?_
 ·simp (disch:=omega) only [Zf,go_sem,seval]
 ·rintro k ⟨hk,hno⟩;refine YH ?_;refine cD ?_ ?_<;>intro h<;>simp (disch:=omega) only [Sh.out h,go_sem,seval,↓reduceIte]
  ·have hk2:k<l.length:=Za
   obtain ⟨v1,v2⟩:=hv _ (Zt hk2);obtain ⟨i,hi⟩: ∃i:Nat,(nth l k).order=(i:Int):=⟨(nth l k).order.toNat,Za⟩;rw [hi] at v1 v2
   have hpb:pairB x.orders l (nth l k)=(decide (0<=vIx (ZU x.orders i) (nth l k))&&QR l (-1) (ZU x.orders i)):=by rw [pairB,hi];rfl
   have hown:=On x.orders i;rw [kX hown] at hpb;refine Xd ?_;simp (disch:=omega) only [hi,go_sem,seval];refine Zn (DJ x i Za ho hp) (Zd ?_);have hvl:=WD x.orders i;generalize ZU x.orders i=own at hvl hpb;have hix:=Qm own false (nth l k) Za;rw [RS,hi] at hix;refine Xd ?_;simp (disch:=omega) only [hi,go_sem,seval];refine Zn (hix) (Zd ?_);refine gF ?_ ?_<;>intro h2<;>simp (disch:=omega) only [Sh.out h2,go_sem,seval]
   ·grind [E9]
   ·have h3:0<=vIx own (nth l k):=Za
    have hgo:pairB x.orders l (nth l k)=true-> ∀j,j<k+1->pairB x.orders l (nth l j)=true:=fun e=>Zp.2 ⟨hno,e⟩;refine Zn (D5 l own c false hl Za) (Zd ?_);refine gF ?_ ?_<;>intro h4<;>simp (disch:=omega) only [Sh.out h4,go_sem,seval]
    ·grind [E9]
    ·have h5:V4 l own=true:=by grind
     rw [h5] at hpb;refine Je ?_ ?_<;>intro h6
     ·have h7:own.length=2:=Za
      refine Zn (Qm l c (nth own 0) hl) (Zd ?_);refine Zn (Qm l c (nth own 1) hl) (Zd ?_);refine ZX ?_ ?_<;>intro h8
      ·grind [E9]
      ·exact ⟨k+1,⟨Za,hgo (by grind)⟩,Za,wk⟩
     ·exact ⟨k+1,⟨Za,hgo (by grind)⟩,Za,wk⟩
  grind [IB]
def apB (x:Inst) (S:Nat):Bool:=x.apart.any fun p=>nHas S p.1&&nHas S p.2
theorem lN (x:Inst) (S:Nat) (hS:S<9223372036854775808) (ha:x.apart.length<=1048576):PC 226 [.p (Zq x),.p (.int .i64 (S:Nat))] (.bool (!apB x S)):=by
 refine Zc Tryz.func226 rfl Zbf ?_;simp (disch:=omega) only [Tryz.f226,go_sem,seval];refine Zl [1,2] (fun k:Nat=> [(5,.p (.int .i64 k))]) (fun _=> [Zf x]) (fun k=>k<=x.apart.length/\ ∀j,j<k->(nHas S (nth x.apart j).1&&nHas S (nth x.apart j).2)=false) (fun k=>x.apart.length-k) 0 Zb (Weak.mk ?_) ?_
 ·simp (disch:=omega) only [Zf,go_sem,seval]
 ·rintro k ⟨hk,hno⟩;refine YH ?_;refine cD ?_ ?_<;>intro h<;>simp (disch:=omega) only [Sh.out h,go_sem,seval,↓reduceIte]
  ·have hk2:k<x.apart.length:=Za
   refine (Jt S (nth x.apart k).1 hS).use (Zd ?_);refine Je ?_ ?_<;>intro h2
   ·refine (Jt S (nth x.apart k).2 hS).use (Zd ?_);refine ZX ?_ ?_<;>intro h3
    ·grind [apB,Vj]
    ·exact ⟨k+1,⟨Za,Zp.2 ⟨hno,by grind⟩⟩,Za,wk⟩
   ·exact ⟨k+1,⟨Za,Zp.2 ⟨hno,by rw [h2];rfl⟩⟩,Za,wk⟩
  grind [apB,QQ]
def Kq (l:List Vis) (a b:Int) (j k:Nat):Bool:=decide ((nth l j).order=a)&&decide ((nth l k).order=b)
def QH (S:Nat) (l:List Vis) (p:Int×Int):Bool:= !nHas S p.2||(nHas S p.1&&(List.range l.length).all fun j=>(List.range j).all fun k=> !Kq l p.1 p.2 j k)
theorem bG (x:Inst) (S:Nat) (l:List Vis) (c:Bool) (hS:S<9223372036854775808) (hl:l.length<=1048576) (hb:x.before.length<=1048576):PC 227 [.p (Zq x),.p (.int .i64 (S:Nat)),.p (.list c (l.map Z5))] (.bool (x.before.all (QH S l))):=by
 refine Zc Tryz.func227 rfl Zbg ?_;simp (disch:=omega) only [Tryz.f227,go_sem,seval];refine Zl [1,2,3] (fun k:Nat=> [(7,.p (.int .i64 k))]) (fun _=> [Zf x]) (fun k=>k<=x.before.length/\ ∀j,j<k->QH S l (nth x.before j)=true) (fun k=>x.before.length-k) 0 Zb (Weak.mk ?_) ?_
 ·simp (disch:=omega) only [Zf,go_sem,seval]
 ·rintro i ⟨hi,hno⟩;refine YH ?_;refine cD ?_ ?_<;>intro h<;>simp (disch:=omega) only [Sh.out h,go_sem,seval,↓reduceIte]
  ·have hi2:i<x.before.length:=Za
   have hgo:QH S l (nth x.before i)=true-> ∀j,j<i+1->QH S l (nth x.before j)=true:=fun e=>Zp.2 ⟨hno,e⟩;have hbad:QH S l (nth x.before i)=false->x.before.all (QH S l)=false:=fun e=>E9 hi2 e;have hdef:QH S l (nth x.before i)=(!nHas S (nth x.before i).2||(nHas S (nth x.before i).1&&(List.range l.length).all fun j=>(List.range j).all fun k=> !Kq l (nth x.before i).1 (nth x.before i).2 j k)):=rfl;generalize QH S l (nth x.before i)=R at hgo hbad hdef;generalize nth x.before i=p at hdef ⊢;refine (Jt S p.2 hS).use (Zd ?_)
   refine ZX ?_ ?_<;>intro h2
   ·have h3:nHas S p.2=false:=by grind
    exact ⟨i+1,⟨Za,hgo (by grind)⟩,Za,wk⟩
   ·have h3:nHas S p.2=true:=by grind
    refine (Jt S p.1 hS).use (Zd ?_);refine cD ?_ ?_<;>intro h4<;>simp (disch:=omega) only [Sh.out h4,go_sem,seval]
    ·grind
    ·have h5:nHas S p.1=true:=by grind
     rw [h3,h5] at hdef;simp only [Yn,Bool.false_or,Vt] at hdef;refine Zl [1,2,3,7,8,9] (fun k:Nat=> [(10,.p (.int .i64 k))]) (fun _=> [Zf x]) (fun k=>k<=l.length/\ ∀j,j<k-> ∀q,q<j->Kq l p.1 p.2 j q=false) (fun k=>l.length-k) 0 Zb (Weak.mk ?_) ?_
     ·simp (disch:=omega) only [Zf,go_sem,seval]
     ·rintro j ⟨hj,hnj⟩;refine YH ?_;refine ZX ?_ ?_<;>intro h6
      ·have hj2:j<l.length:=Za
       refine Zl [1,2,3,7,8,9,10] (fun k:Nat=> [(11,.p (.int .i64 k))]) (fun _=> [Zf x]) (fun k=>k<=j/\ ∀q,q<k->Kq l p.1 p.2 j q=false) (fun k=>j-k) 0 Zb (Weak.mk ?_) ?_
       ·simp (disch:=omega) only [Zf,go_sem,seval]
       ·rintro k ⟨hk,hnk⟩;refine YH ?_;refine ZX ?_ ?_<;>intro h7
        ·have hk2:k<j:=Za
         refine Je ?_ ?_<;>intro h8
         ·refine ZX ?_ ?_<;>intro h9
          ·rw [hbad (by
            rw [hdef,List.all_eq_false];refine ⟨j,by grind,?_⟩;rw [Uw,List.all_eq_false]
            exact ⟨k,by grind,by simp [Kq,h8,h9]⟩)]
          ·exact ⟨k+1,⟨Za,Zp.2 ⟨hnk,by simp [Kq,h9]⟩⟩,Za,wk⟩
         ·exact ⟨k+1,⟨Za,Zp.2 ⟨hnk,by simp [Kq,h8]⟩⟩,Za,wk⟩
        ·have hkl:k=j:=Za
         subst hkl;exact ⟨k+1,⟨Za,(Zp (p:=fun j=> ∀q,q<j->Kq l p.1 p.2 j q=false)).2 ⟨hnj,hnk⟩⟩,Za,wk⟩
      ·have hjl:j=l.length:=Za
       subst hjl;refine ⟨i+1,⟨Za,hgo ?_⟩,Za,wk⟩
       grind
  grind [IB]
theorem lW (x:Inst) (i:Nat) (l:List Vis) (c:Bool) (hl:l.length<=1048576) (ho:x.orders.length<=1048576) (hbl:x.before.length<=1048576) (hp:Plc x) (hb: ∀p∈x.before,0<=p.1/\p.1<x.orders.length) (hi:i<=1048576) :
  PC 188 [.p (Zq x),.p (.int .i64 (i:Nat)),.p (.list c (l.map Z5))] (.bool (x.before.all (KB x.orders l (i:Int)))):=by
 refine Zc Tryz.func188 rfl ZaJ ?_;simp (disch:=omega) only [Tryz.f188,go_sem,seval];refine Zl [1,2,3] (fun k:Nat=> [(7,.p (.int .i64 k))]) (fun _=> [Zf x]) (fun k=>k<=x.before.length/\ ∀j,j<k->KB x.orders l (i:Int) (nth x.before j)=true) (fun k=>x.before.length-k) 0 Zb (Weak.mk ?_) ?_
 ·simp (disch:=omega) only [Zf,go_sem,seval]
 ·rintro k ⟨hk,hno⟩;refine YH ?_;refine cD ?_ ?_<;>intro h<;>simp (disch:=omega) only [Sh.out h,go_sem,seval,↓reduceIte]
  ·have hk2:k<x.before.length:=Za
   obtain ⟨b1,b2⟩:=hb _ (Zt hk2);obtain ⟨a,hao⟩: ∃a:Nat,(nth x.before k).1=(a:Int):=⟨(nth x.before k).1.toNat,Za⟩;have hva:=DJ x a Za ho hp;rw [<- hao] at hva
   have hdef:KB x.orders l (i:Int) (nth x.before k)=(decide ((nth x.before k).2≠(i:Int))||V4 l (ZU x.orders a)):=by rw [KB,hao];rfl
   refine Je ?_ ?_<;>intro h2
   ·refine gF ?_ ?_<;>intro h3<;>simp (disch:=omega) only [Sh.out h3,go_sem,seval,↓reduceIte]
    ·omega
    ·refine gF ?_ ?_<;>intro h4<;>simp (disch:=omega) only [Sh.out h4,go_sem,seval,↓reduceIte]
     ·omega
     ·refine (hva).use (Zd ?_);have hvl:=WD x.orders a;refine (D5 l (ZU x.orders a) c false hl Za).use (Zd ?_);refine ZX ?_ ?_<;>intro h5
      ·grind [E9]
      ·have h6:V4 l (ZU x.orders a)=true:=by grind
       exact ⟨k+1,⟨Za,Zp.2 ⟨hno,by grind⟩⟩,Za,wk⟩
   ·exact ⟨k+1,⟨Za,Zp.2 ⟨hno,by grind⟩⟩,Za,wk⟩
  grind [IB]
theorem LO (S:Nat) (i:Int):sHas (S:Int) i=nHas S i:=by
 by_cases h:0<=i/\i<=62
 ·obtain ⟨k,rfl⟩: ∃k:Nat,i=(k:Int):=⟨i.toNat,Za⟩
  grind [WB,Nq]
 ·have h2:nHas S i=false:=by simp only [nHas,h,J0,QB]
  grind [sHas]
theorem FT {S:Nat} {i:Int} :nHas S i=true↔0<=i/\i<=62/\S.testBit i.toNat=true:=by simp [nHas,and_assoc]
theorem OZ {S n i:Nat} (h:S / pw n=0) (hi:S.testBit i=true):i<n:=by
 rcases Wy i n with h2 | h2
 ·exact h2
 ·have h3:S<2^n:=by
   have:=(Nat.div_eq_zero_iff).1 h;rcases this with h4 | h4
   ·grind [Ga]
   ·exact h4
  grind [Uu,Ym,An]
theorem Jp {S:Nat} {a:Int} :a∈XY (S:Int) 63↔ ∃i:Nat,a=(i:Int)/\i<63/\S.testBit i=true:=by
 simp only [XY,XT,J8,ZP]
 constructor
 ·rintro ⟨i,⟨h1,h2⟩,rfl⟩;rw [WB S i Za] at h2
  grind
 ·rintro ⟨i,rfl,h1,h2⟩;exact ⟨i,⟨h1,by grind [WB]⟩,rfl⟩
structure Alw (x:Inst) (S:Nat):Prop where
 off: ∀i,i<x.orders.length->S.testBit i=true->(nth x.orders i).off=false
 apart:apB x S=false
 closed: ∀p∈x.before,nHas S p.2=true->nHas S p.1=true
 acyc: ∀i,i<x.orders.length->S.testBit i=true-> ¬Ch x.before i i
theorem Vp {c:Prop} [Decidable c] {a b:Int} (ha:a≠0):(if c then a else b)=0↔ ¬c/\b=0:=by
 grind
theorem Qw {x:Inst} {S:Nat} (hn:x.orders.length<=60) (hS:S / pw x.orders.length=0) (hv:Val x.orders.length x.before):Wd x.orders x.apart x.before (S:Int)=0↔Alw x S:=by
 have hlt: ∀i,S.testBit i=true->i<x.orders.length:=fun i h=>OZ hS h
 have e0: ¬(S:Int)<0:=Za
 unfold Wd;rw [if_neg e0,Vp Za,Vp Za,Vp Za,Vp Za,Vp Za];simp only [and_true]
 constructor
 ·rintro ⟨_,h2,h3,h4,h5⟩;simp only [Uw] at h2 h3 h4 h5;rw [WS] at h2 h4 h5;refine ⟨fun i hi hb=> ?_,?_,fun p hp hb=> ?_,fun i hi hb hc=> ?_⟩
  ·have:=h2 (i:Int) (Jp.2 ⟨i,rfl,Za,hb⟩)
   grind
  ·grind [apB,LO]
  ·have:=h4 p hp
   simp_all [LO]
  ·have:=h5 (i:Int) (Jp.2 ⟨i,rfl,Za,hb⟩)
   grind [WB,UZ]
 ·rintro ⟨h1,h2,h3,h4⟩;refine ⟨?_,?_,?_,?_,?_⟩
  ·simp only [Uw];rw [WS];intro a ha;obtain ⟨i,rfl,h5,h6⟩:=Jp.1 ha
   grind
  ·simp only [Uw];rw [WS];intro a ha;obtain ⟨i,rfl,h5,h6⟩:=Jp.1 ha
   grind
  ·simp only [LO,Uw];exact h2
  ·simp only [Uw]
   grind [LO]
  ·simp only [Uw];rw [WS];intro a ha;obtain ⟨i,rfl,h5,h6⟩:=Jp.1 ha
   grind [WB,UZ]
theorem Ht {f g:Nat->Bool} {b:Nat} : ∀(l:List Nat),(∀a,f a=true->g a=true)->f b=false->g b=true->b∈l->(l.filter f).length<(l.filter g).length
 | [],_,_,_,h=>by simp at h
 | x::l,hfg,hf,hg,h=>by
  have hle: ∀l:List Nat,(l.filter f).length<=(l.filter g).length:=by
   intro l
   induction l with
   | nil=>simp
   | cons y l ih =>
    grind
  simp only [EH];rcases Z3.1 h with rfl | h
  ·grind
  ·have:=Ht l hfg hf hg h
   grind
theorem Pd {n:Nat} {be:List (Int×Int)} (hv:Val n be) {P:Nat->Prop} (hP: ∀i,P i->i<n/\ ¬Ch be i i) {i:Nat} (hi:P i): ∃i,P i/\ ∀p∈be,p.2=(i:Int)-> ¬P p.1.toNat:=by
 suffices h: ∀(k i:Nat),P i->((List.range n).filter fun a=>(nth (Ko n be) i).testBit a).length<k-> ∃i,P i/\ ∀p∈be,p.2=(i:Int)-> ¬P p.1.toNat from h _ i hi (Nat.lt_succ_self _)
 intro k
 induction k with
 | zero=>omega
 | succ k ih =>
  intro i hi hk
  by_cases h: ∃p∈be,p.2=(i:Int)/\P p.1.toNat
  ·obtain ⟨p,hp,h1,h2⟩:=h;obtain ⟨v1,v2,v3,v4⟩:=hv p hp;have hE:Ed be p.1.toNat i:=⟨p,hp,Za,h1⟩;refine ih p.1.toNat h2 (Uu (Ht (b:=p.1.toNat) _ (fun a ha=> ?_) ?_ ?_ ?_) (by omega:((List.range n).filter fun a=>(nth (Ko n be) i).testBit a).length<=k))
   ·exact (UZ hv a i (hP i hi).1).2 (((UZ hv a _ (hP _ h2).1).1 ha).more hE)
   ·grind [UZ]
   ·exact (UZ hv _ i (hP i hi).1).2 (.one hE)
   grind
  grind
theorem Wk {l:List Vis} {v:Vis} :0<=vIx l v↔v∈l:=by
 grind [Pe,vIx]
theorem Zdl {l:List Vis} {v:Vis} :vIx l v<0↔v ∉ l:=by rw [<- Wk];omega
theorem Te {l own:List Vis} :V4 l own=true↔ ∀w∈own,w∈l:=by
 grind [V4,Wk]
theorem eX {os:List Ord} {l:List Vis} {o:Int} {p:Int×Int} :KB os l o p=true↔(p.2=o-> ∀w∈ZU os p.1.toNat,w∈l):=by
 rw [KB,W8,Te,Zr]
 grind
theorem eY {x:Inst} {l:List Vis} {o:Int} :x.before.all (KB x.orders l o)=true↔ ∀p∈x.before,p.2=o-> ∀w∈ZU x.orders p.1.toNat,w∈l:=by
 simp_all [eX]
def Vne (x:Inst):Prop:= ∀i,i<x.orders.length->ZU x.orders i≠ []
theorem lI {l own:List Vis} (ho:own= []\/(∃v,own= [v])\/ ∃v w,own= [v,w]/\v≠w) {k:Nat} (hk:k<own.length):Kx l (nth own k) own=(decide (k=0)||decide (0<=vIx l (nth own 0))):=by
 rcases ho with rfl | ⟨v,rfl⟩ | ⟨v,w,rfl,hne⟩
 ·simp at hk
 ·grind [Kx,nth]
 ·have:k=0\/k=1:=by grind
  rcases this with rfl | rfl
  ·simp [Kx,nth]
  grind [Kx,nth]
theorem bM (x:Inst) (S:Nat) (l:List Vis) (c:Bool) (hS:S<9223372036854775808) (hl:l.length<=1048576) (ho:x.orders.length<=60) (hbl:x.before.length<=1048576) (hp:Plc x) (hb: ∀p∈x.before,0<=p.1/\p.1<x.orders.length) :
  ACalls Tryz.prog 146 [.p (Zq x),.p (.int .i64 (S:Nat)),.p (.list c (l.map Z5))] [] fun y H'=> ∃m:List Vis,m=nextU x S l x.orders.length/\y= .sl 0 0 m.length m.length/\H'= [.elems 2 (m.map Z5)]:=by
 refine ZG [2] Tryz.func146 rfl Zak ?_;simp (disch:=omega) only [Tryz.f146,go_sem,seval];refine Zo (Weak.ofNil 7 2 (by simp (disch:=omega) only [go_sem,seval]) Zb (Weak.refl _ _ _)) ?_;refine Zh [] _ _ _ _ (Zd ?_);refine Zl [1,2,3] (fun q:Nat×List Vis=> [(7,.sl 1 0 q.2.length q.2.length),(8,.p (.int .i64 q.1))]) (fun q=> [Zf x,.elems 2 (q.2.map Z5)]) (fun q=>q.1<=x.orders.length/\q.2=nextU x S l q.1) (fun q=>x.orders.length-q.1) (0,[]) ⟨Zb,by simp [nextU]⟩ (Weak.mk ?_) ?_
 ·simp (disch:=omega) only [Zf,go_sem,seval]
 ·rintro ⟨i,m⟩ ⟨hi,hm⟩;simp only at hi hm
  have hml:m.length<=2*i:=by grind [Jq]
  have hsc:=Br x S l i;refine YH ?_;refine cD ?_ ?_<;>intro h<;>simp (disch:=omega) only [Sh.out h,go_sem,seval,↓reduceIte]
  ·have hi2:i<x.orders.length:=Za
   have hskip:Ud x S l i= []->(i+1,m).2=nextU x S l (i+1):=fun e=>by grind
   refine (Jt S (i:Int) hS).use (Zd ?_);rw [Nq Za];refine IX ?_ ?_<;>intro h2
   ·have hbit:S.testBit i=false:=by grind
    exact ⟨(i+1,m),⟨Za,hskip (by simp [Ud,hbit])⟩,Za,wk⟩
   ·have hbit:S.testBit i=true:=by grind
    refine IX ?_ ?_<;>intro h3
    ·exact ⟨(i+1,m),⟨Za,hskip (by simp [Ud,h3])⟩,Za,wk⟩
    ·have e:Ud x S l i=(ZU x.orders i).filter (YO x l):=by grind [Ud]
     refine (lW x i l c hl Za hbl hp hb Za).use (Zd ?_);refine ZX ?_ ?_<;>intro h4
     ·have h5:x.before.all (KB x.orders l (i:Int))=false:=by grind
      refine ⟨(i+1,m),⟨Za,hskip ?_⟩,Za,wk⟩
      grind [List.filter_eq_nil_iff,YO,Ya]
     ·have h5:x.before.all (KB x.orders l (i:Int))=true:=by grind
      refine (DJ x i hi2 Za hp).use (Zd ?_);have hvl:=WD x.orders i;have hvo: ∀v∈ZU x.orders i,v.order=i:=fun v hv=>Ya hv;have htwo:=On x.orders i
      have hrd: ∀k,k<(ZU x.orders i).length->YO x l (nth (ZU x.orders i) k)=(decide (vIx l (nth (ZU x.orders i) k)<0)&&(decide (k=0)||decide (0<=vIx l (nth (ZU x.orders i) 0)))):=fun k hk=>by
       simp_all [YO,Zt,lI]
      generalize hown:ZU x.orders i=own at hvl e hvo hrd ⊢;refine Zl [1,2,3,8,9] (fun q:Nat×List Vis=> [(7,.sl 1 0 q.2.length q.2.length),(10,.p (.int .i64 q.1))]) (fun q=> [Zf x,.elems 2 (q.2.map Z5)]) (fun q=>q.1<=own.length/\q.2=m++(own.take q.1).filter (YO x l)) (fun q=>own.length-q.1) (0,m) ⟨Zb,Zb⟩ (Weak.mk ?_) ?_
      ·simp (disch:=omega) only [Zf,go_sem,seval]
      ·rintro ⟨j,m2⟩ ⟨hj,hm2⟩;simp only at hj hm2
       have hm2l:m2.length<=2*i+2:=by
        grind
       refine YH ?_;refine ZX ?_ ?_<;>intro h6
       ·have hj2:j<own.length:=Za
        have htk:own.take (j+1)=own.take j++ [nth own j]:=by rw [XZ hj2,Zj hj2]
        have hr:=hrd j hj2
        have hyes:YO x l (nth own j)=true->((j+1,m2++ [nth own j]):Nat×List Vis).2=m++(own.take (j+1)).filter (YO x l):=fun h7=>by
         grind
        have hno:YO x l (nth own j)=false->((j+1,m2):Nat×List Vis).2=m++(own.take (j+1)).filter (YO x l):=fun h7=>by
         grind
        refine (Qm l c (nth own j) hl).use (Zd ?_);refine Je ?_ ?_<;>intro h7
        ·refine IX ?_ ?_<;>intro h8
         ·exact ⟨(j+1,m2++ [nth own j]),⟨Za,hyes (by grind)⟩,Za,wk⟩
         ·refine (Qm l c (nth own 0) hl).use (Zd ?_);refine ZX ?_ ?_<;>intro h9
          ·exact ⟨(j+1,m2++ [nth own j]),⟨Za,hyes (by grind)⟩,Za,wk⟩
          ·exact ⟨(j+1,m2),⟨Za,hno (by grind)⟩,Za,wk⟩
        ·exact ⟨(j+1,m2),⟨Za,hno (by grind)⟩,Za,wk⟩
       ·have hjl:j=own.length:=Za
        subst hjl;exact ⟨(i+1,m2),⟨Za,by grind⟩,Za,wk⟩
  ·have hkn:i=x.orders.length:=Za
   subst hkn;exact ⟨m,hm,1,by simp (disch:=omega) only [go_sem,seval]⟩
theorem SG (x:Inst) (S:Nat) (l:List Vis) (c:Bool) (hS:S<9223372036854775808) (hl:l.length<=1048576) (ho:x.orders.length<=60) (hbl:x.before.length<=1048576) (hp:Plc x) (hb: ∀p∈x.before,0<=p.1/\p.1<x.orders.length) :
  PC 146 [.p (Zq x),.p (.int .i64 (S:Nat)),.p (.list c (l.map Z5))] (.list false ((nextU x S l x.orders.length).map Z5)) :=
 ACalls.frozen (S:=2) (n:=(nextU x S l x.orders.length).length) Zb ((bM x S l c hS hl ho hbl hp hb).mono fun y H' ⟨m,hm,h1,h2⟩=>by grind)
inductive Gr (x:Inst) (S:Nat):List Vis->Prop where
 | nil:Gr x S []
 | snoc {l:List Vis} {v:Vis} (h:Gr x S l) (hv:v∈nextU x S l x.orders.length):Gr x S (l++ [v])
theorem Rg (os:List Ord) (i:Nat):(ZU os i).Nodup:=by
 grind [Kn]
theorem lH {os:List Ord} {i:Nat} {l:List Vis} {v:Vis} (hv:v∈ZU os i):Kx l v (ZU os i)=true↔(v.drp=true->⟨i,false⟩∈ZU os i->⟨i,false⟩∈l):=by
 rcases Kn os i with h | h | h | h<;>rw [h] at hv ⊢ <;>simp at hv
 ·grind [Kx]
 ·grind [Kx]
 ·rcases hv with rfl | rfl
  ·simp [Kx]
  ·simp [Kx,Wk]
theorem W9 {x:Inst} {l:List Vis} {v:Vis} {i:Nat} (hv:v∈ZU x.orders i):YO x l v=true↔v ∉ l/\(v.drp=true->⟨i,false⟩∈ZU x.orders i->⟨i,false⟩∈l)/\ ∀p∈x.before,p.2=(i:Int)-> ∀w∈ZU x.orders p.1.toNat,w∈l:=by
 have h:=Ya hv;rw [YO,h,XS,Zv,Zv,Zr,Zdl,lH hv,eY,and_assoc]
theorem Vu {x:Inst} {S:Nat} {l:List Vis} {v:Vis} {k:Nat} :v∈nextU x S l k↔ ∃i,i<k/\S.testBit i=true/\(nth x.orders i).off=false/\v∈ZU x.orders i/\YO x l v=true:=by
 rw [nextU,XK]
 constructor
 ·grind [Ud]
 ·rintro ⟨i,hi,h1,h2,h3,h4⟩;exact ⟨i,by grind,by simp_all [Ud]⟩
def Bf (x:Inst) (S k:Nat):List Vis:=(List.range k).flatMap fun i=>if S.testBit i=true then ZU x.orders i else []
theorem Hc (x S k):Bf x S (k+1)=Bf x S k++if S.testBit k=true then ZU x.orders k else []:=by simp [Bf,X8]
theorem Ja (x S): ∀k,(Bf x S k).length=K6 x S k
 | 0=>by rfl
 | k+1=>by
  rw [Hc,AS,Zz,Ja x S k]
  split<;>simp
theorem Wz {x S k v} :v∈Bf x S k↔ ∃i,i<k/\S.testBit i=true/\v∈ZU x.orders i:=by
 simp_all [Bf]
theorem Bg (x S): ∀k,(Bf x S k).Nodup
 | 0=>by simp [Bf]
 | k+1=>by
  rw [Hc,Ct];refine ⟨Bg x S k,?_,fun a ha b hb=> ?_⟩
  ·grind [Rg]
  ·obtain ⟨i,hi,_,h2⟩:=Wz.1 ha
   split at hb
   ·have h3:=Ya h2;have h4:=Ya hb
    grind
   ·simp at hb
theorem Gr.nodup {x S l} (h:Gr x S l):l.Nodup:=by
 induction h with
 | nil=>simp
 | snoc _ hv ih =>
  obtain ⟨i,_,_,_,h4,h5⟩:=Vu.1 hv;rw [Ct];refine ⟨ih,Zb,fun a ha b hb=> ?_⟩;simp at hb;subst hb;exact fun e=>((W9 h4).1 h5).1 (e ▸ ha)
theorem Gr.sub {x S l} (h:Gr x S l): ∀v∈l,v∈Bf x S x.orders.length:=by
 induction h with
 | nil=>simp
 | snoc _ hv ih =>
  obtain ⟨i,h1,h2,_,h4,_⟩:=Vu.1 hv;intro w hw;rcases Xe.1 hw with hw | hw
  ·exact ih w hw
  ·simp at hw;subst hw;exact Wz.2 ⟨i,h1,h2,h4⟩
theorem EZ {α:Type} [DecidableEq α] {l m:List α} (hl:l.Nodup) (h: ∀v∈l,v∈m):l.length<=m.length:=List.Nodup.length_le_of_subset hl h
theorem Zda {α:Type} [DecidableEq α] {l m:List α} (hl:l.Nodup) (h: ∀v∈l,v∈m) (hm:m.length<=l.length): ∀v∈m,v∈l:=fun v hv=>by
 refine J3 fun hno=> ?_
 have:(v::l).length<=m.length:=EZ (by grind) (fun w hw=>by
  grind)
 grind
theorem Gr.len {x S l} (h:Gr x S l):l.length<=K6 x S x.orders.length:=by
 rw [<- Ja];exact EZ h.nodup h.sub
theorem Gr.full {x S l} (h:Gr x S l) (hl:l.length=K6 x S x.orders.length): ∀v∈Bf x S x.orders.length,v∈l:=Zda h.nodup h.sub (by rw [Ja];omega)
theorem Gr.more {x S l} (ha:Alw x S) (hn:x.orders.length<=60) (hv:Val x.orders.length x.before) (hm: ∃v∈Bf x S x.orders.length,v ∉ l): ∃v,v∈nextU x S l x.orders.length:=by
 obtain ⟨v,hva,hvl⟩:=hm;obtain ⟨i,h1,h2,h3⟩:=Wz.1 hva;obtain ⟨j,⟨j1,j2,w,j3,j4⟩,hj⟩:=Pd hv (P:=fun i=>i<x.orders.length/\S.testBit i=true/\ ∃w∈ZU x.orders i,w ∉ l) (fun i hi=>⟨hi.1,ha.acyc i hi.1 hi.2.1⟩) ⟨h1,h2,v,h3,hvl⟩
 have hpre: ∀p∈x.before,p.2=(j:Int)-> ∀w∈ZU x.orders p.1.toNat,w∈l:=fun p hp e w hw=>by
  refine J3 fun hno=> ?_;obtain ⟨v1,v2,v3,v4⟩:=hv p hp;have:=ha.closed p hp (FT.2 ⟨Za,Za,by grind⟩);exact hj p hp e ⟨Za,(FT.1 this).2.2,w,hw,hno⟩
 by_cases hf:(⟨j,false⟩:Vis)∈ZU x.orders j/\(⟨j,false⟩:Vis) ∉ l
 ·exact ⟨⟨j,false⟩,Vu.2 ⟨j,j1,j2,ha.off j j1 j2,hf.1,(W9 hf.1).2 ⟨hf.2,Zb,hpre⟩⟩⟩
 ·refine ⟨w,Vu.2 ⟨j,j1,j2,ha.off j j1 j2,j3,(W9 j3).2 ⟨j4,fun _ hq=> ?_,hpre⟩⟩⟩
  grind
theorem Gr.next_nil {x S l} (h:Gr x S l) (ha:Alw x S) (hn:x.orders.length<=60) (hv:Val x.orders.length x.before):nextU x S l x.orders.length= []↔l.length=K6 x S x.orders.length:=by
 constructor
 ·intro e;refine J3 fun hno=> ?_
  have hex: ∃v∈Bf x S x.orders.length,v ∉ l:=J3 fun hno2=>hno (by
   have h1: ∀v∈Bf x S x.orders.length,v∈l:=fun v hv=>J3 fun h3=>hno2 ⟨v,hv,h3⟩;have:=EZ (Bg x S _) h1;rw [Ja] at this;have:=h.len
   omega)
  obtain ⟨v,hv⟩:=Gr.more (l:=l) ha hn hv hex
  grind
 ·intro e;rw [List.eq_nil_iff_forall_not_mem];intro v hv;obtain ⟨i,h1,h2,_,h4,h5⟩:=Vu.1 hv;exact ((W9 h4).1 h5).1 (h.full e v (Wz.2 ⟨i,h1,h2,h4⟩))
theorem SV {x:Inst} {S:Nat} (hne:Vne x) (hS:S / pw x.orders.length=0) (h0:S≠0):0<K6 x S x.orders.length:=by
 have: ∃i,S.testBit i=true:=by
  refine J3 fun hno=>h0 (Cr fun i=> ?_)
  grind
 obtain ⟨i,hi⟩:=this;have hlt:=OZ hS hi;obtain ⟨v,hv⟩:=List.exists_mem_of_ne_nil _ (hne i hlt);have hm:v∈Bf x S x.orders.length:=Wz.2 ⟨i,hlt,hi,hv⟩
 grind [Ja]
def ext (nx:List Vis->List Vis):Nat->List Vis->List (List Vis)->List (List Vis)
 | 0,l,outs=>if 8192<outs.length then outs else outs++ [l]
 | f+1,l,outs=>if 8192<outs.length then outs else (nx l).foldl (fun acc v=>ext nx f (l++ [v]) acc) outs
theorem Ty {S n:Nat} (hS:S<9223372036854775808) (h: ∀j,j<63->S.testBit j=true->j<n):S / pw n=0:=by
 refine QA ?_;refine Nat.lt_pow_two_of_testBit S fun i hi=> ?_;rcases Wy i 63 with h2 | h2
 ·grind
 ·exact An (Uu hS (Ym Za h2:2^63<=2^i))
def NK (x:Inst) (l:List Vis):Int :=
 if l.any (Vw x)=true then 2
 else if l.length=0 then 2
 else if (l.any fun v=>(nth x.orders v.order.toNat).off)=true then 9
 else if ((List.range l.length).any fun i=>decide (vIx l (nth l i)≠(i:Int)))=true then 6
 else if l.all (pairB x.orders l)=false then 19
 else if apB x (Xo l)=true then 20
 else if x.before.all (QH (Xo l) l)=false then 21
 else 0
theorem PX (x:Inst) (r:Rte) (ho:x.orders.length<=60) (hl:r.visits.length<=1048576) (hap:x.apart.length<=1048576) (hbe:x.before.length<=1048576) (hp:Plc x) :
  PC 205 [.p (Zq x),.p (Wp r)] (.int .i64 (NK x r.visits)):=by
 refine Zc Tryz.func205 rfl ZaW ?_;simp (disch:=omega) only [Tryz.f205,go_sem,seval];refine Zl [2,3,5] (fun k:Nat=> [(6,.p (.int .i64 k))]) (fun _=> [Zf x,Xp r]) (fun k=>k<=r.visits.length/\ ∀j,j<k->Vw x (nth r.visits j)=false) (fun k=>r.visits.length-k) 0 Zb (Weak.mk ?_) ?_
 ·simp (disch:=omega) only [Zf,Xp,go_sem,seval]
 ·rintro k ⟨hk,hno⟩;refine K4 ?_;refine cD ?_ ?_<;>intro h<;>simp (disch:=omega) only [Sh.out h,go_sem,seval,↓reduceIte]
  ·have hk2:k<r.visits.length:=Za
   refine Xd (Zd ?_);refine gF ?_ ?_<;>intro h2<;>simp (disch:=omega) only [Sh.out h2,go_sem,seval,↓reduceIte]
   ·have:Vw x (nth r.visits k)=true:=by simp [Vw];omega
    rw [NK,if_pos (Vj hk2 this)]
   ·refine ZX ?_ ?_<;>intro h3
    ·have:Vw x (nth r.visits k)=true:=by simp [Vw];omega
     rw [NK,if_pos (Vj hk2 this)]
    ·exact ⟨k+1,⟨Za,Zp.2 ⟨hno,by simp [Vw];omega⟩⟩,Za,wk⟩
  ·have hkl:k=r.visits.length:=Za
   subst hkl
   have hr1:NK x r.visits=if r.visits.length=0 then 2 else if (r.visits.any fun v=>(nth x.orders v.order.toNat).off)=true then 9 else if ((List.range r.visits.length).any fun i=>decide (vIx r.visits (nth r.visits i)≠(i:Int)))=true then 6 else if r.visits.all (pairB x.orders r.visits)=false then 19 else if apB x (Xo r.visits)=true then 20 else if x.before.all (QH (Xo r.visits) r.visits)=false then 21 else 0:=by
    rw [NK,if_neg (by rw [QQ hno];simp)]
   have hin: ∀j,j<r.visits.length->0<=(nth r.visits j).order/\(nth r.visits j).order<x.orders.length:=fun j hj=>by
    grind [Vw]
   have hmem: ∀v∈r.visits,0<=v.order/\v.order<x.orders.length:=fun v hv=>by
    obtain ⟨j,hj,rfl⟩:=ZO.1 hv
    grind [Zj]
   have hord:Q4 r.visits=(((Xo r.visits:Nat):Int),0):=by
    rw [Q4,if_pos]
    grind [G1]
   have hlt:Xo r.visits<9223372036854775808:=by
    have:=AH r.visits.length (l:=r.visits) (ZF _) (fun v hv=>by
     grind [G1])
    grind
   have hoc:=Ia r hl;rw [hord] at hoc;refine YJ hoc (Zd ?_);refine cD ?_ ?_<;>intro h3<;>simp (disch:=omega) only [Sh.out h3,go_sem,seval]
   ·grind
   ·rw [hr1,if_neg Za];clear hno hr1 h3 h hk;refine Zl [2,5,7] (fun k:Nat=> [(9,.p (.int .i64 k))]) (fun _=> [Zf x,Xp r]) (fun k=>k<=r.visits.length/\ ∀j,j<k->(nth x.orders (nth r.visits j).order.toNat).off=false) (fun k=>r.visits.length-k) 0 Zb (Weak.mk ?_) ?_
    ·simp (disch:=omega) only [Zf,Xp,go_sem,seval]
    ·rintro k ⟨hk,hno⟩;refine K4 ?_;refine cD ?_ ?_<;>intro h<;>simp (disch:=omega) only [Sh.out h,go_sem,seval,↓reduceIte]
     ·have hk2:k<r.visits.length:=Za
      obtain ⟨i1,i2⟩:=hin k hk2
      have i3:(nth r.visits k).order.toNat<x.orders.length:=Za
      refine Xd (Zd ?_);refine ZX ?_ ?_<;>intro h4
      ·rw [if_pos (Vj hk2 h4)]
      ·exact ⟨k+1,⟨Za,Zp.2 ⟨hno,h4⟩⟩,Za,wk⟩
     ·have hkl:k=r.visits.length:=Za
      subst hkl;have e9:(r.visits.any fun v=>(nth x.orders v.order.toNat).off)=false:=QQ hno;rw [e9,if_neg Zb];clear hno h hk;refine Zl [2,5,7] (fun k:Nat=> [(10,.p (.int .i64 k))]) (fun _=> [Zf x,Xp r]) (fun k=>k<=r.visits.length/\ ∀j,j<k->vIx r.visits (nth r.visits j)=(j:Int)) (fun k=>r.visits.length-k) 0 Zb (Weak.mk ?_) ?_
      ·simp (disch:=omega) only [Zf,Xp,go_sem,seval]
      ·rintro k ⟨hk,hno⟩;refine K4 ?_;refine cD ?_ ?_<;>intro h<;>simp (disch:=omega) only [Sh.out h,go_sem,seval,↓reduceIte]
       ·have hk2:k<r.visits.length:=Za
        refine (Qm r.visits r.visits_c (nth r.visits k) hl).use (Zd ?_);refine ZX ?_ ?_<;>intro h4
        ·have:((List.range r.visits.length).any fun i=>decide (vIx r.visits (nth r.visits i)≠(i:Int)))=true:=by
          grind
         grind
        ·exact ⟨k+1,⟨Za,Zp.2 ⟨hno,Za⟩⟩,Za,wk⟩
       ·have hkl:k=r.visits.length:=Za
        subst hkl
        have:((List.range r.visits.length).any fun i=>decide (vIx r.visits (nth r.visits i)≠(i:Int)))=false:=by
         grind
        rw [this,if_neg Zb];refine (bP x r.visits r.visits_c hl Za hp hmem).use (Zd ?_);refine cD ?_ ?_<;>intro h4<;>simp (disch:=omega) only [Sh.out h4,go_sem,seval,↓reduceIte]
        ·grind
        ·rw [if_neg (by grind)];refine (lN x (Xo r.visits) hlt hap).use (Zd ?_);refine cD ?_ ?_<;>intro h5<;>simp (disch:=omega) only [Sh.out h5,go_sem,seval,↓reduceIte]
         ·grind
         ·rw [if_neg (by grind)];refine (bG x (Xo r.visits) r.visits r.visits_c hlt hl hbe).use (Zd ?_);refine cD ?_ ?_<;>intro h6<;>simp (disch:=omega) only [Sh.out h6,go_sem,seval]
          ·grind
          grind
structure IFacts (x:Inst):Prop where
 len:x.orders.length<=10
 plc:Plc x
 vne:Vne x
 val:Val x.orders.length x.before
 ne: ∀p∈x.before,p.1≠p.2
 aval:Val x.orders.length x.apart
theorem iA {n:Int} {word:List UInt8} {sm:Int×Int->Int×Int->Bool} {l:List (Int×Int)} (h:Jj n word sm l l.length= []): ∀p∈l,aM n p=true:=by
 intro p hp;obtain ⟨i,hi,rfl⟩:=ZO.1 hp;have h2:=(VQ.1 h).2;rw [List.flatMap_eq_nil_iff] at h2;have h3:=h2 i (by grind)
 grind [RZ,Zj]
theorem XC {x:Inst} (h:InstOk x):IFacts x:=by
 have ho:=h.orders;obtain ⟨h1,h2⟩:=VQ.1 h.rules;have ha:=iA h1;have hb:=iA h2
 have hpl:Plc x:=fun o hm=>by
  obtain ⟨i,hi,rfl⟩:=ZO.1 hm;have:=ho.2 i hi;rw [<- Zj hi];exact ⟨this.pick.1,this.drp.1⟩
 have val: ∀l:List (Int×Int),(∀p∈l,aM x.orders.length p=true)->Val x.orders.length l:=fun l h p hp=>by
  grind [aM]
 refine ⟨ho.1,hpl,fun i hi=> ?_,val _ hb,fun p hp=> ?_,val _ ha⟩
 ·have h3:=ho.2 i hi;have h4:=hpl _ (Zt hi);have h5:=h3.one
  grind [ZU]
 grind [aM]
theorem WX {l:List Vis} {o:Int} :hasO l o=true↔ ∃v∈l,v.order=o:=by simp [hasO]
theorem CJ : ∀(l:List Vis) (i:Nat),(Xo l).testBit i=true↔ ∃v∈l,v.order.toNat=i:=by
 have key: ∀(l:List Vis) (s i:Nat),(l.foldl (fun s v=>s|||pw v.order.toNat) s).testBit i=true↔s.testBit i=true\/ ∃v∈l,v.order.toNat=i:=by
  intro l
  induction l with
  | nil=>simp
  | cons v l ih =>
   intro s i;rw [XG,ih,Aw,Kl,W8,Zr,or_assoc];simp
 grind [Xo]
def Inr (x:Inst) (l:List Vis):Prop:= ∀v∈l,0<=v.order/\v.order<x.orders.length
theorem Ue {x:Inst} {l:List Vis} (hi:Inr x l) (hn:x.orders.length<=60) (o:Int) (h:0<=o/\o<=62):nHas (Xo l) o=hasO l o:=by
 rw [Ww,FT,CJ,WX]
 constructor
 ·rintro ⟨h1,h2,v,hv,h3⟩;have:=hi v hv
  grind
 grind
theorem Q7 {l:List Vis} (hd:l.Nodup) {k:Nat} (hk:k<l.length):vIx l (nth l k)=(k:Int):=by
 refine I2 hk Zb fun j hj=> ?_
 grind [Zj,KK]
theorem E0 {l:List Vis} {v:Vis} (h:0<=vIx l v):(vIx l v).toNat<l.length/\nth l (vIx l v).toNat=v:=by
 grind [vIx,Hs,VO,Zj]
theorem Zdk {l:List Vis} {k:Nat} (hk:k<l.length):0<=vIx l (nth l k)/\vIx l (nth l k)<=(k:Int):=by
 grind [vIx,nth,Zt,Hs,VO]
theorem Qp {l:List Vis} {v:Vis} {i:Nat} (h:v∈l.take i): ∃j,j<i/\j<l.length/\nth l j=v:=by
 obtain ⟨j,hj,rfl⟩:=ZO.1 h;simp at hj;exact ⟨j,Za,Za,by grind [Zj]⟩
theorem KN {l:List Vis} {i j:Nat} (h:j<i) (hl:j<l.length):nth l j∈l.take i:=by
 grind [Zj,ZO]
theorem BG {l:List Vis} :K8 l=false↔l.Nodup:=by
 rw [K8,WS]
 constructor
 ·intro h;rw [List.nodup_iff_pairwise_ne,KK];intro i j hi hj hij e;have:=h j (by grind);simp only [Zr,Wk] at this;refine this ?_;rw [Zj hj,<- e,<- Zj hi];exact KN hij hi
 ·intro h j hj;simp only [Zr,Wk]
  grind [Qp,Q7]
theorem cK {l:List Vis} :((List.range l.length).any fun i=>decide (vIx l (nth l i)≠(i:Int)))=K8 l:=by
 rw [Ww]
 constructor
 ·grind [Q7,BG]
 ·intro h;rw [K8,JV] at h;obtain ⟨j,hj,h2⟩:=h;simp only [Zr,Wk] at h2;obtain ⟨i,h3,h4,h5⟩:=Qp h2
  grind
def Bs (l:List Vis) (b:Int):Int:=Hs (fun v=>decide (v.order=b)) l
theorem AF {l:List Vis} {b:Int} :0<=Bs l b↔ ∃v∈l,v.order=b:=by
 grind [Pe,Bs]
theorem CH {l:List Vis} {b:Int} (h:0<=Bs l b):(Bs l b).toNat<l.length/\(nth l (Bs l b).toNat).order=b/\ ∀j,j<(Bs l b).toNat->(nth l j).order≠b:=by
 unfold Bs Hs at h ⊢
 grind [VO,Zj]
theorem kE {l:List Vis} {b:Int} {k:Nat} (hk:k<l.length) (h:(nth l k).order=b):0<=Bs l b/\Bs l b<=(k:Int):=by
 have h0:0<=Bs l b:=AF.2 ⟨_,Zt hk,h⟩;refine ⟨h0,?_⟩;obtain ⟨h1,h2,h3⟩:=CH h0
 grind
theorem V6 {l:List Vis} {a b:Int} :beforeB l a b=true↔(0<=Bs l b->(∃v∈l,v.order=a)/\ ∀j,j<l.length->(nth l j).order=a->(j:Int)<Bs l b):=by
 unfold beforeB;rw [show Hs (fun v=>decide (v.order=b)) l=Bs l b from rfl]
 by_cases h:Bs l b<0
 ·grind
 ·rw [if_neg h,Zv,WX]
  have h0:0<=Bs l b:=Za
  obtain ⟨h1,h2,h3⟩:=CH h0
  have hd:(!hasO (l.drop (Bs l b).toNat) a)=true↔ ∀j,j<l.length->(nth l j).order=a->(j:Int)<Bs l b:=by
   rw [XR,<- Uw,WX]
   constructor
   ·intro hno j hj e;rcases Int.lt_or_le (j:Int) (Bs l b) with h4 | h4
    ·exact h4
    ·refine absurd ⟨nth l j,?_,e⟩ hno;rw [Zj hj];exact ZO.2 ⟨j-(Bs l b).toNat,by simp;omega,by grind⟩
   ·rintro hall ⟨v,hv,e⟩;obtain ⟨j,hj,rfl⟩:=ZO.1 hv
    grind [Zj]
  grind
theorem OU {x:Inst} {l:List Vis} (hi:Inr x l) (hn:x.orders.length<=60) {p:Int×Int} (h1:0<=p.1/\p.1<x.orders.length) (h2:0<=p.2/\p.2<x.orders.length) (hne:p.1≠p.2):QH (Xo l) l p=beforeB l p.1 p.2:=by
 rw [Ww,V6,QH,Ue hi hn _ Za,Ue hi hn _ Za];simp only [W8,XR,Zv];rw [<- Uw,WX,WX,<- AF,<- AF (b:=p.1)]
 constructor
 ·rintro (h | ⟨h3,h4⟩) h0
  ·omega
  ·refine ⟨h3,fun j hj e=> ?_⟩;rw [ZD] at h4;have h5:=h4 j (by grind);rw [ZD] at h5;obtain ⟨g1,g2,g3⟩:=CH h0;rcases Int.lt_or_le (j:Int) (Bs l p.2) with h6 | h6
   ·exact h6
   ·have hne2:j≠(Bs l p.2).toNat:=fun e2=>hne (by grind);have:=h5 (Bs l p.2).toNat (by simp;omega)
    grind [Kq]
 ·intro h
  by_cases h0:0<=Bs l p.2
  ·obtain ⟨h3,h4⟩:=h h0;refine .inr ⟨h3,?_⟩;rw [ZD];intro j hj;rw [ZD];intro k hk;simp at hj hk
   cases hb:Kq l p.1 p.2 j k with
   | false=>rfl
   | true =>
    simp [Kq] at hb;have h5:=h4 j hj hb.1;have h6:=(kE Za hb.2).2;omega
  omega
theorem sN {x:Inst} (hf:IFacts x) (l:List Vis):NK x l=Xf x l:=by
 by_cases ho:l.any (Vw x)=true
 ·simp_all [NK,Xf]
 ·have ho':l.any (Vw x)=false:=by grind
  have hi:Inr x l:=fun v hv=>by
   grind [Vw]
  have hn:x.orders.length<=60:=by have:=hf.len;omega
  rw [NK,if_neg ho,Xf]
  by_cases h0:l.length=0
  ·omega
  ·have hc: ¬(l.length=0\/l.any (Vw x)=true):=fun h=>h.elim h0 ho;rw [if_neg h0,if_neg hc,cK]
   have e1:apB x (Xo l)=x.apart.any fun p=>hasO l p.1&&hasO l p.2:=by
    rw [apB,Ww,JV,JV]
    have: ∀p∈x.apart,(nHas (Xo l) p.1&&nHas (Xo l) p.2)=(hasO l p.1&&hasO l p.2):=fun p hp=>by
     have:=hf.aval p hp
     grind [Ue]
    grind
   have e2:(x.before.all (QH (Xo l) l)=false)=((x.before.any fun p=> !beforeB l p.1 p.2)=true):=by
    have: ∀p∈x.before,QH (Xo l) l p=beforeB l p.1 p.2:=fun p hp=>by
     have:=hf.val p hp;exact OU hi hn Za Za (hf.ne p hp)
    grind
   grind
structure RightV (x:Inst) (l:List Vis):Prop where
 ne:l≠ []
 inr:Inr x l
 off: ∀v∈l,(nth x.orders v.order.toNat).off=false
 nodup:l.Nodup
 pair: ∀v∈l,pairB x.orders l v=true
 apart: ∀p∈x.apart,¬(hasO l p.1=true/\hasO l p.2=true)
 before: ∀p∈x.before,beforeB l p.1 p.2=true
theorem bL {x:Inst} {l:List Vis} :Xf x l=0↔RightV x l:=by
 unfold Xf;rw [Vp Za,Vp Za,Vp Za,Vp Za,Vp Za,Vp Za];simp only [and_true,Uw,BG]
 have hin:l.any (Vw x)=false↔Inr x l:=by
  rw [WS];exact ⟨fun h v hv=>by grind [Vw],fun h v hv=>by simpa [Vw] using h v hv⟩
 constructor
 ·rintro ⟨h1,h2,h3,h4,h5,h6⟩;rw [not_or,Uw,hin] at h1;rw [WS] at h2 h5 h6;refine ⟨fun e=>h1.1 (by rw [e];rfl),h1.2,fun v hv=>by grind,h3,?_,fun p hp=>by grind,fun p hp=>by grind⟩
  grind
 ·intro h;refine ⟨?_,?_,h.nodup,?_,?_,?_⟩
  ·rw [not_or,Uw,hin];exact ⟨fun e=>h.ne (Yv e),h.inr⟩
  ·rw [WS];intro v hv;simp [h.off v hv]
  ·rw [ZD.2 h.pair];simp
  ·rw [WS];intro p hp;simpa using h.apart p hp
  ·rw [WS];intro p hp;simpa using h.before p hp
theorem HV {os:List Ord} {l:List Vis} {v:Vis} {i:Nat} (h:v.order=(i:Int)):pairB os l v=true↔v∈ZU os i/\(∀w∈ZU os i,w∈l)/\((⟨i,false⟩:Vis)∈ZU os i->(⟨i,true⟩:Vis)∈ZU os i->vIx l ⟨i,false⟩<vIx l ⟨i,true⟩):=by
 rw [pairB,h,XS,Zv,Zr,Wk];refine and_congr Iff.rfl ?_
 have hm: ∀w:Vis,-1<vIx l w↔w∈l:=fun w=>by grind [Wk]
 rcases Kn os i with e | e | e | e<;>rw [e]
 ·simp [QR]
 ·simp [QR,hm]
 ·simp [QR,hm]
 ·simp only [QR,QC,Zv,Zr,hm,Z3,Wv,WT,forall_eq_or_imp,forall_eq]
  grind
section
variable {x : Inst} {l : List Vis}
theorem RightV.bit (h:RightV x l) (i:Nat):(Xo l).testBit i=true↔ ∃v∈l,v.order=(i:Int):=by
 rw [CJ];exact ⟨fun ⟨v,hv,e⟩=>⟨v,hv,by have:=h.inr v hv;omega⟩,fun ⟨v,hv,e⟩=>⟨v,hv,Za⟩⟩
theorem RightV.lt (h:RightV x l) (hf:IFacts x):Xo l<9223372036854775808/\Xo l / pw x.orders.length=0:=by
 have h1:Xo l<9223372036854775808:=by
  have:=AH l.length (l:=l) (ZF _) (fun v hv=>by
   rw [XX] at hv;have:=h.inr v hv;have:=hf.len
   simp [G1];omega)
  grind
 refine ⟨h1,Ty h1 fun j _ hj=> ?_⟩;obtain ⟨v,hv,e⟩:=(h.bit j).1 hj;have:=h.inr v hv;omega
theorem RightV.ord (h:RightV x l) (hf:IFacts x):Q4 l=(((Xo l:Nat):Int),0):=by
 rw [Q4,if_pos];rw [ZD];intro v hv;have:=h.inr v hv;have:=hf.len;simp [G1];omega
theorem RightV.pairs (h:RightV x l) {v:Vis} (hv:v∈l): ∃i:Nat,v.order=(i:Int)/\i<x.orders.length/\v∈ZU x.orders i/\(∀w∈ZU x.orders i,w∈l)/\((⟨i,false⟩:Vis)∈ZU x.orders i->(⟨i,true⟩:Vis)∈ZU x.orders i->vIx l ⟨i,false⟩<vIx l ⟨i,true⟩):=by
 have h1:=h.inr v hv
 have e:v.order=(v.order.toNat:Int):=Za
 exact ⟨v.order.toNat,e,Za,(HV e).1 (h.pair v hv)⟩
theorem RightV.step (h:RightV x l) {a b:Nat} (hE:Ed x.before a b) (hb:0<=Bs l b):0<=Bs l a/\Bs l a<Bs l b:=by
 obtain ⟨p,hp,e1,e2⟩:=hE;have hbe:=V6.1 (h.before p hp);rw [e1,e2] at hbe;obtain ⟨h1,h2⟩:=hbe hb;have h0:=AF.2 h1;obtain ⟨g1,g2,_⟩:=CH h0
 grind
theorem RightV.chain (h:RightV x l) {a b:Nat} (hc:Ch x.before a b) (hb:0<=Bs l b):0<=Bs l a/\Bs l a<Bs l b:=by
 induction hc with
 | one hE=>exact h.step hE hb
 | more _ hE ih =>
  have h1:=h.step hE hb;omega
theorem RightV.alw (h:RightV x l) (hf:IFacts x):Alw x (Xo l):=by
 have hn:x.orders.length<=60:=by have:=hf.len;omega
 refine ⟨fun i hi hb=> ?_,?_,fun p hp hb=> ?_,fun i hi hb hc=> ?_⟩
 ·obtain ⟨v,hv,e⟩:=(h.bit i).1 hb;have:=h.off v hv
  grind
 ·rw [apB,WS];intro p hp;have hv:=hf.aval p hp;rw [Ue h.inr hn _ Za,Ue h.inr hn _ Za,Zv];exact h.apart p hp
 ·have hv:=hf.val p hp;rw [Ue h.inr hn _ Za] at hb ⊢;rw [WX] at hb ⊢;exact (V6.1 (h.before p hp) (AF.2 hb)).1
 ·have hb2:=AF.2 ((h.bit i).1 hb);have:=(h.chain hc hb2).2;omega
theorem RightV.gr (h:RightV x l) (hf:IFacts x): ∀k,k<=l.length->Gr x (Xo l) (l.take k)
 | 0,_=>by simpa using Gr.nil
 | k+1,hk=>by
  have hk2:k<l.length:=Za
  have ih:=h.gr hf k Za
  have e:l.take (k+1)=l.take k++ [nth l k]:=by rw [XZ hk2,Zj hk2]
  rw [e];obtain ⟨i,e1,hi,h1,h2,h3⟩:=h.pairs (Zt hk2);refine .snoc ih (Vu.2 ⟨i,hi,(h.bit i).2 ⟨_,Zt hk2,e1⟩,?_,h1,(W9 h1).2 ⟨?_,?_,?_⟩⟩)
  ·have:=h.off _ (Zt hk2)
   grind
  ·intro hm;obtain ⟨j,j1,j2,j3⟩:=Qp hm;have q1:=Q7 h.nodup j2;have q2:=Q7 h.nodup hk2
   grind
  ·intro hd hq
   have e2:nth l k=⟨i,true⟩:=by rw [DS];grind
   have h4:=h3 hq (by grind);rw [<- e2,Q7 h.nodup hk2] at h4;have h5:=Wk.2 (h2 _ hq);obtain ⟨g1,g2⟩:=E0 h5;rw [<- g2];exact KN Za g1
  ·intro p hp hpe w hw;obtain ⟨v1,v2,v3,v4⟩:=hf.val p hp;have hoi:=kE hk2 e1;have hbe:=V6.1 (h.before p hp);rw [hpe] at hbe;obtain ⟨⟨v,hv,ev⟩,h5⟩:=hbe hoi.1;obtain ⟨a,a1,a2,a3,a4,a5⟩:=h.pairs hv
   have:a=p.1.toNat:=Za
   subst this;have hwl:=a4 w hw;obtain ⟨g1,g2⟩:=E0 (Wk.2 hwl);have h6:=h5 _ g1 (by rw [g2,Ya hw];omega);rw [<- g2];exact KN Za g1
theorem RightV.len (h:RightV x l) (hf:IFacts x):l.length=K6 x (Xo l) x.orders.length:=by
 have h1:=h.gr hf l.length (ZF _);rw [XX] at h1;have h2:=h1.len
 have h3: ∀v∈Bf x (Xo l) x.orders.length,v∈l:=fun v hv=>by
  obtain ⟨i,i1,i2,i3⟩:=Wz.1 hv;obtain ⟨w,hw,e⟩:=(h.bit i).1 i2;obtain ⟨a,a1,a2,a3,a4,a5⟩:=h.pairs hw
  grind
 have h4:=EZ (Bg _ _ _) h3;rw [Ja] at h4;omega
theorem Gr.at {S:Nat} (h:Gr x S l): ∀k,k<l.length->nth l k∈nextU x S (l.take k) x.orders.length:=by
 induction h with
 | nil=>simp
 | snoc h hv ih =>
  rename_i l v;intro k hk;simp at hk;rcases Wy k l.length with h2 | h2
  ·grind [Zj]
  ·have:k=l.length:=Za
   simp_all [Zj]
theorem Gr.right {S:Nat} (h:Gr x S l) (hf:IFacts x) (ha:Alw x S) (h0:S≠0) (hS:S / pw x.orders.length=0) (hl:l.length=K6 x S x.orders.length):RightV x l/\Xo l=S:=by
 have hn:x.orders.length<=60:=by have:=hf.len;omega
 have hfull:=h.full hl
 have hsub: ∀v∈l,∃i:Nat,v.order=(i:Int)/\i<x.orders.length/\S.testBit i=true/\v∈ZU x.orders i:=fun v hv=>by
  obtain ⟨i,i1,i2,i3⟩:=Wz.1 (h.sub v hv);exact ⟨i,Ya i3,i1,i2,i3⟩
 have hinr:Inr x l:=fun v hv=>by grind
 have hgo: ∀k,k<l.length-> ∃i:Nat,(nth l k).order=(i:Int)/\nth l k∈ZU x.orders i/\nth l k ∉ l.take k/\((nth l k).drp=true->(⟨i,false⟩:Vis)∈ZU x.orders i->(⟨i,false⟩:Vis)∈l.take k)/\ ∀p∈x.before,p.2=(i:Int)-> ∀w∈ZU x.orders p.1.toNat,w∈l.take k:=fun k hk=>by
  obtain ⟨i,i1,i2,i3,i4,i5⟩:=Vu.1 (h.at k hk);obtain ⟨r1,r2,r3⟩:=(W9 i4).1 i5;exact ⟨i,Ya i4,i4,r1,r2,r3⟩
 have hbit:Xo l=S:=Cr fun i=>by
  rw [Ww,CJ]
  constructor
  ·grind
  ·intro hb;have hi:=OZ hS hb;obtain ⟨w,hw⟩:=List.exists_mem_of_ne_nil _ (hf.vne i hi);have:=Ya hw;exact ⟨w,hfull w (Wz.2 ⟨i,hi,hb,hw⟩),Za⟩
 refine ⟨⟨fun e=> ?_,hinr,fun v hv=> ?_,h.nodup,fun v hv=> ?_,fun p hp=> ?_,fun p hp=> ?_⟩,hbit⟩
 ·have:=SV hf.vne hS h0
  grind
 ·obtain ⟨i,i1,i2,i3,i4⟩:=hsub v hv;rw [i1,XS];exact ha.off i i2 i3
 ·obtain ⟨i,i1,i2,i3,i4⟩:=hsub v hv;refine (HV i1).2 ⟨i4,fun w hw=>hfull w (Wz.2 ⟨i,i2,i3,hw⟩),fun hq1 hq2=> ?_⟩;have m2:=Wk.2 (hfull _ (Wz.2 ⟨i,i2,i3,hq2⟩));obtain ⟨g1,g2⟩:=E0 m2;obtain ⟨j,j1,j2,j3,j4,j5⟩:=hgo _ g1;rw [g2] at j1 j4
  have:j=i:=by grind
  subst this;obtain ⟨q,q1,q2,q3⟩:=Qp (j4 rfl hq1);have:=(Zdk q2).2
  grind
 ·have:=ha.apart;rw [apB,WS] at this;have h2:=this p hp;have hv:=hf.aval p hp;rw [<- hbit,Ue hinr hn _ Za,Ue hinr hn _ Za,Zv] at h2;exact h2
 ·rw [V6];intro hb;have hv:=hf.val p hp;obtain ⟨g1,g2,g3⟩:=CH hb;obtain ⟨j,j1,j2,j3,j4,j5⟩:=hgo _ g1;have hall:=j5 p hp Za;refine ⟨?_,fun q hq e=> ?_⟩
  ·obtain ⟨w,hw⟩:=List.exists_mem_of_ne_nil _ (hf.vne p.1.toNat Za);exact ⟨w,J6 (hall w hw),by rw [Ya hw];omega⟩
  ·obtain ⟨i,i1,i2,i3,i4⟩:=hsub _ (Zt hq)
   have:i=p.1.toNat:=Za
   subst this;obtain ⟨q2,r1,r2,r3⟩:=Qp (hall _ i4);have e1:=Q7 h.nodup r2;have e2:=Q7 h.nodup hq
   grind
end
theorem RK {a b:Int} :WH a b<0↔a<b:=by grind [WH]
def ZcZ (r:Rte):Prop:=r.visits.length<=1048576/\r.rests.length<=1048576
end Go.Proofs.YtjkkdmeebhjaiaaGreatDoor.K
namespace Go.Proofs.YtjkkdmeebhjaiaaGreatDoor.K
section
variable {L : Type} (fin : L -> Int) (beats : L -> L -> Bool) (nxt : Nat -> L -> Bool -> Option L) (choices : Nat -> List Bool)
def VI : Option L->List L->Option L
 | b,[]=>b
 | none,x::l=>VI (some x) l
 | some m,x::l=>if fin x<fin m then VI (some x) l else VI (some m) l
theorem Al : ∀(b:Option L) (l r:List L),VI fin b (l++r)=VI fin (VI fin b l) r
 | b,[],r=>by rfl
 | none,x::l,r=>by rw [ZM,VI,VI,Al]
 | some m,x::l,r=>by
  rw [ZM,VI,VI]
  split
  ·rw [Al]
  ·rw [Al]
theorem Jk : ∀(l:List L) (m:L),∃z,VI fin (some m) l=some z/\fin z<=fin m/\ ∀y∈l,fin z<=fin y
 | [],m=>⟨m,rfl,Za,Zb⟩
 | x::l,m=>by
  rw [VI]
  split
  ·rename_i h;obtain ⟨z,e,h1,h2⟩:=Jk l x
   grind
  ·rename_i h;obtain ⟨z,e,h1,h2⟩:=Jk l m
   grind
theorem MV : ∀(l:List L) (m:L),(∀y∈l,fin m<=fin y)->VI fin (some m) l=some m
 | [],m,_=>rfl
 | x::l,m,h=>by
  have:=h x List.mem_cons_self;rw [VI,if_neg Za];exact MV l m fun y hy=>h y (Ye _ hy)
theorem TT (A B:List L) (h: ∀y∈B,∃z∈A,fin z<=fin y):VI fin none (A++B)=VI fin none A:=by
 rw [Al]
 cases A with
 | nil=>cases B with
  | nil=>rfl
  | cons y B=>grind [List.mem_cons_self]
 | cons a A =>
  rw [VI];obtain ⟨z,e,h1,h2⟩:=Jk fin A a;rw [e];refine MV fin B z fun y hy=> ?_
  grind
def X4 : List L->List L->List L
 | out,[]=>out
 | out,x::l=>if out.any (fun m=>beats m x)=true then X4 out l else X4 (out++ [x]) l
theorem Dn {R:L->List L} : ∀(c out:List L),(∀x∈out++c,∀m∈out++c,beats m x=true-> ∀y∈R x,∃z∈R m,fin z<=fin y)->VI fin none ((X4 beats out c).flatMap R)=VI fin none ((out++c).flatMap R)
 | [],out,_=>by simp [X4]
 | x::c,out,h=>by
  rw [X4]
  split
  ·rename_i hb;obtain ⟨m,hm,hb⟩:=JV.1 hb
   have hb:beats m x=true:=by simpa using hb
   rw [Dn c out (fun a ha b hb=>h a (by simp only [Xe,Z3] at ha ⊢;rcases ha with h | h<;>simp [h]) b (by simp only [Xe,Z3] at hb ⊢;rcases hb with h | h<;>simp [h]))];rw [List.flatMap_append,List.flatMap_append,Uv,<- Vr,Al,Al (l:=out.flatMap R++R x)];rw [TT fin (out.flatMap R) (R x)];intro y hy;obtain ⟨z,hz,hle⟩:=h x Zb m (by simp [hm]) hb y hy;exact ⟨z,XK.2 ⟨m,hm,hz⟩,hle⟩
  ·rw [Dn c (out++ [x]) (by simpa using h)];simp
theorem AK : ∀(c out:List L),∀x∈X4 beats out c,x∈out++c
 | [],out,x,h=>by grind [X4]
 | a::c,out,x,h=>by
  rw [X4] at h
  split at h
  ·have:=AK c out x h;simp only [Xe,Z3] at this ⊢;rcases this with h | h<;>simp [h]
  ·have:=AK c (out++ [a]) x h;simpa using this
def I1 : Nat->Nat->List (List Bool)
 | 0,_=> [[]]
 | j+1,k=>(choices k).flatMap fun b=>(I1 j (k+1)).map (b:: ·)
def VF : Nat->L->List Bool->Option L
 | _,x,[]=>some x
 | k,x,b::bs=>match nxt k x b with
  | some y=>VF (k+1) y bs
  | none=>none
def Vx (j k:Nat) (x:L):List L:=(I1 choices j k).filterMap (VF nxt k x)
def Vd (k:Nat) (l:List L):List L:=l.flatMap fun x=>(choices k).filterMap (nxt k x)
def Kp : Nat->Nat->List L->List L
 | 0,_,l=>l
 | j+1,k,l=>Kp j (k+1) (X4 beats [] (Vd nxt choices k l))
theorem PZ (k:Nat) (x:L):Vx nxt choices 0 k x= [x]:=rfl
theorem Gc (j k:Nat) (x:L):Vx nxt choices (j+1) k x=((choices k).filterMap (nxt k x)).flatMap (Vx nxt choices j (k+1)):=by
 unfold Vx;rw [I1]
 induction choices k with
 | nil=>rfl
 | cons b bs ih =>
  rw [Uv,List.filterMap_append,ih,List.filterMap_cons]
  cases h:nxt k x b with
  | none =>
   simp_all [VF]
  | some y =>
   rw [List.filterMap_map]
   have:(VF nxt k x∘fun l=>b::l)=VF nxt (k+1) y:=by grind [VF]
   grind
theorem H5 {n:Nat} {Inv:Nat->L->Prop} (hI: ∀k x b y,Inv k x->nxt k x b=some y->Inv (k+1) y) (hd: ∀k m x b y,Inv k m->Inv k x->beats m x=true->nxt k x b=some y-> ∃z,nxt k m b=some z/\beats z y=true)
  (he: ∀m x,Inv n m->Inv n x->beats m x=true->fin m<=fin x): ∀(j k:Nat) (m x:L),k+j=n->Inv k m->Inv k x->beats m x=true-> ∀y∈Vx nxt choices j k x,∃z∈Vx nxt choices j k m,fin z<=fin y
 | 0,k,m,x,hk,h1,h2,hb,y,hy=>by
  grind [PZ]
 | j+1,k,m,x,hk,h1,h2,hb,y,hy=>by
  rw [Gc] at hy ⊢;obtain ⟨q,hq,hy⟩:=XK.1 hy;obtain ⟨b,hbm,hn⟩:=Cs.1 hq;obtain ⟨z,hz,hzb⟩:=hd k m x b q h1 h2 hb hn;obtain ⟨u,hu,hle⟩:=H5 hI hd he j (k+1) z q Za (hI k m b z h1 hz) (hI k x b q h2 hn) hzb y hy
  grind
theorem Se {n:Nat} {Inv:Nat->L->Prop} (hI: ∀k x b y,Inv k x->nxt k x b=some y->Inv (k+1) y) (hd: ∀k m x b y,Inv k m->Inv k x->beats m x=true->nxt k x b=some y-> ∃z,nxt k m b=some z/\beats z y=true)
  (he: ∀m x,Inv n m->Inv n x->beats m x=true->fin m<=fin x): ∀(j k:Nat) (l:List L),k+j=n->(∀x∈l,Inv k x)->VI fin none (Kp beats nxt choices j k l)=VI fin none (l.flatMap (Vx nxt choices j k))
 | 0,k,l,hk,hl=>by
  have:l.flatMap (Vx nxt choices 0 k)=l:=by
   have:Vx nxt choices 0 k=fun x=> [x]:=by rfl
   rw [this];simp
  rw [this];rfl
 | j+1,k,l,hk,hl=>by
  have hc: ∀x∈Vd nxt choices k l,Inv (k+1) x:=fun x hx=>by
   obtain ⟨q,hq,hx⟩:=XK.1 hx
   grind
  have e:l.flatMap (Vx nxt choices (j+1) k)=(Vd nxt choices k l).flatMap (Vx nxt choices j (k+1)):=by
   rw [Vd,List.flatMap_assoc]
   congr 1
   grind [Gc]
  rw [Kp,Se hI hd he j (k+1) _ Za (fun x hx=>hc x (by simpa using AK beats _ _ x hx)),Dn fin beats _ _ (fun x hx m hm hb y hy=> ?_),e]
  ·simp
  ·exact H5 fin beats nxt choices hI hd he j (k+1) m x Za (hc m (by grind)) (hc x (by grind)) hb y hy
def Wg : List Bool->List (List Bool)
 | []=> [[]]
 | b::bs=>if b then (Wg bs).map (true:: ·) else (Wg bs).map (false:: ·)++(Wg (List.replicate bs.length false)).map (true:: ·)
termination_by l => l.length
decreasing_by all_goals simp
def Yq : List Bool->Option (List Bool)
 | []=>none
 | b::bs=>match Yq bs with
  | some l=>some (b::l)
  | none=>if b then none else some (true::List.replicate bs.length false)
theorem fromB_next : ∀l:List Bool,Wg l=l::(match Yq l with | some r=>Wg r | none=> [])
 | []=>by simp [Wg,Yq]
 | b::bs=>by
  have ih:=fromB_next bs
  have e0: ∀l:List Bool,Wg (true::l)=(Wg l).map (true:: ·):=fun l=>by rw [Wg];simp
  have e1: ∀l:List Bool,Wg (false::l)=(Wg l).map (false:: ·)++(Wg (List.replicate l.length false)).map (true:: ·):=fun l=>by rw [Wg];simp
  cases b with
  | true =>
   rw [e0,ih,Yq]
   cases h:Yq bs with
   | none=>simp
   | some r=>simp [e0]
  | false =>
   rw [e1,ih,Yq]
   cases h:Yq bs with
   | none=>simp [e0]
   | some r =>
    have hl:r.length=bs.length:=nlen bs r h;simp [e1,hl]
where nlen : ∀(l r:List Bool),Yq l=some r->r.length=l.length
 | [],r,h=>by simp [Yq] at h
 | b::bs,r,h=>by
  rw [Yq] at h
  cases h2:Yq bs with
  | none =>
   grind
  | some q =>
   rw [h2] at h;simp at h;subst h;simp [nlen bs q h2]
theorem ML {n:Nat} : ∀(j k:Nat),(∀q,k<=q->choices q= [false,true])->I1 choices j k=Wg (List.replicate j false)
 | 0,k,_=>by simp [I1,Wg]
 | j+1,k,h=>by
  rw [I1,h k (ZF _),ML (n:=n) j (k+1) (fun q hq=>h q Za),JS,Wg];simp
end
end Go.Proofs.YtjkkdmeebhjaiaaGreatDoor.K
