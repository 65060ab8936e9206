/- Declarations that the closing texts need, part 20: joined by tools/slim.py. -/
import Derived.Test.YtiigdaohjanidaaGreatDoorP19
import Derived.Test.YtiigdaohjanidaaGreatDoorRows
set_option linter.unusedVariables false
set_option linter.unusedSimpArgs false
namespace Go.Proofs.YtiigdaohjanidaaGreatDoor.K
open Go Go.AM Go.Proofs
theorem IJ : Tryz.prog.cellsOf 3=1:=Ze
theorem ZhU : Tryz.prog.cellsOf 4=1:=Ze
theorem Zh3 : Tryz.prog.cellsOf 9=1:=Ze
theorem ZhQ : Tryz.prog.cellsOf 30=1:=Ze
theorem dZ : Tryz.prog.cellsOf 31=1:=Ze
theorem vR : Tryz.prog.cellsOf 33=2:=Ze
theorem wI : DM Tryz.prog 33=some [(0,30),(1,31)]:=Ze
theorem ZhR : Tryz.prog.cellsOf 35=1:=Ze
theorem ZhS : Tryz.prog.cellsOf 36=1:=Ze
theorem vS : Tryz.prog.cellsOf 38=2:=Ze
theorem ZjL : DM Tryz.prog 38=some [(0,35),(1,36)]:=Ze
theorem ZhT : Tryz.prog.cellsOf 39=1:=Ze
theorem ZhV : Tryz.prog.cellsOf 40=1:=Ze
theorem ZhW : Tryz.prog.cellsOf 41=1:=Ze
theorem vT : Tryz.prog.cellsOf 43=6:=Ze
theorem ZjM : DM Tryz.prog 43=some [(0,38),(2,39),(3,40),(4,41),(5,41)]:=Ze
theorem ZhX : Tryz.prog.cellsOf 46=1:=Ze
theorem ZhY : Tryz.prog.cellsOf 47=1:=Ze
theorem ZhZ : Tryz.prog.cellsOf 49=4:=Ze
theorem wJ : DM Tryz.prog 49=some [(0,3),(1,3),(2,46),(3,47)]:=Ze
theorem vU : Tryz.prog.cellsOf 57=4:=Ze
theorem ZjN : DM Tryz.prog 57=some [(0,3),(1,3),(2,3),(3,3)]:=Ze
theorem Zh0 : Tryz.prog.cellsOf 59=16:=Ze
theorem wK : DM Tryz.prog 59=some [(0,9),(1,31),(2,57),(6,57),(10,3),(11,3),(12,3),(13,3),(14,3),(15,4)]:=Ze
theorem Zh1 : Tryz.prog.cellsOf 63=15:=Ze
theorem wL : DM Tryz.prog 63=some [(0,43),(6,33),(8,3),(9,43)]:=Ze
theorem Zh2 : Tryz.prog.cellsOf 82=14:=Ze
theorem wM : DM Tryz.prog 82=some [(0,9),(1,3),(2,3),(3,3),(4,31),(5,3),(6,3),(7,3),(8,3),(9,3),(10,3),(11,3),(12,3),(13,3)]:=Ze
theorem yR : Tryz.prog.cellsOf 126=2:=Ze
theorem kQ : DM Tryz.prog 126=some [(0,3),(1,4)]:=Ze
theorem yS : Tryz.prog.cellsOf 127=1:=Ze
theorem yT : Tryz.prog.cellsOf 129=6:=Ze
theorem kR : DM Tryz.prog 129=some [(0,3),(1,3),(2,3),(3,3),(4,127),(5,127)]:=Ze
theorem yU : Tryz.prog.cellsOf 132=2:=Ze
theorem kS : DM Tryz.prog 132=some [(0,3),(1,3)]:=Ze
theorem yV : Tryz.prog.cellsOf 188=2:=Ze
theorem kT : DM Tryz.prog 188=some [(0,3),(1,3)]:=Ze
mutual
theorem OK {H:Type} :(d:DataW H)->Gu d<=Rows.uptoBulk d
 | .lit l=>by cases l<;>simp [Gu,Rows.uptoBulk]
 | .nil=>by simp [Gu,Rows.uptoBulk]
 | .ptr d=>by have:=OK d;simp only [Gu,Rows.uptoBulk];omega
 | .slice es sp=>by have:=BP es;have:=BP sp;simp only [Gu,Rows.uptoBulk];omega
 | .agg ps=>by have:=BP ps;simp only [Gu,Rows.uptoBulk];omega
 | .iface _ d=>by have:=OK d;simp only [Gu,Rows.uptoBulk];omega
 | .map es=>by simp only [Gu,Rows.uptoBulk];omega
 | .held h=>by simp [Gu,Rows.uptoBulk]
theorem BP {H:Type} :(l:List (DataW H))->Kn l<=Rows.uptoBulkAll l
 | []=>by simp [Kn,Rows.uptoBulkAll]
 | d::r=>by have:=OK d;have:=BP r;simp only [Kn,Rows.uptoBulkAll];omega
end
theorem PD {H:Type} {l:List (DataW H)} (h:Rows.uptoSmall H l=true):Kn l<=1048576:=by
 have h1:=BP l;have h2:Rows.uptoBulkAll l<=1048576:=Cf h;omega
abbrev Uo (n:Int):Prop:= -9223372036854775808<=n/\n<=9223372036854775807
def eI (n:Int):PV:= .int .i64 n
def eB (b:Bool):PV:= .bool b
def eS (s:List UInt8):PV:= .str s
def eP (p:Int×Int):PV:= .agg [.int .i64 p.1,.int .i64 p.2]
@[go_sem] theorem ZpI (n:Int):eI n= .int .i64 n:=Zl rfl rfl
@[go_sem] theorem ZpG (b:Bool):eB b= .bool b:=Zl rfl rfl
@[go_sem] theorem ZpL (s:List UInt8):eS s= .str s:=Zl rfl rfl
@[go_sem] theorem ZpJ (p:Int×Int):eP p= .agg [.int .i64 p.1,.int .i64 p.2]:=Zl rfl rfl
@[go_sem] theorem Zlp (l:List Bool):EJ 1 (l.map eB)=true:=BA (f:=eB) (S:=1) (fun _=>rfl) l
@[go_sem] theorem Zn4 (l:List Bool):Cs 1 (l.map eB)=true:=JP fun _=>rfl
theorem E7 {B xs} (h: ∀y∈xs,FitV Tryz.prog B 3 y): ∃l:List Int,xs=l.map eI/\ ∀n∈l,Uo n :=
 WG (f:=eI) fun y hy=>by
  obtain ⟨n,rfl,w⟩:=qE Tryz.underlying3 (h y hy);exact ⟨n,rfl,Xu w⟩
theorem Tf {B xs} (h: ∀y∈xs,FitV Tryz.prog B 4 y): ∃l:List Bool,xs=l.map eB/\ ∀b∈l,True :=
 WG (f:=eB) fun y hy=>by
  obtain ⟨b,rfl⟩:=fR Tryz.underlying4 (h y hy);exact ⟨b,rfl,trivial⟩
theorem fS {B xs} (h: ∀y∈xs,FitV Tryz.prog B 9 y): ∃l:List (List UInt8),xs=l.map eS/\ ∀s∈l,s.length<=B :=
 WG (f:=eS) fun y hy=>by
  obtain ⟨s,rfl,w,_⟩:=qF Tryz.underlying9 (h y hy);exact ⟨s,rfl,w⟩
theorem iP {α:Type} {l:List α} (h:l.length=2): ∃a0 a1,l= [a0,a1]:=by
 match l,h with | [a0,a1],_=>simp
theorem Zjn {α:Type} {l:List α} (h:l.length=6): ∃a0 a1 a2 a3 a4 a5,l= [a0,a1,a2,a3,a4,a5]:=by
 match l,h with | [a0,a1,a2,a3,a4,a5],_=>simp
theorem Zjj {α:Type} {l:List α} (h:l.length=14): ∃a0 a1 a2 a3 a4 a5 a6 a7 a8 a9 a10 a11 a12 a13,l= [a0,a1,a2,a3,a4,a5,a6,a7,a8,a9,a10,a11,a12,a13]:=by
 match l,h with | [a0,a1,a2,a3,a4,a5,a6,a7,a8,a9,a10,a11,a12,a13],_=>simp
theorem Zjm {α:Type} {l:List α} (h:l.length=4): ∃a0 a1 a2 a3,l= [a0,a1,a2,a3]:=by
 match l,h with | [a0,a1,a2,a3],_=>simp
theorem Zjl {α:Type} {l:List α} (h:l.length=16): ∃a0 a1 a2 a3 a4 a5 a6 a7 a8 a9 a10 a11 a12 a13 a14 a15,l= [a0,a1,a2,a3,a4,a5,a6,a7,a8,a9,a10,a11,a12,a13,a14,a15]:=by
 match l,h with | [a0,a1,a2,a3,a4,a5,a6,a7,a8,a9,a10,a11,a12,a13,a14,a15],_=>grind
structure Pt where
 t:Int
 a:Int
 deriving Inhabited
def cPt (x:Pt):List PV:= [.int .i64 x.t,.int .i64 x.a]
def Hd (x:Pt):PV:= .agg [.int .i64 x.t,.int .i64 x.a]
@[go_sem] theorem Znv (x:Pt):Hd x= .agg [.int .i64 x.t,.int .i64 x.a]:=Zl rfl rfl
def Pt.wf (B:Nat) (x:Pt):Prop:=Uo x.t/\Uo x.a
theorem qH {B m cs} (h:YX Tryz.prog B m 188 cs): ∃x:Pt,cs=cPt x/\x.wf B:=by
 obtain ⟨h1,m',h2⟩:=Y6 kT yV h;obtain ⟨a0,a1,rfl⟩:=iP h1;obtain ⟨n0,e0,w0⟩:=ZR Tryz.underlying3 (h2 (0,3) Zb);obtain ⟨n1,e1,w1⟩:=ZR Tryz.underlying3 (h2 (1,3) Zb);simp [IJ] at e0 e1;subst e0;subst e1;exact ⟨⟨n0,n1⟩,rfl,Xu w0,Xu w1⟩
theorem fQ {B v} (h:FitV Tryz.prog B 188 v): ∃x:Pt,v=Hd x/\x.wf B:=by
 obtain ⟨k,cs,h,e⟩:=h.out;obtain ⟨x,rfl,hw⟩:=qH h;exact ⟨x,e.trans (by rw [U7,if_pos (Wx kT)];rfl),hw⟩
structure Arc where
 src:Int
 dst:Int
 prof:Int
 miles:Int
 travel_c:Bool
 travel:List (Pt)
 slow_c:Bool
 slow:List (Pt)
 deriving Inhabited
def Znq (x:Arc):List PV:= [.int .i64 x.src,.int .i64 x.dst,.int .i64 x.prof,.int .i64 x.miles,.list x.travel_c (x.travel.map Hd),.list x.slow_c (x.slow.map Hd)]
def WV (x:Arc):PV:= .agg [.int .i64 x.src,.int .i64 x.dst,.int .i64 x.prof,.int .i64 x.miles,.list x.travel_c (x.travel.map Hd),.list x.slow_c (x.slow.map Hd)]
@[go_sem] theorem Zly (x:Arc):WV x= .agg [.int .i64 x.src,.int .i64 x.dst,.int .i64 x.prof,.int .i64 x.miles,.list x.travel_c (x.travel.map Hd),.list x.slow_c (x.slow.map Hd)]:=Zl rfl rfl
def Arc.wf (B:Nat) (x:Arc):Prop:=Uo x.src/\Uo x.dst/\Uo x.prof/\Uo x.miles/\x.travel.length<=B/\(∀y∈x.travel,Pt.wf B y)/\x.slow.length<=B/\(∀y∈x.slow,Pt.wf B y)
theorem fV {B m cs} (h:YX Tryz.prog B m 129 cs): ∃x:Arc,cs=Znq x/\x.wf B:=by
 obtain ⟨h1,m',h2⟩:=Y6 kR yT h;obtain ⟨a0,a1,a2,a3,a4,a5,rfl⟩:=Zjn h1;obtain ⟨n0,e0,w0⟩:=ZR Tryz.underlying3 (h2 (0,3) Zb);obtain ⟨n1,e1,w1⟩:=ZR Tryz.underlying3 (h2 (1,3) Zb);obtain ⟨n2,e2,w2⟩:=ZR Tryz.underlying3 (h2 (2,3) Zb);obtain ⟨n3,e3,w3⟩:=ZR Tryz.underlying3 (h2 (3,3) Zb);obtain ⟨y4,e4,w4,_,z4⟩:=XT Tryz.underlying127 (h2 (4,127) Zb);obtain ⟨n4,rfl,u4⟩:=WG (f:=Hd) fun y hy=>fQ (z4 y hy);obtain ⟨y5,e5,w5,_,z5⟩:=XT Tryz.underlying127 (h2 (5,127) Zb)
 obtain ⟨n5,rfl,u5⟩:=WG (f:=Hd) fun y hy=>fQ (z5 y hy);simp [yS,IJ] at e0 e1 e2 e3 e4 e5;subst e0;subst e1;subst e2;subst e3;subst e4;subst e5;exact ⟨⟨n0,n1,n2,n3,false,n4,false,n5⟩,rfl,Xu w0,Xu w1,Xu w2,Xu w3,by grind,u4,by grind,u5⟩
theorem pX {B v} (h:FitV Tryz.prog B 129 v): ∃x:Arc,v=WV x/\x.wf B:=by
 obtain ⟨k,cs,h,e⟩:=h.out;obtain ⟨x,rfl,hw⟩:=fV h;exact ⟨x,e.trans (by rw [U7,if_pos (Wx kR)];rfl),hw⟩
structure Net where
 places_c:Bool
 places:List (List UInt8)
 arcs_c:Bool
 arcs:List (Arc)
 deriving Inhabited
def ZhO (x:Net):List PV:= [.list x.places_c (x.places.map eS),.list x.arcs_c (x.arcs.map WV)]
def BQ (x:Net):PV:= .agg [.list x.places_c (x.places.map eS),.list x.arcs_c (x.arcs.map WV)]
@[go_sem] theorem ZlC (x:Net):BQ x= .agg [.list x.places_c (x.places.map eS),.list x.arcs_c (x.arcs.map WV)]:=Zl rfl rfl
def Net.wf (B:Nat) (x:Net):Prop:=x.places.length<=B/\(∀s∈x.places,s.length<=B)/\x.arcs.length<=B/\(∀y∈x.arcs,Arc.wf B y)
theorem fX {B m cs} (h:YX Tryz.prog B m 38 cs): ∃x:Net,cs=ZhO x/\x.wf B:=by
 obtain ⟨h1,m',h2⟩:=Y6 ZjL vS h;obtain ⟨a0,a1,rfl⟩:=iP h1;obtain ⟨y0,e0,w0,_,z0⟩:=XT Tryz.underlying35 (h2 (0,35) Zb);obtain ⟨n0,rfl,u0⟩:=fS z0;obtain ⟨y1,e1,w1,_,z1⟩:=XT Tryz.underlying36 (h2 (1,36) Zb);obtain ⟨n1,rfl,u1⟩:=WG (f:=WV) fun y hy=>pX (z1 y hy);simp [ZhS,ZhR] at e0 e1;subst e0;subst e1;exact ⟨⟨false,n0,false,n1⟩,rfl,by grind,u0,by grind,u1⟩
structure Typ where
 name:List UInt8
 count:Int
 src:Int
 dst:Int
 cap_c:Bool
 cap:List (Int)
 skills:Int
 prof:Int
 opn:Int
 cls:Int
 drive:Int
 rest:Int
 fixed:Int
 perMile:Int
 perTick:Int
 deriving Inhabited
def Znt (x:Typ):List PV:= [.str x.name,.int .i64 x.count,.int .i64 x.src,.int .i64 x.dst,.list x.cap_c (x.cap.map eI),.int .i64 x.skills,.int .i64 x.prof,.int .i64 x.opn,.int .i64 x.cls,.int .i64 x.drive,.int .i64 x.rest,.int .i64 x.fixed,.int .i64 x.perMile,.int .i64 x.perTick]
def WW (x:Typ):PV:= .agg [.str x.name,.int .i64 x.count,.int .i64 x.src,.int .i64 x.dst,.list x.cap_c (x.cap.map eI),.int .i64 x.skills,.int .i64 x.prof,.int .i64 x.opn,.int .i64 x.cls,.int .i64 x.drive,.int .i64 x.rest,.int .i64 x.fixed,.int .i64 x.perMile,.int .i64 x.perTick]
@[go_sem] theorem ZlL (x:Typ):WW x= .agg [.str x.name,.int .i64 x.count,.int .i64 x.src,.int .i64 x.dst,.list x.cap_c (x.cap.map eI),.int .i64 x.skills,.int .i64 x.prof,.int .i64 x.opn,.int .i64 x.cls,.int .i64 x.drive,.int .i64 x.rest,.int .i64 x.fixed,.int .i64 x.perMile,.int .i64 x.perTick]:=Zl rfl rfl
def Typ.wf (B:Nat) (x:Typ):Prop:=x.name.length<=B/\Uo x.count/\Uo x.src/\Uo x.dst/\x.cap.length<=B/\(∀n∈x.cap,Uo n)/\Uo x.skills/\Uo x.prof/\Uo x.opn/\Uo x.cls/\Uo x.drive/\Uo x.rest/\Uo x.fixed/\Uo x.perMile/\Uo x.perTick
theorem gA {B m cs} (h:YX Tryz.prog B m 82 cs): ∃x:Typ,cs=Znt x/\x.wf B:=by
 obtain ⟨h1,m',h2⟩:=Y6 wM Zh2 h;obtain ⟨a0,a1,a2,a3,a4,a5,a6,a7,a8,a9,a10,a11,a12,a13,rfl⟩:=Zjj h1;obtain ⟨n0,e0,w0,_⟩:=E8 Tryz.underlying9 (h2 (0,9) Zb);obtain ⟨n1,e1,w1⟩:=ZR Tryz.underlying3 (h2 (1,3) Zb);obtain ⟨n2,e2,w2⟩:=ZR Tryz.underlying3 (h2 (2,3) Zb);obtain ⟨n3,e3,w3⟩:=ZR Tryz.underlying3 (h2 (3,3) Zb);obtain ⟨y4,e4,w4,_,z4⟩:=XT Tryz.underlying31 (h2 (4,31) Zb);obtain ⟨n4,rfl,u4⟩:=E7 z4;obtain ⟨n5,e5,w5⟩:=ZR Tryz.underlying3 (h2 (5,3) Zb)
 obtain ⟨n6,e6,w6⟩:=ZR Tryz.underlying3 (h2 (6,3) Zb);obtain ⟨n7,e7,w7⟩:=ZR Tryz.underlying3 (h2 (7,3) Zb);obtain ⟨n8,e8,w8⟩:=ZR Tryz.underlying3 (h2 (8,3) Zb);obtain ⟨n9,e9,w9⟩:=ZR Tryz.underlying3 (h2 (9,3) Zb);obtain ⟨n10,e10,w10⟩:=ZR Tryz.underlying3 (h2 (10,3) Zb);obtain ⟨n11,e11,w11⟩:=ZR Tryz.underlying3 (h2 (11,3) Zb);obtain ⟨n12,e12,w12⟩:=ZR Tryz.underlying3 (h2 (12,3) Zb);obtain ⟨n13,e13,w13⟩:=ZR Tryz.underlying3 (h2 (13,3) Zb);simp [dZ,IJ,Zh3] at e0 e1 e2 e3 e4 e5 e6 e7 e8 e9 e10 e11 e12 e13
 subst e0;subst e1;subst e2;subst e3;subst e4;subst e5;subst e6;subst e7;subst e8;subst e9;subst e10;subst e11;subst e12;subst e13;exact ⟨⟨n0,n1,n2,n3,false,n4,n5,n6,n7,n8,n9,n10,n11,n12,n13⟩,rfl,w0,Xu w1,Xu w2,Xu w3,by grind,u4,Xu w5,Xu w6,Xu w7,Xu w8,Xu w9,Xu w10,Xu w11,Xu w12,Xu w13⟩
theorem qC {B v} (h:FitV Tryz.prog B 82 v): ∃x:Typ,v=WW x/\x.wf B:=by
 obtain ⟨k,cs,h,e⟩:=h.out;obtain ⟨x,rfl,hw⟩:=gA h;exact ⟨x,e.trans (by rw [U7,if_pos (Wx wM)];rfl),hw⟩
structure Stp where
 place:Int
 opn:Int
 cls:Int
 serv:Int
 deriving Inhabited
def yQ (x:Stp):List PV:= [.int .i64 x.place,.int .i64 x.opn,.int .i64 x.cls,.int .i64 x.serv]
def IS (x:Stp):PV:= .agg [.int .i64 x.place,.int .i64 x.opn,.int .i64 x.cls,.int .i64 x.serv]
@[go_sem] theorem ZlI (x:Stp):IS x= .agg [.int .i64 x.place,.int .i64 x.opn,.int .i64 x.cls,.int .i64 x.serv]:=Zl rfl rfl
def Stp.wf (B:Nat) (x:Stp):Prop:=Uo x.place/\Uo x.opn/\Uo x.cls/\Uo x.serv
theorem ML {B m cs} (h:YX Tryz.prog B m 57 cs): ∃x:Stp,cs=yQ x/\x.wf B:=by
 obtain ⟨h1,m',h2⟩:=Y6 ZjN vU h;obtain ⟨a0,a1,a2,a3,rfl⟩:=Zjm h1;obtain ⟨n0,e0,w0⟩:=ZR Tryz.underlying3 (h2 (0,3) Zb);obtain ⟨n1,e1,w1⟩:=ZR Tryz.underlying3 (h2 (1,3) Zb);obtain ⟨n2,e2,w2⟩:=ZR Tryz.underlying3 (h2 (2,3) Zb);obtain ⟨n3,e3,w3⟩:=ZR Tryz.underlying3 (h2 (3,3) Zb);simp [IJ] at e0 e1 e2 e3;subst e0;subst e1;subst e2;subst e3;exact ⟨⟨n0,n1,n2,n3⟩,rfl,Xu w0,Xu w1,Xu w2,Xu w3⟩
theorem vW {B v} (h:FitV Tryz.prog B 132 v): ∃x:Int×Int,v=eP x/\Uo x.1/\Uo x.2:=by
 obtain ⟨k,cs,h,e⟩:=h.out;obtain ⟨h1,m',h2⟩:=Y6 kS yU h;obtain ⟨a,b,rfl⟩:=iP h1;obtain ⟨n0,e0,w0⟩:=ZR Tryz.underlying3 (h2 (0,3) Zb);obtain ⟨n1,e1,w1⟩:=ZR Tryz.underlying3 (h2 (1,3) Zb);simp [IJ] at e0 e1;subst e0;subst e1;exact ⟨(n0,n1),e.trans (by rw [U7,if_pos (Wx kS)];rfl),Xu w0,Xu w1⟩
structure Ord where
 name:List UInt8
 load_c:Bool
 load:List (Int)
 pick:Stp
 drp:Stp
 skills:Int
 penalty:Int
 split:Int
 last:Int
 now:Int
 off:Bool
 deriving Inhabited
def Znr (x:Ord):List PV:= [.str x.name,.list x.load_c (x.load.map eI),.int .i64 x.pick.place,.int .i64 x.pick.opn,.int .i64 x.pick.cls,.int .i64 x.pick.serv,.int .i64 x.drp.place,.int .i64 x.drp.opn,.int .i64 x.drp.cls,.int .i64 x.drp.serv,.int .i64 x.skills,.int .i64 x.penalty,.int .i64 x.split,.int .i64 x.last,.int .i64 x.now,.bool x.off]
def eOrd (x:Ord):PV:= .agg [.str x.name,.list x.load_c (x.load.map eI),.int .i64 x.pick.place,.int .i64 x.pick.opn,.int .i64 x.pick.cls,.int .i64 x.pick.serv,.int .i64 x.drp.place,.int .i64 x.drp.opn,.int .i64 x.drp.cls,.int .i64 x.drp.serv,.int .i64 x.skills,.int .i64 x.penalty,.int .i64 x.split,.int .i64 x.last,.int .i64 x.now,.bool x.off]
@[go_sem] theorem D4 (x:Ord):eOrd x= .agg [.str x.name,.list x.load_c (x.load.map eI),.int .i64 x.pick.place,.int .i64 x.pick.opn,.int .i64 x.pick.cls,.int .i64 x.pick.serv,.int .i64 x.drp.place,.int .i64 x.drp.opn,.int .i64 x.drp.cls,.int .i64 x.drp.serv,.int .i64 x.skills,.int .i64 x.penalty,.int .i64 x.split,.int .i64 x.last,.int .i64 x.now,.bool x.off]:=Zl rfl rfl
@[go_sem] theorem ZjC (l:List Ord):Cs 16 (l.map eOrd)=true:=JP fun _=>rfl
def Ord.wf (B:Nat) (x:Ord):Prop:=x.name.length<=B/\x.load.length<=B/\(∀n∈x.load,Uo n)/\Stp.wf B x.pick/\Stp.wf B x.drp/\Uo x.skills/\Uo x.penalty/\Uo x.split/\Uo x.last/\Uo x.now
theorem fY {B m cs} (h:YX Tryz.prog B m 59 cs): ∃x:Ord,cs=Znr x/\x.wf B:=by
 obtain ⟨h1,m',h2⟩:=Y6 wK Zh0 h;obtain ⟨a0,a1,a2,a3,a4,a5,a6,a7,a8,a9,a10,a11,a12,a13,a14,a15,rfl⟩:=Zjl h1;obtain ⟨n0,e0,w0,_⟩:=E8 Tryz.underlying9 (h2 (0,9) Zb);obtain ⟨y1,e1,w1,_,z1⟩:=XT Tryz.underlying31 (h2 (1,31) Zb);obtain ⟨n1,rfl,u1⟩:=E7 z1;obtain ⟨n2,e2,w2⟩:=ML (h2 (2,57) Zb);obtain ⟨n3,e3,w3⟩:=ML (h2 (6,57) Zb);obtain ⟨n4,e4,w4⟩:=ZR Tryz.underlying3 (h2 (10,3) Zb);obtain ⟨n5,e5,w5⟩:=ZR Tryz.underlying3 (h2 (11,3) Zb);obtain ⟨n6,e6,w6⟩:=ZR Tryz.underlying3 (h2 (12,3) Zb)
 obtain ⟨n7,e7,w7⟩:=ZR Tryz.underlying3 (h2 (13,3) Zb);obtain ⟨n8,e8,w8⟩:=ZR Tryz.underlying3 (h2 (14,3) Zb);obtain ⟨n9,e9⟩:=C5 Tryz.underlying4 (h2 (15,4) Zb);simp [dZ,vU,ZhU,IJ,Zh3,yQ,yQ] at e0 e1 e2 e3 e4 e5 e6 e7 e8 e9;subst e0;subst e1;obtain ⟨rfl,rfl,rfl,rfl⟩:=e2;obtain ⟨rfl,rfl,rfl,rfl⟩:=e3;subst e4;subst e5;subst e6;subst e7;subst e8;subst e9;exact ⟨⟨n0,false,n1,n2,n3,n4,n5,n6,n7,n8,n9⟩,rfl,w0,by grind,u1,w2,w3,Xu w4,Xu w5,Xu w6,Xu w7,Xu w8⟩
theorem pZ {B v} (h:FitV Tryz.prog B 59 v): ∃x:Ord,v=eOrd x/\x.wf B:=by
 obtain ⟨k,cs,h,e⟩:=h.out;obtain ⟨x,rfl,hw⟩:=fY h;exact ⟨x,e.trans (by rw [U7,if_pos (Wx wK)];rfl),hw⟩
structure Inst where
 net:Net
 types_c:Bool
 types:List (Typ)
 orders_c:Bool
 orders:List (Ord)
 apart_c:Bool
 apart:List (Int×Int)
 before_c:Bool
 before:List (Int×Int)
 deriving Inhabited
def dX (x:Inst):List PV:= [.list x.net.places_c (x.net.places.map eS),.list x.net.arcs_c (x.net.arcs.map WV),.list x.types_c (x.types.map WW),.list x.orders_c (x.orders.map eOrd),.list x.apart_c (x.apart.map eP),.list x.before_c (x.before.map eP)]
def ZE (x:Inst):PV:= .agg [.list x.net.places_c (x.net.places.map eS),.list x.net.arcs_c (x.net.arcs.map WV),.list x.types_c (x.types.map WW),.list x.orders_c (x.orders.map eOrd),.list x.apart_c (x.apart.map eP),.list x.before_c (x.before.map eP)]
@[go_sem] theorem Zh6 (x:Inst):ZE x= .agg [.list x.net.places_c (x.net.places.map eS),.list x.net.arcs_c (x.net.arcs.map WV),.list x.types_c (x.types.map WW),.list x.orders_c (x.orders.map eOrd),.list x.apart_c (x.apart.map eP),.list x.before_c (x.before.map eP)]:=Zl rfl rfl
def Inst.wf (B:Nat) (x:Inst):Prop:=Net.wf B x.net/\x.types.length<=B/\(∀y∈x.types,Typ.wf B y)/\x.orders.length<=B/\(∀y∈x.orders,Ord.wf B y)/\x.apart.length<=B/\(∀p∈x.apart,Uo p.1/\Uo p.2)/\x.before.length<=B/\(∀p∈x.before,Uo p.1/\Uo p.2)
theorem Hh {B m cs} (h:YX Tryz.prog B m 43 cs): ∃x:Inst,cs=dX x/\x.wf B:=by
 obtain ⟨h1,m',h2⟩:=Y6 ZjM vT h;obtain ⟨a0,a1,a2,a3,a4,a5,rfl⟩:=Zjn h1;obtain ⟨n0,e0,w0⟩:=fX (h2 (0,38) Zb);obtain ⟨y1,e1,w1,_,z1⟩:=XT Tryz.underlying39 (h2 (2,39) Zb);obtain ⟨n1,rfl,u1⟩:=WG (f:=WW) fun y hy=>qC (z1 y hy);obtain ⟨y2,e2,w2,_,z2⟩:=XT Tryz.underlying40 (h2 (3,40) Zb);obtain ⟨n2,rfl,u2⟩:=WG (f:=eOrd) fun y hy=>pZ (z2 y hy);obtain ⟨y3,e3,w3,_,z3⟩:=XT Tryz.underlying41 (h2 (4,41) Zb);obtain ⟨n3,rfl,u3⟩:=WG (f:=eP) fun y hy=>vW (z3 y hy)
 obtain ⟨y4,e4,w4,_,z4⟩:=XT Tryz.underlying41 (h2 (5,41) Zb);obtain ⟨n4,rfl,u4⟩:=WG (f:=eP) fun y hy=>vW (z4 y hy);simp [ZhW,ZhV,ZhT,vS,ZhO] at e0 e1 e2 e3 e4;obtain ⟨rfl,rfl⟩:=e0;subst e1;subst e2;subst e3;subst e4;exact ⟨⟨n0,false,n1,false,n2,false,n3,false,n4⟩,rfl,w0,by grind,u1,by grind,u2,by grind,u3,by grind,u4⟩
structure Vis where
 order:Int
 drp:Bool
 deriving Inhabited
def Znu (x:Vis):List PV:= [.int .i64 x.order,.bool x.drp]
def Z1 (x:Vis):PV:= .agg [.int .i64 x.order,.bool x.drp]
@[go_sem] theorem Rn (x:Vis):Z1 x= .agg [.int .i64 x.order,.bool x.drp]:=Zl rfl rfl
@[go_sem] theorem Zen (l:List Vis):EJ 2 (l.map Z1)=true:=BA (f:=Z1) (S:=2) (fun _=>rfl) l
@[go_sem] theorem ZjF (l:List Vis):Cs 2 (l.map Z1)=true:=JP fun _=>rfl
def Vis.wf (B:Nat) (x:Vis):Prop:=Uo x.order
theorem gB {B m cs} (h:YX Tryz.prog B m 126 cs): ∃x:Vis,cs=Znu x/\x.wf B:=by
 obtain ⟨h1,m',h2⟩:=Y6 kQ yR h;obtain ⟨a0,a1,rfl⟩:=iP h1;obtain ⟨n0,e0,w0⟩:=ZR Tryz.underlying3 (h2 (0,3) Zb);obtain ⟨n1,e1⟩:=C5 Tryz.underlying4 (h2 (1,4) Zb);simp [ZhU,IJ] at e0 e1;subst e0;subst e1;exact ⟨⟨n0,n1⟩,rfl,Xu w0⟩
theorem qD {B v} (h:FitV Tryz.prog B 126 v): ∃x:Vis,v=Z1 x/\x.wf B:=by
 obtain ⟨k,cs,h,e⟩:=h.out;obtain ⟨x,rfl,hw⟩:=gB h;exact ⟨x,e.trans (by rw [U7,if_pos (Wx kQ)];rfl),hw⟩
structure Rte where
 typ:Int
 start:Int
 rests_c:Bool
 rests:List (Bool)
 visits_c:Bool
 visits:List (Vis)
 deriving Inhabited
def Zns (x:Rte):List PV:= [.int .i64 x.typ,.int .i64 x.start,.list x.rests_c (x.rests.map eB),.list x.visits_c (x.visits.map Z1)]
def Z0 (x:Rte):PV:= .agg [.int .i64 x.typ,.int .i64 x.start,.list x.rests_c (x.rests.map eB),.list x.visits_c (x.visits.map Z1)]
@[go_sem] theorem ZlE (x:Rte):Z0 x= .agg [.int .i64 x.typ,.int .i64 x.start,.list x.rests_c (x.rests.map eB),.list x.visits_c (x.visits.map Z1)]:=Zl rfl rfl
@[go_sem] theorem Zem (l:List Rte):EJ 4 (l.map Z0)=true:=BA (f:=Z0) (S:=4) (fun _=>rfl) l
@[go_sem] theorem ZjD (l:List Rte):Cs 4 (l.map Z0)=true:=JP fun _=>rfl
def Rte.wf (B:Nat) (x:Rte):Prop:=Uo x.typ/\Uo x.start/\x.rests.length<=B/\(∀b∈x.rests,True)/\x.visits.length<=B/\(∀y∈x.visits,Vis.wf B y)
theorem fZ {B m cs} (h:YX Tryz.prog B m 49 cs): ∃x:Rte,cs=Zns x/\x.wf B:=by
 obtain ⟨h1,m',h2⟩:=Y6 wJ ZhZ h;obtain ⟨a0,a1,a2,a3,rfl⟩:=Zjm h1;obtain ⟨n0,e0,w0⟩:=ZR Tryz.underlying3 (h2 (0,3) Zb);obtain ⟨n1,e1,w1⟩:=ZR Tryz.underlying3 (h2 (1,3) Zb);obtain ⟨y2,e2,w2,_,z2⟩:=XT Tryz.underlying46 (h2 (2,46) Zb);obtain ⟨n2,rfl,u2⟩:=Tf z2;obtain ⟨y3,e3,w3,_,z3⟩:=XT Tryz.underlying47 (h2 (3,47) Zb);obtain ⟨n3,rfl,u3⟩:=WG (f:=Z1) fun y hy=>qD (z3 y hy);simp [ZhY,ZhX,IJ] at e0 e1 e2 e3;subst e0;subst e1;subst e2;subst e3;exact ⟨⟨n0,n1,false,n2,false,n3⟩,rfl,Xu w0,Xu w1,by grind,u2,by grind,u3⟩
theorem qB {B v} (h:FitV Tryz.prog B 49 v): ∃x:Rte,v=Z0 x/\x.wf B:=by
 obtain ⟨k,cs,h,e⟩:=h.out;obtain ⟨x,rfl,hw⟩:=fZ h;exact ⟨x,e.trans (by rw [U7,if_pos (Wx wJ)];rfl),hw⟩
structure Tim where
 arr:Int
 beg:Int
 dep:Int
 rest:Bool
 deriving Inhabited
def eTim (x:Tim):PV:= .agg [.int .i64 x.arr,.int .i64 x.beg,.int .i64 x.dep,.bool x.rest]
@[go_sem] theorem ZlJ (x:Tim):eTim x= .agg [.int .i64 x.arr,.int .i64 x.beg,.int .i64 x.dep,.bool x.rest]:=Zl rfl rfl
@[go_sem] theorem ZjE (l:List Tim):Cs 4 (l.map eTim)=true:=JP fun _=>rfl
structure She where
 rest:Bool
 dep:Int
 times_c:Bool
 times:List (Tim)
 fin:Int
 miles:Int
 deriving Inhabited
def BR (x:She):PV:= .agg [.bool x.rest,.int .i64 x.dep,.list x.times_c (x.times.map eTim),.int .i64 x.fin,.int .i64 x.miles]
@[go_sem] theorem ZlG (x:She):BR x= .agg [.bool x.rest,.int .i64 x.dep,.list x.times_c (x.times.map eTim),.int .i64 x.fin,.int .i64 x.miles]:=Zl rfl rfl
structure Sco where
 cost:Int
 moved:Int
 other:Int
 work:Int
 deriving Inhabited
def AQ (x:Sco):PV:= .agg [.int .i64 x.cost,.int .i64 x.moved,.int .i64 x.other,.int .i64 x.work]
@[go_sem] theorem ZlF (x:Sco):AQ x= .agg [.int .i64 x.cost,.int .i64 x.moved,.int .i64 x.other,.int .i64 x.work]:=Zl rfl rfl
structure Pln where
 routes_c:Bool
 routes:List (Rte)
 unserved_c:Bool
 unserved:List (Int)
 deriving Inhabited
def ZhP (x:Pln):List PV:= [.list x.routes_c (x.routes.map Z0),.list x.unserved_c (x.unserved.map eI)]
def Wh (x:Pln):PV:= .agg [.list x.routes_c (x.routes.map Z0),.list x.unserved_c (x.unserved.map eI)]
@[go_sem] theorem ZlD (x:Pln):Wh x= .agg [.list x.routes_c (x.routes.map Z0),.list x.unserved_c (x.unserved.map eI)]:=Zl rfl rfl
def Pln.wf (B:Nat) (x:Pln):Prop:=x.routes.length<=B/\(∀y∈x.routes,Rte.wf B y)/\x.unserved.length<=B/\(∀n∈x.unserved,Uo n)
theorem MK {B m cs} (h:YX Tryz.prog B m 33 cs): ∃x:Pln,cs=ZhP x/\x.wf B:=by
 obtain ⟨h1,m',h2⟩:=Y6 wI vR h;obtain ⟨a0,a1,rfl⟩:=iP h1;obtain ⟨y0,e0,w0,_,z0⟩:=XT Tryz.underlying30 (h2 (0,30) Zb);obtain ⟨n0,rfl,u0⟩:=WG (f:=Z0) fun y hy=>qB (z0 y hy);obtain ⟨y1,e1,w1,_,z1⟩:=XT Tryz.underlying31 (h2 (1,31) Zb);obtain ⟨n1,rfl,u1⟩:=E7 z1;simp [ZhQ,dZ] at e0 e1;subst e0;subst e1;exact ⟨⟨false,n0,false,n1⟩,rfl,by grind,u0,by grind,u1⟩
theorem qA {B v} (h:FitV Tryz.prog B 33 v): ∃x:Pln,v=Wh x/\x.wf B:=by
 obtain ⟨k,cs,h,e⟩:=h.out;obtain ⟨x,rfl,hw⟩:=MK h;exact ⟨x,e.trans (by rw [U7,if_pos (Wx wI)];rfl),hw⟩
structure Col where
 typ:Int
 set:Int
 price:Int
 route:Rte
 deriving Inhabited
def yP (x:Col):List PV:= [.int .i64 x.typ,.int .i64 x.set,.int .i64 x.price,.int .i64 x.route.typ,.int .i64 x.route.start,.list x.route.rests_c (x.route.rests.map eB),.list x.route.visits_c (x.route.visits.map Z1)]
def Yn (x:Col):PV:= .agg [.int .i64 x.typ,.int .i64 x.set,.int .i64 x.price,.int .i64 x.route.typ,.int .i64 x.route.start,.list x.route.rests_c (x.route.rests.map eB),.list x.route.visits_c (x.route.visits.map Z1)]
@[go_sem] theorem ZlA (x:Col):Yn x= .agg [.int .i64 x.typ,.int .i64 x.set,.int .i64 x.price,.int .i64 x.route.typ,.int .i64 x.route.start,.list x.route.rests_c (x.route.rests.map eB),.list x.route.visits_c (x.route.visits.map Z1)]:=Zl rfl rfl
@[go_sem] theorem ZjB (l:List Col):Cs 7 (l.map Yn)=true:=JP fun _=>rfl
structure Cas where
 x:Inst
 p:Pln
 now:Int
 y:Inst
 deriving Inhabited
def DR (x:Cas):List PV:= [.list x.x.net.places_c (x.x.net.places.map eS),.list x.x.net.arcs_c (x.x.net.arcs.map WV),.list x.x.types_c (x.x.types.map WW),.list x.x.orders_c (x.x.orders.map eOrd),.list x.x.apart_c (x.x.apart.map eP),.list x.x.before_c (x.x.before.map eP),.list x.p.routes_c (x.p.routes.map Z0),.list x.p.unserved_c (x.p.unserved.map eI),.int .i64 x.now,.list x.y.net.places_c (x.y.net.places.map eS),.list x.y.net.arcs_c (x.y.net.arcs.map WV),.list x.y.types_c (x.y.types.map WW),.list x.y.orders_c (x.y.orders.map eOrd),.list x.y.apart_c (x.y.apart.map eP),.list x.y.before_c (x.y.before.map eP)]
def pT (x:Cas):PV:= .agg [.list x.x.net.places_c (x.x.net.places.map eS),.list x.x.net.arcs_c (x.x.net.arcs.map WV),.list x.x.types_c (x.x.types.map WW),.list x.x.orders_c (x.x.orders.map eOrd),.list x.x.apart_c (x.x.apart.map eP),.list x.x.before_c (x.x.before.map eP),.list x.p.routes_c (x.p.routes.map Z0),.list x.p.unserved_c (x.p.unserved.map eI),.int .i64 x.now,.list x.y.net.places_c (x.y.net.places.map eS),.list x.y.net.arcs_c (x.y.net.arcs.map WV),.list x.y.types_c (x.y.types.map WW),.list x.y.orders_c (x.y.orders.map eOrd),.list x.y.apart_c (x.y.apart.map eP),.list x.y.before_c (x.y.before.map eP)]
@[go_sem] theorem Zlz (x:Cas):pT x= .agg [.list x.x.net.places_c (x.x.net.places.map eS),.list x.x.net.arcs_c (x.x.net.arcs.map WV),.list x.x.types_c (x.x.types.map WW),.list x.x.orders_c (x.x.orders.map eOrd),.list x.x.apart_c (x.x.apart.map eP),.list x.x.before_c (x.x.before.map eP),.list x.p.routes_c (x.p.routes.map Z0),.list x.p.unserved_c (x.p.unserved.map eI),.int .i64 x.now,.list x.y.net.places_c (x.y.net.places.map eS),.list x.y.net.arcs_c (x.y.net.arcs.map WV),.list x.y.types_c (x.y.types.map WW),.list x.y.orders_c (x.y.orders.map eOrd),.list x.y.apart_c (x.y.apart.map eP),.list x.y.before_c (x.y.before.map eP)]:=Zl rfl rfl
def Cas.wf (B:Nat) (x:Cas):Prop:=Inst.wf B x.x/\Pln.wf B x.p/\Uo x.now/\Inst.wf B x.y
theorem Zjk {α:Type} {l:List α} (h:l.length=15): ∃a0 a1 a2 a3 a4 a5 a6 a7 a8 a9 a10 a11 a12 a13 a14,l= [a0,a1,a2,a3,a4,a5,a6,a7,a8,a9,a10,a11,a12,a13,a14]:=by
 match l,h with | [a0,a1,a2,a3,a4,a5,a6,a7,a8,a9,a10,a11,a12,a13,a14],_=>grind
theorem fW {B m cs} (h:YX Tryz.prog B m 63 cs): ∃x:Cas,cs=DR x/\x.wf B:=by
 obtain ⟨h1,m',h2⟩:=Y6 wL Zh1 h;obtain ⟨a0,a1,a2,a3,a4,a5,a6,a7,a8,a9,a10,a11,a12,a13,a14,rfl⟩:=Zjk h1;obtain ⟨n0,e0,w0⟩:=Hh (h2 (0,43) Zb);obtain ⟨n1,e1,w1⟩:=MK (h2 (6,33) Zb);obtain ⟨n2,e2,w2⟩:=ZR Tryz.underlying3 (h2 (8,3) Zb);obtain ⟨n3,e3,w3⟩:=Hh (h2 (9,43) Zb);simp [vT,vR,IJ,dX,ZhP,dX] at e0 e1 e2 e3;obtain ⟨rfl,rfl,rfl,rfl,rfl,rfl⟩:=e0;obtain ⟨rfl,rfl⟩:=e1;subst e2;obtain ⟨rfl,rfl,rfl,rfl,rfl,rfl⟩:=e3;exact ⟨⟨n0,n1,n2,n3⟩,rfl,w0,w1,Xu w2,w3⟩
theorem pY {B v} (h:FitV Tryz.prog B 63 v): ∃x:Cas,v=pT x/\x.wf B:=by
 obtain ⟨k,cs,h,e⟩:=h.out;obtain ⟨x,rfl,hw⟩:=fW h;exact ⟨x,e.trans (by rw [U7,if_pos (Wx wL)];rfl),hw⟩
theorem own : ownKnob Tryz.prog.godebug=none:=Ze
theorem qS : laidOutB Tryz.prog=true:=Ze
end Go.Proofs.YtiigdaohjanidaaGreatDoor.K
namespace Go.Proofs.YtiigdaohjanidaaGreatDoor.K
section
variable {L : Type} (fin : L -> Int) (beats : L -> L -> Bool) (nxt : Nat -> L -> Bool -> Option L) (choices : Nat -> List Bool)
def W7 : Option L->List L->Option L
 | b,[]=>b
 | none,x::l=>W7 (some x) l
 | some m,x::l=>if fin x<fin m then W7 (some x) l else W7 (some m) l
theorem Af : ∀(b:Option L) (l r:List L),W7 fin b (l++r)=W7 fin (W7 fin b l) r
 | b,[],r=>by rfl
 | none,x::l,r=>by rw [ZW,W7,W7,Af]
 | some m,x::l,r=>by
  rw [ZW,W7,W7]
  split
  ·rw [Af]
  ·rw [Af]
theorem V5 : ∀(l:List L) (m:L),∃z,W7 fin (some m) l=some z/\fin z<=fin m/\ ∀y∈l,fin z<=fin y
 | [],m=>⟨m,rfl,Za,Zb⟩
 | x::l,m=>by
  rw [W7]
  split
  ·rename_i h;obtain ⟨z,e,h1,h2⟩:=V5 l x
   grind
  ·rename_i h;obtain ⟨z,e,h1,h2⟩:=V5 l m
   grind
theorem MN : ∀(l:List L) (m:L),(∀y∈l,fin m<=fin y)->W7 fin (some m) l=some m
 | [],m,_=>rfl
 | x::l,m,h=>by
  have:=h x List.mem_cons_self;rw [W7,if_neg Za];exact MN l m fun y hy=>h y (YQ _ hy)
theorem Th (A B:List L) (h: ∀y∈B,∃z∈A,fin z<=fin y):W7 fin none (A++B)=W7 fin none A:=by
 rw [Af]
 cases A with
 | nil=>cases B with
  | nil=>rfl
  | cons y B=>grind [List.mem_cons_self]
 | cons a A =>
  rw [W7];obtain ⟨z,e,h1,h2⟩:=V5 fin A a;rw [e];refine MN fin B z fun y hy=> ?_
  grind
def Yc : List L->List L->List L
 | out,[]=>out
 | out,x::l=>if out.any (fun m=>beats m x)=true then Yc out l else Yc (out++ [x]) l
theorem C6 {R:L->List L} : ∀(c out:List L),(∀x∈out++c,∀m∈out++c,beats m x=true-> ∀y∈R x,∃z∈R m,fin z<=fin y)->W7 fin none ((Yc beats out c).flatMap R)=W7 fin none ((out++c).flatMap R)
 | [],out,_=>by simp [Yc]
 | x::c,out,h=>by
  rw [Yc]
  split
  ·rename_i hb;obtain ⟨m,hm,hb⟩:=YR.1 hb
   have hb:beats m x=true:=by simpa using hb
   rw [C6 c out (fun a ha b hb=>h a (by simp only [Xo,X2] at ha ⊢;rcases ha with h | h<;>simp [h]) b (by simp only [Xo,X2] at hb ⊢;rcases hb with h | h<;>simp [h]))];rw [List.flatMap_append,List.flatMap_append,List.flatMap_cons,<- Qz,Af,Af (l:=out.flatMap R++R x)];rw [Th fin (out.flatMap R) (R x)];intro y hy;obtain ⟨z,hz,hle⟩:=h x Zb m (by simp [hm]) hb y hy;exact ⟨z,Ws.2 ⟨m,hm,hz⟩,hle⟩
  ·rw [C6 c (out++ [x]) (by simpa using h)];simp
theorem AF : ∀(c out:List L),∀x∈Yc beats out c,x∈out++c
 | [],out,x,h=>by grind [Yc]
 | a::c,out,x,h=>by
  rw [Yc] at h
  split at h
  ·have:=AF c out x h;simp only [Xo,X2] at this ⊢;rcases this with h | h<;>simp [h]
  ·have:=AF c (out++ [a]) x h;simpa using this
def IT : Nat->Nat->List (List Bool)
 | 0,_=> [[]]
 | j+1,k=>(choices k).flatMap fun b=>(IT j (k+1)).map (b:: ·)
def WT : Nat->L->List Bool->Option L
 | _,x,[]=>some x
 | k,x,b::bs=>match nxt k x b with
  | some y=>WT (k+1) y bs
  | none=>none
def VA (j k:Nat) (x:L):List L:=(IT choices j k).filterMap (WT nxt k x)
def Vh (k:Nat) (l:List L):List L:=l.flatMap fun x=>(choices k).filterMap (nxt k x)
def J1 : Nat->Nat->List L->List L
 | 0,_,l=>l
 | j+1,k,l=>J1 j (k+1) (Yc beats [] (Vh nxt choices k l))
theorem Pr (k:Nat) (x:L):VA nxt choices 0 k x= [x]:=rfl
theorem FM (j k:Nat) (x:L):VA nxt choices (j+1) k x=((choices k).filterMap (nxt k x)).flatMap (VA nxt choices j (k+1)):=by
 unfold VA;rw [IT]
 induction choices k with
 | nil=>rfl
 | cons b bs ih =>
  rw [List.flatMap_cons,List.filterMap_append,ih,List.filterMap_cons]
  cases h:nxt k x b with
  | none =>
   simp_all [WT]
  | some y =>
   rw [List.filterMap_map]
   have:(WT nxt k x∘fun l=>b::l)=WT nxt (k+1) y:=by grind [WT]
   grind
theorem HN {n:Nat} {Inv:Nat->L->Prop} (hI: ∀k x b y,Inv k x->nxt k x b=some y->Inv (k+1) y) (hd: ∀k m x b y,Inv k m->Inv k x->beats m x=true->nxt k x b=some y-> ∃z,nxt k m b=some z/\beats z y=true)
  (he: ∀m x,Inv n m->Inv n x->beats m x=true->fin m<=fin x): ∀(j k:Nat) (m x:L),k+j=n->Inv k m->Inv k x->beats m x=true-> ∀y∈VA nxt choices j k x,∃z∈VA nxt choices j k m,fin z<=fin y
 | 0,k,m,x,hk,h1,h2,hb,y,hy=>by
  grind [Pr]
 | j+1,k,m,x,hk,h1,h2,hb,y,hy=>by
  rw [FM] at hy ⊢;obtain ⟨q,hq,hy⟩:=Ws.1 hy;obtain ⟨b,hbm,hn⟩:=JL.1 hq;obtain ⟨z,hz,hzb⟩:=hd k m x b q h1 h2 hb hn;obtain ⟨u,hu,hle⟩:=HN hI hd he j (k+1) z q Za (hI k m b z h1 hz) (hI k x b q h2 hn) hzb y hy
  grind
theorem RH {n:Nat} {Inv:Nat->L->Prop} (hI: ∀k x b y,Inv k x->nxt k x b=some y->Inv (k+1) y) (hd: ∀k m x b y,Inv k m->Inv k x->beats m x=true->nxt k x b=some y-> ∃z,nxt k m b=some z/\beats z y=true)
  (he: ∀m x,Inv n m->Inv n x->beats m x=true->fin m<=fin x): ∀(j k:Nat) (l:List L),k+j=n->(∀x∈l,Inv k x)->W7 fin none (J1 beats nxt choices j k l)=W7 fin none (l.flatMap (VA nxt choices j k))
 | 0,k,l,hk,hl=>by
  have:l.flatMap (VA nxt choices 0 k)=l:=by
   have:VA nxt choices 0 k=fun x=> [x]:=by rfl
   rw [this];simp
  rw [this];rfl
 | j+1,k,l,hk,hl=>by
  have hc: ∀x∈Vh nxt choices k l,Inv (k+1) x:=fun x hx=>by
   obtain ⟨q,hq,hx⟩:=Ws.1 hx
   grind
  have e:l.flatMap (VA nxt choices (j+1) k)=(Vh nxt choices k l).flatMap (VA nxt choices j (k+1)):=by
   rw [Vh,List.flatMap_assoc]
   congr 1
   grind [FM]
  rw [J1,RH hI hd he j (k+1) _ Za (fun x hx=>hc x (by simpa using AF beats _ _ x hx)),C6 fin beats _ _ (fun x hx m hm hb y hy=> ?_),e]
  ·simp
  ·exact HN fin beats nxt choices hI hd he j (k+1) m x Za (hc m (by grind)) (hc x (by grind)) hb y hy
def YM : List Bool->List (List Bool)
 | []=> [[]]
 | b::bs=>if b then (YM bs).map (true:: ·) else (YM bs).map (false:: ·)++(YM (List.replicate bs.length false)).map (true:: ·)
termination_by l => l.length
decreasing_by all_goals simp
def Yx : List Bool->Option (List Bool)
 | []=>none
 | b::bs=>match Yx bs with
  | some l=>some (b::l)
  | none=>if b then none else some (true::List.replicate bs.length false)
theorem fromB_next : ∀l:List Bool,YM l=l::(match Yx l with | some r=>YM r | none=> [])
 | []=>by simp [YM,Yx]
 | b::bs=>by
  have ih:=fromB_next bs
  have e0: ∀l:List Bool,YM (true::l)=(YM l).map (true:: ·):=fun l=>by rw [YM];simp
  have e1: ∀l:List Bool,YM (false::l)=(YM l).map (false:: ·)++(YM (List.replicate l.length false)).map (true:: ·):=fun l=>by rw [YM];simp
  cases b with
  | true =>
   rw [e0,ih,Yx]
   cases h:Yx bs with
   | none=>simp
   | some r=>simp [e0]
  | false =>
   rw [e1,ih,Yx]
   cases h:Yx bs with
   | none=>simp [e0]
   | some r =>
    have hl:r.length=bs.length:=nlen bs r h;simp [e1,hl]
where nlen : ∀(l r:List Bool),Yx l=some r->r.length=l.length
 | [],r,h=>by simp [Yx] at h
 | b::bs,r,h=>by
  rw [Yx] at h
  cases h2:Yx bs with
  | none =>
   grind
  | some q =>
   rw [h2] at h;simp at h;subst h;simp [nlen bs q h2]
theorem MC {n:Nat} : ∀(j k:Nat),(∀q,k<=q->choices q= [false,true])->IT choices j k=YM (List.replicate j false)
 | 0,k,_=>by simp [IT,YM]
 | j+1,k,h=>by
  rw [IT,h k (Zv _),MC (n:=n) j (k+1) (fun q hq=>h q Za),Kt,YM];simp
end
end Go.Proofs.YtiigdaohjanidaaGreatDoor.K
namespace Go.Proofs.YtiigdaohjanidaaGreatDoor.K
open Go Go.AM Go.Proofs
abbrev Flt := Int×List UInt8
def eF (f:Flt):PV:= .agg [.int .i64 f.1,.str f.2]
@[go_sem] theorem ZpH (f:Flt):eF f= .agg [.int .i64 f.1,.str f.2]:=Zl rfl rfl
@[go_sem] theorem Zn5 (l:List Flt):Cs 2 (l.map eF)=true:=JP fun _=>rfl
def dec (n:Nat):List UInt8:=if h:n<10 then [UInt8.ofNat (48+n)] else dec (n / 10)++ [UInt8.ofNat (48+n%10)]
termination_by n
decreasing_by omega
theorem Rj : ∀(k n:Nat),n<k->(dec n).length<=n+1:=by
 intro k
 induction k with
 | zero=>omega
 | succ k ih =>
  grind [dec]
theorem Bd : ∀(d n:Nat),n<10^(d+1)->(dec n).length<=d+1:=by
 intro d
 induction d with
 | zero=>simp_all [dec]
 | succ d ih =>
  grind [dec]
def AP (n:Int):List UInt8:=if n<0 then 45::dec n.natAbs else dec n.natAbs
theorem QM (n:Int) (h:Uo n):(AP n).length<=20:=by
 have h1:n.natAbs<10^(18+1):=Za
 have:=Bd 18 n.natAbs h1
 grind [AP]
structure FR {α:Type} (p:α->Prop) (C:Prop) (b:Nat) (l:List α):Prop where
 len:l.length<=b
 emp:l= []↔C
 all: ∀x∈l,p x
theorem FR.nil {α:Type} {p:α->Prop} {C:Prop} {b:Nat} (h:C):FR p C b []:=⟨Zb,by simp [h],Zb⟩
theorem FR.no {α:Type} {p:α->Prop} {C c:Prop} {b:Nat} {l:List α} (h:FR p C b l) (hc:c):FR p (C/\c) (b+1) l:=⟨by have:=h.len;omega,by rw [h.emp];simp [hc],h.all⟩
theorem FR.yes {α:Type} {p:α->Prop} {C c:Prop} {b:Nat} {l:List α} {x:α} (h:FR p C b l) (hc: ¬c) (hx:p x):FR p (C/\c) (b+1) (l++ [x]) :=
 ⟨by have:=h.len;simp;omega,by simp [hc],fun y hy=>by
  rcases Xo.1 hy with hy | hy
  ·exact h.all y hy
  grind⟩
theorem FR.app {α:Type} {p:α->Prop} {C D:Prop} {b d:Nat} {l m:List α} (h:FR p C b l) (k:FR p D d m):FR p (C/\D) (b+d) (l++m) :=
 ⟨by have:=h.len;have:=k.len;simp;omega,by rw [Qy,h.emp,k.emp],fun y hy=>by
  rcases Xo.1 hy with hy | hy
  ·exact h.all y hy
  ·exact k.all y hy⟩
theorem FR.to {α:Type} {p:α->Prop} {C D:Prop} {b d:Nat} {l:List α} (h:FR p C b l) (hb:b<=d) (hc:C↔D):FR p D d l:=⟨JF h.len hb,h.emp.trans hc,h.all⟩
theorem Zm {p:Nat->Prop} {k:Nat} :(∀j,j<k+1->p j)↔((∀j,j<k->p j)/\p k) :=
 ⟨fun h=>⟨fun j hj=>h j Za,h k Za⟩,fun h j hj=>by
  grind⟩
def Js (c:UInt8):Bool:=decide (48<=c.toNat/\c.toNat<=57)
def QP (c:UInt8):Bool:=decide (97<=c.toNat/\c.toNat<=122)||decide (65<=c.toNat/\c.toNat<=90)||decide (c.toNat=95)
def nameOk (s:List UInt8):Bool:=decide (1<=s.length)&&decide (s.length<=16)&& !Js (nth s 0)&&s.all fun c=>QP c||Js c
def rng (n lo hi:Int):Bool:=decide (lo<=n/\n<=hi)
def Ly (n:Int):Bool:=rng n 0 4096
def lC (l:List Pt) (i:Nat):Prop:=(0<=(nth l i).t/\(nth l i).t<=4096/\(nth l i).t<=(nth l i).a/\(nth l i).a<=(nth l i).t+4096)/\(0<i->(nth l (i-1)).t<(nth l i).t/\(nth l (i-1)).a<=(nth l i).a)
def WZ (l:List Pt):Prop:=(1<=l.length/\l.length<=16)/\ ∀i,i<l.length->lC l i
def KS (l:List Pt) (i:Nat):Prop:=Ly (nth l i).t=true/\Ly (nth l i).a=true/\(0<i->(nth l (i-1)).t<(nth l i).t)
def LY (n:Net) (i:Nat):Prop :=
 ((((((0<=(nth n.arcs i).src/\(nth n.arcs i).src<n.places.length/\0<=(nth n.arcs i).dst/\(nth n.arcs i).dst<n.places.length) /\
 (0<=(nth n.arcs i).prof/\(nth n.arcs i).prof<=7/\0<=(nth n.arcs i).miles/\(nth n.arcs i).miles<=10000/\(nth n.arcs i).src≠(nth n.arcs i).dst)) /\
 (∀k,k<i-> ¬((nth n.arcs i).src=(nth n.arcs k).src/\(nth n.arcs i).dst=(nth n.arcs k).dst/\(nth n.arcs i).prof=(nth n.arcs k).prof))) /\
 WZ (nth n.arcs i).travel)/\(nth n.arcs i).slow.length<=16)/\ ∀k,k<(nth n.arcs i).slow.length->KS (nth n.arcs i).slow k)
def Pf (n:Net) (i:Nat):Prop:=nameOk (nth n.places i)=true/\ ∀k,k<i->nth n.places k≠nth n.places i
def KH (n:Net):Prop:=n.places.length<=24/\ ∀i,i<n.places.length->Pf n i
def netOk (n:Net):Prop:=(KH n/\n.arcs.length<=1024)/\ ∀i,i<n.arcs.length->LY n i
set_option maxRecDepth 8000
set_option maxHeartbeats 4000000
theorem Rm (c:UInt8):PC 274 [.p (.int .u8 (c.toNat:Nat))] (.bool (Js c)):=by
 refine Zd Tryz.func274 rfl Zb7 ?_;simp (disch:=omega) only [Tryz.f274,go_sem,seval];refine gT ?_ ?_<;>intro h<;>simp (disch:=omega) only [Sh.out h,go_sem,seval,↓reduceIte]
 all_goals (simp [Js];first | done | omega | grind)
theorem iQ (c:UInt8):PC 275 [.p (.int .u8 (c.toNat:Nat))] (.bool (QP c)):=by
 refine Zd Tryz.func275 rfl Zb8 ?_;simp (disch:=omega) only [Tryz.f275,go_sem,seval]
 repeat' (first | (refine gT ?_ ?_<;>intro hq<;>simp (disch:=omega) only [Sh.out hq,go_sem,seval,↓reduceIte]) | (refine gF ?_ ?_<;>intro hq<;>simp (disch:=omega) only [Sh.out hq,go_sem,seval,↓reduceIte]) | (refine Jd (fun hq=> ?_) (fun hq=> ?_)<;>(try simp only [Zp,Yu,Xs] at hq)<;>simp (disch:=omega) only [Sh.out hq,go_sem,seval]))
 all_goals (simp [QP];first | done | omega | (rw [Yj];simp;omega))
theorem O5 (s:List UInt8) (hs:s.length<=1048576):PC 226 [.p (.str s)] (.bool (nameOk s)):=by
 refine Zd Tryz.func226 rfl ZbA ?_;simp (disch:=omega) only [Tryz.f226,go_sem,seval];refine gF ?_ ?_<;>intro h<;>simp (disch:=omega) only [Sh.out h,go_sem,seval,↓reduceIte]
 ·grind [nameOk]
 ·refine gF ?_ ?_<;>intro h2<;>simp (disch:=omega) only [Sh.out h2,go_sem,seval]
  ·grind [nameOk]
  ·have g1:1<=s.length:=Za
   have g2:s.length<=16:=Za
   refine (Rm (nth s 0)).use (Zc ?_);refine cD ?_ ?_<;>intro h3<;>simp (disch:=omega) only [Sh.out h3,go_sem,seval]
   ·simp [nameOk,h3]
   ·refine Zk [0] (fun k:Nat=> [(3,.p (.int .i64 k))]) (fun _=> []) (fun k=>k<=s.length/\ ∀j,j<k->(QP (nth s j)||Js (nth s j))=true) (fun k=>s.length-k) 0 Zb (Weak.mk ?_) ?_
    ·simp (disch:=omega) only [go_sem,seval,↓reduceIte]
    ·rintro k ⟨hk,hno⟩;refine Zc ?_
     have X8: ∀j,j<s.length->(QP (nth s j)||Js (nth s j))=false->nameOk s=false:=fun j hj e=>by
      grind [Zi,nameOk]
     refine cD ?_ ?_<;>intro h4<;>simp (disch:=omega) only [Sh.out h4,go_sem,seval,↓reduceIte]
     ·have hk2:k<s.length:=Za
      refine (iQ (nth s k)).use (Zc ?_);refine gT ?_ ?_<;>intro h5<;>simp (disch:=omega) only [Sh.out h5,go_sem,seval,↓reduceIte]
      ·refine (Rm (nth s k)).use (Zc ?_);refine cD ?_ ?_<;>intro h6<;>simp (disch:=omega) only [Sh.out h6,go_sem,seval,↓reduceIte]
       ·grind
       ·simp only [XN] at h6;exact ⟨k+1,⟨Za,Zm.2 ⟨hno,by simp [h6]⟩⟩,Za,wk⟩
      ·simp only [XN] at h5;exact ⟨k+1,⟨Za,Zm.2 ⟨hno,by simp [h5]⟩⟩,Za,wk⟩
     ·have:s.all (fun c=>QP c||Js c)=true:=by
       rw [Zt];intro c hc;obtain ⟨j,hj,rfl⟩:=ZU.1 hc
       grind [Zi]
      grind [nameOk]
theorem Ab (n:Int) (hn:Uo n):PC 174 [.p (.int .i64 n)] (.str (AP n)):=by
 refine Zd Tryz.func174 rfl Zbb ?_;simp (disch:=omega) only [Tryz.f174,go_sem,seval]
 have h19:n.natAbs<10^(18+1):=Za
 have hdl:=Bd 18 n.natAbs h19
 refine ZO [7] [0] (fun q:Int×List UInt8×Bool=> [(3,.p (.str q.2.1)),(4,.p (.int .i64 q.1)),(5,.p (.bool q.2.2))]) (fun _=> [])
  (fun q=>Uo q.1/\(q.2.2=true->dec q.1.natAbs++q.2.1=dec n.natAbs)/\(q.2.2=false->q.2.1=dec n.natAbs)) (fun q=>if q.2.2 then q.1.natAbs+1 else 0) (n,[],true) (by simp;omega) (Weak.mk ?_) ?_
 ·simp (disch:=omega) only [go_sem,seval,↓reduceIte]
 ·rintro ⟨m,s,again⟩ ⟨hm,h1,h2⟩;simp only at hm h1 h2;refine Zc ?_
  cases again with
  | false =>
   refine Zc ?_;have h2:=h2 rfl
   have hl2:([45]:List UInt8).length+(dec n.natAbs).length<=9223372036854775807:=by simp;omega
   refine cD ?_ ?_<;>intro h3<;>simp (disch:=omega) only [Sh.out h3,go_sem,seval]
   ·simp (disch:=omega) only [AP,h2,h3,lT hl2,go_sem,seval,↓reduceIte]
   ·simp (disch:=omega) only [AP,h2,h3,go_sem,seval,↓reduceIte]
  | true =>
   have h1:=h1 rfl
   have hls:(dec m.natAbs).length+s.length=(dec n.natAbs).length:=by grind
   refine Zc ?_
   have e1:(m.tmod 10).natAbs=m.natAbs%10:=Zb
   have e2:(m.tdiv 10).natAbs=m.natAbs / 10:=by grind
   have e3:m.tmod 10<10/\ -10<m.tmod 10:=⟨Int.tmod_lt_of_pos _ (by decide),Za⟩;refine ZD [0,3,4] (fun _:Unit=> [(6,.p (.int .i64 ((m.natAbs%10:Nat):Int)))]) (fun _=> []) (fun _=>True) ?_ ?_
   ·refine Zc ?_;refine cD ?_ ?_<;>intro h3<;>simp (disch:=omega) only [Sh.out h3,go_sem,seval,↓reduceIte]
    ·exact ⟨(),Weak.mk (by refine Zc ?_;simp;omega)⟩
    ·exact ⟨(),Weak.mk (by refine Zc ?_;simp;omega)⟩
   ·intro _ _;refine Zg [] _ _ _ _ ?_;simp (disch:=first | omega | (simp only [Zw,Zz,ZG,ZK,ZQ,Z4]<;>omega)) only [go_sem,seval,↓reduceIte]
    have e4:(48+((m.natAbs%10:Nat):Int)).toNat=48+m.natAbs%10:=Za
    refine ⟨(m.tdiv 10,UInt8.ofNat (48+m.natAbs%10)::s,decide (m.tdiv 10≠0)),⟨?_,?_,?_⟩,?_,Weak.mk ?_⟩
    ·omega
    ·simp only [Zp];intro hne
     have h10: ¬m.natAbs<10:=Za
     rw [e2,<- h1,dec.eq_def m.natAbs,dif_neg h10];simp
    ·simp only [Yu,Xs];intro hz
     have h10:m.natAbs<10:=Za
     rw [<- h1,dec.eq_def m.natAbs,dif_pos h10,Ao h10];simp
    ·grind
    ·simp (disch:=omega) only [e4,go_sem,seval]
def pF (k:Nat) (f:Flt):Prop:=f.2.length<=k
theorem Xr {P:Program} {id:Nat} {l:List Oper} {fr:List V} {H:List AM.Obj} {Q:Exit->List V->List AM.Obj->Prop} {t} (h:hs P (l.map (·.dst)) H (ZB (fun fr'=>Q .normal (OX fr') H) ⟨⟩) l (OX fr)) (hm:P.follows .mixedOrders=true:=by exact mixed) (hB:VG (List.toArray l) l.length=true:=by kernel_rfl) (hR:KK (List.toArray l) l.length=true:=by kernel_rfl):AWP P (.region id (ZB (List.toArray l) t) true) fr H Q:=Ov hm hB hR h
theorem eL (l:List Pt) (c:Bool) (hl:l.length<=1048576):ACalls Tryz.prog 227 [.p (.list c (l.map Hd))] [] fun x H'=> ∃m:List Flt,FR (pF 20) (WZ l) (2*l.length+1) m/\x= .sl 0 0 m.length m.length/\H'= [.elems 2 (m.map eF)]:=by
 refine Xj [2] Tryz.func227 rfl ZbB ?_;simp (disch:=omega) only [Tryz.f227,go_sem,seval];refine Zq (Weak.ofNil 3 2 (by simp (disch:=omega) only [go_sem,seval]) Zb (Weak.refl _ _ _)) ?_;refine ZD [0] (fun m:List Flt=> [(3,.sl 0 0 m.length m.length)]) (fun m=> [.elems 2 (m.map eF)]) (fun m=>FR (pF 20) (1<=l.length/\l.length<=16) 1 m) ?_ ?_
 ·refine Zc ?_
  repeat' (first | (refine V3 (fun hq=> ?_) (fun hq=> ?_)<;>(try simp only [Zp,Yu,Xs] at hq)<;>simp (disch:=omega) only [Sh.out hq,go_sem,seval]) | (refine gF ?_ ?_<;>intro hq<;>simp (disch:=omega) only [Sh.out hq,go_sem,seval,↓reduceIte]) | (refine cD ?_ ?_<;>intro hq<;>simp (disch:=omega) only [Sh.out hq,go_sem,seval,↓reduceIte]))
  ·exact ⟨[(4,[])],⟨Zb,by simp;omega,by simp [pF]⟩,wk⟩
  ·exact ⟨[(4,[])],⟨Zb,by simp;omega,by simp [pF]⟩,wk⟩
  ·exact ⟨[],FR.nil Za,wk⟩
 ·intro m hm;refine Zg [] _ _ _ _ (Zc ?_);refine ZO [8] [0] (fun q:Nat×List Flt=> [(3,.sl 0 0 q.2.length q.2.length),(4,.p (.int .i64 q.1))]) (fun q=> [.elems 2 (q.2.map eF)]) (fun q=>q.1<=l.length/\FR (pF 20) ((1<=l.length/\l.length<=16)/\ ∀j,j<q.1->lC l j) (2*q.1+1) q.2) (fun q=>l.length-q.1) (0,m) ⟨Zb,hm.to Zb Zb⟩ (Weak.mk ?_) ?_
  ·simp (disch:=omega) only [go_sem,seval,↓reduceIte]
  ·rintro ⟨k,m⟩ ⟨hk,hm⟩;simp only at hk hm;have hml:=hm.len;refine Zc ?_;refine cD ?_ ?_<;>intro h<;>simp (disch:=omega) only [Sh.out h,go_sem,seval,↓reduceIte]
   ·have hk2:k<l.length:=Za
    refine ZD [0,4,5] (fun m:List Flt=> [(3,.sl 0 0 m.length m.length)]) (fun m=> [.elems 2 (m.map eF),.cells [.p (.int .i64 (nth l k).t),.p (.int .i64 (nth l k).a)]])
     (fun m=>FR (pF 20) (((1<=l.length/\l.length<=16)/\ ∀j,j<k->lC l j)/\(0<=(nth l k).t/\(nth l k).t<=4096/\(nth l k).t<=(nth l k).a/\(nth l k).a<=(nth l k).t+4096)) (2*k+1+1) m) ?_ ?_
    ·refine Zc ?_
     have hI:Uo (k:Int):=Za
     have hdl:=QM k hI
     repeat' (first | (refine V3 (fun hq=> ?_) (fun hq=> ?_)<;>(try simp only [Zp,Yu,Xs] at hq)<;>simp (disch:=omega) only [Sh.out hq,go_sem,seval]) | (refine gF ?_ ?_<;>intro hq<;>simp (disch:=omega) only [Sh.out hq,go_sem,seval,↓reduceIte]) | (refine cD ?_ ?_<;>intro hq<;>simp (disch:=omega) only [Sh.out hq,go_sem,seval,↓reduceIte]))
     all_goals try exact ⟨m,hm.no Za,wk⟩
     all_goals
      refine (Ab k hI).use ?_;simp (disch:=omega) only [go_sem,seval,↓reduceIte];exact ⟨m++ [(2,AP k)],hm.yes Za (by simp only [pF];omega),wk⟩
    ·intro m hm;have hml:=hm.len;refine Zg [] _ _ _ _ (Zc ?_)
     have hI:Uo (k:Int):=Za
     have hdl:=QM k hI;refine Xr (Zc ?_)
     repeat' (first | (refine gT ?_ ?_<;>intro hq<;>simp (disch:=omega) only [Sh.out hq,go_sem,seval,↓reduceIte]) | (refine gF ?_ ?_<;>intro hq<;>simp (disch:=omega) only [Sh.out hq,go_sem,seval,↓reduceIte]) | (refine cD ?_ ?_<;>intro hq<;>simp (disch:=omega) only [Sh.out hq,go_sem,seval,↓reduceIte]))
     all_goals try exact ⟨(k+1,m),⟨by simp only;omega,(hm.no (c:=0<k->(nth l (k-1)).t<(nth l k).t/\(nth l (k-1)).a<=(nth l k).a) Za).to (by simp only;omega) (by simp only [Zm,lC,and_assoc])⟩,by simp only;omega,wk⟩
     all_goals
      refine (Ab k hI).use ?_;simp (disch:=omega) only [go_sem,seval,↓reduceIte];exact ⟨(k+1,m++ [(13,AP k)]),⟨by simp only;omega,(hm.yes (c:=0<k->(nth l (k-1)).t<(nth l k).t/\(nth l (k-1)).a<=(nth l k).a) Za (by simp only [pF];omega)).to (by simp only;omega) (by simp only [Zm,lC,and_assoc])⟩,by simp only;omega,wk⟩
   ·have hkn:k=l.length:=Za
    subst hkn;exact ⟨m,hm.to Za (by rw [WZ]),0,by simp (disch:=omega) only [go_sem,seval]⟩
set_option maxHeartbeats 8000000
theorem pF.mono {j k:Nat} (h:j<=k) {f:Flt} (hf:pF j f):pF k f:=JF hf h
theorem FR.pmono {α:Type} {p q:α->Prop} {C:Prop} {b:Nat} {l:List α} (h:FR p C b l) (hp: ∀x,p x->q x):FR q C b l:=⟨h.len,h.emp,fun x hx=>hp x (h.all x hx)⟩
theorem NY (n:Int):PC 228 [.p (.int .i64 n)] (.bool (Ly n)):=by
 refine Zd Tryz.func228 rfl ZbC ?_;simp (disch:=omega) only [Tryz.f228,go_sem,seval]
 repeat' (first | (refine gT ?_ ?_<;>intro hq<;>simp (disch:=omega) only [Sh.out hq,go_sem,seval,↓reduceIte]) | (refine UF (fun hq=> ?_) (fun hq=> ?_)<;>(try simp only [Zp,Yu,Xs] at hq)<;>simp (disch:=omega) only [Sh.out hq,go_sem,seval]) | (refine Jd (fun hq=> ?_) (fun hq=> ?_)<;>(try simp only [Zp,Yu,Xs] at hq)<;>simp (disch:=omega) only [Sh.out hq,go_sem,seval]))
 all_goals (simp [Ly,rng];first | done | omega | (rw [Yj];simp;omega))
def Z7 (n:Net):List AM.Obj:= [.cells [.p (.list n.places_c (n.places.map eS)),.p (.list n.arcs_c (n.arcs.map WV))]]
theorem KU {P Q:Prop} (h:Q) (e:Q->P:=by intro h;simp (disch:=omega) only [Z7,go_sem,seval];exact h):P:=e h
theorem OI (n:Net) (hp:n.places.length<=1048576) (hs: ∀s∈n.places,s.length<=1048576):ACalls Tryz.prog 170 [.p (BQ n)] [] fun x H'=> ∃m:List Flt,FR (pF 26) (KH n) (n.places.length+1) m/\x= .sl 0 0 m.length m.length/\H'= [.elems 2 (m.map eF)]:=by
 refine Xj [2] Tryz.func170 rfl Za7 ?_;simp (disch:=omega) only [Tryz.f170,go_sem,seval];refine Zq (Weak.ofNil 3 2 (by simp (disch:=omega) only [go_sem,seval]) Zb (Weak.refl _ _ _)) ?_;refine ZD [1] (fun m:List Flt=> [(3,.sl 1 0 m.length m.length)]) (fun m=>Z7 n++ [.elems 2 (m.map eF)]) (fun m=>FR (pF 26) (n.places.length<=24) 1 m) ?_ ?_
 ·refine Zc ?_;refine ZI ?_ ?_<;>intro h
  ·exact ⟨[(4,[112,108,97,99,101,115])],⟨Zb,by simp;omega,by simp [pF]⟩,Weak.mk (by simp (disch:=omega) only [Z7,go_sem,seval])⟩
  ·exact ⟨[],FR.nil Za,Weak.mk (by simp (disch:=omega) only [Z7,go_sem,seval])⟩
 ·intro m hm;refine Zg [] _ _ _ _ (KU ?_);refine Zk [1] (fun q:Nat×List Flt=> [(3,.sl 1 0 q.2.length q.2.length),(4,.p (.int .i64 q.1))]) (fun q=>Z7 n++ [.elems 2 (q.2.map eF)]) (fun q=>q.1<=n.places.length/\FR (pF 26) (n.places.length<=24/\ ∀j,j<q.1->Pf n j) (q.1+1) q.2) (fun q=>n.places.length-q.1) (0,m) ⟨Zb,hm.to Zb Zb⟩ (Weak.mk ?_) ?_
  ·simp (disch:=omega) only [Z7,go_sem,seval]
  ·rintro ⟨k,m⟩ ⟨hk,hm⟩;simp only at hk hm;have hml:=hm.len;refine KU ?_;refine cD ?_ ?_<;>intro h<;>simp (disch:=omega) only [Sh.out h,go_sem,seval,↓reduceIte]
   ·have hk2:k<n.places.length:=Za
    have hI:Uo (k:Int):=Za
    have hdl:=QM k hI;refine (Ab k hI).use (Zc ?_);simp (disch:=first | omega | (simp only [Zw,Zz,ZG,ZK,ZQ,Z4]<;>omega)) only [go_sem,seval,↓reduceIte];refine (O5 (nth n.places k) (hs _ (by grind [Zi]))).use (Zc ?_);refine ZI ?_ ?_<;>intro h2
    ·simp only [XU] at h2;exact ⟨(k+1,m++ [(5,[112,108,97,99,101,32]++AP k)]),⟨Za,(hm.yes (c:=Pf n k) (by rw [Pf,h2];simp) (by simp [pF];omega)).to Zb (by grind)⟩,Za,wk⟩
    ·simp only [XN] at h2;refine Zk [1,3,4,5] (fun q:Nat×Bool=> [(6,.p (.bool q.2)),(7,.p (.int .i64 q.1))]) (fun _=>Z7 n++ [.elems 2 (m.map eF)]) (fun q=>q.1<=k/\(q.2=false↔ ∀j,j<q.1->nth n.places j≠nth n.places k)) (fun q=>k-q.1) (0,false) Zb (Weak.mk ?_) ?_
     ·simp (disch:=omega) only [Z7,go_sem,seval]
     ·rintro ⟨j,b⟩ ⟨hj,hb⟩;simp only at hj hb;refine KU ?_;refine cD ?_ ?_<;>intro h3<;>simp (disch:=omega) only [Sh.out h3,go_sem,seval,↓reduceIte]
      ·refine ZV 14 mixed Ze Ze (Zc ?_)
       have hjn:j<n.places.length:=Za
       cases b with
       | true =>
        refine Zc ?_;exact ⟨(j+1,true),⟨Za,by grind⟩,Za,wk⟩
       | false =>
        refine Zc ?_;refine ⟨(j+1,decide (nth n.places j=nth n.places k)),⟨Za,by grind⟩,Za,wk⟩
      ·have hjk:j=k:=Za
       subst hjk
       cases b with
       | true =>
        refine Zc ?_
        have hno: ¬Pf n j:=fun h5=>by have:=hb.2 h5.2;cases this
        exact ⟨(j+1,m++ [(6,[112,108,97,99,101,32]++AP j)]),⟨Za,(hm.yes (c:=Pf n j) hno (by simp [pF];omega)).to Zb (by grind)⟩,Za,wk⟩
       | false =>
        refine Zc ?_;exact ⟨(j+1,m),⟨Za,(hm.no (c:=Pf n j) ⟨h2,hb.1 rfl⟩).to Zb (by grind)⟩,Za,wk⟩
   ·have hkn:k=n.places.length:=Za
    subst hkn;exact ⟨m,hm.to Za (by rw [KH]),1,by simp (disch:=omega) only [go_sem,seval]⟩
set_option maxHeartbeats 16000000
def W6 (a:Arc):AM.Obj:= .cells [.p (.int .i64 a.src),.p (.int .i64 a.dst),.p (.int .i64 a.prof),.p (.int .i64 a.miles),.p (.list a.travel_c (a.travel.map Hd)),.p (.list a.slow_c (a.slow.map Hd))]
abbrev Wy (a b:Arc):Prop:=a.src=b.src/\a.dst=b.dst/\a.prof=b.prof
theorem Bt {P Q:Prop} (h:Q) (e:Q->P:=by intro h;simp (disch:=omega) only [Z7,W6,go_sem,seval];exact h):P:=e h
theorem pJ (n:Net) (i:Nat) (hi:i<n.arcs.length) (hp:n.places.length<=1048576) (ha:n.arcs.length<=1048576) (ht:(nth n.arcs i).travel.length<=1048576) (hsl:(nth n.arcs i).slow.length<=1048576) :
  ACalls Tryz.prog 171 [.p (BQ n),.p (.int .i64 (i:Nat))] [] fun x H'=> ∃m:List Flt,FR (pF 26) (LY n i) 4000000 m/\x= .sl 0 0 m.length m.length/\H'= [.elems 2 (m.map eF)]:=by
 refine Xj [4] Tryz.func171 rfl Za8 ?_;simp (disch:=omega) only [Tryz.f171,go_sem,seval]
 have hI:Uo (i:Int):=Za
 have hdl:=QM i hI;refine (Ab i hI).use (Zc ?_);simp (disch:=first | omega | (simp only [Zw,Zz,ZG,ZK,ZQ,Z4]<;>omega)) only [go_sem,seval,↓reduceIte]
 have hat:(97::114::99::32::AP i).length<=26:=by simp;omega
 generalize hga:nth n.arcs i=a at ht hsl ⊢;generalize 97::114::99::32::AP i=at' at hat ⊢;refine Zq (Weak.ofNil 5 2 (by simp (disch:=omega) only [go_sem,seval]) Zb (Weak.refl _ _ _)) ?_;refine ZD [1,2,6,7] (fun m:List Flt=> [(5,.sl 2 0 m.length m.length)]) (fun m=>Z7 n++ [W6 a,.elems 2 (m.map eF)]) (fun m=>FR (pF 26) (0<=a.src/\a.src<n.places.length/\0<=a.dst/\a.dst<n.places.length) 1 m) ?_ ?_
 ·refine Zc ?_
  repeat' (first | (refine V3 (fun hq=> ?_) (fun hq=> ?_)<;>(try simp only [Zp,Yu,Xs] at hq)<;>simp (disch:=omega) only [Sh.out hq,go_sem,seval]) | (refine gF ?_ ?_<;>intro hq<;>simp (disch:=omega) only [Sh.out hq,go_sem,seval]) | (refine cD ?_ ?_<;>intro hq<;>simp (disch:=omega) only [Sh.out hq,go_sem,seval]))
  all_goals try exact ⟨[],FR.nil Za,Weak.mk (by simp (disch:=omega) only [Z7,W6,go_sem,seval])⟩
  all_goals exact ⟨[(11,at')],⟨Zb,by simp;omega,by simpa [pF] using hat⟩,Weak.mk (by simp (disch:=omega) only [Z7,W6,go_sem,seval])⟩
 ·intro m hm;refine Zg [6] _ _ _ _ (Bt ?_);have hml:=hm.len
  refine ZD [1,2,6,7] (fun m:List Flt=> [(5,.sl 2 0 m.length m.length)]) (fun m=>Z7 n++ [W6 a,.elems 2 (m.map eF)])
   (fun m=>FR (pF 26) ((0<=a.src/\a.src<n.places.length/\0<=a.dst/\a.dst<n.places.length)/\(0<=a.prof/\a.prof<=7/\0<=a.miles/\a.miles<=10000/\a.src≠a.dst)) 2 m) ?_ ?_
  ·refine Zc ?_
   repeat' (first | (refine V3 (fun hq=> ?_) (fun hq=> ?_)<;>(try simp only [Zp,Yu,Xs] at hq)<;>simp (disch:=omega) only [Sh.out hq,go_sem,seval]) | (refine gF ?_ ?_<;>intro hq<;>simp (disch:=omega) only [Sh.out hq,go_sem,seval]) | (refine cD ?_ ?_<;>intro hq<;>simp (disch:=omega) only [Sh.out hq,go_sem,seval]))
   all_goals try exact ⟨m,hm.no Za,Weak.mk (by simp (disch:=omega) only [Z7,W6,go_sem,seval])⟩
   all_goals exact ⟨m++ [(2,at')],hm.yes Za (by simpa [pF] using hat),Weak.mk (by simp (disch:=omega) only [Z7,W6,go_sem,seval])⟩
  ·clear hm hml;intro m hm;refine Zg [14] _ _ _ _ (Bt ?_);have hml:=hm.len;refine ZO [14] [1,2,5,6,7] (fun q:Nat×Bool=> [(8,.p (.bool q.2)),(9,.p (.int .i64 q.1))]) (fun _=>Z7 n++ [W6 a,.elems 2 (m.map eF)]) (fun q=>q.1<=i/\(q.2=false↔ ∀j,j<q.1-> ¬Wy a (nth n.arcs j))) (fun q=>i-q.1) (0,false) Zb (Weak.mk ?_) ?_
   ·simp (disch:=omega) only [Z7,W6,go_sem,seval]
   ·rintro ⟨k,b⟩ ⟨hk,hb⟩;simp only at hk hb;refine Bt ?_;refine cD ?_ ?_<;>intro h<;>simp (disch:=omega) only [Sh.out h,go_sem,seval,↓reduceIte]
    ·have hkn:k<n.arcs.length:=Za
     cases b with
     | true =>
      refine Zc ?_;exact ⟨(k+1,true),⟨Za,by grind⟩,Za,wk⟩
     | false =>
      refine Zc ?_
      repeat' (first | (refine gT ?_ ?_<;>intro hq<;>simp (disch:=omega) only [Sh.out hq,go_sem,seval]) | (refine UF (fun hq=> ?_) (fun hq=> ?_)<;>(try simp only [Zp,Yu,Xs] at hq)<;>simp (disch:=omega) only [Sh.out hq,go_sem,seval]) | (refine Jd (fun hq=> ?_) (fun hq=> ?_)<;>(try simp only [Zp,Yu,Xs] at hq)<;>simp (disch:=omega) only [Sh.out hq,go_sem,seval]))
      all_goals refine ⟨(k+1,decide (Wy a (nth n.arcs k))),⟨by simp only;omega,by rw [Zm,<- hb];simp⟩,by simp only;omega,Weak.mk ?_⟩
      all_goals simp (disch:=omega) only [go_sem,seval]
      all_goals simp [Wy, *]
    ·have hki:k=i:=Za
     subst hki;have htw:(b=false↔ ∀j,j<k-> ¬Wy a (nth n.arcs j)):=hb;clear hb hk h
     refine ZD [6,7] (fun m:List Flt=> [(5,.sl 2 0 m.length m.length)]) (fun m=>Z7 n++ [W6 a,.elems 2 (m.map eF)])
      (fun m=>FR (pF 26) (((0<=a.src/\a.src<n.places.length/\0<=a.dst/\a.dst<n.places.length)/\(0<=a.prof/\a.prof<=7/\0<=a.miles/\a.miles<=10000/\a.src≠a.dst))/\ ∀j,j<k-> ¬Wy a (nth n.arcs j)) 3 m) ?_ ?_
     ·refine Zc ?_
      cases b with
      | true =>
       refine Zc ?_;exact ⟨m++ [(6,at')],hm.yes (by grind) (by grind [pF]),Weak.mk (by simp (disch:=omega) only [Z7,W6,go_sem,seval])⟩
      | false =>
       refine Zc ?_;exact ⟨m,hm.no (htw.1 rfl),Weak.mk (by simp (disch:=omega) only [Z7,W6,go_sem,seval])⟩
     ·clear hm hml;intro m hm;refine Zg [21] _ _ _ _ (Bt ?_);have hml:=hm.len;refine ((eL a.travel a.travel_c ht).frozenE).useV fun lt hlt=>Zc ?_;have hltl:=hlt.len
      refine ZO [21] [6,7,11] (fun q:Nat×List Flt=> [(5,.sl 2 0 q.2.length q.2.length),(12,.p (.int .i64 q.1))]) (fun q=>Z7 n++ [W6 a,.elems 2 (q.2.map eF)])
       (fun q=>q.1<=lt.length/\FR (pF 26) ((((0<=a.src/\a.src<n.places.length/\0<=a.dst/\a.dst<n.places.length)/\(0<=a.prof/\a.prof<=7/\0<=a.miles/\a.miles<=10000/\a.src≠a.dst))/\ ∀j,j<k-> ¬Wy a (nth n.arcs j))/\q.1=0) (3+q.1) q.2) (fun q=>lt.length-q.1) (0,m) ⟨Zb,hm.to Zb Zb⟩ (Weak.mk ?_) ?_
      ·simp (disch:=omega) only [Z7,W6,go_sem,seval]
      ·clear hm hml;rintro ⟨j,m⟩ ⟨hj,hm⟩;simp only at hj hm;have hml:=hm.len;refine Bt ?_;refine ZI ?_ ?_<;>intro h
       ·have hj2:j<lt.length:=Za
        exact ⟨(j+1,m++ [((nth lt j).1,at')]),⟨Za,(hm.yes (c:=False) Zb (by grind [pF])).to Za Zb⟩,Za,wk⟩
       ·have hjl:j=lt.length:=Za
        subst hjl;have hm2:=hm.to (d:=3+lt.length) (D:=(((0<=a.src/\a.src<n.places.length/\0<=a.dst/\a.dst<n.places.length)/\(0<=a.prof/\a.prof<=7/\0<=a.miles/\a.miles<=10000/\a.src≠a.dst))/\ ∀j,j<k-> ¬Wy a (nth n.arcs j))/\WZ a.travel) (Zv _) (by rw [<- hlt.emp,List.eq_nil_iff_length_eq_zero]);clear hm
        refine ZD [6,7] (fun m:List Flt=> [(5,.sl 2 0 m.length m.length)]) (fun m=>Z7 n++ [W6 a,.elems 2 (m.map eF)])
         (fun m=>FR (pF 26) (((((0<=a.src/\a.src<n.places.length/\0<=a.dst/\a.dst<n.places.length)/\(0<=a.prof/\a.prof<=7/\0<=a.miles/\a.miles<=10000/\a.src≠a.dst))/\ ∀j,j<k-> ¬Wy a (nth n.arcs j))/\WZ a.travel)/\a.slow.length<=16) (4+lt.length) m) ?_ ?_
        ·refine Zc ?_;refine ZI ?_ ?_<;>intro h2
         ·exact ⟨m++ [(4,at')],(hm2.yes Za (by grind [pF])).to Za Iff.rfl,Weak.mk (by simp (disch:=omega) only [Z7,W6,go_sem,seval])⟩
         ·exact ⟨m,(hm2.no Za).to Za Iff.rfl,Weak.mk (by simp (disch:=omega) only [Z7,W6,go_sem,seval])⟩
        ·clear hm2 hml h hj;intro m hm;refine Zg [] _ _ _ _ (Bt ?_)
         refine Zk [6,7] (fun q:Nat×List Flt=> [(5,.sl 2 0 q.2.length q.2.length),(13,.p (.int .i64 q.1))]) (fun q=>Z7 n++ [W6 a,.elems 2 (q.2.map eF)])
          (fun q=>q.1<=a.slow.length/\FR (pF 26) ((((((0<=a.src/\a.src<n.places.length/\0<=a.dst/\a.dst<n.places.length)/\(0<=a.prof/\a.prof<=7/\0<=a.miles/\a.miles<=10000/\a.src≠a.dst))/\ ∀j,j<k-> ¬Wy a (nth n.arcs j))/\WZ a.travel)/\a.slow.length<=16)/\ ∀j,j<q.1->KS a.slow j) (4+lt.length+q.1) q.2) (fun q=>a.slow.length-q.1) (0,m) ⟨Zb,hm.to Zb Zb⟩ (Weak.mk ?_) ?_
         ·simp (disch:=omega) only [Z7,W6,go_sem,seval]
         ·clear hm;rintro ⟨j,m⟩ ⟨hj,hm⟩;simp only at hj hm;have hml:=hm.len;refine Bt ?_;refine cD ?_ ?_<;>intro h<;>simp (disch:=omega) only [Sh.out h,go_sem,seval,↓reduceIte]
          ·have hj2:j<a.slow.length:=Za
           refine Xr (Zc ?_);refine Zr (NY (nth a.slow j).t) (Zc ?_);have hslo:KS a.slow j↔(Ly (nth a.slow j).t=true/\Ly (nth a.slow j).a=true/\(0<j->(nth a.slow (j-1)).t<(nth a.slow j).t)):=Iff.rfl;have hyes: ¬KS a.slow j->_:=fun hs=>(hm.yes (x:=(2,at')) hs (by grind [pF])).to (D:=(((((0<=a.src/\a.src<n.places.length/\0<=a.dst/\a.dst<n.places.length)/\(0<=a.prof/\a.prof<=7/\0<=a.miles/\a.miles<=10000/\a.src≠a.dst))/\ ∀j,j<k-> ¬Wy a (nth n.arcs j))/\WZ a.travel)/\a.slow.length<=16)/\ ∀i,i<j+1->KS a.slow i) (d:=4+lt.length+(j+1)) Za (by grind)
           have hno:KS a.slow j->_:=fun hs=>(hm.no hs).to (D:=(((((0<=a.src/\a.src<n.places.length/\0<=a.dst/\a.dst<n.places.length)/\(0<=a.prof/\a.prof<=7/\0<=a.miles/\a.miles<=10000/\a.src≠a.dst))/\ ∀j,j<k-> ¬Wy a (nth n.arcs j))/\WZ a.travel)/\a.slow.length<=16)/\ ∀i,i<j+1->KS a.slow i) (d:=4+lt.length+(j+1)) Za (by grind)
           cases ht1:Ly (nth a.slow j).t with
           | false =>
            refine Zc ?_;exact ⟨(j+1,m++ [(2,at')]),⟨Za,hyes (by grind)⟩,Za,wk⟩
           | true =>
            refine Zc ?_;refine Zr (NY (nth a.slow j).a) (Zc ?_)
            cases ht2:Ly (nth a.slow j).a with
            | false =>
             refine Zc ?_;exact ⟨(j+1,m++ [(2,at')]),⟨Za,hyes (by grind)⟩,Za,wk⟩
            | true =>
             refine Zc ?_
             repeat' (first | (refine gT ?_ ?_<;>intro hq<;>simp (disch:=omega) only [Sh.out hq,go_sem,seval]) | (refine UF (fun hq=> ?_) (fun hq=> ?_)<;>(try simp only [Zp,Yu,Xs] at hq)<;>simp (disch:=omega) only [Sh.out hq,go_sem,seval]) | (refine cD ?_ ?_<;>intro hq<;>simp (disch:=omega) only [Sh.out hq,go_sem,seval]))
             ·exact ⟨(j+1,m++ [(2,at')]),⟨Za,hyes (by grind)⟩,Za,wk⟩
             ·exact ⟨(j+1,m),⟨Za,hno (by grind)⟩,Za,wk⟩
             ·exact ⟨(j+1,m),⟨Za,hno (by grind)⟩,Za,wk⟩
          ·have hjn:j=a.slow.length:=Za
           subst hjn;exact ⟨m,hm.to Za (by rw [LY,hga]),2,by simp (disch:=omega) only [go_sem,seval]⟩
theorem Zo {α:Type} [Inhabited α] {l:List α} {i:Nat} (h:i<l.length):nth l i∈l:=by grind [Zi]
theorem zD (n:Net) (hw:n.wf 1048576):ACalls Tryz.prog 126 [.p (BQ n)] [] fun x H'=> ∃m:List Flt,FR (pF 26) (netOk n) 4194306000000 m/\x= .sl 0 0 m.length m.length/\H'= [.elems 2 (m.map eF)]:=by
 obtain ⟨w1,w2,w3,w4⟩:=hw;refine Xj [2] Tryz.func126 rfl Zaz ?_;simp (disch:=omega) only [Tryz.f126,go_sem,seval];refine (OI n w1 w2).useE fun m hm=>Zc ?_;have hml:=hm.len;refine ZD [1] (fun m:List Flt=> [(3,.sl 1 0 m.length m.length)]) (fun m=>Z7 n++ [.elems 2 (m.map eF)]) (fun m=>FR (pF 26) (KH n/\n.arcs.length<=1024) (n.places.length+2) m) ?_ ?_
 ·refine Zc ?_;refine ZI ?_ ?_<;>intro h
  ·exact ⟨m++ [(4,[97,114,99,115])],hm.yes Za (by simp [pF]),Weak.mk (by simp (disch:=omega) only [Z7,go_sem,seval])⟩
  ·exact ⟨m,hm.no Za,Weak.mk (by simp (disch:=omega) only [Z7,go_sem,seval])⟩
 ·clear hm hml;intro m hm;refine Zg [] _ _ _ _ (KU ?_);refine Zk [1] (fun q:Nat×List Flt=> [(3,.sl 1 0 q.2.length q.2.length),(4,.p (.int .i64 q.1))]) (fun q=>Z7 n++ [.elems 2 (q.2.map eF)]) (fun q=>q.1<=n.arcs.length/\FR (pF 26) ((KH n/\n.arcs.length<=1024)/\ ∀j,j<q.1->LY n j) (n.places.length+2+q.1*4000000) q.2) (fun q=>n.arcs.length-q.1) (0,m) ⟨Zb,hm.to Zb Zb⟩ (Weak.mk ?_) ?_
  ·simp (disch:=omega) only [Z7,go_sem,seval]
  ·clear hm;rintro ⟨k,m⟩ ⟨hk,hm⟩;simp only at hk hm;have hml:=hm.len;refine KU ?_;refine cD ?_ ?_<;>intro h<;>simp (disch:=omega) only [Sh.out h,go_sem,seval,↓reduceIte]
   ·have hk2:k<n.arcs.length:=Za
    have ha:=w4 _ (Zo hk2);refine (pJ n k hk2 w1 w3 ha.2.2.2.2.1 ha.2.2.2.2.2.2.1).useE fun f hf=>Zc ?_;have hfl:=hf.len
    have q1:(m.length+f.length)*24<=140737488355328:=Za
    have q2:m.length+f.length<=140737488355328:=Za
    simp (disch:=omega) only [q1,q2,go_sem,seval];refine ⟨(k+1,m++f),⟨Za,(hm.app hf).to Za (by grind)⟩,Za,Weak.mk ?_⟩;simp (disch:=omega) only [ZG,XA,go_sem,seval]
   ·have hkn:k=n.arcs.length:=Za
    subst hkn;exact ⟨m,hm.to Za (by rw [netOk]),1,by simp (disch:=omega) only [go_sem,seval]⟩
def Zh (x:Inst):AM.Obj:= .cells [.p (.list x.net.places_c (x.net.places.map eS)),.p (.list x.net.arcs_c (x.net.arcs.map WV)),.p (.list x.types_c (x.types.map WW)),.p (.list x.orders_c (x.orders.map eOrd)),.p (.list x.apart_c (x.apart.map eP)),.p (.list x.before_c (x.before.map eP))]
def zSco : Sco:=⟨0,0,0,0⟩
theorem Vv (n lo hi:Int):PC 172 [.p (.int .i64 n),.p (.int .i64 lo),.p (.int .i64 hi)] (.bool (rng n lo hi)):=by
 refine Zd Tryz.func172 rfl Za9 ?_;simp (disch:=omega) only [Tryz.f172,go_sem,seval];refine gT ?_ ?_<;>intro h<;>simp (disch:=omega) only [Sh.out h,go_sem,seval,↓reduceIte]
 all_goals (simp [rng];first | done | omega | (rw [Yj];simp;omega))
def UK (l:List Int) (d:Int):Bool:=rng l.length 1 3&&decide ((l.length:Int)=d)&&l.all fun n=>rng n 0 1000
theorem OF (l:List Int) (c:Bool) (d:Int) (hl:l.length<=1048576):PC 230 [.p (.list c (l.map eI)),.p (.int .i64 d)] (.bool (UK l d)):=by
 refine Zd Tryz.func230 rfl ZbE ?_;simp (disch:=omega) only [Tryz.f230,go_sem,seval];refine (Vv l.length 1 3).use (Zc ?_);refine gF ?_ ?_<;>intro h<;>simp (disch:=omega) only [Sh.out h,go_sem,seval,↓reduceIte]
 ·grind [UK]
 ·simp only [XN] at h;refine cD ?_ ?_<;>intro h2<;>simp (disch:=omega) only [Sh.out h2,go_sem,seval]
  ·simp [UK,h,h2]
  ·simp only [Xs] at h2;subst h2;refine Zk [0] (fun k:Nat=> [(5,.p (.int .i64 k))]) (fun _=> []) (fun k=>k<=l.length/\ ∀j,j<k->rng (nth l j) 0 1000=true) (fun k=>l.length-k) 0 Zb (Weak.mk ?_) ?_
   ·simp (disch:=omega) only [go_sem,seval,↓reduceIte]
   ·rintro k ⟨hk,hno⟩;refine Zc ?_;refine cD ?_ ?_<;>intro h3<;>simp (disch:=omega) only [Sh.out h3,go_sem,seval,↓reduceIte]
    ·have hk2:k<l.length:=Za
     refine (Vv (nth l k) 0 1000).use (Zc ?_);refine cD ?_ ?_<;>intro h4<;>simp (disch:=omega) only [Sh.out h4,go_sem,seval,↓reduceIte]
     ·grind [Zo,UK]
     ·simp only [XN] at h4;exact ⟨k+1,⟨Za,Zm.2 ⟨hno,h4⟩⟩,Za,wk⟩
    ·have:l.all (fun n=>rng n 0 1000)=true:=by
      rw [Zt];intro x hx;obtain ⟨j,hj,rfl⟩:=ZU.1 hx
      grind [Zi]
     grind [UK]
def O1 (l:List Typ) (i:Nat) (s:List UInt8):Bool:=(List.range i).any fun j=>decide ((nth l j).name=s)
theorem Uu {l:List Typ} {i:Nat} {s:List UInt8} :O1 l i s=false↔ ∀j,j<i->(nth l j).name≠s:=by
 grind [O1]
theorem Tv (l:List Typ) (c:Bool) (i:Nat) (s:List UInt8) (hi:i<=l.length) (hl:l.length<=1048576):PC 229 [.p (.list c (l.map WW)),.p (.int .i64 (i:Nat)),.p (.str s)] (.bool (O1 l i s)):=by
 refine Zd Tryz.func229 rfl ZbD ?_;simp (disch:=omega) only [Tryz.f229,go_sem,seval];refine Zk [0,1,2] (fun k:Nat=> [(7,.p (.int .i64 k))]) (fun _=> []) (fun k=>k<=i/\ ∀j,j<k->(nth l j).name≠s) (fun k=>i-k) 0 Zb (Weak.mk ?_) ?_
 ·simp (disch:=omega) only [go_sem,seval,↓reduceIte]
 ·rintro k ⟨hk,hno⟩;refine Zc ?_;refine cD ?_ ?_<;>intro h3<;>simp (disch:=omega) only [Sh.out h3,go_sem,seval,↓reduceIte]
  ·have hk2:k<l.length:=Za
   refine cD ?_ ?_<;>intro h4<;>simp (disch:=omega) only [Sh.out h4,go_sem,seval,↓reduceIte]
   ·grind [Uu]
   ·exact ⟨k+1,⟨Za,Zm.2 ⟨hno,h4⟩⟩,Za,wk⟩
  grind [Uu]
def dimsOf (l:List Typ):Int:=if l.length=0 then 0 else ((nth l 0).cap.length:Int)
theorem Mv (l:List Typ) (c:Bool) (hl:l.length<=1048576):PC 129 [.p (.list c (l.map WW))] (.int .i64 (dimsOf l)):=by
 refine Zd Tryz.func129 rfl ZaC ?_;simp (disch:=omega) only [Tryz.f129,go_sem,seval];refine cD ?_ ?_<;>intro h<;>simp (disch:=omega) only [Sh.out h,go_sem,seval,↓reduceIte]
 ·grind [dimsOf]
 ·have h0:0<l.length:=Za
  have h1:l.length≠0:=Za
  simp (disch:=first | omega | (simp only [Zw,Zz,ZG,ZK,ZQ,Z4]<;>omega)) only [dimsOf,h1,go_sem,seval,↓reduceIte]
def Yz (t:Typ):AM.Obj:= .cells [.p (.str t.name),.p (.int .i64 t.count),.p (.int .i64 t.src),.p (.int .i64 t.dst),.p (.list t.cap_c (t.cap.map eI)),.p (.int .i64 t.skills),.p (.int .i64 t.prof),.p (.int .i64 t.opn),.p (.int .i64 t.cls),.p (.int .i64 t.drive),.p (.int .i64 t.rest),.p (.int .i64 t.fixed),.p (.int .i64 t.perMile),.p (.int .i64 t.perTick)]
def A3 (n:Net) (l:List Typ) (i:Nat):Prop:=((((((((nameOk (nth l i).name=true)/\(∀j,j<i->(nth l j).name≠(nth l i).name))/\rng (nth l i).count 0 10=true)/\(rng (nth l i).src 0 (n.places.length-1)=true/\rng (nth l i).dst 0 (n.places.length-1)=true))/\UK (nth l i).cap (dimsOf l)=true)/\rng (nth l i).skills 0 1073741823=true)/\(rng (nth l i).opn 0 (nth l i).cls=true/\(nth l i).cls<=4096))/\(rng (nth l i).drive 1 4096=true/\rng (nth l i).rest 0 4096=true))/\(rng (nth l i).prof 0 7=true/\rng (nth l i).fixed 0 100000=true/\rng (nth l i).perMile 0 100=true/\rng (nth l i).perTick 0 100=true)
theorem CO {P Q:Prop} (h:Q) (e:Q->P:=by intro h;simp (disch:=omega) only [Z7,Yz,go_sem,seval];exact h):P:=e h
theorem aQ (n:Net) (l:List Typ) (c:Bool) (i:Nat) (hi:i<l.length) (hl:l.length<=1048576) (hw:n.wf 1048576) (ht:(nth l i).wf 1048576) :
  ACalls Tryz.prog 173 [.p (BQ n),.p (.list c (l.map WW)),.p (.int .i64 (i:Nat))] [] fun x H'=> ∃m:List Int,FR (fun _=>True) (A3 n l i) 9 m/\x= .sl 0 0 m.length m.length/\H'= [.elems 1 (m.map eI)]:=by
 obtain ⟨w1,w2,w3,w4⟩:=hw;refine Xj [3] Tryz.func173 rfl Zba ?_;simp (disch:=omega) only [Tryz.f173,go_sem,seval];have hty:A3 n l i↔((((((((nameOk (nth l i).name=true)/\(∀j,j<i->(nth l j).name≠(nth l i).name))/\rng (nth l i).count 0 10=true)/\(rng (nth l i).src 0 (n.places.length-1)=true/\rng (nth l i).dst 0 (n.places.length-1)=true))/\UK (nth l i).cap (dimsOf l)=true)/\rng (nth l i).skills 0 1073741823=true)/\(rng (nth l i).opn 0 (nth l i).cls=true/\(nth l i).cls<=4096))/\(rng (nth l i).drive 1 4096=true/\rng (nth l i).rest 0 4096=true))/\(rng (nth l i).prof 0 7=true/\rng (nth l i).fixed 0 100000=true/\rng (nth l i).perMile 0 100=true/\rng (nth l i).perTick 0 100=true):=Iff.rfl
 generalize hga:nth l i=t at ht hty ⊢;have hname:=ht.1;have hcap:=ht.2.2.2.2.1;refine Zq (Weak.ofNil 8 1 (by simp (disch:=omega) only [go_sem,seval]) Zb (Weak.refl _ _ _)) ?_;refine ZD [1,2,3,7] (fun m:List Int=> [(8,.sl 2 0 m.length m.length)]) (fun m=>Z7 n++ [Yz t,.elems 1 (m.map eI)]) (fun m=>FR (fun _=>True) (nameOk t.name=true) 1 m) ?_ ?_
 ·refine Zc ?_;refine (O5 t.name hname).use (Zc ?_);refine ZI ?_ ?_<;>intro h0
  ·simp only [XU] at h0;exact ⟨[5],⟨Zb,by simp [h0],Zb⟩,Weak.mk (by simp (disch:=omega) only [Z7,Yz,go_sem,seval])⟩
  ·simp only [XN] at h0;exact ⟨[],FR.nil (by simp [h0]),Weak.mk (by simp (disch:=omega) only [Z7,Yz,go_sem,seval])⟩
 ·skip
  intro m hm;refine Zg [5] _ _ _ _ (CO ?_);have hml:=hm.len;refine ZD [1,3,7] (fun m:List Int=> [(8,.sl 2 0 m.length m.length)]) (fun m=>Z7 n++ [Yz t,.elems 1 (m.map eI)]) (fun m=>FR (fun _=>True) ((nameOk t.name=true)/\(∀j,j<i->(nth l j).name≠t.name)) 2 m) ?_ ?_
  ·refine Zc ?_;refine (Tv l c i t.name Za hl).use (Zc ?_);refine ZI ?_ ?_<;>intro h
   ·exact ⟨m++ [6],hm.yes (by grind [Uu]) trivial,Weak.mk (by simp (disch:=omega) only [Z7,Yz,go_sem,seval])⟩
   ·exact ⟨m,hm.no (by exact Uu.1 h),Weak.mk (by simp (disch:=omega) only [Z7,Yz,go_sem,seval])⟩
  ·clear hm hml;intro m hm;refine Zg [7] _ _ _ _ (CO ?_);have hml:=hm.len;refine ZD [1,3,7] (fun m:List Int=> [(8,.sl 2 0 m.length m.length)]) (fun m=>Z7 n++ [Yz t,.elems 1 (m.map eI)]) (fun m=>FR (fun _=>True) (((nameOk t.name=true)/\(∀j,j<i->(nth l j).name≠t.name))/\rng t.count 0 10=true) 3 m) ?_ ?_
   ·refine Zc ?_;refine (Vv t.count 0 10).use (Zc ?_);refine ZI ?_ ?_<;>intro h0
    ·simp only [XU] at h0;exact ⟨m++ [22],hm.yes (by simp [h0]) trivial,Weak.mk (by simp (disch:=omega) only [Z7,Yz,go_sem,seval])⟩
    ·simp only [XN] at h0;exact ⟨m,hm.no (by simp [h0]),Weak.mk (by simp (disch:=omega) only [Z7,Yz,go_sem,seval])⟩
   ·clear hm hml;intro m hm;refine Zg [9] _ _ _ _ (CO ?_);have hml:=hm.len;refine ZD [1,7] (fun m:List Int=> [(8,.sl 2 0 m.length m.length)]) (fun m=>Z7 n++ [Yz t,.elems 1 (m.map eI)]) (fun m=>FR (fun _=>True) ((((nameOk t.name=true)/\(∀j,j<i->(nth l j).name≠t.name))/\rng t.count 0 10=true)/\(rng t.src 0 (n.places.length-1)=true/\rng t.dst 0 (n.places.length-1)=true)) 4 m) ?_ ?_
    ·refine Zc ?_;refine (Vv t.src 0 (n.places.length-1)).use (Zc ?_);refine BJ ?_ ?_<;>intro h0
     ·simp only [XU] at h0;exact ⟨m++ [11],hm.yes (by simp [h0]) trivial,Weak.mk (by simp (disch:=omega) only [Z7,Yz,go_sem,seval])⟩
     ·simp only [XN] at h0;refine (Vv t.dst 0 (n.places.length-1)).use (Zc ?_);refine ZI ?_ ?_<;>intro h1
      ·simp only [XU] at h1;exact ⟨m++ [11],hm.yes (by simp [h1]) trivial,Weak.mk (by simp (disch:=omega) only [Z7,Yz,go_sem,seval])⟩
      ·simp only [XN] at h1;exact ⟨m,hm.no (by simp [h0,h1]),Weak.mk (by simp (disch:=omega) only [Z7,Yz,go_sem,seval])⟩
    ·clear hm hml;intro m hm;refine Zg [11] _ _ _ _ (CO ?_);have hml:=hm.len;refine ZD [7] (fun m:List Int=> [(8,.sl 2 0 m.length m.length)]) (fun m=>Z7 n++ [Yz t,.elems 1 (m.map eI)]) (fun m=>FR (fun _=>True) (((((nameOk t.name=true)/\(∀j,j<i->(nth l j).name≠t.name))/\rng t.count 0 10=true)/\(rng t.src 0 (n.places.length-1)=true/\rng t.dst 0 (n.places.length-1)=true))/\UK t.cap (dimsOf l)=true) 5 m) ?_ ?_
     ·refine Zc ?_;refine Xr (Zc ?_);refine Zr (Mv l c hl) (Zc ?_);refine Zr (OF t.cap t.cap_c (dimsOf l) hcap) (Zc ?_);refine ZI ?_ ?_<;>intro h
      ·simp only [XU] at h;exact ⟨m++ [17],hm.yes (by simp [h]) trivial,Weak.mk (by simp (disch:=omega) only [Z7,Yz,go_sem,seval])⟩
      ·simp only [XN] at h;exact ⟨m,hm.no (by simp [h]),Weak.mk (by simp (disch:=omega) only [Z7,Yz,go_sem,seval])⟩
     ·clear hm hml;intro m hm;refine Zg [13] _ _ _ _ (CO ?_);have hml:=hm.len;refine ZD [7] (fun m:List Int=> [(8,.sl 2 0 m.length m.length)]) (fun m=>Z7 n++ [Yz t,.elems 1 (m.map eI)]) (fun m=>FR (fun _=>True) ((((((nameOk t.name=true)/\(∀j,j<i->(nth l j).name≠t.name))/\rng t.count 0 10=true)/\(rng t.src 0 (n.places.length-1)=true/\rng t.dst 0 (n.places.length-1)=true))/\UK t.cap (dimsOf l)=true)/\rng t.skills 0 1073741823=true) 6 m) ?_ ?_
      ·refine Zc ?_;refine (Vv t.skills 0 1073741823).use (Zc ?_);refine ZI ?_ ?_<;>intro h0
       ·simp only [XU] at h0;exact ⟨m++ [18],hm.yes (by simp [h0]) trivial,Weak.mk (by simp (disch:=omega) only [Z7,Yz,go_sem,seval])⟩
       ·simp only [XN] at h0;exact ⟨m,hm.no (by simp [h0]),Weak.mk (by simp (disch:=omega) only [Z7,Yz,go_sem,seval])⟩
      ·clear hm hml;intro m hm;refine Zg [15] _ _ _ _ (CO ?_);have hml:=hm.len;refine ZD [7] (fun m:List Int=> [(8,.sl 2 0 m.length m.length)]) (fun m=>Z7 n++ [Yz t,.elems 1 (m.map eI)]) (fun m=>FR (fun _=>True) (((((((nameOk t.name=true)/\(∀j,j<i->(nth l j).name≠t.name))/\rng t.count 0 10=true)/\(rng t.src 0 (n.places.length-1)=true/\rng t.dst 0 (n.places.length-1)=true))/\UK t.cap (dimsOf l)=true)/\rng t.skills 0 1073741823=true)/\(rng t.opn 0 t.cls=true/\t.cls<=4096)) 7 m) ?_ ?_
       ·refine Zc ?_;refine (Vv t.opn 0 t.cls).use (Zc ?_);refine BJ ?_ ?_<;>intro h0
        ·simp only [XU] at h0;exact ⟨m++ [15],hm.yes (by simp [h0]) trivial,Weak.mk (by simp (disch:=omega) only [Z7,Yz,go_sem,seval])⟩
        ·simp only [XN] at h0;refine ZI ?_ ?_<;>intro h1
         ·exact ⟨m++ [15],hm.yes Za trivial,Weak.mk (by simp (disch:=omega) only [Z7,Yz,go_sem,seval])⟩
         ·exact ⟨m,hm.no (by grind),Weak.mk (by simp (disch:=omega) only [Z7,Yz,go_sem,seval])⟩
       ·clear hm hml;intro m hm;refine Zg [17] _ _ _ _ (CO ?_);have hml:=hm.len;refine ZD [7] (fun m:List Int=> [(8,.sl 2 0 m.length m.length)]) (fun m=>Z7 n++ [Yz t,.elems 1 (m.map eI)]) (fun m=>FR (fun _=>True) ((((((((nameOk t.name=true)/\(∀j,j<i->(nth l j).name≠t.name))/\rng t.count 0 10=true)/\(rng t.src 0 (n.places.length-1)=true/\rng t.dst 0 (n.places.length-1)=true))/\UK t.cap (dimsOf l)=true)/\rng t.skills 0 1073741823=true)/\(rng t.opn 0 t.cls=true/\t.cls<=4096))/\(rng t.drive 1 4096=true/\rng t.rest 0 4096=true)) 8 m) ?_ ?_
        ·refine Zc ?_;refine (Vv t.drive 1 4096).use (Zc ?_);refine BJ ?_ ?_<;>intro h0
         ·simp only [XU] at h0;exact ⟨m++ [16],hm.yes (by simp [h0]) trivial,Weak.mk (by simp (disch:=omega) only [Z7,Yz,go_sem,seval])⟩
         ·simp only [XN] at h0;refine (Vv t.rest 0 4096).use (Zc ?_);refine ZI ?_ ?_<;>intro h1
          ·simp only [XU] at h1;exact ⟨m++ [16],hm.yes (by simp [h1]) trivial,Weak.mk (by simp (disch:=omega) only [Z7,Yz,go_sem,seval])⟩
          ·simp only [XN] at h1;exact ⟨m,hm.no (by simp [h0,h1]),Weak.mk (by simp (disch:=omega) only [Z7,Yz,go_sem,seval])⟩
        ·clear hm hml;intro m hm;refine Zg [19] _ _ _ _ (CO ?_);have hml:=hm.len;refine ZD [] (fun m:List Int=> [(8,.sl 2 0 m.length m.length)]) (fun m=>Z7 n++ [Yz t,.elems 1 (m.map eI)]) (fun m=>FR (fun _=>True) (((((((((nameOk t.name=true)/\(∀j,j<i->(nth l j).name≠t.name))/\rng t.count 0 10=true)/\(rng t.src 0 (n.places.length-1)=true/\rng t.dst 0 (n.places.length-1)=true))/\UK t.cap (dimsOf l)=true)/\rng t.skills 0 1073741823=true)/\(rng t.opn 0 t.cls=true/\t.cls<=4096))/\(rng t.drive 1 4096=true/\rng t.rest 0 4096=true))/\(rng t.prof 0 7=true/\rng t.fixed 0 100000=true/\rng t.perMile 0 100=true/\rng t.perTick 0 100=true)) 9 m) ?_ ?_
         ·refine Zc ?_;refine (Vv t.prof 0 7).use (Zc ?_);refine gF ?_ ?_<;>intro h0<;>simp (disch:=omega) only [Sh.out h0,go_sem,seval,↓reduceIte]
          ·simp only [XU] at h0;exact ⟨m++ [2],hm.yes (by simp [h0]) trivial,Weak.mk (by simp (disch:=omega) only [Z7,Yz,go_sem,seval])⟩
          ·simp only [XN] at h0;refine (Vv t.fixed 0 100000).use (Zc ?_);refine gF ?_ ?_<;>intro h1<;>simp (disch:=omega) only [Sh.out h1,go_sem,seval,↓reduceIte]
           ·simp only [XU] at h1;exact ⟨m++ [2],hm.yes (by simp [h1]) trivial,Weak.mk (by simp (disch:=omega) only [Z7,Yz,go_sem,seval])⟩
           ·simp only [XN] at h1;refine (Vv t.perMile 0 100).use (Zc ?_);refine gF ?_ ?_<;>intro h2<;>simp (disch:=omega) only [Sh.out h2,go_sem,seval,↓reduceIte]
            ·simp only [XU] at h2;exact ⟨m++ [2],hm.yes (by simp [h2]) trivial,Weak.mk (by simp (disch:=omega) only [Z7,Yz,go_sem,seval])⟩
            ·simp only [XN] at h2;refine (Vv t.perTick 0 100).use (Zc ?_);refine cD ?_ ?_<;>intro h3<;>simp (disch:=omega) only [Sh.out h3,go_sem,seval,↓reduceIte]
             ·simp only [XU] at h3;exact ⟨m++ [2],hm.yes (by simp [h3]) trivial,Weak.mk (by simp (disch:=omega) only [Z7,Yz,go_sem,seval])⟩
             ·simp only [XN] at h3;exact ⟨m,hm.no (by grind),Weak.mk (by simp (disch:=omega) only [Z7,Yz,go_sem,seval])⟩
         ·clear hm hml;intro m hm;refine Zg [] _ _ _ _ (CO ?_);have hml:=hm.len;exact ⟨m,hm.to Za (by rw [hty]),2,by simp (disch:=omega) only [go_sem,seval]⟩
def typesOk (n:Net) (l:List Typ):Prop:=rng l.length 1 6=true/\ ∀i,i<l.length->A3 n l i
theorem zF (n:Net) (l:List Typ) (c:Bool) (hw:n.wf 1048576) (hl:l.length<=1048576) (hlw: ∀t∈l,t.wf 1048576) :
  ACalls Tryz.prog 127 [.p (BQ n),.p (.list c (l.map WW))] [] fun x H'=> ∃m:List Flt,FR (pF 20) (typesOk n l) (1+9*l.length) m/\x= .sl 0 0 m.length m.length/\H'= [.elems 2 (m.map eF)]:=by
 refine Xj [2] Tryz.func127 rfl ZaA ?_;simp (disch:=omega) only [Tryz.f127,go_sem,seval];refine Zq (Weak.ofNil 5 2 (by simp (disch:=omega) only [go_sem,seval]) Zb (Weak.refl _ _ _)) ?_;refine ZD [1,2] (fun m:List Flt=> [(5,.sl 1 0 m.length m.length)]) (fun m=>Z7 n++ [.elems 2 (m.map eF)]) (fun m=>FR (pF 20) (rng l.length 1 6=true) 1 m) ?_ ?_
 ·refine Zc ?_;refine (Vv l.length 1 6).use (Zc ?_);refine ZI ?_ ?_<;>intro h
  ·simp only [XU] at h;exact ⟨[(4,[])],⟨Zb,by simp [h],by simp [pF]⟩,Weak.mk (by simp (disch:=omega) only [Z7,go_sem,seval])⟩
  ·simp only [XN] at h;exact ⟨[],FR.nil h,Weak.mk (by simp (disch:=omega) only [Z7,go_sem,seval])⟩
 ·intro m hm;refine Zg [] _ _ _ _ (KU ?_);refine Zk [1,2] (fun q:Nat×List Flt=> [(5,.sl 1 0 q.2.length q.2.length),(6,.p (.int .i64 q.1))]) (fun q=>Z7 n++ [.elems 2 (q.2.map eF)]) (fun q=>q.1<=l.length/\FR (pF 20) (rng l.length 1 6=true/\ ∀j,j<q.1->A3 n l j) (1+9*q.1) q.2) (fun q=>l.length-q.1) (0,m) ⟨Zb,hm.to Zb Zb⟩ (Weak.mk ?_) ?_
  ·simp (disch:=omega) only [Z7,go_sem,seval]
  ·clear hm;rintro ⟨k,m⟩ ⟨hk,hm⟩;simp only at hk hm;have hml:=hm.len;refine KU ?_;refine cD ?_ ?_<;>intro h<;>simp (disch:=omega) only [Sh.out h,go_sem,seval,↓reduceIte]
   ·have hk2:k<l.length:=Za
    have hI:Uo (k:Int):=Za
    have hdl:=QM k hI;refine ((aQ n l c k hk2 hl hw (hlw _ (Zo hk2))).frozenE).useV fun e he=>Zc ?_;have hel:=he.len;refine Zk [1,2,6,7] (fun q:Nat×List Flt=> [(5,.sl 1 0 q.2.length q.2.length),(8,.p (.int .i64 q.1))]) (fun q=>Z7 n++ [.elems 2 (q.2.map eF)]) (fun q=>q.1<=e.length/\FR (pF 20) ((rng l.length 1 6=true/\ ∀j,j<k->A3 n l j)/\q.1=0) (1+9*k+q.1) q.2) (fun q=>e.length-q.1) (0,m) ⟨Zb,hm.to Zb Zb⟩ (Weak.mk ?_) ?_
    ·simp (disch:=omega) only [Z7,go_sem,seval]
    ·clear hm hml;rintro ⟨j,m⟩ ⟨hj,hm⟩;simp only at hj hm;have hml:=hm.len;refine KU ?_;refine ZI ?_ ?_<;>intro h2
     ·have hj2:j<e.length:=Za
      refine ZV 9 mixed Ze Ze (Zc ?_);refine Zr (Ab k hI) (Zc ?_);exact ⟨(j+1,m++ [(nth e j,AP k)]),⟨Za,(hm.yes (c:=False) Zb (by grind [pF])).to Za Zb⟩,Za,wk⟩
     ·have hjl:j=e.length:=Za
      subst hjl;exact ⟨(k+1,m),⟨Za,hm.to Za (by simp only [Zm,and_assoc];rw [<- he.emp,List.eq_nil_iff_length_eq_zero])⟩,Za,wk⟩
   ·have hkn:k=l.length:=Za
    subst hkn;exact ⟨m,hm.to Za (by rw [typesOk]),1,by simp (disch:=omega) only [go_sem,seval]⟩
theorem Fi (n lo hi:Int):PC 232 [.p (.int .i64 n),.p (.int .i64 lo),.p (.int .i64 hi)] (.bool (rng n lo hi)):=by
 refine Zd Tryz.func232 rfl ZbG ?_;simp (disch:=omega) only [Tryz.f232,go_sem,seval];refine gT ?_ ?_<;>intro h<;>simp (disch:=omega) only [Sh.out h,go_sem,seval,↓reduceIte]
 all_goals (simp [rng];first | done | omega | (rw [Yj];simp;omega))
def loadOk (l:List Int) (d:Int):Bool:=decide ((l.length:Int)=d)&&l.all fun n=>rng n 0 1000
theorem aF (l:List Int) (c:Bool) (d:Int) (hl:l.length<=1048576):PC 231 [.p (.list c (l.map eI)),.p (.int .i64 d)] (.bool (loadOk l d)):=by
 refine Zd Tryz.func231 rfl ZbF ?_;simp (disch:=omega) only [Tryz.f231,go_sem,seval];refine cD ?_ ?_<;>intro h2<;>simp (disch:=omega) only [Sh.out h2,go_sem,seval]
 ·simp [loadOk,h2]
 ·simp only [Xs] at h2;subst h2;refine Zk [0] (fun k:Nat=> [(5,.p (.int .i64 k))]) (fun _=> []) (fun k=>k<=l.length/\ ∀j,j<k->rng (nth l j) 0 1000=true) (fun k=>l.length-k) 0 Zb (Weak.mk ?_) ?_
  ·simp (disch:=omega) only [go_sem,seval,↓reduceIte]
  ·rintro k ⟨hk,hno⟩;refine Zc ?_;refine cD ?_ ?_<;>intro h3<;>simp (disch:=omega) only [Sh.out h3,go_sem,seval,↓reduceIte]
   ·have hk2:k<l.length:=Za
    have hbad:rng (nth l k) 0 1000=false->loadOk l l.length=false:=fun h4=>by
     grind [Zo,loadOk]
    repeat' (first | (refine V3 (fun hq=> ?_) (fun hq=> ?_)<;>(try simp only [Zp,Yu,Xs] at hq)<;>simp (disch:=omega) only [Sh.out hq,go_sem,seval]) | (refine gF ?_ ?_<;>intro hq<;>simp (disch:=omega) only [Sh.out hq,go_sem,seval,↓reduceIte]) | (refine cD ?_ ?_<;>intro hq<;>simp (disch:=omega) only [Sh.out hq,go_sem,seval,↓reduceIte]))
    all_goals first
     | (rw [hbad (by simp [rng];omega)])
     | exact ⟨k+1,⟨Za,Zm.2 ⟨hno,by simp [rng];omega⟩⟩,Za,wk⟩
   ·have:l.all (fun n=>rng n 0 1000)=true:=by
     rw [Zt];intro x hx;obtain ⟨j,hj,rfl⟩:=ZU.1 hx
     grind [Zi]
    simp [loadOk,this]
def stpOk (s:Stp):Bool:=decide ((s.place= -1/\s.opn=0/\s.cls=0/\s.serv=0)\/(0<=s.place/\0<=s.opn/\s.opn<=s.cls/\s.cls<=4096/\0<=s.serv/\s.serv<=4096))
def bD (s:Stp):Int:=if stpOk s=true then 0 else 2
theorem eM (s:Stp):PC 233 [.p (IS s)] (.int .i64 (bD s)):=by
 refine Zd Tryz.func233 rfl ZbH ?_;simp (disch:=omega) only [Tryz.f233,go_sem,seval]
 repeat' (first | (refine gT ?_ ?_<;>intro hq<;>simp (disch:=omega) only [Sh.out hq,go_sem,seval,↓reduceIte]) | (refine gF ?_ ?_<;>intro hq<;>simp (disch:=omega) only [Sh.out hq,go_sem,seval,↓reduceIte]) | (refine cD ?_ ?_<;>intro hq<;>simp (disch:=omega) only [Sh.out hq,go_sem,seval,↓reduceIte]))
 all_goals (simp only [bD,stpOk,Zp])
 all_goals first
  | (exfalso;omega)
  | (rw [if_pos Za])
  | (rw [if_neg Za])
def UU (l:List Ord) (i:Nat):Bool:=(List.range i).all fun j=>decide ((nth l j).name≠(nth l i).name)
theorem KC {l:List Ord} {i:Nat} :UU l i=true↔ ∀j,j<i->(nth l j).name≠(nth l i).name:=by simp [UU]
def Vk (b:Bool) (e:Int):List Int:=if b=true then [] else [e]
theorem Uz (b:Bool) (e:Int):(Vk b e).length<=1:=by grind [Vk]
theorem Ql {b:Bool} {e:Int} {m p:List Int} (h:m=p) (hb:b=true):m=p++Vk b e:=by simp [Vk,hb,h]
theorem Ul {b:Bool} {e:Int} {m p:List Int} (h:m=p) (hb:b=false):m++ [e]=p++Vk b e:=by simp [Vk,hb,h]
def Wi (t:Ord):AM.Obj:= .cells [.p (.str t.name),.p (.list t.load_c (t.load.map eI)),.p (.int .i64 t.pick.place),.p (.int .i64 t.pick.opn),.p (.int .i64 t.pick.cls),.p (.int .i64 t.pick.serv),.p (.int .i64 t.drp.place),.p (.int .i64 t.drp.opn),.p (.int .i64 t.drp.cls),.p (.int .i64 t.drp.serv),.p (.int .i64 t.skills),.p (.int .i64 t.penalty),.p (.int .i64 t.split),.p (.int .i64 t.last),.p (.int .i64 t.now),.p (.bool t.off)]
def IE (t:Ord):Bool:=decide (t.pick.place≠ -1)&&decide (t.drp.place≠ -1)
def argOk (t:Ord) (ty:Int):Bool:=rng t.penalty (-1) 1000000&&rng t.split 1 4&&decide (¬(1<t.split/\IE t=true)/\ -1<=t.last/\t.last<ty/\ -1<=t.now/\t.now<ty)
def Y8 (np:Nat) (d ty:Int) (l:List Ord) (i:Nat):List Int:=Vk (nameOk (nth l i).name) 5++Vk (UU l i) 6++Vk (loadOk (nth l i).load d) 17++Vk ((rng (nth l i).pick.place (-1) ((np:Int)-1)&&rng (nth l i).drp.place (-1) ((np:Int)-1))) 11++Vk (decide (¬((nth l i).pick.place= -1/\(nth l i).drp.place= -1))) 19++Vk ((stpOk (nth l i).pick&&stpOk (nth l i).drp)) 14++Vk (rng (nth l i).skills 0 1073741823) 18++Vk (argOk (nth l i) ty) 2
theorem Ct (np:Nat) (d ty:Int) (l:List Ord) (i:Nat):(Y8 np d ty l i).length<=8:=by
 grind [Uz,Y8,ZG]
theorem A1 {P Q:Prop} (h:Q) (e:Q->P:=by intro h;simp (disch:=omega) only [Wi,go_sem,seval];exact h):P:=e h
theorem aR (np:Nat) (d ty:Int) (l:List Ord) (c:Bool) (i:Nat) (hi:i<l.length) (hl:l.length<=1048576) (hnp:np<=1048576) (ht:(nth l i).wf 1048576) :
  ACalls Tryz.prog 175 [.p (.int .i64 (np:Nat)),.p (.int .i64 d),.p (.int .i64 ty),.p (.list c (l.map eOrd)),.p (.int .i64 (i:Nat))] [] fun x H'=>x= .sl 0 0 (Y8 np d ty l i).length (Y8 np d ty l i).length/\H'= [.elems 1 ((Y8 np d ty l i).map eI)]:=by
 suffices hh:ACalls Tryz.prog 175 [.p (.int .i64 (np:Nat)),.p (.int .i64 d),.p (.int .i64 ty),.p (.list c (l.map eOrd)),.p (.int .i64 (i:Nat))] [] fun x H'=> ∃m:List Int,m=Y8 np d ty l i/\x= .sl 0 0 m.length m.length/\H'= [.elems 1 (m.map eI)] by
  grind
 refine Xj [3] Tryz.func175 rfl Zbc ?_;simp (disch:=omega) only [Tryz.f175,go_sem,seval];have hty:Y8 np d ty l i=Vk (nameOk (nth l i).name) 5++Vk (UU l i) 6++Vk (loadOk (nth l i).load d) 17++Vk ((rng (nth l i).pick.place (-1) ((np:Int)-1)&&rng (nth l i).drp.place (-1) ((np:Int)-1))) 11++Vk (decide (¬((nth l i).pick.place= -1/\(nth l i).drp.place= -1))) 19++Vk ((stpOk (nth l i).pick&&stpOk (nth l i).drp)) 14++Vk (rng (nth l i).skills 0 1073741823) 18++Vk (argOk (nth l i) ty) 2:=rfl
 have hleng: ∀m:List Int,∀p:List Int,m=p->p.length<=8->m.length<=8:=fun m p h1 h2=>by grind
 generalize hga:nth l i=t at ht hty ⊢;have hname:=ht.1;have hload:=ht.2.1;refine Zq (Weak.ofNil 11 1 (by simp (disch:=omega) only [go_sem,seval]) Zb (Weak.refl _ _ _)) ?_;refine ZD [0,1,2,3,4,12] (fun m:List Int=> [(11,.sl 1 0 m.length m.length)]) (fun m=> [Wi t,.elems 1 (m.map eI)]) (fun m=>m=Vk (nameOk t.name) 5) ?_ ?_
 ·refine Zc ?_;refine (O5 t.name hname).use (Zc ?_);refine cD ?_ ?_<;>intro h<;>simp (disch:=omega) only [Sh.out h,go_sem,seval,↓reduceIte]
  ·simp only [XU] at h;exact ⟨[5],by simp [Vk,h],Weak.mk (by simp (disch:=omega) only [Wi,go_sem,seval])⟩
  ·simp only [XN] at h;exact ⟨[],by simp [Vk,h],Weak.mk (by simp (disch:=omega) only [Wi,go_sem,seval])⟩
 ·skip
  intro m hm;refine Zg [5] _ _ _ _ (A1 ?_)
  have hml:m.length<=8:=by
   grind [Uz]
  refine ZD [0,1,2,12] (fun m:List Int=> [(11,.sl 1 0 m.length m.length)]) (fun m=> [Wi t,.elems 1 (m.map eI)]) (fun m=>m=Vk (nameOk t.name) 5++Vk (UU l i) 6) ?_ ?_
  ·refine Zc ?_;refine Zk [0,1,2,3,4,11,12] (fun k:Nat=> [(13,.p (.int .i64 k))]) (fun _=> [Wi t,.elems 1 (m.map eI)]) (fun k=>k<=i/\ ∀j,j<k->(nth l j).name≠(nth l i).name) (fun k=>i-k) 0 Zb (Weak.mk ?_) ?_
   ·simp (disch:=omega) only [Wi,go_sem,seval,↓reduceIte]
   ·rintro k ⟨hk,hno⟩;refine A1 ?_;refine cD ?_ ?_<;>intro h3<;>simp (disch:=omega) only [Sh.out h3,go_sem,seval,↓reduceIte]
    ·have hk2:k<l.length:=Za
     refine Xr (Zc ?_);refine ZI ?_ ?_<;>intro h4
     ·exact ⟨m++ [6],Ul hm (by grind [KC]),wk⟩
     ·exact ⟨k+1,⟨Za,Zm.2 ⟨hno,by grind⟩⟩,Za,wk⟩
    ·have hki:k=i:=Za
     subst hki;exact ⟨m,Ql hm (KC.2 hno),wk⟩
  ·clear hm hml;intro m hm;refine Zg [10] _ _ _ _ (A1 ?_)
   have hml:m.length<=8:=by
    grind [Uz]
   refine ZD [0,2,12] (fun m:List Int=> [(11,.sl 1 0 m.length m.length)]) (fun m=> [Wi t,.elems 1 (m.map eI)]) (fun m=>m=Vk (nameOk t.name) 5++Vk (UU l i) 6++Vk (loadOk t.load d) 17) ?_ ?_
   ·refine Zc ?_;refine (aF t.load t.load_c d hload).use (Zc ?_);refine cD ?_ ?_<;>intro h<;>simp (disch:=omega) only [Sh.out h,go_sem,seval,↓reduceIte]
    ·simp only [XU] at h;exact ⟨m++ [17],Ul hm (h),Weak.mk (by simp (disch:=omega) only [Wi,go_sem,seval])⟩
    ·simp only [XN] at h;exact ⟨m,Ql hm (h),Weak.mk (by simp (disch:=omega) only [Wi,go_sem,seval])⟩
   ·clear hm hml;intro m hm;refine Zg [12] _ _ _ _ (A1 ?_)
    have hml:m.length<=8:=by
     grind [ZG,Uz]
    refine ZD [2,12] (fun m:List Int=> [(11,.sl 1 0 m.length m.length)]) (fun m=> [Wi t,.elems 1 (m.map eI)]) (fun m=>m=Vk (nameOk t.name) 5++Vk (UU l i) 6++Vk (loadOk t.load d) 17++Vk ((rng t.pick.place (-1) ((np:Int)-1)&&rng t.drp.place (-1) ((np:Int)-1))) 11) ?_ ?_
    ·refine Zc ?_;refine (Fi t.pick.place (-1) ((np:Int)-1)).use (Zc ?_);refine BJ ?_ ?_<;>intro h
     ·simp only [XU] at h;exact ⟨m++ [11],Ul hm (by simp [h]),Weak.mk (by simp (disch:=omega) only [Wi,go_sem,seval])⟩
     ·simp only [XN] at h;refine (Fi t.drp.place (-1) ((np:Int)-1)).use (Zc ?_);refine ZI ?_ ?_<;>intro h2
      ·simp only [XU] at h2;exact ⟨m++ [11],Ul hm (by simp [h2]),Weak.mk (by simp (disch:=omega) only [Wi,go_sem,seval])⟩
      ·simp only [XN] at h2;exact ⟨m,Ql hm (by simp [h,h2]),Weak.mk (by simp (disch:=omega) only [Wi,go_sem,seval])⟩
    ·clear hm hml;intro m hm;refine Zg [14] _ _ _ _ (A1 ?_)
     have hml:m.length<=8:=by
      grind [ZG,Uz]
     refine ZD [2,12] (fun m:List Int=> [(11,.sl 1 0 m.length m.length)]) (fun m=> [Wi t,.elems 1 (m.map eI)]) (fun m=>m=Vk (nameOk t.name) 5++Vk (UU l i) 6++Vk (loadOk t.load d) 17++Vk ((rng t.pick.place (-1) ((np:Int)-1)&&rng t.drp.place (-1) ((np:Int)-1))) 11++Vk (decide (¬(t.pick.place= -1/\t.drp.place= -1))) 19) ?_ ?_
     ·refine Zc ?_
      repeat' (first | (refine gT ?_ ?_<;>intro hq<;>simp (disch:=omega) only [Sh.out hq,go_sem,seval]) | (refine UF (fun hq=> ?_) (fun hq=> ?_)<;>(try simp only [Zp,Yu,Xs] at hq)<;>simp (disch:=omega) only [Sh.out hq,go_sem,seval]) | (refine cD ?_ ?_<;>intro hq<;>simp (disch:=omega) only [Sh.out hq,go_sem,seval]))
      all_goals first
       | exact ⟨m++ [19],Ul hm (by first | (simp;done) | (simp;omega)),Weak.mk (by simp (disch:=omega) only [Wi,go_sem,seval])⟩
       | exact ⟨m,Ql hm (by first | (simp;done) | (simp;omega)),Weak.mk (by simp (disch:=omega) only [Wi,go_sem,seval])⟩
     ·clear hm hml;intro m hm;refine Zg [16] _ _ _ _ (A1 ?_)
      have hml:m.length<=8:=by
       grind [ZG,Uz]
      refine ZD [2,12] (fun m:List Int=> [(11,.sl 1 0 m.length m.length)]) (fun m=> [Wi t,.elems 1 (m.map eI)]) (fun m=>m=Vk (nameOk t.name) 5++Vk (UU l i) 6++Vk (loadOk t.load d) 17++Vk ((rng t.pick.place (-1) ((np:Int)-1)&&rng t.drp.place (-1) ((np:Int)-1))) 11++Vk (decide (¬(t.pick.place= -1/\t.drp.place= -1))) 19++Vk ((stpOk t.pick&&stpOk t.drp)) 14) ?_ ?_
      ·refine Zc ?_;refine (eM t.pick).use (Zc ?_)
       cases h:stpOk t.pick with
       | false =>
        simp (disch:=omega) only [bD,h,go_sem,seval];exact ⟨m++ [14],Ul hm (by simp []),Weak.mk (by simp (disch:=omega) only [Wi,go_sem,seval])⟩
       | true =>
        simp (disch:=omega) only [bD,h,go_sem,seval];refine (eM t.drp).use (Zc ?_)
        cases h2:stpOk t.drp with
        | false =>
         simp (disch:=omega) only [bD,h2,go_sem,seval];exact ⟨m++ [14],Ul hm (by simp []),Weak.mk (by simp (disch:=omega) only [Wi,go_sem,seval])⟩
        | true =>
         simp (disch:=omega) only [bD,h2,go_sem,seval];exact ⟨m,Ql hm (by simp []),Weak.mk (by simp (disch:=omega) only [Wi,go_sem,seval])⟩
      ·clear hm hml;intro m hm;refine Zg [18] _ _ _ _ (A1 ?_)
       have hml:m.length<=8:=by
        grind [ZG,Uz]
       refine ZD [2,12] (fun m:List Int=> [(11,.sl 1 0 m.length m.length)]) (fun m=> [Wi t,.elems 1 (m.map eI)]) (fun m=>m=Vk (nameOk t.name) 5++Vk (UU l i) 6++Vk (loadOk t.load d) 17++Vk ((rng t.pick.place (-1) ((np:Int)-1)&&rng t.drp.place (-1) ((np:Int)-1))) 11++Vk (decide (¬(t.pick.place= -1/\t.drp.place= -1))) 19++Vk ((stpOk t.pick&&stpOk t.drp)) 14++Vk (rng t.skills 0 1073741823) 18) ?_ ?_
       ·refine Zc ?_;refine (Fi t.skills 0 1073741823).use (Zc ?_);refine ZI ?_ ?_<;>intro h
        ·simp only [XU] at h;exact ⟨m++ [18],Ul hm (h),Weak.mk (by simp (disch:=omega) only [Wi,go_sem,seval])⟩
        ·simp only [XN] at h;exact ⟨m,Ql hm (h),Weak.mk (by simp (disch:=omega) only [Wi,go_sem,seval])⟩
       ·clear hm hml;intro m hm;refine Zg [20] _ _ _ _ (A1 ?_)
        have hml:m.length<=8:=by
         grind [ZG,Uz]
        refine ZD [2,11,12] (fun b:Bool=> [(14,.p (.bool b))]) (fun _=> [Wi t,.elems 1 (m.map eI)]) (fun b=>b=IE t) ?_ ?_
        ·refine Zc ?_
         repeat' (first | (refine V3 (fun hq=> ?_) (fun hq=> ?_)<;>(try simp only [Zp,Yu,Xs] at hq)<;>simp (disch:=omega) only [Sh.out hq,go_sem,seval]) | (refine UF (fun hq=> ?_) (fun hq=> ?_)<;>(try simp only [Zp,Yu,Xs] at hq)<;>simp (disch:=omega) only [Sh.out hq,go_sem,seval]) | (refine Jd (fun hq=> ?_) (fun hq=> ?_)<;>(try simp only [Zp,Yu,Xs] at hq)<;>simp (disch:=omega) only [Sh.out hq,go_sem,seval]))
         all_goals refine ⟨IE t,rfl,Weak.mk ?_⟩
         all_goals (simp (disch:=omega) only [Wi,go_sem,seval];simp [IE, *])
        ·rintro b hb;refine Zg [21] _ _ _ _ (A1 ?_);refine ZD [] (fun m:List Int=> [(11,.sl 1 0 m.length m.length)]) (fun m=> [Wi t,.elems 1 (m.map eI)]) (fun m=>m=Vk (nameOk t.name) 5++Vk (UU l i) 6++Vk (loadOk t.load d) 17++Vk ((rng t.pick.place (-1) ((np:Int)-1)&&rng t.drp.place (-1) ((np:Int)-1))) 11++Vk (decide (¬(t.pick.place= -1/\t.drp.place= -1))) 19++Vk ((stpOk t.pick&&stpOk t.drp)) 14++Vk (rng t.skills 0 1073741823) 18++Vk (argOk t ty) 2) ?_ ?_
         ·refine Zc ?_;refine (Fi t.penalty (-1) 1000000).use (Zc ?_);refine gF ?_ ?_<;>intro h<;>simp (disch:=omega) only [Sh.out h,go_sem,seval,↓reduceIte]
          ·simp only [XU] at h;exact ⟨m++ [2],Ul hm (by simp [argOk,h]),Weak.mk (by simp (disch:=omega) only [Wi,go_sem,seval])⟩
          ·simp only [XN] at h;refine (Fi t.split 1 4).use (Zc ?_);refine gF ?_ ?_<;>intro h2<;>simp (disch:=omega) only [Sh.out h2,go_sem,seval,↓reduceIte]
           ·simp only [XU] at h2;exact ⟨m++ [2],Ul hm (by simp [argOk,h2]),Weak.mk (by simp (disch:=omega) only [Wi,go_sem,seval])⟩
           ·simp only [XN] at h2
            cases b with
            | true =>
             repeat' (first | (refine gT ?_ ?_<;>intro hq<;>simp (disch:=omega) only [Sh.out hq,go_sem,seval,↓reduceIte]) | (refine gF ?_ ?_<;>intro hq<;>simp (disch:=omega) only [Sh.out hq,go_sem,seval,↓reduceIte]) | (refine cD ?_ ?_<;>intro hq<;>simp (disch:=omega) only [Sh.out hq,go_sem,seval,↓reduceIte]))
             all_goals first
              | exact ⟨m++ [2],Ul hm (by rw [argOk,<- hb];first | (simp;done) | (simp;omega)),Weak.mk (by simp (disch:=omega) only [Wi,go_sem,seval])⟩
              | exact ⟨m,Ql hm (by grind [argOk]),Weak.mk (by simp (disch:=omega) only [Wi,go_sem,seval])⟩
            | false =>
             repeat' (first | (refine gT ?_ ?_<;>intro hq<;>simp (disch:=omega) only [Sh.out hq,go_sem,seval,↓reduceIte]) | (refine gF ?_ ?_<;>intro hq<;>simp (disch:=omega) only [Sh.out hq,go_sem,seval,↓reduceIte]) | (refine cD ?_ ?_<;>intro hq<;>simp (disch:=omega) only [Sh.out hq,go_sem,seval,↓reduceIte]))
             all_goals first
              | exact ⟨m++ [2],Ul hm (by rw [argOk,<- hb];first | (simp;done) | (simp;omega)),Weak.mk (by simp (disch:=omega) only [Wi,go_sem,seval])⟩
              | exact ⟨m,Ql hm (by rw [argOk,<- hb,h,h2];first | (simp;done) | (simp;omega)),Weak.mk (by simp (disch:=omega) only [Wi,go_sem,seval])⟩
         ·clear hm hml;intro m hm;refine Zg [] _ _ _ _ (A1 ?_)
          have hml:m.length<=8:=by
           grind [ZG,Uz]
          exact ⟨m,by rw [hm,hty],1,by simp (disch:=omega) only [go_sem,seval]⟩
def X6 (np:Nat) (d ty:Int) (l:List Ord) (k:Nat):List Flt:=(if l.length<=10 then [] else [(4,[])])++(List.range k).flatMap fun i=>(Y8 np d ty l i).map fun e=>(e,AP i)
theorem Cu (np:Nat) (d ty:Int) (l:List Ord) (k:Nat):X6 np d ty l (k+1)=X6 np d ty l k++(Y8 np d ty l k).map fun e=>(e,AP k):=by
 simp [X6,Yv]
theorem Qj (np:Nat) (d ty:Int) (l:List Ord): ∀k,(X6 np d ty l k).length<=1+8*k
 | 0=>by simp [X6];grind
 | k+1=>by
  have h1:=Qj np d ty l k;have h2:=Ct np d ty l k;rw [Cu];simp;omega
theorem zG (n:Net) (d ty:Int) (l:List Ord) (c:Bool) (hw:n.wf 1048576) (hl:l.length<=1048576) (hlw: ∀t∈l,t.wf 1048576) :
  ACalls Tryz.prog 128 [.p (BQ n),.p (.int .i64 d),.p (.int .i64 ty),.p (.list c (l.map eOrd))] [] fun x H'=>x= .sl 0 0 (X6 n.places.length d ty l l.length).length (X6 n.places.length d ty l l.length).length/\H'= [.elems 2 ((X6 n.places.length d ty l l.length).map eF)]:=by
 obtain ⟨w1,w2,w3,w4⟩:=hw
 suffices hh:ACalls Tryz.prog 128 [.p (BQ n),.p (.int .i64 d),.p (.int .i64 ty),.p (.list c (l.map eOrd))] [] fun x H'=> ∃m:List Flt,m=X6 n.places.length d ty l l.length/\x= .sl 0 0 m.length m.length/\H'= [.elems 2 (m.map eF)] by
  grind
 refine Xj [2] Tryz.func128 rfl ZaB ?_;simp (disch:=omega) only [Tryz.f128,go_sem,seval];refine Zq (Weak.ofNil 9 2 (by simp (disch:=omega) only [go_sem,seval]) Zb (Weak.refl _ _ _)) ?_;refine ZD [1,2,3,4] (fun m:List Flt=> [(9,.sl 1 0 m.length m.length)]) (fun m=>Z7 n++ [.elems 2 (m.map eF)]) (fun m=>m=X6 n.places.length d ty l 0) ?_ ?_
 ·refine Zc ?_;refine ZI ?_ ?_<;>intro h
  ·exact ⟨[(4,[])],by rw [X6,if_neg Za];rfl,Weak.mk (by simp (disch:=omega) only [Z7,go_sem,seval])⟩
  ·exact ⟨[],by rw [X6,if_pos Za];rfl,Weak.mk (by simp (disch:=omega) only [Z7,go_sem,seval])⟩
 ·intro m hm;refine Zg [] _ _ _ _ (KU ?_);refine Zk [1,2,3,4] (fun q:Nat×List Flt=> [(9,.sl 1 0 q.2.length q.2.length),(10,.p (.int .i64 q.1))]) (fun q=>Z7 n++ [.elems 2 (q.2.map eF)]) (fun q=>q.1<=l.length/\q.2=X6 n.places.length d ty l q.1) (fun q=>l.length-q.1) (0,m) ⟨Zb,hm⟩ (Weak.mk ?_) ?_
  ·simp (disch:=omega) only [Z7,go_sem,seval]
  ·clear hm;rintro ⟨k,m⟩ ⟨hk,hm⟩;simp only at hk hm;have hml:=Qj n.places.length d ty l k;rw [<- hm] at hml;refine KU ?_;refine cD ?_ ?_<;>intro h<;>simp (disch:=omega) only [Sh.out h,go_sem,seval,↓reduceIte]
   ·have hk2:k<l.length:=Za
    have hI:Uo (k:Int):=Za
    have hrl:=Ct n.places.length d ty l k;refine ((aR n.places.length d ty l c k hk2 hl w1 (hlw _ (Zo hk2))).frozen Zb).use (Zc ?_);generalize hre:Y8 n.places.length d ty l k=e at hrl ⊢;refine Zk [1,2,3,4,10,11] (fun q:Nat×List Flt=> [(9,.sl 1 0 q.2.length q.2.length),(12,.p (.int .i64 q.1))]) (fun q=>Z7 n++ [.elems 2 (q.2.map eF)]) (fun q=>q.1<=e.length/\q.2=X6 n.places.length d ty l k++(e.take q.1).map fun e=>(e,AP k)) (fun q=>e.length-q.1) (0,m) ⟨Zb,by simp [hm]⟩ (Weak.mk ?_) ?_
    ·simp (disch:=omega) only [Z7,go_sem,seval]
    ·clear hm hml;rintro ⟨j,m⟩ ⟨hj,hm⟩;simp only at hj hm;have hml:=Qj n.places.length d ty l k
     have hml2:m.length<=1+8*k+8:=by grind
     refine KU ?_;refine ZI ?_ ?_<;>intro h2
     ·have hj2:j<e.length:=Za
      refine ZV 9 mixed Ze Ze (Zc ?_);refine Zr (Ab k hI) (Zc ?_);refine ⟨(j+1,m++ [(nth e j,AP k)]),⟨Za,?_⟩,Za,wk⟩
      grind [Xl,Zi]
     ·have hjl:j=e.length:=Za
      subst hjl;refine ⟨(k+1,m),⟨Za,?_⟩,Za,wk⟩
      grind [Cu]
   ·have hkn:k=l.length:=Za
    subst hkn;exact ⟨m,hm,1,by simp (disch:=omega) only [go_sem,seval]⟩
structure OrdOk (np:Nat) (d ty:Int) (l:List Ord) (i:Nat):Prop where
 name:nameOk (nth l i).name=true
 twin: ∀j,j<i->(nth l j).name≠(nth l i).name
 load:loadOk (nth l i).load d=true
 pick: -1<=(nth l i).pick.place/\(nth l i).pick.place<np
 drp: -1<=(nth l i).drp.place/\(nth l i).drp.place<np
 one: ¬((nth l i).pick.place= -1/\(nth l i).drp.place= -1)
 pstp:stpOk (nth l i).pick=true
 dstp:stpOk (nth l i).drp=true
 skills:0<=(nth l i).skills/\(nth l i).skills<=1073741823
 arg:argOk (nth l i) ty=true
theorem sV {b:Bool} {e:Int} :Vk b e= []↔b=true:=by grind [Vk]
theorem Ld {np:Nat} {d ty:Int} {l:List Ord} {i:Nat} :Y8 np d ty l i= []↔OrdOk np d ty l i:=by
 simp only [Y8,Qy,sV,Zy,Zp,rng,KC]
 constructor
 ·rintro ⟨⟨⟨⟨⟨⟨⟨a1,a2⟩,a3⟩,a4⟩,a5⟩,a6⟩,a7⟩,a8⟩;exact ⟨a1,a2,a3,Za,Za,a5,a6.1,a6.2,a7,a8⟩
 ·intro h;obtain ⟨b1,b2⟩:=h.pick;obtain ⟨b3,b4⟩:=h.drp;exact ⟨⟨⟨⟨⟨⟨⟨h.name,h.twin⟩,h.load⟩,Za,Za⟩,h.one⟩,h.pstp,h.dstp⟩,h.skills⟩,h.arg⟩
def ordersOk (np:Nat) (d ty:Int) (l:List Ord):Prop:=l.length<=10/\ ∀i,i<l.length->OrdOk np d ty l i
theorem No {np:Nat} {d ty:Int} {l:List Ord} :X6 np d ty l l.length= []↔ordersOk np d ty l:=by
 simp_all [X6,Ld,ordersOk]
theorem Pb {np:Nat} {d ty:Int} {l:List Ord} (hl:l.length<=1048576): ∀f∈X6 np d ty l l.length,pF 20 f:=by
 intro f hf;simp only [X6,Xo,Ws,ZP,Xv] at hf;rcases hf with hf | ⟨i,hi,e,he,rfl⟩
 ·grind [pF]
 ·exact QM i Za
theorem Pq (n:Int) (h0:0<=n) (hn:n<=4611686018427387904):PC 234 [.p (.int .i64 n)] (.str (dec n.toNat)):=by
 refine Zd Tryz.func234 rfl ZbI ?_;simp (disch:=omega) only [Tryz.f234,go_sem,seval];refine Zk [] (fun q:Int×List UInt8=> [(0,.p (.int .i64 q.1)),(3,.p (.str q.2))]) (fun _=> []) (fun q=>0<=q.1/\q.1<=n/\dec q.1.toNat++q.2=dec n.toNat) (fun q=>q.1.toNat) (n,[]) (by simp [h0]) (Weak.mk ?_) ?_
 ·simp (disch:=omega) only [go_sem,seval]
 ·rintro ⟨m,s⟩ ⟨hm,hmn,hs⟩;simp only at hm hmn hs;have hl:=Rj _ n.toNat (Nat.lt_succ_self _)
  have hl2:(dec m.toNat).length+s.length=(dec n.toNat).length:=by grind
  simp (disch:=first | omega | (simp only [Zw,Zz,ZG,ZK,ZQ,Z4]<;>omega)) only [go_sem,seval];refine cD ?_ ?_<;>intro h<;>simp (disch:=omega) only [Sh.out h,go_sem,seval,↓reduceIte]
  ·simp (disch:=first | omega | (simp only [Zw,Zz,ZG,ZK,ZQ,Z4]<;>omega)) only [go_sem,seval]
   have h2: ¬m.toNat<10:=Za
   have e1:(48+m%10).toNat=48+m.toNat%10:=Za
   have e2:(m / 10).toNat=m.toNat / 10:=Za
   refine ⟨(m / 10,UInt8.ofNat (48+m%10).toNat::s),⟨Za,Za,?_⟩,Za,Weak.mk ?_⟩
   ·simp only [e1,e2];rw [<- hs,dec.eq_def m.toNat,dif_neg h2];simp
   ·simp (disch:=omega) only [go_sem,seval]
  ·simp (disch:=first | omega | (simp only [Zw,Zz,ZG,ZK,ZQ,Z4]<;>omega)) only [go_sem,seval]
   have h2:m.toNat<10:=Za
   have e1:(48+m).toNat=48+m.toNat:=Za
   rw [<- hs,dec.eq_def m.toNat,dif_pos h2,e1]
   rfl
def rJ (n:Int) (p:Int×Int):Bool:=decide (0<=p.1/\p.1<n)&&decide (0<=p.2/\p.2<n)&&decide (¬p.1=p.2)
def atW (word:List UInt8) (i:Nat):List UInt8:=word++ [32]++dec i
def bU (n:Int) (word:List UInt8) (sm:Int×Int->Int×Int->Bool) (l:List (Int×Int)) (i:Nat):List (Int×List UInt8) :=
 if rJ n (nth l i)=false then [(2,atW word i)] else if (l.take i).any (sm (nth l i)) then [(6,atW word i)] else []
def Oa (word:List UInt8) (l:List (Int×Int)):List (Int×List UInt8):=if 16<l.length then [(4,word)] else []
def J9 (n:Int) (word:List UInt8) (sm:Int×Int->Int×Int->Bool) (l:List (Int×Int)) (k:Nat):List (Int×List UInt8):=Oa word l++(List.range k).flatMap (bU n word sm l)
theorem Hi (n word sm l k):J9 n word sm l (k+1)=J9 n word sm l k++bU n word sm l k:=by grind [J9,Yv]
theorem Hj (n word sm l):J9 n word sm l 0=Oa word l:=by simp [J9]
theorem qI (n word sm l i):(bU n word sm l i).length<=1:=by grind [bU]
theorem BW (n word sm l): ∀k,(J9 n word sm l k).length<=k+1:=by
 intro k
 induction k with
 | zero=>grind [Hj,Oa]
 | succ k ih=>grind [Hi,qI]
def chk (n:Int) (ap be:List (Int×Int)):List (Int×List UInt8) :=
 J9 n [97,112,97,114,116] (fun p q=>decide (p=q\/(p.1=q.2/\p.2=q.1))) ap ap.length++J9 n [98,101,102,111,114,101] (fun p q=>decide (p=q)) be be.length
def Ey (turned:Bool) (p q:Int×Int):Bool:=decide (q.1=p.1/\q.2=p.2)||(turned&&decide (q.1=p.2/\q.2=p.1))
theorem lY : Ey true=fun p q=>decide (p=q\/(p.1=q.2/\p.2=q.1)):=by
 funext p q
 simp only [Ey,Wt,Zdg]
 grind
theorem aW : Ey false=fun p q=>decide (p=q):=by
 funext p q
 simp only [Ey,UR,JD]
 grind
def tw (turned:Bool) (l:List (Int×Int)) (p:Int×Int) (j:Nat):Bool:=(l.take j).any (Ey turned p)
theorem tJ (turned l p):tw turned l p 0=false:=by simp [tw]
theorem tI (turned:Bool) (l:List (Int×Int)) (p:Int×Int) (j:Nat) (h:j<l.length):tw turned l p (j+1)=(tw turned l p j||Ey turned p (nth l j)):=by
 rw [tw,tw,Xl h,List.any_append,Zi h];simp
theorem MD (n:Int) (word:List UInt8) (l:List (Int×Int)) (c:Bool) (turned:Bool) (hw:word.length<=1000) (hl:l.length<=1048576) :
  ACalls Tryz.prog 176 [.p (.int .i64 n),.p (.list c (l.map eP)),.p (.str word),.p (.bool turned)] [] fun x H'=>x= .sl 0 0 (J9 n word (Ey turned) l l.length).length (J9 n word (Ey turned) l l.length).length/\H'= [.elems 2 ((J9 n word (Ey turned) l l.length).map eF)]:=by
 refine Gw [2] (fn:=Tryz.f176) Zb Tryz.func176 rfl Zbd ?_;simp (disch:=omega) only [Tryz.f176,go_sem,seval];refine Zq (Weak.ofNil 9 2 (by simp (disch:=omega) only [go_sem,seval]) Zb (Weak.refl _ _ _)) (Zc ?_);refine ZD [0,1,2,3] (fun _:Unit=> [(9,.sl 0 0 (Oa word l).length (Oa word l).length)]) (fun _=> [.elems 2 ((Oa word l).map eF)]) (fun _=>True) ?_ ?_
 ·refine Zc ?_;refine cD ?_ ?_<;>intro h<;>simp (disch:=omega) only [Sh.out h,go_sem,seval,↓reduceIte]
  ·refine ⟨(),Weak.mk ?_⟩
   have h2:16<l.length:=Za
   simp (disch:=omega) only [Oa,h2,go_sem,seval,↓reduceIte]
  ·refine ⟨(),Weak.mk ?_⟩
   have h2: ¬ 16<l.length:=Za
   simp (disch:=omega) only [Oa,h2,go_sem,seval,↓reduceIte]
 ·intro _ _;refine Zg [] _ _ _ _ (Zc ?_);refine Zk [0,1,2,3] (fun k:Nat=> [(9,.sl 0 0 (J9 n word (Ey turned) l k).length (J9 n word (Ey turned) l k).length),(10,.p (.int .i64 k))]) (fun k=> [.elems 2 ((J9 n word (Ey turned) l k).map eF)]) (fun k=>k<=l.length) (fun k=>l.length-k) 0 Zb (Weak.mk ?_) ?_
  ·simp (disch:=omega) only [Hj,go_sem,seval,↓reduceIte]
  ·intro k hk;have hfl:=BW n word (Ey turned) l k;have hdl:=Rj _ k (Nat.lt_succ_self _);refine Zc ?_;refine cD ?_ ?_<;>intro h<;>simp (disch:=omega) only [Sh.out h,go_sem,seval,↓reduceIte]
   ·have hk2:k<l.length:=Za
    simp (disch:=first | omega | (simp only [Zw,Zz,ZG,ZK,ZQ,Z4]<;>omega)) only [go_sem,seval];refine (Pq (k:Int) Za Za).use ?_;simp (disch:=first | omega | (simp only [Zw,Zz,ZG,ZK,ZQ,Z4]<;>omega)) only [go_sem,seval];have hs:=Hi n word (Ey turned) l k
    have hbad:rJ n (nth l k)=false->bU n word (Ey turned) l k= [(2,word++ [32]++dec k)]:=fun e=>by simp [bU,e,atW]
    repeat' (first | (refine V3 (fun hq=> ?_) (fun hq=> ?_)<;>(try simp only [Zp,Yu,Xs] at hq)<;>simp (disch:=omega) only [Sh.out hq,go_sem,seval]) | (refine gF ?_ ?_<;>intro hq<;>simp (disch:=omega) only [Sh.out hq,go_sem,seval,↓reduceIte]) | (refine cD ?_ ?_<;>intro hq<;>simp (disch:=omega) only [Sh.out hq,go_sem,seval,↓reduceIte]))
    all_goals try (
     have e:=hbad (by simp [rJ];omega)
     exact ⟨k+1,Za,Za,Weak.mk (by simp (disch:=omega) only [hs,e,go_sem,seval])⟩)
    have hok:rJ n (nth l k)=true:=by simp [rJ];omega
    refine Zk [0,1,2,3,9,10,11,12,13] (fun j:Nat=> [(14,.p (.bool (tw turned l (nth l k) j))),(15,.p (.int .i64 j))]) (fun _=> [.elems 2 ((J9 n word (Ey turned) l k).map eF)]) (fun j=>j<=k) (fun j=>k-j) 0 Zb (Weak.mk ?_) ?_
    ·simp (disch:=omega) only [tJ,go_sem,seval,↓reduceIte]
    ·intro j hj;refine Zc ?_;refine cD ?_ ?_<;>intro h4<;>simp (disch:=omega) only [Sh.out h4,go_sem,seval,↓reduceIte]
     ·have hts:=tI turned l (nth l k) j Za;generalize tw turned l (nth l k) j=q at hts ⊢
      repeat' (first | (refine gT ?_ ?_<;>intro hq<;>simp (disch:=omega) only [Sh.out hq,go_sem,seval,↓reduceIte]) | (refine gF ?_ ?_<;>intro hq<;>simp (disch:=omega) only [Sh.out hq,go_sem,seval,↓reduceIte]) | (refine Jd (fun hq=> ?_) (fun hq=> ?_)<;>(try simp only [Zp,Yu,Xs] at hq)<;>simp (disch:=omega) only [Sh.out hq,go_sem,seval]))
      all_goals refine ⟨j+1,Za,Za,Weak.mk ?_⟩
      all_goals clear hs hbad hfl hdl
      all_goals simp (disch:=omega) only [hts,go_sem,seval]
      all_goals simp [Ey, *]
      all_goals first | omega | (simp [Ey, *] at hts;exact hts)
     ·have hjk:j=k:=Za
      subst hjk;refine cD ?_ ?_<;>intro h5<;>simp (disch:=omega) only [Sh.out h5,go_sem,seval,↓reduceIte]
      ·have e:bU n word (Ey turned) l j= [(6,word++ [32]++dec j)]:=by
        have h6:(l.take j).any (Ey turned (nth l j))=true:=h5
        grind [bU,atW]
       exact ⟨j+1,Za,Za,Weak.mk (by simp (disch:=omega) only [hs,e,go_sem,seval])⟩
      ·have e:bU n word (Ey turned) l j= []:=by
        have h6:(l.take j).any (Ey turned (nth l j))=false:=h5
        simp_all [bU]
       exact ⟨j+1,Za,Za,Weak.mk (by simp (disch:=omega) only [hs,e,go_sem,seval])⟩
   ·have:k=l.length:=Za
    subst this;exact ⟨0,by simp (disch:=omega) only [go_sem,seval]⟩
theorem lH (n:Int) (ap be:List (Int×Int)) (c c':Bool) (hl:ap.length<=1048576) (hl2:be.length<=1048576) :
  ACalls Tryz.prog 130 [.p (.int .i64 n),.p (.list c (ap.map eP)),.p (.list c' (be.map eP))] [] fun x H'=>x= .sl 0 0 (chk n ap be).length (chk n ap be).length/\H'= [.elems 2 ((chk n ap be).map eF)]:=by
 refine Bx (fn:=Tryz.f130) Zb Tryz.func130 rfl ZaD ?_;simp (disch:=omega) only [Tryz.f130,go_sem,seval];have h1:=BW n [97,112,97,114,116] (Ey true) ap ap.length;have h2:=BW n [98,101,102,111,114,101] (Ey false) be be.length;refine (MD n _ ap c true (by decide) hl).useF (Zc ?_);refine (MD n _ be c' false (by decide) hl2).useF (Zc ?_);refine ⟨0,?_⟩;rw [chk,<- lY,<- aW];simp (disch:=omega) only [go_sem,seval]
@[go_sem] theorem Zev {H:List AM.Obj} {β:Type} {S b o n:Nat} {xs:List PV} {g:β->PV} {m:List β} (hb:(n+m.length)*b<=140737488355328) (hb2:n+m.length<=140737488355328) :
  U5 H (some (S,b)) (.elems S xs) o n (some (m.map g))=if xs.length=n/\Cs S (m.map g)=true then some (.sl o 0 (n+m.length) (n+m.length),FD H o (.elems S (xs++m.map g))) else none:=by
 simp_all [dA]
def und (word:List UInt8) (f:Flt):Flt:=(f.1,if f.2= [] then word else word++ [32]++f.2)
theorem AK (word:List UInt8) (l:List Flt) (c:Bool) (hword:word.length<=100) (hl:l.length<=4194306000000) (hp: ∀f∈l,pF 100 f) :
  ACalls Tryz.prog 125 [.p (.str word),.p (.list c (l.map eF))] [] fun x H'=>x= .sl 0 0 (l.map (und word)).length (l.map (und word)).length/\H'= [.elems 2 ((l.map (und word)).map eF)]:=by
 suffices hh:ACalls Tryz.prog 125 [.p (.str word),.p (.list c (l.map eF))] [] fun x H'=> ∃m:List Flt,m=l.map (und word)/\x= .sl 0 0 m.length m.length/\H'= [.elems 2 (m.map eF)] by
  grind
 refine Xj [2] Tryz.func125 rfl Zay ?_;simp (disch:=omega) only [Tryz.f125,go_sem,seval];refine Zq (Weak.ofNil 5 2 (by simp (disch:=omega) only [go_sem,seval]) Zb (Weak.refl _ _ _)) ?_;refine Zg [] _ _ _ _ (Zc ?_);refine Zk [0,1] (fun q:Nat×List Flt=> [(5,.sl 0 0 q.2.length q.2.length),(6,.p (.int .i64 q.1))]) (fun q=> [.elems 2 (q.2.map eF)]) (fun q=>q.1<=l.length/\q.2=(l.take q.1).map (und word)) (fun q=>l.length-q.1) (0,[]) ⟨Zb,Zb⟩ (Weak.mk ?_) ?_
 ·simp (disch:=omega) only [go_sem,seval,↓reduceIte]
 ·rintro ⟨k,m⟩ ⟨hk,hm⟩;simp only at hk hm
  have hml:m.length<=k:=by grind
  refine Zc ?_;refine cD ?_ ?_<;>intro h<;>simp (disch:=omega) only [Sh.out h,go_sem,seval,↓reduceIte]
  ·have hk2:k<l.length:=Za
   have hpk:=hp _ (Zo hk2);unfold pF at hpk
   have hnext: ∀f,f=und word (nth l k)->m++ [f]=(l.take (k+1)).map (und word):=fun f hf=>by
    grind [Xl,Zi]
   refine cD ?_ ?_<;>intro h2<;>simp (disch:=omega) only [Sh.out h2,go_sem,seval,↓reduceIte]
   ·have h3: ¬(nth l k).2= []:=Za
    simp (disch:=first | omega | (simp only [Zw,Zz,ZG,ZK,ZQ,Z4]<;>omega)) only [go_sem,seval,↓reduceIte];refine ⟨(k+1,m++ [((nth l k).1,word++ [32]++(nth l k).2)]),⟨Za,hnext _ (by simp [und,h3])⟩,Za,Weak.mk (by simp (disch:=first | omega | (simp only [Zw,Zz,ZG,ZK,ZQ,Z4]<;>omega)) only [go_sem,seval])⟩
   ·have h3:(nth l k).2= []:=by grind
    refine ⟨(k+1,m++ [((nth l k).1,word)]),⟨Za,hnext _ (by simp [und,h3])⟩,Za,Weak.mk (by simp (disch:=first | omega | (simp only [Zw,Zz,ZG,ZK,ZQ,Z4]<;>omega)) only [go_sem,seval])⟩
  ·have hkn:k=l.length:=Za
   subst hkn;exact ⟨m,by grind,0,by simp (disch:=omega) only [go_sem,seval]⟩
theorem zC {n:Int} {ap be:List (Int×Int)} (ha:ap.length<=1048576) (hb:be.length<=1048576): ∀f∈chk n ap be,pF 100 f:=by
 have key: ∀(word:List UInt8) (sm:Int×Int->Int×Int->Bool) (l:List (Int×Int)),word.length<=6->l.length<=1048576-> ∀f∈J9 n word sm l l.length,pF 100 f:=fun word sm l hw hl f hf=>by
  simp only [J9,Xo,Ws,ZP] at hf;rcases hf with hf | ⟨i,hi,hf⟩
  ·grind [Oa,pF]
  ·have hd:=Bd 6 i Za
   grind [pF,atW,bU]
 intro f hf;rcases Xo.1 hf with hf | hf
 ·grind
 grind
theorem pE {n:Int} {ap be:List (Int×Int)} :(chk n ap be).length<=ap.length+be.length+2:=by
 grind [BW,chk]
structure InstOk (x:Inst):Prop where
 net:netOk x.net
 types:typesOk x.net x.types
 orders:ordersOk x.net.places.length (dimsOf x.types) x.types.length x.orders
 rules:chk x.orders.length x.apart x.before= []
theorem FR.und {p:Flt->Prop} {C:Prop} {b:Nat} {l:List Flt} (h:FR p C b l) (word:List UInt8):FR (fun _=>True) C b (l.map (und word)) :=
 ⟨by simpa using h.len,by rw [List.map_eq_nil_iff];exact h.emp,fun _ _=>trivial⟩
theorem zH (x:Inst) (hw:x.wf 1048576):ACalls Tryz.prog 78 [.p (ZE x)] [] fun y H'=> ∃m:List Flt,FR (fun _=>True) (InstOk x) 4194400000000 m/\y= .sl 0 0 m.length m.length/\H'= [.elems 2 (m.map eF)]:=by
 obtain ⟨w1,w2,w3,w4,w5,w6,w7,w8,w9⟩:=hw;refine Xj [] Tryz.func78 rfl Zi1 ?_;simp (disch:=omega) only [Tryz.f78,go_sem,seval];have ol:=Qj x.net.places.length (dimsOf x.types) x.types.length x.orders x.orders.length;have oat:=Pb (np:=x.net.places.length) (d:=dimsOf x.types) (ty:=x.types.length) w4;have onil:=No (np:=x.net.places.length) (d:=dimsOf x.types) (ty:=x.types.length) (l:=x.orders);have cl:=pE (n:=x.orders.length) (ap:=x.apart) (be:=x.before);have cat:=zC (n:=x.orders.length) w6 w8;refine ((zD x.net w1).frozenE).useV fun m1 h1=> ?_
 refine Zc ?_;have h1p:=h1.pmono (q:=pF 100) fun f hf=>hf.mono Za;have u1:=AK [110,101,116] m1 false Zb h1.len h1p.all;have f1:=h1.und [110,101,116];generalize m1.map (und [110,101,116])=q1 at u1 f1;have f1l:=f1.len;refine (u1).useF (Zc ?_);refine ((zF x.net x.types x.types_c w1 w2 w3).frozenE).useV fun m2 h2=>Zc ?_;have h2p:=h2.pmono (q:=pF 100) fun f hf=>hf.mono Za;have h2l:=h2.len;have u2:=(AK [116,121,112,101,115] m2 false Zb Za h2p.all).frozen Zb;have f2:=h2.und [116,121,112,101,115]
 generalize m2.map (und [116,121,112,101,115])=q2 at u2 f2;have f2l:=f2.len;refine (u2).use (Zc ?_);have u3:=(AK [111,114,100,101,114,115] (X6 x.net.places.length (dimsOf x.types) x.types.length x.orders x.orders.length) false Zb Za fun f hf=>(oat f hf).mono Za).frozen Zb;have f3:=(show FR (fun _=>True) (ordersOk x.net.places.length (dimsOf x.types) x.types.length x.orders) (1+8*x.orders.length) (X6 x.net.places.length (dimsOf x.types) x.types.length x.orders x.orders.length) from ⟨ol,onil,fun _ _=>trivial⟩).und [111,114,100,101,114,115]
 generalize (X6 x.net.places.length (dimsOf x.types) x.types.length x.orders x.orders.length).map (und [111,114,100,101,114,115])=q3 at u3 f3;have f3l:=f3.len;refine ZV 13 mixed Ze Ze (Zc ?_);refine Zr (Mv x.types x.types_c w2) (Zc ?_);refine Zr ((zG x.net (dimsOf x.types) x.types.length x.orders x.orders_c w1 w4 w5).frozen Zb) (Zc ?_);refine Zr (u3) (Zc ?_);have u4:=(AK [114,117,108,101,115] (chk x.orders.length x.apart x.before) false Zb Za cat).frozen Zb
 have f4:=(show FR (fun _=>True) (chk x.orders.length x.apart x.before= []) (x.apart.length+x.before.length+2) (chk x.orders.length x.apart x.before) from ⟨cl,Iff.rfl,fun _ _=>trivial⟩).und [114,117,108,101,115];generalize (chk x.orders.length x.apart x.before).map (und [114,117,108,101,115])=q4 at u4 f4;have f4l:=f4.len;refine ((lH x.orders.length x.apart x.before x.apart_c x.before_c w6 w8).frozen Zb).use (Zc ?_);refine (u4).use (Zc ?_);refine ⟨q1++q2++q3++q4,((f1.app f2).app f3 |>.app f4).to Za ⟨fun ⟨⟨⟨a,b⟩,c⟩,d⟩=>⟨a,b,c,d⟩,fun h=>⟨⟨⟨h.net,h.types⟩,h.orders⟩,h.rules⟩⟩,1,?_⟩
 simp (disch:=omega) only [go_sem,seval]
theorem Il (a:Int):IntKind.i64.wrap ((BitVec.ofInt 64 a&&&BitVec.ofInt 64 1).toNat:Int)=a%2:=by
 grind [BitVec.toNat_ofInt,IntWalk.i64_in]
def sHas (s i:Int):Bool:=decide (0<=i)&&decide (i<=62)&&decide (s.fdiv (2^i.toNat)%2=1)
theorem gW (s i:Int):PC 95 [.p (.int .i64 s),.p (.int .i64 i)] (.bool (sHas s i)):=by
 refine Zd Tryz.func95 rfl Zja ?_;simp (disch:=omega) only [Tryz.f95,go_sem,seval];refine gT ?_ ?_<;>intro h<;>simp (disch:=omega) only [Sh.out h,go_sem,seval,↓reduceIte]
 ·refine gT ?_ ?_<;>intro h1<;>simp (disch:=omega) only [Sh.out h1,go_sem,seval,↓reduceIte]
  ·have:min i.toNat 64=i.toNat:=Za
   rw [this]
   erw [Il]
   simp [sHas,h,h1]
  grind [sHas]
 ·simp [sHas,h]
def X1 (s:Int) (k:Nat):List Int:=((List.range k).filter fun (i:Nat)=>sHas s (i:Int)).map fun (i:Nat)=>(i:Int)
theorem TA (s:Int):X1 s 0= []:=by simp [X1]
theorem iU {s:Int} {k:Nat} (h:sHas s (k:Int)=true):X1 s (k+1)=X1 s k++ [(k:Int)]:=by grind [X1,Yv]
theorem qX {s:Int} {k:Nat} (h:sHas s (k:Int)=false):X1 s (k+1)=X1 s k:=by grind [X1,Yv]
theorem Ft (s:Int) (k:Nat):(X1 s k).length<=k:=by
 grind [X1]
theorem HB (s:Int):ACalls Tryz.prog 60 [.p (.int .i64 s)] [] fun x H'=>x= .sl 0 0 (X1 s 63).length (X1 s 63).length/\H'= [.elems 1 ((X1 s 63).map eI)]:=by
 refine Bx (fn:=Tryz.f60) Zb Tryz.func60 rfl ZiM ?_;simp (disch:=omega) only [Tryz.f60,go_sem,seval];refine Zk [0] (fun k:Nat=> [(3,.sl 0 0 (X1 s k).length (X1 s k).length),(5,.p (.int .i64 k))]) (fun k=> [.elems 1 ((X1 s k).map eI)]) (fun k=>k<=63) (fun k=>63-k) 0 Zb (Weak.ofNil 3 1 (by simp (disch:=omega) only [go_sem,seval]) Zb (Weak.mk ?_)) ?_
 ·simp (disch:=omega) only [TA,go_sem,seval,↓reduceIte]
 ·intro k hk;have hl:=Ft s k;refine Zc ?_;refine cD ?_ ?_<;>intro h<;>simp (disch:=omega) only [Sh.out h,go_sem,seval,↓reduceIte]
  ·refine (gW s k).use (Zc ?_);refine cD ?_ ?_<;>intro h2<;>simp (disch:=omega) only [Sh.out h2,go_sem,seval,↓reduceIte]
   ·refine ⟨k+1,Za,Za,Weak.mk ?_⟩;simp (disch:=omega) only [iU h2,go_sem,seval]
   ·exact ⟨k+1,Za,Za,Weak.mk (by simp (disch:=omega) only [qX h2,go_sem,seval])⟩
  ·have:k=63:=Za
   subst this;exact ⟨0,by simp (disch:=omega) only [go_sem,seval]⟩
def hv (s k:Nat):Nat:=s / pw k
theorem Zad (s k:Nat):s.testBit k=decide (hv s k%2=1):=by
 rw [Da]
 rfl
theorem UX (s i:Nat) (hi:i<=62):sHas (s:Int) (i:Int)=s.testBit i:=by
 rw [Zad,hv]
 have h1:(0:Int)<=i:=Za
 have h2:(i:Int)<=62:=Za
 simp only [sHas,h1,h2,Vd,Wt,XO]
 have e:((s:Int)).fdiv (2^i)=((s / pw i:Nat):Int):=by
  grind [pw]
 grind
theorem K6 {α:Type} [Inhabited α] {l:List α} {f:α->Bool} {k:Nat} (h:k<l.length) (hf:f (nth l k)=true):l.any f=true:=by
 grind [Zi]
theorem EM {α:Type} [Inhabited α] {l:List α} {f:α->Bool} (h: ∀j,j<l.length->f (nth l j)=false):l.any f=false:=by
 rw [XY];intro x hx;obtain ⟨j,hj,rfl⟩:=ZU.1 hx
 grind [Zi]
deriving instance DecidableEq for Vis
theorem DA {v w:Vis} :v=w↔v.order=w.order/\v.drp=w.drp:=by cases v;cases w;simp
def Hf (f:Vis->Bool) (l:List Vis):Int:=match l.findIdx? f with | some i=>(i:Int) | none=> -1
def vIx (l:List Vis) (v:Vis):Int:=Hf (fun w=>decide (v=w)) l
theorem IU {f:Vis->Bool} {l:List Vis} {k:Nat} (hk:k<l.length) (h:f (nth l k)=true) (hno: ∀j,j<k->f (nth l j)=false):Hf f l=(k:Int):=by
 have:l.findIdx? f=some k:=by
  grind [Qx,Zi]
 simp [Hf,this]
theorem OO {f:Vis->Bool} {l:List Vis} (hno: ∀j,j<l.length->f (nth l j)=false):Hf f l= -1:=by
 have:l.findIdx? f=none:=by
  rw [List.findIdx?_eq_none_iff];intro x hx;obtain ⟨j,hj,rfl⟩:=ZU.1 hx
  grind [Zi]
 simp [Hf,this]
theorem ON {f:Vis->Bool} {l:List Vis} :decide (0<=Hf f l)=l.any f:=by
 grind [Hf]
theorem fO {f:Vis->Bool} {l:List Vis} :Hf f l<l.length/\ -1<=Hf f l:=by
 grind [Hf,Qx]
theorem RC (l:List Vis) (c:Bool) (v:Vis) (hl:l.length<=1048576):PC 308 [.p (.list c (l.map Z1)),.p (Z1 v)] (.int .i64 (vIx l v)):=by
 refine Zd Tryz.func308 rfl Zcy ?_;simp (disch:=omega) only [Tryz.f308,go_sem,seval];refine Zk [0,3,7] (fun k:Nat=> [(8,.p (.int .i64 k))]) (fun _=> [.cells [.p (.int .i64 v.order),.p (.bool v.drp)]]) (fun k=>k<=l.length/\ ∀j,j<k->decide (v=nth l j)=false) (fun k=>l.length-k) 0 Zb (Weak.mk ?_) ?_
 ·simp (disch:=omega) only [go_sem,seval,↓reduceIte]
 ·rintro k ⟨hk,hno⟩;refine Zc ?_;refine cD ?_ ?_<;>intro h<;>simp (disch:=omega) only [Sh.out h,go_sem,seval,↓reduceIte]
  ·have hk2:k<l.length:=Za
   refine Xr (Zc ?_);refine cD ?_ ?_<;>intro h2<;>simp (disch:=omega) only [Sh.out h2,go_sem,seval,↓reduceIte]
   ·grind [DA,vIx,IU]
   ·have: ¬v=nth l k:=by grind
    exact ⟨k+1,⟨Za,Zm.2 ⟨hno,by grind⟩⟩,Za,wk⟩
  grind [vIx,OO]
theorem Cx (l:List Vis) (c:Bool) (v:Vis) (hl:l.length<=1048576):PC 286 [.p (.list c (l.map Z1)),.p (Z1 v)] (.int .i64 (vIx l v)):=by
 refine Zd Tryz.func286 rfl Zce ?_;simp (disch:=omega) only [Tryz.f286,go_sem,seval];refine (RC l c v hl).use ?_;simp (disch:=omega) only [go_sem,seval]
theorem IM (l:List Vis) (c:Bool) (v:Vis) (hl:l.length<=1048576):PC 287 [.p (.list c (l.map Z1)),.p (Z1 v)] (.bool (decide (0<=vIx l v))):=by
 refine Zd Tryz.func287 rfl Zcf ?_;simp (disch:=omega) only [Tryz.f287,go_sem,seval];refine (RC l c v hl).use ?_;simp (disch:=omega) only [go_sem,seval]
theorem tH (l:List Ord) (c:Bool) (n:Int) (hl:l.length<=1048576):PC 236 [.p (.list c (l.map eOrd)),.p (.int .i64 n)] (.bool (decide (0<=n/\n<l.length))):=by
 refine Zd Tryz.func236 rfl iC ?_;simp (disch:=omega) only [Tryz.f236,go_sem,seval];refine gT ?_ ?_<;>intro h<;>simp (disch:=omega) only [Sh.out h,go_sem,seval,↓reduceIte]
 all_goals (try simp [h])
def Xb (l:List Ord) (i:Nat):List Vis:=(if 0<=(nth l i).pick.place then [⟨i,false⟩] else [])++(if 0<=(nth l i).drp.place then [⟨i,true⟩] else [])
theorem U1 (l:List Ord) (i:Nat):(Xb l i).length<=2:=by grind [Xb]
theorem U2 {l:List Ord} {i:Nat} {v:Vis} (h:v∈Xb l i):v.order=i:=by
 grind [Xb]
theorem PJ (l:List Ord) (c:Bool) (i:Nat) (hi:i<l.length) (hl:l.length<=1048576):ACalls Tryz.prog 178 [.p (.list c (l.map eOrd)),.p (.int .i64 (i:Nat))] [] fun x H'=>x= .sl 0 0 (Xb l i).length (Xb l i).length/\H'= [.elems 2 ((Xb l i).map Z1)]:=by
 suffices hh:ACalls Tryz.prog 178 [.p (.list c (l.map eOrd)),.p (.int .i64 (i:Nat))] [] fun x H'=> ∃m:List Vis,m=Xb l i/\x= .sl 0 0 m.length m.length/\H'= [.elems 2 (m.map Z1)] by
  grind
 refine Xj [2] Tryz.func178 rfl Zbe ?_;simp (disch:=omega) only [Tryz.f178,go_sem,seval];refine Zq (Weak.ofNil 5 2 (by simp (disch:=omega) only [go_sem,seval]) Zb (Weak.refl _ _ _)) ?_;refine Zg [4] _ _ _ _ (Zc ?_);refine (tH l c i hl).use (Zc ?_)
 have h0:(0:Int)<=(i:Int)/\(i:Int)<(l.length:Int):=Za
 simp (disch:=omega) only [h0,go_sem,seval];refine ZD [0,1] (fun m:List Vis=> [(5,.sl 0 0 m.length m.length)]) (fun m=> [.elems 2 (m.map Z1)]) (fun m=>m=(if 0<=(nth l i).pick.place then [⟨i,false⟩] else [])) ?_ ?_
 ·refine Zc ?_;refine cD ?_ ?_<;>intro h<;>simp (disch:=omega) only [Sh.out h,go_sem,seval,↓reduceIte]
  ·exact ⟨[⟨i,false⟩],by simp [],wk⟩
  ·exact ⟨[],by simp [],wk⟩
 ·intro m hm
  have hml:m.length<=1:=by grind
  refine Zg [] _ _ _ _ (Zc ?_);refine cD ?_ ?_<;>intro h<;>simp (disch:=omega) only [Sh.out h,go_sem,seval,↓reduceIte]
  ·exact ⟨m++ [⟨i,true⟩],by simp_all [Xb],0,by simp (disch:=omega) only [go_sem,seval]⟩
  ·exact ⟨m,by simp_all [Xb],0,by simp (disch:=omega) only [go_sem,seval]⟩
theorem visits_c (l:List Ord) (c:Bool) (i:Nat) (hi:i<l.length) (hl:l.length<=1048576):PC 178 [.p (.list c (l.map eOrd)),.p (.int .i64 (i:Nat))] (.list false ((Xb l i).map Z1)) :=
 (PJ l c i hi hl).frozen Zb
def KY (l:List Vis):Bool:=(List.range l.length).any fun i=>decide (0<=vIx (l.take i) (nth l i))
theorem tK (l:List Vis) (c:Bool) (hl:l.length<=1048576):PC 260 [.p (.list c (l.map Z1))] (.bool (KY l)):=by
 refine Zd Tryz.func260 rfl ZbU ?_;simp (disch:=omega) only [Tryz.f260,go_sem,seval];refine Zk [0,5,6] (fun k:Nat=> [(7,.p (.int .i64 k))]) (fun _=> []) (fun k=>k<=l.length/\ ∀j,j<k->decide (0<=vIx (l.take j) (nth l j))=false) (fun k=>l.length-k) 0 Zb (Weak.mk ?_) ?_
 ·simp (disch:=omega) only [go_sem,seval,↓reduceIte]
 ·rintro k ⟨hk,hno⟩;refine Zc ?_;refine cD ?_ ?_<;>intro h<;>simp (disch:=omega) only [Sh.out h,go_sem,seval,↓reduceIte]
  ·have hk2:k<l.length:=Za
   refine Xr (Zc ?_);refine Zr (Cx (l.take k) _ (nth l k) (by simp;omega)) (Zc ?_);refine cD ?_ ?_<;>intro h2<;>simp (disch:=omega) only [Sh.out h2,go_sem,seval,↓reduceIte]
   ·grind [KY]
   ·exact ⟨k+1,⟨Za,Zm.2 ⟨hno,by grind⟩⟩,Za,wk⟩
  grind [KY]
theorem DJ (l:List Vis) (c:Bool) (g:FuncId) (caps:List V) (H:List AM.Obj) (f:Vis->Bool) (hl:l.length<=1048576) (hW:LG H H.length H H) (hc:Z9 H.length caps=true)
  (hg: ∀v∈l,ACalls Tryz.prog g (.p (Z1 v)::caps) H fun x H'=>x= .p (.bool (f v))/\H'=H) :
  ACalls Tryz.prog 225 [.p (.list c (l.map Z1)),.fn (.func g) [] caps] H fun x H'=>x= .p (.int .i64 (Hf f l))/\H'=H:=by
 refine Ye Tryz.func225 rfl Zbz (Zg [] _ _ _ _ ?_);simp (disch:=omega) only [Tryz.f225,go_sem,seval];refine Zk [0,1,7] (fun k:Nat=> [(8,.p (.int .i64 k))]) (fun _=>H) (fun k=>k<=l.length/\ ∀j,j<k->f (nth l j)=false) (fun k=>l.length-k) 0 Zb (Weak.mk ?_) ?_
 ·simp (disch:=omega) only [hW,hc,go_sem,seval];simp
 ·rintro k ⟨hk,hno⟩;refine Zc ?_;refine cD ?_ ?_<;>intro h<;>simp (disch:=omega) only [Sh.out h,go_sem,seval,↓reduceIte]
  ·have hk2:k<l.length:=Za
   refine (hg (nth l k) (Zo hk2)).useH (Zc ?_);refine cD ?_ ?_<;>intro h2<;>simp (disch:=omega) only [Sh.out h2,go_sem,seval,↓reduceIte]
   ·grind [IU]
   ·have h3:f (nth l k)=false:=Za
    refine ⟨k+1,⟨Za,Zm.2 ⟨hno,h3⟩⟩,Za,Weak.mk ?_⟩;simp (disch:=omega) only [hW,hc,go_sem,seval];simp
  grind [OO]
theorem Wp (l:List Vis) (c:Bool) (g:FuncId) (caps:List V) (H:List AM.Obj) (f:Vis->Bool) (hl:l.length<=1048576) (hW:LG H H.length H H) (hc:Z9 H.length caps=true)
  (hg: ∀v∈l,ACalls Tryz.prog g (.p (Z1 v)::caps) H fun x H'=>x= .p (.bool (f v))/\H'=H) :
  ACalls Tryz.prog 167 [.p (.list c (l.map Z1)),.fn (.func g) [] caps] H fun x H'=>x= .p (.bool (l.any f))/\H'=H:=by
 refine Ye Tryz.func167 rfl Za4 (Zg [] _ _ _ _ ?_);simp (disch:=omega) only [Tryz.f167,go_sem,seval];refine (DJ l c g caps H f hl hW hc hg).useH (Zc ?_);rw [ON]
def hasO (l:List Vis) (o:Int):Bool:=l.any fun v=>decide (v.order=o)
theorem Zab (v:Vis) (o:Int):ACalls Tryz.prog 288 [.p (Z1 v),.ptr 0 0] [.cells [.p (.int .i64 o)]] fun x H'=>x= .p (.bool (decide (v.order=o)))/\H'= [.cells [.p (.int .i64 o)]]:=by
 refine Zf [] Tryz.func288 rfl Zcg ?_;simp (disch:=omega) only [Tryz.f288,go_sem,seval];exact we
theorem SS (v:Vis) (o:Int):ACalls Tryz.prog 289 [.p (Z1 v),.ptr 0 0] [.cells [.p (.int .i64 o)]] fun x H'=>x= .p (.bool (decide (v.order=o)))/\H'= [.cells [.p (.int .i64 o)]]:=by
 refine Zf [] Tryz.func289 rfl Zch ?_;simp (disch:=omega) only [Tryz.f289,go_sem,seval];exact we
theorem CI (l:List Vis) (c:Bool) (o:Int) (hl:l.length<=1048576):PC 262 [.p (.list c (l.map Z1)),.p (.int .i64 o)] (.bool (hasO l o)):=by
 refine Zd Tryz.func262 rfl ZbW ?_;simp (disch:=omega) only [Tryz.f262,go_sem,seval];refine (Wp l c 288 [.ptr 0 0] [.cells [.p (.int .i64 o)]] (fun v=>decide (v.order=o)) hl (by simp (disch:=omega) only [go_sem,seval]) (by rfl) (fun v _=>Zab v o)).useH (Zc ?_);rw [hasO]
def beforeB (l:List Vis) (a b:Int):Bool:=if Hf (fun v=>decide (v.order=b)) l<0 then true else hasO l a&& !hasO (l.drop (Hf (fun v=>decide (v.order=b)) l).toNat) a
theorem NM (l:List Vis) (c:Bool) (a b:Int) (hl:l.length<=1048576):PC 263 [.p (.list c (l.map Z1)),.p (.int .i64 a),.p (.int .i64 b)] (.bool (beforeB l a b)):=by
 refine Zd Tryz.func263 rfl ZbX ?_;simp (disch:=omega) only [Tryz.f263,go_sem,seval];refine (DJ l c 289 [.ptr 0 0] [.cells [.p (.int .i64 b)]] (fun v=>decide (v.order=b)) hl (by simp (disch:=omega) only [go_sem,seval]) (by rfl) (fun v _=>SS v b)).useH ?_;have hlt:=fO (f:=fun v=>decide (v.order=b)) (l:=l);refine Zc ?_;refine cD ?_ ?_<;>intro h<;>simp (disch:=omega) only [Sh.out h,go_sem,seval]
 ·rw [beforeB,if_pos h]
 ·refine (CI l c a hl).use (Zc ?_);generalize hq:Hf (fun v=>decide (v.order=b)) l=q at hlt h ⊢
  cases h2:hasO l a with
  | false =>
   refine Zc ?_
   simp_all [beforeB]
  | true =>
   simp (disch:=omega) only [Xi,go_sem,seval];refine (CI (l.drop q.toNat) _ a (by simp;omega)).use (Zc ?_)
   simp_all [beforeB,if_neg]
def Qp (l:List Vis):Int->List Vis->Bool
 | _,[]=>true
 | last,w::r=>decide (last<vIx l w)&&Qp l (vIx l w) r
def pairB (os:List Ord) (l:List Vis) (v:Vis):Bool:=decide (0<=vIx (Xb os v.order.toNat) v)&&Qp l (-1) (Xb os v.order.toNat)
theorem VI {P Q:Prop} (h:Q) (e:Q->P:=by intro h;simp (disch:=omega) only [Zh,go_sem,seval];exact h):P:=e h
theorem NN (x:Inst) (l:List Vis) (c:Bool) (hl:l.length<=1048576) (ho:x.orders.length<=1048576) (hv: ∀v∈l,0<=v.order/\v.order<x.orders.length) :
  PC 261 [.p (ZE x),.p (.list c (l.map Z1))] (.bool (l.all (pairB x.orders l))):=by
 refine Zd Tryz.func261 rfl ZbV ?_;simp (disch:=omega) only [Tryz.f261,go_sem,seval];refine Zk [1,2,12,13] (fun k:Nat=> [(14,.p (.int .i64 k))]) (fun _=> [Zh x]) (fun k=>k<=l.length/\ ∀j,j<k->pairB x.orders l (nth l j)=true) (fun k=>l.length-k) 0 Zb (Weak.mk ?_) ?_
 ·simp (disch:=omega) only [Zh,go_sem,seval]
 ·rintro k ⟨hk,hno⟩;refine VI ?_;refine cD ?_ ?_<;>intro h<;>simp (disch:=omega) only [Sh.out h,go_sem,seval,↓reduceIte]
  ·have hk2:k<l.length:=Za
   obtain ⟨v1,v2⟩:=hv _ (Zo hk2)
   have hbad:pairB x.orders l (nth l k)=false->l.all (pairB x.orders l)=false:=fun h4=>by
    grind [Zo]
   obtain ⟨i,hi⟩: ∃i:Nat,(nth l k).order=(i:Int):=⟨(nth l k).order.toNat,Za⟩
   have hp:pairB x.orders l (nth l k)=(decide (0<=vIx (Xb x.orders i) (nth l k))&&Qp l (-1) (Xb x.orders i)):=by rw [pairB,hi];rfl
   rw [hi] at v1 v2;simp (disch:=omega) only [hi,go_sem,seval];refine (visits_c x.orders x.orders_c i Za ho).use (Zc ?_);have hvl:=U1 x.orders i;have hcon:=IM (Xb x.orders i) false (nth l k) Za;rw [Rn,hi] at hcon;refine (hcon).use (Zc ?_);refine cD ?_ ?_<;>intro h2<;>simp (disch:=omega) only [Sh.out h2,go_sem,seval]
   ·grind
   ·have h2':0<=vIx (Xb x.orders i) (nth l k):=Za
    generalize hown:Xb x.orders i=own at hvl hp h2' ⊢
    have hp2:pairB x.orders l (nth l k)=Qp l (-1) own:=by grind
    refine Zk [1,2,12,13,14,27,28] (fun q:Nat×Int=> [(8,.p (.int .i64 q.2)),(29,.p (.int .i64 q.1))]) (fun _=> [Zh x,.cells [.p (.int .i64 (i:Int)),.p (.bool (nth l k).drp)]]) (fun q=>q.1<=own.length/\Qp l (-1) own=Qp l q.2 (own.drop q.1)) (fun q=>own.length-q.1) (0,-1) Zb (Weak.mk ?_) ?_
    ·simp (disch:=omega) only [Zh,go_sem,seval]
    ·rintro ⟨j,last⟩ ⟨hj,ha⟩;simp only at hj ha;refine VI ?_;refine ZI ?_ ?_<;>intro h3
     ·have hj2:j<own.length:=Za
      have hd:own.drop j=nth own j::own.drop (j+1):=by rw [UO hj2,Zi hj2]
      rw [hd] at ha;refine (Cx l c (nth own j) hl).use (Zc ?_);refine ZI ?_ ?_<;>intro h4
      ·grind [Qp]
      ·have h5:last<vIx l (nth own j):=Za
       exact ⟨(j+1,vIx l (nth own j)),⟨Za,by grind [Qp]⟩,Za,wk⟩
     ·have hjl:j=own.length:=Za
      subst hjl;exact ⟨k+1,⟨Za,Zm.2 ⟨hno,by grind [Qp]⟩⟩,Za,wk⟩
  ·have hkl:k=l.length:=Za
   subst hkl
   have:l.all (pairB x.orders l)=true:=by
    rw [Zt];intro v hv;obtain ⟨j,hj,rfl⟩:=ZU.1 hv
    grind [Zi]
   rw [this]
def ZA (r:Rte):AM.Obj:= .cells [.p (.int .i64 r.typ),.p (.int .i64 r.start),.p (.list r.rests_c (r.rests.map eB)),.p (.list r.visits_c (r.visits.map Z1))]
def V9 (x:Inst) (v:Vis):Bool:= !decide (0<=v.order/\v.order<(x.orders.length:Int))
theorem eE (x:Inst) (r:Rte) (v:Vis) (ho:x.orders.length<=1048576):ACalls Tryz.prog 258 [.p (Z1 v),.ptr 0 0] [Zh x,ZA r] fun y H'=>y= .p (.bool (V9 x v))/\H'= [Zh x,ZA r]:=by
 refine Zf [] Tryz.func258 rfl ZbS ?_;simp (disch:=omega) only [Tryz.f258,Zh,ZA,go_sem,seval];refine gF ?_ ?_<;>intro h<;>simp (disch:=omega) only [Sh.out h,go_sem,seval,↓reduceIte]
 ·have e:V9 x v=true:=by
   grind [V9]
  rw [e];exact we
 ·have e:V9 x v=decide ((x.orders.length:Int)<=v.order):=by
   have h0:0<=v.order:=Za
   rw [Yj];simp [V9,h0]
  rw [e];exact we
theorem eG (x:Inst) (r:Rte) (v:Vis) (ho:x.orders.length<=1048576) (h1:0<=v.order) (h2:v.order<x.orders.length):ACalls Tryz.prog 259 [.p (Z1 v),.ptr 0 0] [Zh x,ZA r] fun y H'=>y= .p (.bool (nth x.orders v.order.toNat).off)/\H'= [Zh x,ZA r]:=by
 have h3:v.order.toNat<x.orders.length:=Za
 refine Zf [] Tryz.func259 rfl ZbT ?_;simp (disch:=omega) only [Tryz.f259,Zh,ZA,go_sem,seval];exact we
def Xw (x:Inst) (l:List Vis):Int :=
 if l.length=0\/l.any (V9 x)=true then 2
 else if (l.any fun v=>(nth x.orders v.order.toNat).off)=true then 9
 else if KY l=true then 6
 else if l.all (pairB x.orders l)=false then 19
 else if (x.apart.any fun p=>hasO l p.1&&hasO l p.2)=true then 20
 else if (x.before.any fun p=> !beforeB l p.1 p.2)=true then 21
 else 0
theorem J8 {P Q:Prop} (h:Q) (e:Q->P:=by intro h;simp (disch:=omega) only [Zh,ZA,go_sem,seval];exact h):P:=e h
theorem PA (x:Inst) (r:Rte) (ho:x.orders.length<=1048576) (hl:r.visits.length<=1048576) (hap:x.apart.length<=1048576) (hbe:x.before.length<=1048576) :
  PC 218 [.p (ZE x),.p (Z0 r)] (.int .i64 (Xw x r.visits)):=by
 refine Zd Tryz.func218 rfl Zbs ?_;simp (disch:=omega) only [Tryz.f218,go_sem,seval];refine gF ?_ ?_<;>intro h0<;>simp (disch:=omega) only [Sh.out h0,go_sem,seval]
 ·grind [Xw]
 ·have h00: ¬r.visits.length=0:=Za
  refine (Wp r.visits r.visits_c 258 [.ptr 0 0] [Zh x,ZA r] (V9 x) hl (by simp (disch:=omega) only [Zh,ZA,go_sem,seval]) (by rfl) (fun v _=>eE x r v ho)).useH (J8 ?_);refine cD ?_ ?_<;>intro h1<;>simp (disch:=omega) only [Sh.out h1,go_sem,seval]
  ·simp_all [Xw]
  ·have h1':r.visits.any (V9 x)=false:=Za
   have c1: ¬(r.visits.length=0\/r.visits.any (V9 x)=true):=by grind
   have hin: ∀v∈r.visits,0<=v.order/\v.order<x.orders.length:=fun v hv=>by
    grind [V9]
   refine (Wp r.visits r.visits_c 259 [.ptr 0 0] [Zh x,ZA r] (fun v=>(nth x.orders v.order.toNat).off) hl (by simp (disch:=omega) only [Zh,ZA,go_sem,seval]) (by rfl) (fun v hv=>eG x r v ho (hin v hv).1 (hin v hv).2)).useH (J8 ?_);refine cD ?_ ?_<;>intro h2<;>simp (disch:=omega) only [Sh.out h2,go_sem,seval]
   ·simp_all [Xw]
   ·refine (tK r.visits r.visits_c hl).use (Zc ?_);refine cD ?_ ?_<;>intro h3<;>simp (disch:=omega) only [Sh.out h3,go_sem,seval,↓reduceIte]
    ·simp_all [Xw,if_neg]
    ·refine (NN x r.visits r.visits_c hl ho hin).use (Zc ?_);refine cD ?_ ?_<;>intro h4<;>simp (disch:=omega) only [Sh.out h4,go_sem,seval,↓reduceIte]
     ·simp_all [Xw,if_neg]
     ·have h4':r.visits.all (pairB x.orders r.visits)=true:=by grind
      have hc:Xw x r.visits=if (x.apart.any fun p=>hasO r.visits p.1&&hasO r.visits p.2)=true then 20 else if (x.before.any fun p=> !beforeB r.visits p.1 p.2)=true then 21 else 0:=by
       rw [Xw,if_neg c1,if_neg (by grind),if_neg (by grind),if_neg (by grind)]
      clear h4 h4' h3 h2 c1 h1' h1 h0;refine Zk [2,5,33,34] (fun k:Nat=> [(35,.p (.int .i64 k))]) (fun _=> [Zh x,ZA r]) (fun k=>k<=x.apart.length/\ ∀j,j<k->(hasO r.visits (nth x.apart j).1&&hasO r.visits (nth x.apart j).2)=false) (fun k=>x.apart.length-k) 0 Zb (Weak.mk ?_) ?_
      ·simp (disch:=omega) only [Zh,ZA,go_sem,seval]
      ·rintro k ⟨hk,hno⟩;refine J8 ?_;refine cD ?_ ?_<;>intro h<;>simp (disch:=omega) only [Sh.out h,go_sem,seval,↓reduceIte]
       ·have hk2:k<x.apart.length:=Za
        refine (CI r.visits r.visits_c (nth x.apart k).1 hl).use (Zc ?_);refine Bb ?_ ?_<;>intro h2
        ·refine (CI r.visits r.visits_c (nth x.apart k).2 hl).use (Zc ?_);refine ZI ?_ ?_<;>intro h3
         ·rw [hc,if_pos (K6 hk2 (by grind))]
         ·exact ⟨k+1,⟨Za,Zm.2 ⟨hno,by grind⟩⟩,Za,wk⟩
        ·exact ⟨k+1,⟨Za,Zm.2 ⟨hno,by simp [h2]⟩⟩,Za,wk⟩
       ·have hkl:k=x.apart.length:=Za
        subst hkl;rw [hc,EM hno];clear hno hk h hc;rw [if_neg Zb];refine Zk [5,51,52] (fun k:Nat=> [(53,.p (.int .i64 k))]) (fun _=> [Zh x,ZA r]) (fun k=>k<=x.before.length/\ ∀j,j<k->(!beforeB r.visits (nth x.before j).1 (nth x.before j).2)=false) (fun k=>x.before.length-k) 0 Zb (Weak.mk ?_) ?_
        ·simp (disch:=omega) only [Zh,ZA,go_sem,seval]
        ·rintro k ⟨hk,hno⟩;refine J8 ?_;refine cD ?_ ?_<;>intro h<;>simp (disch:=omega) only [Sh.out h,go_sem,seval,↓reduceIte]
         ·have hk2:k<x.before.length:=Za
          refine (NM r.visits r.visits_c (nth x.before k).1 (nth x.before k).2 hl).use (Zc ?_);refine ZI ?_ ?_<;>intro h2
          ·have h3:(!beforeB r.visits (nth x.before k).1 (nth x.before k).2)=true:=Za
           rw [if_pos (K6 hk2 h3)]
          ·have h3:(!beforeB r.visits (nth x.before k).1 (nth x.before k).2)=false:=Za
           exact ⟨k+1,⟨Za,Zm.2 ⟨hno,h3⟩⟩,Za,wk⟩
         grind [EM]
@[go_sem] theorem Zk9 {H:List AM.Obj} {n cs cs'} :GR H n (.tup cs) (.tup cs')=(cs'=cs/\Z9 n cs=true):=by simp [GR,qK,refB]
@[go_sem] theorem Ps {a b:V} :VB [a,b]= .tup [a,b]:=Zl rfl rfl
theorem W1 {g:FuncId} {args:List V} {a b:PV} {H:List AM.Obj} {K:V->List AM.Obj->Prop} (h:ACalls Tryz.prog g args [] fun x H'=>x= .tup [.p a,.p b]/\H'= []) (k:K (.tup [.p a,.p b]) H) (ha:Z9 0 args=true:=by rfl):ACalls Tryz.prog g args H K :=
 (h.behind ha H).mono fun x H' hq=>by
  obtain ⟨y,H1,⟨rfl,rfl⟩,rfl,rfl⟩:=hq
  grind [shV,shVs]
def ordS (l:List Vis):Nat:=l.foldl (fun s v=>s|||pw v.order.toNat) 0
def DI (v:Vis):Bool:=decide (0<=v.order/\v.order<=62)
theorem AE {l:List Vis} {k:Nat} (hk:k<l.length):ordS (l.take (k+1))=ordS (l.take k)|||pw (nth l k).order.toNat:=by
 grind [Xl,ordS,Zi]
theorem Qi : ∀(k:Nat) {l:List Vis},k<=l.length->(∀v∈l.take k,DI v=true)->ordS (l.take k)<9223372036854775808
 | 0,l,_,_=>by simp [ordS]
 | k+1,l,hk,h=>by
  have hk2:k<l.length:=Za
  have ih:=Qi k (l:=l) Za fun v hv=>h v (List.take_subset_take_left l Za hv);have hv:=h (nth l k) (by rw [Zi hk2];exact ZU.2 ⟨k,by simp;omega,Zb⟩);simp only [DI,Zp] at hv;have h2:pw (nth l k).order.toNat<=pw 62:=DN Za;have h3:=Nu;rw [AE hk2];exact Qc (n:=63) Za Za
def ordR (l:List Vis):Int×Int:=if l.all DI=true then (((ordS l:Nat):Int),0) else (0,2)
theorem Bu {P Q:Prop} (h:Q) (e:Q->P:=by intro h;simp (disch:=omega) only [ZA,go_sem,seval];exact h):P:=e h
theorem Vl (r:Rte) (hl:r.visits.length<=1048576):PT 59 [.p (Z0 r)] [.p (.int .i64 (ordR r.visits).1),.p (.int .i64 (ordR r.visits).2)]:=by
 refine Zf [] Tryz.func59 rfl ZiL ?_;simp (disch:=omega) only [Tryz.f59,go_sem,seval];refine Zk [8,9] (fun k:Nat=> [(4,.p (.int .i64 (ordS (r.visits.take k):Nat))),(10,.p (.int .i64 k))]) (fun _=> [ZA r]) (fun k=>k<=r.visits.length/\ ∀j,j<k->DI (nth r.visits j)=true) (fun k=>r.visits.length-k) 0 Zb (Weak.mk ?_) ?_
 ·simp (disch:=omega) only [ZA,ordS,Ya,VW,go_sem,seval]
 ·rintro k ⟨hk,hno⟩
  have hlt:=Qi k hk fun v hv=>by
   obtain ⟨j,hj,rfl⟩:=ZU.1 hv
   grind [Zi]
  refine Bu ?_;refine cD ?_ ?_<;>intro h<;>simp (disch:=omega) only [Sh.out h,go_sem,seval,↓reduceIte]
  ·have hk2:k<r.visits.length:=Za
   have hbad:DI (nth r.visits k)=false->ordR r.visits=(0,2):=fun h4=>by
    grind [Zo,ordR]
   have hs:=AE hk2
   have hp:(nth r.visits k).order<=62->pw (nth r.visits k).order.toNat<=4611686018427387904:=fun h=>by rw [<- Nu];exact DN Za
   refine gF ?_ ?_<;>intro h1<;>simp (disch:=omega) only [Sh.out h1,go_sem,seval,↓reduceIte]
   ·have e:=hbad (by simp [DI];omega);rw [e];exact we
   ·refine ZI ?_ ?_<;>intro h2
    ·have e:=hbad (by simp [DI];omega);rw [e];exact we
    ·exact ⟨k+1,⟨Za,Zm.2 ⟨hno,by simp [DI];omega⟩⟩,Za,Weak.mk (by simp (disch:=omega) only [hs,go_sem,seval])⟩
  ·have hkl:k=r.visits.length:=Za
   subst hkl
   have:r.visits.all DI=true:=by
    rw [Zt];intro v hv;obtain ⟨j,hj,rfl⟩:=ZU.1 hv
    grind [Zi]
   have e:ordR r.visits=(((ordS r.visits:Nat):Int),0):=by simp [ordR,this]
   rw [e,Xi];exact we
def Qr (a b:Int):Int:=if a<b then-1 else if b<a then 1 else 0
theorem RG (a:Int):PC 158 [.p (.int .i64 a)] (.bool false):=by
 refine Zd Tryz.func158 rfl ZaZ ?_;simp (disch:=omega) only [Tryz.f158,go_sem,seval]
 try simp
theorem G6 (a b:Int):PC 106 [.p (.int .i64 a),.p (.int .i64 b)] (.int .i64 (Qr a b)):=by
 refine Zd Tryz.func106 rfl Zaj ?_;simp (disch:=omega) only [Tryz.f106,go_sem,seval];refine (RG a).use (Zc ?_);refine (RG b).use (Zc ?_);refine cD ?_ ?_<;>intro h<;>simp (disch:=omega) only [Sh.out h,go_sem,seval]
 ·simp [Qr,h]
 ·refine cD ?_ ?_<;>intro h2<;>simp (disch:=omega) only [Sh.out h2,go_sem,seval]
  ·simp [Qr,h,h2]
  grind [Qr]
def rN (l:List Int):Int:=(l.find? fun n=>decide (n≠0)).getD 0
theorem Zdd {l:List Int} {k:Nat} (hk:k<l.length) (h:nth l k≠0) (hno: ∀j,j<k->nth l j=0):rN l=nth l k:=by
 grind [nth,List.find?_eq_some_iff_getElem,rN]
theorem Zde {l:List Int} (hno: ∀j,j<l.length->nth l j=0):rN l=0:=by
 have:l.find? (fun n=>decide (n≠0))=none:=by
  rw [Am];intro x hx;obtain ⟨j,hj,rfl⟩:=ZU.1 hx
  grind [Zi]
 grind [rN]
theorem Zdf (l:List Int) (c:Bool) (hl:l.length<=100):PC 105 [.p (.list c (l.map eI))] (.int .i64 (rN l)):=by
 refine Zd Tryz.func105 rfl Zai ?_;simp (disch:=omega) only [Tryz.f105,go_sem,seval];refine Zk [3,6,7] (fun k:Nat=> [(8,.p (.int .i64 k))]) (fun _=> []) (fun k=>k<=l.length/\ ∀j,j<k->nth l j=0) (fun k=>l.length-k) 0 Zb (Weak.mk ?_) ?_
 ·simp (disch:=omega) only [go_sem,seval]
 ·rintro k ⟨hk,hno⟩;refine Zc ?_;refine cD ?_ ?_<;>intro h<;>simp (disch:=omega) only [Sh.out h,go_sem,seval,↓reduceIte]
  ·have hk2:k<l.length:=Za
   refine ZI ?_ ?_<;>intro h2
   ·grind [Zdd]
   ·exact ⟨k+1,⟨Za,Zm.2 ⟨hno,Za⟩⟩,Za,wk⟩
  grind [Zde]
theorem Lc (a b:Int):rN [a,b]=if a=0 then b else a:=by
 grind [rN]
def dn (v:Vis):Int:=if v.drp=true then 1 else 0
theorem Nf (v:Vis):PC 315 [.p (Z1 v)] (.int .i64 (dn v)):=by
 refine Zd Tryz.func315 rfl ZcF ?_;simp (disch:=omega) only [Tryz.f315,go_sem,seval];refine cD ?_ ?_<;>intro h<;>simp (disch:=omega) only [Sh.out h,go_sem,seval]
 ·simp [dn,h]
 ·simp [dn,h]
def eT (a b:Vis):Int:=if Qr a.order b.order=0 then Qr (dn a) (dn b) else Qr a.order b.order
theorem Tb (a b:Vis):PC 300 [.p (Z1 a),.p (Z1 b)] (.int .i64 (eT a b)):=by
 refine Zd Tryz.func300 rfl Zcs ?_;simp (disch:=omega) only [Tryz.f300,go_sem,seval];refine Xr (Zc ?_);refine Zr (G6 a.order b.order) (Zc ?_);refine Zr (Nf a) (Zc ?_);refine Zr (Nf b) (Zc ?_);refine Zr (G6 (dn a) (dn b)) (Zc ?_);refine Zr (Zdf [Qr a.order b.order,Qr (dn a) (dn b)] false Zb) (Zc ?_);rw [Lc,eT]
def M0 : List Vis->List Vis->Int
 | [],[]=>0
 | [],_::_=> -1
 | _::_,[]=>1
 | a::r,b::s=>if eT a b=0 then M0 r s else eT a b
theorem BO {α:Type} [Inhabited α] {l:List α} {k:Nat} (h:k<l.length):l.drop k=nth l k::l.drop (k+1):=by rw [UO h,Zi h]
theorem GB (a b:List Vis) (c d:Bool) (ha:a.length<=1048576) (hb:b.length<=1048576) :
  PC 299 [.p (.list c (a.map Z1)),.p (.list d (b.map Z1)),.fn (.func 300) [] []] (.int .i64 (M0 a b)):=by
 refine Zd Tryz.func299 rfl Zcr ?_;simp (disch:=omega) only [Tryz.f299,go_sem,seval];refine Zk [0,1,2,11,12] (fun k:Nat=> [(13,.p (.int .i64 k))]) (fun _=> []) (fun k=>k<=a.length/\k<=b.length/\M0 a b=M0 (a.drop k) (b.drop k)) (fun k=>a.length-k) 0 Zb (Weak.mk ?_) ?_
 ·simp (disch:=omega) only [go_sem,seval,↓reduceIte]
 ·rintro k ⟨hk,hkb,hle⟩;refine Zc ?_;refine cD ?_ ?_<;>intro h<;>simp (disch:=omega) only [Sh.out h,go_sem,seval,↓reduceIte]
  ·have hk2:k<a.length:=Za
   rw [BO hk2] at hle;refine cD ?_ ?_<;>intro h2<;>simp (disch:=omega) only [Sh.out h2,go_sem,seval,↓reduceIte]
   ·have:b.drop k= []:=Ef Za;rw [hle,this];rfl
   ·have hk3:k<b.length:=Za
    rw [BO hk3] at hle;refine (Tb (nth a k) (nth b k)).use (Zc ?_);refine cD ?_ ?_<;>intro h3<;>simp (disch:=omega) only [Sh.out h3,go_sem,seval,↓reduceIte]
    ·simp_all [M0]
    ·have h4:eT (nth a k) (nth b k)=0:=Za
     exact ⟨k+1,⟨Za,Za,by simp_all [M0]⟩,Za,wk⟩
  ·have hkl:k=a.length:=Za
   subst hkl;rw [Qd] at hle;refine cD ?_ ?_<;>intro h2<;>simp (disch:=omega) only [Sh.out h2,go_sem,seval]
   ·rw [BO Za] at hle;rw [hle];rfl
   ·have:b.drop a.length= []:=Ef Za;rw [hle,this];rfl
theorem aU (a b:List Vis) (c d:Bool) (ha:a.length<=1048576) (hb:b.length<=1048576):PC 276 [.p (.list c (a.map Z1)),.p (.list d (b.map Z1))] (.bool (decide (M0 a b<0))):=by
 refine Zd Tryz.func276 rfl Zb9 ?_;simp (disch:=omega) only [Tryz.f276,go_sem,seval];refine (GB a b c d ha hb).use ?_;simp (disch:=omega) only [go_sem,seval]
def Cy (l:List Vis) (v:Vis):List Vis->Bool
 | []=>true
 | w::r=>if w=v then true else decide (0<=vIx l w)&&Cy l v r
def UG (l own:List Vis):Bool:=own.all fun w=>decide (0<=vIx l w)
def ER (os:List Ord) (l:List Vis) (o:Int) (p:Int×Int):Bool:=decide (p.2≠o)||UG l (Xb os p.1.toNat)
def UV (x:Inst) (l:List Vis) (v:Vis):Bool:=decide (vIx l v<0)&&Cy l v (Xb x.orders v.order.toNat)&&x.before.all (ER x.orders l v.order)
def Qm (v:Vis):AM.Obj:= .cells [.p (.int .i64 v.order),.p (.bool v.drp)]
theorem mO {l:List Vis} {v:Vis} : -1<=vIx l v/\vIx l v<l.length:=by
 simp_all [fO,vIx]
theorem PB (x:Inst) (l:List Vis) (c:Bool) (v:Vis) (hl:l.length<=1048576) (ho:x.orders.length<=1048576) (hbl:x.before.length<=1048576) (hv:0<=v.order/\v.order<x.orders.length) (hb: ∀p∈x.before,0<=p.1/\p.1<x.orders.length) :
  PC 277 [.p (ZE x),.p (.list c (l.map Z1)),.p (Z1 v)] (.bool (UV x l v)):=by
 refine By [3] Tryz.func277 rfl Zca ?_;simp (disch:=omega) only [Tryz.f277,go_sem,seval];refine (Cx l c v hl).use (Zc ?_);refine cD ?_ ?_<;>intro h<;>simp (disch:=omega) only [Sh.out h,go_sem,seval]
 ·grind [UV]
 ·have h1:vIx l v<0:=Za
  obtain ⟨i,hi⟩: ∃i:Nat,v.order=(i:Int):=⟨v.order.toNat,Za⟩
  have hr:UV x l v=(Cy l v (Xb x.orders i)&&x.before.all (ER x.orders l v.order)):=by
   grind [UV]
  have hvi:=visits_c x.orders x.orders_c i Za ho;rw [<- hi] at hvi;refine ZD [1,3,5] (fun _:Unit=> []) (fun _=> [Zh x,Qm v]) (fun _=>Cy l v (Xb x.orders i)=true) ?_ ?_
  ·refine Zc ?_;refine (hvi).use (Zc ?_);have hvl:=U1 x.orders i;generalize hown:Xb x.orders i=own at hvl hr ⊢;refine Zk [1,3,5,21,22] (fun k:Nat=> [(23,.p (.int .i64 k))]) (fun _=> [Zh x,Qm v]) (fun k=>k<=own.length/\Cy l v own=Cy l v (own.drop k)) (fun k=>own.length-k) 0 Zb (Weak.mk ?_) ?_
   ·simp (disch:=omega) only [Zh,Qm,go_sem,seval]
   ·rintro k ⟨hk,hp⟩;simp (disch:=omega) only [Zh,Qm,go_sem,seval];refine ZI ?_ ?_<;>intro h2
    ·have hk2:k<own.length:=Za
     rw [BO hk2] at hp;refine ZI ?_ ?_<;>intro h3
     ·have h4:nth own k=v:=by grind [DA]
      exact ⟨(),by simp_all [Cy],wk⟩
     ·have h4: ¬nth own k=v:=by grind
      refine (Cx l c (nth own k) hl).use (Zc ?_);refine ZI ?_ ?_<;>intro h5
      ·have h6: ¬ 0<=vIx l (nth own k):=Za
       simp_all [Cy]
      ·have h6:0<=vIx l (nth own k):=Za
       exact ⟨k+1,⟨Za,by simp_all [Cy]⟩,Za,wk⟩
    ·have hkl:k=own.length:=Za
     subst hkl;exact ⟨(),by rw [hp,Qd];rfl,wk⟩
  ·rintro _ hpre;rw [hpre,Wt] at hr;refine Zg [] _ _ _ _ ?_;simp (disch:=omega) only [Zh,Qm,go_sem,seval];refine Zk [1,3,5,36,37] (fun k:Nat=> [(38,.p (.int .i64 k))]) (fun _=> [Zh x,Qm v]) (fun k=>k<=x.before.length/\ ∀j,j<k->ER x.orders l v.order (nth x.before j)=true) (fun k=>x.before.length-k) 0 Zb (Weak.mk ?_) ?_
   ·simp (disch:=omega) only [Zh,Qm,go_sem,seval]
   ·rintro k ⟨hk,hno⟩;simp (disch:=omega) only [Zh,Qm,go_sem,seval];refine cD ?_ ?_<;>intro h2<;>simp (disch:=omega) only [Sh.out h2,go_sem,seval,↓reduceIte]
    ·have hk2:k<x.before.length:=Za
     have hbk:=hb _ (Zo hk2)
     have hbad:ER x.orders l v.order (nth x.before k)=false->UV x l v=false:=fun h4=>by
      grind [Zo]
     refine ZI ?_ ?_<;>intro h3
     ·exact ⟨k+1,⟨Za,Zm.2 ⟨hno,by simp [ER,h3]⟩⟩,Za,wk⟩
     ·obtain ⟨a,hao⟩: ∃a:Nat,(nth x.before k).1=(a:Int):=⟨(nth x.before k).1.toNat,Za⟩;have hva:=visits_c x.orders x.orders_c a Za ho;rw [<- hao] at hva
      have h3':(nth x.before k).2=v.order:=Za
      have hbe:ER x.orders l v.order (nth x.before k)=UG l (Xb x.orders a):=by grind [ER]
      refine (hva).use (Zc ?_);have hvl:=U1 x.orders a;generalize hown:Xb x.orders a=own at hvl hbe ⊢;refine Zk [1,3,5,36,37,38,51,52] (fun k:Nat=> [(53,.p (.int .i64 k))]) (fun _=> [Zh x,Qm v,.cells [.p (.int .i64 (nth x.before k).1),.p (.int .i64 (nth x.before k).2)]]) (fun q=>q<=own.length/\ ∀j,j<q->decide (0<=vIx l (nth own j))=true) (fun k=>own.length-k) 0 Zb (Weak.mk ?_) ?_
      ·simp (disch:=omega) only [Zh,Qm,go_sem,seval]
      ·rintro q ⟨hq,hnq⟩;simp (disch:=omega) only [Zh,Qm,go_sem,seval];refine ZI ?_ ?_<;>intro h4
       ·have hq2:q<own.length:=Za
        refine (Cx l c (nth own q) hl).use (Zc ?_);refine ZI ?_ ?_<;>intro h5
        ·grind [UG,Zo]
        ·exact ⟨q+1,⟨Za,Zm.2 ⟨hnq,by simp;omega⟩⟩,Za,wk⟩
       ·have hql:q=own.length:=Za
        subst hql
        have:UG l own=true:=by
         rw [UG,Zt];intro w hw;obtain ⟨j,hj,rfl⟩:=ZU.1 hw
         grind [Zi]
        exact ⟨k+1,⟨Za,Zm.2 ⟨hno,by grind⟩⟩,Za,wk⟩
    ·have hkl:k=x.before.length:=Za
     subst hkl
     have:x.before.all (ER x.orders l v.order)=true:=by
      rw [Zt];intro w hw;obtain ⟨j,hj,rfl⟩:=ZU.1 hw
      grind [Zi]
     rw [hr,this]
def J4 (x:Inst) (S:Nat) (l:List Vis) (i:Nat):List Vis:=if S.testBit i=true/\(nth x.orders i).off=false then (Xb x.orders i).filter (UV x l) else []
def nextU (x:Inst) (S:Nat) (l:List Vis) (k:Nat):List Vis:=(List.range k).flatMap (J4 x S l)
theorem Fw (x S l k):nextU x S l (k+1)=nextU x S l k++J4 x S l k:=by simp [nextU,Yv]
theorem TG (x S l i):(J4 x S l i).length<=2:=by
 grind [J4,U1]
theorem Dg (x S l): ∀k,(nextU x S l k).length<=2*k
 | 0=>by simp [nextU]
 | k+1=>by
  have h1:=Dg x S l k;have h2:=TG x S l k;rw [Fw,ZG];omega
theorem HS (x:Inst) (S:Nat) (l:List Vis) (c:Bool) (hS:S<9223372036854775808) (hl:l.length<=1048576) (ho:x.orders.length<=60) (hbl:x.before.length<=1048576) (hb: ∀p∈x.before,0<=p.1/\p.1<x.orders.length) :
  PC 240 [.p (ZE x),.p (.int .i64 (S:Nat)),.p (.list c (l.map Z1))] (.list false ((nextU x S l x.orders.length).map Z1)):=by
 refine ACalls.frozen (S:=2) (n:=(nextU x S l x.orders.length).length) Zb ?_
 suffices hh:ACalls Tryz.prog 240 [.p (ZE x),.p (.int .i64 (S:Nat)),.p (.list c (l.map Z1))] [] fun y H'=> ∃m:List Vis,m=nextU x S l x.orders.length/\y= .sl 0 0 m.length m.length/\H'= [.elems 2 (m.map Z1)] by
  grind
 refine Xj [2] Tryz.func240 rfl ZbL ?_;simp (disch:=omega) only [Tryz.f240,go_sem,seval];refine Zq (Weak.ofNil 7 2 (by simp (disch:=omega) only [go_sem,seval]) Zb (Weak.refl _ _ _)) ?_;refine Zg [] _ _ _ _ (Zc ?_);refine Zk [1,2,3,13,14] (fun q:Nat×List Vis=> [(7,.sl 1 0 q.2.length q.2.length),(15,.p (.int .i64 q.1))]) (fun q=> [Zh x,.elems 2 (q.2.map Z1)]) (fun q=>q.1<=x.orders.length/\q.2=nextU x S l q.1) (fun q=>x.orders.length-q.1) (0,[]) ⟨Zb,by simp [nextU]⟩ (Weak.mk ?_) ?_
 ·simp (disch:=omega) only [Zh,go_sem,seval]
 ·rintro ⟨k,m⟩ ⟨hk,hm⟩;simp only at hk hm
  have hml:m.length<=2*k:=by grind [Dg]
  have hsc:=Fw x S l k;refine VI ?_;refine cD ?_ ?_<;>intro h<;>simp (disch:=omega) only [Sh.out h,go_sem,seval,↓reduceIte]
  ·have hk2:k<x.orders.length:=Za
   refine BJ ?_ ?_<;>intro h62
   ·omega
   refine BJ ?_ ?_<;>intro h2
   ·have hbit:S.testBit k=false:=by grind [IB]
    have e:J4 x S l k= []:=by simp [J4,hbit]
    exact ⟨(k+1,m),⟨Za,by grind⟩,Za,wk⟩
   ·have hbit:S.testBit k=true:=by
     grind [IB]
    refine ZI ?_ ?_<;>intro h3
    ·have e:J4 x S l k= []:=by simp [J4,h3]
     exact ⟨(k+1,m),⟨Za,by grind⟩,Za,wk⟩
    ·have h3':(nth x.orders k).off=false:=Za
     have e:J4 x S l k=(Xb x.orders k).filter (UV x l):=by grind [J4]
     refine (visits_c x.orders x.orders_c k hk2 Za).use (Zc ?_);have hvl:=U1 x.orders k;have hvo: ∀v∈Xb x.orders k,v.order=k:=fun v hv=>U2 hv;generalize hown:Xb x.orders k=own at hvl e hvo ⊢;refine Zk [1,2,3,13,14,15,36,37] (fun q:Nat×List Vis=> [(7,.sl 1 0 q.2.length q.2.length),(38,.p (.int .i64 q.1))]) (fun q=> [Zh x,.elems 2 (q.2.map Z1),Wi (nth x.orders k)]) (fun q=>q.1<=own.length/\q.2=m++(own.take q.1).filter (UV x l)) (fun q=>own.length-q.1) (0,m) ⟨Zb,Zb⟩ (Weak.mk ?_) ?_
     ·simp (disch:=omega) only [Zh,Wi,h3',go_sem,seval]
     ·rintro ⟨j,m2⟩ ⟨hj,hm2⟩;simp only at hj hm2
      have hm2l:m2.length<=2*k+2:=by
       grind
      simp (disch:=omega) only [Zh,Wi,h3',go_sem,seval];refine ZI ?_ ?_<;>intro h4
      ·have hj2:j<own.length:=Za
       have hvj:=hvo _ (Zo hj2)
       have htk:own.take (j+1)=own.take j++ [nth own j]:=by rw [Xl hj2,Zi hj2]
       have hrd:=PB x l c (nth own j) hl Za hbl Za hb;refine (hrd).use (Zc ?_);refine ZI ?_ ?_<;>intro h5
       ·exact ⟨(j+1,m2++ [nth own j]),⟨Za,by grind⟩,Za,Weak.mk (by simp (disch:=omega) only [h3',go_sem,seval])⟩
       ·exact ⟨(j+1,m2),⟨Za,by grind⟩,Za,Weak.mk (by simp (disch:=omega) only [h3',go_sem,seval])⟩
      ·have hjl:j=own.length:=Za
       subst hjl;exact ⟨(k+1,m2),⟨Za,by grind⟩,Za,wk⟩
  ·have hkn:k=x.orders.length:=Za
   subst hkn;exact ⟨m,hm,1,by simp (disch:=omega) only [go_sem,seval]⟩
def Zpw (nx:List Vis->List Vis):Nat->List Vis->List (List Vis)->List (List Vis)×Bool
 | 0,l,outs=>(outs++ [l],decide (outs.length+1<=8192))
 | f+1,l,outs=>(nx l).foldl (fun acc v=>if acc.2=true then Zpw nx f (l++ [v]) acc.1 else acc) (outs,true)
def GP (x:Inst) (S k:Nat):Nat:=((List.range k).map fun i=>if S.testBit i=true then (Xb x.orders i).length else 0).sum
theorem HY (x S k):GP x S (k+1)=GP x S k+if S.testBit k=true then (Xb x.orders k).length else 0:=by simp [GP,Yv]
theorem Lz (x S): ∀k,GP x S k<=2*k
 | 0=>by simp [GP]
 | k+1=>by
  have h1:=Lz x S k;have h2:=U1 x.orders k;rw [HY]
  split<;>omega
def nHas (S:Nat) (i:Int):Bool:=decide (0<=i/\i<=62)&&S.testBit i.toNat
theorem KM (S:Nat) (i:Int) (hS:S<9223372036854775808):PC 92 [.p (.int .i64 (S:Nat)),.p (.int .i64 i)] (.bool (nHas S i)):=by
 refine Zd Tryz.func92 rfl Zi7 ?_;simp (disch:=omega) only [Tryz.f92,go_sem,seval];refine gT ?_ ?_<;>intro h<;>simp (disch:=omega) only [Sh.out h,go_sem,seval,↓reduceIte]
 ·refine gT ?_ ?_<;>intro h1<;>simp (disch:=omega) only [Sh.out h1,go_sem,seval,↓reduceIte]
  ·refine gT ?_ ?_<;>intro h2<;>simp (disch:=omega) only [Sh.out h2,go_sem,seval,↓reduceIte]
   ·have e:((S / pw i.toNat:Nat):Int).tmod 2=((S / pw i.toNat%2:Nat):Int):=by rfl
    rw [e];have h3:(((S / pw i.toNat%2:Nat):Int)=1)=(S.testBit i.toNat=true):=IC
    simp_all [nHas]
   ·simp [nHas,h2]
  ·simp [nHas,h1]
 ·omega
theorem NJ (x:Inst) (i:Nat) (hi:i<x.orders.length) (hl:x.orders.length<=1048576) (hpl: ∀o∈x.orders,-1<=o.pick.place/\ -1<=o.drp.place):ACalls Tryz.prog 183 [.p (ZE x),.p (.int .i64 (i:Nat))] [] fun y H'=>y= .sl 0 0 (Xb x.orders i).length (Xb x.orders i).length/\H'= [.elems 2 ((Xb x.orders i).map Z1)]:=by
 suffices hh:ACalls Tryz.prog 183 [.p (ZE x),.p (.int .i64 (i:Nat))] [] fun y H'=> ∃m:List Vis,m=Xb x.orders i/\y= .sl 0 0 m.length m.length/\H'= [.elems 2 (m.map Z1)] by
  grind
 obtain ⟨h1,h2⟩:=hpl _ (Zo hi);refine Xj [2] Tryz.func183 rfl Zbf ?_;simp (disch:=omega) only [Tryz.f183,go_sem,seval];refine Zq (Weak.ofNil 5 2 (by simp (disch:=omega) only [go_sem,seval]) Zb (Weak.refl _ _ _)) ?_;refine ZD [1,2] (fun m:List Vis=> [(5,.sl 1 0 m.length m.length)]) (fun m=> [Zh x,.elems 2 (m.map Z1)]) (fun m=>m=(if 0<=(nth x.orders i).pick.place then [⟨i,false⟩] else [])) ?_ ?_
 ·refine Zc ?_;refine ZI ?_ ?_<;>intro h
  ·exact ⟨[⟨i,false⟩],by grind,Weak.mk (by simp (disch:=omega) only [Zh,go_sem,seval])⟩
  ·exact ⟨[],by grind,Weak.mk (by simp (disch:=omega) only [Zh,go_sem,seval])⟩
 ·intro m hm
  have hml:m.length<=1:=by grind
  refine Zg [] _ _ _ _ (VI ?_);refine cD ?_ ?_<;>intro h<;>simp (disch:=omega) only [Sh.out h,go_sem,seval,↓reduceIte]
  ·exact ⟨m++ [⟨i,true⟩],by rw [Xb,hm,if_pos (c:=0<=(nth x.orders i).drp.place) Za],1,by simp (disch:=omega) only [go_sem,seval]⟩
  ·exact ⟨m,by simp_all [Xb],1,by simp (disch:=omega) only [go_sem,seval]⟩
theorem aS (x:Inst) (i:Nat) (hi:i<x.orders.length) (hl:x.orders.length<=1048576) (hpl: ∀o∈x.orders,-1<=o.pick.place/\ -1<=o.drp.place):PC 183 [.p (ZE x),.p (.int .i64 (i:Nat))] (.list false ((Xb x.orders i).map Z1)) :=
 (NJ x i hi hl hpl).frozen Zb
theorem KN (l:List Vis) (c:Bool) (v:Vis) (hl:l.length<=1048576):PC 135 [.p (.list c (l.map Z1)),.p (Z1 v)] (.int .i64 (vIx l v)):=by
 refine Zd Tryz.func135 rfl ZaG ?_;simp (disch:=omega) only [Tryz.f135,go_sem,seval];refine Zk [0,3] (fun k:Nat=> [(5,.p (.int .i64 k))]) (fun _=> [Qm v]) (fun k=>k<=l.length/\ ∀j,j<k->decide (v=nth l j)=false) (fun k=>l.length-k) 0 Zb (Weak.mk ?_) ?_
 ·simp (disch:=omega) only [Qm,go_sem,seval,↓reduceIte]
 ·rintro k ⟨hk,hno⟩;simp (disch:=omega) only [Qm,go_sem,seval];refine cD ?_ ?_<;>intro h<;>simp (disch:=omega) only [Sh.out h,go_sem,seval,↓reduceIte]
  ·have hk2:k<l.length:=Za
   refine Xr (Zc ?_);refine cD ?_ ?_<;>intro h2<;>simp (disch:=omega) only [Sh.out h2,go_sem,seval,↓reduceIte]
   ·have:v=nth l k:=Eq.symm (by grind [DA])
    grind [vIx,IU]
   ·have: ¬v=nth l k:=fun e=>by grind
    exact ⟨k+1,⟨Za,Zm.2 ⟨hno,by grind⟩⟩,Za,wk⟩
  grind [vIx,OO]
theorem Nw (l s:List Vis) (c d:Bool) (hl:l.length<=1048576) (hs:s.length<=1048576):PC 184 [.p (.list c (l.map Z1)),.p (.list d (s.map Z1))] (.bool (UG l s)):=by
 refine Zd Tryz.func184 rfl Zbg ?_;simp (disch:=omega) only [Tryz.f184,go_sem,seval];refine Zk [0,1] (fun k:Nat=> [(5,.p (.int .i64 k))]) (fun _=> []) (fun k=>k<=s.length/\ ∀j,j<k->decide (0<=vIx l (nth s j))=true) (fun k=>s.length-k) 0 Zb (Weak.mk ?_) ?_
 ·simp (disch:=omega) only [go_sem,seval,↓reduceIte]
 ·rintro k ⟨hk,hno⟩;refine Zc ?_;refine cD ?_ ?_<;>intro h<;>simp (disch:=omega) only [Sh.out h,go_sem,seval,↓reduceIte]
  ·have hk2:k<s.length:=Za
   refine (KN l c (nth s k) hl).use (Zc ?_);refine cD ?_ ?_<;>intro h2<;>simp (disch:=omega) only [Sh.out h2,go_sem,seval,↓reduceIte]
   ·grind [UG,Zo]
   ·exact ⟨k+1,⟨Za,Zm.2 ⟨hno,by simp;omega⟩⟩,Za,wk⟩
  ·have hkl:k=s.length:=Za
   subst hkl
   have:UG l s=true:=by
    rw [UG,Zt];intro w hw;obtain ⟨j,hj,rfl⟩:=ZU.1 hw
    grind [Zi]
   rw [this]
theorem TU {S n:Nat} (h:S.testBit n=true):S|||pw n=S:=by
 apply Jv
 grind [Gc]
theorem kC {S n:Nat} (h:S.testBit n=false):S|||pw n=S+pw n:=by
 have e:S%2^(n+1)=S%2^n+2^n*(S / 2^n%2):=Nat.mod_pow_succ;rw [Da] at h
 have h0:S / 2^n%2=0:=by grind
 rw [h0,Nat.mul_zero,Wu] at e;have hp:0<2^n:=Nat.two_pow_pos n
 have hs:2^(n+1)=2^n+2^n:=Za
 have r1:S%2^(n+1)<2^n:=Za
 have e1:=Nat.two_pow_add_eq_or_of_lt (i:=n) r1 1;have e2:=Nat.two_pow_add_eq_or_of_lt (i:=n+1) (b:=2^n*1+S%2^(n+1)) Za (S / 2^(n+1));have e3:=Nat.two_pow_add_eq_or_of_lt (i:=n+1) (b:=S%2^(n+1)) Za (S / 2^(n+1));have e4:=Nat.div_add_mod S (2^(n+1));rw [pw]
 grind
theorem Ds (r:Rte) (hl:r.visits.length<=1048576):PT 55 [.p (Z0 r)] [.p (.int .i64 (ordR r.visits).1),.p (.int .i64 (ordR r.visits).2)]:=by
 refine Zf [] Tryz.func55 rfl ZiH ?_;simp (disch:=omega) only [Tryz.f55,go_sem,seval];refine Zk [1] (fun k:Nat=> [(4,.p (.int .i64 (ordS (r.visits.take k):Nat))),(5,.p (.int .i64 k))]) (fun _=> [ZA r]) (fun k=>k<=r.visits.length/\ ∀j,j<k->DI (nth r.visits j)=true) (fun k=>r.visits.length-k) 0 Zb (Weak.mk ?_) ?_
 ·simp (disch:=omega) only [ZA,ordS,Ya,VW,go_sem,seval]
 ·rintro k ⟨hk,hno⟩
  have hlt:=Qi k hk fun v hv=>by
   obtain ⟨j,hj,rfl⟩:=ZU.1 hv
   grind [Zi]
  refine Bu ?_;refine cD ?_ ?_<;>intro h<;>simp (disch:=omega) only [Sh.out h,go_sem,seval,↓reduceIte]
  ·have hk2:k<r.visits.length:=Za
   have hbad:DI (nth r.visits k)=false->ordR r.visits=(0,2):=fun h4=>by
    grind [Zo,ordR]
   have hs:=AE hk2
   have hp:(nth r.visits k).order<=62->pw (nth r.visits k).order.toNat<=4611686018427387904:=fun h=>by rw [<- Nu];exact DN Za
   refine gF ?_ ?_<;>intro h1<;>simp (disch:=omega) only [Sh.out h1,go_sem,seval,↓reduceIte]
   ·have e:=hbad (by simp [DI];omega);rw [e];exact we
   ·refine cD ?_ ?_<;>intro h2<;>simp (disch:=omega) only [Sh.out h2,go_sem,seval]
    ·have e:=hbad (by simp [DI];omega);rw [e];exact we
    ·have h4:=hp Za;refine (KM (ordS (r.visits.take k)) (nth r.visits k).order hlt).use (Zc ?_)
     have hin:0<=(nth r.visits k).order/\(nth r.visits k).order<=62:=Za
     have hnh:nHas (ordS (r.visits.take k)) (nth r.visits k).order=(ordS (r.visits.take k)).testBit (nth r.visits k).order.toNat:=by simp [nHas,hin]
     rw [hnh];have hno2:=(Zm (p:=fun j=>DI (nth r.visits j)=true)).2 ⟨hno,by simp [DI];omega⟩
     have hlt2:=Qi (k+1) hk2 fun v hv=>by
      obtain ⟨j,hj,rfl⟩:=ZU.1 hv
      grind [Zi]
     refine ZI ?_ ?_<;>intro h5
     ·have h6:(ordS (r.visits.take k)).testBit (nth r.visits k).order.toNat=false:=by grind
      rw [kC h6] at hs;rw [hs] at hlt2;exact ⟨k+1,⟨Za,hno2⟩,Za,Weak.mk (by simp (disch:=omega) only [hs,Int.natCast_add,go_sem,seval])⟩
     ·have h6:(ordS (r.visits.take k)).testBit (nth r.visits k).order.toNat=true:=by grind
      rw [TU h6] at hs;exact ⟨k+1,⟨Za,hno2⟩,Za,Weak.mk (by simp (disch:=omega) only [hs,go_sem,seval])⟩
  ·have hkl:k=r.visits.length:=Za
   subst hkl
   have:r.visits.all DI=true:=by
    rw [Zt];intro v hv;obtain ⟨j,hj,rfl⟩:=ZU.1 hv
    grind [Zi]
   have e:ordR r.visits=(((ordS r.visits:Nat):Int),0):=by simp [ordR,this]
   rw [e,Xi];exact we
def Plc (x:Inst):Prop:= ∀o∈x.orders,-1<=o.pick.place/\ -1<=o.drp.place
theorem tL {l:List Vis} {v w:Vis} (h:vIx l v=vIx l w) (h0:0<=vIx l v):v=w:=by
 unfold vIx Hf at h h0
 cases hv:l.findIdx? (fun u=>decide (v=u)) with
 | none=>grind
 | some i =>
  grind [Qx]
theorem JY (os:List Ord) (i:Nat):Xb os i= []\/Xb os i= [⟨i,false⟩]\/Xb os i= [⟨i,true⟩]\/Xb os i= [⟨i,false⟩,⟨i,true⟩]:=by
 grind [Xb]
theorem kO {l own:List Vis} (ho:own= []\/(∃v,own= [v])\/ ∃v w,own= [v,w]/\v≠w) :
  Qp l (-1) own=(UG l own&& !(decide (own.length=2)&&decide (vIx l (nth own 1)<vIx l (nth own 0)))):=by
 rcases ho with rfl | ⟨v,rfl⟩ | ⟨v,w,rfl,hne⟩
 ·rfl
 ·grind [Qp,UG]
 ·have hne2:0<=vIx l v->vIx l v≠vIx l w:=fun h0 h=>hne (tL h h0);have h1:= @mO l v;have h2:= @mO l w;rw [Yj];simp [Qp,UG,nth];omega
theorem mQ (os:List Ord) (i:Nat):Xb os i= []\/(∃v,Xb os i= [v])\/ ∃v w,Xb os i= [v,w]/\v≠w:=by
 grind [JY]
theorem Ij {α:Type} [Inhabited α] {l:List α} {f:α->Bool} {k:Nat} (hk:k<l.length) (h:f (nth l k)=false):l.all f=false:=by
 grind [Zo]
theorem PY {α:Type} [Inhabited α] {l:List α} {f:α->Bool} (h: ∀j,j<l.length->f (nth l j)=true):l.all f=true:=by
 rw [Zt];intro v hv;obtain ⟨j,hj,rfl⟩:=ZU.1 hv
 grind [Zi]
theorem aN (x:Inst) (l:List Vis) (c:Bool) (hl:l.length<=1048576) (ho:x.orders.length<=1048576) (hp:Plc x) (hv: ∀v∈l,0<=v.order/\v.order<x.orders.length) :
  PC 136 [.p (ZE x),.p (.list c (l.map Z1))] (.bool (l.all (pairB x.orders l))):=by
 refine Zd Tryz.func136 rfl ZaH ?_;simp (disch:=omega) only [Tryz.f136,go_sem,seval];refine Zk [1,2] (fun k:Nat=> [(5,.p (.int .i64 k))]) (fun _=> [Zh x]) (fun k=>k<=l.length/\ ∀j,j<k->pairB x.orders l (nth l j)=true) (fun k=>l.length-k) 0 Zb (Weak.mk ?_) ?_
 ·simp (disch:=omega) only [Zh,go_sem,seval]
 ·rintro k ⟨hk,hno⟩;refine VI ?_;refine cD ?_ ?_<;>intro h<;>simp (disch:=omega) only [Sh.out h,go_sem,seval,↓reduceIte]
  ·have hk2:k<l.length:=Za
   obtain ⟨v1,v2⟩:=hv _ (Zo hk2);obtain ⟨i,hi⟩: ∃i:Nat,(nth l k).order=(i:Int):=⟨(nth l k).order.toNat,Za⟩;rw [hi] at v1 v2
   have hpb:pairB x.orders l (nth l k)=(decide (0<=vIx (Xb x.orders i) (nth l k))&&Qp l (-1) (Xb x.orders i)):=by rw [pairB,hi];rfl
   have hown:=mQ x.orders i;rw [kO hown] at hpb;refine Xr ?_;simp (disch:=omega) only [hi,go_sem,seval];refine Zr (aS x i Za ho hp) (Zc ?_);have hvl:=U1 x.orders i;generalize Xb x.orders i=own at hvl hpb;have hix:=KN own false (nth l k) Za;rw [Rn,hi] at hix;refine Xr ?_;simp (disch:=omega) only [hi,go_sem,seval];refine Zr (hix) (Zc ?_);refine gF ?_ ?_<;>intro h2<;>simp (disch:=omega) only [Sh.out h2,go_sem,seval]
   ·grind [Ij]
   ·have h3:0<=vIx own (nth l k):=Za
    have hgo:pairB x.orders l (nth l k)=true-> ∀j,j<k+1->pairB x.orders l (nth l j)=true:=fun e=>Zm.2 ⟨hno,e⟩;refine Zr (Nw l own c false hl Za) (Zc ?_);refine gF ?_ ?_<;>intro h4<;>simp (disch:=omega) only [Sh.out h4,go_sem,seval]
    ·grind [Ij]
    ·have h5:UG l own=true:=by grind
     rw [h5] at hpb;refine Bb ?_ ?_<;>intro h6
     ·have h7:own.length=2:=Za
      refine Zr (KN l c (nth own 0) hl) (Zc ?_);refine Zr (KN l c (nth own 1) hl) (Zc ?_);refine ZI ?_ ?_<;>intro h8
      ·grind [Ij]
      ·exact ⟨k+1,⟨Za,hgo (by grind)⟩,Za,wk⟩
     ·exact ⟨k+1,⟨Za,hgo (by grind)⟩,Za,wk⟩
  grind [PY]
def apB (x:Inst) (S:Nat):Bool:=x.apart.any fun p=>nHas S p.1&&nHas S p.2
theorem lG (x:Inst) (S:Nat) (hS:S<9223372036854775808) (ha:x.apart.length<=1048576):PC 137 [.p (ZE x),.p (.int .i64 (S:Nat))] (.bool (!apB x S)):=by
 refine Zd Tryz.func137 rfl ZaI ?_;simp (disch:=omega) only [Tryz.f137,go_sem,seval];refine Zk [1,2] (fun k:Nat=> [(5,.p (.int .i64 k))]) (fun _=> [Zh x]) (fun k=>k<=x.apart.length/\ ∀j,j<k->(nHas S (nth x.apart j).1&&nHas S (nth x.apart j).2)=false) (fun k=>x.apart.length-k) 0 Zb (Weak.mk ?_) ?_
 ·simp (disch:=omega) only [Zh,go_sem,seval]
 ·rintro k ⟨hk,hno⟩;refine VI ?_;refine cD ?_ ?_<;>intro h<;>simp (disch:=omega) only [Sh.out h,go_sem,seval,↓reduceIte]
  ·have hk2:k<x.apart.length:=Za
   refine (KM S (nth x.apart k).1 hS).use (Zc ?_);refine Bb ?_ ?_<;>intro h2
   ·refine (KM S (nth x.apart k).2 hS).use (Zc ?_);refine ZI ?_ ?_<;>intro h3
    ·grind [apB,K6]
    ·exact ⟨k+1,⟨Za,Zm.2 ⟨hno,by grind⟩⟩,Za,wk⟩
   ·exact ⟨k+1,⟨Za,Zm.2 ⟨hno,by rw [h2];rfl⟩⟩,Za,wk⟩
  grind [apB,EM]
def J2 (l:List Vis) (a b:Int) (j k:Nat):Bool:=decide ((nth l j).order=a)&&decide ((nth l k).order=b)
def Qk (S:Nat) (l:List Vis) (p:Int×Int):Bool:= !nHas S p.2||(nHas S p.1&&(List.range l.length).all fun j=>(List.range j).all fun k=> !J2 l p.1 p.2 j k)
theorem T9 (x:Inst) (S:Nat) (l:List Vis) (c:Bool) (hS:S<9223372036854775808) (hl:l.length<=1048576) (hb:x.before.length<=1048576):PC 138 [.p (ZE x),.p (.int .i64 (S:Nat)),.p (.list c (l.map Z1))] (.bool (x.before.all (Qk S l))):=by
 refine Zd Tryz.func138 rfl ZaJ ?_;simp (disch:=omega) only [Tryz.f138,go_sem,seval];refine Zk [1,2,3] (fun k:Nat=> [(7,.p (.int .i64 k))]) (fun _=> [Zh x]) (fun k=>k<=x.before.length/\ ∀j,j<k->Qk S l (nth x.before j)=true) (fun k=>x.before.length-k) 0 Zb (Weak.mk ?_) ?_
 ·simp (disch:=omega) only [Zh,go_sem,seval]
 ·rintro i ⟨hi,hno⟩;refine VI ?_;refine cD ?_ ?_<;>intro h<;>simp (disch:=omega) only [Sh.out h,go_sem,seval,↓reduceIte]
  ·have hi2:i<x.before.length:=Za
   have hgo:Qk S l (nth x.before i)=true-> ∀j,j<i+1->Qk S l (nth x.before j)=true:=fun e=>Zm.2 ⟨hno,e⟩;have hbad:Qk S l (nth x.before i)=false->x.before.all (Qk S l)=false:=fun e=>Ij hi2 e;have hdef:Qk S l (nth x.before i)=(!nHas S (nth x.before i).2||(nHas S (nth x.before i).1&&(List.range l.length).all fun j=>(List.range j).all fun k=> !J2 l (nth x.before i).1 (nth x.before i).2 j k)):=rfl;generalize Qk S l (nth x.before i)=R at hgo hbad hdef;generalize nth x.before i=p at hdef ⊢;refine (KM S p.2 hS).use (Zc ?_)
   refine ZI ?_ ?_<;>intro h2
   ·have h3:nHas S p.2=false:=by grind
    exact ⟨i+1,⟨Za,hgo (by grind)⟩,Za,wk⟩
   ·have h3:nHas S p.2=true:=by grind
    refine (KM S p.1 hS).use (Zc ?_);refine cD ?_ ?_<;>intro h4<;>simp (disch:=omega) only [Sh.out h4,go_sem,seval]
    ·grind
    ·have h5:nHas S p.1=true:=by grind
     rw [h3,h5] at hdef;simp only [VX,JC,Wt] at hdef;refine Zk [1,2,3,7,8,9] (fun k:Nat=> [(10,.p (.int .i64 k))]) (fun _=> [Zh x]) (fun k=>k<=l.length/\ ∀j,j<k-> ∀q,q<j->J2 l p.1 p.2 j q=false) (fun k=>l.length-k) 0 Zb (Weak.mk ?_) ?_
     ·simp (disch:=omega) only [Zh,go_sem,seval]
     ·rintro j ⟨hj,hnj⟩;refine VI ?_;refine ZI ?_ ?_<;>intro h6
      ·have hj2:j<l.length:=Za
       refine Zk [1,2,3,7,8,9,10] (fun k:Nat=> [(11,.p (.int .i64 k))]) (fun _=> [Zh x]) (fun k=>k<=j/\ ∀q,q<k->J2 l p.1 p.2 j q=false) (fun k=>j-k) 0 Zb (Weak.mk ?_) ?_
       ·simp (disch:=omega) only [Zh,go_sem,seval]
       ·rintro k ⟨hk,hnk⟩;refine VI ?_;refine ZI ?_ ?_<;>intro h7
        ·have hk2:k<j:=Za
         refine Bb ?_ ?_<;>intro h8
         ·refine ZI ?_ ?_<;>intro h9
          ·rw [hbad (by
            rw [hdef,List.all_eq_false];refine ⟨j,by grind,?_⟩;rw [Jy,List.all_eq_false]
            exact ⟨k,by grind,by simp [J2,h8,h9]⟩)]
          ·exact ⟨k+1,⟨Za,Zm.2 ⟨hnk,by simp [J2,h9]⟩⟩,Za,wk⟩
         ·exact ⟨k+1,⟨Za,Zm.2 ⟨hnk,by simp [J2,h8]⟩⟩,Za,wk⟩
        ·have hkl:k=j:=Za
         subst hkl;exact ⟨k+1,⟨Za,(Zm (p:=fun j=> ∀q,q<j->J2 l p.1 p.2 j q=false)).2 ⟨hnj,hnk⟩⟩,Za,wk⟩
      ·have hjl:j=l.length:=Za
       subst hjl;refine ⟨i+1,⟨Za,hgo ?_⟩,Za,wk⟩
       grind
  grind [PY]
theorem jF {S:Nat} {i:Int} :nHas S i=true↔0<=i/\i<=62/\S.testBit i.toNat=true:=by simp [nHas,and_assoc]
theorem M9 {S:Nat} {a:Int} :a∈X1 (S:Int) 63↔ ∃i:Nat,a=(i:Int)/\i<63/\S.testBit i=true:=by
 simp only [X1,Xv,JB,ZP]
 constructor
 ·rintro ⟨i,⟨h1,h2⟩,rfl⟩;rw [UX S i Za] at h2
  grind
 ·rintro ⟨i,rfl,h1,h2⟩;exact ⟨i,⟨h1,by grind [UX]⟩,rfl⟩
structure Alw (x:Inst) (S:Nat):Prop where
 off: ∀i,i<x.orders.length->S.testBit i=true->(nth x.orders i).off=false
 apart:apB x S=false
 closed: ∀p∈x.before,nHas S p.2=true->nHas S p.1=true
 acyc: ∀i,i<x.orders.length->S.testBit i=true-> ¬Ch x.before i i
theorem Ah {c:Prop} [Decidable c] {a b:Int} (ha:a≠0):(if c then a else b)=0↔ ¬c/\b=0:=by
 grind
theorem WI {l:List Vis} {v:Vis} :0<=vIx l v↔v∈l:=by
 grind [ON,vIx]
theorem ZdN {l:List Vis} {v:Vis} :vIx l v<0↔v ∉ l:=by rw [<- WI];omega
theorem SD {l own:List Vis} :UG l own=true↔ ∀w∈own,w∈l:=by
 grind [UG,WI]
theorem dM {os:List Ord} {l:List Vis} {o:Int} {p:Int×Int} :ER os l o p=true↔(p.2=o-> ∀w∈Xb os p.1.toNat,w∈l):=by
 rw [ER,Wc,SD,Zp]
 grind
theorem dN {x:Inst} {l:List Vis} {o:Int} :x.before.all (ER x.orders l o)=true↔ ∀p∈x.before,p.2=o-> ∀w∈Xb x.orders p.1.toNat,w∈l:=by
 simp_all [dM]
def Vne (x:Inst):Prop:= ∀i,i<x.orders.length->Xb x.orders i≠ []
inductive Gr (x:Inst) (S:Nat):List Vis->Prop where
 | nil:Gr x S []
 | snoc {l:List Vis} {v:Vis} (h:Gr x S l) (hv:v∈nextU x S l x.orders.length):Gr x S (l++ [v])
theorem PH (os:List Ord) (i:Nat):(Xb os i).Nodup:=by
 grind [JY]
theorem kZ {os:List Ord} {i:Nat} {l:List Vis} {v:Vis} (hv:v∈Xb os i):Cy l v (Xb os i)=true↔(v.drp=true->⟨i,false⟩∈Xb os i->⟨i,false⟩∈l):=by
 rcases JY os i with h | h | h | h<;>rw [h] at hv ⊢ <;>simp at hv
 ·grind [Cy]
 ·grind [Cy]
 ·rcases hv with rfl | rfl
  ·simp [Cy]
  ·simp [Cy,WI]
theorem JR {x:Inst} {l:List Vis} {v:Vis} {i:Nat} (hv:v∈Xb x.orders i):UV x l v=true↔v ∉ l/\(v.drp=true->⟨i,false⟩∈Xb x.orders i->⟨i,false⟩∈l)/\ ∀p∈x.before,p.2=(i:Int)-> ∀w∈Xb x.orders p.1.toNat,w∈l:=by
 have h:=U2 hv;rw [UV,h,XO,Zy,Zy,Zp,ZdN,kZ hv,dN,and_assoc]
theorem Kx {x:Inst} {S:Nat} {l:List Vis} {v:Vis} {k:Nat} :v∈nextU x S l k↔ ∃i,i<k/\S.testBit i=true/\(nth x.orders i).off=false/\v∈Xb x.orders i/\UV x l v=true:=by
 rw [nextU,Ws]
 constructor
 ·grind [J4]
 ·rintro ⟨i,hi,h1,h2,h3,h4⟩;exact ⟨i,by grind,by simp_all [J4]⟩
def BB (x:Inst) (S k:Nat):List Vis:=(List.range k).flatMap fun i=>if S.testBit i=true then Xb x.orders i else []
theorem GX (x S k):BB x S (k+1)=BB x S k++if S.testBit k=true then Xb x.orders k else []:=by simp [BB,Yv]
theorem Kh (x S): ∀k,(BB x S k).length=GP x S k
 | 0=>by rfl
 | k+1=>by
  rw [GX,HY,ZG,Kh x S k]
  split<;>simp
theorem Kw {x S k v} :v∈BB x S k↔ ∃i,i<k/\S.testBit i=true/\v∈Xb x.orders i:=by
 simp_all [BB]
theorem EK (x S): ∀k,(BB x S k).Nodup
 | 0=>by simp [BB]
 | k+1=>by
  rw [GX,List.nodup_append];refine ⟨EK x S k,?_,fun a ha b hb=> ?_⟩
  ·grind [PH]
  ·obtain ⟨i,hi,_,h2⟩:=Kw.1 ha
   split at hb
   ·have h3:=U2 h2;have h4:=U2 hb
    grind
   ·simp at hb
theorem Gr.nodup {x S l} (h:Gr x S l):l.Nodup:=by
 induction h with
 | nil=>simp
 | snoc _ hv ih =>
  obtain ⟨i,_,_,_,h4,h5⟩:=Kx.1 hv;rw [List.nodup_append];refine ⟨ih,Zb,fun a ha b hb=> ?_⟩;simp at hb;subst hb;exact fun e=>((JR h4).1 h5).1 (e ▸ ha)
theorem Gr.sub {x S l} (h:Gr x S l): ∀v∈l,v∈BB x S x.orders.length:=by
 induction h with
 | nil=>simp
 | snoc _ hv ih =>
  obtain ⟨i,h1,h2,_,h4,_⟩:=Kx.1 hv;intro w hw;rcases Xo.1 hw with hw | hw
  ·exact ih w hw
  ·simp at hw;subst hw;exact Kw.2 ⟨i,h1,h2,h4⟩
theorem Lv {α:Type} [DecidableEq α] {l m:List α} (hl:l.Nodup) (h: ∀v∈l,v∈m):l.length<=m.length:=List.Nodup.length_le_of_subset hl h
theorem ZdD {α:Type} [DecidableEq α] {l m:List α} (hl:l.Nodup) (h: ∀v∈l,v∈m) (hm:m.length<=l.length): ∀v∈m,v∈l:=fun v hv=>by
 refine Eb fun hno=> ?_
 have:(v::l).length<=m.length:=Lv (by grind) (fun w hw=>by
  grind)
 grind
theorem Gr.len {x S l} (h:Gr x S l):l.length<=GP x S x.orders.length:=by
 rw [<- Kh];exact Lv h.nodup h.sub
theorem Gr.full {x S l} (h:Gr x S l) (hl:l.length=GP x S x.orders.length): ∀v∈BB x S x.orders.length,v∈l:=ZdD h.nodup h.sub (by rw [Kh];omega)
def ext (nx:List Vis->List Vis):Nat->List Vis->List (List Vis)->List (List Vis)
 | 0,l,outs=>if 8192<outs.length then outs else outs++ [l]
 | f+1,l,outs=>if 8192<outs.length then outs else (nx l).foldl (fun acc v=>ext nx f (l++ [v]) acc) outs
theorem SY {S n:Nat} (hS:S<9223372036854775808) (h: ∀j,j<63->S.testBit j=true->j<n):S / pw n=0:=by
 refine Cg ?_;refine Ec S fun i hi=> ?_;rcases WS i 63 with h2 | h2
 ·grind
 ·exact Aj (Ku hS (Y1 Za h2:2^63<=2^i))
def Nv (x:Inst) (l:List Vis):Int :=
 if l.any (V9 x)=true then 2
 else if l.length=0 then 2
 else if (l.any fun v=>(nth x.orders v.order.toNat).off)=true then 9
 else if ((List.range l.length).any fun i=>decide (vIx l (nth l i)≠(i:Int)))=true then 6
 else if l.all (pairB x.orders l)=false then 19
 else if apB x (ordS l)=true then 20
 else if x.before.all (Qk (ordS l) l)=false then 21
 else 0
theorem Pp (x:Inst) (r:Rte) (ho:x.orders.length<=60) (hl:r.visits.length<=1048576) (hap:x.apart.length<=1048576) (hbe:x.before.length<=1048576) (hp:Plc x) :
  PC 86 [.p (ZE x),.p (Z0 r)] (.int .i64 (Nv x r.visits)):=by
 refine Zd Tryz.func86 rfl Zi3 ?_;simp (disch:=omega) only [Tryz.f86,go_sem,seval];refine Zk [2,3,5] (fun k:Nat=> [(6,.p (.int .i64 k))]) (fun _=> [Zh x,ZA r]) (fun k=>k<=r.visits.length/\ ∀j,j<k->V9 x (nth r.visits j)=false) (fun k=>r.visits.length-k) 0 Zb (Weak.mk ?_) ?_
 ·simp (disch:=omega) only [Zh,ZA,go_sem,seval]
 ·rintro k ⟨hk,hno⟩;refine J8 ?_;refine cD ?_ ?_<;>intro h<;>simp (disch:=omega) only [Sh.out h,go_sem,seval,↓reduceIte]
  ·have hk2:k<r.visits.length:=Za
   refine Xr (Zc ?_);refine gF ?_ ?_<;>intro h2<;>simp (disch:=omega) only [Sh.out h2,go_sem,seval,↓reduceIte]
   ·have:V9 x (nth r.visits k)=true:=by simp [V9];omega
    rw [Nv,if_pos (K6 hk2 this)]
   ·refine ZI ?_ ?_<;>intro h3
    ·have:V9 x (nth r.visits k)=true:=by simp [V9];omega
     rw [Nv,if_pos (K6 hk2 this)]
    ·exact ⟨k+1,⟨Za,Zm.2 ⟨hno,by simp [V9];omega⟩⟩,Za,wk⟩
  ·have hkl:k=r.visits.length:=Za
   subst hkl
   have hr1:Nv x r.visits=if r.visits.length=0 then 2 else if (r.visits.any fun v=>(nth x.orders v.order.toNat).off)=true then 9 else if ((List.range r.visits.length).any fun i=>decide (vIx r.visits (nth r.visits i)≠(i:Int)))=true then 6 else if r.visits.all (pairB x.orders r.visits)=false then 19 else if apB x (ordS r.visits)=true then 20 else if x.before.all (Qk (ordS r.visits) r.visits)=false then 21 else 0:=by
    rw [Nv,if_neg (by rw [EM hno];simp)]
   have hin: ∀j,j<r.visits.length->0<=(nth r.visits j).order/\(nth r.visits j).order<x.orders.length:=fun j hj=>by
    grind [V9]
   have hmem: ∀v∈r.visits,0<=v.order/\v.order<x.orders.length:=fun v hv=>by
    obtain ⟨j,hj,rfl⟩:=ZU.1 hv
    grind [Zi]
   have hord:ordR r.visits=(((ordS r.visits:Nat):Int),0):=by
    rw [ordR,if_pos]
    grind [DI]
   have hlt:ordS r.visits<9223372036854775808:=by
    have:=Qi r.visits.length (l:=r.visits) (Zv _) (fun v hv=>by
     grind [DI])
    grind
   have hoc:=Ds r hl;rw [hord] at hoc;refine W1 hoc (Zc ?_);refine cD ?_ ?_<;>intro h3<;>simp (disch:=omega) only [Sh.out h3,go_sem,seval]
   ·grind
   ·rw [hr1,if_neg Za];clear hno hr1 h3 h hk;refine Zk [2,5,7] (fun k:Nat=> [(9,.p (.int .i64 k))]) (fun _=> [Zh x,ZA r]) (fun k=>k<=r.visits.length/\ ∀j,j<k->(nth x.orders (nth r.visits j).order.toNat).off=false) (fun k=>r.visits.length-k) 0 Zb (Weak.mk ?_) ?_
    ·simp (disch:=omega) only [Zh,ZA,go_sem,seval]
    ·rintro k ⟨hk,hno⟩;refine J8 ?_;refine cD ?_ ?_<;>intro h<;>simp (disch:=omega) only [Sh.out h,go_sem,seval,↓reduceIte]
     ·have hk2:k<r.visits.length:=Za
      obtain ⟨i1,i2⟩:=hin k hk2
      have i3:(nth r.visits k).order.toNat<x.orders.length:=Za
      refine Xr (Zc ?_);refine ZI ?_ ?_<;>intro h4
      ·rw [if_pos (K6 hk2 h4)]
      ·exact ⟨k+1,⟨Za,Zm.2 ⟨hno,h4⟩⟩,Za,wk⟩
     ·have hkl:k=r.visits.length:=Za
      subst hkl;have e9:(r.visits.any fun v=>(nth x.orders v.order.toNat).off)=false:=EM hno;rw [e9,if_neg Zb];clear hno h hk;refine Zk [2,5,7] (fun k:Nat=> [(10,.p (.int .i64 k))]) (fun _=> [Zh x,ZA r]) (fun k=>k<=r.visits.length/\ ∀j,j<k->vIx r.visits (nth r.visits j)=(j:Int)) (fun k=>r.visits.length-k) 0 Zb (Weak.mk ?_) ?_
      ·simp (disch:=omega) only [Zh,ZA,go_sem,seval]
      ·rintro k ⟨hk,hno⟩;refine J8 ?_;refine cD ?_ ?_<;>intro h<;>simp (disch:=omega) only [Sh.out h,go_sem,seval,↓reduceIte]
       ·have hk2:k<r.visits.length:=Za
        refine (KN r.visits r.visits_c (nth r.visits k) hl).use (Zc ?_);refine ZI ?_ ?_<;>intro h4
        ·have:((List.range r.visits.length).any fun i=>decide (vIx r.visits (nth r.visits i)≠(i:Int)))=true:=by
          grind
         grind
        ·exact ⟨k+1,⟨Za,Zm.2 ⟨hno,Za⟩⟩,Za,wk⟩
       ·have hkl:k=r.visits.length:=Za
        subst hkl
        have:((List.range r.visits.length).any fun i=>decide (vIx r.visits (nth r.visits i)≠(i:Int)))=false:=by
         grind
        rw [this,if_neg Zb];refine (aN x r.visits r.visits_c hl Za hp hmem).use (Zc ?_);refine cD ?_ ?_<;>intro h4<;>simp (disch:=omega) only [Sh.out h4,go_sem,seval,↓reduceIte]
        ·grind
        ·rw [if_neg (by grind)];refine (lG x (ordS r.visits) hlt hap).use (Zc ?_);refine cD ?_ ?_<;>intro h5<;>simp (disch:=omega) only [Sh.out h5,go_sem,seval,↓reduceIte]
         ·grind
         ·rw [if_neg (by grind)];refine (T9 x (ordS r.visits) r.visits r.visits_c hlt hl hbe).use (Zc ?_);refine cD ?_ ?_<;>intro h6<;>simp (disch:=omega) only [Sh.out h6,go_sem,seval]
          ·grind
          grind
structure IFacts (x:Inst):Prop where
 len:x.orders.length<=10
 plc:Plc x
 vne:Vne x
 val:Val x.orders.length x.before
 ne: ∀p∈x.before,p.1≠p.2
 aval:Val x.orders.length x.apart
theorem gC {n:Int} {word:List UInt8} {sm:Int×Int->Int×Int->Bool} {l:List (Int×Int)} (h:J9 n word sm l l.length= []): ∀p∈l,rJ n p=true:=by
 intro p hp;obtain ⟨i,hi,rfl⟩:=ZU.1 hp;have h2:=(Qy.1 h).2;rw [List.flatMap_eq_nil_iff] at h2;have h3:=h2 i (by grind)
 grind [bU,Zi]
theorem YO {x:Inst} (h:InstOk x):IFacts x:=by
 have ho:=h.orders;obtain ⟨h1,h2⟩:=Qy.1 h.rules;have ha:=gC h1;have hb:=gC h2
 have hpl:Plc x:=fun o hm=>by
  obtain ⟨i,hi,rfl⟩:=ZU.1 hm;have:=ho.2 i hi;rw [<- Zi hi];exact ⟨this.pick.1,this.drp.1⟩
 have val: ∀l:List (Int×Int),(∀p∈l,rJ x.orders.length p=true)->Val x.orders.length l:=fun l h p hp=>by
  grind [rJ]
 refine ⟨ho.1,hpl,fun i hi=> ?_,val _ hb,fun p hp=> ?_,val _ ha⟩
 ·have h3:=ho.2 i hi;have h4:=hpl _ (Zo hi);have h5:=h3.one
  grind [Xb]
 grind [rJ]
theorem Z6 {l:List Vis} {o:Int} :hasO l o=true↔ ∃v∈l,v.order=o:=by simp [hasO]
theorem YS : ∀(l:List Vis) (i:Nat),(ordS l).testBit i=true↔ ∃v∈l,v.order.toNat=i:=by
 have key: ∀(l:List Vis) (s i:Nat),(l.foldl (fun s v=>s|||pw v.order.toNat) s).testBit i=true↔s.testBit i=true\/ ∃v∈l,v.order.toNat=i:=by
  intro l
  induction l with
  | nil=>simp
  | cons v l ih =>
   intro s i;rw [Vb,ih,Ar,Gc,Wc,Zp,or_assoc];simp
 grind [ordS]
def Inr (x:Inst) (l:List Vis):Prop:= ∀v∈l,0<=v.order/\v.order<x.orders.length
theorem QX {x:Inst} {l:List Vis} (hi:Inr x l) (hn:x.orders.length<=60) (o:Int) (h:0<=o/\o<=62):nHas (ordS l) o=hasO l o:=by
 rw [Yj,jF,YS,Z6]
 constructor
 ·rintro ⟨h1,h2,v,hv,h3⟩;have:=hi v hv
  grind
 grind
theorem KZ {l:List Vis} (hd:l.Nodup) {k:Nat} (hk:k<l.length):vIx l (nth l k)=(k:Int):=by
 refine IU hk Zb fun j hj=> ?_
 grind [Zi,Ui]
theorem LC {l:List Vis} {v:Vis} (h:0<=vIx l v):(vIx l v).toNat<l.length/\nth l (vIx l v).toNat=v:=by
 grind [vIx,Hf,Qx,Zi]
theorem Zpr {l:List Vis} {k:Nat} (hk:k<l.length):0<=vIx l (nth l k)/\vIx l (nth l k)<=(k:Int):=by
 grind [vIx,nth,Zo,Hf,Qx]
theorem KW {l:List Vis} {v:Vis} {i:Nat} (h:v∈l.take i): ∃j,j<i/\j<l.length/\nth l j=v:=by
 obtain ⟨j,hj,rfl⟩:=ZU.1 h;simp at hj;exact ⟨j,Za,Za,by grind [Zi]⟩
theorem Ky {l:List Vis} {i j:Nat} (h:j<i) (hl:j<l.length):nth l j∈l.take i:=by
 grind [Zi,ZU]
theorem Bw {l:List Vis} :KY l=false↔l.Nodup:=by
 rw [KY,XY]
 constructor
 ·intro h;rw [List.nodup_iff_pairwise_ne,Ui];intro i j hi hj hij e;have:=h j (by grind);simp only [Zp,WI] at this;refine this ?_;rw [Zi hj,<- e,<- Zi hi];exact Ky hij hi
 ·intro h j hj;simp only [Zp,WI]
  grind [KW,KZ]
theorem bE {l:List Vis} :((List.range l.length).any fun i=>decide (vIx l (nth l i)≠(i:Int)))=KY l:=by
 rw [Yj]
 constructor
 ·grind [KZ,Bw]
 ·intro h;rw [KY,YR] at h;obtain ⟨j,hj,h2⟩:=h;simp only [Zp,WI] at h2;obtain ⟨i,h3,h4,h5⟩:=KW h2
  grind
def Bi (l:List Vis) (b:Int):Int:=Hf (fun v=>decide (v.order=b)) l
theorem AC {l:List Vis} {b:Int} :0<=Bi l b↔ ∃v∈l,v.order=b:=by
 grind [ON,Bi]
theorem Eo {l:List Vis} {b:Int} (h:0<=Bi l b):(Bi l b).toNat<l.length/\(nth l (Bi l b).toNat).order=b/\ ∀j,j<(Bi l b).toNat->(nth l j).order≠b:=by
 unfold Bi Hf at h ⊢
 grind [Qx,Zi]
theorem jO {l:List Vis} {b:Int} {k:Nat} (hk:k<l.length) (h:(nth l k).order=b):0<=Bi l b/\Bi l b<=(k:Int):=by
 have h0:0<=Bi l b:=AC.2 ⟨_,Zo hk,h⟩;refine ⟨h0,?_⟩;obtain ⟨h1,h2,h3⟩:=Eo h0
 grind
theorem U8 {l:List Vis} {a b:Int} :beforeB l a b=true↔(0<=Bi l b->(∃v∈l,v.order=a)/\ ∀j,j<l.length->(nth l j).order=a->(j:Int)<Bi l b):=by
 unfold beforeB;rw [show Hf (fun v=>decide (v.order=b)) l=Bi l b from rfl]
 by_cases h:Bi l b<0
 ·grind
 ·rw [if_neg h,Zy,Z6]
  have h0:0<=Bi l b:=Za
  obtain ⟨h1,h2,h3⟩:=Eo h0
  have hd:(!hasO (l.drop (Bi l b).toNat) a)=true↔ ∀j,j<l.length->(nth l j).order=a->(j:Int)<Bi l b:=by
   rw [XU,<- Jy,Z6]
   constructor
   ·intro hno j hj e;rcases Int.lt_or_le (j:Int) (Bi l b) with h4 | h4
    ·exact h4
    ·refine absurd ⟨nth l j,?_,e⟩ hno;rw [Zi hj];exact ZU.2 ⟨j-(Bi l b).toNat,by simp;omega,by grind⟩
   ·rintro X8 ⟨v,hv,e⟩;obtain ⟨j,hj,rfl⟩:=ZU.1 hv
    grind [Zi]
  grind
theorem Oy {x:Inst} {l:List Vis} (hi:Inr x l) (hn:x.orders.length<=60) {p:Int×Int} (h1:0<=p.1/\p.1<x.orders.length) (h2:0<=p.2/\p.2<x.orders.length) (hne:p.1≠p.2):Qk (ordS l) l p=beforeB l p.1 p.2:=by
 rw [Yj,U8,Qk,QX hi hn _ Za,QX hi hn _ Za];simp only [Wc,XU,Zy];rw [<- Jy,Z6,Z6,<- AC,<- AC (b:=p.1)]
 constructor
 ·rintro (h | ⟨h3,h4⟩) h0
  ·omega
  ·refine ⟨h3,fun j hj e=> ?_⟩;rw [Zt] at h4;have h5:=h4 j (by grind);rw [Zt] at h5;obtain ⟨g1,g2,g3⟩:=Eo h0;rcases Int.lt_or_le (j:Int) (Bi l p.2) with h6 | h6
   ·exact h6
   ·have hne2:j≠(Bi l p.2).toNat:=fun e2=>hne (by grind);have:=h5 (Bi l p.2).toNat (by simp;omega)
    grind [J2]
 ·intro h
  by_cases h0:0<=Bi l p.2
  ·obtain ⟨h3,h4⟩:=h h0;refine .inr ⟨h3,?_⟩;rw [Zt];intro j hj;rw [Zt];intro k hk;simp at hj hk
   cases hb:J2 l p.1 p.2 j k with
   | false=>rfl
   | true =>
    simp [J2] at hb;have h5:=h4 j hj hb.1;have h6:=(jO Za hb.2).2;omega
  omega
theorem sM {x:Inst} (hf:IFacts x) (l:List Vis):Nv x l=Xw x l:=by
 by_cases ho:l.any (V9 x)=true
 ·simp_all [Nv,Xw]
 ·have ho':l.any (V9 x)=false:=by grind
  have hi:Inr x l:=fun v hv=>by
   grind [V9]
  have hn:x.orders.length<=60:=by have:=hf.len;omega
  rw [Nv,if_neg ho,Xw]
  by_cases h0:l.length=0
  ·omega
  ·have hc: ¬(l.length=0\/l.any (V9 x)=true):=fun h=>h.elim h0 ho;rw [if_neg h0,if_neg hc,bE]
   have e1:apB x (ordS l)=x.apart.any fun p=>hasO l p.1&&hasO l p.2:=by
    rw [apB,Yj,YR,YR]
    have: ∀p∈x.apart,(nHas (ordS l) p.1&&nHas (ordS l) p.2)=(hasO l p.1&&hasO l p.2):=fun p hp=>by
     have:=hf.aval p hp
     grind [QX]
    grind
   have e2:(x.before.all (Qk (ordS l) l)=false)=((x.before.any fun p=> !beforeB l p.1 p.2)=true):=by
    have: ∀p∈x.before,Qk (ordS l) l p=beforeB l p.1 p.2:=fun p hp=>by
     have:=hf.val p hp;exact Oy hi hn Za Za (hf.ne p hp)
    grind
   grind
def GF (x:Inst) (l:List Vis) (n i:Nat):Bool:=(l.take n).foldl (fun on v=>if v.order=(i:Int) then !v.drp else on) (decide ((nth x.orders i).pick.place<0))
theorem jS {x:Inst} {l:List Vis} {i:Nat} :GF x l 0 i=decide ((nth x.orders i).pick.place<0):=by simp [GF]
theorem FC {x:Inst} {l:List Vis} {n i:Nat} (h:n<l.length):GF x l (n+1) i=if (nth l n).order=(i:Int) then !(nth l n).drp else GF x l n i:=by
 grind [GF,Xl,Zi]
structure SqOk (x:Inst) (l:List Vis):Prop where
 ne:l≠ []
 inr:Inr x l
 nd:l.Nodup
 pair: ∀v∈l,pairB x.orders l v=true
theorem W4 {x:Inst} {l:List Vis} (h:Xw x l=0):SqOk x l:=by
 unfold Xw at h
 split at h
 ·simp at h
 ·rename_i h1
  split at h
  ·simp at h
  ·split at h
   ·simp at h
   ·rename_i h3
    split at h
    ·simp at h
    ·rename_i h4;refine ⟨fun e=>h1 (.inl (by simp [e])),fun v hv=> ?_,Bw.1 (by grind),fun v hv=> ?_⟩
     ·grind [V9]
     grind
structure OwnV (x:Inst) (l:List Vis) (i:Nat):Prop where
 pick:0<=(nth x.orders i).pick.place->(⟨i,false⟩:Vis)∈l
 drp:0<=(nth x.orders i).drp.place->(⟨i,true⟩:Vis)∈l
 both:0<=(nth x.orders i).pick.place->0<=(nth x.orders i).drp.place->vIx l ⟨i,false⟩<vIx l ⟨i,true⟩
 isP:(⟨i,false⟩:Vis)∈l->0<=(nth x.orders i).pick.place
 isD:(⟨i,true⟩:Vis)∈l->0<=(nth x.orders i).drp.place
theorem SqOk.own {x:Inst} {l:List Vis} (h:SqOk x l) {i:Nat} (hi: ∃v∈l,v.order=(i:Int)):OwnV x l i:=by
 obtain ⟨v0,hv0,ho⟩:=hi
 have key: ∀v∈l,v.order=(i:Int)->v∈Xb x.orders i/\Qp l (-1) (Xb x.orders i)=true:=fun v hv hvo=>by
  have:=h.pair v hv;simp only [pairB,hvo,XO,Zy,Zp] at this;exact ⟨WI.1 this.1,this.2⟩
 obtain ⟨_,hasc⟩:=key v0 hv0 ho;have mem: ∀b:Bool,(⟨i,b⟩:Vis)∈l->(⟨i,b⟩:Vis)∈Xb x.orders i:=fun b hb=>(key _ hb rfl).1
 have hp:(⟨i,false⟩:Vis)∈Xb x.orders i->0<=(nth x.orders i).pick.place:=fun hm=>by
  unfold Xb at hm
  grind
 have hd:(⟨i,true⟩:Vis)∈Xb x.orders i->0<=(nth x.orders i).drp.place:=fun hm=>by
  unfold Xb at hm
  grind
 have m1: ∀v,-1<vIx l v->v∈l:=fun v hv=>WI.1 Za;unfold Xb at hasc
 by_cases c1:0<=(nth x.orders i).pick.place<;>by_cases c2:0<=(nth x.orders i).drp.place
 ·simp only [c1,c2,if_true,ZW,ZM,Qp,US,Zy,Zp] at hasc;exact ⟨fun _=>m1 _ hasc.1,fun _=>m1 _ Za,fun _ _=>hasc.2,fun _=>c1,fun _=>c2⟩
 ·simp only [c1,c2,if_true,YA,Vw,Qp,US,Zp] at hasc;exact ⟨fun _=>m1 _ hasc,fun h=>absurd h c2,fun _ h=>absurd h c2,fun _=>c1,fun hm=>hd (mem _ hm)⟩
 ·simp only [c1,c2,if_true,YA,ZM,Qp,US,Zp] at hasc;exact ⟨fun h=>absurd h c1,fun _=>m1 _ hasc,fun h=>absurd h c1,fun hm=>hp (mem _ hm),fun _=>c2⟩
 ·exact ⟨fun h=>absurd h c1,fun h=>absurd h c2,fun h=>absurd h c1,fun hm=>hp (mem _ hm),fun hm=>hd (mem _ hm)⟩
theorem Q6 {l:List Vis} (hn:l.Nodup) {v:Vis} {n:Nat} :v∈l.take n↔0<=vIx l v/\vIx l v<(n:Int):=by
 constructor
 ·intro h;obtain ⟨j,h1,h2,rfl⟩:=KW h
  grind [KZ]
 ·intro ⟨h1,h2⟩;obtain ⟨h3,h4⟩:=LC h1
  grind [Ky]
theorem jR {x:Inst} {l:List Vis} (h:SqOk x l) (i:Nat): ∀n,n<=l.length->GF x l n i=if (⟨i,true⟩:Vis)∈l.take n then false else if (⟨i,false⟩:Vis)∈l.take n then true else decide ((nth x.orders i).pick.place<0)
 | 0,_=>by simp [GF]
 | n+1,hn=>by
  have hk:n<l.length:=Za
  have hat:=KZ h.nd hk;rw [FC hk,jR h i n Za]
  by_cases c:(nth l n).order=(i:Int)
  ·rw [if_pos c];have ho:=h.own (i:=i) ⟨nth l n,Zo hk,c⟩
   cases hd:(nth l n).drp with
   | true =>
    have hv:nth l n=⟨i,true⟩:=by rw [<- c,<- hd]
    rw [hv] at hat;have:(⟨i,true⟩:Vis)∈l.take (n+1):=(Q6 h.nd).2 Za;rw [if_pos this];rfl
   | false =>
    have hv:nth l n=⟨i,false⟩:=by rw [<- c,<- hd]
    rw [hv] at hat;have h1:(⟨i,false⟩:Vis)∈l.take (n+1):=(Q6 h.nd).2 Za
    have h2: ¬(⟨i,true⟩:Vis)∈l.take (n+1):=fun hm=>by
     have h3:=JJ hm;have h4:=(Q6 h.nd).1 hm;have h5:=ho.both (ho.isP (JJ h1)) (ho.isD h3);omega
    rw [if_neg h2,if_pos h1];rfl
  ·rw [if_neg c]
   have e: ∀b:Bool,((⟨i,b⟩:Vis)∈l.take (n+1))=((⟨i,b⟩:Vis)∈l.take n):=fun b=>by
    rw [Xl hk,Xo,<- Zi hk];refine propext ⟨fun hm=>hm.resolve_right fun hm=> ?_,.inl⟩;simp at hm;exact c (by rw [<- hm])
   simp only [e]
theorem Zdc {x:Inst} {l:List Vis} (h:SqOk x l) {k i:Nat} (hk:k<l.length) (hi:(nth l k).order=(i:Int)):GF x l k i=(nth l k).drp:=by
 have hat:=KZ h.nd hk;have ho:=h.own (i:=i) ⟨nth l k,Zo hk,hi⟩;have hm:=Zo hk;rw [jR h i k Za]
 cases hd:(nth l k).drp with
 | true =>
  have hv:nth l k=⟨i,true⟩:=by rw [<- hi,<- hd]
  rw [hv] at hat hm
  have h1: ¬(⟨i,true⟩:Vis)∈l.take k:=fun hm=>by have:=(Q6 h.nd).1 hm;omega
  rw [if_neg h1]
  by_cases c:0<=(nth x.orders i).pick.place
  ·have h2:=ho.both c (ho.isD hm);have h3:(⟨i,false⟩:Vis)∈l.take k:=(Q6 h.nd).2 ⟨WI.2 (ho.pick c),Za⟩
   grind
  grind
 | false =>
  have hv:nth l k=⟨i,false⟩:=by rw [<- hi,<- hd]
  rw [hv] at hat hm;have hp:=ho.isP hm
  have h1: ¬(⟨i,false⟩:Vis)∈l.take k:=fun hm=>by have:=(Q6 h.nd).1 hm;omega
  grind
theorem tF {f g:Nat->Int} {i:Nat} (h: ∀q,q≠i->f q=g q): ∀n,i<n->((List.range n).map f).sum=((List.range n).map g).sum+(f i-g i):=by
 have same: ∀n,n<=i->((List.range n).map f).sum=((List.range n).map g).sum:=fun n hn=>by
  grind [YH]
 intro n
 induction n with
 | zero=>omega
 | succ n ih =>
  intro hi;simp only [Yv,XA,Zs,Zn,Cl,VQ,List.sum_nil]
  grind
theorem Sl {f:Nat->Int} {b:Int} (hb:0<=b) (h: ∀q,0<=f q/\f q<=b): ∀n:Nat,0<=((List.range n).map f).sum/\((List.range n).map f).sum<=b*n
 | 0=>Zb
 | n+1=>by
  have ih:=Sl hb h n
  grind [Yv]
theorem JW {p:Nat->Bool} {f:Nat->Int} : ∀l:List Nat,((l.filter p).map f).sum=(l.map fun i=>if p i=true then f i else 0).sum
 | []=>rfl
 | a::l=>by
  rw [List.filter_cons,Zs,VQ]
  by_cases h:p a=true
  ·rw [if_pos h,Zs,VQ,JW l,if_pos h]
  ·rw [if_neg h,JW l,if_neg h];omega
def DY (x:Inst) (l:List Vis) (n j:Nat):Int:=((List.range x.orders.length).map fun i=>if (GF x l n i&&hasO l i)=true then nth (nth x.orders i).load j else 0).sum
theorem HU {x:Inst} {l:List Vis} (h:SqOk x l) {k j:Nat} (hk:k<l.length):DY x l (k+1) j=if (nth l k).drp=true then DY x l k j-nth (nth x.orders (nth l k).order.toNat).load j else DY x l k j+nth (nth x.orders (nth l k).order.toNat).load j:=by
 obtain ⟨v1,v2⟩:=h.inr _ (Zo hk);obtain ⟨i,hi⟩: ∃i:Nat,(nth l k).order=(i:Int):=⟨(nth l k).order.toNat,Za⟩;have hh:hasO l (i:Int)=true:=Z6.2 ⟨_,Zo hk,hi⟩;have h1:=Zdc h hk hi
 have h2:GF x l (k+1) i= !(nth l k).drp:=by simp_all [FC]
 unfold DY
 rw [tF (f:=fun i=>if (GF x l (k+1) i&&hasO l i)=true then nth (nth x.orders i).load j else 0) (g:=fun i=>if (GF x l k i&&hasO l i)=true then nth (nth x.orders i).load j else 0) (i:=i) (fun q hq=>by
  have:GF x l (k+1) q=GF x l k q:=by rw [FC hk,if_neg Za]
  grind) x.orders.length Za]
 grind
def Wl (x:Inst) (l:List Vis) (n:Nat):List Int:=(List.range (dimsOf x.types).toNat).map fun j=>DY x l n j
def EF (a b:List Int):List Int:=(List.range a.length).map fun j=>nth a j+nth b j
def tC (a b:List Int):List Int:=(List.range a.length).map fun j=>nth a j-nth b j
theorem EG {x:Inst} {l:List Vis} {n:Nat} :(Wl x l n).length=(dimsOf x.types).toNat:=by simp [Wl]
theorem QW {f:Nat->Int} {n j:Nat} (h:j<n):nth ((List.range n).map f) j=f j:=by
 grind [Zi]
theorem SB {x:Inst} {l:List Vis} (h:SqOk x l) {k:Nat} (hk:k<l.length):Wl x l (k+1)=if (nth l k).drp=true then tC (Wl x l k) (nth x.orders (nth l k).order.toNat).load else EF (Wl x l k) (nth x.orders (nth l k).order.toNat).load:=by
 have key: ∀g:Nat->Int,(∀j,j<(dimsOf x.types).toNat->DY x l (k+1) j=g j)->Wl x l (k+1)=(List.range (dimsOf x.types).toNat).map g:=fun g hg =>
  YH fun j hj=>hg j (ZP.1 hj)
 split
 ·simp_all [tC,HU,Wl,QW]
 simp_all [EF,HU,Wl,QW]
def Zu (p:Pln):AM.Obj:= .cells [.p (.list p.routes_c (p.routes.map Z0)),.p (.list p.unserved_c (p.unserved.map eI))]
def WH (r:Rte):Prop:=r.visits.length<=1048576/\r.rests.length<=1048576
structure RightV (x:Inst) (l:List Vis):Prop where
 ne:l≠ []
 inr:Inr x l
 off: ∀v∈l,(nth x.orders v.order.toNat).off=false
 nodup:l.Nodup
 pair: ∀v∈l,pairB x.orders l v=true
 apart: ∀p∈x.apart,¬(hasO l p.1=true/\hasO l p.2=true)
 before: ∀p∈x.before,beforeB l p.1 p.2=true
theorem aI {x:Inst} {l:List Vis} :Xw x l=0↔RightV x l:=by
 unfold Xw;rw [Ah Za,Ah Za,Ah Za,Ah Za,Ah Za,Ah Za];simp only [and_true,Jy,Bw]
 have hin:l.any (V9 x)=false↔Inr x l:=by
  rw [XY];exact ⟨fun h v hv=>by grind [V9],fun h v hv=>by simpa [V9] using h v hv⟩
 constructor
 ·rintro ⟨h1,h2,h3,h4,h5,h6⟩;rw [not_or,Jy,hin] at h1;rw [XY] at h2 h5 h6;refine ⟨fun e=>h1.1 (by rw [e];rfl),h1.2,fun v hv=>by grind,h3,?_,fun p hp=>by grind,fun p hp=>by grind⟩
  grind
 ·intro h;refine ⟨?_,?_,h.nodup,?_,?_,?_⟩
  ·rw [not_or,Jy,hin];exact ⟨fun e=>h.ne (Yt e),h.inr⟩
  ·rw [XY];intro v hv;simp [h.off v hv]
  ·rw [Zt.2 h.pair];simp
  ·rw [XY];intro p hp;simpa using h.apart p hp
  ·rw [XY];intro p hp;simpa using h.before p hp
theorem TZ {os:List Ord} {l:List Vis} {v:Vis} {i:Nat} (h:v.order=(i:Int)):pairB os l v=true↔v∈Xb os i/\(∀w∈Xb os i,w∈l)/\((⟨i,false⟩:Vis)∈Xb os i->(⟨i,true⟩:Vis)∈Xb os i->vIx l ⟨i,false⟩<vIx l ⟨i,true⟩):=by
 rw [pairB,h,XO,Zy,Zp,WI];refine and_congr Iff.rfl ?_
 have hm: ∀w:Vis,-1<vIx l w↔w∈l:=fun w=>by grind [WI]
 rcases JY os i with e | e | e | e<;>rw [e]
 ·simp [Qp]
 ·simp [Qp,hm]
 ·simp [Qp,hm]
 ·simp only [Qp,US,Zy,Zp,hm,X2,Jz,or_false,forall_eq_or_imp,forall_eq]
  grind
section
variable {x : Inst} {l : List Vis}
theorem RightV.bit (h:RightV x l) (i:Nat):(ordS l).testBit i=true↔ ∃v∈l,v.order=(i:Int):=by
 rw [YS];exact ⟨fun ⟨v,hv,e⟩=>⟨v,hv,by have:=h.inr v hv;omega⟩,fun ⟨v,hv,e⟩=>⟨v,hv,Za⟩⟩
theorem RightV.lt (h:RightV x l) (hf:IFacts x):ordS l<9223372036854775808/\ordS l / pw x.orders.length=0:=by
 have h1:ordS l<9223372036854775808:=by
  have:=Qi l.length (l:=l) (Zv _) (fun v hv=>by
   rw [Xi] at hv;have:=h.inr v hv;have:=hf.len
   simp [DI];omega)
  grind
 refine ⟨h1,SY h1 fun j _ hj=> ?_⟩;obtain ⟨v,hv,e⟩:=(h.bit j).1 hj;have:=h.inr v hv;omega
theorem RightV.ord (h:RightV x l) (hf:IFacts x):ordR l=(((ordS l:Nat):Int),0):=by
 rw [ordR,if_pos];rw [Zt];intro v hv;have:=h.inr v hv;have:=hf.len;simp [DI];omega
theorem RightV.pairs (h:RightV x l) {v:Vis} (hv:v∈l): ∃i:Nat,v.order=(i:Int)/\i<x.orders.length/\v∈Xb x.orders i/\(∀w∈Xb x.orders i,w∈l)/\((⟨i,false⟩:Vis)∈Xb x.orders i->(⟨i,true⟩:Vis)∈Xb x.orders i->vIx l ⟨i,false⟩<vIx l ⟨i,true⟩):=by
 have h1:=h.inr v hv
 have e:v.order=(v.order.toNat:Int):=Za
 exact ⟨v.order.toNat,e,Za,(TZ e).1 (h.pair v hv)⟩
theorem RightV.step (h:RightV x l) {a b:Nat} (hE:Ed x.before a b) (hb:0<=Bi l b):0<=Bi l a/\Bi l a<Bi l b:=by
 obtain ⟨p,hp,e1,e2⟩:=hE;have hbe:=U8.1 (h.before p hp);rw [e1,e2] at hbe;obtain ⟨h1,h2⟩:=hbe hb;have h0:=AC.2 h1;obtain ⟨g1,g2,_⟩:=Eo h0
 grind
theorem RightV.chain (h:RightV x l) {a b:Nat} (hc:Ch x.before a b) (hb:0<=Bi l b):0<=Bi l a/\Bi l a<Bi l b:=by
 induction hc with
 | one hE=>exact h.step hE hb
 | more _ hE ih =>
  have h1:=h.step hE hb;omega
theorem RightV.alw (h:RightV x l) (hf:IFacts x):Alw x (ordS l):=by
 have hn:x.orders.length<=60:=by have:=hf.len;omega
 refine ⟨fun i hi hb=> ?_,?_,fun p hp hb=> ?_,fun i hi hb hc=> ?_⟩
 ·obtain ⟨v,hv,e⟩:=(h.bit i).1 hb;have:=h.off v hv
  grind
 ·rw [apB,XY];intro p hp;have hv:=hf.aval p hp;rw [QX h.inr hn _ Za,QX h.inr hn _ Za,Zy];exact h.apart p hp
 ·have hv:=hf.val p hp;rw [QX h.inr hn _ Za] at hb ⊢;rw [Z6] at hb ⊢;exact (U8.1 (h.before p hp) (AC.2 hb)).1
 ·have hb2:=AC.2 ((h.bit i).1 hb);have:=(h.chain hc hb2).2;omega
theorem RightV.gr (h:RightV x l) (hf:IFacts x): ∀k,k<=l.length->Gr x (ordS l) (l.take k)
 | 0,_=>by simpa using Gr.nil
 | k+1,hk=>by
  have hk2:k<l.length:=Za
  have ih:=h.gr hf k Za
  have e:l.take (k+1)=l.take k++ [nth l k]:=by rw [Xl hk2,Zi hk2]
  rw [e];obtain ⟨i,e1,hi,h1,h2,h3⟩:=h.pairs (Zo hk2);refine .snoc ih (Kx.2 ⟨i,hi,(h.bit i).2 ⟨_,Zo hk2,e1⟩,?_,h1,(JR h1).2 ⟨?_,?_,?_⟩⟩)
  ·have:=h.off _ (Zo hk2)
   grind
  ·intro hm;obtain ⟨j,j1,j2,j3⟩:=KW hm;have q1:=KZ h.nodup j2;have q2:=KZ h.nodup hk2
   grind
  ·intro hd hq
   have e2:nth l k=⟨i,true⟩:=by rw [DA];grind
   have h4:=h3 hq (by grind);rw [<- e2,KZ h.nodup hk2] at h4;have h5:=WI.2 (h2 _ hq);obtain ⟨g1,g2⟩:=LC h5;rw [<- g2];exact Ky Za g1
  ·intro p hp hpe w hw;obtain ⟨v1,v2,v3,v4⟩:=hf.val p hp;have hoi:=jO hk2 e1;have hbe:=U8.1 (h.before p hp);rw [hpe] at hbe;obtain ⟨⟨v,hv,ev⟩,h5⟩:=hbe hoi.1;obtain ⟨a,a1,a2,a3,a4,a5⟩:=h.pairs hv
   have:a=p.1.toNat:=Za
   subst this;have hwl:=a4 w hw;obtain ⟨g1,g2⟩:=LC (WI.2 hwl);have h6:=h5 _ g1 (by rw [g2,U2 hw];omega);rw [<- g2];exact Ky Za g1
theorem RightV.len (h:RightV x l) (hf:IFacts x):l.length=GP x (ordS l) x.orders.length:=by
 have h1:=h.gr hf l.length (Zv _);rw [Xi] at h1;have h2:=h1.len
 have h3: ∀v∈BB x (ordS l) x.orders.length,v∈l:=fun v hv=>by
  obtain ⟨i,i1,i2,i3⟩:=Kw.1 hv;obtain ⟨w,hw,e⟩:=(h.bit i).1 i2;obtain ⟨a,a1,a2,a3,a4,a5⟩:=h.pairs hw
  grind
 have h4:=Lv (EK _ _ _) h3;rw [Kh] at h4;omega
theorem Gr.at {S:Nat} (h:Gr x S l): ∀k,k<l.length->nth l k∈nextU x S (l.take k) x.orders.length:=by
 induction h with
 | nil=>simp
 | snoc h hv ih =>
  rename_i l v;intro k hk;simp at hk;rcases WS k l.length with h2 | h2
  ·grind [Zi]
  ·have:k=l.length:=Za
   simp_all [Zi]
end
section
variable {σ : Type}
def Co (nx:List Vis->List Vis):Nat->List Vis->List (List Vis)
 | 0,l=> [l]
 | f+1,l=>if nx l= [] then [l] else (nx l).flatMap fun v=>Co nx f (l++ [v])
theorem I6 {nx:List Vis->List Vis} : ∀(f:Nat) (l m:List Vis),m∈Co nx f l-> ∃r,m=l++r
 | 0,l,m,h=>by simp_all [Co]
 | f+1,l,m,h=>by
  rw [Co] at h
  split at h
  ·simp_all
  ·obtain ⟨v,_,h⟩:=Ws.1 h;obtain ⟨r,rfl⟩:=I6 f _ m h;simp
def WB (ok:List Vis->Bool) (col:List Vis->Col) (better:Col->Col->Bool) (b:Col×Bool) (l:List Vis):Col×Bool:=if ok l=true/\(b.2=false\/better (col l) b.1=true) then (col l,true) else b
end
def Wk (f:Nat->Int) (n:Nat):List Int:=(List.range n).map f
theorem FP {f n} :(Wk f n).length=n:=by simp [Wk]
theorem FQ {f:Nat->Int} {n j:Nat} (h:j<n):nth (Wk f n) j=f j:=by grind [Zi,Wk]
theorem Eu {f g:Nat->Int} {n:Nat} (h: ∀i,i<n->f i=g i):Wk f n=Wk g n:=YH fun i hi=>h i (ZP.1 hi)
theorem Ny {f n j v} :(Wk f n).set j v=Wk (fun i=>if i=j then v else f i) n:=by
 refine Qe (by simp [Wk]) fun i h1 h2=> ?_
 have hi:i<n:=by grind [Wk]
 rw [List.getElem_set];simp only [Wk,List.getElem_map,List.getElem_range];omega
def XD (rs:List Rte):Nat->Nat->Int
 | 0,_=> -1
 | k+1,o=>if hasO (nth rs k).visits (o:Int)=true then (k:Int) else XD rs k o
theorem QR {rs:List Rte} {o:Nat} : ∀k:Nat,-1<=XD rs k o/\XD rs k o<(k:Int)
 | 0=>by simp [XD]
 | k+1=>by
  have:=QR (rs:=rs) (o:=o) k
  grind [XD]
def QC (rs:List Rte) (k:Nat) (l:List Vis) (o:Nat):Int:=if hasO l (o:Int)=true then (k:Int) else XD rs k o
def Gj (n:Nat) (v:Vis):Bool:=decide (v.order<0)||decide ((n:Int)<=v.order)
def Q0 (x:Inst) (r:Rte):Bool:=(decide (r.typ<0)||decide ((x.types.length:Int)<=r.typ))||r.visits.any (Gj x.orders.length)
def Sm (rs:List Rte) (k:Nat) (l:List Vis):Bool:=l.any fun v=>decide (0<=XD rs k v.order.toNat)
def NZ (rs:List Rte):Nat->Bool
 | 0=>false
 | k+1=>NZ rs k||Sm rs k (nth rs k).visits
def Wq (x:Inst) (p:Pln):Int:=if p.routes.any (Q0 x)=true then 2 else if NZ p.routes p.routes.length=true then 6 else 0
def Ju (rs:List Rte) (i:Int):Int:=if 0<=i then (nth rs i.toNat).typ else-1
def DV (x:Inst) (p:Pln):List Int:=Wk (fun o=>Ju p.routes (XD p.routes p.routes.length o)) x.orders.length
theorem Fm {x p} :(DV x p).length=x.orders.length:=FP
theorem Tn {l:List Vis} {v:Vis} {o:Int} :hasO (l++ [v]) o=(hasO l o||decide (v.order=o)):=by simp [hasO]
theorem TD {rs:List Rte} {k:Nat} {l:List Vis} {v:Vis} {n:Nat} (h:0<=v.order/\v.order<(n:Int)):(Wk (QC rs k l) n).set v.order.toNat (k:Int)=Wk (QC rs k (l++ [v])) n:=by
 rw [Ny];refine Eu fun i hi=> ?_;rw [QC,QC,Tn]
 grind
theorem iV {rs:List Rte} {k:Nat} :QC rs k (nth rs k).visits=XD rs (k+1):=funext fun o=>rfl
theorem Zjr {rs:List Rte} {k:Nat} :QC rs k []=XD rs k:=funext fun o=>by rfl
theorem iW {rs:List Rte} {k:Nat} {l:List Vis} {o:Nat} : -1<=QC rs k l o/\QC rs k l o<=(k:Int):=by
 have:=QR (rs:=rs) (o:=o) k
 grind [QC]
theorem mH {rs:List Rte} {k:Nat} {l:List Vis} {v:Vis} (h:0<=v.order) {b:Bool} :((b||Sm rs k l)||(decide (QC rs k l v.order.toNat≠ -1)&&decide (QC rs k l v.order.toNat≠(k:Int))))=(b||Sm rs k (l++ [v])):=by
 have hr:=QR (rs:=rs) (o:=v.order.toNat) k
 have e:Sm rs k (l++ [v])=(Sm rs k l||decide (0<=XD rs k v.order.toNat)):=by simp [Sm]
 rw [e,QC]
 by_cases c:hasO l (v.order.toNat:Int)=true
 ·rw [if_pos c]
  grind [Sm,Z6]
 grind
theorem B3 {x:Inst} {p:Pln} {k:Nat} (h:k<p.routes.length) (hb:Q0 x (nth p.routes k)=true):Wq x p=2:=by
 rw [Wq,if_pos (YR.2 ⟨_,Zo h,hb⟩)]
theorem sL {x:Inst} {p:Pln} (h: ∀j,j<p.routes.length->Q0 x (nth p.routes j)=false):p.routes.any (Q0 x)=false:=by
 rw [XY];intro r hr;obtain ⟨j,hj,rfl⟩:=ZU.1 hr
 grind [Zi]
theorem I1 {x:Inst} {p:Pln} (h: ∀j,j<p.routes.length->Q0 x (nth p.routes j)=false):Wq x p=if NZ p.routes p.routes.length=true then 6 else 0:=by
 rw [Wq,sL h];simp
set_option maxRecDepth 60000
def Jt : List Rte->Int->Int
 | [],_=> -1
 | r::t,o=>if hasO r.visits o=true then r.typ else Jt t o
theorem fE {α:Type} [Inhabited α] {l:List α} {k:Nat} (h:k<l.length):l.drop k=nth l k::l.drop (k+1):=by rw [UO h,Zi h]
theorem Tm {v:Vis} {l:List Vis} {o:Int} :hasO (v::l) o=(decide (v.order=o)||hasO l o):=rfl
theorem JV {P Q:Prop} (h:Q) (e:Q->P:=by intro h;simp (disch:=omega) only [Zu,go_sem,seval];exact h):P:=e h
theorem HO (p:Pln) (o:Int) (hr:p.routes.length<=1048576) (hv: ∀r∈p.routes,r.visits.length<=1048576) :
  PC 133 [.p (Wh p),.p (.int .i64 o)] (.int .i64 (Jt p.routes o)):=by
 refine Zd Tryz.func133 rfl ZaF ?_;simp (disch:=omega) only [Tryz.f133,go_sem,seval];refine Zk [1,2] (fun k:Nat=> [(5,.p (.int .i64 k))]) (fun _=> [Zu p]) (fun k=>k<=p.routes.length/\Jt p.routes o=Jt (p.routes.drop k) o) (fun k=>p.routes.length-k) 0 Zb (Weak.mk ?_) ?_
 ·simp (disch:=omega) only [Zu,go_sem,seval]
 ·rintro k ⟨hk,he⟩;refine JV ?_;refine cD ?_ ?_<;>intro h<;>simp (disch:=omega) only [Sh.out h,go_sem,seval,↓reduceIte]
  ·have hk2:k<p.routes.length:=Za
   have hvl:=hv _ (Zo hk2);rw [fE hk2,Jt] at he;refine Zk [1,2,5] (fun q:Nat=> [(6,.p (.int .i64 q))]) (fun _=> [Zu p]) (fun q=>q<=(nth p.routes k).visits.length/\hasO (nth p.routes k).visits o=hasO ((nth p.routes k).visits.drop q) o) (fun q=>(nth p.routes k).visits.length-q) 0 Zb (Weak.mk ?_) ?_
   ·simp (disch:=omega) only [Zu,go_sem,seval]
   ·rintro q ⟨hq,hh⟩;refine JV ?_;refine ZI ?_ ?_<;>intro h2
    ·have hq2:q<(nth p.routes k).visits.length:=Za
     rw [fE hq2,Tm] at hh;refine ZI ?_ ?_<;>intro h3
     ·grind
     ·rw [XK h3,JC] at hh;exact ⟨q+1,⟨Za,hh⟩,Za,wk⟩
    ·have hql:q=(nth p.routes k).visits.length:=Za
     rw [hql,Qd] at hh;rw [if_neg (by grind [hasO])] at he;exact ⟨k+1,⟨Za,he⟩,Za,wk⟩
  grind [Jt]
def nW (rs:List Rte) (o:Int):Nat->Nat
 | 0=>0
 | k+1=>nW rs o k+if hasO (nth rs k).visits o=true then 1 else 0
theorem wG {rs:List Rte} {o:Int} : ∀k,nW rs o k<=k
 | 0=>by simp [nW]
 | k+1=>by have:=wG (rs:=rs) (o:=o) k;rw [nW];split<;>omega
theorem QD {rs:List Rte} {o:Int} : ∀ {k:Nat},1<=nW rs o k↔ ∃a,a<k/\hasO (nth rs a).visits o=true
 | 0=>by simp [nW]
 | k+1=>by
  rw [nW]
  constructor
  ·intro h
   by_cases c:hasO (nth rs k).visits o=true
   ·grind
   ·rw [if_neg c] at h;obtain ⟨a,h1,h2⟩:=QD.1 (show 1<=nW rs o k by omega);exact ⟨a,Za,h2⟩
  ·rintro ⟨a,h1,h2⟩
   by_cases c:a=k
   ·grind
   ·have:=QD.2 ⟨a,show a<k by omega,h2⟩;omega
theorem jG {rs:List Rte} {o:Int} : ∀ {k:Nat},2<=nW rs o k↔ ∃a b,a<b/\b<k/\hasO (nth rs a).visits o=true/\hasO (nth rs b).visits o=true
 | 0=>by simp [nW]
 | k+1=>by
  rw [nW]
  constructor
  ·intro h
   by_cases c:hasO (nth rs k).visits o=true
   ·rw [if_pos c] at h
    grind [QD]
   ·rw [if_neg c] at h;obtain ⟨a,b,h1,h2,h3⟩:=jG.1 (show 2<=nW rs o k by omega);exact ⟨a,b,h1,Za,h3⟩
  ·rintro ⟨a,b,h1,h2,h3,h4⟩
   by_cases c:b=k
   ·subst c;have:=QD.2 ⟨a,h1,h3⟩
    grind
   ·have:=jG.2 ⟨a,b,h1,show b<k by omega,h3,h4⟩;omega
theorem QQ {rs:List Rte} {o:Nat} : ∀ {k:Nat},0<=XD rs k o↔ ∃a,a<k/\hasO (nth rs a).visits (o:Int)=true
 | 0=>by simp [XD]
 | k+1=>by
  rw [XD]
  constructor
  ·intro h
   by_cases c:hasO (nth rs k).visits (o:Int)=true
   ·grind
   ·rw [if_neg c] at h;obtain ⟨a,h1,h2⟩:=QQ.1 h;exact ⟨a,Za,h2⟩
  ·rintro ⟨a,h1,h2⟩
   by_cases c:hasO (nth rs k).visits (o:Int)=true
   ·grind
   ·rw [if_neg c];refine QQ.2 ⟨a,?_,h2⟩
    grind
theorem Ez {rs:List Rte} : ∀ {k:Nat},(∀j,j<k-> ∀v∈(nth rs j).visits,0<=v.order)->(NZ rs k=true↔ ∃o:Nat,2<=nW rs (o:Int) k/\ ∃j,j<k/\hasO (nth rs j).visits (o:Int)=true)
 | 0,_=>by simp [NZ,nW]
 | k+1,h=>by
  rw [NZ,Wc,Ez fun j hj=>h j Za]
  constructor
  ·rintro (⟨o,h1,j,h2,h3⟩ | h1)
   ·grind [nW]
   ·rw [Sm,YR] at h1;obtain ⟨v,hv,h2⟩:=h1;have h3:=QQ.1 (Cf h2);have h4:=QD.2 h3;have h5:hasO (nth rs k).visits (v.order.toNat:Int)=true:=Z6.2 ⟨v,hv,by grind⟩;exact ⟨v.order.toNat,by simp_all [nW],k,Za,h5⟩
  ·rintro ⟨o,h1,_⟩;rw [nW] at h1
   by_cases c:hasO (nth rs k).visits (o:Int)=true
   ·rw [if_pos c] at h1;refine .inr ?_;obtain ⟨v,hv,e⟩:=Z6.1 c;rw [Sm,YR];refine ⟨v,hv,Yk ?_⟩
    simp_all [QQ,QD]
   grind
theorem Hq {o:Int} {r:Rte} : ∀ {a:List Rte},Jt (a++ [r]) o=if (a.any fun r=>hasO r.visits o)=true then Jt a o else if hasO r.visits o=true then r.typ else-1
 | []=>by simp [Jt]
 | s::t=>by
  rw [ZW,Jt,Jt,Hq]
  by_cases c:hasO s.visits o=true
  ·simp [c]
  ·simp [c]
theorem Hp {rs:List Rte} {o:Nat} : ∀ {k:Nat},k<=rs.length->nW rs (o:Int) k<=1->Jt (rs.take k) (o:Int)=Ju rs (XD rs k o)
 | 0,_,_=>by rfl
 | k+1,hk,h=>by
  have hk2:k<rs.length:=Za
  rw [nW] at h;rw [Xl hk2,<- Zi hk2,Hq,XD]
  have hany:((rs.take k).any fun r=>hasO r.visits (o:Int))=true↔1<=nW rs (o:Int) k:=by
   rw [QD,YR]
   constructor
   ·rintro ⟨r,hr,h1⟩;obtain ⟨a,ha,rfl⟩:=ZU.1 hr;rw [ZQ] at ha;rw [List.getElem_take] at h1;exact ⟨a,Za,by grind [Zi]⟩
   ·rintro ⟨a,ha,h1⟩;refine ⟨nth rs a,?_,h1⟩;rw [Zi Za,List.mem_take_iff_getElem]
    grind
  by_cases c:hasO (nth rs k).visits (o:Int)=true
  ·simp_all [Ju]
  ·rw [if_neg c] at h;have ih:=Hp (rs:=rs) (o:=o) (k:=k) Za Za
   simp_all [QD,QQ,Ju]
theorem Ho {x:Inst} {p:Pln} (h:Wq x p=0):(∀r∈p.routes,Q0 x r=false)/\NZ p.routes p.routes.length=false:=by
 grind [Wq]
theorem Q1 {x:Inst} {r:Rte} (h:Q0 x r=false):(0<=r.typ/\r.typ<(x.types.length:Int))/\ ∀v∈r.visits,0<=v.order/\v.order<(x.orders.length:Int):=by
 simp_all [Q0,Gj]
theorem iL {x:Inst} {p:Pln} (h:Wq x p=0):Wk (fun i=>Jt p.routes (i:Int)) x.orders.length=DV x p:=by
 obtain ⟨h1,h2⟩:=Ho h;refine Eu fun i _=> ?_
 have h3:nW p.routes (i:Int) p.routes.length<=1:=by
  refine Nat.le_of_not_lt fun h4=> ?_;have h5:=(Ez (rs:=p.routes) (k:=p.routes.length) fun j hj v hv=>((Q1 (h1 _ (Zo hj))).2 v hv).1).2 ⟨i,h4,by grind [QD]⟩
  grind
 have:=Hp (rs:=p.routes) (o:=i) (k:=p.routes.length) (Zv _) h3
 grind
def Vo {α:Type} (f:Nat->α) (n:Nat):List α:=(List.range n).map f
section
variable {α : Type} {f g : Nat -> α} {n j : Nat}
theorem VC : (Vo f n).length=n:=by simp [Vo]
theorem KP [Inhabited α] (h:j<n):nth (Vo f n) j=f j:=by grind [Zi,Vo]
theorem AH (h: ∀i,i<n->f i=g i):Vo f n=Vo g n:=YH fun i hi=>h i (ZP.1 hi)
theorem Nz {v:α} :(Vo f n).set j v=Vo (fun i=>if i=j then v else f i) n:=by
 refine Qe (by simp [Vo]) fun i h1 h2=> ?_;rw [List.getElem_set];simp only [Vo,List.getElem_map,List.getElem_range]
 grind
theorem aM : Vo f (n+1)=Vo f n++ [f n]:=by simp [Vo,Yv]
theorem aL [Inhabited α] {l:List α} :Vo (nth l) l.length=l:=by
 refine Qe VC fun i h1 h2=> ?_;rw [<- Zi h1,KP h2,Zi h2]
end
def Gt : Inst:=⟨⟨true,[],true,[]⟩,true,[],true,[],true,[],true,[]⟩
theorem iM {x:Inst} {p:Pln} (h:Wq x p=0) {j:Nat} (hj:j<x.orders.length): -1<=nth (DV x p) j/\nth (DV x p) j<(x.types.length:Int):=by
 obtain ⟨h1,_⟩:=Ho h;rw [DV,FQ hj,Ju];have hr:=QR (rs:=p.routes) (o:=j) p.routes.length
 split
 ·have:=(Q1 (h1 _ (Zo (show (XD p.routes p.routes.length j).toNat<p.routes.length by omega)))).1;omega
 ·omega
def rtB (r:Rte):Bool:=decide (r.visits.length<=8)&&decide (r.rests.length<=9)
def smB (p:Pln):Bool:=(decide (p.routes.length<=4)&&decide (p.unserved.length<=6))&&p.routes.all rtB
theorem ZdB {p:Pln} {k:Nat} (hk:k<p.routes.length) (h:rtB (nth p.routes k)=false):smB p=false:=by
 grind [smB,Zo]
theorem Znp {α:Type} [Inhabited α] {f:α->Bool} {l:List α} (h: ∀j,j<l.length->f (nth l j)=true):l.all f=true:=by
 rw [Zt];intro r hr;obtain ⟨j,hj,rfl⟩:=ZU.1 hr
 grind [Zi]
def FitP (x:Inst) (n:Int):Prop:=x.orders.length<=n/\x.types.length<=2/\x.net.places.length<=6/\x.net.arcs.length<=40/\x.apart.length<=4/\x.before.length<=4/\InstOk x
theorem Hg (x:Inst) (hw:x.wf 1048576) (n:Int) (b:Bool) (hb:b=true↔FitP x n):PC 34 [.p (ZE x),.p (.int .i64 n)] (.bool b):=by
 have w1:=hw.1.1;have w2:=hw.1.2.2.1;have w3:=hw.2.1;have w4:=hw.2.2.2.1;have w5:=hw.2.2.2.2.2.1;have w6:=hw.2.2.2.2.2.2.2.1
 suffices hh:ACalls Tryz.prog 34 [.p (ZE x),.p (.int .i64 n)] [] fun y H'=> ∃b:Bool,(b=true↔FitP x n)/\y= .p (.bool b)/\H'= [] by
  grind
 refine ACalls.pureE (Ye Tryz.func34 rfl ZiA (Zg [] _ _ _ _ ?_));simp (disch:=omega) only [Tryz.f34,go_sem,seval];refine gT ?_ ?_<;>intro h1<;>simp (disch:=omega) only [Sh.out h1,go_sem,seval,↓reduceIte]
 ·refine gT ?_ ?_<;>intro h2<;>simp (disch:=omega) only [Sh.out h2,go_sem,seval,↓reduceIte]
  ·refine gT ?_ ?_<;>intro h3<;>simp (disch:=omega) only [Sh.out h3,go_sem,seval,↓reduceIte]
   ·refine gT ?_ ?_<;>intro h4<;>simp (disch:=omega) only [Sh.out h4,go_sem,seval,↓reduceIte]
    ·refine gT ?_ ?_<;>intro h5<;>simp (disch:=omega) only [Sh.out h5,go_sem,seval,↓reduceIte]
     ·refine gT ?_ ?_<;>intro h6<;>simp (disch:=omega) only [Sh.out h6,go_sem,seval,↓reduceIte]
      ·refine ((zH x hw).frozenE).useV fun m hm=> ?_;refine Zc ?_;refine ⟨decide (m.length=0),?_,Zb⟩;have:=hm.emp;rw [Zp,Cb,this];exact ⟨fun h=>⟨Za,Za,Za,Za,Za,Za,h⟩,fun h=>h.2.2.2.2.2.2⟩
      ·exact ⟨false,by simp [FitP];omega,rfl⟩
     ·exact ⟨false,by simp [FitP];omega,rfl⟩
    ·exact ⟨false,by simp [FitP];omega,rfl⟩
   ·exact ⟨false,by simp [FitP];omega,rfl⟩
  ·exact ⟨false,by simp [FitP];omega,rfl⟩
 ·exact ⟨false,by simp [FitP];omega,rfl⟩
theorem pK {α:Type} [Inhabited α] {p:α->Bool} {l:List α} {j k:Nat} (hjk:j<k) (hk:k<l.length) (h1:p (nth l j)=true) (h2:p (nth l k)=true):2<=l.countP p:=by
 have e:l=l.take k++l.drop k:=(Ak k l).symm;have c1:0<(l.take k).countP p:=Va.2 ⟨nth l j,ZU.2 ⟨j,by grind,by grind [Zi]⟩,h1⟩;have c2:0<(l.drop k).countP p:=Va.2 ⟨nth l k,ZU.2 ⟨0,by grind,by grind [Zi]⟩,h2⟩
 grind
end Go.Proofs.YtiigdaohjanidaaGreatDoor.K
