/- Declarations that the closing texts need, part 12: joined by tools/slim.py. -/
import Derived.Test.YthmplgaldjpgiaaGreatDoorZ11
import Derived.Test.YthmplgaldjpgiaaGreatDoorRows
namespace Go.Proofs.YthmplgaldjpgiaaGreatDoor.K
open Go Go.AM Go.Proofs
theorem ZpW : Tryz.prog.cellsOf 3=1:=by kernel_rfl
theorem ZFo : Tryz.prog.cellsOf 4=1:=by kernel_rfl
theorem ZC3 : Tryz.prog.cellsOf 9=1:=by kernel_rfl
theorem ZzD : Tryz.prog.cellsOf 22=1:=by kernel_rfl
theorem ZAG : Tryz.prog.cellsOf 23=1:=by kernel_rfl
theorem Zqu : Tryz.prog.cellsOf 25=2:=by kernel_rfl
theorem ZzI : pcs Tryz.prog 25=some [(0,22),(1,23)]:=by kernel_rfl
theorem ZAy : Tryz.prog.cellsOf 26=1:=by kernel_rfl
theorem ZAm : Tryz.prog.cellsOf 27=1:=by kernel_rfl
theorem ZzF : Tryz.prog.cellsOf 28=1:=by kernel_rfl
theorem ZCc : Tryz.prog.cellsOf 30=6:=by kernel_rfl
theorem Zrk : pcs Tryz.prog 30=some [(0,25),(2,26),(3,27),(4,28),(5,28)]:=by kernel_rfl
theorem ZsJ : Tryz.prog.cellsOf 34=1:=by kernel_rfl
theorem Zwg : Tryz.prog.cellsOf 66=4:=by kernel_rfl
theorem ZAr : pcs Tryz.prog 66=some [(0,3),(1,3),(2,3),(3,3)]:=by kernel_rfl
theorem ZzL : Tryz.prog.cellsOf 68=16:=by kernel_rfl
theorem Zra : pcs Tryz.prog 68=some [(0,9),(1,34),(2,66),(6,66),(10,3),(11,3),(12,3),(13,3),(14,3),(15,4)]:=by kernel_rfl
theorem ZzT : Tryz.prog.cellsOf 93=14:=by kernel_rfl
theorem Zv2 : pcs Tryz.prog 93=some [(0,9),(1,3),(2,3),(3,3),(4,34),(5,3),(6,3),(7,3),(8,3),(9,3),(10,3),(11,3),(12,3),(13,3)]:=by kernel_rfl
theorem Zrm : Tryz.prog.cellsOf 192=1:=by kernel_rfl
theorem Zsa : Tryz.prog.cellsOf 194=6:=by kernel_rfl
theorem ZmB : pcs Tryz.prog 194=some [(0,3),(1,3),(2,3),(3,3),(4,192),(5,192)]:=by kernel_rfl
theorem ZwH : Tryz.prog.cellsOf 197=2:=by kernel_rfl
theorem Zl4 : pcs Tryz.prog 197=some [(0,3),(1,3)]:=by kernel_rfl
theorem Zvr : Tryz.prog.cellsOf 202=2:=by kernel_rfl
theorem Zmk : pcs Tryz.prog 202=some [(0,3),(1,3)]:=by kernel_rfl
set_option linter.unusedVariables false
set_option linter.unusedSimpArgs false
mutual
theorem ZiN {H:Type} :(d:DataW H)->dsz d<=Rows.uptoBulk d
 | .lit l=>by cases l<;>simp [dsz,Rows.uptoBulk]
 | .nil=>by simp [dsz,Rows.uptoBulk]
 | .ptr d=>by have:=ZiN d;simp only [dsz,Rows.uptoBulk];omega
 | .slice es sp=>by have:=Jo es;have:=Jo sp;simp only [dsz,Rows.uptoBulk];omega
 | .agg ps=>by have:=Jo ps;simp only [dsz,Rows.uptoBulk];omega
 | .iface _ d=>by have:=ZiN d;simp only [dsz,Rows.uptoBulk];omega
 | .map es=>by simp only [dsz,Rows.uptoBulk];omega
 | .held h=>by simp [dsz,Rows.uptoBulk]
theorem Jo {H:Type} :(l:List (DataW H))->Zby l<=Rows.uptoBulkAll l
 | []=>by simp [Zby,Rows.uptoBulkAll]
 | d::r=>by have:=ZiN d;have:=Jo r;simp only [Zby,Rows.uptoBulkAll];omega
end
theorem ZeY {H:Type} {l:List (DataW H)} (h:Rows.uptoSmall H l=true):Zby l<=1048576:=by
 have h1:=Jo l;have h2:Rows.uptoBulkAll l<=1048576:=of_decide_eq_true h;omega
abbrev I64 (n:Int):Prop:= -9223372036854775808<=n/\n<=9223372036854775807
def eI (n:Int):PV:= .int .i64 n
def eB (b:Bool):PV:= .bool b
def eS (s:List UInt8):PV:= .str s
def eP (p:Int×Int):PV:= .agg [.int .i64 p.1,.int .i64 p.2]
@[go_sem] theorem ZFf (n:Int):eI n= .int .i64 n:=Eq.trans rfl rfl
@[go_sem] theorem ZFb (b:Bool):eB b= .bool b:=Eq.trans rfl rfl
@[go_sem] theorem ZF9 (s:List UInt8):eS s= .str s:=Eq.trans rfl rfl
@[go_sem] theorem ZFF (p:Int×Int):eP p= .agg [.int .i64 p.1,.int .i64 p.2]:=Eq.trans rfl rfl
@[go_sem] theorem ZD3 (l:List Int):okE 1 (l.map eI)=true:=Ju fun _=>rfl
@[go_sem] theorem ZzN (l:List Bool):Zcd 1 (l.map eB)=true:=Qr (f:=eB) (S:=1) (fun _=>rfl) l
@[go_sem] theorem ZCR (l:List Bool):okE 1 (l.map eB)=true:=Ju fun _=>rfl
theorem Zet {B xs} (h: ∀y∈xs,FitV Tryz.prog B 3 y): ∃l:List Int,xs=l.map eI/\ ∀n∈l,I64 n :=
 YQ (f:=eI) fun y hy=>by
  obtain ⟨n,rfl,w⟩:=ZoV Tryz.underlying3 (h y hy);exact ⟨n,rfl,ZZ w⟩
theorem ZkC {B xs} (h: ∀y∈xs,FitV Tryz.prog B 9 y): ∃l:List (List UInt8),xs=l.map eS/\ ∀s∈l,s.length<=B :=
 YQ (f:=eS) fun y hy=>by
  obtain ⟨s,rfl,w,_⟩:=ZnM Tryz.underlying9 (h y hy);exact ⟨s,rfl,w⟩
theorem ZCe {α:Type} {l:List α} (h:l.length=2): ∃a0 a1,l= [a0,a1]:=by
 match l,h with | [a0,a1],_=>exact ⟨a0,a1,rfl⟩
theorem ZDk {α:Type} {l:List α} (h:l.length=6): ∃a0 a1 a2 a3 a4 a5,l= [a0,a1,a2,a3,a4,a5]:=by
 match l,h with | [a0,a1,a2,a3,a4,a5],_=>exact ⟨a0,a1,a2,a3,a4,a5,rfl⟩
theorem ZA7 {α:Type} {l:List α} (h:l.length=14): ∃a0 a1 a2 a3 a4 a5 a6 a7 a8 a9 a10 a11 a12 a13,l= [a0,a1,a2,a3,a4,a5,a6,a7,a8,a9,a10,a11,a12,a13]:=by
 match l,h with | [a0,a1,a2,a3,a4,a5,a6,a7,a8,a9,a10,a11,a12,a13],_=>exact ⟨a0,a1,a2,a3,a4,a5,a6,a7,a8,a9,a10,a11,a12,a13,rfl⟩
theorem ZFW {α:Type} {l:List α} (h:l.length=4): ∃a0 a1 a2 a3,l= [a0,a1,a2,a3]:=by
 match l,h with | [a0,a1,a2,a3],_=>exact ⟨a0,a1,a2,a3,rfl⟩
theorem ZCF {α:Type} {l:List α} (h:l.length=16): ∃a0 a1 a2 a3 a4 a5 a6 a7 a8 a9 a10 a11 a12 a13 a14 a15,l= [a0,a1,a2,a3,a4,a5,a6,a7,a8,a9,a10,a11,a12,a13,a14,a15]:=by
 match l,h with | [a0,a1,a2,a3,a4,a5,a6,a7,a8,a9,a10,a11,a12,a13,a14,a15],_=>exact ⟨a0,a1,a2,a3,a4,a5,a6,a7,a8,a9,a10,a11,a12,a13,a14,a15,rfl⟩
structure Pt where
 t:Int
 a:Int
 deriving Inhabited
def cPt (x:Pt):List PV:= [.int .i64 x.t,.int .i64 x.a]
def ePt (x:Pt):PV:= .agg [.int .i64 x.t,.int .i64 x.a]
@[go_sem] theorem ZEB (x:Pt):ePt x= .agg [.int .i64 x.t,.int .i64 x.a]:=Eq.trans rfl rfl
def Pt.wf (B:Nat) (x:Pt):Prop:=I64 x.t/\I64 x.a
theorem ZmS {B m cs} (h:Wv Tryz.prog B m 197 cs): ∃x:Pt,cs=cPt x/\x.wf B:=by
 obtain ⟨h1,m',h2⟩:=YD Zl4 ZwH h;obtain ⟨a0,a1,rfl⟩:=ZCe h1;obtain ⟨n0,e0,w0⟩:=Zw Tryz.underlying3 (h2 (0,3) (by simp));obtain ⟨n1,e1,w1⟩:=Zw Tryz.underlying3 (h2 (1,3) (by simp));simp [ZpW] at e0 e1;subst e0;subst e1;exact ⟨⟨n0,n1⟩,rfl,ZZ w0,ZZ w1⟩
theorem Zmm {B v} (h:FitV Tryz.prog B 197 v): ∃x:Pt,v=ePt x/\x.wf B:=by
 obtain ⟨k,cs,h,e⟩:=h.out;obtain ⟨x,rfl,hw⟩:=ZmS h;exact ⟨x,e.trans (by rw [Kz,if_pos (YL Zl4)];rfl),hw⟩
structure Arc where
 src:Int
 dst:Int
 prof:Int
 miles:Int
 travel_c:Bool
 travel:List (Pt)
 slow_c:Bool
 slow:List (Pt)
 deriving Inhabited
def ZFV (x:Arc):List PV:= [.int .i64 x.src,.int .i64 x.dst,.int .i64 x.prof,.int .i64 x.miles,.list x.travel_c (x.travel.map ePt),.list x.slow_c (x.slow.map ePt)]
def Qh (x:Arc):PV:= .agg [.int .i64 x.src,.int .i64 x.dst,.int .i64 x.prof,.int .i64 x.miles,.list x.travel_c (x.travel.map ePt),.list x.slow_c (x.slow.map ePt)]
@[go_sem] theorem ZzQ (x:Arc):Qh x= .agg [.int .i64 x.src,.int .i64 x.dst,.int .i64 x.prof,.int .i64 x.miles,.list x.travel_c (x.travel.map ePt),.list x.slow_c (x.slow.map ePt)]:=Eq.trans rfl rfl
def Arc.wf (B:Nat) (x:Arc):Prop:=I64 x.src/\I64 x.dst/\I64 x.prof/\I64 x.miles/\x.travel.length<=B/\(∀y∈x.travel,Pt.wf B y)/\x.slow.length<=B/\(∀y∈x.slow,Pt.wf B y)
theorem ZjQ {B m cs} (h:Wv Tryz.prog B m 194 cs): ∃x:Arc,cs=ZFV x/\x.wf B:=by
 obtain ⟨h1,m',h2⟩:=YD ZmB Zsa h;obtain ⟨a0,a1,a2,a3,a4,a5,rfl⟩:=ZDk h1;obtain ⟨n0,e0,w0⟩:=Zw Tryz.underlying3 (h2 (0,3) (by simp));obtain ⟨n1,e1,w1⟩:=Zw Tryz.underlying3 (h2 (1,3) (by simp));obtain ⟨n2,e2,w2⟩:=Zw Tryz.underlying3 (h2 (2,3) (by simp));obtain ⟨n3,e3,w3⟩:=Zw Tryz.underlying3 (h2 (3,3) (by simp));obtain ⟨y4,e4,w4,_,z4⟩:=Xh Tryz.underlying192 (h2 (4,192) (by simp));obtain ⟨n4,rfl,u4⟩:=YQ (f:=ePt) fun y hy=>Zmm (z4 y hy);obtain ⟨y5,e5,w5,_,z5⟩:=Xh Tryz.underlying192 (h2 (5,192) (by simp))
 obtain ⟨n5,rfl,u5⟩:=YQ (f:=ePt) fun y hy=>Zmm (z5 y hy);simp [Zrm,ZpW] at e0 e1 e2 e3 e4 e5;subst e0;subst e1;subst e2;subst e3;subst e4;subst e5;exact ⟨⟨n0,n1,n2,n3,false,n4,false,n5⟩,rfl,ZZ w0,ZZ w1,ZZ w2,ZZ w3,by simpa using w4,u4,by simpa using w5,u5⟩
theorem ZnY {B v} (h:FitV Tryz.prog B 194 v): ∃x:Arc,v=Qh x/\x.wf B:=by
 obtain ⟨k,cs,h,e⟩:=h.out;obtain ⟨x,rfl,hw⟩:=ZjQ h;exact ⟨x,e.trans (by rw [Kz,if_pos (YL ZmB)];rfl),hw⟩
structure Net where
 places_c:Bool
 places:List (List UInt8)
 arcs_c:Bool
 arcs:List (Arc)
 deriving Inhabited
def ZEA (x:Net):List PV:= [.list x.places_c (x.places.map eS),.list x.arcs_c (x.arcs.map Qh)]
def Zds (x:Net):PV:= .agg [.list x.places_c (x.places.map eS),.list x.arcs_c (x.arcs.map Qh)]
@[go_sem] theorem ZBM (x:Net):Zds x= .agg [.list x.places_c (x.places.map eS),.list x.arcs_c (x.arcs.map Qh)]:=Eq.trans rfl rfl
def Net.wf (B:Nat) (x:Net):Prop:=x.places.length<=B/\(∀s∈x.places,s.length<=B)/\x.arcs.length<=B/\(∀y∈x.arcs,Arc.wf B y)
theorem Zk9 {B m cs} (h:Wv Tryz.prog B m 25 cs): ∃x:Net,cs=ZEA x/\x.wf B:=by
 obtain ⟨h1,m',h2⟩:=YD ZzI Zqu h;obtain ⟨a0,a1,rfl⟩:=ZCe h1;obtain ⟨y0,e0,w0,_,z0⟩:=Xh Tryz.underlying22 (h2 (0,22) (by simp));obtain ⟨n0,rfl,u0⟩:=ZkC z0;obtain ⟨y1,e1,w1,_,z1⟩:=Xh Tryz.underlying23 (h2 (1,23) (by simp));obtain ⟨n1,rfl,u1⟩:=YQ (f:=Qh) fun y hy=>ZnY (z1 y hy);simp [ZAG,ZzD] at e0 e1;subst e0;subst e1;exact ⟨⟨false,n0,false,n1⟩,rfl,by simpa using w0,u0,by simpa using w1,u1⟩
structure Typ where
 name:List UInt8
 count:Int
 src:Int
 dst:Int
 cap_c:Bool
 cap:List (Int)
 skills:Int
 prof:Int
 opn:Int
 cls:Int
 drive:Int
 rest:Int
 fixed:Int
 perMile:Int
 perTick:Int
 deriving Inhabited
def JC (x:Typ):List PV:= [.str x.name,.int .i64 x.count,.int .i64 x.src,.int .i64 x.dst,.list x.cap_c (x.cap.map eI),.int .i64 x.skills,.int .i64 x.prof,.int .i64 x.opn,.int .i64 x.cls,.int .i64 x.drive,.int .i64 x.rest,.int .i64 x.fixed,.int .i64 x.perMile,.int .i64 x.perTick]
def U7 (x:Typ):PV:= .agg [.str x.name,.int .i64 x.count,.int .i64 x.src,.int .i64 x.dst,.list x.cap_c (x.cap.map eI),.int .i64 x.skills,.int .i64 x.prof,.int .i64 x.opn,.int .i64 x.cls,.int .i64 x.drive,.int .i64 x.rest,.int .i64 x.fixed,.int .i64 x.perMile,.int .i64 x.perTick]
@[go_sem] theorem ZBy (x:Typ):U7 x= .agg [.str x.name,.int .i64 x.count,.int .i64 x.src,.int .i64 x.dst,.list x.cap_c (x.cap.map eI),.int .i64 x.skills,.int .i64 x.prof,.int .i64 x.opn,.int .i64 x.cls,.int .i64 x.drive,.int .i64 x.rest,.int .i64 x.fixed,.int .i64 x.perMile,.int .i64 x.perTick]:=Eq.trans rfl rfl
def Typ.wf (B:Nat) (x:Typ):Prop:=x.name.length<=B/\I64 x.count/\I64 x.src/\I64 x.dst/\x.cap.length<=B/\(∀n∈x.cap,I64 n)/\I64 x.skills/\I64 x.prof/\I64 x.opn/\I64 x.cls/\I64 x.drive/\I64 x.rest/\I64 x.fixed/\I64 x.perMile/\I64 x.perTick
theorem ZjL {B m cs} (h:Wv Tryz.prog B m 93 cs): ∃x:Typ,cs=JC x/\x.wf B:=by
 obtain ⟨h1,m',h2⟩:=YD Zv2 ZzT h;obtain ⟨a0,a1,a2,a3,a4,a5,a6,a7,a8,a9,a10,a11,a12,a13,rfl⟩:=ZA7 h1;obtain ⟨n0,e0,w0,_⟩:=KA Tryz.underlying9 (h2 (0,9) (by simp));obtain ⟨n1,e1,w1⟩:=Zw Tryz.underlying3 (h2 (1,3) (by simp));obtain ⟨n2,e2,w2⟩:=Zw Tryz.underlying3 (h2 (2,3) (by simp));obtain ⟨n3,e3,w3⟩:=Zw Tryz.underlying3 (h2 (3,3) (by simp));obtain ⟨y4,e4,w4,_,z4⟩:=Xh Tryz.underlying34 (h2 (4,34) (by simp));obtain ⟨n4,rfl,u4⟩:=Zet z4;obtain ⟨n5,e5,w5⟩:=Zw Tryz.underlying3 (h2 (5,3) (by simp))
 obtain ⟨n6,e6,w6⟩:=Zw Tryz.underlying3 (h2 (6,3) (by simp));obtain ⟨n7,e7,w7⟩:=Zw Tryz.underlying3 (h2 (7,3) (by simp));obtain ⟨n8,e8,w8⟩:=Zw Tryz.underlying3 (h2 (8,3) (by simp));obtain ⟨n9,e9,w9⟩:=Zw Tryz.underlying3 (h2 (9,3) (by simp));obtain ⟨n10,e10,w10⟩:=Zw Tryz.underlying3 (h2 (10,3) (by simp));obtain ⟨n11,e11,w11⟩:=Zw Tryz.underlying3 (h2 (11,3) (by simp));obtain ⟨n12,e12,w12⟩:=Zw Tryz.underlying3 (h2 (12,3) (by simp));obtain ⟨n13,e13,w13⟩:=Zw Tryz.underlying3 (h2 (13,3) (by simp));simp [ZsJ,ZpW,ZC3] at e0 e1 e2 e3 e4 e5 e6 e7 e8 e9 e10 e11 e12 e13
 subst e0;subst e1;subst e2;subst e3;subst e4;subst e5;subst e6;subst e7;subst e8;subst e9;subst e10;subst e11;subst e12;subst e13;exact ⟨⟨n0,n1,n2,n3,false,n4,n5,n6,n7,n8,n9,n10,n11,n12,n13⟩,rfl,w0,ZZ w1,ZZ w2,ZZ w3,by simpa using w4,u4,ZZ w5,ZZ w6,ZZ w7,ZZ w8,ZZ w9,ZZ w10,ZZ w11,ZZ w12,ZZ w13⟩
theorem Zoc {B v} (h:FitV Tryz.prog B 93 v): ∃x:Typ,v=U7 x/\x.wf B:=by
 obtain ⟨k,cs,h,e⟩:=h.out;obtain ⟨x,rfl,hw⟩:=ZjL h;exact ⟨x,e.trans (by rw [Kz,if_pos (YL Zv2)];rfl),hw⟩
structure Stp where
 place:Int
 opn:Int
 cls:Int
 serv:Int
 deriving Inhabited
def JM (x:Stp):List PV:= [.int .i64 x.place,.int .i64 x.opn,.int .i64 x.cls,.int .i64 x.serv]
def Zhm (x:Stp):PV:= .agg [.int .i64 x.place,.int .i64 x.opn,.int .i64 x.cls,.int .i64 x.serv]
@[go_sem] theorem ZzG (x:Stp):Zhm x= .agg [.int .i64 x.place,.int .i64 x.opn,.int .i64 x.cls,.int .i64 x.serv]:=Eq.trans rfl rfl
def Stp.wf (B:Nat) (x:Stp):Prop:=I64 x.place/\I64 x.opn/\I64 x.cls/\I64 x.serv
theorem ZeL {B m cs} (h:Wv Tryz.prog B m 66 cs): ∃x:Stp,cs=JM x/\x.wf B:=by
 obtain ⟨h1,m',h2⟩:=YD ZAr Zwg h;obtain ⟨a0,a1,a2,a3,rfl⟩:=ZFW h1;obtain ⟨n0,e0,w0⟩:=Zw Tryz.underlying3 (h2 (0,3) (by simp));obtain ⟨n1,e1,w1⟩:=Zw Tryz.underlying3 (h2 (1,3) (by simp));obtain ⟨n2,e2,w2⟩:=Zw Tryz.underlying3 (h2 (2,3) (by simp));obtain ⟨n3,e3,w3⟩:=Zw Tryz.underlying3 (h2 (3,3) (by simp));simp [ZpW] at e0 e1 e2 e3;subst e0;subst e1;subst e2;subst e3;exact ⟨⟨n0,n1,n2,n3⟩,rfl,ZZ w0,ZZ w1,ZZ w2,ZZ w3⟩
theorem ZvV {B v} (h:FitV Tryz.prog B 202 v): ∃x:Int×Int,v=eP x/\I64 x.1/\I64 x.2:=by
 obtain ⟨k,cs,h,e⟩:=h.out;obtain ⟨h1,m',h2⟩:=YD Zmk Zvr h;obtain ⟨a,b,rfl⟩:=ZCe h1;obtain ⟨n0,e0,w0⟩:=Zw Tryz.underlying3 (h2 (0,3) (by simp));obtain ⟨n1,e1,w1⟩:=Zw Tryz.underlying3 (h2 (1,3) (by simp));simp [ZpW] at e0 e1;subst e0;subst e1;exact ⟨(n0,n1),e.trans (by rw [Kz,if_pos (YL Zmk)];rfl),ZZ w0,ZZ w1⟩
structure Ord where
 name:List UInt8
 load_c:Bool
 load:List (Int)
 pick:Stp
 drp:Stp
 skills:Int
 penalty:Int
 split:Int
 last:Int
 now:Int
 off:Bool
 deriving Inhabited
def ZFk (x:Ord):List PV:= [.str x.name,.list x.load_c (x.load.map eI),.int .i64 x.pick.place,.int .i64 x.pick.opn,.int .i64 x.pick.cls,.int .i64 x.pick.serv,.int .i64 x.drp.place,.int .i64 x.drp.opn,.int .i64 x.drp.cls,.int .i64 x.drp.serv,.int .i64 x.skills,.int .i64 x.penalty,.int .i64 x.split,.int .i64 x.last,.int .i64 x.now,.bool x.off]
def Ug (x:Ord):PV:= .agg [.str x.name,.list x.load_c (x.load.map eI),.int .i64 x.pick.place,.int .i64 x.pick.opn,.int .i64 x.pick.cls,.int .i64 x.pick.serv,.int .i64 x.drp.place,.int .i64 x.drp.opn,.int .i64 x.drp.cls,.int .i64 x.drp.serv,.int .i64 x.skills,.int .i64 x.penalty,.int .i64 x.split,.int .i64 x.last,.int .i64 x.now,.bool x.off]
@[go_sem] theorem ZAD (x:Ord):Ug x= .agg [.str x.name,.list x.load_c (x.load.map eI),.int .i64 x.pick.place,.int .i64 x.pick.opn,.int .i64 x.pick.cls,.int .i64 x.pick.serv,.int .i64 x.drp.place,.int .i64 x.drp.opn,.int .i64 x.drp.cls,.int .i64 x.drp.serv,.int .i64 x.skills,.int .i64 x.penalty,.int .i64 x.split,.int .i64 x.last,.int .i64 x.now,.bool x.off]:=Eq.trans rfl rfl
def Ord.wf (B:Nat) (x:Ord):Prop:=x.name.length<=B/\x.load.length<=B/\(∀n∈x.load,I64 n)/\Stp.wf B x.pick/\Stp.wf B x.drp/\I64 x.skills/\I64 x.penalty/\I64 x.split/\I64 x.last/\I64 x.now
theorem ZjG {B m cs} (h:Wv Tryz.prog B m 68 cs): ∃x:Ord,cs=ZFk x/\x.wf B:=by
 obtain ⟨h1,m',h2⟩:=YD Zra ZzL h;obtain ⟨a0,a1,a2,a3,a4,a5,a6,a7,a8,a9,a10,a11,a12,a13,a14,a15,rfl⟩:=ZCF h1;obtain ⟨n0,e0,w0,_⟩:=KA Tryz.underlying9 (h2 (0,9) (by simp));obtain ⟨y1,e1,w1,_,z1⟩:=Xh Tryz.underlying34 (h2 (1,34) (by simp));obtain ⟨n1,rfl,u1⟩:=Zet z1;obtain ⟨n2,e2,w2⟩:=ZeL (h2 (2,66) (by simp));obtain ⟨n3,e3,w3⟩:=ZeL (h2 (6,66) (by simp));obtain ⟨n4,e4,w4⟩:=Zw Tryz.underlying3 (h2 (10,3) (by simp));obtain ⟨n5,e5,w5⟩:=Zw Tryz.underlying3 (h2 (11,3) (by simp));obtain ⟨n6,e6,w6⟩:=Zw Tryz.underlying3 (h2 (12,3) (by simp))
 obtain ⟨n7,e7,w7⟩:=Zw Tryz.underlying3 (h2 (13,3) (by simp));obtain ⟨n8,e8,w8⟩:=Zw Tryz.underlying3 (h2 (14,3) (by simp));obtain ⟨n9,e9⟩:=ZhK Tryz.underlying4 (h2 (15,4) (by simp));simp [ZsJ,Zwg,ZFo,ZpW,ZC3,JM,JM] at e0 e1 e2 e3 e4 e5 e6 e7 e8 e9;subst e0;subst e1;obtain ⟨rfl,rfl,rfl,rfl⟩:=e2;obtain ⟨rfl,rfl,rfl,rfl⟩:=e3;subst e4;subst e5;subst e6;subst e7;subst e8;subst e9;exact ⟨⟨n0,false,n1,n2,n3,n4,n5,n6,n7,n8,n9⟩,rfl,w0,by simpa using w1,u1,w2,w3,ZZ w4,ZZ w5,ZZ w6,ZZ w7,ZZ w8⟩
theorem Znk {B v} (h:FitV Tryz.prog B 68 v): ∃x:Ord,v=Ug x/\x.wf B:=by
 obtain ⟨k,cs,h,e⟩:=h.out;obtain ⟨x,rfl,hw⟩:=ZjG h;exact ⟨x,e.trans (by rw [Kz,if_pos (YL Zra)];rfl),hw⟩
structure Inst where
 net:Net
 types_c:Bool
 types:List (Typ)
 orders_c:Bool
 orders:List (Ord)
 apart_c:Bool
 apart:List (Int×Int)
 before_c:Bool
 before:List (Int×Int)
 deriving Inhabited
def ZBC (x:Inst):List PV:= [.list x.net.places_c (x.net.places.map eS),.list x.net.arcs_c (x.net.arcs.map Qh),.list x.types_c (x.types.map U7),.list x.orders_c (x.orders.map Ug),.list x.apart_c (x.apart.map eP),.list x.before_c (x.before.map eP)]
def Zt (x:Inst):PV:= .agg [.list x.net.places_c (x.net.places.map eS),.list x.net.arcs_c (x.net.arcs.map Qh),.list x.types_c (x.types.map U7),.list x.orders_c (x.orders.map Ug),.list x.apart_c (x.apart.map eP),.list x.before_c (x.before.map eP)]
@[go_sem] theorem Zw2 (x:Inst):Zt x= .agg [.list x.net.places_c (x.net.places.map eS),.list x.net.arcs_c (x.net.arcs.map Qh),.list x.types_c (x.types.map U7),.list x.orders_c (x.orders.map Ug),.list x.apart_c (x.apart.map eP),.list x.before_c (x.before.map eP)]:=Eq.trans rfl rfl
def Inst.wf (B:Nat) (x:Inst):Prop:=Net.wf B x.net/\x.types.length<=B/\(∀y∈x.types,Typ.wf B y)/\x.orders.length<=B/\(∀y∈x.orders,Ord.wf B y)/\x.apart.length<=B/\(∀p∈x.apart,I64 p.1/\I64 p.2)/\x.before.length<=B/\(∀p∈x.before,I64 p.1/\I64 p.2)
theorem Zge {B m cs} (h:Wv Tryz.prog B m 30 cs): ∃x:Inst,cs=ZBC x/\x.wf B:=by
 obtain ⟨h1,m',h2⟩:=YD Zrk ZCc h;obtain ⟨a0,a1,a2,a3,a4,a5,rfl⟩:=ZDk h1;obtain ⟨n0,e0,w0⟩:=Zk9 (h2 (0,25) (by simp));obtain ⟨y1,e1,w1,_,z1⟩:=Xh Tryz.underlying26 (h2 (2,26) (by simp));obtain ⟨n1,rfl,u1⟩:=YQ (f:=U7) fun y hy=>Zoc (z1 y hy);obtain ⟨y2,e2,w2,_,z2⟩:=Xh Tryz.underlying27 (h2 (3,27) (by simp));obtain ⟨n2,rfl,u2⟩:=YQ (f:=Ug) fun y hy=>Znk (z2 y hy);obtain ⟨y3,e3,w3,_,z3⟩:=Xh Tryz.underlying28 (h2 (4,28) (by simp));obtain ⟨n3,rfl,u3⟩:=YQ (f:=eP) fun y hy=>ZvV (z3 y hy)
 obtain ⟨y4,e4,w4,_,z4⟩:=Xh Tryz.underlying28 (h2 (5,28) (by simp));obtain ⟨n4,rfl,u4⟩:=YQ (f:=eP) fun y hy=>ZvV (z4 y hy);simp [ZzF,ZAm,ZAy,Zqu,ZEA] at e0 e1 e2 e3 e4;obtain ⟨rfl,rfl⟩:=e0;subst e1;subst e2;subst e3;subst e4;exact ⟨⟨n0,false,n1,false,n2,false,n3,false,n4⟩,rfl,w0,by simpa using w1,u1,by simpa using w2,u2,by simpa using w3,u3,by simpa using w4,u4⟩
theorem Zlz {B v} (h:FitV Tryz.prog B 30 v): ∃x:Inst,v=Zt x/\x.wf B:=by
 obtain ⟨k,cs,h,e⟩:=h.out;obtain ⟨x,rfl,hw⟩:=Zge h;exact ⟨x,e.trans (by rw [Kz,if_pos (YL Zrk)];rfl),hw⟩
structure Vis where
 order:Int
 drp:Bool
 deriving Inhabited
def Z5 (x:Vis):PV:= .agg [.int .i64 x.order,.bool x.drp]
@[go_sem] theorem Zf5 (x:Vis):Z5 x= .agg [.int .i64 x.order,.bool x.drp]:=Eq.trans rfl rfl
@[go_sem] theorem Zu2 (l:List Vis):Zcd 2 (l.map Z5)=true:=Qr (f:=Z5) (S:=2) (fun _=>rfl) l
@[go_sem] theorem ZyE (l:List Vis):okE 2 (l.map Z5)=true:=Ju fun _=>rfl
structure Rte where
 typ:Int
 start:Int
 rests_c:Bool
 rests:List (Bool)
 visits_c:Bool
 visits:List (Vis)
 deriving Inhabited
def Wr (x:Rte):PV:= .agg [.int .i64 x.typ,.int .i64 x.start,.list x.rests_c (x.rests.map eB),.list x.visits_c (x.visits.map Z5)]
@[go_sem] theorem ZCr (x:Rte):Wr x= .agg [.int .i64 x.typ,.int .i64 x.start,.list x.rests_c (x.rests.map eB),.list x.visits_c (x.visits.map Z5)]:=Eq.trans rfl rfl
structure Tim where
 arr:Int
 beg:Int
 dep:Int
 rest:Bool
 deriving Inhabited
def eTim (x:Tim):PV:= .agg [.int .i64 x.arr,.int .i64 x.beg,.int .i64 x.dep,.bool x.rest]
@[go_sem] theorem ZAu (x:Tim):eTim x= .agg [.int .i64 x.arr,.int .i64 x.beg,.int .i64 x.dep,.bool x.rest]:=Eq.trans rfl rfl
@[go_sem] theorem ZxL (l:List Tim):okE 4 (l.map eTim)=true:=Ju fun _=>rfl
structure She where
 rest:Bool
 dep:Int
 times_c:Bool
 times:List (Tim)
 fin:Int
 miles:Int
 deriving Inhabited
def Zhg (x:She):PV:= .agg [.bool x.rest,.int .i64 x.dep,.list x.times_c (x.times.map eTim),.int .i64 x.fin,.int .i64 x.miles]
@[go_sem] theorem ZCx (x:She):Zhg x= .agg [.bool x.rest,.int .i64 x.dep,.list x.times_c (x.times.map eTim),.int .i64 x.fin,.int .i64 x.miles]:=Eq.trans rfl rfl
structure Sco where
 cost:Int
 moved:Int
 other:Int
 work:Int
 deriving Inhabited
def Zb9 (x:Sco):PV:= .agg [.int .i64 x.cost,.int .i64 x.moved,.int .i64 x.other,.int .i64 x.work]
@[go_sem] theorem ZBR (x:Sco):Zb9 x= .agg [.int .i64 x.cost,.int .i64 x.moved,.int .i64 x.other,.int .i64 x.work]:=Eq.trans rfl rfl
structure Pln where
 routes_c:Bool
 routes:List (Rte)
 unserved_c:Bool
 unserved:List (Int)
 deriving Inhabited
def JG (x:Pln):PV:= .agg [.list x.routes_c (x.routes.map Wr),.list x.unserved_c (x.unserved.map eI)]
@[go_sem] theorem ZAE (x:Pln):JG x= .agg [.list x.routes_c (x.routes.map Wr),.list x.unserved_c (x.unserved.map eI)]:=Eq.trans rfl rfl
structure Col where
 typ:Int
 set:Int
 price:Int
 route:Rte
 deriving Inhabited
def ZeS (x:Col):List PV:= [.int .i64 x.typ,.int .i64 x.set,.int .i64 x.price,.int .i64 x.route.typ,.int .i64 x.route.start,.list x.route.rests_c (x.route.rests.map eB),.list x.route.visits_c (x.route.visits.map Z5)]
def Xa (x:Col):PV:= .agg [.int .i64 x.typ,.int .i64 x.set,.int .i64 x.price,.int .i64 x.route.typ,.int .i64 x.route.start,.list x.route.rests_c (x.route.rests.map eB),.list x.route.visits_c (x.route.visits.map Z5)]
@[go_sem] theorem ZAf (x:Col):Xa x= .agg [.int .i64 x.typ,.int .i64 x.set,.int .i64 x.price,.int .i64 x.route.typ,.int .i64 x.route.start,.list x.route.rests_c (x.route.rests.map eB),.list x.route.visits_c (x.route.visits.map Z5)]:=Eq.trans rfl rfl
@[go_sem] theorem Zso (l:List Col):Zcd 7 (l.map Xa)=true:=Qr (f:=Xa) (S:=7) (fun _=>rfl) l
theorem own : ownKnob Tryz.prog.godebug=none:=by kernel_rfl
theorem ZnA : laidOutB Tryz.prog=true:=by kernel_rfl
abbrev Flt := Int×List UInt8
def eF (f:Flt):PV:= .agg [.int .i64 f.1,.str f.2]
@[go_sem] theorem ZE4 (f:Flt):eF f= .agg [.int .i64 f.1,.str f.2]:=Eq.trans rfl rfl
@[go_sem] theorem ZDz (l:List Flt):okE 2 (l.map eF)=true:=Ju fun _=>rfl
def dec (n:Nat):List UInt8:=if h:n<10 then [UInt8.ofNat (48+n)] else dec (n / 10)++ [UInt8.ofNat (48+n%10)]
termination_by n
decreasing_by omega
theorem ZgD : ∀(k n:Nat),n<k->(dec n).length<=n+1:=by
 intro k
 induction k with
 | zero=>intro n h;omega
 | succ k ih =>
  intro n h;rw [dec]
  split
  ·simp
  ·have:=ih (n / 10) (by omega);simp;omega
theorem Uj : ∀(d n:Nat),n<10^(d+1)->(dec n).length<=d+1:=by
 intro d
 induction d with
 | zero=>intro n h;rw [dec,dif_pos (by omega)];simp
 | succ d ih =>
  intro n h;rw [dec]
  split
  ·simp
  ·have:=ih (n / 10) (by rw [Nat.div_lt_iff_lt_mul (by omega)];rw [Nat.pow_succ] at h;exact h);simp;omega
def Zca (n:Int):List UInt8:=if n<0 then 45::dec n.natAbs else dec n.natAbs
theorem WR (n:Int) (h:I64 n):(Zca n).length<=20:=by
 have h1:n.natAbs<10^(18+1):=by omega
 have:=Uj 18 n.natAbs h1;unfold Zca
 split<;>simp<;>omega
structure FR {α:Type} (p:α->Prop) (C:Prop) (b:Nat) (l:List α):Prop where
 len:l.length<=b
 emp:l= []↔C
 all: ∀x∈l,p x
theorem FR.nil {α:Type} {p:α->Prop} {C:Prop} {b:Nat} (h:C):FR p C b []:=⟨by simp,by simp [h],by simp⟩
theorem FR.no {α:Type} {p:α->Prop} {C c:Prop} {b:Nat} {l:List α} (h:FR p C b l) (hc:c):FR p (C/\c) (b+1) l:=⟨by have:=h.len;omega,by rw [h.emp];simp [hc],h.all⟩
theorem FR.yes {α:Type} {p:α->Prop} {C c:Prop} {b:Nat} {l:List α} {x:α} (h:FR p C b l) (hc: ¬c) (hx:p x):FR p (C/\c) (b+1) (l++ [x]) :=
 ⟨by have:=h.len;simp;omega,by simp [hc],fun y hy=>by
  rcases List.mem_append.1 hy with hy | hy
  ·exact h.all y hy
  ·simp at hy;subst hy;exact hx⟩
theorem FR.app {α:Type} {p:α->Prop} {C D:Prop} {b d:Nat} {l m:List α} (h:FR p C b l) (k:FR p D d m):FR p (C/\D) (b+d) (l++m) :=
 ⟨by have:=h.len;have:=k.len;simp;omega,by rw [List.append_eq_nil_iff,h.emp,k.emp],fun y hy=>by
  rcases List.mem_append.1 hy with hy | hy
  ·exact h.all y hy
  ·exact k.all y hy⟩
theorem FR.to {α:Type} {p:α->Prop} {C D:Prop} {b d:Nat} {l:List α} (h:FR p C b l) (hb:b<=d) (hc:C↔D):FR p D d l:=⟨Nat.le_trans h.len hb,h.emp.trans hc,h.all⟩
theorem Zi {p:Nat->Prop} {k:Nat} :(∀j,j<k+1->p j)↔((∀j,j<k->p j)/\p k) :=
 ⟨fun h=>⟨fun j hj=>h j (by omega),h k (by omega)⟩,fun h j hj=>by
  rcases Nat.lt_or_ge j k with h1 | h1
  ·exact h.1 j h1
  ·have:j=k:=by omega
   rw [this];exact h.2⟩
def WH (c:UInt8):Bool:=decide (48<=c.toNat/\c.toNat<=57)
def Wn (c:UInt8):Bool:=decide (97<=c.toNat/\c.toNat<=122)||decide (65<=c.toNat/\c.toNat<=90)||decide (c.toNat=95)
def nameOk (s:List UInt8):Bool:=decide (1<=s.length)&&decide (s.length<=16)&& !WH (nth s 0)&&s.all fun c=>Wn c||WH c
def rng (n lo hi:Int):Bool:=decide (lo<=n/\n<=hi)
def Zj4 (n:Int):Bool:=rng n 0 4096
def Zvg (l:List Pt) (i:Nat):Prop:=(0<=(nth l i).t/\(nth l i).t<=4096/\(nth l i).t<=(nth l i).a/\(nth l i).a<=(nth l i).t+4096)/\(0<i->(nth l (i-1)).t<(nth l i).t/\(nth l (i-1)).a<=(nth l i).a)
def Y2 (l:List Pt):Prop:=(1<=l.length/\l.length<=16)/\ ∀i,i<l.length->Zvg l i
def U1 (l:List Pt) (i:Nat):Prop:=Zj4 (nth l i).t=true/\Zj4 (nth l i).a=true/\(0<i->(nth l (i-1)).t<(nth l i).t)
def Zij (n:Net) (i:Nat):Prop :=
 ((((((0<=(nth n.arcs i).src/\(nth n.arcs i).src<n.places.length/\0<=(nth n.arcs i).dst/\(nth n.arcs i).dst<n.places.length) /\
 (0<=(nth n.arcs i).prof/\(nth n.arcs i).prof<=7/\0<=(nth n.arcs i).miles/\(nth n.arcs i).miles<=10000/\(nth n.arcs i).src≠(nth n.arcs i).dst)) /\
 (∀k,k<i-> ¬((nth n.arcs i).src=(nth n.arcs k).src/\(nth n.arcs i).dst=(nth n.arcs k).dst/\(nth n.arcs i).prof=(nth n.arcs k).prof))) /\
 Y2 (nth n.arcs i).travel)/\(nth n.arcs i).slow.length<=16)/\ ∀k,k<(nth n.arcs i).slow.length->U1 (nth n.arcs i).slow k)
def Zn3 (n:Net) (i:Nat):Prop:=nameOk (nth n.places i)=true/\ ∀k,k<i->nth n.places k≠nth n.places i
def V2 (n:Net):Prop:=n.places.length<=24/\ ∀i,i<n.places.length->Zn3 n i
def netOk (n:Net):Prop:=(V2 n/\n.arcs.length<=1024)/\ ∀i,i<n.arcs.length->Zij n i
set_option maxRecDepth 8000
set_option maxHeartbeats 4000000
theorem Zh0 (c:UInt8):PC 185 [.p (.int .u8 (c.toNat:Nat))] (.bool (WH c)):=by
 refine Za Tryz.func185 rfl ZvN ?_;simp (disch:=omega) only [Tryz.f185,go_sem,seval];refine gT ?_ ?_<;>intro h<;>simp (disch:=omega) only [Sh.out h,go_sem,seval]
 all_goals (simp [WH];first | done | omega | (rw [Bool.eq_iff_iff];simp;omega))
theorem ZjR (c:UInt8):PC 186 [.p (.int .u8 (c.toNat:Nat))] (.bool (Wn c)):=by
 refine Za Tryz.func186 rfl Zq2 ?_;simp (disch:=omega) only [Tryz.f186,go_sem,seval]
 repeat' (first | (refine ZO (fun hq=> ?_) (fun hq=> ?_)<;>(try simp only [decide_eq_true_eq,decide_eq_false_iff_not,Classical.not_not] at hq)<;>simp (disch:=omega) only [Sh.out hq,go_sem,seval]) | (refine ZQ (fun hq=> ?_) (fun hq=> ?_)<;>(try simp only [decide_eq_true_eq,decide_eq_false_iff_not,Classical.not_not] at hq)<;>simp (disch:=omega) only [Sh.out hq,go_sem,seval]) | (refine Z6 (fun hq=> ?_) (fun hq=> ?_)<;>(try simp only [decide_eq_true_eq,decide_eq_false_iff_not,Classical.not_not] at hq)<;>simp (disch:=omega) only [Sh.out hq,go_sem,seval]))
 all_goals (simp [Wn];first | done | omega | (rw [Bool.eq_iff_iff];simp;omega))
theorem Zih (s:List UInt8) (hs:s.length<=1048576):PC 118 [.p (.str s)] (.bool (nameOk s)):=by
 refine Za Tryz.func118 rfl ZuH ?_;simp (disch:=omega) only [Tryz.f118,go_sem,seval];refine gF ?_ ?_<;>intro h<;>simp (disch:=omega) only [Sh.out h,go_sem,seval]
 ·have: ¬ 1<=s.length:=by omega
  simp [nameOk,this]
 ·refine gF ?_ ?_<;>intro h2<;>simp (disch:=omega) only [Sh.out h2,go_sem,seval]
  ·have: ¬s.length<=16:=by omega
   simp [nameOk,this]
  ·have g1:1<=s.length:=by omega
   have g2:s.length<=16:=by omega
   refine (Zh0 (nth s 0)).use ?_;simp (disch:=omega) only [go_sem,seval];refine cD ?_ ?_<;>intro h3<;>simp (disch:=omega) only [Sh.out h3,go_sem,seval]
   ·simp [nameOk,h3]
   ·refine Zf [0] (fun k:Nat=> [(3,.p (.int .i64 k))]) (fun _=> []) (fun k=>k<=s.length/\ ∀j,j<k->(Wn (nth s j)||WH (nth s j))=true) (fun k=>s.length-k) 0 (by simp) (Weak.mk ?_) ?_
    ·simp (disch:=omega) only [go_sem,seval]
    ·rintro k ⟨hk,hno⟩;simp (disch:=omega) only [go_sem,seval]
     have hall: ∀j,j<s.length->(Wn (nth s j)||WH (nth s j))=false->nameOk s=false:=fun j hj e=>by
      have:s.all (fun c=>Wn c||WH c)=false:=by
       rw [List.all_eq_false];exact ⟨nth s j,by rw [Ze hj];exact List.getElem_mem _,by rw [e];simp⟩
      simp [nameOk,this]
     refine cD ?_ ?_<;>intro h4<;>simp (disch:=omega) only [Sh.out h4,go_sem,seval]
     ·have hk2:k<s.length:=by omega
      refine (ZjR (nth s k)).use ?_;simp (disch:=omega) only [go_sem,seval];refine gT ?_ ?_<;>intro h5<;>simp (disch:=omega) only [Sh.out h5,go_sem,seval]
      ·refine (Zh0 (nth s k)).use ?_;simp (disch:=omega) only [go_sem,seval];refine cD ?_ ?_<;>intro h6<;>simp (disch:=omega) only [Sh.out h6,go_sem,seval]
       ·simp only [Bool.not_eq_true'] at h5 h6;rw [hall k hk2 (by rw [h5,h6];rfl)]
       ·simp only [Bool.not_eq_false'] at h6;exact ⟨k+1,⟨by omega,Zi.2 ⟨hno,by simp [h6]⟩⟩,by omega,wk⟩
      ·simp only [Bool.not_eq_false'] at h5;exact ⟨k+1,⟨by omega,Zi.2 ⟨hno,by simp [h5]⟩⟩,by omega,wk⟩
     ·have:s.all (fun c=>Wn c||WH c)=true:=by
       rw [List.all_eq_true];intro c hc;obtain ⟨j,hj,rfl⟩:=List.mem_iff_getElem.1 hc;rw [<- Ze hj];exact hno j (by omega)
      simp [nameOk,g1,g2,h3,this]
theorem Ux (n:Int) (hn:I64 n):PC 78 [.p (.int .i64 n)] (.str (Zca n)):=by
 refine Za Tryz.func78 rfl ZBF ?_;simp (disch:=omega) only [Tryz.f78,go_sem,seval]
 have h19:n.natAbs<10^(18+1):=by omega
 have hdl:=Uj 18 n.natAbs h19
 refine ZE [7] [0] (fun q:Int×List UInt8×Bool=> [(3,.p (.str q.2.1)),(4,.p (.int .i64 q.1)),(5,.p (.bool q.2.2))]) (fun _=> [])
  (fun q=>I64 q.1/\(q.2.2=true->dec q.1.natAbs++q.2.1=dec n.natAbs)/\(q.2.2=false->q.2.1=dec n.natAbs)) (fun q=>if q.2.2 then q.1.natAbs+1 else 0) (n,[],true) (by simp;omega) (Weak.mk ?_) ?_
 ·simp (disch:=omega) only [go_sem,seval]
 ·rintro ⟨m,s,again⟩ ⟨hm,h1,h2⟩;simp only at hm h1 h2;simp (disch:=omega) only [go_sem,seval]
  cases again with
  | false =>
   simp (disch:=omega) only [go_sem,seval];have h2:=h2 rfl
   have hl2:([45]:List UInt8).length+(dec n.natAbs).length<=9223372036854775807:=by simp;omega
   refine cD ?_ ?_<;>intro h3<;>simp (disch:=omega) only [Sh.out h3,go_sem,seval]
   ·simp (disch:=omega) only [Zca,h2,h3,ZjB hl2,go_sem,seval]
   ·simp (disch:=omega) only [Zca,h2,h3,go_sem,seval]
  | true =>
   have h1:=h1 rfl
   have hls:(dec m.natAbs).length+s.length=(dec n.natAbs).length:=by rw [<- h1];simp
   simp (disch:=omega) only [go_sem,seval]
   have e1:(m.tmod 10).natAbs=m.natAbs%10:=by rw [Int.natAbs_tmod];rfl
   have e2:(m.tdiv 10).natAbs=m.natAbs / 10:=by rw [Int.natAbs_tdiv];rfl
   have e3:m.tmod 10<10/\ -10<m.tmod 10:=⟨Int.tmod_lt_of_pos _ (by decide),by omega⟩;refine Zo [0,3,4] (fun _:Unit=> [(6,.p (.int .i64 ((m.natAbs%10:Nat):Int)))]) (fun _=> []) (fun _=>True) ?_ ?_
   ·simp (disch:=omega) only [go_sem,seval];refine cD ?_ ?_<;>intro h3<;>simp (disch:=omega) only [Sh.out h3,go_sem,seval]
    ·exact ⟨(),Weak.mk (by simp (disch:=omega) only [go_sem,seval];simp;omega)⟩
    ·exact ⟨(),Weak.mk (by simp (disch:=omega) only [go_sem,seval];simp;omega)⟩
   ·intro _ _;refine Zd [] _ _ _ _ ?_;simp (disch:=first | omega | (simp only [List.length_cons,List.length_nil,List.length_append,List.length_map,List.length_take,List.length_drop]<;>omega)) only [go_sem,seval]
    have e4:(48+((m.natAbs%10:Nat):Int)).toNat=48+m.natAbs%10:=by omega
    refine ⟨(m.tdiv 10,UInt8.ofNat (48+m.natAbs%10)::s,decide (m.tdiv 10≠0)),⟨?_,?_,?_⟩,?_,Weak.mk ?_⟩
    ·simp only;omega
    ·simp only [decide_eq_true_eq];intro hne
     have h10: ¬m.natAbs<10:=by omega
     rw [e2,<- h1,dec.eq_def m.natAbs,dif_neg h10];simp
    ·simp only [decide_eq_false_iff_not,Classical.not_not];intro hz
     have h10:m.natAbs<10:=by omega
     rw [<- h1,dec.eq_def m.natAbs,dif_pos h10,Nat.mod_eq_of_lt h10];simp
    ·simp only [if_true]
     split
     ·rename_i hne;simp only [decide_eq_true_eq] at hne;omega
     ·omega
    ·simp (disch:=omega) only [e4,go_sem,seval]
def pF (k:Nat) (f:Flt):Prop:=f.2.length<=k
theorem Zmv (l:List Pt) (c:Bool) (hl:l.length<=1048576):ACalls Tryz.prog 119 [.p (.list c (l.map ePt))] [] fun x H'=> ∃m:List Flt,FR (pF 20) (Y2 l) (2*l.length+1) m/\x= .sl 0 0 m.length m.length/\H'= [.elems 2 (m.map eF)]:=by
 refine Zx [2] Tryz.func119 rfl ZuN ?_;simp (disch:=omega) only [Tryz.f119,go_sem,seval];refine Zm (Weak.ofNil 3 2 (by simp (disch:=omega) only [go_sem,seval]) (by simp) (Weak.refl _ _ _)) ?_;refine Zo [0] (fun m:List Flt=> [(3,.sl 0 0 m.length m.length)]) (fun m=> [.elems 2 (m.map eF)]) (fun m=>FR (pF 20) (1<=l.length/\l.length<=16) 1 m) ?_ ?_
 ·simp (disch:=omega) only [go_sem,seval]
  repeat' (first | (refine ZO (fun hq=> ?_) (fun hq=> ?_)<;>(try simp only [decide_eq_true_eq,decide_eq_false_iff_not,Classical.not_not] at hq)<;>simp (disch:=omega) only [Sh.out hq,go_sem,seval]) | (refine ZQ (fun hq=> ?_) (fun hq=> ?_)<;>(try simp only [decide_eq_true_eq,decide_eq_false_iff_not,Classical.not_not] at hq)<;>simp (disch:=omega) only [Sh.out hq,go_sem,seval]) | (refine Z6 (fun hq=> ?_) (fun hq=> ?_)<;>(try simp only [decide_eq_true_eq,decide_eq_false_iff_not,Classical.not_not] at hq)<;>simp (disch:=omega) only [Sh.out hq,go_sem,seval]))
  ·exact ⟨[(4,[])],⟨by simp,by simp;omega,by simp [pF]⟩,wk⟩
  ·exact ⟨[(4,[])],⟨by simp,by simp;omega,by simp [pF]⟩,wk⟩
  ·exact ⟨[],FR.nil (by omega),wk⟩
 ·intro m hm;refine Zd [] _ _ _ _ ?_;simp (disch:=omega) only [go_sem,seval];refine ZE [8] [0] (fun q:Nat×List Flt=> [(3,.sl 0 0 q.2.length q.2.length),(4,.p (.int .i64 q.1))]) (fun q=> [.elems 2 (q.2.map eF)]) (fun q=>q.1<=l.length/\FR (pF 20) ((1<=l.length/\l.length<=16)/\ ∀j,j<q.1->Zvg l j) (2*q.1+1) q.2) (fun q=>l.length-q.1) (0,m) ⟨by simp,hm.to (by simp) (by simp)⟩ (Weak.mk ?_) ?_
  ·simp (disch:=omega) only [go_sem,seval]
  ·rintro ⟨k,m⟩ ⟨hk,hm⟩;simp only at hk hm;have hml:=hm.len;simp (disch:=omega) only [go_sem,seval];refine cD ?_ ?_<;>intro h<;>simp (disch:=omega) only [Sh.out h,go_sem,seval]
   ·have hk2:k<l.length:=by omega
    refine Zo [0,4,5] (fun m:List Flt=> [(3,.sl 0 0 m.length m.length)]) (fun m=> [.elems 2 (m.map eF),.cells [.p (.int .i64 (nth l k).t),.p (.int .i64 (nth l k).a)]])
     (fun m=>FR (pF 20) (((1<=l.length/\l.length<=16)/\ ∀j,j<k->Zvg l j)/\(0<=(nth l k).t/\(nth l k).t<=4096/\(nth l k).t<=(nth l k).a/\(nth l k).a<=(nth l k).t+4096)) (2*k+1+1) m) ?_ ?_
    ·simp (disch:=omega) only [go_sem,seval]
     have hI:I64 (k:Int):=by omega
     have hdl:=WR k hI
     repeat' (first | (refine ZO (fun hq=> ?_) (fun hq=> ?_)<;>(try simp only [decide_eq_true_eq,decide_eq_false_iff_not,Classical.not_not] at hq)<;>simp (disch:=omega) only [Sh.out hq,go_sem,seval]) | (refine ZQ (fun hq=> ?_) (fun hq=> ?_)<;>(try simp only [decide_eq_true_eq,decide_eq_false_iff_not,Classical.not_not] at hq)<;>simp (disch:=omega) only [Sh.out hq,go_sem,seval]) | (refine Z6 (fun hq=> ?_) (fun hq=> ?_)<;>(try simp only [decide_eq_true_eq,decide_eq_false_iff_not,Classical.not_not] at hq)<;>simp (disch:=omega) only [Sh.out hq,go_sem,seval]))
     all_goals try exact ⟨m,hm.no (by omega),wk⟩
     all_goals
      refine (Ux k hI).use ?_;simp (disch:=omega) only [go_sem,seval];exact ⟨m++ [(2,Zca k)],hm.yes (by omega) (by simp only [pF];omega),wk⟩
    ·intro m hm;have hml:=hm.len;refine Zd [] _ _ _ _ ?_;simp (disch:=omega) only [go_sem,seval]
     have hI:I64 (k:Int):=by omega
     have hdl:=WR k hI;refine Zg mixed (by kernel_rfl) (by kernel_rfl) ?_;simp (disch:=omega) only [go_sem,seval]
     repeat' (first | (refine ZO (fun hq=> ?_) (fun hq=> ?_)<;>(try simp only [decide_eq_true_eq,decide_eq_false_iff_not,Classical.not_not] at hq)<;>simp (disch:=omega) only [Sh.out hq,go_sem,seval]) | (refine ZQ (fun hq=> ?_) (fun hq=> ?_)<;>(try simp only [decide_eq_true_eq,decide_eq_false_iff_not,Classical.not_not] at hq)<;>simp (disch:=omega) only [Sh.out hq,go_sem,seval]) | (refine Z6 (fun hq=> ?_) (fun hq=> ?_)<;>(try simp only [decide_eq_true_eq,decide_eq_false_iff_not,Classical.not_not] at hq)<;>simp (disch:=omega) only [Sh.out hq,go_sem,seval]))
     all_goals try exact ⟨(k+1,m),⟨by simp only;omega,(hm.no (c:=0<k->(nth l (k-1)).t<(nth l k).t/\(nth l (k-1)).a<=(nth l k).a) (by omega)).to (by simp only;omega) (by simp only [Zi,Zvg,and_assoc])⟩,by simp only;omega,wk⟩
     all_goals
      refine (Ux k hI).use ?_;simp (disch:=omega) only [go_sem,seval];exact ⟨(k+1,m++ [(13,Zca k)]),⟨by simp only;omega,(hm.yes (c:=0<k->(nth l (k-1)).t<(nth l k).t/\(nth l (k-1)).a<=(nth l k).a) (by omega) (by simp only [pF];omega)).to (by simp only;omega) (by simp only [Zi,Zvg,and_assoc])⟩,by simp only;omega,wk⟩
   ·have hkn:k=l.length:=by omega
    subst hkn;exact ⟨m,hm.to (by omega) (by rw [Y2]),0,by simp (disch:=omega) only [go_sem,seval]⟩
set_option maxHeartbeats 8000000
theorem pF.mono {j k:Nat} (h:j<=k) {f:Flt} (hf:pF j f):pF k f:=Nat.le_trans hf h
theorem FR.pmono {α:Type} {p q:α->Prop} {C:Prop} {b:Nat} {l:List α} (h:FR p C b l) (hp: ∀x,p x->q x):FR q C b l:=⟨h.len,h.emp,fun x hx=>hp x (h.all x hx)⟩
theorem ZdF (n:Int):PC 120 [.p (.int .i64 n)] (.bool (Zj4 n)):=by
 refine Za Tryz.func120 rfl Zwu ?_;simp (disch:=omega) only [Tryz.f120,go_sem,seval]
 repeat' (first | (refine ZO (fun hq=> ?_) (fun hq=> ?_)<;>(try simp only [decide_eq_true_eq,decide_eq_false_iff_not,Classical.not_not] at hq)<;>simp (disch:=omega) only [Sh.out hq,go_sem,seval]) | (refine ZQ (fun hq=> ?_) (fun hq=> ?_)<;>(try simp only [decide_eq_true_eq,decide_eq_false_iff_not,Classical.not_not] at hq)<;>simp (disch:=omega) only [Sh.out hq,go_sem,seval]) | (refine Z6 (fun hq=> ?_) (fun hq=> ?_)<;>(try simp only [decide_eq_true_eq,decide_eq_false_iff_not,Classical.not_not] at hq)<;>simp (disch:=omega) only [Sh.out hq,go_sem,seval]))
 all_goals (simp [Zj4,rng];first | done | omega | (rw [Bool.eq_iff_iff];simp;omega))
def Zz (n:Net):List AM.Obj:= [.cells [.p (.list n.places_c (n.places.map eS)),.p (.list n.arcs_c (n.arcs.map Qh))]]
theorem Ze0 (n:Net) (hp:n.places.length<=1048576) (hs: ∀s∈n.places,s.length<=1048576):ACalls Tryz.prog 74 [.p (Zds n)] [] fun x H'=> ∃m:List Flt,FR (pF 26) (V2 n) (n.places.length+1) m/\x= .sl 0 0 m.length m.length/\H'= [.elems 2 (m.map eF)]:=by
 refine Zx [2] Tryz.func74 rfl ZBl ?_;simp (disch:=omega) only [Tryz.f74,go_sem,seval];refine Zm (Weak.ofNil 3 2 (by simp (disch:=omega) only [go_sem,seval]) (by simp) (Weak.refl _ _ _)) ?_;refine Zo [1] (fun m:List Flt=> [(3,.sl 1 0 m.length m.length)]) (fun m=>Zz n++ [.elems 2 (m.map eF)]) (fun m=>FR (pF 26) (n.places.length<=24) 1 m) ?_ ?_
 ·simp (disch:=omega) only [go_sem,seval];refine cD ?_ ?_<;>intro h<;>simp (disch:=omega) only [Sh.out h,go_sem,seval]
  ·exact ⟨[(4,[112,108,97,99,101,115])],⟨by simp,by simp;omega,by simp [pF]⟩,Weak.mk (by simp (disch:=omega) only [Zz,go_sem,seval])⟩
  ·exact ⟨[],FR.nil (by omega),Weak.mk (by simp (disch:=omega) only [Zz,go_sem,seval])⟩
 ·intro m hm;refine Zd [] _ _ _ _ ?_;simp (disch:=omega) only [Zz,go_sem,seval];refine Zf [1] (fun q:Nat×List Flt=> [(3,.sl 1 0 q.2.length q.2.length),(4,.p (.int .i64 q.1))]) (fun q=>Zz n++ [.elems 2 (q.2.map eF)]) (fun q=>q.1<=n.places.length/\FR (pF 26) (n.places.length<=24/\ ∀j,j<q.1->Zn3 n j) (q.1+1) q.2) (fun q=>n.places.length-q.1) (0,m) ⟨by simp,hm.to (by simp) (by simp)⟩ (Weak.mk ?_) ?_
  ·simp (disch:=omega) only [Zz,go_sem,seval]
  ·rintro ⟨k,m⟩ ⟨hk,hm⟩;simp only at hk hm;have hml:=hm.len;simp (disch:=omega) only [Zz,go_sem,seval];refine cD ?_ ?_<;>intro h<;>simp (disch:=omega) only [Sh.out h,go_sem,seval]
   ·have hk2:k<n.places.length:=by omega
    have hI:I64 (k:Int):=by omega
    have hdl:=WR k hI;refine (Ux k hI).use ?_;simp (disch:=omega) only [go_sem,seval];simp (disch:=first | omega | (simp only [List.length_cons,List.length_nil,List.length_append,List.length_map,List.length_take,List.length_drop]<;>omega)) only [go_sem,seval];refine (Zih (nth n.places k) (hs _ (by rw [Ze hk2];exact List.getElem_mem _))).use ?_;simp (disch:=omega) only [go_sem,seval];refine cD ?_ ?_<;>intro h2<;>simp (disch:=omega) only [Sh.out h2,go_sem,seval]
    ·simp only [Bool.not_eq_true'] at h2;exact ⟨(k+1,m++ [(5,[112,108,97,99,101,32]++Zca k)]),⟨by simp only;omega,(hm.yes (c:=Zn3 n k) (by rw [Zn3,h2];simp) (by simp [pF];omega)).to (by simp) (by simp only [Zi,and_assoc])⟩,by simp only;omega,Weak.mk (by simp (disch:=omega) only [Zz,go_sem,seval])⟩
    ·simp only [Bool.not_eq_false'] at h2;refine Zf [1,3,4,5] (fun q:Nat×Bool=> [(6,.p (.bool q.2)),(7,.p (.int .i64 q.1))]) (fun _=>Zz n++ [.elems 2 (m.map eF)]) (fun q=>q.1<=k/\(q.2=false↔ ∀j,j<q.1->nth n.places j≠nth n.places k)) (fun q=>k-q.1) (0,false) (by simp) (Weak.mk ?_) ?_
     ·simp (disch:=omega) only [Zz,go_sem,seval]
     ·rintro ⟨j,b⟩ ⟨hj,hb⟩;simp only at hj hb;simp (disch:=omega) only [Zz,go_sem,seval];refine cD ?_ ?_<;>intro h3<;>simp (disch:=omega) only [Sh.out h3,go_sem,seval]
      ·refine Zn 14 mixed (by kernel_rfl) (by kernel_rfl) ?_;simp (disch:=omega) only [go_sem,seval]
       have hjn:j<n.places.length:=by omega
       cases b with
       | true =>
        simp (disch:=omega) only [go_sem,seval];exact ⟨(j+1,true),⟨by simp only;omega,by rw [Zi,<- hb];simp⟩,by simp only;omega,Weak.mk (by simp (disch:=omega) only [Zz,go_sem,seval])⟩
       | false =>
        simp (disch:=omega) only [go_sem,seval];refine ⟨(j+1,decide (nth n.places j=nth n.places k)),⟨by simp only;omega,by rw [Zi,<- hb];simp⟩,by simp only;omega,Weak.mk (by simp (disch:=omega) only [Zz,go_sem,seval])⟩
      ·have hjk:j=k:=by omega
       subst hjk
       cases b with
       | true =>
        simp (disch:=omega) only [go_sem,seval]
        have hno: ¬Zn3 n j:=fun h5=>by have:=hb.2 h5.2;cases this
        exact ⟨(j+1,m++ [(6,[112,108,97,99,101,32]++Zca j)]),⟨by simp only;omega,(hm.yes (c:=Zn3 n j) hno (by simp [pF];omega)).to (by simp) (by simp only [Zi,and_assoc])⟩,by simp only;omega,Weak.mk (by simp (disch:=omega) only [Zz,go_sem,seval])⟩
       | false =>
        simp (disch:=omega) only [go_sem,seval];exact ⟨(j+1,m),⟨by simp only;omega,(hm.no (c:=Zn3 n j) ⟨h2,hb.1 rfl⟩).to (by simp) (by simp only [Zi,and_assoc])⟩,by simp only;omega,Weak.mk (by simp (disch:=omega) only [Zz,go_sem,seval])⟩
   ·have hkn:k=n.places.length:=by omega
    subst hkn;exact ⟨m,hm.to (by omega) (by rw [V2]),1,by simp (disch:=omega) only [go_sem,seval]⟩
set_option maxHeartbeats 16000000
def XZ (a:Arc):AM.Obj:= .cells [.p (.int .i64 a.src),.p (.int .i64 a.dst),.p (.int .i64 a.prof),.p (.int .i64 a.miles),.p (.list a.travel_c (a.travel.map ePt)),.p (.list a.slow_c (a.slow.map ePt))]
abbrev XP (a b:Arc):Prop:=a.src=b.src/\a.dst=b.dst/\a.prof=b.prof
theorem ZoH (n:Net) (i:Nat) (hi:i<n.arcs.length) (hp:n.places.length<=1048576) (ha:n.arcs.length<=1048576) (ht:(nth n.arcs i).travel.length<=1048576) (hsl:(nth n.arcs i).slow.length<=1048576) :
  ACalls Tryz.prog 75 [.p (Zds n),.p (.int .i64 (i:Nat))] [] fun x H'=> ∃m:List Flt,FR (pF 26) (Zij n i) 4000000 m/\x= .sl 0 0 m.length m.length/\H'= [.elems 2 (m.map eF)]:=by
 refine Zx [4] Tryz.func75 rfl ZAj ?_;simp (disch:=omega) only [Tryz.f75,go_sem,seval]
 have hI:I64 (i:Int):=by omega
 have hdl:=WR i hI;refine (Ux i hI).use ?_;simp (disch:=omega) only [go_sem,seval];simp (disch:=first | omega | (simp only [List.length_cons,List.length_nil,List.length_append,List.length_map,List.length_take,List.length_drop]<;>omega)) only [go_sem,seval]
 have hat:(97::114::99::32::Zca i).length<=26:=by simp;omega
 generalize hga:nth n.arcs i=a at ht hsl ⊢;generalize 97::114::99::32::Zca i=at' at hat ⊢;refine Zm (Weak.ofNil 5 2 (by simp (disch:=omega) only [go_sem,seval]) (by simp) (Weak.refl _ _ _)) ?_;refine Zo [1,2,6,7] (fun m:List Flt=> [(5,.sl 2 0 m.length m.length)]) (fun m=>Zz n++ [XZ a,.elems 2 (m.map eF)]) (fun m=>FR (pF 26) (0<=a.src/\a.src<n.places.length/\0<=a.dst/\a.dst<n.places.length) 1 m) ?_ ?_
 ·simp (disch:=omega) only [go_sem,seval]
  repeat' (first | (refine ZO (fun hq=> ?_) (fun hq=> ?_)<;>(try simp only [decide_eq_true_eq,decide_eq_false_iff_not,Classical.not_not] at hq)<;>simp (disch:=omega) only [Sh.out hq,go_sem,seval]) | (refine ZQ (fun hq=> ?_) (fun hq=> ?_)<;>(try simp only [decide_eq_true_eq,decide_eq_false_iff_not,Classical.not_not] at hq)<;>simp (disch:=omega) only [Sh.out hq,go_sem,seval]) | (refine Z6 (fun hq=> ?_) (fun hq=> ?_)<;>(try simp only [decide_eq_true_eq,decide_eq_false_iff_not,Classical.not_not] at hq)<;>simp (disch:=omega) only [Sh.out hq,go_sem,seval]))
  all_goals try exact ⟨[],FR.nil (by omega),Weak.mk (by simp (disch:=omega) only [Zz,XZ,go_sem,seval])⟩
  all_goals exact ⟨[(11,at')],⟨by simp,by simp;omega,by simpa [pF] using hat⟩,Weak.mk (by simp (disch:=omega) only [Zz,XZ,go_sem,seval])⟩
 ·intro m hm;refine Zd [6] _ _ _ _ ?_;simp (disch:=omega) only [Zz,XZ,go_sem,seval];have hml:=hm.len
  refine Zo [1,2,6,7] (fun m:List Flt=> [(5,.sl 2 0 m.length m.length)]) (fun m=>Zz n++ [XZ a,.elems 2 (m.map eF)])
   (fun m=>FR (pF 26) ((0<=a.src/\a.src<n.places.length/\0<=a.dst/\a.dst<n.places.length)/\(0<=a.prof/\a.prof<=7/\0<=a.miles/\a.miles<=10000/\a.src≠a.dst)) 2 m) ?_ ?_
  ·simp (disch:=omega) only [go_sem,seval]
   repeat' (first | (refine ZO (fun hq=> ?_) (fun hq=> ?_)<;>(try simp only [decide_eq_true_eq,decide_eq_false_iff_not,Classical.not_not] at hq)<;>simp (disch:=omega) only [Sh.out hq,go_sem,seval]) | (refine ZQ (fun hq=> ?_) (fun hq=> ?_)<;>(try simp only [decide_eq_true_eq,decide_eq_false_iff_not,Classical.not_not] at hq)<;>simp (disch:=omega) only [Sh.out hq,go_sem,seval]) | (refine Z6 (fun hq=> ?_) (fun hq=> ?_)<;>(try simp only [decide_eq_true_eq,decide_eq_false_iff_not,Classical.not_not] at hq)<;>simp (disch:=omega) only [Sh.out hq,go_sem,seval]))
   all_goals try exact ⟨m,hm.no (by omega),Weak.mk (by simp (disch:=omega) only [Zz,XZ,go_sem,seval])⟩
   all_goals exact ⟨m++ [(2,at')],hm.yes (by omega) (by simpa [pF] using hat),Weak.mk (by simp (disch:=omega) only [Zz,XZ,go_sem,seval])⟩
  ·clear hm hml;intro m hm;refine Zd [14] _ _ _ _ ?_;simp (disch:=omega) only [Zz,XZ,go_sem,seval];have hml:=hm.len;refine ZE [14] [1,2,5,6,7] (fun q:Nat×Bool=> [(8,.p (.bool q.2)),(9,.p (.int .i64 q.1))]) (fun _=>Zz n++ [XZ a,.elems 2 (m.map eF)]) (fun q=>q.1<=i/\(q.2=false↔ ∀j,j<q.1-> ¬XP a (nth n.arcs j))) (fun q=>i-q.1) (0,false) (by simp) (Weak.mk ?_) ?_
   ·simp (disch:=omega) only [Zz,XZ,go_sem,seval]
   ·rintro ⟨k,b⟩ ⟨hk,hb⟩;simp only at hk hb;simp (disch:=omega) only [Zz,XZ,go_sem,seval];refine cD ?_ ?_<;>intro h<;>simp (disch:=omega) only [Sh.out h,go_sem,seval]
    ·have hkn:k<n.arcs.length:=by omega
     cases b with
     | true =>
      simp (disch:=omega) only [go_sem,seval];exact ⟨(k+1,true),⟨by simp only;omega,by rw [Zi,<- hb];simp⟩,by simp only;omega,Weak.mk (by simp (disch:=omega) only [Zz,XZ,go_sem,seval])⟩
     | false =>
      simp (disch:=omega) only [go_sem,seval]
      repeat' (first | (refine ZO (fun hq=> ?_) (fun hq=> ?_)<;>(try simp only [decide_eq_true_eq,decide_eq_false_iff_not,Classical.not_not] at hq)<;>simp (disch:=omega) only [Sh.out hq,go_sem,seval]) | (refine ZQ (fun hq=> ?_) (fun hq=> ?_)<;>(try simp only [decide_eq_true_eq,decide_eq_false_iff_not,Classical.not_not] at hq)<;>simp (disch:=omega) only [Sh.out hq,go_sem,seval]) | (refine Z6 (fun hq=> ?_) (fun hq=> ?_)<;>(try simp only [decide_eq_true_eq,decide_eq_false_iff_not,Classical.not_not] at hq)<;>simp (disch:=omega) only [Sh.out hq,go_sem,seval]))
      all_goals refine ⟨(k+1,decide (XP a (nth n.arcs k))),⟨by simp only;omega,by rw [Zi,<- hb];simp⟩,by simp only;omega,Weak.mk ?_⟩
      all_goals simp (disch:=omega) only [Zz,XZ,go_sem,seval]
      all_goals simp [XP, *]
    ·have hki:k=i:=by omega
     subst hki;have htw:(b=false↔ ∀j,j<k-> ¬XP a (nth n.arcs j)):=hb;clear hb hk h
     refine Zo [6,7] (fun m:List Flt=> [(5,.sl 2 0 m.length m.length)]) (fun m=>Zz n++ [XZ a,.elems 2 (m.map eF)])
      (fun m=>FR (pF 26) (((0<=a.src/\a.src<n.places.length/\0<=a.dst/\a.dst<n.places.length)/\(0<=a.prof/\a.prof<=7/\0<=a.miles/\a.miles<=10000/\a.src≠a.dst))/\ ∀j,j<k-> ¬XP a (nth n.arcs j)) 3 m) ?_ ?_
     ·simp (disch:=omega) only [go_sem,seval]
      cases b with
      | true =>
       simp (disch:=omega) only [go_sem,seval];exact ⟨m++ [(6,at')],hm.yes (by rw [<- htw];simp) (by simpa [pF] using hat),Weak.mk (by simp (disch:=omega) only [Zz,XZ,go_sem,seval])⟩
      | false =>
       simp (disch:=omega) only [go_sem,seval];exact ⟨m,hm.no (htw.1 rfl),Weak.mk (by simp (disch:=omega) only [Zz,XZ,go_sem,seval])⟩
     ·clear hm hml;intro m hm;refine Zd [21] _ _ _ _ ?_;simp (disch:=omega) only [Zz,XZ,go_sem,seval];have hml:=hm.len;refine ((Zmv a.travel a.travel_c ht).frozenE).useV fun lt hlt=> ?_;simp (disch:=omega) only [go_sem,seval];have hltl:=hlt.len
      refine ZE [21] [6,7,11] (fun q:Nat×List Flt=> [(5,.sl 2 0 q.2.length q.2.length),(12,.p (.int .i64 q.1))]) (fun q=>Zz n++ [XZ a,.elems 2 (q.2.map eF)])
       (fun q=>q.1<=lt.length/\FR (pF 26) ((((0<=a.src/\a.src<n.places.length/\0<=a.dst/\a.dst<n.places.length)/\(0<=a.prof/\a.prof<=7/\0<=a.miles/\a.miles<=10000/\a.src≠a.dst))/\ ∀j,j<k-> ¬XP a (nth n.arcs j))/\q.1=0) (3+q.1) q.2) (fun q=>lt.length-q.1) (0,m) ⟨by simp,hm.to (by simp) (by simp)⟩ (Weak.mk ?_) ?_
      ·simp (disch:=omega) only [Zz,XZ,go_sem,seval]
      ·clear hm hml;rintro ⟨j,m⟩ ⟨hj,hm⟩;simp only at hj hm;have hml:=hm.len;simp (disch:=omega) only [Zz,XZ,go_sem,seval];refine cD ?_ ?_<;>intro h<;>simp (disch:=omega) only [Sh.out h,go_sem,seval]
       ·have hj2:j<lt.length:=by omega
        exact ⟨(j+1,m++ [((nth lt j).1,at')]),⟨by simp only;omega,(hm.yes (c:=False) (by simp) (by simpa [pF] using hat)).to (by simp only;omega) (by simp)⟩,by simp only;omega,Weak.mk (by simp (disch:=omega) only [Zz,XZ,go_sem,seval])⟩
       ·have hjl:j=lt.length:=by omega
        subst hjl;have hm2:=hm.to (d:=3+lt.length) (D:=(((0<=a.src/\a.src<n.places.length/\0<=a.dst/\a.dst<n.places.length)/\(0<=a.prof/\a.prof<=7/\0<=a.miles/\a.miles<=10000/\a.src≠a.dst))/\ ∀j,j<k-> ¬XP a (nth n.arcs j))/\Y2 a.travel) (Nat.le_refl _) (by rw [<- hlt.emp,List.eq_nil_iff_length_eq_zero]);clear hm
        refine Zo [6,7] (fun m:List Flt=> [(5,.sl 2 0 m.length m.length)]) (fun m=>Zz n++ [XZ a,.elems 2 (m.map eF)])
         (fun m=>FR (pF 26) (((((0<=a.src/\a.src<n.places.length/\0<=a.dst/\a.dst<n.places.length)/\(0<=a.prof/\a.prof<=7/\0<=a.miles/\a.miles<=10000/\a.src≠a.dst))/\ ∀j,j<k-> ¬XP a (nth n.arcs j))/\Y2 a.travel)/\a.slow.length<=16) (4+lt.length) m) ?_ ?_
        ·simp (disch:=omega) only [go_sem,seval];refine cD ?_ ?_<;>intro h2<;>simp (disch:=omega) only [Sh.out h2,go_sem,seval]
         ·exact ⟨m++ [(4,at')],(hm2.yes (by omega) (by simpa [pF] using hat)).to (by omega) Iff.rfl,Weak.mk (by simp (disch:=omega) only [Zz,XZ,go_sem,seval])⟩
         ·exact ⟨m,(hm2.no (by omega)).to (by omega) Iff.rfl,Weak.mk (by simp (disch:=omega) only [Zz,XZ,go_sem,seval])⟩
        ·clear hm2 hml h hj;intro m hm;refine Zd [] _ _ _ _ ?_;simp (disch:=omega) only [Zz,XZ,go_sem,seval]
         refine Zf [6,7] (fun q:Nat×List Flt=> [(5,.sl 2 0 q.2.length q.2.length),(13,.p (.int .i64 q.1))]) (fun q=>Zz n++ [XZ a,.elems 2 (q.2.map eF)])
          (fun q=>q.1<=a.slow.length/\FR (pF 26) ((((((0<=a.src/\a.src<n.places.length/\0<=a.dst/\a.dst<n.places.length)/\(0<=a.prof/\a.prof<=7/\0<=a.miles/\a.miles<=10000/\a.src≠a.dst))/\ ∀j,j<k-> ¬XP a (nth n.arcs j))/\Y2 a.travel)/\a.slow.length<=16)/\ ∀j,j<q.1->U1 a.slow j) (4+lt.length+q.1) q.2) (fun q=>a.slow.length-q.1) (0,m) ⟨by simp,hm.to (by simp) (by simp)⟩ (Weak.mk ?_) ?_
         ·simp (disch:=omega) only [Zz,XZ,go_sem,seval]
         ·clear hm;rintro ⟨j,m⟩ ⟨hj,hm⟩;simp only at hj hm;have hml:=hm.len;simp (disch:=omega) only [Zz,XZ,go_sem,seval];refine cD ?_ ?_<;>intro h<;>simp (disch:=omega) only [Sh.out h,go_sem,seval]
          ·have hj2:j<a.slow.length:=by omega
           refine Zg mixed (by kernel_rfl) (by kernel_rfl) ?_;simp (disch:=omega) only [go_sem,seval];refine Zj (ZdF (nth a.slow j).t) ?_;simp (disch:=omega) only [go_sem,seval];have hslo:U1 a.slow j↔(Zj4 (nth a.slow j).t=true/\Zj4 (nth a.slow j).a=true/\(0<j->(nth a.slow (j-1)).t<(nth a.slow j).t)):=Iff.rfl;have hyes: ¬U1 a.slow j->_:=fun hs=>(hm.yes (x:=(2,at')) hs (by simpa [pF] using hat)).to (D:=(((((0<=a.src/\a.src<n.places.length/\0<=a.dst/\a.dst<n.places.length)/\(0<=a.prof/\a.prof<=7/\0<=a.miles/\a.miles<=10000/\a.src≠a.dst))/\ ∀j,j<k-> ¬XP a (nth n.arcs j))/\Y2 a.travel)/\a.slow.length<=16)/\ ∀i,i<j+1->U1 a.slow i) (d:=4+lt.length+(j+1)) (by omega) (by simp only [Zi,and_assoc])
           have hno:U1 a.slow j->_:=fun hs=>(hm.no hs).to (D:=(((((0<=a.src/\a.src<n.places.length/\0<=a.dst/\a.dst<n.places.length)/\(0<=a.prof/\a.prof<=7/\0<=a.miles/\a.miles<=10000/\a.src≠a.dst))/\ ∀j,j<k-> ¬XP a (nth n.arcs j))/\Y2 a.travel)/\a.slow.length<=16)/\ ∀i,i<j+1->U1 a.slow i) (d:=4+lt.length+(j+1)) (by omega) (by simp only [Zi,and_assoc])
           cases ht1:Zj4 (nth a.slow j).t with
           | false =>
            simp (disch:=omega) only [go_sem,seval];exact ⟨(j+1,m++ [(2,at')]),⟨by simp only;omega,hyes (by rw [hslo,ht1];simp)⟩,by simp only;omega,Weak.mk (by simp (disch:=omega) only [Zz,XZ,go_sem,seval])⟩
           | true =>
            simp (disch:=omega) only [go_sem,seval];refine Zj (ZdF (nth a.slow j).a) ?_;simp (disch:=omega) only [go_sem,seval]
            cases ht2:Zj4 (nth a.slow j).a with
            | false =>
             simp (disch:=omega) only [go_sem,seval];exact ⟨(j+1,m++ [(2,at')]),⟨by simp only;omega,hyes (by rw [hslo,ht2];simp)⟩,by simp only;omega,Weak.mk (by simp (disch:=omega) only [Zz,XZ,go_sem,seval])⟩
            | true =>
             simp (disch:=omega) only [go_sem,seval]
             repeat' (first | (refine ZO (fun hq=> ?_) (fun hq=> ?_)<;>(try simp only [decide_eq_true_eq,decide_eq_false_iff_not,Classical.not_not] at hq)<;>simp (disch:=omega) only [Sh.out hq,go_sem,seval]) | (refine ZQ (fun hq=> ?_) (fun hq=> ?_)<;>(try simp only [decide_eq_true_eq,decide_eq_false_iff_not,Classical.not_not] at hq)<;>simp (disch:=omega) only [Sh.out hq,go_sem,seval]) | (refine Z6 (fun hq=> ?_) (fun hq=> ?_)<;>(try simp only [decide_eq_true_eq,decide_eq_false_iff_not,Classical.not_not] at hq)<;>simp (disch:=omega) only [Sh.out hq,go_sem,seval]))
             ·exact ⟨(j+1,m++ [(2,at')]),⟨by simp only;omega,hyes (by rw [hslo];omega)⟩,by simp only;omega,Weak.mk (by simp (disch:=omega) only [Zz,XZ,go_sem,seval])⟩
             ·exact ⟨(j+1,m),⟨by simp only;omega,hno (by rw [hslo];exact ⟨ht1,ht2,by omega⟩)⟩,by simp only;omega,Weak.mk (by simp (disch:=omega) only [Zz,XZ,go_sem,seval])⟩
             ·exact ⟨(j+1,m),⟨by simp only;omega,hno (by rw [hslo];exact ⟨ht1,ht2,by omega⟩)⟩,by simp only;omega,Weak.mk (by simp (disch:=omega) only [Zz,XZ,go_sem,seval])⟩
          ·have hjn:j=a.slow.length:=by omega
           subst hjn;exact ⟨m,hm.to (by omega) (by rw [Zij,hga]),2,by simp (disch:=omega) only [Zz,XZ,go_sem,seval]⟩
theorem Zp {α:Type} [Inhabited α] {l:List α} {i:Nat} (h:i<l.length):nth l i∈l:=by rw [Ze h];exact List.getElem_mem _
theorem ZsC (n:Net) (hw:n.wf 1048576):ACalls Tryz.prog 44 [.p (Zds n)] [] fun x H'=> ∃m:List Flt,FR (pF 26) (netOk n) 4194306000000 m/\x= .sl 0 0 m.length m.length/\H'= [.elems 2 (m.map eF)]:=by
 obtain ⟨w1,w2,w3,w4⟩:=hw;refine Zx [2] Tryz.func44 rfl ZBX ?_;simp (disch:=omega) only [Tryz.f44,go_sem,seval];refine (Ze0 n w1 w2).useE fun m hm=> ?_;simp (disch:=omega) only [go_sem,seval];have hml:=hm.len;refine Zo [1] (fun m:List Flt=> [(3,.sl 1 0 m.length m.length)]) (fun m=>Zz n++ [.elems 2 (m.map eF)]) (fun m=>FR (pF 26) (V2 n/\n.arcs.length<=1024) (n.places.length+2) m) ?_ ?_
 ·simp (disch:=omega) only [go_sem,seval];refine cD ?_ ?_<;>intro h<;>simp (disch:=omega) only [Sh.out h,go_sem,seval]
  ·exact ⟨m++ [(4,[97,114,99,115])],hm.yes (by omega) (by simp [pF]),Weak.mk (by simp (disch:=omega) only [Zz,go_sem,seval])⟩
  ·exact ⟨m,hm.no (by omega),Weak.mk (by simp (disch:=omega) only [Zz,go_sem,seval])⟩
 ·clear hm hml;intro m hm;refine Zd [] _ _ _ _ ?_;simp (disch:=omega) only [Zz,go_sem,seval];refine Zf [1] (fun q:Nat×List Flt=> [(3,.sl 1 0 q.2.length q.2.length),(4,.p (.int .i64 q.1))]) (fun q=>Zz n++ [.elems 2 (q.2.map eF)]) (fun q=>q.1<=n.arcs.length/\FR (pF 26) ((V2 n/\n.arcs.length<=1024)/\ ∀j,j<q.1->Zij n j) (n.places.length+2+q.1*4000000) q.2) (fun q=>n.arcs.length-q.1) (0,m) ⟨by simp,hm.to (by simp) (by simp)⟩ (Weak.mk ?_) ?_
  ·simp (disch:=omega) only [Zz,go_sem,seval]
  ·clear hm;rintro ⟨k,m⟩ ⟨hk,hm⟩;simp only at hk hm;have hml:=hm.len;simp (disch:=omega) only [Zz,go_sem,seval];refine cD ?_ ?_<;>intro h<;>simp (disch:=omega) only [Sh.out h,go_sem,seval]
   ·have hk2:k<n.arcs.length:=by omega
    have ha:=w4 _ (Zp hk2);refine (ZoH n k hk2 w1 w3 ha.2.2.2.2.1 ha.2.2.2.2.2.2.1).useE fun f hf=> ?_;simp (disch:=omega) only [go_sem,seval];have hfl:=hf.len
    have q1:(m.length+f.length)*24<=140737488355328:=by omega
    have q2:m.length+f.length<=140737488355328:=by omega
    simp (disch:=omega) only [q1,q2,go_sem,seval];refine ⟨(k+1,m++f),⟨by simp only;omega,(hm.app hf).to (by simp only;omega) (by simp only [Zi,and_assoc])⟩,by simp only;omega,Weak.mk ?_⟩;simp (disch:=omega) only [Zz,List.length_append,List.map_append,go_sem,seval]
   ·have hkn:k=n.arcs.length:=by omega
    subst hkn;exact ⟨m,hm.to (by omega) (by rw [netOk]),1,by simp (disch:=omega) only [Zz,go_sem,seval]⟩
theorem YF (n lo hi:Int):PC 76 [.p (.int .i64 n),.p (.int .i64 lo),.p (.int .i64 hi)] (.bool (rng n lo hi)):=by
 refine Za Tryz.func76 rfl ZBQ ?_;simp (disch:=omega) only [Tryz.f76,go_sem,seval];refine gT ?_ ?_<;>intro h<;>simp (disch:=omega) only [Sh.out h,go_sem,seval]
 all_goals (simp [rng];first | done | omega | (rw [Bool.eq_iff_iff];simp;omega))
def Vr (l:List Int) (d:Int):Bool:=rng l.length 1 3&&decide ((l.length:Int)=d)&&l.all fun n=>rng n 0 1000
theorem Zfq (l:List Int) (c:Bool) (d:Int) (hl:l.length<=1048576):PC 122 [.p (.list c (l.map eI)),.p (.int .i64 d)] (.bool (Vr l d)):=by
 refine Za Tryz.func122 rfl Zv8 ?_;simp (disch:=omega) only [Tryz.f122,go_sem,seval];refine (YF l.length 1 3).use ?_;simp (disch:=omega) only [go_sem,seval];refine gF ?_ ?_<;>intro h<;>simp (disch:=omega) only [Sh.out h,go_sem,seval]
 ·simp only [Bool.not_eq_true'] at h;simp [Vr,h]
 ·simp only [Bool.not_eq_false'] at h;refine cD ?_ ?_<;>intro h2<;>simp (disch:=omega) only [Sh.out h2,go_sem,seval]
  ·simp [Vr,h,h2]
  ·simp only [Classical.not_not] at h2;subst h2;refine Zf [0] (fun k:Nat=> [(5,.p (.int .i64 k))]) (fun _=> []) (fun k=>k<=l.length/\ ∀j,j<k->rng (nth l j) 0 1000=true) (fun k=>l.length-k) 0 (by simp) (Weak.mk ?_) ?_
   ·simp (disch:=omega) only [go_sem,seval]
   ·rintro k ⟨hk,hno⟩;simp (disch:=omega) only [go_sem,seval];refine cD ?_ ?_<;>intro h3<;>simp (disch:=omega) only [Sh.out h3,go_sem,seval]
    ·have hk2:k<l.length:=by omega
     refine (YF (nth l k) 0 1000).use ?_;simp (disch:=omega) only [go_sem,seval];refine cD ?_ ?_<;>intro h4<;>simp (disch:=omega) only [Sh.out h4,go_sem,seval]
     ·simp only [Bool.not_eq_true'] at h4
      have:l.all (fun n=>rng n 0 1000)=false:=by
       rw [List.all_eq_false];exact ⟨nth l k,Zp hk2,by rw [h4];simp⟩
      simp [Vr,this]
     ·simp only [Bool.not_eq_false'] at h4;exact ⟨k+1,⟨by omega,Zi.2 ⟨hno,h4⟩⟩,by omega,wk⟩
    ·have:l.all (fun n=>rng n 0 1000)=true:=by
      rw [List.all_eq_true];intro x hx;obtain ⟨j,hj,rfl⟩:=List.mem_iff_getElem.1 hx;rw [<- Ze hj];exact hno j (by omega)
     simp [Vr,h,this]
def ZaU (l:List Typ) (i:Nat) (s:List UInt8):Bool:=(List.range i).any fun j=>decide ((nth l j).name=s)
theorem YE {l:List Typ} {i:Nat} {s:List UInt8} :ZaU l i s=false↔ ∀j,j<i->(nth l j).name≠s:=by
 simp [ZaU,List.any_eq_false]
theorem ZhO (l:List Typ) (c:Bool) (i:Nat) (s:List UInt8) (hi:i<=l.length) (hl:l.length<=1048576):PC 121 [.p (.list c (l.map U7)),.p (.int .i64 (i:Nat)),.p (.str s)] (.bool (ZaU l i s)):=by
 refine Za Tryz.func121 rfl Zqq ?_;simp (disch:=omega) only [Tryz.f121,go_sem,seval];refine Zf [0,1,2] (fun k:Nat=> [(7,.p (.int .i64 k))]) (fun _=> []) (fun k=>k<=i/\ ∀j,j<k->(nth l j).name≠s) (fun k=>i-k) 0 (by simp) (Weak.mk ?_) ?_
 ·simp (disch:=omega) only [go_sem,seval]
 ·rintro k ⟨hk,hno⟩;simp (disch:=omega) only [go_sem,seval];refine cD ?_ ?_<;>intro h3<;>simp (disch:=omega) only [Sh.out h3,go_sem,seval]
  ·have hk2:k<l.length:=by omega
   refine cD ?_ ?_<;>intro h4<;>simp (disch:=omega) only [Sh.out h4,go_sem,seval]
   ·have:ZaU l i s=true:=by
     cases hq:ZaU l i s with
     | true=>rfl
     | false=>exact absurd h4 (YE.1 hq k (by omega))
    rw [this]
   ·exact ⟨k+1,⟨by omega,Zi.2 ⟨hno,h4⟩⟩,by omega,wk⟩
  ·have:k=i:=by omega
   subst this;rw [YE.2 hno]
def dimsOf (l:List Typ):Int:=if l.length=0 then 0 else ((nth l 0).cap.length:Int)
theorem Zep (l:List Typ) (c:Bool) (hl:l.length<=1048576):PC 47 [.p (.list c (l.map U7))] (.int .i64 (dimsOf l)):=by
 refine Za Tryz.func47 rfl ZAe ?_;simp (disch:=omega) only [Tryz.f47,go_sem,seval];refine cD ?_ ?_<;>intro h<;>simp (disch:=omega) only [Sh.out h,go_sem,seval]
 ·have:l.length=0:=by omega
  simp [dimsOf,this]
 ·have h0:0<l.length:=by omega
  have h1:l.length≠0:=by omega
  simp (disch:=first | omega | (simp only [List.length_cons,List.length_nil,List.length_append,List.length_map,List.length_take,List.length_drop]<;>omega)) only [dimsOf,h1,go_sem,seval]
def Xk (t:Typ):AM.Obj:= .cells [.p (.str t.name),.p (.int .i64 t.count),.p (.int .i64 t.src),.p (.int .i64 t.dst),.p (.list t.cap_c (t.cap.map eI)),.p (.int .i64 t.skills),.p (.int .i64 t.prof),.p (.int .i64 t.opn),.p (.int .i64 t.cls),.p (.int .i64 t.drive),.p (.int .i64 t.rest),.p (.int .i64 t.fixed),.p (.int .i64 t.perMile),.p (.int .i64 t.perTick)]
def JN (n:Net) (l:List Typ) (i:Nat):Prop:=((((((((nameOk (nth l i).name=true)/\(∀j,j<i->(nth l j).name≠(nth l i).name))/\rng (nth l i).count 0 10=true)/\(rng (nth l i).src 0 (n.places.length-1)=true/\rng (nth l i).dst 0 (n.places.length-1)=true))/\Vr (nth l i).cap (dimsOf l)=true)/\rng (nth l i).skills 0 1073741823=true)/\(rng (nth l i).opn 0 (nth l i).cls=true/\(nth l i).cls<=4096))/\(rng (nth l i).drive 1 4096=true/\rng (nth l i).rest 0 4096=true))/\(rng (nth l i).prof 0 7=true/\rng (nth l i).fixed 0 100000=true/\rng (nth l i).perMile 0 100=true/\rng (nth l i).perTick 0 100=true)
theorem ZgO (n:Net) (l:List Typ) (c:Bool) (i:Nat) (hi:i<l.length) (hl:l.length<=1048576) (hw:n.wf 1048576) (ht:(nth l i).wf 1048576) :
  ACalls Tryz.prog 77 [.p (Zds n),.p (.list c (l.map U7)),.p (.int .i64 (i:Nat))] [] fun x H'=> ∃m:List Int,FR (fun _=>True) (JN n l i) 9 m/\x= .sl 0 0 m.length m.length/\H'= [.elems 1 (m.map eI)]:=by
 obtain ⟨w1,w2,w3,w4⟩:=hw;refine Zx [3] Tryz.func77 rfl ZAC ?_;simp (disch:=omega) only [Tryz.f77,go_sem,seval];have hty:JN n l i↔((((((((nameOk (nth l i).name=true)/\(∀j,j<i->(nth l j).name≠(nth l i).name))/\rng (nth l i).count 0 10=true)/\(rng (nth l i).src 0 (n.places.length-1)=true/\rng (nth l i).dst 0 (n.places.length-1)=true))/\Vr (nth l i).cap (dimsOf l)=true)/\rng (nth l i).skills 0 1073741823=true)/\(rng (nth l i).opn 0 (nth l i).cls=true/\(nth l i).cls<=4096))/\(rng (nth l i).drive 1 4096=true/\rng (nth l i).rest 0 4096=true))/\(rng (nth l i).prof 0 7=true/\rng (nth l i).fixed 0 100000=true/\rng (nth l i).perMile 0 100=true/\rng (nth l i).perTick 0 100=true):=Iff.rfl
 generalize hga:nth l i=t at ht hty ⊢;have hname:=ht.1;have hcap:=ht.2.2.2.2.1;refine Zm (Weak.ofNil 8 1 (by simp (disch:=omega) only [go_sem,seval]) (by simp) (Weak.refl _ _ _)) ?_;refine Zo [1,2,3,7] (fun m:List Int=> [(8,.sl 2 0 m.length m.length)]) (fun m=>Zz n++ [Xk t,.elems 1 (m.map eI)]) (fun m=>FR (fun _=>True) (nameOk t.name=true) 1 m) ?_ ?_
 ·simp (disch:=omega) only [go_sem,seval];refine (Zih t.name hname).use ?_;simp (disch:=omega) only [go_sem,seval];refine cD ?_ ?_<;>intro h0<;>simp (disch:=omega) only [Sh.out h0,go_sem,seval]
  ·simp only [Bool.not_eq_true'] at h0;exact ⟨[5],⟨by simp,by simp [h0],by simp⟩,Weak.mk (by simp (disch:=omega) only [Zz,Xk,go_sem,seval])⟩
  ·simp only [Bool.not_eq_false'] at h0;exact ⟨[],FR.nil (by simp [h0]),Weak.mk (by simp (disch:=omega) only [Zz,Xk,go_sem,seval])⟩
 ·skip
  intro m hm;refine Zd [5] _ _ _ _ ?_;simp (disch:=omega) only [Zz,Xk,go_sem,seval];have hml:=hm.len;refine Zo [1,3,7] (fun m:List Int=> [(8,.sl 2 0 m.length m.length)]) (fun m=>Zz n++ [Xk t,.elems 1 (m.map eI)]) (fun m=>FR (fun _=>True) ((nameOk t.name=true)/\(∀j,j<i->(nth l j).name≠t.name)) 2 m) ?_ ?_
  ·simp (disch:=omega) only [go_sem,seval];refine (ZhO l c i t.name (by omega) hl).use ?_;simp (disch:=omega) only [go_sem,seval];refine cD ?_ ?_<;>intro h<;>simp (disch:=omega) only [Sh.out h,go_sem,seval]
   ·exact ⟨m++ [6],hm.yes (by rw [<- YE,h];simp) trivial,Weak.mk (by simp (disch:=omega) only [Zz,Xk,go_sem,seval])⟩
   ·exact ⟨m,hm.no (by exact YE.1 h),Weak.mk (by simp (disch:=omega) only [Zz,Xk,go_sem,seval])⟩
  ·clear hm hml;intro m hm;refine Zd [7] _ _ _ _ ?_;simp (disch:=omega) only [Zz,Xk,go_sem,seval];have hml:=hm.len;refine Zo [1,3,7] (fun m:List Int=> [(8,.sl 2 0 m.length m.length)]) (fun m=>Zz n++ [Xk t,.elems 1 (m.map eI)]) (fun m=>FR (fun _=>True) (((nameOk t.name=true)/\(∀j,j<i->(nth l j).name≠t.name))/\rng t.count 0 10=true) 3 m) ?_ ?_
   ·simp (disch:=omega) only [go_sem,seval];refine (YF t.count 0 10).use ?_;simp (disch:=omega) only [go_sem,seval];refine cD ?_ ?_<;>intro h0<;>simp (disch:=omega) only [Sh.out h0,go_sem,seval]
    ·simp only [Bool.not_eq_true'] at h0;exact ⟨m++ [22],hm.yes (by simp [h0]) trivial,Weak.mk (by simp (disch:=omega) only [Zz,Xk,go_sem,seval])⟩
    ·simp only [Bool.not_eq_false'] at h0;exact ⟨m,hm.no (by simp [h0]),Weak.mk (by simp (disch:=omega) only [Zz,Xk,go_sem,seval])⟩
   ·clear hm hml;intro m hm;refine Zd [9] _ _ _ _ ?_;simp (disch:=omega) only [Zz,Xk,go_sem,seval];have hml:=hm.len;refine Zo [1,7] (fun m:List Int=> [(8,.sl 2 0 m.length m.length)]) (fun m=>Zz n++ [Xk t,.elems 1 (m.map eI)]) (fun m=>FR (fun _=>True) ((((nameOk t.name=true)/\(∀j,j<i->(nth l j).name≠t.name))/\rng t.count 0 10=true)/\(rng t.src 0 (n.places.length-1)=true/\rng t.dst 0 (n.places.length-1)=true)) 4 m) ?_ ?_
    ·simp (disch:=omega) only [go_sem,seval];refine (YF t.src 0 (n.places.length-1)).use ?_;simp (disch:=omega) only [go_sem,seval];refine gF ?_ ?_<;>intro h0<;>simp (disch:=omega) only [Sh.out h0,go_sem,seval]
     ·simp only [Bool.not_eq_true'] at h0;exact ⟨m++ [11],hm.yes (by simp [h0]) trivial,Weak.mk (by simp (disch:=omega) only [Zz,Xk,go_sem,seval])⟩
     ·simp only [Bool.not_eq_false'] at h0;refine (YF t.dst 0 (n.places.length-1)).use ?_;simp (disch:=omega) only [go_sem,seval];refine cD ?_ ?_<;>intro h1<;>simp (disch:=omega) only [Sh.out h1,go_sem,seval]
      ·simp only [Bool.not_eq_true'] at h1;exact ⟨m++ [11],hm.yes (by simp [h1]) trivial,Weak.mk (by simp (disch:=omega) only [Zz,Xk,go_sem,seval])⟩
      ·simp only [Bool.not_eq_false'] at h1;exact ⟨m,hm.no (by simp [h0,h1]),Weak.mk (by simp (disch:=omega) only [Zz,Xk,go_sem,seval])⟩
    ·clear hm hml;intro m hm;refine Zd [11] _ _ _ _ ?_;simp (disch:=omega) only [Zz,Xk,go_sem,seval];have hml:=hm.len;refine Zo [7] (fun m:List Int=> [(8,.sl 2 0 m.length m.length)]) (fun m=>Zz n++ [Xk t,.elems 1 (m.map eI)]) (fun m=>FR (fun _=>True) (((((nameOk t.name=true)/\(∀j,j<i->(nth l j).name≠t.name))/\rng t.count 0 10=true)/\(rng t.src 0 (n.places.length-1)=true/\rng t.dst 0 (n.places.length-1)=true))/\Vr t.cap (dimsOf l)=true) 5 m) ?_ ?_
     ·simp (disch:=omega) only [go_sem,seval];refine Zg mixed (by kernel_rfl) (by kernel_rfl) ?_;simp (disch:=omega) only [go_sem,seval];refine Zj (Zep l c hl) ?_;simp (disch:=omega) only [go_sem,seval];refine Zj (Zfq t.cap t.cap_c (dimsOf l) hcap) ?_;simp (disch:=omega) only [go_sem,seval];refine cD ?_ ?_<;>intro h<;>simp (disch:=omega) only [Sh.out h,go_sem,seval]
      ·simp only [Bool.not_eq_true'] at h;exact ⟨m++ [17],hm.yes (by simp [h]) trivial,Weak.mk (by simp (disch:=omega) only [Zz,Xk,go_sem,seval])⟩
      ·simp only [Bool.not_eq_false'] at h;exact ⟨m,hm.no (by simp [h]),Weak.mk (by simp (disch:=omega) only [Zz,Xk,go_sem,seval])⟩
     ·clear hm hml;intro m hm;refine Zd [13] _ _ _ _ ?_;simp (disch:=omega) only [Zz,Xk,go_sem,seval];have hml:=hm.len;refine Zo [7] (fun m:List Int=> [(8,.sl 2 0 m.length m.length)]) (fun m=>Zz n++ [Xk t,.elems 1 (m.map eI)]) (fun m=>FR (fun _=>True) ((((((nameOk t.name=true)/\(∀j,j<i->(nth l j).name≠t.name))/\rng t.count 0 10=true)/\(rng t.src 0 (n.places.length-1)=true/\rng t.dst 0 (n.places.length-1)=true))/\Vr t.cap (dimsOf l)=true)/\rng t.skills 0 1073741823=true) 6 m) ?_ ?_
      ·simp (disch:=omega) only [go_sem,seval];refine (YF t.skills 0 1073741823).use ?_;simp (disch:=omega) only [go_sem,seval];refine cD ?_ ?_<;>intro h0<;>simp (disch:=omega) only [Sh.out h0,go_sem,seval]
       ·simp only [Bool.not_eq_true'] at h0;exact ⟨m++ [18],hm.yes (by simp [h0]) trivial,Weak.mk (by simp (disch:=omega) only [Zz,Xk,go_sem,seval])⟩
       ·simp only [Bool.not_eq_false'] at h0;exact ⟨m,hm.no (by simp [h0]),Weak.mk (by simp (disch:=omega) only [Zz,Xk,go_sem,seval])⟩
      ·clear hm hml;intro m hm;refine Zd [15] _ _ _ _ ?_;simp (disch:=omega) only [Zz,Xk,go_sem,seval];have hml:=hm.len;refine Zo [7] (fun m:List Int=> [(8,.sl 2 0 m.length m.length)]) (fun m=>Zz n++ [Xk t,.elems 1 (m.map eI)]) (fun m=>FR (fun _=>True) (((((((nameOk t.name=true)/\(∀j,j<i->(nth l j).name≠t.name))/\rng t.count 0 10=true)/\(rng t.src 0 (n.places.length-1)=true/\rng t.dst 0 (n.places.length-1)=true))/\Vr t.cap (dimsOf l)=true)/\rng t.skills 0 1073741823=true)/\(rng t.opn 0 t.cls=true/\t.cls<=4096)) 7 m) ?_ ?_
       ·simp (disch:=omega) only [go_sem,seval];refine (YF t.opn 0 t.cls).use ?_;simp (disch:=omega) only [go_sem,seval];refine gF ?_ ?_<;>intro h0<;>simp (disch:=omega) only [Sh.out h0,go_sem,seval]
        ·simp only [Bool.not_eq_true'] at h0;exact ⟨m++ [15],hm.yes (by simp [h0]) trivial,Weak.mk (by simp (disch:=omega) only [Zz,Xk,go_sem,seval])⟩
        ·simp only [Bool.not_eq_false'] at h0;refine cD ?_ ?_<;>intro h1<;>simp (disch:=omega) only [Sh.out h1,go_sem,seval]
         ·exact ⟨m++ [15],hm.yes (by omega) trivial,Weak.mk (by simp (disch:=omega) only [Zz,Xk,go_sem,seval])⟩
         ·exact ⟨m,hm.no (by exact ⟨h0,by omega⟩),Weak.mk (by simp (disch:=omega) only [Zz,Xk,go_sem,seval])⟩
       ·clear hm hml;intro m hm;refine Zd [17] _ _ _ _ ?_;simp (disch:=omega) only [Zz,Xk,go_sem,seval];have hml:=hm.len;refine Zo [7] (fun m:List Int=> [(8,.sl 2 0 m.length m.length)]) (fun m=>Zz n++ [Xk t,.elems 1 (m.map eI)]) (fun m=>FR (fun _=>True) ((((((((nameOk t.name=true)/\(∀j,j<i->(nth l j).name≠t.name))/\rng t.count 0 10=true)/\(rng t.src 0 (n.places.length-1)=true/\rng t.dst 0 (n.places.length-1)=true))/\Vr t.cap (dimsOf l)=true)/\rng t.skills 0 1073741823=true)/\(rng t.opn 0 t.cls=true/\t.cls<=4096))/\(rng t.drive 1 4096=true/\rng t.rest 0 4096=true)) 8 m) ?_ ?_
        ·simp (disch:=omega) only [go_sem,seval];refine (YF t.drive 1 4096).use ?_;simp (disch:=omega) only [go_sem,seval];refine gF ?_ ?_<;>intro h0<;>simp (disch:=omega) only [Sh.out h0,go_sem,seval]
         ·simp only [Bool.not_eq_true'] at h0;exact ⟨m++ [16],hm.yes (by simp [h0]) trivial,Weak.mk (by simp (disch:=omega) only [Zz,Xk,go_sem,seval])⟩
         ·simp only [Bool.not_eq_false'] at h0;refine (YF t.rest 0 4096).use ?_;simp (disch:=omega) only [go_sem,seval];refine cD ?_ ?_<;>intro h1<;>simp (disch:=omega) only [Sh.out h1,go_sem,seval]
          ·simp only [Bool.not_eq_true'] at h1;exact ⟨m++ [16],hm.yes (by simp [h1]) trivial,Weak.mk (by simp (disch:=omega) only [Zz,Xk,go_sem,seval])⟩
          ·simp only [Bool.not_eq_false'] at h1;exact ⟨m,hm.no (by simp [h0,h1]),Weak.mk (by simp (disch:=omega) only [Zz,Xk,go_sem,seval])⟩
        ·clear hm hml;intro m hm;refine Zd [19] _ _ _ _ ?_;simp (disch:=omega) only [Zz,Xk,go_sem,seval];have hml:=hm.len;refine Zo [] (fun m:List Int=> [(8,.sl 2 0 m.length m.length)]) (fun m=>Zz n++ [Xk t,.elems 1 (m.map eI)]) (fun m=>FR (fun _=>True) (((((((((nameOk t.name=true)/\(∀j,j<i->(nth l j).name≠t.name))/\rng t.count 0 10=true)/\(rng t.src 0 (n.places.length-1)=true/\rng t.dst 0 (n.places.length-1)=true))/\Vr t.cap (dimsOf l)=true)/\rng t.skills 0 1073741823=true)/\(rng t.opn 0 t.cls=true/\t.cls<=4096))/\(rng t.drive 1 4096=true/\rng t.rest 0 4096=true))/\(rng t.prof 0 7=true/\rng t.fixed 0 100000=true/\rng t.perMile 0 100=true/\rng t.perTick 0 100=true)) 9 m) ?_ ?_
         ·simp (disch:=omega) only [go_sem,seval];refine (YF t.prof 0 7).use ?_;simp (disch:=omega) only [go_sem,seval];refine gF ?_ ?_<;>intro h0<;>simp (disch:=omega) only [Sh.out h0,go_sem,seval]
          ·simp only [Bool.not_eq_true'] at h0;exact ⟨m++ [2],hm.yes (by simp [h0]) trivial,Weak.mk (by simp (disch:=omega) only [Zz,Xk,go_sem,seval])⟩
          ·simp only [Bool.not_eq_false'] at h0;refine (YF t.fixed 0 100000).use ?_;simp (disch:=omega) only [go_sem,seval];refine gF ?_ ?_<;>intro h1<;>simp (disch:=omega) only [Sh.out h1,go_sem,seval]
           ·simp only [Bool.not_eq_true'] at h1;exact ⟨m++ [2],hm.yes (by simp [h1]) trivial,Weak.mk (by simp (disch:=omega) only [Zz,Xk,go_sem,seval])⟩
           ·simp only [Bool.not_eq_false'] at h1;refine (YF t.perMile 0 100).use ?_;simp (disch:=omega) only [go_sem,seval];refine gF ?_ ?_<;>intro h2<;>simp (disch:=omega) only [Sh.out h2,go_sem,seval]
            ·simp only [Bool.not_eq_true'] at h2;exact ⟨m++ [2],hm.yes (by simp [h2]) trivial,Weak.mk (by simp (disch:=omega) only [Zz,Xk,go_sem,seval])⟩
            ·simp only [Bool.not_eq_false'] at h2;refine (YF t.perTick 0 100).use ?_;simp (disch:=omega) only [go_sem,seval];refine cD ?_ ?_<;>intro h3<;>simp (disch:=omega) only [Sh.out h3,go_sem,seval]
             ·simp only [Bool.not_eq_true'] at h3;exact ⟨m++ [2],hm.yes (by simp [h3]) trivial,Weak.mk (by simp (disch:=omega) only [Zz,Xk,go_sem,seval])⟩
             ·simp only [Bool.not_eq_false'] at h3;exact ⟨m,hm.no (by simp [h0,h1,h2,h3]),Weak.mk (by simp (disch:=omega) only [Zz,Xk,go_sem,seval])⟩
         ·clear hm hml;intro m hm;refine Zd [] _ _ _ _ ?_;simp (disch:=omega) only [Zz,Xk,go_sem,seval];have hml:=hm.len;exact ⟨m,hm.to (by omega) (by rw [hty]),2,by simp (disch:=omega) only [Zz,Xk,go_sem,seval]⟩
def typesOk (n:Net) (l:List Typ):Prop:=rng l.length 1 6=true/\ ∀i,i<l.length->JN n l i
theorem Zsl (n:Net) (l:List Typ) (c:Bool) (hw:n.wf 1048576) (hl:l.length<=1048576) (hlw: ∀t∈l,t.wf 1048576) :
  ACalls Tryz.prog 45 [.p (Zds n),.p (.list c (l.map U7))] [] fun x H'=> ∃m:List Flt,FR (pF 20) (typesOk n l) (1+9*l.length) m/\x= .sl 0 0 m.length m.length/\H'= [.elems 2 (m.map eF)]:=by
 refine Zx [2] Tryz.func45 rfl ZzM ?_;simp (disch:=omega) only [Tryz.f45,go_sem,seval];refine Zm (Weak.ofNil 5 2 (by simp (disch:=omega) only [go_sem,seval]) (by simp) (Weak.refl _ _ _)) ?_;refine Zo [1,2] (fun m:List Flt=> [(5,.sl 1 0 m.length m.length)]) (fun m=>Zz n++ [.elems 2 (m.map eF)]) (fun m=>FR (pF 20) (rng l.length 1 6=true) 1 m) ?_ ?_
 ·simp (disch:=omega) only [go_sem,seval];refine (YF l.length 1 6).use ?_;simp (disch:=omega) only [go_sem,seval];refine cD ?_ ?_<;>intro h<;>simp (disch:=omega) only [Sh.out h,go_sem,seval]
  ·simp only [Bool.not_eq_true'] at h;exact ⟨[(4,[])],⟨by simp,by simp [h],by simp [pF]⟩,Weak.mk (by simp (disch:=omega) only [Zz,go_sem,seval])⟩
  ·simp only [Bool.not_eq_false'] at h;exact ⟨[],FR.nil h,Weak.mk (by simp (disch:=omega) only [Zz,go_sem,seval])⟩
 ·intro m hm;refine Zd [] _ _ _ _ ?_;simp (disch:=omega) only [Zz,go_sem,seval];refine Zf [1,2] (fun q:Nat×List Flt=> [(5,.sl 1 0 q.2.length q.2.length),(6,.p (.int .i64 q.1))]) (fun q=>Zz n++ [.elems 2 (q.2.map eF)]) (fun q=>q.1<=l.length/\FR (pF 20) (rng l.length 1 6=true/\ ∀j,j<q.1->JN n l j) (1+9*q.1) q.2) (fun q=>l.length-q.1) (0,m) ⟨by simp,hm.to (by simp) (by simp)⟩ (Weak.mk ?_) ?_
  ·simp (disch:=omega) only [Zz,go_sem,seval]
  ·clear hm;rintro ⟨k,m⟩ ⟨hk,hm⟩;simp only at hk hm;have hml:=hm.len;simp (disch:=omega) only [Zz,go_sem,seval];refine cD ?_ ?_<;>intro h<;>simp (disch:=omega) only [Sh.out h,go_sem,seval]
   ·have hk2:k<l.length:=by omega
    have hI:I64 (k:Int):=by omega
    have hdl:=WR k hI;refine ((ZgO n l c k hk2 hl hw (hlw _ (Zp hk2))).frozenE).useV fun e he=> ?_;simp (disch:=omega) only [go_sem,seval];have hel:=he.len;refine Zf [1,2,6,7] (fun q:Nat×List Flt=> [(5,.sl 1 0 q.2.length q.2.length),(8,.p (.int .i64 q.1))]) (fun q=>Zz n++ [.elems 2 (q.2.map eF)]) (fun q=>q.1<=e.length/\FR (pF 20) ((rng l.length 1 6=true/\ ∀j,j<k->JN n l j)/\q.1=0) (1+9*k+q.1) q.2) (fun q=>e.length-q.1) (0,m) ⟨by simp,hm.to (by simp) (by simp)⟩ (Weak.mk ?_) ?_
    ·simp (disch:=omega) only [Zz,go_sem,seval]
    ·clear hm hml;rintro ⟨j,m⟩ ⟨hj,hm⟩;simp only at hj hm;have hml:=hm.len;simp (disch:=omega) only [Zz,go_sem,seval];refine cD ?_ ?_<;>intro h2<;>simp (disch:=omega) only [Sh.out h2,go_sem,seval]
     ·have hj2:j<e.length:=by omega
      refine Zn 9 mixed (by kernel_rfl) (by kernel_rfl) ?_;simp (disch:=omega) only [go_sem,seval];refine Zj (Ux k hI) ?_;simp (disch:=omega) only [go_sem,seval];exact ⟨(j+1,m++ [(nth e j,Zca k)]),⟨by simp only;omega,(hm.yes (c:=False) (by simp) (by simpa [pF] using hdl)).to (by simp only;omega) (by simp)⟩,by simp only;omega,Weak.mk (by simp (disch:=omega) only [Zz,go_sem,seval])⟩
     ·have hjl:j=e.length:=by omega
      subst hjl;exact ⟨(k+1,m),⟨by simp only;omega,hm.to (by simp only;omega) (by simp only [Zi,and_assoc];rw [<- he.emp,List.eq_nil_iff_length_eq_zero])⟩,by simp only;omega,Weak.mk (by simp (disch:=omega) only [Zz,go_sem,seval])⟩
   ·have hkn:k=l.length:=by omega
    subst hkn;exact ⟨m,hm.to (by omega) (by rw [typesOk]),1,by simp (disch:=omega) only [Zz,go_sem,seval]⟩
theorem Zav (n lo hi:Int):PC 124 [.p (.int .i64 n),.p (.int .i64 lo),.p (.int .i64 hi)] (.bool (rng n lo hi)):=by
 refine Za Tryz.func124 rfl Zt9 ?_;simp (disch:=omega) only [Tryz.f124,go_sem,seval];refine gT ?_ ?_<;>intro h<;>simp (disch:=omega) only [Sh.out h,go_sem,seval]
 all_goals (simp [rng];first | done | omega | (rw [Bool.eq_iff_iff];simp;omega))
def loadOk (l:List Int) (d:Int):Bool:=decide ((l.length:Int)=d)&&l.all fun n=>rng n 0 1000
theorem Zh9 (l:List Int) (c:Bool) (d:Int) (hl:l.length<=1048576):PC 123 [.p (.list c (l.map eI)),.p (.int .i64 d)] (.bool (loadOk l d)):=by
 refine Za Tryz.func123 rfl Zwt ?_;simp (disch:=omega) only [Tryz.f123,go_sem,seval];refine cD ?_ ?_<;>intro h2<;>simp (disch:=omega) only [Sh.out h2,go_sem,seval]
 ·simp [loadOk,h2]
 ·simp only [Classical.not_not] at h2;subst h2;refine Zf [0] (fun k:Nat=> [(5,.p (.int .i64 k))]) (fun _=> []) (fun k=>k<=l.length/\ ∀j,j<k->rng (nth l j) 0 1000=true) (fun k=>l.length-k) 0 (by simp) (Weak.mk ?_) ?_
  ·simp (disch:=omega) only [go_sem,seval]
  ·rintro k ⟨hk,hno⟩;simp (disch:=omega) only [go_sem,seval];refine cD ?_ ?_<;>intro h3<;>simp (disch:=omega) only [Sh.out h3,go_sem,seval]
   ·have hk2:k<l.length:=by omega
    have hbad:rng (nth l k) 0 1000=false->loadOk l l.length=false:=fun h4=>by
     have:l.all (fun n=>rng n 0 1000)=false:=by
      rw [List.all_eq_false];exact ⟨nth l k,Zp hk2,by rw [h4];simp⟩
     simp [loadOk,this]
    repeat' (first | (refine ZO (fun hq=> ?_) (fun hq=> ?_)<;>(try simp only [decide_eq_true_eq,decide_eq_false_iff_not,Classical.not_not] at hq)<;>simp (disch:=omega) only [Sh.out hq,go_sem,seval]) | (refine ZQ (fun hq=> ?_) (fun hq=> ?_)<;>(try simp only [decide_eq_true_eq,decide_eq_false_iff_not,Classical.not_not] at hq)<;>simp (disch:=omega) only [Sh.out hq,go_sem,seval]) | (refine Z6 (fun hq=> ?_) (fun hq=> ?_)<;>(try simp only [decide_eq_true_eq,decide_eq_false_iff_not,Classical.not_not] at hq)<;>simp (disch:=omega) only [Sh.out hq,go_sem,seval]))
    all_goals first
     | (rw [hbad (by simp [rng];omega)])
     | exact ⟨k+1,⟨by omega,Zi.2 ⟨hno,by simp [rng];omega⟩⟩,by omega,wk⟩
   ·have:l.all (fun n=>rng n 0 1000)=true:=by
     rw [List.all_eq_true];intro x hx;obtain ⟨j,hj,rfl⟩:=List.mem_iff_getElem.1 hx;rw [<- Ze hj];exact hno j (by omega)
    simp [loadOk,this]
def stpOk (s:Stp):Bool:=decide ((s.place= -1/\s.opn=0/\s.cls=0/\s.serv=0)\/(0<=s.place/\0<=s.opn/\s.opn<=s.cls/\s.cls<=4096/\0<=s.serv/\s.serv<=4096))
def ZpF (s:Stp):Int:=if stpOk s=true then 0 else 2
theorem Zmd (s:Stp):PC 125 [.p (Zhm s)] (.int .i64 (ZpF s)):=by
 refine Za Tryz.func125 rfl Ztw ?_;simp (disch:=omega) only [Tryz.f125,go_sem,seval]
 repeat' (first | (refine ZO (fun hq=> ?_) (fun hq=> ?_)<;>(try simp only [decide_eq_true_eq,decide_eq_false_iff_not,Classical.not_not] at hq)<;>simp (disch:=omega) only [Sh.out hq,go_sem,seval]) | (refine ZQ (fun hq=> ?_) (fun hq=> ?_)<;>(try simp only [decide_eq_true_eq,decide_eq_false_iff_not,Classical.not_not] at hq)<;>simp (disch:=omega) only [Sh.out hq,go_sem,seval]) | (refine Z6 (fun hq=> ?_) (fun hq=> ?_)<;>(try simp only [decide_eq_true_eq,decide_eq_false_iff_not,Classical.not_not] at hq)<;>simp (disch:=omega) only [Sh.out hq,go_sem,seval]))
 all_goals (simp only [ZpF,stpOk,decide_eq_true_eq])
 all_goals first
  | (exfalso;omega)
  | (rw [if_pos (by omega)])
  | (rw [if_neg (by omega)])
def XH (l:List Ord) (i:Nat):Bool:=(List.range i).all fun j=>decide ((nth l j).name≠(nth l i).name)
theorem VA {l:List Ord} {i:Nat} :XH l i=true↔ ∀j,j<i->(nth l j).name≠(nth l i).name:=by simp [XH]
def sel (b:Bool) (e:Int):List Int:=if b=true then [] else [e]
theorem Wl (b:Bool) (e:Int):(sel b e).length<=1:=by unfold sel;split<;>simp
theorem WG {b:Bool} {e:Int} {m p:List Int} (h:m=p) (hb:b=true):m=p++sel b e:=by simp [sel,hb,h]
theorem Wt {b:Bool} {e:Int} {m p:List Int} (h:m=p) (hb:b=false):m++ [e]=p++sel b e:=by simp [sel,hb,h]
def XR (t:Ord):AM.Obj:= .cells [.p (.str t.name),.p (.list t.load_c (t.load.map eI)),.p (.int .i64 t.pick.place),.p (.int .i64 t.pick.opn),.p (.int .i64 t.pick.cls),.p (.int .i64 t.pick.serv),.p (.int .i64 t.drp.place),.p (.int .i64 t.drp.opn),.p (.int .i64 t.drp.cls),.p (.int .i64 t.drp.serv),.p (.int .i64 t.skills),.p (.int .i64 t.penalty),.p (.int .i64 t.split),.p (.int .i64 t.last),.p (.int .i64 t.now),.p (.bool t.off)]
def ZdT (t:Ord):Bool:=decide (t.pick.place≠ -1)&&decide (t.drp.place≠ -1)
def argOk (t:Ord) (ty:Int):Bool:=rng t.penalty (-1) 1000000&&rng t.split 1 4&&decide (¬(1<t.split/\ZdT t=true)/\ -1<=t.last/\t.last<ty/\ -1<=t.now/\t.now<ty)
def XC (np:Nat) (d ty:Int) (l:List Ord) (i:Nat):List Int:=sel (nameOk (nth l i).name) 5++sel (XH l i) 6++sel (loadOk (nth l i).load d) 17++sel ((rng (nth l i).pick.place (-1) ((np:Int)-1)&&rng (nth l i).drp.place (-1) ((np:Int)-1))) 11++sel (decide (¬((nth l i).pick.place= -1/\(nth l i).drp.place= -1))) 19++sel ((stpOk (nth l i).pick&&stpOk (nth l i).drp)) 14++sel (rng (nth l i).skills 0 1073741823) 18++sel (argOk (nth l i) ty) 2
theorem US (np:Nat) (d ty:Int) (l:List Ord) (i:Nat):(XC np d ty l i).length<=8:=by
 have h:=Wl;simp only [XC,List.length_append];have h1:=fun b=>h b 5;have h2:=fun b=>h b 6;have h3:=fun b=>h b 17;have h4:=fun b=>h b 11;have h5:=fun b=>h b 19;have h6:=fun b=>h b 14;have h7:=fun b=>h b 18;have h8:=fun b=>h b 2;have a1:=h1 (nameOk (nth l i).name);have a2:=h2 (XH l i);have a3:=h3 (loadOk (nth l i).load d);have a4:=h4 (rng (nth l i).pick.place (-1) ((np:Int)-1)&&rng (nth l i).drp.place (-1) ((np:Int)-1));have a5:=h5 (decide (¬((nth l i).pick.place= -1/\(nth l i).drp.place= -1)));have a6:=h6 (stpOk (nth l i).pick&&stpOk (nth l i).drp)
 have a7:=h7 (rng (nth l i).skills 0 1073741823);have a8:=h8 (argOk (nth l i) ty);omega
theorem Zgc (np:Nat) (d ty:Int) (l:List Ord) (c:Bool) (i:Nat) (hi:i<l.length) (hl:l.length<=1048576) (hnp:np<=1048576) (ht:(nth l i).wf 1048576) :
  ACalls Tryz.prog 79 [.p (.int .i64 (np:Nat)),.p (.int .i64 d),.p (.int .i64 ty),.p (.list c (l.map Ug)),.p (.int .i64 (i:Nat))] [] fun x H'=>x= .sl 0 0 (XC np d ty l i).length (XC np d ty l i).length/\H'= [.elems 1 ((XC np d ty l i).map eI)]:=by
 suffices hh:ACalls Tryz.prog 79 [.p (.int .i64 (np:Nat)),.p (.int .i64 d),.p (.int .i64 ty),.p (.list c (l.map Ug)),.p (.int .i64 (i:Nat))] [] fun x H'=> ∃m:List Int,m=XC np d ty l i/\x= .sl 0 0 m.length m.length/\H'= [.elems 1 (m.map eI)] by
  refine hh.mono ?_;rintro x H' ⟨m,rfl,h1,h2⟩;exact ⟨h1,h2⟩
 refine Zx [3] Tryz.func79 rfl ZCq ?_;simp (disch:=omega) only [Tryz.f79,go_sem,seval];have hty:XC np d ty l i=sel (nameOk (nth l i).name) 5++sel (XH l i) 6++sel (loadOk (nth l i).load d) 17++sel ((rng (nth l i).pick.place (-1) ((np:Int)-1)&&rng (nth l i).drp.place (-1) ((np:Int)-1))) 11++sel (decide (¬((nth l i).pick.place= -1/\(nth l i).drp.place= -1))) 19++sel ((stpOk (nth l i).pick&&stpOk (nth l i).drp)) 14++sel (rng (nth l i).skills 0 1073741823) 18++sel (argOk (nth l i) ty) 2:=rfl
 have hleng: ∀m:List Int,∀p:List Int,m=p->p.length<=8->m.length<=8:=fun m p h1 h2=>by rw [h1];exact h2
 generalize hga:nth l i=t at ht hty ⊢;have hname:=ht.1;have hload:=ht.2.1;refine Zm (Weak.ofNil 11 1 (by simp (disch:=omega) only [go_sem,seval]) (by simp) (Weak.refl _ _ _)) ?_;refine Zo [0,1,2,3,4,12] (fun m:List Int=> [(11,.sl 1 0 m.length m.length)]) (fun m=> [XR t,.elems 1 (m.map eI)]) (fun m=>m=sel (nameOk t.name) 5) ?_ ?_
 ·simp (disch:=omega) only [go_sem,seval];refine (Zih t.name hname).use ?_;simp (disch:=omega) only [go_sem,seval];refine cD ?_ ?_<;>intro h<;>simp (disch:=omega) only [Sh.out h,go_sem,seval]
  ·simp only [Bool.not_eq_true'] at h;exact ⟨[5],by simp [sel,h],Weak.mk (by simp (disch:=omega) only [XR,go_sem,seval])⟩
  ·simp only [Bool.not_eq_false'] at h;exact ⟨[],by simp [sel,h],Weak.mk (by simp (disch:=omega) only [XR,go_sem,seval])⟩
 ·skip
  intro m hm;refine Zd [5] _ _ _ _ ?_;simp (disch:=omega) only [XR,go_sem,seval]
  have hml:m.length<=8:=by
   rw [hm]
   try simp only [List.length_append]
   have h:=Wl;have a0:=h (nameOk t.name) 5;omega
  refine Zo [0,1,2,12] (fun m:List Int=> [(11,.sl 1 0 m.length m.length)]) (fun m=> [XR t,.elems 1 (m.map eI)]) (fun m=>m=sel (nameOk t.name) 5++sel (XH l i) 6) ?_ ?_
  ·simp (disch:=omega) only [go_sem,seval];refine Zf [0,1,2,3,4,11,12] (fun k:Nat=> [(13,.p (.int .i64 k))]) (fun _=> [XR t,.elems 1 (m.map eI)]) (fun k=>k<=i/\ ∀j,j<k->(nth l j).name≠(nth l i).name) (fun k=>i-k) 0 (by simp) (Weak.mk ?_) ?_
   ·simp (disch:=omega) only [XR,go_sem,seval]
   ·rintro k ⟨hk,hno⟩;simp (disch:=omega) only [XR,go_sem,seval];refine cD ?_ ?_<;>intro h3<;>simp (disch:=omega) only [Sh.out h3,go_sem,seval]
    ·have hk2:k<l.length:=by omega
     refine Zg mixed (by kernel_rfl) (by kernel_rfl) ?_;simp (disch:=omega) only [go_sem,seval];refine cD ?_ ?_<;>intro h4<;>simp (disch:=omega) only [Sh.out h4,go_sem,seval]
     ·exact ⟨m++ [6],Wt hm (by cases hq:XH l i with | false=>rfl | true=>exact absurd (by rw [hga];exact h4) (VA.1 hq k (by omega))),Weak.mk (by simp (disch:=omega) only [XR,go_sem,seval])⟩
     ·exact ⟨k+1,⟨by omega,Zi.2 ⟨hno,by rw [hga];exact h4⟩⟩,by omega,Weak.mk (by simp (disch:=omega) only [XR,go_sem,seval])⟩
    ·have hki:k=i:=by omega
     subst hki;exact ⟨m,WG hm (VA.2 hno),Weak.mk (by simp (disch:=omega) only [XR,go_sem,seval])⟩
  ·clear hm hml;intro m hm;refine Zd [10] _ _ _ _ ?_;simp (disch:=omega) only [XR,go_sem,seval]
   have hml:m.length<=8:=by
    rw [hm]
    try simp only [List.length_append]
    have h:=Wl;have a0:=h (nameOk t.name) 5;have a1:=h (XH l i) 6;omega
   refine Zo [0,2,12] (fun m:List Int=> [(11,.sl 1 0 m.length m.length)]) (fun m=> [XR t,.elems 1 (m.map eI)]) (fun m=>m=sel (nameOk t.name) 5++sel (XH l i) 6++sel (loadOk t.load d) 17) ?_ ?_
   ·simp (disch:=omega) only [go_sem,seval];refine (Zh9 t.load t.load_c d hload).use ?_;simp (disch:=omega) only [go_sem,seval];refine cD ?_ ?_<;>intro h<;>simp (disch:=omega) only [Sh.out h,go_sem,seval]
    ·simp only [Bool.not_eq_true'] at h;exact ⟨m++ [17],Wt hm (h),Weak.mk (by simp (disch:=omega) only [XR,go_sem,seval])⟩
    ·simp only [Bool.not_eq_false'] at h;exact ⟨m,WG hm (h),Weak.mk (by simp (disch:=omega) only [XR,go_sem,seval])⟩
   ·clear hm hml;intro m hm;refine Zd [12] _ _ _ _ ?_;simp (disch:=omega) only [XR,go_sem,seval]
    have hml:m.length<=8:=by
     rw [hm]
     try simp only [List.length_append]
     have h:=Wl;have a0:=h (nameOk t.name) 5;have a1:=h (XH l i) 6;have a2:=h (loadOk t.load d) 17;omega
    refine Zo [2,12] (fun m:List Int=> [(11,.sl 1 0 m.length m.length)]) (fun m=> [XR t,.elems 1 (m.map eI)]) (fun m=>m=sel (nameOk t.name) 5++sel (XH l i) 6++sel (loadOk t.load d) 17++sel ((rng t.pick.place (-1) ((np:Int)-1)&&rng t.drp.place (-1) ((np:Int)-1))) 11) ?_ ?_
    ·simp (disch:=omega) only [go_sem,seval];refine (Zav t.pick.place (-1) ((np:Int)-1)).use ?_;simp (disch:=omega) only [go_sem,seval];refine gF ?_ ?_<;>intro h<;>simp (disch:=omega) only [Sh.out h,go_sem,seval]
     ·simp only [Bool.not_eq_true'] at h;exact ⟨m++ [11],Wt hm (by simp [h]),Weak.mk (by simp (disch:=omega) only [XR,go_sem,seval])⟩
     ·simp only [Bool.not_eq_false'] at h;refine (Zav t.drp.place (-1) ((np:Int)-1)).use ?_;simp (disch:=omega) only [go_sem,seval];refine cD ?_ ?_<;>intro h2<;>simp (disch:=omega) only [Sh.out h2,go_sem,seval]
      ·simp only [Bool.not_eq_true'] at h2;exact ⟨m++ [11],Wt hm (by simp [h2]),Weak.mk (by simp (disch:=omega) only [XR,go_sem,seval])⟩
      ·simp only [Bool.not_eq_false'] at h2;exact ⟨m,WG hm (by simp [h,h2]),Weak.mk (by simp (disch:=omega) only [XR,go_sem,seval])⟩
    ·clear hm hml;intro m hm;refine Zd [14] _ _ _ _ ?_;simp (disch:=omega) only [XR,go_sem,seval]
     have hml:m.length<=8:=by
      rw [hm]
      try simp only [List.length_append]
      have h:=Wl;have a0:=h (nameOk t.name) 5;have a1:=h (XH l i) 6;have a2:=h (loadOk t.load d) 17;have a3:=h ((rng t.pick.place (-1) ((np:Int)-1)&&rng t.drp.place (-1) ((np:Int)-1))) 11;omega
     refine Zo [2,12] (fun m:List Int=> [(11,.sl 1 0 m.length m.length)]) (fun m=> [XR t,.elems 1 (m.map eI)]) (fun m=>m=sel (nameOk t.name) 5++sel (XH l i) 6++sel (loadOk t.load d) 17++sel ((rng t.pick.place (-1) ((np:Int)-1)&&rng t.drp.place (-1) ((np:Int)-1))) 11++sel (decide (¬(t.pick.place= -1/\t.drp.place= -1))) 19) ?_ ?_
     ·simp (disch:=omega) only [go_sem,seval]
      repeat' (first | (refine ZO (fun hq=> ?_) (fun hq=> ?_)<;>(try simp only [decide_eq_true_eq,decide_eq_false_iff_not,Classical.not_not] at hq)<;>simp (disch:=omega) only [Sh.out hq,go_sem,seval]) | (refine ZQ (fun hq=> ?_) (fun hq=> ?_)<;>(try simp only [decide_eq_true_eq,decide_eq_false_iff_not,Classical.not_not] at hq)<;>simp (disch:=omega) only [Sh.out hq,go_sem,seval]) | (refine Z6 (fun hq=> ?_) (fun hq=> ?_)<;>(try simp only [decide_eq_true_eq,decide_eq_false_iff_not,Classical.not_not] at hq)<;>simp (disch:=omega) only [Sh.out hq,go_sem,seval]))
      all_goals first
       | exact ⟨m++ [19],Wt hm (by first | (simp;done) | (simp;omega)),Weak.mk (by simp (disch:=omega) only [XR,go_sem,seval])⟩
       | exact ⟨m,WG hm (by first | (simp;done) | (simp;omega)),Weak.mk (by simp (disch:=omega) only [XR,go_sem,seval])⟩
     ·clear hm hml;intro m hm;refine Zd [16] _ _ _ _ ?_;simp (disch:=omega) only [XR,go_sem,seval]
      have hml:m.length<=8:=by
       rw [hm]
       try simp only [List.length_append]
       have h:=Wl;have a0:=h (nameOk t.name) 5;have a1:=h (XH l i) 6;have a2:=h (loadOk t.load d) 17;have a3:=h ((rng t.pick.place (-1) ((np:Int)-1)&&rng t.drp.place (-1) ((np:Int)-1))) 11;have a4:=h (decide (¬(t.pick.place= -1/\t.drp.place= -1))) 19;omega
      refine Zo [2,12] (fun m:List Int=> [(11,.sl 1 0 m.length m.length)]) (fun m=> [XR t,.elems 1 (m.map eI)]) (fun m=>m=sel (nameOk t.name) 5++sel (XH l i) 6++sel (loadOk t.load d) 17++sel ((rng t.pick.place (-1) ((np:Int)-1)&&rng t.drp.place (-1) ((np:Int)-1))) 11++sel (decide (¬(t.pick.place= -1/\t.drp.place= -1))) 19++sel ((stpOk t.pick&&stpOk t.drp)) 14) ?_ ?_
      ·simp (disch:=omega) only [go_sem,seval];refine (Zmd t.pick).use ?_;simp (disch:=omega) only [go_sem,seval]
       cases h:stpOk t.pick with
       | false =>
        simp (disch:=omega) only [ZpF,h,go_sem,seval];exact ⟨m++ [14],Wt hm (by simp [h]),Weak.mk (by simp (disch:=omega) only [XR,go_sem,seval])⟩
       | true =>
        simp (disch:=omega) only [ZpF,h,go_sem,seval];refine (Zmd t.drp).use ?_;simp (disch:=omega) only [go_sem,seval]
        cases h2:stpOk t.drp with
        | false =>
         simp (disch:=omega) only [ZpF,h2,go_sem,seval];exact ⟨m++ [14],Wt hm (by simp [h2]),Weak.mk (by simp (disch:=omega) only [XR,go_sem,seval])⟩
        | true =>
         simp (disch:=omega) only [ZpF,h2,go_sem,seval];exact ⟨m,WG hm (by simp [h,h2]),Weak.mk (by simp (disch:=omega) only [XR,go_sem,seval])⟩
      ·clear hm hml;intro m hm;refine Zd [18] _ _ _ _ ?_;simp (disch:=omega) only [XR,go_sem,seval]
       have hml:m.length<=8:=by
        rw [hm]
        try simp only [List.length_append]
        have h:=Wl;have a0:=h (nameOk t.name) 5;have a1:=h (XH l i) 6;have a2:=h (loadOk t.load d) 17;have a3:=h ((rng t.pick.place (-1) ((np:Int)-1)&&rng t.drp.place (-1) ((np:Int)-1))) 11;have a4:=h (decide (¬(t.pick.place= -1/\t.drp.place= -1))) 19;have a5:=h ((stpOk t.pick&&stpOk t.drp)) 14;omega
       refine Zo [2,12] (fun m:List Int=> [(11,.sl 1 0 m.length m.length)]) (fun m=> [XR t,.elems 1 (m.map eI)]) (fun m=>m=sel (nameOk t.name) 5++sel (XH l i) 6++sel (loadOk t.load d) 17++sel ((rng t.pick.place (-1) ((np:Int)-1)&&rng t.drp.place (-1) ((np:Int)-1))) 11++sel (decide (¬(t.pick.place= -1/\t.drp.place= -1))) 19++sel ((stpOk t.pick&&stpOk t.drp)) 14++sel (rng t.skills 0 1073741823) 18) ?_ ?_
       ·simp (disch:=omega) only [go_sem,seval];refine (Zav t.skills 0 1073741823).use ?_;simp (disch:=omega) only [go_sem,seval];refine cD ?_ ?_<;>intro h<;>simp (disch:=omega) only [Sh.out h,go_sem,seval]
        ·simp only [Bool.not_eq_true'] at h;exact ⟨m++ [18],Wt hm (h),Weak.mk (by simp (disch:=omega) only [XR,go_sem,seval])⟩
        ·simp only [Bool.not_eq_false'] at h;exact ⟨m,WG hm (h),Weak.mk (by simp (disch:=omega) only [XR,go_sem,seval])⟩
       ·clear hm hml;intro m hm;refine Zd [20] _ _ _ _ ?_;simp (disch:=omega) only [XR,go_sem,seval]
        have hml:m.length<=8:=by
         rw [hm]
         try simp only [List.length_append]
         have h:=Wl;have a0:=h (nameOk t.name) 5;have a1:=h (XH l i) 6;have a2:=h (loadOk t.load d) 17;have a3:=h ((rng t.pick.place (-1) ((np:Int)-1)&&rng t.drp.place (-1) ((np:Int)-1))) 11;have a4:=h (decide (¬(t.pick.place= -1/\t.drp.place= -1))) 19;have a5:=h ((stpOk t.pick&&stpOk t.drp)) 14;have a6:=h (rng t.skills 0 1073741823) 18;omega
        refine Zo [2,11,12] (fun b:Bool=> [(14,.p (.bool b))]) (fun _=> [XR t,.elems 1 (m.map eI)]) (fun b=>b=ZdT t) ?_ ?_
        ·simp (disch:=omega) only [go_sem,seval]
         repeat' (first | (refine ZO (fun hq=> ?_) (fun hq=> ?_)<;>(try simp only [decide_eq_true_eq,decide_eq_false_iff_not,Classical.not_not] at hq)<;>simp (disch:=omega) only [Sh.out hq,go_sem,seval]) | (refine ZQ (fun hq=> ?_) (fun hq=> ?_)<;>(try simp only [decide_eq_true_eq,decide_eq_false_iff_not,Classical.not_not] at hq)<;>simp (disch:=omega) only [Sh.out hq,go_sem,seval]) | (refine Z6 (fun hq=> ?_) (fun hq=> ?_)<;>(try simp only [decide_eq_true_eq,decide_eq_false_iff_not,Classical.not_not] at hq)<;>simp (disch:=omega) only [Sh.out hq,go_sem,seval]))
         all_goals refine ⟨ZdT t,rfl,Weak.mk ?_⟩
         all_goals (simp (disch:=omega) only [XR,go_sem,seval];simp [ZdT, *])
        ·rintro b hb;refine Zd [21] _ _ _ _ ?_;simp (disch:=omega) only [XR,go_sem,seval];refine Zo [] (fun m:List Int=> [(11,.sl 1 0 m.length m.length)]) (fun m=> [XR t,.elems 1 (m.map eI)]) (fun m=>m=sel (nameOk t.name) 5++sel (XH l i) 6++sel (loadOk t.load d) 17++sel ((rng t.pick.place (-1) ((np:Int)-1)&&rng t.drp.place (-1) ((np:Int)-1))) 11++sel (decide (¬(t.pick.place= -1/\t.drp.place= -1))) 19++sel ((stpOk t.pick&&stpOk t.drp)) 14++sel (rng t.skills 0 1073741823) 18++sel (argOk t ty) 2) ?_ ?_
         ·simp (disch:=omega) only [go_sem,seval];refine (Zav t.penalty (-1) 1000000).use ?_;simp (disch:=omega) only [go_sem,seval];refine gF ?_ ?_<;>intro h<;>simp (disch:=omega) only [Sh.out h,go_sem,seval]
          ·simp only [Bool.not_eq_true'] at h;exact ⟨m++ [2],Wt hm (by simp [argOk,h]),Weak.mk (by simp (disch:=omega) only [XR,go_sem,seval])⟩
          ·simp only [Bool.not_eq_false'] at h;refine (Zav t.split 1 4).use ?_;simp (disch:=omega) only [go_sem,seval];refine gF ?_ ?_<;>intro h2<;>simp (disch:=omega) only [Sh.out h2,go_sem,seval]
           ·simp only [Bool.not_eq_true'] at h2;exact ⟨m++ [2],Wt hm (by simp [argOk,h2]),Weak.mk (by simp (disch:=omega) only [XR,go_sem,seval])⟩
           ·simp only [Bool.not_eq_false'] at h2
            cases b with
            | true =>
             repeat' (first | (refine ZO (fun hq=> ?_) (fun hq=> ?_)<;>(try simp only [decide_eq_true_eq,decide_eq_false_iff_not,Classical.not_not] at hq)<;>simp (disch:=omega) only [Sh.out hq,go_sem,seval]) | (refine ZQ (fun hq=> ?_) (fun hq=> ?_)<;>(try simp only [decide_eq_true_eq,decide_eq_false_iff_not,Classical.not_not] at hq)<;>simp (disch:=omega) only [Sh.out hq,go_sem,seval]) | (refine Z6 (fun hq=> ?_) (fun hq=> ?_)<;>(try simp only [decide_eq_true_eq,decide_eq_false_iff_not,Classical.not_not] at hq)<;>simp (disch:=omega) only [Sh.out hq,go_sem,seval]))
             all_goals first
              | exact ⟨m++ [2],Wt hm (by rw [argOk,<- hb];first | (simp;done) | (simp;omega)),Weak.mk (by simp (disch:=omega) only [XR,go_sem,seval])⟩
              | exact ⟨m,WG hm (by rw [argOk,<- hb,h,h2];first | (simp;done) | (simp;omega)),Weak.mk (by simp (disch:=omega) only [XR,go_sem,seval])⟩
            | false =>
             repeat' (first | (refine ZO (fun hq=> ?_) (fun hq=> ?_)<;>(try simp only [decide_eq_true_eq,decide_eq_false_iff_not,Classical.not_not] at hq)<;>simp (disch:=omega) only [Sh.out hq,go_sem,seval]) | (refine ZQ (fun hq=> ?_) (fun hq=> ?_)<;>(try simp only [decide_eq_true_eq,decide_eq_false_iff_not,Classical.not_not] at hq)<;>simp (disch:=omega) only [Sh.out hq,go_sem,seval]) | (refine Z6 (fun hq=> ?_) (fun hq=> ?_)<;>(try simp only [decide_eq_true_eq,decide_eq_false_iff_not,Classical.not_not] at hq)<;>simp (disch:=omega) only [Sh.out hq,go_sem,seval]))
             all_goals first
              | exact ⟨m++ [2],Wt hm (by rw [argOk,<- hb];first | (simp;done) | (simp;omega)),Weak.mk (by simp (disch:=omega) only [XR,go_sem,seval])⟩
              | exact ⟨m,WG hm (by rw [argOk,<- hb,h,h2];first | (simp;done) | (simp;omega)),Weak.mk (by simp (disch:=omega) only [XR,go_sem,seval])⟩
         ·clear hm hml;intro m hm;refine Zd [] _ _ _ _ ?_;simp (disch:=omega) only [XR,go_sem,seval]
          have hml:m.length<=8:=by
           rw [hm]
           try simp only [List.length_append]
           have h:=Wl;have a0:=h (nameOk t.name) 5;have a1:=h (XH l i) 6;have a2:=h (loadOk t.load d) 17;have a3:=h ((rng t.pick.place (-1) ((np:Int)-1)&&rng t.drp.place (-1) ((np:Int)-1))) 11;have a4:=h (decide (¬(t.pick.place= -1/\t.drp.place= -1))) 19;have a5:=h ((stpOk t.pick&&stpOk t.drp)) 14;have a6:=h (rng t.skills 0 1073741823) 18;have a7:=h (argOk t ty) 2;omega
          exact ⟨m,by rw [hm,hty],1,by simp (disch:=omega) only [XR,go_sem,seval]⟩
def Z3 (np:Nat) (d ty:Int) (l:List Ord) (k:Nat):List Flt:=(if l.length<=10 then [] else [(4,[])])++(List.range k).flatMap fun i=>(XC np d ty l i).map fun e=>(e,Zca i)
theorem U3 (np:Nat) (d ty:Int) (l:List Ord) (k:Nat):Z3 np d ty l (k+1)=Z3 np d ty l k++(XC np d ty l k).map fun e=>(e,Zca k):=by
 simp [Z3,List.range_succ]
theorem Wm (np:Nat) (d ty:Int) (l:List Ord): ∀k,(Z3 np d ty l k).length<=1+8*k
 | 0=>by simp [Z3];split<;>simp
 | k+1=>by
  have h1:=Wm np d ty l k;have h2:=US np d ty l k;rw [U3];simp;omega
theorem ZwL (n:Net) (d ty:Int) (l:List Ord) (c:Bool) (hw:n.wf 1048576) (hl:l.length<=1048576) (hlw: ∀t∈l,t.wf 1048576) :
  ACalls Tryz.prog 46 [.p (Zds n),.p (.int .i64 d),.p (.int .i64 ty),.p (.list c (l.map Ug))] [] fun x H'=>x= .sl 0 0 (Z3 n.places.length d ty l l.length).length (Z3 n.places.length d ty l l.length).length/\H'= [.elems 2 ((Z3 n.places.length d ty l l.length).map eF)]:=by
 obtain ⟨w1,w2,w3,w4⟩:=hw
 suffices hh:ACalls Tryz.prog 46 [.p (Zds n),.p (.int .i64 d),.p (.int .i64 ty),.p (.list c (l.map Ug))] [] fun x H'=> ∃m:List Flt,m=Z3 n.places.length d ty l l.length/\x= .sl 0 0 m.length m.length/\H'= [.elems 2 (m.map eF)] by
  refine hh.mono ?_;rintro x H' ⟨m,rfl,h1,h2⟩;exact ⟨h1,h2⟩
 refine Zx [2] Tryz.func46 rfl Zzx ?_;simp (disch:=omega) only [Tryz.f46,go_sem,seval];refine Zm (Weak.ofNil 9 2 (by simp (disch:=omega) only [go_sem,seval]) (by simp) (Weak.refl _ _ _)) ?_;refine Zo [1,2,3,4] (fun m:List Flt=> [(9,.sl 1 0 m.length m.length)]) (fun m=>Zz n++ [.elems 2 (m.map eF)]) (fun m=>m=Z3 n.places.length d ty l 0) ?_ ?_
 ·simp (disch:=omega) only [go_sem,seval];refine cD ?_ ?_<;>intro h<;>simp (disch:=omega) only [Sh.out h,go_sem,seval]
  ·exact ⟨[(4,[])],by rw [Z3,if_neg (by omega)];rfl,Weak.mk (by simp (disch:=omega) only [Zz,go_sem,seval])⟩
  ·exact ⟨[],by rw [Z3,if_pos (by omega)];rfl,Weak.mk (by simp (disch:=omega) only [Zz,go_sem,seval])⟩
 ·intro m hm;refine Zd [] _ _ _ _ ?_;simp (disch:=omega) only [Zz,go_sem,seval];refine Zf [1,2,3,4] (fun q:Nat×List Flt=> [(9,.sl 1 0 q.2.length q.2.length),(10,.p (.int .i64 q.1))]) (fun q=>Zz n++ [.elems 2 (q.2.map eF)]) (fun q=>q.1<=l.length/\q.2=Z3 n.places.length d ty l q.1) (fun q=>l.length-q.1) (0,m) ⟨by simp,hm⟩ (Weak.mk ?_) ?_
  ·simp (disch:=omega) only [Zz,go_sem,seval]
  ·clear hm;rintro ⟨k,m⟩ ⟨hk,hm⟩;simp only at hk hm;have hml:=Wm n.places.length d ty l k;rw [<- hm] at hml;simp (disch:=omega) only [Zz,go_sem,seval];refine cD ?_ ?_<;>intro h<;>simp (disch:=omega) only [Sh.out h,go_sem,seval]
   ·have hk2:k<l.length:=by omega
    have hI:I64 (k:Int):=by omega
    have hrl:=US n.places.length d ty l k;refine ((Zgc n.places.length d ty l c k hk2 hl w1 (hlw _ (Zp hk2))).frozen (by simp)).use ?_;simp (disch:=omega) only [go_sem,seval];generalize hre:XC n.places.length d ty l k=e at hrl ⊢;refine Zf [1,2,3,4,10,11] (fun q:Nat×List Flt=> [(9,.sl 1 0 q.2.length q.2.length),(12,.p (.int .i64 q.1))]) (fun q=>Zz n++ [.elems 2 (q.2.map eF)]) (fun q=>q.1<=e.length/\q.2=Z3 n.places.length d ty l k++(e.take q.1).map fun e=>(e,Zca k)) (fun q=>e.length-q.1) (0,m) ⟨by simp,by simp [hm]⟩ (Weak.mk ?_) ?_
    ·simp (disch:=omega) only [Zz,go_sem,seval]
    ·clear hm hml;rintro ⟨j,m⟩ ⟨hj,hm⟩;simp only at hj hm;have hml:=Wm n.places.length d ty l k
     have hml2:m.length<=1+8*k+8:=by rw [hm];simp;omega
     simp (disch:=omega) only [Zz,go_sem,seval];refine cD ?_ ?_<;>intro h2<;>simp (disch:=omega) only [Sh.out h2,go_sem,seval]
     ·have hj2:j<e.length:=by omega
      refine Zn 9 mixed (by kernel_rfl) (by kernel_rfl) ?_;simp (disch:=omega) only [go_sem,seval];refine Zj (Ux k hI) ?_;simp (disch:=omega) only [go_sem,seval];refine ⟨(j+1,m++ [(nth e j,Zca k)]),⟨by simp only;omega,?_⟩,by simp only;omega,Weak.mk (by simp (disch:=omega) only [Zz,go_sem,seval])⟩;simp only [hm,List.append_assoc];rw [List.take_succ_eq_append_getElem hj2,List.map_append,Ze hj2]
      rfl
     ·have hjl:j=e.length:=by omega
      subst hjl;refine ⟨(k+1,m),⟨by simp only;omega,?_⟩,by simp only;omega,Weak.mk (by simp (disch:=omega) only [Zz,go_sem,seval])⟩;simp only [hm,U3,hre,List.take_length]
   ·have hkn:k=l.length:=by omega
    subst hkn;exact ⟨m,hm,1,by simp (disch:=omega) only [Zz,go_sem,seval]⟩
structure OrdOk (np:Nat) (d ty:Int) (l:List Ord) (i:Nat):Prop where
 name:nameOk (nth l i).name=true
 twin: ∀j,j<i->(nth l j).name≠(nth l i).name
 load:loadOk (nth l i).load d=true
 pick: -1<=(nth l i).pick.place/\(nth l i).pick.place<np
 drp: -1<=(nth l i).drp.place/\(nth l i).drp.place<np
 one: ¬((nth l i).pick.place= -1/\(nth l i).drp.place= -1)
 pstp:stpOk (nth l i).pick=true
 dstp:stpOk (nth l i).drp=true
 skills:0<=(nth l i).skills/\(nth l i).skills<=1073741823
 arg:argOk (nth l i) ty=true
theorem Znc {b:Bool} {e:Int} :sel b e= []↔b=true:=by unfold sel;split<;>simp_all
theorem ZbC {np:Nat} {d ty:Int} {l:List Ord} {i:Nat} :XC np d ty l i= []↔OrdOk np d ty l i:=by
 simp only [XC,List.append_eq_nil_iff,Znc,Bool.and_eq_true,decide_eq_true_eq,rng,VA]
 constructor
 ·rintro ⟨⟨⟨⟨⟨⟨⟨a1,a2⟩,a3⟩,a4⟩,a5⟩,a6⟩,a7⟩,a8⟩;exact ⟨a1,a2,a3,by omega,by omega,a5,a6.1,a6.2,a7,a8⟩
 ·intro h;obtain ⟨b1,b2⟩:=h.pick;obtain ⟨b3,b4⟩:=h.drp;exact ⟨⟨⟨⟨⟨⟨⟨h.name,h.twin⟩,h.load⟩,by omega,by omega⟩,h.one⟩,h.pstp,h.dstp⟩,h.skills⟩,h.arg⟩
def ordersOk (np:Nat) (d ty:Int) (l:List Ord):Prop:=l.length<=10/\ ∀i,i<l.length->OrdOk np d ty l i
theorem Q6 {np:Nat} {d ty:Int} {l:List Ord} :Z3 np d ty l l.length= []↔ordersOk np d ty l:=by
 simp only [Z3,List.append_eq_nil_iff,List.flatMap_eq_nil_iff,List.mem_range,List.map_eq_nil_iff,ZbC,ordersOk];refine and_congr ?_ Iff.rfl
 split<;>simp_all
theorem ZfA {np:Nat} {d ty:Int} {l:List Ord} (hl:l.length<=1048576): ∀f∈Z3 np d ty l l.length,pF 20 f:=by
 intro f hf;simp only [Z3,List.mem_append,List.mem_flatMap,List.mem_range,List.mem_map] at hf;rcases hf with hf | ⟨i,hi,e,he,rfl⟩
 ·split at hf<;>simp at hf
  subst hf;simp [pF]
 ·exact WR i (by omega)
theorem Zft (n:Int) (h0:0<=n) (hn:n<=4611686018427387904):PC 126 [.p (.int .i64 n)] (.str (dec n.toNat)):=by
 refine Za Tryz.func126 rfl Zrx ?_;simp (disch:=omega) only [Tryz.f126,go_sem,seval];refine Zf [] (fun q:Int×List UInt8=> [(0,.p (.int .i64 q.1)),(3,.p (.str q.2))]) (fun _=> []) (fun q=>0<=q.1/\q.1<=n/\dec q.1.toNat++q.2=dec n.toNat) (fun q=>q.1.toNat) (n,[]) (by simp [h0]) (Weak.mk ?_) ?_
 ·simp (disch:=omega) only [go_sem,seval]
 ·rintro ⟨m,s⟩ ⟨hm,hmn,hs⟩;simp only at hm hmn hs;have hl:=ZgD _ n.toNat (Nat.lt_succ_self _)
  have hl2:(dec m.toNat).length+s.length=(dec n.toNat).length:=by rw [<- hs];simp
  simp (disch:=first | omega | (simp only [List.length_cons,List.length_nil,List.length_append,List.length_map,List.length_take,List.length_drop]<;>omega)) only [go_sem,seval];refine cD ?_ ?_<;>intro h<;>simp (disch:=omega) only [Sh.out h,go_sem,seval]
  ·simp (disch:=first | omega | (simp only [List.length_cons,List.length_nil,List.length_append,List.length_map,List.length_take,List.length_drop]<;>omega)) only [go_sem,seval]
   have h2: ¬m.toNat<10:=by omega
   have e1:(48+m%10).toNat=48+m.toNat%10:=by omega
   have e2:(m / 10).toNat=m.toNat / 10:=by omega
   refine ⟨(m / 10,UInt8.ofNat (48+m%10).toNat::s),⟨by simp only;omega,by simp only;omega,?_⟩,by simp only;omega,Weak.mk ?_⟩
   ·simp only [e1,e2];rw [<- hs,dec.eq_def m.toNat,dif_neg h2];simp
   ·simp (disch:=omega) only [go_sem,seval]
  ·simp (disch:=first | omega | (simp only [List.length_cons,List.length_nil,List.length_append,List.length_map,List.length_take,List.length_drop]<;>omega)) only [go_sem,seval]
   have h2:m.toNat<10:=by omega
   have e1:(48+m).toNat=48+m.toNat:=by omega
   rw [<- hs,dec.eq_def m.toNat,dif_pos h2,e1]
   rfl
def okP (n:Int) (p:Int×Int):Bool:=decide (0<=p.1/\p.1<n)&&decide (0<=p.2/\p.2<n)&&decide (¬p.1=p.2)
def atW (word:List UInt8) (i:Nat):List UInt8:=word++ [32]++dec i
def flt (n:Int) (word:List UInt8) (sm:Int×Int->Int×Int->Bool) (l:List (Int×Int)) (i:Nat):List (Int×List UInt8) :=
 if okP n (nth l i)=false then [(2,atW word i)] else if (l.take i).any (sm (nth l i)) then [(6,atW word i)] else []
def hdr (word:List UInt8) (l:List (Int×Int)):List (Int×List UInt8):=if 16<l.length then [(4,word)] else []
def Zap (n:Int) (word:List UInt8) (sm:Int×Int->Int×Int->Bool) (l:List (Int×Int)) (k:Nat):List (Int×List UInt8):=hdr word l++(List.range k).flatMap (flt n word sm l)
theorem ZbY (n word sm l k):Zap n word sm l (k+1)=Zap n word sm l k++flt n word sm l k:=by simp [Zap,List.range_succ,List.flatMap_append]
theorem ZbR (n word sm l):Zap n word sm l 0=hdr word l:=by simp [Zap]
theorem Zo5 (n word sm l i):(flt n word sm l i).length<=1:=by unfold flt;split<;>(try split)<;>simp
theorem VO (n word sm l): ∀k,(Zap n word sm l k).length<=k+1:=by
 intro k
 induction k with
 | zero=>rw [ZbR];unfold hdr;split<;>simp
 | succ k ih=>rw [ZbY];have:=Zo5 n word sm l k;simp;omega
def chk (n:Int) (ap be:List (Int×Int)):List (Int×List UInt8) :=
 Zap n [97,112,97,114,116] (fun p q=>decide (p=q\/(p.1=q.2/\p.2=q.1))) ap ap.length++Zap n [98,101,102,111,114,101] (fun p q=>decide (p=q)) be be.length
def smR (turned:Bool) (p q:Int×Int):Bool:=decide (q.1=p.1/\q.2=p.2)||(turned&&decide (q.1=p.2/\q.2=p.1))
theorem ZkI : smR true=fun p q=>decide (p=q\/(p.1=q.2/\p.2=q.1)):=by
 funext p q
 simp only [smR,Bool.true_and,ZvY]
 congr 1
 simp only [Prod.ext_iff,eq_iff_iff]
 constructor
 ·rintro (h | h)
  ·exact .inl ⟨h.1.symm,h.2.symm⟩
  ·exact .inr ⟨h.2.symm,h.1.symm⟩
 ·rintro (h | h)
  ·exact .inl ⟨h.1.symm,h.2.symm⟩
  ·exact .inr ⟨h.2.symm,h.1.symm⟩
theorem Zf7 : smR false=fun p q=>decide (p=q):=by
 funext p q
 simp only [smR,Bool.false_and,Bool.or_false]
 congr 1
 simp only [Prod.ext_iff,eq_iff_iff];exact ⟨fun h=>⟨h.1.symm,h.2.symm⟩,fun h=>⟨h.1.symm,h.2.symm⟩⟩
def tw (turned:Bool) (l:List (Int×Int)) (p:Int×Int) (j:Nat):Bool:=(l.take j).any (smR turned p)
theorem ZoF (turned l p):tw turned l p 0=false:=by simp [tw]
theorem ZoJ (turned:Bool) (l:List (Int×Int)) (p:Int×Int) (j:Nat) (h:j<l.length):tw turned l p (j+1)=(tw turned l p j||smR turned p (nth l j)):=by
 rw [tw,tw,List.take_succ_eq_append_getElem h,List.any_append,Ze h];simp only [List.any_cons,List.any_nil,Bool.or_false]
theorem Zes (n:Int) (word:List UInt8) (l:List (Int×Int)) (c:Bool) (turned:Bool) (hw:word.length<=1000) (hl:l.length<=1048576) :
  ACalls Tryz.prog 80 [.p (.int .i64 n),.p (.list c (l.map eP)),.p (.str word),.p (.bool turned)] [] fun x H'=>x= .sl 0 0 (Zap n word (smR turned) l l.length).length (Zap n word (smR turned) l l.length).length/\H'= [.elems 2 ((Zap n word (smR turned) l l.length).map eF)]:=by
 refine KB [2] (fn:=Tryz.f80) (by simp) Tryz.func80 rfl Zzz ?_;simp (disch:=omega) only [Tryz.f80,go_sem,seval];refine Zm (Weak.ofNil 9 2 (by simp (disch:=omega) only [go_sem,seval]) (by simp) (Weak.refl _ _ _)) ?_;simp (disch:=omega) only [go_sem,seval];refine Zo [0,1,2,3] (fun _:Unit=> [(9,.sl 0 0 (hdr word l).length (hdr word l).length)]) (fun _=> [.elems 2 ((hdr word l).map eF)]) (fun _=>True) ?_ ?_
 ·simp (disch:=omega) only [go_sem,seval];refine cD ?_ ?_<;>intro h<;>simp (disch:=omega) only [Sh.out h,go_sem,seval]
  ·refine ⟨(),Weak.mk ?_⟩
   have h2:16<l.length:=by omega
   simp (disch:=omega) only [hdr,h2,go_sem,seval]
  ·refine ⟨(),Weak.mk ?_⟩
   have h2: ¬ 16<l.length:=by omega
   simp (disch:=omega) only [hdr,h2,go_sem,seval]
 ·intro _ _;refine Zd [] _ _ _ _ ?_;simp (disch:=omega) only [go_sem,seval];refine Zf [0,1,2,3] (fun k:Nat=> [(9,.sl 0 0 (Zap n word (smR turned) l k).length (Zap n word (smR turned) l k).length),(10,.p (.int .i64 k))]) (fun k=> [.elems 2 ((Zap n word (smR turned) l k).map eF)]) (fun k=>k<=l.length) (fun k=>l.length-k) 0 (by simp) (Weak.mk ?_) ?_
  ·simp (disch:=omega) only [ZbR,go_sem,seval]
  ·intro k hk;have hfl:=VO n word (smR turned) l k;have hdl:=ZgD _ k (Nat.lt_succ_self _);simp (disch:=omega) only [go_sem,seval];refine cD ?_ ?_<;>intro h<;>simp (disch:=omega) only [Sh.out h,go_sem,seval]
   ·have hk2:k<l.length:=by omega
    simp (disch:=first | omega | (simp only [List.length_cons,List.length_nil,List.length_append,List.length_map,List.length_take,List.length_drop]<;>omega)) only [go_sem,seval];refine (Zft (k:Int) (by omega) (by omega)).use ?_;simp (disch:=first | omega | (simp only [List.length_cons,List.length_nil,List.length_append,List.length_map,List.length_take,List.length_drop]<;>omega)) only [go_sem,seval];have hs:=ZbY n word (smR turned) l k
    have hbad:okP n (nth l k)=false->flt n word (smR turned) l k= [(2,word++ [32]++dec k)]:=fun e=>by simp [flt,e,atW]
    repeat' (first | (refine ZO (fun hq=> ?_) (fun hq=> ?_)<;>(try simp only [decide_eq_true_eq,decide_eq_false_iff_not,Classical.not_not] at hq)<;>simp (disch:=omega) only [Sh.out hq,go_sem,seval]) | (refine ZQ (fun hq=> ?_) (fun hq=> ?_)<;>(try simp only [decide_eq_true_eq,decide_eq_false_iff_not,Classical.not_not] at hq)<;>simp (disch:=omega) only [Sh.out hq,go_sem,seval]) | (refine Z6 (fun hq=> ?_) (fun hq=> ?_)<;>(try simp only [decide_eq_true_eq,decide_eq_false_iff_not,Classical.not_not] at hq)<;>simp (disch:=omega) only [Sh.out hq,go_sem,seval]))
    all_goals try (
     have e:=hbad (by simp [okP];omega)
     exact ⟨k+1,by omega,by omega,Weak.mk (by simp (disch:=omega) only [hs,e,go_sem,seval])⟩)
    have hok:okP n (nth l k)=true:=by simp [okP];omega
    refine Zf [0,1,2,3,9,10,11,12,13] (fun j:Nat=> [(14,.p (.bool (tw turned l (nth l k) j))),(15,.p (.int .i64 j))]) (fun _=> [.elems 2 ((Zap n word (smR turned) l k).map eF)]) (fun j=>j<=k) (fun j=>k-j) 0 (by simp) (Weak.mk ?_) ?_
    ·simp (disch:=omega) only [ZoF,go_sem,seval]
    ·intro j hj;simp (disch:=omega) only [go_sem,seval];refine cD ?_ ?_<;>intro h4<;>simp (disch:=omega) only [Sh.out h4,go_sem,seval]
     ·have hts:=ZoJ turned l (nth l k) j (by omega);generalize tw turned l (nth l k) j=q at hts ⊢
      repeat' (first | (refine ZO (fun hq=> ?_) (fun hq=> ?_)<;>(try simp only [decide_eq_true_eq,decide_eq_false_iff_not,Classical.not_not] at hq)<;>simp (disch:=omega) only [Sh.out hq,go_sem,seval]) | (refine ZQ (fun hq=> ?_) (fun hq=> ?_)<;>(try simp only [decide_eq_true_eq,decide_eq_false_iff_not,Classical.not_not] at hq)<;>simp (disch:=omega) only [Sh.out hq,go_sem,seval]) | (refine Z6 (fun hq=> ?_) (fun hq=> ?_)<;>(try simp only [decide_eq_true_eq,decide_eq_false_iff_not,Classical.not_not] at hq)<;>simp (disch:=omega) only [Sh.out hq,go_sem,seval]))
      all_goals refine ⟨j+1,by omega,by omega,Weak.mk ?_⟩
      all_goals clear hs hbad hfl hdl
      all_goals simp (disch:=omega) only [hts,go_sem,seval]
      all_goals simp [smR, *]
      all_goals first | omega | (simp [smR, *] at hts;exact hts)
     ·have hjk:j=k:=by omega
      subst hjk;refine cD ?_ ?_<;>intro h5<;>simp (disch:=omega) only [Sh.out h5,go_sem,seval]
      ·have e:flt n word (smR turned) l j= [(6,word++ [32]++dec j)]:=by
        have h6:(l.take j).any (smR turned (nth l j))=true:=h5;simp [flt,hok,h6,atW]
       exact ⟨j+1,by omega,by omega,Weak.mk (by simp (disch:=omega) only [hs,e,go_sem,seval])⟩
      ·have e:flt n word (smR turned) l j= []:=by
        have h6:(l.take j).any (smR turned (nth l j))=false:=h5;simp only [flt,hok,h6,Bool.true_eq_false,Bool.false_eq_true,if_false]
       exact ⟨j+1,by omega,by omega,Weak.mk (by simp (disch:=omega) only [hs,e,go_sem,seval])⟩
   ·have:k=l.length:=by omega
    subst this;exact ⟨0,by simp (disch:=omega) only [go_sem,seval]⟩
theorem ZjT (n:Int) (ap be:List (Int×Int)) (c c':Bool) (hl:ap.length<=1048576) (hl2:be.length<=1048576) :
  ACalls Tryz.prog 48 [.p (.int .i64 n),.p (.list c (ap.map eP)),.p (.list c' (be.map eP))] [] fun x H'=>x= .sl 0 0 (chk n ap be).length (chk n ap be).length/\H'= [.elems 2 ((chk n ap be).map eF)]:=by
 refine YN (fn:=Tryz.f48) (by simp) Tryz.func48 rfl ZAn ?_;simp (disch:=omega) only [Tryz.f48,go_sem,seval];have h1:=VO n [97,112,97,114,116] (smR true) ap ap.length;have h2:=VO n [98,101,102,111,114,101] (smR false) be be.length;refine (Zes n _ ap c true (by decide) hl).useF ?_;simp (disch:=omega) only [go_sem,seval];refine (Zes n _ be c' false (by decide) hl2).useF ?_;simp (disch:=omega) only [go_sem,seval];refine ⟨0,?_⟩;rw [chk,<- ZkI,<- Zf7];simp (disch:=omega) only [go_sem,seval]
@[go_sem] theorem Zq6 {H:List AM.Obj} {β:Type} {S b o n:Nat} {xs:List PV} {g:β->PV} {m:List β} (hb:(n+m.length)*b<=140737488355328) (hb2:n+m.length<=140737488355328) :
  JE H (some (S,b)) (.elems S xs) o n (some (m.map g))=if xs.length=n/\okE S (m.map g)=true then some (.sl o 0 (n+m.length) (n+m.length),ost H o (.elems S (xs++m.map g))) else none:=by
 rw [Zlr];simp only [List.length_map,hb,hb2,and_true]
def und (word:List UInt8) (f:Flt):Flt:=(f.1,if f.2= [] then word else word++ [32]++f.2)
theorem V5 (word:List UInt8) (l:List Flt) (c:Bool) (hword:word.length<=100) (hl:l.length<=4194306000000) (hp: ∀f∈l,pF 100 f) :
  ACalls Tryz.prog 43 [.p (.str word),.p (.list c (l.map eF))] [] fun x H'=>x= .sl 0 0 (l.map (und word)).length (l.map (und word)).length/\H'= [.elems 2 ((l.map (und word)).map eF)]:=by
 suffices hh:ACalls Tryz.prog 43 [.p (.str word),.p (.list c (l.map eF))] [] fun x H'=> ∃m:List Flt,m=l.map (und word)/\x= .sl 0 0 m.length m.length/\H'= [.elems 2 (m.map eF)] by
  refine hh.mono ?_;rintro x H' ⟨m,rfl,h1,h2⟩;exact ⟨h1,h2⟩
 refine Zx [2] Tryz.func43 rfl ZAv ?_;simp (disch:=omega) only [Tryz.f43,go_sem,seval];refine Zm (Weak.ofNil 5 2 (by simp (disch:=omega) only [go_sem,seval]) (by simp) (Weak.refl _ _ _)) ?_;refine Zd [] _ _ _ _ ?_;simp (disch:=omega) only [go_sem,seval];refine Zf [0,1] (fun q:Nat×List Flt=> [(5,.sl 0 0 q.2.length q.2.length),(6,.p (.int .i64 q.1))]) (fun q=> [.elems 2 (q.2.map eF)]) (fun q=>q.1<=l.length/\q.2=(l.take q.1).map (und word)) (fun q=>l.length-q.1) (0,[]) ⟨by simp,by simp⟩ (Weak.mk ?_) ?_
 ·simp (disch:=omega) only [go_sem,seval]
 ·rintro ⟨k,m⟩ ⟨hk,hm⟩;simp only at hk hm
  have hml:m.length<=k:=by rw [hm];simp;omega
  simp (disch:=omega) only [go_sem,seval];refine cD ?_ ?_<;>intro h<;>simp (disch:=omega) only [Sh.out h,go_sem,seval]
  ·have hk2:k<l.length:=by omega
   have hpk:=hp _ (Zp hk2);unfold pF at hpk
   have hnext: ∀f,f=und word (nth l k)->m++ [f]=(l.take (k+1)).map (und word):=fun f hf=>by
    rw [hf,hm,List.take_succ_eq_append_getElem hk2,List.map_append,Ze hk2];rfl
   refine cD ?_ ?_<;>intro h2<;>simp (disch:=omega) only [Sh.out h2,go_sem,seval]
   ·have h3: ¬(nth l k).2= []:=by simpa using h2
    simp (disch:=first | omega | (simp only [List.length_cons,List.length_nil,List.length_append,List.length_map,List.length_take,List.length_drop]<;>omega)) only [go_sem,seval];refine ⟨(k+1,m++ [((nth l k).1,word++ [32]++(nth l k).2)]),⟨by simp only;omega,hnext _ (by simp [und,h3])⟩,by simp only;omega,Weak.mk (by simp (disch:=first | omega | (simp only [List.length_cons,List.length_nil,List.length_append,List.length_map,List.length_take,List.length_drop]<;>omega)) only [go_sem,seval])⟩
   ·have h3:(nth l k).2= []:=by simpa using h2
    refine ⟨(k+1,m++ [((nth l k).1,word)]),⟨by simp only;omega,hnext _ (by simp [und,h3])⟩,by simp only;omega,Weak.mk (by simp (disch:=first | omega | (simp only [List.length_cons,List.length_nil,List.length_append,List.length_map,List.length_take,List.length_drop]<;>omega)) only [go_sem,seval])⟩
  ·have hkn:k=l.length:=by omega
   subst hkn;exact ⟨m,by rw [hm,List.take_length],0,by simp (disch:=omega) only [go_sem,seval]⟩
theorem ZsQ {n:Int} {ap be:List (Int×Int)} (ha:ap.length<=1048576) (hb:be.length<=1048576): ∀f∈chk n ap be,pF 100 f:=by
 have key: ∀(word:List UInt8) (sm:Int×Int->Int×Int->Bool) (l:List (Int×Int)),word.length<=6->l.length<=1048576-> ∀f∈Zap n word sm l l.length,pF 100 f:=fun word sm l hw hl f hf=>by
  simp only [Zap,List.mem_append,List.mem_flatMap,List.mem_range] at hf;rcases hf with hf | ⟨i,hi,hf⟩
  ·unfold hdr at hf;split at hf<;>simp at hf;subst hf;simp [pF];omega
  ·have hd:=Uj 6 i (by omega)
   have: ∀e:Int,pF 100 (e,atW word i):=fun e=>by simp [pF,atW];omega
   unfold flt at hf
   split at hf
   ·simp at hf;subst hf;exact this _
   ·split at hf<;>simp at hf
    subst hf;exact this _
 intro f hf;rcases List.mem_append.1 hf with hf | hf
 ·exact key _ _ _ (by simp) ha f hf
 ·exact key _ _ _ (by simp) hb f hf
theorem ZnO {n:Int} {ap be:List (Int×Int)} :(chk n ap be).length<=ap.length+be.length+2:=by
 have h1:=VO n [97,112,97,114,116] (fun p q=>decide (p=q\/(p.1=q.2/\p.2=q.1))) ap ap.length;have h2:=VO n [98,101,102,111,114,101] (fun p q=>decide (p=q)) be be.length;rw [chk,List.length_append];omega
structure InstOk (x:Inst):Prop where
 net:netOk x.net
 types:typesOk x.net x.types
 orders:ordersOk x.net.places.length (dimsOf x.types) x.types.length x.orders
 rules:chk x.orders.length x.apart x.before= []
theorem FR.und {p:Flt->Prop} {C:Prop} {b:Nat} {l:List Flt} (h:FR p C b l) (word:List UInt8):FR (fun _=>True) C b (l.map (und word)) :=
 ⟨by simpa using h.len,by rw [List.map_eq_nil_iff];exact h.emp,fun _ _=>trivial⟩
theorem Zwx (x:Inst) (hw:x.wf 1048576):ACalls Tryz.prog 15 [.p (Zt x)] [] fun y H'=> ∃m:List Flt,FR (fun _=>True) (InstOk x) 4194400000000 m/\y= .sl 0 0 m.length m.length/\H'= [.elems 2 (m.map eF)]:=by
 obtain ⟨w1,w2,w3,w4,w5,w6,w7,w8,w9⟩:=hw;refine Zx [] Tryz.func15 rfl ZAk ?_;simp (disch:=omega) only [Tryz.f15,go_sem,seval];have ol:=Wm x.net.places.length (dimsOf x.types) x.types.length x.orders x.orders.length;have oat:=ZfA (np:=x.net.places.length) (d:=dimsOf x.types) (ty:=x.types.length) w4;have onil:=Q6 (np:=x.net.places.length) (d:=dimsOf x.types) (ty:=x.types.length) (l:=x.orders);have cl:=ZnO (n:=x.orders.length) (ap:=x.apart) (be:=x.before);have cat:=ZsQ (n:=x.orders.length) w6 w8;refine ((ZsC x.net w1).frozenE).useV fun m1 h1=> ?_
 simp (disch:=omega) only [go_sem,seval];have h1p:=h1.pmono (q:=pF 100) fun f hf=>hf.mono (by omega);have u1:=V5 [110,101,116] m1 false (by simp) h1.len h1p.all;have f1:=h1.und [110,101,116];generalize m1.map (und [110,101,116])=q1 at u1 f1;have f1l:=f1.len;refine (u1).useF ?_;simp (disch:=omega) only [go_sem,seval];refine ((Zsl x.net x.types x.types_c w1 w2 w3).frozenE).useV fun m2 h2=> ?_;simp (disch:=omega) only [go_sem,seval];have h2p:=h2.pmono (q:=pF 100) fun f hf=>hf.mono (by omega);have h2l:=h2.len;have u2:=(V5 [116,121,112,101,115] m2 false (by simp) (by omega) h2p.all).frozen (by simp)
 have f2:=h2.und [116,121,112,101,115];generalize m2.map (und [116,121,112,101,115])=q2 at u2 f2;have f2l:=f2.len;refine (u2).use ?_;simp (disch:=omega) only [go_sem,seval];have u3:=(V5 [111,114,100,101,114,115] (Z3 x.net.places.length (dimsOf x.types) x.types.length x.orders x.orders.length) false (by simp) (by omega) fun f hf=>(oat f hf).mono (by omega)).frozen (by simp);have f3:=(show FR (fun _=>True) (ordersOk x.net.places.length (dimsOf x.types) x.types.length x.orders) (1+8*x.orders.length) (Z3 x.net.places.length (dimsOf x.types) x.types.length x.orders x.orders.length) from ⟨ol,onil,fun _ _=>trivial⟩).und [111,114,100,101,114,115]
 generalize (Z3 x.net.places.length (dimsOf x.types) x.types.length x.orders x.orders.length).map (und [111,114,100,101,114,115])=q3 at u3 f3;have f3l:=f3.len;refine Zn 13 mixed (by kernel_rfl) (by kernel_rfl) ?_;simp (disch:=omega) only [go_sem,seval];refine Zj (Zep x.types x.types_c w2) ?_;simp (disch:=omega) only [go_sem,seval];refine Zj ((ZwL x.net (dimsOf x.types) x.types.length x.orders x.orders_c w1 w4 w5).frozen (by simp)) ?_;simp (disch:=omega) only [go_sem,seval];refine Zj (u3) ?_;simp (disch:=omega) only [go_sem,seval];have u4:=(V5 [114,117,108,101,115] (chk x.orders.length x.apart x.before) false (by simp) (by omega) cat).frozen (by simp)
 have f4:=(show FR (fun _=>True) (chk x.orders.length x.apart x.before= []) (x.apart.length+x.before.length+2) (chk x.orders.length x.apart x.before) from ⟨cl,Iff.rfl,fun _ _=>trivial⟩).und [114,117,108,101,115];generalize (chk x.orders.length x.apart x.before).map (und [114,117,108,101,115])=q4 at u4 f4;have f4l:=f4.len;refine ((ZjT x.orders.length x.apart x.before x.apart_c x.before_c w6 w8).frozen (by simp)).use ?_;simp (disch:=omega) only [go_sem,seval];refine (u4).use ?_;simp (disch:=omega) only [go_sem,seval];refine ⟨q1++q2++q3++q4,((f1.app f2).app f3 |>.app f4).to (by omega) ⟨fun ⟨⟨⟨a,b⟩,c⟩,d⟩=>⟨a,b,c,d⟩,fun h=>⟨⟨⟨h.net,h.types⟩,h.orders⟩,h.rules⟩⟩,1,?_⟩
 simp (disch:=omega) only [go_sem,seval]
def Zc (x:Inst):AM.Obj:= .cells [.p (.list x.net.places_c (x.net.places.map eS)),.p (.list x.net.arcs_c (x.net.arcs.map Qh)),.p (.list x.types_c (x.types.map U7)),.p (.list x.orders_c (x.orders.map Ug)),.p (.list x.apart_c (x.apart.map eP)),.p (.list x.before_c (x.before.map eP))]
def zSco : Sco:=⟨0,0,0,0⟩
theorem Znd (a:Int):IntKind.i64.wrap ((BitVec.ofInt 64 a&&&BitVec.ofInt 64 1).toNat:Int)=a%2:=by
 have h:((BitVec.ofInt 64 a&&&BitVec.ofInt 64 1).toNat:Int)=a%2:=by
  rw [BitVec.toNat_and]
  have:(BitVec.ofInt 64 1).toNat=1:=by decide
  rw [this,Nat.and_one_is_mod]
  have:((BitVec.ofInt 64 a).toNat:Int)=a%2^64:=by simp [BitVec.toNat_ofInt];omega
  omega
 rw [h];exact IntWalk.i64_in _ (by omega)
def sHas (s i:Int):Bool:=decide (0<=i)&&decide (i<=62)&&decide (s.fdiv (2^i.toNat)%2=1)
theorem ZaT (s i:Int):PC 84 [.p (.int .i64 s),.p (.int .i64 i)] (.bool (sHas s i)):=by
 refine Za Tryz.func84 rfl ZzS ?_;simp (disch:=omega) only [Tryz.f84,go_sem,seval];refine gT ?_ ?_<;>intro h<;>simp (disch:=omega) only [Sh.out h,go_sem,seval]
 ·refine gT ?_ ?_<;>intro h1<;>simp (disch:=omega) only [Sh.out h1,go_sem,seval]
  ·have:min i.toNat 64=i.toNat:=by omega
   rw [this]
   erw [Znd]
   simp [sHas,h,h1]
  ·simp [sHas,h,h1]
 ·simp [sHas,h]
def XS (s:Int) (k:Nat):List Int:=((List.range k).filter fun (i:Nat)=>sHas s (i:Int)).map fun (i:Nat)=>(i:Int)
theorem Zgf (s:Int):XS s 0= []:=by simp [XS]
theorem ZdG {s:Int} {k:Nat} (h:sHas s (k:Int)=true):XS s (k+1)=XS s k++ [(k:Int)]:=by simp [XS,List.range_succ,List.filter_append,h]
theorem Zf0 {s:Int} {k:Nat} (h:sHas s (k:Int)=false):XS s (k+1)=XS s k:=by simp [XS,List.range_succ,List.filter_append,h]
theorem Qu (s:Int) (k:Nat):(XS s k).length<=k:=by
 simp only [XS,List.length_map];exact Nat.le_trans (List.length_filter_le _ _) (by simp)
theorem Jp (s:Int):ACalls Tryz.prog 91 [.p (.int .i64 s)] [] fun x H'=>x= .sl 0 0 (XS s 63).length (XS s 63).length/\H'= [.elems 1 ((XS s 63).map eI)]:=by
 refine YN (fn:=Tryz.f91) (by simp) Tryz.func91 rfl Zzw ?_;simp (disch:=omega) only [Tryz.f91,go_sem,seval];refine Zf [0] (fun k:Nat=> [(3,.sl 0 0 (XS s k).length (XS s k).length),(5,.p (.int .i64 k))]) (fun k=> [.elems 1 ((XS s k).map eI)]) (fun k=>k<=63) (fun k=>63-k) 0 (by simp) (Weak.ofNil 3 1 (by simp (disch:=omega) only [go_sem,seval]) (by simp) (Weak.mk ?_)) ?_
 ·simp (disch:=omega) only [Zgf,go_sem,seval]
 ·intro k hk;have hl:=Qu s k;simp (disch:=omega) only [go_sem,seval];refine cD ?_ ?_<;>intro h<;>simp (disch:=omega) only [Sh.out h,go_sem,seval]
  ·refine (ZaT s k).use ?_;simp (disch:=omega) only [go_sem,seval];refine cD ?_ ?_<;>intro h2<;>simp (disch:=omega) only [Sh.out h2,go_sem,seval]
   ·refine ⟨k+1,by omega,by omega,Weak.mk ?_⟩;simp (disch:=omega) only [ZdG h2,go_sem,seval]
   ·exact ⟨k+1,by omega,by omega,Weak.mk (by simp (disch:=omega) only [Zf0 h2,go_sem,seval])⟩
  ·have:k=63:=by omega
   subst this;exact ⟨0,by simp (disch:=omega) only [go_sem,seval]⟩
def eN (n:Nat):PV:= .int .i64 (n:Int)
@[go_sem] theorem ZFu (n:Nat):eN n= .int .i64 (n:Int):=Eq.trans rfl rfl
theorem Zj5 (n:Nat) (be:List (Int×Int)) (c:Bool) (hn:n<=60) (hl:be.length<=1048576) (hv:Val n be) :
  ACalls Tryz.prog 141 [.p (.int .i64 (n:Int)),.p (.list c (be.map eP))] [] fun x H'=>x= .sl 0 0 n n/\H'= [.elems 1 ((Ud n be).map eN)]:=by
 refine YN (fn:=Tryz.f141) (by simpa using (ZbG hv).len) Tryz.func141 rfl ZrY ?_;simp (disch:=omega) only [Tryz.f141,go_sem,seval];have hp60:pw n<=pw 62:=U5 (by omega);have h62:=Zb5;refine Zf [0,1] (fun q:List Nat×Bool=> [(5,.sl 0 0 n n),(6,.p (.bool q.2))]) (fun q=> [.elems 1 (q.1.map eN)]) (fun q=>Snd n be q.1/\(q.2=false->tot (pas q.1 be)=tot q.1)) (fun q=>2*(n*pw n-tot q.1)+(if q.2 then 1 else 0)) (List.replicate n 0,true) ⟨Snd.zero n be,by simp⟩ (Weak.mk ?_) ?_
 ·simp (disch:=omega) only [List.map_replicate,go_sem,seval]
 ·rintro ⟨out,more⟩ ⟨hs,hm⟩;simp only at hs hm;simp (disch:=omega) only [go_sem,seval];refine cD ?_ ?_<;>intro h<;>simp (disch:=omega) only [Sh.out h,go_sem,seval]
  ·have hrs: ∀i,Snd n be (pas out (be.take i)):=fun i=>hs.rnd hv _ fun p hp=>List.mem_of_mem_take hp
   have hsuc: ∀i,i<be.length->pas out (be.take (i+1))=cst (pas out (be.take i)) (nth be i):=fun i hi=>by
    rw [List.take_succ_eq_append_getElem hi,Zfr,<- Ze hi];rfl
   refine Zf [0,1,16,17] (fun i:Nat=> [(5,.sl 0 0 n n),(6,.p (.bool (decide (tot out<tot (pas out (be.take i)))))),(18,.p (.int .i64 i))]) (fun i=> [.elems 1 ((pas out (be.take i)).map eN)]) (fun i=>i<=be.length) (fun i=>be.length-i) 0 (by simp) (Weak.mk ?_) ?_
   ·simp (disch:=omega) only [pas,List.take_zero,List.foldl_nil,go_sem,seval];simp
   ·intro i hi;have hsi:=hrs i;generalize hgo:pas out (be.take i)=o at hsi ⊢;have hlo:=hsi.len;simp (disch:=omega) only [go_sem,seval];refine cD ?_ ?_<;>intro h2<;>simp (disch:=omega) only [Sh.out h2,go_sem,seval]
    ·have hib:i<be.length:=by omega
     have hvi:=hv (nth be i) (by rw [Ze hib];exact List.getElem_mem _)
     have g1: ¬(nth be i).1<0:=by omega
     have g2: ¬(nth be i).2<0:=by omega
     have g3: ¬(n:Int)<=(nth be i).1:=by omega
     have g4: ¬(n:Int)<=(nth be i).2:=by omega
     have g5:(nth be i).1.toNat<n:=by omega
     have g6:(nth be i).2.toNat<n:=by omega
     have b1:=hsi.lt _ g5;have b2:=hsi.lt _ g6;have b3:nth o (nth be i).2.toNat|||nth o (nth be i).1.toNat<pw n:=Nat.or_lt_two_pow b2 b1;have b4:pw (nth be i).1.toNat<=pw 62:=U5 (by omega);have hst:=ZgS o (nth be i) (by omega);have hnx:=hsuc i hib;rw [hgo] at hnx;refine Kj mixed (by kernel_rfl) ?_;simp (disch:=omega) only [hlo,g1,g2,g3,g4,go_sem,seval];refine Kj mixed (by kernel_rfl) ?_;simp (disch:=first | omega | (simp only [List.length_cons,List.length_nil,List.length_append,List.length_map,List.length_take,List.length_drop]<;>omega)) only [hlo,g5,g6,XJ,go_sem,seval]
     have htm:tot out<=tot o:=by
      have:=(Ja hv (be.take i) out (fun p hp=>List.mem_of_mem_take hp) hs).1;rwa [hgo] at this
     have hsv:o.set (nth be i).2.toNat (nth o (nth be i).2.toNat|||nth o (nth be i).1.toNat|||pw (nth be i).1.toNat)=cst o (nth be i):=rfl;refine cD ?_ ?_<;>intro h3<;>simp (disch:=omega) only [Sh.out h3,hlo,go_sem,seval]
     ·have hne: ¬cst o (nth be i)=o:=fun e=>by
       apply h3
       have e2:nth (cst o (nth be i)) (nth be i).2.toNat=nth o (nth be i).2.toNat:=by rw [e]
       rw [cst,KH _ _ _ _ (by omega)] at e2;simp only [if_true] at e2;rw [e2]
      have hlt:tot out<tot (cst o (nth be i)):=by
       have h5:=hst.1;have h6:tot (cst o (nth be i))≠tot o:=fun e=>hne (hst.2 e);omega
      simp (disch:=first | omega | (simp only [List.length_cons,List.length_nil,List.length_append,List.length_map,List.length_take,List.length_drop]<;>omega)) only [hlo,g6,go_sem,seval];refine ⟨i+1,by omega,by omega,Weak.mk ?_⟩;simp (disch:=omega) only [hnx,hlt,go_sem,seval];rw [<- hsv,List.map_set]
      rfl
     ·have heq:cst o (nth be i)=o:=by
       have e:nth o (nth be i).2.toNat|||nth o (nth be i).1.toNat|||pw (nth be i).1.toNat=nth o (nth be i).2.toNat:=by simp only [Classical.not_not] at h3;exact_mod_cast h3
       rw [<- hsv,e];apply List.ext_getElem (by simp);intro k hk1 hk2;rw [List.getElem_set]
       split
       ·rename_i hk;subst hk;rw [Ze hk2]
       ·rfl
      refine ⟨i+1,by omega,by omega,Weak.mk ?_⟩;simp (disch:=omega) only [hnx,heq,go_sem,seval]
    ·have hi2:i=be.length:=by omega
     subst hi2;rw [List.take_length] at hgo;subst hgo;have hpt:=Ja hv be out (fun _ h=>h) hs;have hbd:=hsi.bound;refine ⟨(pas out be,decide (tot out<tot (pas out be))),⟨hsi,fun e=> ?_⟩,?_,Weak.mk ?_⟩
     ·simp only [decide_eq_false_iff_not] at e
      have e2:tot (pas out be)=tot out:=by have:=hpt.1;omega
      rw [(hpt.2 e2).1,e2]
     ·simp only;rw [h]
      by_cases h7:tot out<tot (pas out be)
      ·simp only [h7,decide_true,if_true];omega
      ·simp only [h7,decide_false,if_true];have:=hpt.1;simp;omega
     ·simp (disch:=omega) only [go_sem,seval]
  ·refine ⟨0,?_⟩;have:out=Ud n be:=(Zjp hv (hs.clo hv (hm h))).symm;rw [this];simp (disch:=omega) only [go_sem,seval]
def hv (s k:Nat):Nat:=s / pw k
theorem ZfX (s:Nat):hv s 0=s:=by simp [hv,pw]
theorem Zf8 (s k:Nat):hv s (k+1)=hv s k / 2:=by rw [hv,hv,Jq,Nat.mul_comm,<- Nat.div_div_eq_div_mul]
theorem ZrT (s k:Nat):hv s k<=s:=Nat.div_le_self _ _
theorem ZlO (s k:Nat):s.testBit k=decide (hv s k%2=1):=by
 rw [Nat.testBit_eq_decide_div_mod_eq]
 rfl
theorem XK (s i:Nat) (hi:i<=62):sHas (s:Int) (i:Int)=s.testBit i:=by
 rw [ZlO,hv]
 have h1:(0:Int)<=i:=by omega
 have h2:(i:Int)<=62:=by omega
 simp only [sHas,h1,h2,decide_true,Bool.true_and,Int.toNat_natCast]
 have e:((s:Int)).fdiv (2^i)=((s / pw i:Nat):Int):=by
  have:(2:Int)^i=((pw i:Nat):Int):=by simp [pw]
  rw [this,Int.fdiv_eq_ediv_of_nonneg _ (by omega)];simp
 simp only [e];rw [Bool.eq_iff_iff];simp only [decide_eq_true_eq];omega
theorem Yx {α:Type} [Inhabited α] {l:List α} {f:α->Bool} {k:Nat} (h:k<l.length) (hf:f (nth l k)=true):l.any f=true:=by
 rw [List.any_eq_true];exact ⟨nth l k,by rw [Ze h];exact List.getElem_mem _,hf⟩
theorem Vl {α:Type} [Inhabited α] {l:List α} {f:α->Bool} (h: ∀j,j<l.length->f (nth l j)=false):l.any f=false:=by
 rw [List.any_eq_false];intro x hx;obtain ⟨j,hj,rfl⟩:=List.mem_iff_getElem.1 hx;rw [<- Ze hj,h j hj];simp
theorem Xy {p:Nat->Prop} {k:Nat} (h: ∀j,j<k->p j) (hk:p k): ∀j,j<k+1->p j:=fun j hj=>by
 rcases Nat.lt_or_ge j k with h1 | h1
 ·exact h j h1
 ·have:j=k:=by omega
  rw [this];exact hk
theorem Zke {s:Int} {k:Nat} {x:Int} (h:x∈XS s k):0<=x/\x<k:=by
 simp only [XS,List.mem_map,List.mem_filter,List.mem_range] at h;obtain ⟨i,⟨hi,_⟩,rfl⟩:=h;omega
noncomputable def Ya (os:List Ord) (ap be:List (Int×Int)) (s:Int):Int :=
 if s<0 then 2
 else if (XS s 63).any (fun i=>decide ((os.length:Int)<=i)) then 2
 else if (XS s 63).any (fun i=>(nth os i.toNat).off) then 9
 else if ap.any (fun p=>sHas s p.1&&sHas s p.2) then 20
 else if be.any (fun p=>sHas s p.2&& !sHas s p.1) then 21
 else if (XS s 63).any (fun i=>sHas ((nth (Ud os.length be) i.toNat:Nat):Int) i) then 21
 else 0
theorem Zib (net:Net) (tyc:Bool) (tys:List Typ) (c1 c2 c3:Bool) (os:List Ord) (ap be:List (Int×Int)) (s:Int) (hn:os.length<=60) (hla:ap.length<=1048576) (hl:be.length<=1048576) (hv:Val os.length be) :
  PC 90 [.p (Zt ⟨net,tyc,tys,c1,os,c2,ap,c3,be⟩),.p (.int .i64 s)] (.int .i64 (Ya os ap be s)):=by
 have hc:=ZbG hv;have hlen:=hc.len;have hm:=Qu s 63;refine Za Tryz.func90 rfl ZCs ?_;simp (disch:=omega) only [Tryz.f90,go_sem,seval];refine cD ?_ ?_<;>intro hs0<;>simp (disch:=omega) only [Sh.out hs0,go_sem,seval]
 ·simp [Ya,hs0]
 ·refine ((Jp s).frozen (by simp)).use ?_;simp (disch:=omega) only [go_sem,seval];generalize hgm:XS s 63=m at hm ⊢
  have hnn: ∀k,k<m.length->0<=nth m k/\nth m k<63:=fun k hk=>by
   have:nth m k∈XS s 63:=by rw [hgm,Ze hk];exact List.getElem_mem _
   exact_mod_cast Zke this
  have e0: ¬s<0:=hs0;refine Zf [1,2,5,21,22] (fun k:Nat=> [(23,.p (.int .i64 k))]) (fun _=> [Zc ⟨net,tyc,tys,c1,os,c2,ap,c3,be⟩]) (fun k=>k<=m.length/\ ∀j,j<k->decide ((os.length:Int)<=nth m j)=false) (fun k=>m.length-k) 0 (by simp) (Weak.mk ?_) ?_
  ·simp (disch:=omega) only [Zc,go_sem,seval]
  ·rintro k ⟨hk,hno⟩;simp (disch:=omega) only [Zc,go_sem,seval];refine cD ?_ ?_<;>intro h<;>simp (disch:=omega) only [Sh.out h,go_sem,seval]
   ·have hk2:k<m.length:=by omega
    refine cD ?_ ?_<;>intro h4<;>simp (disch:=omega) only [Sh.out h4,go_sem,seval]
    ·have e1:m.any (fun i=>decide ((os.length:Int)<=i))=true:=Yx hk2 (by simp [h4]);simp [Ya,e0,hgm,e1]
    ·exact ⟨k+1,⟨by omega,Xy hno (by simp [h4])⟩,by omega,Weak.mk (by simp (disch:=omega) only [Zc,go_sem,seval])⟩
   ·have hkm:k=m.length:=by omega
    subst hkm;have e1:m.any (fun i=>decide ((os.length:Int)<=i))=false:=Vl hno
    have hin: ∀j,j<m.length->(nth m j).toNat<os.length:=fun j hj=>by
     have q1:=hno j hj;have q2:=hnn j hj;simp only [decide_eq_false_iff_not] at q1;omega
    clear hno hk h;refine Zf [1,2,5,33,34] (fun k:Nat=> [(35,.p (.int .i64 k))]) (fun _=> [Zc ⟨net,tyc,tys,c1,os,c2,ap,c3,be⟩]) (fun k=>k<=m.length/\ ∀j,j<k->(nth os (nth m j).toNat).off=false) (fun k=>m.length-k) 0 (by simp) (Weak.mk ?_) ?_
    ·simp (disch:=omega) only [Zc,go_sem,seval]
    ·rintro k ⟨hk,hno⟩;simp (disch:=omega) only [Zc,go_sem,seval];refine cD ?_ ?_<;>intro h<;>simp (disch:=omega) only [Sh.out h,go_sem,seval]
     ·have hk2:k<m.length:=by omega
      have g1:=hin k hk2;have g2:=hnn k hk2;simp (disch:=omega) only [XJ,go_sem,seval];refine cD ?_ ?_<;>intro h4<;>simp (disch:=omega) only [Sh.out h4,go_sem,seval]
      ·have e2:m.any (fun i=>(nth os i.toNat).off)=true:=Yx hk2 h4;simp [Ya,e0,hgm,e1,e2]
      ·exact ⟨k+1,⟨by omega,Xy hno h4⟩,by omega,Weak.mk (by simp (disch:=omega) only [Zc,go_sem,seval])⟩
     ·have hkm:k=m.length:=by omega
      subst hkm;have e2:m.any (fun i=>(nth os i.toNat).off)=false:=Vl hno;clear hno hk h;refine Zf [1,2,5,47,48] (fun k:Nat=> [(49,.p (.int .i64 k))]) (fun _=> [Zc ⟨net,tyc,tys,c1,os,c2,ap,c3,be⟩]) (fun k=>k<=ap.length/\ ∀j,j<k->(sHas s (nth ap j).1&&sHas s (nth ap j).2)=false) (fun k=>ap.length-k) 0 (by simp) (Weak.mk ?_) ?_
      ·simp (disch:=omega) only [Zc,go_sem,seval]
      ·rintro k ⟨hk,hno⟩;simp (disch:=omega) only [Zc,go_sem,seval];refine cD ?_ ?_<;>intro h<;>simp (disch:=omega) only [Sh.out h,go_sem,seval]
       ·have hk2:k<ap.length:=by omega
        refine (ZaT s (nth ap k).1).use ?_;simp (disch:=omega) only [go_sem,seval];refine gT ?_ ?_<;>intro h5<;>simp (disch:=omega) only [Sh.out h5,go_sem,seval]
        ·refine (ZaT s (nth ap k).2).use ?_;simp (disch:=omega) only [go_sem,seval];refine cD ?_ ?_<;>intro h6<;>simp (disch:=omega) only [Sh.out h6,go_sem,seval]
         ·have e3:ap.any (fun p=>sHas s p.1&&sHas s p.2)=true:=Yx hk2 (by simp [h5,h6]);simp [Ya,e0,hgm,e1,e2,e3]
         ·exact ⟨k+1,⟨by omega,Xy hno (by simp [h5,h6])⟩,by omega,Weak.mk (by simp (disch:=omega) only [Zc,go_sem,seval])⟩
        ·exact ⟨k+1,⟨by omega,Xy hno (by simp [h5])⟩,by omega,Weak.mk (by simp (disch:=omega) only [Zc,go_sem,seval])⟩
       ·have hkm:k=ap.length:=by omega
        subst hkm;have e3:ap.any (fun p=>sHas s p.1&&sHas s p.2)=false:=Vl hno;clear hno hk h;refine Zf [1,2,5,65,66] (fun k:Nat=> [(67,.p (.int .i64 k))]) (fun _=> [Zc ⟨net,tyc,tys,c1,os,c2,ap,c3,be⟩]) (fun k=>k<=be.length/\ ∀j,j<k->(sHas s (nth be j).2&& !sHas s (nth be j).1)=false) (fun k=>be.length-k) 0 (by simp) (Weak.mk ?_) ?_
        ·simp (disch:=omega) only [Zc,go_sem,seval]
        ·rintro k ⟨hk,hno⟩;simp (disch:=omega) only [Zc,go_sem,seval];refine cD ?_ ?_<;>intro h<;>simp (disch:=omega) only [Sh.out h,go_sem,seval]
         ·have hk2:k<be.length:=by omega
          refine (ZaT s (nth be k).2).use ?_;simp (disch:=omega) only [go_sem,seval];refine gT ?_ ?_<;>intro h5<;>simp (disch:=omega) only [Sh.out h5,go_sem,seval]
          ·refine (ZaT s (nth be k).1).use ?_;simp (disch:=omega) only [go_sem,seval];refine cD ?_ ?_<;>intro h6<;>simp (disch:=omega) only [Sh.out h6,go_sem,seval]
           ·have e4:be.any (fun p=>sHas s p.2&& !sHas s p.1)=true:=Yx hk2 (by simp [h5,h6]);simp [Ya,e0,hgm,e1,e2,e3,e4]
           ·exact ⟨k+1,⟨by omega,Xy hno (by simp [h5,h6])⟩,by omega,Weak.mk (by simp (disch:=omega) only [Zc,go_sem,seval])⟩
          ·exact ⟨k+1,⟨by omega,Xy hno (by simp [h5])⟩,by omega,Weak.mk (by simp (disch:=omega) only [Zc,go_sem,seval])⟩
         ·have hkm:k=be.length:=by omega
          subst hkm;have e4:be.any (fun p=>sHas s p.2&& !sHas s p.1)=false:=Vl hno;clear hno hk h;refine ((Zj5 os.length be c3 hn hl hv).frozen (by simpa using hlen)).use ?_;simp (disch:=omega) only [go_sem,seval];refine Zf [5,14,89,90] (fun k:Nat=> [(91,.p (.int .i64 k))]) (fun _=> [Zc ⟨net,tyc,tys,c1,os,c2,ap,c3,be⟩]) (fun k=>k<=m.length/\ ∀j,j<k->sHas ((nth (Ud os.length be) (nth m j).toNat:Nat):Int) (nth m j)=false) (fun k=>m.length-k) 0 (by simp) (Weak.mk ?_) ?_
          ·simp (disch:=omega) only [Zc,go_sem,seval]
          ·rintro k ⟨hk,hno⟩;simp (disch:=omega) only [Zc,go_sem,seval];refine cD ?_ ?_<;>intro h<;>simp (disch:=omega) only [Sh.out h,go_sem,seval]
           ·have hk2:k<m.length:=by omega
            have g1:=hin k hk2;have g2:=hnn k hk2;simp (disch:=omega) only [hlen,XJ,go_sem,seval];refine (ZaT ((nth (Ud os.length be) (nth m k).toNat:Nat):Int) (nth m k)).use ?_;simp (disch:=omega) only [go_sem,seval];refine cD ?_ ?_<;>intro h6<;>simp (disch:=omega) only [Sh.out h6,go_sem,seval]
            ·have e5:m.any (fun i=>sHas ((nth (Ud os.length be) i.toNat:Nat):Int) i)=true:=Yx hk2 h6;simp [Ya,e0,hgm,e1,e2,e3,e4,e5]
            ·exact ⟨k+1,⟨by omega,Xy hno h6⟩,by omega,Weak.mk (by simp (disch:=omega) only [Zc,go_sem,seval])⟩
           ·have hkm:k=m.length:=by omega
            subst hkm;have e5:m.any (fun i=>sHas ((nth (Ud os.length be) i.toNat:Nat):Int) i)=false:=Vl hno;simp [Ya,e0,hgm,e1,e2,e3,e4,e5]
deriving instance DecidableEq for Vis
theorem UZ {v w:Vis} :v=w↔v.order=w.order/\v.drp=w.drp:=by cases v;cases w;simp
def fIx (f:Vis->Bool) (l:List Vis):Int:=match l.findIdx? f with | some i=>(i:Int) | none=> -1
def vIx (l:List Vis) (v:Vis):Int:=fIx (fun w=>decide (v=w)) l
theorem ZdC {f:Vis->Bool} {l:List Vis} {k:Nat} (hk:k<l.length) (h:f (nth l k)=true) (hno: ∀j,j<k->f (nth l j)=false):fIx f l=(k:Int):=by
 have:l.findIdx? f=some k:=by
  rw [List.findIdx?_eq_some_iff_getElem];refine ⟨hk,by rw [<- Ze hk];exact h,fun j hj=> ?_⟩;have h2:=hno j hj;rw [Ze (by omega)] at h2;simpa using h2
 simp [fIx,this]
theorem Zh8 {f:Vis->Bool} {l:List Vis} (hno: ∀j,j<l.length->f (nth l j)=false):fIx f l= -1:=by
 have:l.findIdx? f=none:=by
  rw [List.findIdx?_eq_none_iff];intro x hx;obtain ⟨j,hj,rfl⟩:=List.mem_iff_getElem.1 hx;rw [<- Ze hj];exact hno j hj
 simp [fIx,this]
theorem Zhq {f:Vis->Bool} {l:List Vis} :decide (0<=fIx f l)=l.any f:=by
 unfold fIx
 cases h:l.findIdx? f with
 | none =>
  rw [List.findIdx?_eq_none_iff] at h
  have:l.any f=false:=by rw [List.any_eq_false];intro x hx;simp [h x hx]
  simp [this]
 | some i =>
  rw [List.findIdx?_eq_some_iff_getElem] at h;obtain ⟨h1,h2,_⟩:=h
  have:l.any f=true:=by rw [List.any_eq_true];exact ⟨l[i],List.getElem_mem _,h2⟩
  simp [this]
theorem Zh5 {f:Vis->Bool} {l:List Vis} :fIx f l<l.length/\ -1<=fIx f l:=by
 unfold fIx
 cases h:l.findIdx? f with
 | none=>simp;omega
 | some i =>
  rw [List.findIdx?_eq_some_iff_getElem] at h;obtain ⟨h1,_⟩:=h;simp;omega
theorem Zhh (l:List Vis) (c:Bool) (v:Vis) (hl:l.length<=1048576):PC 233 [.p (.list c (l.map Z5)),.p (Z5 v)] (.int .i64 (vIx l v)):=by
 refine Za Tryz.func233 rfl Zuw ?_;simp (disch:=omega) only [Tryz.f233,go_sem,seval];refine Zf [0,3,7] (fun k:Nat=> [(8,.p (.int .i64 k))]) (fun _=> [.cells [.p (.int .i64 v.order),.p (.bool v.drp)]]) (fun k=>k<=l.length/\ ∀j,j<k->decide (v=nth l j)=false) (fun k=>l.length-k) 0 (by simp) (Weak.mk ?_) ?_
 ·simp (disch:=omega) only [go_sem,seval]
 ·rintro k ⟨hk,hno⟩;simp (disch:=omega) only [go_sem,seval];refine cD ?_ ?_<;>intro h<;>simp (disch:=omega) only [Sh.out h,go_sem,seval]
  ·have hk2:k<l.length:=by omega
   refine Zg mixed (by kernel_rfl) (by kernel_rfl) ?_;simp (disch:=omega) only [go_sem,seval];refine cD ?_ ?_<;>intro h2<;>simp (disch:=omega) only [Sh.out h2,go_sem,seval]
   ·have:v=nth l k:=by simpa [UZ] using h2
    rw [vIx,ZdC hk2 (by simpa using this) hno]
   ·have: ¬v=nth l k:=by simpa [UZ] using h2
    exact ⟨k+1,⟨by omega,Zi.2 ⟨hno,by simpa using this⟩⟩,by omega,wk⟩
  ·have hkl:k=l.length:=by omega
   subst hkl;rw [vIx,Zh8 hno]
theorem Jz (l:List Vis) (c:Bool) (v:Vis) (hl:l.length<=1048576):PC 203 [.p (.list c (l.map Z5)),.p (Z5 v)] (.int .i64 (vIx l v)):=by
 refine Za Tryz.func203 rfl ZrX ?_;simp (disch:=omega) only [Tryz.f203,go_sem,seval];refine (Zhh l c v hl).use ?_;simp (disch:=omega) only [go_sem,seval]
theorem Za3 (l:List Vis) (c:Bool) (v:Vis) (hl:l.length<=1048576):PC 204 [.p (.list c (l.map Z5)),.p (Z5 v)] (.bool (decide (0<=vIx l v))):=by
 refine Za Tryz.func204 rfl Ztf ?_;simp (disch:=omega) only [Tryz.f204,go_sem,seval];refine (Zhh l c v hl).use ?_;simp (disch:=omega) only [go_sem,seval]
theorem Znx (l:List Ord) (c:Bool) (n:Int) (hl:l.length<=1048576):PC 142 [.p (.list c (l.map Ug)),.p (.int .i64 n)] (.bool (decide (0<=n/\n<l.length))):=by
 refine Za Tryz.func142 rfl ZmM ?_;simp (disch:=omega) only [Tryz.f142,go_sem,seval];refine gT ?_ ?_<;>intro h<;>simp (disch:=omega) only [Sh.out h,go_sem,seval]
 all_goals (try simp [h])
def ZV (l:List Ord) (i:Nat):List Vis:=(if 0<=(nth l i).pick.place then [⟨i,false⟩] else [])++(if 0<=(nth l i).drp.place then [⟨i,true⟩] else [])
theorem XO (l:List Ord) (i:Nat):(ZV l i).length<=2:=by unfold ZV;split<;>split<;>simp
theorem Z7 {l:List Ord} {i:Nat} {v:Vis} (h:v∈ZV l i):v.order=i:=by
 unfold ZV at h;rcases List.mem_append.1 h with h | h<;>(split at h<;>simp at h;subst h;rfl)
theorem ZeR (l:List Ord) (c:Bool) (i:Nat) (hi:i<l.length) (hl:l.length<=1048576):ACalls Tryz.prog 92 [.p (.list c (l.map Ug)),.p (.int .i64 (i:Nat))] [] fun x H'=>x= .sl 0 0 (ZV l i).length (ZV l i).length/\H'= [.elems 2 ((ZV l i).map Z5)]:=by
 suffices hh:ACalls Tryz.prog 92 [.p (.list c (l.map Ug)),.p (.int .i64 (i:Nat))] [] fun x H'=> ∃m:List Vis,m=ZV l i/\x= .sl 0 0 m.length m.length/\H'= [.elems 2 (m.map Z5)] by
  refine hh.mono ?_;rintro x H' ⟨m,rfl,h1,h2⟩;exact ⟨h1,h2⟩
 refine Zx [2] Tryz.func92 rfl ZzA ?_;simp (disch:=omega) only [Tryz.f92,go_sem,seval];refine Zm (Weak.ofNil 5 2 (by simp (disch:=omega) only [go_sem,seval]) (by simp) (Weak.refl _ _ _)) ?_;refine Zd [4] _ _ _ _ ?_;simp (disch:=omega) only [go_sem,seval];refine (Znx l c i hl).use ?_;simp (disch:=omega) only [go_sem,seval]
 have h0:(0:Int)<=(i:Int)/\(i:Int)<(l.length:Int):=by omega
 simp (disch:=omega) only [h0,go_sem,seval];refine Zo [0,1] (fun m:List Vis=> [(5,.sl 0 0 m.length m.length)]) (fun m=> [.elems 2 (m.map Z5)]) (fun m=>m=(if 0<=(nth l i).pick.place then [⟨i,false⟩] else [])) ?_ ?_
 ·simp (disch:=omega) only [go_sem,seval];refine cD ?_ ?_<;>intro h<;>simp (disch:=omega) only [Sh.out h,go_sem,seval]
  ·exact ⟨[⟨i,false⟩],by simp [h],wk⟩
  ·exact ⟨[],by simp [h],wk⟩
 ·intro m hm
  have hml:m.length<=1:=by rw [hm];split<;>simp
  refine Zd [] _ _ _ _ ?_;simp (disch:=omega) only [go_sem,seval];refine cD ?_ ?_<;>intro h<;>simp (disch:=omega) only [Sh.out h,go_sem,seval]
  ·exact ⟨m++ [⟨i,true⟩],by rw [ZV,hm,if_pos h],0,by simp (disch:=omega) only [go_sem,seval]⟩
  ·exact ⟨m,by rw [ZV,hm,if_neg h,List.append_nil],0,by simp (disch:=omega) only [go_sem,seval]⟩
theorem visits_c (l:List Ord) (c:Bool) (i:Nat) (hi:i<l.length) (hl:l.length<=1048576):PC 92 [.p (.list c (l.map Ug)),.p (.int .i64 (i:Nat))] (.list false ((ZV l i).map Z5)) :=
 (ZeR l c i hi hl).frozen (by simp)
def Ww (l:List Vis):Bool:=(List.range l.length).any fun i=>decide (0<=vIx (l.take i) (nth l i))
theorem ZoT (l:List Vis) (c:Bool) (hl:l.length<=1048576):PC 165 [.p (.list c (l.map Z5))] (.bool (Ww l)):=by
 refine Za Tryz.func165 rfl Zt3 ?_;simp (disch:=omega) only [Tryz.f165,go_sem,seval];refine Zf [0,5,6] (fun k:Nat=> [(7,.p (.int .i64 k))]) (fun _=> []) (fun k=>k<=l.length/\ ∀j,j<k->decide (0<=vIx (l.take j) (nth l j))=false) (fun k=>l.length-k) 0 (by simp) (Weak.mk ?_) ?_
 ·simp (disch:=omega) only [go_sem,seval]
 ·rintro k ⟨hk,hno⟩;simp (disch:=omega) only [go_sem,seval];refine cD ?_ ?_<;>intro h<;>simp (disch:=omega) only [Sh.out h,go_sem,seval]
  ·have hk2:k<l.length:=by omega
   refine Zg mixed (by kernel_rfl) (by kernel_rfl) ?_;simp (disch:=omega) only [go_sem,seval];refine Zj (Jz (l.take k) _ (nth l k) (by simp;omega)) ?_;simp (disch:=omega) only [go_sem,seval];refine cD ?_ ?_<;>intro h2<;>simp (disch:=omega) only [Sh.out h2,go_sem,seval]
   ·have:Ww l=true:=by rw [Ww,List.any_eq_true];exact ⟨k,by simpa using hk2,by simpa using h2⟩
    rw [this]
   ·exact ⟨k+1,⟨by omega,Zi.2 ⟨hno,by simpa using h2⟩⟩,by omega,wk⟩
  ·have hkl:k=l.length:=by omega
   subst hkl
   have:Ww l=false:=by rw [Ww,List.any_eq_false];intro j hj;simpa using hno j (by simpa using hj)
   rw [this]
theorem Js (l:List Vis) (c:Bool) (g:FuncId) (caps:List V) (H:List AM.Obj) (f:Vis->Bool) (hl:l.length<=1048576) (hW:wkH H H.length H H) (hc:ZU H.length caps=true)
  (hg: ∀v∈l,ACalls Tryz.prog g (.p (Z5 v)::caps) H fun x H'=>x= .p (.bool (f v))/\H'=H) :
  ACalls Tryz.prog 202 [.p (.list c (l.map Z5)),.fn (.func g) [] caps] H fun x H'=>x= .p (.int .i64 (fIx f l))/\H'=H:=by
 refine Xv Tryz.func202 rfl ZtC (Zd [] _ _ _ _ ?_);simp (disch:=omega) only [Tryz.f202,go_sem,seval];refine Zf [0,1,7] (fun k:Nat=> [(8,.p (.int .i64 k))]) (fun _=>H) (fun k=>k<=l.length/\ ∀j,j<k->f (nth l j)=false) (fun k=>l.length-k) 0 (by simp) (Weak.mk ?_) ?_
 ·simp (disch:=omega) only [hW,hc,go_sem,seval];simp
 ·rintro k ⟨hk,hno⟩;simp (disch:=omega) only [go_sem,seval];refine cD ?_ ?_<;>intro h<;>simp (disch:=omega) only [Sh.out h,go_sem,seval]
  ·have hk2:k<l.length:=by omega
   refine (hg (nth l k) (Zp hk2)).useH ?_;simp (disch:=omega) only [go_sem,seval];refine cD ?_ ?_<;>intro h2<;>simp (disch:=omega) only [Sh.out h2,go_sem,seval]
   ·rw [ZdC hk2 h2 hno]
   ·have h3:f (nth l k)=false:=by simpa using h2
    refine ⟨k+1,⟨by omega,Zi.2 ⟨hno,h3⟩⟩,by omega,Weak.mk ?_⟩;simp (disch:=omega) only [hW,hc,go_sem,seval];simp
  ·have hkl:k=l.length:=by omega
   subst hkl;rw [Zh8 hno]
theorem YT (l:List Vis) (c:Bool) (g:FuncId) (caps:List V) (H:List AM.Obj) (f:Vis->Bool) (hl:l.length<=1048576) (hW:wkH H H.length H H) (hc:ZU H.length caps=true)
  (hg: ∀v∈l,ACalls Tryz.prog g (.p (Z5 v)::caps) H fun x H'=>x= .p (.bool (f v))/\H'=H) :
  ACalls Tryz.prog 162 [.p (.list c (l.map Z5)),.fn (.func g) [] caps] H fun x H'=>x= .p (.bool (l.any f))/\H'=H:=by
 refine Xv Tryz.func162 rfl Zvq (Zd [] _ _ _ _ ?_);simp (disch:=omega) only [Tryz.f162,go_sem,seval];refine (Js l c g caps H f hl hW hc hg).useH ?_;simp (disch:=omega) only [go_sem,seval];rw [Zhq]
def hasO (l:List Vis) (o:Int):Bool:=l.any fun v=>decide (v.order=o)
theorem Zv3 (v:Vis) (o:Int):ACalls Tryz.prog 205 [.p (Z5 v),.ptr 0 0] [.cells [.p (.int .i64 o)]] fun x H'=>x= .p (.bool (decide (v.order=o)))/\H'= [.cells [.p (.int .i64 o)]]:=by
 refine Zb [] Tryz.func205 rfl ZsO ?_;simp (disch:=omega) only [Tryz.f205,go_sem,seval];exact we
theorem ZhM (v:Vis) (o:Int):ACalls Tryz.prog 206 [.p (Z5 v),.ptr 0 0] [.cells [.p (.int .i64 o)]] fun x H'=>x= .p (.bool (decide (v.order=o)))/\H'= [.cells [.p (.int .i64 o)]]:=by
 refine Zb [] Tryz.func206 rfl Zsr ?_;simp (disch:=omega) only [Tryz.f206,go_sem,seval];exact we
theorem Qo (l:List Vis) (c:Bool) (o:Int) (hl:l.length<=1048576):PC 167 [.p (.list c (l.map Z5)),.p (.int .i64 o)] (.bool (hasO l o)):=by
 refine Za Tryz.func167 rfl ZrD ?_;simp (disch:=omega) only [Tryz.f167,go_sem,seval];refine (YT l c 205 [.ptr 0 0] [.cells [.p (.int .i64 o)]] (fun v=>decide (v.order=o)) hl (by simp (disch:=omega) only [go_sem,seval]) (by rfl) (fun v _=>Zv3 v o)).useH ?_;simp (disch:=omega) only [go_sem,seval];rw [hasO]
def beforeB (l:List Vis) (a b:Int):Bool:=if fIx (fun v=>decide (v.order=b)) l<0 then true else hasO l a&& !hasO (l.drop (fIx (fun v=>decide (v.order=b)) l).toNat) a
theorem Zc1 (l:List Vis) (c:Bool) (a b:Int) (hl:l.length<=1048576):PC 168 [.p (.list c (l.map Z5)),.p (.int .i64 a),.p (.int .i64 b)] (.bool (beforeB l a b)):=by
 refine Za Tryz.func168 rfl ZtO ?_;simp (disch:=omega) only [Tryz.f168,go_sem,seval];refine (Js l c 206 [.ptr 0 0] [.cells [.p (.int .i64 b)]] (fun v=>decide (v.order=b)) hl (by simp (disch:=omega) only [go_sem,seval]) (by rfl) (fun v _=>ZhM v b)).useH ?_;have hlt:=Zh5 (f:=fun v=>decide (v.order=b)) (l:=l);simp (disch:=omega) only [go_sem,seval];refine cD ?_ ?_<;>intro h<;>simp (disch:=omega) only [Sh.out h,go_sem,seval]
 ·rw [beforeB,if_pos h]
 ·refine (Qo l c a hl).use ?_;simp (disch:=omega) only [go_sem,seval];generalize hq:fIx (fun v=>decide (v.order=b)) l=q at hlt h ⊢
  cases h2:hasO l a with
  | false =>
   simp (disch:=omega) only [go_sem,seval];rw [beforeB,hq,if_neg h,h2];rfl
  | true =>
   simp (disch:=omega) only [List.take_length,go_sem,seval];refine (Qo (l.drop q.toNat) _ a (by simp;omega)).use ?_;simp (disch:=omega) only [go_sem,seval];rw [beforeB,hq,if_neg h,h2];rfl
def JF (l:List Vis):Int->List Vis->Bool
 | _,[]=>true
 | last,w::r=>decide (last<vIx l w)&&JF l (vIx l w) r
def pairB (os:List Ord) (l:List Vis) (v:Vis):Bool:=decide (0<=vIx (ZV os v.order.toNat) v)&&JF l (-1) (ZV os v.order.toNat)
theorem Zdc (x:Inst) (l:List Vis) (c:Bool) (hl:l.length<=1048576) (ho:x.orders.length<=1048576) (hv: ∀v∈l,0<=v.order/\v.order<x.orders.length) :
  PC 166 [.p (Zt x),.p (.list c (l.map Z5))] (.bool (l.all (pairB x.orders l))):=by
 refine Za Tryz.func166 rfl Zsi ?_;simp (disch:=omega) only [Tryz.f166,go_sem,seval];refine Zf [1,2,12,13] (fun k:Nat=> [(14,.p (.int .i64 k))]) (fun _=> [Zc x]) (fun k=>k<=l.length/\ ∀j,j<k->pairB x.orders l (nth l j)=true) (fun k=>l.length-k) 0 (by simp) (Weak.mk ?_) ?_
 ·simp (disch:=omega) only [Zc,go_sem,seval]
 ·rintro k ⟨hk,hno⟩;simp (disch:=omega) only [Zc,go_sem,seval];refine cD ?_ ?_<;>intro h<;>simp (disch:=omega) only [Sh.out h,go_sem,seval]
  ·have hk2:k<l.length:=by omega
   obtain ⟨v1,v2⟩:=hv _ (Zp hk2)
   have hbad:pairB x.orders l (nth l k)=false->l.all (pairB x.orders l)=false:=fun h4=>by
    rw [List.all_eq_false];exact ⟨nth l k,Zp hk2,by rw [h4];simp⟩
   obtain ⟨i,hi⟩: ∃i:Nat,(nth l k).order=(i:Int):=⟨(nth l k).order.toNat,by omega⟩
   have hp:pairB x.orders l (nth l k)=(decide (0<=vIx (ZV x.orders i) (nth l k))&&JF l (-1) (ZV x.orders i)):=by rw [pairB,hi];rfl
   rw [hi] at v1 v2;simp (disch:=omega) only [hi,go_sem,seval];refine (visits_c x.orders x.orders_c i (by omega) ho).use ?_;simp (disch:=omega) only [go_sem,seval];have hvl:=XO x.orders i;have hcon:=Za3 (ZV x.orders i) false (nth l k) (by omega);rw [Zf5,hi] at hcon;refine (hcon).use ?_;simp (disch:=omega) only [go_sem,seval];refine cD ?_ ?_<;>intro h2<;>simp (disch:=omega) only [Sh.out h2,go_sem,seval]
   ·rw [hbad (by rw [hp];simp;intro h3;omega)]
   ·have h2':0<=vIx (ZV x.orders i) (nth l k):=by omega
    generalize hown:ZV x.orders i=own at hvl hp h2' ⊢
    have hp2:pairB x.orders l (nth l k)=JF l (-1) own:=by rw [hp];simp [h2']
    refine Zf [1,2,12,13,14,27,28] (fun q:Nat×Int=> [(8,.p (.int .i64 q.2)),(29,.p (.int .i64 q.1))]) (fun _=> [Zc x,.cells [.p (.int .i64 (i:Int)),.p (.bool (nth l k).drp)]]) (fun q=>q.1<=own.length/\JF l (-1) own=JF l q.2 (own.drop q.1)) (fun q=>own.length-q.1) (0,-1) (by simp) (Weak.mk ?_) ?_
    ·simp (disch:=omega) only [Zc,go_sem,seval]
    ·rintro ⟨j,last⟩ ⟨hj,ha⟩;simp only at hj ha;simp (disch:=omega) only [Zc,go_sem,seval];refine cD ?_ ?_<;>intro h3<;>simp (disch:=omega) only [Sh.out h3,go_sem,seval]
     ·have hj2:j<own.length:=by omega
      have hd:own.drop j=nth own j::own.drop (j+1):=by rw [List.drop_eq_getElem_cons hj2,Ze hj2]
      rw [hd] at ha;refine (Jz l c (nth own j) hl).use ?_;simp (disch:=omega) only [go_sem,seval];refine cD ?_ ?_<;>intro h4<;>simp (disch:=omega) only [Sh.out h4,go_sem,seval]
      ·rw [hbad (by rw [hp2,ha,JF];simp;intro h5;omega)]
      ·have h5:last<vIx l (nth own j):=by omega
       exact ⟨(j+1,vIx l (nth own j)),⟨by simp only;omega,by rw [ha,JF];simp [h5]⟩,by simp only;omega,Weak.mk (by simp (disch:=omega) only [Zc,go_sem,seval])⟩
     ·have hjl:j=own.length:=by omega
      subst hjl;exact ⟨k+1,⟨by omega,Zi.2 ⟨hno,by rw [hp2,ha];simp [JF]⟩⟩,by omega,Weak.mk (by simp (disch:=omega) only [Zc,go_sem,seval])⟩
  ·have hkl:k=l.length:=by omega
   subst hkl
   have:l.all (pairB x.orders l)=true:=by
    rw [List.all_eq_true];intro v hv;obtain ⟨j,hj,rfl⟩:=List.mem_iff_getElem.1 hv;rw [<- Ze hj];exact hno j hj
   rw [this]
def ZB (r:Rte):AM.Obj:= .cells [.p (.int .i64 r.typ),.p (.int .i64 r.start),.p (.list r.rests_c (r.rests.map eB)),.p (.list r.visits_c (r.visits.map Z5))]
def VL (x:Inst) (v:Vis):Bool:= !decide (0<=v.order/\v.order<(x.orders.length:Int))
theorem ZjV (x:Inst) (r:Rte) (v:Vis) (ho:x.orders.length<=1048576):ACalls Tryz.prog 163 [.p (Z5 v),.ptr 0 0] [Zc x,ZB r] fun y H'=>y= .p (.bool (VL x v))/\H'= [Zc x,ZB r]:=by
 refine Zb [] Tryz.func163 rfl ZqL ?_;simp (disch:=omega) only [Tryz.f163,Zc,ZB,go_sem,seval];refine gF ?_ ?_<;>intro h<;>simp (disch:=omega) only [Sh.out h,go_sem,seval]
 ·have e:VL x v=true:=by
   have: ¬(0<=v.order):=by omega
   simp [VL,this]
  rw [e];exact we (by simp (disch:=omega) only [Zc,ZB,go_sem,seval])
 ·have e:VL x v=decide ((x.orders.length:Int)<=v.order):=by
   have h0:0<=v.order:=by omega
   rw [Bool.eq_iff_iff];simp [VL,h0]
  rw [e];exact we (by simp (disch:=omega) only [Zc,ZB,go_sem,seval])
theorem Zly (x:Inst) (r:Rte) (v:Vis) (ho:x.orders.length<=1048576) (h1:0<=v.order) (h2:v.order<x.orders.length):ACalls Tryz.prog 164 [.p (Z5 v),.ptr 0 0] [Zc x,ZB r] fun y H'=>y= .p (.bool (nth x.orders v.order.toNat).off)/\H'= [Zc x,ZB r]:=by
 have h3:v.order.toNat<x.orders.length:=by omega
 refine Zb [] Tryz.func164 rfl Zsg ?_;simp (disch:=omega) only [Tryz.f164,Zc,ZB,XJ,go_sem,seval];exact we (by simp (disch:=omega) only [Zc,ZB,go_sem,seval])
def ZR (x:Inst) (l:List Vis):Int :=
 if l.length=0\/l.any (VL x)=true then 2
 else if (l.any fun v=>(nth x.orders v.order.toNat).off)=true then 9
 else if Ww l=true then 6
 else if l.all (pairB x.orders l)=false then 19
 else if (x.apart.any fun p=>hasO l p.1&&hasO l p.2)=true then 20
 else if (x.before.any fun p=> !beforeB l p.1 p.2)=true then 21
 else 0
theorem Ze7 (x:Inst) (r:Rte) (ho:x.orders.length<=1048576) (hl:r.visits.length<=1048576) (hap:x.apart.length<=1048576) (hbe:x.before.length<=1048576) :
  PC 99 [.p (Zt x),.p (Wr r)] (.int .i64 (ZR x r.visits)):=by
 refine Za Tryz.func99 rfl ZzV ?_;simp (disch:=omega) only [Tryz.f99,go_sem,seval];refine gF ?_ ?_<;>intro h0<;>simp (disch:=omega) only [Sh.out h0,go_sem,seval]
 ·have:r.visits.length=0:=by omega
  simp [ZR,this]
 ·have h00: ¬r.visits.length=0:=by omega
  refine (YT r.visits r.visits_c 163 [.ptr 0 0] [Zc x,ZB r] (VL x) hl (by simp (disch:=omega) only [Zc,ZB,go_sem,seval]) (by rfl) (fun v _=>ZjV x r v ho)).useH ?_;simp (disch:=omega) only [Zc,ZB,go_sem,seval];refine cD ?_ ?_<;>intro h1<;>simp (disch:=omega) only [Sh.out h1,go_sem,seval]
  ·rw [ZR,if_pos (.inr h1)]
  ·have h1':r.visits.any (VL x)=false:=by simpa using h1
   have c1: ¬(r.visits.length=0\/r.visits.any (VL x)=true):=by rw [h1'];simp;simpa using h00
   have hin: ∀v∈r.visits,0<=v.order/\v.order<x.orders.length:=fun v hv=>by
    rw [List.any_eq_false] at h1';simpa [VL] using h1' v hv
   refine (YT r.visits r.visits_c 164 [.ptr 0 0] [Zc x,ZB r] (fun v=>(nth x.orders v.order.toNat).off) hl (by simp (disch:=omega) only [Zc,ZB,go_sem,seval]) (by rfl) (fun v hv=>Zly x r v ho (hin v hv).1 (hin v hv).2)).useH ?_;simp (disch:=omega) only [Zc,ZB,go_sem,seval];refine cD ?_ ?_<;>intro h2<;>simp (disch:=omega) only [Sh.out h2,go_sem,seval]
   ·rw [ZR,if_neg c1,if_pos h2]
   ·refine (ZoT r.visits r.visits_c hl).use ?_;simp (disch:=omega) only [go_sem,seval];refine cD ?_ ?_<;>intro h3<;>simp (disch:=omega) only [Sh.out h3,go_sem,seval]
    ·rw [ZR,if_neg c1,if_neg (by simpa using h2),if_pos h3]
    ·refine (Zdc x r.visits r.visits_c hl ho hin).use ?_;simp (disch:=omega) only [go_sem,seval];refine cD ?_ ?_<;>intro h4<;>simp (disch:=omega) only [Sh.out h4,go_sem,seval]
     ·have h4':r.visits.all (pairB x.orders r.visits)=false:=by simpa using h4
      rw [ZR,if_neg c1,if_neg (by simpa using h2),if_neg (by simpa using h3),if_pos h4']
     ·have h4':r.visits.all (pairB x.orders r.visits)=true:=by simpa using h4
      have hc:ZR x r.visits=if (x.apart.any fun p=>hasO r.visits p.1&&hasO r.visits p.2)=true then 20 else if (x.before.any fun p=> !beforeB r.visits p.1 p.2)=true then 21 else 0:=by
       rw [ZR,if_neg c1,if_neg (by simpa using h2),if_neg (by simpa using h3),if_neg (by rw [h4'];simp)]
      clear h4 h4' h3 h2 c1 h1' h1 h0;refine Zf [2,5,33,34] (fun k:Nat=> [(35,.p (.int .i64 k))]) (fun _=> [Zc x,ZB r]) (fun k=>k<=x.apart.length/\ ∀j,j<k->(hasO r.visits (nth x.apart j).1&&hasO r.visits (nth x.apart j).2)=false) (fun k=>x.apart.length-k) 0 (by simp) (Weak.mk ?_) ?_
      ·simp (disch:=omega) only [Zc,ZB,go_sem,seval]
      ·rintro k ⟨hk,hno⟩;simp (disch:=omega) only [Zc,ZB,go_sem,seval];refine cD ?_ ?_<;>intro h<;>simp (disch:=omega) only [Sh.out h,go_sem,seval]
       ·have hk2:k<x.apart.length:=by omega
        refine (Qo r.visits r.visits_c (nth x.apart k).1 hl).use ?_;simp (disch:=omega) only [go_sem,seval];refine gT ?_ ?_<;>intro h2<;>simp (disch:=omega) only [Sh.out h2,go_sem,seval]
        ·refine (Qo r.visits r.visits_c (nth x.apart k).2 hl).use ?_;simp (disch:=omega) only [go_sem,seval];refine cD ?_ ?_<;>intro h3<;>simp (disch:=omega) only [Sh.out h3,go_sem,seval]
         ·rw [hc,if_pos (Yx hk2 (by rw [h2,h3];rfl))]
         ·exact ⟨k+1,⟨by omega,Zi.2 ⟨hno,by simp [h2];simpa using h3⟩⟩,by omega,Weak.mk (by simp (disch:=omega) only [Zc,ZB,go_sem,seval])⟩
        ·exact ⟨k+1,⟨by omega,Zi.2 ⟨hno,by simp [h2]⟩⟩,by omega,Weak.mk (by simp (disch:=omega) only [Zc,ZB,go_sem,seval])⟩
       ·have hkl:k=x.apart.length:=by omega
        subst hkl;rw [hc,Vl hno];clear hno hk h hc;rw [if_neg (by simp)];refine Zf [5,51,52] (fun k:Nat=> [(53,.p (.int .i64 k))]) (fun _=> [Zc x,ZB r]) (fun k=>k<=x.before.length/\ ∀j,j<k->(!beforeB r.visits (nth x.before j).1 (nth x.before j).2)=false) (fun k=>x.before.length-k) 0 (by simp) (Weak.mk ?_) ?_
        ·simp (disch:=omega) only [Zc,ZB,go_sem,seval]
        ·rintro k ⟨hk,hno⟩;simp (disch:=omega) only [Zc,ZB,go_sem,seval];refine cD ?_ ?_<;>intro h<;>simp (disch:=omega) only [Sh.out h,go_sem,seval]
         ·have hk2:k<x.before.length:=by omega
          refine (Zc1 r.visits r.visits_c (nth x.before k).1 (nth x.before k).2 hl).use ?_;simp (disch:=omega) only [go_sem,seval];refine cD ?_ ?_<;>intro h2<;>simp (disch:=omega) only [Sh.out h2,go_sem,seval]
          ·have h3:(!beforeB r.visits (nth x.before k).1 (nth x.before k).2)=true:=by simpa using h2
           rw [if_pos (Yx hk2 h3)]
          ·have h3:(!beforeB r.visits (nth x.before k).1 (nth x.before k).2)=false:=by simpa using h2
           exact ⟨k+1,⟨by omega,Zi.2 ⟨hno,h3⟩⟩,by omega,Weak.mk (by simp (disch:=omega) only [Zc,ZB,go_sem,seval])⟩
         ·have hkl:k=x.before.length:=by omega
          subst hkl;rw [Vl hno]
          rfl
@[go_sem] theorem Zxo {H:List AM.Obj} {n cs cs'} :wkV H n (.tup cs) (.tup cs')=(cs'=cs/\ZU n cs=true):=by simp [wkV,frz,refB]
@[go_sem] theorem Zfg {a b:V} :Vi [a,b]= .tup [a,b]:=Eq.trans rfl rfl
theorem Ka {g:FuncId} {args:List V} {a b:PV} {H:List AM.Obj} {K:V->List AM.Obj->Prop} (h:ACalls Tryz.prog g args [] fun x H'=>x= .tup [.p a,.p b]/\H'= []) (k:K (.tup [.p a,.p b]) H) (ha:ZU 0 args=true:=by rfl):ACalls Tryz.prog g args H K :=
 (h.behind ha H).mono fun x H' hq=>by
  obtain ⟨y,H1,⟨rfl,rfl⟩,rfl,rfl⟩:=hq;simpa [shV,shVs] using k
def Yd (l:List Vis):Nat:=l.foldl (fun s v=>s|||pw v.order.toNat) 0
def inS (v:Vis):Bool:=decide (0<=v.order/\v.order<=62)
theorem QD {l:List Vis} {k:Nat} (hk:k<l.length):Yd (l.take (k+1))=Yd (l.take k)|||pw (nth l k).order.toNat:=by
 rw [List.take_succ_eq_append_getElem hk,Yd,List.foldl_append,Ze hk];rfl
theorem UK : ∀(k:Nat) {l:List Vis},k<=l.length->(∀v∈l.take k,inS v=true)->Yd (l.take k)<9223372036854775808
 | 0,l,_,_=>by simp [Yd]
 | k+1,l,hk,h=>by
  have hk2:k<l.length:=by omega
  have ih:=UK k (l:=l) (by omega) fun v hv=>h v (List.take_subset_take_left l (by omega) hv);have hv:=h (nth l k) (by rw [Ze hk2];exact List.mem_iff_getElem.2 ⟨k,by simp;omega,by simp⟩);simp only [inS,decide_eq_true_eq] at hv;have h2:pw (nth l k).order.toNat<=pw 62:=U5 (by omega);have h3:=Zb5;rw [QD hk2];exact Nat.or_lt_two_pow (n:=63) (by omega) (by omega)
def JH (l:List Vis):Int×Int:=if l.all inS=true then (((Yd l:Nat):Int),0) else (0,2)
theorem Zc6 (r:Rte) (hl:r.visits.length<=1048576):PT 62 [.p (Wr r)] [.p (.int .i64 (JH r.visits).1),.p (.int .i64 (JH r.visits).2)]:=by
 refine Zb [] Tryz.func62 rfl ZAa ?_;simp (disch:=omega) only [Tryz.f62,go_sem,seval];refine Zf [8,9] (fun k:Nat=> [(4,.p (.int .i64 (Yd (r.visits.take k):Nat))),(10,.p (.int .i64 k))]) (fun _=> [ZB r]) (fun k=>k<=r.visits.length/\ ∀j,j<k->inS (nth r.visits j)=true) (fun k=>r.visits.length-k) 0 (by simp) (Weak.mk ?_) ?_
 ·simp (disch:=omega) only [ZB,Yd,List.take_zero,List.foldl_nil,go_sem,seval]
 ·rintro k ⟨hk,hno⟩
  have hlt:=UK k hk fun v hv=>by
   obtain ⟨j,hj,rfl⟩:=List.mem_iff_getElem.1 hv;simp at hj;rw [List.getElem_take,<- Ze (by omega)];exact hno j (by omega)
  simp (disch:=omega) only [ZB,go_sem,seval];refine cD ?_ ?_<;>intro h<;>simp (disch:=omega) only [Sh.out h,go_sem,seval]
  ·have hk2:k<r.visits.length:=by omega
   have hbad:inS (nth r.visits k)=false->JH r.visits=(0,2):=fun h4=>by
    have:r.visits.all inS=false:=by rw [List.all_eq_false];exact ⟨nth r.visits k,Zp hk2,by rw [h4];simp⟩
    simp [JH,this]
   have hs:=QD hk2
   have hp:(nth r.visits k).order<=62->pw (nth r.visits k).order.toNat<=4611686018427387904:=fun h=>by rw [<- Zb5];exact U5 (by omega)
   refine gF ?_ ?_<;>intro h1<;>simp (disch:=omega) only [Sh.out h1,go_sem,seval]
   ·have e:=hbad (by simp [inS];omega);rw [e];exact we
   ·refine cD ?_ ?_<;>intro h2<;>simp (disch:=omega) only [Sh.out h2,go_sem,seval]
    ·have e:=hbad (by simp [inS];omega);rw [e];exact we
    ·exact ⟨k+1,⟨by omega,Zi.2 ⟨hno,by simp [inS];omega⟩⟩,by omega,Weak.mk (by simp (disch:=omega) only [ZB,hs,go_sem,seval])⟩
  ·have hkl:k=r.visits.length:=by omega
   subst hkl
   have:r.visits.all inS=true:=by
    rw [List.all_eq_true];intro v hv;obtain ⟨j,hj,rfl⟩:=List.mem_iff_getElem.1 hv;rw [<- Ze hj];exact hno j hj
   have e:JH r.visits=(((Yd r.visits:Nat):Int),0):=by simp [JH,this]
   rw [e,List.take_length];exact we
theorem YW {α:Type} [Inhabited α] {a b:List α} (hl:a.length=b.length) (h: ∀j,j<a.length->nth a j=nth b j):a=b:=by
 refine List.ext_getElem hl fun i h1 h2=> ?_;have:=h i h1;rwa [Ze h1,Ze h2] at this
def Uq (a b:Int):Int:=if a<b then-1 else if b<a then 1 else 0
theorem ZhT (a:Int):PC 69 [.p (.int .i64 a)] (.bool false):=by
 refine Za Tryz.func69 rfl ZCz ?_;simp (disch:=omega) only [Tryz.f69,go_sem,seval]
 try simp
theorem Zfa (a b:Int):PC 40 [.p (.int .i64 a),.p (.int .i64 b)] (.int .i64 (Uq a b)):=by
 refine Za Tryz.func40 rfl ZzC ?_;simp (disch:=omega) only [Tryz.f40,go_sem,seval];refine (ZhT a).use ?_;simp (disch:=omega) only [go_sem,seval];refine (ZhT b).use ?_;simp (disch:=omega) only [go_sem,seval];refine cD ?_ ?_<;>intro h<;>simp (disch:=omega) only [Sh.out h,go_sem,seval]
 ·simp [Uq,h]
 ·refine cD ?_ ?_<;>intro h2<;>simp (disch:=omega) only [Sh.out h2,go_sem,seval]
  ·simp [Uq,h,h2]
  ·simp [Uq,h,h2]
def orI (l:List Int):Int:=(l.find? fun n=>decide (n≠0)).getD 0
theorem ZvB {l:List Int} {k:Nat} (hk:k<l.length) (h:nth l k≠0) (hno: ∀j,j<k->nth l j=0):orI l=nth l k:=by
 have:l.find? (fun n=>decide (n≠0))=some (nth l k):=by
  rw [List.find?_eq_some_iff_getElem];refine ⟨by simpa using h,k,hk,(Ze hk).symm,fun j hj=> ?_⟩;have:=hno j hj;rw [Ze (by omega)] at this;simp [this]
 simp only [orI,this,Option.getD_some]
theorem Zvt {l:List Int} (hno: ∀j,j<l.length->nth l j=0):orI l=0:=by
 have:l.find? (fun n=>decide (n≠0))=none:=by
  rw [List.find?_eq_none];intro x hx;obtain ⟨j,hj,rfl⟩:=List.mem_iff_getElem.1 hx;rw [<- Ze hj,hno j hj];simp
 simp only [orI,this,Option.getD_none]
theorem ZBr (l:List Int) (c:Bool) (hl:l.length<=100):PC 39 [.p (.list c (l.map eI))] (.int .i64 (orI l)):=by
 refine Za Tryz.func39 rfl Zz6 ?_;simp (disch:=omega) only [Tryz.f39,go_sem,seval];refine Zf [3,6,7] (fun k:Nat=> [(8,.p (.int .i64 k))]) (fun _=> []) (fun k=>k<=l.length/\ ∀j,j<k->nth l j=0) (fun k=>l.length-k) 0 (by simp) (Weak.mk ?_) ?_
 ·simp (disch:=omega) only [go_sem,seval]
 ·rintro k ⟨hk,hno⟩;simp (disch:=omega) only [go_sem,seval];refine cD ?_ ?_<;>intro h<;>simp (disch:=omega) only [Sh.out h,go_sem,seval]
  ·have hk2:k<l.length:=by omega
   refine cD ?_ ?_<;>intro h2<;>simp (disch:=omega) only [Sh.out h2,go_sem,seval]
   ·rw [ZvB hk2 h2 hno]
   ·exact ⟨k+1,⟨by omega,Zi.2 ⟨hno,by simpa using h2⟩⟩,by omega,wk⟩
  ·have hkl:k=l.length:=by omega
   subst hkl;rw [Zvt hno]
theorem Zch (a b:Int):orI [a,b]=if a=0 then b else a:=by
 by_cases h:a=0
 ·by_cases h2:b=0<;>simp [orI,h,h2]
 ·simp [orI,h]
def dn (v:Vis):Int:=if v.drp=true then 1 else 0
theorem Zd8 (v:Vis):PC 240 [.p (Z5 v)] (.int .i64 (dn v)):=by
 refine Za Tryz.func240 rfl Zq3 ?_;simp (disch:=omega) only [Tryz.f240,go_sem,seval];refine cD ?_ ?_<;>intro h<;>simp (disch:=omega) only [Sh.out h,go_sem,seval]
 ·simp [dn,h]
 ·simp [dn,h]
def ZcZ (a b:Vis):Int:=if Uq a.order b.order=0 then Uq (dn a) (dn b) else Uq a.order b.order
theorem ZgT (a b:Vis):PC 220 [.p (Z5 a),.p (Z5 b)] (.int .i64 (ZcZ a b)):=by
 refine Za Tryz.func220 rfl ZtA ?_;simp (disch:=omega) only [Tryz.f220,go_sem,seval];refine Zg mixed (by kernel_rfl) (by kernel_rfl) ?_;simp (disch:=omega) only [go_sem,seval];refine Zj (Zfa a.order b.order) ?_;simp (disch:=omega) only [go_sem,seval];refine Zj (Zd8 a) ?_;simp (disch:=omega) only [go_sem,seval];refine Zj (Zd8 b) ?_;simp (disch:=omega) only [go_sem,seval];refine Zj (Zfa (dn a) (dn b)) ?_;simp (disch:=omega) only [go_sem,seval];refine Zj (ZBr [Uq a.order b.order,Uq (dn a) (dn b)] false (by simp)) ?_
 simp (disch:=omega) only [go_sem,seval];rw [Zch,ZcZ]
def Zc4 : List Vis->List Vis->Int
 | [],[]=>0
 | [],_::_=> -1
 | _::_,[]=>1
 | a::r,b::s=>if ZcZ a b=0 then Zc4 r s else ZcZ a b
theorem Wc {α:Type} [Inhabited α] {l:List α} {k:Nat} (h:k<l.length):l.drop k=nth l k::l.drop (k+1):=by rw [List.drop_eq_getElem_cons h,Ze h]
theorem Zam (a b:List Vis) (c d:Bool) (ha:a.length<=1048576) (hb:b.length<=1048576) :
  PC 219 [.p (.list c (a.map Z5)),.p (.list d (b.map Z5)),.fn (.func 220) [] []] (.int .i64 (Zc4 a b)):=by
 refine Za Tryz.func219 rfl Zqp ?_;simp (disch:=omega) only [Tryz.f219,go_sem,seval];refine Zf [0,1,2,11,12] (fun k:Nat=> [(13,.p (.int .i64 k))]) (fun _=> []) (fun k=>k<=a.length/\k<=b.length/\Zc4 a b=Zc4 (a.drop k) (b.drop k)) (fun k=>a.length-k) 0 (by simp) (Weak.mk ?_) ?_
 ·simp (disch:=omega) only [go_sem,seval]
 ·rintro k ⟨hk,hkb,hle⟩;simp (disch:=omega) only [go_sem,seval];refine cD ?_ ?_<;>intro h<;>simp (disch:=omega) only [Sh.out h,go_sem,seval]
  ·have hk2:k<a.length:=by omega
   rw [Wc hk2] at hle;refine cD ?_ ?_<;>intro h2<;>simp (disch:=omega) only [Sh.out h2,go_sem,seval]
   ·have:b.drop k= []:=List.drop_eq_nil_of_le (by omega);rw [hle,this];rfl
   ·have hk3:k<b.length:=by omega
    rw [Wc hk3] at hle;refine (ZgT (nth a k) (nth b k)).use ?_;simp (disch:=omega) only [go_sem,seval];refine cD ?_ ?_<;>intro h3<;>simp (disch:=omega) only [Sh.out h3,go_sem,seval]
    ·rw [hle,Zc4,if_neg h3]
    ·have h4:ZcZ (nth a k) (nth b k)=0:=by omega
     exact ⟨k+1,⟨by omega,by omega,by rw [hle,Zc4,if_pos h4]⟩,by omega,wk⟩
  ·have hkl:k=a.length:=by omega
   subst hkl;rw [List.drop_length] at hle;refine cD ?_ ?_<;>intro h2<;>simp (disch:=omega) only [Sh.out h2,go_sem,seval]
   ·rw [Wc (by omega)] at hle;rw [hle];rfl
   ·have:b.drop a.length= []:=List.drop_eq_nil_of_le (by omega);rw [hle,this];rfl
theorem ZiV (a b:List Vis) (c d:Bool) (ha:a.length<=1048576) (hb:b.length<=1048576):PC 190 [.p (.list c (a.map Z5)),.p (.list d (b.map Z5))] (.bool (decide (Zc4 a b<0))):=by
 refine Za Tryz.func190 rfl ZsX ?_;simp (disch:=omega) only [Tryz.f190,go_sem,seval];refine (Zam a b c d ha hb).use ?_;simp (disch:=omega) only [go_sem,seval]
def Zao (l:List Vis) (v:Vis):List Vis->Bool
 | []=>true
 | w::r=>if w=v then true else decide (0<=vIx l w)&&Zao l v r
def YR (l own:List Vis):Bool:=own.all fun w=>decide (0<=vIx l w)
def ZbN (os:List Ord) (l:List Vis) (o:Int) (p:Int×Int):Bool:=decide (p.2≠o)||YR l (ZV os p.1.toNat)
def Xo (x:Inst) (l:List Vis) (v:Vis):Bool:=decide (vIx l v<0)&&Zao l v (ZV x.orders v.order.toNat)&&x.before.all (ZbN x.orders l v.order)
def YS (v:Vis):AM.Obj:= .cells [.p (.int .i64 v.order),.p (.bool v.drp)]
theorem ZfY {l:List Vis} {v:Vis} : -1<=vIx l v/\vIx l v<l.length:=by
 have:=Zh5 (f:=fun w=>decide (v=w)) (l:=l);rw [vIx];omega
theorem Ze9 (x:Inst) (l:List Vis) (c:Bool) (v:Vis) (hl:l.length<=1048576) (ho:x.orders.length<=1048576) (hbl:x.before.length<=1048576) (hv:0<=v.order/\v.order<x.orders.length) (hb: ∀p∈x.before,0<=p.1/\p.1<x.orders.length) :
  PC 191 [.p (Zt x),.p (.list c (l.map Z5)),.p (Z5 v)] (.bool (Xo x l v)):=by
 refine WA [3] Tryz.func191 rfl ZsG ?_;simp (disch:=omega) only [Tryz.f191,go_sem,seval];refine (Jz l c v hl).use ?_;simp (disch:=omega) only [go_sem,seval];refine cD ?_ ?_<;>intro h<;>simp (disch:=omega) only [Sh.out h,go_sem,seval]
 ·have: ¬vIx l v<0:=by omega
  rw [Xo];simp [this]
 ·have h1:vIx l v<0:=by omega
  obtain ⟨i,hi⟩: ∃i:Nat,v.order=(i:Int):=⟨v.order.toNat,by omega⟩
  have hr:Xo x l v=(Zao l v (ZV x.orders i)&&x.before.all (ZbN x.orders l v.order)):=by
   rw [Xo,hi];simp [h1]
  have hvi:=visits_c x.orders x.orders_c i (by omega) ho;rw [<- hi] at hvi;refine Zo [1,3,5] (fun _:Unit=> []) (fun _=> [Zc x,YS v]) (fun _=>Zao l v (ZV x.orders i)=true) ?_ ?_
  ·simp (disch:=omega) only [go_sem,seval];refine (hvi).use ?_;simp (disch:=omega) only [go_sem,seval];have hvl:=XO x.orders i;generalize hown:ZV x.orders i=own at hvl hr ⊢;refine Zf [1,3,5,21,22] (fun k:Nat=> [(23,.p (.int .i64 k))]) (fun _=> [Zc x,YS v]) (fun k=>k<=own.length/\Zao l v own=Zao l v (own.drop k)) (fun k=>own.length-k) 0 (by simp) (Weak.mk ?_) ?_
   ·simp (disch:=omega) only [Zc,YS,go_sem,seval]
   ·rintro k ⟨hk,hp⟩;simp (disch:=omega) only [Zc,YS,go_sem,seval];refine cD ?_ ?_<;>intro h2<;>simp (disch:=omega) only [Sh.out h2,go_sem,seval]
    ·have hk2:k<own.length:=by omega
     rw [Wc hk2] at hp;refine cD ?_ ?_<;>intro h3<;>simp (disch:=omega) only [Sh.out h3,go_sem,seval]
     ·have h4:nth own k=v:=by rw [UZ];simpa using h3
      exact ⟨(),by rw [hp,Zao,if_pos h4],Weak.mk (by simp (disch:=omega) only [Zc,YS,go_sem,seval])⟩
     ·have h4: ¬nth own k=v:=by rw [UZ];simpa using h3
      refine (Jz l c (nth own k) hl).use ?_;simp (disch:=omega) only [go_sem,seval];refine cD ?_ ?_<;>intro h5<;>simp (disch:=omega) only [Sh.out h5,go_sem,seval]
      ·have h6: ¬ 0<=vIx l (nth own k):=by omega
       have:Zao l v own=false:=by rw [hp,Zao,if_neg h4];simp [h6]
       rw [hr,this];rfl
      ·have h6:0<=vIx l (nth own k):=by omega
       exact ⟨k+1,⟨by omega,by rw [hp,Zao,if_neg h4];simp [h6]⟩,by omega,Weak.mk (by simp (disch:=omega) only [Zc,YS,go_sem,seval])⟩
    ·have hkl:k=own.length:=by omega
     subst hkl;exact ⟨(),by rw [hp,List.drop_length];rfl,Weak.mk (by simp (disch:=omega) only [Zc,YS,go_sem,seval])⟩
  ·rintro _ hpre;rw [hpre,Bool.true_and] at hr;refine Zd [] _ _ _ _ ?_;simp (disch:=omega) only [Zc,YS,go_sem,seval];refine Zf [1,3,5,36,37] (fun k:Nat=> [(38,.p (.int .i64 k))]) (fun _=> [Zc x,YS v]) (fun k=>k<=x.before.length/\ ∀j,j<k->ZbN x.orders l v.order (nth x.before j)=true) (fun k=>x.before.length-k) 0 (by simp) (Weak.mk ?_) ?_
   ·simp (disch:=omega) only [Zc,YS,go_sem,seval]
   ·rintro k ⟨hk,hno⟩;simp (disch:=omega) only [Zc,YS,go_sem,seval];refine cD ?_ ?_<;>intro h2<;>simp (disch:=omega) only [Sh.out h2,go_sem,seval]
    ·have hk2:k<x.before.length:=by omega
     have hbk:=hb _ (Zp hk2)
     have hbad:ZbN x.orders l v.order (nth x.before k)=false->Xo x l v=false:=fun h4=>by
      rw [hr,List.all_eq_false];exact ⟨nth x.before k,Zp hk2,by rw [h4];simp⟩
     refine cD ?_ ?_<;>intro h3<;>simp (disch:=omega) only [Sh.out h3,go_sem,seval]
     ·exact ⟨k+1,⟨by omega,Zi.2 ⟨hno,by simp [ZbN,h3]⟩⟩,by omega,Weak.mk (by simp (disch:=omega) only [Zc,YS,go_sem,seval])⟩
     ·obtain ⟨a,hao⟩: ∃a:Nat,(nth x.before k).1=(a:Int):=⟨(nth x.before k).1.toNat,by omega⟩;have hva:=visits_c x.orders x.orders_c a (by omega) ho;rw [<- hao] at hva
      have h3':(nth x.before k).2=v.order:=by simpa using h3
      have hbe:ZbN x.orders l v.order (nth x.before k)=YR l (ZV x.orders a):=by rw [ZbN,hao,h3'];simp
      refine (hva).use ?_;simp (disch:=omega) only [go_sem,seval];have hvl:=XO x.orders a;generalize hown:ZV x.orders a=own at hvl hbe ⊢;refine Zf [1,3,5,36,37,38,51,52] (fun k:Nat=> [(53,.p (.int .i64 k))]) (fun _=> [Zc x,YS v,.cells [.p (.int .i64 (nth x.before k).1),.p (.int .i64 (nth x.before k).2)]]) (fun q=>q<=own.length/\ ∀j,j<q->decide (0<=vIx l (nth own j))=true) (fun k=>own.length-k) 0 (by simp) (Weak.mk ?_) ?_
      ·simp (disch:=omega) only [Zc,YS,go_sem,seval]
      ·rintro q ⟨hq,hnq⟩;simp (disch:=omega) only [Zc,YS,go_sem,seval];refine cD ?_ ?_<;>intro h4<;>simp (disch:=omega) only [Sh.out h4,go_sem,seval]
       ·have hq2:q<own.length:=by omega
        refine (Jz l c (nth own q) hl).use ?_;simp (disch:=omega) only [go_sem,seval];refine cD ?_ ?_<;>intro h5<;>simp (disch:=omega) only [Sh.out h5,go_sem,seval]
        ·have h6: ¬ 0<=vIx l (nth own q):=by omega
         rw [hbad (by rw [hbe,YR,List.all_eq_false];exact ⟨nth own q,Zp hq2,by simpa using h6⟩)]
        ·exact ⟨q+1,⟨by omega,Zi.2 ⟨hnq,by simp;omega⟩⟩,by omega,Weak.mk (by simp (disch:=omega) only [Zc,YS,go_sem,seval])⟩
       ·have hql:q=own.length:=by omega
        subst hql
        have:YR l own=true:=by
         rw [YR,List.all_eq_true];intro w hw;obtain ⟨j,hj,rfl⟩:=List.mem_iff_getElem.1 hw;rw [<- Ze hj];exact hnq j hj
        exact ⟨k+1,⟨by omega,Zi.2 ⟨hno,by rw [hbe,this]⟩⟩,by omega,Weak.mk (by simp (disch:=omega) only [Zc,YS,go_sem,seval])⟩
    ·have hkl:k=x.before.length:=by omega
     subst hkl
     have:x.before.all (ZbN x.orders l v.order)=true:=by
      rw [List.all_eq_true];intro w hw;obtain ⟨j,hj,rfl⟩:=List.mem_iff_getElem.1 hw;rw [<- Ze hj];exact hno j hj
     rw [hr,this]
def WM (x:Inst) (S:Nat) (l:List Vis) (i:Nat):List Vis:=if S.testBit i=true/\(nth x.orders i).off=false then (ZV x.orders i).filter (Xo x l) else []
def nextU (x:Inst) (S:Nat) (l:List Vis) (k:Nat):List Vis:=(List.range k).flatMap (WM x S l)
theorem Ur (x S l k):nextU x S l (k+1)=nextU x S l k++WM x S l k:=by simp [nextU,List.range_succ]
theorem ZgN (x S l i):(WM x S l i).length<=2:=by
 unfold WM;split
 ·exact Nat.le_trans (List.length_filter_le _ _) (XO _ _)
 ·simp
theorem WE (x S l): ∀k,(nextU x S l k).length<=2*k
 | 0=>by simp [nextU]
 | k+1=>by
  have h1:=WE x S l k;have h2:=ZgN x S l k;rw [Ur,List.length_append];omega
theorem ZgY (x:Inst) (S:Nat) (l:List Vis) (c:Bool) (hS:S<9223372036854775808) (hl:l.length<=1048576) (ho:x.orders.length<=60) (hbl:x.before.length<=1048576) (hb: ∀p∈x.before,0<=p.1/\p.1<x.orders.length) :
  PC 146 [.p (Zt x),.p (.int .i64 (S:Nat)),.p (.list c (l.map Z5))] (.list false ((nextU x S l x.orders.length).map Z5)):=by
 refine ACalls.frozen (S:=2) (n:=(nextU x S l x.orders.length).length) (by simp) ?_
 suffices hh:ACalls Tryz.prog 146 [.p (Zt x),.p (.int .i64 (S:Nat)),.p (.list c (l.map Z5))] [] fun y H'=> ∃m:List Vis,m=nextU x S l x.orders.length/\y= .sl 0 0 m.length m.length/\H'= [.elems 2 (m.map Z5)] by
  refine hh.mono ?_;rintro x H' ⟨m,rfl,h1,h2⟩;exact ⟨h1,h2⟩
 refine Zx [2] Tryz.func146 rfl ZwD ?_;simp (disch:=omega) only [Tryz.f146,go_sem,seval];refine Zm (Weak.ofNil 7 2 (by simp (disch:=omega) only [go_sem,seval]) (by simp) (Weak.refl _ _ _)) ?_;refine Zd [] _ _ _ _ ?_;simp (disch:=omega) only [go_sem,seval];refine Zf [1,2,3,13,14] (fun q:Nat×List Vis=> [(7,.sl 1 0 q.2.length q.2.length),(15,.p (.int .i64 q.1))]) (fun q=> [Zc x,.elems 2 (q.2.map Z5)]) (fun q=>q.1<=x.orders.length/\q.2=nextU x S l q.1) (fun q=>x.orders.length-q.1) (0,[]) ⟨by simp,by simp [nextU]⟩ (Weak.mk ?_) ?_
 ·simp (disch:=omega) only [Zc,go_sem,seval]
 ·rintro ⟨k,m⟩ ⟨hk,hm⟩;simp only at hk hm
  have hml:m.length<=2*k:=by rw [hm];exact WE x S l k
  have hsc:=Ur x S l k;simp (disch:=omega) only [Zc,go_sem,seval];refine cD ?_ ?_<;>intro h<;>simp (disch:=omega) only [Sh.out h,go_sem,seval]
  ·have hk2:k<x.orders.length:=by omega
   refine gF ?_ ?_<;>intro h62<;>simp (disch:=omega) only [Sh.out h62,go_sem,seval]
   ·omega
   refine gF ?_ ?_<;>intro h2<;>simp (disch:=omega) only [Sh.out h2,go_sem,seval]
   ·have hbit:S.testBit k=false:=by simpa only [Zah] using h2
    have e:WM x S l k= []:=by simp [WM,hbit]
    exact ⟨(k+1,m),⟨by simp only;omega,by simp only [hsc,e,hm,List.append_nil]⟩,by simp only;omega,Weak.mk (by simp (disch:=omega) only [Zc,go_sem,seval])⟩
   ·have hbit:S.testBit k=true:=by
     cases hq:S.testBit k with
     | true=>rfl
     | false=>exact absurd (by simpa only [Zah] using hq) h2
    refine cD ?_ ?_<;>intro h3<;>simp (disch:=omega) only [Sh.out h3,go_sem,seval]
    ·have e:WM x S l k= []:=by simp [WM,h3]
     exact ⟨(k+1,m),⟨by simp only;omega,by simp only [hsc,e,hm,List.append_nil]⟩,by simp only;omega,Weak.mk (by simp (disch:=omega) only [Zc,go_sem,seval])⟩
    ·have h3':(nth x.orders k).off=false:=by simpa using h3
     have e:WM x S l k=(ZV x.orders k).filter (Xo x l):=by simp [WM,hbit,h3']
     refine (visits_c x.orders x.orders_c k hk2 (by omega)).use ?_;simp (disch:=omega) only [go_sem,seval];have hvl:=XO x.orders k;have hvo: ∀v∈ZV x.orders k,v.order=k:=fun v hv=>Z7 hv;generalize hown:ZV x.orders k=own at hvl e hvo ⊢;refine Zf [1,2,3,13,14,15,36,37] (fun q:Nat×List Vis=> [(7,.sl 1 0 q.2.length q.2.length),(38,.p (.int .i64 q.1))]) (fun q=> [Zc x,.elems 2 (q.2.map Z5),XR (nth x.orders k)]) (fun q=>q.1<=own.length/\q.2=m++(own.take q.1).filter (Xo x l)) (fun q=>own.length-q.1) (0,m) ⟨by simp,by simp⟩ (Weak.mk ?_) ?_
     ·simp (disch:=omega) only [Zc,XR,h3',go_sem,seval]
     ·rintro ⟨j,m2⟩ ⟨hj,hm2⟩;simp only at hj hm2
      have hm2l:m2.length<=2*k+2:=by
       have:=List.length_filter_le (Xo x l) (own.take j);rw [hm2,List.length_append];simp at this;omega
      simp (disch:=omega) only [Zc,XR,h3',go_sem,seval];refine cD ?_ ?_<;>intro h4<;>simp (disch:=omega) only [Sh.out h4,go_sem,seval]
      ·have hj2:j<own.length:=by omega
       have hvj:=hvo _ (Zp hj2)
       have htk:own.take (j+1)=own.take j++ [nth own j]:=by rw [List.take_succ_eq_append_getElem hj2,Ze hj2]
       have hrd:=Ze9 x l c (nth own j) hl (by omega) hbl (by omega) hb;refine (hrd).use ?_;simp (disch:=omega) only [go_sem,seval];refine cD ?_ ?_<;>intro h5<;>simp (disch:=omega) only [Sh.out h5,go_sem,seval]
       ·exact ⟨(j+1,m2++ [nth own j]),⟨by simp only;omega,by simp only [htk,List.filter_append,hm2,List.append_assoc];simp [h5]⟩,by simp only;omega,Weak.mk (by simp (disch:=omega) only [Zc,XR,h3',go_sem,seval])⟩
       ·exact ⟨(j+1,m2),⟨by simp only;omega,by simp only [htk,List.filter_append,hm2];simp [h5]⟩,by simp only;omega,Weak.mk (by simp (disch:=omega) only [Zc,XR,h3',go_sem,seval])⟩
      ·have hjl:j=own.length:=by omega
       subst hjl;exact ⟨(k+1,m2),⟨by simp only;omega,by simp only [hsc,e,hm2,hm,List.take_length]⟩,by simp only;omega,Weak.mk (by simp (disch:=omega) only [Zc,go_sem,seval])⟩
  ·have hkn:k=x.orders.length:=by omega
   subst hkn;exact ⟨m,hm,1,by simp (disch:=omega) only [Zc,go_sem,seval]⟩
theorem Zwr (l:List Vis) (c:Bool) (hl:l.length<=1048576):PC 149 [.p (.list c (l.map Z5))] (.list true (l.map Z5)):=by
 refine Za Tryz.func149 rfl ZqF ?_;simp (disch:=omega) only [Tryz.f149,go_sem,seval]
@[go_sem] theorem ZDR {H:List AM.Obj} {u2:TypeId} {xs:List PV} {y:V} {k:V->List AM.Obj->Prop} {tt} :Zk1 Tryz.prog H 43 u2 (.p (.list true xs)) y (Zy k tt)=pst ((Zpg (some (2,16)) xs (X8 (Tryz.prog.underlying u2) H y)).map .p) (Zy (fun v=>k v H) ⟨⟩):=ZeZ Zmt
def ZGf (nx:List Vis->List Vis):Nat->List Vis->List (List Vis)->List (List Vis)×Bool
 | 0,l,outs=>(outs++ [l],decide (outs.length+1<=8192))
 | f+1,l,outs=>(nx l).foldl (fun acc v=>if acc.2=true then ZGf nx f (l++ [v]) acc.1 else acc) (outs,true)
def Zau (x:Inst) (S k:Nat):Nat:=((List.range k).map fun i=>if S.testBit i=true then (ZV x.orders i).length else 0).sum
theorem V8 (x S k):Zau x S (k+1)=Zau x S k+if S.testBit k=true then (ZV x.orders k).length else 0:=by simp [Zau,List.range_succ]
theorem Jj (x S): ∀k,Zau x S k<=2*k
 | 0=>by simp [Zau]
 | k+1=>by
  have h1:=Jj x S k;have h2:=XO x.orders k;rw [V8]
  split<;>omega
def nHas (S:Nat) (i:Int):Bool:=decide (0<=i/\i<=62)&&S.testBit i.toNat
theorem ZdR {S i:Nat} (h:i<=62):nHas S (i:Int)=S.testBit i:=by
 have:(0:Int)<=i/\(i:Int)<=62:=by omega
 simp [nHas,this]
theorem WV (S:Nat) (i:Int) (hS:S<9223372036854775808):PC 195 [.p (.int .i64 (S:Nat)),.p (.int .i64 i)] (.bool (nHas S i)):=by
 refine Za Tryz.func195 rfl Zu0 ?_;simp (disch:=omega) only [Tryz.f195,go_sem,seval];refine gT ?_ ?_<;>intro h<;>simp (disch:=omega) only [Sh.out h,go_sem,seval]
 ·refine gT ?_ ?_<;>intro h1<;>simp (disch:=omega) only [Sh.out h1,go_sem,seval]
  ·refine gT ?_ ?_<;>intro h2<;>simp (disch:=omega) only [Sh.out h2,go_sem,seval]
   ·have e:((S / pw i.toNat:Nat):Int).tmod 2=((S / pw i.toNat%2:Nat):Int):=by rw [Int.tmod_eq_emod_of_nonneg (Int.natCast_nonneg _)];exact (Int.natCast_emod _ _).symm
    rw [e];have h3:(((S / pw i.toNat%2:Nat):Int)=1)=(S.testBit i.toNat=true):=ZcG;have h4:0<=i/\i<=62:=⟨h1,h2⟩;simp only [h3,nHas,h4,and_self,decide_true,Bool.true_and,Bool.decide_eq_true]
   ·simp [nHas,h2]
  ·simp [nHas,h1]
 ·omega
theorem Zcx (x:Inst) (i:Nat) (hi:i<x.orders.length) (hl:x.orders.length<=1048576) (hpl: ∀o∈x.orders,-1<=o.pick.place/\ -1<=o.drp.place):ACalls Tryz.prog 197 [.p (Zt x),.p (.int .i64 (i:Nat))] [] fun y H'=>y= .sl 0 0 (ZV x.orders i).length (ZV x.orders i).length/\H'= [.elems 2 ((ZV x.orders i).map Z5)]:=by
 suffices hh:ACalls Tryz.prog 197 [.p (Zt x),.p (.int .i64 (i:Nat))] [] fun y H'=> ∃m:List Vis,m=ZV x.orders i/\y= .sl 0 0 m.length m.length/\H'= [.elems 2 (m.map Z5)] by
  refine hh.mono ?_;rintro x H' ⟨m,rfl,h1,h2⟩;exact ⟨h1,h2⟩
 obtain ⟨h1,h2⟩:=hpl _ (Zp hi);refine Zx [2] Tryz.func197 rfl Zqi ?_;simp (disch:=omega) only [Tryz.f197,go_sem,seval];refine Zm (Weak.ofNil 5 2 (by simp (disch:=omega) only [go_sem,seval]) (by simp) (Weak.refl _ _ _)) ?_;refine Zo [1,2] (fun m:List Vis=> [(5,.sl 1 0 m.length m.length)]) (fun m=> [Zc x,.elems 2 (m.map Z5)]) (fun m=>m=(if 0<=(nth x.orders i).pick.place then [⟨i,false⟩] else [])) ?_ ?_
 ·simp (disch:=omega) only [go_sem,seval];refine cD ?_ ?_<;>intro h<;>simp (disch:=omega) only [Sh.out h,go_sem,seval]
  ·exact ⟨[⟨i,false⟩],by rw [if_pos (by omega)],Weak.mk (by simp (disch:=omega) only [Zc,go_sem,seval])⟩
  ·exact ⟨[],by rw [if_neg (by omega)],Weak.mk (by simp (disch:=omega) only [Zc,go_sem,seval])⟩
 ·intro m hm
  have hml:m.length<=1:=by rw [hm];split<;>simp
  refine Zd [] _ _ _ _ ?_;simp (disch:=omega) only [Zc,go_sem,seval];refine cD ?_ ?_<;>intro h<;>simp (disch:=omega) only [Sh.out h,go_sem,seval]
  ·exact ⟨m++ [⟨i,true⟩],by rw [ZV,hm,if_pos (c:=0<=(nth x.orders i).drp.place) (by omega)],1,by simp (disch:=omega) only [go_sem,seval]⟩
  ·exact ⟨m,by rw [ZV,hm,if_neg (c:=0<=(nth x.orders i).drp.place) (by omega),List.append_nil],1,by simp (disch:=omega) only [go_sem,seval]⟩
theorem QZ (x:Inst) (i:Nat) (hi:i<x.orders.length) (hl:x.orders.length<=1048576) (hpl: ∀o∈x.orders,-1<=o.pick.place/\ -1<=o.drp.place):PC 197 [.p (Zt x),.p (.int .i64 (i:Nat))] (.list false ((ZV x.orders i).map Z5)) :=
 (Zcx x i hi hl hpl).frozen (by simp)
theorem Wj (l:List Vis) (c:Bool) (v:Vis) (hl:l.length<=1048576):PC 198 [.p (.list c (l.map Z5)),.p (Z5 v)] (.int .i64 (vIx l v)):=by
 refine Za Tryz.func198 rfl ZqK ?_;simp (disch:=omega) only [Tryz.f198,go_sem,seval];refine Zf [0,3] (fun k:Nat=> [(5,.p (.int .i64 k))]) (fun _=> [YS v]) (fun k=>k<=l.length/\ ∀j,j<k->decide (v=nth l j)=false) (fun k=>l.length-k) 0 (by simp) (Weak.mk ?_) ?_
 ·simp (disch:=omega) only [YS,go_sem,seval]
 ·rintro k ⟨hk,hno⟩;simp (disch:=omega) only [YS,go_sem,seval];refine cD ?_ ?_<;>intro h<;>simp (disch:=omega) only [Sh.out h,go_sem,seval]
  ·have hk2:k<l.length:=by omega
   refine Zg mixed (by kernel_rfl) (by kernel_rfl) ?_;simp (disch:=omega) only [go_sem,seval];refine cD ?_ ?_<;>intro h2<;>simp (disch:=omega) only [Sh.out h2,go_sem,seval]
   ·have:v=nth l k:=Eq.symm (by rw [UZ];simpa using h2);rw [vIx,ZdC hk2 (by simpa using this) hno]
   ·have: ¬v=nth l k:=fun e=>by rw [<- e] at h2;simp at h2
    exact ⟨k+1,⟨by omega,Zi.2 ⟨hno,by simpa using this⟩⟩,by omega,Weak.mk (by simp (disch:=omega) only [YS,go_sem,seval])⟩
  ·have hkl:k=l.length:=by omega
   subst hkl;rw [vIx,Zh8 hno]
theorem Q2 (l s:List Vis) (c d:Bool) (hl:l.length<=1048576) (hs:s.length<=1048576):PC 226 [.p (.list c (l.map Z5)),.p (.list d (s.map Z5))] (.bool (YR l s)):=by
 refine Za Tryz.func226 rfl Zsx ?_;simp (disch:=omega) only [Tryz.f226,go_sem,seval];refine Zf [0,1] (fun k:Nat=> [(5,.p (.int .i64 k))]) (fun _=> []) (fun k=>k<=s.length/\ ∀j,j<k->decide (0<=vIx l (nth s j))=true) (fun k=>s.length-k) 0 (by simp) (Weak.mk ?_) ?_
 ·simp (disch:=omega) only [go_sem,seval]
 ·rintro k ⟨hk,hno⟩;simp (disch:=omega) only [go_sem,seval];refine cD ?_ ?_<;>intro h<;>simp (disch:=omega) only [Sh.out h,go_sem,seval]
  ·have hk2:k<s.length:=by omega
   refine (Wj l c (nth s k) hl).use ?_;simp (disch:=omega) only [go_sem,seval];refine cD ?_ ?_<;>intro h2<;>simp (disch:=omega) only [Sh.out h2,go_sem,seval]
   ·have:YR l s=false:=by rw [YR,List.all_eq_false];exact ⟨nth s k,Zp hk2,by simp;omega⟩
    rw [this]
   ·exact ⟨k+1,⟨by omega,Zi.2 ⟨hno,by simp;omega⟩⟩,by omega,wk⟩
  ·have hkl:k=s.length:=by omega
   subst hkl
   have:YR l s=true:=by
    rw [YR,List.all_eq_true];intro w hw;obtain ⟨j,hj,rfl⟩:=List.mem_iff_getElem.1 hw;rw [<- Ze hj];exact hno j hj
   rw [this]
theorem Zj7 (a b:Vis):PC 232 [.p (Z5 a),.p (Z5 b)] (.bool (decide (ZcZ a b<0))):=by
 refine Za Tryz.func232 rfl Zrg ?_;simp (disch:=omega) only [Tryz.f232,go_sem,seval]
 repeat' (first | (refine ZO (fun hq=> ?_) (fun hq=> ?_)<;>(try simp only [decide_eq_true_eq,decide_eq_false_iff_not,Classical.not_not] at hq)<;>simp (disch:=omega) only [Sh.out hq,go_sem,seval]) | (refine ZQ (fun hq=> ?_) (fun hq=> ?_)<;>(try simp only [decide_eq_true_eq,decide_eq_false_iff_not,Classical.not_not] at hq)<;>simp (disch:=omega) only [Sh.out hq,go_sem,seval]) | (refine Z6 (fun hq=> ?_) (fun hq=> ?_)<;>(try simp only [decide_eq_true_eq,decide_eq_false_iff_not,Classical.not_not] at hq)<;>simp (disch:=omega) only [Sh.out hq,go_sem,seval]))
 ·have:ZcZ a b<0:=by simp [ZcZ,Uq,hq]
  simp [this]
 ·rename_i h1 h2
  have ha:a.drp=false:=by simpa using hq
  cases hb:b.drp<;>simp [ZcZ,Uq,dn,h2,ha,hb]
 ·rename_i h1 h2
  have ha:a.drp=true:=by simpa using hq
  cases hb:b.drp<;>simp [ZcZ,Uq,dn,h2,ha,hb]
 ·rename_i h1
  have h2:b.order<a.order:=by omega
  have: ¬ZcZ a b<0:=by simp [ZcZ,Uq,h1,h2]
  simp [this]
theorem VR {a b:Int} :Uq a b=0↔a=b:=by unfold Uq;split<;>(try split)<;>omega
theorem Zro {a b:Vis} :dn a=dn b↔a.drp=b.drp:=by unfold dn;cases a.drp<;>cases b.drp<;>simp
theorem ZbQ {a b:Vis} :ZcZ a b=0↔a=b:=by
 unfold ZcZ;rw [UZ]
 split
 ·rename_i h;rw [VR] at h;rw [VR,Zro];simp [h]
 ·rename_i h;rw [VR] at h;simp [h];exact fun e=>h (VR.1 e)
theorem ZnT (a b:List Vis) (c d:Bool) (ha:a.length<=1048576) (hb:b.length<=1048576):PC 200 [.p (.list c (a.map Z5)),.p (.list d (b.map Z5))] (.bool (decide (Zc4 a b<0))):=by
 refine Za Tryz.func200 rfl Zv5 ?_;simp (disch:=omega) only [Tryz.f200,go_sem,seval];refine Zf [0,1] (fun k:Nat=> [(5,.p (.int .i64 k))]) (fun _=> []) (fun k=>k<=a.length/\k<=b.length/\Zc4 a b=Zc4 (a.drop k) (b.drop k)) (fun k=>a.length-k) 0 (by simp) (Weak.mk ?_) ?_
 ·simp (disch:=omega) only [go_sem,seval]
 ·rintro k ⟨hk,hkb,hle⟩;simp (disch:=omega) only [go_sem,seval];refine gT ?_ ?_<;>intro h<;>simp (disch:=omega) only [Sh.out h,go_sem,seval]
  ·refine cD ?_ ?_<;>intro h2<;>simp (disch:=omega) only [Sh.out h2,go_sem,seval]
   ·have hk2:k<a.length:=by omega
    have hk3:k<b.length:=by omega
    rw [Wc hk2,Wc hk3,Zc4] at hle;refine Zg mixed (by kernel_rfl) (by kernel_rfl) ?_;simp (disch:=omega) only [go_sem,seval];refine cD ?_ ?_<;>intro h3<;>simp (disch:=omega) only [Sh.out h3,go_sem,seval]
    ·have hne:ZcZ (nth a k) (nth b k)≠0:=fun e=>by
      have e2:=ZbQ.1 e;rw [e2] at h3;simp at h3
     refine Zg mixed (by kernel_rfl) (by kernel_rfl) ?_;simp (disch:=omega) only [go_sem,seval];refine Zj (Zj7 (nth a k) (nth b k)) ?_;simp (disch:=omega) only [go_sem,seval];rw [hle,if_neg hne]
    ·have e2:nth a k=nth b k:=by
      rw [UZ];simpa using h3
     exact ⟨k+1,⟨by omega,by omega,by rw [hle,if_pos (ZbQ.2 e2)]⟩,by omega,wk⟩
   ·have:b.drop k= []:=List.drop_eq_nil_of_le (by omega);rw [hle,this,Wc (by omega)]
    have: ¬a.length<b.length:=by omega
    simp [Zc4];omega
  ·have:a.drop k= []:=List.drop_eq_nil_of_le (by omega);rw [hle,this]
   cases hb:b.drop k with
   | nil =>
    have:b.length<=k:=List.drop_eq_nil_iff.1 hb;simp [Zc4];omega
   | cons x r =>
    have:k<b.length:=by
     rcases Nat.lt_or_ge k b.length with h4 | h4
     ·exact h4
     ·rw [List.drop_eq_nil_of_le h4] at hb;cases hb
    simp [Zc4];omega
theorem Zh2 {S n:Nat} (h:S.testBit n=true):S|||pw n=S:=by
 apply Nat.eq_of_testBit_eq;intro i;rw [Nat.testBit_or,WW]
 by_cases h2:n=i
 ·subst h2;simp [h]
 ·simp [h2]
theorem Zka {S n:Nat} (h:S.testBit n=false):S|||pw n=S+pw n:=by
 have e:S%2^(n+1)=S%2^n+2^n*(S / 2^n%2):=Nat.mod_pow_succ;rw [Nat.testBit_eq_decide_div_mod_eq] at h
 have h0:S / 2^n%2=0:=by simp at h;omega
 rw [h0,Nat.mul_zero,Nat.add_zero] at e;have hp:0<2^n:=Nat.two_pow_pos n
 have hs:2^(n+1)=2^n+2^n:=by rw [Nat.pow_succ];omega
 have r1:S%2^(n+1)<2^n:=by rw [e];exact Nat.mod_lt _ hp
 have e1:=Nat.two_pow_add_eq_or_of_lt (i:=n) r1 1;have e2:=Nat.two_pow_add_eq_or_of_lt (i:=n+1) (b:=2^n*1+S%2^(n+1)) (by omega) (S / 2^(n+1));have e3:=Nat.two_pow_add_eq_or_of_lt (i:=n+1) (b:=S%2^(n+1)) (by omega) (S / 2^(n+1));have e4:=Nat.div_add_mod S (2^(n+1));rw [pw]
 calc S|||2^n=(2^(n+1)*(S / 2^(n+1))+S%2^(n+1))|||2^n:=by rw [e4]
  _=2^(n+1)*(S / 2^(n+1))|||(2^n*1|||S%2^(n+1)):=by rw [e3,Nat.or_assoc,Nat.mul_one,Nat.or_comm (2^n)]
  _=2^(n+1)*(S / 2^(n+1))+(2^n*1+S%2^(n+1)):=by rw [<- e1,<- e2]
  _=S+2^n:=by omega
theorem ZaN (r:Rte) (hl:r.visits.length<=1048576):PT 152 [.p (Wr r)] [.p (.int .i64 (JH r.visits).1),.p (.int .i64 (JH r.visits).2)]:=by
 refine Zb [] Tryz.func152 rfl Zs2 ?_;simp (disch:=omega) only [Tryz.f152,go_sem,seval];refine Zf [1] (fun k:Nat=> [(4,.p (.int .i64 (Yd (r.visits.take k):Nat))),(5,.p (.int .i64 k))]) (fun _=> [ZB r]) (fun k=>k<=r.visits.length/\ ∀j,j<k->inS (nth r.visits j)=true) (fun k=>r.visits.length-k) 0 (by simp) (Weak.mk ?_) ?_
 ·simp (disch:=omega) only [ZB,Yd,List.take_zero,List.foldl_nil,go_sem,seval]
 ·rintro k ⟨hk,hno⟩
  have hlt:=UK k hk fun v hv=>by
   obtain ⟨j,hj,rfl⟩:=List.mem_iff_getElem.1 hv;simp at hj;rw [List.getElem_take,<- Ze (by omega)];exact hno j (by omega)
  simp (disch:=omega) only [ZB,go_sem,seval];refine cD ?_ ?_<;>intro h<;>simp (disch:=omega) only [Sh.out h,go_sem,seval]
  ·have hk2:k<r.visits.length:=by omega
   have hbad:inS (nth r.visits k)=false->JH r.visits=(0,2):=fun h4=>by
    have:r.visits.all inS=false:=by rw [List.all_eq_false];exact ⟨nth r.visits k,Zp hk2,by rw [h4];simp⟩
    simp [JH,this]
   have hs:=QD hk2
   have hp:(nth r.visits k).order<=62->pw (nth r.visits k).order.toNat<=4611686018427387904:=fun h=>by rw [<- Zb5];exact U5 (by omega)
   refine gF ?_ ?_<;>intro h1<;>simp (disch:=omega) only [Sh.out h1,go_sem,seval]
   ·have e:=hbad (by simp [inS];omega);rw [e];exact we
   ·refine cD ?_ ?_<;>intro h2<;>simp (disch:=omega) only [Sh.out h2,go_sem,seval]
    ·have e:=hbad (by simp [inS];omega);rw [e];exact we
    ·have h4:=hp (by omega);refine (WV (Yd (r.visits.take k)) (nth r.visits k).order hlt).use ?_;simp (disch:=omega) only [go_sem,seval]
     have hin:0<=(nth r.visits k).order/\(nth r.visits k).order<=62:=by omega
     have hnh:nHas (Yd (r.visits.take k)) (nth r.visits k).order=(Yd (r.visits.take k)).testBit (nth r.visits k).order.toNat:=by simp [nHas,hin]
     rw [hnh];have hno2:=(Zi (p:=fun j=>inS (nth r.visits j)=true)).2 ⟨hno,by simp [inS];omega⟩
     have hlt2:=UK (k+1) hk2 fun v hv=>by
      obtain ⟨j,hj,rfl⟩:=List.mem_iff_getElem.1 hv;simp at hj;rw [List.getElem_take,<- Ze (by omega)];exact hno2 j (by omega)
     refine cD ?_ ?_<;>intro h5<;>simp (disch:=omega) only [Sh.out h5,go_sem,seval]
     ·have h6:(Yd (r.visits.take k)).testBit (nth r.visits k).order.toNat=false:=by simpa using h5
      rw [Zka h6] at hs;rw [hs] at hlt2;exact ⟨k+1,⟨by omega,hno2⟩,by omega,Weak.mk (by simp (disch:=omega) only [ZB,hs,Int.natCast_add,go_sem,seval])⟩
     ·have h6:(Yd (r.visits.take k)).testBit (nth r.visits k).order.toNat=true:=by simpa using h5
      rw [Zh2 h6] at hs;exact ⟨k+1,⟨by omega,hno2⟩,by omega,Weak.mk (by simp (disch:=omega) only [ZB,hs,go_sem,seval])⟩
  ·have hkl:k=r.visits.length:=by omega
   subst hkl
   have:r.visits.all inS=true:=by
    rw [List.all_eq_true];intro v hv;obtain ⟨j,hj,rfl⟩:=List.mem_iff_getElem.1 hv;rw [<- Ze hj];exact hno j hj
   have e:JH r.visits=(((Yd r.visits:Nat):Int),0):=by simp [JH,this]
   rw [e,List.take_length];exact we
def Plc (x:Inst):Prop:= ∀o∈x.orders,-1<=o.pick.place/\ -1<=o.drp.place
theorem Zof {l:List Vis} {v w:Vis} (h:vIx l v=vIx l w) (h0:0<=vIx l v):v=w:=by
 unfold vIx fIx at h h0
 cases hv:l.findIdx? (fun u=>decide (v=u)) with
 | none=>rw [hv] at h0;simp at h0
 | some i =>
  rw [hv] at h
  cases hw:l.findIdx? (fun u=>decide (w=u)) with
  | none=>rw [hw] at h;simp at h
  | some j =>
   rw [hw] at h
   have hij:i=j:=by simp at h;omega
   subst hij;rw [List.findIdx?_eq_some_iff_getElem] at hv hw;obtain ⟨h1,h2,_⟩:=hv;obtain ⟨_,h4,_⟩:=hw;simp at h2 h4;rw [h2,h4]
theorem W2 (os:List Ord) (i:Nat):ZV os i= []\/ZV os i= [⟨i,false⟩]\/ZV os i= [⟨i,true⟩]\/ZV os i= [⟨i,false⟩,⟨i,true⟩]:=by
 unfold ZV;split<;>split<;>simp
theorem Zki {l own:List Vis} (ho:own= []\/(∃v,own= [v])\/ ∃v w,own= [v,w]/\v≠w) :
  JF l (-1) own=(YR l own&& !(decide (own.length=2)&&decide (vIx l (nth own 1)<vIx l (nth own 0)))):=by
 rcases ho with rfl | ⟨v,rfl⟩ | ⟨v,w,rfl,hne⟩
 ·rfl
 ·have:= @ZfY l v
  by_cases h:0<=vIx l v
  ·have: -1<vIx l v:=by omega
   simp [JF,YR,h,this]
  ·have: ¬ -1<vIx l v:=by omega
   simp [JF,YR,h,this]
 ·have hne2:0<=vIx l v->vIx l v≠vIx l w:=fun h0 h=>hne (Zof h h0);have h1:= @ZfY l v;have h2:= @ZfY l w;rw [Bool.eq_iff_iff];simp [JF,YR,nth];omega
theorem ZdD (os:List Ord) (i:Nat):ZV os i= []\/(∃v,ZV os i= [v])\/ ∃v w,ZV os i= [v,w]/\v≠w:=by
 rcases W2 os i with h | h | h | h
 ·exact .inl h
 ·exact .inr (.inl ⟨_,h⟩)
 ·exact .inr (.inl ⟨_,h⟩)
 ·exact .inr (.inr ⟨_,_,h,by simp⟩)
theorem Zbf {α:Type} [Inhabited α] {l:List α} {f:α->Bool} {k:Nat} (hk:k<l.length) (h:f (nth l k)=false):l.all f=false:=by
 rw [List.all_eq_false];exact ⟨nth l k,Zp hk,by rw [h];simp⟩
theorem Zcf {α:Type} [Inhabited α] {l:List α} {f:α->Bool} (h: ∀j,j<l.length->f (nth l j)=true):l.all f=true:=by
 rw [List.all_eq_true];intro v hv;obtain ⟨j,hj,rfl⟩:=List.mem_iff_getElem.1 hv;rw [<- Ze hj];exact h j hj
theorem ZhZ (x:Inst) (l:List Vis) (c:Bool) (hl:l.length<=1048576) (ho:x.orders.length<=1048576) (hp:Plc x) (hv: ∀v∈l,0<=v.order/\v.order<x.orders.length) :
  PC 243 [.p (Zt x),.p (.list c (l.map Z5))] (.bool (l.all (pairB x.orders l))):=by
 refine Za Tryz.func243 rfl Zwd ?_;simp (disch:=omega) only [Tryz.f243,go_sem,seval];refine Zf [1,2] (fun k:Nat=> [(5,.p (.int .i64 k))]) (fun _=> [Zc x]) (fun k=>k<=l.length/\ ∀j,j<k->pairB x.orders l (nth l j)=true) (fun k=>l.length-k) 0 (by simp) (Weak.mk ?_) ?_
 ·simp (disch:=omega) only [Zc,go_sem,seval]
 ·rintro k ⟨hk,hno⟩;simp (disch:=omega) only [Zc,go_sem,seval];refine cD ?_ ?_<;>intro h<;>simp (disch:=omega) only [Sh.out h,go_sem,seval]
  ·have hk2:k<l.length:=by omega
   obtain ⟨v1,v2⟩:=hv _ (Zp hk2);obtain ⟨i,hi⟩: ∃i:Nat,(nth l k).order=(i:Int):=⟨(nth l k).order.toNat,by omega⟩;rw [hi] at v1 v2
   have hpb:pairB x.orders l (nth l k)=(decide (0<=vIx (ZV x.orders i) (nth l k))&&JF l (-1) (ZV x.orders i)):=by rw [pairB,hi];rfl
   have hown:=ZdD x.orders i;rw [Zki hown] at hpb;refine Zg mixed (by kernel_rfl) (by kernel_rfl) ?_;simp (disch:=omega) only [hi,go_sem,seval];refine Zj (QZ x i (by omega) ho hp) ?_;simp (disch:=omega) only [go_sem,seval];have hvl:=XO x.orders i;generalize ZV x.orders i=own at hvl hpb;have hix:=Wj own false (nth l k) (by omega);rw [Zf5,hi] at hix;refine Zg mixed (by kernel_rfl) (by kernel_rfl) ?_;simp (disch:=omega) only [hi,go_sem,seval];refine Zj (hix) ?_;simp (disch:=omega) only [go_sem,seval];refine gF ?_ ?_<;>intro h2<;>simp (disch:=omega) only [Sh.out h2,go_sem,seval]
   ·have h3: ¬ 0<=vIx own (nth l k):=by omega
    rw [Zbf hk2 (by rw [hpb];simp [h3])]
   ·have h3:0<=vIx own (nth l k):=by omega
    have hgo:pairB x.orders l (nth l k)=true-> ∀j,j<k+1->pairB x.orders l (nth l j)=true:=fun e=>Zi.2 ⟨hno,e⟩;refine Zj (Q2 l own c false hl (by omega)) ?_;simp (disch:=omega) only [go_sem,seval];refine gF ?_ ?_<;>intro h4<;>simp (disch:=omega) only [Sh.out h4,go_sem,seval]
    ·have h5:YR l own=false:=by simpa using h4
     rw [Zbf hk2 (by rw [hpb,h5];simp)]
    ·have h5:YR l own=true:=by simpa using h4
     rw [h5] at hpb;refine gT ?_ ?_<;>intro h6<;>simp (disch:=omega) only [Sh.out h6,go_sem,seval]
     ·have h7:own.length=2:=by omega
      refine Zj (Wj l c (nth own 0) hl) ?_;simp (disch:=omega) only [go_sem,seval];refine Zj (Wj l c (nth own 1) hl) ?_;simp (disch:=omega) only [go_sem,seval];refine cD ?_ ?_<;>intro h8<;>simp (disch:=omega) only [Sh.out h8,go_sem,seval]
      ·rw [Zbf hk2 (by rw [hpb];simp [h7,h8])]
      ·exact ⟨k+1,⟨by omega,hgo (by rw [hpb];simp [h3];omega)⟩,by omega,Weak.mk (by simp (disch:=omega) only [Zc,go_sem,seval])⟩
     ·exact ⟨k+1,⟨by omega,hgo (by rw [hpb];simp [h3];omega)⟩,by omega,Weak.mk (by simp (disch:=omega) only [Zc,go_sem,seval])⟩
  ·have hkl:k=l.length:=by omega
   subst hkl;rw [Zcf hno]
def apB (x:Inst) (S:Nat):Bool:=x.apart.any fun p=>nHas S p.1&&nHas S p.2
theorem ZlD (x:Inst) (S:Nat) (hS:S<9223372036854775808) (ha:x.apart.length<=1048576):PC 244 [.p (Zt x),.p (.int .i64 (S:Nat))] (.bool (!apB x S)):=by
 refine Za Tryz.func244 rfl Zun ?_;simp (disch:=omega) only [Tryz.f244,go_sem,seval];refine Zf [1,2] (fun k:Nat=> [(5,.p (.int .i64 k))]) (fun _=> [Zc x]) (fun k=>k<=x.apart.length/\ ∀j,j<k->(nHas S (nth x.apart j).1&&nHas S (nth x.apart j).2)=false) (fun k=>x.apart.length-k) 0 (by simp) (Weak.mk ?_) ?_
 ·simp (disch:=omega) only [Zc,go_sem,seval]
 ·rintro k ⟨hk,hno⟩;simp (disch:=omega) only [Zc,go_sem,seval];refine cD ?_ ?_<;>intro h<;>simp (disch:=omega) only [Sh.out h,go_sem,seval]
  ·have hk2:k<x.apart.length:=by omega
   refine (WV S (nth x.apart k).1 hS).use ?_;simp (disch:=omega) only [go_sem,seval];refine gT ?_ ?_<;>intro h2<;>simp (disch:=omega) only [Sh.out h2,go_sem,seval]
   ·refine (WV S (nth x.apart k).2 hS).use ?_;simp (disch:=omega) only [go_sem,seval];refine cD ?_ ?_<;>intro h3<;>simp (disch:=omega) only [Sh.out h3,go_sem,seval]
    ·have:apB x S=true:=Yx hk2 (by rw [h2,h3];rfl);rw [this];rfl
    ·exact ⟨k+1,⟨by omega,Zi.2 ⟨hno,by rw [h2,h3];rfl⟩⟩,by omega,Weak.mk (by simp (disch:=omega) only [Zc,go_sem,seval])⟩
   ·exact ⟨k+1,⟨by omega,Zi.2 ⟨hno,by rw [h2];rfl⟩⟩,by omega,Weak.mk (by simp (disch:=omega) only [Zc,go_sem,seval])⟩
  ·have hkl:k=x.apart.length:=by omega
   subst hkl;have:apB x S=false:=Vl hno;rw [this];rfl
def U9 (l:List Vis) (a b:Int) (j k:Nat):Bool:=decide ((nth l j).order=a)&&decide ((nth l k).order=b)
def V4 (S:Nat) (l:List Vis) (p:Int×Int):Bool:= !nHas S p.2||(nHas S p.1&&(List.range l.length).all fun j=>(List.range j).all fun k=> !U9 l p.1 p.2 j k)
theorem Zhe (x:Inst) (S:Nat) (l:List Vis) (c:Bool) (hS:S<9223372036854775808) (hl:l.length<=1048576) (hb:x.before.length<=1048576):PC 245 [.p (Zt x),.p (.int .i64 (S:Nat)),.p (.list c (l.map Z5))] (.bool (x.before.all (V4 S l))):=by
 refine Za Tryz.func245 rfl ZvZ ?_;simp (disch:=omega) only [Tryz.f245,go_sem,seval];refine Zf [1,2,3] (fun k:Nat=> [(7,.p (.int .i64 k))]) (fun _=> [Zc x]) (fun k=>k<=x.before.length/\ ∀j,j<k->V4 S l (nth x.before j)=true) (fun k=>x.before.length-k) 0 (by simp) (Weak.mk ?_) ?_
 ·simp (disch:=omega) only [Zc,go_sem,seval]
 ·rintro i ⟨hi,hno⟩;simp (disch:=omega) only [Zc,go_sem,seval];refine cD ?_ ?_<;>intro h<;>simp (disch:=omega) only [Sh.out h,go_sem,seval]
  ·have hi2:i<x.before.length:=by omega
   have hgo:V4 S l (nth x.before i)=true-> ∀j,j<i+1->V4 S l (nth x.before j)=true:=fun e=>Zi.2 ⟨hno,e⟩;have hbad:V4 S l (nth x.before i)=false->x.before.all (V4 S l)=false:=fun e=>Zbf hi2 e;have hdef:V4 S l (nth x.before i)=(!nHas S (nth x.before i).2||(nHas S (nth x.before i).1&&(List.range l.length).all fun j=>(List.range j).all fun k=> !U9 l (nth x.before i).1 (nth x.before i).2 j k)):=rfl;generalize V4 S l (nth x.before i)=R at hgo hbad hdef;generalize nth x.before i=p at hdef ⊢;refine (WV S p.2 hS).use ?_;simp (disch:=omega) only [go_sem,seval]
   refine cD ?_ ?_<;>intro h2<;>simp (disch:=omega) only [Sh.out h2,go_sem,seval]
   ·have h3:nHas S p.2=false:=by simpa using h2
    exact ⟨i+1,⟨by omega,hgo (by rw [hdef,h3];rfl)⟩,by omega,Weak.mk (by simp (disch:=omega) only [Zc,go_sem,seval])⟩
   ·have h3:nHas S p.2=true:=by simpa using h2
    refine (WV S p.1 hS).use ?_;simp (disch:=omega) only [go_sem,seval];refine cD ?_ ?_<;>intro h4<;>simp (disch:=omega) only [Sh.out h4,go_sem,seval]
    ·have h5:nHas S p.1=false:=by simpa using h4
     rw [hbad (by rw [hdef,h3,h5];rfl)]
    ·have h5:nHas S p.1=true:=by simpa using h4
     rw [h3,h5] at hdef;simp only [Bool.not_true,Bool.false_or,Bool.true_and] at hdef;refine Zf [1,2,3,7,8,9] (fun k:Nat=> [(10,.p (.int .i64 k))]) (fun _=> [Zc x]) (fun k=>k<=l.length/\ ∀j,j<k-> ∀q,q<j->U9 l p.1 p.2 j q=false) (fun k=>l.length-k) 0 (by simp) (Weak.mk ?_) ?_
     ·simp (disch:=omega) only [Zc,go_sem,seval]
     ·rintro j ⟨hj,hnj⟩;simp (disch:=omega) only [Zc,go_sem,seval];refine cD ?_ ?_<;>intro h6<;>simp (disch:=omega) only [Sh.out h6,go_sem,seval]
      ·have hj2:j<l.length:=by omega
       refine Zf [1,2,3,7,8,9,10] (fun k:Nat=> [(11,.p (.int .i64 k))]) (fun _=> [Zc x]) (fun k=>k<=j/\ ∀q,q<k->U9 l p.1 p.2 j q=false) (fun k=>j-k) 0 (by simp) (Weak.mk ?_) ?_
       ·simp (disch:=omega) only [Zc,go_sem,seval]
       ·rintro k ⟨hk,hnk⟩;simp (disch:=omega) only [Zc,go_sem,seval];refine cD ?_ ?_<;>intro h7<;>simp (disch:=omega) only [Sh.out h7,go_sem,seval]
        ·have hk2:k<j:=by omega
         refine gT ?_ ?_<;>intro h8<;>simp (disch:=omega) only [Sh.out h8,go_sem,seval]
         ·refine cD ?_ ?_<;>intro h9<;>simp (disch:=omega) only [Sh.out h9,go_sem,seval]
          ·rw [hbad (by
            rw [hdef,List.all_eq_false];refine ⟨j,by simpa using hj2,?_⟩;rw [Bool.not_eq_true,List.all_eq_false]
            exact ⟨k,by simpa using hk2,by simp [U9,h8,h9]⟩)]
          ·exact ⟨k+1,⟨by omega,Zi.2 ⟨hnk,by simp [U9,h9]⟩⟩,by omega,Weak.mk (by simp (disch:=omega) only [Zc,go_sem,seval])⟩
         ·exact ⟨k+1,⟨by omega,Zi.2 ⟨hnk,by simp [U9,h8]⟩⟩,by omega,Weak.mk (by simp (disch:=omega) only [Zc,go_sem,seval])⟩
        ·have hkl:k=j:=by omega
         subst hkl;exact ⟨k+1,⟨by omega,(Zi (p:=fun j=> ∀q,q<j->U9 l p.1 p.2 j q=false)).2 ⟨hnj,hnk⟩⟩,by omega,Weak.mk (by simp (disch:=omega) only [Zc,go_sem,seval])⟩
      ·have hjl:j=l.length:=by omega
       subst hjl;refine ⟨i+1,⟨by omega,hgo ?_⟩,by omega,Weak.mk (by simp (disch:=omega) only [Zc,go_sem,seval])⟩;rw [hdef,List.all_eq_true];intro j hj;rw [List.all_eq_true];intro k hk;simp at hj hk;simp [hnj j hj k hk]
  ·have hkl:i=x.before.length:=by omega
   subst hkl;rw [Zcf hno]
theorem ZkJ (x:Inst) (i:Nat) (l:List Vis) (c:Bool) (hl:l.length<=1048576) (ho:x.orders.length<=1048576) (hbl:x.before.length<=1048576) (hp:Plc x) (hb: ∀p∈x.before,0<=p.1/\p.1<x.orders.length) (hi:i<=1048576) :
  PC 196 [.p (Zt x),.p (.int .i64 (i:Nat)),.p (.list c (l.map Z5))] (.bool (x.before.all (ZbN x.orders l (i:Int)))):=by
 refine Za Tryz.func196 rfl Zru ?_;simp (disch:=omega) only [Tryz.f196,go_sem,seval];refine Zf [1,2,3] (fun k:Nat=> [(7,.p (.int .i64 k))]) (fun _=> [Zc x]) (fun k=>k<=x.before.length/\ ∀j,j<k->ZbN x.orders l (i:Int) (nth x.before j)=true) (fun k=>x.before.length-k) 0 (by simp) (Weak.mk ?_) ?_
 ·simp (disch:=omega) only [Zc,go_sem,seval]
 ·rintro k ⟨hk,hno⟩;simp (disch:=omega) only [Zc,go_sem,seval];refine cD ?_ ?_<;>intro h<;>simp (disch:=omega) only [Sh.out h,go_sem,seval]
  ·have hk2:k<x.before.length:=by omega
   obtain ⟨b1,b2⟩:=hb _ (Zp hk2);obtain ⟨a,hao⟩: ∃a:Nat,(nth x.before k).1=(a:Int):=⟨(nth x.before k).1.toNat,by omega⟩;have hva:=QZ x a (by omega) ho hp;rw [<- hao] at hva
   have hdef:ZbN x.orders l (i:Int) (nth x.before k)=(decide ((nth x.before k).2≠(i:Int))||YR l (ZV x.orders a)):=by rw [ZbN,hao];rfl
   refine gT ?_ ?_<;>intro h2<;>simp (disch:=omega) only [Sh.out h2,go_sem,seval]
   ·refine gF ?_ ?_<;>intro h3<;>simp (disch:=omega) only [Sh.out h3,go_sem,seval]
    ·omega
    ·refine gF ?_ ?_<;>intro h4<;>simp (disch:=omega) only [Sh.out h4,go_sem,seval]
     ·omega
     ·refine (hva).use ?_;simp (disch:=omega) only [go_sem,seval];have hvl:=XO x.orders a;refine (Q2 l (ZV x.orders a) c false hl (by omega)).use ?_;simp (disch:=omega) only [go_sem,seval];refine cD ?_ ?_<;>intro h5<;>simp (disch:=omega) only [Sh.out h5,go_sem,seval]
      ·have h6:YR l (ZV x.orders a)=false:=by simpa using h5
       rw [Zbf hk2 (by rw [hdef,h6,h2];simp)]
      ·have h6:YR l (ZV x.orders a)=true:=by simpa using h5
       exact ⟨k+1,⟨by omega,Zi.2 ⟨hno,by rw [hdef,h6];simp⟩⟩,by omega,Weak.mk (by simp (disch:=omega) only [Zc,go_sem,seval])⟩
   ·exact ⟨k+1,⟨by omega,Zi.2 ⟨hno,by rw [hdef];simp [h2]⟩⟩,by omega,Weak.mk (by simp (disch:=omega) only [Zc,go_sem,seval])⟩
  ·have hkl:k=x.before.length:=by omega
   subst hkl;rw [Zcf hno]
theorem ZdY (S:Nat) (i:Int):sHas (S:Int) i=nHas S i:=by
 by_cases h:0<=i/\i<=62
 ·obtain ⟨k,rfl⟩: ∃k:Nat,i=(k:Int):=⟨i.toNat,by omega⟩;rw [XK S k (by omega),ZdR (by omega)]
 ·have h2:nHas S i=false:=by simp only [nHas,h,decide_false,Bool.false_and]
  rw [h2,sHas]
  by_cases h3:0<=i
  ·have: ¬i<=62:=by omega
   simp [this]
  ·simp [h3]
theorem Kt {S:Nat} {i:Int} :nHas S i=true↔0<=i/\i<=62/\S.testBit i.toNat=true:=by simp [nHas,and_assoc]
theorem Zix {S n i:Nat} (h:S / pw n=0) (hi:S.testBit i=true):i<n:=by
 rcases Nat.lt_or_ge i n with h2 | h2
 ·exact h2
 ·have h3:S<2^n:=by
   have:=(Nat.div_eq_zero_iff).1 h;rcases this with h4 | h4
   ·have:=Kh n;omega
   ·exact h4
  have h5:S<2^i:=Nat.lt_of_lt_of_le h3 (Nat.pow_le_pow_right (by omega) h2);rw [Nat.testBit_lt_two_pow h5] at hi
  cases hi
theorem WQ {S:Nat} {a:Int} :a∈XS (S:Int) 63↔ ∃i:Nat,a=(i:Int)/\i<63/\S.testBit i=true:=by
 simp only [XS,List.mem_map,List.mem_filter,List.mem_range]
 constructor
 ·rintro ⟨i,⟨h1,h2⟩,rfl⟩;rw [XK S i (by omega)] at h2;exact ⟨i,rfl,h1,h2⟩
 ·rintro ⟨i,rfl,h1,h2⟩;exact ⟨i,⟨h1,by rw [XK S i (by omega)];exact h2⟩,rfl⟩
structure Alw (x:Inst) (S:Nat):Prop where
 off: ∀i,i<x.orders.length->S.testBit i=true->(nth x.orders i).off=false
 apart:apB x S=false
 closed: ∀p∈x.before,nHas S p.2=true->nHas S p.1=true
 acyc: ∀i,i<x.orders.length->S.testBit i=true-> ¬Ch x.before i i
theorem Yq {c:Prop} [Decidable c] {a b:Int} (ha:a≠0):(if c then a else b)=0↔ ¬c/\b=0:=by
 by_cases h:c<;>simp [h,ha]
theorem Zc5 {x:Inst} {S:Nat} (hn:x.orders.length<=60) (hS:S / pw x.orders.length=0) (hv:Val x.orders.length x.before):Ya x.orders x.apart x.before (S:Int)=0↔Alw x S:=by
 have hlt: ∀i,S.testBit i=true->i<x.orders.length:=fun i h=>Zix hS h
 have e0: ¬(S:Int)<0:=by omega
 unfold Ya;rw [if_neg e0,Yq (by omega),Yq (by omega),Yq (by omega),Yq (by omega),Yq (by omega)];simp only [and_true]
 constructor
 ·rintro ⟨_,h2,h3,h4,h5⟩;simp only [Bool.not_eq_true] at h2 h3 h4 h5;rw [List.any_eq_false] at h2 h4 h5;refine ⟨fun i hi hb=> ?_,?_,fun p hp hb=> ?_,fun i hi hb hc=> ?_⟩
  ·have:=h2 (i:Int) (WQ.2 ⟨i,rfl,by omega,hb⟩);simpa using this
  ·rw [apB];simpa only [ZdY] using h3
  ·have:=h4 p hp;simp only [ZdY,hb,Bool.true_and,Bool.not_eq_true,Bool.not_eq_false'] at this;exact this
  ·have:=h5 (i:Int) (WQ.2 ⟨i,rfl,by omega,hb⟩);rw [Int.toNat_natCast,XK _ _ (by omega)] at this;exact this ((Y9 hv i i hi).2 hc)
 ·rintro ⟨h1,h2,h3,h4⟩;refine ⟨?_,?_,?_,?_,?_⟩
  ·simp only [Bool.not_eq_true];rw [List.any_eq_false];intro a ha;obtain ⟨i,rfl,h5,h6⟩:=WQ.1 ha;have:=hlt i h6;simp;omega
  ·simp only [Bool.not_eq_true];rw [List.any_eq_false];intro a ha;obtain ⟨i,rfl,h5,h6⟩:=WQ.1 ha;simp [h1 i (hlt i h6) h6]
  ·simp only [ZdY,Bool.not_eq_true];exact h2
  ·simp only [Bool.not_eq_true];rw [List.any_eq_false];intro p hp;simp only [ZdY]
   cases h5:nHas S p.2
   ·simp
   ·simp [h3 p hp h5]
  ·simp only [Bool.not_eq_true];rw [List.any_eq_false];intro a ha;obtain ⟨i,rfl,h5,h6⟩:=WQ.1 ha;rw [Int.toNat_natCast,XK _ _ (by omega),Y9 hv i i (hlt i h6)];exact h4 i (hlt i h6) h6
theorem ZbP {f g:Nat->Bool} {b:Nat} : ∀(l:List Nat),(∀a,f a=true->g a=true)->f b=false->g b=true->b∈l->(l.filter f).length<(l.filter g).length
 | [],_,_,_,h=>by simp at h
 | x::l,hfg,hf,hg,h=>by
  have hle: ∀l:List Nat,(l.filter f).length<=(l.filter g).length:=by
   intro l
   induction l with
   | nil=>simp
   | cons y l ih =>
    simp only [List.filter_cons]
    cases hy:f y with
    | true=>simp [hfg y hy];exact ih
    | false =>
    simp only [Bool.false_eq_true,if_false]
    split
    ·simp only [List.length_cons];omega
    ·omega
  simp only [List.filter_cons];rcases List.mem_cons.1 h with rfl | h
  ·have:=hle l;simp [hf,hg];omega
  ·have:=ZbP l hfg hf hg h
   cases hy:f x with
   | true=>simp [hfg x hy];exact this
   | false =>
    simp only [Bool.false_eq_true,if_false]
    split
    ·simp only [List.length_cons];omega
    ·omega
theorem ZfC {n:Nat} {be:List (Int×Int)} (hv:Val n be) {P:Nat->Prop} (hP: ∀i,P i->i<n/\ ¬Ch be i i) {i:Nat} (hi:P i): ∃i,P i/\ ∀p∈be,p.2=(i:Int)-> ¬P p.1.toNat:=by
 suffices h: ∀(k i:Nat),P i->((List.range n).filter fun a=>(nth (Ud n be) i).testBit a).length<k-> ∃i,P i/\ ∀p∈be,p.2=(i:Int)-> ¬P p.1.toNat from h _ i hi (Nat.lt_succ_self _)
 intro k
 induction k with
 | zero=>intro i _ h;omega
 | succ k ih =>
  intro i hi hk
  by_cases h: ∃p∈be,p.2=(i:Int)/\P p.1.toNat
  ·obtain ⟨p,hp,h1,h2⟩:=h;obtain ⟨v1,v2,v3,v4⟩:=hv p hp;have hE:Ed be p.1.toNat i:=⟨p,hp,by omega,h1⟩;refine ih p.1.toNat h2 (Nat.lt_of_lt_of_le (ZbP (b:=p.1.toNat) _ (fun a ha=> ?_) ?_ ?_ ?_) (by omega:((List.range n).filter fun a=>(nth (Ud n be) i).testBit a).length<=k))
   ·exact (Y9 hv a i (hP i hi).1).2 (((Y9 hv a _ (hP _ h2).1).1 ha).more hE)
   ·cases hb:(nth (Ud n be) p.1.toNat).testBit p.1.toNat with
    | false=>rfl
    | true=>exact absurd ((Y9 hv _ _ (hP _ h2).1).1 hb) (hP _ h2).2
   ·exact (Y9 hv _ i (hP i hi).1).2 (.one hE)
   ·simpa using (hP _ h2).1
  ·exact ⟨i,hi,fun p hp h1 h2=>h ⟨p,hp,h1,h2⟩⟩
theorem Xp {l:List Vis} {v:Vis} :0<=vIx l v↔v∈l:=by
 have:=Zhq (f:=fun w=>decide (v=w)) (l:=l)
 have h2:(l.any fun w=>decide (v=w))=true↔v∈l:=by
  rw [List.any_eq_true];exact ⟨fun ⟨w,hw,e⟩=>by simp at e;rw [e];exact hw,fun h=>⟨v,h,by simp⟩⟩
 rw [<- h2,<- this,vIx];simp
theorem ZsE {l:List Vis} {v:Vis} :vIx l v<0↔v ∉ l:=by rw [<- Xp];omega
theorem ZgR {l own:List Vis} :YR l own=true↔ ∀w∈own,w∈l:=by
 rw [YR,List.all_eq_true];exact ⟨fun h w hw=>Xp.1 (by simpa using h w hw),fun h w hw=>by simpa using Xp.2 (h w hw)⟩
theorem ZdE {os:List Ord} {l:List Vis} {o:Int} {p:Int×Int} :ZbN os l o p=true↔(p.2=o-> ∀w∈ZV os p.1.toNat,w∈l):=by
 rw [ZbN,Bool.or_eq_true,ZgR,decide_eq_true_eq]
 by_cases h:p.2=o<;>simp [h]
theorem Zkp {x:Inst} {l:List Vis} {o:Int} :x.before.all (ZbN x.orders l o)=true↔ ∀p∈x.before,p.2=o-> ∀w∈ZV x.orders p.1.toNat,w∈l:=by
 rw [List.all_eq_true];exact ⟨fun h p hp=>ZdE.1 (h p hp),fun h p hp=>ZdE.2 (h p hp)⟩
def Vne (x:Inst):Prop:= ∀i,i<x.orders.length->ZV x.orders i≠ []
theorem Zlt {l own:List Vis} (ho:own= []\/(∃v,own= [v])\/ ∃v w,own= [v,w]/\v≠w) {k:Nat} (hk:k<own.length):Zao l (nth own k) own=(decide (k=0)||decide (0<=vIx l (nth own 0))):=by
 rcases ho with rfl | ⟨v,rfl⟩ | ⟨v,w,rfl,hne⟩
 ·simp at hk
 ·have:k=0:=by simp at hk;omega
  subst this;simp [Zao,nth]
 ·have:k=0\/k=1:=by simp at hk;omega
  rcases this with rfl | rfl
  ·simp [Zao,nth]
  ·simp [Zao,nth,hne]
theorem ZhC (x:Inst) (S:Nat) (l:List Vis) (c:Bool) (hS:S<9223372036854775808) (hl:l.length<=1048576) (ho:x.orders.length<=60) (hbl:x.before.length<=1048576) (hp:Plc x) (hb: ∀p∈x.before,0<=p.1/\p.1<x.orders.length) :
  ACalls Tryz.prog 151 [.p (Zt x),.p (.int .i64 (S:Nat)),.p (.list c (l.map Z5))] [] fun y H'=> ∃m:List Vis,m=nextU x S l x.orders.length/\y= .sl 0 0 m.length m.length/\H'= [.elems 2 (m.map Z5)]:=by
 refine Zx [2] Tryz.func151 rfl Zud ?_;simp (disch:=omega) only [Tryz.f151,go_sem,seval];refine Zm (Weak.ofNil 7 2 (by simp (disch:=omega) only [go_sem,seval]) (by simp) (Weak.refl _ _ _)) ?_;refine Zd [] _ _ _ _ ?_;simp (disch:=omega) only [go_sem,seval];refine Zf [1,2,3] (fun q:Nat×List Vis=> [(7,.sl 1 0 q.2.length q.2.length),(8,.p (.int .i64 q.1))]) (fun q=> [Zc x,.elems 2 (q.2.map Z5)]) (fun q=>q.1<=x.orders.length/\q.2=nextU x S l q.1) (fun q=>x.orders.length-q.1) (0,[]) ⟨by simp,by simp [nextU]⟩ (Weak.mk ?_) ?_
 ·simp (disch:=omega) only [Zc,go_sem,seval]
 ·rintro ⟨i,m⟩ ⟨hi,hm⟩;simp only at hi hm
  have hml:m.length<=2*i:=by rw [hm];exact WE x S l i
  have hsc:=Ur x S l i;simp (disch:=omega) only [Zc,go_sem,seval];refine cD ?_ ?_<;>intro h<;>simp (disch:=omega) only [Sh.out h,go_sem,seval]
  ·have hi2:i<x.orders.length:=by omega
   have hskip:WM x S l i= []->(i+1,m).2=nextU x S l (i+1):=fun e=>by simp only [hsc,e,hm,List.append_nil]
   refine (WV S (i:Int) hS).use ?_;simp (disch:=omega) only [go_sem,seval];rw [ZdR (by omega)];refine gF ?_ ?_<;>intro h2<;>simp (disch:=omega) only [Sh.out h2,go_sem,seval]
   ·have hbit:S.testBit i=false:=by simpa using h2
    exact ⟨(i+1,m),⟨by simp only;omega,hskip (by simp [WM,hbit])⟩,by simp only;omega,Weak.mk (by simp (disch:=omega) only [Zc,go_sem,seval])⟩
   ·have hbit:S.testBit i=true:=by simpa using h2
    refine gF ?_ ?_<;>intro h3<;>simp (disch:=omega) only [Sh.out h3,go_sem,seval]
    ·exact ⟨(i+1,m),⟨by simp only;omega,hskip (by simp [WM,h3])⟩,by simp only;omega,Weak.mk (by simp (disch:=omega) only [Zc,go_sem,seval])⟩
    ·have e:WM x S l i=(ZV x.orders i).filter (Xo x l):=by simp [WM,hbit,h3]
     refine (ZkJ x i l c hl (by omega) hbl hp hb (by omega)).use ?_;simp (disch:=omega) only [go_sem,seval];refine cD ?_ ?_<;>intro h4<;>simp (disch:=omega) only [Sh.out h4,go_sem,seval]
     ·have h5:x.before.all (ZbN x.orders l (i:Int))=false:=by simpa using h4
      refine ⟨(i+1,m),⟨by simp only;omega,hskip ?_⟩,by simp only;omega,Weak.mk (by simp (disch:=omega) only [Zc,go_sem,seval])⟩;rw [e,List.filter_eq_nil_iff];intro v hv;rw [Xo,Z7 hv,h5];simp
     ·have h5:x.before.all (ZbN x.orders l (i:Int))=true:=by simpa using h4
      refine (QZ x i hi2 (by omega) hp).use ?_;simp (disch:=omega) only [go_sem,seval];have hvl:=XO x.orders i;have hvo: ∀v∈ZV x.orders i,v.order=i:=fun v hv=>Z7 hv;have htwo:=ZdD x.orders i
      have hrd: ∀k,k<(ZV x.orders i).length->Xo x l (nth (ZV x.orders i) k)=(decide (vIx l (nth (ZV x.orders i) k)<0)&&(decide (k=0)||decide (0<=vIx l (nth (ZV x.orders i) 0)))):=fun k hk=>by
       rw [Xo,hvo _ (Zp hk),h5,Bool.and_true,Int.toNat_natCast,Zlt htwo hk]
      generalize hown:ZV x.orders i=own at hvl e hvo hrd ⊢;refine Zf [1,2,3,8,9] (fun q:Nat×List Vis=> [(7,.sl 1 0 q.2.length q.2.length),(10,.p (.int .i64 q.1))]) (fun q=> [Zc x,.elems 2 (q.2.map Z5)]) (fun q=>q.1<=own.length/\q.2=m++(own.take q.1).filter (Xo x l)) (fun q=>own.length-q.1) (0,m) ⟨by simp,by simp⟩ (Weak.mk ?_) ?_
      ·simp (disch:=omega) only [Zc,go_sem,seval]
      ·rintro ⟨j,m2⟩ ⟨hj,hm2⟩;simp only at hj hm2
       have hm2l:m2.length<=2*i+2:=by
        have:=List.length_filter_le (Xo x l) (own.take j);rw [hm2,List.length_append];simp at this;omega
       simp (disch:=omega) only [Zc,go_sem,seval];refine cD ?_ ?_<;>intro h6<;>simp (disch:=omega) only [Sh.out h6,go_sem,seval]
       ·have hj2:j<own.length:=by omega
        have htk:own.take (j+1)=own.take j++ [nth own j]:=by rw [List.take_succ_eq_append_getElem hj2,Ze hj2]
        have hr:=hrd j hj2
        have hyes:Xo x l (nth own j)=true->((j+1,m2++ [nth own j]):Nat×List Vis).2=m++(own.take (j+1)).filter (Xo x l):=fun h7=>by
         simp only [htk,List.filter_append,hm2,List.append_assoc];simp [h7]
        have hno:Xo x l (nth own j)=false->((j+1,m2):Nat×List Vis).2=m++(own.take (j+1)).filter (Xo x l):=fun h7=>by
         simp only [htk,List.filter_append,hm2];simp [h7]
        refine (Wj l c (nth own j) hl).use ?_;simp (disch:=omega) only [go_sem,seval];refine gT ?_ ?_<;>intro h7<;>simp (disch:=omega) only [Sh.out h7,go_sem,seval]
        ·refine gF ?_ ?_<;>intro h8<;>simp (disch:=omega) only [Sh.out h8,go_sem,seval]
         ·exact ⟨(j+1,m2++ [nth own j]),⟨by simp only;omega,hyes (by rw [hr];simp [h7];omega)⟩,by simp only;omega,Weak.mk (by simp (disch:=omega) only [Zc,go_sem,seval])⟩
         ·refine (Wj l c (nth own 0) hl).use ?_;simp (disch:=omega) only [go_sem,seval];refine cD ?_ ?_<;>intro h9<;>simp (disch:=omega) only [Sh.out h9,go_sem,seval]
          ·exact ⟨(j+1,m2++ [nth own j]),⟨by simp only;omega,hyes (by rw [hr];simp [h7,h9])⟩,by simp only;omega,Weak.mk (by simp (disch:=omega) only [Zc,go_sem,seval])⟩
          ·exact ⟨(j+1,m2),⟨by simp only;omega,hno (by rw [hr];simp [h7];omega)⟩,by simp only;omega,Weak.mk (by simp (disch:=omega) only [Zc,go_sem,seval])⟩
        ·exact ⟨(j+1,m2),⟨by simp only;omega,hno (by rw [hr];simp [h7])⟩,by simp only;omega,Weak.mk (by simp (disch:=omega) only [Zc,go_sem,seval])⟩
       ·have hjl:j=own.length:=by omega
        subst hjl;exact ⟨(i+1,m2),⟨by simp only;omega,by simp only [hsc,e,hm2,hm,List.take_length]⟩,by simp only;omega,Weak.mk (by simp (disch:=omega) only [Zc,go_sem,seval])⟩
  ·have hkn:i=x.orders.length:=by omega
   subst hkn;exact ⟨m,hm,1,by simp (disch:=omega) only [Zc,go_sem,seval]⟩
theorem ZgE (x:Inst) (S:Nat) (l:List Vis) (c:Bool) (hS:S<9223372036854775808) (hl:l.length<=1048576) (ho:x.orders.length<=60) (hbl:x.before.length<=1048576) (hp:Plc x) (hb: ∀p∈x.before,0<=p.1/\p.1<x.orders.length) :
  PC 151 [.p (Zt x),.p (.int .i64 (S:Nat)),.p (.list c (l.map Z5))] (.list false ((nextU x S l x.orders.length).map Z5)) :=
 ACalls.frozen (S:=2) (n:=(nextU x S l x.orders.length).length) (by simp) ((ZhC x S l c hS hl ho hbl hp hb).mono fun y H' ⟨m,hm,h1,h2⟩=>by subst hm;exact ⟨h1,h2⟩)
end Go.Proofs.YthmplgaldjpgiaaGreatDoor.K
