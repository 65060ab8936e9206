/- Declarations that the closing texts need, part 13: joined by tools/slim.py. -/
import Derived.Test.YtjkkdmeebhjaiaaGreatDoorI12
set_option linter.unusedVariables false
set_option linter.unusedSimpArgs false
namespace Go.Proofs.YtjkkdmeebhjaiaaGreatDoor.K
open Go Go.AM Go.Proofs
def Xg (x:Inst) (v:Vis):Stp:=if v.drp=true then (nth x.orders v.order.toNat).drp else (nth x.orders v.order.toNat).pick
def ZS (x:Inst) (l:List Vis):List Stp:=l.map (Xg x)
def YK (t:Typ) (s:Int):Bool:=decide (0<=t.skills)&&decide (0<=s)&&(List.range 63).all fun i=> !s.toNat.testBit i||t.skills.toNat.testBit i
def Jo (a c:List Int):Bool:=decide (a.length=c.length)&&(List.range a.length).all fun i=>decide (nth a i<=nth c i)
def Qx (x:Inst) (c:List Int) (l:List Vis):Bool:=(List.range (l.length+1)).all fun n=>Jo (Wy x l n) c
def ZG (x:Inst) (r:Rte):Typ:=nth x.types r.typ.toNat
def B3 (l:List Vis) (i:Nat):Bool:= !((l.take i).any fun v=>decide (v.order=(nth l i).order))
def AQ (k t:Int):Bool:=decide (k≠ -1)&&decide (k≠t)
def chgF (x:Inst) (l:List Vis) (t:Int):Nat->Int×Int
 | 0=>(0,0)
 | n+1=>if B3 l n=true then ((chgF x l t n).1+(if AQ (nth x.orders (nth l n).order.toNat).now t=true then 1 else 0),(chgF x l t n).2+(if AQ (nth x.orders (nth l n).order.toNat).last t=true then 1 else 0)) else chgF x l t n
def EW (x:Inst) (r:Rte) (s:She):Sco :=
 ⟨(ZG x r).fixed+(ZG x r).perMile*s.miles+(ZG x r).perTick*(s.fin-(ZG x r).opn),(chgF x r.visits r.typ r.visits.length).1,(chgF x r.visits r.typ r.visits.length).2,(s.fin-(ZG x r).opn).tdiv 64*(s.fin-(ZG x r).opn).tdiv 64⟩
def Yf (x:Inst) (r:Rte):Int :=
 if ¬(0<=r.typ/\r.typ<(x.types.length:Int)) then 2
 else if ¬Xt x r.visits=0 then Xt x r.visits
 else if (r.visits.any fun v=> !YK (ZG x r) (nth x.orders v.order.toNat).skills)=true then 18
 else if Qx x (ZG x r).cap r.visits=false then 17
 else if ¬(0<=r.start/\r.start<=4096/\r.rests.length<=r.visits.length+1) then 2
 else 0
def XV (x:Inst) (r:Rte):She×Int:=XU x (ZG x r) (ZS x r.visits) r.start r.rests
def XH (x:Inst) (r:Rte):Int:=if Yf x r=0 then (XV x r).2 else Yf x r
def XW (x:Inst) (r:Rte):She:=if XH x r=0 then (XV x r).1 else zShe
def Y9 (x:Inst) (r:Rte):Sco:=if XH x r=0 then EW x r (XV x r).1 else zSco
set_option maxRecDepth 8000
set_option maxHeartbeats 8000000
def gV (x:Inst) (v:Vis):Bool:=decide (0<=v.order)&&decide (v.order<(x.orders.length:Int))
def nW (x:Inst) (v:Vis):Bool:=gV x v&&decide (0<=(Xg x v).place)
@[go_sem high] theorem Zg1 {k k':IntKind} {a b:Int} :GY false [.p (.int k a),.p (.int k' b)]=some (.int k (max a b)):=by
 grind [GY]
theorem YT {x:Inst} {l:List Vis} :(ZS x l).length=l.length:=by simp [ZS]
theorem NM {x:Inst} {l:List Vis} {k:Nat} (h:k<l.length):nth (ZS x l) k=Xg x (nth l k):=by
 grind [Zg,ZS]
structure LdOk (x:Inst):Prop where
 ord:x.orders.length<=10
 typ:x.types.length<=1048576
 dim:1<=dimsOf x.types/\dimsOf x.types<=3
 load: ∀o∈x.orders,(o.load.length:Int)=dimsOf x.types/\ ∀n∈o.load,0<=n/\n<=1000
theorem A1 {x:Inst} (h:InstOk x):LdOk x:=by
 have ht:=h.types.1;simp only [rng,Zp] at ht;have ho:=h.orders
 have h0:0<x.types.length:=Za
 have hcap:=h.types.2 0 h0;unfold VW at hcap;obtain ⟨⟨⟨⟨⟨⟨⟨⟨_,_⟩,_⟩,_⟩,hcap⟩,_⟩,_⟩,_⟩,_⟩:=hcap;simp only [Va,Zs,Zp,rng] at hcap;refine ⟨ho.1,Za,Za,fun o hm=> ?_⟩;obtain ⟨i,hi,rfl⟩:=Z1.1 hm;have:=(ho.2 i hi).load;rw [Zg hi] at this
 simp_all [loadOk,rng]
def pE (l:List Int):PV:= .list false (l.map eI)
@[go_sem] theorem sM (l:List Int):pE l= .list false (l.map eI):=Zi rfl rfl
def En (x:Inst) (l:List Vis):List (List Int):=(List.range (l.length+1)).map (Wy x l)
def NG (c m o w:Int):AM.Obj:= .cells [.p (.int .i64 c),.p (.int .i64 m),.p (.int .i64 o),.p (.int .i64 w)]
theorem DU {x:Inst} {l:List Vis} {t:Int} : ∀n:Nat,(0<=(chgF x l t n).1/\(chgF x l t n).1<=n)/\(0<=(chgF x l t n).2/\(chgF x l t n).2<=n)
 | 0=>by simp [chgF]
 | n+1=>by
  have ih:=DU (x:=x) (l:=l) (t:=t) n
  grind [chgF]
theorem SqOk.len {x:Inst} {l:List Vis} (h:SqOk x l) (hn:x.orders.length<=10):l.length<=20:=by
 have h1:=List.Nodup.length_le_of_subset (l₁ :=l) (l₂ :=(List.range 10).flatMap fun i:Nat=> [(⟨(i:Int),false⟩:Vis),⟨(i:Int),true⟩]) h.nd (fun v hv=>by
  obtain ⟨v1,v2⟩:=h.inr v hv;rw [XS];refine ⟨v.order.toNat,ZO.2 Za,?_⟩;obtain ⟨o,d⟩:=v
  have e:((o.toNat:Nat):Int)=o:=by grind
  simp_all)
 have h2:((List.range 10).flatMap fun i:Nat=> [(⟨(i:Int),false⟩:Vis),⟨(i:Int),true⟩]).length=20:=rfl;omega
theorem SqOk.vis {x:Inst} {l:List Vis} (h:SqOk x l) {v:Vis} (hv:v∈l):nW x v=true:=by
 obtain ⟨v1,v2⟩:=h.inr v hv;obtain ⟨i,hi⟩: ∃i:Nat,v.order=(i:Int):=⟨v.order.toNat,Za⟩;have ho:=h.own (i:=i) ⟨v,hv,hi⟩
 have hpl:0<=(Xg x v).place:=by
  unfold Xg;rw [hi,Xn]
  cases hd:v.drp with
  | true=>exact ho.isD (by rw [<- hi,<- hd];exact hv)
  | false=>exact ho.isP (by rw [<- hi,<- hd];exact hv)
 simp [nW,gV,v1,v2,hpl]
theorem O2 {n:Net} (h:netOk n):netR n/\ ∀a∈n.arcs,0<=a.miles/\a.miles<=10000:=by
 obtain ⟨⟨⟨h1,_⟩,h2⟩,h3⟩:=h
 have ha: ∀a∈n.arcs,rC a/\0<=a.miles/\a.miles<=10000:=fun a hm=>by
  obtain ⟨i,hi,rfl⟩:=Z1.1 hm;have:=h3 i hi;unfold Iw at this;rw [Zg hi] at this;obtain ⟨⟨⟨⟨⟨_,g1⟩,_⟩,g2⟩,g3⟩,g4⟩:=this;refine ⟨⟨g2,g3,fun p hp=> ?_⟩,g1.2.2.1,g1.2.2.2.1⟩;obtain ⟨j,hj,rfl⟩:=Z1.1 hp
  simp_all [JZ,Zg,Ie,rng]
 exact ⟨⟨Za,Za,fun a hm=>(ha a hm).1⟩,fun a hm=>(ha a hm).2⟩
theorem W6 {x:Inst} (hx:InstOk x) {i:Nat} (hi:i<x.types.length):(0<=(nth x.types i).opn/\(nth x.types i).opn<=(nth x.types i).cls/\(nth x.types i).cls<=4096)/\(1<=(nth x.types i).drive/\(nth x.types i).drive<=4096)/\(0<=(nth x.types i).rest/\(nth x.types i).rest<=4096) /\
  (0<=(nth x.types i).fixed/\(nth x.types i).fixed<=100000/\0<=(nth x.types i).perMile/\(nth x.types i).perMile<=100/\0<=(nth x.types i).perTick/\(nth x.types i).perTick<=100)/\(0<=(nth x.types i).skills/\(nth x.types i).skills<=1073741823):=by
 have ht:=hx.types.2 i hi
 simp_all [VW,rng]
theorem BO {x:Inst} {r:Rte} (hx:InstOk x) (ht:0<=r.typ/\r.typ<(x.types.length:Int)) (h:SqOk x r.visits):TrpOk x (ZG x r) (ZS x r.visits):=by
 have hti:r.typ.toNat<x.types.length:=Za
 obtain ⟨t1,t2,t3,_⟩:=W6 hx hti;obtain ⟨n1,n2⟩:=O2 hx.net;refine ⟨n1,n2,t1,t2,t3,fun s hs=> ?_,by rw [YT];exact h.len hx.orders.1⟩;obtain ⟨v,hv,rfl⟩:=Xj.1 hs;obtain ⟨v1,v2⟩:=h.inr v hv
 have hi:v.order.toNat<x.orders.length:=Za
 have ho:=hx.orders.2 _ hi;have hvis:=h.vis hv;have hp:=ho.pstp;have hd:=ho.dstp;simp only [stpOk,Zp] at hp hd;simp only [nW,Zs,Zp] at hvis;have h3:=hvis.2;unfold Xg at h3 ⊢
 grind
theorem LP {x t sp} (h:TrpOk x t sp): ∀(bs:List Bool) (k:Nat) (L:Lab),k+bs.length=sp.length+1->LabR k L->(Xf x t sp k L bs).2=0->LabR (sp.length+1) (Xf x t sp k L bs).1/\(bs≠ []->(Xf x t sp k L bs).1.she.fin=(Xf x t sp k L bs).1.ready)
 | [],k,L,hk,hl,h0=>by
  simp at hk;subst hk;exact ⟨hl,fun h=>absurd rfl h⟩
 | b::bs,k,L,hk,hl,h0=>by
  simp at hk;rw [Xf] at h0 ⊢
  split at h0
  ·rename_i c;rw [if_pos c];obtain ⟨h1,h2⟩:=LP h bs (k+1) _ Za (O5 h Za hl c) h0;refine ⟨h1,fun _=> ?_⟩
   cases bs with
   | nil =>
    simp at hk;subst hk;exact Lw (x:=x) (t:=t) (sp:=sp) (y:=L) (b:=b) (by rw [Xp,if_pos c];rfl)
   | cons b2 bs=>grind
  omega
theorem IE {x t sp} {st:Int} {r:List Bool} (h:TrpOk x t sp) (hs:0<=st/\st<=4096) (hr:r.length<=sp.length+1) (h0:(XU x t sp st r).2=0):(0<=(XU x t sp st r).1.fin/\(XU x t sp st r).1.fin<=8192)/\(0<=(XU x t sp st r).1.miles/\(XU x t sp st r).1.miles<=210000):=by
 have hL0:LabR 0 (labF t st):=⟨by have:=h.opn;grind [labF],by simp [labF],by simp [labF,zShe]⟩;have hl:=h.len
 have key: ∀bs∈Xs r (sp.length+1),(Xf x t sp 0 (labF t st) bs).2=0->(0<=(Xf x t sp 0 (labF t st) bs).1.she.fin/\(Xf x t sp 0 (labF t st) bs).1.she.fin<=8192)/\(0<=(Xf x t sp 0 (labF t st) bs).1.she.miles/\(Xf x t sp 0 (labF t st) bs).1.she.miles<=210000):=fun bs hbs he=>by
  obtain ⟨q,hq,rfl⟩:=Xj.1 hbs;have hql:=bestF_len.fromB_len _ _ hq;simp at hql
  have hne:r++q≠ []:=fun e=>by
   simp_all
  obtain ⟨g1,g2⟩:=LP h (r++q) 0 _ (by simp;omega) hL0 he;rw [g2 hne];have:=g1.rdy;have:=g1.mil;omega
 unfold XU at h0 ⊢
 cases hf:WU Wu none ((Xs r (sp.length+1)).filterMap (WG (Xp x t sp) 0 (labF t st))) with
 | some L =>
  simp only;have:=bestF_len.fmL_mem _ _ hf
  grind [Yl]
 | none =>
  grind [zShe]
def IV (x:Inst) (r:Rte):V:= .tup [.p (Rr (XW x r)),.p (IS (Y9 x r)),.p (.int .i64 (XH x r))]
theorem Uc {x:Inst} {r:Rte} {e:Int} (h:XH x r=e) (h0:e≠0):IV x r= .tup [.p (Rr zShe),.p (IS zSco),.p (.int .i64 e)]:=by
 simp_all [IV,XW,Y9]
theorem yM {p q:Pt} {t:Int} (h1:p.t<=t) (h2:t<q.t) (hp:p.t<=p.a) (hq:q.t<=q.a):t<=H7 p q t:=by
 unfold H7
 have hw:0<q.t-p.t:=Za
 have key:(t-p.a)*(q.t-p.t)<=(t-p.t)*(q.a-p.a)+q.t-p.t-1:=by
  have e:(t-p.t)*(q.a-p.a)-(t-p.a)*(q.t-p.t)=(t-p.t)*(q.a-q.t)+(p.a-p.t)*(q.t-t):=by
   grind
  have h3:0<=(t-p.t)*(q.a-q.t):=Qd Za Za;have h4:0<=(p.a-p.t)*(q.t-t):=Qd Za Za;omega
 have:=Int.le_ediv_of_mul_le hw key;omega
theorem iM {l:List Pt} {t:Int} (hl:WM l):t<=Jy l t:=by
 obtain ⟨⟨hl1,hl2⟩,hpt⟩:=hl;unfold Jy
 split
 ·rename_i i hi;have hm:=U7 hi;have hs:=Q5 hi;simp at hm;simp only [BG,Zs,Zp] at hs;obtain ⟨⟨p1,p2,p3,p4⟩,_⟩:=hpt i Za;obtain ⟨⟨q1,q2,q3,q4⟩,q5⟩:=hpt (i+1) Za
  simp_all [yM]
 ·obtain ⟨⟨p1,p2,p3,p4⟩,_⟩:=hpt 0 Za;obtain ⟨⟨q1,q2,q3,q4⟩,_⟩:=hpt (l.length-1) Za;omega
theorem aX {n:Net} {pr f t τ:Int} (hn:netR n) (h:(Qt n pr f t τ).2.2=0):τ<=(Qt n pr f t τ).1:=by
 unfold Qt at h ⊢
 split at h
 ·simp at h
 ·rename_i c1;rw [if_neg c1]
  split at h
  ·grind
  ·rename_i c2;rw [if_neg c2]
   split at h
   ·rename_i c3;rw [if_pos c3];have hA:=B2 c3;have h1:=iM (t:=τ) (hn.2.2 _ hA).1;have h2:=KB (t:=τ) (fun p hp=>((hn.2.2 _ hA).2.2 p hp).2.2) _ (Zw _)
    grind [PU]
   ·simp at h
theorem FG {x t sp} {st:Int} {r:List Bool} (hr:r.length<=sp.length+1) (h:(XU x t sp st r).2=0): ∃bs:List Bool,bs.length=sp.length+1/\(Xf x t sp 0 (labF t st) bs).2=0/\(XU x t sp st r).1=(Xf x t sp 0 (labF t st) bs).1.she:=by
 unfold XU at h ⊢
 cases hf:WU Wu none ((Xs r (sp.length+1)).filterMap (WG (Xp x t sp) 0 (labF t st))) with
 | none =>
  rw [hf] at h;simp only at h ⊢;exfalso
  have hm:Vn r (sp.length+1)∈Xs r (sp.length+1):=by
   grind [Xs,Vn,Vh]
  have h2:WG (Xp x t sp) 0 (labF t st) (Vn r (sp.length+1))=some (Xf x t sp 0 (labF t st) (Vn r (sp.length+1))).1:=by rw [Yl,if_pos h]
  have h3:(Xf x t sp 0 (labF t st) (Vn r (sp.length+1))).1∈(Xs r (sp.length+1)).filterMap (WG (Xp x t sp) 0 (labF t st)):=Ur.2 ⟨_,hm,h2⟩;generalize (Xs r (sp.length+1)).filterMap (WG (Xp x t sp) 0 (labF t st))=l at hf h3
  cases l with
  | nil=>simp at h3
  | cons a l =>
   rw [WU] at hf;obtain ⟨z,e,_⟩:=WV Wu l a
   grind
 | some L =>
  simp only;have hm:=bestF_len.fmL_mem _ _ hf;obtain ⟨bs,hbs,hrun⟩:=Ur.1 hm;rw [Yl] at hrun
  split at hrun
  ·rename_i h5;simp at hrun;subst hrun;obtain ⟨q,hq,rfl⟩:=Xj.1 hbs;have hql:=bestF_len.fromB_len _ _ hq
   grind
  ·cases hrun
structure Sr where
 rdy:Int
 drv:Int
 deriving Inhabited,DecidableEq
def VU (l:List Sr) (s:Sr):List Sr:=if s∈l then l else l++ [s]
def W3 (t:Typ) (l:List Sr) (d v:Int):List Sr:=VU (VU l ⟨d,v⟩) ⟨d+t.rest,0⟩
def QG (x:Inst) (t:Typ) (from':Int) (stop:Stp) (out:List Sr) (a:Sr):List Sr :=
 if ¬(Qt x.net t.prof from' stop.place a.rdy).2.2=0\/t.drive<a.drv+(Qt x.net t.prof from' stop.place a.rdy).1-a.rdy then out
 else if stop.cls<max (Qt x.net t.prof from' stop.place a.rdy).1 stop.opn then out
 else W3 t out (max (Qt x.net t.prof from' stop.place a.rdy).1 stop.opn+stop.serv) (a.drv+(Qt x.net t.prof from' stop.place a.rdy).1-a.rdy)
def CH (x:Inst) (t:Typ) (from':Int) (st:List Sr) (stop:Stp):List Sr:=st.foldl (QG x t from' stop) []
theorem RM {l:List Sr} {s a:Sr} :a∈VU l s↔a∈l\/a=s:=by
 grind [VU]
theorem WE {t:Typ} {l:List Sr} {d v:Int} {a:Sr} :a∈W3 t l d v↔a∈l\/a=⟨d,v⟩\/a=⟨d+t.rest,0⟩:=by
 simp [W3,RM,or_assoc]
theorem Ot {n:Nat} (h:n<10):dec n= [UInt8.ofNat (48+n)]:=by rw [dec,dif_pos h]
theorem jX {n:Nat} (h:10<=n) (h2:n<100):dec n= [UInt8.ofNat (48+n / 10),UInt8.ofNat (48+n%10)]:=by
 rw [dec,dif_neg Za,Ot Za];rfl
theorem Iz {s:List UInt8} {k k':IntKind} {a b:Int} (h:0<=a/\a<=b/\b<=(s.length:Int)):G3 (some .string) s (.p (.int k a)) (.p (.int k' b))=some (.p (.str ((s.take b.toNat).drop a.toNat))):=by
 simp_all [G3]
def digT : List UInt8:=(List.range 36).map fun i=>UInt8.ofNat (if i<10 then 48+i else 87+i)
def smalT : List UInt8:=(List.range 100).flatMap fun i=> [UInt8.ofNat (48+i / 10),UInt8.ofNat (48+i%10)]
theorem jY : ∀n,n<10->(digT.take (n+1)).drop n= [UInt8.ofNat (48+n)]:=by decide
theorem fJ : ∀n,n<100->(smalT.take (2*n+2)).drop (2*n)= [UInt8.ofNat (48+n / 10),UInt8.ofNat (48+n%10)]:=by decide+kernel
theorem nG (n:Nat) (hn:n<100):PC 298 [.p (.int .i64 (n:Int))] (.str (dec n)):=by
 refine Zc Tryz.func298 rfl xD ?_;simp (disch:=omega) only [Tryz.f298,go_sem,seval];refine cD ?_ ?_<;>intro h<;>simp (disch:=omega) only [Sh.out h,go_sem,seval]
 ·rw [Ot Za,Iz (by simp;omega)]
  have e1:((n:Int)+1).toNat=n+1:=Za
  have e2:((n:Int)).toNat=n:=Za
  rw [e1,e2];refine (ZC (fun z=>Ak (some (V.p (PV.str z))) _) (jY n Za)).mpr ?_;simp (disch:=omega) only [go_sem,seval]
 ·rw [jX Za hn,Iz (by simp;omega)]
  have e1:((n:Int)*2+2).toNat=2*n+2:=Za
  have e2:((n:Int)*2).toNat=2*n:=Za
  rw [e1,e2];refine (ZC (fun z=>Ak (some (V.p (PV.str z))) _) (fJ n Za)).mpr ?_;simp (disch:=omega) only [go_sem,seval]
theorem aP (n:Nat) (hn:n<100):PC 296 [.p (.int .i64 (n:Int)),.p (.int .i64 10)] (.str (dec n)):=by
 refine Zc Tryz.func296 rfl xC ?_
 have h0:(0:Int)<=(n:Int):=Za
 have h1:(n:Int)<100:=Za
 simp (disch:=omega) only [Tryz.f296,h0,h1,go_sem,seval];refine (nG n hn).use ?_;simp (disch:=omega) only [go_sem,seval]
theorem lC (n:Nat) (hn:n<100):PC 292 [.p (.int .i64 (n:Int))] (.str (dec n)):=by
 refine Zc Tryz.func292 rfl xB ?_;simp (disch:=omega) only [Tryz.f292,go_sem,seval];refine (aP n hn).use ?_;simp (disch:=omega) only [go_sem,seval]
theorem xE (n:Nat) (hn:n<100):PC 290 [.p (.int .i64 (n:Int))] (.str (dec n)):=by
 refine Zc Tryz.func290 rfl xA ?_;simp (disch:=omega) only [Tryz.f290,go_sem,seval];refine (lC n hn).use ?_;simp (disch:=omega) only [go_sem,seval]
theorem Mh (n a b:Int):PC 272 [.p (.int .i64 n),.p (.int .i64 a),.p (.int .i64 b)] (.bool (decide (a<=n)&&decide (n<=b))):=by
 refine Zc Tryz.func272 rfl wO ?_;simp (disch:=omega) only [Tryz.f272,go_sem,seval]
 repeat' (first | (refine gT ?_ ?_<;>intro hq<;>simp (disch:=omega) only [Sh.out hq,go_sem,seval,↓reduceIte]) | (refine Ui (fun hq=> ?_) (fun hq=> ?_)<;>(try simp only [Zp,XQ,XD] at hq)<;>simp (disch:=omega) only [Sh.out hq,go_sem,seval]) | (refine QK (fun hq=> ?_) (fun hq=> ?_)<;>(try simp only [Zp,XQ,XD] at hq)<;>simp (disch:=omega) only [Sh.out hq,go_sem,seval]))
 all_goals (simp;first | done | omega)
theorem dE (l:List Pt) (c:Bool) (hl:WM l):PC 285 [.p (.list c (l.map Fs))] (.list true []):=by
 obtain ⟨⟨hl1,hl2⟩,hpt⟩:=hl;refine Zc Tryz.func285 rfl wX ?_
 have e1: ¬(l.length:Int)=0:=Za
 have e2: ¬(16:Int)<(l.length:Int):=Za
 simp (disch:=omega) only [Tryz.f285,e1,e2,go_sem,seval];refine Zn [0,19,20] (fun k:Nat=> [(3,.p (.list true [])),(21,.p (.int .i64 k))]) (fun _=> []) (fun k=>k<=l.length) (fun k=>l.length-k) 0 Zb (Weak.mk ?_) ?_
 ·simp (disch:=omega) only [go_sem,seval,↓reduceIte]
 ·intro k hk;refine Zd ?_;refine cD ?_ ?_<;>intro h<;>simp (disch:=omega) only [Sh.out h,go_sem,seval,↓reduceIte]
  ·have hk2:k<l.length:=Za
   obtain ⟨⟨p1,p2,p3,p4⟩,q⟩:=hpt k hk2;refine (xE k Za).use (Zd ?_);refine (Mh (nth l k).t 0 4096).use (Zd ?_);simp (disch:=omega) only [p1,p2,go_sem,seval];refine gF ?_ ?_<;>intro h3<;>simp (disch:=omega) only [Sh.out h3,go_sem,seval,↓reduceIte]
   ·omega
   ·refine cD ?_ ?_<;>intro h4<;>simp (disch:=omega) only [Sh.out h4,go_sem,seval,↓reduceIte]
    ·omega
    ·refine XN (Zd ?_);refine gT ?_ ?_<;>intro h5<;>simp (disch:=omega) only [Sh.out h5,go_sem,seval,↓reduceIte]
     ·obtain ⟨r1,r2⟩:=q Za;refine gF ?_ ?_<;>intro h6<;>simp (disch:=omega) only [Sh.out h6,go_sem,seval,↓reduceIte]
      ·omega
      ·refine cD ?_ ?_<;>intro h7<;>simp (disch:=omega) only [Sh.out h7,go_sem,seval,↓reduceIte]
       ·omega
       ·exact ⟨k+1,Za,Za,wk⟩
     ·exact ⟨k+1,Za,Za,wk⟩
theorem Ol (p:Pt) (t:Int) (h:0<=p.t/\p.t<=4096) (ht:0<=t/\t<=1073741824):PC 287 [.p (Fs p),.p (.int .i64 t)] (.int .i64 (p.t-t)):=by
 refine Zc Tryz.func287 rfl wZ ?_;simp (disch:=omega) only [Tryz.f287,go_sem,seval,↓reduceIte]
theorem mY (l:List Pt) (c:Bool) (hl:WM l):PC 273 [.p (.list c (l.map Fs))] (.bool true):=by
 refine Zc Tryz.func273 rfl wP ?_;simp (disch:=omega) only [Tryz.f273,go_sem,seval];refine (dE l c hl).use ?_;simp (disch:=omega) only [go_sem,seval]
structure PosT (l:List Pt) (t:Int) (i:Nat):Prop where
 le:i<=l.length
 lo: ∀j,j<i->(nth l j).t<t
 hi: ∀j,i<=j->j<l.length->t<=(nth l j).t
theorem ZdG (l:List Pt) (c:Bool) (t:Int) (i:Nat) (hl:WM l) (ht:0<=t/\t<=1073741824) (hi:PosT l t i):PT 286 [.p (.list c (l.map Fs)),.p (.int .i64 t),.fn (.func 287) [] []] [.p (.int .i64 (i:Int)),.p (.bool (decide (i<l.length)&&decide ((nth l i).t=t)))]:=by
 obtain ⟨⟨hl1,hl2⟩,hpt⟩:=hl;obtain ⟨hi1,hi2,hi3⟩:=hi;refine Zj [] Tryz.func286 rfl wY ?_;simp (disch:=omega) only [Tryz.f286,go_sem,seval];refine Zn [0,1,2,8] (fun q:Nat×Nat=> [(9,.p (.int .i64 q.1)),(10,.p (.int .i64 q.2))]) (fun _=> []) (fun q=>q.1<=i/\i<=q.2/\q.2<=l.length) (fun q=>q.2-q.1) (0,l.length) (by simp;omega) (Weak.mk ?_) ?_
 ·simp (disch:=omega) only [go_sem,seval,↓reduceIte]
 ·rintro ⟨a,b⟩ ⟨h1,h2,h3⟩;simp only at h1 h2 h3;refine Zd ?_;refine cD ?_ ?_<;>intro h<;>simp (disch:=omega) only [Sh.out h,go_sem,seval,↓reduceIte]
  ·have hm:(a+b) / 2<l.length:=Za
   obtain ⟨⟨p1,p2,p3,p4⟩,q⟩:=hpt _ hm
   have hs:((a:Int)+(b:Int)).fdiv (2^min 1 64)=(((a+b) / 2:Nat):Int):=by
    grind
   have em:((((a+b) / 2:Nat)):Int).toNat=(a+b) / 2:=Za
   have hnb:((a+b) / 2<i)↔(nth l ((a+b) / 2)).t-t<0:=by
    grind
   rw [hs];refine Zd ?_;refine (Ol (nth l ((a+b) / 2)) t ⟨p1,p2⟩ ht).use (Zd ?_);refine cD ?_ ?_<;>intro h4<;>simp (disch:=omega) only [Sh.out h4,go_sem,seval,↓reduceIte]
   ·exact ⟨((a+b) / 2+1,b),⟨Za,h2,h3⟩,Za,wk⟩
   ·exact ⟨(a,(a+b) / 2),⟨h1,Za,Za⟩,Za,wk⟩
  ·have:a=i:=Za
   subst this;refine gT ?_ ?_<;>intro h4<;>simp (disch:=omega) only [Sh.out h4,go_sem,seval,↓reduceIte]
   ·have hm:a<l.length:=Za
    obtain ⟨⟨p1,p2,p3,p4⟩,q⟩:=hpt _ hm;refine (Ol (nth l a) t ⟨p1,p2⟩ ht).use (Zd ?_);have e5:((nth l a).t-t=0)=((nth l a).t=t):=propext Za;exact we (by simp (disch:=omega) only [e5,hm,go_sem,seval])
   ·have hm: ¬a<l.length:=Za
    exact we (by simp (disch:=omega) only [hm,go_sem,seval])
theorem Bz {l:List Pt} (hl:WM l) {k:Nat} (hk:k<l.length): ∀j,j<k->(nth l j).t<(nth l k).t:=by
 obtain ⟨_,hpt⟩:=hl
 induction k with
 | zero=>omega
 | succ k ih =>
  intro j hj;obtain ⟨_,q⟩:=hpt (k+1) hk
  grind
theorem mQ {l:List Pt} (hl:WM l) (t:Int): ∃i,PosT l t i:=by
 have: ∀n,n<=l.length-> ∃i,i<=n/\(∀j,j<i->(nth l j).t<t)/\(i<n->t<=(nth l i).t):=by
  intro n
  induction n with
  | zero=>simp
  | succ n ih =>
   grind
 obtain ⟨i,h1,h2,h3⟩:=this l.length (Zw _);refine ⟨i,h1,h2,fun j hj hjl=> ?_⟩;rcases Nat.lt_or_eq_of_le hj with h | h
 ·have:=Bz hl hjl i h;omega
 grind
theorem iL {l:List Pt} {t:Int} {i:Nat} (hl:WM l) (h:PosT l t i) (hi:i<l.length) (e:(nth l i).t=t):Jy l t=(nth l i).a:=by
 by_cases g:i+1<l.length
 ·have m:=Bz hl g i Za;rw [N7 g (fun j hj=> ?_) (by grind [BG]),H7]
  ·rw [e,Int.sub_self,Int.zero_mul,Int.zero_add];rw [Int.ediv_eq_zero_of_lt Za Za];omega
  ·have:(nth l (j+1)).t<=t:=by
    rcases Nat.lt_or_eq_of_le (show j+1<=i by omega) with h1 | h1
    ·have:=h.lo _ h1;omega
    grind
   simp [BG];omega
 ·have hi1:i=l.length-1:=Za
  rw [G2 (fun j hj=> ?_)]
  ·split
   ·grind
   ·have:i=0:=by
     by_cases g2:i=0
     ·exact g2
     ·have:=h.lo 0 Za;omega
    grind
  ·have:(nth l (j+1)).t<=t:=by
    rcases Nat.lt_or_eq_of_le (show j+1<=i by omega) with h1 | h1
    ·have:=h.lo _ h1;omega
    grind
   simp [BG];omega
theorem iO {l:List Pt} {t:Int} (hl:WM l) (h:PosT l t 0) (e: ¬(nth l 0).t=t):Jy l t=t+(nth l 0).a-(nth l 0).t:=by
 have h0:=h.hi 0 (Zw _) hl.1.1;rw [G2 (fun j hj=> ?_),if_neg Za]
 have:t<(nth l j).t:=by
  by_cases g:j=0
  ·grind
  ·have:=Bz hl (show j<l.length by omega) 0 Za;omega
 simp [BG];omega
theorem iN {l:List Pt} {t:Int} (h:PosT l t l.length) (hl:0<l.length):Jy l t=t+(nth l (l.length-1)).a-(nth l (l.length-1)).t:=by
 rw [G2 (fun j hj=> ?_),if_pos (h.lo 0 hl)];have:=h.lo (j+1) hj;simp [BG];omega
theorem Tn {l:List Pt} {t:Int} {i:Nat} (h:PosT l t i) (h0:0<i) (hi:i<l.length) (e: ¬(nth l i).t=t):Jy l t=H7 (nth l (i-1)) (nth l i) t:=by
 have e1:i-1+1=i:=Za
 have h1:=h.lo (i-1) Za;have h2:=h.hi i (Zw _) hi;have:=N7 (l:=l) (t:=t) (i:=i-1) Za (fun j hj=>by have:=h.lo (j+1) Za;simp [BG];omega) (by grind [BG]);rw [this,e1]
theorem Gz {p q:Pt} {t:Int} (h1:p.t<=t) (h2:t<q.t) (hp:0<=p.t) (hq:q.t<=4096) (ha:p.a<=q.a) (hpa:0<=p.a) (hqa:q.a<=8192) :
  IntKind.i64.wrap (p.a+IntKind.i64.wrap ((IntKind.i64.wrap (IntKind.i64.wrap (IntKind.i64.wrap ((t-p.t)*(q.a-p.a))+(q.t-p.t))-1)).tdiv (q.t-p.t)))=H7 p q t:=by
 have hm:=LW h1 h2 hp hq ha hpa hqa;unfold H7;generalize hM:(t-p.t)*(q.a-p.a)=m at hm
 have hd:0<=(m+(q.t-p.t)-1) / (q.t-p.t)/\(m+(q.t-p.t)-1) / (q.t-p.t)<=m+(q.t-p.t)-1:=by
  refine ⟨Int.ediv_nonneg Za Za,Int.ediv_le_self _ Za⟩
 rw [IntWalk.i64_in m Za,IntWalk.i64_in (m+(q.t-p.t)) Za,IntWalk.i64_in (m+(q.t-p.t)-1) Za,Da Za,IntWalk.i64_in ((m+(q.t-p.t)-1) / (q.t-p.t)) Za,IntWalk.i64_in _ Za]
 congr 2
 omega
theorem No (l:List Pt) (c:Bool) (t:Int) (hl:WM l) (ht:0<=t/\t<=1073741824):PC 274 [.p (.list c (l.map Fs)),.p (.int .i64 t)] (.int .i64 (Jy l t)):=by
 obtain ⟨i,hi⟩:=mQ hl t;have hl':=hl;obtain ⟨⟨hl1,hl2⟩,hpt⟩:=hl';refine Zc Tryz.func274 rfl wQ ?_;simp (disch:=omega) only [Tryz.f274,go_sem,seval];refine Vc (ZdG l c t i hl ht hi) (Zd ?_);obtain ⟨i1,i2,i3⟩:=id hi;refine cD ?_ ?_<;>intro h<;>simp (disch:=omega) only [Sh.out h,go_sem,seval,↓reduceIte]
 ·grind [iL]
 ·refine cD ?_ ?_<;>intro h0<;>simp (disch:=omega) only [Sh.out h0,go_sem,seval]
  ·have:i=0:=Za
   subst this;obtain ⟨p1,p2⟩:=hpt 0 Za;rw [iO hl hi (fun g=>h ⟨Za,g⟩)];refine XN ?_;simp (disch:=omega) only [go_sem,seval,↓reduceIte]
  ·refine cD ?_ ?_<;>intro h1<;>simp (disch:=omega) only [Sh.out h1,go_sem,seval]
   ·have:i=l.length:=Za
    subst this;obtain ⟨p1,p2⟩:=hpt (l.length-1) Za;rw [iN hi Za]
    have e1:((l.length:Int)-1).toNat=l.length-1:=Za
    refine XN ?_;simp (disch:=omega) only [go_sem,seval,↓reduceIte]
   ·have g1:i<l.length:=Za
    rw [Tn hi Za g1 (fun g=>h ⟨g1,g⟩)];have g2:=Bz hl g1 (i-1) Za;obtain ⟨p1,p2⟩:=hpt i g1;obtain ⟨p3,p4⟩:=hpt (i-1) Za
    have e1:((i:Int)-1).toNat=i-1:=Za
    have q1:=i2 (i-1) Za;have q2:=i3 i (Zw _) g1;have q3: ¬(nth l i).t=t:=fun g=>h ⟨g1,g⟩;have q4:=p2 Za;refine Vf [9,10,11] 12 mixed Ze Ze Ze Zb ?_;simp (disch:=omega) only [e1,go_sem,seval];refine RR 9 10 _ _ _ _ Ze (by refine Zd ?_;exact ⟨rfl,rfl⟩) (by refine Zd ?_;exact ⟨rfl,rfl⟩) ?_ ?_
    ·refine YZ 10 _ _ Ze (by refine Zd ?_;exact ⟨rfl,rfl⟩) (YZ 11 _ _ Ze (by refine Zd ?_;exact ⟨rfl,rfl⟩) (Q0 ?_));refine Zd ?_;refine XN (Zd ?_);exact ZC (fun z=>V.p (PV.int IntKind.i64 z)) (Gz Za Za Za Za Za Za Za)
    ·refine YZ 9 _ _ Ze (by refine Zd ?_;exact ⟨rfl,rfl⟩) (YZ 11 _ _ Ze (by refine Zd ?_;exact ⟨rfl,rfl⟩) (Q0 ?_));refine Zd ?_;refine XN (Zd ?_);exact ZC (fun z=>V.p (PV.int IntKind.i64 z)) (Gz Za Za Za Za Za Za Za)
theorem Sb (l:List Pt) (c:Bool) (t:Int) (hl:WM l) (ht:0<=t/\t<=1073741824):PC 254 [.p (.list c (l.map Fs)),.p (.int .i64 t)] (.int .i64 (Jy l t)):=by
 refine Zc Tryz.func254 rfl vZ ?_;simp (disch:=omega) only [Tryz.f254,go_sem,seval];refine (Mh t 0 1073741824).use (Zd ?_);simp (disch:=omega) only [ht,go_sem,seval];refine (mY l c hl).use (Zd ?_);refine (No l c t hl ht).use ?_;simp (disch:=omega) only [go_sem,seval]
theorem LH (n:Net) (p:Int) (hn:n.places.length<=1048576):PC 219 [.p (B1 n),.p (.int .i64 p)] (.bool (EG n p)):=by
 refine Zc Tryz.func219 rfl vB ?_;simp (disch:=omega) only [Tryz.f219,go_sem,seval];refine gT ?_ ?_<;>intro h<;>simp (disch:=omega) only [Sh.out h,go_sem,seval,↓reduceIte]
 ·simp [EG,h]
 ·simp [EG,h]
theorem nZ (a:Arc):PC 253 [.p (Um a)] (.agg [.int .i64 a.src,.int .i64 a.dst,.int .i64 a.prof]):=by
 refine Zc Tryz.func253 rfl vY ?_;simp (disch:=omega) only [Tryz.f253,go_sem,seval,↓reduceIte]
theorem mD (a:Arc) (t:Int) (ha:rC a) (ht:0<=t/\t<=1073741824):PC 221 [.p (Um a),.p (.int .i64 t)] (.int .i64 (PU a t)):=by
 obtain ⟨h1,h2,h3⟩:=ha;have hr:=Ix h1 ht;have hs:=KB (t:=t) (fun p hp=>(h3 p hp).2.2);refine Zc Tryz.func221 rfl vD ?_;simp (disch:=omega) only [Tryz.f221,go_sem,seval];refine (Sb a.travel a.travel_c t h1 ht).use (Zd ?_);refine Zn [1,13,14] (fun k:Nat=> [(5,.p (.int .i64 (Jy a.travel t+KZ a.slow t k))),(15,.p (.int .i64 k))]) (fun _=> [VI a]) (fun k=>k<=a.slow.length) (fun k=>a.slow.length-k) 0 Zb (Weak.mk ?_) ?_
 ·simp (disch:=omega) only [VI,KZ,Bd,go_sem,seval];simp
 ·intro k hk;have hsk:=hs k hk;simp (disch:=omega) only [VI,go_sem,seval];refine cD ?_ ?_<;>intro h<;>simp (disch:=omega) only [Sh.out h,go_sem,seval,↓reduceIte]
  ·have hk2:k<a.slow.length:=Za
   have hp:=h3 _ (Z0 hk2);have hsn:=E0 (t:=t) hk2;refine Xm ?_ ?_<;>intro h4
   ·rw [if_pos h4] at hsn;exact ⟨k+1,Za,Za,Weak.mk (by simp (disch:=omega) only [hsn,Int.add_assoc,go_sem,seval])⟩
   ·rw [if_neg h4] at hsn;exact ⟨k+1,Za,Za,Weak.mk (by simp (disch:=omega) only [hsn,go_sem,seval])⟩
  grind [PU]
theorem mG (n:Net) (pr f t:Int) (hn:n.arcs.length<=1048576):PT 220 [.p (B1 n),.p (.int .i64 pr),.p (.int .i64 f),.p (.int .i64 t)] [.p (Um (VT n pr f t).1),.p (.bool (VT n pr f t).2)]:=by
 refine Zj [] Tryz.func220 rfl vC ?_;simp (disch:=omega) only [Tryz.f220,go_sem,seval];refine Zn [8,10,18,19] (fun k:Nat=> [(20,.p (.int .i64 k))]) (fun _=>ZU n++ [VI KJ,.cells [.p (.int .i64 f),.p (.int .i64 t),.p (.int .i64 pr)]]) (fun k=>k<=n.arcs.length/\ ∀j,j<k->Jm pr f t (nth n.arcs j)=false) (fun k=>n.arcs.length-k) 0 Zb (Weak.mk ?_) ?_
 ·simp (disch:=omega) only [ZU,VI,KJ,Zm,ZP,ZA,go_sem,seval]
 ·rintro k ⟨hk,hno⟩;simp (disch:=omega) only [ZU,VI,KJ,Zm,ZP,ZA,go_sem,seval];refine cD ?_ ?_<;>intro h<;>simp (disch:=omega) only [Sh.out h,go_sem,seval,↓reduceIte]
  ·have hk2:k<n.arcs.length:=Za
   have nx:Jm pr f t (nth n.arcs k)=false-> ∀j,j<k+1->Jm pr f t (nth n.arcs j)=false:=fun h=>ZR.2 ⟨hno,h⟩;refine XN (Zd ?_);refine Zo (nZ (nth n.arcs k)) (Zd ?_);refine Xm ?_ ?_<;>intro h1
   ·have e:=aA hk2 hno (by simp [Jm,h1]);obtain ⟨rfl,rfl,rfl⟩:=h1;rw [e];exact we
   ·have e2:Jm pr f t (nth n.arcs k)=false:=by
     simp_all [Jm]
    exact ⟨k+1,⟨Za,nx e2⟩,Za,wk⟩
  ·have hkn:k=n.arcs.length:=Za
   subst hkn;rw [aB hno];exact we (by simp (disch:=omega) only [KJ,Zm,go_sem,seval])
theorem pR (n:Net) (pr f t τ:Int) (hn:netR n) (hτ:0<=τ/\τ<=1073741824):PT 198 [.p (B1 n),.p (.int .i64 pr),.p (.int .i64 f),.p (.int .i64 t),.p (.int .i64 τ)] [.p (.int .i64 (Qt n pr f t τ).1),.p (.int .i64 (Qt n pr f t τ).2.1),.p (.int .i64 (Qt n pr f t τ).2.2)]:=by
 refine Zj [] Tryz.func198 rfl uQ ?_;simp (disch:=omega) only [Tryz.f198,go_sem,seval];refine (LH n f hn.1).use (Zd ?_);refine gF ?_ ?_<;>intro h1<;>simp (disch:=omega) only [Sh.out h1,go_sem,seval,↓reduceIte]
 ·have e:Qt n pr f t τ=(0,0,11):=by grind [Qt]
  rw [e];exact we
 ·simp only [XC] at h1;refine (LH n t hn.1).use (Zd ?_);refine cD ?_ ?_<;>intro h2<;>simp (disch:=omega) only [Sh.out h2,go_sem,seval]
  ·have e:Qt n pr f t τ=(0,0,11):=by grind [Qt]
   rw [e];exact we
  ·simp only [XC] at h2;refine cD ?_ ?_<;>intro h3<;>simp (disch:=omega) only [Sh.out h3,go_sem,seval,↓reduceIte]
   ·have e:Qt n pr f t τ=(τ,0,0):=by grind [Qt]
    rw [e];exact we
   ·have cf:=mG n pr f t hn.2.1;have hm:= @B2 n pr f t
    have e0:Qt n pr f t τ=if (VT n pr f t).2=true then (PU (VT n pr f t).1 τ,(VT n pr f t).1.miles,0) else (0,0,12):=by grind [Qt]
    rw [e0];generalize VT n pr f t=A at cf hm ⊢;obtain ⟨a,b⟩:=A;simp only at cf hm ⊢;refine Vc cf (Zd ?_);refine cD ?_ ?_<;>intro h4<;>simp (disch:=omega) only [Sh.out h4,go_sem,seval]
    ·have hb:b=false:=by grind
     subst hb;exact we (by simp (disch:=omega) only [go_sem,seval,↓reduceIte])
    ·have hb:b=true:=by grind
     subst hb;refine XN (Zd ?_);refine Zo (mD a τ (hn.2.2 a (hm rfl)) hτ) (Zd ?_);exact we
def DR (s:Stp) (a:Int):Int×Int:=if max a s.opn>s.cls then (0,14) else (max a s.opn,0)
theorem Od (s:Stp) (a:Int):PT 222 [.p (Ft s),.p (.int .i64 a)] [.p (.int .i64 (DR s a).1),.p (.int .i64 (DR s a).2)]:=by
 refine Zj [] Tryz.func222 rfl vE ?_;simp (disch:=omega) only [Tryz.f222,go_sem,seval];refine cD ?_ ?_<;>intro h<;>simp (disch:=omega) only [Sh.out h,go_sem,seval]
 ·have e:DR s a=(0,14):=by simp_all [DR]
  rw [e];exact we
 ·have e:DR s a=(max a s.opn,0):=by simp_all [DR]
  rw [e];exact we
theorem dK (l:List Ord) (c:Bool) (p:Int) (hl:l.length<=1048576):PC 163 [.p (.list c (l.map Yc)),.p (.int .i64 p)] (.bool (decide (0<=p)&&decide (p<(l.length:Int)))):=by
 refine Zc Tryz.func163 rfl bI ?_;simp (disch:=omega) only [Tryz.f163,go_sem,seval];refine gT ?_ ?_<;>intro h<;>simp (disch:=omega) only [Sh.out h,go_sem,seval,↓reduceIte]
 all_goals simp [h]
theorem O9 (x:Inst) (v:Vis) (ho:x.orders.length<=1048576) (hv:gV x v=true) (hp:0<=(Xg x v).place):PT 168 [.p (.list x.orders_c (x.orders.map Yc)),.p (XB v)] [.p (Ft (Xg x v)),.p (.int .i64 0)]:=by
 refine Zj [] Tryz.func168 rfl uF ?_;simp (disch:=omega) only [Tryz.f168,go_sem,seval];have hv':=hv;rw [gV] at hv';have ct:=dK x.orders x.orders_c v.order ho;rw [hv'] at ct;refine ct.use ?_;simp only [Zs,Zp] at hv';obtain ⟨h1,h2⟩:=hv'
 have hi:v.order.toNat<x.orders.length:=Za
 refine Zd ?_;refine cD ?_ ?_<;>intro hd<;>simp (disch:=omega) only [Sh.out hd,go_sem,seval,↓reduceIte]
 ·have e:Xg x v=(nth x.orders v.order.toNat).drp:=by simp [Xg,hd]
  rw [e] at hp ⊢
  have e3: ¬(nth x.orders v.order.toNat).drp.place<0:=Za
  simp (disch:=omega) only [e3,go_sem,seval];exact we
 ·have e:Xg x v=(nth x.orders v.order.toNat).pick:=by simp [Xg,hd]
  rw [e] at hp ⊢
  have e3: ¬(nth x.orders v.order.toNat).pick.place<0:=Za
  simp (disch:=omega) only [e3,go_sem,seval];exact we
theorem mF (l:List Typ) (c:Bool) (ht:l.length<=1048576):PC 264 [.p (.list c (l.map XY))] (.int .i64 (dimsOf l)):=by
 refine Zc Tryz.func264 rfl wG ?_;simp (disch:=omega) only [Tryz.f264,go_sem,seval];refine cD ?_ ?_<;>intro h1<;>simp (disch:=omega) only [Sh.out h1,go_sem,seval,↓reduceIte]
 ·grind [dimsOf]
 simp_all [dimsOf]
theorem mH (a b:List Int) (c d:Bool) (ha:a.length<=1048576) (hb:b.length<=1048576):PC 245 [.p (.list c (a.map eI)),.p (.list d (b.map eI))] (.bool (Jo a b)):=by
 refine Zc Tryz.func245 rfl vR ?_;simp (disch:=omega) only [Tryz.f245,go_sem,seval];refine cD ?_ ?_<;>intro h1<;>simp (disch:=omega) only [Sh.out h1,go_sem,seval]
 ·grind [Jo]
 ·have h1':a.length=b.length:=Za
  refine Zn [1,12,13] (fun k:Nat=> [(14,.p (.int .i64 k))]) (fun _=> []) (fun k=>k<=a.length/\ ∀j,j<k->nth a j<=nth b j) (fun k=>a.length-k) 0 Zb (Weak.mk ?_) ?_
  ·simp (disch:=omega) only [go_sem,seval]
  ·rintro k ⟨hk,hno⟩;refine Zd ?_;refine cD ?_ ?_<;>intro h2<;>simp (disch:=omega) only [Sh.out h2,go_sem,seval,↓reduceIte]
   ·have hk2:k<a.length:=Za
    refine Xm ?_ ?_<;>intro h3
    ·grind [Jo]
    ·exact ⟨k+1,⟨Za,ZR.2 ⟨hno,Za⟩⟩,Za,wk⟩
   ·have hkl:k=a.length:=Za
    simp_all [Jo]
theorem mC (t:Typ) (s:Int) (h1:t.skills<9223372036854775808) (h2:s<9223372036854775808):PC 241 [.p (XY t),.p (.int .i64 s)] (.bool (YK t s)):=by
 refine Zc Tryz.func241 rfl vN ?_;simp (disch:=omega) only [Tryz.f241,go_sem,seval];refine gT ?_ ?_<;>intro c1<;>simp (disch:=omega) only [Sh.out c1,go_sem,seval,↓reduceIte]
 ·refine gT ?_ ?_<;>intro c2<;>simp (disch:=omega) only [Sh.out c2,go_sem,seval,↓reduceIte]
  ·obtain ⟨M,hM⟩: ∃M:Nat,t.skills=(M:Int):=⟨t.skills.toNat,Za⟩;obtain ⟨S,rfl⟩: ∃S:Nat,s=(S:Int):=⟨s.toNat,Za⟩;have hb:=CM (S:=S) (M:=M) Za
   have e:YK t (S:Int)=(List.range 63).all fun i=> !S.testBit i||M.testBit i:=by
    simp_all [YK]
   have hd:decide (IntKind.i64.wrap ((BitVec.ofInt 64 (S:Int)&&& ~~~BitVec.ofInt 64 (M:Int)).toNat:Int)=0)=((List.range 63).all fun i=> !S.testBit i||M.testBit i):=by
    grind
   rw [e,hM];exact ZC (fun b=>V.p (PV.bool b)) hd
  grind [YK]
 grind [YK]
theorem yE (a b:Int) (h: -1073741824<=a/\a<=1073741824/\ -1073741824<=b/\b<=1073741824):PC 280 [.p (.int .i64 a),.p (.int .i64 b)] (.int .i64 (a+b)):=by
 refine Zc Tryz.func280 rfl wS ?_;simp (disch:=omega) only [Tryz.f280,go_sem,seval]
theorem lJ (a b:Int) (h: -1073741824<=a/\a<=1073741824/\ -1073741824<=b/\b<=1073741824):PC 281 [.p (.int .i64 a),.p (.int .i64 b)] (.int .i64 (a-b)):=by
 refine Zc Tryz.func281 rfl wT ?_;simp (disch:=omega) only [Tryz.f281,go_sem,seval]
def SX (f:Nat->Int) (n k:Nat):List Int:=(List.range n).map fun j=>if j<k then f j else 0
theorem lK {f:Nat->Int} {n k:Nat} :(SX f n k).length=n:=by simp [SX]
theorem cG {f:Nat->Int} {n:Nat} :SX f n 0=List.replicate n 0:=by
 apply Us (by simp [SX]);grind [SX]
theorem cF {f:Nat->Int} {n:Nat} :SX f n n=(List.range n).map f:=by
 simp_all [SX]
theorem lL {f:Nat->Int} {n k:Nat} (h:k<n):(SX f n k).set k (f k)=SX f n (k+1):=by
 apply Us (by simp [SX]);grind [SX]
theorem FK (a b:List Int) (c d:Bool) (g:FuncId) (f:Int->Int->Int) (hl:a.length=b.length) (ha:a.length<=1048576)
  (hf: ∀j,j<a.length->ACalls Tryz.prog g [.p (.int .i64 (nth a j)),.p (.int .i64 (nth b j))] [] fun x H'=>x= .p (.int .i64 (f (nth a j) (nth b j)))/\H'= []) :
  PT 279 [.p (.list c (a.map eI)),.p (.list d (b.map eI)),.fn (.func g) [] []] [.p (.list false (((List.range a.length).map fun j=>f (nth a j) (nth b j)).map eI)),.p (.int .i64 0)]:=by
 refine Zj [9] Tryz.func279 rfl wR ?_;simp (disch:=omega) only [Tryz.f279,go_sem,seval];refine cD ?_ ?_<;>intro h0<;>simp (disch:=omega) only [Sh.out h0,go_sem,seval]
 ·omega
 ·have hz:=cG (f:=fun j=>f (nth a j) (nth b j)) (n:=a.length);have hml:=fun k=>lK (f:=fun j=>f (nth a j) (nth b j)) (n:=a.length) (k:=k);refine XG [9] [0,1,2,8,19] (fun k:Nat=> [(20,.p (.int .i64 k))]) (fun k=> [.elems 1 ((SX (fun j=>f (nth a j) (nth b j)) a.length k).map eI)]) (fun k=>k<=a.length) (fun k=>a.length-k) 0 Zb (Weak.mk ?_) ?_
  ·simp (disch:=omega) only [hz,go_sem,seval];rw [A7];rfl
  ·intro k hk;refine Zd ?_;refine cD ?_ ?_<;>intro h1<;>simp (disch:=omega) only [Sh.out h1,go_sem,seval,↓reduceIte]
   ·have hk2:k<a.length:=Za
    have hs:=lL (f:=fun j=>f (nth a j) (nth b j)) (n:=a.length) hk2;have hk3:=hml k;refine ZK 12 mixed Ze Ze ?_;refine Zd ?_;refine Zo (hf k hk2) ?_;refine Zd ?_;simp (disch:=first | omega | (simp only [ZL,ZY,Zy,ZB,Xy,XR]<;>omega)) only [go_sem,seval,↓reduceIte];refine ⟨k+1,Za,Za,Weak.mk ?_⟩;simp (disch:=omega) only [<- hs,go_sem,seval];rw [UN];rfl
   ·have hkl:k=a.length:=Za
    subst hkl;rw [<- cF];have hk3:=hml a.length;refine Zr (Weak.fz (o:=0) (by rfl)) ?_;refine Zf [] _ _ _ _ ?_;simp (disch:=omega) only [Zt,Zm,ZX,go_sem,seval];rw [if_pos hk3];exact we
theorem dC (a b:List Int) (c d:Bool) (hl:a.length=b.length) (ha:a.length<=1048576) (h: ∀j,j<a.length-> -1073741824<=nth a j/\nth a j<=1073741824/\ -1073741824<=nth b j/\nth b j<=1073741824):PT 265 [.p (.list c (a.map eI)),.p (.list d (b.map eI))] [.p (.list false ((DF a b).map eI)),.p (.int .i64 0)]:=by
 refine Zj [] Tryz.func265 rfl wH ?_;simp (disch:=omega) only [Tryz.f265,go_sem,seval];refine Vc (FK a b c d 280 (fun m n=>m+n) hl ha fun j hj=>yE _ _ (h j hj)) ?_;simp (disch:=omega) only [DF,go_sem,seval];exact we
theorem xY (a b:List Int) (c d:Bool) (hl:a.length=b.length) (ha:a.length<=1048576) (h: ∀j,j<a.length-> -1073741824<=nth a j/\nth a j<=1073741824/\ -1073741824<=nth b j/\nth b j<=1073741824):PT 266 [.p (.list c (a.map eI)),.p (.list d (b.map eI))] [.p (.list false ((nN a b).map eI)),.p (.int .i64 0)]:=by
 refine Zj [] Tryz.func266 rfl wI ?_;simp (disch:=omega) only [Tryz.f266,go_sem,seval];refine Vc (FK a b c d 281 (fun m n=>m-n) hl ha fun j hj=>lJ _ _ (h j hj)) ?_;simp (disch:=omega) only [nN,go_sem,seval];exact we
theorem dG (x:Inst) (r:Rte) (ht:0<=r.typ/\r.typ<(x.types.length:Int)) (hv: ∀v∈r.visits,gV x v=true) (hl:r.visits.length<=1048576) (hxl:x.types.length<=1048576) (hol:x.orders.length<=1048576)
  (hs:(ZG x r).skills<9223372036854775808) (ho: ∀o∈x.orders,o.skills<9223372036854775808) :
  PC 212 [.p (ZW x),.p (KO r)] (.int .i64 (if (r.visits.any fun v=> !YK (ZG x r) (nth x.orders v.order.toNat).skills)=true then 18 else 0)):=by
 refine Zc Tryz.func212 rfl uU ?_;simp (disch:=omega) only [Tryz.f212,go_sem,seval];refine Zn [2,3,8,9] (fun k:Nat=> [(10,.p (.int .i64 k))]) (fun _=> [Zh x,.cells [.p (.int .i64 r.typ),.p (.int .i64 r.start),.p (.list r.rests_c (r.rests.map eB)),.p (.list r.visits_c (r.visits.map XB))]]) (fun k=>k<=r.visits.length/\ ∀j,j<k->YK (ZG x r) (nth x.orders (nth r.visits j).order.toNat).skills=true) (fun k=>r.visits.length-k) 0 Zb (Weak.mk ?_) ?_
 ·simp (disch:=omega) only [Zh,go_sem,seval]
 ·rintro k ⟨hk,hno⟩;refine UE ?_;refine cD ?_ ?_<;>intro h1<;>simp (disch:=omega) only [Sh.out h1,go_sem,seval,↓reduceIte]
  ·have hk2:k<r.visits.length:=Za
   have hin:=hv _ (Z0 hk2);simp only [gV,Zs,Zp] at hin;obtain ⟨i1,i2⟩:=hin
   have hi:(nth r.visits k).order.toNat<x.orders.length:=Za
   have ho':=ho _ (Z0 hi);refine XN (Zd ?_);refine Zo (mC (ZG x r) (nth x.orders (nth r.visits k).order.toNat).skills Za Za) (Zd ?_);refine Xm ?_ ?_<;>intro h2
   ·have:(r.visits.any fun v=> !YK (ZG x r) (nth x.orders v.order.toNat).skills)=true:=by
     grind [Z0]
    grind
   ·exact ⟨k+1,⟨Za,ZR.2 ⟨hno,by grind⟩⟩,Za,wk⟩
  ·have: ¬(r.visits.any fun v=> !YK (ZG x r) (nth x.orders v.order.toNat).skills)=true:=by
    rw [Vj];rintro ⟨v,hv,e⟩;obtain ⟨j,hj,rfl⟩:=Z1.1 hv
    grind [Zg]
   grind
def Ps (x:Inst) (d:Nat) (ms:List Int) (k:Nat):List Int:=(ms.take k).foldl (fun s i=>if (nth x.orders i.toNat).pick.place<0 then DF s (nth x.orders i.toNat).load else s) (List.replicate d 0)
theorem L9 {x:Inst} {d:Nat} {ms:List Int} {k:Nat} (h:k<ms.length):Ps x d ms (k+1)=if (nth x.orders (nth ms k).toNat).pick.place<0 then DF (Ps x d ms k) (nth x.orders (nth ms k).toNat).load else Ps x d ms k:=by
 grind [Ps,Yu,Zg]
theorem Pu {x:Inst} {d:Nat} {ms:List Int} (hms: ∀i∈ms,∀j,j<d->0<=nth (nth x.orders i.toNat).load j/\nth (nth x.orders i.toNat).load j<=1000): ∀k,k<=ms.length->(Ps x d ms k).length=d/\ ∀j,j<d->0<=nth (Ps x d ms k) j/\nth (Ps x d ms k) j<=1000*k
 | 0,_=>by
  grind [Ps,Zg]
 | k+1,h=>by
  obtain ⟨h1,h2⟩:=Pu hms k Za;rw [L9 Za]
  split
  ·refine ⟨by simp [DF,h1],fun j hj=> ?_⟩;have a1:=h2 j hj;have a2:=hms _ (Z0 (show k<ms.length by omega)) j hj;rw [DF,JS Za];omega
  ·exact ⟨h1,fun j hj=>by have:=h2 j hj;omega⟩
theorem nK (x:Inst) (S:Int) (d:Nat) (hd:d<=3) (hol:x.orders.length<=1048576) (hms: ∀i∈XJ S 63,0<=i/\i<(x.orders.length:Int)) (hml:(XJ S 63).length<=63)
  (hld: ∀o∈x.orders,o.load.length=d/\ ∀n∈o.load,0<=n/\n<=1000) :
  PC 263 [.p (ZW x),.p (.int .i64 S),.p (.int .i64 (d:Int))] (.list false ((Ps x d (XJ S 63) (XJ S 63).length).map eI)):=by
 have hmo: ∀i∈XJ S 63,i.toNat<x.orders.length:=fun i hi=>by grind
 have hrg:=Pu (x:=x) (d:=d) (ms:=XJ S 63) fun i hi j hj=>by
  grind [Z0]
 refine Zc Tryz.func263 rfl wF ?_;simp (disch:=omega) only [Tryz.f263,go_sem,seval];refine (Cf S).useF (Zd ?_);refine Zr ((Weak.fz (o:=1) (by rfl)).trans (Weak.fz (o:=2) (by rfl))) ?_;simp (disch:=omega) only [Zt,Zm,Z7,ZX,Df,eq_self,go_sem,seval]
 have hz:List.replicate d (PV.int .i64 0)=(Ps x d (XJ S 63) 0).map eI:=by
  show _=(List.replicate d 0).map eI
  rw [A7];rfl
 refine Zn [3,13,14] (fun k:Nat=> [(7,.p (.list false ((Ps x d (XJ S 63) k).map eI))),(15,.p (.int .i64 k))]) (fun _=> [Zh x,.dead,.dead]) (fun k=>k<=(XJ S 63).length) (fun k=>(XJ S 63).length-k) 0 Zb (Weak.mk ?_) ?_
 ·simp (disch:=omega) only [Zh,hz,go_sem,seval]
 ·intro k hk;have hk1:=hrg k hk;have hsn:=fun h=>L9 (x:=x) (d:=d) (ms:=XJ S 63) (k:=k) h;refine UE ?_;refine cD ?_ ?_<;>intro h1<;>simp (disch:=omega) only [Sh.out h1,go_sem,seval,↓reduceIte]
  ·have hk2:k<(XJ S 63).length:=Za
   have hm:=hms _ (Z0 hk2);have hi:=hmo _ (Z0 hk2);have hlo:=hld _ (Z0 hi);have hsn:=hsn hk2;refine Zd ?_;refine Xm ?_ ?_<;>intro h2
   ·rw [if_pos h2] at hsn;refine Vc (dC (Ps x d (XJ S 63) k) (nth x.orders (nth (XJ S 63) k).toNat).load false (nth x.orders (nth (XJ S 63) k).toNat).load_c Za Za fun j hj=> ?_) ?_
    ·have b1:=hk1.2 j Za;have b2:=hlo.2 _ (Z0 (show j<(nth x.orders (nth (XJ S 63) k).toNat).load.length by omega));omega
    ·refine Zd ?_;exact ⟨k+1,Za,Za,Weak.mk (by simp (disch:=omega) only [hsn,go_sem,seval])⟩
   ·rw [if_neg h2] at hsn;exact ⟨k+1,Za,Za,Weak.mk (by simp (disch:=omega) only [hsn,go_sem,seval])⟩
  grind
theorem M0 {p:Nat->Bool} {n:Nat} (h: ∀i,n<=i->p i=false): ∀k,n<=k->(List.range k).filter p=(List.range n).filter p:=by
 intro k hk
 induction k with
 | zero=>grind
 | succ k ih =>
  grind [Yq]
theorem Zfi {x:Inst} {l:List Vis} (hi:Inr x l) (hn:x.orders.length<=10):XJ ((Ye l:Nat):Int) 63=((List.range x.orders.length).filter fun (i:Nat)=>hasO l (i:Int)).map fun (i:Nat)=>(i:Int):=by
 have key: ∀i:Nat,i<=62->sHas ((Ye l:Nat):Int) (i:Int)=hasO l (i:Int):=fun i h=>by
  rw [We _ _ h,W1,Bp,Vx]
  constructor
  ·rintro ⟨v,hv,e⟩;exact ⟨v,hv,by have:=hi v hv;omega⟩
  grind
 unfold XJ;rw [A8 (q:=fun (i:Nat)=>hasO l (i:Int)) (fun i hm=>key i (by grind)),M0 (n:=x.orders.length) (fun i h=> ?_) 63 Za]
 cases hh:hasO l (i:Int) with
 | false=>rfl
 | true =>
  obtain ⟨v,hv,e⟩:=Vx.1 hh;have:=hi v hv;omega
theorem aQ {x:Inst} {d:Nat} : ∀(L:List Nat) (g:Nat->Int),(L.map fun (i:Nat)=>(i:Int)).foldl (fun s (i:Int)=>if (nth x.orders i.toNat).pick.place<0 then DF s (nth x.orders i.toNat).load else s) ((List.range d).map g)=(List.range d).map fun j=>g j+(L.map fun i=>if (nth x.orders i).pick.place<0 then nth (nth x.orders i).load j else 0).sum
 | [],g=>Zb
 | i::L,g=>by
  rw [Zt,Yh,Xn]
  by_cases h:(nth x.orders i).pick.place<0
  ·have e:DF ((List.range d).map g) (nth x.orders i).load=(List.range d).map fun j=>g j+nth (nth x.orders i).load j:=by
    grind [DF,Y3,JS]
   rw [if_pos h,e,aQ L]
   grind
  ·rw [if_neg h,aQ L]
   grind
theorem SG {x:Inst} {l:List Vis} (hi:Inr x l) (hn:x.orders.length<=10):Ps x (dimsOf x.types).toNat (XJ ((Ye l:Nat):Int) 63) (XJ ((Ye l:Nat):Int) 63).length=Wy x l 0:=by
 rw [Ps,X5,Zfi hi hn];have:=aQ (x:=x) (d:=(dimsOf x.types).toNat) ((List.range x.orders.length).filter fun (i:Nat)=>hasO l (i:Int)) fun _=>0
 have e:(List.range (dimsOf x.types).toNat).map (fun _=>(0:Int))=List.replicate (dimsOf x.types).toNat 0:=by
  simp_all [List.map_const']
 rw [e] at this;rw [this,Wy];refine Y3 fun j _=> ?_;rw [Int.zero_add,As,CA]
 congr 1
 refine Y3 fun i _=> ?_
 grind [cU]
theorem fT {x:Inst} {l:List Vis} {n j:Nat} {d:Nat} (hj:j<d) (hld: ∀o∈x.orders,o.load.length=d/\ ∀n∈o.load,0<=n/\n<=1000) (hn:x.orders.length<=10):0<=CA x l n j/\CA x l n j<=10000:=by
 have key:=Pv (f:=fun i=>if i<x.orders.length then (if (Gf x l n i&&hasO l i)=true then nth (nth x.orders i).load j else 0) else 0) (b:=1000) Za (fun q=>by
  grind [Z0]) x.orders.length
 have e:CA x l n j=((List.range x.orders.length).map fun i=>if i<x.orders.length then (if (Gf x l n i&&hasO l i)=true then nth (nth x.orders i).load j else 0) else 0).sum:=by
  simp_all [CA,Y3]
 omega
theorem Td {x:Inst} {l:List Vis} {n j:Nat} (hj:j<(dimsOf x.types).toNat) (hd:LdOk x):0<=nth (Wy x l n) j/\nth (Wy x l n) j<=10000:=by
 rw [Wy,JS hj];exact fT hj (fun o ho=>by obtain ⟨h1,h2⟩:=hd.load o ho;grind) hd.ord
def pH {α:Type} (f:α->Bool) (l:List α):Int:=match l.findIdx? f with | some i=>(i:Int) | none=> -1
theorem aT {α:Type} [Inhabited α] {f:α->Bool} {l:List α} {k:Nat} (hk:k<l.length) (h:f (nth l k)=true) (hno: ∀j,j<k->f (nth l j)=false):pH f l=(k:Int):=by
 have:l.findIdx? f=some k:=by
  grind [Un,Zg]
 simp [pH,this]
theorem aV {α:Type} [Inhabited α] {f:α->Bool} {l:List α} (hno: ∀j,j<l.length->f (nth l j)=false):pH f l= -1:=by
 have:l.findIdx? f=none:=by
  rw [Db];intro x hx;obtain ⟨j,hj,rfl⟩:=Z1.1 hx
  grind [Zg]
 simp [pH,this]
theorem aU {α:Type} {f:α->Bool} {l:List α} :decide (0<=pH f l)=l.any f:=by
 grind [pH]
theorem RH (l:List (List Int)) (c:Bool) (g:FuncId) (caps:List V) (H:List AM.Obj) (f:List Int->Bool) (hl:l.length<=1048576) (hW:Mj H H.length H H) (hc:Xk H.length caps=true)
  (hg: ∀v∈l,ACalls Tryz.prog g (.p (pE v)::caps) H fun x H'=>x= .p (.bool (f v))/\H'=H) :
  ACalls Tryz.prog 267 [.p (.list c (l.map pE)),.fn (.func g) [] caps] H fun x H'=>x= .p (.int .i64 (pH f l))/\H'=H:=by
 refine Yz Tryz.func267 rfl wJ (Zf [] _ _ _ _ ?_);simp (disch:=omega) only [Tryz.f267,go_sem,seval];refine Zn [0,1,7] (fun k:Nat=> [(8,.p (.int .i64 k))]) (fun _=>H) (fun k=>k<=l.length/\ ∀j,j<k->f (nth l j)=false) (fun k=>l.length-k) 0 Zb (Weak.mk ?_) ?_
 ·simp (disch:=omega) only [hW,hc,go_sem,seval];simp
 ·rintro k ⟨hk,hno⟩;refine Zd ?_;refine cD ?_ ?_<;>intro h<;>simp (disch:=omega) only [Sh.out h,go_sem,seval,↓reduceIte]
  ·have hk2:k<l.length:=Za
   have hgk:=hg (nth l k) (Zz hk2);simp (disch:=omega) only [sM,go_sem,seval] at hgk;refine hgk.useH (Zd ?_);refine cD ?_ ?_<;>intro h2<;>simp (disch:=omega) only [Sh.out h2,go_sem,seval,↓reduceIte]
   ·grind [aT]
   ·have h3:f (nth l k)=false:=Za
    refine ⟨k+1,⟨Za,ZR.2 ⟨hno,h3⟩⟩,Za,Weak.mk ?_⟩;simp (disch:=omega) only [hW,hc,go_sem,seval];simp
  grind [aV]
theorem Hg (l:List (List Int)) (c:Bool) (g:FuncId) (caps:List V) (H:List AM.Obj) (f:List Int->Bool) (hl:l.length<=1048576) (hW:Mj H H.length H H) (hc:Xk H.length caps=true)
  (hg: ∀v∈l,ACalls Tryz.prog g (.p (pE v)::caps) H fun x H'=>x= .p (.bool (f v))/\H'=H) :
  ACalls Tryz.prog 243 [.p (.list c (l.map pE)),.fn (.func g) [] caps] H fun x H'=>x= .p (.bool (l.any f))/\H'=H:=by
 refine Yz Tryz.func243 rfl vP (Zf [] _ _ _ _ ?_);simp (disch:=omega) only [Tryz.f243,go_sem,seval];refine (RH l c g caps H f hl hW hc hg).useH (Zd ?_);rw [aU]
theorem dI (x:Inst) (r:Rte) (hx:InstOk x) (hl:r.visits.length<=1048576):PC 211 [.p (ZW x),.p (KO r)] (.int .i64 (Xt x r.visits)):=by
 have hf:=YB hx;obtain ⟨h1,h2⟩:=Uq.1 hx.rules
 have ha:x.apart.length<=1048576:=by
  have h3:=(Uq.1 h1).1
  grind [Mo]
 have hb:x.before.length<=1048576:=by
  have h3:=(Uq.1 h2).1
  grind [Mo]
 exact NI x r (by have:=hf.len;omega) hl ha hb
theorem mB {x:Inst} {l:List Vis} (hi:Inr x l) (hn:x.orders.length<=10):EC l=(((Ye l:Nat):Int),0):=by
 rw [EC,if_pos];rw [ZH];intro v hv;have:=hi v hv;simp [SU];omega
theorem Zlz {α:Type} (f:Nat->α) (n:Nat):(List.range n).map f++ [f n]=(List.range (n+1)).map f:=by grind [Yq]
theorem BM {P Q:Prop} (h:Q) (e:Q->P:=by intro h;simp (disch:=omega) only [Zt,Zm,Z7,ZX,go_sem,seval];exact h):P:=e h
theorem dF (x:Inst) (r:Rte) (hx:InstOk x) (hl:r.visits.length<=1048576) (h0:Xt x r.visits=0) :
  PT 242 [.p (ZW x),.p (KO r)] [.p (.list false ((En x r.visits).map pE)),.p (.int .i64 0)]:=by
 have hd:=A1 hx;have hsq:=Vr h0;have hol:=hd.ord;have hso:=LZ r hl;rw [mB hsq.inr hol] at hso
 have hD:dimsOf x.types=((dimsOf x.types).toNat:Int):=by have:=hd.dim;omega
 have cd:=mF x.types x.types_c hd.typ;rw [hD] at cd;have hst:=SG hsq.inr hol
 have hmem: ∀i∈XJ ((Ye r.visits:Nat):Int) 63,0<=i/\i<(x.orders.length:Int):=fun i hi=>by
  rw [Zfi hsq.inr hol] at hi
  grind
 have cs:=nK x ((Ye r.visits:Nat):Int) (dimsOf x.types).toNat (by have:=hd.dim;omega) Za hmem (Bg _ _) (fun o ho=>by have:=hd.load o ho;grind);rw [hst] at cs;refine Zj [20] Tryz.func242 rfl vO ?_;simp (disch:=omega) only [Tryz.f242,go_sem,seval];refine (dI x r hx hl).use (Zd ?_);simp (disch:=omega) only [h0,go_sem,seval];refine Vc hso (Zd ?_);refine XN (Zd ?_);refine Zo (cd) (Zd ?_);refine Zo (cs) (Zd ?_);refine XG [20] [2,37,38] (fun q:Nat×List (List Int)=> [(9,.p (.list false ((Wy x r.visits q.1).map eI))),(10,.sl 2 0 q.2.length q.2.length),(39,.p (.int .i64 q.1))]) (fun q=> [Zh x,YJ r,.elems 1 (q.2.map pE)]) (fun q=>q.1<=r.visits.length/\q.2=(List.range (q.1+1)).map (Wy x r.visits)) (fun q=>r.visits.length-q.1) (0,[Wy x r.visits 0]) Zb (Weak.mk ?_) ?_
 ·simp (disch:=omega) only [Zh,YJ,Zm,Zt,ZY,ZL,go_sem,seval]
 ·rintro ⟨k,o⟩ ⟨hk,ho⟩;simp only at hk ho
  have hol2:o.length=k+1:=by rw [ho];simp
  refine GB ?_;refine cD ?_ ?_<;>intro h1<;>simp (disch:=omega) only [Sh.out h1,go_sem,seval,↓reduceIte]
  ·have hk2:k<r.visits.length:=Za
   obtain ⟨v1,v2⟩:=hsq.inr _ (Zz hk2)
   have hi:(nth r.visits k).order.toNat<x.orders.length:=Za
   obtain ⟨l1,l2⟩:=hd.load _ (Z0 hi);have hsu:=PJ hsq hk2;have hal:=Io (x:=x) (l:=r.visits) (n:=k);have hdm:=hd.dim
   have hrg: ∀j,j<(Wy x r.visits k).length-> -1073741824<=nth (Wy x r.visits k) j/\nth (Wy x r.visits k) j<=1073741824/\ -1073741824<=nth (nth x.orders (nth r.visits k).order.toNat).load j/\nth (nth x.orders (nth r.visits k).order.toNat).load j<=1073741824:=fun j hj=>by
    have b1:=Td (x:=x) (l:=r.visits) (n:=k) (j:=j) Za hd
    grind [Z0]
   refine cD ?_ ?_<;>intro h2<;>simp (disch:=omega) only [Sh.out h2,go_sem,seval,↓reduceIte]
   ·rw [if_pos h2] at hsu;refine Vc (xY (Wy x r.visits k) (nth x.orders (nth r.visits k).order.toNat).load false (nth x.orders (nth r.visits k).order.toNat).load_c Za Za hrg) (Zd ?_);exact ⟨(k+1,o++ [Wy x r.visits (k+1)]),⟨Za,by grind⟩,Za,Weak.mk (by simp (disch:=omega) only [hsu,Zy,ZL,ZY,Yg,Zt,Zm,go_sem,seval])⟩
   ·rw [if_neg (by rw [h2];simp)] at hsu;refine Vc (dC (Wy x r.visits k) (nth x.orders (nth r.visits k).order.toNat).load false (nth x.orders (nth r.visits k).order.toNat).load_c Za Za hrg) (Zd ?_);exact ⟨(k+1,o++ [Wy x r.visits (k+1)]),⟨Za,by grind⟩,Za,Weak.mk (by simp (disch:=omega) only [hsu,Zy,ZL,ZY,Yg,Zt,Zm,go_sem,seval])⟩
  ·have hkl:k=r.visits.length:=Za
   subst hkl;refine Zr (Weak.fz (o:=2) (by rfl)) (Zf [] _ _ _ _ (BM ?_));rw [En,<- ho];exact we
theorem kR (x:Inst) (r:Rte) (a:List Int) (htl:x.types.length<=1048576) (hty:0<=r.typ/\r.typ<(x.types.length:Int)) (ha:a.length<=1048576) (hc:(ZG x r).cap.length<=1048576) :
  ACalls Tryz.prog 244 [.p (pE a),.ptr 0 0,.ptr 1 0] [Zh x,YJ r] fun y H'=>y= .p (.bool (!Jo a (ZG x r).cap))/\H'= [Zh x,YJ r]:=by
 have hti:r.typ.toNat<x.types.length:=Za
 refine Zj [] Tryz.func244 rfl vQ ?_;simp (disch:=omega) only [Tryz.f244,Zh,YJ,go_sem,seval];refine (mH a (ZG x r).cap false (ZG x r).cap_c ha hc).use (Zd ?_);exact we
theorem dD (x:Inst) (r:Rte) (hx:InstOk x) (hl:r.visits.length<=1048576) (hty:0<=r.typ/\r.typ<(x.types.length:Int)) (h0:Xt x r.visits=0) :
  PC 213 [.p (ZW x),.p (KO r)] (.int .i64 (if Qx x (ZG x r).cap r.visits=true then 0 else 17)):=by
 have hd:=A1 hx;have htl:=hd.typ
 have hti:r.typ.toNat<x.types.length:=Za
 have hcp:(ZG x r).cap.length<=1048576:=by
  have hcap:=hx.types.2 _ hti;unfold VW at hcap;obtain ⟨⟨⟨⟨⟨⟨⟨⟨_,_⟩,_⟩,_⟩,hcap⟩,_⟩,_⟩,_⟩,_⟩:=hcap;simp only [Va,Zs,Zp,rng] at hcap;unfold ZG;omega
 have hll:(En x r.visits).length=r.visits.length+1:=by simp [En]
 have hvl:=(Vr h0).len hd.ord
 have hall:(En x r.visits).any (fun a=> !Jo a (ZG x r).cap)= !Qx x (ZG x r).cap r.visits:=by
  grind [Qx,En]
 have e1: ¬r.typ<0:=Za
 have e2: ¬(x.types.length:Int)<=r.typ:=Za
 refine Zc Tryz.func213 rfl uV ?_;simp (disch:=omega) only [Tryz.f213,e1,e2,go_sem,seval];refine Vc (dF x r hx hl h0) (Zd ?_);refine (Hg (En x r.visits) false 244 [.ptr 0 0,.ptr 1 0] [Zh x,YJ r] (fun a=> !Jo a (ZG x r).cap) Za (by simp (disch:=omega) only [Zh,YJ,go_sem,seval]) (by rfl) (fun a ha=>kR x r a htl hty ?_ hcp)).useH ?_
 ·obtain ⟨j,_,rfl⟩:=Xj.1 ha;rw [Io];have:=hd.dim;omega
 ·refine GB ?_;rw [hall];refine cD ?_ ?_<;>intro h1<;>simp (disch:=omega) only [Sh.out h1,go_sem,seval]
  ·grind
  grind
theorem Fk (l:List Int) (c:Bool) (hl:l.length<=1048576):ACalls Tryz.prog 94 [.p (.list c (l.map eI))] [] fun y H'=>y= .sl 0 0 l.length l.length/\H'= [.elems 1 (l.map eI)]:=by
 refine Zj [1] Tryz.func94 rfl Ze4 ?_;simp (disch:=omega) only [Tryz.f94,go_sem,seval];refine Wj (DP (e:=3) (cl:=c) (xs:=l.map eI) Tryz.underlying55 (by rfl) Zb fun b hb=> ?_);refine Zf [] _ _ _ _ ?_;simp (disch:=omega) only [go_sem,seval];refine cD ?_ ?_<;>intro h<;>simp (disch:=omega) only [Sh.out h,go_sem,seval]
 ·have:l= []:=by simpa using hb h
  subst this;exact ⟨_,_,Weak.nil 0 1 rfl Zb,rfl,rfl⟩
 ·refine Zf [] _ _ _ _ ?_;simp (disch:=omega) only [go_sem,seval];exact we
theorem J5 {P:Program} {e:TypeId} {k:Nat} {cs:List PV} {kk:IntKind} {n:Int} {x:PV} (h0:0<=n) (h1:n<k) (hx:apart P e cs n.toNat=some x) (ht:YO P e=some 1):Ip P (some (.array k e)) (.p (.agg cs)) (.p (.int kk n))=some (.p x):=by
 simp_all [Ip]
def Zdu (s:Sco):PV:= .agg [.int .i64 s.cost,.int .i64 s.moved,.int .i64 s.other,.int .i64 s.work]
@[go_sem] theorem Zg3 (s:Sco):Zdu s= .agg [.int .i64 s.cost,.int .i64 s.moved,.int .i64 s.other,.int .i64 s.work]:=Zi rfl rfl
theorem dJ (s:Sco):PC 176 [.p (IS s)] (Zdu s):=by
 refine Zj [] Tryz.func176 rfl uM ?_;simp (disch:=omega) only [Tryz.f176,go_sem,seval];exact we
def C4 (B:Int) (s:Sco):Prop:=(-B<=s.cost/\s.cost<=B)/\(-B<=s.moved/\s.moved<=B)/\(-B<=s.other/\s.other<=B)/\(-B<=s.work/\s.work<=B)
def iK (s:Sco):AM.Obj:= .cells [.p (.int .i64 s.cost),.p (.int .i64 s.moved),.p (.int .i64 s.other),.p (.int .i64 s.work)]
def Wg (s:Sco):Int×Int:=if s.cost<0\/s.moved<0\/s.other<0\/s.work<0 then (0,2) else if 1073741824<s.cost\/16<=s.moved\/16<=s.other\/65536<=s.work then (0,4) else (((s.cost*16+s.moved)*16+s.other)*65536+s.work,0)
theorem Gj (s:Sco) (hs:C4 1152921504606846976 s):PT 139 [.p (IS s)] [.p (.int .i64 (Wg s).1),.p (.int .i64 (Wg s).2)]:=by
 obtain ⟨a1,a2,a3,a4⟩:=hs;refine Zj [] Tryz.func139 rfl tU ?_;simp (disch:=omega) only [Tryz.f139,go_sem,seval];refine (dJ s).use (Zd ?_);refine Zn [1,9] (fun k:Nat=> [(10,.p (.int .i64 k))]) (fun _=> [iK s,iK s]) (fun k=>k<=4/\(0<k->0<=s.cost)/\(1<k->0<=s.moved)/\(2<k->0<=s.other)/\(3<k->0<=s.work)) (fun k=>4-k) 0 ⟨Za,Za,Za,Za,Za⟩ (Weak.mk ?_) ?_
 ·simp (disch:=omega) only [iK,go_sem,seval]
 ·rintro k ⟨hk,k1,k2,k3,k4⟩;simp (disch:=omega) only [iK,go_sem,seval];refine cD ?_ ?_<;>intro h1<;>simp (disch:=omega) only [Sh.out h1,go_sem,seval,↓reduceIte]
  ·have:k=0\/k=1\/k=2\/k=3:=Za
   rcases this with rfl | rfl | rfl | rfl
   ·rw [J5 (x:= .int .i64 s.cost) Za Za (by rfl) Ze];refine Zd ?_;refine Xm ?_ ?_<;>intro h2
    ·have e:Wg s=(0,2):=by simp_all [Wg]
     rw [e];exact we
    ·exact ⟨1,⟨Za,fun _=>Za,Za,Za,Za⟩,Za,wk⟩
   ·rw [J5 (x:= .int .i64 s.moved) Za Za (by rfl) Ze];refine Zd ?_;refine Xm ?_ ?_<;>intro h2
    ·have e:Wg s=(0,2):=by simp_all [Wg]
     rw [e];exact we
    ·exact ⟨2,⟨Za,fun _=>k1 Za,fun _=>Za,Za,Za⟩,Za,wk⟩
   ·rw [J5 (x:= .int .i64 s.other) Za Za (by rfl) Ze];refine Zd ?_;refine Xm ?_ ?_<;>intro h2
    ·have e:Wg s=(0,2):=by simp_all [Wg]
     rw [e];exact we
    ·exact ⟨3,⟨Za,fun _=>k1 Za,fun _=>k2 Za,fun _=>Za,Za⟩,Za,wk⟩
   ·rw [J5 (x:= .int .i64 s.work) Za Za (by rfl) Ze];refine Zd ?_;refine Xm ?_ ?_<;>intro h2
    ·have e:Wg s=(0,2):=by simp_all [Wg]
     rw [e];exact we
    ·exact ⟨4,⟨Za,fun _=>k1 Za,fun _=>k2 Za,fun _=>k3 Za,fun _=>Za⟩,Za,wk⟩
  ·have hk4:k=4:=Za
   subst hk4;have g1:=k1 Za;have g2:=k2 Za;have g3:=k3 Za;have g4:=k4 Za
   have n1: ¬(s.cost<0\/s.moved<0\/s.other<0\/s.work<0):=Za
   have bad:(1073741824<s.cost\/16<=s.moved\/16<=s.other\/65536<=s.work)->Wg s=(0,4):=fun h=>by simp_all [Wg]
   refine gF ?_ ?_<;>intro h2<;>simp (disch:=omega) only [Sh.out h2,go_sem,seval,↓reduceIte]
   ·rw [bad Za];exact we
   ·refine gF ?_ ?_<;>intro h3<;>simp (disch:=omega) only [Sh.out h3,go_sem,seval,↓reduceIte]
    ·rw [bad Za];exact we
    ·refine gF ?_ ?_<;>intro h4<;>simp (disch:=omega) only [Sh.out h4,go_sem,seval,↓reduceIte]
     ·rw [bad Za];exact we
     ·refine cD ?_ ?_<;>intro h5<;>simp (disch:=omega) only [Sh.out h5,go_sem,seval,↓reduceIte]
      ·rw [bad Za];exact we
      ·have e:Wg s=(((s.cost*16+s.moved)*16+s.other)*65536+s.work,0):=by simp_all [Wg,if_neg]
       rw [e];exact we
def Ws (x:Inst) (i:Int):Sco×Int :=
 if i<0\/(x.orders.length:Int)<=i then (zSco,2)
 else if (nth x.orders i.toNat).off=true then (zSco,9)
 else if (nth x.orders i.toNat).penalty= -1 then (zSco,23)
 else (⟨(nth x.orders i.toNat).penalty,if (nth x.orders i.toNat).now= -1 then 0 else 1,0,0⟩,0)
theorem LI (x:Inst) (i:Int) (ho:x.orders.length<=1048576):PT 138 [.p (ZW x),.p (.int .i64 i)] [.p (IS (Ws x i).1),.p (.int .i64 (Ws x i).2)]:=by
 refine Zj [] Tryz.func138 rfl tT ?_;simp (disch:=omega) only [Tryz.f138,go_sem,seval];refine gF ?_ ?_<;>intro h1<;>simp (disch:=omega) only [Sh.out h1,go_sem,seval,↓reduceIte]
 ·have e:Ws x i=(zSco,2):=by simp_all [Ws]
  rw [e];exact we (by simp (disch:=omega) only [zSco,go_sem,seval])
 ·refine cD ?_ ?_<;>intro h2<;>simp (disch:=omega) only [Sh.out h2,go_sem,seval,↓reduceIte]
  ·have e:Ws x i=(zSco,2):=by simp_all [Ws]
   rw [e];exact we (by simp (disch:=omega) only [zSco,go_sem,seval])
  ·have hi:i.toNat<x.orders.length:=Za
   have n1: ¬(i<0\/(x.orders.length:Int)<=i):=Za
   refine cD ?_ ?_<;>intro h3<;>simp (disch:=omega) only [Sh.out h3,go_sem,seval,↓reduceIte]
   ·have e:Ws x i=(zSco,9):=by simp_all [Ws]
    rw [e];exact we (by simp (disch:=omega) only [zSco,go_sem,seval])
   ·have h3': ¬(nth x.orders i.toNat).off=true:=by rw [h3];simp
    refine cD ?_ ?_<;>intro h4<;>simp (disch:=omega) only [Sh.out h4,go_sem,seval,↓reduceIte]
    ·have e:Ws x i=(zSco,23):=by simp_all [Ws]
     rw [e];exact we (by simp (disch:=omega) only [zSco,go_sem,seval])
    ·refine cD ?_ ?_<;>intro h5<;>simp (disch:=omega) only [Sh.out h5,go_sem,seval,↓reduceIte]
     ·have e:Ws x i=(⟨(nth x.orders i.toNat).penalty,1,0,0⟩,0):=by simp_all [Ws]
      rw [e];exact we
     ·have h5':(nth x.orders i.toNat).now= -1:=Za
      have e:Ws x i=(⟨(nth x.orders i.toNat).penalty,0,0,0⟩,0):=by simp_all [Ws]
      rw [e];exact we
def dV (s:Sco):Prop:=0<=s.cost/\0<=s.moved/\0<=s.other/\0<=s.work
theorem Mg {s:Sco} (hs:dV s):(Wg s).2=0↔s.cost<=1073741824/\s.moved<16/\s.other<16/\s.work<65536:=by
 obtain ⟨a1,a2,a3,a4⟩:=hs;unfold Wg
 grind
theorem gB {s:Sco} (hs:dV s) (h:(Wg s).2=0):(Wg s).1=((s.cost*16+s.moved)*16+s.other)*65536+s.work:=by
 have h:=(Mg hs).1 h;obtain ⟨a1,a2,a3,a4⟩:=hs
 simp_all [Wg,if_neg]
theorem fX {x:Inst} (hx:InstOk x) (i:Int):C4 1073741824 (Ws x i).1:=by
 unfold Ws
 split
 ·simp [C4,zSco]
 ·split
  ·simp [C4,zSco]
  ·split
   ·simp [C4,zSco]
   ·have ha:=(hx.orders.2 i.toNat Za).arg;simp only [argOk,rng,Zs,Zp] at ha
    grind [C4]
theorem Gy {a:Sco} {B C:Int} (h:B<=C) (ha:C4 B a):C4 C a:=by
 grind [C4]
def IT (x:Inst) (t:Typ) (r:Rte) (c:Bool) (sp:List Stp):PV:= .agg [.list x.net.places_c (x.net.places.map eS),.list x.net.arcs_c (x.net.arcs.map Um),.list x.types_c (x.types.map XY),.list x.orders_c (x.orders.map Yc),.list x.apart_c (x.apart.map eP),.list x.before_c (x.before.map eP),.str t.name,.int .i64 t.count,.int .i64 t.src,.int .i64 t.dst,.list t.cap_c (t.cap.map eI),.int .i64 t.skills,.int .i64 t.prof,.int .i64 t.opn,.int .i64 t.cls,.int .i64 t.drive,.int .i64 t.rest,.int .i64 t.fixed,.int .i64 t.perMile,.int .i64 t.perTick,.int .i64 r.typ,.int .i64 r.start,.list r.rests_c (r.rests.map eB),.list r.visits_c (r.visits.map XB),.list c (sp.map Ft)]
@[go_sem] theorem Zhk (x:Inst) (t:Typ) (r:Rte) (c:Bool) (sp:List Stp):IT x t r c sp= .agg [.list x.net.places_c (x.net.places.map eS),.list x.net.arcs_c (x.net.arcs.map Um),.list x.types_c (x.types.map XY),.list x.orders_c (x.orders.map Yc),.list x.apart_c (x.apart.map eP),.list x.before_c (x.before.map eP),.str t.name,.int .i64 t.count,.int .i64 t.src,.int .i64 t.dst,.list t.cap_c (t.cap.map eI),.int .i64 t.skills,.int .i64 t.prof,.int .i64 t.opn,.int .i64 t.cls,.int .i64 t.drive,.int .i64 t.rest,.int .i64 t.fixed,.int .i64 t.perMile,.int .i64 t.perTick,.int .i64 r.typ,.int .i64 r.start,.list r.rests_c (r.rests.map eB),.list r.visits_c (r.visits.map XB),.list c (sp.map Ft)]:=Zi rfl rfl
def yZ (x:Inst) (t:Typ) (r:Rte):List V:= [.p (.list x.net.places_c (x.net.places.map eS)),.p (.list x.net.arcs_c (x.net.arcs.map Um)),.p (.list x.types_c (x.types.map XY)),.p (.list x.orders_c (x.orders.map Yc)),.p (.list x.apart_c (x.apart.map eP)),.p (.list x.before_c (x.before.map eP)),.p (.str t.name),.p (.int .i64 t.count),.p (.int .i64 t.src),.p (.int .i64 t.dst),.p (.list t.cap_c (t.cap.map eI)),.p (.int .i64 t.skills),.p (.int .i64 t.prof),.p (.int .i64 t.opn),.p (.int .i64 t.cls),.p (.int .i64 t.drive),.p (.int .i64 t.rest),.p (.int .i64 t.fixed),.p (.int .i64 t.perMile),.p (.int .i64 t.perTick),.p (.int .i64 r.typ),.p (.int .i64 r.start),.p (.list r.rests_c (r.rests.map eB)),.p (.list r.visits_c (r.visits.map XB))]
def YU (x:Inst) (t:Typ) (r:Rte) (c:Bool) (sp:List Stp):AM.Obj:= .cells [.p (.list x.net.places_c (x.net.places.map eS)),.p (.list x.net.arcs_c (x.net.arcs.map Um)),.p (.list x.types_c (x.types.map XY)),.p (.list x.orders_c (x.orders.map Yc)),.p (.list x.apart_c (x.apart.map eP)),.p (.list x.before_c (x.before.map eP)),.p (.str t.name),.p (.int .i64 t.count),.p (.int .i64 t.src),.p (.int .i64 t.dst),.p (.list t.cap_c (t.cap.map eI)),.p (.int .i64 t.skills),.p (.int .i64 t.prof),.p (.int .i64 t.opn),.p (.int .i64 t.cls),.p (.int .i64 t.drive),.p (.int .i64 t.rest),.p (.int .i64 t.fixed),.p (.int .i64 t.perMile),.p (.int .i64 t.perTick),.p (.int .i64 r.typ),.p (.int .i64 r.start),.p (.list r.rests_c (r.rests.map eB)),.p (.list r.visits_c (r.visits.map XB)),.p (.list c (sp.map Ft))]
def zM : AM.Obj:= .cells [.p (.list true []),.p (.list true []),.p (.list true []),.p (.list true []),.p (.list true []),.p (.list true []),.p (.str []),.p (.int .i64 0),.p (.int .i64 0),.p (.int .i64 0),.p (.list true []),.p (.int .i64 0),.p (.int .i64 0),.p (.int .i64 0),.p (.int .i64 0),.p (.int .i64 0),.p (.int .i64 0),.p (.int .i64 0),.p (.int .i64 0),.p (.int .i64 0),.p (.int .i64 0),.p (.int .i64 0),.p (.list true []),.p (.list true []),.p (.list true [])]
def QS (L:Lab):PV:= .agg [.int .i64 L.ready,.int .i64 L.since,.bool L.she.rest,.int .i64 L.she.dep,.list L.she.times_c (L.she.times.map eTim),.int .i64 L.she.fin,.int .i64 L.she.miles]
@[go_sem] theorem Zhb (L:Lab):QS L= .agg [.int .i64 L.ready,.int .i64 L.since,.bool L.she.rest,.int .i64 L.she.dep,.list L.she.times_c (L.she.times.map eTim),.int .i64 L.she.fin,.int .i64 L.she.miles]:=Zi rfl rfl
@[go_sem] theorem Zau (l:List Lab):AA 7 (l.map QS)=true:=AB (f:=QS) (S:=7) (fun _=>rfl) l
def Wq (L:Lab):AM.Obj:= .cells [.p (.int .i64 L.ready),.p (.int .i64 L.since),.p (.bool L.she.rest),.p (.int .i64 L.she.dep),.p (.list L.she.times_c (L.she.times.map eTim)),.p (.int .i64 L.she.fin),.p (.int .i64 L.she.miles)]
theorem TQ (l:List Tim) (c:Bool) (hl:l.length<=1048576):ACalls Tryz.prog 282 [.p (.list c (l.map eTim))] [] fun x H'=>x= .sl 0 0 l.length l.length/\H'= [.elems 4 (l.map eTim)]:=by
 suffices hh:ACalls Tryz.prog 282 [.p (.list c (l.map eTim))] [] fun x H'=> ∃m:List Tim,m=l/\x= .sl 0 0 m.length m.length/\H'= [.elems 4 (m.map eTim)] by
  grind
 refine Zj [1] Tryz.func282 rfl wU ?_;simp (disch:=omega) only [Tryz.f282,go_sem,seval];refine Wj (Wj (jF 1 rfl rfl ?_));refine ⟨_,lV (e:=335) rfl Tryz.underlying247 rfl (fun _=>rfl),?_⟩;rintro _ ⟨b,rfl,hb⟩;refine Zd ?_;refine Zf [] _ _ _ _ ?_
 cases b with
 | true =>
  have hn:l= []:=by simp_all
  subst hn;refine Zd ?_;exact ⟨_,_,Weak.ofNil 0 4 rfl Zb (wk),[],rfl,rfl,rfl⟩
 | false =>
  refine Zd ?_;refine Zf [] _ _ _ _ (Zd ?_);exact ⟨.sl 0 0 l.length l.length,[.elems 4 (l.map eTim)],wk,l,rfl,rfl,rfl⟩
theorem FF (x:Inst) (t:Typ) (r:Rte) (c:Bool) (sp:List Stp):PC 247 [.p (IT x t r c sp)] (QS (labF t r.start)):=by
 refine Zj [] Tryz.func247 rfl vS ?_;simp (disch:=omega) only [Tryz.f247,go_sem,seval];exact we (by simp (disch:=omega) only [labF,zShe,Zm,go_sem,seval])
theorem dW (x:Inst) (t:Typ) (r:Rte) (c:Bool) (sp:List Stp) (k:Nat) (hk:k<=sp.length) (hl:sp.length<=1048576):PC 283 [.p (IT x t r c sp),.p (.int .i64 (k:Nat))] (.int .i64 (Ai t sp k)):=by
 refine Zc Tryz.func283 rfl wV ?_;simp (disch:=omega) only [Tryz.f283,go_sem,seval];refine cD ?_ ?_<;>intro h<;>simp (disch:=omega) only [Sh.out h,go_sem,seval,↓reduceIte]
 ·simp_all [Ai]
 simp_all [Ai]
theorem yD (x:Inst) (r:Rte) (hx:InstOk x) (hty:0<=r.typ/\r.typ<(x.types.length:Int)) (h0:Xt x r.visits=0) (hs:0<=r.start/\r.start<=4096) :
  PT 246 [.p (ZW x),.p (KO r)] [.p (IT x (ZG x r) r false (ZS x r.visits)),.p (.bool true)]:=by
 have hd:=A1 hx;have hsq:=Vr h0;have hol:=hd.ord;have htl:=hd.typ;have hvl:=hsq.len hol
 have e1: ¬r.typ<0:=Za
 have e2: ¬(x.types.length:Int)<=r.typ:=Za
 have e3: ¬r.start<0:=Za
 have e4: ¬ 4096<r.start:=Za
 have e5: ¬ 20<(r.visits.length:Int):=Za
 refine Zj [12] Tryz.func246 rfl bK ?_;simp (disch:=omega) only [Tryz.f246,e1,e2,e3,e4,e5,go_sem,seval];refine Vf [9] 10 mixed Ze Ze Ze Zb (Zd ?_);refine YZ 9 _ _ Ze (by refine Zd ?_;exact ⟨rfl,rfl⟩) (Q0 ?_);refine Zd ?_
 refine XG [12] [2,4,6,49,50] (fun q:Nat×List Stp=> [(51,.p (.int .i64 q.1))])
  (fun q=> [Zh x,YJ r,zM,.cells (yZ x (ZG x r) r++ [.sl 4 0 q.2.length q.2.length]),.elems 4 (q.2.map Ft)])
  (fun q=>q.1<=r.visits.length/\q.2=(ZS x r.visits).take q.1) (fun q=>r.visits.length-q.1) (0,[]) Zb ((Weak.nilC (o:=3) (j:=24) 4 rfl rfl Zb).trans (Weak.mk ?_)) ?_
 ·simp (disch:=omega) only [Zh,YJ,zM,yZ,ZG,Zm,ZY,Z7,ZX,ZP,ZA,go_sem,seval]
 ·rintro ⟨k,o⟩ ⟨hk,ho⟩;simp only at hk ho
  have hol2:o.length=k:=by grind [YT]
  simp (disch:=omega) only [Zh,YJ,zM,yZ,go_sem,seval];refine cD ?_ ?_<;>intro h1<;>simp (disch:=omega) only [Sh.out h1,go_sem,seval,↓reduceIte]
  ·have hk2:k<r.visits.length:=Za
   have hvis:=hsq.vis (Zz hk2);simp only [nW,Zs,Zp] at hvis
   have hsn:o++ [Xg x (nth r.visits k)]=(ZS x r.visits).take (k+1):=by
    rw [ho,Yu (by grind [YT]),<- Zg,NM hk2]
   have hnp: ¬(Xg x (nth r.visits k)).place<0:=Za
   refine Vc (O9 x (nth r.visits k) Za hvis.1 hvis.2) ?_;simp (disch:=omega) only [hnp,go_sem,seval];exact ⟨(k+1,o++ [Xg x (nth r.visits k)]),⟨Za,hsn⟩,Za,Weak.mk (by simp (disch:=omega) only [Zy,ZL,ZY,Yg,Zt,Zm,go_sem,seval])⟩
  ·have hkl:k=r.visits.length:=Za
   subst hkl
   have hso:o=ZS x r.visits:=by grind [YT]
   subst hso;refine Zr (Weak.fz (o:=4) (by rfl)) (Zf [] _ _ _ _ (BM ?_));exact we
def L3 (rd sn:Int) (m:She):AM.Obj:= .cells [.p (.int .i64 rd),.p (.int .i64 sn),.p (.bool m.rest),.p (.int .i64 m.dep),.sl 4 0 m.times.length m.times.length,.p (.int .i64 m.fin),.p (.int .i64 m.miles)]
theorem D2 {P:Program} {H:List AM.Obj} {f ars} {a b d:PV} {B:V->Prop} {t} (h:ACalls P f ars [] fun x H'=>x= .tup [.p a,.p b,.p d]/\H'= []) (k:B (.tup [.p a,.p b,.p d])) (ha:Xk 0 ars=true:=by rfl) :
  SR (fun y=>ACalls P f ars H (Zq (Zq (fun x H'=>x=y/\H'=H) ⟨⟩) ⟨⟩)) (Zq B t) :=
 ⟨.tup [.p a,.p b,.p d],(h.behind ha H).mono fun x H' hq=>by
  obtain ⟨y,H1,⟨rfl,rfl⟩,rfl,rfl⟩:=hq
  simp [shV,shVs,Zq],k⟩
theorem xN (x:Inst) (t:Typ) (r:Rte) (c:Bool) (sp:List Stp) (hok:TrpOk x t sp) (k:Nat) (hk:k<=sp.length) (hs1:0<sp.length) (L:Lab) (hL:LabR k L) (hlen:L.she.times.length=k) (hclip:0<k->L.she.times_c=false) (b:Bool) :
  PT 268 [.p (IT x t r c sp),.p (QS L),.p (.int .i64 (k:Nat)),.p (.bool b)] [.p (QS (nxtF x t sp k L b).1),.p (.int .i64 (nxtF x t sp k L b).2)]:=by
 have hd:=DY hok hL b;have hsn:=L4 hL b;have hg:=OD hok hL b;have hmi:=hL.mil;have hrd:=hL.rdy;have hsnL:=hL.snc;have hsl:=hok.len;have hrst:=hok.rst;unfold nxtF;have hmm:= @CS k (Xh t L b) b L.she;have hmf:= @RS k (Xh t L b) b L.she;have hml:= @Ce k (Xh t L b) b L.she;refine Zj [2,7,14,31] Tryz.func268 rfl wK ?_;simp (disch:=omega) only [Tryz.f268,go_sem,seval];refine XN (Zd ?_);refine ZD [2,3,4,5,8] (fun _:Unit=> [(10,.p (.int .i64 (Xh t L b))),(11,.p (.int .i64 (UI L b)))]) (fun _=> [YU x t r c sp,Wq L,Wq WH]) (fun _=>True) ?_ ?_
 ·refine Zd ?_;refine Xm ?_ ?_<;>intro h
  ·subst h;exact ⟨(),Weak.mk (by simp (disch:=omega) only [YU,Wq,WH,zShe,Xh,UI,Zm,go_sem,seval,↓reduceIte])⟩
  ·subst h;exact ⟨(),Weak.mk (by simp (disch:=omega) only [YU,Wq,WH,zShe,Xh,UI,Zm,go_sem,seval,↓reduceIte])⟩
 ·intro _ _;refine Zf [7,14,31] _ _ _ _ ?_;simp (disch:=omega) only [YU,Wq,WH,zShe,Zm,go_sem,seval];refine (TQ L.she.times L.she.times_c Za).useF (Zd ?_)
  generalize hM:YN k (Xh t L b) b L.she=M at *
  refine ZD [2,4,8,10,11,12] (fun _:Unit=> []) (fun _=> [YU x t r c sp,Wq L,Wq WH,L3 0 0 M,.elems 4 (M.times.map eTim)]) (fun _=>True) ?_ ?_
  ·refine Zd ?_;refine Xm ?_ ?_<;>intro h
   ·have hk0:k=0:=Za
    subst hk0
    have e:M= { L.she with rest:=b,dep:=Xh t L b } :=by rw [<- hM,YN,if_pos rfl]
    rw [e];exact ⟨(),Weak.mk (by simp (disch:=omega) only [YU,Wq,WH,zShe,L3,Zm,go_sem,seval])⟩
   ·have e1:((k:Int)-1).toNat=k-1:=Za
    have hk1:k-1<L.she.times.length:=Za
    have OH:(L.she.times.map eTim).set (k-1) (PV.agg [.int .i64 (nth L.she.times (k-1)).arr,.int .i64 (nth L.she.times (k-1)).beg,.int .i64 (nth L.she.times (k-1)).dep,.bool b])=(L.she.times.set (k-1) { nth L.she.times (k-1) with rest:=b }).map eTim:=by
     rw [UN];rfl
    have hn1:nth (L.she.times.set (k-1) { nth L.she.times (k-1) with rest:=b }) (k-1)= { nth L.she.times (k-1) with rest:=b } :=by
     grind [Zg]
    have hl1:(L.she.times.set (k-1) { nth L.she.times (k-1) with rest:=b }).length=L.she.times.length:=Zb
    have hMt:M.times=(L.she.times.set (k-1) { nth L.she.times (k-1) with rest:=b }).set (k-1) { nth (L.she.times.set (k-1) { nth L.she.times (k-1) with rest:=b }) (k-1) with dep:=Xh t L b } :=by
     rw [hn1,List.set_set,<- hM,YN,if_neg Za];rfl
    have hM2:M.rest=L.she.rest/\M.dep=L.she.dep:=by rw [<- hM,YN,if_neg Za];simp
    simp (disch:=first | omega | (simp only [ZL,ZY,Zy,ZB,Xy,XR]<;>omega)) only [e1,go_sem,seval,↓reduceIte];rw [OH]
    generalize L.she.times.set (k-1) { nth L.she.times (k-1) with rest:=b } =l1 at *
    simp (disch:=first | omega | (simp only [ZL,ZY,Zy,ZB,Xy,XR]<;>omega)) only [e1,hl1,eq_self,V4,go_sem,seval];refine ⟨(),Weak.mk ?_⟩;simp (disch:=omega) only [YU,Wq,WH,zShe,L3,Zm,hM2.1,hM2.2,hmm,hmf,hml,go_sem,seval];rw [hMt,UN]
    rfl
  ·intro _ _;refine Zf [14,31] _ _ _ _ ?_;simp (disch:=omega) only [YU,Wq,WH,zShe,L3,Zm,go_sem,seval];refine ZD [2,4,8,10,11,12,13] (fun _:Unit=> [(14,.p (.int .i64 (SY t sp k)))]) (fun _=> [YU x t r c sp,Wq L,Wq WH,L3 0 0 M,.elems 4 (M.times.map eTim)]) (fun _=>True) ?_ ?_
   ·refine Zd ?_;refine Xm ?_ ?_<;>intro h
    ·have e:SY t sp k=(nth sp k).place:=by rw [SY,if_neg Za]
     exact ⟨(),Weak.mk (by simp (disch:=omega) only [YU,Wq,WH,zShe,L3,Zm,e,go_sem,seval])⟩
    ·have e:SY t sp k=t.dst:=by rw [SY,if_pos Za]
     exact ⟨(),Weak.mk (by simp (disch:=omega) only [YU,Wq,WH,zShe,L3,Zm,e,go_sem,seval])⟩
   ·intro _ _;refine Zf [31] _ _ _ _ ?_;simp (disch:=omega) only [YU,Wq,WH,zShe,L3,Zm,go_sem,seval];refine XN (Zd ?_);refine Zo (dW x t r c sp k hk Za) (Zd ?_);refine D2 (pR x.net t.prof (Ai t sp k) (SY t sp k) (Xh t L b) hok.net Za) (Zd ?_);have hG:Qt x.net t.prof (Ai t sp k) (SY t sp k) (Xh t L b)=BR x t sp k (Xh t L b):=rfl;rw [hG];clear hG
    generalize BR x t sp k (Xh t L b)=g at *
    generalize Xh t L b=d at *
    generalize UI L b=s at *
    refine cD ?_ ?_<;>intro h1<;>simp (disch:=omega) only [Sh.out h1,go_sem,seval,↓reduceIte]
    ·have e:Vt t sp k g d s M=(WH,12):=by rw [Vt,if_pos h1]
     rw [e];exact we (by simp (disch:=omega) only [WH,zShe,Zm,go_sem,seval])
    ·refine cD ?_ ?_<;>intro h2<;>simp (disch:=omega) only [Sh.out h2,go_sem,seval,↓reduceIte]
     ·refine cD ?_ ?_<;>intro h3<;>simp (disch:=omega) only [Sh.out h3,go_sem,seval,↓reduceIte]
      ·have e:Vt t sp k g d s M=(WH,15):=by rw [Vt,if_neg h1,if_pos Za,if_pos h3]
       rw [e];exact we (by simp (disch:=omega) only [WH,zShe,Zm,go_sem,seval])
      ·refine Zr (Weak.fz (o:=4) (by rfl)) (Zf [] _ _ _ _ (BM ?_));refine cD ?_ ?_<;>intro h4<;>simp (disch:=omega) only [Sh.out h4,go_sem,seval,↓reduceIte]
       ·have e:Vt t sp k g d s M=(WH,16):=by rw [Vt,if_neg h1,if_pos Za,if_neg h3,if_pos h4]
        rw [e];exact we (by simp (disch:=omega) only [WH,zShe,Zm,go_sem,seval])
       ·have e:Vt t sp k g d s M=(⟨g.1,s+g.1-d,{ M with fin:=g.1,miles:=M.miles+g.2.1 }⟩,0):=by rw [Vt,if_neg h1,if_pos Za,if_neg h3,if_neg h4]
        have hMc:M.times_c=false:=by
         rw [<- hM,YN,if_neg Za]
         grind
        rw [e];exact we (by simp (disch:=omega) only [hMc,go_sem,seval])
     ·have h2': ¬k=sp.length:=Za
      have hkl:k<sp.length:=Za
      have hstp:=hok.stp _ (Z0 hkl);refine Vc (Od (nth sp k) g.1) ?_;unfold DR
      by_cases h3:(nth sp k).cls<max g.1 (nth sp k).opn
      ·have e:Vt t sp k g d s M=(WH,14):=by simp_all [Vt]
       rw [e,if_pos h3];refine Zd ?_;exact we (by simp (disch:=omega) only [WH,zShe,Zm,go_sem,seval])
      ·rw [if_neg h3];refine Zd ?_;refine Zr (Weak.fz (o:=4) (by rfl)) (Zf [] _ _ _ _ (BM ?_));refine cD ?_ ?_<;>intro h4<;>simp (disch:=omega) only [Sh.out h4,go_sem,seval,↓reduceIte]
       ·have e:Vt t sp k g d s M=(WH,16):=by simp_all [Vt]
        rw [e];exact we (by simp (disch:=omega) only [WH,zShe,Zm,go_sem,seval])
       ·have e:Vt t sp k g d s M=(⟨max g.1 (nth sp k).opn+(nth sp k).serv,s+g.1-d,{ M with times_c:=false,times:=M.times++ [⟨g.1,max g.1 (nth sp k).opn,0,false⟩],miles:=M.miles+g.2.1 }⟩,0):=by simp_all [Vt,if_neg]
        rw [e];exact we
theorem R3 {x t sp k L b} (hs:0<sp.length) (hc:0<k->L.she.times_c=false) (he:(nxtF x t sp k L b).2=0):(nxtF x t sp k L b).1.she.times_c=false:=by
 have hm:0<k->(YN k (Xh t L b) b L.she).times_c=false:=fun h=>by rw [YN,if_neg Za];exact hc h
 unfold nxtF at he ⊢
 generalize BR x t sp k (Xh t L b)=g at *
 generalize Xh t L b=d at *
 generalize UI L b=s at *
 generalize YN k d b L.she=m at *
 unfold Vt at he ⊢
 grind
structure LabO (n k:Nat) (L:Lab):Prop where
 rng:LabR k L
 len:k<=n->L.she.times.length=k
 clip:0<k->L.she.times_c=false
theorem F5 {x t sp k L b} (hok:TrpOk x t sp) (hs:0<sp.length) (hk:k<=sp.length) (h:LabO sp.length k L) (he:(nxtF x t sp k L b).2=0):LabO sp.length (k+1) (nxtF x t sp k L b).1 :=
 ⟨O5 hok hk h.rng he,fun hk2=>Ey (h.len hk) he Za,fun _=>R3 hs h.clip he⟩
theorem F6 {x t sp} (hok:TrpOk x t sp) {st:Int} (hst:0<=st/\st<=4096):LabO sp.length 0 (labF t st) :=
 ⟨⟨by have:=hok.opn;grind [labF],by simp [labF],by simp [labF,zShe]⟩,fun _=>rfl,fun h=>Za⟩
theorem O3 (x:Inst) (t:Typ) (r:Rte) (c:Bool) (sp:List Stp) (hok:TrpOk x t sp) (k:Nat) (hk:k<=sp.length) (hs1:0<sp.length) (L:Lab) (hL:LabO sp.length k L) (b:Bool) :
  PT 268 [.p (IT x t r c sp),.p (QS L),.p (.int .i64 (k:Nat)),.p (.bool b)] [.p (QS (nxtF x t sp k L b).1),.p (.int .i64 (nxtF x t sp k L b).2)] :=
 xN x t r c sp hok k hk hs1 L hL.rng (hL.len hk) hL.clip b
theorem ZfL (x:Inst) (t:Typ) (r:Rte) (c:Bool) (sp:List Stp) (hok:TrpOk x t sp) (hs1:0<sp.length) (hst:0<=r.start/\r.start<=4096) (bs:List Bool) (d:Bool) (hb:bs.length=sp.length+1) :
  PT 249 [.p (IT x t r c sp),.p (.list d (bs.map eB))] [.p (Rr (Xf x t sp 0 (labF t r.start) bs).1.she),.p (.int .i64 (Xf x t sp 0 (labF t r.start) bs).2)]:=by
 have hsl:=hok.len;refine Zj [] Tryz.func249 rfl vU ?_;simp (disch:=omega) only [Tryz.f249,go_sem,seval];refine (FF x t r c sp).use (Zd ?_)
 refine Zn [2,4,6,13,14] (fun q:Nat×Lab=> [(15,.p (.int .i64 q.1))]) (fun q=> [YU x t r c sp,.cells [.p (.bool false),.p (.int .i64 0),.p (.list true []),.p (.int .i64 0),.p (.int .i64 0)],Wq q.2])
  (fun q=>q.1<=bs.length/\Xf x t sp 0 (labF t r.start) bs=Xf x t sp q.1 q.2 (bs.drop q.1)/\LabO sp.length q.1 q.2) (fun q=>bs.length-q.1) (0,labF t r.start) ⟨Zb,Zb,F6 hok hst⟩ (Weak.mk ?_) ?_
 ·simp (disch:=omega) only [YU,Wq,go_sem,seval]
 ·rintro ⟨k,L⟩ ⟨hk,hrun,hL⟩;simp only at hk hrun hL;simp (disch:=omega) only [YU,Wq,go_sem,seval];refine cD ?_ ?_<;>intro h1<;>simp (disch:=omega) only [Sh.out h1,go_sem,seval,↓reduceIte]
  ·have hk2:k<bs.length:=Za
   have hdrop:bs.drop k=nth bs k::bs.drop (k+1):=by rw [U6 hk2,Zg hk2]
   rw [hdrop,Xf] at hrun;have cn:=O3 x t r c sp hok k Za hs1 L hL (nth bs k);have hL2:=F5 (x:=x) (t:=t) (b:=nth bs k) hok hs1 Za hL
   generalize nxtF x t sp k L (nth bs k)=N at *
   refine Vc cn (Zd ?_);refine Xm ?_ ?_<;>intro h2
   ·rw [hrun,if_neg h2];exact we (by simp (disch:=omega) only [WH,zShe,Zm,go_sem,seval])
   ·rw [if_pos Za] at hrun;exact ⟨(k+1,N.1),⟨Za,hrun,hL2 Za⟩,Za,wk⟩
  ·have hkl:k=bs.length:=Za
   subst hkl;rw [JL,Xf] at hrun;rw [hrun];exact we
theorem jI (l m:Lab):PC 271 [.p (QS l),.p (QS m)] (.bool (Z9 l m)):=by
 refine Zc Tryz.func271 rfl wN ?_;simp (disch:=omega) only [Tryz.f271,go_sem,seval];refine gT ?_ ?_<;>intro h<;>simp (disch:=omega) only [Sh.out h,go_sem,seval,↓reduceIte]
 ·simp [Z9,h]
 ·simp [Z9,h]
def gH (x:Inst) (t:Typ) (r:Rte) (c:Bool) (sp:List Stp) (o:List Lab) (f z:Lab):List AM.Obj:= [YU x t r c sp,.dead,.elems 7 (o.map QS),Wq f,Wq z]
theorem kX (x:Inst) (t:Typ) (r:Rte) (c:Bool) (sp:List Stp) (o:List Lab) (f z m:Lab):ACalls Tryz.prog 270 [.p (QS m),.ptr 4 0] (gH x t r c sp o f z) fun y H'=>y= .p (.bool (Z9 m z))/\H'=gH x t r c sp o f z:=by
 refine Zj [] Tryz.func270 rfl wM ?_;simp (disch:=omega) only [Tryz.f270,gH,YU,Wq,go_sem,seval];refine (jI m z).use (Zd ?_);exact we
theorem M6 (x:Inst) (t:Typ) (r:Rte) (c:Bool) (sp:List Stp) (o:List Lab) (f z:Lab) (hl:o.length<=2097152) :
  ACalls Tryz.prog 284 [.sl 2 0 o.length o.length,.fn (.func 270) [] [.ptr 4 0]] (gH x t r c sp o f z) fun y H'=>y= .p (.int .i64 (pH (fun m=>Z9 m z) o))/\H'=gH x t r c sp o f z:=by
 refine Zj [] Tryz.func284 rfl wW ?_;simp (disch:=omega) only [Tryz.f284,gH,YU,Wq,go_sem,seval];refine Zn [0,1,7] (fun k:Nat=> [(8,.p (.int .i64 k))]) (fun _=>gH x t r c sp o f z) (fun k=>k<=o.length/\ ∀j,j<k->Z9 (nth o j) z=false) (fun k=>o.length-k) 0 Zb (Weak.mk ?_) ?_
 ·simp (disch:=omega) only [gH,YU,Wq,go_sem,seval,↓reduceIte]
 ·rintro k ⟨hk,hno⟩;simp (disch:=omega) only [gH,YU,Wq,go_sem,seval];refine cD ?_ ?_<;>intro h<;>simp (disch:=omega) only [Sh.out h,go_sem,seval,↓reduceIte]
  ·have hk2:k<o.length:=Za
   have hg:=kX x t r c sp o f z (nth o k);simp (disch:=first | omega | (simp only [ZL,ZY,Zy,ZB,Xy,XR]<;>omega)) only [QT hk2,hk2,go_sem,seval,↓reduceIte];simp (disch:=omega) only [gH,YU,Wq,go_sem,seval] at hg;refine hg.useH (Zd ?_);refine cD ?_ ?_<;>intro h2<;>simp (disch:=omega) only [Sh.out h2,go_sem,seval,↓reduceIte]
   ·rw [aT (f:=fun m=>Z9 m z) hk2 h2 hno];exact we
   ·exact ⟨k+1,⟨Za,ZR.2 ⟨hno,Za⟩⟩,Za,wk⟩
  ·have hkl:k=o.length:=Za
   subst hkl;rw [aV hno];exact we
theorem Fp (x:Inst) (t:Typ) (r:Rte) (c:Bool) (sp:List Stp) (o:List Lab) (f z:Lab) (hl:o.length<=2097152) :
  ACalls Tryz.prog 269 [.sl 2 0 o.length o.length,.fn (.func 270) [] [.ptr 4 0]] (gH x t r c sp o f z) fun y H'=>y= .p (.bool (o.any fun m=>Z9 m z))/\H'=gH x t r c sp o f z:=by
 refine Zj [] Tryz.func269 rfl wL ?_;simp (disch:=omega) only [Tryz.f269,go_sem,seval];refine (M6 x t r c sp o f z hl).useH (Zd ?_);rw [aU];exact we (by simp (disch:=omega) only [gH,YU,Wq,go_sem,seval])
def Rj (x:Inst) (t:Typ) (sp:List Stp) (r:List Bool) (k:Nat) (f:Lab) (bs:List Bool) (l:List Lab):List Lab:=bs.filterMap (Xp x t sp k f)++WK (Xp x t sp) (VS r) k l
theorem sT (x:Inst) (t:Typ) (r:Rte) (c:Bool) (sp:List Stp) (hok:TrpOk x t sp) (hs1:0<sp.length) (k:Nat) (hk:k<=sp.length) (hrl:r.rests.length<=1048576) (l:List Lab) (d:Bool) (hl:l.length<=1048576) (hL: ∀L∈l,LabO sp.length k L) :
  PC 248 [.p (IT x t r c sp),.p (.list d (l.map QS)),.p (.int .i64 (k:Nat))] (.list false ((XL Z9 [] (WK (Xp x t sp) (VS r.rests) k l)).map QS)):=by
 have hsl:=hok.len;refine Zj [2,16] Tryz.func248 rfl vT ?_;simp (disch:=omega) only [Tryz.f248,go_sem,seval];refine Zr (Weak.fz (o:=1) (by rfl)) (BM ?_);refine ZD [1,2,3] (fun cb:Bool=> [(7,.p (.list cb ((VS r.rests k).map eB)))]) (fun _=> [YU x t r c sp,.dead]) (fun _=>True) ?_ ?_
 ·refine Zd ?_;refine Xm ?_ ?_<;>intro h
  ·have hk2:k<r.rests.length:=Za
   have e:VS r.rests k=(r.rests.take (k+1)).drop k:=by
    grind [VS,Yu]
   exact ⟨r.rests_c&&decide ((k:Int)+1=(r.rests.length:Int)),Weak.mk (by simp (disch:=omega) only [YU,e,go_sem,seval])⟩
  ·have e:VS r.rests k= [false,true]:=by grind [VS]
   exact ⟨false,Weak.mk (by simp (disch:=omega) only [YU,e,Zt,Zm,go_sem,seval])⟩
 ·intro cb _
  have hch:(VS r.rests k).length<=2:=by grind [VS]
  refine Zf [16] _ _ _ _ ?_;simp (disch:=omega) only [YU,go_sem,seval]
  refine XG [16] [2,3,7,29,30] (fun q:Nat×List Lab=> [(8,.sl 2 0 q.2.length q.2.length),(31,.p (.int .i64 q.1))]) (fun q=> [YU x t r c sp,.dead,.elems 7 (q.2.map QS)])
   (fun q=>q.1<=l.length/\XL Z9 [] (WK (Xp x t sp) (VS r.rests) k l)=XL Z9 q.2 (WK (Xp x t sp) (VS r.rests) k (l.drop q.1))/\q.2.length<=2*q.1) (fun q=>l.length-q.1) (0,[]) Zb (Weak.ofNil 8 7 rfl Zb (Weak.mk ?_)) ?_
  ·simp (disch:=omega) only [YU,Zm,ZY,go_sem,seval]
  ·rintro ⟨i,o⟩ ⟨hi,hpr,hol⟩;simp only at hi hpr hol;simp (disch:=omega) only [YU,go_sem,seval];refine cD ?_ ?_<;>intro h1<;>simp (disch:=omega) only [Sh.out h1,go_sem,seval,↓reduceIte]
   ·have hi2:i<l.length:=Za
    have hLi:=hL _ (Z0 hi2)
    have hdrop:l.drop i=nth l i::l.drop (i+1):=by rw [U6 hi2,Zg hi2]
    rw [hdrop] at hpr;have hpr:XL Z9 [] (WK (Xp x t sp) (VS r.rests) k l)=XL Z9 o (Rj x t sp r.rests k (nth l i) ((VS r.rests k).drop 0) (l.drop (i+1))):=hpr
    refine Zn [2,3,7,10,29,30,31,35,36] (fun q:Nat×List Lab=> [(8,.sl 2 0 q.2.length q.2.length),(37,.p (.int .i64 q.1))]) (fun q=> [YU x t r c sp,.dead,.elems 7 (q.2.map QS),Wq (nth l i)])
     (fun q=>q.1<=(VS r.rests k).length/\XL Z9 [] (WK (Xp x t sp) (VS r.rests) k l)=XL Z9 q.2 (Rj x t sp r.rests k (nth l i) ((VS r.rests k).drop q.1) (l.drop (i+1)))/\q.2.length<=2*i+q.1) (fun q=>(VS r.rests k).length-q.1) (0,o) ⟨Zb,hpr,hol⟩ (Weak.mk ?_) ?_
    ·simp (disch:=omega) only [YU,Wq,go_sem,seval]
    ·clear hpr hol;rintro ⟨j,o⟩ ⟨hj,hpr,hol⟩;simp only at hj hpr hol;simp (disch:=omega) only [YU,Wq,go_sem,seval];refine Xm ?_ ?_<;>intro h2
     ·have hj2:j<(VS r.rests k).length:=Za
      have hd2:(VS r.rests k).drop j=nth (VS r.rests k) j::(VS r.rests k).drop (j+1):=by rw [U6 hj2,Zg hj2]
      have cn:=O3 x t r c sp hok k hk hs1 (nth l i) hLi (nth (VS r.rests k) j);have ho2:Xp x t sp k (nth l i) (nth (VS r.rests k) j)=if (nxtF x t sp k (nth l i) (nth (VS r.rests k) j)).2=0 then some (nxtF x t sp k (nth l i) (nth (VS r.rests k) j)).1 else none:=rfl;rw [hd2,Rj,List.filterMap_cons,ho2] at hpr
      generalize nxtF x t sp k (nth l i) (nth (VS r.rests k) j)=N at *
      refine Vc cn (Zd ?_);refine TV ?_ ?_<;>intro h3
      ·have hcl:=Fp x t r c sp o (nth l i) N.1 Za;simp (disch:=omega) only [gH,YU,Wq,go_sem,seval] at hcl;refine hcl.useH (Zd ?_);rw [if_pos h3] at hpr;have hpr:XL Z9 [] (WK (Xp x t sp) (VS r.rests) k l)=if (o.any fun m=>Z9 m N.1)=true then XL Z9 o (Rj x t sp r.rests k (nth l i) ((VS r.rests k).drop (j+1)) (l.drop (i+1))) else XL Z9 (o++ [N.1]) (Rj x t sp r.rests k (nth l i) ((VS r.rests k).drop (j+1)) (l.drop (i+1))):=hpr;refine Xm ?_ ?_<;>intro h4
       ·rw [if_neg (by grind)] at hpr;exact ⟨(j+1,o++ [N.1]),⟨Za,hpr,by simp;omega⟩,Za,Weak.mk (by simp (disch:=omega) only [Zy,ZL,ZY,Yg,Zt,Zm,go_sem,seval])⟩
       ·rw [if_pos (by grind)] at hpr;exact ⟨(j+1,o),⟨Za,hpr,by grind⟩,Za,wk⟩
      ·rw [if_neg h3] at hpr;exact ⟨(j+1,o),⟨Za,hpr,by grind⟩,Za,wk⟩
     ·have hjl:j=(VS r.rests k).length:=Za
      subst hjl;rw [JL,Rj,List.filterMap_nil,ZA] at hpr;exact ⟨(i+1,o),⟨Za,hpr,by grind⟩,Za,wk⟩
   ·have hil:i=l.length:=Za
    subst hil;have e:WK (Xp x t sp) (VS r.rests) k []= []:=rfl;rw [JL,e,XL] at hpr;rw [hpr];refine Zr (Weak.fz (o:=2) (by rfl)) (Zf [] _ _ _ _ (BM ?_));exact we
def kB : PV:= .agg [.list true [],.list true [],.list true [],.list true [],.list true [],.list true [],.str [],.int .i64 0,.int .i64 0,.int .i64 0,.list true [],.int .i64 0,.int .i64 0,.int .i64 0,.int .i64 0,.int .i64 0,.int .i64 0,.int .i64 0,.int .i64 0,.int .i64 0,.int .i64 0,.int .i64 0,.list true [],.list true [],.list true []]
theorem mP (x:Inst) (r:Rte) (hty:0<=r.typ/\r.typ<(x.types.length:Int)) (htl:x.types.length<=1048576) (hvl:r.visits.length<=20) (hs: ¬(0<=r.start/\r.start<=4096)) :
  PT 246 [.p (ZW x),.p (KO r)] [.p kB,.p (.bool false)]:=by
 have e1: ¬r.typ<0:=Za
 have e2: ¬(x.types.length:Int)<=r.typ:=Za
 refine Zj [] Tryz.func246 rfl bK ?_;simp (disch:=omega) only [Tryz.f246,e1,e2,go_sem,seval];refine gF ?_ ?_<;>intro h1<;>simp (disch:=omega) only [Sh.out h1,go_sem,seval,↓reduceIte]
 ·exact we (by simp (disch:=omega) only [kB,go_sem,seval])
 ·refine gF ?_ ?_<;>intro h2<;>simp (disch:=omega) only [Sh.out h2,go_sem,seval,↓reduceIte]
  ·exact we (by simp (disch:=omega) only [kB,go_sem,seval])
  ·omega
theorem LN {x t sp} : ∀(bs:List Bool) (k:Nat) (L:Lab),¬(Xf x t sp k L bs).2=0->(Xf x t sp k L bs).1=WH
 | [],k,L,h=>by simp [Xf] at h
 | b::bs,k,L,h=>by
  rw [Xf] at h ⊢
  split
  ·rename_i c;rw [if_pos c] at h;exact LN bs (k+1) _ h
  ·rfl
theorem RC (n:Nat):List.replicate n false∈YM (List.replicate n false):=by
 rw [Vh];simp
theorem aM {l:List Lab} (h:WU Wu none l=none):l= []:=by
 cases l with
 | nil=>rfl
 | cons a l =>
  obtain ⟨z,hz,_⟩:=WV (fin:=Wu) l a;have:WU Wu none (a::l)=WU Wu (some a) l:=rfl
  grind
theorem P8 {x t sp} {st:Int} {r:List Bool} (h:WU Wu none ((Xs r (sp.length+1)).filterMap (WG (Xp x t sp) 0 (labF t st)))=none): ¬(Xf x t sp 0 (labF t st) (Vn r (sp.length+1))).2=0:=fun h0=>by
 have h1:=aM h;have h2:Vn r (sp.length+1)∈Xs r (sp.length+1):=Xj.2 ⟨_,RC _,rfl⟩
 simp_all [Yl]
theorem ML {x t sp} {st:Int} {r:List Bool} (hr:r.length<=sp.length+1) (h:WU Wu none (Jp Z9 (Xp x t sp) (VS r) (sp.length+1) 0 [labF t st])=none): ¬(Xf x t sp 0 (labF t st) (Vn r (sp.length+1))).2=0 :=
 P8 (by rw [F7,W2,FP r _ hr] at h;exact h)
def Qn (x:Inst) (r:Rte):She×Int:=if 0<=r.start/\r.start<=4096/\r.rests.length<=r.visits.length+1 then XV x r else (zShe,2)
theorem TE {x t sp} {ch:Nat->List Bool} {k:Nat} {l:List Lab} (hok:TrpOk x t sp) (hs:0<sp.length) (hk:k<=sp.length) (h: ∀L∈l,LabO sp.length k L): ∀L∈XL Z9 [] (WK (Xp x t sp) ch k l),LabO sp.length (k+1) L:=fun L hL=>by
 have h1:=Kw Z9 _ _ L hL;rw [ZA] at h1;obtain ⟨a,ha,hb⟩:=XS.1 h1
 grind [Xp,F5]
theorem Cr : ∀(c out:List Lab),(XL Z9 out c).length<=out.length+c.length
 | [],out=>by simp [XL]
 | x::c,out=>by
  rw [XL]
  split
  ·have:=Cr c out;simp;omega
  ·have:=Cr c (out++ [x]);simp at this ⊢;omega
theorem FH {x t sp} {r:List Bool} {k:Nat} : ∀l:List Lab,(WK (Xp x t sp) (VS r) k l).length<=2*l.length
 | []=>by simp [WK]
 | a::l=>by
  have ih:=FH (x:=x) (t:=t) (sp:=sp) (r:=r) (k:=k) l;have h1:(WK (Xp x t sp) (VS r) k (a::l))=(VS r k).filterMap (Xp x t sp k a)++WK (Xp x t sp) (VS r) k l:=rfl
  grind [VS]
theorem mE (x:Inst) (r:Rte) (hx:InstOk x) (hl:r.visits.length<=1048576) (hrl:r.rests.length<=1048576) (hty:0<=r.typ/\r.typ<(x.types.length:Int)) (h0:Xt x r.visits=0) :
  PT 214 [.p (ZW x),.p (KO r)] [.p (Rr (Qn x r).1),.p (.int .i64 (Qn x r).2)]:=by
 have hd:=A1 hx;have hsq:=Vr h0;have hol:=hd.ord;have htl:=hd.typ;have hvl:=hsq.len hol;have hok:=BO hx hty hsq;have hsl:(ZS x r.visits).length=r.visits.length:=YT
 have hs1:0<(ZS x r.visits).length:=by
  rw [hsl];have:=hsq.ne
  grind
 refine Zj [6,13,14] Tryz.func214 rfl uW ?_;simp (disch:=omega) only [Tryz.f214,go_sem,seval]
 by_cases hs:0<=r.start/\r.start<=4096
 ·refine Vc (yD x r hx hty h0 hs) (Zd ?_);refine cD ?_ ?_<;>intro h1<;>simp (disch:=omega) only [Sh.out h1,go_sem,seval,↓reduceIte]
  ·have e:Qn x r=(zShe,2):=by rw [Qn,if_neg Za]
   rw [e];exact we (by simp (disch:=omega) only [zShe,Zm,go_sem,seval])
  ·have hrs:r.rests.length<=r.visits.length+1:=Za
   have e:Qn x r=XV x r:=by simp_all [Qn]
   have hbn:= @ML x (ZG x r) (ZS x r.visits) r.start r.rests Za;rw [e,XV,G8 Za];refine (FF x (ZG x r) r false (ZS x r.visits)).use (Zd ?_)
   generalize hT:ZG x r=t at *
   generalize hS:ZS x r.visits=sp at *
   refine Zr (Weak.fz (o:=4) (by rfl)) ?_;refine Zf [13,14] _ _ _ _ (Zd ?_)
   refine XG [13,14] [3,4,6,8,38] (fun q:Nat×List Lab=> [(9,.p (.list false (q.2.map QS))),(39,.p (.int .i64 q.1))]) (fun _=> [Zh x,YJ r,.cells [.p (.bool false),.p (.int .i64 0),.p (.list true []),.p (.int .i64 0),.p (.int .i64 0)],YU x t r false sp,.dead])
    (fun q=>q.1<=sp.length+1/\Jp Z9 (Xp x t sp) (VS r.rests) (sp.length+1) 0 [labF t r.start]=Jp Z9 (Xp x t sp) (VS r.rests) (sp.length+1-q.1) q.1 q.2/\(∀L∈q.2,LabO sp.length q.1 L)/\q.2.length<=2^q.1) (fun q=>sp.length+1-q.1) (0,[labF t r.start]) ⟨Zb,Zb,fun L hL=>by grind [F6],Zb⟩ (Weak.mk ?_) ?_
   ·simp (disch:=omega) only [Zh,YJ,YU,Zt,Zm,Z7,ZX,go_sem,seval]
   ·rintro ⟨k,l⟩ ⟨hk,hit,hlo,hll⟩;simp only at hk hit hlo hll;simp (disch:=omega) only [Zh,YJ,YU,go_sem,seval];refine cD ?_ ?_<;>intro h2<;>simp (disch:=omega) only [Sh.out h2,go_sem,seval,↓reduceIte]
    ·have hk2:k<=sp.length:=Za
     have hp20:2^k<=2^20:=YD Za Za;refine (sT x t r false sp hok hs1 k hk2 hrl l false Za hlo).use (Zd ?_)
     have hn:Jp Z9 (Xp x t sp) (VS r.rests) (sp.length+1-k) k l=Jp Z9 (Xp x t sp) (VS r.rests) (sp.length+1-(k+1)) (k+1) (XL Z9 [] (WK (Xp x t sp) (VS r.rests) k l)):=by
      have e:sp.length+1-k=(sp.length+1-(k+1))+1:=Za
      rw [e,Jp]
     have hln:=Cr (WK (Xp x t sp) (VS r.rests) k l) [];have hln2:=FH (x:=x) (t:=t) (sp:=sp) (r:=r.rests) (k:=k) l;exact ⟨(k+1,XL Z9 [] (WK (Xp x t sp) (VS r.rests) k l)),⟨Za,hit.trans hn,TE hok hs1 hk2 hlo,by grind⟩,Za,Weak.mk (by simp (disch:=omega) only [Z7,ZX,go_sem,seval])⟩
    ·have hkn:k=sp.length+1:=Za
     subst hkn;rw [Kq,Jp] at hit;rw [hit] at hbn ⊢;clear hit;refine cD ?_ ?_<;>intro h3<;>simp (disch:=omega) only [Sh.out h3,go_sem,seval,↓reduceIte]
     ·have hl0:l= []:=Yo Za;subst hl0;have hbn:=hbn rfl;refine Wj (G6 3 rfl rfl (Zd ?_));refine ⟨_,_,cV (e:=4) rfl Tryz.underlying31 Ze rfl rfl rfl ?_ ?_ ?_,?_⟩
      ·simp
      ·simp;omega
      ·intro q hq;obtain ⟨b,_,rfl⟩:=Xj.1 hq
       rfl
      ·have hpl:(Vn r.rests (sp.length+1)).length=sp.length+1:=by simp [Vn];omega
       have hpad:r.rests.map eB++(PV.bool false::List.replicate r.visits.length (PV.bool false)).drop (r.rests.map eB).length=(Vn r.rests (sp.length+1)).map eB:=by
        rw [Vn,Yg,<- Ki,List.drop_replicate,A7,hsl,ZB];rfl
       have hcr:=ZfL x t r false sp hok hs1 hs (Vn r.rests (sp.length+1)) false hpl;have hbad:=LN _ _ _ hbn;rw [hbad] at hcr;simp only [Z7,ZX];rw [hpad]
       generalize hRP:Vn r.rests (sp.length+1)=rp at *
       refine Zr (Weak.fz (o:=5) (by rfl)) (Zf [] _ _ _ _ (BM ?_));rw [if_pos Za];refine Vc hcr (Zd ?_);have hfm0:WU Wu none ([]:List Lab)=none:=rfl;rw [hfm0];exact we (by simp (disch:=omega) only [WH,zShe,Zm,go_sem,seval])
     ·cases l with
      | nil=>simp at h3
      | cons l0 l =>
       have e0:JE ((l0::l).map QS) 0=QS l0:=rfl;have hn0:nth (l0::l) 0=l0:=rfl;simp (disch:=first | omega | (simp only [ZL,ZY,Zy,ZB,Xy,XR]<;>omega)) only [hn0,X5,go_sem,seval];have hfm:WU Wu none (l0::l)=WU Wu (some l0) l:=rfl;rw [hfm]
       have hlen:l.length<=2097152:=by
        have hp20:2^(sp.length+1)<=2^21:=YD Za Za
        grind
       refine Zn [4,12,65,66] (fun q:Nat×Lab=> [(67,.p (.int .i64 q.1))]) (fun q=> [Zh x,YJ r,.cells [.p (.bool false),.p (.int .i64 0),.p (.list true []),.p (.int .i64 0),.p (.int .i64 0)],YU x t r false sp,.dead,Wq q.2])
        (fun q=>q.1<=l.length/\WU Wu (some l0) l=WU Wu (some q.2) (l.drop q.1)) (fun q=>l.length-q.1) (0,l0) Zb (Weak.mk ?_) ?_
       ·simp (disch:=omega) only [Zh,YJ,YU,Wq,go_sem,seval]
       ·rintro ⟨i,m⟩ ⟨hi,hm⟩;simp only at hi hm;simp (disch:=omega) only [Zh,YJ,YU,Wq,go_sem,seval];refine cD ?_ ?_<;>intro h4<;>simp (disch:=omega) only [Sh.out h4,go_sem,seval,↓reduceIte]
        ·have hi2:i<l.length:=Za
         have hdrop:l.drop i=nth l i::l.drop (i+1):=by rw [U6 hi2,Zg hi2]
         rw [hdrop,WU] at hm;refine Xm ?_ ?_<;>intro h5
         ·rw [if_pos (show Wu (nth l i)<Wu m from h5)] at hm;exact ⟨(i+1,nth l i),⟨Za,hm⟩,Za,wk⟩
         ·rw [if_neg (show ¬Wu (nth l i)<Wu m from h5)] at hm;exact ⟨(i+1,m),⟨Za,hm⟩,Za,wk⟩
        ·have hil:i=l.length:=Za
         subst hil;rw [JL,WU] at hm;rw [hm];exact we
 ·have e:Qn x r=(zShe,2):=by rw [Qn,if_neg (fun h=>hs ⟨h.1,h.2.1⟩)]
  rw [e];refine Vc (mP x r hty htl hvl hs) ?_;simp (disch:=omega) only [kB,go_sem,seval];exact we (by simp (disch:=omega) only [zShe,Zm,go_sem,seval])
end Go.Proofs.YtjkkdmeebhjaiaaGreatDoor.K
namespace Go.AM
open Go.RowKit
theorem cJ (k v:Int) (l:List (Int×Int)): ∃l',cI (.int .i64 k) (.int .i64 v) (l.map eII)=l'.map eII/\(∀q,JN l' q=if q=k then v else JN l q)/\l'.length<=l.length+1:=by
 unfold cI;rw [Cg]
 cases hm:Ge l k with
 | none =>
  refine ⟨l++ [(k,v)],by simp [eII],fun q=> ?_,Zb⟩
  have e1:Ge (l++ [(k,v)]) k=some l.length:=by
   grind [Ge]
  by_cases hq:q=k
  ·grind [JN]
  ·rw [if_neg hq];unfold JN
   have e3:Ge (l++ [(k,v)]) q=Ge l q:=by
    grind [Ge]
   rw [e3]
   cases hc:Ge l q with
   | none=>rfl
   | some i =>
    unfold Ge at hc
    grind [Un]
 | some i =>
  refine ⟨l.set i (k,v),by simp_all [eII],?_,Zb⟩;have hH:oat [.map (l.map eII)] 0= .map (l.map eII):=rfl;have:=Nh (H:= [.map (l.map eII)]) (o:=0) (l:=l) (k:=k) (i:=i) (v:=v) (K:=fun _ _=> ∀q,JN (l.set i (k,v)) q=if q=k then v else JN l q) hH hm fun h=>h;unfold J6 at this;obtain ⟨u,q1,_⟩:=Es hm
  simp_all [KX]
theorem cK {P:Program} {H:List Obj} {t:TypeId} {o:Nat} {l:List (Int×Int)} {k v:Int} {K:V->List Obj->Prop} (hT:cC P t=some (.int .i64,some (.int .i64 0))) (hH:oat H o= .map (l.map eII))
  (h: ∀l':List (Int×Int),(∀q,JN l' q=if q=k then v else JN l q)->K .junk (H.set o (.map (l'.map eII)))):KX (CL P H t (.mp o) (.p (.int .i64 k)) (.p (.int .i64 v))) K:=by
 obtain ⟨kt,et,h1,h2,h3⟩:=Lm hT;obtain ⟨l',e,hg,_⟩:=cJ k v l
 grind [CL,F9,KX]
end Go.AM
namespace Go.Proofs.YtjkkdmeebhjaiaaGreatDoor.K
open Go Go.AM Go.Proofs
set_option maxRecDepth 8000
set_option maxHeartbeats 8000000
def DX (l:List Vis) (k:Nat) (q:Int):Int:=((l.take k).countP fun v=>decide (v.order=q):Nat)
theorem Rl {l:List Vis} {k:Nat} (h:k<l.length) (q:Int):DX l (k+1) q=if q=(nth l k).order then DX l k q+1 else DX l k q:=by
 unfold DX;rw [Yu h,List.countP_append,Zg h]
 grind
theorem TW {l:List Vis} {k:Nat} (h:k<=l.length) (q:Int):0<=DX l k q/\DX l k q<=k:=by
 grind [DX,Xy]
theorem MS {l:List Vis} {k:Nat} :B3 l k=decide (DX l k (nth l k).order=0):=by
 unfold B3 DX;rw [W1];simp
theorem Ah (a b:Int):PC 250 [.p (.int .i64 a),.p (.int .i64 b)] (.bool (AQ a b)):=by
 refine Zc Tryz.func250 rfl vV ?_;simp (disch:=omega) only [Tryz.f250,go_sem,seval];refine gT ?_ ?_<;>intro h<;>simp (disch:=omega) only [Sh.out h,go_sem,seval,↓reduceIte]
 ·simp [AQ,h]
 simp_all [AQ]
theorem dH (x:Inst) (r:Rte) (s:She) (hty:0<=r.typ/\r.typ<(x.types.length:Int)) (ho:x.orders.length<=1048576) (ht:x.types.length<=1048576) (hl:r.visits.length<=1048576) (hv:Inr x r.visits)
  (hc:0<=(ZG x r).fixed/\(ZG x r).fixed<=100000/\0<=(ZG x r).perMile/\(ZG x r).perMile<=100/\0<=(ZG x r).perTick/\(ZG x r).perTick<=100) (ho2:0<=(ZG x r).opn/\(ZG x r).opn<=4096)
  (hf: -4096<=s.fin/\s.fin<=8192) (hm:0<=s.miles/\s.miles<=1000000) :
  PC 215 [.p (ZW x),.p (KO r),.p (Rr s)] (IS (EW x r s)):=by
 have hti:r.typ.toNat<x.types.length:=Za
 have hT:cC Tryz.prog 306=some (.int .i64,some (.int .i64 0)):=Ze
 unfold EW;have htd:nth x.types r.typ.toNat=ZG x r:=rfl
 generalize ZG x r=t at *
 have e1: ¬r.typ<0:=Za
 have e2: ¬(x.types.length:Int)<=r.typ:=Za
 have p1:0<=t.perMile*s.miles/\t.perMile*s.miles<=100*1000000:=⟨Qd Za Za,Uu Za Za Za Za⟩
 have hW: -8192<=s.fin-t.opn/\s.fin-t.opn<=8192:=Za
 have p2: -819200<=t.perTick*(s.fin-t.opn)/\t.perTick*(s.fin-t.opn)<=819200:=by
  generalize s.fin-t.opn=w at hW;have a1:=Ek hW.2 (show 0<=t.perTick by omega);have a2:=Ek hW.1 (show 0<=t.perTick by omega);omega
 have p3: -128<=(s.fin-t.opn).tdiv 64/\(s.fin-t.opn).tdiv 64<=128:=by
  grind
 have p4:0<=(s.fin-t.opn).tdiv 64*(s.fin-t.opn).tdiv 64/\(s.fin-t.opn).tdiv 64*(s.fin-t.opn).tdiv 64<=16384:=by
  generalize (s.fin-t.opn).tdiv 64=q at p3;refine ⟨?_,?_⟩
  ·rcases Int.le_total 0 q with h | h
   ·exact Qd h h
   ·exact Int.mul_nonneg_of_nonpos_of_nonpos h h
  ·rcases Int.le_total 0 q with h | h
   ·have:=Uu p3.2 p3.2 h Za;omega
   ·have h2:0<= -q:=Za
    have:=Uu (show-q<=128 by omega) (show-q<=128 by omega) h2 Za
    grind
 refine Zc Tryz.func215 rfl uX ?_;simp (disch:=omega) only [Tryz.f215,e1,e2,htd,go_sem,seval]
 refine Zn [3,4,6,10,11,59,60] (fun q:Nat×List (Int×Int)=> [(61,.p (.int .i64 q.1))]) (fun q=> [Zh x,YJ r,.cells [.p (.bool s.rest),.p (.int .i64 s.dep),.p (.list s.times_c (s.times.map eTim)),.p (.int .i64 s.fin),.p (.int .i64 s.miles)],NG 0 0 0 0,YG t,NG (t.fixed+t.perMile*s.miles+t.perTick*(s.fin-t.opn)) (chgF x r.visits r.typ q.1).1 (chgF x r.visits r.typ q.1).2 ((s.fin-t.opn).tdiv 64*(s.fin-t.opn).tdiv 64),.map (q.2.map eII)])
  (fun q=>q.1<=r.visits.length/\ ∀n,JN q.2 n=DX r.visits q.1 n) (fun q=>r.visits.length-q.1) (0,[]) ⟨Zb,fun n=>rfl⟩ (Weak.mk ?_) ?_
 ·simp (disch:=omega) only [Zh,YJ,YG,NG,chgF,go_sem,seval]
 ·rintro ⟨k,m⟩ ⟨hk,hmg⟩;simp only at hk hmg;have hch:=DU (x:=x) (l:=r.visits) (t:=r.typ) k;simp (disch:=omega) only [Zh,YJ,YG,NG,go_sem,seval];refine cD ?_ ?_<;>intro h1<;>simp (disch:=omega) only [Sh.out h1,go_sem,seval,↓reduceIte]
  ·have hk2:k<r.visits.length:=Za
   obtain ⟨v1,v2⟩:=hv _ (Zz hk2)
   have e3: ¬(nth r.visits k).order<0:=Za
   have e4: ¬(x.orders.length:Int)<=(nth r.visits k).order:=Za
   have v3:(nth r.visits k).order.toNat<x.orders.length:=Za
   have hcs:=Rl hk2;have hcr:=TW hk (nth r.visits k).order;have hfi:=MS (l:=r.visits) (k:=k);have hch2:chgF x r.visits r.typ (k+1)=_:=chgF.eq_2 x r.visits r.typ k;refine Lk hT rfl ?_;rw [hmg];refine Zd ?_;refine cK hT rfl fun m' hm'=> ?_
   have hmg': ∀n,JN m' n=DX r.visits (k+1) n:=fun n=>by grind
   simp (disch:=omega) only [e3,e4,Z7,ZX,go_sem,seval];refine Lk hT rfl ?_;rw [hm',if_pos rfl];refine Zd ?_;refine Xm ?_ ?_<;>intro h2
   ·have h3: ¬B3 r.visits k=true:=by grind
    rw [if_neg h3] at hch2;exact ⟨(k+1,m'),⟨Za,hmg'⟩,Za,Weak.mk (by simp (disch:=omega) only [hch2,go_sem,seval])⟩
   ·have h3:B3 r.visits k=true:=by grind
    rw [if_pos h3] at hch2;refine (Ah (nth x.orders (nth r.visits k).order.toNat).now r.typ).use (Zd ?_);refine cD ?_ ?_<;>intro h4<;>simp (disch:=omega) only [Sh.out h4,go_sem,seval,↓reduceIte]
    ·rw [if_pos h4] at hch2;refine (Ah (nth x.orders (nth r.visits k).order.toNat).last r.typ).use (Zd ?_);refine Xm ?_ ?_<;>intro h5
     ·rw [if_pos h5] at hch2;exact ⟨(k+1,m'),⟨Za,hmg'⟩,Za,Weak.mk (by simp (disch:=omega) only [hch2,go_sem,seval])⟩
     ·rw [if_neg (by rw [h5];simp)] at hch2;exact ⟨(k+1,m'),⟨Za,hmg'⟩,Za,Weak.mk (by simp (disch:=omega) only [hch2,Int.add_zero,go_sem,seval])⟩
    ·rw [if_neg (by rw [h4];simp)] at hch2;refine (Ah (nth x.orders (nth r.visits k).order.toNat).last r.typ).use (Zd ?_);refine Xm ?_ ?_<;>intro h5
     ·rw [if_pos h5] at hch2;exact ⟨(k+1,m'),⟨Za,hmg'⟩,Za,Weak.mk (by simp (disch:=omega) only [hch2,Int.add_zero,go_sem,seval])⟩
     ·rw [if_neg (by rw [h5];simp)] at hch2;exact ⟨(k+1,m'),⟨Za,hmg'⟩,Za,Weak.mk (by simp (disch:=omega) only [hch2,Int.add_zero,go_sem,seval])⟩
  grind
end Go.Proofs.YtjkkdmeebhjaiaaGreatDoor.K
namespace Go.Proofs.YtjkkdmeebhjaiaaGreatDoor.K
open Go Go.AM Go.Proofs
set_option maxRecDepth 8000
set_option maxHeartbeats 8000000
@[go_sem] theorem ZaX {f:FuncId} :(PV.fn f).cells= [.fn f]:=Zi rfl rfl
def yO : AM.Obj:= .cells [.p (.bool false),.p (.int .i64 0),.p (.list true []),.p (.int .i64 0),.p (.int .i64 0)]
theorem MV (x:Inst) (r:Rte) (hx:InstOk x) (hl:r.visits.length<=1048576) (hrl:r.rests.length<=1048576):ACalls Tryz.prog 195 [.p (ZW x),.p (KO r)] [] fun y H'=>y=IV x r/\H'= []:=by
 have hld:=A1 hx;have htl:=hld.typ;have hol:=hld.ord;have chk:=dI x r hx hl
 have htb:x.types.length<=6:=by have:=hx.types.1;simp only [rng,Zp] at this;omega
 refine Zj [] Tryz.func195 rfl uN ?_;simp (disch:=omega) only [Tryz.f195,go_sem,seval];refine gF ?_ ?_<;>intro h1<;>simp (disch:=omega) only [Sh.out h1,go_sem,seval,↓reduceIte]
 ·have e:Yf x r=2:=by rw [Yf,if_pos Za]
  rw [Uc (e:=2) (by rw [XH,e];rfl) Za];exact we (by simp (disch:=omega) only [zShe,zSco,Zm,go_sem,seval])
 ·refine cD ?_ ?_<;>intro h2<;>simp (disch:=omega) only [Sh.out h2,go_sem,seval,↓reduceIte]
  ·have e:Yf x r=2:=by simp_all [Yf]
   rw [Uc (e:=2) (by rw [XH,e];rfl) Za];exact we (by simp (disch:=omega) only [zShe,zSco,Zm,go_sem,seval])
  ·have hty:0<=r.typ/\r.typ<(x.types.length:Int):=Za
   have hti:r.typ.toNat<x.types.length:=Za
   have hnum:=W6 hx hti;have htyp:nth x.types r.typ.toNat=ZG x r:=rfl;rw [htyp] at hnum
   have hsk: ∀o∈x.orders,o.skills<9223372036854775808:=fun o hm=>by
    obtain ⟨i,hi,rfl⟩:=Z1.1 hm;have:=(hx.orders.2 i hi).skills
    grind [Zg]
   refine Zn [2,3,4,5,25,26] (fun k:Nat=> [(27,.p (.int .i64 k))]) (fun _=> [Zh x,YJ r,yO,NG 0 0 0 0,.elems 1 [.fn 211,.fn 212,.fn 213]])
    (fun k=>k<=3/\(0<k->Xt x r.visits=0)/\(1<k-> ¬(r.visits.any fun v=> !YK (ZG x r) (nth x.orders v.order.toNat).skills)=true)/\(2<k->Qx x (ZG x r).cap r.visits=true)) (fun k=>3-k) 0 ⟨Za,Za,Za,Za⟩ (Weak.mk ?_) ?_
   ·simp (disch:=omega) only [Zh,YJ,NG,yO,go_sem,seval]
   ·rintro k ⟨hk,k1,k2,k3⟩;simp (disch:=omega) only [Zh,YJ,NG,yO,go_sem,seval];refine cD ?_ ?_<;>intro h3<;>simp (disch:=omega) only [Sh.out h3,go_sem,seval,↓reduceIte]
    ·by_cases hk0:k=0
     ·subst hk0;have he:JE [PV.fn 211,PV.fn 212,PV.fn 213] 0=PV.fn 211:=rfl;simp (disch:=first | omega | (simp only [ZL,ZY,Zy,ZB,Xy,XR]<;>omega)) only [he,go_sem,seval,↓reduceIte];refine (chk).use (Zd ?_);refine Xm ?_ ?_<;>intro h4
      ·have e:Yf x r=Xt x r.visits:=by simp_all [Yf]
       rw [Uc (e:=Xt x r.visits) (by simp_all [XH]) h4];exact we (by simp (disch:=omega) only [zShe,zSco,Zm,go_sem,seval])
      ·exact ⟨1,⟨Za,fun _=>Za,Za,Za⟩,Za,wk⟩
     ·have h0:=k1 Za;have hsq:=Vr h0
      have hr0:Yf x r=if (r.visits.any fun v=> !YK (ZG x r) (nth x.orders v.order.toNat).skills)=true then 18 else if Qx x (ZG x r).cap r.visits=false then 17 else if ¬(0<=r.start/\r.start<=4096/\r.rests.length<=r.visits.length+1) then 2 else 0:=by
       rw [Yf,if_neg (fun h=>h hty),if_neg Za]
      by_cases hk1:k=1
      ·subst hk1;have he:JE [PV.fn 211,PV.fn 212,PV.fn 213] 1=PV.fn 212:=rfl;simp (disch:=first | omega | (simp only [ZL,ZY,Zy,ZB,Xy,XR]<;>omega)) only [he,go_sem,seval,↓reduceIte];refine (dG x r hty (fun v hv=>by have:=hsq.inr v hv;grind [gV]) hl htl Za Za hsk).use (Zd ?_)
       by_cases h5:(r.visits.any fun v=> !YK (ZG x r) (nth x.orders v.order.toNat).skills)=true
       ·rw [if_pos h5] at hr0 ⊢;rw [Uc (e:=18) (by rw [XH,hr0];rfl) Za];refine Zd ?_;exact we (by simp (disch:=omega) only [zShe,zSco,Zm,go_sem,seval])
       ·rw [if_neg h5];refine Zd ?_;exact ⟨2,⟨Za,fun _=>h0,fun _=>h5,Za⟩,Za,wk⟩
      ·have hk2:k=2:=Za
       subst hk2;have he:JE [PV.fn 211,PV.fn 212,PV.fn 213] 2=PV.fn 213:=rfl;simp (disch:=first | omega | (simp only [ZL,ZY,Zy,ZB,Xy,XR]<;>omega)) only [he,go_sem,seval,↓reduceIte];refine (dD x r hx hl hty h0).use (Zd ?_);rw [if_neg (k2 Za)] at hr0
       cases h5:Qx x (ZG x r).cap r.visits with
       | false =>
        rw [if_pos h5] at hr0;rw [Uc (e:=17) (by rw [XH,hr0];rfl) Za];simp only [JK,Ys];refine Zd ?_;exact we (by simp (disch:=omega) only [zShe,zSco,Zm,go_sem,seval])
       | true =>
        simp only [if_true];refine Zd ?_;exact ⟨3,⟨Za,fun _=>h0,fun _=>k2 Za,fun _=>Zb⟩,Za,wk⟩
    ·have hk3:k=3:=Za
     subst hk3;have h0:=k1 Za;have hsq:=Vr h0
     have hr0:Yf x r=if ¬(0<=r.start/\r.start<=4096/\r.rests.length<=r.visits.length+1) then 2 else 0:=by
      rw [Yf,if_neg (fun h=>h hty),if_neg Za,if_neg (k2 Za),if_neg (by grind)]
     have cb:=mE x r hx hl hrl hty h0;have hok:=BO hx hty hsq
     have hbr:Qn x r=XV x r->(XV x r).2=0->(0<=r.start/\r.start<=4096/\r.rests.length<=r.visits.length+1)->(0<=(XV x r).1.fin/\(XV x r).1.fin<=8192)/\(0<=(XV x r).1.miles/\(XV x r).1.miles<=210000):=fun _ hz hs =>
      IE hok ⟨hs.1,hs.2.1⟩ (by grind [YT]) hz
     by_cases h6:0<=r.start/\r.start<=4096/\r.rests.length<=r.visits.length+1
     ·have e:Yf x r=0:=Za
      have ee:XH x r=(XV x r).2:=by rw [XH,if_pos e]
      have eb:Qn x r=XV x r:=by rw [Qn,if_pos h6]
      have hbr:=fun hz=>hbr eb hz h6;rw [eb] at cb
      have es:XW x r=if (XV x r).2=0 then (XV x r).1 else zShe:=by rw [XW,ee]
      have ep:Y9 x r=if (XV x r).2=0 then EW x r (XV x r).1 else zSco:=by rw [Y9,ee]
      unfold IV;rw [ee,es,ep];clear ee es ep eb
      generalize XV x r=q at *
      obtain ⟨sh,eb⟩:=q;simp only at cb hbr ⊢;refine Vc cb (Zd ?_);refine cD ?_ ?_<;>intro h7<;>simp (disch:=omega) only [Sh.out h7,go_sem,seval,↓reduceIte]
      ·exact we (by simp (disch:=omega) only [zShe,zSco,Zm,go_sem,seval])
      ·have h7':eb=0:=Za
       try rw [if_pos h7',if_pos h7']
       subst h7';obtain ⟨g1,g2⟩:=hbr rfl;refine ZK 5 mixed Ze Ze (Zd ?_);refine Zo (dH x r sh hty Za htl hl hsq.inr hnum.2.2.2.1 Za Za Za) (Zd ?_);exact we
     ·have e:Yf x r=2:=Za
      have eb:Qn x r=(zShe,2):=by rw [Qn,if_neg h6]
      rw [Uc (e:=2) (by rw [XH,e];rfl) Za];rw [eb] at cb;refine Vc cb (Zd ?_);exact we (by simp (disch:=omega) only [zShe,zSco,Zm,go_sem,seval])
theorem Vu {x:Inst} {r:Rte} (h:XH x r=0):Yf x r=0:=by
 grind [XH]
theorem Ug {x:Inst} {r:Rte} (h:Yf x r=0):(0<=r.typ/\r.typ<(x.types.length:Int))/\Xt x r.visits=0/\(0<=r.start/\r.start<=4096/\r.rests.length<=r.visits.length+1):=by
 unfold Yf at h;omega
theorem IW {x:Inst} {r:Rte} (hx:InstOk x) (h:XH x r=0):(0<=(XW x r).fin/\(XW x r).fin<=8192)/\(0<=(XW x r).miles/\(XW x r).miles<=210000):=by
 obtain ⟨hty,h0,hs⟩:=Ug (Vu h)
 have e:XW x r=(XV x r).1:=by rw [XW,if_pos h]
 have ee:(XV x r).2=0:=by rw [XH,if_pos (Vu h)] at h;exact h
 rw [e];exact IE (BO hx hty (Vr h0)) ⟨hs.1,hs.2.1⟩ (by grind [YT]) ee
theorem Ru {x:Inst} {r:Rte} (hx:InstOk x) (hl:r.visits.length<=1048576) (h:XH x r=0):C4 1073741824 (Y9 x r):=by
 have hg:=IW hx h;obtain ⟨hty,_,_⟩:=Ug (Vu h);have hnum:=W6 hx (show r.typ.toNat<x.types.length by omega);have htyp:nth x.types r.typ.toNat=ZG x r:=rfl;rw [htyp] at hnum
 have e:(XV x r).1=XW x r:=by rw [XW,if_pos h]
 have hch:=DU (x:=x) (l:=r.visits) (t:=r.typ) r.visits.length;rw [Y9,if_pos h,e];unfold EW C4
 generalize XW x r=s at *
 generalize ZG x r=t at *
 have p1:0<=t.perMile*s.miles/\t.perMile*s.miles<=100*210000:=⟨Qd Za Za,Uu Za Za Za Za⟩
 have hW: -8192<=s.fin-t.opn/\s.fin-t.opn<=8192:=Za
 have p2: -819200<=t.perTick*(s.fin-t.opn)/\t.perTick*(s.fin-t.opn)<=819200:=by
  generalize s.fin-t.opn=w at hW;have a1:=Ek hW.2 (show 0<=t.perTick by omega);have a2:=Ek hW.1 (show 0<=t.perTick by omega);omega
 have p3: -128<=(s.fin-t.opn).tdiv 64/\(s.fin-t.opn).tdiv 64<=128:=by
  grind
 have p4:0<=(s.fin-t.opn).tdiv 64*(s.fin-t.opn).tdiv 64/\(s.fin-t.opn).tdiv 64*(s.fin-t.opn).tdiv 64<=16384:=by
  generalize (s.fin-t.opn).tdiv 64=q at p3;refine ⟨?_,?_⟩
  ·rcases Int.le_total 0 q with h | h
   ·exact Qd h h
   ·exact Int.mul_nonneg_of_nonpos_of_nonpos h h
  ·rcases Int.le_total 0 q with h | h
   ·have:=Uu p3.2 p3.2 h Za;omega
   ·have h2:0<= -q:=Za
    have:=Uu (show-q<=128 by omega) (show-q<=128 by omega) h2 Za
    grind
 grind
def YS (x:Inst) (r:Rte):Int×Int:=if XH x r=0 then Wg (Y9 x r) else (0,XH x r)
theorem gA (s:Sco):0<=(Wg s).1/\(Wg s).1<=36028797018963968:=by
 grind [Wg]
theorem LK (x:Inst) (r:Rte):0<=(YS x r).1/\(YS x r).1<=36028797018963968:=by
 unfold YS
 split
 ·exact gA _
 ·simp
theorem Su (x:Inst) (r:Rte) (hx:InstOk x) (hb:ZfK r):PT 164 [.p (ZW x),.p (KO r)] [.p (.int .i64 (YS x r).1),.p (.int .i64 (YS x r).2)]:=by
 have ce:=MV x r hx hb.1 hb.2;refine Zj [] Tryz.func164 rfl uB ?_;simp (disch:=omega) only [Tryz.f164,go_sem,seval];unfold IV at ce;refine ZgA ce (Zd ?_);refine cD ?_ ?_<;>intro h1<;>simp (disch:=omega) only [Sh.out h1,go_sem,seval,↓reduceIte]
 ·rw [YS,if_neg h1];exact we
 ·have h0:XH x r=0:=Za
  rw [YS,if_pos h0];refine J2 (Gj (Y9 x r) (Gy Za (Ru hx hb.1 h0))) (Zd ?_);exact we
theorem fZ {x:Inst} {t:Typ} {p:Int} {stop:Stp} {out:List Sr} {a b:Sr} (h:b∈out):b∈QG x t p stop out a:=by
 grind [QG,WE]
theorem I5 {x:Inst} {t:Typ} {p:Int} {stop:Stp} : ∀(st:List Sr) (out:List Sr) (b:Sr),(b∈out->b∈st.foldl (QG x t p stop) out)/\ ∀a∈st,(∀o,b∈QG x t p stop o a)->b∈st.foldl (QG x t p stop) out
 | [],out,b=>⟨id,fun a h=>by simp at h⟩
 | c::st,out,b=>by
  rw [Yh];obtain ⟨g1,g2⟩:=I5 st (QG x t p stop out c) b;refine ⟨fun h=>g1 (fZ h),fun a ha hb=> ?_⟩
  grind
inductive Rch (x:Inst) (t:Typ) (sp:List Stp):Nat->Lab->Prop where
 | zero:Rch x t sp 0 (labF t 0)
 | succ {k:Nat} {L:Lab} (b:Bool) (h:Rch x t sp k L) (hk:k<sp.length) (e:(nxtF x t sp k L b).2=0):Rch x t sp (k+1) (nxtF x t sp k L b).1
theorem Pl {x:Inst} {t:Typ} {sp:List Stp} : ∀(bs:List Bool) (k:Nat) (L:Lab),Rch x t sp k L->k+bs.length=sp.length+1->(Xf x t sp k L bs).2=0-> ∀j,k<=j->j<=sp.length-> ∃L',Rch x t sp j L'
 | [],k,L,h,hl,_,j,h1,h2=>by grind
 | b::bs,k,L,h,hl,hr,j,h1,h2=>by
  by_cases e:k=j
  ·grind
  ·rw [Xf] at hr
   split at hr
   ·rename_i he;exact Pl bs (k+1) _ (.succ b h Za he) (by grind) hr j Za h2
   omega
def SZ (x:Inst) (t:Typ) (l:List Vis) (s:Int×List Sr):Prop:=s.1=Ai t (ZS x l) l.length/\ ∀r L,Rch x t (ZS x (l++r)) l.length L-> ∀b,(⟨Xh t L b,UI L b⟩:Sr)∈s.2
def goS (x:Inst) (t:Typ) (s:Int×List Sr) (v:Vis):Int×List Sr:=((Xg x v).place,CH x t s.1 s.2 (Xg x v))
def st0 (t:Typ):Int×List Sr:=(t.src,W3 t [] t.opn 0)
theorem TZ {x:Inst} {t:Typ} (h:0<=t.opn):SZ x t [] (st0 t):=by
 refine ⟨rfl,fun r L hL b=> ?_⟩
 have:L=labF t 0:=by
  generalize hk:([]:List Vis).length=k at hL
  cases hL with
  | zero=>rfl
  | succ=>simp at hk
 subst this
 have hm:max t.opn 0=t.opn:=Za
 cases b
 ·exact WE.2 (.inr (.inl (by simp [Xh,UI,labF,hm])))
 ·exact WE.2 (.inr (.inr (by simp [Xh,UI,labF,hm])))
theorem GA {x:Inst} {l r:List Vis} {v:Vis} :nth (ZS x (l++(v::r))) l.length=Xg x v:=by
 grind [Zg,ZS]
theorem dU {x:Inst} {t:Typ} {l r:List Vis} :Ai t (ZS x (l++r)) l.length=Ai t (ZS x l) l.length:=by
 grind [Ai,ZS,Zg]
theorem TY {x:Inst} {t:Typ} {l:List Vis} {s:Int×List Sr} {v:Vis} (h:SZ x t l s):SZ x t (l++ [v]) (goS x t s v):=by
 obtain ⟨h1,h2⟩:=h;refine ⟨?_,fun r L' hL b=> ?_⟩
 ·have e:=GA (x:=x) (l:=l) (r:= []) (v:=v);rw [Ai,if_neg Zb,show (l++ [v]).length-1=l.length by simp,e];rfl
 ·rw [WZ,ZP,ZA] at hL;generalize hsp:ZS x (l++(v::r))=sp at hL
  have hlen:l.length<sp.length:=by grind [ZS]
  have hat:nth sp l.length=Xg x v:=by grind [GA]
  have hpl:Ai t sp l.length=s.1:=by grind [dU]
  generalize hk:(l++ [v]).length=k at hL
  cases hL with
  | zero=>simp at hk
  | succ b' hp hk' he =>
   rename_i k L
   have hkl:k=l.length:=by grind
   subst hkl;have hmem:=h2 (v::r) L (by grind) b'
   generalize hd:Xh t L b'=d at *
   generalize hs:UI L b'=w at *
   have hg:BR x t sp l.length d=Qt x.net t.prof s.1 (Xg x v).place d:=by
    rw [BR,hpl,SY,if_neg Za,hat]
   unfold nxtF at he ⊢;rw [hd,hs,hg] at he ⊢
   generalize hgn:Qt x.net t.prof s.1 (Xg x v).place d=g at *
   unfold Vt at he ⊢
   split at he
   ·simp at he
   ·rename_i c1;rw [if_neg c1];rw [if_neg Za] at he ⊢;rw [hat] at he ⊢
    split at he
    ·simp at he
    ·rename_i c2;rw [if_neg c2]
     split at he
     ·simp at he
     ·rename_i c3;rw [if_neg c3];refine (I5 s.2 [] _).2 ⟨d,w⟩ hmem fun o=> ?_;have c4: ¬(¬g.2.2=0\/t.drive<w+g.1-d):=fun hh=>hh.elim (fun e=>c1 e) (fun e=>c3 e);simp only [QG,hgn];rw [if_neg c4,if_neg c2]
      cases b
      ·exact WE.2 (.inr (.inl rfl))
      ·exact WE.2 (.inr (.inr rfl))
theorem Rq {x:Inst} {k:Int} {l:List Vis} {s:Int×List Sr} (h:SZ x (nth x.types k.toNat) l s) (he:s.2= []) (r:List Vis) (c d:Bool): ¬(YS x ⟨k,0,c,[],d,l++r⟩).2=0:=fun hp=>by
 have h1:XH x ⟨k,0,c,[],d,l++r⟩=0:=by
  grind [YS]
 have h2:(XV x ⟨k,0,c,[],d,l++r⟩).2=0:=by
  grind [XH]
 obtain ⟨bs,hl,hrun,_⟩:=FG Zb h2;obtain ⟨L,hL⟩:=Pl bs 0 _ .zero Za hrun l.length Za (by simp [ZS]);have:=h.2 r L hL false
 grind
def Ax (k:Int) (l:List Vis):Rte:=⟨k,0,true,[],false,l⟩
def Fw (x:Inst) (k:Int) (l:List Vis):Bool:=decide ((YS x (Ax k l)).2=0)
def okR (x:Inst) (k:Int) (S:Nat) (l:List Vis):Bool:=decide ((EC l).1=(S:Int))&&(decide (XH x (Ax k l)=0)&&Fw x k l)
def Uk (x:Inst) (k:Int) (S:Nat) (l:List Vis):Col:=⟨k,S,(YS x (Ax k l)).1,Ax k l⟩
def Qo (a b:Col):Bool:=if a.price≠b.price then decide (a.price<b.price) else decide (Lh a.route.visits b.route.visits<0)
def lP (x:Inst) (S:Nat) (l:List Vis):List Vis:=nextU x S l x.orders.length
def VD (x:Inst) (S:Nat):Nat:=KT x S x.orders.length
def OT (x:Inst) (k:Int) (S f:Nat) (l:List Vis) (s:Int×List Sr):List (List Vis):=xL (lP x S) (goS x (nth x.types k.toNat)) (fun s=>s.2.isEmpty) f l s
def CY (x:Inst) (k:Int) (S:Nat) (z:Col×Bool):Col×Bool:=(OT x k S (VD x S) [] (st0 (nth x.types k.toNat))).foldl (Wm (Fw x k) (Uk x k S) Qo) z
def jL (x:Inst) (k:Int) (S:Nat) (z:Col×Bool):Col×Bool:=(Mq (lP x S) (VD x S) []).foldl (Wm (okR x k S) (Uk x k S) Qo) z
theorem GJ {ok ok':List Vis->Bool} {col:List Vis->Col} {better:Col->Col->Bool} : ∀ {L:List (List Vis)} {b:Col×Bool},(∀l∈L,ok l=ok' l)->L.foldl (Wm ok col better) b=L.foldl (Wm ok' col better) b
 | [],_,_=>rfl
 | l::L,b,h=>by
  rw [Yh,Yh,Wm,Wm,h l Zb];exact GJ fun m hm=>h m (Yp _ hm)
theorem bZ {x:Inst} {S:Nat} (hN: ∀l,Gr x S l->l.length<VD x S->lP x S l≠ []): ∀(f:Nat) (l m:List Vis),Gr x S l->l.length+f=VD x S->m∈Mq (lP x S) f l->Gr x S m/\m.length=VD x S
 | 0,l,m,h,ht,hm=>by
  simp_all [Mq]
 | f+1,l,m,h,ht,hm=>by
  rw [Mq,if_neg (hN l h Za)] at hm;obtain ⟨v,hv,hm⟩:=XS.1 hm;exact bZ hN f _ m (.snoc h hv) (by simp;omega) hm
theorem WL {x:Inst} {r:Rte} (h:XH x r=0):RightV x r.visits:=by
 rw [<- Sq]
 have h1:Yf x r=0:=by
  grind [XH]
 unfold Yf at h1;omega
theorem Ux {x:Inst} {k:Int} {l:List Vis} (h:Fw x k l=true):XH x (Ax k l)=0:=by
 have h:=Ba h
 grind [YS]
theorem R1 {x:Inst} (hx:InstOk x) {S:Nat} (ha:Alw x S) (l:List Vis) (h:Gr x S l) (hl:l.length<VD x S):lP x S l≠ []:=fun e=>by
 have hf:=YB hx
 have hn:x.orders.length<=60:=by have:=hf.len;omega
 have:=(h.next_nil ha hn hf.val).1 e
 grind [VD]
theorem TD {x:Inst} (hx:InstOk x) {k:Int} {S:Nat} (h0:S≠0) (hS:S / pw x.orders.length=0) (ha:Alw x S) (ht:0<=(nth x.types k.toNat).opn) (z:Col×Bool):CY x k S z=jL x k S z:=by
 have hN:=R1 hx ha
 have h1:jL x k S z=(Mq (lP x S) (VD x S) []).foldl (Wm (Fw x k) (Uk x k S) Qo) z:=GJ fun l hl=>by
  obtain ⟨hg,hlen⟩:=bZ hN _ _ _ .nil Zb hl;obtain ⟨hr,ho⟩:=hg.right (YB hx) ha h0 hS hlen;unfold okR
  cases hv:Fw x k l with
  | false=>simp
  | true =>
   rw [Ux hv,hr.ord (YB hx),ho];simp
 rw [h1,CY,OT,UU,UU (Mq _ _ _)]
 rw [<- pP (nx:=lP x S) (go:=goS x (nth x.types k.toNat)) (emp:=fun s=>s.2.isEmpty) (ok:=Fw x k) (G:=Gr x S) (R:=SZ x (nth x.types k.toNat)) (tot:=VD x S) (fun l v hl hv=> .snoc hl hv) (fun l s v _ hs _=>TY hs)
  (fun l s _ hs he r=>Ut (Rq hs (List.isEmpty_iff.1 he) r true false)) hN (VD x S) [] (st0 (nth x.types k.toNat)) .nil (TZ ht) Zb]
theorem zA {x:Inst} (hx:InstOk x):x.types.length<=6:=by have:=hx.types.1;simp only [rng,Zp] at this;omega
set_option maxRecDepth 60000
structure St where
 ix:Int
 cov:Int
 used:List Int
 deriving Inhabited,DecidableEq
def KP (s:St):PV:= .agg (.int .i64 s.ix:: .int .i64 s.cov::s.used.map eI)
@[go_sem] theorem ZiY (s:St):KP s= .agg (.int .i64 s.ix:: .int .i64 s.cov::s.used.map eI):=Zi rfl rfl
def StR (s:St):Prop:=s.used.length=6
theorem six {l:List Int} (h:l.length=6): ∃a b c d e f,l= [a,b,c,d,e,f]:=by
 match l,h with
 | [a,b,c,d,e,f],_=>simp
theorem Yy {s:St} (h:StR s): ∃i v a b c d e f,s=⟨i,v,[a,b,c,d,e,f]⟩:=by
 obtain ⟨i,v,u⟩:=s;obtain ⟨a,b,c,d,e,f,rfl⟩:=six h;simp
theorem M9 : KeyE Tryz.prog 188 KP StR:=by
 refine ⟨⟨152,3,Ze,Ze,fun s hs=> ?_,fun s t hs ht=> ?_⟩,fun s t hs ht=> ?_⟩
 ·obtain ⟨i,v,a,b,c,d,e,f,rfl⟩:=Yy hs
  kernel_rfl
 ·obtain ⟨i,v,a,b,c,d,e,f,rfl⟩:=Yy hs;obtain ⟨i',v',a',b',c',d',e',f',rfl⟩:=Yy ht
  have h1:Y1 Tryz.prog 9 152 (KP ⟨i,v,[a,b,c,d,e,f]⟩) (KP ⟨i',v',[a',b',c',d',e',f']⟩)=some (decide (i=i')&&(decide (v=v')&&((decide (a=a')&&(decide (b=b')&&(decide (c=c')&&(decide (d=d')&&(decide (e=e')&&(decide (f=f')&&true))))))&&true))):=Ze
  have h2:keq (KP ⟨i,v,[a,b,c,d,e,f]⟩) (KP ⟨i',v',[a',b',c',d',e',f']⟩)=(decide (i=i')&&(decide (v=v')&&((decide (a=a')&&(decide (b=b')&&(decide (c=c')&&(decide (d=d')&&(decide (e=e')&&(decide (f=f')&&true))))))&&true))):=by
   simp_all [keq,KP,QB,eI]
  show (Y1 Tryz.prog 9 152 (KP ⟨i,v,[a,b,c,d,e,f]⟩) (KP ⟨i',v',[a',b',c',d',e',f']⟩)==some (keq (KP ⟨i,v,[a,b,c,d,e,f]⟩) (KP ⟨i',v',[a',b',c',d',e',f']⟩)))=true
  simp_all
 ·obtain ⟨i,v,a,b,c,d,e,f,rfl⟩:=Yy hs;obtain ⟨i',v',a',b',c',d',e',f',rfl⟩:=Yy ht
  simp_all [keq,KP,QB,eI]
structure Kd where
 typ:Int
 set:Int
 deriving Inhabited,DecidableEq
def SQ (k:Kd):PV:= .agg [.int .i64 k.typ,.int .i64 k.set]
theorem bT : KeyE Tryz.prog 234 SQ fun _=>True:=by
 refine ⟨⟨236,3,Ze,Ze,fun s _=> ?_,fun s t _ _=> ?_⟩,fun s t _ _=> ?_⟩
 ·kernel_rfl
 ·obtain ⟨a,b⟩:=s;obtain ⟨c,d⟩:=t
  have h1:Y1 Tryz.prog 9 236 (SQ ⟨a,b⟩) (SQ ⟨c,d⟩)=some (decide (a=c)&&(decide (b=d)&&true)):=Ze
  have h2:keq (SQ ⟨a,b⟩) (SQ ⟨c,d⟩)=(decide (a=c)&&(decide (b=d)&&true)):=by
   grind [keq,SQ,QB]
  show (Y1 Tryz.prog 9 236 (SQ ⟨a,b⟩) (SQ ⟨c,d⟩)==some (keq (SQ ⟨a,b⟩) (SQ ⟨c,d⟩)))=true
  simp_all
 ·obtain ⟨a,b⟩:=s;obtain ⟨c,d⟩:=t;simp [keq,SQ,QB]
def Aq (n:Nat) (m cov:Int):Nat->Nat->Nat
 | 0,k=>k
 | f+1,k=>if k<n/\(sHas m k=false\/sHas cov k=true) then Aq n m cov f (k+1) else k
theorem Cy {n:Nat} {m cov:Int} {k:Nat} (h: ¬(k<n/\(sHas m k=false\/sHas cov k=true))) (f:Nat):Aq n m cov f k=k:=by
 cases f with
 | zero=>rfl
 | succ f=>rw [Aq,if_neg h]
theorem Dx {n:Nat} {m cov:Int} {k:Nat} (h:k<n) (hc:sHas m k=false\/sHas cov k=true):Aq n m cov (n-k) k=Aq n m cov (n-(k+1)) (k+1):=by
 rw [show n-k=(n-(k+1))+1 by omega,Aq,if_pos ⟨h,hc⟩]
def WT (n:Nat) (m:Int) (s:St):St:= { s with ix:=(Aq n m s.cov (n-s.ix.toNat) s.ix.toNat:Nat) }
def W9 (x:Inst) (f g:PV) (m:Int):AM.Obj:= .cells [.p (.list x.net.places_c (x.net.places.map eS)),.p (.list x.net.arcs_c (x.net.arcs.map Um)),.p (.list x.types_c (x.types.map XY)),.p (.list x.orders_c (x.orders.map Yc)),.p (.list x.apart_c (x.apart.map eP)),.p (.list x.before_c (x.before.map eP)),.p f,.p g,.mp 0,.p (.int .i64 m)]
def YI (x:Inst) (f g:PV) (m:Int) (l:List (St×Int)):List AM.Obj:= [.map (l.map (IR KP)),W9 x f g m]
def Ar (s:St):AM.Obj:= .cells (.p (.int .i64 s.ix):: .p (.int .i64 s.cov)::(s.used.map eI).map .p)
theorem EX (x:Inst) (f g:PV) (m:Int) (l:List (St×Int)) (s:St) (hs:StR s) (h0:0<=s.ix) (hn:x.orders.length<=10) (h1:s.ix<=10) :
  ACalls Tryz.prog 106 [.ptr 1 0,.p (KP s)] (YI x f g m l) fun y H'=>y= .p (KP (WT x.orders.length m s))/\H'=YI x f g m l:=by
 obtain ⟨i,v,a,b,c,d,e,u,rfl⟩:=Yy hs;obtain ⟨i,rfl⟩: ∃k:Nat,i=k:=⟨i.toNat,by grind⟩;simp only at h0 h1;generalize hT:KP (WT x.orders.length m ⟨i,v,[a,b,c,d,e,u]⟩)=T;refine Zj [] Tryz.func106 rfl tF ?_;simp (disch:=omega) only [Tryz.f106,YI,W9,Zt,Zm,go_sem,seval];refine Zn [0,3,4] (fun k:Nat=> []) (fun k=>YI x f g m l++ [Ar ⟨k,v,[a,b,c,d,e,u]⟩,.cells (List.replicate 8 (.p (.int .i64 0)))]) (fun k=>k<=10/\Aq x.orders.length m v (x.orders.length-k) k=Aq x.orders.length m v (x.orders.length-i) i) (fun k=>x.orders.length-k) i ⟨Za,rfl⟩ (Weak.mk ?_) ?_
 ·simp (disch:=omega) only [YI,W9,Ar,Zt,Zm,List.replicate,go_sem,seval,↓reduceIte]
 ·rintro k ⟨hk,hq⟩
  have fin: ∀q:Nat,q=Aq x.orders.length m v (x.orders.length-i) i->KP ⟨q,v,[a,b,c,d,e,u]⟩=T:=fun q hq=>by grind [WT]
  simp (disch:=omega) only [YI,W9,Ar,Zt,Zm,List.replicate,go_sem,seval];refine XN (Zd ?_);refine gT ?_ ?_<;>intro h5<;>simp (disch:=omega) only [Sh.out h5,go_sem,seval,↓reduceIte]
  ·have hk2:k<x.orders.length:=Za
   refine Zo (CQ m k) (Zd ?_)
   cases hm:sHas m k with
   | false =>
    simp (disch:=omega) only [Km,go_sem,seval];exact ⟨k+1,⟨Za,by grind [Dx]⟩,Za,wk⟩
   | true =>
    simp (disch:=omega) only [Bool.not_true,go_sem,seval];refine Zo (CQ v k) (Zd ?_)
    cases hv:sHas v k with
    | true =>
     refine Zd ?_;exact ⟨k+1,⟨Za,by grind [Dx]⟩,Za,wk⟩
    | false =>
     refine Zd ?_;exact ⟨.p (KP ⟨k,v,[a,b,c,d,e,u]⟩),_,Weak.mk (by simp (disch:=omega) only [Zt,Zm,go_sem,seval]),by grind [Cy],rfl⟩
  ·exact ⟨.p (KP ⟨k,v,[a,b,c,d,e,u]⟩),_,Weak.mk (by simp (disch:=omega) only [Zt,Zm,go_sem,seval]),by grind [Cy],rfl⟩
def Ck (n:Nat) (m:Int) (s:St):St:=WT n m { s with ix:=s.ix+1 }
theorem E2 {P Q:Prop} (h:Q) (e:Q->P:=by intro h;simp (disch:=omega) only [YI,W9,Zt,Zm,ZP,ZA,go_sem,seval];exact h):P:=e h
theorem GN (x:Inst) (f g:PV) (m:Int) (l:List (St×Int)) (s:St) (hs:StR s) (h0:0<=s.ix) (hn:x.orders.length<=10) (h1:s.ix<=9) :
  ACalls Tryz.prog 143 [.ptr 1 0,.p (KP s)] (YI x f g m l) fun y H'=>y= .p (KP (Ck x.orders.length m s))/\H'=YI x f g m l:=by
 have hc:=EX x f g m l { s with ix:=s.ix+1 } hs (by grind) hn (by grind);obtain ⟨i,v,a,b,c,d,e,u,rfl⟩:=Yy hs;obtain ⟨q,hq⟩: ∃q:Int,Ck x.orders.length m ⟨i,v,[a,b,c,d,e,u]⟩=⟨q,v,[a,b,c,d,e,u]⟩:=⟨_,rfl⟩;have hq':WT x.orders.length m ⟨i+1,v,[a,b,c,d,e,u]⟩=⟨q,v,[a,b,c,d,e,u]⟩:=hq;rw [hq];simp only at h0 h1 hc;rw [hq'] at hc;refine Zj [] Tryz.func143 rfl tY ?_;simp (disch:=omega) only [Tryz.f143,YI,W9,Zt,Zm,go_sem,seval];refine hc.useP (L:= [_,_]) (by rfl) ?_ (by rfl) (by rfl);refine E2 ?_
 exact we
def BQ (n:Nat) (m:Int) (s:St) (T:Nat) (C S:Nat):St:=WT n m ⟨s.ix,((C|||S:Nat):Int),s.used.set T (nth s.used T+1)⟩
def C3 (x:Inst) (s:St) (T:Nat) (C S:Nat):Bool:=decide (C&&&S=0)&&decide (nth s.used T<(nth x.types T).count)
theorem gE (x:Inst) (f g:PV) (m:Int) (l:List (St×Int)) (s:St) (c:Col) (hs:StR s) (h0:0<=s.ix) (hn:x.orders.length<=10) (h1:s.ix<=10) (C S T:Nat) (hC:s.cov=C) (hS:c.set=S) (hT:c.typ=T) (hC2:C<1024) (hS2:S<1024) (hT2:T<x.types.length) (h6:x.types.length<=6)
  (hu: ∀j,j<6->0<=nth s.used j/\nth s.used j<=1048576) :
  ACalls Tryz.prog 142 [.ptr 1 0,.p (KP s),.p (Ya c)] (YI x f g m l) fun y H'=>y=(if C3 x s T C S=true then .tup [.p (KP (BQ x.orders.length m s T C S)),.p (.bool true)] else .tup [.p (KP s),.p (.bool false)])/\H'=YI x f g m l:=by
 have hor:C|||S<1024:=Qa (n:=10) hC2 hS2;have hc:=EX x f g m l ⟨s.ix,((C|||S:Nat):Int),s.used.set T (nth s.used T+1)⟩ (by grind [StR]) h0 hn h1;obtain ⟨i,v,a0,a1,a2,a3,a4,a5,rfl⟩:=Yy hs
 have hT3:T=0\/T=1\/T=2\/T=3\/T=4\/T=5:=Za
 have u0:=hu 0 Za;have u1:=hu 1 Za;have u2:=hu 2 Za;have u3:=hu 3 Za;have u4:=hu 4 Za;have u5:=hu 5 Za;simp only [nth,List.getD_cons_zero,List.getD_cons_succ] at u0 u1 u2 u3 u4 u5;simp only at hC h0 h1;obtain ⟨ct,cs,cp,cr⟩:=c;simp only at hS hT;subst hC;subst hS;subst hT;obtain ⟨R,hR⟩: ∃R:V,R=(if C3 x ⟨i,(C:Nat),[a0,a1,a2,a3,a4,a5]⟩ T C S=true then .tup [.p (KP (BQ x.orders.length m ⟨i,(C:Nat),[a0,a1,a2,a3,a4,a5]⟩ T C S)),.p (.bool true)] else .tup [.p (KP ⟨i,(C:Nat),[a0,a1,a2,a3,a4,a5]⟩),.p (.bool false)]):=⟨_,rfl⟩
 rw [<- hR];obtain ⟨q,hq⟩: ∃q:Int,WT x.orders.length m ⟨i,((C|||S:Nat):Int),[a0,a1,a2,a3,a4,a5].set T (nth [a0,a1,a2,a3,a4,a5] T+1)⟩=⟨q,((C|||S:Nat):Int),[a0,a1,a2,a3,a4,a5].set T (nth [a0,a1,a2,a3,a4,a5] T+1)⟩:=⟨_,rfl⟩;simp only at hc;rw [hq] at hc;have hw:BQ x.orders.length m ⟨i,(C:Nat),[a0,a1,a2,a3,a4,a5]⟩ T C S=⟨q,((C|||S:Nat):Int),[a0,a1,a2,a3,a4,a5].set T (nth [a0,a1,a2,a3,a4,a5] T+1)⟩:=hq;rw [hw] at hR;refine Zj [] Tryz.func142 rfl tX ?_;rcases hT3 with rfl | rfl | rfl | rfl | rfl | rfl
 all_goals
  simp (disch:=omega) only [Tryz.f142,YI,W9,Zt,Zm,go_sem,seval,↓reduceIte];refine XN ?_;simp (disch:=omega) only [go_sem,seval,↓reduceIte];refine gF ?_ ?_<;>intro h5<;>simp (disch:=omega) only [Sh.out h5,go_sem,seval,↓reduceIte]
  ·have hno:(decide (C&&&S=0))=false:=Ut Za;exact ⟨.tup [.p (KP ⟨i,(C:Nat),[a0,a1,a2,a3,a4,a5]⟩),.p (.bool false)],_,Weak.mk (by simp (disch:=omega) only [Zt,Zm,go_sem,seval]),by rw [hR,if_neg (by rw [C3,hno];simp)],rfl⟩
  ·have hcs:C&&&S=0:=Za
   refine cD ?_ ?_<;>intro h7<;>simp (disch:=omega) only [Sh.out h7,go_sem,seval,↓reduceIte]
   ·exact ⟨.tup [.p (KP ⟨i,(C:Nat),[a0,a1,a2,a3,a4,a5]⟩),.p (.bool false)],_,Weak.mk (by simp (disch:=omega) only [Zt,Zm,go_sem,seval]),by rw [hR,if_neg (by rw [C3,Qe hcs,VN];exact fun h=>Int.not_lt.2 h7 (Ba h))],rfl⟩
   ·rw [if_pos (by rw [C3,Qe hcs,VN];exact Qe (Int.not_le.1 h7))] at hR;refine hc.useP (L:= [_,_,_]) (by rfl) ?_ (by rfl) (by rfl);simp (disch:=omega) only [YI,W9,Zt,Zm,ZP,ZA,ZX,Z7,go_sem,seval,↓reduceIte];exact ⟨R,_,Weak.mk (by rw [hR];simp (disch:=omega) only [nth,List.getD_cons_zero,List.getD_cons_succ,ZX,Z7,Zt,Zm,go_sem,seval]),rfl,rfl⟩
def YH (o p r:Int):Int:=if 0<=r/\(o<0\/p+r<o) then p+r else o
theorem IG (o p r:Int) (hp: -4611686018427387904<=p/\p<=4611686018427387904) (hr: -4611686018427387904<r/\r<4611686018427387904) :
  ACalls Tryz.prog 141 [.p (.int .i64 p),.p (.int .i64 r),.ptr 0 0] [.cells [.p (.int .i64 o)]] fun y H'=>y= .tup []/\H'= [.cells [.p (.int .i64 (YH o p r))]]:=by
 obtain ⟨T,hT⟩: ∃T,T=YH o p r:=⟨_,rfl⟩;rw [<- hT];unfold YH at hT;refine Zj [] Tryz.func141 rfl tW ?_;simp (disch:=omega) only [Tryz.f141,go_sem,seval];refine gT ?_ ?_<;>intro h1<;>simp (disch:=omega) only [Sh.out h1,go_sem,seval,↓reduceIte]
 ·refine gF ?_ ?_<;>intro h2<;>simp (disch:=omega) only [Sh.out h2,go_sem,seval,↓reduceIte]
  ·rw [if_pos ⟨h1,.inl h2⟩] at hT;subst hT;exact we
  ·refine cD ?_ ?_<;>intro h3<;>simp (disch:=omega) only [Sh.out h3,go_sem,seval,↓reduceIte]
   ·rw [if_pos ⟨h1,.inr h3⟩] at hT;subst hT;exact we
   ·rw [if_neg Za] at hT;subst hT;exact we
 ·rw [if_neg Za] at hT;subst hT;exact we
theorem BI {n:Nat} {m cov:Int} : ∀(f k:Nat),k<=Aq n m cov f k
 | 0,k=>Zw _
 | f+1,k=>by
  rw [Aq]
  split
  ·have:=BI (n:=n) (m:=m) (cov:=cov) f (k+1);omega
  ·omega
theorem Pm {n:Nat} {m cov:Int} : ∀(f k:Nat),k<=n->Aq n m cov f k<=n
 | 0,k,h=>h
 | f+1,k,h=>by
  rw [Aq]
  split
  ·rename_i hc;exact Pm f (k+1) Za
  ·exact h
theorem SB {n:Nat} {m cov:Int} {k:Nat} (h:k<n) (hb:sHas cov k=true):k+1<=Aq n m cov (n-k) k:=by
 grind [Dx,BI]
theorem Ex {l:List Int} {i j:Nat} {a:Int} (h:i<l.length):nth (l.set i a) j=if i=j then a else nth l j:=by
 grind [nth]
structure StV (n:Nat) (s:St):Prop where
 len:StR s
 ix:0<=s.ix/\s.ix<=n
 cov: ∃C:Nat,s.cov=C/\C<1024
 used: ∀j,j<6->0<=nth s.used j/\nth s.used j<=1048576
theorem H9 {n:Nat} {m:Int} {s:St} (h:StV n s):StV n (WT n m s)/\s.ix<=(WT n m s).ix:=by
 obtain ⟨h1,h2,h3,h4⟩:=h;have a:=BI (n:=n) (m:=m) (cov:=s.cov) (n-s.ix.toNat) s.ix.toNat;have b:=Pm (n:=n) (m:=m) (cov:=s.cov) (n-s.ix.toNat) s.ix.toNat Za;exact ⟨⟨h1,by grind [WT],h3,h4⟩,by grind [WT]⟩
theorem HG {n:Nat} {m:Int} {s:St} (h:StV n s) (hi:s.ix<n):StV n (Ck n m s)/\s.ix<(Ck n m s).ix:=by
 have h':StV n { s with ix:=s.ix+1 } :=⟨h.len,by have:=h.ix;grind,h.cov,h.used⟩
 grind [H9,Ck]
theorem mZ {C S k:Nat} (h:sHas (S:Int) k=true):sHas ((C|||S:Nat):Int) k=true:=by
 have key: ∀N:Nat,sHas (N:Int) k=true↔k<=62/\N.testBit k=true:=fun N=>by
  simp only [sHas,Zs,Zp,Xn]
  grind
 grind
theorem oA {n:Nat} {m:Int} {s:St} {T C S:Nat} (h:StV n s) (hi:s.ix<n) (hC:C<1024) (hS:S<1024) (hb:sHas (S:Int) s.ix=true) (hT:T<6) (hu:nth s.used T<1048576):StV n (BQ n m s T C S)/\s.ix<(BQ n m s T C S).ix:=by
 have hor:C|||S<1024:=Qa (n:=10) hC hS;have hl:s.used.length=6:=h.len
 have h':StV n ⟨s.ix,((C|||S:Nat):Int),s.used.set T (nth s.used T+1)⟩:=by
  refine ⟨by grind [StR],h.ix,⟨_,rfl,hor⟩,fun j hj=> ?_⟩;simp only;rw [Ex Za]
  split
  ·have:=h.used T hT;omega
  ·exact h.used j hj
 grind [H9,SB,mZ,BQ,WT]
def Yk (x:Inst) (s:St) (c:Col):Bool:=C3 x s c.typ.toNat s.cov.toNat c.set.toNat
def W7 (n:Nat) (m:Int) (s:St) (c:Col):St:=BQ n m s c.typ.toNat s.cov.toNat c.set.toNat
def YV (n:Nat) (m:Int) (x:Inst) (fst:List (List Col)) (sk:List Int):Nat->St->Int
 | 0,_=>0
 | d+1,s=>if (n:Int)<=s.ix then 0 else
  let o:=(nth fst s.ix.toNat).foldl (fun o c=>if Yk x s c=true then YH o c.price (YV n m x fst sk d (W7 n m s c)) else o) (-1)
  if 0<=nth sk s.ix.toNat then YH o (nth sk s.ix.toNat) (YV n m x fst sk d (Ck n m s)) else o
structure ChOk (n:Nat) (x:Inst) (fst:List (List Col)) (sk:List Int):Prop where
 col: ∀i,i<n-> ∀c∈nth fst i,(0<=c.typ/\c.typ<x.types.length)/\(∃S:Nat,c.set=S/\S<1024)/\sHas c.set i=true/\0<=c.price/\c.price<=18014398509481984
 typ:x.types.length<=6/\ ∀t,t<6->(nth x.types t).count<=1048576
 skp: ∀i,i<n-> -1<=nth sk i/\nth sk i<=18014398509481984
theorem DB {n:Nat} {m:Int} {x:Inst} {fst:List (List Col)} {sk:List Int} (hc:ChOk n x fst sk) {s:St} (h:StV n s) (hi:s.ix<n) {c:Col} (hm:c∈nth fst s.ix.toNat) (hy:Yk x s c=true):StV n (W7 n m s c)/\s.ix<(W7 n m s c).ix:=by
 obtain ⟨⟨t0,t1⟩,⟨S,hS,hS2⟩,hb,_⟩:=hc.col _ (by have:=h.ix;omega) c hm;obtain ⟨C,hC,hC2⟩:=h.cov;have ht:=hc.typ.1;have hcnt:=hc.typ.2 c.typ.toNat Za;simp only [Yk,C3,Zs,Zp] at hy;have hi0:=h.ix;rw [show ((s.ix.toNat:Nat):Int)=s.ix by omega] at hb;exact oA h hi Za Za (by grind) Za Za
theorem QV {α β:Type} {f g:β->α->β} : ∀ {l:List α} {b:β},(∀a∈l,∀b,f b a=g b a)->l.foldl f b=l.foldl g b
 | [],_,_=>rfl
 | a::l,b,h=>by
  rw [Yh,Yh,h a Zb b];exact QV fun a ha=>h a (Yp _ ha)
theorem Qy {n:Nat} {m:Int} {x:Inst} {fst:List (List Col)} {sk:List Int} (hc:ChOk n x fst sk): ∀(d d':Nat) (s:St),StV n s->(n:Int)-s.ix<d->(n:Int)-s.ix<d'->YV n m x fst sk d s=YV n m x fst sk d' s
 | 0,_,s,h,h1,_=>by have:=h.ix;omega
 | _,0,s,h,_,h1=>by have:=h.ix;omega
 | d+1,d'+1,s,h,h1,h2=>by
  rw [YV,YV]
  split
  ·rfl
  ·rename_i hi
   have e1:(nth fst s.ix.toNat).foldl (fun o c=>if Yk x s c=true then YH o c.price (YV n m x fst sk d (W7 n m s c)) else o) (-1)=(nth fst s.ix.toNat).foldl (fun o c=>if Yk x s c=true then YH o c.price (YV n m x fst sk d' (W7 n m s c)) else o) (-1):=QV fun c hm o=>by
    by_cases hy:Yk x s c=true
    ·obtain ⟨v1,v2⟩:=DB (m:=m) hc h Za hm hy;rw [if_pos hy,if_pos hy,Qy hc d d' _ v1 Za Za]
    grind
   obtain ⟨v1,v2⟩:=HG (m:=m) h Za;rw [Qy hc d d' _ v1 Za Za];simp only [e1]
theorem IF {o p r B:Int} (h1: -1<=o/\o<=B) (h2:0<=p) (h3:p+r<=B): -1<=YH o p r/\YH o p r<=B:=by
 grind [YH]
theorem FY {α β:Type} {f:β->α->β} {R:β->Prop} : ∀ {l:List α} {b:β},R b->(∀a∈l,∀b,R b->R (f b a))->R (l.foldl f b)
 | [],_,h,_=>h
 | a::l,b,h,hf=>by
  rw [Yh];exact FY (hf a Zb b h) fun a ha=>hf a (Yp _ ha)
theorem Vz {n:Nat} {m:Int} {x:Inst} {fst:List (List Col)} {sk:List Int} (hc:ChOk n x fst sk): ∀(d:Nat) (s:St),StV n s-> -1<=YV n m x fst sk d s/\YV n m x fst sk d s<=(d:Int)*18014398509481984
 | 0,s,h=>by simp [YV]
 | d+1,s,h=>by
  rw [YV]
  split
  ·omega
  ·rename_i hi;have i0:=h.ix
   have e1: -1<=(nth fst s.ix.toNat).foldl (fun o c=>if Yk x s c=true then YH o c.price (YV n m x fst sk d (W7 n m s c)) else o) (-1)/\(nth fst s.ix.toNat).foldl (fun o c=>if Yk x s c=true then YH o c.price (YV n m x fst sk d (W7 n m s c)) else o) (-1)<=((d+1:Nat):Int)*18014398509481984:=by
    refine FY (R:=fun o:Int=> -1<=o/\o<=((d+1:Nat):Int)*18014398509481984) Za fun c hm o ho=> ?_
    split
    ·rename_i hy;obtain ⟨v1,v2⟩:=DB (m:=m) hc h Za hm hy;have:=Vz (m:=m) hc d _ v1;have:=(hc.col _ Za c hm).2.2.2;exact IF ho Za Za
    ·exact ho
   have hs:=hc.skp s.ix.toNat Za;obtain ⟨v1,v2⟩:=HG (m:=m) h Za;have:=Vz (m:=m) hc d _ v1;simp only
   split
   ·exact IF e1 Za Za
   ·exact e1
def Y7 (l:List Col):PV:= .list false (l.map Ya)
@[go_sem] theorem ZdU (l:List Col):Y7 l= .list false (l.map Ya):=Zi rfl rfl
def Rn (c:Col):AM.Obj:= .cells [.p (.int .i64 c.typ),.p (.int .i64 c.set),.p (.int .i64 c.price),.p (.int .i64 c.route.typ),.p (.int .i64 c.route.start),.p (.list c.route.rests_c (c.route.rests.map eB)),.p (.list c.route.visits_c (c.route.visits.map XB))]
def qF (n:Nat) (m:Int) (x:Inst) (fst:List (List Col)) (sk:List Int) (l:List (St×Int)):Prop:= ∀p∈l,StV n p.1/\p.2=YV n m x fst sk 20 p.1
theorem Ma {P Q:Prop} (h:Q) (e:Q->P:=by intro h;simp (disch:=omega) only [YI,W9,Ar,Zt,Zm,ZP,ZA,go_sem,seval];exact h):P:=e h
theorem C9 (x:Inst) (fst:List (List Col)) (sk:List Int) (fc sc:Bool) (m:Int) (hn:x.orders.length<=10) (hf:fst.length=x.orders.length) (hs:sk.length=x.orders.length) (hc:ChOk x.orders.length x fst sk) (hcl: ∀r∈fst,r.length<=1048576) :
  ∀(d:Nat) (s:St) (l:List (St×Int)),d<=20->StV x.orders.length s->(x.orders.length:Int)-s.ix<d->qF x.orders.length m x fst sk l ->
   ACalls Tryz.prog 107 [.ptr 1 0,.p (KP s)] (YI x (.list fc (fst.map Y7)) (.list sc (sk.map eI)) m l) fun y H'=> ∃l',qF x.orders.length m x fst sk l'/\y= .p (.int .i64 (YV x.orders.length m x fst sk 20 s))/\H'=YI x (.list fc (fst.map Y7)) (.list sc (sk.map eI)) m l'
 | 0,s,l,_,hv,hd,_=>by have:=hv.ix;omega
 | d+1,s,l,hd0,hv,hd,hl=>by
  have ih:=C9 x fst sk fc sc m hn hf hs hc hcl d;have hlR: ∀p∈l,StR p.1:=fun p hp=>(hl p hp).1.len;obtain ⟨i,v,a0,a1,a2,a3,a4,a5,rfl⟩:=Yy hv.len;have hi:=hv.ix;simp only at hi hd;obtain ⟨i,rfl⟩: ∃k:Nat,i=k:=⟨i.toNat,Za⟩;obtain ⟨T,hT⟩: ∃T,T=YV x.orders.length m x fst sk 20 ⟨i,v,[a0,a1,a2,a3,a4,a5]⟩:=⟨_,rfl⟩;rw [<- hT];refine Zj [] Tryz.func107 rfl tG ?_;simp (disch:=omega) only [Tryz.f107,YI,W9,Zt,Zm,go_sem,seval];refine XN ?_;refine Zd ?_;refine cD ?_ ?_<;>intro h1<;>simp (disch:=omega) only [Sh.out h1,go_sem,seval]
  ·rw [YV,if_pos Za] at hT;subst hT;exact ⟨_,_,wk,l,hl,rfl,rfl⟩
  ·refine XN (Zd ?_);refine T7 (FC (k:=(⟨i,v,[a0,a1,a2,a3,a4,a5]⟩:St)) M9 hlR hv.len (by rfl)) (Zd ?_)
   cases hq:mq l (⟨i,v,[a0,a1,a2,a3,a4,a5]⟩:St) with
   | some w =>
    obtain ⟨_,hw⟩:=hl _ (xM hq);simp only at hw;rw [<- hw] at hT;subst hT;simp (disch:=omega) only [Option.isSome_some,Q4,go_sem,seval];exact ⟨_,_,wk,l,hl,rfl,rfl⟩
   | none =>
    have hi2:i<fst.length:=Za
    have hi3:i<sk.length:=Za
    have hrl:=hcl _ (Z0 hi2);simp (disch:=omega) only [Option.isSome_none,Option.getD_none,go_sem,seval];refine XN (Zd ?_)
    let F:Int->Col->Int:=fun o c=>if Yk x ⟨i,v,[a0,a1,a2,a3,a4,a5]⟩ c=true then YH o c.price (YV x.orders.length m x fst sk 19 (W7 x.orders.length m ⟨i,v,[a0,a1,a2,a3,a4,a5]⟩ c)) else o
    refine Zn [0,3,7,8,42,43] (fun q:Nat×List (St×Int)=> [(44,.p (.int .i64 q.1))]) (fun q=>YI x (.list fc (fst.map Y7)) (.list sc (sk.map eI)) m q.2++ [Ar ⟨i,v,[a0,a1,a2,a3,a4,a5]⟩,.cells [.p (.int .i64 (((nth fst i).take q.1).foldl F (-1)))]]) (fun q=>q.1<=(nth fst i).length/\qF x.orders.length m x fst sk q.2) (fun q=>(nth fst i).length-q.1) (0,l) ⟨Zb,hl⟩ (Weak.mk ?_) ?_
    ·simp (disch:=omega) only [YI,W9,Ar,Zt,Zm,ZP,ZA,Q3,Bd,go_sem,seval,↓reduceIte]
    ·rintro ⟨k,l1⟩ ⟨hk,hl1⟩;simp only at hk hl1;have hl1R: ∀p∈l1,StR p.1:=fun p hp=>(hl1 p hp).1.len;generalize hacc:((nth fst i).take k).foldl F (-1)=acc;refine Ma ?_;refine cD ?_ ?_<;>intro h2<;>simp (disch:=omega) only [Sh.out h2,go_sem,seval,↓reduceIte]
     ·have hk2:k<(nth fst i).length:=Za
      have hm:=Z0 hk2
      have hs1:((nth fst i).take (k+1)).foldl F (-1)=F acc (nth (nth fst i) k):=by
       grind [Yu,Zg]
      obtain ⟨⟨t0,t1⟩,⟨S,hS,hS2⟩,hb,hp0,hp1⟩:=hc.col i Za _ hm;obtain ⟨C,hC,hC2⟩:=hv.cov;simp only at hC;have h6:=hc.typ.1;obtain ⟨tt,htt⟩: ∃tt:Nat,(nth (nth fst i) k).typ=tt:=⟨(nth (nth fst i) k).typ.toNat,Za⟩;have cw:=gE x (.list fc (fst.map Y7)) (.list sc (sk.map eI)) m l1 ⟨i,v,[a0,a1,a2,a3,a4,a5]⟩ (nth (nth fst i) k) hv.len Zb hn (by grind) C S tt hC hS htt hC2 hS2 Za h6 hv.used
      have hmay:Yk x ⟨i,v,[a0,a1,a2,a3,a4,a5]⟩ (nth (nth fst i) k)=C3 x ⟨i,v,[a0,a1,a2,a3,a4,a5]⟩ tt C S:=by grind [Yk,Xn]
      have hwc:W7 x.orders.length m ⟨i,v,[a0,a1,a2,a3,a4,a5]⟩ (nth (nth fst i) k)=BQ x.orders.length m ⟨i,v,[a0,a1,a2,a3,a4,a5]⟩ tt C S:=by grind [W7]
      by_cases hy:C3 x ⟨i,v,[a0,a1,a2,a3,a4,a5]⟩ tt C S=true
      ·obtain ⟨v1,v2⟩:=DB (m:=m) hc hv (by grind) (by simpa using hm) (by grind);rw [hwc] at v1 v2;obtain ⟨j,w,b0,b1,b2,b3,b4,b5,hw⟩:=Yy v1.len;rw [if_pos hy,hw] at cw;refine cw.useP (L:= [_,_,_]) (by rfl) ?_ (by rfl) (by rfl);refine E2 ?_;refine DN [5] [1,2] [4] 6 mixed Ze Ze Ze Ze Zb (Zd ?_);refine ⟨fun q hq p hp=> ?_,?_⟩
       ·simp only [Z4,W0,Wl] at hq;rcases hq with rfl | rfl
        ·obtain rfl:10=p:=WD hp;exact Qv (by decide)
        ·obtain rfl:57=p:=WD hp;exact Qv (by decide)
       ·have c3:=((ih ⟨j,w,[b0,b1,b2,b3,b4,b5]⟩ l1 Za (hw ▸ v1) (by grind) hl1).mono (fun y H' hq=>(⟨hq,by obtain ⟨l',_,_,rfl⟩:=hq;rfl⟩:_/\H'.length=(YI x (.list fc (fst.map Y7)) (.list sc (sk.map eI)) m l1).length))).front (by rfl) (by rfl) [Ar ⟨i,v,[a0,a1,a2,a3,a4,a5]⟩,.cells [.p (.int .i64 acc)],Rn (nth (nth fst i) k),Ar ⟨j,w,[b0,b1,b2,b3,b4,b5]⟩];refine F8 5 _ Ze (by refine Zd ?_;exact c3) ?_;rintro y H' ⟨H1,⟨l2,hl2,rfl,rfl⟩,rfl⟩;refine ⟨fun k hk=>by simp at hk;subst hk;rfl,OR ?_⟩;simp (disch:=omega) only [YI,W9,Ar,Rn,Zt,Zm,ZP,ZA,go_sem,seval]
        have hrg:=Vz (m:=m) hc 20 _ v1;rw [hw] at hrg;have c4:=(((IG acc (nth (nth fst i) k).price (YV x.orders.length m x fst sk 20 ⟨j,w,[b0,b1,b2,b3,b4,b5]⟩) Za Za).back [.map (l2.map (IR KP)),W9 x (.list fc (fst.map Y7)) (.list sc (sk.map eI)) m,Ar ⟨i,v,[a0,a1,a2,a3,a4,a5]⟩] (by rfl)).mono (fun y H' hq=>(⟨hq,by grind⟩:_/\H'.length=4))).front (by rfl) (by rfl) [Rn (nth (nth fst i) k),Ar ⟨j,w,[b0,b1,b2,b3,b4,b5]⟩];refine ACalls.mono c4 ?_;rintro y H' ⟨H1,⟨y1,H2,⟨rfl,rfl⟩,rfl,rfl⟩,rfl⟩;simp (disch:=omega) only [W9,Ar,Rn,Zt,Zm,ZP,ZA,shO,shVs,shV,go_sem,seval]
        have hF:F acc (nth (nth fst i) k)=YH acc (nth (nth fst i) k).price (YV x.orders.length m x fst sk 20 ⟨j,w,[b0,b1,b2,b3,b4,b5]⟩):=by
         show (if _ then _ else _)=_
         rw [if_pos (by grind),hwc,Qy hc 19 20 _ v1 (by grind) (by grind),hw]
        exact ⟨(k+1,l2),⟨Za,hl2⟩,Za,Weak.mk (by simp (disch:=omega) only [hs1,hF,go_sem,seval])⟩
      ·rw [if_neg hy] at cw;refine cw.useP (L:= [_,_,_]) (by rfl) ?_ (by rfl) (by rfl);refine E2 ?_;have hF:F acc (nth (nth fst i) k)=acc:=if_neg (by grind);exact ⟨(k+1,l1),⟨Za,hl1⟩,Za,Weak.mk (by simp (disch:=omega) only [hs1,hF,go_sem,seval])⟩
     ·have hkl:k=(nth fst i).length:=Za
      subst hkl;rw [X5] at hacc
      have hTe:T=if 0<=nth sk i then YH acc (nth sk i) (YV x.orders.length m x fst sk 19 (Ck x.orders.length m ⟨i,v,[a0,a1,a2,a3,a4,a5]⟩)) else acc:=by
       rw [hT,show (20:Nat)=19+1 from rfl,YV,if_neg Za,<- hacc]
       rfl
      refine XN (Zd ?_);refine cD ?_ ?_<;>intro h3<;>simp (disch:=omega) only [Sh.out h3,go_sem,seval,↓reduceIte]
      ·have cn:=GN x (.list fc (fst.map Y7)) (.list sc (sk.map eI)) m l1 ⟨i,v,[a0,a1,a2,a3,a4,a5]⟩ hv.len Zb hn (by grind);obtain ⟨v1,v2⟩:=HG (m:=m) hv (by grind);obtain ⟨j,w,b0,b1,b2,b3,b4,b5,hw⟩:=Yy v1.len;have hsk:=hc.skp i Za;have hrg:=Vz (m:=m) hc 20 _ v1;rw [hw] at cn v1 v2 hrg;simp only at v2;refine cn.useP (L:= [_,_]) (by rfl) ?_ (by rfl) (by rfl);refine E2 ?_;have c3:=((ih ⟨j,w,[b0,b1,b2,b3,b4,b5]⟩ l1 Za v1 (by grind) hl1).mono (fun y H' hq=>(⟨hq,by obtain ⟨l',_,_,rfl⟩:=hq;rfl⟩:_/\H'.length=(YI x (.list fc (fst.map Y7)) (.list sc (sk.map eI)) m l1).length))).front (by rfl) (by rfl) [Ar ⟨i,v,[a0,a1,a2,a3,a4,a5]⟩,.cells [.p (.int .i64 acc)]]
       refine ACalls.mono c3 ?_;rintro y H' ⟨H1,⟨l2,hl2,rfl,rfl⟩,rfl⟩;refine Ma ?_;refine ACalls.mono ((IG acc (nth sk i) (YV x.orders.length m x fst sk 20 ⟨j,w,[b0,b1,b2,b3,b4,b5]⟩) Za Za).back [.map (l2.map (IR KP)),W9 x (.list fc (fst.map Y7)) (.list sc (sk.map eI)) m,Ar ⟨i,v,[a0,a1,a2,a3,a4,a5]⟩] (by rfl)) ?_;rintro y H' ⟨y1,H2,⟨rfl,rfl⟩,rfl,rfl⟩;simp (disch:=omega) only [W9,Ar,Zt,Zm,ZP,ZA,shO,shVs,shV,go_sem,seval];refine ZK 6 mixed Ze Ze ?_
       refine Zd ?_;refine HS (l:=l2) (k:=(⟨i,v,[a0,a1,a2,a3,a4,a5]⟩:St)) M9 (fun p hp=>(hl2 p hp).1.len) hv.len (by rfl) fun l3 _ hl3=> ?_;simp (disch:=omega) only [ZX,go_sem,seval];rw [if_pos h3,Qy hc 19 20 _ (by grind) (by grind) (by grind),hw] at hTe;rw [<- hTe];exact ⟨.p (.int .i64 T),_,wk,l3,fun p hp=>(hl3 p hp).elim (hl2 p) (fun e=>by grind),rfl,rfl⟩
      ·refine ZK 6 mixed Ze Ze (Zd ?_);refine HS (l:=l1) (k:=(⟨i,v,[a0,a1,a2,a3,a4,a5]⟩:St)) M9 hl1R hv.len (by rfl) fun l3 _ hl3=> ?_;simp (disch:=omega) only [ZX,go_sem,seval];rw [if_neg h3] at hTe;rw [<- hTe];exact ⟨.p (.int .i64 T),_,wk,l3,fun p hp=>(hl3 p hp).elim (hl1 p) (fun e=>by grind),rfl,rfl⟩
def H8 (n:Nat) (m:Int) (x:Inst) (fst:List (List Col)) (sk:List Int) (s:St) (c:Col):Bool :=
 Yk x s c&&(decide (0<=YV n m x fst sk 20 (W7 n m s c))&&decide (c.price+YV n m x fst sk 20 (W7 n m s c)=YV n m x fst sk 20 s))
def X7 (n:Nat) (m:Int) (x:Inst) (fst:List (List Col)) (sk:List Int):Nat->St->List Col×List Int
 | 0,_=>([],[])
 | d+1,s=>if (n:Int)<=s.ix then ([],[]) else match (nth fst s.ix.toNat).find? (H8 n m x fst sk s) with
  | some c=>(c::(X7 n m x fst sk d (W7 n m s c)).1,(X7 n m x fst sk d (W7 n m s c)).2)
  | none=>((X7 n m x fst sk d (Ck n m s)).1,s.ix::(X7 n m x fst sk d (Ck n m s)).2)
theorem IZ {α:Type} [Inhabited α] {p:α->Bool} : ∀ {l:List α} {k:Nat},k<l.length->(∀j,j<k->p (nth l j)=false)->p (nth l k)=true->l.find? p=some (nth l k)
 | [],_,h,_,_=>by simp at h
 | a::l,0,_,_,h=>by
  grind [nth]
 | a::l,k+1,hk,h0,h=>by
  rw [List.find?_cons_of_neg (by rw [show p a=false from h0 0 Za];simp)];exact IZ (l:=l) (k:=k) (by simpa using hk) (fun j hj=>h0 (j+1) Za) h
theorem kK {α:Type} [Inhabited α] {p:α->Bool} {l:List α} (h: ∀j,j<l.length->p (nth l j)=false):l.find? p=none:=by
 rw [Af];intro a ha;obtain ⟨j,hj,rfl⟩:=Z1.1 ha
 grind [Zg]
theorem yC (X:AM.Obj) (hX: ∀H n,DD H n X X) (hX2: ∀o xs,OC o xs X=X) (x:Inst) (fst:List (List Col)) (sk:List Int) (fc sc:Bool) (m:Int) (hn:x.orders.length<=10) (hf:fst.length=x.orders.length) (hs:sk.length=x.orders.length) (hc:ChOk x.orders.length x fst sk) (hcl: ∀r∈fst,r.length<=1048576)
  (s:St) (l:List (St×Int)) (hv:StV x.orders.length s) (hl:qF x.orders.length m x fst sk l) :
  ACalls Tryz.prog 108 [.ptr 1 0,.p (KP s)] (YI x (.list fc (fst.map Y7)) (.list sc (sk.map eI)) m l++ [X]) fun y H'=> ∃l' A B,qF x.orders.length m x fst sk l'/\(A,B)=X7 x.orders.length m x fst sk 20 s /\
   y= .tup [.sl 4 0 A.length A.length,.p (.list false (B.map eI))]/\H'=YI x (.list fc (fst.map Y7)) (.list sc (sk.map eI)) m l'++ [X,.cells (List.replicate 8 .junk),.elems 7 (A.map Ya)]:=by
 obtain ⟨i,v,a0,a1,a2,a3,a4,a5,rfl⟩:=Yy hv.len;obtain ⟨D,hD⟩: ∃D,D=20:=⟨20,rfl⟩;obtain ⟨R,hR⟩: ∃R,R=X7 x.orders.length m x fst sk D ⟨i,v,[a0,a1,a2,a3,a4,a5]⟩:=⟨_,rfl⟩;rw [<- hD,<- hR];have hi0:=hv.ix;simp only at hi0;refine Zj [20] Tryz.func108 rfl tH ?_;simp (disch:=omega) only [Tryz.f108,ZP,ZA,YI,W9,Zt,Zm,go_sem,seval]
 refine XG [20] [0,3] (fun q:Nat×St×List (St×Int)×List Col×List Int=> [(6,.sl 4 0 q.2.2.2.1.length q.2.2.2.1.length),(7,.sl 5 0 q.2.2.2.2.length q.2.2.2.2.length)])
  (fun q=>YI x (.list fc (fst.map Y7)) (.list sc (sk.map eI)) m q.2.2.1++ [X,Ar q.2.1,.elems 7 (q.2.2.2.1.map Ya),.elems 1 (q.2.2.2.2.map eI)])
  (fun q=>q.1<=D/\StV x.orders.length q.2.1/\(x.orders.length:Int)-q.2.1.ix<q.1/\qF x.orders.length m x fst sk q.2.2.1/\(q.2.2.2.1.length:Int)<=q.2.1.ix/\(q.2.2.2.2.length:Int)<=q.2.1.ix/\R=(q.2.2.2.1++(X7 x.orders.length m x fst sk q.1 q.2.1).1,q.2.2.2.2++(X7 x.orders.length m x fst sk q.1 q.2.1).2))
  (fun q=>q.1) (D,⟨i,v,[a0,a1,a2,a3,a4,a5]⟩,l,[],[]) ⟨Zb,hv,by grind,hl,by grind,by grind,by rw [hR];rfl⟩
  (Weak.ofNil 6 7 (by simp (disch:=omega) only [go_sem,seval]) Zb (Weak.ofNil 7 1 (by simp (disch:=omega) only [go_sem,seval]) Zb (Weak.mk ?_))) ?_
 ·simp (disch:=omega) only [hX,YI,W9,Ar,Zt,Zm,ZP,ZA,ZY,go_sem,seval,↓reduceIte]
 ·rintro ⟨d,s,l1,A,B⟩ ⟨hd1,hsv,hd,hl1,hA,hB,hq⟩;simp only at hd1 hsv hd hl1 hA hB hq;clear hv hR hi0;obtain ⟨i,v,a0,a1,a2,a3,a4,a5,rfl⟩:=Yy hsv.len;have hi0:=hsv.ix;simp only at hi0 hd hA hB hq;obtain ⟨i,rfl⟩: ∃k:Nat,i=k:=⟨i.toNat,Za⟩;obtain ⟨d,rfl⟩: ∃k,d=k+1:=⟨d-1,Za⟩;refine Ma ?_;refine XN ?_;refine Zd ?_;refine cD ?_ ?_<;>intro h1<;>simp (disch:=omega) only [Sh.out h1,go_sem,seval,↓reduceIte]
  ·have hi2:i<fst.length:=Za
   have hrl:=hcl _ (Z0 hi2);have c3:=((C9 x fst sk fc sc m hn hf hs hc hcl 20 ⟨i,v,[a0,a1,a2,a3,a4,a5]⟩ l1 Za hsv (by grind) hl1).mono (fun y H' hq=>(⟨hq,by obtain ⟨l',_,_,rfl⟩:=hq;rfl⟩:_/\H'.length=(YI x (.list fc (fst.map Y7)) (.list sc (sk.map eI)) m l1).length))).front (by rfl) (by rfl) [X,Ar ⟨i,v,[a0,a1,a2,a3,a4,a5]⟩,.elems 7 (A.map Ya),.elems 1 (B.map eI)];refine ACalls.mono c3 ?_;rintro y H' ⟨H1,⟨l2,hl2,rfl,rfl⟩,rfl⟩;clear hl1 c3;obtain ⟨W,hW⟩: ∃W,W=YV x.orders.length m x fst sk 20 ⟨i,v,[a0,a1,a2,a3,a4,a5]⟩:=⟨_,rfl⟩
   rw [<- hW]
   have hWr: -1<=W/\W<=20*18014398509481984:=by rw [hW];exact Vz hc 20 _ hsv
   refine Ma ?_;refine XN (Zd ?_);refine Zn [0,3,7,8,34,35] (fun q:Nat×List (St×Int)=> [(6,.sl 4 0 A.length A.length),(9,.p (.bool false)),(36,.p (.int .i64 q.1))]) (fun q=>YI x (.list fc (fst.map Y7)) (.list sc (sk.map eI)) m q.2++ [X,Ar ⟨i,v,[a0,a1,a2,a3,a4,a5]⟩,.elems 7 (A.map Ya),.elems 1 (B.map eI)]) (fun q=>q.1<=(nth fst i).length/\qF x.orders.length m x fst sk q.2/\ ∀j,j<q.1->H8 x.orders.length m x fst sk ⟨i,v,[a0,a1,a2,a3,a4,a5]⟩ (nth (nth fst i) j)=false) (fun q=>(nth fst i).length-q.1) (0,l2) ⟨Zb,hl2,fun j hj=>by simp at hj⟩ (Weak.mk ?_) ?_
   ·simp (disch:=omega) only [hX,YI,W9,Ar,Zt,Zm,ZP,ZA,go_sem,seval,↓reduceIte]
   ·rintro ⟨k,l1⟩ ⟨hk,hl1,hno⟩;simp only at hk hl1 hno;refine Ma ?_;refine cD ?_ ?_<;>intro h2<;>simp (disch:=omega) only [Sh.out h2,go_sem,seval,↓reduceIte]
    ·have hk2:k<(nth fst i).length:=Za
     have hm:=Z0 hk2;obtain ⟨⟨t0,t1⟩,⟨S,hS,hS2⟩,hb,hp0,hp1⟩:=hc.col i Za _ hm;obtain ⟨C,hC,hC2⟩:=hsv.cov;simp only at hC;have h6:=hc.typ.1;obtain ⟨tt,htt⟩: ∃tt:Nat,(nth (nth fst i) k).typ=tt:=⟨(nth (nth fst i) k).typ.toNat,Za⟩;have cw:=gE x (.list fc (fst.map Y7)) (.list sc (sk.map eI)) m l1 ⟨i,v,[a0,a1,a2,a3,a4,a5]⟩ (nth (nth fst i) k) hsv.len Zb hn (by grind) C S tt hC hS htt hC2 hS2 Za h6 hsv.used
     have hmay:Yk x ⟨i,v,[a0,a1,a2,a3,a4,a5]⟩ (nth (nth fst i) k)=C3 x ⟨i,v,[a0,a1,a2,a3,a4,a5]⟩ tt C S:=by grind [Yk]
     have hwc:W7 x.orders.length m ⟨i,v,[a0,a1,a2,a3,a4,a5]⟩ (nth (nth fst i) k)=BQ x.orders.length m ⟨i,v,[a0,a1,a2,a3,a4,a5]⟩ tt C S:=by grind [W7]
     have more:H8 x.orders.length m x fst sk ⟨i,v,[a0,a1,a2,a3,a4,a5]⟩ (nth (nth fst i) k)=false-> ∀j,j<k+1->H8 x.orders.length m x fst sk ⟨i,v,[a0,a1,a2,a3,a4,a5]⟩ (nth (nth fst i) j)=false:=fun h j hj=>by
      grind
     by_cases hy:C3 x ⟨i,v,[a0,a1,a2,a3,a4,a5]⟩ tt C S=true
     ·obtain ⟨v1,v2⟩:=DB (m:=m) hc hsv Za (by simpa using hm) (by grind);rw [hwc] at v1 v2;obtain ⟨j,w,b0,b1,b2,b3,b4,b5,hw⟩:=Yy v1.len;rw [if_pos hy,hw] at cw;refine cw.useP (L:= [_,_,_,_,_]) (by rfl) ?_ (by rfl) (by rfl);refine E2 ?_;have c3:=((C9 x fst sk fc sc m hn hf hs hc hcl 20 ⟨j,w,[b0,b1,b2,b3,b4,b5]⟩ l1 Za (hw ▸ v1) (by grind) hl1).mono (fun y H' hq=>(⟨hq,by obtain ⟨l',_,_,rfl⟩:=hq;rfl⟩:_/\H'.length=(YI x (.list fc (fst.map Y7)) (.list sc (sk.map eI)) m l1).length))).front (by rfl) (by rfl) [X,Ar ⟨i,v,[a0,a1,a2,a3,a4,a5]⟩,.elems 7 (A.map Ya),.elems 1 (B.map eI),Rn (nth (nth fst i) k),Ar ⟨j,w,[b0,b1,b2,b3,b4,b5]⟩]
      refine ACalls.mono c3 ?_;rintro y H' ⟨H1,⟨l3,hl3,rfl,rfl⟩,rfl⟩;have hTr:=Vz (m:=m) hc 20 _ v1
      have hsel:H8 x.orders.length m x fst sk ⟨i,v,[a0,a1,a2,a3,a4,a5]⟩ (nth (nth fst i) k)=(decide (0<=YV x.orders.length m x fst sk 20 ⟨j,w,[b0,b1,b2,b3,b4,b5]⟩)&&decide ((nth (nth fst i) k).price+YV x.orders.length m x fst sk 20 ⟨j,w,[b0,b1,b2,b3,b4,b5]⟩=W)):=by
       rw [H8,hmay,hy,hwc,hw,hW,VN]
      rw [hw] at hTr;generalize YV x.orders.length m x fst sk 20 ⟨j,w,[b0,b1,b2,b3,b4,b5]⟩=T at hTr hsel;simp (disch:=omega) only [YI,W9,Ar,Rn,Zt,Zm,ZP,ZA,go_sem,seval];refine gT ?_ ?_<;>intro h3<;>simp (disch:=omega) only [Sh.out h3,go_sem,seval,↓reduceIte]
      ·refine cD ?_ ?_<;>intro h4<;>simp (disch:=omega) only [Sh.out h4,go_sem,seval,↓reduceIte]
       ·rw [Qe h3,Qe h4,VN] at hsel
        have hp:X7 x.orders.length m x fst sk (d+1) ⟨i,v,[a0,a1,a2,a3,a4,a5]⟩=(nth (nth fst i) k::(X7 x.orders.length m x fst sk d ⟨j,w,[b0,b1,b2,b3,b4,b5]⟩).1,(X7 x.orders.length m x fst sk d ⟨j,w,[b0,b1,b2,b3,b4,b5]⟩).2):=by
         rw [X7,if_neg (by grind)];simp only [Xn,IZ hk2 hno hsel,hwc,hw]
        rw [hw] at v1 v2;simp only at v2;rw [hp] at hq;exact ⟨(d,⟨j,w,[b0,b1,b2,b3,b4,b5]⟩,l3,A++ [nth (nth fst i) k],B),⟨Za,v1,by grind,hl3,by grind,by grind,by grind⟩,Za,Weak.mk (by simp (disch:=omega) only [hX,Zt,Zm,Yg,Zy,ZL,ZY,Xz,go_sem,seval])⟩
       ·rw [Ut h4,Bool.and_false] at hsel;exact ⟨(k+1,l3),⟨Za,hl3,more hsel⟩,Za,Weak.mk (by simp (disch:=omega) only [hX,go_sem,seval])⟩
      ·rw [Ut h3,Dk] at hsel;exact ⟨(k+1,l3),⟨Za,hl3,more hsel⟩,Za,Weak.mk (by simp (disch:=omega) only [hX,go_sem,seval])⟩
     ·rw [if_neg hy] at cw;refine cw.useP (L:= [_,_,_,_,_]) (by rfl) ?_ (by rfl) (by rfl);refine E2 ?_;exact ⟨(k+1,l1),⟨Za,hl1,more (by rw [H8,hmay,Bool.eq_false_iff.2 hy,Dk])⟩,Za,Weak.mk (by simp (disch:=omega) only [hX,go_sem,seval])⟩
    ·have hkl:k=(nth fst i).length:=Za
     subst hkl
     have hp:X7 x.orders.length m x fst sk (d+1) ⟨i,v,[a0,a1,a2,a3,a4,a5]⟩=((X7 x.orders.length m x fst sk d (Ck x.orders.length m ⟨i,v,[a0,a1,a2,a3,a4,a5]⟩)).1,(i:Int)::(X7 x.orders.length m x fst sk d (Ck x.orders.length m ⟨i,v,[a0,a1,a2,a3,a4,a5]⟩)).2):=by
      simp_all [X7,kK]
     rw [hp] at hq;have cn:=GN x (.list fc (fst.map Y7)) (.list sc (sk.map eI)) m l1 ⟨i,v,[a0,a1,a2,a3,a4,a5]⟩ hsv.len Zb hn (by grind);obtain ⟨v1,v2⟩:=HG (m:=m) hsv Za;obtain ⟨j,w,b0,b1,b2,b3,b4,b5,hw⟩:=Yy v1.len;rw [hw] at cn v1 v2 hq;simp only at v2;refine cn.useP (L:= [_,_,_,_,_]) (by rfl) ?_ (by rfl) (by rfl);refine E2 ?_;exact ⟨(d,⟨j,w,[b0,b1,b2,b3,b4,b5]⟩,l1,A,B++ [(i:Int)]),⟨Za,v1,by grind,hl1,by grind,by grind,by grind⟩,Za,Weak.mk (by simp (disch:=omega) only [hX,Zt,Zm,Yg,Zy,ZL,ZY,Xz,go_sem,seval])⟩
  ·rw [X7,if_pos (by grind)] at hq;simp only [VM] at hq;subst hq;refine Zr (Weak.fz (o:=5) (by rfl)) (Zf [] _ _ _ _ (BM ?_));exact ⟨.tup [.sl 4 0 A.length A.length,.p (.list false (B.map eI))],_,Weak.mk (by simp (disch:=omega) only [hX,hX2,go_sem,seval]),l1,A,B,hl1,rfl,rfl,rfl⟩
def aS (a:List Int) (i:Nat):Nat->Bool
 | 0=>true
 | k+1=>aS a i k&&decide (nth a k≠nth a i)
theorem I6 {a:List Int} {i:Nat} : ∀k,aS a i k=true↔ ∀t,t<k->nth a t≠nth a i
 | 0=>by simp [aS]
 | k+1=>by
  rw [aS,Zs,I6 k,Zp]
  grind
def kV (a:List Int) (i:Nat):Bool:=aS a i i
theorem AR {a:List Int} {i:Nat} :kV a i=true↔ ∀t,t<i->nth a t≠nth a i:=I6 i
def CG (l:List Col) (a:List Int) (T:Int) (i:Nat):Bool:=decide (0<=nth a i)&&(decide ((nth l (nth a i).toNat).typ=T)&&kV a i)
def usdI (l:List Col) (a:List Int) (T:Int):Nat->Nat
 | 0=>0
 | i+1=>usdI l a T i+(if CG l a T i=true then 1 else 0)
def V9 (S:Nat) (a:List Int) (j:Int):List Int:=(List.range a.length).map fun i=>if S.testBit i=true then j else nth a i
theorem QD {S:Nat} {a:List Int} {j:Int} :(V9 S a j).length=a.length:=by simp [V9]
theorem Xl {S:Nat} {a:List Int} {j:Int} {i:Nat} (h:i<a.length):nth (V9 S a j) i=if S.testBit i=true then j else nth a i:=by
 grind [V9,Zg]
def okA (S:Nat) (a:List Int) (k:Nat):Bool:=(List.range a.length).all fun i=> !S.testBit i||(decide (nth a i<0)&&decide (k<=i))
theorem Ds {S:Nat} {a:List Int} {k:Nat} :okA S a k=true↔ ∀i,i<a.length->S.testBit i=true->nth a i<0/\k<=i:=by
 simp only [okA,ZH,ZO,Vk,XE,Zs,Zp]
 grind
def BZ (x:Inst) (l:List Col) (a:List Int) (j k:Nat):Bool :=
 (nth l j).set.toNat.testBit k&&(decide ((usdI l a (nth l j).typ a.length:Int)<(nth x.types (nth l j).typ.toNat).count)&&okA (nth l j).set.toNat a k)
def skR (x:Inst) (k:Nat):Int:=(Wg (Ws x k).1).1
def Aw (x:Inst) (l:List Col):Nat->List Int->Int->List (List Int×Int)
 | 0,a,p=> [(a,p)]
 | d+1,a,p=>if (nth x.orders (x.orders.length-(d+1))).off=true\/0<=nth a (x.orders.length-(d+1)) then Aw x l d a p else
  ((List.range l.length).flatMap fun j=>if BZ x l a j (x.orders.length-(d+1))=true then Aw x l d (V9 (nth l j).set.toNat a j) (p+(nth l j).price) else []) ++
   (if 0<=(nth x.orders (x.orders.length-(d+1))).penalty then Aw x l d a (p+skR x (x.orders.length-(d+1))) else [])
structure Chc where
 found:Bool
 places:List Int
 price:Int
 deriving Inhabited
def Aa (l:List Col):List Int->List Int->Option Bool
 | x::a,y::b=>if x=y then Aa l a b else if x<0\/y<0 then some (decide (0<=x)) else if (nth l x.toNat).typ≠(nth l y.toNat).typ then some (decide ((nth l x.toNat).typ<(nth l y.toNat).typ)) else
   if (nth l x.toNat).set≠(nth l y.toNat).set then some (decide ((nth l x.toNat).set<(nth l y.toNat).set)) else Aa l a b
 | _,_=>none
def MH : List Int->List Int->Bool
 | x::a,y::b=>if x=y then MH a b else decide (x<y)
 | _,_=>false
def G7 (l:List Col) (a b:List Int):Bool:=match Aa l a b with
 | some r=>r
 | none=>MH a b
theorem Ty {l:List Col} :Aa l [] []=none:=by simp [Aa]
theorem P6 {l:List Col} {a b:List Int} {r:Bool} (h:Aa l a b=some r):G7 l a b=r:=by rw [G7,h]
theorem P5 {l:List Col} {a b:List Int} (h:Aa l a b=none):G7 l a b=MH a b:=by rw [G7,h]
def cO (c:Col):AM.Obj:= .cells ((Ya c).cells.map .p)
def UG (l:List Col) (b:Chc) (q:List Int×Int):Chc:=if b.found=false\/q.2<b.price\/(q.2=b.price/\G7 l q.1 b.places=true) then ⟨true,q.1,q.2⟩ else b
def RngA (x:Inst) (l:List Col) (a:List Int):Prop:=a.length=x.orders.length/\ ∀i,i<x.orders.length-> -1<=nth a i/\nth a i<l.length
theorem fG {x:Inst} {l:List Col} {a:List Int} {S j:Nat} (h:RngA x l a) (hj:j<l.length):RngA x l (V9 S a j) :=
 ⟨by rw [QD];exact h.1,fun i hi=>by
  rw [Xl (by rw [h.1];exact hi)]
  split
  ·omega
  ·exact h.2 i hi⟩
theorem Dm {x:Inst} {l:List Col} : ∀(d:Nat) {a:List Int} {p:Int},RngA x l a-> ∀q∈Aw x l d a p,RngA x l q.1
 | 0,a,p,h,q,hq=>by
  simp_all [Aw]
 | d+1,a,p,h,q,hq=>by
  rw [Aw] at hq
  split at hq
  ·exact Dm d h q hq
  ·rw [Z5,XS] at hq;rcases hq with ⟨j,hj,hq⟩ | hq
   ·split at hq
    ·exact Dm d (fG h (ZO.1 hj)) q hq
    ·simp at hq
   ·split at hq
    ·exact Dm d h q hq
    ·simp at hq
def DZ (s:Sr):PV:= .agg [.int .i64 s.rdy,.int .i64 s.drv]
@[go_sem] theorem ZiX (s:Sr):DZ s= .agg [.int .i64 s.rdy,.int .i64 s.drv]:=Zi rfl rfl
theorem ZfW {a b:Sr} :a=b↔a.rdy=b.rdy/\a.drv=b.drv:=by cases a;cases b;simp
theorem kZ (l:List Sr) (c:Bool) (s:Sr) (hl:l.length<=1048576):ACalls Tryz.prog 223 [.p (.list c (l.map DZ)),.p (DZ s)] [] fun y H'=> ∃i:Int,(0<=i↔s∈l)/\y= .p (.int .i64 i)/\H'= []:=by
 refine Zj [] Tryz.func223 rfl vF ?_;simp (disch:=omega) only [Tryz.f223,go_sem,seval];refine Zn [0,3,7] (fun k:Nat=> [(8,.p (.int .i64 k))]) (fun _=> [.cells [.p (.int .i64 s.rdy),.p (.int .i64 s.drv)]]) (fun k=>k<=l.length/\ ∀j,j<k->nth l j≠s) (fun k=>l.length-k) 0 ⟨Zb,fun j hj=>Za⟩ (Weak.mk ?_) ?_
 ·simp (disch:=omega) only [go_sem,seval,↓reduceIte]
 ·rintro k ⟨hk,hno⟩;refine Zd ?_;refine cD ?_ ?_<;>intro h1<;>simp (disch:=omega) only [Sh.out h1,go_sem,seval,↓reduceIte]
  ·have hk2:k<l.length:=Za
   refine XN (Zd ?_);refine cD ?_ ?_<;>intro h2<;>simp (disch:=omega) only [Sh.out h2,go_sem,seval,↓reduceIte]
   ·exact ⟨.p (.int .i64 k),[],wk,k,⟨fun _=>(ZfW.2 h2) ▸ Z0 hk2,fun _=>Za⟩,rfl,rfl⟩
   ·exact ⟨k+1,⟨Za,fun j hj=>by
     grind⟩,Za,wk⟩
  ·exact ⟨.p (.int .i64 (-1)),[],wk,-1,⟨fun h=>Za,fun h=>by
    obtain ⟨j,hj,rfl⟩:=Z1.1 h
    grind [Zg]⟩,rfl,rfl⟩
theorem OF (l:List Sr) (c:Bool) (s:Sr) (hl:l.length<=1048576):PC 200 [.p (.list c (l.map DZ)),.p (DZ s)] (.bool (decide (s∈l))):=by
 refine Zj [] Tryz.func200 rfl uS ?_;simp (disch:=omega) only [Tryz.f200,go_sem,seval];refine ((kZ l c s hl).behind (by rfl) _).mono ?_;rintro y H' ⟨y1,H1,⟨i,hi,rfl,rfl⟩,rfl,rfl⟩
 have e:decide (0<=i)=decide (s∈l):=by grind
 simp (disch:=omega) only [shV,Zm,e,go_sem,seval];exact ⟨.p (.bool (decide (s∈l))),[],wk,rfl,rfl⟩
theorem RL {l:List Sr} {s:Sr} :(VU l s).length<=l.length+1:=by grind [VU]
theorem M7 (l:List Sr) (s:Sr) (hl:l.length<=1048576):ACalls Tryz.prog 171 [.sl 0 0 l.length l.length,.p (DZ s)] [.elems 2 (l.map DZ)] fun y H'=>y= .sl 0 0 (VU l s).length (VU l s).length/\H'= [.elems 2 ((VU l s).map DZ)]:=by
 obtain ⟨M,hM⟩: ∃M,M=VU l s:=⟨_,rfl⟩;rw [<- hM];refine Zj [] Tryz.func171 rfl bJ ?_;simp (disch:=omega) only [Tryz.f171,go_sem,seval];refine ACalls.view (OF l false s hl) (by simp [vws,vw,oat,Ic]<;>rfl) (by rfl) ?_;refine Zd ?_;refine cD ?_ ?_<;>intro h<;>simp (disch:=omega) only [Sh.out h,go_sem,seval,↓reduceIte]
 ·have e:M=l:=by simp_all [VU]
  exact ⟨.sl 0 0 M.length M.length,[.elems 2 (M.map DZ)],Weak.mk (by simp (disch:=omega) only [e,go_sem,seval]),rfl,rfl⟩
 ·have e:M=l++ [s]:=by simp_all [VU]
  exact ⟨.sl 0 0 M.length M.length,[.elems 2 (M.map DZ)],Weak.mk (by simp (disch:=omega) only [e,Yg,Zt,Zm,Zy,ZL,ZY,Xz,go_sem,seval]),rfl,rfl⟩
theorem lD (s:Sr):ACalls Tryz.prog 171 [.p (.list true []),.p (DZ s)] [] fun y H'=>y= .sl 0 0 1 1/\H'= [.elems 2 [DZ s]]:=by
 refine VX (fn:=Tryz.f171) (by rfl) Tryz.func171 rfl bJ ?_;simp (disch:=omega) only [Tryz.f171,go_sem,seval];refine (OF [] true s Zb).use ?_;simp (disch:=omega) only [W0,Q6,go_sem,seval];exact ⟨2,rfl,rfl⟩
def X8 (x:Inst) (k:Int) (S tot:Nat) (b:Col×Bool):AM.Obj:= .cells [.p (.list x.net.places_c (x.net.places.map eS)),.p (.list x.net.arcs_c (x.net.arcs.map Um)),.p (.list x.types_c (x.types.map XY)),.p (.list x.orders_c (x.orders.map Yc)),.p (.list x.apart_c (x.apart.map eP)),.p (.list x.before_c (x.before.map eP)),.p (.int .i64 k),.p (.int .i64 S),.p (.int .i64 tot),.p (.int .i64 b.1.typ),.p (.int .i64 b.1.set),.p (.int .i64 b.1.price),.p (.int .i64 b.1.route.typ),.p (.int .i64 b.1.route.start),.p (.list b.1.route.rests_c (b.1.route.rests.map eB)),.p (.list b.1.route.visits_c (b.1.route.visits.map XB)),.p (.bool b.2)]
theorem Am {t:Typ} {l:List Sr} {d v:Int} :(W3 t l d v).length<=l.length+2:=by
 grind [W3,VU]
theorem mW (x:Inst) (k:Int) (S tot:Nat) (b:Col×Bool) (stop:Stp) (l:List Sr) (d v:Int) (hk:0<=k/\k<x.types.length) (ht:x.types.length<=1048576) (hl:l.length<=1000000) (hd:0<=d/\d<=1048576) (hr:0<=(nth x.types k.toNat).rest/\(nth x.types k.toNat).rest<=1048576) :
  ACalls Tryz.prog 134 [.ptr 0 0,.sl 3 0 l.length l.length,.p (.int .i64 d),.p (.int .i64 v)] [X8 x k S tot b,.cells ((KM stop).map .p),.cells ((JB (nth x.types k.toNat)).map .p),.elems 2 (l.map DZ)] fun y H'=>y= .sl 3 0 (W3 (nth x.types k.toNat) l d v).length (W3 (nth x.types k.toNat) l d v).length/\H'= [X8 x k S tot b,.cells ((KM stop).map .p),.cells ((JB (nth x.types k.toNat)).map .p),.elems 2 ((W3 (nth x.types k.toNat) l d v).map DZ)]:=by
 obtain ⟨L1,h1⟩: ∃L1,L1=VU l ⟨d,v⟩:=⟨_,rfl⟩;obtain ⟨L2,h2⟩: ∃L2,L2=W3 (nth x.types k.toNat) l d v:=⟨_,rfl⟩
 have h12:VU L1 ⟨d+(nth x.types k.toNat).rest,0⟩=L2:=by rw [h1,h2];rfl
 have hl1:L1.length<=l.length+1:=by rw [h1];exact RL
 rw [<- h2];have c1:=M7 l ⟨d,v⟩ Za;have c2:=M7 L1 ⟨d+(nth x.types k.toNat).rest,0⟩ Za;rw [<- h1] at c1;rw [h12] at c2;obtain ⟨O,hO⟩: ∃O,O=X8 x k S tot b:=⟨_,rfl⟩;refine Zj [] Tryz.func134 rfl bH ?_;simp (disch:=omega) only [Tryz.f134,KM,JB,Zt,Zm,go_sem,seval];refine ACalls.mono (c1.back [X8 x k S tot b,.cells ((KM stop).map .p),.cells ((JB (nth x.types k.toNat)).map .p)] (by rfl)) ?_;rintro y H' ⟨y1,H1,⟨rfl,rfl⟩,rfl,rfl⟩;simp (disch:=omega) only [shV,shO,X8,KM,JB,Zt,Zm,ZP,ZA,go_sem,seval]
 refine ZK 16 mixed Ze Ze (Zd ?_);refine ACalls.mono (c2.back [X8 x k S tot b,.cells ((KM stop).map .p),.cells ((JB (nth x.types k.toNat)).map .p)] (by rfl)) ?_;rintro y H' ⟨y1,H1,⟨rfl,rfl⟩,rfl,rfl⟩;simp (disch:=omega) only [shV,shO,X8,KM,JB,Zt,Zm,ZP,ZA,go_sem,seval];exact ⟨.sl 3 0 L2.length L2.length,[X8 x k S tot b,.cells ((KM stop).map .p),.cells ((JB (nth x.types k.toNat)).map .p),.elems 2 (L2.map DZ)],Weak.mk (by simp (disch:=omega) only [X8,KM,JB,Zt,Zm,go_sem,seval]),rfl,rfl⟩
def Fq (s:Stp) (a:Int):Int×Int:=if s.cls<max a s.opn then (0,14) else (max a s.opn+s.serv,0)
theorem T1 (s:Stp) (a:Int) (ha: -1099511627776<=a/\a<=1099511627776) (hs:0<=s.serv/\s.serv<=1048576) (ho: -1099511627776<=s.opn/\s.opn<=1099511627776):PT 199 [.p (Ft s),.p (.int .i64 a)] [.p (.int .i64 (Fq s a).1),.p (.int .i64 (Fq s a).2)]:=by
 refine Zj [] Tryz.func199 rfl uR ?_;simp (disch:=omega) only [Tryz.f199,go_sem,seval];refine J2 (Od s a) ?_
 have hm: -1099511627776<=max a s.opn/\max a s.opn<=1099511627776:=Za
 by_cases h:s.cls<max a s.opn
 ·have e:DR s a=(0,14):=by simp_all [DR]
  have e2:Fq s a=(0,14):=by rw [Fq,if_pos h]
  rw [e,e2];refine Zd ?_;exact we
 ·have e:DR s a=(max a s.opn,0):=by simp_all [DR]
  have e2:Fq s a=(max a s.opn+s.serv,0):=by rw [Fq,if_neg h]
  rw [e,e2];refine Zd ?_;exact we
def Ff (m:Int) (st:List Sr):Prop:= ∀a∈st,(0<=a.rdy/\a.rdy<=16384)/\(-m<=a.drv/\a.drv<=4096)
theorem nY (x:Inst) (k:Int) (S tot:Nat) (b:Col×Bool) (p:Int) (st:List Sr) (c:Bool) (stop:Stp) (m:Int) (hm:0<=m/\m<=1048576) (hk:0<=k/\k<x.types.length) (ht:x.types.length<=1048576) (hT:TrpOk x (nth x.types k.toNat) [stop]) (hl:st.length<=1000) (hst:Ff m st) :
  ACalls Tryz.prog 169 [.ptr 0 0,.p (.int .i64 p),.p (.list c (st.map DZ)),.p (Ft stop)] [X8 x k S tot b] fun y H'=>y= .p (.list false ((CH x (nth x.types k.toNat) p st stop).map DZ))/\H'= [X8 x k S tot b]:=by
 obtain ⟨W,hV⟩: ∃W:Nat->List Sr,W=fun q=>(st.take q).foldl (QG x (nth x.types k.toNat) p stop) []:=⟨_,rfl⟩
 have hV0:W 0= []:=by rw [hV];rfl
 have hVn:CH x (nth x.types k.toNat) p st stop=W st.length:=by grind [CH]
 have hVs: ∀q,q<st.length->W (q+1)=QG x (nth x.types k.toNat) p stop (W q) (nth st q):=fun q hq=>by
  grind [Yu,Zg]
 have hVl: ∀q,q<=st.length->(W q).length<=2*q:=fun q=>by
  induction q with
  | zero=>grind
  | succ q ih =>
   intro hq;rw [hVs q Za];have:=ih Za;unfold QG
   split
   ·omega
   ·split
    ·omega
    grind [Am]
 rw [hVn];clear hV hVn;refine Zj [12] Tryz.func169 rfl uG ?_;simp (disch:=omega) only [Tryz.f169,X8,go_sem,seval];refine Vf [11] 12 mixed Ze Ze Ze Zb (Zd ?_);refine YZ 11 _ _ Ze (by refine Zd ?_;exact ⟨rfl,rfl⟩) (Q0 ?_);refine Zd ?_;refine XG [12] [0,1,7,9,28,29] (fun q:Nat=> [(10,.sl 3 0 (W q).length (W q).length),(30,.p (.int .i64 q))]) (fun q=> [X8 x k S tot b,.cells ((KM stop).map .p),.cells ((JB (nth x.types k.toNat)).map .p),.elems 2 ((W q).map DZ)]) (fun q=>q<=st.length) (fun q=>st.length-q) 0 Zb (Weak.ofNil 10 2 (by simp (disch:=omega) only [go_sem,seval]) Zb (Weak.mk ?_)) ?_
 ·simp (disch:=omega) only [hV0,X8,KM,JB,Zt,Zm,ZY,go_sem,seval,↓reduceIte]
 ·intro q hq;have hql:=hVl q hq;simp (disch:=omega) only [X8,KM,JB,Zt,Zm,go_sem,seval];refine cD ?_ ?_<;>intro h1<;>simp (disch:=omega) only [Sh.out h1,go_sem,seval,↓reduceIte]
  ·have hq2:q<st.length:=Za
   obtain ⟨a1,a2⟩:=hst _ (Z0 hq2);have hsn:=hVs q hq2;have hg:=(Ho (n:=x.net) (pr:=(nth x.types k.toNat).prof) (f:=p) (t:=stop.place) (τ:=(nth st q).rdy) hT.net hT.mil Za).1;refine XN (Zd ?_);refine D2 (pR x.net (nth x.types k.toNat).prof p stop.place (nth st q).rdy hT.net Za) (Zd ?_);refine gF ?_ ?_<;>intro h2<;>simp (disch:=omega) only [Sh.out h2,go_sem,seval,↓reduceIte]
   ·have e:W (q+1)=W q:=by simp_all [QG]
    exact ⟨q+1,Za,Za,Weak.mk (by simp (disch:=omega) only [e,go_sem,seval])⟩
   ·refine cD ?_ ?_<;>intro h3<;>simp (disch:=omega) only [Sh.out h3,go_sem,seval,↓reduceIte]
    ·have e:W (q+1)=W q:=by simp_all [QG]
     exact ⟨q+1,Za,Za,Weak.mk (by simp (disch:=omega) only [e,go_sem,seval])⟩
    ·obtain ⟨z1,z2,z3,z4,z5⟩:=hT.stp stop Zb;obtain ⟨r1,r2⟩:=hT.rst;refine J2 (T1 stop (Qt x.net (nth x.types k.toNat).prof p stop.place (nth st q).rdy).1 Za Za Za) ?_
     by_cases hc:stop.cls<max (Qt x.net (nth x.types k.toNat).prof p stop.place (nth st q).rdy).1 stop.opn
     ·have e2:Fq stop (Qt x.net (nth x.types k.toNat).prof p stop.place (nth st q).rdy).1=(0,14):=by rw [Fq,if_pos hc]
      rw [e2];refine Zd ?_
      have e:W (q+1)=W q:=by simp_all [QG]
      exact ⟨q+1,Za,Za,Weak.mk (by simp (disch:=omega) only [e,go_sem,seval])⟩
     ·have e2:Fq stop (Qt x.net (nth x.types k.toNat).prof p stop.place (nth st q).rdy).1=(max (Qt x.net (nth x.types k.toNat).prof p stop.place (nth st q).rdy).1 stop.opn+stop.serv,0):=by rw [Fq,if_neg hc]
      rw [e2];refine Zd ?_
      have e:W (q+1)=W3 (nth x.types k.toNat) (W q) (max (Qt x.net (nth x.types k.toNat).prof p stop.place (nth st q).rdy).1 stop.opn+stop.serv) ((nth st q).drv+(Qt x.net (nth x.types k.toNat).prof p stop.place (nth st q).rdy).1-(nth st q).rdy):=by simp_all [QG,if_neg]
      have cr:=mW x k S tot b stop (W q) (max (Qt x.net (nth x.types k.toNat).prof p stop.place (nth st q).rdy).1 stop.opn+stop.serv) ((nth st q).drv+(Qt x.net (nth x.types k.toNat).prof p stop.place (nth st q).rdy).1-(nth st q).rdy) hk ht Za Za Za;rw [<- e] at cr;refine cr.useP (L:= [_]) (by rfl) ?_ (by rfl) (by rfl);simp (disch:=omega) only [X8,KM,JB,Zt,Zm,ZP,ZA,go_sem,seval];exact ⟨q+1,Za,Za,wk⟩
  ·have hqs:q=st.length:=Za
   subst hqs;refine Zr (Weak.fz (o:=3) (by rfl)) ?_;refine Zf [] _ _ _ _ ?_;simp (disch:=omega) only [Zt,Zm,Z7,ZX,eq_self,go_sem,seval];exact ⟨.p (.list false ((W st.length).map DZ)),[X8 x k S tot b],Weak.mk (by simp (disch:=omega) only [X8,go_sem,seval]),rfl,rfl⟩
theorem MM (a b:Col) (ha:a.route.visits.length<=1048576) (hb:b.route.visits.length<=1048576):PC 166 [.p (Ya a),.p (Ya b)] (.bool (Qo a b)):=by
 refine Zc Tryz.func166 rfl uD ?_;simp (disch:=omega) only [Tryz.f166,go_sem,seval];refine cD ?_ ?_<;>intro h<;>simp (disch:=omega) only [Sh.out h,go_sem,seval,↓reduceIte]
 ·rw [Qo,if_pos h]
 ·refine (Sz a.route.visits b.route.visits a.route.visits_c b.route.visits_c ha hb).use (Zd ?_);rw [Qo,if_neg h]
theorem kL (a b:Col) (f:Bool) (ha:a.route.visits.length<=1048576) (hb:b.route.visits.length<=1048576):PC 165 [.p (Ya a),.p (.bool f),.p (Ya b),.fn (.func 166) [] []] (Ya (if f=false\/Qo b a=true then b else a)):=by
 refine Zc Tryz.func165 rfl uC ?_
 cases f with
 | false =>
  simp (disch:=omega) only [Tryz.f165,Km,go_sem,seval,↓reduceIte]
 | true =>
  simp (disch:=omega) only [Tryz.f165,Bool.not_true,go_sem,seval];refine (MM b a hb ha).use (Zd ?_)
  cases h:Qo b a with
  | true=>simp (disch:=omega) only [go_sem,seval]
  | false=>simp (disch:=omega) only [go_sem,seval]
theorem Zfn {x:Inst} (hx:InstOk x) {S:Nat} {l:List Vis} {v:Vis} (hv:v∈lP x S l) {k:Int} (hk:0<=k/\k<x.types.length):gV x v=true/\0<=(Xg x v).place/\TrpOk x (nth x.types k.toNat) [Xg x v]:=by
 obtain ⟨i,hi,_,_,h4,_⟩:=VA.1 hv;have ho:=Yt h4
 have hpl:0<=(Xg x v).place:=by
  unfold Z2 at h4;unfold Xg;rw [ho,Xn]
  grind
 obtain ⟨t1,t2,t3,_⟩:=W6 hx (show k.toNat<x.types.length by omega);obtain ⟨n1,n2⟩:=O2 hx.net;refine ⟨by simp [gV,ho,hi],hpl,n1,n2,t1,t2,t3,fun s hs=> ?_,Zb⟩
 obtain rfl:s=Xg x v:=by grind
 have hor:=hx.orders.2 i hi;have hp:=hor.pstp;have hd:=hor.dstp;simp only [stpOk,Zp] at hp hd;unfold Xg at hpl ⊢;rw [ho,Xn] at hpl ⊢
 split
 ·omega
 omega
theorem nX {x:Inst} {t:Typ} {p:Int} {stop:Stp} (hT:TrpOk x t [stop]) {m:Int} {out:List Sr} {a:Sr} (hm:0<=m) (ho:Ff (m+16384) out) (ha:(0<=a.rdy/\a.rdy<=16384)/\(-m<=a.drv/\a.drv<=4096)):Ff (m+16384) (QG x t p stop out a)/\(QG x t p stop out a).length<=out.length+2:=by
 have hg:=(Ho (n:=x.net) (pr:=t.prof) (f:=p) (t:=stop.place) (τ:=a.rdy) hT.net hT.mil Za).1;obtain ⟨z1,z2,z3,z4,z5⟩:=hT.stp stop Zb;obtain ⟨r1,r2⟩:=hT.rst;have hd:=hT.drv;unfold QG
 split
 ·grind
 ·rename_i c1
  split
  ·grind
  ·rename_i c2;refine ⟨fun b hb=> ?_,Am⟩;have c3: ¬t.drive<a.drv+(Qt x.net t.prof p stop.place a.rdy).1-a.rdy:=fun h=>c1 (.inr h);rcases WE.1 hb with h | rfl | rfl
   ·exact ho b h
   ·grind
   grind
theorem GM {x:Inst} {t:Typ} {p:Int} {stop:Stp} (hT:TrpOk x t [stop]) {m:Int} (hm:0<=m): ∀(st out:List Sr),Ff (m+16384) out->Ff m st->Ff (m+16384) (st.foldl (QG x t p stop) out)/\(st.foldl (QG x t p stop) out).length<=out.length+2*st.length
 | [],out,ho,_=>⟨ho,Zb⟩
 | a::st,out,ho,hs=>by
  obtain ⟨g1,g2⟩:=nX hT (p:=p) hm ho (hs a Zb);obtain ⟨k1,k2⟩:=GM hT (p:=p) hm st _ g1 fun b hb=>hs b (Yp _ hb);rw [Yh];exact ⟨k1,by simp only [ZL];omega⟩
def NY (x:Inst) (k:Int) (S tot f:Nat):Prop:= ∀(l:List Vis) (c:Bool) (p:Int) (st:List Sr) (b:Col×Bool),l.length+f=tot->(c=true->0<f)->Ff (16384*(l.length:Int)) st->st.length<=2^(l.length+1)->b.1.route.visits.length<=1048576 ->
  ACalls Tryz.prog 133 [.ptr 0 0,.p (.list c (l.map XB)),.p (.int .i64 p),.p (.list false (st.map DZ))] [X8 x k S tot b] fun y H'=>y= .tup []/\H'= [X8 x k S tot ((OT x k S f l (p,st)).foldl (Wm (Fw x k) (Uk x k S) Qo) b)]
theorem zJ (x:Inst) (hx:InstOk x) (k:Int) (S tot:Nat) (ht:tot<=8) (hk:0<=k/\k<x.types.length) (htl:x.types.length<=1048576):NY x k S tot 0:=by
 intro l c p st b hlf hc hs1 hs2 hb
 have hc:c=false:=by grind
 subst hc
 have hll:l.length=tot:=Za
 obtain ⟨R,hR⟩: ∃R,R=X8 x k S tot ((OT x k S 0 l (p,st)).foldl (Wm (Fw x k) (Uk x k S) Qo) b):=⟨_,rfl⟩;rw [<- hR];simp only [OT,xL,Yh,Bd] at hR;obtain ⟨⟨bt,bs,bp,br⟩,bf⟩:=b;have hpr:=LK x (Ax k l);refine Zj [] Tryz.func133 rfl bG ?_;simp (disch:=omega) only [Tryz.f133,X8,go_sem,seval];refine cD ?_ ?_<;>intro h1<;>simp (disch:=omega) only [Sh.out h1,go_sem,seval,↓reduceIte]
 ·refine XN (Zd ?_);refine FO (Su x (Ax k l) hx ⟨by grind [Ax],by simp [Ax]⟩) (Zd ?_);refine cD ?_ ?_<;>intro h2<;>simp (disch:=omega) only [Sh.out h2,go_sem,seval]
  ·have hok:Fw x k l=true:=Qe h2;have hcol:(⟨k,(S:Int),(YS x (Ax k l)).1,⟨k,0,true,[],false,l⟩⟩:Col)=Uk x k S l:=rfl;refine Vf [11] 12 mixed Ze Ze Ze Zb (Zd ?_);refine YZ 11 _ _ Ze (by refine Zd ?_;exact ⟨rfl,rfl⟩) (Q0 ?_);refine Zd ?_;refine ZK 11 mixed Ze Ze (Zd ?_);refine Zo (kL ⟨bt,bs,bp,br⟩ (Uk x k S l) bf hb (by grind)) ?_
   have hR2:R=X8 x k S tot (if bf=false\/Qo (Uk x k S l) ⟨bt,bs,bp,br⟩=true then Uk x k S l else ⟨bt,bs,bp,br⟩,true):=by
    rw [hR,Wm]
    grind
   generalize (if bf=false\/Qo (Uk x k S l) ⟨bt,bs,bp,br⟩=true then Uk x k S l else ⟨bt,bs,bp,br⟩)=C at hR2 ⊢;refine Zd ?_;exact ⟨.tup [],[R],Weak.mk (by simp (disch:=omega) only [hR2,X8,go_sem,seval]),rfl,rfl⟩
  ·have hok:Fw x k l=false:=Ut h2;rw [Wm,if_neg (fun h=>by grind)] at hR;exact ⟨.tup [],[R],Weak.mk (by simp (disch:=omega) only [hR,X8,go_sem,seval]),rfl,rfl⟩
 ·omega
theorem HD {x:Inst} {k:Int} {S:Nat} : ∀(f:Nat) (l:List Vis) (s:Int×List Sr),∀m∈OT x k S f l s,m.length=l.length+f
 | 0,l,s,m,hm=>by
  simp_all [OT,xL]
 | f+1,l,s,m,hm=>by
  simp only [OT,xL,XS] at hm;obtain ⟨v,_,hm⟩:=hm
  split at hm
  ·simp at hm
  ·have:=HD f (l++ [v]) _ m hm;simp at this;omega
theorem Me {x:Inst} {k:Int} {S N:Nat} : ∀(L:List (List Vis)) (b:Col×Bool),b.1.route.visits.length<=N->(∀m∈L,m.length<=N)->(L.foldl (Wm (Fw x k) (Uk x k S) Qo) b).1.route.visits.length<=N
 | [],b,h,_=>h
 | m::L,b,h,hL=>by
  rw [Yh];refine Me L _ ?_ fun q hq=>hL q (Yp _ hq);unfold Wm
  split
  ·exact hL m Zb
  ·exact h
theorem zK (x:Inst) (hx:InstOk x) (k:Int) (S tot f:Nat) (ht:tot<=8) (hk:0<=k/\k<x.types.length) (htl:x.types.length<=1048576) (hbl:x.before.length<=1048576) (hS:S<9223372036854775808) (ih:NY x k S tot f):NY x k S tot (f+1):=by
 intro l c p st b hlf hc hs1 hs2 hb;have hf:=YB hx
 have hn:x.orders.length<=60:=by have:=hf.len;omega
 obtain ⟨R,hR⟩: ∃R,R=X8 x k S tot ((OT x k S (f+1) l (p,st)).foldl (Wm (Fw x k) (Uk x k S) Qo) b):=⟨_,rfl⟩;rw [<- hR];have hpw:2^(l.length+1)<=2^8:=YD Za Za
 have hpw2:2^(l.length+1+1)=2*2^(l.length+1):=Za
 have hnl:=Cj x S l x.orders.length;have hokv: ∀v∈nextU x S l x.orders.length,gV x v=true/\0<=(Xg x v).place/\TrpOk x (nth x.types k.toNat) [Xg x v]:=fun v hv=>Zfn hx hv hk;obtain ⟨G,hG⟩: ∃G:Vis->List (List Vis),G=fun v=>if (goS x (nth x.types k.toNat) (p,st) v).2.isEmpty=true then [] else OT x k S f (l++ [v]) (goS x (nth x.types k.toNat) (p,st) v):=⟨_,rfl⟩
 have hlv:OT x k S (f+1) l (p,st)=(nextU x S l x.orders.length).flatMap G:=by rw [hG];rfl
 rw [hlv] at hR;have hsn:=SA x S l c hS Za hn hbl (fun q hq=>by have:=(hf.val q hq);omega);generalize hnx:nextU x S l x.orders.length=nx at hnl hokv hR hsn;clear hnx hlv;obtain ⟨B,hB⟩: ∃B:Nat->Col×Bool,B=fun q=>((nx.take q).flatMap G).foldl (Wm (Fw x k) (Uk x k S) Qo) b:=⟨_,rfl⟩
 have hB0:B 0=b:=by rw [hB];rfl
 have hBn:R=X8 x k S tot (B nx.length):=by grind
 have hBs: ∀q,q<nx.length->B (q+1)=(G (nth nx q)).foldl (Wm (Fw x k) (Uk x k S) Qo) (B q):=fun q hq=>by
  rw [hB];simp only;rw [Yu hq,List.flatMap_append,List.foldl_append,<- Zg hq];simp
 have hBl: ∀q,(B q).1.route.visits.length<=1048576:=fun q=>by
  rw [hB];refine Me _ _ hb fun m hm=> ?_;obtain ⟨v,_,hm⟩:=XS.1 hm;rw [hG] at hm;simp only at hm
  split at hm
  ·simp at hm
  ·have:=HD _ _ _ m hm;simp at this;omega
 clear hR hB;refine Zj [] Tryz.func133 rfl bG ?_;simp (disch:=omega) only [Tryz.f133,X8,go_sem,seval];refine cD ?_ ?_<;>intro h1<;>simp (disch:=omega) only [Sh.out h1,go_sem,seval,↓reduceIte]
 ·omega
 ·refine XN (Zd ?_);refine Zo (hsn) (Zd ?_);refine Zn [0,1,2,3,77,78] (fun q:Nat=> [(79,.p (.int .i64 q))]) (fun q=> [X8 x k S tot (B q)]) (fun q=>q<=nx.length) (fun q=>nx.length-q) 0 Zb (Weak.mk ?_) ?_
  ·simp (disch:=omega) only [X8,hB0,go_sem,seval,↓reduceIte]
  ·intro q hq;simp (disch:=omega) only [X8,go_sem,seval];refine cD ?_ ?_<;>intro h2<;>simp (disch:=omega) only [Sh.out h2,go_sem,seval,↓reduceIte]
   ·have hq2:q<nx.length:=Za
    obtain ⟨v1,v2,v3⟩:=hokv _ (Z0 hq2);have hBq:=hBs q hq2;refine Vf [10,11] 12 mixed Ze Ze Ze Zb (Zd ?_);refine FO (O9 x (nth nx q) Za v1 v2) (Zd ?_);refine YZ 10 _ _ Ze (by refine Zd ?_;exact ⟨rfl,rfl⟩) ?_;refine Zd ?_;refine YZ 11 _ _ Ze (by refine Zd ?_;exact ⟨rfl,rfl⟩) (Q0 ?_);refine Zd ?_
    have hSr0:Ff (16384*(l.length:Int)+16384) []:=fun a ha=>by simp at ha
    obtain ⟨w1,w2⟩:=GM v3 (p:=p) (m:=16384*(l.length:Int)) Za st [] hSr0 hs1;obtain ⟨N,hN⟩: ∃N,N=CH x (nth x.types k.toNat) p st (Xg x (nth nx q)):=⟨_,rfl⟩;have cv:=nY x k S tot (B q) p st false (Xg x (nth nx q)) (16384*(l.length:Int)) Za hk htl v3 Za hs1
    have hGq:G (nth nx q)=if N.isEmpty=true then [] else OT x k S f (l++ [nth nx q]) ((Xg x (nth nx q)).place,N):=by rw [hG,hN];rfl
    rw [<- hN] at cv
    have w1':Ff (16384*(l.length:Int)+16384) N:=by rw [hN];exact w1
    have w2':N.length<=2*st.length:=by grind [CH]
    refine cv.useP (L:= [_,_]) (by rfl) ?_ (by rfl) (by rfl);simp (disch:=omega) only [X8,ZP,ZA,go_sem,seval];refine cD ?_ ?_<;>intro h3<;>simp (disch:=omega) only [Sh.out h3,go_sem,seval,↓reduceIte]
    ·have hne: ¬N.isEmpty=true:=fun h=>by grind
     rw [hGq,if_neg hne] at hBq
     have ihc:=ih (l++ [nth nx q]) false (Xg x (nth nx q)).place N (B q) (by simp;omega) Zb (by
      have e:16384*(((l++ [nth nx q]).length:Nat):Int)=16384*(l.length:Int)+16384:=by simp;omega
      grind) (by grind) (hBl q)
     rw [<- hBq,Yg] at ihc;refine ZK 9 mixed Ze Ze (Zd ?_);refine Zo (sI l c Za) (Zd ?_);refine ihc.useP (L:= [_,_]) (by rfl) ?_ (by rfl) (by rfl);simp (disch:=omega) only [X8,ZP,ZA,go_sem,seval];exact ⟨q+1,Za,Za,wk⟩
    ·have he:N.isEmpty=true:=by simp_all
     rw [hGq,if_pos he] at hBq;have hBq':B (q+1)=B q:=hBq;exact ⟨q+1,Za,Za,Weak.mk (by simp (disch:=omega) only [hBq',go_sem,seval])⟩
   ·have hql:q=nx.length:=Za
    subst hql;exact ⟨.tup [],[R],Weak.mk (by simp (disch:=omega) only [hBn,X8,go_sem,seval]),rfl,rfl⟩
theorem CN (x:Inst) (hx:InstOk x) (k:Int) (S tot:Nat) (ht:tot<=8) (hk:0<=k/\k<x.types.length) (htl:x.types.length<=1048576) (hbl:x.before.length<=1048576) (hS:S<9223372036854775808): ∀f,NY x k S tot f
 | 0=>zJ x hx k S tot ht hk htl
 | f+1=>zK x hx k S tot f ht hk htl hbl hS (CN x hx k S tot ht hk htl hbl hS f)
theorem eJ (x:Inst) (k:Int) (S tot:Nat) (b:Col×Bool) (d v:Int) (hk:0<=k/\k<x.types.length) (ht:x.types.length<=1048576) (hd:0<=d/\d<=1048576) (hr:0<=(nth x.types k.toNat).rest/\(nth x.types k.toNat).rest<=1048576) :
  ACalls Tryz.prog 134 [.ptr 0 0,.p (.list true []),.p (.int .i64 d),.p (.int .i64 v)] [X8 x k S tot b] fun y H'=>y= .p (.list false ((W3 (nth x.types k.toNat) [] d v).map DZ))/\H'= [X8 x k S tot b]:=by
 obtain ⟨L2,h2⟩: ∃L2,L2=W3 (nth x.types k.toNat) [] d v:=⟨_,rfl⟩
 have h12:VU [⟨d,v⟩] ⟨d+(nth x.types k.toNat).rest,0⟩=L2:=by rw [h2];rfl
 rw [<- h2];have c2:=M7 [⟨d,v⟩] ⟨d+(nth x.types k.toNat).rest,0⟩ Zb;rw [h12] at c2;refine Zj [] Tryz.func134 rfl bH ?_;simp (disch:=omega) only [Tryz.f134,go_sem,seval];refine (lD ⟨d,v⟩).useF (Zd ?_);simp (disch:=omega) only [X8,go_sem,seval];refine ZK 16 mixed Ze Ze (Zd ?_);refine ACalls.mono (c2.back [X8 x k S tot b] (by rfl)) ?_;rintro y H' ⟨y1,H1,⟨rfl,rfl⟩,rfl,rfl⟩;simp (disch:=omega) only [AM.shV,AM.shO,X8,Zt,Zm,ZP,ZA,go_sem,seval];exact ⟨.p (.list false (L2.map DZ)),[X8 x k S tot b],(Weak.fz (o:=1) (by rfl)).trans (Weak.mk (by simp (disch:=omega) only [X8,eq_self,Zt,Zm,Z7,ZX,go_sem,seval,↓reduceIte])),rfl,rfl⟩
theorem Lo (x:Inst) (S:Nat): ∀k,k<=63->((XJ (S:Int) k).map fun i=>(Z2 x.orders i.toNat).length).sum=KT x S k
 | 0,_=>by rfl
 | k+1,h=>by
  have ih:=Lo x S k Za;rw [KF]
  cases hb:sHas (S:Int) (k:Int) with
  | true =>
   rw [Lp hb,Yg,List.sum_append,ih];rw [We _ _ Za] at hb;rw [if_pos hb];simp
  | false =>
   rw [OW hb,ih];rw [We _ _ Za] at hb;rw [hb];simp
theorem Md (x:Inst) (S n:Nat) (h: ∀i,S.testBit i=true->i<n): ∀d,KT x S (n+d)=KT x S n
 | 0=>rfl
 | d+1=>by
  rw [show n+(d+1)=n+d+1 by omega,KF,Md x S n h d,if_neg (fun e=>by have:=h _ e;omega)];rfl
def VP : Col:=⟨0,0,0,⟨0,0,true,[],true,[]⟩⟩
noncomputable def Qp (x:Inst) (k:Int) (S:Nat):Col×Int:=if Y6 x.orders x.apart x.before (S:Int)=0/\(CY x k S (VP,false)).2=true then ((CY x k S (VP,false)).1,0) else (VP,24)
def Ro : AM.Obj:= .cells ((jN VP).map .p)
theorem HO (x:Inst) (hx:InstOk x) (k:Int) (S:Nat) (hk:0<=k/\k<x.types.length) (h4:x.orders.length<=4) (htl:x.types.length<=1048576) (hbl:x.before.length<=1048576) (hal:x.apart.length<=1048576) (hS0:0<S) (hS1:S<2^x.orders.length) :
  PT 104 [.p (ZW x),.p (.int .i64 k),.p (.int .i64 S)] [.p (Ya (Qp x k S).1),.p (.int .i64 (Qp x k S).2)]:=by
 have hf:=YB hx;have h16:S<16:=U9 hS1 (YD (n:=2) Za h4);have hdiv:S / pw x.orders.length=0:=Kj hS1
 have hbit: ∀i,S.testBit i=true->i<x.orders.length:=fun i hi=>by
  rcases Wr i x.orders.length with h | h
  ·exact h
  ·have:2^x.orders.length<=2^i:=YD Za h
   grind [Cd]
 obtain ⟨Z,hZ⟩: ∃Z,Z=Qp x k S:=⟨_,rfl⟩;rw [<- hZ];have hal2:=PN x.net x.types_c x.types x.orders_c x.apart_c x.before_c x.orders x.apart x.before (S:Nat) Za hal hbl hf.val;refine Zj [] Tryz.func104 rfl tD ?_;simp (disch:=omega) only [Tryz.f104,go_sem,seval];refine gF ?_ ?_<;>intro h1<;>simp (disch:=omega) only [Sh.out h1,go_sem,seval,↓reduceIte]
 ·omega
 ·refine gF ?_ ?_<;>intro h2<;>simp (disch:=omega) only [Sh.out h2,go_sem,seval,↓reduceIte]
  ·omega
  ·refine gF ?_ ?_<;>intro h3<;>simp (disch:=omega) only [Sh.out h3,go_sem,seval,↓reduceIte]
   ·omega
   ·refine cD ?_ ?_<;>intro h5<;>simp (disch:=omega) only [Sh.out h5,go_sem,seval,↓reduceIte]
    ·omega
    ·refine (hal2).use (Zd ?_);refine cD ?_ ?_<;>intro h6<;>simp (disch:=omega) only [Sh.out h6,go_sem,seval,↓reduceIte]
     ·have e:Z=(VP,24):=by simp_all [Qp]
      exact ⟨.tup [.p (Ya Z.1),.p (.int .i64 Z.2)],[],Weak.mk (by simp (disch:=omega) only [e,VP,Zm,go_sem,seval]),rfl,rfl⟩
     ·have h60:Y6 x.orders x.apart x.before (S:Int)=0:=XD.1 h6;obtain ⟨T,hT⟩: ∃T:Nat->Nat,T=fun q=>(((XJ (S:Int) 63).take q).map fun i=>(Z2 x.orders i.toNat).length).sum:=⟨_,rfl⟩
      have hT0:T 0=0:=by rw [hT];rfl
      have hTn:T (XJ (S:Int) 63).length=VD x S:=by
       rw [hT];simp only [X5];rw [Lo x S 63 Za,show 63=x.orders.length+(63-x.orders.length) by omega,Md x S _ hbit];rfl
      have hTs: ∀q,q<(XJ (S:Int) 63).length->T (q+1)=T q+(Z2 x.orders (nth (XJ (S:Int) 63) q).toNat).length:=fun q hq=>by
       grind [Yu,Zg]
      have hTl: ∀q,T q<=2*q:=fun q=>by
       induction q with
       | zero=>omega
       | succ q ih =>
        rcases Wr q (XJ (S:Int) 63).length with h | h
        ·grind [VF]
        grind [A4]
      have hml:=Bg (S:Int) 63
      have hmi: ∀q,q<(XJ (S:Int) 63).length-> ∃i:Nat,nth (XJ (S:Int) 63) q=(i:Int)/\i<x.orders.length:=fun q hq=>by
       obtain ⟨i,e,_,hb⟩:=Qz.1 (Z0 hq)
       grind
      refine ((Cf (S:Int)).frozen Zb).use (Zd ?_);generalize XJ (S:Int) 63=M at hTn hTs hml hmi ⊢;clear hT;refine Zn [1,3,6,8,45,46] (fun q:Nat=> [(47,.p (.int .i64 q))]) (fun q=> [Zh x,Ro,X8 x k S (T q) (VP,false)]) (fun q=>q<=M.length) (fun q=>M.length-q) 0 Zb (Weak.mk ?_) ?_
      ·simp (disch:=omega) only [Zh,Ro,jN,VP,X8,hT0,Zm,Zt,go_sem,seval]
      ·intro q hq;have hq1:=hTl q;simp (disch:=omega) only [Zh,Ro,jN,VP,X8,Zm,Zt,go_sem,seval];refine cD ?_ ?_<;>intro h7<;>simp (disch:=omega) only [Sh.out h7,go_sem,seval,↓reduceIte]
       ·have hq2:q<M.length:=Za
        obtain ⟨i,hi,hin⟩:=hmi q hq2;have hts:=hTs q hq2;rw [hi,Xn] at hts;have hvl:=VF x.orders i;refine ZK 10 mixed Ze Ze (Zd ?_);rw [hi];refine Zo (visits_c x.orders x.orders_c i hin Za) (Zd ?_)
        have hts2:((T (q+1):Nat):Int)=((T q:Nat):Int)+((Z2 x.orders i).length:Int):=Za
        exact ⟨q+1,Za,Za,Weak.mk (by simp (disch:=omega) only [hts2,go_sem,seval])⟩
       ·have hqm:q=M.length:=Za
        subst hqm;rw [hTn] at hq1 ⊢
        have ht8:VD x S<=8:=by
         grind [If,VD]
        have htp:0<VD x S:=Pw hf.vne hdiv Za;obtain ⟨t1,t2,t3,_⟩:=W6 hx (show k.toNat<x.types.length by omega);obtain ⟨N,hN⟩: ∃N,N=W3 (nth x.types k.toNat) [] (nth x.types k.toNat).opn 0:=⟨_,rfl⟩
        have hNl:N.length<=2:=by
         grind [Am]
        have hNo:Ff 0 N:=fun a ha=>by
         rw [hN] at ha;rcases WE.1 ha with h | rfl | rfl
         ·simp at h
         ·grind
         ·exact ⟨by simp only;omega,Zb⟩
        have cf:=eJ x k S (VD x S) (VP,false) (nth x.types k.toNat).opn 0 hk htl Za Za;rw [<- hN] at cf;have cw:=CN x hx k S (VD x S) ht8 hk htl hbl Za (VD x S) [] true (nth x.types k.toNat).src N (VP,false) Zb (fun _=>htp) (by grind) Za (by simp [VP])
        have hB:(OT x k S (VD x S) [] ((nth x.types k.toNat).src,N)).foldl (Wm (Fw x k) (Uk x k S) Qo) (VP,false)=CY x k S (VP,false):=by rw [CY,st0,<- hN]
        rw [hB] at cw
        have hZ2:Z=if (CY x k S (VP,false)).2=true then ((CY x k S (VP,false)).1,0) else (VP,24):=by
         rw [hZ,Qp]
         simp_all
        generalize CY x k S (VP,false)=B at cw hZ2;refine ZK 7 mixed Ze Ze (Zd ?_);refine ⟨.p (.list false (N.map DZ)),?_,?_⟩
        ·refine ACalls.mono (((cf.mono fun y H' hq=>(⟨hq,by rw [hq.2]⟩:_/\H'.length= [X8 x k S (VD x S) (VP,false)].length)).front (by rfl) (by rfl) [.cells ((JB (nth x.types k.toNat)).map .p)]).back [Zh x,Ro] (by rfl)) ?_;rintro y H' ⟨y1,H1,⟨H2,⟨rfl,rfl⟩,rfl⟩,rfl,rfl⟩;exact ⟨rfl,rfl⟩
        ·refine Zd ?_;refine ACalls.mono (((cw.mono fun y H' hq=>(⟨hq,by grind⟩:_/\H'.length= [X8 x k S (VD x S) (VP,false)].length)).front (by rfl) (by rfl) [.cells ((JB (nth x.types k.toNat)).map .p)]).back [Zh x,Ro] (by rfl)) ?_;rintro y H' ⟨y1,H1,⟨H2,⟨rfl,rfl⟩,rfl⟩,rfl,rfl⟩;simp (disch:=omega) only [AM.shV,AM.shVs,AM.shO,Zh,Ro,jN,VP,X8,JB,Zt,Zm,ZP,ZA,go_sem,seval];obtain ⟨C,f⟩:=B
         cases f with
         | false =>
          rw [if_neg Zb] at hZ2;simp (disch:=omega) only [Km,go_sem,seval];exact ⟨.tup [.p (Ya Z.1),.p (.int .i64 Z.2)],[],Weak.mk (by simp (disch:=omega) only [hZ2,VP,Zm,go_sem,seval]),rfl,rfl⟩
         | true =>
          rw [if_pos rfl] at hZ2;simp (disch:=omega) only [Bool.not_true,go_sem,seval];exact ⟨.tup [.p (Ya Z.1),.p (.int .i64 Z.2)],[],Weak.mk (by simp (disch:=omega) only [hZ2,go_sem,seval]),rfl,rfl⟩
def EP (one:Nat->List Col):Nat->List Col
 | 0=> []
 | q+1=>EP one q++one (q+1)
def Jw (one:Nat->Nat->List Col) (N:Nat):Nat->List Col
 | 0=> []
 | k+1=>Jw one N k++EP (one k) N
theorem EQ {one:Nat->List Col} (h: ∀q,(one q).length<=1): ∀q,(EP one q).length<=q
 | 0=>Zw _
 | q+1=>by
  have:=EQ h q;have:=h (q+1);rw [EP,Zy];omega
theorem DH {one:Nat->Nat->List Col} {N:Nat} (h: ∀k q,(one k q).length<=1): ∀k,(Jw one N k).length<=k*N
 | 0=>by simp [Jw]
 | k+1=>by
  have h1:=DH (N:=N) h k;have h2:=EQ (h k) N;rw [Jw,Zy,Xo];omega
noncomputable def JT (x:Inst) (k S:Nat):List Col:=if (Qp x (k:Int) S).2=0 then [(Qp x (k:Int) S).1] else []
theorem EB {x:Inst} (k S:Nat):(JT x k S).length<=1:=by grind [JT]
theorem LG (x:Inst) (hx:InstOk x) (h4:x.orders.length<=4) (h6:x.types.length<=6) (hbl:x.before.length<=1048576) (hal:x.apart.length<=1048576) :
  PT 77 [.p (ZW x)] [.p (.list false ((Jw (JT x) (2^x.orders.length-1) x.types.length).map Ya)),.p (.int .i64 0)]:=by
 have hp:pw x.orders.length=2^x.orders.length:=rfl;have hp1:1<=2^x.orders.length:=Nat.one_le_two_pow;have hp2:2^x.orders.length<=2^4:=YD Za h4;obtain ⟨N,hN⟩: ∃N,N=2^x.orders.length-1:=⟨_,rfl⟩;rw [<- hN];refine Zj [12] Tryz.func77 rfl ZeY ?_;simp (disch:=omega) only [Tryz.f77,go_sem,seval];refine XG [12] [1,11] (fun k:Nat=> [(4,.sl 1 0 (Jw (JT x) N k).length (Jw (JT x) N k).length),(12,.p (.int .i64 k))]) (fun k=> [Zh x,.elems 7 ((Jw (JT x) N k).map Ya)]) (fun k=>k<=x.types.length) (fun k=>x.types.length-k) 0 Zb (Weak.ofNil 4 7 (by simp (disch:=omega) only [go_sem,seval]) Zb (Weak.mk ?_)) ?_
 ·simp (disch:=omega) only [Zh,Jw,Zm,ZY,go_sem,seval]
 ·intro k hk;obtain ⟨R,hR⟩: ∃R,R=Jw (JT x) N k:=⟨_,rfl⟩;have hRl:=DH (N:=N) (EB (x:=x)) k
  have hRs:Jw (JT x) N (k+1)=R++EP (JT x k) N:=by rw [hR];rfl
  rw [<- hR] at hRl ⊢;have hkN:k*N<=6*16:=Nat.mul_le_mul Za Za;refine UE ?_;refine cD ?_ ?_<;>intro h1<;>simp (disch:=omega) only [Sh.out h1,go_sem,seval,↓reduceIte]
  ·obtain ⟨W,hW⟩: ∃W:Nat->List Col,W=fun q=>R++EP (JT x k) (q-1):=⟨_,rfl⟩
   have hW0:W 1=R:=by grind [EP]
   have hWn:Jw (JT x) N (k+1)=W (N+1):=by grind
   have hWl: ∀q,(W q).length<=R.length+q:=fun q=>by
    grind [EQ,EB]
   have hWs: ∀q,1<=q->W (q+1)=W q++JT x k q:=fun q h=>by
    obtain ⟨p,rfl⟩: ∃p,q=p+1:=⟨q-1,Za⟩
    grind [EP]
   clear hW hRs;refine Zn [1,5,11,12] (fun q:Nat=> [(4,.sl 1 0 (W q).length (W q).length),(6,.p (.int .i64 q))]) (fun q=> [Zh x,.elems 7 ((W q).map Ya)]) (fun q=>1<=q/\q<=N+1) (fun q=>N+1-q) 1 Za (Weak.mk ?_) ?_
   ·have e0:((1:Nat):Int)=1:=rfl;simp (disch:=omega) only [Zh,hW0,e0,go_sem,seval]
   ·rintro q ⟨hq0,hq⟩;have hql:=hWl q;have hqs:=hWs q hq0;refine UE ?_;refine Xm ?_ ?_<;>intro h2
    ·have hq2:q<2^x.orders.length:=by
      have h2':q / pw x.orders.length=0:=Za
      simp_all
     refine J2 (HO x hx k q Za h4 Za hbl hal Za hq2) ?_;have hone:JT x k q=if (Qp x (k:Int) q).2=0 then [(Qp x (k:Int) q).1] else []:=rfl;rw [hone] at hqs;generalize Qp x (k:Int) q=Z at hqs ⊢;refine Zd ?_;refine Xm ?_ ?_<;>intro h3
     ·rw [if_pos h3] at hqs;exact ⟨q+1,Za,Za,Weak.mk (by simp (disch:=omega) only [hqs,Yg,Zt,Zm,Zy,ZL,ZY,Xz,go_sem,seval])⟩
     ·rw [if_neg h3,VM] at hqs;exact ⟨q+1,Za,Za,Weak.mk (by simp (disch:=omega) only [hqs,go_sem,seval])⟩
    ·have hqn:q=N+1:=by
      have h2': ¬q / pw x.orders.length=0:=Za
      rw [hp] at h2';have: ¬q<2^x.orders.length:=fun h=>h2' (Kj h);omega
     subst hqn;exact ⟨k+1,Za,Za,Weak.mk (by simp (disch:=omega) only [hWn,go_sem,seval])⟩
  ·have hkt:k=x.types.length:=Za
   subst hkt;refine Zr (Weak.fz (o:=1) (by rfl)) ?_;refine Zf [] _ _ _ _ ?_;simp (disch:=omega) only [Zt,Zm,Z7,ZX,eq_self,go_sem,seval];exact ⟨.tup [.p (.list false (R.map Ya)),.p (.int .i64 0)],[],wk,by rw [hR],rfl⟩
end Go.Proofs.YtjkkdmeebhjaiaaGreatDoor.K
