/- Declarations that the closing texts need, part 13: joined by tools/slim.py. -/
import Derived.Test.YtenjikkmmibffaaGreatDoorH12
set_option linter.unusedVariables false
set_option linter.unusedSimpArgs false
namespace Go.Proofs.YtenjikkmmibffaaGreatDoor.K
open Go Go.AM Go.Proofs
set_option maxRecDepth 8000
set_option maxHeartbeats 8000000
@[go_sem] theorem ZfJ {f:FuncId} :(PV.fn f).cells= [.fn f]:=Zl rfl rfl
def Zep : AM.Obj:= .cells [.p (.bool false),.p (.int .i64 0),.p (.list true []),.p (.int .i64 0),.p (.int .i64 0)]
theorem P0 (x:Inst) (r:Rte) (hx:InstOk x) (hl:r.visits.length<=1048576) (hrl:r.rests.length<=1048576):ACalls Tryz.prog 218 [.p (Zv x),.p (Wd r)] [] fun y H'=>y=Bq x r/\H'= []:=by
 have hld:=QP hx;have htl:=hld.typ;have hol:=hld.ord;have chk:=nW x r hx hl
 have htb:x.types.length<=6:=by have:=hx.types.1;simp only [rng,Zs] at this;omega
 refine Zf [] Tryz.func218 rfl ZcD ?_;simp (disch:=omega) only [Tryz.f218,go_sem,seval];refine gF ?_ ?_<;>intro h1<;>simp (disch:=omega) only [Sh.out h1,go_sem,seval,↓reduceIte]
 ·have e:X2 x r=2:=by rw [X2,if_pos Za]
  rw [YJ (e:=2) (by rw [Z6,e];rfl) Za];exact we (by simp (disch:=omega) only [zShe,zSco,Zn,go_sem,seval])
 ·refine cD ?_ ?_<;>intro h2<;>simp (disch:=omega) only [Sh.out h2,go_sem,seval,↓reduceIte]
  ·have e:X2 x r=2:=by simp_all [X2]
   rw [YJ (e:=2) (by rw [Z6,e];rfl) Za];exact we (by simp (disch:=omega) only [zShe,zSco,Zn,go_sem,seval])
  ·have hty:0<=r.typ/\r.typ<(x.types.length:Int):=Za
   have hti:r.typ.toNat<x.types.length:=Za
   have hnum:=WU hx hti;have htyp:nth x.types r.typ.toNat=ZF x r:=rfl;rw [htyp] at hnum
   have hsk: ∀o∈x.orders,o.skills<9223372036854775808:=fun o hm=>by
    obtain ⟨i,hi,rfl⟩:=ZN.1 hm;have:=(hx.orders.2 i hi).skills
    grind [Zh]
   refine Zk [2,3,4,5,25,26] (fun k:Nat=> [(27,.p (.int .i64 k))]) (fun _=> [Zi x,XA r,Zep,Qa 0 0 0 0,.elems 1 [.fn 229,.fn 230,.fn 231]])
    (fun k=>k<=3/\(0<k->Xk x r.visits=0)/\(1<k-> ¬(r.visits.any fun v=> !Yq (ZF x r) (nth x.orders v.order.toNat).skills)=true)/\(2<k->Qv x (ZF x r).cap r.visits=true)) (fun k=>3-k) 0 ⟨Za,Za,Za,Za⟩ (Weak.mk ?_) ?_
   ·simp (disch:=omega) only [Zi,XA,Qa,Zep,go_sem,seval]
   ·rintro k ⟨hk,k1,k2,k3⟩;simp (disch:=omega) only [Zi,XA,Qa,Zep,go_sem,seval];refine cD ?_ ?_<;>intro h3<;>simp (disch:=omega) only [Sh.out h3,go_sem,seval,↓reduceIte]
    ·by_cases hk0:k=0
     ·subst hk0;have he:KX [PV.fn 229,PV.fn 230,PV.fn 231] 0=PV.fn 229:=rfl;simp (disch:=first | omega | (simp only [ZC,ZG,ZJ,Z2,Xi,XN]<;>omega)) only [he,go_sem,seval,↓reduceIte];refine (chk).use (Zc ?_);refine ZK ?_ ?_<;>intro h4
      ·have e:X2 x r=Xk x r.visits:=by simp_all [X2]
       rw [YJ (e:=Xk x r.visits) (by simp_all [Z6]) h4];exact we (by simp (disch:=omega) only [zShe,zSco,Zn,go_sem,seval])
      ·exact ⟨1,⟨Za,fun _=>Za,Za,Za⟩,Za,wk⟩
     ·have h0:=k1 Za;have hsq:=VY h0
      have hr0:X2 x r=if (r.visits.any fun v=> !Yq (ZF x r) (nth x.orders v.order.toNat).skills)=true then 18 else if Qv x (ZF x r).cap r.visits=false then 17 else if ¬(0<=r.start/\r.start<=4096/\r.rests.length<=r.visits.length+1) then 2 else 0:=by
       rw [X2,if_neg (fun h=>h hty),if_neg Za]
      by_cases hk1:k=1
      ·subst hk1;have he:KX [PV.fn 229,PV.fn 230,PV.fn 231] 1=PV.fn 230:=rfl;simp (disch:=first | omega | (simp only [ZC,ZG,ZJ,Z2,Xi,XN]<;>omega)) only [he,go_sem,seval,↓reduceIte];refine (nU x r hty (fun v hv=>by have:=hsq.inr v hv;grind [NR]) hl htl Za Za hsk).use (Zc ?_)
       by_cases h5:(r.visits.any fun v=> !Yq (ZF x r) (nth x.orders v.order.toNat).skills)=true
       ·rw [if_pos h5] at hr0 ⊢;rw [YJ (e:=18) (by rw [Z6,hr0];rfl) Za];refine Zc ?_;exact we (by simp (disch:=omega) only [zShe,zSco,Zn,go_sem,seval])
       ·rw [if_neg h5];refine Zc ?_;exact ⟨2,⟨Za,fun _=>h0,fun _=>h5,Za⟩,Za,wk⟩
      ·have hk2:k=2:=Za
       subst hk2;have he:KX [PV.fn 229,PV.fn 230,PV.fn 231] 2=PV.fn 231:=rfl;simp (disch:=first | omega | (simp only [ZC,ZG,ZJ,Z2,Xi,XN]<;>omega)) only [he,go_sem,seval,↓reduceIte];refine (nR x r hx hl hty h0).use (Zc ?_);rw [if_neg (k2 Za)] at hr0
       cases h5:Qv x (ZF x r).cap r.visits with
       | false =>
        rw [if_pos h5] at hr0;rw [YJ (e:=17) (by rw [Z6,hr0];rfl) Za];simp only [Y1,YH];refine Zc ?_;exact we (by simp (disch:=omega) only [zShe,zSco,Zn,go_sem,seval])
       | true =>
        simp only [if_true];refine Zc ?_;exact ⟨3,⟨Za,fun _=>h0,fun _=>k2 Za,fun _=>Zb⟩,Za,wk⟩
    ·have hk3:k=3:=Za
     subst hk3;have h0:=k1 Za;have hsq:=VY h0
     have hr0:X2 x r=if ¬(0<=r.start/\r.start<=4096/\r.rests.length<=r.visits.length+1) then 2 else 0:=by
      rw [X2,if_neg (fun h=>h hty),if_neg Za,if_neg (k2 Za),if_neg (by grind)]
     have cb:=vP x r hx hl hrl hty h0;have hok:=Aq hx hty hsq
     have hbr:Jz x r=XB x r->(XB x r).2=0->(0<=r.start/\r.start<=4096/\r.rests.length<=r.visits.length+1)->(0<=(XB x r).1.fin/\(XB x r).1.fin<=8192)/\(0<=(XB x r).1.miles/\(XB x r).1.miles<=210000):=fun _ hz hs =>
      FX hok ⟨hs.1,hs.2.1⟩ (by grind [Yi]) hz
     by_cases h6:0<=r.start/\r.start<=4096/\r.rests.length<=r.visits.length+1
     ·have e:X2 x r=0:=Za
      have ee:Z6 x r=(XB x r).2:=by rw [Z6,if_pos e]
      have eb:Jz x r=XB x r:=by rw [Jz,if_pos h6]
      have hbr:=fun hz=>hbr eb hz h6;rw [eb] at cb
      have es:Yc x r=if (XB x r).2=0 then (XB x r).1 else zShe:=by rw [Yc,ee]
      have ep:XF x r=if (XB x r).2=0 then Eb x r (XB x r).1 else zSco:=by rw [XF,ee]
      unfold Bq;rw [ee,es,ep];clear ee es ep eb
      generalize XB x r=q at *
      obtain ⟨sh,eb⟩:=q;simp only at cb hbr ⊢;refine Yn cb (Zc ?_);refine cD ?_ ?_<;>intro h7<;>simp (disch:=omega) only [Sh.out h7,go_sem,seval,↓reduceIte]
      ·exact we (by simp (disch:=omega) only [zShe,zSco,Zn,go_sem,seval])
      ·have h7':eb=0:=Za
       try rw [if_pos h7',if_pos h7']
       subst h7';obtain ⟨g1,g2⟩:=hbr rfl;refine ZB 5 mixed Zd Zd (Zc ?_);refine Zo (nV x r sh hty Za htl hl hsq.inr hnum.2.2.2.1 Za Za Za) (Zc ?_);exact we
     ·have e:X2 x r=2:=Za
      have eb:Jz x r=(zShe,2):=by rw [Jz,if_neg h6]
      rw [YJ (e:=2) (by rw [Z6,e];rfl) Za];rw [eb] at cb;refine Yn cb (Zc ?_);exact we (by simp (disch:=omega) only [zShe,zSco,Zn,go_sem,seval])
theorem VI {x:Inst} {r:Rte} (h:Z6 x r=0):X2 x r=0:=by
 grind [Z6]
theorem Uk {x:Inst} {r:Rte} (h:X2 x r=0):(0<=r.typ/\r.typ<(x.types.length:Int))/\Xk x r.visits=0/\(0<=r.start/\r.start<=4096/\r.rests.length<=r.visits.length+1):=by
 unfold X2 at h;omega
theorem Nz {x:Inst} {r:Rte} (hx:InstOk x) (h:Z6 x r=0):(0<=(Yc x r).fin/\(Yc x r).fin<=8192)/\(0<=(Yc x r).miles/\(Yc x r).miles<=210000):=by
 obtain ⟨hty,h0,hs⟩:=Uk (VI h)
 have e:Yc x r=(XB x r).1:=by rw [Yc,if_pos h]
 have ee:(XB x r).2=0:=by rw [Z6,if_pos (VI h)] at h;exact h
 rw [e];exact FX (Aq hx hty (VY h0)) ⟨hs.1,hs.2.1⟩ (by grind [Yi]) ee
theorem AC {x:Inst} {r:Rte} (hx:InstOk x) (hl:r.visits.length<=1048576) (h:Z6 x r=0):scoR 1073741824 (XF x r):=by
 have hg:=Nz hx h;obtain ⟨hty,_,_⟩:=Uk (VI h);have hnum:=WU hx (show r.typ.toNat<x.types.length by omega);have htyp:nth x.types r.typ.toNat=ZF x r:=rfl;rw [htyp] at hnum
 have e:(XB x r).1=Yc x r:=by rw [Yc,if_pos h]
 have hch:=Ct (x:=x) (l:=r.visits) (t:=r.typ) r.visits.length;rw [XF,if_pos h,e];unfold Eb scoR
 generalize Yc x r=s at *
 generalize ZF x r=t at *
 have p1:0<=t.perMile*s.miles/\t.perMile*s.miles<=100*210000:=⟨UO Za Za,VQ Za Za Za Za⟩
 have hW: -8192<=s.fin-t.opn/\s.fin-t.opn<=8192:=Za
 have p2: -819200<=t.perTick*(s.fin-t.opn)/\t.perTick*(s.fin-t.opn)<=819200:=by
  generalize s.fin-t.opn=w at hW;have a1:=BP hW.2 (show 0<=t.perTick by omega);have a2:=BP hW.1 (show 0<=t.perTick by omega);omega
 have p3: -128<=(s.fin-t.opn).tdiv 64/\(s.fin-t.opn).tdiv 64<=128:=by
  grind
 have p4:0<=(s.fin-t.opn).tdiv 64*(s.fin-t.opn).tdiv 64/\(s.fin-t.opn).tdiv 64*(s.fin-t.opn).tdiv 64<=16384:=by
  generalize (s.fin-t.opn).tdiv 64=q at p3;refine ⟨?_,?_⟩
  ·rcases AV 0 q with h | h
   ·exact UO h h
   ·exact Int.mul_nonneg_of_nonpos_of_nonpos h h
  ·rcases AV 0 q with h | h
   ·have:=VQ p3.2 p3.2 h Za;omega
   ·have h2:0<= -q:=Za
    have:=VQ (show-q<=128 by omega) (show-q<=128 by omega) h2 Za
    grind
 grind
def Ye (x:Inst) (r:Rte):Int×Int:=if Z6 x r=0 then Xm (XF x r) else (0,Z6 x r)
theorem qJ (s:Sco):0<=(Xm s).1/\(Xm s).1<=36028797018963968:=by
 grind [Xm]
theorem Ov (x:Inst) (r:Rte):0<=(Ye x r).1/\(Ye x r).1<=36028797018963968:=by
 unfold Ye
 split
 ·exact qJ _
 ·simp
theorem eC (x:Inst) (r:Rte) (hx:InstOk x) (hb:Mu r):PT 189 [.p (Zv x),.p (Wd r)] [.p (.int .i64 (Ye x r).1),.p (.int .i64 (Ye x r).2)]:=by
 have ce:=P0 x r hx hb.1 hb.2;refine Zf [] Tryz.func189 rfl Zcm ?_;simp (disch:=omega) only [Tryz.f189,go_sem,seval];unfold Bq at ce;refine O7 ce (Zc ?_);refine cD ?_ ?_<;>intro h1<;>simp (disch:=omega) only [Sh.out h1,go_sem,seval,↓reduceIte]
 ·rw [Ye,if_neg h1];exact we
 ·have h0:Z6 x r=0:=Za
  rw [Ye,if_pos h0];refine Vi (Iz (XF x r) (Yu Za (AC hx hb.1 h0))) (Zc ?_);exact we
theorem Oz (x:Inst) (r:Rte) (hx:InstOk x) (hb:Mu r):PT 128 [.p (Zv x),.p (Wd r)] [.p (.int .i64 (Ye x r).1),.p (.int .i64 (Ye x r).2)]:=by
 have ce:=J4 x r hx hb.1 hb.2;refine Zf [] Tryz.func128 rfl ZbI ?_;simp (disch:=omega) only [Tryz.f128,go_sem,seval];unfold Bq at ce;refine O7 ce (Zc ?_);refine cD ?_ ?_<;>intro h1<;>simp (disch:=omega) only [Sh.out h1,go_sem,seval,↓reduceIte]
 ·rw [Ye,if_neg h1];exact we
 ·have h0:Z6 x r=0:=Za
  rw [Ye,if_pos h0];refine Vi (B9 (XF x r) (Yu Za (AC hx hb.1 h0))) (Zc ?_);exact we
theorem qI {x:Inst} {t:Typ} {p:Int} {stop:Stp} {out:List Sr} {a b:Sr} (h:b∈out):b∈JT x t p stop out a:=by
 grind [JT,Vt]
theorem NJ {x:Inst} {t:Typ} {p:Int} {stop:Stp} : ∀(st:List Sr) (out:List Sr) (b:Sr),(b∈out->b∈st.foldl (JT x t p stop) out)/\ ∀a∈st,(∀o,b∈JT x t p stop o a)->b∈st.foldl (JT x t p stop) out
 | [],out,b=>⟨id,fun a h=>by simp at h⟩
 | c::st,out,b=>by
  rw [XO];obtain ⟨g1,g2⟩:=NJ st (JT x t p stop out c) b;refine ⟨fun h=>g1 (qI h),fun a ha hb=> ?_⟩
  grind
inductive Rch (x:Inst) (t:Typ) (sp:List Stp):Nat->Lab->Prop where
 | zero:Rch x t sp 0 (labF t 0)
 | succ {k:Nat} {L:Lab} (b:Bool) (h:Rch x t sp k L) (hk:k<sp.length) (e:(nxtF x t sp k L b).2=0):Rch x t sp (k+1) (nxtF x t sp k L b).1
theorem TD {x:Inst} {t:Typ} {sp:List Stp} : ∀(bs:List Bool) (k:Nat) (L:Lab),Rch x t sp k L->k+bs.length=sp.length+1->(Xd x t sp k L bs).2=0-> ∀j,k<=j->j<=sp.length-> ∃L',Rch x t sp j L'
 | [],k,L,h,hl,_,j,h1,h2=>by grind
 | b::bs,k,L,h,hl,hr,j,h1,h2=>by
  by_cases e:k=j
  ·grind
  ·rw [Xd] at hr
   split at hr
   ·rename_i he;exact TD bs (k+1) _ (.succ b h Za he) (by grind) hr j Za h2
   omega
def fV (x:Inst) (t:Typ) (l:List Vis) (s:Int×List Sr):Prop:=s.1=Ui t (ZP x l) l.length/\ ∀r L,Rch x t (ZP x (l++r)) l.length L-> ∀b,(⟨ZM t L b,W1 L b⟩:Sr)∈s.2
def goS (x:Inst) (t:Typ) (s:Int×List Sr) (v:Vis):Int×List Sr:=((Xp x v).place,Eo x t s.1 s.2 (Xp x v))
def st0 (t:Typ):Int×List Sr:=(t.src,VW t [] t.opn 0)
theorem jT {x:Inst} {t:Typ} (h:0<=t.opn):fV x t [] (st0 t):=by
 refine ⟨rfl,fun r L hL b=> ?_⟩
 have:L=labF t 0:=by
  generalize hk:([]:List Vis).length=k at hL
  cases hL with
  | zero=>rfl
  | succ=>simp at hk
 subst this
 have hm:max t.opn 0=t.opn:=Za
 cases b
 ·exact Vt.2 (.inr (.inl (by simp [ZM,W1,labF,hm])))
 ·exact Vt.2 (.inr (.inr (by simp [ZM,W1,labF,hm])))
theorem IN {x:Inst} {l r:List Vis} {v:Vis} :nth (ZP x (l++(v::r))) l.length=Xp x v:=by
 grind [Zh,ZP]
theorem oG {x:Inst} {t:Typ} {l r:List Vis} :Ui t (ZP x (l++r)) l.length=Ui t (ZP x l) l.length:=by
 grind [Ui,ZP,Zh]
theorem jS {x:Inst} {t:Typ} {l:List Vis} {s:Int×List Sr} {v:Vis} (h:fV x t l s):fV x t (l++ [v]) (goS x t s v):=by
 obtain ⟨h1,h2⟩:=h;refine ⟨?_,fun r L' hL b=> ?_⟩
 ·have e:=IN (x:=x) (l:=l) (r:= []) (v:=v);rw [Ui,if_neg Zb,show (l++ [v]).length-1=l.length by simp,e];rfl
 ·rw [QQ,ZO,ZD] at hL;generalize hsp:ZP x (l++(v::r))=sp at hL
  have hlen:l.length<sp.length:=by grind [ZP]
  have hat:nth sp l.length=Xp x v:=by grind [IN]
  have hpl:Ui t sp l.length=s.1:=by grind [oG]
  generalize hk:(l++ [v]).length=k at hL
  cases hL with
  | zero=>simp at hk
  | succ b' hp hk' he =>
   rename_i k L
   have hkl:k=l.length:=by grind
   subst hkl;have hmem:=h2 (v::r) L (by grind) b'
   generalize hd:ZM t L b'=d at *
   generalize hs:W1 L b'=w at *
   have hg:Y7 x t sp l.length d=W5 x.net t.prof s.1 (Xp x v).place d:=by
    rw [Y7,hpl,Pi,if_neg Za,hat]
   unfold nxtF at he ⊢;rw [hd,hs,hg] at he ⊢
   generalize hgn:W5 x.net t.prof s.1 (Xp x v).place d=g at *
   unfold WI at he ⊢
   split at he
   ·simp at he
   ·rename_i c1;rw [if_neg c1];rw [if_neg Za] at he ⊢;rw [hat] at he ⊢
    split at he
    ·simp at he
    ·rename_i c2;rw [if_neg c2]
     split at he
     ·simp at he
     ·rename_i c3;rw [if_neg c3];refine (NJ s.2 [] _).2 ⟨d,w⟩ hmem fun o=> ?_;have c4: ¬(¬g.2.2=0\/t.drive<w+g.1-d):=fun hh=>hh.elim (fun e=>c1 e) (fun e=>c3 e);simp only [JT,hgn];rw [if_neg c4,if_neg c2]
      cases b
      ·exact Vt.2 (.inr (.inl rfl))
      ·exact Vt.2 (.inr (.inr rfl))
theorem bF {x:Inst} {k:Int} {l:List Vis} {s:Int×List Sr} (h:fV x (nth x.types k.toNat) l s) (he:s.2= []) (r:List Vis) (c d:Bool): ¬(Ye x ⟨k,0,c,[],d,l++r⟩).2=0:=fun hp=>by
 have h1:Z6 x ⟨k,0,c,[],d,l++r⟩=0:=by
  grind [Ye]
 have h2:(XB x ⟨k,0,c,[],d,l++r⟩).2=0:=by
  grind [Z6]
 obtain ⟨bs,hl,hrun,_⟩:=HS Zb h2;obtain ⟨L,hL⟩:=TD bs 0 _ .zero Za hrun l.length Za (by simp [ZP]);have:=h.2 r L hL false
 grind
def Jr (k:Int) (l:List Vis):Rte:=⟨k,0,true,[],false,l⟩
def GB (x:Inst) (k:Int) (l:List Vis):Bool:=decide ((Ye x (Jr k l)).2=0)
def DA (x:Inst) (k:Int) (S:Nat) (l:List Vis):Bool:=decide ((Jp l).1=(S:Int))&&(decide (Z6 x (Jr k l)=0)&&GB x k l)
def YX (x:Inst) (k:Int) (S:Nat) (l:List Vis):Col:=⟨k,S,(Ye x (Jr k l)).1,Jr k l⟩
def Wv (a b:Col):Bool:=if a.price≠b.price then decide (a.price<b.price) else decide (BO a.route.visits b.route.visits<0)
def C3 (x:Inst) (S:Nat) (l:List Vis):List Vis:=nextU x S l x.orders.length
def W2 (x:Inst) (S:Nat):Nat:=Ap x S x.orders.length
def S7 (x:Inst) (k:Int) (S f:Nat) (l:List Vis) (s:Int×List Sr):List (List Vis):=lvW (C3 x S) (goS x (nth x.types k.toNat)) (fun s=>s.2.isEmpty) f l s
theorem vA {x:Inst} {S:Nat} {l:List Vis} (h:Gr x S l) (hl:l.length=W2 x S):C3 x S l= []:=by
 cases e:C3 x S l with
 | nil=>rfl
 | cons v r =>
  exfalso
  have hv:v∈nextU x S l x.orders.length:=by
   grind [C3]
  obtain ⟨i,hi,h1,h2,h3,h4⟩:=VT.1 hv;exact ((Vs h3).1 h4).1 (h.full hl v (WN.2 ⟨i,hi,h1,h3⟩))
def EJ (x:Inst) (k:Int) (S:Nat) (z:Col×Bool):Col×Bool:=(S7 x k S (W2 x S) [] (st0 (nth x.types k.toNat))).foldl (XI (GB x k) (YX x k S) Wv) z
def Cq (x:Inst) (k:Int) (S:Nat) (z:Col×Bool):Col×Bool:=(Bs (C3 x S) (W2 x S) []).foldl (XI (DA x k S) (YX x k S) Wv) z
theorem IZ {ok ok':List Vis->Bool} {col:List Vis->Col} {better:Col->Col->Bool} : ∀ {L:List (List Vis)} {b:Col×Bool},(∀l∈L,ok l=ok' l)->L.foldl (XI ok col better) b=L.foldl (XI ok' col better) b
 | [],_,_=>rfl
 | l::L,b,h=>by
  rw [XO,XO,XI,XI,h l Zb];exact IZ fun m hm=>h m (XL _ hm)
theorem IY {ok:List Vis->Bool} {col:List Vis->Col} {better:Col->Col->Bool} : ∀ {L:List (List Vis)} {b:Col×Bool},(∀l∈L,ok l=false)->L.foldl (XI ok col better) b=b
 | [],_,_=>rfl
 | l::L,b,h=>by
  rw [XO,XI,if_neg (by rw [h l Zb];simp)];exact IY fun m hm=>h m (XL _ hm)
theorem mO {x:Inst} {S:Nat} (hN: ∀l,Gr x S l->l.length<W2 x S->C3 x S l≠ []): ∀(f:Nat) (l m:List Vis),Gr x S l->l.length+f=W2 x S->m∈Bs (C3 x S) f l->Gr x S m/\m.length=W2 x S
 | 0,l,m,h,ht,hm=>by
  simp_all [Bs]
 | f+1,l,m,h,ht,hm=>by
  rw [Bs,if_neg (hN l h Za)] at hm;obtain ⟨v,hv,hm⟩:=XS.1 hm;exact mO hN f _ m (.snoc h hv) (by simp;omega) hm
theorem YM {x:Inst} {r:Rte} (h:Z6 x r=0):RightV x r.visits:=by
 rw [<- dW]
 have h1:X2 x r=0:=by
  grind [Z6]
 unfold X2 at h1;omega
theorem Ux {x:Inst} {k:Int} {l:List Vis} (h:GB x k l=true):Z6 x (Jr k l)=0:=by
 have h:=AQ h
 grind [Ye]
theorem cP {x:Inst} (hx:InstOk x) {S:Nat} (ha:Alw x S) (l:List Vis) (h:Gr x S l) (hl:l.length<W2 x S):C3 x S l≠ []:=fun e=>by
 have hf:=Xz hx
 have hn:x.orders.length<=60:=by have:=hf.len;omega
 have:=(h.next_nil ha hn hf.val).1 e
 grind [W2]
theorem PN {x:Inst} (hx:InstOk x) {k:Int} {S:Nat} (h0:S≠0) (hS:S / pw x.orders.length=0) (ha:Alw x S) (ht:0<=(nth x.types k.toNat).opn) (z:Col×Bool):EJ x k S z=Cq x k S z:=by
 have hN:=cP hx ha
 have h1:Cq x k S z=(Bs (C3 x S) (W2 x S) []).foldl (XI (GB x k) (YX x k S) Wv) z:=IZ fun l hl=>by
  obtain ⟨hg,hlen⟩:=mO hN _ _ _ .nil Zb hl;obtain ⟨hr,ho⟩:=hg.right (Xz hx) ha h0 hS hlen;unfold DA
  cases hv:GB x k l with
  | false=>simp
  | true =>
   rw [Ux hv,hr.ord (Xz hx),ho];simp
 rw [h1,EJ,S7,Q6,Q6 (Bs _ _ _)]
 rw [<- zJ (nx:=C3 x S) (go:=goS x (nth x.types k.toNat)) (emp:=fun s=>s.2.isEmpty) (ok:=GB x k) (G:=Gr x S) (R:=fV x (nth x.types k.toNat)) (tot:=W2 x S) (fun l v hl hv=> .snoc hl hv) (fun l s v _ hs _=>jS hs)
  (fun l s _ hs he r=>Qt (bF hs (List.isEmpty_iff.1 he) r true false)) hN (W2 x S) [] (st0 (nth x.types k.toNat)) .nil (jT ht) Zb]
theorem sQ {x:Inst} (hx:InstOk x) {k:Int} {S:Nat} (ha: ¬Alw x S) (z:Col×Bool):Cq x k S z=z:=IY fun l _=>by
 cases ho:DA x k S l with
 | false=>rfl
 | true =>
  exfalso;simp only [DA,ZE,Zs] at ho;have hr:=YM ho.2.1;have hv:(Jr k l).visits=l:=rfl;rw [hv] at hr;have he:=hr.ord (Xz hx);rw [he] at ho
  have hS:Xo l=S:=Za
  exact ha (hS ▸ hr.alw (Xz hx))
def Jf (rs:List Rte) (i:Nat):Int:=(rs.countP fun r=>hasO r.visits (i:Int):Nat)
def W6 (us:List Int) (i:Nat):Int:=(us.countP fun u=>decide (u=(i:Int)):Nat)
def EL (rs:List Rte) (i:Nat):Int:=(rs.countP fun r=>decide (r.typ=(i:Int)):Nat)
theorem bB {rs:List Rte} {k:Nat} (h:k<rs.length) (i:Nat):Jf (rs.take (k+1)) i=if hasO (nth rs k).visits (i:Int)=true then Jf (rs.take k) i+1 else Jf (rs.take k) i:=by
 grind [Jf,XZ,Zh]
theorem bD {us:List Int} {k:Nat} (h:k<us.length) (i:Nat):W6 (us.take (k+1)) i=if nth us k=(i:Int) then W6 (us.take k) i+1 else W6 (us.take k) i:=by
 grind [W6,XZ,Zh]
theorem bC {rs:List Rte} {k:Nat} (h:k<rs.length) (i:Nat):EL (rs.take (k+1)) i=if (nth rs k).typ=(i:Int) then EL (rs.take k) i+1 else EL (rs.take k) i:=by
 grind [EL,XZ,Zh]
theorem No {rs:List Rte} {k:Nat} (i:Nat):0<=Jf (rs.take k) i/\Jf (rs.take k) i<=rs.length:=by
 grind [Xi,Jf]
theorem Np {us:List Int} {k:Nat} (i:Nat):0<=W6 (us.take k) i/\W6 (us.take k) i<=us.length:=by
 grind [Xi,W6]
theorem jP {rs:List Rte} {k:Nat} (i:Nat):0<=EL (rs.take k) i/\EL (rs.take k) i<=rs.length:=by
 grind [Xi,EL]
def HL (x:Inst) (us:List Int):Bool:=us.all fun u=>decide (0<=u)&&decide (u<(x.orders.length:Int))
def BI (x:Inst):List Rte->Int
 | []=>0
 | r::l=>if Z6 x r=0 then BI x l else Z6 x r
theorem SF {x:Inst} : ∀ {l:List Rte} {k:Nat},k<l.length->(∀j,j<k->Z6 x (nth l j)=0)-> ¬Z6 x (nth l k)=0->BI x l=Z6 x (nth l k)
 | r::l,0,_,_,h=>by rw [BI,if_neg (show ¬Z6 x r=0 from h)];rfl
 | r::l,k+1,hk,h0,h=>by
  rw [BI,if_pos (show Z6 x r=0 from h0 0 Za)];exact SF (l:=l) (k:=k) (by grind) (fun j hj=>h0 (j+1) Za) h
theorem SG {x:Inst} : ∀ {l:List Rte},(∀j,j<l.length->Z6 x (nth l j)=0)->BI x l=0
 | [],_=>rfl
 | r::l,h=>by
  rw [BI,if_pos (show Z6 x r=0 from h 0 Zb)];exact SG fun j hj=>h (j+1) (by grind)
def Of (p:Pln) (i:Nat):Int:=Jf p.routes i+W6 p.unserved i
def Ha (x:Inst) (p:Pln):Bool:=(List.range x.orders.length).any fun i=>decide (1<Of p i)
def F1 (x:Inst) (p:Pln):Bool:=(List.range x.types.length).any fun t=>decide ((nth x.types t).count<EL p.routes t)
def Ei (x:Inst) (p:Pln):Bool:=(List.range x.orders.length).any fun i=>(nth x.orders i).off&&decide (0<W6 p.unserved i)
def Iv (x:Inst) (p:Pln):Bool:=(List.range x.orders.length).any fun i=> !(nth x.orders i).off&&(decide (Of p i=0)||(decide (0<W6 p.unserved i)&&decide ((nth x.orders i).penalty= -1)))
def Vm (x:Inst) (p:Pln):Int :=
 if ¬BI x p.routes=0 then BI x p.routes
 else if HL x p.unserved=false then 2
 else if Ha x p=true then 6
 else if F1 x p=true then 22
 else if Ei x p=true then 9
 else if Iv x p=true then 23
 else 0
theorem jO {rs:List Rte} (i:Nat):0<=Jf rs i/\Jf rs i<=rs.length:=by
 have:=No (rs:=rs) (k:=rs.length) i
 grind
theorem jQ {us:List Int} (i:Nat):0<=W6 us i/\W6 us i<=us.length:=by
 have:=Np (us:=us) (k:=us.length) i
 grind
theorem zL {x:Inst} (hx:InstOk x):x.orders.length<=10:=by have:=hx.orders.1;omega
theorem RW {x:Inst} (hx:InstOk x):x.types.length<=6:=by have:=hx.types.1;simp only [rng,Zs] at this;omega
theorem kA {x:Inst} {l:List Rte} :BI x l=0↔ ∀r∈l,Z6 x r=0:=by
 induction l with
 | nil=>simp [BI]
 | cons r l ih =>
  rw [BI]
  grind
def WT (x:Inst) (l:List Rte):Sco:=l.foldl (fun s r=>Yp s (XF x r)) zSco
def KN (x:Inst) (s:Sco) (l:List Int):Sco:=l.foldl (fun s i=>Yp s (unsF x i).1) s
theorem IR {x:Inst} {l:List Rte} {k:Nat} (h:k<l.length):WT x (l.take (k+1))=Yp (WT x (l.take k)) (XF x (nth l k)):=by
 grind [WT,XZ,Zh]
theorem IS {x:Inst} {s:Sco} {l:List Int} {k:Nat} (h:k<l.length):KN x s (l.take (k+1))=Yp (KN x s (l.take k)) (unsF x (nth l k)).1:=by
 grind [KN,XZ,Zh]
theorem G8 {x:Inst} {l:List Rte} (hx:InstOk x) (hb: ∀r∈l,Mu r) (h: ∀r∈l,Z6 x r=0): ∀k:Nat,k<=l.length->scoR (1073741824*k) (WT x (l.take k))
 | 0,_=>by simp [WT,scoR,zSco]
 | k+1,hk=>by
  rw [IR Za];have hm:=ZL (l:=l) (show k<l.length by omega);exact Yu Za (GW (G8 hx hb h k Za) (AC hx (hb _ hm).1 (h _ hm)))
theorem G9 {x:Inst} {s:Sco} {l:List Int} {B:Int} (hx:InstOk x) (hs:scoR B s): ∀k:Nat,k<=l.length->scoR (B+1073741824*k) (KN x s (l.take k))
 | 0,_=>by grind [KN]
 | k+1,hk=>by
  rw [IS Za];exact Yu Za (GW (G9 hx hs k Za) (Dw hx _))
def JO (x:Inst) (p:Pln):Sco:=if Vm x p=0 then KN x (WT x p.routes) p.unserved else zSco
theorem Qd {x:Inst} {p:Pln} (h:Vm x p=0):(∀r∈p.routes,Z6 x r=0)/\ ∀i∈p.unserved,(unsF x i).2=0:=by
 unfold Vm at h
 split at h
 ·omega
 ·rename_i c0;have her:BI x p.routes=0:=Z3.1 c0
  split at h
  ·simp at h
  ·rename_i c1
   split at h
   ·simp at h
   ·split at h
    ·simp at h
    ·split at h
     ·simp at h
     ·rename_i c4
      split at h
      ·simp at h
      ·rename_i c5;refine ⟨kA.1 her,fun u hu=> ?_⟩
       have hub:HL x p.unserved=true:=by grind
       rw [HL,Zx] at hub;have h1:=hub u hu;simp only [ZE,Zs] at h1
       have hui:u.toNat<x.orders.length:=Za
       have hcu:0<W6 p.unserved u.toNat:=by
        unfold W6;have:0<p.unserved.countP fun v=>decide (v=(u.toNat:Int)):=Jl.2 ⟨u,hu,by grind⟩;omega
       have h4:Ei x p=false:=by grind
       have h5:Iv x p=false:=by grind
       have h4:=YQ.1 h4 _ (Zz.2 hui);have h5:=YQ.1 h5 _ (Zz.2 hui)
       simp_all [unsF,if_neg]
theorem pH {x:Inst} {p:Pln} (hx:InstOk x) (hr:p.routes.length<=1048576) (hu:p.unserved.length<=1048576) (hb: ∀r∈p.routes,Mu r):scoR 1152921504606846976 (JO x p):=by
 unfold JO
 split
 ·rename_i h;obtain ⟨z1,z2⟩:=Qd h;have r1:=G8 (l:=p.routes) hx hb z1 _ (Zw _);have r2:=G9 (l:=p.unserved) hx r1 _ (Zw _);rw [X5,X5] at r2;exact Yu Za r2
 ·simp [scoR,zSco]
def D3 (x:Inst) (p:Pln):Int×Int:=if Vm x p=0 then Xm (JO x p) else (0,Vm x p)
theorem jB {x:Inst} {p:Pln} (h:Vm x p=0):BI x p.routes=0/\HL x p.unserved=true/\Ha x p=false/\F1 x p=false/\Ei x p=false/\Iv x p=false:=by
 unfold Vm at h
 by_cases c0:BI x p.routes=0
 ·grind
 omega
theorem DI {x:Inst} {p:Pln} (h:Vm x p=0) :
  (∀u∈p.unserved,0<=u/\u<(x.orders.length:Int)) /\
  (∀i:Nat,i<x.orders.length->p.routes.countP (fun r=>hasO r.visits (i:Int))+p.unserved.countP (fun u=>decide (u=(i:Int)))<=1) /\
  (∀i:Nat,i<x.orders.length->(i:Int)∈p.unserved->(nth x.orders i).off=false/\(nth x.orders i).penalty≠ -1) /\
  (∀i:Nat,i<x.orders.length->(nth x.orders i).off=false->1<=p.routes.countP (fun r=>hasO r.visits (i:Int))+p.unserved.countP (fun u=>decide (u=(i:Int)))) /\
  (∀t:Nat,t<x.types.length->((p.routes.countP fun r=>decide (r.typ=(t:Int)):Nat):Int)<=(nth x.types t).count):=by
 obtain ⟨_,h1,h2,h3,h4,h5⟩:=jB h
 have hcu: ∀i:Nat,(i:Int)∈p.unserved->0<W6 p.unserved i:=fun i hi=>by
  grind [W6,Jl]
 have g2:=YQ.1 h2;have g3:=YQ.1 h3;have g4:=YQ.1 h4;have g5:=YQ.1 h5;refine ⟨fun u hu=> ?_,fun i hi=> ?_,fun i hi hu=> ?_,fun i hi ho=> ?_,fun t ht=> ?_⟩
 ·grind [HL]
 ·exact Nat.le_of_not_lt fun hlt=>g2 i (Zz.2 hi) (Vr (by grind [Of,Jf,W6]))
 ·grind
 ·grind [Of,Jf,W6]
 grind [EL]
theorem nG (p:Pln) (i:Nat) (hr:p.routes.length<=1048576) (hu:p.unserved.length<=1048576) (hv: ∀r∈p.routes,r.visits.length<=1048576) :
  PT 87 [.p (Ut p),.p (.int .i64 (i:Nat))] [.p (.int .i64 (Jf p.routes i)),.p (.int .i64 (W6 p.unserved i))]:=by
 refine Zf [] Tryz.func87 rfl Zkf ?_;simp (disch:=omega) only [Tryz.f87,go_sem,seval];refine Zk [1,2,7] (fun k:Nat=> [(6,.p (.int .i64 (Jf (p.routes.take k) i))),(8,.p (.int .i64 k))]) (fun _=> [YU p]) (fun k=>k<=p.routes.length) (fun k=>p.routes.length-k) 0 Zb (Weak.mk ?_) ?_
 ·simp (disch:=omega) only [YU,Jf,Vq,List.countP_nil,go_sem,seval]
 ·intro k hk;simp (disch:=omega) only [YU,go_sem,seval];refine cD ?_ ?_<;>intro h1<;>simp (disch:=omega) only [Sh.out h1,go_sem,seval,↓reduceIte]
  ·have hk2:k<p.routes.length:=Za
   have hvl:=hv _ (ZL hk2);have hsu:=bB hk2 i;have hg:=No (rs:=p.routes) (k:=k) i;refine Zk [1,2,7,8] (fun j:Nat=> [(6,.p (.int .i64 (Jf (p.routes.take k) i))),(9,.p (.int .i64 j))]) (fun _=> [YU p]) (fun j=>j<=(nth p.routes k).visits.length/\ ∀q,q<j->(nth (nth p.routes k).visits q).order≠(i:Int)) (fun j=>(nth p.routes k).visits.length-j) 0 Zb (Weak.mk ?_) ?_
   ·simp (disch:=omega) only [YU,go_sem,seval]
   ·rintro j ⟨hj,hno⟩;simp (disch:=omega) only [YU,go_sem,seval];refine ZK ?_ ?_<;>intro h2
    ·have hj2:j<(nth p.routes k).visits.length:=Za
     refine ZK ?_ ?_<;>intro h3
     ·have hh:hasO (nth p.routes k).visits (i:Int)=true:=Yd.2 ⟨_,ZL hj2,h3⟩;rw [if_pos hh] at hsu;exact ⟨k+1,Za,Za,Weak.mk (by simp (disch:=omega) only [hsu,go_sem,seval])⟩
     ·exact ⟨j+1,⟨Za,Zp.2 ⟨hno,h3⟩⟩,Za,wk⟩
    ·have hh: ¬hasO (nth p.routes k).visits (i:Int)=true:=fun e=>by
      obtain ⟨v,hv,e⟩:=Yd.1 e;obtain ⟨q,hq,rfl⟩:=ZN.1 hv
      grind [Zh]
     rw [if_neg hh] at hsu;exact ⟨k+1,Za,Za,Weak.mk (by simp (disch:=omega) only [hsu,go_sem,seval])⟩
  ·have hkl:k=p.routes.length:=Za
   subst hkl;rw [X5];refine Zk [1,2,6] (fun k:Nat=> [(7,.p (.int .i64 (W6 (p.unserved.take k) i))),(10,.p (.int .i64 k))]) (fun _=> [YU p]) (fun k=>k<=p.unserved.length) (fun k=>p.unserved.length-k) 0 Zb (Weak.mk ?_) ?_
   ·simp (disch:=omega) only [YU,W6,Vq,List.countP_nil,go_sem,seval]
   ·intro k hk;simp (disch:=omega) only [YU,go_sem,seval];refine cD ?_ ?_<;>intro h2<;>simp (disch:=omega) only [Sh.out h2,go_sem,seval,↓reduceIte]
    ·have hk2:k<p.unserved.length:=Za
     have hsu:=bD hk2 i;have hg:=Np (us:=p.unserved) (k:=k) i;refine ZK ?_ ?_<;>intro h3
     ·rw [if_pos h3] at hsu;exact ⟨k+1,Za,Za,Weak.mk (by simp (disch:=omega) only [hsu,go_sem,seval])⟩
     ·rw [if_neg h3] at hsu;exact ⟨k+1,Za,Za,Weak.mk (by simp (disch:=omega) only [hsu,go_sem,seval])⟩
    ·have hkl:k=p.unserved.length:=Za
     subst hkl;rw [X5];exact we
theorem Li {n:Nat} {f:Nat->Bool} {k:Nat} (hk:k<n) (h:f k=true):(List.range n).any f=true:=Wx.2 ⟨k,Zz.2 hk,h⟩
theorem Sd {n:Nat} {f:Nat->Bool} (h: ∀j,j<n->f j=false):(List.range n).any f=false:=by
 grind
def mQ (x:Inst) (p:Pln) (i:Nat):Bool:= !(nth x.orders i).off&&(decide (Of p i=0)||(decide (0<W6 p.unserved i)&&decide ((nth x.orders i).penalty= -1)))
theorem B5 {P Q:Prop} (h:Q) (e:Q->P:=by intro h;simp (disch:=omega) only [Zi,YU,go_sem,seval];exact h):P:=e h
theorem sV (x:Inst) (p:Pln) (hx:InstOk x) (hr:p.routes.length<=1048576) (hu:p.unserved.length<=1048576) (hb: ∀r∈p.routes,Mu r) :
  PC 53 [.p (Zv x),.p (Ut p)] (.int .i64 (Vm x p)):=by
 have hn:=zL hx;have ht:=RW hx;have hvl: ∀r∈p.routes,r.visits.length<=1048576:=fun r hr=>(hb r hr).1
 have cR: ∀i,0<=Jf p.routes i/\Jf p.routes i<=1048576:=fun i=>by have:=jO (rs:=p.routes) i;omega
 have cU: ∀i,0<=W6 p.unserved i/\W6 p.unserved i<=1048576:=fun i=>by have:=jQ (us:=p.unserved) i;omega
 refine Zf [] Tryz.func53 rfl ZjN ?_;simp (disch:=omega) only [Tryz.f53,go_sem,seval];refine Zk [2,3] (fun k:Nat=> [(5,.p (.int .i64 k))]) (fun _=> [Zi x,YU p]) (fun k=>k<=p.routes.length/\ ∀j,j<k->Z6 x (nth p.routes j)=0) (fun k=>p.routes.length-k) 0 Zb (Weak.mk ?_) ?_
 ·simp (disch:=omega) only [Zi,YU,go_sem,seval]
 ·rintro k ⟨hk,h0⟩;refine B5 ?_;refine cD ?_ ?_<;>intro h1<;>simp (disch:=omega) only [Sh.out h1,go_sem,seval,↓reduceIte]
  ·have hk2:k<p.routes.length:=Za
   obtain ⟨b1,b2⟩:=hb _ (ZL hk2);refine ZB 7 mixed Zd Zd (Zc ?_);refine Zo (I1 x (nth p.routes k) hx b1 b2) (Zc ?_);refine ZK ?_ ?_<;>intro h2
   ·have he:Vm x p=Z6 x (nth p.routes k):=by
     have e:=SF hk2 h0 h2
     simp_all [Vm]
    rw [he];exact we
   ·exact ⟨k+1,⟨Za,Zp.2 ⟨h0,Za⟩⟩,Za,wk⟩
  ·have hkl:k=p.routes.length:=Za
   subst hkl;have her:=SG h0;have c0: ¬ ¬BI x p.routes=0:=fun e=>e her;refine Zk [2,3] (fun k:Nat=> [(7,.p (.int .i64 k))]) (fun _=> [Zi x,YU p]) (fun k=>k<=p.unserved.length/\ ∀j,j<k->0<=nth p.unserved j/\nth p.unserved j<(x.orders.length:Int)) (fun k=>p.unserved.length-k) 0 Zb (Weak.mk ?_) ?_
   ·simp (disch:=omega) only [Zi,YU,go_sem,seval]
   ·rintro k ⟨hk,hno⟩;refine B5 ?_
    have hbad:k<p.unserved.length->(decide (0<=nth p.unserved k)&&decide (nth p.unserved k<(x.orders.length:Int)))=false->Vm x p=2:=fun h1 h2=>by
     have:HL x p.unserved=false:=by
      grind [HL,ZL]
     simp_all [Vm]
    refine cD ?_ ?_<;>intro h2<;>simp (disch:=omega) only [Sh.out h2,go_sem,seval,↓reduceIte]
    ·have hk2:k<p.unserved.length:=Za
     refine Xq (Zc ?_);refine gF ?_ ?_<;>intro h3<;>simp (disch:=omega) only [Sh.out h3,go_sem,seval,↓reduceIte]
     ·rw [hbad hk2 (by simp;omega)];exact we
     ·refine ZK ?_ ?_<;>intro h4
      ·rw [hbad hk2 (by simp;omega)];exact we
      ·exact ⟨k+1,⟨Za,Zp.2 ⟨hno,Za⟩⟩,Za,wk⟩
    ·have hkl:k=p.unserved.length:=Za
     subst hkl
     have hall:HL x p.unserved=true:=by
      rw [HL,Zx];intro u hu;obtain ⟨j,hj,rfl⟩:=ZN.1 hu
      grind [Zh]
     have c1: ¬HL x p.unserved=false:=by grind
     refine Zk [2,3] (fun k:Nat=> [(8,.p (.int .i64 k))]) (fun _=> [Zi x,YU p]) (fun k=>k<=x.orders.length/\ ∀j,j<k->decide (1<Of p j)=false) (fun k=>x.orders.length-k) 0 Zb (Weak.mk ?_) ?_
     ·simp (disch:=omega) only [Zi,YU,go_sem,seval]
     ·rintro k ⟨hk,hno2⟩;refine B5 ?_;refine cD ?_ ?_<;>intro h3<;>simp (disch:=omega) only [Sh.out h3,go_sem,seval,↓reduceIte]
      ·have hk2:k<x.orders.length:=Za
       have a1:=cR k;have a2:=cU k;refine Vi (nG p k hr hu hvl) (Zc ?_);refine ZK ?_ ?_<;>intro h4
       ·have hv:Vm x p=6:=by rw [Vm,if_neg c0,if_neg c1,if_pos (show Ha x p=true from Li hk2 (Vr h4))]
        rw [hv];exact we
       ·exact ⟨k+1,⟨Za,Zp.2 ⟨hno2,Qt h4⟩⟩,Za,wk⟩
      ·have c2: ¬Ha x p=true:=by grind [Ha]
       have hkl:k=x.orders.length:=Za
       subst hkl;refine Zk [2,3] (fun k:Nat=> [(11,.p (.int .i64 k))]) (fun _=> [Zi x,YU p]) (fun k=>k<=x.types.length/\ ∀j,j<k->decide ((nth x.types j).count<EL p.routes j)=false) (fun k=>x.types.length-k) 0 Zb (Weak.mk ?_) ?_
       ·simp (disch:=omega) only [Zi,YU,go_sem,seval]
       ·rintro t ⟨hk,hno3⟩;refine B5 ?_;refine cD ?_ ?_<;>intro h4<;>simp (disch:=omega) only [Sh.out h4,go_sem,seval,↓reduceIte]
        ·have hk2:t<x.types.length:=Za
         refine Zk [2,3,11] (fun k:Nat=> [(12,.p (.int .i64 (EL (p.routes.take k) t))),(13,.p (.int .i64 k))]) (fun _=> [Zi x,YU p]) (fun k=>k<=p.routes.length) (fun k=>p.routes.length-k) 0 Zb (Weak.mk ?_) ?_
         ·simp (disch:=omega) only [Zi,YU,EL,Vq,List.countP_nil,go_sem,seval]
         ·intro k hk;have hg:=jP (rs:=p.routes) (k:=k) t;refine B5 ?_;refine cD ?_ ?_<;>intro h5<;>simp (disch:=omega) only [Sh.out h5,go_sem,seval,↓reduceIte]
          ·have hk3:k<p.routes.length:=Za
           have hsu:=bC hk3 t;refine ZK ?_ ?_<;>intro h6
           ·rw [if_pos h6] at hsu;exact ⟨k+1,Za,Za,Weak.mk (by simp (disch:=omega) only [hsu,go_sem,seval])⟩
           ·rw [if_neg h6] at hsu;exact ⟨k+1,Za,Za,Weak.mk (by simp (disch:=omega) only [hsu,go_sem,seval])⟩
          ·have hkl:k=p.routes.length:=Za
           subst hkl
           rw [X5] at *
           refine ZK ?_ ?_<;>intro h6
           ·have hv:Vm x p=22:=by rw [Vm,if_neg c0,if_neg c1,if_neg c2,if_pos (show F1 x p=true from Li hk2 (Vr h6))]
            rw [hv];exact we
           ·exact ⟨t+1,⟨Za,Zp.2 ⟨hno3,Qt h6⟩⟩,Za,wk⟩
        ·have c3: ¬F1 x p=true:=by grind [F1]
         have hlast:=hno;refine Zk [2,3] (fun k:Nat=> [(14,.p (.int .i64 k))]) (fun _=> [Zi x,YU p]) (fun k=>k<=p.unserved.length/\ ∀j,j<k->(nth x.orders (nth p.unserved j).toNat).off=false) (fun k=>p.unserved.length-k) 0 Zb (Weak.mk ?_) ?_
         ·simp (disch:=omega) only [Zi,YU,go_sem,seval]
         ·rintro k ⟨hk,hno4⟩;refine B5 ?_;refine cD ?_ ?_<;>intro h5<;>simp (disch:=omega) only [Sh.out h5,go_sem,seval,↓reduceIte]
          ·have hk2:k<p.unserved.length:=Za
           have hrg:=hno k hk2
           have hui:(nth p.unserved k).toNat<x.orders.length:=Za
           refine Xq (Zc ?_);refine ZK ?_ ?_<;>intro h6
           ·have hcu:0<W6 p.unserved (nth p.unserved k).toNat:=by
             unfold W6;have:0<p.unserved.countP fun v=>decide (v=((nth p.unserved k).toNat:Int)):=Jl.2 ⟨_,ZL hk2,by grind⟩;omega
            have hst:Ei x p=true:=Li hui (by grind)
            have hv:Vm x p=9:=by simp_all [Vm]
            rw [hv];exact we
           ·exact ⟨k+1,⟨Za,Zp.2 ⟨hno4,Za⟩⟩,Za,wk⟩
          ·have hkl:k=p.unserved.length:=Za
           subst hkl
           have hoff: ∀i,i<x.orders.length->0<W6 p.unserved i->(nth x.orders i).off=false:=fun i hi hc=>by
            unfold W6 at hc
            have hc2:0<p.unserved.countP fun v=>decide (v=(i:Int)):=Za
            obtain ⟨u,hu,e⟩:=Jl.1 hc2;obtain ⟨j,hj,rfl⟩:=ZN.1 hu;have h:=hno4 j hj
            simp_all [Zh]
           have c4: ¬Ei x p=true:=by
            rw [Ei,Sd fun j hj=> ?_]
            ·simp
            grind
           refine Zk [2,3] (fun k:Nat=> [(15,.p (.int .i64 k))]) (fun _=> [Zi x,YU p]) (fun k=>k<=x.orders.length/\ ∀j,j<k->mQ x p j=false) (fun k=>x.orders.length-k) 0 Zb (Weak.mk ?_) ?_
           ·simp (disch:=omega) only [Zi,YU,go_sem,seval]
           ·rintro k ⟨hk,hno5⟩;refine B5 ?_;refine cD ?_ ?_<;>intro h6<;>simp (disch:=omega) only [Sh.out h6,go_sem,seval,↓reduceIte]
            ·have hk2:k<x.orders.length:=Za
             have a1:=cR k;have a2:=cU k;have ho:=hoff k hk2
             have miss:(!(nth x.orders k).off&&(decide (Of p k=0)||(decide (0<W6 p.unserved k)&&decide ((nth x.orders k).penalty= -1))))=true->Vm x p=23:=fun h=>by
              rw [Vm,if_neg c0,if_neg c1,if_neg c2,if_neg c3,if_neg c4,if_pos (show Iv x p=true from Li hk2 h)]
             have nxt:(!(nth x.orders k).off&&(decide (Jf p.routes k+W6 p.unserved k=0)||(decide (0<W6 p.unserved k)&&decide ((nth x.orders k).penalty= -1))))=false-> ∀j,j<k+1->mQ x p j=false:=fun h=>Zp.2 ⟨hno5,h⟩;have hoc:Of p k=Jf p.routes k+W6 p.unserved k:=rfl;rw [hoc] at miss;refine Vi (nG p k hr hu hvl) ?_
             generalize Jf p.routes k=ca at *
             generalize W6 p.unserved k=cb at *
             refine Zc ?_
             cases hof:(nth x.orders k).off with
             | false =>
              refine gT ?_ ?_<;>intro h7<;>simp (disch:=omega) only [Sh.out h7,hof,W9,go_sem,seval,↓reduceIte]
              ·rw [miss (by grind)];exact we
              ·refine gT ?_ ?_<;>intro h8<;>simp (disch:=omega) only [Sh.out h8,hof,go_sem,seval]
               ·refine ZK ?_ ?_<;>intro h9
                ·rw [miss (by grind)];exact we
                ·exact ⟨k+1,⟨Za,nxt (by grind)⟩,Za,wk⟩
               ·exact ⟨k+1,⟨Za,nxt (by grind)⟩,Za,wk⟩
             | true =>
              have hcb: ¬ 0<cb:=fun e=>by grind
              have hn: ∀j,j<k+1->mQ x p j=false:=nxt (by simp [hof]);refine gT ?_ ?_<;>intro h7<;>simp (disch:=omega) only [Sh.out h7,hof,YB,go_sem,seval,↓reduceIte]
              ·refine Ql ?_ ?_<;>intro h8
               ·omega
               ·exact ⟨k+1,⟨Za,hn⟩,Za,wk⟩
              ·refine Ql ?_ ?_<;>intro h8
               ·omega
               ·exact ⟨k+1,⟨Za,hn⟩,Za,wk⟩
            ·have c5: ¬Iv x p=true:=by rw [show Iv x p=false from Sd fun j hj=>hno5 j Za];simp
             have hv:Vm x p=0:=by simp_all [Vm]
             rw [hv];exact we
theorem eG (x:Inst) (p:Pln) (hx:InstOk x) (hr:p.routes.length<=1048576) (hu:p.unserved.length<=1048576) (hb: ∀r∈p.routes,Mu r) :
  PT 32 [.p (Zv x),.p (Ut p)] [.p (Bl (JO x p)),.p (.int .i64 (Vm x p))]:=by
 have hn:=zL hx;refine Zf [8] Tryz.func32 rfl Zjw ?_;simp (disch:=omega) only [Tryz.f32,go_sem,seval];refine (sV x p hx hr hu hb).use (Zc ?_);refine cD ?_ ?_<;>intro h0<;>simp (disch:=omega) only [Sh.out h0,go_sem,seval,↓reduceIte]
 ·have e:JO x p=zSco:=by rw [JO,if_neg h0]
  rw [e];exact we (by simp (disch:=omega) only [zSco,go_sem,seval])
 ·have h0':Vm x p=0:=Za
  obtain ⟨z1,z2⟩:=Qd h0';have r1:=G8 (l:=p.routes) hx hb z1;refine ZZ [8] [2,3,4,7] (fun k:Nat=> [(8,.p (.int .i64 k))]) (fun k=> [Zi x,YU p,Qa 0 0 0 0,Cn (WT x (p.routes.take k))]) (fun k=>k<=p.routes.length) (fun k=>p.routes.length-k) 0 Zb (Weak.mk ?_) ?_
  ·simp (disch:=omega) only [Zi,YU,Qa,Cn,WT,zSco,Vq,VR,go_sem,seval]
  ·intro k hk;simp (disch:=omega) only [Zi,YU,Qa,Cn,go_sem,seval];refine cD ?_ ?_<;>intro h1<;>simp (disch:=omega) only [Sh.out h1,go_sem,seval,↓reduceIte]
   ·have hk2:k<p.routes.length:=Za
    have hm:=ZL hk2;obtain ⟨b1,b2⟩:=hb _ hm;have ce:=J4 x (nth p.routes k) hx b1 b2;unfold Bq at ce;rw [z1 _ hm] at ce;have q1:=r1 k Za;have q2:=AC hx b1 (z1 _ hm);have hsu:=IR (x:=x) hk2;refine ZI [2,3,4,7,8] (fun _:Unit=> []) (fun _=> [Zi x,YU p,Qa 0 0 0 0,Cn (WT x (p.routes.take (k+1)))]) (fun _=>True) ?_ ?_
    ·refine Zc ?_;refine XJ [11,12,13,14] 15 mixed Zd Zd Zd Zb (Zc ?_);refine BJ ce (Zc ?_);refine Io 11 12 _ _ _ _ Zd (by refine Zc ?_;exact ⟨rfl,rfl⟩) (by refine Zc ?_;exact ⟨rfl,rfl⟩) ?_ ?_
     ·refine Z0 12 _ _ Zd (by refine Zc ?_;exact ⟨rfl,rfl⟩) (Z0 13 _ _ Zd (by refine Zc ?_;exact ⟨rfl,rfl⟩) (Z0 14 _ _ Zd (by refine Zc ?_;exact ⟨rfl,rfl⟩) (YN ?_)));refine Zc ?_;refine (Lb (WT x (p.routes.take k)) (XF x (nth p.routes k)) (Yu Za q1) (Yu Za q2)).use (Zc ?_);exact ⟨(),Weak.mk (by simp (disch:=omega) only [Zi,YU,Qa,Cn,hsu,go_sem,seval])⟩
     ·refine Z0 11 _ _ Zd (by refine Zc ?_;exact ⟨rfl,rfl⟩) (Z0 13 _ _ Zd (by refine Zc ?_;exact ⟨rfl,rfl⟩) (Z0 14 _ _ Zd (by refine Zc ?_;exact ⟨rfl,rfl⟩) (YN ?_)));refine Zc ?_;refine (Lb (WT x (p.routes.take k)) (XF x (nth p.routes k)) (Yu Za q1) (Yu Za q2)).use (Zc ?_);exact ⟨(),Weak.mk (by simp (disch:=omega) only [Zi,YU,Qa,Cn,hsu,go_sem,seval])⟩
    ·intro _ _;refine Zg [8] _ _ _ _ ?_;simp (disch:=omega) only [Zi,YU,Qa,Cn,go_sem,seval];exact ⟨k+1,Za,Za,wk⟩
   ·have hkl:k=p.routes.length:=Za
    subst hkl;have rr:=r1 _ (Zw _)
    rw [X5] at *
    have r2:=G9 (l:=p.unserved) hx rr
    have ee:JO x p=KN x (WT x p.routes) p.unserved:=by rw [JO,if_pos h0']
    rw [ee];refine ZZ [8] [2,3,4,7] (fun k:Nat=> [(12,.p (.int .i64 k))]) (fun k=> [Zi x,YU p,Qa 0 0 0 0,Cn (KN x (WT x p.routes) (p.unserved.take k))]) (fun k=>k<=p.unserved.length) (fun k=>p.unserved.length-k) 0 Zb (Weak.mk ?_) ?_
    ·simp (disch:=omega) only [Zi,YU,Qa,Cn,KN,Vq,VR,go_sem,seval]
    ·intro k hk;simp (disch:=omega) only [Zi,YU,Qa,Cn,go_sem,seval];refine cD ?_ ?_<;>intro h2<;>simp (disch:=omega) only [Sh.out h2,go_sem,seval,↓reduceIte]
     ·have hk2:k<p.unserved.length:=Za
      have hm:=ZL hk2;have ce:=Dx x (nth p.unserved k) Za;rw [z2 _ hm] at ce;refine XJ [10,11] 12 mixed Zd Zd Zd Zb (Zc ?_);refine JE ce (Zc ?_);refine Z0 10 _ _ Zd (by refine Zc ?_;exact ⟨rfl,rfl⟩) (Z0 11 _ _ Zd (by refine Zc ?_;exact ⟨rfl,rfl⟩) (YN ?_));refine Zc ?_;have q1:=r2 k Za;have q2:=Dw hx (nth p.unserved k);have hsu:=IS (x:=x) (s:=WT x p.routes) hk2;refine (Lb (KN x (WT x p.routes) (p.unserved.take k)) (unsF x (nth p.unserved k)).1 (Yu Za q1) (Yu Za q2)).use ?_
      refine Zc ?_;exact ⟨k+1,Za,Za,Weak.mk (by simp (disch:=omega) only [hsu,go_sem,seval])⟩
     ·have hkl:k=p.unserved.length:=Za
      subst hkl;rw [X5];exact we (by simp (disch:=omega) only [h0',go_sem,seval])
theorem dI (x:Inst) (p:Pln) (hx:InstOk x) (hr:p.routes.length<=1048576) (hu:p.unserved.length<=1048576) (hb: ∀r∈p.routes,Mu r) :
  PT 13 [.p (Zv x),.p (Ut p)] [.p (.int .i64 (D3 x p).1),.p (.int .i64 (D3 x p).2)]:=by
 refine Zf [] Tryz.func13 rfl Zjj ?_;simp (disch:=omega) only [Tryz.f13,go_sem,seval];refine Vi (eG x p hx hr hu hb) (Zc ?_);refine cD ?_ ?_<;>intro h0<;>simp (disch:=omega) only [Sh.out h0,go_sem,seval,↓reduceIte]
 ·have e:D3 x p=(0,Vm x p):=by rw [D3,if_neg h0]
  rw [e];exact we
 ·have h0':Vm x p=0:=Za
  have e:D3 x p=Xm (JO x p):=by rw [D3,if_pos h0']
  rw [e];refine Vi (B9 (JO x p) (pH hx hr hu hb)) (Zc ?_);exact we
set_option maxRecDepth 60000
structure St where
 ix:Int
 cov:Int
 used:List Int
 deriving Inhabited,DecidableEq
def Bm (s:St):PV:= .agg (.int .i64 s.ix:: .int .i64 s.cov::s.used.map eI)
@[go_sem] theorem Zot (s:St):Bm s= .agg (.int .i64 s.ix:: .int .i64 s.cov::s.used.map eI):=Zl rfl rfl
def StR (s:St):Prop:=s.used.length=6
theorem six {l:List Int} (h:l.length=6): ∃a b c d e f,l= [a,b,c,d,e,f]:=by
 match l,h with
 | [a,b,c,d,e,f],_=>simp
theorem YW {s:St} (h:StR s): ∃i v a b c d e f,s=⟨i,v,[a,b,c,d,e,f]⟩:=by
 obtain ⟨i,v,u⟩:=s;obtain ⟨a,b,c,d,e,f,rfl⟩:=six h;simp
theorem Rh : KeyE Tryz.prog 246 Bm StR:=by
 refine ⟨⟨197,3,Zd,Zd,fun s hs=> ?_,fun s t hs ht=> ?_⟩,fun s t hs ht=> ?_⟩
 ·obtain ⟨i,v,a,b,c,d,e,f,rfl⟩:=YW hs
  kernel_rfl
 ·obtain ⟨i,v,a,b,c,d,e,f,rfl⟩:=YW hs;obtain ⟨i',v',a',b',c',d',e',f',rfl⟩:=YW ht
  have h1:VD Tryz.prog 9 197 (Bm ⟨i,v,[a,b,c,d,e,f]⟩) (Bm ⟨i',v',[a',b',c',d',e',f']⟩)=some (decide (i=i')&&(decide (v=v')&&((decide (a=a')&&(decide (b=b')&&(decide (c=c')&&(decide (d=d')&&(decide (e=e')&&(decide (f=f')&&true))))))&&true))):=Zd
  have h2:keq (Bm ⟨i,v,[a,b,c,d,e,f]⟩) (Bm ⟨i',v',[a',b',c',d',e',f']⟩)=(decide (i=i')&&(decide (v=v')&&((decide (a=a')&&(decide (b=b')&&(decide (c=c')&&(decide (d=d')&&(decide (e=e')&&(decide (f=f')&&true))))))&&true))):=by
   simp_all [keq,Bm,JM,eI]
  show (VD Tryz.prog 9 197 (Bm ⟨i,v,[a,b,c,d,e,f]⟩) (Bm ⟨i',v',[a',b',c',d',e',f']⟩)==some (keq (Bm ⟨i,v,[a,b,c,d,e,f]⟩) (Bm ⟨i',v',[a',b',c',d',e',f']⟩)))=true
  simp_all
 ·obtain ⟨i,v,a,b,c,d,e,f,rfl⟩:=YW hs;obtain ⟨i',v',a',b',c',d',e',f',rfl⟩:=YW ht
  simp_all [keq,Bm,JM,eI]
structure Kd where
 typ:Int
 set:Int
 deriving Inhabited,DecidableEq
def fN (k:Kd):PV:= .agg [.int .i64 k.typ,.int .i64 k.set]
theorem mJ : KeyE Tryz.prog 281 fN fun _=>True:=by
 refine ⟨⟨283,3,Zd,Zd,fun s _=> ?_,fun s t _ _=> ?_⟩,fun s t _ _=> ?_⟩
 ·kernel_rfl
 ·obtain ⟨a,b⟩:=s;obtain ⟨c,d⟩:=t
  have h1:VD Tryz.prog 9 283 (fN ⟨a,b⟩) (fN ⟨c,d⟩)=some (decide (a=c)&&(decide (b=d)&&true)):=Zd
  have h2:keq (fN ⟨a,b⟩) (fN ⟨c,d⟩)=(decide (a=c)&&(decide (b=d)&&true)):=by
   grind [keq,fN,JM]
  show (VD Tryz.prog 9 283 (fN ⟨a,b⟩) (fN ⟨c,d⟩)==some (keq (fN ⟨a,b⟩) (fN ⟨c,d⟩)))=true
  simp_all
 ·obtain ⟨a,b⟩:=s;obtain ⟨c,d⟩:=t;simp [keq,fN,JM]
def B0 (n:Nat) (m cov:Int):Nat->Nat->Nat
 | 0,k=>k
 | f+1,k=>if k<n/\(sHas m k=false\/sHas cov k=true) then B0 n m cov f (k+1) else k
theorem Ef {n:Nat} {m cov:Int} {k:Nat} (h: ¬(k<n/\(sHas m k=false\/sHas cov k=true))) (f:Nat):B0 n m cov f k=k:=by
 cases f with
 | zero=>rfl
 | succ f=>rw [B0,if_neg h]
theorem Fv {n:Nat} {m cov:Int} {k:Nat} (h:k<n) (hc:sHas m k=false\/sHas cov k=true):B0 n m cov (n-k) k=B0 n m cov (n-(k+1)) (k+1):=by
 rw [show n-k=(n-(k+1))+1 by omega,B0,if_pos ⟨h,hc⟩]
def Vu (n:Nat) (m:Int) (s:St):St:= { s with ix:=(B0 n m s.cov (n-s.ix.toNat) s.ix.toNat:Nat) }
def V1 (x:Inst) (f g:PV) (m:Int):AM.Obj:= .cells [.p (.list x.net.places_c (x.net.places.map eS)),.p (.list x.net.arcs_c (x.net.arcs.map V2)),.p (.list x.types_c (x.types.map X8)),.p (.list x.orders_c (x.orders.map Yo)),.p (.list x.apart_c (x.apart.map eP)),.p (.list x.before_c (x.before.map eP)),.p f,.p g,.mp 0,.p (.int .i64 m)]
def Y4 (x:Inst) (f g:PV) (m:Int) (l:List (St×Int)):List AM.Obj:= [.map (l.map (Nx Bm)),V1 x f g m]
def B2 (s:St):AM.Obj:= .cells (.p (.int .i64 s.ix):: .p (.int .i64 s.cov)::(s.used.map eI).map .p)
theorem B3 {P Q:Prop} (h:Q) (e:Q->P:=by intro h;simp (disch:=omega) only [YB,go_sem,seval];exact h):P:=e h
theorem G7 {P Q:Prop} (h:Q) (e:Q->P:=by intro h;simp (disch:=omega) only [W9,go_sem,seval];exact h):P:=e h
theorem G0 (x:Inst) (f g:PV) (m:Int) (l:List (St×Int)) (s:St) (hs:StR s) (h0:0<=s.ix) (hn:x.orders.length<=10) (h1:s.ix<=10) :
  ACalls Tryz.prog 120 [.ptr 1 0,.p (Bm s)] (Y4 x f g m l) fun y H'=>y= .p (Bm (Vu x.orders.length m s))/\H'=Y4 x f g m l:=by
 obtain ⟨i,v,a,b,c,d,e,u,rfl⟩:=YW hs;obtain ⟨i,rfl⟩: ∃k:Nat,i=k:=⟨i.toNat,by grind⟩;simp only at h0 h1;generalize hT:Bm (Vu x.orders.length m ⟨i,v,[a,b,c,d,e,u]⟩)=T;refine Zf [] Tryz.func120 rfl ZbB ?_;simp (disch:=omega) only [Tryz.f120,Y4,V1,Zr,Zn,go_sem,seval];refine Zk [0,3,4] (fun k:Nat=> []) (fun k=>Y4 x f g m l++ [B2 ⟨k,v,[a,b,c,d,e,u]⟩,.cells (List.replicate 8 (.p (.int .i64 0)))]) (fun k=>k<=10/\B0 x.orders.length m v (x.orders.length-k) k=B0 x.orders.length m v (x.orders.length-i) i) (fun k=>x.orders.length-k) i ⟨Za,rfl⟩ (Weak.mk ?_) ?_
 ·simp (disch:=omega) only [Y4,V1,B2,Zr,Zn,List.replicate,go_sem,seval,↓reduceIte]
 ·rintro k ⟨hk,hq⟩
  have fin: ∀q:Nat,q=B0 x.orders.length m v (x.orders.length-i) i->Bm ⟨q,v,[a,b,c,d,e,u]⟩=T:=fun q hq=>by grind [Vu]
  simp (disch:=omega) only [Y4,V1,B2,Zr,Zn,List.replicate,go_sem,seval];refine Xq (Zc ?_);refine gT ?_ ?_<;>intro h5<;>simp (disch:=omega) only [Sh.out h5,go_sem,seval,↓reduceIte]
  ·have hk2:k<x.orders.length:=Za
   refine Zo (Ew m k) (Zc ?_)
   cases hm:sHas m k with
   | false =>
    refine G7 ?_;exact ⟨k+1,⟨Za,by grind [Fv]⟩,Za,wk⟩
   | true =>
    refine B3 ?_;refine Zo (Ew v k) (Zc ?_)
    cases hv:sHas v k with
    | true =>
     refine Zc ?_;exact ⟨k+1,⟨Za,by grind [Fv]⟩,Za,wk⟩
    | false =>
     refine Zc ?_;exact ⟨.p (Bm ⟨k,v,[a,b,c,d,e,u]⟩),_,Weak.mk (by simp (disch:=omega) only [Zr,Zn,go_sem,seval]),by grind [Ef],rfl⟩
  ·exact ⟨.p (Bm ⟨k,v,[a,b,c,d,e,u]⟩),_,Weak.mk (by simp (disch:=omega) only [Zr,Zn,go_sem,seval]),by grind [Ef],rfl⟩
def DY (n:Nat) (m:Int) (s:St):St:=Vu n m { s with ix:=s.ix+1 }
theorem B4 {P Q:Prop} (h:Q) (e:Q->P:=by intro h;simp (disch:=omega) only [Y4,V1,Zr,Zn,ZO,ZD,go_sem,seval];exact h):P:=e h
theorem I3 (x:Inst) (f g:PV) (m:Int) (l:List (St×Int)) (s:St) (hs:StR s) (h0:0<=s.ix) (hn:x.orders.length<=10) (h1:s.ix<=9) :
  ACalls Tryz.prog 172 [.ptr 1 0,.p (Bm s)] (Y4 x f g m l) fun y H'=>y= .p (Bm (DY x.orders.length m s))/\H'=Y4 x f g m l:=by
 have hc:=G0 x f g m l { s with ix:=s.ix+1 } hs (by grind) hn (by grind);obtain ⟨i,v,a,b,c,d,e,u,rfl⟩:=YW hs;obtain ⟨q,hq⟩: ∃q:Int,DY x.orders.length m ⟨i,v,[a,b,c,d,e,u]⟩=⟨q,v,[a,b,c,d,e,u]⟩:=⟨_,rfl⟩;have hq':Vu x.orders.length m ⟨i+1,v,[a,b,c,d,e,u]⟩=⟨q,v,[a,b,c,d,e,u]⟩:=hq;rw [hq];simp only at h0 h1 hc;rw [hq'] at hc;refine Zf [] Tryz.func172 rfl Zcb ?_;simp (disch:=omega) only [Tryz.f172,Y4,V1,Zr,Zn,go_sem,seval];refine hc.useP (L:= [_,_]) (by rfl) ?_ (by rfl) (by rfl);refine B4 ?_
 exact we
def Dz (n:Nat) (m:Int) (s:St) (T:Nat) (C S:Nat):St:=Vu n m ⟨s.ix,((C|||S:Nat):Int),s.used.set T (nth s.used T+1)⟩
def EQ (x:Inst) (s:St) (T:Nat) (C S:Nat):Bool:=decide (C&&&S=0)&&decide (nth s.used T<(nth x.types T).count)
theorem qM (x:Inst) (f g:PV) (m:Int) (l:List (St×Int)) (s:St) (c:Col) (hs:StR s) (h0:0<=s.ix) (hn:x.orders.length<=10) (h1:s.ix<=10) (C S T:Nat) (hC:s.cov=C) (hS:c.set=S) (hT:c.typ=T) (hC2:C<1024) (hS2:S<1024) (hT2:T<x.types.length) (h6:x.types.length<=6)
  (hu: ∀j,j<6->0<=nth s.used j/\nth s.used j<=1048576) :
  ACalls Tryz.prog 171 [.ptr 1 0,.p (Bm s),.p (Xx c)] (Y4 x f g m l) fun y H'=>y=(if EQ x s T C S=true then .tup [.p (Bm (Dz x.orders.length m s T C S)),.p (.bool true)] else .tup [.p (Bm s),.p (.bool false)])/\H'=Y4 x f g m l:=by
 have hor:C|||S<1024:=Jn (n:=10) hC2 hS2;have hc:=G0 x f g m l ⟨s.ix,((C|||S:Nat):Int),s.used.set T (nth s.used T+1)⟩ (by grind [StR]) h0 hn h1;obtain ⟨i,v,a0,a1,a2,a3,a4,a5,rfl⟩:=YW hs
 have hT3:T=0\/T=1\/T=2\/T=3\/T=4\/T=5:=Za
 have u0:=hu 0 Za;have u1:=hu 1 Za;have u2:=hu 2 Za;have u3:=hu 3 Za;have u4:=hu 4 Za;have u5:=hu 5 Za;simp only [nth,List.getD_cons_zero,List.getD_cons_succ] at u0 u1 u2 u3 u4 u5;simp only at hC h0 h1;obtain ⟨ct,cs,cp,cr⟩:=c;simp only at hS hT;subst hC;subst hS;subst hT;obtain ⟨R,hR⟩: ∃R:V,R=(if EQ x ⟨i,(C:Nat),[a0,a1,a2,a3,a4,a5]⟩ T C S=true then .tup [.p (Bm (Dz x.orders.length m ⟨i,(C:Nat),[a0,a1,a2,a3,a4,a5]⟩ T C S)),.p (.bool true)] else .tup [.p (Bm ⟨i,(C:Nat),[a0,a1,a2,a3,a4,a5]⟩),.p (.bool false)]):=⟨_,rfl⟩
 rw [<- hR];obtain ⟨q,hq⟩: ∃q:Int,Vu x.orders.length m ⟨i,((C|||S:Nat):Int),[a0,a1,a2,a3,a4,a5].set T (nth [a0,a1,a2,a3,a4,a5] T+1)⟩=⟨q,((C|||S:Nat):Int),[a0,a1,a2,a3,a4,a5].set T (nth [a0,a1,a2,a3,a4,a5] T+1)⟩:=⟨_,rfl⟩;simp only at hc;rw [hq] at hc;have hw:Dz x.orders.length m ⟨i,(C:Nat),[a0,a1,a2,a3,a4,a5]⟩ T C S=⟨q,((C|||S:Nat):Int),[a0,a1,a2,a3,a4,a5].set T (nth [a0,a1,a2,a3,a4,a5] T+1)⟩:=hq;rw [hw] at hR;refine Zf [] Tryz.func171 rfl Zca ?_;rcases hT3 with rfl | rfl | rfl | rfl | rfl | rfl
 all_goals
  simp (disch:=omega) only [Tryz.f171,Y4,V1,Zr,Zn,go_sem,seval,↓reduceIte];refine Xq ?_;simp (disch:=omega) only [go_sem,seval,↓reduceIte];refine gF ?_ ?_<;>intro h5<;>simp (disch:=omega) only [Sh.out h5,go_sem,seval,↓reduceIte]
  ·have hno:(decide (C&&&S=0))=false:=Qt Za;exact ⟨.tup [.p (Bm ⟨i,(C:Nat),[a0,a1,a2,a3,a4,a5]⟩),.p (.bool false)],_,Weak.mk (by simp (disch:=omega) only [Zr,Zn,go_sem,seval]),by rw [hR,if_neg (by rw [EQ,hno];simp)],rfl⟩
  ·have hcs:C&&&S=0:=Za
   refine cD ?_ ?_<;>intro h7<;>simp (disch:=omega) only [Sh.out h7,go_sem,seval,↓reduceIte]
   ·exact ⟨.tup [.p (Bm ⟨i,(C:Nat),[a0,a1,a2,a3,a4,a5]⟩),.p (.bool false)],_,Weak.mk (by simp (disch:=omega) only [Zr,Zn,go_sem,seval]),by rw [hR,if_neg (by rw [EQ,Vr hcs,VS];exact fun h=>Int.not_lt.2 h7 (AQ h))],rfl⟩
   ·rw [if_pos (by rw [EQ,Vr hcs,VS];exact Vr (Int.not_le.1 h7))] at hR;refine hc.useP (L:= [_,_,_]) (by rfl) ?_ (by rfl) (by rfl);simp (disch:=omega) only [Y4,V1,Zr,Zn,ZO,ZD,Z1,Xa,go_sem,seval,↓reduceIte];exact ⟨R,_,Weak.mk (by rw [hR];simp (disch:=omega) only [nth,List.getD_cons_zero,List.getD_cons_succ,Z1,Xa,Zr,Zn,go_sem,seval]),rfl,rfl⟩
def Y3 (o p r:Int):Int:=if 0<=r/\(o<0\/p+r<o) then p+r else o
theorem Nf (o p r:Int) (hp: -4611686018427387904<=p/\p<=4611686018427387904) (hr: -4611686018427387904<r/\r<4611686018427387904) :
  ACalls Tryz.prog 170 [.p (.int .i64 p),.p (.int .i64 r),.ptr 0 0] [.cells [.p (.int .i64 o)]] fun y H'=>y= .tup []/\H'= [.cells [.p (.int .i64 (Y3 o p r))]]:=by
 obtain ⟨T,hT⟩: ∃T,T=Y3 o p r:=⟨_,rfl⟩;rw [<- hT];unfold Y3 at hT;refine Zf [] Tryz.func170 rfl Zb9 ?_;simp (disch:=omega) only [Tryz.f170,go_sem,seval];refine gT ?_ ?_<;>intro h1<;>simp (disch:=omega) only [Sh.out h1,go_sem,seval,↓reduceIte]
 ·refine gF ?_ ?_<;>intro h2<;>simp (disch:=omega) only [Sh.out h2,go_sem,seval,↓reduceIte]
  ·rw [if_pos ⟨h1,.inl h2⟩] at hT;subst hT;exact we
  ·refine cD ?_ ?_<;>intro h3<;>simp (disch:=omega) only [Sh.out h3,go_sem,seval,↓reduceIte]
   ·rw [if_pos ⟨h1,.inr h3⟩] at hT;subst hT;exact we
   ·rw [if_neg Za] at hT;subst hT;exact we
 ·rw [if_neg Za] at hT;subst hT;exact we
theorem Dp {n:Nat} {m cov:Int} : ∀(f k:Nat),k<=B0 n m cov f k
 | 0,k=>Zw _
 | f+1,k=>by
  rw [B0]
  split
  ·have:=Dp (n:=n) (m:=m) (cov:=cov) f (k+1);omega
  ·omega
theorem TG {n:Nat} {m cov:Int} : ∀(f k:Nat),k<=n->B0 n m cov f k<=n
 | 0,k,h=>h
 | f+1,k,h=>by
  rw [B0]
  split
  ·rename_i hc;exact TG f (k+1) Za
  ·exact h
theorem eL {n:Nat} {m cov:Int} {k:Nat} (h:k<n) (hb:sHas cov k=true):k+1<=B0 n m cov (n-k) k:=by
 grind [Fv,Dp]
theorem C2 {l:List Int} {i j:Nat} {a:Int} (h:i<l.length):nth (l.set i a) j=if i=j then a else nth l j:=by
 grind [nth]
structure StV (n:Nat) (s:St):Prop where
 len:StR s
 ix:0<=s.ix/\s.ix<=n
 cov: ∃C:Nat,s.cov=C/\C<1024
 used: ∀j,j<6->0<=nth s.used j/\nth s.used j<=1048576
theorem MB {n:Nat} {m:Int} {s:St} (h:StV n s):StV n (Vu n m s)/\s.ix<=(Vu n m s).ix:=by
 obtain ⟨h1,h2,h3,h4⟩:=h;have a:=Dp (n:=n) (m:=m) (cov:=s.cov) (n-s.ix.toNat) s.ix.toNat;have b:=TG (n:=n) (m:=m) (cov:=s.cov) (n-s.ix.toNat) s.ix.toNat Za;exact ⟨⟨h1,by grind [Vu],h3,h4⟩,by grind [Vu]⟩
theorem Mc {n:Nat} {m:Int} {s:St} (h:StV n s) (hi:s.ix<n):StV n (DY n m s)/\s.ix<(DY n m s).ix:=by
 have h':StV n { s with ix:=s.ix+1 } :=⟨h.len,by have:=h.ix;grind,h.cov,h.used⟩
 grind [MB,DY]
theorem wM {C S k:Nat} (h:sHas (S:Int) k=true):sHas ((C|||S:Nat):Int) k=true:=by
 have key: ∀N:Nat,sHas (N:Int) k=true↔k<=62/\N.testBit k=true:=fun N=>by
  simp only [sHas,ZE,Zs,XY]
  grind
 grind
theorem xS {n:Nat} {m:Int} {s:St} {T C S:Nat} (h:StV n s) (hi:s.ix<n) (hC:C<1024) (hS:S<1024) (hb:sHas (S:Int) s.ix=true) (hT:T<6) (hu:nth s.used T<1048576):StV n (Dz n m s T C S)/\s.ix<(Dz n m s T C S).ix:=by
 have hor:C|||S<1024:=Jn (n:=10) hC hS;have hl:s.used.length=6:=h.len
 have h':StV n ⟨s.ix,((C|||S:Nat):Int),s.used.set T (nth s.used T+1)⟩:=by
  refine ⟨by grind [StR],h.ix,⟨_,rfl,hor⟩,fun j hj=> ?_⟩;simp only;rw [C2 Za]
  split
  ·have:=h.used T hT;omega
  ·exact h.used j hj
 grind [MB,eL,wM,Dz,Vu]
def YO (x:Inst) (s:St) (c:Col):Bool:=EQ x s c.typ.toNat s.cov.toNat c.set.toNat
def VZ (n:Nat) (m:Int) (s:St) (c:Col):St:=Dz n m s c.typ.toNat s.cov.toNat c.set.toNat
def Wp (n:Nat) (m:Int) (x:Inst) (fst:List (List Col)) (sk:List Int):Nat->St->Int
 | 0,_=>0
 | d+1,s=>if (n:Int)<=s.ix then 0 else
  let o:=(nth fst s.ix.toNat).foldl (fun o c=>if YO x s c=true then Y3 o c.price (Wp n m x fst sk d (VZ n m s c)) else o) (-1)
  if 0<=nth sk s.ix.toNat then Y3 o (nth sk s.ix.toNat) (Wp n m x fst sk d (DY n m s)) else o
structure ChOk (n:Nat) (x:Inst) (fst:List (List Col)) (sk:List Int):Prop where
 col: ∀i,i<n-> ∀c∈nth fst i,(0<=c.typ/\c.typ<x.types.length)/\(∃S:Nat,c.set=S/\S<1024)/\sHas c.set i=true/\0<=c.price/\c.price<=18014398509481984
 typ:x.types.length<=6/\ ∀t,t<6->(nth x.types t).count<=1048576
 skp: ∀i,i<n-> -1<=nth sk i/\nth sk i<=18014398509481984
theorem FB {n:Nat} {m:Int} {x:Inst} {fst:List (List Col)} {sk:List Int} (hc:ChOk n x fst sk) {s:St} (h:StV n s) (hi:s.ix<n) {c:Col} (hm:c∈nth fst s.ix.toNat) (hy:YO x s c=true):StV n (VZ n m s c)/\s.ix<(VZ n m s c).ix:=by
 obtain ⟨⟨t0,t1⟩,⟨S,hS,hS2⟩,hb,_⟩:=hc.col _ (by have:=h.ix;omega) c hm;obtain ⟨C,hC,hC2⟩:=h.cov;have ht:=hc.typ.1;have hcnt:=hc.typ.2 c.typ.toNat Za;simp only [YO,EQ,ZE,Zs] at hy;have hi0:=h.ix;rw [show ((s.ix.toNat:Nat):Int)=s.ix by omega] at hb;exact xS h hi Za Za (by grind) Za Za
theorem J6 {α β:Type} {f g:β->α->β} : ∀ {l:List α} {b:β},(∀a∈l,∀b,f b a=g b a)->l.foldl f b=l.foldl g b
 | [],_,_=>rfl
 | a::l,b,h=>by
  rw [XO,XO,h a Zb b];exact J6 fun a ha=>h a (XL _ ha)
theorem JI {n:Nat} {m:Int} {x:Inst} {fst:List (List Col)} {sk:List Int} (hc:ChOk n x fst sk): ∀(d d':Nat) (s:St),StV n s->(n:Int)-s.ix<d->(n:Int)-s.ix<d'->Wp n m x fst sk d s=Wp n m x fst sk d' s
 | 0,_,s,h,h1,_=>by have:=h.ix;omega
 | _,0,s,h,_,h1=>by have:=h.ix;omega
 | d+1,d'+1,s,h,h1,h2=>by
  rw [Wp,Wp]
  split
  ·rfl
  ·rename_i hi
   have e1:(nth fst s.ix.toNat).foldl (fun o c=>if YO x s c=true then Y3 o c.price (Wp n m x fst sk d (VZ n m s c)) else o) (-1)=(nth fst s.ix.toNat).foldl (fun o c=>if YO x s c=true then Y3 o c.price (Wp n m x fst sk d' (VZ n m s c)) else o) (-1):=J6 fun c hm o=>by
    by_cases hy:YO x s c=true
    ·obtain ⟨v1,v2⟩:=FB (m:=m) hc h Za hm hy;rw [if_pos hy,if_pos hy,JI hc d d' _ v1 Za Za]
    grind
   obtain ⟨v1,v2⟩:=Mc (m:=m) h Za;rw [JI hc d d' _ v1 Za Za];simp only [e1]
theorem Nc {o p r B:Int} (h1: -1<=o/\o<=B) (h2:0<=p) (h3:p+r<=B): -1<=Y3 o p r/\Y3 o p r<=B:=by
 grind [Y3]
theorem If {α β:Type} {f:β->α->β} {R:β->Prop} : ∀ {l:List α} {b:β},R b->(∀a∈l,∀b,R b->R (f b a))->R (l.foldl f b)
 | [],_,h,_=>h
 | a::l,b,h,hf=>by
  rw [XO];exact If (hf a Zb b h) fun a ha=>hf a (XL _ ha)
theorem Uv {n:Nat} {m:Int} {x:Inst} {fst:List (List Col)} {sk:List Int} (hc:ChOk n x fst sk): ∀(d:Nat) (s:St),StV n s-> -1<=Wp n m x fst sk d s/\Wp n m x fst sk d s<=(d:Int)*18014398509481984
 | 0,s,h=>by simp [Wp]
 | d+1,s,h=>by
  rw [Wp]
  split
  ·omega
  ·rename_i hi;have i0:=h.ix
   have e1: -1<=(nth fst s.ix.toNat).foldl (fun o c=>if YO x s c=true then Y3 o c.price (Wp n m x fst sk d (VZ n m s c)) else o) (-1)/\(nth fst s.ix.toNat).foldl (fun o c=>if YO x s c=true then Y3 o c.price (Wp n m x fst sk d (VZ n m s c)) else o) (-1)<=((d+1:Nat):Int)*18014398509481984:=by
    refine If (R:=fun o:Int=> -1<=o/\o<=((d+1:Nat):Int)*18014398509481984) Za fun c hm o ho=> ?_
    split
    ·rename_i hy;obtain ⟨v1,v2⟩:=FB (m:=m) hc h Za hm hy;have:=Uv (m:=m) hc d _ v1;have:=(hc.col _ Za c hm).2.2.2;exact Nc ho Za Za
    ·exact ho
   have hs:=hc.skp s.ix.toNat Za;obtain ⟨v1,v2⟩:=Mc (m:=m) h Za;have:=Uv (m:=m) hc d _ v1;simp only
   split
   ·exact Nc e1 Za Za
   ·exact e1
def WD (l:List Col):PV:= .list false (l.map Xx)
@[go_sem] theorem ZiS (l:List Col):WD l= .list false (l.map Xx):=Zl rfl rfl
def LF (c:Col):AM.Obj:= .cells [.p (.int .i64 c.typ),.p (.int .i64 c.set),.p (.int .i64 c.price),.p (.int .i64 c.route.typ),.p (.int .i64 c.route.start),.p (.list c.route.rests_c (c.route.rests.map eB)),.p (.list c.route.visits_c (c.route.visits.map Z7))]
def Okm (n:Nat) (m:Int) (x:Inst) (fst:List (List Col)) (sk:List Int) (l:List (St×Int)):Prop:= ∀p∈l,StV n p.1/\p.2=Wp n m x fst sk 20 p.1
theorem G6 {P Q:Prop} (h:Q) (e:Q->P:=by intro h;simp (disch:=omega) only [Y4,V1,B2,Zr,Zn,ZO,ZD,go_sem,seval];exact h):P:=e h
theorem E6 (x:Inst) (fst:List (List Col)) (sk:List Int) (fc sc:Bool) (m:Int) (hn:x.orders.length<=10) (hf:fst.length=x.orders.length) (hs:sk.length=x.orders.length) (hc:ChOk x.orders.length x fst sk) (hcl: ∀r∈fst,r.length<=1048576) :
  ∀(d:Nat) (s:St) (l:List (St×Int)),d<=20->StV x.orders.length s->(x.orders.length:Int)-s.ix<d->Okm x.orders.length m x fst sk l ->
   ACalls Tryz.prog 121 [.ptr 1 0,.p (Bm s)] (Y4 x (.list fc (fst.map WD)) (.list sc (sk.map eI)) m l) fun y H'=> ∃l',Okm x.orders.length m x fst sk l'/\y= .p (.int .i64 (Wp x.orders.length m x fst sk 20 s))/\H'=Y4 x (.list fc (fst.map WD)) (.list sc (sk.map eI)) m l'
 | 0,s,l,_,hv,hd,_=>by have:=hv.ix;omega
 | d+1,s,l,hd0,hv,hd,hl=>by
  have ih:=E6 x fst sk fc sc m hn hf hs hc hcl d;have hlR: ∀p∈l,StR p.1:=fun p hp=>(hl p hp).1.len;obtain ⟨i,v,a0,a1,a2,a3,a4,a5,rfl⟩:=YW hv.len;have hi:=hv.ix;simp only at hi hd;obtain ⟨i,rfl⟩: ∃k:Nat,i=k:=⟨i.toNat,Za⟩;obtain ⟨T,hT⟩: ∃T,T=Wp x.orders.length m x fst sk 20 ⟨i,v,[a0,a1,a2,a3,a4,a5]⟩:=⟨_,rfl⟩;rw [<- hT];refine Zf [] Tryz.func121 rfl ZbC ?_;simp (disch:=omega) only [Tryz.f121,Y4,V1,Zr,Zn,go_sem,seval];refine Xq ?_;refine Zc ?_;refine cD ?_ ?_<;>intro h1<;>simp (disch:=omega) only [Sh.out h1,go_sem,seval]
  ·rw [Wp,if_pos Za] at hT;subst hT;exact ⟨_,_,wk,l,hl,rfl,rfl⟩
  ·refine Xq (Zc ?_);refine kD (HN (k:=(⟨i,v,[a0,a1,a2,a3,a4,a5]⟩:St)) Rh hlR hv.len (by rfl)) (Zc ?_)
   cases hq:mq l (⟨i,v,[a0,a1,a2,a3,a4,a5]⟩:St) with
   | some w =>
    obtain ⟨_,hw⟩:=hl _ (ZdY hq);simp only at hw;rw [<- hw] at hT;subst hT;simp (disch:=omega) only [Ko,Kc,go_sem,seval];exact ⟨_,_,wk,l,hl,rfl,rfl⟩
   | none =>
    have hi2:i<fst.length:=Za
    have hi3:i<sk.length:=Za
    have hrl:=hcl _ (ZL hi2);simp (disch:=omega) only [AP,Option.getD_none,go_sem,seval];refine Xq (Zc ?_)
    let F:Int->Col->Int:=fun o c=>if YO x ⟨i,v,[a0,a1,a2,a3,a4,a5]⟩ c=true then Y3 o c.price (Wp x.orders.length m x fst sk 19 (VZ x.orders.length m ⟨i,v,[a0,a1,a2,a3,a4,a5]⟩ c)) else o
    refine Zk [0,3,7,8,42,43] (fun q:Nat×List (St×Int)=> [(44,.p (.int .i64 q.1))]) (fun q=>Y4 x (.list fc (fst.map WD)) (.list sc (sk.map eI)) m q.2++ [B2 ⟨i,v,[a0,a1,a2,a3,a4,a5]⟩,.cells [.p (.int .i64 (((nth fst i).take q.1).foldl F (-1)))]]) (fun q=>q.1<=(nth fst i).length/\Okm x.orders.length m x fst sk q.2) (fun q=>(nth fst i).length-q.1) (0,l) ⟨Zb,hl⟩ (Weak.mk ?_) ?_
    ·simp (disch:=omega) only [Y4,V1,B2,Zr,Zn,ZO,ZD,Vq,VR,go_sem,seval,↓reduceIte]
    ·rintro ⟨k,l1⟩ ⟨hk,hl1⟩;simp only at hk hl1;have hl1R: ∀p∈l1,StR p.1:=fun p hp=>(hl1 p hp).1.len;generalize hacc:((nth fst i).take k).foldl F (-1)=acc;refine G6 ?_;refine cD ?_ ?_<;>intro h2<;>simp (disch:=omega) only [Sh.out h2,go_sem,seval,↓reduceIte]
     ·have hk2:k<(nth fst i).length:=Za
      have hm:=ZL hk2
      have hs1:((nth fst i).take (k+1)).foldl F (-1)=F acc (nth (nth fst i) k):=by
       grind [XZ,Zh]
      obtain ⟨⟨t0,t1⟩,⟨S,hS,hS2⟩,hb,hp0,hp1⟩:=hc.col i Za _ hm;obtain ⟨C,hC,hC2⟩:=hv.cov;simp only at hC;have h6:=hc.typ.1;obtain ⟨tt,htt⟩: ∃tt:Nat,(nth (nth fst i) k).typ=tt:=⟨(nth (nth fst i) k).typ.toNat,Za⟩;have cw:=qM x (.list fc (fst.map WD)) (.list sc (sk.map eI)) m l1 ⟨i,v,[a0,a1,a2,a3,a4,a5]⟩ (nth (nth fst i) k) hv.len Zb hn (by grind) C S tt hC hS htt hC2 hS2 Za h6 hv.used
      have hmay:YO x ⟨i,v,[a0,a1,a2,a3,a4,a5]⟩ (nth (nth fst i) k)=EQ x ⟨i,v,[a0,a1,a2,a3,a4,a5]⟩ tt C S:=by grind [YO,XY]
      have hwc:VZ x.orders.length m ⟨i,v,[a0,a1,a2,a3,a4,a5]⟩ (nth (nth fst i) k)=Dz x.orders.length m ⟨i,v,[a0,a1,a2,a3,a4,a5]⟩ tt C S:=by grind [VZ]
      by_cases hy:EQ x ⟨i,v,[a0,a1,a2,a3,a4,a5]⟩ tt C S=true
      ·obtain ⟨v1,v2⟩:=FB (m:=m) hc hv (by grind) (by simpa using hm) (by grind);rw [hwc] at v1 v2;obtain ⟨j,w,b0,b1,b2,b3,b4,b5,hw⟩:=YW v1.len;rw [if_pos hy,hw] at cw;refine cw.useP (L:= [_,_,_]) (by rfl) ?_ (by rfl) (by rfl);refine B4 ?_;refine BD [5] [1,2] [4] 6 mixed Zd Zd Zd Zd Zb (Zc ?_);refine ⟨fun q hq p hp=> ?_,?_⟩
       ·simp only [Z4,We,Wz] at hq;rcases hq with rfl | rfl
        ·obtain rfl:10=p:=Vp hp;exact Uc (by decide)
        ·obtain rfl:57=p:=Vp hp;exact Uc (by decide)
       ·have c3:=((ih ⟨j,w,[b0,b1,b2,b3,b4,b5]⟩ l1 Za (hw ▸ v1) (by grind) hl1).mono (fun y H' hq=>(⟨hq,by obtain ⟨l',_,_,rfl⟩:=hq;rfl⟩:_/\H'.length=(Y4 x (.list fc (fst.map WD)) (.list sc (sk.map eI)) m l1).length))).front (by rfl) (by rfl) [B2 ⟨i,v,[a0,a1,a2,a3,a4,a5]⟩,.cells [.p (.int .i64 acc)],LF (nth (nth fst i) k),B2 ⟨j,w,[b0,b1,b2,b3,b4,b5]⟩];refine Im 5 _ Zd (by refine Zc ?_;exact c3) ?_;rintro y H' ⟨H1,⟨l2,hl2,rfl,rfl⟩,rfl⟩;refine ⟨fun k hk=>by simp at hk;subst hk;rfl,L6 ?_⟩;simp (disch:=omega) only [Y4,V1,B2,LF,Zr,Zn,ZO,ZD,go_sem,seval]
        have hrg:=Uv (m:=m) hc 20 _ v1;rw [hw] at hrg;have c4:=(((Nf acc (nth (nth fst i) k).price (Wp x.orders.length m x fst sk 20 ⟨j,w,[b0,b1,b2,b3,b4,b5]⟩) Za Za).back [.map (l2.map (Nx Bm)),V1 x (.list fc (fst.map WD)) (.list sc (sk.map eI)) m,B2 ⟨i,v,[a0,a1,a2,a3,a4,a5]⟩] (by rfl)).mono (fun y H' hq=>(⟨hq,by grind⟩:_/\H'.length=4))).front (by rfl) (by rfl) [LF (nth (nth fst i) k),B2 ⟨j,w,[b0,b1,b2,b3,b4,b5]⟩];refine ACalls.mono c4 ?_;rintro y H' ⟨H1,⟨y1,H2,⟨rfl,rfl⟩,rfl,rfl⟩,rfl⟩;simp (disch:=omega) only [V1,B2,LF,Zr,Zn,ZO,ZD,shO,shVs,shV,go_sem,seval]
        have hF:F acc (nth (nth fst i) k)=Y3 acc (nth (nth fst i) k).price (Wp x.orders.length m x fst sk 20 ⟨j,w,[b0,b1,b2,b3,b4,b5]⟩):=by
         show (if _ then _ else _)=_
         rw [if_pos (by grind),hwc,JI hc 19 20 _ v1 (by grind) (by grind),hw]
        exact ⟨(k+1,l2),⟨Za,hl2⟩,Za,Weak.mk (by simp (disch:=omega) only [hs1,hF,go_sem,seval])⟩
      ·rw [if_neg hy] at cw;refine cw.useP (L:= [_,_,_]) (by rfl) ?_ (by rfl) (by rfl);refine B4 ?_;have hF:F acc (nth (nth fst i) k)=acc:=if_neg (by grind);exact ⟨(k+1,l1),⟨Za,hl1⟩,Za,Weak.mk (by simp (disch:=omega) only [hs1,hF,go_sem,seval])⟩
     ·have hkl:k=(nth fst i).length:=Za
      subst hkl;rw [X5] at hacc
      have hTe:T=if 0<=nth sk i then Y3 acc (nth sk i) (Wp x.orders.length m x fst sk 19 (DY x.orders.length m ⟨i,v,[a0,a1,a2,a3,a4,a5]⟩)) else acc:=by
       rw [hT,show (20:Nat)=19+1 from rfl,Wp,if_neg Za,<- hacc]
       rfl
      refine Xq (Zc ?_);refine cD ?_ ?_<;>intro h3<;>simp (disch:=omega) only [Sh.out h3,go_sem,seval,↓reduceIte]
      ·have cn:=I3 x (.list fc (fst.map WD)) (.list sc (sk.map eI)) m l1 ⟨i,v,[a0,a1,a2,a3,a4,a5]⟩ hv.len Zb hn (by grind);obtain ⟨v1,v2⟩:=Mc (m:=m) hv (by grind);obtain ⟨j,w,b0,b1,b2,b3,b4,b5,hw⟩:=YW v1.len;have hsk:=hc.skp i Za;have hrg:=Uv (m:=m) hc 20 _ v1;rw [hw] at cn v1 v2 hrg;simp only at v2;refine cn.useP (L:= [_,_]) (by rfl) ?_ (by rfl) (by rfl);refine B4 ?_;have c3:=((ih ⟨j,w,[b0,b1,b2,b3,b4,b5]⟩ l1 Za v1 (by grind) hl1).mono (fun y H' hq=>(⟨hq,by obtain ⟨l',_,_,rfl⟩:=hq;rfl⟩:_/\H'.length=(Y4 x (.list fc (fst.map WD)) (.list sc (sk.map eI)) m l1).length))).front (by rfl) (by rfl) [B2 ⟨i,v,[a0,a1,a2,a3,a4,a5]⟩,.cells [.p (.int .i64 acc)]]
       refine ACalls.mono c3 ?_;rintro y H' ⟨H1,⟨l2,hl2,rfl,rfl⟩,rfl⟩;refine G6 ?_;refine ACalls.mono ((Nf acc (nth sk i) (Wp x.orders.length m x fst sk 20 ⟨j,w,[b0,b1,b2,b3,b4,b5]⟩) Za Za).back [.map (l2.map (Nx Bm)),V1 x (.list fc (fst.map WD)) (.list sc (sk.map eI)) m,B2 ⟨i,v,[a0,a1,a2,a3,a4,a5]⟩] (by rfl)) ?_;rintro y H' ⟨y1,H2,⟨rfl,rfl⟩,rfl,rfl⟩;simp (disch:=omega) only [V1,B2,Zr,Zn,ZO,ZD,shO,shVs,shV,go_sem,seval];refine ZB 6 mixed Zd Zd ?_
       refine Zc ?_;refine Mn (l:=l2) (k:=(⟨i,v,[a0,a1,a2,a3,a4,a5]⟩:St)) Rh (fun p hp=>(hl2 p hp).1.len) hv.len (by rfl) fun l3 _ hl3=> ?_;simp (disch:=omega) only [Z1,go_sem,seval];rw [if_pos h3,JI hc 19 20 _ (by grind) (by grind) (by grind),hw] at hTe;rw [<- hTe];exact ⟨.p (.int .i64 T),_,wk,l3,fun p hp=>(hl3 p hp).elim (hl2 p) (fun e=>by grind),rfl,rfl⟩
      ·refine ZB 6 mixed Zd Zd (Zc ?_);refine Mn (l:=l1) (k:=(⟨i,v,[a0,a1,a2,a3,a4,a5]⟩:St)) Rh hl1R hv.len (by rfl) fun l3 _ hl3=> ?_;simp (disch:=omega) only [Z1,go_sem,seval];rw [if_neg h3] at hTe;rw [<- hTe];exact ⟨.p (.int .i64 T),_,wk,l3,fun p hp=>(hl3 p hp).elim (hl1 p) (fun e=>by grind),rfl,rfl⟩
def MA (n:Nat) (m:Int) (x:Inst) (fst:List (List Col)) (sk:List Int) (s:St) (c:Col):Bool :=
 YO x s c&&(decide (0<=Wp n m x fst sk 20 (VZ n m s c))&&decide (c.price+Wp n m x fst sk 20 (VZ n m s c)=Wp n m x fst sk 20 s))
def Yr (n:Nat) (m:Int) (x:Inst) (fst:List (List Col)) (sk:List Int):Nat->St->List Col×List Int
 | 0,_=>([],[])
 | d+1,s=>if (n:Int)<=s.ix then ([],[]) else match (nth fst s.ix.toNat).find? (MA n m x fst sk s) with
  | some c=>(c::(Yr n m x fst sk d (VZ n m s c)).1,(Yr n m x fst sk d (VZ n m s c)).2)
  | none=>((Yr n m x fst sk d (DY n m s)).1,s.ix::(Yr n m x fst sk d (DY n m s)).2)
theorem NF {α:Type} [Inhabited α] {p:α->Bool} : ∀ {l:List α} {k:Nat},k<l.length->(∀j,j<k->p (nth l j)=false)->p (nth l k)=true->l.find? p=some (nth l k)
 | [],_,h,_,_=>by simp at h
 | a::l,0,_,_,h=>by
  grind [nth]
 | a::l,k+1,hk,h0,h=>by
  rw [List.find?_cons_of_neg (by rw [show p a=false from h0 0 Za];simp)];exact NF (l:=l) (k:=k) (by simpa using hk) (fun j hj=>h0 (j+1) Za) h
theorem tP {α:Type} [Inhabited α] {p:α->Bool} {l:List α} (h: ∀j,j<l.length->p (nth l j)=false):l.find? p=none:=by
 rw [AN];intro a ha;obtain ⟨j,hj,rfl⟩:=ZN.1 ha
 grind [Zh]
theorem Zea (X:AM.Obj) (hX: ∀H n,FD H n X X) (hX2: ∀o xs,SN o xs X=X) (x:Inst) (fst:List (List Col)) (sk:List Int) (fc sc:Bool) (m:Int) (hn:x.orders.length<=10) (hf:fst.length=x.orders.length) (hs:sk.length=x.orders.length) (hc:ChOk x.orders.length x fst sk) (hcl: ∀r∈fst,r.length<=1048576)
  (s:St) (l:List (St×Int)) (hv:StV x.orders.length s) (hl:Okm x.orders.length m x fst sk l) :
  ACalls Tryz.prog 122 [.ptr 1 0,.p (Bm s)] (Y4 x (.list fc (fst.map WD)) (.list sc (sk.map eI)) m l++ [X]) fun y H'=> ∃l' A B,Okm x.orders.length m x fst sk l'/\(A,B)=Yr x.orders.length m x fst sk 20 s /\
   y= .tup [.sl 4 0 A.length A.length,.p (.list false (B.map eI))]/\H'=Y4 x (.list fc (fst.map WD)) (.list sc (sk.map eI)) m l'++ [X,.cells (List.replicate 8 .junk),.elems 7 (A.map Xx)]:=by
 obtain ⟨i,v,a0,a1,a2,a3,a4,a5,rfl⟩:=YW hv.len;obtain ⟨D,hD⟩: ∃D,D=20:=⟨20,rfl⟩;obtain ⟨R,hR⟩: ∃R,R=Yr x.orders.length m x fst sk D ⟨i,v,[a0,a1,a2,a3,a4,a5]⟩:=⟨_,rfl⟩;rw [<- hD,<- hR];have hi0:=hv.ix;simp only at hi0;refine Zf [20] Tryz.func122 rfl ZbD ?_;simp (disch:=omega) only [Tryz.f122,ZO,ZD,Y4,V1,Zr,Zn,go_sem,seval]
 refine ZZ [20] [0,3] (fun q:Nat×St×List (St×Int)×List Col×List Int=> [(6,.sl 4 0 q.2.2.2.1.length q.2.2.2.1.length),(7,.sl 5 0 q.2.2.2.2.length q.2.2.2.2.length)])
  (fun q=>Y4 x (.list fc (fst.map WD)) (.list sc (sk.map eI)) m q.2.2.1++ [X,B2 q.2.1,.elems 7 (q.2.2.2.1.map Xx),.elems 1 (q.2.2.2.2.map eI)])
  (fun q=>q.1<=D/\StV x.orders.length q.2.1/\(x.orders.length:Int)-q.2.1.ix<q.1/\Okm x.orders.length m x fst sk q.2.2.1/\(q.2.2.2.1.length:Int)<=q.2.1.ix/\(q.2.2.2.2.length:Int)<=q.2.1.ix/\R=(q.2.2.2.1++(Yr x.orders.length m x fst sk q.1 q.2.1).1,q.2.2.2.2++(Yr x.orders.length m x fst sk q.1 q.2.1).2))
  (fun q=>q.1) (D,⟨i,v,[a0,a1,a2,a3,a4,a5]⟩,l,[],[]) ⟨Zb,hv,by grind,hl,by grind,by grind,by rw [hR];rfl⟩
  (Weak.ofNil 6 7 (by simp (disch:=omega) only [go_sem,seval]) Zb (Weak.ofNil 7 1 (by simp (disch:=omega) only [go_sem,seval]) Zb (Weak.mk ?_))) ?_
 ·simp (disch:=omega) only [hX,Y4,V1,B2,Zr,Zn,ZO,ZD,ZG,go_sem,seval,↓reduceIte]
 ·rintro ⟨d,s,l1,A,B⟩ ⟨hd1,hsv,hd,hl1,hA,hB,hq⟩;simp only at hd1 hsv hd hl1 hA hB hq;clear hv hR hi0;obtain ⟨i,v,a0,a1,a2,a3,a4,a5,rfl⟩:=YW hsv.len;have hi0:=hsv.ix;simp only at hi0 hd hA hB hq;obtain ⟨i,rfl⟩: ∃k:Nat,i=k:=⟨i.toNat,Za⟩;obtain ⟨d,rfl⟩: ∃k,d=k+1:=⟨d-1,Za⟩;refine G6 ?_;refine Xq ?_;refine Zc ?_;refine cD ?_ ?_<;>intro h1<;>simp (disch:=omega) only [Sh.out h1,go_sem,seval,↓reduceIte]
  ·have hi2:i<fst.length:=Za
   have hrl:=hcl _ (ZL hi2);have c3:=((E6 x fst sk fc sc m hn hf hs hc hcl 20 ⟨i,v,[a0,a1,a2,a3,a4,a5]⟩ l1 Za hsv (by grind) hl1).mono (fun y H' hq=>(⟨hq,by obtain ⟨l',_,_,rfl⟩:=hq;rfl⟩:_/\H'.length=(Y4 x (.list fc (fst.map WD)) (.list sc (sk.map eI)) m l1).length))).front (by rfl) (by rfl) [X,B2 ⟨i,v,[a0,a1,a2,a3,a4,a5]⟩,.elems 7 (A.map Xx),.elems 1 (B.map eI)];refine ACalls.mono c3 ?_;rintro y H' ⟨H1,⟨l2,hl2,rfl,rfl⟩,rfl⟩;clear hl1 c3;obtain ⟨W,hW⟩: ∃W,W=Wp x.orders.length m x fst sk 20 ⟨i,v,[a0,a1,a2,a3,a4,a5]⟩:=⟨_,rfl⟩
   rw [<- hW]
   have hWr: -1<=W/\W<=20*18014398509481984:=by rw [hW];exact Uv hc 20 _ hsv
   refine G6 ?_;refine Xq (Zc ?_);refine Zk [0,3,7,8,34,35] (fun q:Nat×List (St×Int)=> [(6,.sl 4 0 A.length A.length),(9,.p (.bool false)),(36,.p (.int .i64 q.1))]) (fun q=>Y4 x (.list fc (fst.map WD)) (.list sc (sk.map eI)) m q.2++ [X,B2 ⟨i,v,[a0,a1,a2,a3,a4,a5]⟩,.elems 7 (A.map Xx),.elems 1 (B.map eI)]) (fun q=>q.1<=(nth fst i).length/\Okm x.orders.length m x fst sk q.2/\ ∀j,j<q.1->MA x.orders.length m x fst sk ⟨i,v,[a0,a1,a2,a3,a4,a5]⟩ (nth (nth fst i) j)=false) (fun q=>(nth fst i).length-q.1) (0,l2) ⟨Zb,hl2,fun j hj=>by simp at hj⟩ (Weak.mk ?_) ?_
   ·simp (disch:=omega) only [hX,Y4,V1,B2,Zr,Zn,ZO,ZD,go_sem,seval,↓reduceIte]
   ·rintro ⟨k,l1⟩ ⟨hk,hl1,hno⟩;simp only at hk hl1 hno;refine G6 ?_;refine cD ?_ ?_<;>intro h2<;>simp (disch:=omega) only [Sh.out h2,go_sem,seval,↓reduceIte]
    ·have hk2:k<(nth fst i).length:=Za
     have hm:=ZL hk2;obtain ⟨⟨t0,t1⟩,⟨S,hS,hS2⟩,hb,hp0,hp1⟩:=hc.col i Za _ hm;obtain ⟨C,hC,hC2⟩:=hsv.cov;simp only at hC;have h6:=hc.typ.1;obtain ⟨tt,htt⟩: ∃tt:Nat,(nth (nth fst i) k).typ=tt:=⟨(nth (nth fst i) k).typ.toNat,Za⟩;have cw:=qM x (.list fc (fst.map WD)) (.list sc (sk.map eI)) m l1 ⟨i,v,[a0,a1,a2,a3,a4,a5]⟩ (nth (nth fst i) k) hsv.len Zb hn (by grind) C S tt hC hS htt hC2 hS2 Za h6 hsv.used
     have hmay:YO x ⟨i,v,[a0,a1,a2,a3,a4,a5]⟩ (nth (nth fst i) k)=EQ x ⟨i,v,[a0,a1,a2,a3,a4,a5]⟩ tt C S:=by grind [YO]
     have hwc:VZ x.orders.length m ⟨i,v,[a0,a1,a2,a3,a4,a5]⟩ (nth (nth fst i) k)=Dz x.orders.length m ⟨i,v,[a0,a1,a2,a3,a4,a5]⟩ tt C S:=by grind [VZ]
     have more:MA x.orders.length m x fst sk ⟨i,v,[a0,a1,a2,a3,a4,a5]⟩ (nth (nth fst i) k)=false-> ∀j,j<k+1->MA x.orders.length m x fst sk ⟨i,v,[a0,a1,a2,a3,a4,a5]⟩ (nth (nth fst i) j)=false:=fun h j hj=>by
      grind
     by_cases hy:EQ x ⟨i,v,[a0,a1,a2,a3,a4,a5]⟩ tt C S=true
     ·obtain ⟨v1,v2⟩:=FB (m:=m) hc hsv Za (by simpa using hm) (by grind);rw [hwc] at v1 v2;obtain ⟨j,w,b0,b1,b2,b3,b4,b5,hw⟩:=YW v1.len;rw [if_pos hy,hw] at cw;refine cw.useP (L:= [_,_,_,_,_]) (by rfl) ?_ (by rfl) (by rfl);refine B4 ?_;have c3:=((E6 x fst sk fc sc m hn hf hs hc hcl 20 ⟨j,w,[b0,b1,b2,b3,b4,b5]⟩ l1 Za (hw ▸ v1) (by grind) hl1).mono (fun y H' hq=>(⟨hq,by obtain ⟨l',_,_,rfl⟩:=hq;rfl⟩:_/\H'.length=(Y4 x (.list fc (fst.map WD)) (.list sc (sk.map eI)) m l1).length))).front (by rfl) (by rfl) [X,B2 ⟨i,v,[a0,a1,a2,a3,a4,a5]⟩,.elems 7 (A.map Xx),.elems 1 (B.map eI),LF (nth (nth fst i) k),B2 ⟨j,w,[b0,b1,b2,b3,b4,b5]⟩]
      refine ACalls.mono c3 ?_;rintro y H' ⟨H1,⟨l3,hl3,rfl,rfl⟩,rfl⟩;have hTr:=Uv (m:=m) hc 20 _ v1
      have hsel:MA x.orders.length m x fst sk ⟨i,v,[a0,a1,a2,a3,a4,a5]⟩ (nth (nth fst i) k)=(decide (0<=Wp x.orders.length m x fst sk 20 ⟨j,w,[b0,b1,b2,b3,b4,b5]⟩)&&decide ((nth (nth fst i) k).price+Wp x.orders.length m x fst sk 20 ⟨j,w,[b0,b1,b2,b3,b4,b5]⟩=W)):=by
       rw [MA,hmay,hy,hwc,hw,hW,VS]
      rw [hw] at hTr;generalize Wp x.orders.length m x fst sk 20 ⟨j,w,[b0,b1,b2,b3,b4,b5]⟩=T at hTr hsel;simp (disch:=omega) only [Y4,V1,B2,LF,Zr,Zn,ZO,ZD,go_sem,seval];refine gT ?_ ?_<;>intro h3<;>simp (disch:=omega) only [Sh.out h3,go_sem,seval,↓reduceIte]
      ·refine cD ?_ ?_<;>intro h4<;>simp (disch:=omega) only [Sh.out h4,go_sem,seval,↓reduceIte]
       ·rw [Vr h3,Vr h4,VS] at hsel
        have hp:Yr x.orders.length m x fst sk (d+1) ⟨i,v,[a0,a1,a2,a3,a4,a5]⟩=(nth (nth fst i) k::(Yr x.orders.length m x fst sk d ⟨j,w,[b0,b1,b2,b3,b4,b5]⟩).1,(Yr x.orders.length m x fst sk d ⟨j,w,[b0,b1,b2,b3,b4,b5]⟩).2):=by
         rw [Yr,if_neg (by grind)];simp only [XY,NF hk2 hno hsel,hwc,hw]
        rw [hw] at v1 v2;simp only at v2;rw [hp] at hq;exact ⟨(d,⟨j,w,[b0,b1,b2,b3,b4,b5]⟩,l3,A++ [nth (nth fst i) k],B),⟨Za,v1,by grind,hl3,by grind,by grind,by grind⟩,Za,Weak.mk (by simp (disch:=omega) only [hX,Zr,Zn,XD,ZJ,ZC,ZG,Xt,go_sem,seval])⟩
       ·rw [Qt h4,Bool.and_false] at hsel;exact ⟨(k+1,l3),⟨Za,hl3,more hsel⟩,Za,Weak.mk (by simp (disch:=omega) only [hX,go_sem,seval])⟩
      ·rw [Qt h3,QU] at hsel;exact ⟨(k+1,l3),⟨Za,hl3,more hsel⟩,Za,Weak.mk (by simp (disch:=omega) only [hX,go_sem,seval])⟩
     ·rw [if_neg hy] at cw;refine cw.useP (L:= [_,_,_,_,_]) (by rfl) ?_ (by rfl) (by rfl);refine B4 ?_;exact ⟨(k+1,l1),⟨Za,hl1,more (by rw [MA,hmay,Bool.eq_false_iff.2 hy,QU])⟩,Za,Weak.mk (by simp (disch:=omega) only [hX,go_sem,seval])⟩
    ·have hkl:k=(nth fst i).length:=Za
     subst hkl
     have hp:Yr x.orders.length m x fst sk (d+1) ⟨i,v,[a0,a1,a2,a3,a4,a5]⟩=((Yr x.orders.length m x fst sk d (DY x.orders.length m ⟨i,v,[a0,a1,a2,a3,a4,a5]⟩)).1,(i:Int)::(Yr x.orders.length m x fst sk d (DY x.orders.length m ⟨i,v,[a0,a1,a2,a3,a4,a5]⟩)).2):=by
      simp_all [Yr,tP]
     rw [hp] at hq;have cn:=I3 x (.list fc (fst.map WD)) (.list sc (sk.map eI)) m l1 ⟨i,v,[a0,a1,a2,a3,a4,a5]⟩ hsv.len Zb hn (by grind);obtain ⟨v1,v2⟩:=Mc (m:=m) hsv Za;obtain ⟨j,w,b0,b1,b2,b3,b4,b5,hw⟩:=YW v1.len;rw [hw] at cn v1 v2 hq;simp only at v2;refine cn.useP (L:= [_,_,_,_,_]) (by rfl) ?_ (by rfl) (by rfl);refine B4 ?_;exact ⟨(d,⟨j,w,[b0,b1,b2,b3,b4,b5]⟩,l1,A,B++ [(i:Int)]),⟨Za,v1,by grind,hl1,by grind,by grind,by grind⟩,Za,Weak.mk (by simp (disch:=omega) only [hX,Zr,Zn,XD,ZJ,ZC,ZG,Xt,go_sem,seval])⟩
  ·rw [Yr,if_pos (by grind)] at hq;simp only [Wy] at hq;subst hq;refine Zq (Weak.fz (o:=5) (by rfl)) (Zg [] _ _ _ _ (UX ?_));exact ⟨.tup [.sl 4 0 A.length A.length,.p (.list false (B.map eI))],_,Weak.mk (by simp (disch:=omega) only [hX,hX2,go_sem,seval]),l1,A,B,hl1,rfl,rfl,rfl⟩
def LO (a:List Int) (i:Nat):Nat->Bool
 | 0=>true
 | k+1=>LO a i k&&decide (nth a k≠nth a i)
theorem NK {a:List Int} {i:Nat} : ∀k,LO a i k=true↔ ∀t,t<k->nth a t≠nth a i
 | 0=>by simp [LO]
 | k+1=>by
  rw [LO,ZE,NK k,Zs]
  grind
def bR (a:List Int) (i:Nat):Bool:=LO a i i
theorem CB {a:List Int} {i:Nat} :bR a i=true↔ ∀t,t<i->nth a t≠nth a i:=NK i
def KO (l:List Col) (a:List Int) (T:Int) (i:Nat):Bool:=decide (0<=nth a i)&&(decide ((nth l (nth a i).toNat).typ=T)&&bR a i)
def usdI (l:List Col) (a:List Int) (T:Int):Nat->Nat
 | 0=>0
 | i+1=>usdI l a T i+(if KO l a T i=true then 1 else 0)
def VC (S:Nat) (a:List Int) (j:Int):List Int:=(List.range a.length).map fun i=>if S.testBit i=true then j else nth a i
theorem VX {S:Nat} {a:List Int} {j:Int} :(VC S a j).length=a.length:=by simp [VC]
theorem Xl {S:Nat} {a:List Int} {j:Int} {i:Nat} (h:i<a.length):nth (VC S a j) i=if S.testBit i=true then j else nth a i:=by
 grind [VC,Zh]
def vD (S:Nat) (a:List Int) (k:Nat):Bool:=(List.range a.length).all fun i=> !S.testBit i||(decide (nth a i<0)&&decide (k<=i))
theorem Q1 {S:Nat} {a:List Int} {k:Nat} :vD S a k=true↔ ∀i,i<a.length->S.testBit i=true->nth a i<0/\k<=i:=by
 simp only [vD,Zx,Zz,W8,XM,ZE,Zs]
 grind
def JA (x:Inst) (l:List Col) (a:List Int) (j k:Nat):Bool :=
 (nth l j).set.toNat.testBit k&&(decide ((usdI l a (nth l j).typ a.length:Int)<(nth x.types (nth l j).typ.toNat).count)&&vD (nth l j).set.toNat a k)
def skR (x:Inst) (k:Nat):Int:=(Xm (unsF x k).1).1
def QI (x:Inst) (l:List Col):Nat->List Int->Int->List (List Int×Int)
 | 0,a,p=> [(a,p)]
 | d+1,a,p=>if (nth x.orders (x.orders.length-(d+1))).off=true\/0<=nth a (x.orders.length-(d+1)) then QI x l d a p else
  ((List.range l.length).flatMap fun j=>if JA x l a j (x.orders.length-(d+1))=true then QI x l d (VC (nth l j).set.toNat a j) (p+(nth l j).price) else []) ++
   (if 0<=(nth x.orders (x.orders.length-(d+1))).penalty then QI x l d a (p+skR x (x.orders.length-(d+1))) else [])
theorem Ls (n:Nat) (hn:n<=60):PC 52 [.p (.int .i64 n)] (.int .i64 (pw n:Nat)):=by
 refine Ze Tryz.func52 rfl ZjM ?_;simp (disch:=omega) only [Tryz.f52,go_sem,seval];refine Zk [0] (fun k:Nat=> [(3,.p (.int .i64 (pw k:Nat))),(4,.p (.int .i64 k))]) (fun _=> []) (fun k=>k<=n) (fun k=>n-k) 0 Zb (Weak.mk ?_) ?_
 ·refine Zc ?_;simp [pw]
 ·intro k hk;have h62:pw k<=pw 62:=KD Za;have h63:k<n->pw (k+1)<=pw 62:=fun h=>KD Za;have h64:=Fu k;have h65:=GJ;refine Zc ?_;refine cD ?_ ?_<;>intro h<;>simp (disch:=omega) only [Sh.out h,go_sem,seval,↓reduceIte]
  ·exact ⟨k+1,Za,Za,Weak.mk (by refine Zc ?_;simp [h64])⟩
  grind
theorem LU (s:Nat) (i:Nat) (hs:s<9223372036854775808) (hi:i<=64):PC 130 [.p (.int .i64 s),.p (.int .i64 i)] (.bool (s.testBit i)):=by
 refine Ze Tryz.func130 rfl ZbK ?_;simp (disch:=omega) only [Tryz.f130,go_sem,seval];refine Zk [1] (fun k:Nat=> [(0,.p (.int .i64 (hv s k:Nat))),(5,.p (.int .i64 k))]) (fun _=> []) (fun k=>k<=i) (fun k=>i-k) 0 Zb (Weak.mk ?_) ?_
 ·simp (disch:=omega) only [SS,go_sem,seval]
 ·intro k hk;have e1:=SR s k;have h1:=yW s k;refine Zc ?_;refine ZK ?_ ?_<;>intro h
  ·exact ⟨k+1,Za,Za,Weak.mk (by refine Zc ?_;grind)⟩
  ·have:k=i:=Za
   subst this;rw [lV]
   have:((hv s k:Nat):Int)%2=1↔hv s k%2=1:=Za
   grind
structure Chc where
 found:Bool
 places:List Int
 price:Int
 deriving Inhabited
def UW (x:Inst) (lc:Bool) (l:List Col) (b:Chc):AM.Obj:= .cells [.p (.list x.net.places_c (x.net.places.map eS)),.p (.list x.net.arcs_c (x.net.arcs.map V2)),.p (.list x.types_c (x.types.map X8)),.p (.list x.orders_c (x.orders.map Yo)),.p (.list x.apart_c (x.apart.map eP)),.p (.list x.before_c (x.before.map eP)),.p (.list lc (l.map Xx)),.p (.bool b.found),.p (.list (!b.found) (b.places.map eI)),.p (.int .i64 b.price)]
theorem TU {l:List Col} {a:List Int} {T:Int} : ∀m,usdI l a T m<=m
 | 0=>Zw _
 | m+1=>by
  have:=TU (l:=l) (a:=a) (T:=T) m;rw [usdI];split<;>omega
theorem Dt {P Q:Prop} (h:Q) (e:Q->P:=by intro h;simp (disch:=omega) only [UW,go_sem,seval];exact h):P:=e h
theorem qG (x:Inst) (lc:Bool) (l:List Col) (b:Chc) (a:List Int) (T:Int) (ha:a.length<=1048576) (hr: ∀i,i<a.length-> -1<=nth a i/\nth a i<l.length) (hl:l.length<=1048576) :
  ACalls Tryz.prog 132 [.ptr 0 0,.p (.list false (a.map eI)),.p (.int .i64 T)] [UW x lc l b] fun y H'=>y= .p (.int .i64 (usdI l a T a.length:Nat))/\H'= [UW x lc l b]:=by
 refine Zf [] Tryz.func132 rfl ZbM ?_;simp (disch:=omega) only [Tryz.f132,UW,go_sem,seval];refine Zk [0,1,2] (fun k:Nat=> [(7,.p (.int .i64 (usdI l a T k:Nat))),(8,.p (.int .i64 k))]) (fun _=> [UW x lc l b]) (fun k=>k<=a.length) (fun k=>a.length-k) 0 Zb (Weak.mk ?_) ?_
 ·have h00:((usdI l a T 0:Nat):Int)=0:=rfl;simp (disch:=omega) only [h00,UW,go_sem,seval,↓reduceIte]
 ·intro k hk;have hu:=TU (l:=l) (a:=a) (T:=T) k;refine Dt ?_;refine cD ?_ ?_<;>intro h1<;>simp (disch:=omega) only [Sh.out h1,go_sem,seval,↓reduceIte]
  ·have hk2:k<a.length:=Za
   have hrk:=hr k hk2;refine Xq (Zc ?_);refine gF ?_ ?_<;>intro h2<;>simp (disch:=omega) only [Sh.out h2,go_sem,seval,↓reduceIte]
   ·have e:usdI l a T (k+1)=usdI l a T k:=by grind [usdI,KO]
    exact ⟨k+1,Za,Za,Weak.mk (by simp (disch:=omega) only [e,go_sem,seval])⟩
   ·refine cD ?_ ?_<;>intro h3<;>simp (disch:=omega) only [Sh.out h3,go_sem,seval,↓reduceIte]
    ·have e:usdI l a T (k+1)=usdI l a T k:=by grind [usdI,KO]
     exact ⟨k+1,Za,Za,Weak.mk (by simp (disch:=omega) only [e,go_sem,seval])⟩
    ·have h3':(nth l (nth a k).toNat).typ=T:=Z3.1 h3;refine Zk [0,1,2,7,8] (fun q:Nat=> [(9,.p (.bool (LO a k q))),(10,.p (.int .i64 q))]) (fun _=> [UW x lc l b]) (fun q=>q<=k) (fun q=>k-q) 0 Zb (Weak.mk ?_) ?_
     ·simp (disch:=omega) only [UW,LO,go_sem,seval,↓reduceIte]
     ·intro q hq;refine Dt ?_;refine cD ?_ ?_<;>intro h4<;>simp (disch:=omega) only [Sh.out h4,go_sem,seval,↓reduceIte]
      ·refine ZB 12 mixed Zd Zd (Zc ?_);refine gT ?_ ?_<;>intro h5<;>simp (disch:=omega) only [Sh.out h5,go_sem,seval,↓reduceIte]
       ·exact ⟨q+1,Za,Za,Weak.mk (by simp (disch:=omega) only [LO,h5,VS,go_sem,seval])⟩
       ·exact ⟨q+1,Za,Za,Weak.mk (by simp (disch:=omega) only [LO,h5,QU,go_sem,seval])⟩
      ·have hqk:q=k:=Za
       subst hqk;refine cD ?_ ?_<;>intro h5<;>simp (disch:=omega) only [Sh.out h5,go_sem,seval,↓reduceIte]
       ·have e:usdI l a T (q+1)=usdI l a T q+1:=by grind [usdI,KO,bR]
        exact ⟨q+1,Za,Za,Weak.mk (by simp (disch:=omega) only [e,go_sem,seval])⟩
       ·have e:usdI l a T (q+1)=usdI l a T q:=by grind [usdI,KO,bR]
        exact ⟨q+1,Za,Za,Weak.mk (by simp (disch:=omega) only [e,go_sem,seval])⟩
  ·have hka:k=a.length:=Za
   subst hka;exact we
def Ai (S:Nat) (a:List Int) (j:Int) (k:Nat):List Int:=(List.range a.length).map fun t=>if t<k/\S.testBit t=true then j else nth a t
theorem UC {S:Nat} {a:List Int} {j:Int} {k:Nat} :(Ai S a j k).length=a.length:=by simp [Ai]
theorem Aj {S:Nat} {a:List Int} {j:Int} {k i:Nat} (h:i<a.length):nth (Ai S a j k) i=if i<k/\S.testBit i=true then j else nth a i:=by
 grind [Ai,Zh]
theorem eM {S:Nat} {a:List Int} {j:Int} :Ai S a j 0=a :=
 Qu UC fun i hi=>by simp_all [UC,Aj]
theorem pJ {S:Nat} {a:List Int} {j:Int} :Ai S a j a.length=VC S a j :=
 Qu (by rw [UC,VX]) fun i hi=>by grind [UC,Aj,Xl]
theorem pK {S:Nat} {a:List Int} {j:Int} {k:Nat} (hk:k<a.length) (hb:S.testBit k=true):(Ai S a j k).set k j=Ai S a j (k+1) :=
 Qu (by simp [UC]) fun i hi=>by
  rw [QW,UC] at hi;rw [C2 (by rw [UC];exact hk),Aj hi,Aj hi]
  grind
theorem wR {S:Nat} {a:List Int} {j:Int} {k:Nat} (hb:S.testBit k=false):Ai S a j (k+1)=Ai S a j k:=by
 refine Y0 fun i _=> ?_
 grind
theorem qL (x:Inst) (lc:Bool) (l:List Col) (b:Chc) (a:List Int) (j k:Nat) (ha:0<a.length/\a.length<=60) (hl:l.length<=1048576) (hj:j<l.length) (S:Nat) (hS:(nth l j).set=S) (hS2:S<9223372036854775808) :
  ACalls Tryz.prog 133 [.ptr 0 0,.p (.list false (a.map eI)),.p (.int .i64 j),.p (.int .i64 k)] [UW x lc l b] fun y H'=>y=(if vD S a k=true then .tup [.p (.list false ((VC S a j).map eI)),.p (.bool true)] else .tup [.p (.list true []),.p (.bool false)])/\H'= [UW x lc l b]:=by
 refine Zf [10] Tryz.func133 rfl ZbN ?_;simp (disch:=omega) only [Tryz.f133,UW,go_sem,seval];rw [if_pos ⟨Za,Za⟩];refine Zc ?_;refine ZZ [10] [0,2,3,10] (fun q:Nat=> [(11,.p (.int .i64 q))]) (fun q=> [UW x lc l b,.elems 1 ((Ai S a j q).map eI)]) (fun q=>q<=a.length/\ ∀t,t<q->S.testBit t=true->nth a t<0/\k<=t) (fun q=>a.length-q) 0 ⟨Zb,fun t ht=>Za⟩ (Weak.mk ?_) ?_
 ·simp (disch:=omega) only [eM,UW,go_sem,seval,↓reduceIte]
 ·rintro q ⟨hq,hok⟩;have hul:(Ai S a j q).length=a.length:=UC;refine Dt ?_;rw [if_pos hul];refine Zc ?_;refine cD ?_ ?_<;>intro h1<;>simp (disch:=omega) only [Sh.out h1,go_sem,seval,↓reduceIte]
  ·have hq2:q<a.length:=Za
   rw [hS];refine (LU S q hS2 Za).use (Zc ?_);have hn:=Aj (S:=S) (j:=(j:Int)) (k:=q) hq2;rw [if_neg Za] at hn;refine cD ?_ ?_<;>intro h2<;>simp (disch:=omega) only [Sh.out h2,go_sem,seval,↓reduceIte]
   ·have hq3:q<(Ai S a j q).length:=Za
    simp (disch:=first | omega | (simp only [ZC,ZG,ZJ,Z2,Xi,XN]<;>omega)) only [U4 hq3,hn,hq2,hul,eq_self,go_sem,seval,↓reduceIte];refine gF ?_ ?_<;>intro h3<;>simp (disch:=omega) only [Sh.out h3,go_sem,seval,↓reduceIte]
    ·have hno:vD S a k=false:=by
      grind [Q1]
     exact ⟨.tup [.p (.list true []),.p (.bool false)],_,wk,by rw [hno];rfl,rfl⟩
    ·refine cD ?_ ?_<;>intro h4<;>simp (disch:=omega) only [Sh.out h4,go_sem,seval]
     ·have hno:vD S a k=false:=by
       grind [Q1]
      exact ⟨.tup [.p (.list true []),.p (.bool false)],_,wk,by rw [hno];rfl,rfl⟩
     ·have ZS:((Ai S a j q).map eI).set q (.int .i64 j)=(Ai S a j (q+1)).map eI:=by rw [<- pK hq2 h2,U6];rfl
      simp (disch:=first | omega | (simp only [ZC,ZG,ZJ,Z2,Xi,XN]<;>omega)) only [ZS,hn,eq_self,go_sem,seval,↓reduceIte]
      exact ⟨q+1,⟨Za,fun t ht hb=>by
       grind⟩,Za,wk⟩
   ·have hu:Ai S a j (q+1)=Ai S a j q:=wR h2
    exact ⟨q+1,⟨Za,fun t ht hb=>by
     grind⟩,Za,Weak.mk (by simp (disch:=omega) only [hu,go_sem,seval])⟩
  ·have hqa:q=a.length:=Za
   subst hqa;have hyes:vD S a k=true:=Q1.2 hok;rw [hyes,if_pos rfl,pJ];have hal:(VC S a j).length=a.length:=VX;refine Zq (Weak.fz (o:=1) (by rfl)) ?_;refine Zg [] _ _ _ _ ?_;simp (disch:=omega) only [Zr,Zn,Xa,Z1,hal,eq_self,go_sem,seval];exact ⟨.tup [.p (.list false ((VC S a j).map eI)),.p (.bool true)],_,wk,rfl,rfl⟩
def KG (l:List Col):List Int->List Int->Option Bool
 | x::a,y::b=>if x=y then KG l a b else if x<0\/y<0 then some (decide (0<=x)) else if (nth l x.toNat).typ≠(nth l y.toNat).typ then some (decide ((nth l x.toNat).typ<(nth l y.toNat).typ)) else
   if (nth l x.toNat).set≠(nth l y.toNat).set then some (decide ((nth l x.toNat).set<(nth l y.toNat).set)) else KG l a b
 | _,_=>none
def EI : List Int->List Int->Bool
 | x::a,y::b=>if x=y then EI a b else decide (x<y)
 | _,_=>false
def FU (l:List Col) (a b:List Int):Bool:=match KG l a b with
 | some r=>r
 | none=>EI a b
theorem Nb {l:List Col} :KG l [] []=none:=by simp [KG]
theorem iI : EI [] []=false:=by simp [EI]
theorem SC {α:Type} [Inhabited α] {l:List α} {k:Nat} (h:k<l.length):l.drop k=nth l k::l.drop (k+1):=by
 grind [Zh,Ud]
theorem Jy {l:List Col} {a b:List Int} {r:Bool} (h:KG l a b=some r):FU l a b=r:=by rw [FU,h]
theorem HQ {l:List Col} {a b:List Int} (h:KG l a b=none):FU l a b=EI a b:=by rw [FU,h]
def cO (c:Col):AM.Obj:= .cells ((Xx c).cells.map .p)
theorem PB (x:Inst) (lc:Bool) (l:List Col) (b:Chc) (a d:List Int) (dc:Bool) (ha:a.length<=1048576) (hd:d.length=a.length) (hr: ∀i,i<a.length-> -1<=nth a i/\nth a i<l.length) (hq: ∀i,i<a.length-> -1<=nth d i/\nth d i<l.length) (hl:l.length<=1048576) :
  ACalls Tryz.prog 131 [.ptr 0 0,.p (.list false (a.map eI)),.p (.list dc (d.map eI))] [UW x lc l b] fun y H'=>y= .p (.bool (FU l a d))/\H'= [UW x lc l b]:=by
 obtain ⟨B,hB⟩: ∃B,B=FU l a d:=⟨_,rfl⟩;rw [<- hB];refine Zf [] Tryz.func131 rfl ZbL ?_;simp (disch:=omega) only [Tryz.f131,UW,go_sem,seval];refine Zk [0,1,2] (fun k:Nat=> [(7,.p (.int .i64 k))]) (fun _=> [UW x lc l b]) (fun k=>k<=a.length/\KG l (a.drop k) (d.drop k)=KG l a d) (fun k=>a.length-k) 0 Zb (Weak.mk ?_) ?_
 ·simp (disch:=omega) only [UW,go_sem,seval,↓reduceIte]
 ·rintro k ⟨hk,hb⟩;refine Dt ?_;refine cD ?_ ?_<;>intro h1<;>simp (disch:=omega) only [Sh.out h1,go_sem,seval,↓reduceIte]
  ·have hk2:k<a.length:=Za
   have hk3:k<d.length:=Za
   have hrk:=hr k hk2;have hqk:=hq k hk2;rw [SC hk2,SC hk3,KG] at hb;refine Xq (Zc ?_);refine cD ?_ ?_<;>intro h2<;>simp (disch:=omega) only [Sh.out h2,go_sem,seval,↓reduceIte]
   ·rw [if_pos h2] at hb;exact ⟨k+1,⟨Za,hb⟩,Za,wk⟩
   ·rw [if_neg h2] at hb;refine gF ?_ ?_<;>intro h3<;>simp (disch:=omega) only [Sh.out h3,go_sem,seval,↓reduceIte]
    ·rw [if_pos (.inl h3)] at hb;have e:=Jy hb.symm;exact ⟨.p (.bool B),_,Weak.mk (by simp (disch:=omega) only [hB,e,go_sem,seval]),rfl,rfl⟩
    ·refine cD ?_ ?_<;>intro h4<;>simp (disch:=omega) only [Sh.out h4,go_sem,seval,↓reduceIte]
     ·rw [if_pos (.inr h4)] at hb;have e:=Jy hb.symm;exact ⟨.p (.bool B),_,Weak.mk (by simp (disch:=omega) only [hB,e,go_sem,seval]),rfl,rfl⟩
     ·rw [if_neg Za] at hb;refine XJ [10] 11 mixed Zd Zd Zd Zb (Zc ?_);refine Z0 10 _ _ Zd (by refine Zc ?_;exact ⟨rfl,rfl⟩) (YN ?_);refine Zc ?_;refine XJ [10] 11 mixed Zd Zd Zd Zb (Zc ?_);refine Z0 10 _ _ Zd (by refine Zc ?_;exact ⟨rfl,rfl⟩) (YN ?_);refine Zc ?_;refine cD ?_ ?_<;>intro h5<;>simp (disch:=omega) only [Sh.out h5,go_sem,seval,↓reduceIte]
      ·rw [if_pos h5] at hb;have e:=Jy hb.symm;exact ⟨.p (.bool B),_,Weak.mk (by simp (disch:=omega) only [hB,e,go_sem,seval]),rfl,rfl⟩
      ·rw [if_neg h5] at hb;refine cD ?_ ?_<;>intro h6<;>simp (disch:=omega) only [Sh.out h6,go_sem,seval,↓reduceIte]
       ·rw [if_pos h6] at hb;have e:=Jy hb.symm;exact ⟨.p (.bool B),_,Weak.mk (by simp (disch:=omega) only [hB,e,go_sem,seval]),rfl,rfl⟩
       ·rw [if_neg h6] at hb;exact ⟨k+1,⟨Za,hb⟩,Za,wk⟩
  ·have hka:k=a.length:=Za
   subst hka;rw [Qs,<- hd,Qs,Nb] at hb;have e:=HQ hb.symm;refine Zk [1,2] (fun k:Nat=> [(10,.p (.int .i64 k))]) (fun _=> [UW x lc l b]) (fun k=>k<=a.length/\EI (a.drop k) (d.drop k)=EI a d) (fun k=>a.length-k) 0 Zb (Weak.mk ?_) ?_
   ·simp (disch:=omega) only [UW,go_sem,seval]
   ·rintro k ⟨hk,hb⟩;refine Dt ?_;refine cD ?_ ?_<;>intro h2<;>simp (disch:=omega) only [Sh.out h2,go_sem,seval,↓reduceIte]
    ·have hk2:k<a.length:=Za
     have hk3:k<d.length:=Za
     rw [SC hk2,SC hk3,EI] at hb;refine Xq (Zc ?_);refine ZK ?_ ?_<;>intro h3
     ·rw [if_neg h3] at hb;refine ZB 9 mixed Zd Zd (Zc ?_);exact ⟨.p (.bool B),_,Weak.mk (by simp (disch:=omega) only [hB,e,<- hb,go_sem,seval]),rfl,rfl⟩
     ·rw [if_pos (Z3.1 h3)] at hb;exact ⟨k+1,⟨Za,hb⟩,Za,wk⟩
    ·have hka:k=a.length:=Za
     subst hka;rw [Qs,<- hd,Qs,iI] at hb;exact ⟨.p (.bool B),_,Weak.mk (by simp (disch:=omega) only [hB,e,<- hb,go_sem,seval]),rfl,rfl⟩
def YV (l:List Col) (b:Chc) (q:List Int×Int):Chc:=if b.found=false\/q.2<b.price\/(q.2=b.price/\FU l q.1 b.places=true) then ⟨true,q.1,q.2⟩ else b
def RngA (x:Inst) (l:List Col) (a:List Int):Prop:=a.length=x.orders.length/\ ∀i,i<x.orders.length-> -1<=nth a i/\nth a i<l.length
def ChB (x:Inst) (l:List Col) (b:Chc):Prop:=b.found=true->RngA x l b.places
theorem GZ {x:Inst} {l:List Col} {a:List Int} {S j:Nat} (h:RngA x l a) (hj:j<l.length):RngA x l (VC S a j) :=
 ⟨by rw [VX];exact h.1,fun i hi=>by
  rw [Xl (by rw [h.1];exact hi)]
  split
  ·omega
  ·exact h.2 i hi⟩
theorem AZ {x:Inst} {l:List Col} : ∀(d:Nat) {a:List Int} {p:Int},RngA x l a-> ∀q∈QI x l d a p,RngA x l q.1
 | 0,a,p,h,q,hq=>by
  simp_all [QI]
 | d+1,a,p,h,q,hq=>by
  rw [QI] at hq
  split at hq
  ·exact AZ d h q hq
  ·rw [Xj,XS] at hq;rcases hq with ⟨j,hj,hq⟩ | hq
   ·split at hq
    ·exact AZ d (GZ h (Zz.1 hj)) q hq
    ·simp at hq
   ·split at hq
    ·exact AZ d h q hq
    ·simp at hq
theorem ML {x:Inst} {l:List Col} : ∀ {L:List (List Int×Int)} {b:Chc},ChB x l b->(∀q∈L,RngA x l q.1)->ChB x l (L.foldl (YV l) b)
 | [],_,h,_=>h
 | q::L,b,h,hL=>by
  rw [XO];refine ML (L:=L) ?_ fun q hq=>hL q (XL _ hq);unfold YV
  split
  ·exact fun _=>hL q Zb
  ·exact h
structure ColsR (x:Inst) (l:List Col):Prop where
 n4:x.orders.length<=4
 t6:x.types.length<=6
 len:l.length<=1048576
 col: ∀c∈l,(0<=c.typ/\c.typ<x.types.length)/\(0<=c.price/\c.price<=18014398509481984)/\ ∃S:Nat,c.set=S/\S<16
 sk: ∀k,k<x.orders.length->(nth x.orders k).off=false->0<=(nth x.orders k).penalty->0<=skR x k/\skR x k<=18014398509481984
 us: ∀i,scoR 1152921504606846976 (unsF x i).1
theorem tM {P:Program} {f:FuncId} {az:List V} {z:PV} {O:AM.Obj} {L:List AM.Obj} {B:V->Prop} {t} (h:ACalls P f az [O] fun y H'=>y= .p z/\H'= [O]) (k:B (.p z)) (ha:Xv 1 az=true:=by rfl) (hf:refH 1 [O]=true:=by rfl) :
  bL (fun y=>ACalls P f az (O::L) (Zu (Zu (fun x H'=>x=y/\H'=O::L) ⟨⟩) ⟨⟩)) (Zu B t) :=
 ⟨.p z,h.useP (L:=L) rfl ⟨rfl,rfl⟩ ha hf,k⟩
theorem ZlX {P:Program} {f:FuncId} {az:List V} {v:V} {O:AM.Obj} {L:List AM.Obj} {K:V->List AM.Obj->Prop} (h:ACalls P f az [O] fun y H'=>y=v/\H'= [O]) (k:K v (O::L)) (ha:Xv 1 az=true:=by rfl) (hf:refH 1 [O]=true:=by rfl):ACalls P f az (O::L) K :=
 h.useP (L:=L) rfl k ha hf
def rF (x:Inst) (lc:Bool) (l:List Col) (d:Nat):Prop:= ∀(a:List Int) (p:Int) (b:Chc),d<=x.orders.length->RngA x l a->0<=p->p+(d:Int)*18014398509481984<=90071992547409920->ChB x l b ->
  ACalls Tryz.prog 85 [.ptr 0 0,.p (.list false (a.map eI)),.p (.int .i64 ((x.orders.length-d:Nat):Int)),.p (.int .i64 p)] [UW x lc l b] fun y H'=>y= .tup []/\H'= [UW x lc l ((QI x l d a p).foldl (YV l) b)]
theorem xH (x:Inst) (lc:Bool) (l:List Col) (hC:ColsR x l):rF x lc l 0:=by
 intro a p b hd ha hp0 hp1 hb;have h4:=hC.n4;have hl:=hC.len;obtain ⟨R,hR⟩: ∃R,R=UW x lc l ((QI x l 0 a p).foldl (YV l) b):=⟨_,rfl⟩;rw [<- hR,Nat.sub_zero];simp only [QI,XO,VR] at hR;refine Zf [] Tryz.func85 rfl yZ ?_;obtain ⟨f,bp,bc⟩:=b
 cases f with
 | false =>
  rw [YV,if_pos (.inl rfl)] at hR;simp (disch:=omega) only [Tryz.f85,UW,W9,go_sem,seval];exact ⟨_,[R],Weak.mk (by simp (disch:=omega) only [hR,UW,YB,go_sem,seval]),rfl,rfl⟩
 | true =>
  simp (disch:=omega) only [Tryz.f85,UW,YB,go_sem,seval];refine gF ?_ ?_<;>intro h1<;>simp (disch:=omega) only [Sh.out h1,go_sem,seval,↓reduceIte]
  ·rw [YV,if_pos (.inr (.inl h1))] at hR;exact ⟨_,[R],Weak.mk (by simp (disch:=omega) only [hR,UW,YB,go_sem,seval]),rfl,rfl⟩
  ·refine gT ?_ ?_<;>intro h2<;>simp (disch:=omega) only [Sh.out h2,go_sem,seval,↓reduceIte]
   ·have hq:=hb rfl;refine ACalls.mono (PB x lc l ⟨true,bp,bc⟩ a bp (!true) (by rw [ha.1];omega) (by rw [ha.1];exact hq.1) (fun i hi=>ha.2 i (by rw [<- ha.1];exact hi)) (fun i hi=>hq.2 i (by rw [<- ha.1];exact hi)) hl) ?_;rintro y H' ⟨rfl,rfl⟩;simp (disch:=omega) only [UW,YB,go_sem,seval];refine cD ?_ ?_<;>intro h3<;>simp (disch:=omega) only [Sh.out h3,go_sem,seval,↓reduceIte]
    ·rw [YV,if_pos (.inr (.inr ⟨h2,h3⟩))] at hR;exact ⟨_,[R],Weak.mk (by simp (disch:=omega) only [hR,UW,YB,go_sem,seval]),rfl,rfl⟩
    ·rw [YV,if_neg (fun h=>h.elim (fun h=>by cases h) fun h=>h.elim (fun h=>h1 h) fun h=>by grind)] at hR;exact ⟨_,[R],Weak.mk (by simp (disch:=omega) only [hR,UW,YB,go_sem,seval]),rfl,rfl⟩
   ·rw [YV,if_neg (fun h=>h.elim (fun h=>by cases h) fun h=>h.elim (fun h=>h1 h) fun h=>h2 h.1)] at hR;exact ⟨_,[R],Weak.mk (by simp (disch:=omega) only [hR,UW,YB,go_sem,seval]),rfl,rfl⟩
theorem xI (x:Inst) (lc:Bool) (l:List Col) (hC:ColsR x l) (d:Nat) (ih:rF x lc l d):rF x lc l (d+1):=by
 intro a p b hd ha hp0 hp1 hb;have h4:=hC.n4;have h6:=hC.t6;have hl:=hC.len;obtain ⟨k,hk⟩: ∃k,k=x.orders.length-(d+1):=⟨_,rfl⟩
 have hk1:k<x.orders.length:=Za
 have hkd:x.orders.length-d=k+1:=Za
 obtain ⟨R,hR⟩: ∃R,R=UW x lc l ((QI x l (d+1) a p).foldl (YV l) b):=⟨_,rfl⟩;rw [<- hR,<- hk];rw [QI,<- hk] at hR;have hla:a.length=x.orders.length:=ha.1
 have hka:k<a.length:=Za
 refine Zf [] Tryz.func85 rfl yZ ?_;simp (disch:=omega) only [Tryz.f85,UW,go_sem,seval]
 have nxt: ∀(a':List Int) (p':Int) (b':Chc) (L:List AM.Obj) (K:V->List AM.Obj->Prop),RngA x l a'->0<=p'->p'+(d:Int)*18014398509481984<=90071992547409920->ChB x l b'->K (.tup []) (UW x lc l ((QI x l d a' p').foldl (YV l) b')::L) ->
   ACalls Tryz.prog 85 [.ptr 0 0,.p (.list false (a'.map eI)),.p (.int .i64 ((k:Int)+1)),.p (.int .i64 p')] (UW x lc l b'::L) K:=fun a' p' b' L K h1 h2 h3 h5 hK=>by
  have hi:=ih a' p' b' Za h1 h2 h3 h5;rw [hkd] at hi;refine ((hi.mono fun y H' hq=>(⟨hq,by grind⟩:_/\H'.length= [UW x lc l b'].length)).front (by rfl) (by rfl) L).mono ?_
  grind
 refine cD ?_ ?_<;>intro h0<;>simp (disch:=omega) only [Sh.out h0,go_sem,seval,↓reduceIte]
 ·omega
 ·cases ho:(nth x.orders k).off with
  | true =>
   rw [if_pos (.inl ho)] at hR;refine Zc ?_;refine nxt a p b [_] _ ha hp0 Za hb (Dt ?_);exact ⟨_,[R],Weak.mk (by simp (disch:=omega) only [hR,UW,go_sem,seval]),rfl,rfl⟩
  | false =>
   refine Zc ?_;refine cD ?_ ?_<;>intro h1<;>simp (disch:=omega) only [Sh.out h1,go_sem,seval]
   ·rw [if_pos (.inr h1)] at hR;refine nxt a p b [_] _ ha hp0 Za hb (Dt ?_);exact ⟨_,[R],Weak.mk (by simp (disch:=omega) only [hR,UW,go_sem,seval]),rfl,rfl⟩
   ·rw [if_neg (by grind)] at hR;obtain ⟨G,hG⟩: ∃G:Nat->List (List Int×Int),G=fun j=>if JA x l a j k=true then QI x l d (VC (nth l j).set.toNat a j) (p+(nth l j).price) else []:=⟨_,rfl⟩;rw [<- hG,List.foldl_append] at hR
    have hGr: ∀q:Nat,q<=l.length-> ∀e∈(List.range q).flatMap G,RngA x l e.1:=fun q hq e he=>by
     obtain ⟨j,hj,he⟩:=XS.1 he;rw [hG] at he;simp only at he
     split at he
     ·exact AZ d (GZ ha (by grind)) e he
     ·simp at he
    have hGs: ∀q:Nat,((List.range (q+1)).flatMap G).foldl (YV l) b=(G q).foldl (YV l) (((List.range q).flatMap G).foldl (YV l) b):=fun q=>by
     grind [X6]
    obtain ⟨B,hB⟩: ∃B:Nat->Chc,B=fun q=>((List.range q).flatMap G).foldl (YV l) b:=⟨_,rfl⟩
    have hBs: ∀q,B (q+1)=(G q).foldl (YV l) (B q):=fun q=>by grind
    have hB0:B 0=b:=by rw [hB];simp
    have hBc: ∀q,q<=l.length->ChB x l (B q):=fun q hq=>by rw [hB];exact ML hb (hGr q hq)
    have hRB:R=UW x lc l ((if 0<=(nth x.orders k).penalty then QI x l d a (p+skR x k) else []).foldl (YV l) (B l.length)):=by rw [hR,hB]
    clear hR hGs hGr hB;refine Zk [0,1,2,3,9] (fun q:Nat=> [(10,.p (.int .i64 q))]) (fun q=> [UW x lc l (B q),Wg (nth x.orders k)]) (fun q=>q<=l.length) (fun q=>l.length-q) 0 Zb (Weak.mk ?_) ?_
    ·simp (disch:=omega) only [UW,Wg,hB0,ho,go_sem,seval,↓reduceIte]
    ·intro q hq;simp (disch:=omega) only [UW,Wg,ho,go_sem,seval];refine cD ?_ ?_<;>intro h2<;>simp (disch:=omega) only [Sh.out h2,go_sem,seval,↓reduceIte]
     ·have hq2:q<l.length:=Za
      obtain ⟨⟨t0,t1⟩,⟨c0,c1⟩,S,hS,hS2⟩:=hC.col _ (Zt hq2);refine Xq (Zc ?_)
      have hST:(nth l q).set.toNat=S:=Za
      have hGq:JA x l a q k=(S.testBit k&&(decide ((usdI l a (nth l q).typ a.length:Int)<(nth x.types (nth l q).typ.toNat).count)&&vD S a k)):=by rw [JA,hST]
      have hnx: ∀c:Bool,JA x l a q k=c->B (q+1)=(if c=true then (QI x l d (VC S a q) (p+(nth l q).price)).foldl (YV l) (B q) else B q):=fun c hc=>by
       rw [hBs,hG];simp only [hST,hc]
       cases c<;>simp
      rw [hS];refine Zo (LU S k Za Za) (Zc ?_);refine gT ?_ ?_<;>intro h3<;>simp (disch:=omega) only [Sh.out h3,go_sem,seval,↓reduceIte]
      ·refine tM (qG x lc l (B q) a (nth l q).typ Za (fun i hi=>ha.2 i Za) hl) (Zc ?_);refine cD ?_ ?_<;>intro h4<;>simp (disch:=omega) only [Sh.out h4,go_sem,seval,↓reduceIte]
       ·have hw:=qL x lc l (B q) a q k ⟨Za,Za⟩ hl hq2 S hS Za
        cases hok:vD S a k with
        | true =>
         rw [hok,if_pos rfl] at hw;refine ZlX hw (Zc ?_);have e:=hnx true (by grind);rw [if_pos rfl] at e;refine nxt (VC S a q) (p+(nth l q).price) (B q) [_] _ (GZ ha hq2) Za Za (hBc q Za) (Dt ?_);exact ⟨q+1,Za,Za,Weak.mk (by simp (disch:=omega) only [e,ho,go_sem,seval])⟩
        | false =>
         rw [hok,if_neg Zb] at hw;refine ZlX hw (Zc ?_);have e:=hnx false (by grind);rw [if_neg Zb] at e;exact ⟨q+1,Za,Za,Weak.mk (by simp (disch:=omega) only [e,ho,go_sem,seval])⟩
       ·have e:=hnx false (by grind);rw [if_neg Zb] at e;exact ⟨q+1,Za,Za,Weak.mk (by simp (disch:=omega) only [e,ho,go_sem,seval])⟩
      ·have e:=hnx false (by grind);rw [if_neg Zb] at e;exact ⟨q+1,Za,Za,Weak.mk (by simp (disch:=omega) only [e,ho,go_sem,seval])⟩
     ·have hql:q=l.length:=Za
      subst hql;refine cD ?_ ?_<;>intro h3<;>simp (disch:=omega) only [Sh.out h3,go_sem,seval,↓reduceIte]
      ·rw [if_pos h3] at hRB;have hsk:=hC.sk k hk1 ho h3;refine Vi (Dx x k Za) (Zc ?_);refine Vi (B9 (unsF x k).1 (hC.us k)) (Zc ?_);have e1:(Xm (unsF x k).1).1=skR x k:=rfl;rw [e1];refine Zc ?_;refine nxt a (p+skR x k) (B l.length) [_,_] _ ha Za Za (hBc _ (Zw _)) (Dt ?_);exact ⟨_,[R],Weak.mk (by simp (disch:=omega) only [hRB,UW,go_sem,seval]),rfl,rfl⟩
      ·rw [if_neg h3] at hRB;exact ⟨_,[R],Weak.mk (by simp (disch:=omega) only [hRB,UW,VR,go_sem,seval]),rfl,rfl⟩
theorem TS (x:Inst) (lc:Bool) (l:List Col) (hC:ColsR x l): ∀d,rF x lc l d
 | 0=>xH x lc l hC
 | d+1=>xI x lc l hC d (TS x lc l hC d)
def F3 (s:Sr):PV:= .agg [.int .i64 s.rdy,.int .i64 s.drv]
@[go_sem] theorem Zos (s:Sr):F3 s= .agg [.int .i64 s.rdy,.int .i64 s.drv]:=Zl rfl rfl
theorem Zla {a b:Sr} :a=b↔a.rdy=b.rdy/\a.drv=b.drv:=by cases a;cases b;simp
theorem uL (l:List Sr) (c:Bool) (s:Sr) (hl:l.length<=1048576):ACalls Tryz.prog 241 [.p (.list c (l.map F3)),.p (F3 s)] [] fun y H'=> ∃i:Int,(0<=i↔s∈l)/\y= .p (.int .i64 i)/\H'= []:=by
 refine Zf [] Tryz.func241 rfl ZcX ?_;simp (disch:=omega) only [Tryz.f241,go_sem,seval];refine Zk [0,3,7] (fun k:Nat=> [(8,.p (.int .i64 k))]) (fun _=> [.cells [.p (.int .i64 s.rdy),.p (.int .i64 s.drv)]]) (fun k=>k<=l.length/\ ∀j,j<k->nth l j≠s) (fun k=>l.length-k) 0 ⟨Zb,fun j hj=>Za⟩ (Weak.mk ?_) ?_
 ·simp (disch:=omega) only [go_sem,seval,↓reduceIte]
 ·rintro k ⟨hk,hno⟩;refine Zc ?_;refine cD ?_ ?_<;>intro h1<;>simp (disch:=omega) only [Sh.out h1,go_sem,seval,↓reduceIte]
  ·have hk2:k<l.length:=Za
   refine Xq (Zc ?_);refine cD ?_ ?_<;>intro h2<;>simp (disch:=omega) only [Sh.out h2,go_sem,seval,↓reduceIte]
   ·exact ⟨.p (.int .i64 k),[],wk,k,⟨fun _=>(Zla.2 h2) ▸ ZL hk2,fun _=>Za⟩,rfl,rfl⟩
   ·exact ⟨k+1,⟨Za,fun j hj=>by
     grind⟩,Za,wk⟩
  ·exact ⟨.p (.int .i64 (-1)),[],wk,-1,⟨fun h=>Za,fun h=>by
    obtain ⟨j,hj,rfl⟩:=ZN.1 h
    grind [Zh]⟩,rfl,rfl⟩
theorem SP (l:List Sr) (c:Bool) (s:Sr) (hl:l.length<=1048576):PC 223 [.p (.list c (l.map F3)),.p (F3 s)] (.bool (decide (s∈l))):=by
 refine Zf [] Tryz.func223 rfl ZcI ?_;simp (disch:=omega) only [Tryz.f223,go_sem,seval];refine ((uL l c s hl).behind (by rfl) _).mono ?_;rintro y H' ⟨y1,H1,⟨i,hi,rfl,rfl⟩,rfl,rfl⟩
 have e:decide (0<=i)=decide (s∈l):=by grind
 simp (disch:=omega) only [shV,Zn,e,go_sem,seval];exact ⟨.p (.bool (decide (s∈l))),[],wk,rfl,rfl⟩
theorem cC {l:List Sr} {s:Sr} :(UV l s).length<=l.length+1:=by grind [UV]
theorem Rf (l:List Sr) (s:Sr) (hl:l.length<=1048576):ACalls Tryz.prog 196 [.sl 0 0 l.length l.length,.p (F3 s)] [.elems 2 (l.map F3)] fun y H'=>y= .sl 0 0 (UV l s).length (UV l s).length/\H'= [.elems 2 ((UV l s).map F3)]:=by
 obtain ⟨M,hM⟩: ∃M,M=UV l s:=⟨_,rfl⟩;rw [<- hM];refine Zf [] Tryz.func196 rfl mA ?_;simp (disch:=omega) only [Tryz.f196,go_sem,seval];refine ACalls.view (SP l false s hl) (by simp [vws,vw,oat,MG]<;>rfl) (by rfl) ?_;refine Zc ?_;refine cD ?_ ?_<;>intro h<;>simp (disch:=omega) only [Sh.out h,go_sem,seval,↓reduceIte]
 ·have e:M=l:=by simp_all [UV]
  exact ⟨.sl 0 0 M.length M.length,[.elems 2 (M.map F3)],Weak.mk (by simp (disch:=omega) only [e,go_sem,seval]),rfl,rfl⟩
 ·have e:M=l++ [s]:=by simp_all [UV]
  exact ⟨.sl 0 0 M.length M.length,[.elems 2 (M.map F3)],Weak.mk (by simp (disch:=omega) only [e,XD,Zr,Zn,ZJ,ZC,ZG,Xt,go_sem,seval]),rfl,rfl⟩
theorem uP (s:Sr):ACalls Tryz.prog 196 [.p (.list true []),.p (F3 s)] [] fun y H'=>y= .sl 0 0 1 1/\H'= [.elems 2 [F3 s]]:=by
 refine UY (fn:=Tryz.f196) (by rfl) Tryz.func196 rfl mA ?_;simp (disch:=omega) only [Tryz.f196,go_sem,seval];refine (SP [] true s Zb).use ?_;simp (disch:=omega) only [We,Kg,go_sem,seval];exact ⟨2,rfl,rfl⟩
def YE (x:Inst) (k:Int) (S tot:Nat) (b:Col×Bool):AM.Obj:= .cells [.p (.list x.net.places_c (x.net.places.map eS)),.p (.list x.net.arcs_c (x.net.arcs.map V2)),.p (.list x.types_c (x.types.map X8)),.p (.list x.orders_c (x.orders.map Yo)),.p (.list x.apart_c (x.apart.map eP)),.p (.list x.before_c (x.before.map eP)),.p (.int .i64 k),.p (.int .i64 S),.p (.int .i64 tot),.p (.int .i64 b.1.typ),.p (.int .i64 b.1.set),.p (.int .i64 b.1.price),.p (.int .i64 b.1.route.typ),.p (.int .i64 b.1.route.start),.p (.list b.1.route.rests_c (b.1.route.rests.map eB)),.p (.list b.1.route.visits_c (b.1.route.visits.map Z7)),.p (.bool b.2)]
theorem BV {t:Typ} {l:List Sr} {d v:Int} :(VW t l d v).length<=l.length+2:=by
 grind [VW,UV]
theorem wF (x:Inst) (k:Int) (S tot:Nat) (b:Col×Bool) (stop:Stp) (l:List Sr) (d v:Int) (hk:0<=k/\k<x.types.length) (ht:x.types.length<=1048576) (hl:l.length<=1000000) (hd:0<=d/\d<=1048576) (hr:0<=(nth x.types k.toNat).rest/\(nth x.types k.toNat).rest<=1048576) :
  ACalls Tryz.prog 163 [.ptr 0 0,.sl 3 0 l.length l.length,.p (.int .i64 d),.p (.int .i64 v)] [YE x k S tot b,.cells ((Bj stop).map .p),.cells ((KS (nth x.types k.toNat)).map .p),.elems 2 (l.map F3)] fun y H'=>y= .sl 3 0 (VW (nth x.types k.toNat) l d v).length (VW (nth x.types k.toNat) l d v).length/\H'= [YE x k S tot b,.cells ((Bj stop).map .p),.cells ((KS (nth x.types k.toNat)).map .p),.elems 2 ((VW (nth x.types k.toNat) l d v).map F3)]:=by
 obtain ⟨L1,h1⟩: ∃L1,L1=UV l ⟨d,v⟩:=⟨_,rfl⟩;obtain ⟨L2,h2⟩: ∃L2,L2=VW (nth x.types k.toNat) l d v:=⟨_,rfl⟩
 have h12:UV L1 ⟨d+(nth x.types k.toNat).rest,0⟩=L2:=by rw [h1,h2];rfl
 have hl1:L1.length<=l.length+1:=by rw [h1];exact cC
 rw [<- h2];have c1:=Rf l ⟨d,v⟩ Za;have c2:=Rf L1 ⟨d+(nth x.types k.toNat).rest,0⟩ Za;rw [<- h1] at c1;rw [h12] at c2;obtain ⟨O,hO⟩: ∃O,O=YE x k S tot b:=⟨_,rfl⟩;refine Zf [] Tryz.func163 rfl lY ?_;simp (disch:=omega) only [Tryz.f163,Bj,KS,Zr,Zn,go_sem,seval];refine ACalls.mono (c1.back [YE x k S tot b,.cells ((Bj stop).map .p),.cells ((KS (nth x.types k.toNat)).map .p)] (by rfl)) ?_;rintro y H' ⟨y1,H1,⟨rfl,rfl⟩,rfl,rfl⟩;simp (disch:=omega) only [shV,shO,YE,Bj,KS,Zr,Zn,ZO,ZD,go_sem,seval]
 refine ZB 16 mixed Zd Zd (Zc ?_);refine ACalls.mono (c2.back [YE x k S tot b,.cells ((Bj stop).map .p),.cells ((KS (nth x.types k.toNat)).map .p)] (by rfl)) ?_;rintro y H' ⟨y1,H1,⟨rfl,rfl⟩,rfl,rfl⟩;simp (disch:=omega) only [shV,shO,YE,Bj,KS,Zr,Zn,ZO,ZD,go_sem,seval];exact ⟨.sl 3 0 L2.length L2.length,[YE x k S tot b,.cells ((Bj stop).map .p),.cells ((KS (nth x.types k.toNat)).map .p),.elems 2 (L2.map F3)],Weak.mk (by simp (disch:=omega) only [YE,Bj,KS,Zr,Zn,go_sem,seval]),rfl,rfl⟩
def Hx (s:Stp) (a:Int):Int×Int:=if s.cls<max a s.opn then (0,14) else (max a s.opn+s.serv,0)
theorem jU (s:Stp) (a:Int) (ha: -1099511627776<=a/\a<=1099511627776) (hs:0<=s.serv/\s.serv<=1048576) (ho: -1099511627776<=s.opn/\s.opn<=1099511627776):PT 222 [.p (F4 s),.p (.int .i64 a)] [.p (.int .i64 (Hx s a).1),.p (.int .i64 (Hx s a).2)]:=by
 refine Zf [] Tryz.func222 rfl ZcH ?_;simp (disch:=omega) only [Tryz.f222,go_sem,seval];refine Vi (Sl s a) ?_
 have hm: -1099511627776<=max a s.opn/\max a s.opn<=1099511627776:=Za
 by_cases h:s.cls<max a s.opn
 ·have e:FV s a=(0,14):=by simp_all [FV]
  have e2:Hx s a=(0,14):=by rw [Hx,if_pos h]
  rw [e,e2];refine Zc ?_;exact we
 ·have e:FV s a=(max a s.opn,0):=by simp_all [FV]
  have e2:Hx s a=(max a s.opn+s.serv,0):=by rw [Hx,if_neg h]
  rw [e,e2];refine Zc ?_;exact we
def Hl (m:Int) (st:List Sr):Prop:= ∀a∈st,(0<=a.rdy/\a.rdy<=16384)/\(-m<=a.drv/\a.drv<=4096)
theorem xO (x:Inst) (k:Int) (S tot:Nat) (b:Col×Bool) (p:Int) (st:List Sr) (c:Bool) (stop:Stp) (m:Int) (hm:0<=m/\m<=1048576) (hk:0<=k/\k<x.types.length) (ht:x.types.length<=1048576) (hT:TrpOk x (nth x.types k.toNat) [stop]) (hl:st.length<=1000) (hst:Hl m st) :
  ACalls Tryz.prog 194 [.ptr 0 0,.p (.int .i64 p),.p (.list c (st.map F3)),.p (F4 stop)] [YE x k S tot b] fun y H'=>y= .p (.list false ((Eo x (nth x.types k.toNat) p st stop).map F3))/\H'= [YE x k S tot b]:=by
 obtain ⟨W,hV⟩: ∃W:Nat->List Sr,W=fun q=>(st.take q).foldl (JT x (nth x.types k.toNat) p stop) []:=⟨_,rfl⟩
 have hV0:W 0= []:=by rw [hV];rfl
 have hVn:Eo x (nth x.types k.toNat) p st stop=W st.length:=by grind [Eo]
 have hVs: ∀q,q<st.length->W (q+1)=JT x (nth x.types k.toNat) p stop (W q) (nth st q):=fun q hq=>by
  grind [XZ,Zh]
 have hVl: ∀q,q<=st.length->(W q).length<=2*q:=fun q=>by
  induction q with
  | zero=>grind
  | succ q ih =>
   intro hq;rw [hVs q Za];have:=ih Za;unfold JT
   split
   ·omega
   ·split
    ·omega
    grind [BV]
 rw [hVn];clear hV hVn;refine Zf [12] Tryz.func194 rfl Zcr ?_;simp (disch:=omega) only [Tryz.f194,YE,go_sem,seval];refine XJ [11] 12 mixed Zd Zd Zd Zb (Zc ?_);refine Z0 11 _ _ Zd (by refine Zc ?_;exact ⟨rfl,rfl⟩) (YN ?_);refine Zc ?_;refine ZZ [12] [0,1,7,9,28,29] (fun q:Nat=> [(10,.sl 3 0 (W q).length (W q).length),(30,.p (.int .i64 q))]) (fun q=> [YE x k S tot b,.cells ((Bj stop).map .p),.cells ((KS (nth x.types k.toNat)).map .p),.elems 2 ((W q).map F3)]) (fun q=>q<=st.length) (fun q=>st.length-q) 0 Zb (Weak.ofNil 10 2 (by simp (disch:=omega) only [go_sem,seval]) Zb (Weak.mk ?_)) ?_
 ·simp (disch:=omega) only [hV0,YE,Bj,KS,Zr,Zn,ZG,go_sem,seval,↓reduceIte]
 ·intro q hq;have hql:=hVl q hq;simp (disch:=omega) only [YE,Bj,KS,Zr,Zn,go_sem,seval];refine cD ?_ ?_<;>intro h1<;>simp (disch:=omega) only [Sh.out h1,go_sem,seval,↓reduceIte]
  ·have hq2:q<st.length:=Za
   obtain ⟨a1,a2⟩:=hst _ (ZL hq2);have hsn:=hVs q hq2;have hg:=(LQ (n:=x.net) (pr:=(nth x.types k.toNat).prof) (f:=p) (t:=stop.place) (τ:=(nth st q).rdy) hT.net hT.mil Za).1;refine Xq (Zc ?_);refine BJ (zM x.net (nth x.types k.toNat).prof p stop.place (nth st q).rdy hT.net Za) (Zc ?_);refine gF ?_ ?_<;>intro h2<;>simp (disch:=omega) only [Sh.out h2,go_sem,seval,↓reduceIte]
   ·have e:W (q+1)=W q:=by simp_all [JT]
    exact ⟨q+1,Za,Za,Weak.mk (by simp (disch:=omega) only [e,go_sem,seval])⟩
   ·refine cD ?_ ?_<;>intro h3<;>simp (disch:=omega) only [Sh.out h3,go_sem,seval,↓reduceIte]
    ·have e:W (q+1)=W q:=by simp_all [JT]
     exact ⟨q+1,Za,Za,Weak.mk (by simp (disch:=omega) only [e,go_sem,seval])⟩
    ·obtain ⟨z1,z2,z3,z4,z5⟩:=hT.stp stop Zb;obtain ⟨r1,r2⟩:=hT.rst;refine Vi (jU stop (W5 x.net (nth x.types k.toNat).prof p stop.place (nth st q).rdy).1 Za Za Za) ?_
     by_cases hc:stop.cls<max (W5 x.net (nth x.types k.toNat).prof p stop.place (nth st q).rdy).1 stop.opn
     ·have e2:Hx stop (W5 x.net (nth x.types k.toNat).prof p stop.place (nth st q).rdy).1=(0,14):=by rw [Hx,if_pos hc]
      rw [e2];refine Zc ?_
      have e:W (q+1)=W q:=by simp_all [JT]
      exact ⟨q+1,Za,Za,Weak.mk (by simp (disch:=omega) only [e,go_sem,seval])⟩
     ·have e2:Hx stop (W5 x.net (nth x.types k.toNat).prof p stop.place (nth st q).rdy).1=(max (W5 x.net (nth x.types k.toNat).prof p stop.place (nth st q).rdy).1 stop.opn+stop.serv,0):=by rw [Hx,if_neg hc]
      rw [e2];refine Zc ?_
      have e:W (q+1)=VW (nth x.types k.toNat) (W q) (max (W5 x.net (nth x.types k.toNat).prof p stop.place (nth st q).rdy).1 stop.opn+stop.serv) ((nth st q).drv+(W5 x.net (nth x.types k.toNat).prof p stop.place (nth st q).rdy).1-(nth st q).rdy):=by simp_all [JT,if_neg]
      have cr:=wF x k S tot b stop (W q) (max (W5 x.net (nth x.types k.toNat).prof p stop.place (nth st q).rdy).1 stop.opn+stop.serv) ((nth st q).drv+(W5 x.net (nth x.types k.toNat).prof p stop.place (nth st q).rdy).1-(nth st q).rdy) hk ht Za Za Za;rw [<- e] at cr;refine cr.useP (L:= [_]) (by rfl) ?_ (by rfl) (by rfl);simp (disch:=omega) only [YE,Bj,KS,Zr,Zn,ZO,ZD,go_sem,seval];exact ⟨q+1,Za,Za,wk⟩
  ·have hqs:q=st.length:=Za
   subst hqs;refine Zq (Weak.fz (o:=3) (by rfl)) ?_;refine Zg [] _ _ _ _ ?_;simp (disch:=omega) only [Zr,Zn,Xa,Z1,eq_self,go_sem,seval];exact ⟨.p (.list false ((W st.length).map F3)),[YE x k S tot b],Weak.mk (by simp (disch:=omega) only [YE,go_sem,seval]),rfl,rfl⟩
theorem PK (a b:Col) (ha:a.route.visits.length<=1048576) (hb:b.route.visits.length<=1048576):PC 191 [.p (Xx a),.p (Xx b)] (.bool (Wv a b)):=by
 refine Ze Tryz.func191 rfl Zco ?_;simp (disch:=omega) only [Tryz.f191,go_sem,seval];refine cD ?_ ?_<;>intro h<;>simp (disch:=omega) only [Sh.out h,go_sem,seval,↓reduceIte]
 ·rw [Wv,if_pos h]
 ·refine (eJ a.route.visits b.route.visits a.route.visits_c b.route.visits_c ha hb).use (Zc ?_);rw [Wv,if_neg h]
theorem tQ (a b:Col) (f:Bool) (ha:a.route.visits.length<=1048576) (hb:b.route.visits.length<=1048576):PC 190 [.p (Xx a),.p (.bool f),.p (Xx b),.fn (.func 191) [] []] (Xx (if f=false\/Wv b a=true then b else a)):=by
 refine Ze Tryz.func190 rfl Zcn ?_
 cases f with
 | false =>
  simp (disch:=omega) only [Tryz.f190,W9,go_sem,seval,↓reduceIte]
 | true =>
  simp (disch:=omega) only [Tryz.f190,YB,go_sem,seval];refine (PK b a hb ha).use (Zc ?_)
  cases h:Wv b a with
  | true=>simp (disch:=omega) only [go_sem,seval]
  | false=>simp (disch:=omega) only [go_sem,seval]
theorem ZkC {x:Inst} (hx:InstOk x) {S:Nat} {l:List Vis} {v:Vis} (hv:v∈C3 x S l) {k:Int} (hk:0<=k/\k<x.types.length):NR x v=true/\0<=(Xp x v).place/\TrpOk x (nth x.types k.toNat) [Xp x v]:=by
 obtain ⟨i,hi,_,_,h4,_⟩:=VT.1 hv;have ho:=Yj h4
 have hpl:0<=(Xp x v).place:=by
  unfold ZW at h4;unfold Xp;rw [ho,XY]
  grind
 obtain ⟨t1,t2,t3,_⟩:=WU hx (show k.toNat<x.types.length by omega);obtain ⟨n1,n2⟩:=Tl hx.net;refine ⟨by simp [NR,ho,hi],hpl,n1,n2,t1,t2,t3,fun s hs=> ?_,Zb⟩
 obtain rfl:s=Xp x v:=by grind
 have hor:=hx.orders.2 i hi;have hp:=hor.pstp;have hd:=hor.dstp;simp only [stpOk,Zs] at hp hd;unfold Xp at hpl ⊢;rw [ho,XY] at hpl ⊢
 split
 ·omega
 omega
theorem xN {x:Inst} {t:Typ} {p:Int} {stop:Stp} (hT:TrpOk x t [stop]) {m:Int} {out:List Sr} {a:Sr} (hm:0<=m) (ho:Hl (m+16384) out) (ha:(0<=a.rdy/\a.rdy<=16384)/\(-m<=a.drv/\a.drv<=4096)):Hl (m+16384) (JT x t p stop out a)/\(JT x t p stop out a).length<=out.length+2:=by
 have hg:=(LQ (n:=x.net) (pr:=t.prof) (f:=p) (t:=stop.place) (τ:=a.rdy) hT.net hT.mil Za).1;obtain ⟨z1,z2,z3,z4,z5⟩:=hT.stp stop Zb;obtain ⟨r1,r2⟩:=hT.rst;have hd:=hT.drv;unfold JT
 split
 ·grind
 ·rename_i c1
  split
  ·grind
  ·rename_i c2;refine ⟨fun b hb=> ?_,BV⟩;have c3: ¬t.drive<a.drv+(W5 x.net t.prof p stop.place a.rdy).1-a.rdy:=fun h=>c1 (.inr h);rcases Vt.1 hb with h | rfl | rfl
   ·exact ho b h
   ·grind
   grind
theorem I2 {x:Inst} {t:Typ} {p:Int} {stop:Stp} (hT:TrpOk x t [stop]) {m:Int} (hm:0<=m): ∀(st out:List Sr),Hl (m+16384) out->Hl m st->Hl (m+16384) (st.foldl (JT x t p stop) out)/\(st.foldl (JT x t p stop) out).length<=out.length+2*st.length
 | [],out,ho,_=>⟨ho,Zb⟩
 | a::st,out,ho,hs=>by
  obtain ⟨g1,g2⟩:=xN hT (p:=p) hm ho (hs a Zb);obtain ⟨k1,k2⟩:=I2 hT (p:=p) hm st _ g1 fun b hb=>hs b (XL _ hb);rw [XO];exact ⟨k1,by simp only [ZC];omega⟩
def R7 (x:Inst) (k:Int) (S tot f:Nat):Prop:= ∀(l:List Vis) (c:Bool) (p:Int) (st:List Sr) (b:Col×Bool),l.length+f=tot->(c=true->0<f)->Hl (16384*(l.length:Int)) st->st.length<=2^(l.length+1)->b.1.route.visits.length<=1048576 ->
  ACalls Tryz.prog 162 [.ptr 0 0,.p (.list c (l.map Z7)),.p (.int .i64 p),.p (.list false (st.map F3))] [YE x k S tot b] fun y H'=>y= .tup []/\H'= [YE x k S tot ((S7 x k S f l (p,st)).foldl (XI (GB x k) (YX x k S) Wv) b)]
theorem ZeI (x:Inst) (hx:InstOk x) (k:Int) (S tot:Nat) (ht:tot<=8) (hk:0<=k/\k<x.types.length) (htl:x.types.length<=1048576):R7 x k S tot 0:=by
 intro l c p st b hlf hc hs1 hs2 hb
 have hc:c=false:=by grind
 subst hc
 have hll:l.length=tot:=Za
 obtain ⟨R,hR⟩: ∃R,R=YE x k S tot ((S7 x k S 0 l (p,st)).foldl (XI (GB x k) (YX x k S) Wv) b):=⟨_,rfl⟩;rw [<- hR];simp only [S7,lvW,XO,VR] at hR;obtain ⟨⟨bt,bs,bp,br⟩,bf⟩:=b;have hpr:=Ov x (Jr k l);refine Zf [] Tryz.func162 rfl lX ?_;simp (disch:=omega) only [Tryz.f162,YE,go_sem,seval];refine cD ?_ ?_<;>intro h1<;>simp (disch:=omega) only [Sh.out h1,go_sem,seval,↓reduceIte]
 ·refine Xq (Zc ?_);refine JE (eC x (Jr k l) hx ⟨by grind [Jr],by simp [Jr]⟩) (Zc ?_);refine cD ?_ ?_<;>intro h2<;>simp (disch:=omega) only [Sh.out h2,go_sem,seval]
  ·have hok:GB x k l=true:=Vr h2;have hcol:(⟨k,(S:Int),(Ye x (Jr k l)).1,⟨k,0,true,[],false,l⟩⟩:Col)=YX x k S l:=rfl;refine XJ [11] 12 mixed Zd Zd Zd Zb (Zc ?_);refine Z0 11 _ _ Zd (by refine Zc ?_;exact ⟨rfl,rfl⟩) (YN ?_);refine Zc ?_;refine ZB 11 mixed Zd Zd (Zc ?_);refine Zo (tQ ⟨bt,bs,bp,br⟩ (YX x k S l) bf hb (by grind)) ?_
   have hR2:R=YE x k S tot (if bf=false\/Wv (YX x k S l) ⟨bt,bs,bp,br⟩=true then YX x k S l else ⟨bt,bs,bp,br⟩,true):=by
    rw [hR,XI]
    grind
   generalize (if bf=false\/Wv (YX x k S l) ⟨bt,bs,bp,br⟩=true then YX x k S l else ⟨bt,bs,bp,br⟩)=C at hR2 ⊢;refine Zc ?_;exact ⟨.tup [],[R],Weak.mk (by simp (disch:=omega) only [hR2,YE,go_sem,seval]),rfl,rfl⟩
  ·have hok:GB x k l=false:=Qt h2;rw [XI,if_neg (fun h=>by grind)] at hR;exact ⟨.tup [],[R],Weak.mk (by simp (disch:=omega) only [hR,YE,go_sem,seval]),rfl,rfl⟩
 ·omega
theorem L9 {x:Inst} {k:Int} {S:Nat} : ∀(f:Nat) (l:List Vis) (s:Int×List Sr),∀m∈S7 x k S f l s,m.length=l.length+f
 | 0,l,s,m,hm=>by
  simp_all [S7,lvW]
 | f+1,l,s,m,hm=>by
  simp only [S7,lvW,XS] at hm;obtain ⟨v,_,hm⟩:=hm
  split at hm
  ·simp at hm
  ·have:=L9 f (l++ [v]) _ m hm;simp at this;omega
theorem O5 {x:Inst} {k:Int} {S N:Nat} : ∀(L:List (List Vis)) (b:Col×Bool),b.1.route.visits.length<=N->(∀m∈L,m.length<=N)->(L.foldl (XI (GB x k) (YX x k S) Wv) b).1.route.visits.length<=N
 | [],b,h,_=>h
 | m::L,b,h,hL=>by
  rw [XO];refine O5 L _ ?_ fun q hq=>hL q (XL _ hq);unfold XI
  split
  ·exact hL m Zb
  ·exact h
theorem ZeJ (x:Inst) (hx:InstOk x) (k:Int) (S tot f:Nat) (ht:tot<=8) (hk:0<=k/\k<x.types.length) (htl:x.types.length<=1048576) (hbl:x.before.length<=1048576) (hS:S<9223372036854775808) (ih:R7 x k S tot f):R7 x k S tot (f+1):=by
 intro l c p st b hlf hc hs1 hs2 hb;have hf:=Xz hx
 have hn:x.orders.length<=60:=by have:=hf.len;omega
 obtain ⟨R,hR⟩: ∃R,R=YE x k S tot ((S7 x k S (f+1) l (p,st)).foldl (XI (GB x k) (YX x k S) Wv) b):=⟨_,rfl⟩;rw [<- hR];have hpw:2^(l.length+1)<=2^8:=YA Za Za
 have hpw2:2^(l.length+1+1)=2*2^(l.length+1):=Za
 have hnl:=JL x S l x.orders.length;have hokv: ∀v∈nextU x S l x.orders.length,NR x v=true/\0<=(Xp x v).place/\TrpOk x (nth x.types k.toNat) [Xp x v]:=fun v hv=>ZkC hx hv hk;obtain ⟨G,hG⟩: ∃G:Vis->List (List Vis),G=fun v=>if (goS x (nth x.types k.toNat) (p,st) v).2.isEmpty=true then [] else S7 x k S f (l++ [v]) (goS x (nth x.types k.toNat) (p,st) v):=⟨_,rfl⟩
 have hlv:S7 x k S (f+1) l (p,st)=(nextU x S l x.orders.length).flatMap G:=by rw [hG];rfl
 rw [hlv] at hR;have hsn:=eK x S l c hS Za hn hbl (fun q hq=>by have:=(hf.val q hq);omega);generalize hnx:nextU x S l x.orders.length=nx at hnl hokv hR hsn;clear hnx hlv;obtain ⟨B,hB⟩: ∃B:Nat->Col×Bool,B=fun q=>((nx.take q).flatMap G).foldl (XI (GB x k) (YX x k S) Wv) b:=⟨_,rfl⟩
 have hB0:B 0=b:=by rw [hB];rfl
 have hBn:R=YE x k S tot (B nx.length):=by grind
 have hBs: ∀q,q<nx.length->B (q+1)=(G (nth nx q)).foldl (XI (GB x k) (YX x k S) Wv) (B q):=fun q hq=>by
  rw [hB];simp only;rw [XZ hq,List.flatMap_append,List.foldl_append,<- Zh hq];simp
 have hBl: ∀q,(B q).1.route.visits.length<=1048576:=fun q=>by
  rw [hB];refine O5 _ _ hb fun m hm=> ?_;obtain ⟨v,_,hm⟩:=XS.1 hm;rw [hG] at hm;simp only at hm
  split at hm
  ·simp at hm
  ·have:=L9 _ _ _ m hm;simp at this;omega
 clear hR hB;refine Zf [] Tryz.func162 rfl lX ?_;simp (disch:=omega) only [Tryz.f162,YE,go_sem,seval];refine cD ?_ ?_<;>intro h1<;>simp (disch:=omega) only [Sh.out h1,go_sem,seval,↓reduceIte]
 ·omega
 ·refine Xq (Zc ?_);refine Zo (hsn) (Zc ?_);refine Zk [0,1,2,3,77,78] (fun q:Nat=> [(79,.p (.int .i64 q))]) (fun q=> [YE x k S tot (B q)]) (fun q=>q<=nx.length) (fun q=>nx.length-q) 0 Zb (Weak.mk ?_) ?_
  ·simp (disch:=omega) only [YE,hB0,go_sem,seval,↓reduceIte]
  ·intro q hq;simp (disch:=omega) only [YE,go_sem,seval];refine cD ?_ ?_<;>intro h2<;>simp (disch:=omega) only [Sh.out h2,go_sem,seval,↓reduceIte]
   ·have hq2:q<nx.length:=Za
    obtain ⟨v1,v2,v3⟩:=hokv _ (ZL hq2);have hBq:=hBs q hq2;refine XJ [10,11] 12 mixed Zd Zd Zd Zb (Zc ?_);refine JE (Tt x (nth nx q) Za v1 v2) (Zc ?_);refine Z0 10 _ _ Zd (by refine Zc ?_;exact ⟨rfl,rfl⟩) ?_;refine Zc ?_;refine Z0 11 _ _ Zd (by refine Zc ?_;exact ⟨rfl,rfl⟩) (YN ?_);refine Zc ?_
    have hSr0:Hl (16384*(l.length:Int)+16384) []:=fun a ha=>by simp at ha
    obtain ⟨w1,w2⟩:=I2 v3 (p:=p) (m:=16384*(l.length:Int)) Za st [] hSr0 hs1;obtain ⟨N,hN⟩: ∃N,N=Eo x (nth x.types k.toNat) p st (Xp x (nth nx q)):=⟨_,rfl⟩;have cv:=xO x k S tot (B q) p st false (Xp x (nth nx q)) (16384*(l.length:Int)) Za hk htl v3 Za hs1
    have hGq:G (nth nx q)=if N.isEmpty=true then [] else S7 x k S f (l++ [nth nx q]) ((Xp x (nth nx q)).place,N):=by rw [hG,hN];rfl
    rw [<- hN] at cv
    have w1':Hl (16384*(l.length:Int)+16384) N:=by rw [hN];exact w1
    have w2':N.length<=2*st.length:=by grind [Eo]
    refine cv.useP (L:= [_,_]) (by rfl) ?_ (by rfl) (by rfl);simp (disch:=omega) only [YE,ZO,ZD,go_sem,seval];refine cD ?_ ?_<;>intro h3<;>simp (disch:=omega) only [Sh.out h3,go_sem,seval,↓reduceIte]
    ·have hne: ¬N.isEmpty=true:=fun h=>by grind
     rw [hGq,if_neg hne] at hBq
     have ihc:=ih (l++ [nth nx q]) false (Xp x (nth nx q)).place N (B q) (by simp;omega) Zb (by
      have e:16384*(((l++ [nth nx q]).length:Nat):Int)=16384*(l.length:Int)+16384:=by simp;omega
      grind) (by grind) (hBl q)
     rw [<- hBq,XD] at ihc;refine ZB 9 mixed Zd Zd (Zc ?_);refine Zo (Za8 l c Za) (Zc ?_);refine ihc.useP (L:= [_,_]) (by rfl) ?_ (by rfl) (by rfl);simp (disch:=omega) only [YE,ZO,ZD,go_sem,seval];exact ⟨q+1,Za,Za,wk⟩
    ·have he:N.isEmpty=true:=by simp_all
     rw [hGq,if_pos he] at hBq;have hBq':B (q+1)=B q:=hBq;exact ⟨q+1,Za,Za,Weak.mk (by simp (disch:=omega) only [hBq',go_sem,seval])⟩
   ·have hql:q=nx.length:=Za
    subst hql;exact ⟨.tup [],[R],Weak.mk (by simp (disch:=omega) only [hBn,YE,go_sem,seval]),rfl,rfl⟩
theorem Eu (x:Inst) (hx:InstOk x) (k:Int) (S tot:Nat) (ht:tot<=8) (hk:0<=k/\k<x.types.length) (htl:x.types.length<=1048576) (hbl:x.before.length<=1048576) (hS:S<9223372036854775808): ∀f,R7 x k S tot f
 | 0=>ZeI x hx k S tot ht hk htl
 | f+1=>ZeJ x hx k S tot f ht hk htl hbl hS (Eu x hx k S tot ht hk htl hbl hS f)
theorem oS (x:Inst) (k:Int) (S tot:Nat) (b:Col×Bool) (d v:Int) (hk:0<=k/\k<x.types.length) (ht:x.types.length<=1048576) (hd:0<=d/\d<=1048576) (hr:0<=(nth x.types k.toNat).rest/\(nth x.types k.toNat).rest<=1048576) :
  ACalls Tryz.prog 163 [.ptr 0 0,.p (.list true []),.p (.int .i64 d),.p (.int .i64 v)] [YE x k S tot b] fun y H'=>y= .p (.list false ((VW (nth x.types k.toNat) [] d v).map F3))/\H'= [YE x k S tot b]:=by
 obtain ⟨L2,h2⟩: ∃L2,L2=VW (nth x.types k.toNat) [] d v:=⟨_,rfl⟩
 have h12:UV [⟨d,v⟩] ⟨d+(nth x.types k.toNat).rest,0⟩=L2:=by rw [h2];rfl
 rw [<- h2];have c2:=Rf [⟨d,v⟩] ⟨d+(nth x.types k.toNat).rest,0⟩ Zb;rw [h12] at c2;refine Zf [] Tryz.func163 rfl lY ?_;simp (disch:=omega) only [Tryz.f163,go_sem,seval];refine (uP ⟨d,v⟩).useF (Zc ?_);simp (disch:=omega) only [YE,go_sem,seval];refine ZB 16 mixed Zd Zd (Zc ?_);refine ACalls.mono (c2.back [YE x k S tot b] (by rfl)) ?_;rintro y H' ⟨y1,H1,⟨rfl,rfl⟩,rfl,rfl⟩;simp (disch:=omega) only [AM.shV,AM.shO,YE,Zr,Zn,ZO,ZD,go_sem,seval];exact ⟨.p (.list false (L2.map F3)),[YE x k S tot b],(Weak.fz (o:=1) (by rfl)).trans (Weak.mk (by simp (disch:=omega) only [YE,eq_self,Zr,Zn,Xa,Z1,go_sem,seval,↓reduceIte])),rfl,rfl⟩
theorem N6 (x:Inst) (S:Nat): ∀k,k<=63->((X7 (S:Int) k).map fun i=>(ZW x.orders i.toNat).length).sum=Ap x S k
 | 0,_=>by rfl
 | k+1,h=>by
  have ih:=N6 x S k Za;rw [Bd]
  cases hb:sHas (S:Int) (k:Int) with
  | true =>
   rw [N7 hb,XD,List.sum_append,ih];rw [WQ _ _ Za] at hb;rw [if_pos hb];simp
  | false =>
   rw [Tc hb,ih];rw [WQ _ _ Za] at hb;rw [hb];simp
theorem O3 (x:Inst) (S n:Nat) (h: ∀i,S.testBit i=true->i<n): ∀d,Ap x S (n+d)=Ap x S n
 | 0=>rfl
 | d+1=>by
  rw [show n+(d+1)=n+d+1 by omega,Bd,O3 x S n h d,if_neg (fun e=>by have:=h _ e;omega)];rfl
def WH : Col:=⟨0,0,0,⟨0,0,true,[],true,[]⟩⟩
noncomputable def V0 (x:Inst) (k:Int) (S:Nat):Col×Int:=if WC x.orders x.apart x.before (S:Int)=0/\(EJ x k S (WH,false)).2=true then ((EJ x k S (WH,false)).1,0) else (WH,24)
def EN : AM.Obj:= .cells ((Hr WH).map .p)
theorem Mj (x:Inst) (hx:InstOk x) (k:Int) (S:Nat) (hk:0<=k/\k<x.types.length) (h4:x.orders.length<=4) (htl:x.types.length<=1048576) (hbl:x.before.length<=1048576) (hal:x.apart.length<=1048576) (hS0:0<S) (hS1:S<2^x.orders.length) :
  PT 118 [.p (Zv x),.p (.int .i64 k),.p (.int .i64 S)] [.p (Xx (V0 x k S).1),.p (.int .i64 (V0 x k S).2)]:=by
 have hf:=Xz hx;have h16:S<16:=UM hS1 (YA (n:=2) Za h4);have hdiv:S / pw x.orders.length=0:=QT hS1
 have hbit: ∀i,S.testBit i=true->i<x.orders.length:=fun i hi=>by
  rcases WM i x.orders.length with h | h
  ·exact h
  ·have:2^x.orders.length<=2^i:=YA Za h
   grind [AK]
 obtain ⟨Z,hZ⟩: ∃Z,Z=V0 x k S:=⟨_,rfl⟩;rw [<- hZ];have hal2:=T8 x.net x.types_c x.types x.orders_c x.apart_c x.before_c x.orders x.apart x.before (S:Nat) Za hal hbl hf.val;refine Zf [] Tryz.func118 rfl Zbz ?_;simp (disch:=omega) only [Tryz.f118,go_sem,seval];refine gF ?_ ?_<;>intro h1<;>simp (disch:=omega) only [Sh.out h1,go_sem,seval,↓reduceIte]
 ·omega
 ·refine gF ?_ ?_<;>intro h2<;>simp (disch:=omega) only [Sh.out h2,go_sem,seval,↓reduceIte]
  ·omega
  ·refine gF ?_ ?_<;>intro h3<;>simp (disch:=omega) only [Sh.out h3,go_sem,seval,↓reduceIte]
   ·omega
   ·refine cD ?_ ?_<;>intro h5<;>simp (disch:=omega) only [Sh.out h5,go_sem,seval,↓reduceIte]
    ·omega
    ·refine (hal2).use (Zc ?_);refine cD ?_ ?_<;>intro h6<;>simp (disch:=omega) only [Sh.out h6,go_sem,seval,↓reduceIte]
     ·have e:Z=(WH,24):=by simp_all [V0]
      exact ⟨.tup [.p (Xx Z.1),.p (.int .i64 Z.2)],[],Weak.mk (by simp (disch:=omega) only [e,WH,Zn,go_sem,seval]),rfl,rfl⟩
     ·have h60:WC x.orders x.apart x.before (S:Int)=0:=Z3.1 h6;obtain ⟨T,hT⟩: ∃T:Nat->Nat,T=fun q=>(((X7 (S:Int) 63).take q).map fun i=>(ZW x.orders i.toNat).length).sum:=⟨_,rfl⟩
      have hT0:T 0=0:=by rw [hT];rfl
      have hTn:T (X7 (S:Int) 63).length=W2 x S:=by
       rw [hT];simp only [X5];rw [N6 x S 63 Za,show 63=x.orders.length+(63-x.orders.length) by omega,O3 x S _ hbit];rfl
      have hTs: ∀q,q<(X7 (S:Int) 63).length->T (q+1)=T q+(ZW x.orders (nth (X7 (S:Int) 63) q).toNat).length:=fun q hq=>by
       grind [XZ,Zh]
      have hTl: ∀q,T q<=2*q:=fun q=>by
       induction q with
       | zero=>omega
       | succ q ih =>
        rcases WM q (X7 (S:Int) 63).length with h | h
        ·grind [WV]
        grind [CP]
      have hml:=C0 (S:Int) 63
      have hmi: ∀q,q<(X7 (S:Int) 63).length-> ∃i:Nat,nth (X7 (S:Int) 63) q=(i:Int)/\i<x.orders.length:=fun q hq=>by
       obtain ⟨i,e,_,hb⟩:=JJ.1 (ZL hq)
       grind
      refine ((DU (S:Int)).frozen Zb).use (Zc ?_);generalize X7 (S:Int) 63=M at hTn hTs hml hmi ⊢;clear hT;refine Zk [1,3,6,8,45,46] (fun q:Nat=> [(47,.p (.int .i64 q))]) (fun q=> [Zi x,EN,YE x k S (T q) (WH,false)]) (fun q=>q<=M.length) (fun q=>M.length-q) 0 Zb (Weak.mk ?_) ?_
      ·simp (disch:=omega) only [Zi,EN,Hr,WH,YE,hT0,Zn,Zr,go_sem,seval]
      ·intro q hq;have hq1:=hTl q;simp (disch:=omega) only [Zi,EN,Hr,WH,YE,Zn,Zr,go_sem,seval];refine cD ?_ ?_<;>intro h7<;>simp (disch:=omega) only [Sh.out h7,go_sem,seval,↓reduceIte]
       ·have hq2:q<M.length:=Za
        obtain ⟨i,hi,hin⟩:=hmi q hq2;have hts:=hTs q hq2;rw [hi,XY] at hts;have hvl:=WV x.orders i;refine ZB 10 mixed Zd Zd (Zc ?_);rw [hi];refine Zo (visits_c x.orders x.orders_c i hin Za) (Zc ?_)
        have hts2:((T (q+1):Nat):Int)=((T q:Nat):Int)+((ZW x.orders i).length:Int):=Za
        exact ⟨q+1,Za,Za,Weak.mk (by simp (disch:=omega) only [hts2,go_sem,seval])⟩
       ·have hqm:q=M.length:=Za
        subst hqm;rw [hTn] at hq1 ⊢
        have ht8:W2 x S<=8:=by
         grind [Dv,W2]
        have htp:0<W2 x S:=TQ hf.vne hdiv Za;obtain ⟨t1,t2,t3,_⟩:=WU hx (show k.toNat<x.types.length by omega);obtain ⟨N,hN⟩: ∃N,N=VW (nth x.types k.toNat) [] (nth x.types k.toNat).opn 0:=⟨_,rfl⟩
        have hNl:N.length<=2:=by
         grind [BV]
        have hNo:Hl 0 N:=fun a ha=>by
         rw [hN] at ha;rcases Vt.1 ha with h | rfl | rfl
         ·simp at h
         ·grind
         ·exact ⟨by simp only;omega,Zb⟩
        have cf:=oS x k S (W2 x S) (WH,false) (nth x.types k.toNat).opn 0 hk htl Za Za;rw [<- hN] at cf;have cw:=Eu x hx k S (W2 x S) ht8 hk htl hbl Za (W2 x S) [] true (nth x.types k.toNat).src N (WH,false) Zb (fun _=>htp) (by grind) Za (by simp [WH])
        have hB:(S7 x k S (W2 x S) [] ((nth x.types k.toNat).src,N)).foldl (XI (GB x k) (YX x k S) Wv) (WH,false)=EJ x k S (WH,false):=by rw [EJ,st0,<- hN]
        rw [hB] at cw
        have hZ2:Z=if (EJ x k S (WH,false)).2=true then ((EJ x k S (WH,false)).1,0) else (WH,24):=by
         rw [hZ,V0]
         simp_all
        generalize EJ x k S (WH,false)=B at cw hZ2;refine ZB 7 mixed Zd Zd (Zc ?_);refine ⟨.p (.list false (N.map F3)),?_,?_⟩
        ·refine ACalls.mono (((cf.mono fun y H' hq=>(⟨hq,by rw [hq.2]⟩:_/\H'.length= [YE x k S (W2 x S) (WH,false)].length)).front (by rfl) (by rfl) [.cells ((KS (nth x.types k.toNat)).map .p)]).back [Zi x,EN] (by rfl)) ?_;rintro y H' ⟨y1,H1,⟨H2,⟨rfl,rfl⟩,rfl⟩,rfl,rfl⟩;exact ⟨rfl,rfl⟩
        ·refine Zc ?_;refine ACalls.mono (((cw.mono fun y H' hq=>(⟨hq,by grind⟩:_/\H'.length= [YE x k S (W2 x S) (WH,false)].length)).front (by rfl) (by rfl) [.cells ((KS (nth x.types k.toNat)).map .p)]).back [Zi x,EN] (by rfl)) ?_;rintro y H' ⟨y1,H1,⟨H2,⟨rfl,rfl⟩,rfl⟩,rfl,rfl⟩;simp (disch:=omega) only [AM.shV,AM.shVs,AM.shO,Zi,EN,Hr,WH,YE,KS,Zr,Zn,ZO,ZD,go_sem,seval];obtain ⟨C,f⟩:=B
         cases f with
         | false =>
          rw [if_neg Zb] at hZ2;refine G7 ?_;exact ⟨.tup [.p (Xx Z.1),.p (.int .i64 Z.2)],[],Weak.mk (by simp (disch:=omega) only [hZ2,WH,Zn,go_sem,seval]),rfl,rfl⟩
         | true =>
          rw [if_pos rfl] at hZ2;refine B3 ?_;exact ⟨.tup [.p (Xx Z.1),.p (.int .i64 Z.2)],[],Weak.mk (by simp (disch:=omega) only [hZ2,go_sem,seval]),rfl,rfl⟩
theorem PJ (a b:Col) (ha:a.route.visits.length<=1048576) (hb:b.route.visits.length<=1048576):PC 129 [.p (Xx a),.p (Xx b)] (.bool (Wv a b)):=by
 refine Ze Tryz.func129 rfl ZbJ ?_;simp (disch:=omega) only [Tryz.f129,go_sem,seval];refine cD ?_ ?_<;>intro h<;>simp (disch:=omega) only [Sh.out h,go_sem,seval,↓reduceIte]
 ·rw [Wv,if_pos h]
 ·refine (wK a.route.visits b.route.visits a.route.visits_c b.route.visits_c ha hb).use (Zc ?_);rw [Wv,if_neg h]
theorem P3 (x:Inst) (S:Nat) (h4:x.orders.length<=60) (hS0:0<S) (hS:S<9223372036854775808):PC 82 [.p (Zv x),.p (.int .i64 S)] (.bool (decide (S / pw x.orders.length=0))):=by
 refine Ze Tryz.func82 rfl Zkc ?_;simp (disch:=omega) only [Tryz.f82,go_sem,seval];refine Zk [1,2] (fun k:Nat=> [(5,.p (.int .i64 (hv S k:Nat))),(6,.p (.int .i64 k))]) (fun _=> [Zi x]) (fun k=>k<=x.orders.length) (fun k=>x.orders.length-k) 0 Zb (Weak.mk ?_) ?_
 ·simp (disch:=omega) only [SS,Zi,go_sem,seval]
 ·intro k hk;have e1:=SR S k;have h1:=yW S k;refine Yl ?_;refine gT ?_ ?_<;>intro h2<;>simp (disch:=omega) only [Sh.out h2,go_sem,seval,↓reduceIte]
  ·refine ZK ?_ ?_<;>intro h3
   ·have e2:((hv S (k+1):Nat):Int)=((hv S k:Nat):Int) / 2:=Za
    exact ⟨k+1,Za,Za,Weak.mk (by simp (disch:=omega) only [e2,go_sem,seval])⟩
   ·omega
  ·have hkn:k=x.orders.length:=Za
   subst hkn;refine gT ?_ ?_<;>intro h3<;>simp (disch:=omega) only [Sh.out h3,go_sem,seval,↓reduceIte]
   ·have e:decide (((hv S x.orders.length:Nat):Int)=0)=decide (S / pw x.orders.length=0):=by
     rw [decide_eq_decide];unfold hv;omega
    simp (disch:=omega) only [e,go_sem,seval]
   ·omega
def R5 (x:Inst) (k:Int) (S f:Nat):Prop:= ∀(l:List Vis) (c:Bool) (b:Col) (fd:Bool),Gr x S l->l.length+f=W2 x S->(c=true->l= [])->b.typ=k->b.set=S->b.route.visits.length<=1048576 ->
  PT 83 [.p (Zv x),.p (Xx b),.p (.bool fd),.p (.list c (l.map Z7))] [.p (Xx ((Bs (C3 x S) f l).foldl (XI (DA x k S) (YX x k S) Wv) (b,fd)).1),.p (.bool ((Bs (C3 x S) f l).foldl (XI (DA x k S) (YX x k S) Wv) (b,fd)).2)]
theorem IM (x:Inst) (hx:InstOk x) (k:Int) (S:Nat) (hS0:0<S) (hS:S<9223372036854775808) (ho:x.orders.length<=60) (htl:x.types.length<=1048576) (hbl:x.before.length<=1048576) (l:List Vis) (c:Bool) (b:Col) (fd:Bool) (hnx:C3 x S l= []) (hll:l.length<=1048576) (hc:c=true->l= []) (hb1:b.typ=k) (hb2:b.set=S) (hb3:b.route.visits.length<=1048576) :
  PT 83 [.p (Zv x),.p (Xx b),.p (.bool fd),.p (.list c (l.map Z7))] [.p (Xx (XI (DA x k S) (YX x k S) Wv (b,fd) l).1),.p (.bool (XI (DA x k S) (YX x k S) Wv (b,fd) l).2)]:=by
 have hf:=Xz hx;obtain ⟨Z,hZ⟩: ∃Z,Z=XI (DA x k S) (YX x k S) Wv (b,fd) l:=⟨_,rfl⟩;rw [<- hZ];have hnx':nextU x S l x.orders.length= []:=hnx;obtain ⟨bt,bs,bp,br⟩:=b;simp only at hb1 hb2 hb3;have hb1:=hb1.symm;subst hb1;subst hb2;have hnc:=Tx x S l c hS hll ho hbl hf.plc (fun q hq=>by have:=(hf.val q hq);omega);rw [hnx'] at hnc;refine Zf [] Tryz.func83 rfl yY ?_;simp (disch:=omega) only [Tryz.f83,go_sem,seval];refine (hnc).use (Zc ?_);refine Vi (IG ⟨k,0,true,[],c,l⟩ hll) (Zc ?_);refine gF ?_ ?_<;>intro h1<;>simp (disch:=omega) only [Sh.out h1,go_sem,seval,↓reduceIte]
 ·have hok:DA x k S l=false:=by
   grind [DA]
  have e:Z=(⟨k,S,bp,br⟩,fd):=by simp_all [XI]
  exact ⟨.tup [.p (Xx Z.1),.p (.bool Z.2)],[],Weak.mk (by simp (disch:=omega) only [e,go_sem,seval]),rfl,rfl⟩
 ·have h1':(Jp l).1=(S:Int):=Z3.1 h1
  have hcf:c=false:=by
   cases c with
   | false=>rfl
   | true =>
    exfalso;rw [hc rfl] at h1';have:(Jp ([]:List Vis)).1=0:=rfl;omega
  subst hcf;refine (I1 x (Jr k l) hx hll (by simp [Jr])).use (Zc ?_);refine cD ?_ ?_<;>intro h2<;>simp (disch:=omega) only [Sh.out h2,go_sem,seval,↓reduceIte]
  ·have hok:DA x k S l=false:=by
    grind [DA]
   have e:Z=(⟨k,S,bp,br⟩,fd):=by simp_all [XI]
   exact ⟨.tup [.p (Xx Z.1),.p (.bool Z.2)],[],Weak.mk (by simp (disch:=omega) only [e,go_sem,seval]),rfl,rfl⟩
  ·have h2':Z6 x (Jr k l)=0:=Z3.1 h2;refine Vi (Oz x (Jr k l) hx ⟨hll,by simp [Jr]⟩) (Zc ?_);have hcol:YX x k S l=⟨k,S,(Ye x (Jr k l)).1,Jr k l⟩:=rfl;refine gF ?_ ?_<;>intro h3<;>simp (disch:=omega) only [Sh.out h3,go_sem,seval,↓reduceIte]
   ·have hok:DA x k S l=false:=by
     grind [DA,GB]
    have e:Z=(⟨k,S,bp,br⟩,fd):=by simp_all [XI]
    exact ⟨.tup [.p (Xx Z.1),.p (.bool Z.2)],[],Weak.mk (by simp (disch:=omega) only [e,go_sem,seval]),rfl,rfl⟩
   ·have hok:DA x k S l=true:=by
     simp_all [DA,GB]
    cases fd with
    | false =>
     have e:Z=(YX x k S l,true):=by rw [hZ,XI,if_pos ⟨hok,.inl rfl⟩]
     refine Zc ?_;exact ⟨.tup [.p (Xx Z.1),.p (.bool Z.2)],[],Weak.mk (by simp (disch:=omega) only [e,hcol,Jr,Zn,go_sem,seval]),rfl,rfl⟩
    | true =>
     refine Zc ?_;refine (PJ (YX x k S l) ⟨k,S,bp,br⟩ hll hb3).use (Zc ?_)
     cases hbt:Wv (YX x k S l) ⟨k,S,bp,br⟩ with
     | true =>
      have e:Z=(YX x k S l,true):=by simp_all [XI]
      refine B3 ?_;exact ⟨.tup [.p (Xx Z.1),.p (.bool Z.2)],[],Weak.mk (by simp (disch:=omega) only [e,hcol,Jr,Zn,go_sem,seval]),rfl,rfl⟩
     | false =>
      have e:Z=(⟨k,S,bp,br⟩,true):=by simp_all [XI]
      refine G7 ?_;exact ⟨.tup [.p (Xx Z.1),.p (.bool Z.2)],[],Weak.mk (by simp (disch:=omega) only [e,go_sem,seval]),rfl,rfl⟩
theorem Zes (x:Inst) (hx:InstOk x) (k:Int) (S:Nat) (hS0:0<S) (hS:S<9223372036854775808) (ho:x.orders.length<=60) (htl:x.types.length<=1048576) (hbl:x.before.length<=1048576):R5 x k S 0:=by
 intro l c b fd hg hl hc hb1 hb2 hb3;have:=Dv x S x.orders.length
 have hl':l.length=Ap x S x.orders.length:=by grind [W2]
 simp only [Bs,XO,VR];exact IM x hx k S hS0 hS ho htl hbl l c b fd (vA hg Za) Za hc hb1 hb2 hb3
theorem O4 {x:Inst} {k:Int} {S N:Nat} : ∀(L:List (List Vis)) (b:Col×Bool),b.1.typ=k/\b.1.set=S/\b.1.route.visits.length<=N->(∀m∈L,m.length<=N)->(L.foldl (XI (DA x k S) (YX x k S) Wv) b).1.typ=k/\(L.foldl (XI (DA x k S) (YX x k S) Wv) b).1.set=S/\(L.foldl (XI (DA x k S) (YX x k S) Wv) b).1.route.visits.length<=N
 | [],b,h,_=>h
 | m::L,b,h,hL=>by
  rw [XO];refine O4 L _ ?_ fun q hq=>hL q (XL _ hq);unfold XI
  split
  ·exact ⟨rfl,rfl,hL m Zb⟩
  ·exact h
theorem S8 {x:Inst} {S:Nat} : ∀(f:Nat) (l:List Vis),∀m∈Bs (C3 x S) f l,m.length<=l.length+f
 | 0,l,m,hm=>by
  simp_all [Bs]
 | f+1,l,m,hm=>by
  rw [Bs] at hm
  split at hm
  ·grind
  ·obtain ⟨v,_,hm⟩:=XS.1 hm;have:=S8 f _ m hm
   grind
theorem ZeE {g:FuncId} {args:List V} {a b:PV} {H:List AM.Obj} {K:V->List AM.Obj->Prop} (h:ACalls Tryz.prog g args [] fun x H'=>x= .tup [.p a,.p b]/\H'= []) (k:K (.tup [.p a,.p b]) H) (ha:Xv 0 args=true:=by rfl):ACalls Tryz.prog g args H K:=Vi h k ha
theorem Zet (x:Inst) (hx:InstOk x) (k:Int) (S f:Nat) (hS0:0<S) (hS:S<9223372036854775808) (ho:x.orders.length<=60) (htl:x.types.length<=1048576) (hbl:x.before.length<=1048576) (ih:R5 x k S f):R5 x k S (f+1):=by
 intro l c b fd hg hl hc hb1 hb2 hb3;have hf:=Xz hx;have htu:=Dv x S x.orders.length
 have hll:l.length<=120:=by grind [W2]
 by_cases hnx:C3 x S l= []
 ·rw [show Bs (C3 x S) (f+1) l= [l] by rw [Bs,if_pos hnx]];simp only [XO,VR];exact IM x hx k S hS0 hS ho htl hbl l c b fd hnx Za hc hb1 hb2 hb3
 ·rw [show Bs (C3 x S) (f+1) l=(C3 x S l).flatMap fun v=>Bs (C3 x S) f (l++ [v]) by rw [Bs,if_neg hnx]];have hnc:=Tx x S l c hS Za ho hbl hf.plc (fun q hq=>by have:=(hf.val q hq);omega);have hnl:=JL x S l x.orders.length;have hgv: ∀v∈C3 x S l,Gr x S (l++ [v]):=fun v hv=> .snoc hg hv;have hnv:nextU x S l x.orders.length=C3 x S l:=rfl;rw [hnv] at hnc hnl;generalize C3 x S l=nx at hnx hnc hnl hgv ⊢;obtain ⟨B,hB⟩: ∃B:Nat->Col×Bool,B=fun q=>((nx.take q).flatMap fun v=>Bs (C3 x S) f (l++ [v])).foldl (XI (DA x k S) (YX x k S) Wv) (b,fd):=⟨_,rfl⟩
  have hB0:B 0=(b,fd):=by rw [hB];rfl
  have hBn:(nx.flatMap fun v=>Bs (C3 x S) f (l++ [v])).foldl (XI (DA x k S) (YX x k S) Wv) (b,fd)=B nx.length:=by rw [hB];simp
  have hBs: ∀q,q<nx.length->B (q+1)=(Bs (C3 x S) f (l++ [nth nx q])).foldl (XI (DA x k S) (YX x k S) Wv) (B q):=fun q hq=>by
   rw [hB];simp only;rw [XZ hq,List.flatMap_append,List.foldl_append,<- Zh hq];simp
  have hBi: ∀q,(B q).1.typ=k/\(B q).1.set=S/\(B q).1.route.visits.length<=1048576:=fun q=>by
   rw [hB];refine O4 _ _ ⟨hb1,hb2,hb3⟩ fun m hm=> ?_;obtain ⟨v,_,hm⟩:=XS.1 hm;have:=S8 _ _ m hm
   grind [W2]
  rw [hBn];clear hB hBn;have hne: ¬nx.length=0:=fun h=>hnx (YG h);refine Zf [] Tryz.func83 rfl yY ?_;simp (disch:=omega) only [Tryz.f83,go_sem,seval];rw [<- hb2] at hnc;refine (hnc).use (Zc ?_);refine cD ?_ ?_<;>intro h1<;>simp (disch:=omega) only [Sh.out h1,go_sem,seval,↓reduceIte]
  ·omega
  ·refine ZZ [17] [3,4,5,8,10] (fun q:Nat=> [(2,.p (.bool (B q).2)),(16,.p (.int .i64 q))]) (fun q=> [Zi x,.cells ((Hr (B q).1).map .p),EN]) (fun q=>q<=nx.length) (fun q=>nx.length-q) 0 Zb (Weak.mk ?_) ?_
   ·simp (disch:=omega) only [Zi,EN,WH,Hr,hB0,Zr,Zn,go_sem,seval]
   ·intro q hq;simp (disch:=omega) only [Zi,EN,WH,Hr,Zr,Zn,go_sem,seval];refine cD ?_ ?_<;>intro h2<;>simp (disch:=omega) only [Sh.out h2,go_sem,seval,↓reduceIte]
    ·have hq2:q<nx.length:=Za
     have hBq:=hBs q hq2;obtain ⟨i1,i2,i3⟩:=hBi q;have hmem:=ZL hq2;have ihc:=ih (l++ [nth nx q]) false (B q).1 (B q).2 (hgv _ hmem) (by simp;omega) Zb i1 i2 i3;rw [show ((B q).1,(B q).2)=B q from rfl,<- hBq,XD] at ihc;refine ZI [2,3,4,5,8,10,16] (fun _:Unit=> [(17,.p (.list false ((l++ [nth nx q]).map Z7)))]) (fun _=> [Zi x,.cells ((Hr (B q).1).map .p),EN,.dead]) (fun _=>True) ?_ ?_
     ·simp (disch:=omega) only [ZG,Xt,go_sem,seval];exact ⟨(),(Weak.fz (o:=3) (by rfl)).trans (Weak.mk (by simp (disch:=omega) only [Zi,EN,WH,Hr,Zr,Zn,ZJ,ZC,ZG,Z2,Xt,eq_self,Xa,Z1,go_sem,seval]))⟩
     ·intro _ _;refine Zg [] _ _ _ _ ?_;simp (disch:=omega) only [Zi,EN,WH,Hr,Zr,Zn,go_sem,seval];refine ZeE ihc ?_;simp (disch:=omega) only [Zr,Zn,go_sem,seval];exact ⟨q+1,Za,Za,wk⟩
    ·have hql:q=nx.length:=Za
     subst hql;exact ⟨.tup [.p (Xx (B nx.length).1),.p (.bool (B nx.length).2)],[],wk,rfl,rfl⟩
theorem GX (x:Inst) (hx:InstOk x) (k:Int) (S:Nat) (hS0:0<S) (hS:S<9223372036854775808) (ho:x.orders.length<=60) (htl:x.types.length<=1048576) (hbl:x.before.length<=1048576): ∀f,R5 x k S f
 | 0=>Zes x hx k S hS0 hS ho htl hbl
 | f+1=>Zet x hx k S f hS0 hS ho htl hbl (GX x hx k S hS0 hS ho htl hbl f)
def BX (one:Nat->List Col):Nat->List Col
 | 0=> []
 | q+1=>BX one q++one (q+1)
def Uq (one:Nat->Nat->List Col) (N:Nat):Nat->List Col
 | 0=> []
 | k+1=>Uq one N k++BX (one k) N
theorem Di {one:Nat->List Col} (h: ∀q,(one q).length<=1): ∀q,(BX one q).length<=q
 | 0=>Zw _
 | q+1=>by
  have:=Di h q;have:=h (q+1);rw [BX,ZJ];omega
theorem Cf {one:Nat->Nat->List Col} {N:Nat} (h: ∀k q,(one k q).length<=1): ∀k,(Uq one N k).length<=k*N
 | 0=>by simp [Uq]
 | k+1=>by
  have h1:=Cf (N:=N) h k;have h2:=Di (h k) N;rw [Uq,ZJ,XT];omega
noncomputable def VU (x:Inst) (k S:Nat):List Col:=if (V0 x (k:Int) S).2=0 then [(V0 x (k:Int) S).1] else []
theorem Ab {x:Inst} (k S:Nat):(VU x k S).length<=1:=by grind [VU]
theorem Oq (x:Inst) (hx:InstOk x) (h4:x.orders.length<=4) (h6:x.types.length<=6) (hbl:x.before.length<=1048576) (hal:x.apart.length<=1048576) :
  PT 80 [.p (Zv x)] [.p (.list false ((Uq (VU x) (2^x.orders.length-1) x.types.length).map Xx)),.p (.int .i64 0)]:=by
 have hp:pw x.orders.length=2^x.orders.length:=rfl;have hp1:1<=2^x.orders.length:=Nat.one_le_two_pow;have hp2:2^x.orders.length<=2^4:=YA Za h4;obtain ⟨N,hN⟩: ∃N,N=2^x.orders.length-1:=⟨_,rfl⟩;rw [<- hN];refine Zf [12] Tryz.func80 rfl Zka ?_;simp (disch:=omega) only [Tryz.f80,go_sem,seval];refine ZZ [12] [1,11] (fun k:Nat=> [(4,.sl 1 0 (Uq (VU x) N k).length (Uq (VU x) N k).length),(12,.p (.int .i64 k))]) (fun k=> [Zi x,.elems 7 ((Uq (VU x) N k).map Xx)]) (fun k=>k<=x.types.length) (fun k=>x.types.length-k) 0 Zb (Weak.ofNil 4 7 (by simp (disch:=omega) only [go_sem,seval]) Zb (Weak.mk ?_)) ?_
 ·simp (disch:=omega) only [Zi,Uq,Zn,ZG,go_sem,seval]
 ·intro k hk;obtain ⟨R,hR⟩: ∃R,R=Uq (VU x) N k:=⟨_,rfl⟩;have hRl:=Cf (N:=N) (Ab (x:=x)) k
  have hRs:Uq (VU x) N (k+1)=R++BX (VU x k) N:=by rw [hR];rfl
  rw [<- hR] at hRl ⊢;have hkN:k*N<=6*16:=CX Za Za;refine Yl ?_;refine cD ?_ ?_<;>intro h1<;>simp (disch:=omega) only [Sh.out h1,go_sem,seval,↓reduceIte]
  ·obtain ⟨W,hW⟩: ∃W:Nat->List Col,W=fun q=>R++BX (VU x k) (q-1):=⟨_,rfl⟩
   have hW0:W 1=R:=by grind [BX]
   have hWn:Uq (VU x) N (k+1)=W (N+1):=by grind
   have hWl: ∀q,(W q).length<=R.length+q:=fun q=>by
    grind [Di,Ab]
   have hWs: ∀q,1<=q->W (q+1)=W q++VU x k q:=fun q h=>by
    obtain ⟨p,rfl⟩: ∃p,q=p+1:=⟨q-1,Za⟩
    grind [BX]
   clear hW hRs;refine Zk [1,5,11,12] (fun q:Nat=> [(4,.sl 1 0 (W q).length (W q).length),(6,.p (.int .i64 q))]) (fun q=> [Zi x,.elems 7 ((W q).map Xx)]) (fun q=>1<=q/\q<=N+1) (fun q=>N+1-q) 1 Za (Weak.mk ?_) ?_
   ·have e0:((1:Nat):Int)=1:=rfl;simp (disch:=omega) only [Zi,hW0,e0,go_sem,seval]
   ·rintro q ⟨hq0,hq⟩;have hql:=hWl q;have hqs:=hWs q hq0;refine Yl ?_;refine ZK ?_ ?_<;>intro h2
    ·have hq2:q<2^x.orders.length:=by
      have h2':q / pw x.orders.length=0:=Za
      simp_all
     refine Vi (Mj x hx k q Za h4 Za hbl hal Za hq2) ?_;have hone:VU x k q=if (V0 x (k:Int) q).2=0 then [(V0 x (k:Int) q).1] else []:=rfl;rw [hone] at hqs;generalize V0 x (k:Int) q=Z at hqs ⊢;refine Zc ?_;refine ZK ?_ ?_<;>intro h3
     ·rw [if_pos h3] at hqs;exact ⟨q+1,Za,Za,Weak.mk (by simp (disch:=omega) only [hqs,XD,Zr,Zn,ZJ,ZC,ZG,Xt,go_sem,seval])⟩
     ·rw [if_neg h3,Wy] at hqs;exact ⟨q+1,Za,Za,Weak.mk (by simp (disch:=omega) only [hqs,go_sem,seval])⟩
    ·have hqn:q=N+1:=by
      have h2': ¬q / pw x.orders.length=0:=Za
      rw [hp] at h2';have: ¬q<2^x.orders.length:=fun h=>h2' (QT h);omega
     subst hqn;exact ⟨k+1,Za,Za,Weak.mk (by simp (disch:=omega) only [hWn,go_sem,seval])⟩
  ·have hkt:k=x.types.length:=Za
   subst hkt;refine Zq (Weak.fz (o:=1) (by rfl)) ?_;refine Zg [] _ _ _ _ ?_;simp (disch:=omega) only [Zr,Zn,Xa,Z1,eq_self,go_sem,seval];exact ⟨.tup [.p (.list false (R.map Xx)),.p (.int .i64 0)],[],wk,by rw [hR],rfl⟩
def Bp (k:Int) (S:Nat):Col:=⟨k,S,0,⟨0,0,true,[],true,[]⟩⟩
theorem iS {x:Inst} (hx:InstOk x) {k:Int} (hk:0<=k/\k<x.types.length) {S:Nat} (hS0:0<S) (hS1:S<2^x.orders.length):V0 x k S=if (Cq x k S (Bp k S,false)).2=true then ((Cq x k S (Bp k S,false)).1,0) else (WH,24):=by
 have hf:=Xz hx;have hdiv:S / pw x.orders.length=0:=QT hS1
 have hn:x.orders.length<=60:=by have:=hf.len;omega
 obtain ⟨t1,_⟩:=WU hx (show k.toNat<x.types.length by omega);have hi:=QN hn hdiv hf.val;rw [V0]
 by_cases ha:Alw x S
 ·have e:=PN hx Za hdiv ha t1.1 (k:=k) (WH,false);have f:=Hc (ok:=DA x k S) (col:=YX x k S) (better:=Wv) (Bs (C3 x S) (W2 x S) []) WH (Bp k S);have f1:(Cq x k S (WH,false)).2=(Cq x k S (Bp k S,false)).2:=f.1;have f2:(Cq x k S (WH,false)).2=true->(Cq x k S (WH,false)).1=(Cq x k S (Bp k S,false)).1:=f.2
  grind
 simp_all [sQ]
theorem iM (x:Inst) (hx:InstOk x) (k:Int) (S:Nat) (hk:0<=k/\k<x.types.length) (h4:x.orders.length<=4) (htl:x.types.length<=1048576) (hbl:x.before.length<=1048576) (hS0:0<S) (hS1:S<2^x.orders.length) :
  PT 50 [.p (Zv x),.p (.int .i64 k),.p (.int .i64 S)] [.p (Xx (V0 x k S).1),.p (.int .i64 (V0 x k S).2)]:=by
 have h16:S<16:=UM hS1 (YA (n:=2) Za h4);have hdiv:S / pw x.orders.length=0:=QT hS1;obtain ⟨Z,hZ⟩: ∃Z,Z=V0 x k S:=⟨_,rfl⟩;rw [<- hZ];rw [iS hx hk hS0 hS1] at hZ;have cs:=GX x hx k S hS0 Za Za htl hbl (W2 x S) [] true (Bp k S) false .nil Zb (fun _=>rfl) rfl rfl (by simp [Bp]);rw [show (Bs (C3 x S) (W2 x S) []).foldl (XI (DA x k S) (YX x k S) Wv) (Bp k S,false)=Cq x k S (Bp k S,false) from rfl] at cs;generalize Cq x k S (Bp k S,false)=B at cs hZ
 refine Zf [] Tryz.func50 rfl ZjK ?_;simp (disch:=omega) only [Tryz.f50,go_sem,seval];refine gF ?_ ?_<;>intro h1<;>simp (disch:=omega) only [Sh.out h1,go_sem,seval,↓reduceIte]
 ·omega
 ·refine gF ?_ ?_<;>intro h2<;>simp (disch:=omega) only [Sh.out h2,go_sem,seval,↓reduceIte]
  ·omega
  ·refine (P3 x S Za hS0 Za).use (Zc ?_);simp (disch:=omega) only [hdiv,eq_self,Um,go_sem,seval];refine Vi cs (Zc ?_);obtain ⟨C,f⟩:=B
   cases f with
   | false =>
    rw [if_neg Zb] at hZ;refine G7 ?_;exact ⟨.tup [.p (Xx Z.1),.p (.int .i64 Z.2)],[],Weak.mk (by simp (disch:=omega) only [hZ,WH,Zn,go_sem,seval]),rfl,rfl⟩
   | true =>
    rw [if_pos rfl] at hZ;refine B3 ?_;exact ⟨.tup [.p (Xx Z.1),.p (.int .i64 Z.2)],[],Weak.mk (by simp (disch:=omega) only [hZ,go_sem,seval]),rfl,rfl⟩
theorem rH (x:Inst) (hx:InstOk x) (h4:x.orders.length<=4) (h6:x.types.length<=6) (hbl:x.before.length<=1048576) :
  PT 30 [.p (Zv x)] [.p (.list false ((Uq (VU x) (2^x.orders.length-1) x.types.length).map Xx)),.p (.int .i64 0)]:=by
 have hp1:1<=2^x.orders.length:=Nat.one_le_two_pow;have hp2:2^x.orders.length<=2^4:=YA Za h4;obtain ⟨N,hN⟩: ∃N,N=2^x.orders.length-1:=⟨_,rfl⟩
 have hpN:pw x.orders.length=N+1:=by unfold pw;omega
 rw [<- hN];refine Zf [16] Tryz.func30 rfl Zju ?_;simp (disch:=omega) only [Tryz.f30,go_sem,seval];refine ZZ [16] [1] (fun k:Nat=> [(4,.p (.int .i64 (pw k:Nat))),(5,.p (.int .i64 k))]) (fun _=> [Zi x]) (fun k=>k<=x.orders.length) (fun k=>x.orders.length-k) 0 Zb (Weak.mk ?_) ?_
 ·have e0:((pw 0:Nat):Int)=1:=rfl;simp (disch:=omega) only [Zi,e0,go_sem,seval]
 ·intro k hk;have hpk:pw k<=pw 4:=KD Za;have hp4:pw 4=16:=rfl;have hps:=Fu k
  have e2:((pw (k+1):Nat):Int)=((pw k:Nat):Int)*2:=Za
  refine Yl ?_;refine gT ?_ ?_<;>intro h0<;>simp (disch:=omega) only [Sh.out h0,go_sem,seval,↓reduceIte]
  ·refine ZK ?_ ?_<;>intro h1
   ·exact ⟨k+1,Za,Za,Weak.mk (by simp (disch:=omega) only [e2,go_sem,seval])⟩
   ·omega
  ·have hkn:k=x.orders.length:=Za
   subst hkn;rw [hpN];refine ZZ [16] [1,4] (fun k:Nat=> [(6,.sl 1 0 (Uq (VU x) N k).length (Uq (VU x) N k).length),(7,.p (.int .i64 k))]) (fun k=> [Zi x,.elems 7 ((Uq (VU x) N k).map Xx)]) (fun k=>k<=x.types.length) (fun k=>x.types.length-k) 0 Zb (Weak.ofNil 6 7 (by simp (disch:=omega) only [go_sem,seval]) Zb (Weak.mk ?_)) ?_
   ·simp (disch:=omega) only [Zi,Uq,Zn,ZG,go_sem,seval]
   ·intro k hk;obtain ⟨R,hR⟩: ∃R,R=Uq (VU x) N k:=⟨_,rfl⟩;have hRl:=Cf (N:=N) (Ab (x:=x)) k
    have hRs:Uq (VU x) N (k+1)=R++BX (VU x k) N:=by rw [hR];rfl
    rw [<- hR] at hRl ⊢;have hkN:k*N<=6*16:=CX Za Za;refine Yl ?_;refine cD ?_ ?_<;>intro h1<;>simp (disch:=omega) only [Sh.out h1,go_sem,seval,↓reduceIte]
    ·obtain ⟨W,hW⟩: ∃W:Nat->List Col,W=fun q=>R++BX (VU x k) q:=⟨_,rfl⟩
     have hW0:W 0=R:=by grind [BX]
     have hWn:Uq (VU x) N (k+1)=W N:=by rw [hRs,hW]
     have hWl: ∀q,(W q).length<=R.length+q:=fun q=>by
      grind [Di,Ab]
     have hWs: ∀q,W (q+1)=W q++VU x k (q+1):=fun q=>by grind [BX]
     clear hW hRs;refine Zk [1,4,7] (fun q:Nat=> [(6,.sl 1 0 (W q).length (W q).length),(8,.p (.int .i64 ((q+1:Nat):Int)))]) (fun q=> [Zi x,.elems 7 ((W q).map Xx)]) (fun q=>q<=N) (fun q=>N-q) 0 Zb (Weak.mk ?_) ?_
     ·have e0:((0+1:Nat):Int)=1:=rfl;simp (disch:=omega) only [Zi,hW0,e0,go_sem,seval]
     ·intro q hq;have hql:=hWl q;have hqs:=hWs q
      have e1:((q+1+1:Nat):Int)=((q+1:Nat):Int)+1:=Za
      refine Yl ?_;refine ZK ?_ ?_<;>intro h2
      ·refine Vi (iM x hx k (q+1) Za h4 Za hbl Za Za) ?_;have hone:VU x k (q+1)=if (V0 x (k:Int) (q+1)).2=0 then [(V0 x (k:Int) (q+1)).1] else []:=rfl;rw [hone] at hqs;generalize V0 x (k:Int) (q+1)=Z at hqs ⊢;refine Zc ?_;refine ZK ?_ ?_<;>intro h3
       ·rw [if_pos h3] at hqs;exact ⟨q+1,Za,Za,Weak.mk (by simp (disch:=omega) only [hqs,XD,Zr,Zn,ZJ,ZC,ZG,Xt,go_sem,seval])⟩
       ·rw [if_neg h3,Wy] at hqs;exact ⟨q+1,Za,Za,Weak.mk (by simp (disch:=omega) only [hqs,go_sem,seval])⟩
      ·have hqn:q=N:=Za
       subst hqn;exact ⟨k+1,Za,Za,Weak.mk (by simp (disch:=omega) only [hWn,go_sem,seval])⟩
    ·have hkt:k=x.types.length:=Za
     subst hkt;refine Zq (Weak.fz (o:=1) (by rfl)) ?_;refine Zg [] _ _ _ _ ?_;simp (disch:=omega) only [Zr,Zn,Xa,Z1,eq_self,go_sem,seval];exact ⟨.tup [.p (.list false (R.map Xx)),.p (.int .i64 0)],[],wk,by rw [hR],rfl⟩
end Go.Proofs.YtenjikkmmibffaaGreatDoor.K
