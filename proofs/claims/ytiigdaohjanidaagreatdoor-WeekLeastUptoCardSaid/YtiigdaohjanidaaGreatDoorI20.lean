/- Declarations that the closing texts need, part 20: joined by tools/slim.py. -/
import Derived.Test.YtiigdaohjanidaaGreatDoorI19
set_option linter.unusedVariables false
set_option linter.unusedSimpArgs false
namespace Go.AM
open Go.RowKit
theorem fA (k v:Int) (l:List (Int×Int)): ∃l',eZ (.int .i64 k) (.int .i64 v) (l.map eII)=l'.map eII/\(∀q,Kj l' q=if q=k then v else Kj l q)/\l'.length<=l.length+1:=by
 unfold eZ;rw [CH]
 cases hm:GC l k with
 | none =>
  refine ⟨l++ [(k,v)],by simp [eII],fun q=> ?_,Zb⟩
  have e1:GC (l++ [(k,v)]) k=some l.length:=by
   grind [GC]
  by_cases hq:q=k
  ·grind [Kj]
  ·rw [if_neg hq];unfold Kj
   have e3:GC (l++ [(k,v)]) q=GC l q:=by
    grind [GC]
   rw [e3]
   cases hc:GC l q with
   | none=>rfl
   | some i =>
    unfold GC at hc
    grind [VY]
 | some i =>
  refine ⟨l.set i (k,v),by simp_all [eII],?_,Zb⟩;have hH:oat [.map (l.map eII)] 0= .map (l.map eII):=rfl;have:=NS (H:= [.map (l.map eII)]) (o:=0) (l:=l) (k:=k) (i:=i) (v:=v) (K:=fun _ _=> ∀q,Kj (l.set i (k,v)) q=if q=k then v else Kj l q) hH hm fun h=>h;unfold KN at this;obtain ⟨u,q1,_⟩:=EK hm
  simp_all [AC]
theorem fB {P:Program} {H:List Obj} {t:TypeId} {o:Nat} {l:List (Int×Int)} {k v:Int} {K:V->List Obj->Prop} (hT:eT P t=some (.int .i64,some (.int .i64 0))) (hH:oat H o= .map (l.map eII))
  (h: ∀l':List (Int×Int),(∀q,Kj l' q=if q=k then v else Kj l q)->K .junk (H.set o (.map (l'.map eII)))):AC (C5 P H t (.mp o) (.p (.int .i64 k)) (.p (.int .i64 v))) K:=by
 obtain ⟨kt,et,h1,h2,h3⟩:=LS hT;obtain ⟨l',e,hg,_⟩:=fA k v l
 grind [C5,Gw,AC]
end Go.AM
namespace Go.Proofs.YtiigdaohjanidaaGreatDoor.K
open Go Go.AM Go.Proofs
set_option maxRecDepth 8000
set_option maxHeartbeats 8000000
def Em (l:List Vis) (k:Nat) (q:Int):Int:=((l.take k).countP fun v=>decide (v.order=q):Nat)
theorem RS {l:List Vis} {k:Nat} (h:k<l.length) (q:Int):Em l (k+1) q=if q=(nth l k).order then Em l k q+1 else Em l k q:=by
 unfold Em;rw [Xo h,List.countP_append,Ze h]
 grind
theorem bG {l:List Vis} {k:Nat} (h:k<=l.length) (q:Int):0<=Em l k q/\Em l k q<=k:=by
 grind [Em,ZC]
theorem Nx {l:List Vis} {k:Nat} :VX l k=decide (Em l k (nth l k).order=0):=by
 unfold VX Em;rw [YO];simp
theorem A0 (a b:Int):PC 273 [.p (.int .i64 a),.p (.int .i64 b)] (.bool (Xh a b)):=by
 refine Zc Tryz.func273 rfl Zaw ?_;simp (disch:=omega) only [Tryz.f273,go_sem,seval];refine gT ?_ ?_<;>intro h<;>simp (disch:=omega) only [Sh.out h,go_sem,seval,↓reduceIte]
 ·simp [Xh,h]
 simp_all [Xh]
theorem fZ (x:Inst) (r:Rte) (s:She) (hty:0<=r.typ/\r.typ<(x.types.length:Int)) (ho:x.orders.length<=1048576) (ht:x.types.length<=1048576) (hl:r.visits.length<=1048576) (hv:Inr x r.visits)
  (hc:0<=(ZW x r).fixed/\(ZW x r).fixed<=100000/\0<=(ZW x r).perMile/\(ZW x r).perMile<=100/\0<=(ZW x r).perTick/\(ZW x r).perTick<=100) (ho2:0<=(ZW x r).opn/\(ZW x r).opn<=4096)
  (hf: -4096<=s.fin/\s.fin<=8192) (hm:0<=s.miles/\s.miles<=1000000) :
  PC 222 [.p (ZG x),.p (Wc r),.p (En s)] (Ar (Ip x r s)):=by
 have hti:r.typ.toNat<x.types.length:=Za
 have hT:eT Tryz.prog 334=some (.int .i64,some (.int .i64 0)):=Zd
 unfold Ip;have htd:nth x.types r.typ.toNat=ZW x r:=rfl
 generalize ZW x r=t at *
 have e1: ¬r.typ<0:=Za
 have e2: ¬(x.types.length:Int)<=r.typ:=Za
 have p1:0<=t.perMile*s.miles/\t.perMile*s.miles<=100*1000000:=⟨V1 Za Za,Vx Za Za Za Za⟩
 have hW: -8192<=s.fin-t.opn/\s.fin-t.opn<=8192:=Za
 have p2: -819200<=t.perTick*(s.fin-t.opn)/\t.perTick*(s.fin-t.opn)<=819200:=by
  generalize s.fin-t.opn=w at hW;have a1:=CE hW.2 (show 0<=t.perTick by omega);have a2:=CE hW.1 (show 0<=t.perTick by omega);omega
 have p3: -128<=(s.fin-t.opn).tdiv 64/\(s.fin-t.opn).tdiv 64<=128:=by
  grind
 have p4:0<=(s.fin-t.opn).tdiv 64*(s.fin-t.opn).tdiv 64/\(s.fin-t.opn).tdiv 64*(s.fin-t.opn).tdiv 64<=16384:=by
  generalize (s.fin-t.opn).tdiv 64=q at p3;refine ⟨?_,?_⟩
  ·rcases K8 0 q with h | h
   ·exact V1 h h
   ·exact Int.mul_nonneg_of_nonpos_of_nonpos h h
  ·rcases K8 0 q with h | h
   ·have:=Vx p3.2 p3.2 h Za;omega
   ·have h2:0<= -q:=Za
    have:=Vx (show-q<=128 by omega) (show-q<=128 by omega) h2 Za
    grind
 refine Zc Tryz.func222 rfl zL ?_;simp (disch:=omega) only [Tryz.f222,e1,e2,htd,go_sem,seval]
 refine Zk [3,4,6,10,11,59,60] (fun q:Nat×List (Int×Int)=> [(61,.p (.int .i64 q.1))]) (fun q=> [Zj x,Xb r,.cells [.p (.bool s.rest),.p (.int .i64 s.dep),.p (.list s.times_c (s.times.map eTim)),.p (.int .i64 s.fin),.p (.int .i64 s.miles)],Uk 0 0 0 0,Ym t,Uk (t.fixed+t.perMile*s.miles+t.perTick*(s.fin-t.opn)) (chgF x r.visits r.typ q.1).1 (chgF x r.visits r.typ q.1).2 ((s.fin-t.opn).tdiv 64*(s.fin-t.opn).tdiv 64),.map (q.2.map eII)])
  (fun q=>q.1<=r.visits.length/\ ∀n,Kj q.2 n=Em r.visits q.1 n) (fun q=>r.visits.length-q.1) (0,[]) ⟨Zb,fun n=>rfl⟩ (Weak.mk ?_) ?_
 ·simp (disch:=omega) only [Zj,Xb,Ym,Uk,chgF,go_sem,seval]
 ·rintro ⟨k,m⟩ ⟨hk,hmg⟩;simp only at hk hmg;have hch:=Bi (x:=x) (l:=r.visits) (t:=r.typ) k;simp (disch:=omega) only [Zj,Xb,Ym,Uk,go_sem,seval];refine cD ?_ ?_<;>intro h1<;>simp (disch:=omega) only [Sh.out h1,go_sem,seval,↓reduceIte]
  ·have hk2:k<r.visits.length:=Za
   obtain ⟨v1,v2⟩:=hv _ (Zq hk2)
   have e3: ¬(nth r.visits k).order<0:=Za
   have e4: ¬(x.orders.length:Int)<=(nth r.visits k).order:=Za
   have v3:(nth r.visits k).order.toNat<x.orders.length:=Za
   have hcs:=RS hk2;have hcr:=bG hk (nth r.visits k).order;have hfi:=Nx (l:=r.visits) (k:=k);have hch2:chgF x r.visits r.typ (k+1)=_:=chgF.eq_2 x r.visits r.typ k;refine LP hT rfl ?_;rw [hmg];refine Wt ?_;refine fB hT rfl fun m' hm'=> ?_
   have hmg': ∀n,Kj m' n=Em r.visits (k+1) n:=fun n=>by grind
   simp (disch:=omega) only [e3,e4,Xr,Yf,go_sem,seval];refine LP hT rfl ?_;rw [hm',if_pos rfl];refine Wt ?_;refine ZN ?_ ?_<;>intro h2
   ·have h3: ¬VX r.visits k=true:=by grind
    rw [if_neg h3] at hch2;exact ⟨(k+1,m'),⟨Za,hmg'⟩,Za,Weak.mk (by simp (disch:=omega) only [hch2,go_sem,seval])⟩
   ·have h3:VX r.visits k=true:=by grind
    rw [if_pos h3] at hch2;refine (A0 (nth x.orders (nth r.visits k).order.toNat).now r.typ).use (Wt ?_);refine cD ?_ ?_<;>intro h4<;>simp (disch:=omega) only [Sh.out h4,go_sem,seval,↓reduceIte]
    ·rw [if_pos h4] at hch2;refine (A0 (nth x.orders (nth r.visits k).order.toNat).last r.typ).use (Wt ?_);refine ZN ?_ ?_<;>intro h5
     ·rw [if_pos h5] at hch2;exact ⟨(k+1,m'),⟨Za,hmg'⟩,Za,Weak.mk (by simp (disch:=omega) only [hch2,go_sem,seval])⟩
     ·rw [if_neg (by rw [h5];simp)] at hch2;exact ⟨(k+1,m'),⟨Za,hmg'⟩,Za,Weak.mk (by simp (disch:=omega) only [hch2,V2,go_sem,seval])⟩
    ·rw [if_neg (by rw [h4];simp)] at hch2;refine (A0 (nth x.orders (nth r.visits k).order.toNat).last r.typ).use (Wt ?_);refine ZN ?_ ?_<;>intro h5
     ·rw [if_pos h5] at hch2;exact ⟨(k+1,m'),⟨Za,hmg'⟩,Za,Weak.mk (by simp (disch:=omega) only [hch2,V2,go_sem,seval])⟩
     ·rw [if_neg (by rw [h5];simp)] at hch2;exact ⟨(k+1,m'),⟨Za,hmg'⟩,Za,Weak.mk (by simp (disch:=omega) only [hch2,V2,go_sem,seval])⟩
  grind
end Go.Proofs.YtiigdaohjanidaaGreatDoor.K
namespace Go.Proofs.YtiigdaohjanidaaGreatDoor.K
open Go Go.AM Go.Proofs
set_option maxRecDepth 8000
set_option maxHeartbeats 8000000
@[go_sem] theorem Zdl {f:FuncId} :(PV.fn f).cells= [.fn f]:=Zh rfl rfl
def Zb2 : AM.Obj:= .cells [.p (.bool false),.p (.int .i64 0),.p (.list true []),.p (.int .i64 0),.p (.int .i64 0)]
theorem NA (x:Inst) (r:Rte) (hx:InstOk x) (hl:r.visits.length<=1048576) (hrl:r.rests.length<=1048576):ACalls Tryz.prog 164 [.p (ZG x),.p (Wc r)] [] fun y H'=>y=Bp x r/\H'= []:=by
 have hld:=U3 hx;have htl:=hld.typ;have hol:=hld.ord;have chk:=gA x r hx hl
 have htb:x.types.length<=6:=by have:=hx.types.1;simp only [rng,Zl] at this;omega
 refine Zf [] Tryz.func164 rfl yK ?_;simp (disch:=omega) only [Tryz.f164,go_sem,seval];refine gF ?_ ?_<;>intro h1<;>simp (disch:=omega) only [Sh.out h1,go_sem,seval,↓reduceIte]
 ·have e:Yj x r=2:=by rw [Yj,if_pos Za]
  rw [Ys (e:=2) (by rw [Z2,e];rfl) Za];exact we (by simp (disch:=omega) only [zShe,zSco,Zo,go_sem,seval])
 ·refine cD ?_ ?_<;>intro h2<;>simp (disch:=omega) only [Sh.out h2,go_sem,seval,↓reduceIte]
  ·have e:Yj x r=2:=by simp_all [Yj]
   rw [Ys (e:=2) (by rw [Z2,e];rfl) Za];exact we (by simp (disch:=omega) only [zShe,zSco,Zo,go_sem,seval])
  ·have hty:0<=r.typ/\r.typ<(x.types.length:Int):=Za
   have hti:r.typ.toNat<x.types.length:=Za
   have hnum:=Vl hx hti;have htyp:nth x.types r.typ.toNat=ZW x r:=rfl;rw [htyp] at hnum
   have hsk: ∀o∈x.orders,o.skills<9223372036854775808:=fun o hm=>by
    obtain ⟨i,hi,rfl⟩:=ZP.1 hm;have:=(hx.orders.2 i hi).skills
    grind [Ze]
   refine Zk [2,3,4,5,25,26] (fun k:Nat=> [(27,.p (.int .i64 k))]) (fun _=> [Zj x,Xb r,Zb2,Uk 0 0 0 0,.elems 1 [.fn 218,.fn 219,.fn 220]])
    (fun k=>k<=3/\(0<k->Xl x r.visits=0)/\(1<k-> ¬(r.visits.any fun v=> !WD (ZW x r) (nth x.orders v.order.toNat).skills)=true)/\(2<k->U9 x (ZW x r).cap r.visits=true)) (fun k=>3-k) 0 ⟨Za,Za,Za,Za⟩ (Weak.mk ?_) ?_
   ·simp (disch:=omega) only [Zj,Xb,Uk,Zb2,go_sem,seval]
   ·rintro k ⟨hk,k1,k2,k3⟩;simp (disch:=omega) only [Zj,Xb,Uk,Zb2,go_sem,seval];refine cD ?_ ?_<;>intro h3<;>simp (disch:=omega) only [Sh.out h3,go_sem,seval,↓reduceIte]
    ·by_cases hk0:k=0
     ·subst hk0;have he:QC [PV.fn 218,PV.fn 219,PV.fn 220] 0=PV.fn 218:=rfl;simp (disch:=first | omega | (simp only [ZH,Zw,Zn,Zx,ZC,ZK]<;>omega)) only [he,go_sem,seval,↓reduceIte];refine (chk).use (Wt ?_);refine ZN ?_ ?_<;>intro h4
      ·have e:Yj x r=Xl x r.visits:=by simp_all [Yj]
       rw [Ys (e:=Xl x r.visits) (by simp_all [Z2]) h4];exact we (by simp (disch:=omega) only [zShe,zSco,Zo,go_sem,seval])
      ·exact ⟨1,⟨Za,fun _=>Za,Za,Za⟩,Za,wk⟩
     ·have h0:=k1 Za;have hsq:=Um h0
      have hr0:Yj x r=if (r.visits.any fun v=> !WD (ZW x r) (nth x.orders v.order.toNat).skills)=true then 18 else if U9 x (ZW x r).cap r.visits=false then 17 else if ¬(0<=r.start/\r.start<=4096/\r.rests.length<=r.visits.length+1) then 2 else 0:=by
       rw [Yj,if_neg (fun h=>h hty),if_neg Za]
      by_cases hk1:k=1
      ·subst hk1;have he:QC [PV.fn 218,PV.fn 219,PV.fn 220] 1=PV.fn 219:=rfl;simp (disch:=first | omega | (simp only [ZH,Zw,Zn,Zx,ZC,ZK]<;>omega)) only [he,go_sem,seval,↓reduceIte];refine (fY x r hty (fun v hv=>by have:=hsq.inr v hv;grind [inB]) hl htl Za Za hsk).use (Wt ?_)
       by_cases h5:(r.visits.any fun v=> !WD (ZW x r) (nth x.orders v.order.toNat).skills)=true
       ·rw [if_pos h5] at hr0 ⊢;rw [Ys (e:=18) (by rw [Z2,hr0];rfl) Za];refine Wt ?_;exact we (by simp (disch:=omega) only [zShe,zSco,Zo,go_sem,seval])
       ·rw [if_neg h5];refine Wt ?_;exact ⟨2,⟨Za,fun _=>h0,fun _=>h5,Za⟩,Za,wk⟩
      ·have hk2:k=2:=Za
       subst hk2;have he:QC [PV.fn 218,PV.fn 219,PV.fn 220] 2=PV.fn 220:=rfl;simp (disch:=first | omega | (simp only [ZH,Zw,Zn,Zx,ZC,ZK]<;>omega)) only [he,go_sem,seval,↓reduceIte];refine (fV x r hx hl hty h0).use (Wt ?_);rw [if_neg (k2 Za)] at hr0
       cases h5:U9 x (ZW x r).cap r.visits with
       | false =>
        rw [if_pos h5] at hr0;rw [Ys (e:=17) (by rw [Z2,hr0];rfl) Za];simp only [Yo,Yr];refine Wt ?_;exact we (by simp (disch:=omega) only [zShe,zSco,Zo,go_sem,seval])
       | true =>
        simp only [if_true];refine Wt ?_;exact ⟨3,⟨Za,fun _=>h0,fun _=>k2 Za,fun _=>Zb⟩,Za,wk⟩
    ·have hk3:k=3:=Za
     subst hk3;have h0:=k1 Za;have hsq:=Um h0
     have hr0:Yj x r=if ¬(0<=r.start/\r.start<=4096/\r.rests.length<=r.visits.length+1) then 2 else 0:=by
      rw [Yj,if_neg (fun h=>h hty),if_neg Za,if_neg (k2 Za),if_neg (by grind)]
     have cb:=oI x r hx hl hrl hty h0;have hok:=KG hx hty hsq
     have hbr:QH x r=Xu x r->(Xu x r).2=0->(0<=r.start/\r.start<=4096/\r.rests.length<=r.visits.length+1)->(0<=(Xu x r).1.fin/\(Xu x r).1.fin<=8192)/\(0<=(Xu x r).1.miles/\(Xu x r).1.miles<=210000):=fun _ hz hs =>
      Eh hok ⟨hs.1,hs.2.1⟩ (by grind [Yl]) hz
     by_cases h6:0<=r.start/\r.start<=4096/\r.rests.length<=r.visits.length+1
     ·have e:Yj x r=0:=Za
      have ee:Z2 x r=(Xu x r).2:=by rw [Z2,if_pos e]
      have eb:QH x r=Xu x r:=by rw [QH,if_pos h6]
      have hbr:=fun hz=>hbr eb hz h6;rw [eb] at cb
      have es:Ww x r=if (Xu x r).2=0 then (Xu x r).1 else zShe:=by rw [Ww,ee]
      have ep:XK x r=if (Xu x r).2=0 then Ip x r (Xu x r).1 else zSco:=by rw [XK,ee]
      unfold Bp;rw [ee,es,ep];clear ee es ep eb
      generalize Xu x r=q at *
      obtain ⟨sh,eb⟩:=q;simp only at cb hbr ⊢;refine X4 cb (Wt ?_);refine cD ?_ ?_<;>intro h7<;>simp (disch:=omega) only [Sh.out h7,go_sem,seval,↓reduceIte]
      ·exact we (by simp (disch:=omega) only [zShe,zSco,Zo,go_sem,seval])
      ·have h7':eb=0:=Za
       try rw [if_pos h7',if_pos h7']
       subst h7';obtain ⟨g1,g2⟩:=hbr rfl;refine Z4 5 mixed Zd Zd (Wt ?_);refine Zp (fZ x r sh hty Za htl hl hsq.inr hnum.2.2.2.1 Za Za Za) (Wt ?_);exact we
     ·have e:Yj x r=2:=Za
      have eb:QH x r=(zShe,2):=by rw [QH,if_neg h6]
      rw [Ys (e:=2) (by rw [Z2,e];rfl) Za];rw [eb] at cb;refine X4 cb (Wt ?_);exact we (by simp (disch:=omega) only [zShe,zSco,Zo,go_sem,seval])
theorem UE {x:Inst} {r:Rte} (h:Z2 x r=0):Yj x r=0:=by
 grind [Z2]
theorem QW {x:Inst} {r:Rte} (h:Yj x r=0):(0<=r.typ/\r.typ<(x.types.length:Int))/\Xl x r.visits=0/\(0<=r.start/\r.start<=4096/\r.rests.length<=r.visits.length+1):=by
 unfold Yj at h;omega
theorem Lk {x:Inst} {r:Rte} (hx:InstOk x) (h:Z2 x r=0):(0<=(Ww x r).fin/\(Ww x r).fin<=8192)/\(0<=(Ww x r).miles/\(Ww x r).miles<=210000):=by
 obtain ⟨hty,h0,hs⟩:=QW (UE h)
 have e:Ww x r=(Xu x r).1:=by rw [Ww,if_pos h]
 have ee:(Xu x r).2=0:=by rw [Z2,if_pos (UE h)] at h;exact h
 rw [e];exact Eh (KG hx hty (Um h0)) ⟨hs.1,hs.2.1⟩ (by grind [Yl]) ee
theorem Fo {x:Inst} (hx:InstOk x) (i:Int):UZ 1073741824 (XD x i).1:=by
 unfold XD
 split
 ·simp [UZ,zSco]
 ·split
  ·simp [UZ,zSco]
  ·split
   ·simp [UZ,zSco]
   ·have ha:=(hx.orders.2 i.toNat Za).arg;simp only [argOk,rng,ZO,Zl] at ha
    grind [UZ]
theorem ZdV {a b:Sco} {B C:Int} (ha:UZ B a) (hb:UZ C b):UZ (B+C) (Ya a b):=by
 grind [UZ,Ya]
theorem YX {a:Sco} {B C:Int} (h:B<=C) (ha:UZ B a):UZ C a:=by
 grind [UZ]
theorem Cx {x:Inst} {r:Rte} (hx:InstOk x) (hl:r.visits.length<=1048576) (h:Z2 x r=0):UZ 1073741824 (XK x r):=by
 have hg:=Lk hx h;obtain ⟨hty,_,_⟩:=QW (UE h);have hnum:=Vl hx (show r.typ.toNat<x.types.length by omega);have htyp:nth x.types r.typ.toNat=ZW x r:=rfl;rw [htyp] at hnum
 have e:(Xu x r).1=Ww x r:=by rw [Ww,if_pos h]
 have hch:=Bi (x:=x) (l:=r.visits) (t:=r.typ) r.visits.length;rw [XK,if_pos h,e];unfold Ip UZ
 generalize Ww x r=s at *
 generalize ZW x r=t at *
 have p1:0<=t.perMile*s.miles/\t.perMile*s.miles<=100*210000:=⟨V1 Za Za,Vx Za Za Za Za⟩
 have hW: -8192<=s.fin-t.opn/\s.fin-t.opn<=8192:=Za
 have p2: -819200<=t.perTick*(s.fin-t.opn)/\t.perTick*(s.fin-t.opn)<=819200:=by
  generalize s.fin-t.opn=w at hW;have a1:=CE hW.2 (show 0<=t.perTick by omega);have a2:=CE hW.1 (show 0<=t.perTick by omega);omega
 have p3: -128<=(s.fin-t.opn).tdiv 64/\(s.fin-t.opn).tdiv 64<=128:=by
  grind
 have p4:0<=(s.fin-t.opn).tdiv 64*(s.fin-t.opn).tdiv 64/\(s.fin-t.opn).tdiv 64*(s.fin-t.opn).tdiv 64<=16384:=by
  generalize (s.fin-t.opn).tdiv 64=q at p3;refine ⟨?_,?_⟩
  ·rcases K8 0 q with h | h
   ·exact V1 h h
   ·exact Int.mul_nonneg_of_nonpos_of_nonpos h h
  ·rcases K8 0 q with h | h
   ·have:=Vx p3.2 p3.2 h Za;omega
   ·have h2:0<= -q:=Za
    have:=Vx (show-q<=128 by omega) (show-q<=128 by omega) h2 Za
    grind
 grind
def WJ (x:Inst) (r:Rte):Int×Int:=if Z2 x r=0 then XE (XK x r) else (0,Z2 x r)
theorem jI (s:Sco):0<=(XE s).1/\(XE s).1<=36028797018963968:=by
 grind [XE]
theorem Mc (x:Inst) (r:Rte):0<=(WJ x r).1/\(WJ x r).1<=36028797018963968:=by
 unfold WJ
 split
 ·exact jI _
 ·simp
theorem S7 (x:Inst) (r:Rte) (hx:InstOk x) (hb:Ik r):PT 237 [.p (ZG x),.p (Wc r)] [.p (.int .i64 (WJ x r).1),.p (.int .i64 (WJ x r).2)]:=by
 have ce:=NA x r hx hb.1 hb.2;refine Zf [] Tryz.func237 rfl zX ?_;simp (disch:=omega) only [Tryz.f237,go_sem,seval];unfold Bp at ce;refine Rb ce (Wt ?_);refine cD ?_ ?_<;>intro h1<;>simp (disch:=omega) only [Sh.out h1,go_sem,seval,↓reduceIte]
 ·rw [WJ,if_neg h1];exact we
 ·have h0:Z2 x r=0:=Za
  rw [WJ,if_pos h0];refine Dx (GH (XK x r) (YX Za (Cx hx hb.1 h0))) (Wt ?_);exact we
theorem jH {x:Inst} {t:Typ} {p:Int} {stop:Stp} {out:List Sr} {a b:Sr} (h:b∈out):b∈Q4 x t p stop out a:=by
 grind [Q4,WW]
theorem Lv {x:Inst} {t:Typ} {p:Int} {stop:Stp} : ∀(st:List Sr) (out:List Sr) (b:Sr),(b∈out->b∈st.foldl (Q4 x t p stop) out)/\ ∀a∈st,(∀o,b∈Q4 x t p stop o a)->b∈st.foldl (Q4 x t p stop) out
 | [],out,b=>⟨id,fun a h=>by simp at h⟩
 | c::st,out,b=>by
  rw [Yp];obtain ⟨g1,g2⟩:=Lv st (Q4 x t p stop out c) b;refine ⟨fun h=>g1 (jH h),fun a ha hb=> ?_⟩
  grind
inductive Rch (x:Inst) (t:Typ) (sp:List Stp):Nat->Lab->Prop where
 | zero:Rch x t sp 0 (labF t 0)
 | succ {k:Nat} {L:Lab} (b:Bool) (h:Rch x t sp k L) (hk:k<sp.length) (e:(nxtF x t sp k L b).2=0):Rch x t sp (k+1) (nxtF x t sp k L b).1
theorem PW {x:Inst} {t:Typ} {sp:List Stp} : ∀(bs:List Bool) (k:Nat) (L:Lab),Rch x t sp k L->k+bs.length=sp.length+1->(Xy x t sp k L bs).2=0-> ∀j,k<=j->j<=sp.length-> ∃L',Rch x t sp j L'
 | [],k,L,h,hl,_,j,h1,h2=>by grind
 | b::bs,k,L,h,hl,hr,j,h1,h2=>by
  by_cases e:k=j
  ·grind
  ·rw [Xy] at hr
   split at hr
   ·rename_i he;exact PW bs (k+1) _ (.succ b h Za he) (by grind) hr j Za h2
   omega
def TH (x:Inst) (t:Typ) (l:List Vis) (s:Int×List Sr):Prop:=s.1=Uj t (Z6 x l) l.length/\ ∀r L,Rch x t (Z6 x (l++r)) l.length L-> ∀b,(⟨ZM t L b,Ws L b⟩:Sr)∈s.2
def goS (x:Inst) (t:Typ) (s:Int×List Sr) (v:Vis):Int×List Sr:=((XL x v).place,C2 x t s.1 s.2 (XL x v))
def st0 (t:Typ):Int×List Sr:=(t.src,Vj t [] t.opn 0)
theorem bN {x:Inst} {t:Typ} (h:0<=t.opn):TH x t [] (st0 t):=by
 refine ⟨rfl,fun r L hL b=> ?_⟩
 have:L=labF t 0:=by
  generalize hk:([]:List Vis).length=k at hL
  cases hL with
  | zero=>rfl
  | succ=>simp at hk
 subst this
 have hm:max t.opn 0=t.opn:=Za
 cases b
 ·exact WW.2 (.inr (.inl (by simp [ZM,Ws,labF,hm])))
 ·exact WW.2 (.inr (.inr (by simp [ZM,Ws,labF,hm])))
theorem GV {x:Inst} {l r:List Vis} {v:Vis} :nth (Z6 x (l++(v::r))) l.length=XL x v:=by
 grind [Ze,Z6]
theorem gP {x:Inst} {t:Typ} {l r:List Vis} :Uj t (Z6 x (l++r)) l.length=Uj t (Z6 x l) l.length:=by
 grind [Uj,Z6,Ze]
theorem bM {x:Inst} {t:Typ} {l:List Vis} {s:Int×List Sr} {v:Vis} (h:TH x t l s):TH x t (l++ [v]) (goS x t s v):=by
 obtain ⟨h1,h2⟩:=h;refine ⟨?_,fun r L' hL b=> ?_⟩
 ·have e:=GV (x:=x) (l:=l) (r:= []) (v:=v);rw [Uj,if_neg Zb,show (l++ [v]).length-1=l.length by simp,e];rfl
 ·rw [UK,ZY,Xk] at hL;generalize hsp:Z6 x (l++(v::r))=sp at hL
  have hlen:l.length<sp.length:=by grind [Z6]
  have hat:nth sp l.length=XL x v:=by grind [GV]
  have hpl:Uj t sp l.length=s.1:=by grind [gP]
  generalize hk:(l++ [v]).length=k at hL
  cases hL with
  | zero=>simp at hk
  | succ b' hp hk' he =>
   rename_i k L
   have hkl:k=l.length:=by grind
   subst hkl;have hmem:=h2 (v::r) L (by grind) b'
   generalize hd:ZM t L b'=d at *
   generalize hs:Ws L b'=w at *
   have hg:Y7 x t sp l.length d=goN x.net t.prof s.1 (XL x v).place d:=by
    rw [Y7,hpl,To,if_neg Za,hat]
   unfold nxtF at he ⊢;rw [hd,hs,hg] at he ⊢
   generalize hgn:goN x.net t.prof s.1 (XL x v).place d=g at *
   unfold Wz at he ⊢
   split at he
   ·simp at he
   ·rename_i c1;rw [if_neg c1];rw [if_neg Za] at he ⊢;rw [hat] at he ⊢
    split at he
    ·simp at he
    ·rename_i c2;rw [if_neg c2]
     split at he
     ·simp at he
     ·rename_i c3;rw [if_neg c3];refine (Lv s.2 [] _).2 ⟨d,w⟩ hmem fun o=> ?_;have c4: ¬(¬g.2.2=0\/t.drive<w+g.1-d):=fun hh=>hh.elim (fun e=>c1 e) (fun e=>c3 e);simp only [Q4,hgn];rw [if_neg c4,if_neg c2]
      cases b
      ·exact WW.2 (.inr (.inl rfl))
      ·exact WW.2 (.inr (.inr rfl))
theorem R1 {x:Inst} {k:Int} {l:List Vis} {s:Int×List Sr} (h:TH x (nth x.types k.toNat) l s) (he:s.2= []) (r:List Vis) (c d:Bool): ¬(WJ x ⟨k,0,c,[],d,l++r⟩).2=0:=fun hp=>by
 have h1:Z2 x ⟨k,0,c,[],d,l++r⟩=0:=by
  grind [WJ]
 have h2:(Xu x ⟨k,0,c,[],d,l++r⟩).2=0:=by
  grind [Z2]
 obtain ⟨bs,hl,hrun,_⟩:=F7 Zb h2;obtain ⟨L,hL⟩:=PW bs 0 _ .zero Za hrun l.length Za (by simp [Z6]);have:=h.2 r L hL false
 grind
def Di (k:Int) (l:List Vis):Rte:=⟨k,0,true,[],false,l⟩
def Fz (x:Inst) (k:Int) (l:List Vis):Bool:=decide ((WJ x (Di k l)).2=0)
def okR (x:Inst) (k:Int) (S:Nat) (l:List Vis):Bool:=decide ((JF l).1=(S:Int))&&(decide (Z2 x (Di k l)=0)&&Fz x k l)
def Uc (x:Inst) (k:Int) (S:Nat) (l:List Vis):Col:=⟨k,S,(WJ x (Di k l)).1,Di k l⟩
def QI (a b:Col):Bool:=if a.price≠b.price then decide (a.price<b.price) else decide (LM a.route.visits b.route.visits<0)
def nX (x:Inst) (S:Nat) (l:List Vis):List Vis:=nextU x S l x.orders.length
def VT (x:Inst) (S:Nat):Nat:=Ax x S x.orders.length
def Pw (x:Inst) (k:Int) (S f:Nat) (l:List Vis) (s:Int×List Sr):List (List Vis):=lvW (nX x S) (goS x (nth x.types k.toNat)) (fun s=>s.2.isEmpty) f l s
def Dp (x:Inst) (k:Int) (S:Nat) (z:Col×Bool):Col×Bool:=(Pw x k S (VT x S) [] (st0 (nth x.types k.toNat))).foldl (Wu (Fz x k) (Uc x k S) QI) z
def lQ (x:Inst) (k:Int) (S:Nat) (z:Col×Bool):Col×Bool:=(M3 (nX x S) (VT x S) []).foldl (Wu (okR x k S) (Uc x k S) QI) z
theorem G1 {ok ok':List Vis->Bool} {col:List Vis->Col} {better:Col->Col->Bool} : ∀ {L:List (List Vis)} {b:Col×Bool},(∀l∈L,ok l=ok' l)->L.foldl (Wu ok col better) b=L.foldl (Wu ok' col better) b
 | [],_,_=>rfl
 | l::L,b,h=>by
  rw [Yp,Yp,Wu,Wu,h l Zb];exact G1 fun m hm=>h m (Yv _ hm)
theorem eQ {x:Inst} {S:Nat} (hN: ∀l,Gr x S l->l.length<VT x S->nX x S l≠ []): ∀(f:Nat) (l m:List Vis),Gr x S l->l.length+f=VT x S->m∈M3 (nX x S) f l->Gr x S m/\m.length=VT x S
 | 0,l,m,h,ht,hm=>by
  simp_all [M3]
 | f+1,l,m,h,ht,hm=>by
  rw [M3,if_neg (hN l h Za)] at hm;obtain ⟨v,hv,hm⟩:=YN.1 hm;exact eQ hN f _ m (.snoc h hv) (by simp;omega) hm
theorem Wd {x:Inst} {r:Rte} (h:Z2 x r=0):RightV x r.visits:=by
 rw [<- SZ]
 have h1:Yj x r=0:=by
  grind [Z2]
 unfold Yj at h1;omega
theorem VO {x:Inst} {k:Int} {l:List Vis} (h:Fz x k l=true):Z2 x (Di k l)=0:=by
 have h:=K1 h
 grind [WJ]
theorem SA {x:Inst} (hx:InstOk x) {S:Nat} (ha:Alw x S) (l:List Vis) (h:Gr x S l) (hl:l.length<VT x S):nX x S l≠ []:=fun e=>by
 have hf:=XY hx
 have hn:x.orders.length<=60:=by have:=hf.len;omega
 have:=(h.next_nil ha hn hf.val).1 e
 grind [VT]
theorem aN {x:Inst} (hx:InstOk x) {k:Int} {S:Nat} (h0:S≠0) (hS:S / pw x.orders.length=0) (ha:Alw x S) (ht:0<=(nth x.types k.toNat).opn) (z:Col×Bool):Dp x k S z=lQ x k S z:=by
 have hN:=SA hx ha
 have h1:lQ x k S z=(M3 (nX x S) (VT x S) []).foldl (Wu (Fz x k) (Uc x k S) QI) z:=G1 fun l hl=>by
  obtain ⟨hg,hlen⟩:=eQ hN _ _ _ .nil Zb hl;obtain ⟨hr,ho⟩:=hg.right (XY hx) ha h0 hS hlen;unfold okR
  cases hv:Fz x k l with
  | false=>simp
  | true =>
   rw [VO hv,hr.ord (XY hx),ho];simp
 rw [h1,Dp,Pw,Qf,Qf (M3 _ _ _)]
 rw [<- tA (nx:=nX x S) (go:=goS x (nth x.types k.toNat)) (emp:=fun s=>s.2.isEmpty) (ok:=Fz x k) (G:=Gr x S) (R:=TH x (nth x.types k.toNat)) (tot:=VT x S) (fun l v hl hv=> .snoc hl hv) (fun l s v _ hs _=>bM hs)
  (fun l s _ hs he r=>WU (R1 hs (List.isEmpty_iff.1 he) r true false)) hN (VT x S) [] (st0 (nth x.types k.toNat)) .nil (bN ht) Zb]
def W3 (s:Sco):Prop:=0<=s.cost/\0<=s.moved/\0<=s.other/\0<=s.work
theorem Kr {a b:Sco} (ha:W3 a) (hb:W3 b):W3 (Ya a b):=by
 obtain ⟨a1,a2,a3,a4⟩:=ha;obtain ⟨b1,b2,b3,b4⟩:=hb;exact ⟨by show 0<=a.cost+b.cost;omega,by show 0<=a.moved+b.moved;omega,by show 0<=a.other+b.other;omega,by show 0<=a.work+b.work;omega⟩
theorem Q5 {s:Sco} (hs:W3 s):(XE s).2=0↔s.cost<=1073741824/\s.moved<16/\s.other<16/\s.work<65536:=by
 obtain ⟨a1,a2,a3,a4⟩:=hs;unfold XE
 grind
theorem MS {s:Sco} (hs:W3 s) (h:(XE s).2=0):(XE s).1=((s.cost*16+s.moved)*16+s.other)*65536+s.work:=by
 have h:=(Q5 hs).1 h;obtain ⟨a1,a2,a3,a4⟩:=hs
 simp_all [XE,if_neg]
theorem qH {a b:Sco} (ha:W3 a) (hb:W3 b) (h:(XE (Ya a b)).2=0):(XE a).2=0/\(XE b).2=0/\(XE (Ya a b)).1=(XE a).1+(XE b).1:=by
 have h1:=(Q5 (Kr ha hb)).1 h;have hv:=MS (Kr ha hb) h;have hA:(XE a).2=0:=(Q5 ha).2 (by simp only [Ya] at h1;obtain ⟨b1,b2,b3,b4⟩:=hb;omega)
 grind [XE,Q5,Ya]
theorem Fq {α:Type} {f:α->Sco} : ∀(l:List α) (s:Sco),(∀a∈l,W3 (f a))->W3 s->(XE (l.foldl (fun s a=>Ya s (f a)) s)).2=0 ->
  (XE s).2=0/\(∀a∈l,(XE (f a)).2=0)/\(XE (l.foldl (fun s a=>Ya s (f a)) s)).1=(XE s).1+(l.map fun a=>(XE (f a)).1).sum
 | [],s,_,_,h=>⟨h,Zb,Zb⟩
 | a::l,s,hf,hs,h=>by
  rw [Yp] at h ⊢;have ha:=hf a Zb;obtain ⟨g1,g2,g3⟩:=Fq l (Ya s (f a)) (fun b hb=>hf b (Yv _ hb)) (Kr hs ha) h;obtain ⟨k1,k2,k3⟩:=qH hs ha g1
  grind
def UB (rs:List Rte) (i:Nat):Int:=(rs.countP fun r=>hasO r.visits (i:Int):Nat)
def Wb (us:List Int) (i:Nat):Int:=(us.countP fun u=>decide (u=(i:Int)):Nat)
def Bj (rs:List Rte) (i:Nat):Int:=(rs.countP fun r=>decide (r.typ=(i:Int)):Nat)
theorem RU {rs:List Rte} {k:Nat} (h:k<rs.length) (i:Nat):UB (rs.take (k+1)) i=if hasO (nth rs k).visits (i:Int)=true then UB (rs.take k) i+1 else UB (rs.take k) i:=by
 grind [UB,Xo,Ze]
theorem RX {us:List Int} {k:Nat} (h:k<us.length) (i:Nat):Wb (us.take (k+1)) i=if nth us k=(i:Int) then Wb (us.take k) i+1 else Wb (us.take k) i:=by
 grind [Wb,Xo,Ze]
theorem RW {rs:List Rte} {k:Nat} (h:k<rs.length) (i:Nat):Bj (rs.take (k+1)) i=if (nth rs k).typ=(i:Int) then Bj (rs.take k) i+1 else Bj (rs.take k) i:=by
 grind [Bj,Xo,Ze]
theorem I7 {rs:List Rte} {k:Nat} (i:Nat):0<=UB (rs.take k) i/\UB (rs.take k) i<=rs.length:=by
 grind [ZC,UB]
theorem I8 {us:List Int} {k:Nat} (i:Nat):0<=Wb (us.take k) i/\Wb (us.take k) i<=us.length:=by
 grind [ZC,Wb]
theorem bJ {rs:List Rte} {k:Nat} (i:Nat):0<=Bj (rs.take k) i/\Bj (rs.take k) i<=rs.length:=by
 grind [ZC,Bj]
def C0 (x:Inst) (us:List Int):Bool:=us.all fun u=>decide (0<=u)&&decide (u<(x.orders.length:Int))
def ZdS (x:Inst):List Rte->Int
 | []=>0
 | r::l=>if Z2 x r=0 then ZdS x l else Z2 x r
theorem O5 {x:Inst} : ∀ {l:List Rte} {k:Nat},k<l.length->(∀j,j<k->Z2 x (nth l j)=0)-> ¬Z2 x (nth l k)=0->ZdS x l=Z2 x (nth l k)
 | r::l,0,_,_,h=>by rw [ZdS,if_neg (show ¬Z2 x r=0 from h)];rfl
 | r::l,k+1,hk,h0,h=>by
  rw [ZdS,if_pos (show Z2 x r=0 from h0 0 Za)];exact O5 (l:=l) (k:=k) (by grind) (fun j hj=>h0 (j+1) Za) h
theorem O6 {x:Inst} : ∀ {l:List Rte},(∀j,j<l.length->Z2 x (nth l j)=0)->ZdS x l=0
 | [],_=>rfl
 | r::l,h=>by
  rw [ZdS,if_pos (show Z2 x r=0 from h 0 Zb)];exact O6 fun j hj=>h (j+1) (by grind)
def FO (p:Pln) (i:Nat):Int:=UB p.routes i+Wb p.unserved i
def A9 (x:Inst) (p:Pln):Bool:=(List.range x.orders.length).any fun i=>decide (1<FO p i)
def AS (x:Inst) (p:Pln):Bool:=(List.range x.types.length).any fun t=>decide ((nth x.types t).count<Bj p.routes t)
def KC (x:Inst) (p:Pln):Bool:=(List.range x.orders.length).any fun i=>(nth x.orders i).off&&decide (0<Wb p.unserved i)
def De (x:Inst) (p:Pln):Bool:=(List.range x.orders.length).any fun i=> !(nth x.orders i).off&&(decide (FO p i=0)||(decide (0<Wb p.unserved i)&&decide ((nth x.orders i).penalty= -1)))
def WE (x:Inst) (p:Pln):Int :=
 if ¬ZdS x p.routes=0 then ZdS x p.routes
 else if C0 x p.unserved=false then 2
 else if A9 x p=true then 6
 else if AS x p=true then 22
 else if KC x p=true then 9
 else if De x p=true then 23
 else 0
theorem bI {rs:List Rte} (i:Nat):0<=UB rs i/\UB rs i<=rs.length:=by
 have:=I7 (rs:=rs) (k:=rs.length) i
 grind
theorem bK {us:List Int} (i:Nat):0<=Wb us i/\Wb us i<=us.length:=by
 have:=I8 (us:=us) (k:=us.length) i
 grind
theorem tC {x:Inst} (hx:InstOk x):x.orders.length<=10:=by have:=hx.orders.1;omega
theorem ZnQ {x:Inst} (hx:InstOk x):x.types.length<=6:=by have:=hx.types.1;simp only [rng,Zl] at this;omega
theorem oO {p:Pln} (hp:p.wf 1048576): ∀r∈p.routes,Ik r:=fun r hr=>by
 obtain ⟨_,_,w1,_,w2,_⟩:=hp.2.1 r hr;exact ⟨w2,w1⟩
theorem Lj {x:Inst} {l:List Rte} :ZdS x l=0↔ ∀r∈l,Z2 x r=0:=by
 induction l with
 | nil=>simp [ZdS]
 | cons r l ih =>
  rw [ZdS]
  grind
def Wm (x:Inst) (l:List Rte):Sco:=l.foldl (fun s r=>Ya s (XK x r)) zSco
def JX (x:Inst) (s:Sco) (l:List Int):Sco:=l.foldl (fun s i=>Ya s (XD x i).1) s
theorem GY {x:Inst} {l:List Rte} {k:Nat} (h:k<l.length):Wm x (l.take (k+1))=Ya (Wm x (l.take k)) (XK x (nth l k)):=by
 grind [Wm,Xo,Ze]
theorem GZ {x:Inst} {s:Sco} {l:List Int} {k:Nat} (h:k<l.length):JX x s (l.take (k+1))=Ya (JX x s (l.take k)) (XD x (nth l k)).1:=by
 grind [JX,Xo,Ze]
theorem MH {x:Inst} {l:List Rte} (hx:InstOk x) (hb: ∀r∈l,Ik r) (h: ∀r∈l,Z2 x r=0): ∀k:Nat,k<=l.length->UZ (1073741824*k) (Wm x (l.take k))
 | 0,_=>by simp [Wm,UZ,zSco]
 | k+1,hk=>by
  rw [GY Za];have hm:=ZD (l:=l) (show k<l.length by omega);exact YX Za (ZdV (MH hx hb h k Za) (Cx hx (hb _ hm).1 (h _ hm)))
theorem MI {x:Inst} {s:Sco} {l:List Int} {B:Int} (hx:InstOk x) (hs:UZ B s): ∀k:Nat,k<=l.length->UZ (B+1073741824*k) (JX x s (l.take k))
 | 0,_=>by grind [JX]
 | k+1,hk=>by
  rw [GZ Za];exact YX Za (ZdV (MI hx hs k Za) (Fo hx _))
def QX (x:Inst) (p:Pln):Sco:=if WE x p=0 then JX x (Wm x p.routes) p.unserved else zSco
theorem QK {x:Inst} {p:Pln} (h:WE x p=0):(∀r∈p.routes,Z2 x r=0)/\ ∀i∈p.unserved,(XD x i).2=0:=by
 unfold WE at h
 split at h
 ·omega
 ·rename_i c0;have her:ZdS x p.routes=0:=XU.1 c0
  split at h
  ·simp at h
  ·rename_i c1
   split at h
   ·simp at h
   ·split at h
    ·simp at h
    ·split at h
     ·simp at h
     ·rename_i c4
      split at h
      ·simp at h
      ·rename_i c5;refine ⟨Lj.1 her,fun u hu=> ?_⟩
       have hub:C0 x p.unserved=true:=by grind
       rw [C0,Zv] at hub;have h1:=hub u hu;simp only [ZO,Zl] at h1
       have hui:u.toNat<x.orders.length:=Za
       have hcu:0<Wb p.unserved u.toNat:=by
        unfold Wb;have:0<p.unserved.countP fun v=>decide (v=(u.toNat:Int)):=VZ.2 ⟨u,hu,by grind⟩;omega
       have h4:KC x p=false:=by grind
       have h5:De x p=false:=by grind
       have h4:=XV.1 h4 _ (ZQ.2 hui);have h5:=XV.1 h5 _ (ZQ.2 hui)
       simp_all [XD,if_neg]
theorem aV {x:Inst} {p:Pln} (h:WE x p=0):ZdS x p.routes=0/\C0 x p.unserved=true/\A9 x p=false/\AS x p=false/\KC x p=false/\De x p=false:=by
 unfold WE at h
 by_cases c0:ZdS x p.routes=0
 ·grind
 omega
theorem Cv {x:Inst} {p:Pln} (h:WE x p=0) :
  (∀u∈p.unserved,0<=u/\u<(x.orders.length:Int)) /\
  (∀i:Nat,i<x.orders.length->p.routes.countP (fun r=>hasO r.visits (i:Int))+p.unserved.countP (fun u=>decide (u=(i:Int)))<=1) /\
  (∀i:Nat,i<x.orders.length->(i:Int)∈p.unserved->(nth x.orders i).off=false/\(nth x.orders i).penalty≠ -1) /\
  (∀i:Nat,i<x.orders.length->(nth x.orders i).off=false->1<=p.routes.countP (fun r=>hasO r.visits (i:Int))+p.unserved.countP (fun u=>decide (u=(i:Int)))) /\
  (∀t:Nat,t<x.types.length->((p.routes.countP fun r=>decide (r.typ=(t:Int)):Nat):Int)<=(nth x.types t).count):=by
 obtain ⟨_,h1,h2,h3,h4,h5⟩:=aV h
 have hcu: ∀i:Nat,(i:Int)∈p.unserved->0<Wb p.unserved i:=fun i hi=>by
  grind [Wb,VZ]
 have g2:=XV.1 h2;have g3:=XV.1 h3;have g4:=XV.1 h4;have g5:=XV.1 h5;refine ⟨fun u hu=> ?_,fun i hi=> ?_,fun i hi hu=> ?_,fun i hi ho=> ?_,fun t ht=> ?_⟩
 ·grind [C0]
 ·exact Nat.le_of_not_lt fun hlt=>g2 i (ZQ.2 hi) (Yq (by grind [FO,UB,Wb]))
 ·grind
 ·grind [FO,UB,Wb]
 grind [Bj]
theorem fK (p:Pln) (i:Nat) (hr:p.routes.length<=1048576) (hu:p.unserved.length<=1048576) (hv: ∀r∈p.routes,r.visits.length<=1048576) :
  PT 47 [.p (Ue p),.p (.int .i64 (i:Nat))] [.p (.int .i64 (UB p.routes i)),.p (.int .i64 (Wb p.unserved i))]:=by
 refine Zf [] Tryz.func47 rfl Zhn ?_;simp (disch:=omega) only [Tryz.f47,go_sem,seval];refine Zk [1,2,7] (fun k:Nat=> [(6,.p (.int .i64 (UB (p.routes.take k) i))),(8,.p (.int .i64 k))]) (fun _=> [X8 p]) (fun k=>k<=p.routes.length) (fun k=>p.routes.length-k) 0 Zb (Weak.mk ?_) ?_
 ·simp (disch:=omega) only [X8,UB,WV,List.countP_nil,go_sem,seval]
 ·intro k hk;refine Zbu ?_;refine cD ?_ ?_<;>intro h1<;>simp (disch:=omega) only [Sh.out h1,go_sem,seval,↓reduceIte]
  ·have hk2:k<p.routes.length:=Za
   have hvl:=hv _ (ZD hk2);have hsu:=RU hk2 i;have hg:=I7 (rs:=p.routes) (k:=k) i;refine Zk [1,2,7,8] (fun j:Nat=> [(6,.p (.int .i64 (UB (p.routes.take k) i))),(9,.p (.int .i64 j))]) (fun _=> [X8 p]) (fun j=>j<=(nth p.routes k).visits.length/\ ∀q,q<j->(nth (nth p.routes k).visits q).order≠(i:Int)) (fun j=>(nth p.routes k).visits.length-j) 0 Zb (Weak.mk ?_) ?_
   ·simp (disch:=omega) only [X8,go_sem,seval]
   ·rintro j ⟨hj,hno⟩;refine Zbu ?_;refine ZN ?_ ?_<;>intro h2
    ·have hj2:j<(nth p.routes k).visits.length:=Za
     refine ZN ?_ ?_<;>intro h3
     ·have hh:hasO (nth p.routes k).visits (i:Int)=true:=Xj.2 ⟨_,ZD hj2,h3⟩;rw [if_pos hh] at hsu;exact ⟨k+1,Za,Za,Weak.mk (by simp (disch:=omega) only [hsu,go_sem,seval])⟩
     ·exact ⟨j+1,⟨Za,Zm.2 ⟨hno,h3⟩⟩,Za,wk⟩
    ·have hh: ¬hasO (nth p.routes k).visits (i:Int)=true:=fun e=>by
      obtain ⟨v,hv,e⟩:=Xj.1 e;obtain ⟨q,hq,rfl⟩:=ZP.1 hv
      grind [Ze]
     rw [if_neg hh] at hsu;exact ⟨k+1,Za,Za,Weak.mk (by simp (disch:=omega) only [hsu,go_sem,seval])⟩
  ·have hkl:k=p.routes.length:=Za
   subst hkl;rw [X7];refine Zk [1,2,6] (fun k:Nat=> [(7,.p (.int .i64 (Wb (p.unserved.take k) i))),(10,.p (.int .i64 k))]) (fun _=> [X8 p]) (fun k=>k<=p.unserved.length) (fun k=>p.unserved.length-k) 0 Zb (Weak.mk ?_) ?_
   ·simp (disch:=omega) only [X8,Wb,WV,List.countP_nil,go_sem,seval]
   ·intro k hk;refine Zbu ?_;refine cD ?_ ?_<;>intro h2<;>simp (disch:=omega) only [Sh.out h2,go_sem,seval,↓reduceIte]
    ·have hk2:k<p.unserved.length:=Za
     have hsu:=RX hk2 i;have hg:=I8 (us:=p.unserved) (k:=k) i;refine ZN ?_ ?_<;>intro h3
     ·rw [if_pos h3] at hsu;exact ⟨k+1,Za,Za,Weak.mk (by simp (disch:=omega) only [hsu,go_sem,seval])⟩
     ·rw [if_neg h3] at hsu;exact ⟨k+1,Za,Za,Weak.mk (by simp (disch:=omega) only [hsu,go_sem,seval])⟩
    ·have hkl:k=p.unserved.length:=Za
     subst hkl;rw [X7];exact we
theorem Hj {n:Nat} {f:Nat->Bool} {k:Nat} (hk:k<n) (h:f k=true):(List.range n).any f=true:=UM.2 ⟨k,ZQ.2 hk,h⟩
theorem OH {n:Nat} {f:Nat->Bool} (h: ∀j,j<n->f j=false):(List.range n).any f=false:=by
 grind
def eW (x:Inst) (p:Pln) (i:Nat):Bool:= !(nth x.orders i).off&&(decide (FO p i=0)||(decide (0<Wb p.unserved i)&&decide ((nth x.orders i).penalty= -1)))
theorem Fl {P Q:Prop} (h:Q) (e:Q->P:=by intro h;simp (disch:=omega) only [Zj,X8,go_sem,seval];exact h):P:=e h
theorem OV (x:Inst) (p:Pln) (hx:InstOk x) (hr:p.routes.length<=1048576) (hu:p.unserved.length<=1048576) (hb: ∀r∈p.routes,Ik r) :
  PC 16 [.p (ZG x),.p (Ue p)] (.int .i64 (WE x p)):=by
 have hn:=tC hx;have ht:=ZnQ hx;have hvl: ∀r∈p.routes,r.visits.length<=1048576:=fun r hr=>(hb r hr).1
 have cR: ∀i,0<=UB p.routes i/\UB p.routes i<=1048576:=fun i=>by have:=bI (rs:=p.routes) i;omega
 have cU: ∀i,0<=Wb p.unserved i/\Wb p.unserved i<=1048576:=fun i=>by have:=bK (us:=p.unserved) i;omega
 refine Zf [] Tryz.func16 rfl Zhf ?_;simp (disch:=omega) only [Tryz.f16,go_sem,seval];refine Zk [2,3] (fun k:Nat=> [(5,.p (.int .i64 k))]) (fun _=> [Zj x,X8 p]) (fun k=>k<=p.routes.length/\ ∀j,j<k->Z2 x (nth p.routes j)=0) (fun k=>p.routes.length-k) 0 Zb (Weak.mk ?_) ?_
 ·simp (disch:=omega) only [Zj,X8,go_sem,seval]
 ·rintro k ⟨hk,h0⟩;refine Fl ?_;refine cD ?_ ?_<;>intro h1<;>simp (disch:=omega) only [Sh.out h1,go_sem,seval,↓reduceIte]
  ·have hk2:k<p.routes.length:=Za
   obtain ⟨b1,b2⟩:=hb _ (ZD hk2);refine Z4 7 mixed Zd Zd (Wt ?_);refine Zp (Tt x (nth p.routes k) hx b1 b2) (Wt ?_);refine ZN ?_ ?_<;>intro h2
   ·have he:WE x p=Z2 x (nth p.routes k):=by
     have e:=O5 hk2 h0 h2
     simp_all [WE]
    rw [he];exact we
   ·exact ⟨k+1,⟨Za,Zm.2 ⟨h0,Za⟩⟩,Za,wk⟩
  ·have hkl:k=p.routes.length:=Za
   subst hkl;have her:=O6 h0;have c0: ¬ ¬ZdS x p.routes=0:=fun e=>e her;refine Zk [2,3] (fun k:Nat=> [(7,.p (.int .i64 k))]) (fun _=> [Zj x,X8 p]) (fun k=>k<=p.unserved.length/\ ∀j,j<k->0<=nth p.unserved j/\nth p.unserved j<(x.orders.length:Int)) (fun k=>p.unserved.length-k) 0 Zb (Weak.mk ?_) ?_
   ·simp (disch:=omega) only [Zj,X8,go_sem,seval]
   ·rintro k ⟨hk,hno⟩;refine Fl ?_
    have hbad:k<p.unserved.length->(decide (0<=nth p.unserved k)&&decide (nth p.unserved k<(x.orders.length:Int)))=false->WE x p=2:=fun h1 h2=>by
     have:C0 x p.unserved=false:=by
      grind [C0,ZD]
     simp_all [WE]
    refine cD ?_ ?_<;>intro h2<;>simp (disch:=omega) only [Sh.out h2,go_sem,seval,↓reduceIte]
    ·have hk2:k<p.unserved.length:=Za
     refine XR (Wt ?_);refine gF ?_ ?_<;>intro h3<;>simp (disch:=omega) only [Sh.out h3,go_sem,seval,↓reduceIte]
     ·rw [hbad hk2 (by simp;omega)];exact we
     ·refine ZN ?_ ?_<;>intro h4
      ·rw [hbad hk2 (by simp;omega)];exact we
      ·exact ⟨k+1,⟨Za,Zm.2 ⟨hno,Za⟩⟩,Za,wk⟩
    ·have hkl:k=p.unserved.length:=Za
     subst hkl
     have hall:C0 x p.unserved=true:=by
      rw [C0,Zv];intro u hu;obtain ⟨j,hj,rfl⟩:=ZP.1 hu
      grind [Ze]
     have c1: ¬C0 x p.unserved=false:=by grind
     refine Zk [2,3] (fun k:Nat=> [(8,.p (.int .i64 k))]) (fun _=> [Zj x,X8 p]) (fun k=>k<=x.orders.length/\ ∀j,j<k->decide (1<FO p j)=false) (fun k=>x.orders.length-k) 0 Zb (Weak.mk ?_) ?_
     ·simp (disch:=omega) only [Zj,X8,go_sem,seval]
     ·rintro k ⟨hk,hno2⟩;refine Fl ?_;refine cD ?_ ?_<;>intro h3<;>simp (disch:=omega) only [Sh.out h3,go_sem,seval,↓reduceIte]
      ·have hk2:k<x.orders.length:=Za
       have a1:=cR k;have a2:=cU k;refine Dx (fK p k hr hu hvl) (Wt ?_);refine ZN ?_ ?_<;>intro h4
       ·have hv:WE x p=6:=by rw [WE,if_neg c0,if_neg c1,if_pos (show A9 x p=true from Hj hk2 (Yq h4))]
        rw [hv];exact we
       ·exact ⟨k+1,⟨Za,Zm.2 ⟨hno2,WU h4⟩⟩,Za,wk⟩
      ·have c2: ¬A9 x p=true:=by grind [A9]
       have hkl:k=x.orders.length:=Za
       subst hkl;refine Zk [2,3] (fun k:Nat=> [(11,.p (.int .i64 k))]) (fun _=> [Zj x,X8 p]) (fun k=>k<=x.types.length/\ ∀j,j<k->decide ((nth x.types j).count<Bj p.routes j)=false) (fun k=>x.types.length-k) 0 Zb (Weak.mk ?_) ?_
       ·simp (disch:=omega) only [Zj,X8,go_sem,seval]
       ·rintro t ⟨hk,hno3⟩;refine Fl ?_;refine cD ?_ ?_<;>intro h4<;>simp (disch:=omega) only [Sh.out h4,go_sem,seval,↓reduceIte]
        ·have hk2:t<x.types.length:=Za
         refine Zk [2,3,11] (fun k:Nat=> [(12,.p (.int .i64 (Bj (p.routes.take k) t))),(13,.p (.int .i64 k))]) (fun _=> [Zj x,X8 p]) (fun k=>k<=p.routes.length) (fun k=>p.routes.length-k) 0 Zb (Weak.mk ?_) ?_
         ·simp (disch:=omega) only [Zj,X8,Bj,WV,List.countP_nil,go_sem,seval]
         ·intro k hk;have hg:=bJ (rs:=p.routes) (k:=k) t;refine Fl ?_;refine cD ?_ ?_<;>intro h5<;>simp (disch:=omega) only [Sh.out h5,go_sem,seval,↓reduceIte]
          ·have hk3:k<p.routes.length:=Za
           have hsu:=RW hk3 t;refine ZN ?_ ?_<;>intro h6
           ·rw [if_pos h6] at hsu;exact ⟨k+1,Za,Za,Weak.mk (by simp (disch:=omega) only [hsu,go_sem,seval])⟩
           ·rw [if_neg h6] at hsu;exact ⟨k+1,Za,Za,Weak.mk (by simp (disch:=omega) only [hsu,go_sem,seval])⟩
          ·have hkl:k=p.routes.length:=Za
           subst hkl
           rw [X7] at *
           refine ZN ?_ ?_<;>intro h6
           ·have hv:WE x p=22:=by rw [WE,if_neg c0,if_neg c1,if_neg c2,if_pos (show AS x p=true from Hj hk2 (Yq h6))]
            rw [hv];exact we
           ·exact ⟨t+1,⟨Za,Zm.2 ⟨hno3,WU h6⟩⟩,Za,wk⟩
        ·have c3: ¬AS x p=true:=by grind [AS]
         have hlast:=hno;refine Zk [2,3] (fun k:Nat=> [(14,.p (.int .i64 k))]) (fun _=> [Zj x,X8 p]) (fun k=>k<=p.unserved.length/\ ∀j,j<k->(nth x.orders (nth p.unserved j).toNat).off=false) (fun k=>p.unserved.length-k) 0 Zb (Weak.mk ?_) ?_
         ·simp (disch:=omega) only [Zj,X8,go_sem,seval]
         ·rintro k ⟨hk,hno4⟩;refine Fl ?_;refine cD ?_ ?_<;>intro h5<;>simp (disch:=omega) only [Sh.out h5,go_sem,seval,↓reduceIte]
          ·have hk2:k<p.unserved.length:=Za
           have hrg:=hno k hk2
           have hui:(nth p.unserved k).toNat<x.orders.length:=Za
           refine XR (Wt ?_);refine ZN ?_ ?_<;>intro h6
           ·have hcu:0<Wb p.unserved (nth p.unserved k).toNat:=by
             unfold Wb;have:0<p.unserved.countP fun v=>decide (v=((nth p.unserved k).toNat:Int)):=VZ.2 ⟨_,ZD hk2,by grind⟩;omega
            have hst:KC x p=true:=Hj hui (by grind)
            have hv:WE x p=9:=by simp_all [WE]
            rw [hv];exact we
           ·exact ⟨k+1,⟨Za,Zm.2 ⟨hno4,Za⟩⟩,Za,wk⟩
          ·have hkl:k=p.unserved.length:=Za
           subst hkl
           have hoff: ∀i,i<x.orders.length->0<Wb p.unserved i->(nth x.orders i).off=false:=fun i hi hc=>by
            unfold Wb at hc
            have hc2:0<p.unserved.countP fun v=>decide (v=(i:Int)):=Za
            obtain ⟨u,hu,e⟩:=VZ.1 hc2;obtain ⟨j,hj,rfl⟩:=ZP.1 hu;have h:=hno4 j hj
            simp_all [Ze]
           have c4: ¬KC x p=true:=by
            rw [KC,OH fun j hj=> ?_]
            ·simp
            grind
           refine Zk [2,3] (fun k:Nat=> [(15,.p (.int .i64 k))]) (fun _=> [Zj x,X8 p]) (fun k=>k<=x.orders.length/\ ∀j,j<k->eW x p j=false) (fun k=>x.orders.length-k) 0 Zb (Weak.mk ?_) ?_
           ·simp (disch:=omega) only [Zj,X8,go_sem,seval]
           ·rintro k ⟨hk,hno5⟩;refine Fl ?_;refine cD ?_ ?_<;>intro h6<;>simp (disch:=omega) only [Sh.out h6,go_sem,seval,↓reduceIte]
            ·have hk2:k<x.orders.length:=Za
             have a1:=cR k;have a2:=cU k;have ho:=hoff k hk2
             have miss:(!(nth x.orders k).off&&(decide (FO p k=0)||(decide (0<Wb p.unserved k)&&decide ((nth x.orders k).penalty= -1))))=true->WE x p=23:=fun h=>by
              rw [WE,if_neg c0,if_neg c1,if_neg c2,if_neg c3,if_neg c4,if_pos (show De x p=true from Hj hk2 h)]
             have nxt:(!(nth x.orders k).off&&(decide (UB p.routes k+Wb p.unserved k=0)||(decide (0<Wb p.unserved k)&&decide ((nth x.orders k).penalty= -1))))=false-> ∀j,j<k+1->eW x p j=false:=fun h=>Zm.2 ⟨hno5,h⟩;have hoc:FO p k=UB p.routes k+Wb p.unserved k:=rfl;rw [hoc] at miss;refine Dx (fK p k hr hu hvl) ?_
             generalize UB p.routes k=ca at *
             generalize Wb p.unserved k=cb at *
             refine Wt ?_
             cases hof:(nth x.orders k).off with
             | false =>
              refine gT ?_ ?_<;>intro h7<;>simp (disch:=omega) only [Sh.out h7,hof,BJ,go_sem,seval,↓reduceIte]
              ·rw [miss (by grind)];exact we
              ·refine gT ?_ ?_<;>intro h8<;>simp (disch:=omega) only [Sh.out h8,hof,go_sem,seval]
               ·refine ZN ?_ ?_<;>intro h9
                ·rw [miss (by grind)];exact we
                ·exact ⟨k+1,⟨Za,nxt (by grind)⟩,Za,wk⟩
               ·exact ⟨k+1,⟨Za,nxt (by grind)⟩,Za,wk⟩
             | true =>
              have hcb: ¬ 0<cb:=fun e=>by grind
              have hn: ∀j,j<k+1->eW x p j=false:=nxt (by simp [hof]);refine gT ?_ ?_<;>intro h7<;>simp (disch:=omega) only [Sh.out h7,hof,DF,go_sem,seval,↓reduceIte]
              ·refine J6 ?_ ?_<;>intro h8
               ·omega
               ·exact ⟨k+1,⟨Za,hn⟩,Za,wk⟩
              ·refine J6 ?_ ?_<;>intro h8
               ·omega
               ·exact ⟨k+1,⟨Za,hn⟩,Za,wk⟩
            ·have c5: ¬De x p=true:=by rw [show De x p=false from OH fun j hj=>hno5 j Za];simp
             have hv:WE x p=0:=by simp_all [WE]
             rw [hv];exact we
theorem GT (x:Inst) (p:Pln) (hx:InstOk x) (hr:p.routes.length<=1048576) (hu:p.unserved.length<=1048576) (hb: ∀r∈p.routes,Ik r) :
  PT 17 [.p (ZG x),.p (Ue p)] [.p (Ar (QX x p)),.p (.int .i64 (WE x p))]:=by
 have hn:=tC hx;refine Zf [8] Tryz.func17 rfl Zhg ?_;simp (disch:=omega) only [Tryz.f17,go_sem,seval];refine (OV x p hx hr hu hb).use (Wt ?_);refine cD ?_ ?_<;>intro h0<;>simp (disch:=omega) only [Sh.out h0,go_sem,seval,↓reduceIte]
 ·have e:QX x p=zSco:=by rw [QX,if_neg h0]
  rw [e];exact we (by simp (disch:=omega) only [zSco,go_sem,seval])
 ·have h0':WE x p=0:=Za
  obtain ⟨z1,z2⟩:=QK h0';have r1:=MH (l:=p.routes) hx hb z1;refine Xe [8] [2,3,4,7] (fun k:Nat=> [(8,.p (.int .i64 k))]) (fun k=> [Zj x,X8 p,Uk 0 0 0 0,Be (Wm x (p.routes.take k))]) (fun k=>k<=p.routes.length) (fun k=>p.routes.length-k) 0 Zb (Weak.mk ?_) ?_
  ·simp (disch:=omega) only [Zj,X8,Uk,Be,Wm,zSco,WV,Qv,go_sem,seval]
  ·intro k hk;simp (disch:=omega) only [Zj,X8,Uk,Be,go_sem,seval];refine cD ?_ ?_<;>intro h1<;>simp (disch:=omega) only [Sh.out h1,go_sem,seval,↓reduceIte]
   ·have hk2:k<p.routes.length:=Za
    have hm:=ZD hk2;obtain ⟨b1,b2⟩:=hb _ hm;have ce:=Bq x (nth p.routes k) hx b1 b2;unfold Bp at ce;rw [z1 _ hm] at ce;have q1:=r1 k Za;have q2:=Cx hx b1 (z1 _ hm);have hsu:=GY (x:=x) hk2;refine ZJ [2,3,4,7,8] (fun _:Unit=> []) (fun _=> [Zj x,X8 p,Uk 0 0 0 0,Be (Wm x (p.routes.take (k+1)))]) (fun _=>True) ?_ ?_
    ·refine Wt ?_;refine Xa [11,12,13,14] 15 mixed Zd Zd Zd Zb (Wt ?_);refine AV ce (Wt ?_);refine Gv 11 12 _ _ _ _ Zd (by refine Wt ?_;exact ⟨rfl,rfl⟩) (by refine Wt ?_;exact ⟨rfl,rfl⟩) ?_ ?_
     ·refine ZF 12 _ _ Zd (by refine Wt ?_;exact ⟨rfl,rfl⟩) (ZF 13 _ _ Zd (by refine Wt ?_;exact ⟨rfl,rfl⟩) (ZF 14 _ _ Zd (by refine Wt ?_;exact ⟨rfl,rfl⟩) (X5 ?_)));refine Wt ?_;refine (Hc (Wm x (p.routes.take k)) (XK x (nth p.routes k)) (YX Za q1) (YX Za q2)).use (Wt ?_);exact ⟨(),Weak.mk (by simp (disch:=omega) only [Zj,X8,Uk,Be,hsu,go_sem,seval])⟩
     ·refine ZF 11 _ _ Zd (by refine Wt ?_;exact ⟨rfl,rfl⟩) (ZF 13 _ _ Zd (by refine Wt ?_;exact ⟨rfl,rfl⟩) (ZF 14 _ _ Zd (by refine Wt ?_;exact ⟨rfl,rfl⟩) (X5 ?_)));refine Wt ?_;refine (Hc (Wm x (p.routes.take k)) (XK x (nth p.routes k)) (YX Za q1) (YX Za q2)).use (Wt ?_);exact ⟨(),Weak.mk (by simp (disch:=omega) only [Zj,X8,Uk,Be,hsu,go_sem,seval])⟩
    ·intro _ _;refine Zg [8] _ _ _ _ ?_;simp (disch:=omega) only [Zj,X8,Uk,Be,go_sem,seval];exact ⟨k+1,Za,Za,wk⟩
   ·have hkl:k=p.routes.length:=Za
    subst hkl;have rr:=r1 _ (Xf _)
    rw [X7] at *
    have r2:=MI (l:=p.unserved) hx rr
    have ee:QX x p=JX x (Wm x p.routes) p.unserved:=by rw [QX,if_pos h0']
    rw [ee];refine Xe [8] [2,3,4,7] (fun k:Nat=> [(12,.p (.int .i64 k))]) (fun k=> [Zj x,X8 p,Uk 0 0 0 0,Be (JX x (Wm x p.routes) (p.unserved.take k))]) (fun k=>k<=p.unserved.length) (fun k=>p.unserved.length-k) 0 Zb (Weak.mk ?_) ?_
    ·simp (disch:=omega) only [Zj,X8,Uk,Be,JX,WV,Qv,go_sem,seval]
    ·intro k hk;simp (disch:=omega) only [Zj,X8,Uk,Be,go_sem,seval];refine cD ?_ ?_<;>intro h2<;>simp (disch:=omega) only [Sh.out h2,go_sem,seval,↓reduceIte]
     ·have hk2:k<p.unserved.length:=Za
      have hm:=ZD hk2;have ce:=Ix x (nth p.unserved k) Za;rw [z2 _ hm] at ce;refine Xa [10,11] 12 mixed Zd Zd Zd Zb (Wt ?_);refine Wr ce (Wt ?_);refine ZF 10 _ _ Zd (by refine Wt ?_;exact ⟨rfl,rfl⟩) (ZF 11 _ _ Zd (by refine Wt ?_;exact ⟨rfl,rfl⟩) (X5 ?_));refine Wt ?_;have q1:=r2 k Za;have q2:=Fo hx (nth p.unserved k);have hsu:=GZ (x:=x) (s:=Wm x p.routes) hk2;refine (Hc (JX x (Wm x p.routes) (p.unserved.take k)) (XD x (nth p.unserved k)).1 (YX Za q1) (YX Za q2)).use ?_
      refine Wt ?_;exact ⟨k+1,Za,Za,Weak.mk (by simp (disch:=omega) only [hsu,go_sem,seval])⟩
     ·have hkl:k=p.unserved.length:=Za
      subst hkl;rw [X7];exact we (by simp (disch:=omega) only [h0',go_sem,seval])
set_option maxRecDepth 60000
theorem iB (n:Nat) (h:n<=4):ACalls Tryz.prog 91 [.p (.list false [.int .i64 (-1)]),.p (.int .i64 n)] [] fun y H'=>y= .sl 0 0 n n/\H'= [.elems 1 ((W4 (fun _=> -1) n).map eI)]:=by
 match n,h with
 | 0,_=>exact X9 { kp:= [91] } 20 mixed Zd
 | 1,_=>exact X9 { kp:= [91] } 20 mixed Zd
 | 2,_=>exact X9 { kp:= [91] } 20 mixed Zd
 | 3,_=>exact X9 { kp:= [91] } 20 mixed Zd
 | 4,_=>exact X9 { kp:= [91] } 20 mixed Zd
theorem Ls : ∀(l:List Int),C8 (l.map eI)=true
 | []=>rfl
 | a::l=>by simp [C8,Lr,eI,Ls l]
def HR (x:Inst) (p:Pln):V:=if Jo x p=0 then .tup [.p (.list false ((FM x p).map eI)),.p (.int .i64 0)] else .tup [.p (.list true []),.p (.int .i64 (Jo x p))]
theorem Sx (x:Inst) (p:Pln) (hn:x.orders.length<=4) (ht:x.types.length<=1048576) (hr:p.routes.length<=1048576) (hv: ∀r∈p.routes,r.visits.length<=1048576) :
  ACalls Tryz.prog 53 [.p (ZG x),.p (Ue p)] [] fun y H'=>y=HR x p/\H'= []:=by
 have hrp:=iB x.orders.length hn;have hgl: ∀f,(W4 f x.orders.length).length=x.orders.length:=fun f=>Mg;have h0:W4 (fun _=> -1) x.orders.length=W4 (Xx p.routes 0) x.orders.length:=rfl;refine Zf [2] Tryz.func53 rfl Zhs ?_;simp (disch:=omega) only [Tryz.f53,go_sem,seval];refine ACalls.viewF hrp (by rfl) (Ls _) (Wt ?_);refine Zg [26] _ _ _ _ (Wt ?_);refine Xe [26] [2,3,6,21,22] (fun k:Nat=> [(7,.p (.bool (MN p.routes k))),(23,.p (.int .i64 k))]) (fun k=> [Zj x,X8 p,.elems 1 [.int .i64 (-1)],.elems 1 ((W4 (Xx p.routes k) x.orders.length).map eI)]) (fun k=>k<=p.routes.length/\ ∀j,j<k->B3 x (nth p.routes j)=false) (fun k=>p.routes.length-k) 0 Zb (Weak.mk ?_) ?_
 ·simp (disch:=omega) only [Zj,X8,h0,MN,go_sem,seval]
 ·rintro k ⟨hk,hno⟩;refine Fl ?_;refine cD ?_ ?_<;>intro h1<;>simp (disch:=omega) only [Sh.out h1,go_sem,seval,↓reduceIte]
  ·have hk2:k<p.routes.length:=Za
   have hvl:=hv _ (Zq hk2);have hbt:(nth p.routes k).typ<0\/(x.types.length:Int)<=(nth p.routes k).typ->Jo x p=2:=fun h=>LH hk2 (by simp_all [B3]);have hbv: ∀q,q<(nth p.routes k).visits.length->Ts x.orders.length (nth (nth p.routes k).visits q)=true->Jo x p=2:=fun q hq h=>LH hk2 (by rw [B3,Wg];grind [Zq]);refine gF ?_ ?_<;>intro h2<;>simp (disch:=omega) only [Sh.out h2,go_sem,seval,↓reduceIte]
   ·rw [HR,hbt (.inl h2)];exact we (by simp (disch:=omega) only [go_sem,seval,↓reduceIte])
   ·refine cD ?_ ?_<;>intro h3<;>simp (disch:=omega) only [Sh.out h3,go_sem,seval,↓reduceIte]
    ·rw [HR,hbt (.inr h3)];exact we (by simp (disch:=omega) only [go_sem,seval,↓reduceIte])
    ·obtain ⟨vs,hvs⟩: ∃vs,vs=(nth p.routes k).visits:=⟨_,rfl⟩;rw [<- hvs] at hvl hbv
     have hm0:Xx p.routes k=Qx p.routes k (vs.take 0):=by rfl
     have ht0:MN p.routes k=(MN p.routes k||P9 p.routes k (vs.take 0)):=by simp [P9]
     refine Zk [2,3,6,8,21,22,23,40,41] (fun q:Nat=> [(7,.p (.bool (MN p.routes k||P9 p.routes k (vs.take q)))),(42,.p (.int .i64 q))]) (fun q=> [Zj x,X8 p,.elems 1 [.int .i64 (-1)],.elems 1 ((W4 (Qx p.routes k (vs.take q)) x.orders.length).map eI),Xb (nth p.routes k)]) (fun q=>q<=vs.length/\ ∀j,j<q->0<=(nth vs j).order/\(nth vs j).order<(x.orders.length:Int)) (fun q=>vs.length-q) 0 Zb (Weak.mk ?_) ?_
     ·simp (disch:=omega) only [Zj,X8,Xb,<- hvs,go_sem,seval]
      grind
     ·rintro q ⟨hq,hin⟩;simp (disch:=omega) only [Zj,X8,Xb,<- hvs,go_sem,seval];refine ZN ?_ ?_<;>intro h4
      ·have hq2:q<vs.length:=Za
       have htk:vs.take (q+1)=vs.take q++ [nth vs q]:=by rw [Xo hq2,Ze hq2]
       refine gF ?_ ?_<;>intro h5<;>simp (disch:=omega) only [Sh.out h5,go_sem,seval,↓reduceIte]
       ·rw [HR,hbv q hq2 (by simp [Ts,h5])];exact we (by simp (disch:=omega) only [go_sem,seval,↓reduceIte])
       ·refine cD ?_ ?_<;>intro h6<;>simp (disch:=omega) only [Sh.out h6,go_sem,seval]
        ·rw [HR,hbv q hq2 (by simp [Ts,h6])];exact we (by simp (disch:=omega) only [go_sem,seval,↓reduceIte])
        ·have hvo:0<=(nth vs q).order/\(nth vs q).order<(x.orders.length:Int):=⟨Za,Za⟩
         have hvn:(nth vs q).order.toNat<x.orders.length:=Za
         have htw:=jC (rs:=p.routes) (k:=k) (l:=vs.take q) (v:=nth vs q) hvo.1 (b:=MN p.routes k);rw [<- htk] at htw;have hms:=Sv (rs:=p.routes) (k:=k) (l:=vs.take q) (v:=nth vs q) hvo;rw [<- htk] at hms
         have ZE:((W4 (Qx p.routes k (vs.take q)) x.orders.length).map eI).set (nth vs q).order.toNat (.int .i64 k)=(W4 (Qx p.routes k (vs.take (q+1))) x.orders.length).map eI:=by rw [<- hms,Uh];rfl
         have he:QC ((W4 (Qx p.routes k (vs.take q)) x.orders.length).map eI) (nth vs q).order.toNat= .int .i64 (Qx p.routes k (vs.take q) (nth vs q).order.toNat):=by rw [Wq (by grind),E4 hvn];rfl
         have hrl:=hgl (Qx p.routes k (vs.take q));have hrg:=eV (rs:=p.routes) (k:=k) (l:=vs.take q) (o:=(nth vs q).order.toNat);generalize Qx p.routes k (vs.take q) (nth vs q).order.toNat=M at he htw hrg;have hnx: ∀j,j<q+1->0<=(nth vs j).order/\(nth vs j).order<(x.orders.length:Int):=Zm.2 ⟨hin,hvo⟩;generalize (MN p.routes k||P9 p.routes k (vs.take q))=B at htw ⊢
         cases B with
         | true =>
          rw [Bool.true_or] at htw;simp (disch:=first | omega | (simp only [ZH,Zw,Zn,Zx,ZC,ZK]<;>omega)) only [eq_self,go_sem,seval];exact ⟨q+1,⟨Za,hnx⟩,Za,Weak.mk (by simp (disch:=omega) only [ZE,<- htw,<- hvs,go_sem,seval])⟩
         | false =>
          rw [Bool.false_or] at htw;simp (disch:=first | omega | (simp only [ZH,Zw,Zn,Zx,ZC,ZK]<;>omega)) only [he,hrl,hvn,eq_self,go_sem,seval,↓reduceIte];refine gT ?_ ?_<;>intro h7<;>simp (disch:=omega) only [Sh.out h7,go_sem,seval,↓reduceIte]
          ·rw [Yq h7,Vg] at htw;simp (disch:=first | omega | (simp only [ZH,Zw,Zn,Zx,ZC,ZK]<;>omega)) only [he,hrl,hvn,eq_self,go_sem,seval];exact ⟨q+1,⟨Za,hnx⟩,Za,Weak.mk (by simp (disch:=omega) only [ZE,<- htw,<- hvs,go_sem,seval])⟩
          ·rw [WU h7,U4] at htw;simp (disch:=first | omega | (simp only [ZH,Zw,Zn,Zx,ZC,ZK]<;>omega)) only [eq_self,go_sem,seval];exact ⟨q+1,⟨Za,hnx⟩,Za,Weak.mk (by simp (disch:=omega) only [ZE,<- htw,<- hvs,go_sem,seval])⟩
      ·have hql:q=vs.length:=Za
       subst hql
       have hgood:B3 x (nth p.routes k)=false:=by
        rw [B3,Bool.or_eq_false_iff];refine ⟨by simp [h2,h3],?_⟩;rw [<- hvs,XV];intro v hm;obtain ⟨j,hj,rfl⟩:=ZP.1 hm
        grind [Ze,Ts]
       rw [X7]
       have e1:Qx p.routes k vs=Xx p.routes (k+1):=by grind [eU]
       have e2:(MN p.routes k||P9 p.routes k vs)=MN p.routes (k+1):=by rw [hvs];rfl
       exact ⟨k+1,⟨Za,Zm.2 ⟨hno,hgood⟩⟩,Za,Weak.mk (by simp (disch:=omega) only [e1,e2,go_sem,seval])⟩
  ·have hkl:k=p.routes.length:=Za
   subst hkl;have hz:=Pr hno
   cases htw:MN p.routes p.routes.length with
   | true =>
    rw [if_pos htw] at hz;rw [HR,hz];refine Wt ?_;exact we
   | false =>
    rw [if_neg (by grind)] at hz;rw [HR,if_pos hz];simp (disch:=first | omega | (simp only [ZH,Zw,Zn,Zx,ZC,ZK]<;>omega)) only [hgl,eq_self,go_sem,seval,↓reduceIte];refine Xe [26] [3,12,84,85] (fun j:Nat=> [(86,.p (.int .i64 j))]) (fun j=> [Zj x,X8 p,.elems 1 [.int .i64 (-1)],.elems 1 ((W4 (fun o=>if o<j then Au p.routes (Xx p.routes p.routes.length o) else Xx p.routes p.routes.length o) x.orders.length).map eI)]) (fun j=>j<=x.orders.length) (fun j=>x.orders.length-j) 0 Zb (Weak.mk ?_) ?_
    ·refine Fl ?_;simp
    ·intro j hj;have hrl:=hgl (fun o=>if o<j then Au p.routes (Xx p.routes p.routes.length o) else Xx p.routes p.routes.length o);refine Fl ?_;refine cD ?_ ?_<;>intro h2<;>simp (disch:=omega) only [Sh.out h2,go_sem,seval,↓reduceIte]
     ·have hj2:j<x.orders.length:=Za
      have hrg:=QQ (rs:=p.routes) (o:=j) p.routes.length
      have he:QC ((W4 (fun o=>if o<j then Au p.routes (Xx p.routes p.routes.length o) else Xx p.routes p.routes.length o) x.orders.length).map eI) j= .int .i64 (Xx p.routes p.routes.length j):=by rw [Wq Za,E4 hj2,if_neg Za];rfl
      have ZE:((W4 (fun o=>if o<j then Au p.routes (Xx p.routes p.routes.length o) else Xx p.routes p.routes.length o) x.orders.length).map eI).set j (.int .i64 (Au p.routes (Xx p.routes p.routes.length j)))=(W4 (fun o=>if o<j+1 then Au p.routes (Xx p.routes p.routes.length o) else Xx p.routes p.routes.length o) x.orders.length).map eI:=by
       rw [show PV.int .i64 (Au p.routes (Xx p.routes p.routes.length j))=eI (Au p.routes (Xx p.routes p.routes.length j)) from rfl,<- Uh,Mh]
       grind
      have hsame:Xx p.routes p.routes.length j<0->(W4 (fun o=>if o<j+1 then Au p.routes (Xx p.routes p.routes.length o) else Xx p.routes p.routes.length o) x.orders.length)=(W4 (fun o=>if o<j then Au p.routes (Xx p.routes p.routes.length o) else Xx p.routes p.routes.length o) x.orders.length):=fun h=>by
       refine Ig fun o _=> ?_
       by_cases c:o=j
       ·subst c;rw [if_pos Za,if_neg Za,Au,if_neg Za];omega
       omega
      simp (disch:=first | omega | (simp only [ZH,Zw,Zn,Zx,ZC,ZK]<;>omega)) only [he,hrl,hj2,eq_self,go_sem,seval,↓reduceIte];generalize hL:Xx p.routes p.routes.length j=L at he ZE hsame hrg ⊢;refine ZN ?_ ?_<;>intro h3
      ·have hty:Au p.routes L=(nth p.routes L.toNat).typ:=by rw [Au,if_pos h3]
       have hlt:L<(p.routes.length:Int):=hrg.2;rw [hty] at ZE;simp (disch:=first | omega | (simp only [ZH,Zw,Zn,Zx,ZC,ZK]<;>omega)) only [eq_self,go_sem,seval];exact ⟨j+1,Za,Za,Weak.mk (by simp (disch:=omega) only [ZE,go_sem,seval])⟩
      ·exact ⟨j+1,Za,Za,Weak.mk (by simp (disch:=omega) only [hsame Za,go_sem,seval])⟩
     ·have hjl:j=x.orders.length:=Za
      have hfin:W4 (fun o=>if o<j then Au p.routes (Xx p.routes p.routes.length o) else Xx p.routes p.routes.length o) x.orders.length=FM x p:=Ig fun o ho=>Za
      rw [hfin];have hkl:=LJ (x:=x) (p:=p);refine Zs (Weak.fz (o:=3) (by rfl)) (Zg [] _ _ _ _ (AE ?_));rw [if_pos hkl];exact we
theorem Si {x:Inst} {p:Pln} (hno: ∀j,j<p.routes.length->B3 x (nth p.routes j)=false) (h: ∀o:Nat,o<x.orders.length->nW p.routes (o:Int) p.routes.length<=1):Jo x p=0:=by
 rw [Pr hno,if_neg];intro h2;obtain ⟨o,h3,j,hj,h4⟩:=(P8 fun j hj v hv=>((E0 (hno j hj)).2 v hv).1).1 h2;obtain ⟨v,hv,e⟩:=Xj.1 h4;have:=(E0 (hno j hj)).2 v hv
 grind
theorem bQ {x b:Inst} {p:Pln} (h:x.wf 1048576) (h0:Jo b p=0) (hb:b.types.length<=1048576):(bO x b p).wf 1048576:=by
 obtain ⟨h1,h2,h3,h4,h5,h6,h7,h8,h9⟩:=h;refine ⟨h1,h2,h3,by show (Qz _ _).length<=_;rw [WM];exact h4,fun o ho=> ?_,h6,h7,h8,h9⟩;obtain ⟨j,hj,rfl⟩:=ZP.1 ho
 have hj2:j<x.orders.length:=by grind [bO,Qz]
 have e:(bO x b p).orders[j]=Cu x b p j:=by rw [<- Ze hj];exact Kw hj2
 rw [e];obtain ⟨v,e2,hv⟩:=HB (x:=x) (b:=b) (p:=p) (j:=j);rw [e2];obtain ⟨a1,a2,a3,a4,a5,a6,a7,a8,a9,a10⟩:=h5 _ (Zq hj2);refine ⟨a1,a2,a3,a4,a5,a6,a7,a8,?_,⟨Zb,Zb⟩⟩;rcases hv with rfl | hv
 ·exact a9
 grind
def wO (x:Inst):Inst:= { x with orders_c:=false,orders:=Qz (FI x) x.orders.length }
def noI (x:Inst):Inst:= { x with orders:= [] }
def noP : Pln:=⟨true,[],true,[]⟩
theorem dB {x:Inst} :wO x=bO x (noI x) noP:=by
 rfl
theorem noE {x:Inst} :Jo (noI x) noP=0:=Si (fun j hj=>by simp [noP] at hj) fun o ho=>by simp [noI] at ho
theorem wP {x:Inst} (hx:InstOk x):InstOk (wO x):=by
 rw [dB];exact bP hx (by rw [TC,if_pos (show x.types.length=(noI x).types.length from rfl)];exact noE)
theorem wQ {x:Inst} (h:x.wf 1048576) (ht:x.types.length<=1048576):(wO x).wf 1048576:=by
 rw [dB];exact bQ h noE ht
def Eo (s:Sr):PV:= .agg [.int .i64 s.rdy,.int .i64 s.drv]
@[go_sem] theorem Zl0 (s:Sr):Eo s= .agg [.int .i64 s.rdy,.int .i64 s.drv]:=Zh rfl rfl
theorem Ziv {a b:Sr} :a=b↔a.rdy=b.rdy/\a.drv=b.drv:=by cases a;cases b;simp
theorem nI (l:List Sr) (c:Bool) (s:Sr) (hl:l.length<=1048576):ACalls Tryz.prog 305 [.p (.list c (l.map Eo)),.p (Eo s)] [] fun y H'=> ∃i:Int,(0<=i↔s∈l)/\y= .p (.int .i64 i)/\H'= []:=by
 refine Zf [] Tryz.func305 rfl ZaZ ?_;simp (disch:=omega) only [Tryz.f305,go_sem,seval];refine Zk [0,3,7] (fun k:Nat=> [(8,.p (.int .i64 k))]) (fun _=> [.cells [.p (.int .i64 s.rdy),.p (.int .i64 s.drv)]]) (fun k=>k<=l.length/\ ∀j,j<k->nth l j≠s) (fun k=>l.length-k) 0 ⟨Zb,fun j hj=>Za⟩ (Weak.mk ?_) ?_
 ·simp (disch:=omega) only [go_sem,seval,↓reduceIte]
 ·rintro k ⟨hk,hno⟩;refine Wt ?_;refine cD ?_ ?_<;>intro h1<;>simp (disch:=omega) only [Sh.out h1,go_sem,seval,↓reduceIte]
  ·have hk2:k<l.length:=Za
   refine XR (Wt ?_);refine cD ?_ ?_<;>intro h2<;>simp (disch:=omega) only [Sh.out h2,go_sem,seval,↓reduceIte]
   ·exact ⟨.p (.int .i64 k),[],wk,k,⟨fun _=>(Ziv.2 h2) ▸ ZD hk2,fun _=>Za⟩,rfl,rfl⟩
   ·exact ⟨k+1,⟨Za,fun j hj=>by
     grind⟩,Za,wk⟩
  ·exact ⟨.p (.int .i64 (-1)),[],wk,-1,⟨fun h=>Za,fun h=>by
    obtain ⟨j,hj,rfl⟩:=ZP.1 h
    grind [Ze]⟩,rfl,rfl⟩
theorem Pg (l:List Sr) (c:Bool) (s:Sr) (hl:l.length<=1048576):PC 280 [.p (.list c (l.map Eo)),.p (Eo s)] (.bool (decide (s∈l))):=by
 refine Zf [] Tryz.func280 rfl ZaD ?_;simp (disch:=omega) only [Tryz.f280,go_sem,seval];refine ((nI l c s hl).behind (by rfl) _).mono ?_;rintro y H' ⟨y1,H1,⟨i,hi,rfl,rfl⟩,rfl,rfl⟩
 have e:decide (0<=i)=decide (s∈l):=by grind
 simp (disch:=omega) only [shV,Zo,e,go_sem,seval];exact ⟨.p (.bool (decide (s∈l))),[],wk,rfl,rfl⟩
theorem Sk {l:List Sr} {s:Sr} :(V7 l s).length<=l.length+1:=by grind [V7]
theorem NM (l:List Sr) (s:Sr) (hl:l.length<=1048576):ACalls Tryz.prog 244 [.sl 0 0 l.length l.length,.p (Eo s)] [.elems 2 (l.map Eo)] fun y H'=>y= .sl 0 0 (V7 l s).length (V7 l s).length/\H'= [.elems 2 ((V7 l s).map Eo)]:=by
 obtain ⟨M,hM⟩: ∃M,M=V7 l s:=⟨_,rfl⟩;rw [<- hM];refine Zf [] Tryz.func244 rfl dV ?_;simp (disch:=omega) only [Tryz.f244,go_sem,seval];refine ACalls.view (Pg l false s hl) (by simp [vws,vw,oat,Iu]<;>rfl) (by rfl) ?_;refine Wt ?_;refine cD ?_ ?_<;>intro h<;>simp (disch:=omega) only [Sh.out h,go_sem,seval,↓reduceIte]
 ·have e:M=l:=by simp_all [V7]
  exact ⟨.sl 0 0 M.length M.length,[.elems 2 (M.map Eo)],Weak.mk (by simp (disch:=omega) only [e,go_sem,seval]),rfl,rfl⟩
 ·have e:M=l++ [s]:=by simp_all [V7]
  exact ⟨.sl 0 0 M.length M.length,[.elems 2 (M.map Eo)],Weak.mk (by simp (disch:=omega) only [e,X0,Zu,Zo,Zn,ZH,Zw,XJ,go_sem,seval]),rfl,rfl⟩
theorem nK (s:Sr):ACalls Tryz.prog 244 [.p (.list true []),.p (Eo s)] [] fun y H'=>y= .sl 0 0 1 1/\H'= [.elems 2 [Eo s]]:=by
 refine Ua (fn:=Tryz.f244) (by rfl) Tryz.func244 rfl dV ?_;simp (disch:=omega) only [Tryz.f244,go_sem,seval];refine (Pg [] true s Zb).use ?_;simp (disch:=omega) only [Ui,Jv,go_sem,seval];exact ⟨2,rfl,rfl⟩
def Yk (x:Inst) (k:Int) (S tot:Nat) (b:Col×Bool):AM.Obj:= .cells [.p (.list x.net.places_c (x.net.places.map eS)),.p (.list x.net.arcs_c (x.net.arcs.map Ud)),.p (.list x.types_c (x.types.map Uf)),.p (.list x.orders_c (x.orders.map eOrd)),.p (.list x.apart_c (x.apart.map eP)),.p (.list x.before_c (x.before.map eP)),.p (.int .i64 k),.p (.int .i64 S),.p (.int .i64 tot),.p (.int .i64 b.1.typ),.p (.int .i64 b.1.set),.p (.int .i64 b.1.price),.p (.int .i64 b.1.route.typ),.p (.int .i64 b.1.route.start),.p (.list b.1.route.rests_c (b.1.route.rests.map eB)),.p (.list b.1.route.visits_c (b.1.route.visits.map Xc)),.p (.bool b.2)]
theorem A3 {t:Typ} {l:List Sr} {d v:Int} :(Vj t l d v).length<=l.length+2:=by
 grind [Vj,V7]
theorem pC (x:Inst) (k:Int) (S tot:Nat) (b:Col×Bool) (stop:Stp) (l:List Sr) (d v:Int) (hk:0<=k/\k<x.types.length) (ht:x.types.length<=1048576) (hl:l.length<=1000000) (hd:0<=d/\d<=1048576) (hr:0<=(nth x.types k.toNat).rest/\(nth x.types k.toNat).rest<=1048576) :
  ACalls Tryz.prog 180 [.ptr 0 0,.sl 3 0 l.length l.length,.p (.int .i64 d),.p (.int .i64 v)] [Yk x k S tot b,.cells ((Ap stop).map .p),.cells ((J5 (nth x.types k.toNat)).map .p),.elems 2 (l.map Eo)] fun y H'=>y= .sl 3 0 (Vj (nth x.types k.toNat) l d v).length (Vj (nth x.types k.toNat) l d v).length/\H'= [Yk x k S tot b,.cells ((Ap stop).map .p),.cells ((J5 (nth x.types k.toNat)).map .p),.elems 2 ((Vj (nth x.types k.toNat) l d v).map Eo)]:=by
 obtain ⟨L1,h1⟩: ∃L1,L1=V7 l ⟨d,v⟩:=⟨_,rfl⟩;obtain ⟨L2,h2⟩: ∃L2,L2=Vj (nth x.types k.toNat) l d v:=⟨_,rfl⟩
 have h12:V7 L1 ⟨d+(nth x.types k.toNat).rest,0⟩=L2:=by rw [h1,h2];rfl
 have hl1:L1.length<=l.length+1:=by rw [h1];exact Sk
 rw [<- h2];have c1:=NM l ⟨d,v⟩ Za;have c2:=NM L1 ⟨d+(nth x.types k.toNat).rest,0⟩ Za;rw [<- h1] at c1;rw [h12] at c2;obtain ⟨O,hO⟩: ∃O,O=Yk x k S tot b:=⟨_,rfl⟩;refine Zf [] Tryz.func180 rfl dS ?_;simp (disch:=omega) only [Tryz.f180,Ap,J5,Zu,Zo,go_sem,seval];refine ACalls.mono (c1.back [Yk x k S tot b,.cells ((Ap stop).map .p),.cells ((J5 (nth x.types k.toNat)).map .p)] (by rfl)) ?_;rintro y H' ⟨y1,H1,⟨rfl,rfl⟩,rfl,rfl⟩;simp (disch:=omega) only [shV,shO,Yk,Ap,J5,Zu,Zo,ZY,Xk,go_sem,seval]
 refine Z4 16 mixed Zd Zd (Wt ?_);refine ACalls.mono (c2.back [Yk x k S tot b,.cells ((Ap stop).map .p),.cells ((J5 (nth x.types k.toNat)).map .p)] (by rfl)) ?_;rintro y H' ⟨y1,H1,⟨rfl,rfl⟩,rfl,rfl⟩;simp (disch:=omega) only [shV,shO,Yk,Ap,J5,Zu,Zo,ZY,Xk,go_sem,seval];exact ⟨.sl 3 0 L2.length L2.length,[Yk x k S tot b,.cells ((Ap stop).map .p),.cells ((J5 (nth x.types k.toNat)).map .p),.elems 2 (L2.map Eo)],Weak.mk (by simp (disch:=omega) only [Yk,Ap,J5,Zu,Zo,go_sem,seval]),rfl,rfl⟩
def FH (s:Stp) (a:Int):Int×Int:=if s.cls<max a s.opn then (0,14) else (max a s.opn+s.serv,0)
theorem bV (s:Stp) (a:Int) (ha: -1099511627776<=a/\a<=1099511627776) (hs:0<=s.serv/\s.serv<=1048576) (ho: -1099511627776<=s.opn/\s.opn<=1099511627776):PT 279 [.p (Ep s),.p (.int .i64 a)] [.p (.int .i64 (FH s a).1),.p (.int .i64 (FH s a).2)]:=by
 refine Zf [] Tryz.func279 rfl ZaC ?_;simp (disch:=omega) only [Tryz.f279,go_sem,seval];refine Dx (OQ s a) ?_
 have hm: -1099511627776<=max a s.opn/\max a s.opn<=1099511627776:=Za
 by_cases h:s.cls<max a s.opn
 ·have e:Ef s a=(0,14):=by simp_all [Ef]
  have e2:FH s a=(0,14):=by rw [FH,if_pos h]
  rw [e,e2];refine Wt ?_;exact we
 ·have e:Ef s a=(max a s.opn,0):=by simp_all [Ef]
  have e2:FH s a=(max a s.opn+s.serv,0):=by rw [FH,if_neg h]
  rw [e,e2];refine Wt ?_;exact we
def FB (m:Int) (st:List Sr):Prop:= ∀a∈st,(0<=a.rdy/\a.rdy<=16384)/\(-m<=a.drv/\a.drv<=4096)
theorem qD (x:Inst) (k:Int) (S tot:Nat) (b:Col×Bool) (p:Int) (st:List Sr) (c:Bool) (stop:Stp) (m:Int) (hm:0<=m/\m<=1048576) (hk:0<=k/\k<x.types.length) (ht:x.types.length<=1048576) (hT:TrpOk x (nth x.types k.toNat) [stop]) (hl:st.length<=1000) (hst:FB m st) :
  ACalls Tryz.prog 242 [.ptr 0 0,.p (.int .i64 p),.p (.list c (st.map Eo)),.p (Ep stop)] [Yk x k S tot b] fun y H'=>y= .p (.list false ((C2 x (nth x.types k.toNat) p st stop).map Eo))/\H'= [Yk x k S tot b]:=by
 obtain ⟨W,hV⟩: ∃W:Nat->List Sr,W=fun q=>(st.take q).foldl (Q4 x (nth x.types k.toNat) p stop) []:=⟨_,rfl⟩
 have hV0:W 0= []:=by rw [hV];rfl
 have hVn:C2 x (nth x.types k.toNat) p st stop=W st.length:=by grind [C2]
 have hVs: ∀q,q<st.length->W (q+1)=Q4 x (nth x.types k.toNat) p stop (W q) (nth st q):=fun q hq=>by
  grind [Xo,Ze]
 have hVl: ∀q,q<=st.length->(W q).length<=2*q:=fun q=>by
  induction q with
  | zero=>grind
  | succ q ih =>
   intro hq;rw [hVs q Za];have:=ih Za;unfold Q4
   split
   ·omega
   ·split
    ·omega
    grind [A3]
 rw [hVn];clear hV hVn;refine Zf [12] Tryz.func242 rfl Zac ?_;simp (disch:=omega) only [Tryz.f242,Yk,go_sem,seval];refine Xa [11] 12 mixed Zd Zd Zd Zb (Wt ?_);refine ZF 11 _ _ Zd (by refine Wt ?_;exact ⟨rfl,rfl⟩) (X5 ?_);refine Wt ?_;refine Xe [12] [0,1,7,9,28,29] (fun q:Nat=> [(10,.sl 3 0 (W q).length (W q).length),(30,.p (.int .i64 q))]) (fun q=> [Yk x k S tot b,.cells ((Ap stop).map .p),.cells ((J5 (nth x.types k.toNat)).map .p),.elems 2 ((W q).map Eo)]) (fun q=>q<=st.length) (fun q=>st.length-q) 0 Zb (Weak.ofNil 10 2 (by simp (disch:=omega) only [go_sem,seval]) Zb (Weak.mk ?_)) ?_
 ·simp (disch:=omega) only [hV0,Yk,Ap,J5,Zu,Zo,Zw,go_sem,seval,↓reduceIte]
 ·intro q hq;have hql:=hVl q hq;simp (disch:=omega) only [Yk,Ap,J5,Zu,Zo,go_sem,seval];refine cD ?_ ?_<;>intro h1<;>simp (disch:=omega) only [Sh.out h1,go_sem,seval,↓reduceIte]
  ·have hq2:q<st.length:=Za
   obtain ⟨a1,a2⟩:=hst _ (ZD hq2);have hsn:=hVs q hq2;have hg:=(HO (n:=x.net) (pr:=(nth x.types k.toNat).prof) (f:=p) (t:=stop.place) (τ:=(nth st q).rdy) hT.net hT.mil Za).1;refine XR (Wt ?_);refine AV (tD x.net (nth x.types k.toNat).prof p stop.place (nth st q).rdy hT.net Za) (Wt ?_);refine gF ?_ ?_<;>intro h2<;>simp (disch:=omega) only [Sh.out h2,go_sem,seval,↓reduceIte]
   ·have e:W (q+1)=W q:=by simp_all [Q4]
    exact ⟨q+1,Za,Za,Weak.mk (by simp (disch:=omega) only [e,go_sem,seval])⟩
   ·refine cD ?_ ?_<;>intro h3<;>simp (disch:=omega) only [Sh.out h3,go_sem,seval,↓reduceIte]
    ·have e:W (q+1)=W q:=by simp_all [Q4]
     exact ⟨q+1,Za,Za,Weak.mk (by simp (disch:=omega) only [e,go_sem,seval])⟩
    ·obtain ⟨z1,z2,z3,z4,z5⟩:=hT.stp stop Zb;obtain ⟨r1,r2⟩:=hT.rst;refine Dx (bV stop (goN x.net (nth x.types k.toNat).prof p stop.place (nth st q).rdy).1 Za Za Za) ?_
     by_cases hc:stop.cls<max (goN x.net (nth x.types k.toNat).prof p stop.place (nth st q).rdy).1 stop.opn
     ·have e2:FH stop (goN x.net (nth x.types k.toNat).prof p stop.place (nth st q).rdy).1=(0,14):=by rw [FH,if_pos hc]
      rw [e2];refine Wt ?_
      have e:W (q+1)=W q:=by simp_all [Q4]
      exact ⟨q+1,Za,Za,Weak.mk (by simp (disch:=omega) only [e,go_sem,seval])⟩
     ·have e2:FH stop (goN x.net (nth x.types k.toNat).prof p stop.place (nth st q).rdy).1=(max (goN x.net (nth x.types k.toNat).prof p stop.place (nth st q).rdy).1 stop.opn+stop.serv,0):=by rw [FH,if_neg hc]
      rw [e2];refine Wt ?_
      have e:W (q+1)=Vj (nth x.types k.toNat) (W q) (max (goN x.net (nth x.types k.toNat).prof p stop.place (nth st q).rdy).1 stop.opn+stop.serv) ((nth st q).drv+(goN x.net (nth x.types k.toNat).prof p stop.place (nth st q).rdy).1-(nth st q).rdy):=by simp_all [Q4,if_neg]
      have cr:=pC x k S tot b stop (W q) (max (goN x.net (nth x.types k.toNat).prof p stop.place (nth st q).rdy).1 stop.opn+stop.serv) ((nth st q).drv+(goN x.net (nth x.types k.toNat).prof p stop.place (nth st q).rdy).1-(nth st q).rdy) hk ht Za Za Za;rw [<- e] at cr;refine cr.useP (L:= [_]) (by rfl) ?_ (by rfl) (by rfl);simp (disch:=omega) only [Yk,Ap,J5,Zu,Zo,ZY,Xk,go_sem,seval];exact ⟨q+1,Za,Za,wk⟩
  ·have hqs:q=st.length:=Za
   subst hqs;refine Zs (Weak.fz (o:=3) (by rfl)) ?_;refine Zg [] _ _ _ _ ?_;simp (disch:=omega) only [Zu,Zo,Xr,Yf,eq_self,go_sem,seval];exact ⟨.p (.list false ((W st.length).map Eo)),[Yk x k S tot b],Weak.mk (by simp (disch:=omega) only [Yk,go_sem,seval]),rfl,rfl⟩
theorem Ns (a b:Col) (ha:a.route.visits.length<=1048576) (hb:b.route.visits.length<=1048576):PC 239 [.p (Yn a),.p (Yn b)] (.bool (QI a b)):=by
 refine Zc Tryz.func239 rfl zZ ?_;simp (disch:=omega) only [Tryz.f239,go_sem,seval];refine cD ?_ ?_<;>intro h<;>simp (disch:=omega) only [Sh.out h,go_sem,seval,↓reduceIte]
 ·rw [QI,if_pos h]
 ·refine (Tb a.route.visits b.route.visits a.route.visits_c b.route.visits_c ha hb).use (Wt ?_);rw [QI,if_neg h]
theorem mS (a b:Col) (f:Bool) (ha:a.route.visits.length<=1048576) (hb:b.route.visits.length<=1048576):PC 238 [.p (Yn a),.p (.bool f),.p (Yn b),.fn (.func 239) [] []] (Yn (if f=false\/QI b a=true then b else a)):=by
 refine Zc Tryz.func238 rfl zY ?_
 cases f with
 | false =>
  simp (disch:=omega) only [Tryz.f238,BJ,go_sem,seval,↓reduceIte]
 | true =>
  simp (disch:=omega) only [Tryz.f238,DF,go_sem,seval];refine (Ns b a hb ha).use (Wt ?_)
  cases h:QI b a with
  | true=>simp (disch:=omega) only [go_sem,seval]
  | false=>simp (disch:=omega) only [go_sem,seval]
theorem Zh1 {x:Inst} (hx:InstOk x) {S:Nat} {l:List Vis} {v:Vis} (hv:v∈nX x S l) {k:Int} (hk:0<=k/\k<x.types.length):inB x v=true/\0<=(XL x v).place/\TrpOk x (nth x.types k.toNat) [XL x v]:=by
 obtain ⟨i,hi,_,_,h4,_⟩:=VM.1 hv;have ho:=Yz h4
 have hpl:0<=(XL x v).place:=by
  unfold ZX at h4;unfold XL;rw [ho,X6]
  grind
 obtain ⟨t1,t2,t3,_⟩:=Vl hx (show k.toNat<x.types.length by omega);obtain ⟨n1,n2⟩:=PB hx.net;refine ⟨by simp [inB,ho,hi],hpl,n1,n2,t1,t2,t3,fun s hs=> ?_,Zb⟩
 obtain rfl:s=XL x v:=by grind
 have hor:=hx.orders.2 i hi;have hp:=hor.pstp;have hd:=hor.dstp;simp only [stpOk,Zl] at hp hd;unfold XL at hpl ⊢;rw [ho,X6] at hpl ⊢
 split
 ·omega
 omega
theorem qC {x:Inst} {t:Typ} {p:Int} {stop:Stp} (hT:TrpOk x t [stop]) {m:Int} {out:List Sr} {a:Sr} (hm:0<=m) (ho:FB (m+16384) out) (ha:(0<=a.rdy/\a.rdy<=16384)/\(-m<=a.drv/\a.drv<=4096)):FB (m+16384) (Q4 x t p stop out a)/\(Q4 x t p stop out a).length<=out.length+2:=by
 have hg:=(HO (n:=x.net) (pr:=t.prof) (f:=p) (t:=stop.place) (τ:=a.rdy) hT.net hT.mil Za).1;obtain ⟨z1,z2,z3,z4,z5⟩:=hT.stp stop Zb;obtain ⟨r1,r2⟩:=hT.rst;have hd:=hT.drv;unfold Q4
 split
 ·grind
 ·rename_i c1
  split
  ·grind
  ·rename_i c2;refine ⟨fun b hb=> ?_,A3⟩;have c3: ¬t.drive<a.drv+(goN x.net t.prof p stop.place a.rdy).1-a.rdy:=fun h=>c1 (.inr h);rcases WW.1 hb with h | rfl | rfl
   ·exact ho b h
   ·grind
   grind
theorem G3 {x:Inst} {t:Typ} {p:Int} {stop:Stp} (hT:TrpOk x t [stop]) {m:Int} (hm:0<=m): ∀(st out:List Sr),FB (m+16384) out->FB m st->FB (m+16384) (st.foldl (Q4 x t p stop) out)/\(st.foldl (Q4 x t p stop) out).length<=out.length+2*st.length
 | [],out,ho,_=>⟨ho,Zb⟩
 | a::st,out,ho,hs=>by
  obtain ⟨g1,g2⟩:=qC hT (p:=p) hm ho (hs a Zb);obtain ⟨k1,k2⟩:=G3 hT (p:=p) hm st _ g1 fun b hb=>hs b (Yv _ hb);rw [Yp];exact ⟨k1,by simp only [ZH];omega⟩
def OB (x:Inst) (k:Int) (S tot f:Nat):Prop:= ∀(l:List Vis) (c:Bool) (p:Int) (st:List Sr) (b:Col×Bool),l.length+f=tot->(c=true->0<f)->FB (16384*(l.length:Int)) st->st.length<=2^(l.length+1)->b.1.route.visits.length<=1048576 ->
  ACalls Tryz.prog 179 [.ptr 0 0,.p (.list c (l.map Xc)),.p (.int .i64 p),.p (.list false (st.map Eo))] [Yk x k S tot b] fun y H'=>y= .tup []/\H'= [Yk x k S tot ((Pw x k S f l (p,st)).foldl (Wu (Fz x k) (Uc x k S) QI) b)]
theorem Zci (x:Inst) (hx:InstOk x) (k:Int) (S tot:Nat) (ht:tot<=8) (hk:0<=k/\k<x.types.length) (htl:x.types.length<=1048576):OB x k S tot 0:=by
 intro l c p st b hlf hc hs1 hs2 hb
 have hc:c=false:=by grind
 subst hc
 have hll:l.length=tot:=Za
 obtain ⟨R,hR⟩: ∃R,R=Yk x k S tot ((Pw x k S 0 l (p,st)).foldl (Wu (Fz x k) (Uc x k S) QI) b):=⟨_,rfl⟩;rw [<- hR];simp only [Pw,lvW,Yp,Qv] at hR;obtain ⟨⟨bt,bs,bp,br⟩,bf⟩:=b;have hpr:=Mc x (Di k l);refine Zf [] Tryz.func179 rfl dR ?_;simp (disch:=omega) only [Tryz.f179,Yk,go_sem,seval];refine cD ?_ ?_<;>intro h1<;>simp (disch:=omega) only [Sh.out h1,go_sem,seval,↓reduceIte]
 ·refine XR (Wt ?_);refine Wr (S7 x (Di k l) hx ⟨by grind [Di],by simp [Di]⟩) (Wt ?_);refine cD ?_ ?_<;>intro h2<;>simp (disch:=omega) only [Sh.out h2,go_sem,seval]
  ·have hok:Fz x k l=true:=Yq h2;have hcol:(⟨k,(S:Int),(WJ x (Di k l)).1,⟨k,0,true,[],false,l⟩⟩:Col)=Uc x k S l:=rfl;refine Xa [11] 12 mixed Zd Zd Zd Zb (Wt ?_);refine ZF 11 _ _ Zd (by refine Wt ?_;exact ⟨rfl,rfl⟩) (X5 ?_);refine Wt ?_;refine Z4 11 mixed Zd Zd (Wt ?_);refine Zp (mS ⟨bt,bs,bp,br⟩ (Uc x k S l) bf hb (by grind)) ?_
   have hR2:R=Yk x k S tot (if bf=false\/QI (Uc x k S l) ⟨bt,bs,bp,br⟩=true then Uc x k S l else ⟨bt,bs,bp,br⟩,true):=by
    rw [hR,Wu]
    grind
   generalize (if bf=false\/QI (Uc x k S l) ⟨bt,bs,bp,br⟩=true then Uc x k S l else ⟨bt,bs,bp,br⟩)=C at hR2 ⊢;refine Wt ?_;exact ⟨.tup [],[R],Weak.mk (by simp (disch:=omega) only [hR2,Yk,go_sem,seval]),rfl,rfl⟩
  ·have hok:Fz x k l=false:=WU h2;rw [Wu,if_neg (fun h=>by grind)] at hR;exact ⟨.tup [],[R],Weak.mk (by simp (disch:=omega) only [hR,Yk,go_sem,seval]),rfl,rfl⟩
 ·omega
theorem HZ {x:Inst} {k:Int} {S:Nat} : ∀(f:Nat) (l:List Vis) (s:Int×List Sr),∀m∈Pw x k S f l s,m.length=l.length+f
 | 0,l,s,m,hm=>by
  simp_all [Pw,lvW]
 | f+1,l,s,m,hm=>by
  simp only [Pw,lvW,YN] at hm;obtain ⟨v,_,hm⟩:=hm
  split at hm
  ·simp at hm
  ·have:=HZ f (l++ [v]) _ m hm;simp at this;omega
theorem MP {x:Inst} {k:Int} {S N:Nat} : ∀(L:List (List Vis)) (b:Col×Bool),b.1.route.visits.length<=N->(∀m∈L,m.length<=N)->(L.foldl (Wu (Fz x k) (Uc x k S) QI) b).1.route.visits.length<=N
 | [],b,h,_=>h
 | m::L,b,h,hL=>by
  rw [Yp];refine MP L _ ?_ fun q hq=>hL q (Yv _ hq);unfold Wu
  split
  ·exact hL m Zb
  ·exact h
theorem Zcj (x:Inst) (hx:InstOk x) (k:Int) (S tot f:Nat) (ht:tot<=8) (hk:0<=k/\k<x.types.length) (htl:x.types.length<=1048576) (hbl:x.before.length<=1048576) (hS:S<9223372036854775808) (ih:OB x k S tot f):OB x k S tot (f+1):=by
 intro l c p st b hlf hc hs1 hs2 hb;have hf:=XY hx
 have hn:x.orders.length<=60:=by have:=hf.len;omega
 obtain ⟨R,hR⟩: ∃R,R=Yk x k S tot ((Pw x k S (f+1) l (p,st)).foldl (Wu (Fz x k) (Uc x k S) QI) b):=⟨_,rfl⟩;rw [<- hR];have hpw:2^(l.length+1)<=2^8:=Yw Za Za
 have hpw2:2^(l.length+1+1)=2*2^(l.length+1):=Za
 have hnl:=CK x S l x.orders.length;have hokv: ∀v∈nextU x S l x.orders.length,inB x v=true/\0<=(XL x v).place/\TrpOk x (nth x.types k.toNat) [XL x v]:=fun v hv=>Zh1 hx hv hk;obtain ⟨G,hG⟩: ∃G:Vis->List (List Vis),G=fun v=>if (goS x (nth x.types k.toNat) (p,st) v).2.isEmpty=true then [] else Pw x k S f (l++ [v]) (goS x (nth x.types k.toNat) (p,st) v):=⟨_,rfl⟩
 have hlv:Pw x k S (f+1) l (p,st)=(nextU x S l x.orders.length).flatMap G:=by rw [hG];rfl
 rw [hlv] at hR;have hsn:=Tc x S l c hS Za hn hbl (fun q hq=>by have:=(hf.val q hq);omega);generalize hnx:nextU x S l x.orders.length=nx at hnl hokv hR hsn;clear hnx hlv;obtain ⟨B,hB⟩: ∃B:Nat->Col×Bool,B=fun q=>((nx.take q).flatMap G).foldl (Wu (Fz x k) (Uc x k S) QI) b:=⟨_,rfl⟩
 have hB0:B 0=b:=by rw [hB];rfl
 have hBn:R=Yk x k S tot (B nx.length):=by grind
 have hBs: ∀q,q<nx.length->B (q+1)=(G (nth nx q)).foldl (Wu (Fz x k) (Uc x k S) QI) (B q):=fun q hq=>by
  rw [hB];simp only;rw [Xo hq,List.flatMap_append,List.foldl_append,<- Ze hq];simp
 have hBl: ∀q,(B q).1.route.visits.length<=1048576:=fun q=>by
  rw [hB];refine MP _ _ hb fun m hm=> ?_;obtain ⟨v,_,hm⟩:=YN.1 hm;rw [hG] at hm;simp only at hm
  split at hm
  ·simp at hm
  ·have:=HZ _ _ _ m hm;simp at this;omega
 clear hR hB;refine Zf [] Tryz.func179 rfl dR ?_;simp (disch:=omega) only [Tryz.f179,Yk,go_sem,seval];refine cD ?_ ?_<;>intro h1<;>simp (disch:=omega) only [Sh.out h1,go_sem,seval,↓reduceIte]
 ·omega
 ·refine XR (Wt ?_);refine Zp (hsn) (Wt ?_);refine Zk [0,1,2,3,77,78] (fun q:Nat=> [(79,.p (.int .i64 q))]) (fun q=> [Yk x k S tot (B q)]) (fun q=>q<=nx.length) (fun q=>nx.length-q) 0 Zb (Weak.mk ?_) ?_
  ·simp (disch:=omega) only [Yk,hB0,go_sem,seval,↓reduceIte]
  ·intro q hq;simp (disch:=omega) only [Yk,go_sem,seval];refine cD ?_ ?_<;>intro h2<;>simp (disch:=omega) only [Sh.out h2,go_sem,seval,↓reduceIte]
   ·have hq2:q<nx.length:=Za
    obtain ⟨v1,v2,v3⟩:=hokv _ (ZD hq2);have hBq:=hBs q hq2;refine Xa [10,11] 12 mixed Zd Zd Zd Zb (Wt ?_);refine Wr (PK x (nth nx q) Za v1 v2) (Wt ?_);refine ZF 10 _ _ Zd (by refine Wt ?_;exact ⟨rfl,rfl⟩) ?_;refine Wt ?_;refine ZF 11 _ _ Zd (by refine Wt ?_;exact ⟨rfl,rfl⟩) (X5 ?_);refine Wt ?_
    have hSr0:FB (16384*(l.length:Int)+16384) []:=fun a ha=>by simp at ha
    obtain ⟨w1,w2⟩:=G3 v3 (p:=p) (m:=16384*(l.length:Int)) Za st [] hSr0 hs1;obtain ⟨N,hN⟩: ∃N,N=C2 x (nth x.types k.toNat) p st (XL x (nth nx q)):=⟨_,rfl⟩;have cv:=qD x k S tot (B q) p st false (XL x (nth nx q)) (16384*(l.length:Int)) Za hk htl v3 Za hs1
    have hGq:G (nth nx q)=if N.isEmpty=true then [] else Pw x k S f (l++ [nth nx q]) ((XL x (nth nx q)).place,N):=by rw [hG,hN];rfl
    rw [<- hN] at cv
    have w1':FB (16384*(l.length:Int)+16384) N:=by rw [hN];exact w1
    have w2':N.length<=2*st.length:=by grind [C2]
    refine cv.useP (L:= [_,_]) (by rfl) ?_ (by rfl) (by rfl);simp (disch:=omega) only [Yk,ZY,Xk,go_sem,seval];refine cD ?_ ?_<;>intro h3<;>simp (disch:=omega) only [Sh.out h3,go_sem,seval,↓reduceIte]
    ·have hne: ¬N.isEmpty=true:=fun h=>by grind
     rw [hGq,if_neg hne] at hBq
     have ihc:=ih (l++ [nth nx q]) false (XL x (nth nx q)).place N (B q) (by simp;omega) Zb (by
      have e:16384*(((l++ [nth nx q]).length:Nat):Int)=16384*(l.length:Int)+16384:=by simp;omega
      grind) (by grind) (hBl q)
     rw [<- hBq,X0] at ihc;refine Z4 9 mixed Zd Zd (Wt ?_);refine Zp (wD l c Za) (Wt ?_);refine ihc.useP (L:= [_,_]) (by rfl) ?_ (by rfl) (by rfl);simp (disch:=omega) only [Yk,ZY,Xk,go_sem,seval];exact ⟨q+1,Za,Za,wk⟩
    ·have he:N.isEmpty=true:=by simp_all
     rw [hGq,if_pos he] at hBq;have hBq':B (q+1)=B q:=hBq;exact ⟨q+1,Za,Za,Weak.mk (by simp (disch:=omega) only [hBq',go_sem,seval])⟩
   ·have hql:q=nx.length:=Za
    subst hql;exact ⟨.tup [],[R],Weak.mk (by simp (disch:=omega) only [hBn,Yk,go_sem,seval]),rfl,rfl⟩
theorem C7 (x:Inst) (hx:InstOk x) (k:Int) (S tot:Nat) (ht:tot<=8) (hk:0<=k/\k<x.types.length) (htl:x.types.length<=1048576) (hbl:x.before.length<=1048576) (hS:S<9223372036854775808): ∀f,OB x k S tot f
 | 0=>Zci x hx k S tot ht hk htl
 | f+1=>Zcj x hx k S tot f ht hk htl hbl hS (C7 x hx k S tot ht hk htl hbl hS f)
theorem hK (x:Inst) (k:Int) (S tot:Nat) (b:Col×Bool) (d v:Int) (hk:0<=k/\k<x.types.length) (ht:x.types.length<=1048576) (hd:0<=d/\d<=1048576) (hr:0<=(nth x.types k.toNat).rest/\(nth x.types k.toNat).rest<=1048576) :
  ACalls Tryz.prog 180 [.ptr 0 0,.p (.list true []),.p (.int .i64 d),.p (.int .i64 v)] [Yk x k S tot b] fun y H'=>y= .p (.list false ((Vj (nth x.types k.toNat) [] d v).map Eo))/\H'= [Yk x k S tot b]:=by
 obtain ⟨L2,h2⟩: ∃L2,L2=Vj (nth x.types k.toNat) [] d v:=⟨_,rfl⟩
 have h12:V7 [⟨d,v⟩] ⟨d+(nth x.types k.toNat).rest,0⟩=L2:=by rw [h2];rfl
 rw [<- h2];have c2:=NM [⟨d,v⟩] ⟨d+(nth x.types k.toNat).rest,0⟩ Zb;rw [h12] at c2;refine Zf [] Tryz.func180 rfl dS ?_;simp (disch:=omega) only [Tryz.f180,go_sem,seval];refine (nK ⟨d,v⟩).useF (Wt ?_);simp (disch:=omega) only [Yk,go_sem,seval];refine Z4 16 mixed Zd Zd (Wt ?_);refine ACalls.mono (c2.back [Yk x k S tot b] (by rfl)) ?_;rintro y H' ⟨y1,H1,⟨rfl,rfl⟩,rfl,rfl⟩;simp (disch:=omega) only [AM.shV,AM.shO,Yk,Zu,Zo,ZY,Xk,go_sem,seval];exact ⟨.p (.list false (L2.map Eo)),[Yk x k S tot b],(Weak.fz (o:=1) (by rfl)).trans (Weak.mk (by simp (disch:=omega) only [Yk,eq_self,Zu,Zo,Xr,Yf,go_sem,seval,↓reduceIte])),rfl,rfl⟩
theorem LU (x:Inst) (S:Nat): ∀k,k<=63->((XQ (S:Int) k).map fun i=>(ZX x.orders i.toNat).length).sum=Ax x S k
 | 0,_=>by rfl
 | k+1,h=>by
  have ih:=LU x S k Za;rw [Am]
  cases hb:sHas (S:Int) (k:Int) with
  | true =>
   rw [LV hb,X0,BI,ih];rw [Wk _ _ Za] at hb;rw [if_pos hb];simp
  | false =>
   rw [Pz hb,ih];rw [Wk _ _ Za] at hb;rw [hb];simp
theorem MM (x:Inst) (S n:Nat) (h: ∀i,S.testBit i=true->i<n): ∀d,Ax x S (n+d)=Ax x S n
 | 0=>rfl
 | d+1=>by
  rw [show n+(d+1)=n+d+1 by omega,Am,MM x S n h d,if_neg (fun e=>by have:=h _ e;omega)];rfl
def V4 : Col:=⟨0,0,0,⟨0,0,true,[],true,[]⟩⟩
noncomputable def QJ (x:Inst) (k:Int) (S:Nat):Col×Int:=if Y1 x.orders x.apart x.before (S:Int)=0/\(Dp x k S (V4,false)).2=true then ((Dp x k S (V4,false)).1,0) else (V4,24)
def RZ : AM.Obj:= .cells ((lS V4).map .p)
theorem Zbx {P Q:Prop} (h:Q) (e:Q->P:=by intro h;simp (disch:=omega) only [BJ,go_sem,seval];exact h):P:=e h
theorem ZbN {P Q:Prop} (h:Q) (e:Q->P:=by intro h;simp (disch:=omega) only [DF,go_sem,seval];exact h):P:=e h
theorem Ia (x:Inst) (hx:InstOk x) (k:Int) (S:Nat) (hk:0<=k/\k<x.types.length) (h4:x.orders.length<=4) (htl:x.types.length<=1048576) (hbl:x.before.length<=1048576) (hal:x.apart.length<=1048576) (hS0:0<S) (hS1:S<2^x.orders.length) :
  PT 131 [.p (ZG x),.p (.int .i64 k),.p (.int .i64 S)] [.p (Yn (QJ x k S).1),.p (.int .i64 (QJ x k S).2)]:=by
 have hf:=XY hx;have h16:S<16:=UJ hS1 (Yw (n:=2) Za h4);have hdiv:S / pw x.orders.length=0:=KZ hS1
 have hbit: ∀i,S.testBit i=true->i<x.orders.length:=fun i hi=>by
  rcases Wh i x.orders.length with h | h
  ·exact h
  ·have:2^x.orders.length<=2^i:=Yw Za h
   grind [Ve]
 obtain ⟨Z,hZ⟩: ∃Z,Z=QJ x k S:=⟨_,rfl⟩;rw [<- hZ];have hal2:=Rq x.net x.types_c x.types x.orders_c x.apart_c x.before_c x.orders x.apart x.before (S:Nat) Za hal hbl hf.val;refine Zf [] Tryz.func131 rfl xO ?_;simp (disch:=omega) only [Tryz.f131,go_sem,seval];refine gF ?_ ?_<;>intro h1<;>simp (disch:=omega) only [Sh.out h1,go_sem,seval,↓reduceIte]
 ·omega
 ·refine gF ?_ ?_<;>intro h2<;>simp (disch:=omega) only [Sh.out h2,go_sem,seval,↓reduceIte]
  ·omega
  ·refine gF ?_ ?_<;>intro h3<;>simp (disch:=omega) only [Sh.out h3,go_sem,seval,↓reduceIte]
   ·omega
   ·refine cD ?_ ?_<;>intro h5<;>simp (disch:=omega) only [Sh.out h5,go_sem,seval,↓reduceIte]
    ·omega
    ·refine (hal2).use (Wt ?_);refine cD ?_ ?_<;>intro h6<;>simp (disch:=omega) only [Sh.out h6,go_sem,seval,↓reduceIte]
     ·have e:Z=(V4,24):=by simp_all [QJ]
      exact ⟨.tup [.p (Yn Z.1),.p (.int .i64 Z.2)],[],Weak.mk (by simp (disch:=omega) only [e,V4,Zo,go_sem,seval]),rfl,rfl⟩
     ·have h60:Y1 x.orders x.apart x.before (S:Int)=0:=XU.1 h6;obtain ⟨T,hT⟩: ∃T:Nat->Nat,T=fun q=>(((XQ (S:Int) 63).take q).map fun i=>(ZX x.orders i.toNat).length).sum:=⟨_,rfl⟩
      have hT0:T 0=0:=by rw [hT];rfl
      have hTn:T (XQ (S:Int) 63).length=VT x S:=by
       rw [hT];simp only [X7];rw [LU x S 63 Za,show 63=x.orders.length+(63-x.orders.length) by omega,MM x S _ hbit];rfl
      have hTs: ∀q,q<(XQ (S:Int) 63).length->T (q+1)=T q+(ZX x.orders (nth (XQ (S:Int) 63) q).toNat).length:=fun q hq=>by
       grind [Xo,Ze]
      have hTl: ∀q,T q<=2*q:=fun q=>by
       induction q with
       | zero=>omega
       | succ q ih =>
        rcases Wh q (XQ (S:Int) 63).length with h | h
        ·grind [Vm]
        grind [Jp]
      have hml:=BM (S:Int) 63
      have hmi: ∀q,q<(XQ (S:Int) 63).length-> ∃i:Nat,nth (XQ (S:Int) 63) q=(i:Int)/\i<x.orders.length:=fun q hq=>by
       obtain ⟨i,e,_,hb⟩:=QU.1 (ZD hq)
       grind
      refine ((CG (S:Int)).frozen Zb).use (Wt ?_);generalize XQ (S:Int) 63=M at hTn hTs hml hmi ⊢;clear hT;refine Zk [1,3,6,8,45,46] (fun q:Nat=> [(47,.p (.int .i64 q))]) (fun q=> [Zj x,RZ,Yk x k S (T q) (V4,false)]) (fun q=>q<=M.length) (fun q=>M.length-q) 0 Zb (Weak.mk ?_) ?_
      ·simp (disch:=omega) only [Zj,RZ,lS,V4,Yk,hT0,Zo,Zu,go_sem,seval]
      ·intro q hq;have hq1:=hTl q;simp (disch:=omega) only [Zj,RZ,lS,V4,Yk,Zo,Zu,go_sem,seval];refine cD ?_ ?_<;>intro h7<;>simp (disch:=omega) only [Sh.out h7,go_sem,seval,↓reduceIte]
       ·have hq2:q<M.length:=Za
        obtain ⟨i,hi,hin⟩:=hmi q hq2;have hts:=hTs q hq2;rw [hi,X6] at hts;have hvl:=Vm x.orders i;refine Z4 10 mixed Zd Zd (Wt ?_);rw [hi];refine Zp (visits_c x.orders x.orders_c i hin Za) (Wt ?_)
        have hts2:((T (q+1):Nat):Int)=((T q:Nat):Int)+((ZX x.orders i).length:Int):=Za
        exact ⟨q+1,Za,Za,Weak.mk (by simp (disch:=omega) only [hts2,go_sem,seval])⟩
       ·have hqm:q=M.length:=Za
        subst hqm;rw [hTn] at hq1 ⊢
        have ht8:VT x S<=8:=by
         grind [Iw,VT]
        have htp:0<VT x S:=P6 hf.vne hdiv Za;obtain ⟨t1,t2,t3,_⟩:=Vl hx (show k.toNat<x.types.length by omega);obtain ⟨N,hN⟩: ∃N,N=Vj (nth x.types k.toNat) [] (nth x.types k.toNat).opn 0:=⟨_,rfl⟩
        have hNl:N.length<=2:=by
         grind [A3]
        have hNo:FB 0 N:=fun a ha=>by
         rw [hN] at ha;rcases WW.1 ha with h | rfl | rfl
         ·simp at h
         ·grind
         ·exact ⟨by simp only;omega,Zb⟩
        have cf:=hK x k S (VT x S) (V4,false) (nth x.types k.toNat).opn 0 hk htl Za Za;rw [<- hN] at cf;have cw:=C7 x hx k S (VT x S) ht8 hk htl hbl Za (VT x S) [] true (nth x.types k.toNat).src N (V4,false) Zb (fun _=>htp) (by grind) Za (by simp [V4])
        have hB:(Pw x k S (VT x S) [] ((nth x.types k.toNat).src,N)).foldl (Wu (Fz x k) (Uc x k S) QI) (V4,false)=Dp x k S (V4,false):=by rw [Dp,st0,<- hN]
        rw [hB] at cw
        have hZ2:Z=if (Dp x k S (V4,false)).2=true then ((Dp x k S (V4,false)).1,0) else (V4,24):=by
         rw [hZ,QJ]
         simp_all
        generalize Dp x k S (V4,false)=B at cw hZ2;refine Z4 7 mixed Zd Zd (Wt ?_);refine ⟨.p (.list false (N.map Eo)),?_,?_⟩
        ·refine ACalls.mono (((cf.mono fun y H' hq=>(⟨hq,by rw [hq.2]⟩:_/\H'.length= [Yk x k S (VT x S) (V4,false)].length)).front (by rfl) (by rfl) [.cells ((J5 (nth x.types k.toNat)).map .p)]).back [Zj x,RZ] (by rfl)) ?_;rintro y H' ⟨y1,H1,⟨H2,⟨rfl,rfl⟩,rfl⟩,rfl,rfl⟩;exact ⟨rfl,rfl⟩
        ·refine Wt ?_;refine ACalls.mono (((cw.mono fun y H' hq=>(⟨hq,by grind⟩:_/\H'.length= [Yk x k S (VT x S) (V4,false)].length)).front (by rfl) (by rfl) [.cells ((J5 (nth x.types k.toNat)).map .p)]).back [Zj x,RZ] (by rfl)) ?_;rintro y H' ⟨y1,H1,⟨H2,⟨rfl,rfl⟩,rfl⟩,rfl,rfl⟩;simp (disch:=omega) only [AM.shV,AM.shVs,AM.shO,Zj,RZ,lS,V4,Yk,J5,Zu,Zo,ZY,Xk,go_sem,seval];obtain ⟨C,f⟩:=B
         cases f with
         | false =>
          rw [if_neg Zb] at hZ2;refine Zbx ?_;exact ⟨.tup [.p (Yn Z.1),.p (.int .i64 Z.2)],[],Weak.mk (by simp (disch:=omega) only [hZ2,V4,Zo,go_sem,seval]),rfl,rfl⟩
         | true =>
          rw [if_pos rfl] at hZ2;refine ZbN ?_;exact ⟨.tup [.p (Yn Z.1),.p (.int .i64 Z.2)],[],Weak.mk (by simp (disch:=omega) only [hZ2,go_sem,seval]),rfl,rfl⟩
def E5 (one:Nat->List Col):Nat->List Col
 | 0=> []
 | q+1=>E5 one q++one (q+1)
def J1 (one:Nat->Nat->List Col) (N:Nat):Nat->List Col
 | 0=> []
 | k+1=>J1 one N k++E5 (one k) N
theorem E6 {one:Nat->List Col} (h: ∀q,(one q).length<=1): ∀q,(E5 one q).length<=q
 | 0=>Xf _
 | q+1=>by
  have:=E6 h q;have:=h (q+1);rw [E5,Zn];omega
theorem D6 {one:Nat->Nat->List Col} {N:Nat} (h: ∀k q,(one k q).length<=1): ∀k,(J1 one N k).length<=k*N
 | 0=>by simp [J1]
 | k+1=>by
  have h1:=D6 (N:=N) h k;have h2:=E6 (h k) N;rw [J1,Zn,XP];omega
noncomputable def Ko (x:Inst) (k S:Nat):List Col:=if (QJ x (k:Int) S).2=0 then [(QJ x (k:Int) S).1] else []
theorem ET {x:Inst} (k S:Nat):(Ko x k S).length<=1:=by grind [Ko]
theorem L9 (x:Inst) (hx:InstOk x) (h4:x.orders.length<=4) (h6:x.types.length<=6) (hbl:x.before.length<=1048576) (hal:x.apart.length<=1048576) :
  PT 80 [.p (ZG x)] [.p (.list false ((J1 (Ko x) (2^x.orders.length-1) x.types.length).map Yn)),.p (.int .i64 0)]:=by
 have hp:pw x.orders.length=2^x.orders.length:=rfl;have hp1:1<=2^x.orders.length:=Nat.one_le_two_pow;have hp2:2^x.orders.length<=2^4:=Yw Za h4;obtain ⟨N,hN⟩: ∃N,N=2^x.orders.length-1:=⟨_,rfl⟩;rw [<- hN];refine Zf [12] Tryz.func80 rfl Zhz ?_;simp (disch:=omega) only [Tryz.f80,go_sem,seval];refine Xe [12] [1,11] (fun k:Nat=> [(4,.sl 1 0 (J1 (Ko x) N k).length (J1 (Ko x) N k).length),(12,.p (.int .i64 k))]) (fun k=> [Zj x,.elems 7 ((J1 (Ko x) N k).map Yn)]) (fun k=>k<=x.types.length) (fun k=>x.types.length-k) 0 Zb (Weak.ofNil 4 7 (by simp (disch:=omega) only [go_sem,seval]) Zb (Weak.mk ?_)) ?_
 ·simp (disch:=omega) only [Zj,J1,Zo,Zw,go_sem,seval]
 ·intro k hk;obtain ⟨R,hR⟩: ∃R,R=J1 (Ko x) N k:=⟨_,rfl⟩;have hRl:=D6 (N:=N) (ET (x:=x)) k
  have hRs:J1 (Ko x) N (k+1)=R++E5 (Ko x k) N:=by rw [hR];rfl
  rw [<- hR] at hRl ⊢;have hkN:k*N<=6*16:=Nat.mul_le_mul Za Za;refine Wy ?_;refine cD ?_ ?_<;>intro h1<;>simp (disch:=omega) only [Sh.out h1,go_sem,seval,↓reduceIte]
  ·obtain ⟨W,hW⟩: ∃W:Nat->List Col,W=fun q=>R++E5 (Ko x k) (q-1):=⟨_,rfl⟩
   have hW0:W 1=R:=by grind [E5]
   have hWn:J1 (Ko x) N (k+1)=W (N+1):=by grind
   have hWl: ∀q,(W q).length<=R.length+q:=fun q=>by
    grind [E6,ET]
   have hWs: ∀q,1<=q->W (q+1)=W q++Ko x k q:=fun q h=>by
    obtain ⟨p,rfl⟩: ∃p,q=p+1:=⟨q-1,Za⟩
    grind [E5]
   clear hW hRs;refine Zk [1,5,11,12] (fun q:Nat=> [(4,.sl 1 0 (W q).length (W q).length),(6,.p (.int .i64 q))]) (fun q=> [Zj x,.elems 7 ((W q).map Yn)]) (fun q=>1<=q/\q<=N+1) (fun q=>N+1-q) 1 Za (Weak.mk ?_) ?_
   ·have e0:((1:Nat):Int)=1:=rfl;simp (disch:=omega) only [Zj,hW0,e0,go_sem,seval]
   ·rintro q ⟨hq0,hq⟩;have hql:=hWl q;have hqs:=hWs q hq0;refine Wy ?_;refine ZN ?_ ?_<;>intro h2
    ·have hq2:q<2^x.orders.length:=by
      have h2':q / pw x.orders.length=0:=Za
      simp_all
     refine Dx (Ia x hx k q Za h4 Za hbl hal Za hq2) ?_;have hone:Ko x k q=if (QJ x (k:Int) q).2=0 then [(QJ x (k:Int) q).1] else []:=rfl;rw [hone] at hqs;generalize QJ x (k:Int) q=Z at hqs ⊢;refine Wt ?_;refine ZN ?_ ?_<;>intro h3
     ·rw [if_pos h3] at hqs;exact ⟨q+1,Za,Za,Weak.mk (by simp (disch:=omega) only [hqs,X0,Zu,Zo,Zn,ZH,Zw,XJ,go_sem,seval])⟩
     ·rw [if_neg h3,Qu] at hqs;exact ⟨q+1,Za,Za,Weak.mk (by simp (disch:=omega) only [hqs,go_sem,seval])⟩
    ·have hqn:q=N+1:=by
      have h2': ¬q / pw x.orders.length=0:=Za
      rw [hp] at h2';have: ¬q<2^x.orders.length:=fun h=>h2' (KZ h);omega
     subst hqn;exact ⟨k+1,Za,Za,Weak.mk (by simp (disch:=omega) only [hWn,go_sem,seval])⟩
  ·have hkt:k=x.types.length:=Za
   subst hkt;refine Zs (Weak.fz (o:=1) (by rfl)) ?_;refine Zg [] _ _ _ _ ?_;simp (disch:=omega) only [Zu,Zo,Xr,Yf,eq_self,go_sem,seval];exact ⟨.tup [.p (.list false (R.map Yn)),.p (.int .i64 0)],[],wk,by rw [hR],rfl⟩
structure St where
 ix:Int
 cov:Int
 used:List Int
 deriving Inhabited,DecidableEq
def As (s:St):PV:= .agg (.int .i64 s.ix:: .int .i64 s.cov::s.used.map eI)
@[go_sem] theorem Zl1 (s:St):As s= .agg (.int .i64 s.ix:: .int .i64 s.cov::s.used.map eI):=Zh rfl rfl
def StR (s:St):Prop:=s.used.length=6
theorem six {l:List Int} (h:l.length=6): ∃a b c d e f,l= [a,b,c,d,e,f]:=by
 match l,h with
 | [a,b,c,d,e,f],_=>simp
theorem YA {s:St} (h:StR s): ∃i v a b c d e f,s=⟨i,v,[a,b,c,d,e,f]⟩:=by
 obtain ⟨i,v,u⟩:=s;obtain ⟨a,b,c,d,e,f,rfl⟩:=six h;simp
theorem NO : KeyE Tryz.prog 204 As StR:=by
 refine ⟨⟨151,3,Zd,Zd,fun s hs=> ?_,fun s t hs ht=> ?_⟩,fun s t hs ht=> ?_⟩
 ·obtain ⟨i,v,a,b,c,d,e,f,rfl⟩:=YA hs
  kernel_rfl
 ·obtain ⟨i,v,a,b,c,d,e,f,rfl⟩:=YA hs;obtain ⟨i',v',a',b',c',d',e',f',rfl⟩:=YA ht
  have h1:Vs Tryz.prog 9 151 (As ⟨i,v,[a,b,c,d,e,f]⟩) (As ⟨i',v',[a',b',c',d',e',f']⟩)=some (decide (i=i')&&(decide (v=v')&&((decide (a=a')&&(decide (b=b')&&(decide (c=c')&&(decide (d=d')&&(decide (e=e')&&(decide (f=f')&&true))))))&&true))):=Zd
  have h2:keq (As ⟨i,v,[a,b,c,d,e,f]⟩) (As ⟨i',v',[a',b',c',d',e',f']⟩)=(decide (i=i')&&(decide (v=v')&&((decide (a=a')&&(decide (b=b')&&(decide (c=c')&&(decide (d=d')&&(decide (e=e')&&(decide (f=f')&&true))))))&&true))):=by
   simp_all [keq,As,QV,eI]
  show (Vs Tryz.prog 9 151 (As ⟨i,v,[a,b,c,d,e,f]⟩) (As ⟨i',v',[a',b',c',d',e',f']⟩)==some (keq (As ⟨i,v,[a,b,c,d,e,f]⟩) (As ⟨i',v',[a',b',c',d',e',f']⟩)))=true
  simp_all
 ·obtain ⟨i,v,a,b,c,d,e,f,rfl⟩:=YA hs;obtain ⟨i',v',a',b',c',d',e',f',rfl⟩:=YA ht
  simp_all [keq,As,QV,eI]
structure Kd where
 typ:Int
 set:Int
 deriving Inhabited,DecidableEq
def TD (k:Kd):PV:= .agg [.int .i64 k.typ,.int .i64 k.set]
theorem eC : KeyE Tryz.prog 265 TD fun _=>True:=by
 refine ⟨⟨267,3,Zd,Zd,fun s _=> ?_,fun s t _ _=> ?_⟩,fun s t _ _=> ?_⟩
 ·kernel_rfl
 ·obtain ⟨a,b⟩:=s;obtain ⟨c,d⟩:=t
  have h1:Vs Tryz.prog 9 267 (TD ⟨a,b⟩) (TD ⟨c,d⟩)=some (decide (a=c)&&(decide (b=d)&&true)):=Zd
  have h2:keq (TD ⟨a,b⟩) (TD ⟨c,d⟩)=(decide (a=c)&&(decide (b=d)&&true)):=by
   grind [keq,TD,QV]
  show (Vs Tryz.prog 9 267 (TD ⟨a,b⟩) (TD ⟨c,d⟩)==some (keq (TD ⟨a,b⟩) (TD ⟨c,d⟩)))=true
  simp_all
 ·obtain ⟨a,b⟩:=s;obtain ⟨c,d⟩:=t;simp [keq,TD,QV]
def A5 (n:Nat) (m cov:Int):Nat->Nat->Nat
 | 0,k=>k
 | f+1,k=>if k<n/\(sHas m k=false\/sHas cov k=true) then A5 n m cov f (k+1) else k
theorem CX {n:Nat} {m cov:Int} {k:Nat} (h: ¬(k<n/\(sHas m k=false\/sHas cov k=true))) (f:Nat):A5 n m cov f k=k:=by
 cases f with
 | zero=>rfl
 | succ f=>rw [A5,if_neg h]
theorem DR {n:Nat} {m cov:Int} {k:Nat} (h:k<n) (hc:sHas m k=false\/sHas cov k=true):A5 n m cov (n-k) k=A5 n m cov (n-(k+1)) (k+1):=by
 rw [show n-k=(n-(k+1))+1 by omega,A5,if_pos ⟨h,hc⟩]
def W5 (n:Nat) (m:Int) (s:St):St:= { s with ix:=(A5 n m s.cov (n-s.ix.toNat) s.ix.toNat:Nat) }
def YT (x:Inst) (f g:PV) (m:Int):AM.Obj:= .cells [.p (.list x.net.places_c (x.net.places.map eS)),.p (.list x.net.arcs_c (x.net.arcs.map Ud)),.p (.list x.types_c (x.types.map Uf)),.p (.list x.orders_c (x.orders.map eOrd)),.p (.list x.apart_c (x.apart.map eP)),.p (.list x.before_c (x.before.map eP)),.p f,.p g,.mp 0,.p (.int .i64 m)]
def X2 (x:Inst) (f g:PV) (m:Int) (l:List (St×Int)):List AM.Obj:= [.map (l.map (Lh As)),YT x f g m]
def KB (s:St):AM.Obj:= .cells (.p (.int .i64 s.ix):: .p (.int .i64 s.cov)::(s.used.map eI).map .p)
theorem Ff (x:Inst) (f g:PV) (m:Int) (l:List (St×Int)) (s:St) (hs:StR s) (h0:0<=s.ix) (hn:x.orders.length<=10) (h1:s.ix<=10) :
  ACalls Tryz.prog 100 [.ptr 1 0,.p (As s)] (X2 x f g m l) fun y H'=>y= .p (As (W5 x.orders.length m s))/\H'=X2 x f g m l:=by
 obtain ⟨i,v,a,b,c,d,e,u,rfl⟩:=YA hs;obtain ⟨i,rfl⟩: ∃k:Nat,i=k:=⟨i.toNat,by grind⟩;simp only at h0 h1;generalize hT:As (W5 x.orders.length m ⟨i,v,[a,b,c,d,e,u]⟩)=T;refine Zf [] Tryz.func100 rfl xB ?_;simp (disch:=omega) only [Tryz.f100,X2,YT,Zu,Zo,go_sem,seval];refine Zk [0,3,4] (fun k:Nat=> []) (fun k=>X2 x f g m l++ [KB ⟨k,v,[a,b,c,d,e,u]⟩,.cells (List.replicate 8 (.p (.int .i64 0)))]) (fun k=>k<=10/\A5 x.orders.length m v (x.orders.length-k) k=A5 x.orders.length m v (x.orders.length-i) i) (fun k=>x.orders.length-k) i ⟨Za,rfl⟩ (Weak.mk ?_) ?_
 ·simp (disch:=omega) only [X2,YT,KB,Zu,Zo,List.replicate,go_sem,seval,↓reduceIte]
 ·rintro k ⟨hk,hq⟩
  have fin: ∀q:Nat,q=A5 x.orders.length m v (x.orders.length-i) i->As ⟨q,v,[a,b,c,d,e,u]⟩=T:=fun q hq=>by grind [W5]
  simp (disch:=omega) only [X2,YT,KB,Zu,Zo,List.replicate,go_sem,seval];refine XR (Wt ?_);refine gT ?_ ?_<;>intro h5<;>simp (disch:=omega) only [Sh.out h5,go_sem,seval,↓reduceIte]
  ·have hk2:k<x.orders.length:=Za
   refine Zp (C9 m k) (Wt ?_)
   cases hm:sHas m k with
   | false =>
    refine Zbx ?_;exact ⟨k+1,⟨Za,by grind [DR]⟩,Za,wk⟩
   | true =>
    refine ZbN ?_;refine Zp (C9 v k) (Wt ?_)
    cases hv:sHas v k with
    | true =>
     refine Wt ?_;exact ⟨k+1,⟨Za,by grind [DR]⟩,Za,wk⟩
    | false =>
     refine Wt ?_;exact ⟨.p (As ⟨k,v,[a,b,c,d,e,u]⟩),_,Weak.mk (by simp (disch:=omega) only [Zu,Zo,go_sem,seval]),by grind [CX],rfl⟩
  ·exact ⟨.p (As ⟨k,v,[a,b,c,d,e,u]⟩),_,Weak.mk (by simp (disch:=omega) only [Zu,Zo,go_sem,seval]),by grind [CX],rfl⟩
def CL (n:Nat) (m:Int) (s:St):St:=W5 n m { s with ix:=s.ix+1 }
theorem Zdd {P Q:Prop} (h:Q) (e:Q->P:=by intro h;simp (disch:=omega) only [X2,YT,Zu,Zo,ZY,Xk,go_sem,seval];exact h):P:=e h
theorem G4 (x:Inst) (f g:PV) (m:Int) (l:List (St×Int)) (s:St) (hs:StR s) (h0:0<=s.ix) (hn:x.orders.length<=10) (h1:s.ix<=9) :
  ACalls Tryz.prog 155 [.ptr 1 0,.p (As s)] (X2 x f g m l) fun y H'=>y= .p (As (CL x.orders.length m s))/\H'=X2 x f g m l:=by
 have hc:=Ff x f g m l { s with ix:=s.ix+1 } hs (by grind) hn (by grind);obtain ⟨i,v,a,b,c,d,e,u,rfl⟩:=YA hs;obtain ⟨q,hq⟩: ∃q:Int,CL x.orders.length m ⟨i,v,[a,b,c,d,e,u]⟩=⟨q,v,[a,b,c,d,e,u]⟩:=⟨_,rfl⟩;have hq':W5 x.orders.length m ⟨i+1,v,[a,b,c,d,e,u]⟩=⟨q,v,[a,b,c,d,e,u]⟩:=hq;rw [hq];simp only at h0 h1 hc;rw [hq'] at hc;refine Zf [] Tryz.func155 rfl yH ?_;simp (disch:=omega) only [Tryz.f155,X2,YT,Zu,Zo,go_sem,seval];refine hc.useP (L:= [_,_]) (by rfl) ?_ (by rfl) (by rfl);refine Zdd ?_
 exact we
def Cg (n:Nat) (m:Int) (s:St) (T:Nat) (C S:Nat):St:=W5 n m ⟨s.ix,((C|||S:Nat):Int),s.used.set T (nth s.used T+1)⟩
def Dt (x:Inst) (s:St) (T:Nat) (C S:Nat):Bool:=decide (C&&&S=0)&&decide (nth s.used T<(nth x.types T).count)
theorem jK (x:Inst) (f g:PV) (m:Int) (l:List (St×Int)) (s:St) (c:Col) (hs:StR s) (h0:0<=s.ix) (hn:x.orders.length<=10) (h1:s.ix<=10) (C S T:Nat) (hC:s.cov=C) (hS:c.set=S) (hT:c.typ=T) (hC2:C<1024) (hS2:S<1024) (hT2:T<x.types.length) (h6:x.types.length<=6)
  (hu: ∀j,j<6->0<=nth s.used j/\nth s.used j<=1048576) :
  ACalls Tryz.prog 154 [.ptr 1 0,.p (As s),.p (Yn c)] (X2 x f g m l) fun y H'=>y=(if Dt x s T C S=true then .tup [.p (As (Cg x.orders.length m s T C S)),.p (.bool true)] else .tup [.p (As s),.p (.bool false)])/\H'=X2 x f g m l:=by
 have hor:C|||S<1024:=Qt (n:=10) hC2 hS2;have hc:=Ff x f g m l ⟨s.ix,((C|||S:Nat):Int),s.used.set T (nth s.used T+1)⟩ (by grind [StR]) h0 hn h1;obtain ⟨i,v,a0,a1,a2,a3,a4,a5,rfl⟩:=YA hs
 have hT3:T=0\/T=1\/T=2\/T=3\/T=4\/T=5:=Za
 have u0:=hu 0 Za;have u1:=hu 1 Za;have u2:=hu 2 Za;have u3:=hu 3 Za;have u4:=hu 4 Za;have u5:=hu 5 Za;simp only [nth,List.getD_cons_zero,List.getD_cons_succ] at u0 u1 u2 u3 u4 u5;simp only at hC h0 h1;obtain ⟨ct,cs,cp,cr⟩:=c;simp only at hS hT;subst hC;subst hS;subst hT;obtain ⟨R,hR⟩: ∃R:V,R=(if Dt x ⟨i,(C:Nat),[a0,a1,a2,a3,a4,a5]⟩ T C S=true then .tup [.p (As (Cg x.orders.length m ⟨i,(C:Nat),[a0,a1,a2,a3,a4,a5]⟩ T C S)),.p (.bool true)] else .tup [.p (As ⟨i,(C:Nat),[a0,a1,a2,a3,a4,a5]⟩),.p (.bool false)]):=⟨_,rfl⟩
 rw [<- hR];obtain ⟨q,hq⟩: ∃q:Int,W5 x.orders.length m ⟨i,((C|||S:Nat):Int),[a0,a1,a2,a3,a4,a5].set T (nth [a0,a1,a2,a3,a4,a5] T+1)⟩=⟨q,((C|||S:Nat):Int),[a0,a1,a2,a3,a4,a5].set T (nth [a0,a1,a2,a3,a4,a5] T+1)⟩:=⟨_,rfl⟩;simp only at hc;rw [hq] at hc;have hw:Cg x.orders.length m ⟨i,(C:Nat),[a0,a1,a2,a3,a4,a5]⟩ T C S=⟨q,((C|||S:Nat):Int),[a0,a1,a2,a3,a4,a5].set T (nth [a0,a1,a2,a3,a4,a5] T+1)⟩:=hq;rw [hw] at hR;refine Zf [] Tryz.func154 rfl yG ?_;rcases hT3 with rfl | rfl | rfl | rfl | rfl | rfl
 all_goals
  simp (disch:=omega) only [Tryz.f154,X2,YT,Zu,Zo,go_sem,seval,↓reduceIte];refine XR ?_;simp (disch:=omega) only [go_sem,seval,↓reduceIte];refine gF ?_ ?_<;>intro h5<;>simp (disch:=omega) only [Sh.out h5,go_sem,seval,↓reduceIte]
  ·have hno:(decide (C&&&S=0))=false:=WU Za;exact ⟨.tup [.p (As ⟨i,(C:Nat),[a0,a1,a2,a3,a4,a5]⟩),.p (.bool false)],_,Weak.mk (by simp (disch:=omega) only [Zu,Zo,go_sem,seval]),by rw [hR,if_neg (by rw [Dt,hno];simp)],rfl⟩
  ·have hcs:C&&&S=0:=Za
   refine cD ?_ ?_<;>intro h7<;>simp (disch:=omega) only [Sh.out h7,go_sem,seval,↓reduceIte]
   ·exact ⟨.tup [.p (As ⟨i,(C:Nat),[a0,a1,a2,a3,a4,a5]⟩),.p (.bool false)],_,Weak.mk (by simp (disch:=omega) only [Zu,Zo,go_sem,seval]),by rw [hR,if_neg (by rw [Dt,Yq hcs,Vg];exact fun h=>Int.not_lt.2 h7 (K1 h))],rfl⟩
   ·rw [if_pos (by rw [Dt,Yq hcs,Vg];exact Yq (Jw.1 h7))] at hR;refine hc.useP (L:= [_,_,_]) (by rfl) ?_ (by rfl) (by rfl);simp (disch:=omega) only [X2,YT,Zu,Zo,ZY,Xk,Yf,Xr,go_sem,seval,↓reduceIte];exact ⟨R,_,Weak.mk (by rw [hR];simp (disch:=omega) only [nth,List.getD_cons_zero,List.getD_cons_succ,Yf,Xr,Zu,Zo,go_sem,seval]),rfl,rfl⟩
def YJ (o p r:Int):Int:=if 0<=r/\(o<0\/p+r<o) then p+r else o
theorem I0 (o p r:Int) (hp: -4611686018427387904<=p/\p<=4611686018427387904) (hr: -4611686018427387904<r/\r<4611686018427387904) :
  ACalls Tryz.prog 153 [.p (.int .i64 p),.p (.int .i64 r),.ptr 0 0] [.cells [.p (.int .i64 o)]] fun y H'=>y= .tup []/\H'= [.cells [.p (.int .i64 (YJ o p r))]]:=by
 obtain ⟨T,hT⟩: ∃T,T=YJ o p r:=⟨_,rfl⟩;rw [<- hT];unfold YJ at hT;refine Zf [] Tryz.func153 rfl yF ?_;simp (disch:=omega) only [Tryz.f153,go_sem,seval];refine gT ?_ ?_<;>intro h1<;>simp (disch:=omega) only [Sh.out h1,go_sem,seval,↓reduceIte]
 ·refine gF ?_ ?_<;>intro h2<;>simp (disch:=omega) only [Sh.out h2,go_sem,seval,↓reduceIte]
  ·rw [if_pos ⟨h1,.inl h2⟩] at hT;subst hT;exact we
  ·refine cD ?_ ?_<;>intro h3<;>simp (disch:=omega) only [Sh.out h3,go_sem,seval,↓reduceIte]
   ·rw [if_pos ⟨h1,.inr h3⟩] at hT;subst hT;exact we
   ·rw [if_neg Za] at hT;subst hT;exact we
 ·rw [if_neg Za] at hT;subst hT;exact we
theorem Cb {n:Nat} {m cov:Int} : ∀(f k:Nat),k<=A5 n m cov f k
 | 0,k=>Xf _
 | f+1,k=>by
  rw [A5]
  split
  ·have:=Cb (n:=n) (m:=m) (cov:=cov) f (k+1);omega
  ·omega
theorem PX {n:Nat} {m cov:Int} : ∀(f k:Nat),k<=n->A5 n m cov f k<=n
 | 0,k,h=>h
 | f+1,k,h=>by
  rw [A5]
  split
  ·rename_i hc;exact PX f (k+1) Za
  ·exact h
theorem Td {n:Nat} {m cov:Int} {k:Nat} (h:k<n) (hb:sHas cov k=true):k+1<=A5 n m cov (n-k) k:=by
 grind [DR,Cb]
theorem EP {l:List Int} {i j:Nat} {a:Int} (h:i<l.length):nth (l.set i a) j=if i=j then a else nth l j:=by
 grind [nth]
structure StV (n:Nat) (s:St):Prop where
 len:StR s
 ix:0<=s.ix/\s.ix<=n
 cov: ∃C:Nat,s.cov=C/\C<1024
 used: ∀j,j<6->0<=nth s.used j/\nth s.used j<=1048576
theorem Is {n:Nat} {m:Int} {s:St} (h:StV n s):StV n (W5 n m s)/\s.ix<=(W5 n m s).ix:=by
 obtain ⟨h1,h2,h3,h4⟩:=h;have a:=Cb (n:=n) (m:=m) (cov:=s.cov) (n-s.ix.toNat) s.ix.toNat;have b:=PX (n:=n) (m:=m) (cov:=s.cov) (n-s.ix.toNat) s.ix.toNat Za;exact ⟨⟨h1,by grind [W5],h3,h4⟩,by grind [W5]⟩
theorem H5 {n:Nat} {m:Int} {s:St} (h:StV n s) (hi:s.ix<n):StV n (CL n m s)/\s.ix<(CL n m s).ix:=by
 have h':StV n { s with ix:=s.ix+1 } :=⟨h.len,by have:=h.ix;grind,h.cov,h.used⟩
 grind [Is,CL]
theorem pH {C S k:Nat} (h:sHas (S:Int) k=true):sHas ((C|||S:Nat):Int) k=true:=by
 have key: ∀N:Nat,sHas (N:Int) k=true↔k<=62/\N.testBit k=true:=fun N=>by
  simp only [sHas,ZO,Zl,X6]
  grind
 grind
theorem qI {n:Nat} {m:Int} {s:St} {T C S:Nat} (h:StV n s) (hi:s.ix<n) (hC:C<1024) (hS:S<1024) (hb:sHas (S:Int) s.ix=true) (hT:T<6) (hu:nth s.used T<1048576):StV n (Cg n m s T C S)/\s.ix<(Cg n m s T C S).ix:=by
 have hor:C|||S<1024:=Qt (n:=10) hC hS;have hl:s.used.length=6:=h.len
 have h':StV n ⟨s.ix,((C|||S:Nat):Int),s.used.set T (nth s.used T+1)⟩:=by
  refine ⟨by grind [StR],h.ix,⟨_,rfl,hor⟩,fun j hj=> ?_⟩;simp only;rw [EP Za]
  split
  ·have:=h.used T hT;omega
  ·exact h.used j hj
 grind [Is,Td,pH,Cg,W5]
def Yt (x:Inst) (s:St) (c:Col):Bool:=Dt x s c.typ.toNat s.cov.toNat c.set.toNat
def Vn (n:Nat) (m:Int) (s:St) (c:Col):St:=Cg n m s c.typ.toNat s.cov.toNat c.set.toNat
def YU (n:Nat) (m:Int) (x:Inst) (fst:List (List Col)) (sk:List Int):Nat->St->Int
 | 0,_=>0
 | d+1,s=>if (n:Int)<=s.ix then 0 else
  let o:=(nth fst s.ix.toNat).foldl (fun o c=>if Yt x s c=true then YJ o c.price (YU n m x fst sk d (Vn n m s c)) else o) (-1)
  if 0<=nth sk s.ix.toNat then YJ o (nth sk s.ix.toNat) (YU n m x fst sk d (CL n m s)) else o
structure ChOk (n:Nat) (x:Inst) (fst:List (List Col)) (sk:List Int):Prop where
 col: ∀i,i<n-> ∀c∈nth fst i,(0<=c.typ/\c.typ<x.types.length)/\(∃S:Nat,c.set=S/\S<1024)/\sHas c.set i=true/\0<=c.price/\c.price<=18014398509481984
 typ:x.types.length<=6/\ ∀t,t<6->(nth x.types t).count<=1048576
 skp: ∀i,i<n-> -1<=nth sk i/\nth sk i<=18014398509481984
theorem DX {n:Nat} {m:Int} {x:Inst} {fst:List (List Col)} {sk:List Int} (hc:ChOk n x fst sk) {s:St} (h:StV n s) (hi:s.ix<n) {c:Col} (hm:c∈nth fst s.ix.toNat) (hy:Yt x s c=true):StV n (Vn n m s c)/\s.ix<(Vn n m s c).ix:=by
 obtain ⟨⟨t0,t1⟩,⟨S,hS,hS2⟩,hb,_⟩:=hc.col _ (by have:=h.ix;omega) c hm;obtain ⟨C,hC,hC2⟩:=h.cov;have ht:=hc.typ.1;have hcnt:=hc.typ.2 c.typ.toNat Za;simp only [Yt,Dt,ZO,Zl] at hy;have hi0:=h.ix;rw [show ((s.ix.toNat:Nat):Int)=s.ix by omega] at hb;exact qI h hi Za Za (by grind) Za Za
theorem Jk {α β:Type} {f g:β->α->β} : ∀ {l:List α} {b:β},(∀a∈l,∀b,f b a=g b a)->l.foldl f b=l.foldl g b
 | [],_,_=>rfl
 | a::l,b,h=>by
  rw [Yp,Yp,h a Zb b];exact Jk fun a ha=>h a (Yv _ ha)
theorem QT {n:Nat} {m:Int} {x:Inst} {fst:List (List Col)} {sk:List Int} (hc:ChOk n x fst sk): ∀(d d':Nat) (s:St),StV n s->(n:Int)-s.ix<d->(n:Int)-s.ix<d'->YU n m x fst sk d s=YU n m x fst sk d' s
 | 0,_,s,h,h1,_=>by have:=h.ix;omega
 | _,0,s,h,_,h1=>by have:=h.ix;omega
 | d+1,d'+1,s,h,h1,h2=>by
  rw [YU,YU]
  split
  ·rfl
  ·rename_i hi
   have e1:(nth fst s.ix.toNat).foldl (fun o c=>if Yt x s c=true then YJ o c.price (YU n m x fst sk d (Vn n m s c)) else o) (-1)=(nth fst s.ix.toNat).foldl (fun o c=>if Yt x s c=true then YJ o c.price (YU n m x fst sk d' (Vn n m s c)) else o) (-1):=Jk fun c hm o=>by
    by_cases hy:Yt x s c=true
    ·obtain ⟨v1,v2⟩:=DX (m:=m) hc h Za hm hy;rw [if_pos hy,if_pos hy,QT hc d d' _ v1 Za Za]
    grind
   obtain ⟨v1,v2⟩:=H5 (m:=m) h Za;rw [QT hc d d' _ v1 Za Za];simp only [e1]
theorem IZ {o p r B:Int} (h1: -1<=o/\o<=B) (h2:0<=p) (h3:p+r<=B): -1<=YJ o p r/\YJ o p r<=B:=by
 grind [YJ]
theorem Gl {α β:Type} {f:β->α->β} {R:β->Prop} : ∀ {l:List α} {b:β},R b->(∀a∈l,∀b,R b->R (f b a))->R (l.foldl f b)
 | [],_,h,_=>h
 | a::l,b,h,hf=>by
  rw [Yp];exact Gl (hf a Zb b h) fun a ha=>hf a (Yv _ ha)
theorem VL {n:Nat} {m:Int} {x:Inst} {fst:List (List Col)} {sk:List Int} (hc:ChOk n x fst sk): ∀(d:Nat) (s:St),StV n s-> -1<=YU n m x fst sk d s/\YU n m x fst sk d s<=(d:Int)*18014398509481984
 | 0,s,h=>by simp [YU]
 | d+1,s,h=>by
  rw [YU]
  split
  ·omega
  ·rename_i hi;have i0:=h.ix
   have e1: -1<=(nth fst s.ix.toNat).foldl (fun o c=>if Yt x s c=true then YJ o c.price (YU n m x fst sk d (Vn n m s c)) else o) (-1)/\(nth fst s.ix.toNat).foldl (fun o c=>if Yt x s c=true then YJ o c.price (YU n m x fst sk d (Vn n m s c)) else o) (-1)<=((d+1:Nat):Int)*18014398509481984:=by
    refine Gl (R:=fun o:Int=> -1<=o/\o<=((d+1:Nat):Int)*18014398509481984) Za fun c hm o ho=> ?_
    split
    ·rename_i hy;obtain ⟨v1,v2⟩:=DX (m:=m) hc h Za hm hy;have:=VL (m:=m) hc d _ v1;have:=(hc.col _ Za c hm).2.2.2;exact IZ ho Za Za
    ·exact ho
   have hs:=hc.skp s.ix.toNat Za;obtain ⟨v1,v2⟩:=H5 (m:=m) h Za;have:=VL (m:=m) hc d _ v1;simp only
   split
   ·exact IZ e1 Za Za
   ·exact e1
def Y2 (l:List Col):PV:= .list false (l.map Yn)
@[go_sem] theorem ZgT (l:List Col):Y2 l= .list false (l.map Yn):=Zh rfl rfl
def RY (c:Col):AM.Obj:= .cells [.p (.int .i64 c.typ),.p (.int .i64 c.set),.p (.int .i64 c.price),.p (.int .i64 c.route.typ),.p (.int .i64 c.route.start),.p (.list c.route.rests_c (c.route.rests.map eB)),.p (.list c.route.visits_c (c.route.visits.map Xc))]
def tU (n:Nat) (m:Int) (x:Inst) (fst:List (List Col)) (sk:List Int) (l:List (St×Int)):Prop:= ∀p∈l,StV n p.1/\p.2=YU n m x fst sk 20 p.1
theorem Zch {P Q:Prop} (h:Q) (e:Q->P:=by intro h;simp (disch:=omega) only [X2,YT,KB,Zu,Zo,ZY,Xk,go_sem,seval];exact h):P:=e h
theorem DC (x:Inst) (fst:List (List Col)) (sk:List Int) (fc sc:Bool) (m:Int) (hn:x.orders.length<=10) (hf:fst.length=x.orders.length) (hs:sk.length=x.orders.length) (hc:ChOk x.orders.length x fst sk) (hcl: ∀r∈fst,r.length<=1048576) :
  ∀(d:Nat) (s:St) (l:List (St×Int)),d<=20->StV x.orders.length s->(x.orders.length:Int)-s.ix<d->tU x.orders.length m x fst sk l ->
   ACalls Tryz.prog 101 [.ptr 1 0,.p (As s)] (X2 x (.list fc (fst.map Y2)) (.list sc (sk.map eI)) m l) fun y H'=> ∃l',tU x.orders.length m x fst sk l'/\y= .p (.int .i64 (YU x.orders.length m x fst sk 20 s))/\H'=X2 x (.list fc (fst.map Y2)) (.list sc (sk.map eI)) m l'
 | 0,s,l,_,hv,hd,_=>by have:=hv.ix;omega
 | d+1,s,l,hd0,hv,hd,hl=>by
  have ih:=DC x fst sk fc sc m hn hf hs hc hcl d;have hlR: ∀p∈l,StR p.1:=fun p hp=>(hl p hp).1.len;obtain ⟨i,v,a0,a1,a2,a3,a4,a5,rfl⟩:=YA hv.len;have hi:=hv.ix;simp only at hi hd;obtain ⟨i,rfl⟩: ∃k:Nat,i=k:=⟨i.toNat,Za⟩;obtain ⟨T,hT⟩: ∃T,T=YU x.orders.length m x fst sk 20 ⟨i,v,[a0,a1,a2,a3,a4,a5]⟩:=⟨_,rfl⟩;rw [<- hT];refine Zf [] Tryz.func101 rfl xC ?_;simp (disch:=omega) only [Tryz.f101,X2,YT,Zu,Zo,go_sem,seval];refine XR ?_;refine Wt ?_;refine cD ?_ ?_<;>intro h1<;>simp (disch:=omega) only [Sh.out h1,go_sem,seval]
  ·rw [YU,if_pos Za] at hT;subst hT;exact ⟨_,_,wk,l,hl,rfl,rfl⟩
  ·refine XR (Wt ?_);refine cE (F2 (k:=(⟨i,v,[a0,a1,a2,a3,a4,a5]⟩:St)) NO hlR hv.len (by rfl)) (Wt ?_)
   cases hq:mq l (⟨i,v,[a0,a1,a2,a3,a4,a5]⟩:St) with
   | some w =>
    obtain ⟨_,hw⟩:=hl _ (Zby hq);simp only at hw;rw [<- hw] at hT;subst hT;simp (disch:=omega) only [JC,Js,go_sem,seval];exact ⟨_,_,wk,l,hl,rfl,rfl⟩
   | none =>
    have hi2:i<fst.length:=Za
    have hi3:i<sk.length:=Za
    have hrl:=hcl _ (ZD hi2);simp (disch:=omega) only [BD,Option.getD_none,go_sem,seval];refine XR (Wt ?_)
    let F:Int->Col->Int:=fun o c=>if Yt x ⟨i,v,[a0,a1,a2,a3,a4,a5]⟩ c=true then YJ o c.price (YU x.orders.length m x fst sk 19 (Vn x.orders.length m ⟨i,v,[a0,a1,a2,a3,a4,a5]⟩ c)) else o
    refine Zk [0,3,7,8,42,43] (fun q:Nat×List (St×Int)=> [(44,.p (.int .i64 q.1))]) (fun q=>X2 x (.list fc (fst.map Y2)) (.list sc (sk.map eI)) m q.2++ [KB ⟨i,v,[a0,a1,a2,a3,a4,a5]⟩,.cells [.p (.int .i64 (((nth fst i).take q.1).foldl F (-1)))]]) (fun q=>q.1<=(nth fst i).length/\tU x.orders.length m x fst sk q.2) (fun q=>(nth fst i).length-q.1) (0,l) ⟨Zb,hl⟩ (Weak.mk ?_) ?_
    ·simp (disch:=omega) only [X2,YT,KB,Zu,Zo,ZY,Xk,WV,Qv,go_sem,seval,↓reduceIte]
    ·rintro ⟨k,l1⟩ ⟨hk,hl1⟩;simp only at hk hl1;have hl1R: ∀p∈l1,StR p.1:=fun p hp=>(hl1 p hp).1.len;generalize hacc:((nth fst i).take k).foldl F (-1)=acc;refine Zch ?_;refine cD ?_ ?_<;>intro h2<;>simp (disch:=omega) only [Sh.out h2,go_sem,seval,↓reduceIte]
     ·have hk2:k<(nth fst i).length:=Za
      have hm:=ZD hk2
      have hs1:((nth fst i).take (k+1)).foldl F (-1)=F acc (nth (nth fst i) k):=by
       grind [Xo,Ze]
      obtain ⟨⟨t0,t1⟩,⟨S,hS,hS2⟩,hb,hp0,hp1⟩:=hc.col i Za _ hm;obtain ⟨C,hC,hC2⟩:=hv.cov;simp only at hC;have h6:=hc.typ.1;obtain ⟨tt,htt⟩: ∃tt:Nat,(nth (nth fst i) k).typ=tt:=⟨(nth (nth fst i) k).typ.toNat,Za⟩;have cw:=jK x (.list fc (fst.map Y2)) (.list sc (sk.map eI)) m l1 ⟨i,v,[a0,a1,a2,a3,a4,a5]⟩ (nth (nth fst i) k) hv.len Zb hn (by grind) C S tt hC hS htt hC2 hS2 Za h6 hv.used
      have hmay:Yt x ⟨i,v,[a0,a1,a2,a3,a4,a5]⟩ (nth (nth fst i) k)=Dt x ⟨i,v,[a0,a1,a2,a3,a4,a5]⟩ tt C S:=by grind [Yt,X6]
      have hwc:Vn x.orders.length m ⟨i,v,[a0,a1,a2,a3,a4,a5]⟩ (nth (nth fst i) k)=Cg x.orders.length m ⟨i,v,[a0,a1,a2,a3,a4,a5]⟩ tt C S:=by grind [Vn]
      by_cases hy:Dt x ⟨i,v,[a0,a1,a2,a3,a4,a5]⟩ tt C S=true
      ·obtain ⟨v1,v2⟩:=DX (m:=m) hc hv (by grind) (by simpa using hm) (by grind);rw [hwc] at v1 v2;obtain ⟨j,w,b0,b1,b2,b3,b4,b5,hw⟩:=YA v1.len;rw [if_pos hy,hw] at cw;refine cw.useP (L:= [_,_,_]) (by rfl) ?_ (by rfl) (by rfl);refine Zdd ?_;refine AO [5] [1,2] [4] 6 mixed Zd Zd Zd Zd Zb (Wt ?_);refine ⟨fun q hq p hp=> ?_,?_⟩
       ·simp only [Xs,Ui,or_false] at hq;rcases hq with rfl | rfl
        ·obtain rfl:10=p:=UO hp;exact Up (by decide)
        ·obtain rfl:57=p:=UO hp;exact Up (by decide)
       ·have c3:=((ih ⟨j,w,[b0,b1,b2,b3,b4,b5]⟩ l1 Za (hw ▸ v1) (by grind) hl1).mono (fun y H' hq=>(⟨hq,by obtain ⟨l',_,_,rfl⟩:=hq;rfl⟩:_/\H'.length=(X2 x (.list fc (fst.map Y2)) (.list sc (sk.map eI)) m l1).length))).front (by rfl) (by rfl) [KB ⟨i,v,[a0,a1,a2,a3,a4,a5]⟩,.cells [.p (.int .i64 acc)],RY (nth (nth fst i) k),KB ⟨j,w,[b0,b1,b2,b3,b4,b5]⟩];refine Gu 5 _ Zd (by refine Wt ?_;exact c3) ?_;rintro y H' ⟨H1,⟨l2,hl2,rfl,rfl⟩,rfl⟩;refine ⟨fun k hk=>by simp at hk;subst hk;rfl,Pu ?_⟩;simp (disch:=omega) only [X2,YT,KB,RY,Zu,Zo,ZY,Xk,go_sem,seval]
        have hrg:=VL (m:=m) hc 20 _ v1;rw [hw] at hrg;have c4:=(((I0 acc (nth (nth fst i) k).price (YU x.orders.length m x fst sk 20 ⟨j,w,[b0,b1,b2,b3,b4,b5]⟩) Za Za).back [.map (l2.map (Lh As)),YT x (.list fc (fst.map Y2)) (.list sc (sk.map eI)) m,KB ⟨i,v,[a0,a1,a2,a3,a4,a5]⟩] (by rfl)).mono (fun y H' hq=>(⟨hq,by grind⟩:_/\H'.length=4))).front (by rfl) (by rfl) [RY (nth (nth fst i) k),KB ⟨j,w,[b0,b1,b2,b3,b4,b5]⟩];refine ACalls.mono c4 ?_;rintro y H' ⟨H1,⟨y1,H2,⟨rfl,rfl⟩,rfl,rfl⟩,rfl⟩;simp (disch:=omega) only [YT,KB,RY,Zu,Zo,ZY,Xk,shO,shVs,shV,go_sem,seval]
        have hF:F acc (nth (nth fst i) k)=YJ acc (nth (nth fst i) k).price (YU x.orders.length m x fst sk 20 ⟨j,w,[b0,b1,b2,b3,b4,b5]⟩):=by
         show (if _ then _ else _)=_
         rw [if_pos (by grind),hwc,QT hc 19 20 _ v1 (by grind) (by grind),hw]
        exact ⟨(k+1,l2),⟨Za,hl2⟩,Za,Weak.mk (by simp (disch:=omega) only [hs1,hF,go_sem,seval])⟩
      ·rw [if_neg hy] at cw;refine cw.useP (L:= [_,_,_]) (by rfl) ?_ (by rfl) (by rfl);refine Zdd ?_;have hF:F acc (nth (nth fst i) k)=acc:=if_neg (by grind);exact ⟨(k+1,l1),⟨Za,hl1⟩,Za,Weak.mk (by simp (disch:=omega) only [hs1,hF,go_sem,seval])⟩
     ·have hkl:k=(nth fst i).length:=Za
      subst hkl;rw [X7] at hacc
      have hTe:T=if 0<=nth sk i then YJ acc (nth sk i) (YU x.orders.length m x fst sk 19 (CL x.orders.length m ⟨i,v,[a0,a1,a2,a3,a4,a5]⟩)) else acc:=by
       rw [hT,show (20:Nat)=19+1 from rfl,YU,if_neg Za,<- hacc]
       rfl
      refine XR (Wt ?_);refine cD ?_ ?_<;>intro h3<;>simp (disch:=omega) only [Sh.out h3,go_sem,seval,↓reduceIte]
      ·have cn:=G4 x (.list fc (fst.map Y2)) (.list sc (sk.map eI)) m l1 ⟨i,v,[a0,a1,a2,a3,a4,a5]⟩ hv.len Zb hn (by grind);obtain ⟨v1,v2⟩:=H5 (m:=m) hv (by grind);obtain ⟨j,w,b0,b1,b2,b3,b4,b5,hw⟩:=YA v1.len;have hsk:=hc.skp i Za;have hrg:=VL (m:=m) hc 20 _ v1;rw [hw] at cn v1 v2 hrg;simp only at v2;refine cn.useP (L:= [_,_]) (by rfl) ?_ (by rfl) (by rfl);refine Zdd ?_;have c3:=((ih ⟨j,w,[b0,b1,b2,b3,b4,b5]⟩ l1 Za v1 (by grind) hl1).mono (fun y H' hq=>(⟨hq,by obtain ⟨l',_,_,rfl⟩:=hq;rfl⟩:_/\H'.length=(X2 x (.list fc (fst.map Y2)) (.list sc (sk.map eI)) m l1).length))).front (by rfl) (by rfl) [KB ⟨i,v,[a0,a1,a2,a3,a4,a5]⟩,.cells [.p (.int .i64 acc)]]
       refine ACalls.mono c3 ?_;rintro y H' ⟨H1,⟨l2,hl2,rfl,rfl⟩,rfl⟩;refine Zch ?_;refine ACalls.mono ((I0 acc (nth sk i) (YU x.orders.length m x fst sk 20 ⟨j,w,[b0,b1,b2,b3,b4,b5]⟩) Za Za).back [.map (l2.map (Lh As)),YT x (.list fc (fst.map Y2)) (.list sc (sk.map eI)) m,KB ⟨i,v,[a0,a1,a2,a3,a4,a5]⟩] (by rfl)) ?_;rintro y H' ⟨y1,H2,⟨rfl,rfl⟩,rfl,rfl⟩;simp (disch:=omega) only [YT,KB,Zu,Zo,ZY,Xk,shO,shVs,shV,go_sem,seval];refine Z4 6 mixed Zd Zd ?_
       refine Wt ?_;refine Ie (l:=l2) (k:=(⟨i,v,[a0,a1,a2,a3,a4,a5]⟩:St)) NO (fun p hp=>(hl2 p hp).1.len) hv.len (by rfl) fun l3 _ hl3=> ?_;simp (disch:=omega) only [Yf,go_sem,seval];rw [if_pos h3,QT hc 19 20 _ (by grind) (by grind) (by grind),hw] at hTe;rw [<- hTe];exact ⟨.p (.int .i64 T),_,wk,l3,fun p hp=>(hl3 p hp).elim (hl2 p) (fun e=>by grind),rfl,rfl⟩
      ·refine Z4 6 mixed Zd Zd (Wt ?_);refine Ie (l:=l1) (k:=(⟨i,v,[a0,a1,a2,a3,a4,a5]⟩:St)) NO hl1R hv.len (by rfl) fun l3 _ hl3=> ?_;simp (disch:=omega) only [Yf,go_sem,seval];rw [if_neg h3] at hTe;rw [<- hTe];exact ⟨.p (.int .i64 T),_,wk,l3,fun p hp=>(hl3 p hp).elim (hl1 p) (fun e=>by grind),rfl,rfl⟩
def Ir (n:Nat) (m:Int) (x:Inst) (fst:List (List Col)) (sk:List Int) (s:St) (c:Col):Bool :=
 Yt x s c&&(decide (0<=YU n m x fst sk 20 (Vn n m s c))&&decide (c.price+YU n m x fst sk 20 (Vn n m s c)=YU n m x fst sk 20 s))
def Yi (n:Nat) (m:Int) (x:Inst) (fst:List (List Col)) (sk:List Int):Nat->St->List Col×List Int
 | 0,_=>([],[])
 | d+1,s=>if (n:Int)<=s.ix then ([],[]) else match (nth fst s.ix.toNat).find? (Ir n m x fst sk s) with
  | some c=>(c::(Yi n m x fst sk d (Vn n m s c)).1,(Yi n m x fst sk d (Vn n m s c)).2)
  | none=>((Yi n m x fst sk d (CL n m s)).1,s.ix::(Yi n m x fst sk d (CL n m s)).2)
theorem Lp {α:Type} [Inhabited α] {p:α->Bool} : ∀ {l:List α} {k:Nat},k<l.length->(∀j,j<k->p (nth l j)=false)->p (nth l k)=true->l.find? p=some (nth l k)
 | [],_,h,_,_=>by simp at h
 | a::l,0,_,_,h=>by
  grind [nth]
 | a::l,k+1,hk,h0,h=>by
  rw [List.find?_cons_of_neg (by rw [show p a=false from h0 0 Za];simp)];exact Lp (l:=l) (k:=k) (by simpa using hk) (fun j hj=>h0 (j+1) Za) h
theorem mR {α:Type} [Inhabited α] {p:α->Bool} {l:List α} (h: ∀j,j<l.length->p (nth l j)=false):l.find? p=none:=by
 rw [Ju];intro a ha;obtain ⟨j,hj,rfl⟩:=ZP.1 ha
 grind [Ze]
theorem ZbM (X:AM.Obj) (hX: ∀H n,DY H n X X) (hX2: ∀o xs,Pf o xs X=X) (x:Inst) (fst:List (List Col)) (sk:List Int) (fc sc:Bool) (m:Int) (hn:x.orders.length<=10) (hf:fst.length=x.orders.length) (hs:sk.length=x.orders.length) (hc:ChOk x.orders.length x fst sk) (hcl: ∀r∈fst,r.length<=1048576)
  (s:St) (l:List (St×Int)) (hv:StV x.orders.length s) (hl:tU x.orders.length m x fst sk l) :
  ACalls Tryz.prog 102 [.ptr 1 0,.p (As s)] (X2 x (.list fc (fst.map Y2)) (.list sc (sk.map eI)) m l++ [X]) fun y H'=> ∃l' A B,tU x.orders.length m x fst sk l'/\(A,B)=Yi x.orders.length m x fst sk 20 s /\
   y= .tup [.sl 4 0 A.length A.length,.p (.list false (B.map eI))]/\H'=X2 x (.list fc (fst.map Y2)) (.list sc (sk.map eI)) m l'++ [X,.cells (List.replicate 8 .junk),.elems 7 (A.map Yn)]:=by
 obtain ⟨i,v,a0,a1,a2,a3,a4,a5,rfl⟩:=YA hv.len;obtain ⟨D,hD⟩: ∃D,D=20:=⟨20,rfl⟩;obtain ⟨R,hR⟩: ∃R,R=Yi x.orders.length m x fst sk D ⟨i,v,[a0,a1,a2,a3,a4,a5]⟩:=⟨_,rfl⟩;rw [<- hD,<- hR];have hi0:=hv.ix;simp only at hi0;refine Zf [20] Tryz.func102 rfl xD ?_;simp (disch:=omega) only [Tryz.f102,ZY,Xk,X2,YT,Zu,Zo,go_sem,seval]
 refine Xe [20] [0,3] (fun q:Nat×St×List (St×Int)×List Col×List Int=> [(6,.sl 4 0 q.2.2.2.1.length q.2.2.2.1.length),(7,.sl 5 0 q.2.2.2.2.length q.2.2.2.2.length)])
  (fun q=>X2 x (.list fc (fst.map Y2)) (.list sc (sk.map eI)) m q.2.2.1++ [X,KB q.2.1,.elems 7 (q.2.2.2.1.map Yn),.elems 1 (q.2.2.2.2.map eI)])
  (fun q=>q.1<=D/\StV x.orders.length q.2.1/\(x.orders.length:Int)-q.2.1.ix<q.1/\tU x.orders.length m x fst sk q.2.2.1/\(q.2.2.2.1.length:Int)<=q.2.1.ix/\(q.2.2.2.2.length:Int)<=q.2.1.ix/\R=(q.2.2.2.1++(Yi x.orders.length m x fst sk q.1 q.2.1).1,q.2.2.2.2++(Yi x.orders.length m x fst sk q.1 q.2.1).2))
  (fun q=>q.1) (D,⟨i,v,[a0,a1,a2,a3,a4,a5]⟩,l,[],[]) ⟨Zb,hv,by grind,hl,by grind,by grind,by rw [hR];rfl⟩
  (Weak.ofNil 6 7 (by simp (disch:=omega) only [go_sem,seval]) Zb (Weak.ofNil 7 1 (by simp (disch:=omega) only [go_sem,seval]) Zb (Weak.mk ?_))) ?_
 ·simp (disch:=omega) only [hX,X2,YT,KB,Zu,Zo,ZY,Xk,Zw,go_sem,seval,↓reduceIte]
 ·rintro ⟨d,s,l1,A,B⟩ ⟨hd1,hsv,hd,hl1,hA,hB,hq⟩;simp only at hd1 hsv hd hl1 hA hB hq;clear hv hR hi0;obtain ⟨i,v,a0,a1,a2,a3,a4,a5,rfl⟩:=YA hsv.len;have hi0:=hsv.ix;simp only at hi0 hd hA hB hq;obtain ⟨i,rfl⟩: ∃k:Nat,i=k:=⟨i.toNat,Za⟩;obtain ⟨d,rfl⟩: ∃k,d=k+1:=⟨d-1,Za⟩;refine Zch ?_;refine XR ?_;refine Wt ?_;refine cD ?_ ?_<;>intro h1<;>simp (disch:=omega) only [Sh.out h1,go_sem,seval,↓reduceIte]
  ·have hi2:i<fst.length:=Za
   have hrl:=hcl _ (ZD hi2);have c3:=((DC x fst sk fc sc m hn hf hs hc hcl 20 ⟨i,v,[a0,a1,a2,a3,a4,a5]⟩ l1 Za hsv (by grind) hl1).mono (fun y H' hq=>(⟨hq,by obtain ⟨l',_,_,rfl⟩:=hq;rfl⟩:_/\H'.length=(X2 x (.list fc (fst.map Y2)) (.list sc (sk.map eI)) m l1).length))).front (by rfl) (by rfl) [X,KB ⟨i,v,[a0,a1,a2,a3,a4,a5]⟩,.elems 7 (A.map Yn),.elems 1 (B.map eI)];refine ACalls.mono c3 ?_;rintro y H' ⟨H1,⟨l2,hl2,rfl,rfl⟩,rfl⟩;clear hl1 c3;obtain ⟨W,hW⟩: ∃W,W=YU x.orders.length m x fst sk 20 ⟨i,v,[a0,a1,a2,a3,a4,a5]⟩:=⟨_,rfl⟩
   rw [<- hW]
   have hWr: -1<=W/\W<=20*18014398509481984:=by rw [hW];exact VL hc 20 _ hsv
   refine Zch ?_;refine XR (Wt ?_);refine Zk [0,3,7,8,34,35] (fun q:Nat×List (St×Int)=> [(6,.sl 4 0 A.length A.length),(9,.p (.bool false)),(36,.p (.int .i64 q.1))]) (fun q=>X2 x (.list fc (fst.map Y2)) (.list sc (sk.map eI)) m q.2++ [X,KB ⟨i,v,[a0,a1,a2,a3,a4,a5]⟩,.elems 7 (A.map Yn),.elems 1 (B.map eI)]) (fun q=>q.1<=(nth fst i).length/\tU x.orders.length m x fst sk q.2/\ ∀j,j<q.1->Ir x.orders.length m x fst sk ⟨i,v,[a0,a1,a2,a3,a4,a5]⟩ (nth (nth fst i) j)=false) (fun q=>(nth fst i).length-q.1) (0,l2) ⟨Zb,hl2,fun j hj=>by simp at hj⟩ (Weak.mk ?_) ?_
   ·simp (disch:=omega) only [hX,X2,YT,KB,Zu,Zo,ZY,Xk,go_sem,seval,↓reduceIte]
   ·rintro ⟨k,l1⟩ ⟨hk,hl1,hno⟩;simp only at hk hl1 hno;refine Zch ?_;refine cD ?_ ?_<;>intro h2<;>simp (disch:=omega) only [Sh.out h2,go_sem,seval,↓reduceIte]
    ·have hk2:k<(nth fst i).length:=Za
     have hm:=ZD hk2;obtain ⟨⟨t0,t1⟩,⟨S,hS,hS2⟩,hb,hp0,hp1⟩:=hc.col i Za _ hm;obtain ⟨C,hC,hC2⟩:=hsv.cov;simp only at hC;have h6:=hc.typ.1;obtain ⟨tt,htt⟩: ∃tt:Nat,(nth (nth fst i) k).typ=tt:=⟨(nth (nth fst i) k).typ.toNat,Za⟩;have cw:=jK x (.list fc (fst.map Y2)) (.list sc (sk.map eI)) m l1 ⟨i,v,[a0,a1,a2,a3,a4,a5]⟩ (nth (nth fst i) k) hsv.len Zb hn (by grind) C S tt hC hS htt hC2 hS2 Za h6 hsv.used
     have hmay:Yt x ⟨i,v,[a0,a1,a2,a3,a4,a5]⟩ (nth (nth fst i) k)=Dt x ⟨i,v,[a0,a1,a2,a3,a4,a5]⟩ tt C S:=by grind [Yt]
     have hwc:Vn x.orders.length m ⟨i,v,[a0,a1,a2,a3,a4,a5]⟩ (nth (nth fst i) k)=Cg x.orders.length m ⟨i,v,[a0,a1,a2,a3,a4,a5]⟩ tt C S:=by grind [Vn]
     have more:Ir x.orders.length m x fst sk ⟨i,v,[a0,a1,a2,a3,a4,a5]⟩ (nth (nth fst i) k)=false-> ∀j,j<k+1->Ir x.orders.length m x fst sk ⟨i,v,[a0,a1,a2,a3,a4,a5]⟩ (nth (nth fst i) j)=false:=fun h j hj=>by
      grind
     by_cases hy:Dt x ⟨i,v,[a0,a1,a2,a3,a4,a5]⟩ tt C S=true
     ·obtain ⟨v1,v2⟩:=DX (m:=m) hc hsv Za (by simpa using hm) (by grind);rw [hwc] at v1 v2;obtain ⟨j,w,b0,b1,b2,b3,b4,b5,hw⟩:=YA v1.len;rw [if_pos hy,hw] at cw;refine cw.useP (L:= [_,_,_,_,_]) (by rfl) ?_ (by rfl) (by rfl);refine Zdd ?_;have c3:=((DC x fst sk fc sc m hn hf hs hc hcl 20 ⟨j,w,[b0,b1,b2,b3,b4,b5]⟩ l1 Za (hw ▸ v1) (by grind) hl1).mono (fun y H' hq=>(⟨hq,by obtain ⟨l',_,_,rfl⟩:=hq;rfl⟩:_/\H'.length=(X2 x (.list fc (fst.map Y2)) (.list sc (sk.map eI)) m l1).length))).front (by rfl) (by rfl) [X,KB ⟨i,v,[a0,a1,a2,a3,a4,a5]⟩,.elems 7 (A.map Yn),.elems 1 (B.map eI),RY (nth (nth fst i) k),KB ⟨j,w,[b0,b1,b2,b3,b4,b5]⟩]
      refine ACalls.mono c3 ?_;rintro y H' ⟨H1,⟨l3,hl3,rfl,rfl⟩,rfl⟩;have hTr:=VL (m:=m) hc 20 _ v1
      have hsel:Ir x.orders.length m x fst sk ⟨i,v,[a0,a1,a2,a3,a4,a5]⟩ (nth (nth fst i) k)=(decide (0<=YU x.orders.length m x fst sk 20 ⟨j,w,[b0,b1,b2,b3,b4,b5]⟩)&&decide ((nth (nth fst i) k).price+YU x.orders.length m x fst sk 20 ⟨j,w,[b0,b1,b2,b3,b4,b5]⟩=W)):=by
       rw [Ir,hmay,hy,hwc,hw,hW,Vg]
      rw [hw] at hTr;generalize YU x.orders.length m x fst sk 20 ⟨j,w,[b0,b1,b2,b3,b4,b5]⟩=T at hTr hsel;simp (disch:=omega) only [X2,YT,KB,RY,Zu,Zo,ZY,Xk,go_sem,seval];refine gT ?_ ?_<;>intro h3<;>simp (disch:=omega) only [Sh.out h3,go_sem,seval,↓reduceIte]
      ·refine cD ?_ ?_<;>intro h4<;>simp (disch:=omega) only [Sh.out h4,go_sem,seval,↓reduceIte]
       ·rw [Yq h3,Yq h4,Vg] at hsel
        have hp:Yi x.orders.length m x fst sk (d+1) ⟨i,v,[a0,a1,a2,a3,a4,a5]⟩=(nth (nth fst i) k::(Yi x.orders.length m x fst sk d ⟨j,w,[b0,b1,b2,b3,b4,b5]⟩).1,(Yi x.orders.length m x fst sk d ⟨j,w,[b0,b1,b2,b3,b4,b5]⟩).2):=by
         rw [Yi,if_neg (by grind)];simp only [X6,Lp hk2 hno hsel,hwc,hw]
        rw [hw] at v1 v2;simp only at v2;rw [hp] at hq;exact ⟨(d,⟨j,w,[b0,b1,b2,b3,b4,b5]⟩,l3,A++ [nth (nth fst i) k],B),⟨Za,v1,by grind,hl3,by grind,by grind,by grind⟩,Za,Weak.mk (by simp (disch:=omega) only [hX,Zu,Zo,X0,Zn,ZH,Zw,XJ,go_sem,seval])⟩
       ·rw [WU h4,DH] at hsel;exact ⟨(k+1,l3),⟨Za,hl3,more hsel⟩,Za,Weak.mk (by simp (disch:=omega) only [hX,go_sem,seval])⟩
      ·rw [WU h3,U4] at hsel;exact ⟨(k+1,l3),⟨Za,hl3,more hsel⟩,Za,Weak.mk (by simp (disch:=omega) only [hX,go_sem,seval])⟩
     ·rw [if_neg hy] at cw;refine cw.useP (L:= [_,_,_,_,_]) (by rfl) ?_ (by rfl) (by rfl);refine Zdd ?_;exact ⟨(k+1,l1),⟨Za,hl1,more (by rw [Ir,hmay,Bool.eq_false_iff.2 hy,U4])⟩,Za,Weak.mk (by simp (disch:=omega) only [hX,go_sem,seval])⟩
    ·have hkl:k=(nth fst i).length:=Za
     subst hkl
     have hp:Yi x.orders.length m x fst sk (d+1) ⟨i,v,[a0,a1,a2,a3,a4,a5]⟩=((Yi x.orders.length m x fst sk d (CL x.orders.length m ⟨i,v,[a0,a1,a2,a3,a4,a5]⟩)).1,(i:Int)::(Yi x.orders.length m x fst sk d (CL x.orders.length m ⟨i,v,[a0,a1,a2,a3,a4,a5]⟩)).2):=by
      simp_all [Yi,mR]
     rw [hp] at hq;have cn:=G4 x (.list fc (fst.map Y2)) (.list sc (sk.map eI)) m l1 ⟨i,v,[a0,a1,a2,a3,a4,a5]⟩ hsv.len Zb hn (by grind);obtain ⟨v1,v2⟩:=H5 (m:=m) hsv Za;obtain ⟨j,w,b0,b1,b2,b3,b4,b5,hw⟩:=YA v1.len;rw [hw] at cn v1 v2 hq;simp only at v2;refine cn.useP (L:= [_,_,_,_,_]) (by rfl) ?_ (by rfl) (by rfl);refine Zdd ?_;exact ⟨(d,⟨j,w,[b0,b1,b2,b3,b4,b5]⟩,l1,A,B++ [(i:Int)]),⟨Za,v1,by grind,hl1,by grind,by grind,by grind⟩,Za,Weak.mk (by simp (disch:=omega) only [hX,Zu,Zo,X0,Zn,ZH,Zw,XJ,go_sem,seval])⟩
  ·rw [Yi,if_pos (by grind)] at hq;simp only [Qu] at hq;subst hq;refine Zs (Weak.fz (o:=5) (by rfl)) (Zg [] _ _ _ _ (AE ?_));exact ⟨.tup [.sl 4 0 A.length A.length,.p (.list false (B.map eI))],_,Weak.mk (by simp (disch:=omega) only [hX,hX2,go_sem,seval]),l1,A,B,hl1,rfl,rfl,rfl⟩
def dD (a:List Int) (i:Nat):Nat->Bool
 | 0=>true
 | k+1=>dD a i k&&decide (nth a k≠nth a i)
theorem Ly {a:List Int} {i:Nat} : ∀k,dD a i k=true↔ ∀t,t<k->nth a t≠nth a i
 | 0=>by simp [dD]
 | k+1=>by
  rw [dD,ZO,Ly k,Zl]
  grind
def NH (a:List Int) (i:Nat):Bool:=dD a i i
theorem Bv {a:List Int} {i:Nat} :NH a i=true↔ ∀t,t<i->nth a t≠nth a i:=Ly i
def Dw (l:List Col) (a:List Int) (T:Int) (i:Nat):Bool:=decide (0<=nth a i)&&(decide ((nth l (nth a i).toNat).typ=T)&&NH a i)
def usdI (l:List Col) (a:List Int) (T:Int):Nat->Nat
 | 0=>0
 | i+1=>usdI l a T i+(if Dw l a T i=true then 1 else 0)
def Kz (S:Nat) (a:List Int) (j:Int):List Int:=(List.range a.length).map fun i=>if S.testBit i=true then j else nth a i
theorem QY {S:Nat} {a:List Int} {j:Int} :(Kz S a j).length=a.length:=by simp [Kz]
theorem Xt {S:Nat} {a:List Int} {j:Int} {i:Nat} (h:i<a.length):nth (Kz S a j) i=if S.testBit i=true then j else nth a i:=by
 grind [Kz,Ze]
def okA (S:Nat) (a:List Int) (k:Nat):Bool:=(List.range a.length).all fun i=> !S.testBit i||(decide (nth a i<0)&&decide (k<=i))
theorem BR {S:Nat} {a:List Int} {k:Nat} :okA S a k=true↔ ∀i,i<a.length->S.testBit i=true->nth a i<0/\k<=i:=by
 simp only [okA,Zv,ZQ,Wg,Xq,ZO,Zl]
 grind
def Ei (x:Inst) (l:List Col) (a:List Int) (j k:Nat):Bool :=
 (nth l j).set.toNat.testBit k&&(decide ((usdI l a (nth l j).typ a.length:Int)<(nth x.types (nth l j).typ.toNat).count)&&okA (nth l j).set.toNat a k)
def skR (x:Inst) (k:Nat):Int:=(XE (XD x k).1).1
def Db (x:Inst) (l:List Col):Nat->List Int->Int->List (List Int×Int)
 | 0,a,p=> [(a,p)]
 | d+1,a,p=>if (nth x.orders (x.orders.length-(d+1))).off=true\/0<=nth a (x.orders.length-(d+1)) then Db x l d a p else
  ((List.range l.length).flatMap fun j=>if Ei x l a j (x.orders.length-(d+1))=true then Db x l d (Kz (nth l j).set.toNat a j) (p+(nth l j).price) else []) ++
   (if 0<=(nth x.orders (x.orders.length-(d+1))).penalty then Db x l d a (p+skR x (x.orders.length-(d+1))) else [])
structure Chc where
 found:Bool
 places:List Int
 price:Int
 deriving Inhabited
def AQ (l:List Col):List Int->List Int->Option Bool
 | x::a,y::b=>if x=y then AQ l a b else if x<0\/y<0 then some (decide (0<=x)) else if (nth l x.toNat).typ≠(nth l y.toNat).typ then some (decide ((nth l x.toNat).typ<(nth l y.toNat).typ)) else
   if (nth l x.toNat).set≠(nth l y.toNat).set then some (decide ((nth l x.toNat).set<(nth l y.toNat).set)) else AQ l a b
 | _,_=>none
def No : List Int->List Int->Bool
 | x::a,y::b=>if x=y then No a b else decide (x<y)
 | _,_=>false
def Hs (l:List Col) (a b:List Int):Bool:=match AQ l a b with
 | some r=>r
 | none=>No a b
theorem aG {l:List Col} :AQ l [] []=none:=by simp [AQ]
theorem RF {l:List Col} {a b:List Int} {r:Bool} (h:AQ l a b=some r):Hs l a b=r:=by rw [Hs,h]
theorem RE {l:List Col} {a b:List Int} (h:AQ l a b=none):Hs l a b=No a b:=by rw [Hs,h]
def MO (l:List Col) (b:Chc) (q:List Int×Int):Chc:=if b.found=false\/q.2<b.price\/(q.2=b.price/\Hs l q.1 b.places=true) then ⟨true,q.1,q.2⟩ else b
def RngA (x:Inst) (l:List Col) (a:List Int):Prop:=a.length=x.orders.length/\ ∀i,i<x.orders.length-> -1<=nth a i/\nth a i<l.length
theorem iN {x:Inst} {l:List Col} {a:List Int} {S j:Nat} (h:RngA x l a) (hj:j<l.length):RngA x l (Kz S a j) :=
 ⟨by rw [QY];exact h.1,fun i hi=>by
  rw [Xt (by rw [h.1];exact hi)]
  split
  ·omega
  ·exact h.2 i hi⟩
theorem DK {x:Inst} {l:List Col} : ∀(d:Nat) {a:List Int} {p:Int},RngA x l a-> ∀q∈Db x l d a p,RngA x l q.1
 | 0,a,p,h,q,hq=>by
  simp_all [Db]
 | d+1,a,p,h,q,hq=>by
  rw [Db] at hq
  split at hq
  ·exact DK d h q hq
  ·rw [XI,YN] at hq;rcases hq with ⟨j,hj,hq⟩ | hq
   ·split at hq
    ·exact DK d (iN h (ZQ.1 hj)) q hq
    ·simp at hq
   ·split at hq
    ·exact DK d h q hq
    ·simp at hq
def OX (x b:Inst) (p:Pln) (k:Nat):List Ord:=Qz (fun j=>if j<k then Cu x b p j else FI x j) x.orders.length
section
variable {x b : Inst} {p : Pln} {k : Nat}
theorem OY : (OX x b p k).length=x.orders.length:=WM
theorem bS : OX x b p 0=Qz (FI x) x.orders.length:=JH fun j _=>by rfl
theorem mE : OX x b p x.orders.length=Qz (Cu x b p) x.orders.length:=JH fun j hj=>by grind
theorem mF (h:k<x.orders.length):nth (OX x b p k) k=FI x k:=by simp_all [OX,Kw]
theorem mG : (OX x b p k).set k (Cu x b p k)=OX x b p (k+1):=by
 rw [OX,Mj];refine JH fun i _=> ?_
 grind
theorem bR (hk:k<x.orders.length) (h:Cu x b p k=FI x k):OX x b p (k+1)=OX x b p k:=JH fun i _=>by
 grind
end
theorem lT (x b:Inst) (p:Pln) (hxo:x.orders.length<=1048576) (hxt:x.types.length<=1048576) (hbo:b.orders.length<=4) (hbt:b.types.length<=1048576) (hr:p.routes.length<=1048576) (hv: ∀r∈p.routes,r.visits.length<=1048576) :
  ACalls Tryz.prog 36 [.p (ZG x),.p (ZG b),.p (Ue p)] [] fun y H'=>y=crT x b p/\H'= []:=by
 have zI:ZG tR= .agg [.list true [],.list true [],.list true [],.list true [],.list true [],.list true []]:=rfl;have ck:=Sx b p hbo hbt hr hv;refine Zf [14] Tryz.func36 rfl Zhk ?_;simp (disch:=omega) only [Tryz.f36,go_sem,seval];refine cD ?_ ?_<;>intro h1<;>simp (disch:=omega) only [Sh.out h1,go_sem,seval,↓reduceIte]
 ·have hE:TC x b p=2:=by rw [TC,if_neg Za]
  rw [crT,hE,if_neg Za,zI];exact we
 ·have hE:TC x b p=Jo b p:=by rw [TC,if_pos Za]
  by_cases h0:Jo b p=0
  ·rw [HR,if_pos h0] at ck;rw [crT,hE,if_pos h0,h0];refine Dx ck (Wt ?_);refine ACalls.mono ((Pe x hxo).behind (by rfl) [Zj x,Zj b,X8 p,.cells (List.replicate 6 (.p (.list true [])))]) ?_;rintro y H' ⟨y1,H1,⟨rfl,rfl⟩,rfl,rfl⟩;rw [<- bS (x:=x) (b:=b) (p:=p)];have hl0:=OY (x:=x) (b:=b) (p:=p) (k:=0);simp (disch:=first | omega | (simp only [ZH,Zw,Zn,Zx,ZC,ZK]<;>omega)) only [shV,shVs,shO,FL,Zj,X8,List.replicate,Zu,Zo,ZY,Xk,hl0,eq_self,BB,go_sem,seval,↓reduceIte]
   refine Xe [14] [4,6,8,10,35,36] (fun k:Nat=> [(37,.p (.int .i64 k))]) (fun k=> [Zj x,Zj b,X8 p,.cells (List.replicate 6 (.p (.list true []))),.cells (FL x 6 x.orders.length),.cells (FL x 6 x.orders.length),.elems 16 ((OX x b p k).map eOrd),.cells (FL x 6 x.orders.length)]) (fun k=>k<=x.orders.length) (fun k=>x.orders.length-k) 0 Zb (Weak.mk ?_) ?_
   ·simp (disch:=omega) only [Zj,X8,List.replicate,FL,go_sem,seval]
   ·intro k hk;have hrl:=OY (x:=x) (b:=b) (p:=p) (k:=k);simp (disch:=first | omega | (simp only [ZH,Zw,Zn,Zx,ZC,ZK]<;>omega)) only [Zj,X8,List.replicate,FL,eq_self,go_sem,seval];refine cD ?_ ?_<;>intro h2<;>simp (disch:=omega) only [Sh.out h2,go_sem,seval,↓reduceIte]
    ·have hk2:k<x.orders.length:=Za
     have hnk:=mF (b:=b) (p:=p) hk2
     have he:QC ((OX x b p k).map eOrd) k=eOrd (FI x k):=by grind [Wq]
     have ZE:((OX x b p k).map eOrd).set k (eOrd (Cu x b p k))=(OX x b p (k+1)).map eOrd:=by rw [<- Uh,mG]
     have hsame:=bR (b:=b) (p:=p) hk2;have hnm:(FI x k).name=(nth x.orders k).name:=rfl;have hrg:=Lu (l:=b.orders) (s:=(nth x.orders k).name);have hkl:=LJ (x:=b) (p:=p);have cf:=qG b (nth x.orders k).name Za;simp (disch:=first | omega | (simp only [ZH,Zw,Zn,Zx,ZC,ZK]<;>omega)) only [he,hrl,hk2,eq_self,go_sem,seval,↓reduceIte];refine (cf).use (Wt ?_);generalize hF:CA b.orders (nth x.orders k).name=F at hrg
     have hcar:Cu x b p k=if 0<=F/\0<=nth (FM b p) F.toNat then { FI x k with last:=nth (FM b p) F.toNat } else FI x k:=by rw [Cu,hF]
     refine J6 ?_ ?_<;>intro h3
     ·refine ZN ?_ ?_<;>intro h4
      ·rw [if_pos ⟨h3,h4⟩] at hcar;rw [hcar] at ZE;simp only [HJ,FI] at ZE;refine Z4 9 mixed Zd Zd (Wt ?_);simp (disch:=first | omega | (simp only [ZH,Zw,Zn,Zx,ZC,ZK]<;>omega)) only [hrl,hnk,eq_self,BB,go_sem,seval];exact ⟨k+1,Za,Za,Weak.mk (by simp (disch:=omega) only [FI,ZE,go_sem,seval])⟩
      ·rw [if_neg (fun h=>h4 h.2)] at hcar;exact ⟨k+1,Za,Za,Weak.mk (by simp (disch:=omega) only [hsame hcar,go_sem,seval])⟩
     ·rw [if_neg (fun h=>h3 h.1)] at hcar;exact ⟨k+1,Za,Za,Weak.mk (by simp (disch:=omega) only [hsame hcar,go_sem,seval])⟩
    ·have hkl:k=x.orders.length:=Za
     subst hkl;rw [mE];have hrt:=WM (f:=Cu x b p) (n:=x.orders.length);refine Zs (Weak.fz (o:=6) (by rfl)) ?_;refine Zg [] _ _ _ _ ?_;simp (disch:=omega) only [Zu,Zo,Xr,Yf,hrt,eq_self,go_sem,seval];exact we (by simp (disch:=omega) only [bO,go_sem,seval])
  ·rw [HR,if_neg h0] at ck;rw [crT,hE,if_neg h0,zI];refine Dx ck (Wt ?_);refine cD ?_ ?_<;>intro h2<;>simp (disch:=omega) only [Sh.out h2,go_sem,seval,↓reduceIte]
   ·exact we
   ·omega
end Go.Proofs.YtiigdaohjanidaaGreatDoor.K
