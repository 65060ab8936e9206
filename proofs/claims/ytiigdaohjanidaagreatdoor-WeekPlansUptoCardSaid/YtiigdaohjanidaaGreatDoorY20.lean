/- Declarations that the closing texts need, part 20: joined by tools/slim.py. -/
import Derived.Test.YtiigdaohjanidaaGreatDoorY19
set_option linter.unusedVariables false
set_option linter.unusedSimpArgs false
namespace Go.Proofs.YtiigdaohjanidaaGreatDoor.K
open Go Go.AM Go.Proofs
set_option maxRecDepth 8000
set_option maxHeartbeats 8000000
def lJ : PV:= .agg [.list true [],.list true [],.list true [],.list true [],.list true [],.list true [],.str [],.int .i64 0,.int .i64 0,.int .i64 0,.list true [],.int .i64 0,.int .i64 0,.int .i64 0,.int .i64 0,.int .i64 0,.int .i64 0,.int .i64 0,.int .i64 0,.int .i64 0,.int .i64 0,.int .i64 0,.list true [],.list true [],.list true []]
theorem nB (x:Inst) (r:Rte) (hty:0<=r.typ/\r.typ<(x.types.length:Int)) (htl:x.types.length<=1048576) (hvl:r.visits.length<=20) (hs: ¬(0<=r.start/\r.start<=4096)) :
  PT 269 [.p (Zs x),.p (YJ r)] [.p lJ,.p (.bool false)]:=by
 have e1: ¬r.typ<0:=Za
 have e2: ¬(x.types.length:Int)<=r.typ:=Za
 refine Ze [] Tryz.func269 rfl cS ?_;simp (disch:=omega) only [Tryz.f269,e1,e2,go_sem,seval];refine gF ?_ ?_<;>intro h1<;>simp (disch:=omega) only [Sh.out h1,go_sem,seval,↓reduceIte]
 ·exact we (by simp (disch:=omega) only [lJ,go_sem,seval])
 ·refine gF ?_ ?_<;>intro h2<;>simp (disch:=omega) only [Sh.out h2,go_sem,seval,↓reduceIte]
  ·exact we (by simp (disch:=omega) only [lJ,go_sem,seval])
  ·omega
theorem L6 {x t sp} : ∀(bs:List Bool) (k:Nat) (L:Lab),¬(XG x t sp k L bs).2=0->(XG x t sp k L bs).1=Wn
 | [],k,L,h=>by simp [XG] at h
 | b::bs,k,L,h=>by
  rw [XG] at h ⊢
  split
  ·rename_i c;rw [if_pos c] at h;exact L6 bs (k+1) _ h
  ·rfl
theorem RN (n:Nat):List.replicate n false∈Y3 (List.replicate n false):=by
 rw [fromB_next];simp
theorem bT {l:List Lab} (h:Vn Wb none l=none):l= []:=by
 cases l with
 | nil=>rfl
 | cons a l =>
  obtain ⟨z,hz,_⟩:=QF (fin:=Wb) l a;have:Vn Wb none (a::l)=Vn Wb (some a) l:=rfl
  grind
theorem Rq {x t sp} {st:Int} {r:List Bool} (h:Vn Wb none ((YZ r (sp.length+1)).filterMap (Vm (XJ x t sp) 0 (labF t st)))=none): ¬(XG x t sp 0 (labF t st) (Y6 r (sp.length+1))).2=0:=fun h0=>by
 have h1:=bT h;have h2:Y6 r (sp.length+1)∈YZ r (sp.length+1):=Xz.2 ⟨_,RN _,rfl⟩
 simp_all [VS]
theorem M7 {x t sp} {st:Int} {r:List Bool} (hr:r.length<=sp.length+1) (h:Vn Wb none (JH Z9 (XJ x t sp) (V8 r) (sp.length+1) 0 [labF t st])=none): ¬(XG x t sp 0 (labF t st) (Y6 r (sp.length+1))).2=0 :=
 Rq (by rw [Ge,Ve,FY r _ hr] at h;exact h)
def QB (x:Inst) (r:Rte):She×Int:=if 0<=r.start/\r.start<=4096/\r.rests.length<=r.visits.length+1 then XB x r else (zShe,2)
theorem T8 {x t sp} {ch:Nat->List Bool} {k:Nat} {l:List Lab} (hok:TrpOk x t sp) (hs:0<sp.length) (hk:k<=sp.length) (h: ∀L∈l,LabO sp.length k L): ∀L∈XT Z9 [] (WV (XJ x t sp) ch k l),LabO sp.length (k+1) L:=fun L hL=>by
 have h1:=K5 Z9 _ _ L hL;rw [ZR] at h1;obtain ⟨a,ha,hb⟩:=Yk.1 h1
 grind [XJ,Gc]
theorem CA : ∀(c out:List Lab),(XT Z9 out c).length<=out.length+c.length
 | [],out=>by simp [XT]
 | x::c,out=>by
  rw [XT]
  split
  ·have:=CA c out;simp;omega
  ·have:=CA c (out++ [x]);simp at this ⊢;omega
theorem FQ {x t sp} {r:List Bool} {k:Nat} : ∀l:List Lab,(WV (XJ x t sp) (V8 r) k l).length<=2*l.length
 | []=>by simp [WV]
 | a::l=>by
  have ih:=FQ (x:=x) (t:=t) (sp:=sp) (r:=r) (k:=k) l;have h1:(WV (XJ x t sp) (V8 r) k (a::l))=(V8 r k).filterMap (XJ x t sp k a)++WV (XJ x t sp) (V8 r) k l:=rfl
  grind [V8]
theorem mW (x:Inst) (r:Rte) (hx:InstOk x) (hl:r.visits.length<=1048576) (hrl:r.rests.length<=1048576) (hty:0<=r.typ/\r.typ<(x.types.length:Int)) (h0:Xm x r.visits=0) :
  PT 221 [.p (Zs x),.p (YJ r)] [.p (D2 (QB x r).1),.p (.int .i64 (QB x r).2)]:=by
 have hd:=UZ hx;have hsq:=U9 h0;have hol:=hd.ord;have htl:=hd.typ;have hvl:=hsq.len hol;have hok:=BY hx hty hsq;have hsl:(Z8 x r.visits).length=r.visits.length:=Yu
 have hs1:0<(Z8 x r.visits).length:=by
  rw [hsl];have:=hsq.ne
  grind
 refine Ze [6,13,14] Tryz.func221 rfl yD ?_;simp (disch:=omega) only [Tryz.f221,go_sem,seval]
 by_cases hs:0<=r.start/\r.start<=4096
 ·refine X0 (Zbo x r hx hty h0 hs) (Yv ?_);refine cD ?_ ?_<;>intro h1<;>simp (disch:=omega) only [Sh.out h1,go_sem,seval,↓reduceIte]
  ·have e:QB x r=(zShe,2):=by rw [QB,if_neg Za]
   rw [e];exact we (by simp (disch:=omega) only [zShe,Zk,go_sem,seval])
  ·have hrs:r.rests.length<=r.visits.length+1:=Za
   have e:QB x r=XB x r:=by simp_all [QB]
   have hbn:= @M7 x (Z0 x r) (Z8 x r.visits) r.start r.rests Za;rw [e,XB,Hg Za];refine (FP x (Z0 x r) r false (Z8 x r.visits)).use (Yv ?_)
   generalize hT:Z0 x r=t at *
   generalize hS:Z8 x r.visits=sp at *
   refine Zp (Weak.fz (o:=4) (by rfl)) ?_;refine Zf [13,14] _ _ _ _ (Yv ?_)
   refine ZS [13,14] [3,4,6,8,38] (fun q:Nat×List Lab=> [(9,.p (.list false (q.2.map Ja))),(39,.p (.int .i64 q.1))]) (fun _=> [Zg x,Z5 r,.cells [.p (.bool false),.p (.int .i64 0),.p (.list true []),.p (.int .i64 0),.p (.int .i64 0)],YQ x t r false sp,.dead])
    (fun q=>q.1<=sp.length+1/\JH Z9 (XJ x t sp) (V8 r.rests) (sp.length+1) 0 [labF t r.start]=JH Z9 (XJ x t sp) (V8 r.rests) (sp.length+1-q.1) q.1 q.2/\(∀L∈q.2,LabO sp.length q.1 L)/\q.2.length<=2^q.1) (fun q=>sp.length+1-q.1) (0,[labF t r.start]) ⟨Zb,Zb,fun L hL=>by grind [Gd],Zb⟩ (Weak.mk ?_) ?_
   ·simp (disch:=omega) only [Zg,Z5,YQ,ZN,Zk,X2,Xj,go_sem,seval]
   ·rintro ⟨k,l⟩ ⟨hk,hit,hlo,hll⟩;simp only at hk hit hlo hll;simp (disch:=omega) only [Zg,Z5,YQ,go_sem,seval];refine cD ?_ ?_<;>intro h2<;>simp (disch:=omega) only [Sh.out h2,go_sem,seval,↓reduceIte]
    ·have hk2:k<=sp.length:=Za
     have hp20:2^k<=2^20:=Yi Za Za;refine (vF x t r false sp hok hs1 k hk2 hrl l false Za hlo).use (Yv ?_)
     have hn:JH Z9 (XJ x t sp) (V8 r.rests) (sp.length+1-k) k l=JH Z9 (XJ x t sp) (V8 r.rests) (sp.length+1-(k+1)) (k+1) (XT Z9 [] (WV (XJ x t sp) (V8 r.rests) k l)):=by
      have e:sp.length+1-k=(sp.length+1-(k+1))+1:=Za
      rw [e,JH]
     have hln:=CA (WV (XJ x t sp) (V8 r.rests) k l) [];have hln2:=FQ (x:=x) (t:=t) (sp:=sp) (r:=r.rests) (k:=k) l;exact ⟨(k+1,XT Z9 [] (WV (XJ x t sp) (V8 r.rests) k l)),⟨Za,hit.trans hn,T8 hok hs1 hk2 hlo,by grind⟩,Za,Weak.mk (by simp (disch:=omega) only [X2,Xj,go_sem,seval])⟩
    ·have hkn:k=sp.length+1:=Za
     subst hkn;rw [Nat.sub_self,JH] at hit;rw [hit] at hbn ⊢;clear hit;refine cD ?_ ?_<;>intro h3<;>simp (disch:=omega) only [Sh.out h3,go_sem,seval,↓reduceIte]
     ·have hl0:l= []:=Xe Za;subst hl0;have hbn:=hbn rfl;refine UU (Dm 3 rfl rfl (Yv ?_));refine ⟨_,_,LP (e:=4) rfl Tryz.underlying46 Zd rfl rfl rfl ?_ ?_ ?_,?_⟩
      ·simp
      ·simp;omega
      ·intro q hq;obtain ⟨b,_,rfl⟩:=Xz.1 hq
       rfl
      ·have hpl:(Y6 r.rests (sp.length+1)).length=sp.length+1:=by simp [Y6];omega
       have hpad:r.rests.map eB++(PV.bool false::List.replicate r.visits.length (PV.bool false)).drop (r.rests.map eB).length=(Y6 r.rests (sp.length+1)).map eB:=by
        rw [Y6,Xi,<- Jh,List.drop_replicate,Bp,hsl,Zu];rfl
       have hcr:=Zh8 x t r false sp hok hs1 hs (Y6 r.rests (sp.length+1)) false hpl;have hbad:=L6 _ _ _ hbn;rw [hbad] at hcr;simp only [X2,Xj];rw [hpad]
       generalize hRP:Y6 r.rests (sp.length+1)=rp at *
       refine Zp (Weak.fz (o:=5) (by rfl)) (Zf [] _ _ _ _ (Kw ?_));rw [if_pos Za];refine X0 hcr (Yv ?_);have hfm0:Vn Wb none ([]:List Lab)=none:=rfl;rw [hfm0];exact we (by simp (disch:=omega) only [Wn,zShe,Zk,go_sem,seval])
     ·cases l with
      | nil=>simp at h3
      | cons l0 l =>
       have e0:UW ((l0::l).map Ja) 0=Ja l0:=rfl;have hn0:nth (l0::l) 0=l0:=rfl;simp (disch:=first | omega | (simp only [Zz,ZQ,Zm,Zu,Zy,ZK]<;>omega)) only [hn0,UB,go_sem,seval];have hfm:Vn Wb none (l0::l)=Vn Wb (some l0) l:=rfl;rw [hfm]
       have hlen:l.length<=2097152:=by
        have hp20:2^(sp.length+1)<=2^21:=Yi Za Za
        grind
       refine Zj [4,12,65,66] (fun q:Nat×Lab=> [(67,.p (.int .i64 q.1))]) (fun q=> [Zg x,Z5 r,.cells [.p (.bool false),.p (.int .i64 0),.p (.list true []),.p (.int .i64 0),.p (.int .i64 0)],YQ x t r false sp,.dead,Wq q.2])
        (fun q=>q.1<=l.length/\Vn Wb (some l0) l=Vn Wb (some q.2) (l.drop q.1)) (fun q=>l.length-q.1) (0,l0) Zb (Weak.mk ?_) ?_
       ·simp (disch:=omega) only [Zg,Z5,YQ,Wq,go_sem,seval]
       ·rintro ⟨i,m⟩ ⟨hi,hm⟩;simp only at hi hm;simp (disch:=omega) only [Zg,Z5,YQ,Wq,go_sem,seval];refine cD ?_ ?_<;>intro h4<;>simp (disch:=omega) only [Sh.out h4,go_sem,seval,↓reduceIte]
        ·have hi2:i<l.length:=Za
         have hdrop:l.drop i=nth l i::l.drop (i+1):=by rw [Wc hi2,Zi hi2]
         rw [hdrop,Vn] at hm;refine ZH ?_ ?_<;>intro h5
         ·rw [if_pos (show Wb (nth l i)<Wb m from h5)] at hm;exact ⟨(i+1,nth l i),⟨Za,hm⟩,Za,wk⟩
         ·rw [if_neg (show ¬Wb (nth l i)<Wb m from h5)] at hm;exact ⟨(i+1,m),⟨Za,hm⟩,Za,wk⟩
        ·have hil:i=l.length:=Za
         subst hil;rw [V1,Vn] at hm;rw [hm];exact we
 ·have e:QB x r=(zShe,2):=by rw [QB,if_neg (fun h=>hs ⟨h.1,h.2.1⟩)]
  rw [e];refine X0 (nB x r hty htl hvl hs) ?_;simp (disch:=omega) only [lJ,go_sem,seval];exact we (by simp (disch:=omega) only [zShe,Zk,go_sem,seval])
end Go.Proofs.YtiigdaohjanidaaGreatDoor.K
namespace Go.AM
open Go.RowKit
theorem dN (k v:Int) (l:List (Int×Int)): ∃l',dM (.int .i64 k) (.int .i64 v) (l.map eII)=l'.map eII/\(∀q,Kf l' q=if q=k then v else Kf l q)/\l'.length<=l.length+1:=by
 unfold dM;rw [Cr]
 cases hm:Gm l k with
 | none =>
  refine ⟨l++ [(k,v)],by simp [eII],fun q=> ?_,Zb⟩
  have e1:Gm (l++ [(k,v)]) k=some l.length:=by
   grind [Gm]
  by_cases hq:q=k
  ·grind [Kf]
  ·rw [if_neg hq];unfold Kf
   have e3:Gm (l++ [(k,v)]) q=Gm l q:=by
    grind [Gm]
   rw [e3]
   cases hc:Gm l q with
   | none=>rfl
   | some i =>
    unfold Gm at hc
    grind [VY]
 | some i =>
  refine ⟨l.set i (k,v),by simp_all [eII],?_,Zb⟩;have hH:oat [.map (l.map eII)] 0= .map (l.map eII):=rfl;have:=NC (H:= [.map (l.map eII)]) (o:=0) (l:=l) (k:=k) (i:=i) (v:=v) (K:=fun _ _=> ∀q,Kf (l.set i (k,v)) q=if q=k then v else Kf l q) hH hm fun h=>h;unfold KC at this;obtain ⟨u,q1,_⟩:=Et hm
  simp_all [As]
theorem dO {P:Program} {H:List Obj} {t:TypeId} {o:Nat} {l:List (Int×Int)} {k v:Int} {K:V->List Obj->Prop} (hT:dH P t=some (.int .i64,some (.int .i64 0))) (hH:oat H o= .map (l.map eII))
  (h: ∀l':List (Int×Int),(∀q,Kf l' q=if q=k then v else Kf l q)->K .junk (H.set o (.map (l'.map eII)))):As (CO P H t (.mp o) (.p (.int .i64 k)) (.p (.int .i64 v))) K:=by
 obtain ⟨kt,et,h1,h2,h3⟩:=LD hT;obtain ⟨l',e,hg,_⟩:=dN k v l
 grind [CO,Gg,As]
end Go.AM
namespace Go.Proofs.YtiigdaohjanidaaGreatDoor.K
open Go Go.AM Go.Proofs
set_option maxRecDepth 8000
set_option maxHeartbeats 8000000
def D1 (l:List Vis) (k:Nat) (q:Int):Int:=((l.take k).countP fun v=>decide (v.order=q):Nat)
theorem RD {l:List Vis} {k:Nat} (h:k<l.length) (q:Int):D1 l (k+1) q=if q=(nth l k).order then D1 l k q+1 else D1 l k q:=by
 unfold D1;rw [ZE h,List.countP_append,Zi h]
 grind
theorem aO {l:List Vis} {k:Nat} (h:k<=l.length) (q:Int):0<=D1 l k q/\D1 l k q<=k:=by
 grind [D1,Zy]
theorem Nh {l:List Vis} {k:Nat} :Ux l k=decide (D1 l k (nth l k).order=0):=by
 unfold Ux D1;rw [Wu];simp
theorem AH (a b:Int):PC 273 [.p (.int .i64 a),.p (.int .i64 b)] (.bool (Xh a b)):=by
 refine Zc Tryz.func273 rfl zT ?_;simp (disch:=omega) only [Tryz.f273,go_sem,seval];refine gT ?_ ?_<;>intro h<;>simp (disch:=omega) only [Sh.out h,go_sem,seval,↓reduceIte]
 ·simp [Xh,h]
 simp_all [Xh]
theorem eU (x:Inst) (r:Rte) (s:She) (hty:0<=r.typ/\r.typ<(x.types.length:Int)) (ho:x.orders.length<=1048576) (ht:x.types.length<=1048576) (hl:r.visits.length<=1048576) (hv:Inr x r.visits)
  (hc:0<=(Z0 x r).fixed/\(Z0 x r).fixed<=100000/\0<=(Z0 x r).perMile/\(Z0 x r).perMile<=100/\0<=(Z0 x r).perTick/\(Z0 x r).perTick<=100) (ho2:0<=(Z0 x r).opn/\(Z0 x r).opn<=4096)
  (hf: -4096<=s.fin/\s.fin<=8192) (hm:0<=s.miles/\s.miles<=1000000) :
  PC 222 [.p (Zs x),.p (YJ r),.p (D2 s)] (Df (Mf x r s)):=by
 have hti:r.typ.toNat<x.types.length:=Za
 have hT:dH Tryz.prog 334=some (.int .i64,some (.int .i64 0)):=Zd
 unfold Mf;have htd:nth x.types r.typ.toNat=Z0 x r:=rfl
 generalize Z0 x r=t at *
 have e1: ¬r.typ<0:=Za
 have e2: ¬(x.types.length:Int)<=r.typ:=Za
 have p1:0<=t.perMile*s.miles/\t.perMile*s.miles<=100*1000000:=⟨Jl Za Za,Qq Za Za Za Za⟩
 have hW: -8192<=s.fin-t.opn/\s.fin-t.opn<=8192:=Za
 have p2: -819200<=t.perTick*(s.fin-t.opn)/\t.perTick*(s.fin-t.opn)<=819200:=by
  generalize s.fin-t.opn=w at hW;have a1:=Cn hW.2 (show 0<=t.perTick by omega);have a2:=Cn hW.1 (show 0<=t.perTick by omega);omega
 have p3: -128<=(s.fin-t.opn).tdiv 64/\(s.fin-t.opn).tdiv 64<=128:=by
  grind
 have p4:0<=(s.fin-t.opn).tdiv 64*(s.fin-t.opn).tdiv 64/\(s.fin-t.opn).tdiv 64*(s.fin-t.opn).tdiv 64<=16384:=by
  generalize (s.fin-t.opn).tdiv 64=q at p3;refine ⟨?_,?_⟩
  ·rcases KV 0 q with h | h
   ·exact Jl h h
   ·exact Int.mul_nonneg_of_nonpos_of_nonpos h h
  ·rcases KV 0 q with h | h
   ·have:=Qq p3.2 p3.2 h Za;omega
   ·have h2:0<= -q:=Za
    have:=Qq (show-q<=128 by omega) (show-q<=128 by omega) h2 Za
    grind
 refine Zc Tryz.func222 rfl yE ?_;simp (disch:=omega) only [Tryz.f222,e1,e2,htd,go_sem,seval]
 refine Zj [3,4,6,10,11,59,60] (fun q:Nat×List (Int×Int)=> [(61,.p (.int .i64 q.1))]) (fun q=> [Zg x,Z5 r,.cells [.p (.bool s.rest),.p (.int .i64 s.dep),.p (.list s.times_c (s.times.map eTim)),.p (.int .i64 s.fin),.p (.int .i64 s.miles)],BS 0 0 0 0,XV t,BS (t.fixed+t.perMile*s.miles+t.perTick*(s.fin-t.opn)) (chgF x r.visits r.typ q.1).1 (chgF x r.visits r.typ q.1).2 ((s.fin-t.opn).tdiv 64*(s.fin-t.opn).tdiv 64),.map (q.2.map eII)])
  (fun q=>q.1<=r.visits.length/\ ∀n,Kf q.2 n=D1 r.visits q.1 n) (fun q=>r.visits.length-q.1) (0,[]) ⟨Zb,fun n=>rfl⟩ (Weak.mk ?_) ?_
 ·simp (disch:=omega) only [Zg,Z5,XV,BS,chgF,go_sem,seval]
 ·rintro ⟨k,m⟩ ⟨hk,hmg⟩;simp only at hk hmg;have hch:=A5 (x:=x) (l:=r.visits) (t:=r.typ) k;simp (disch:=omega) only [Zg,Z5,XV,BS,go_sem,seval];refine cD ?_ ?_<;>intro h1<;>simp (disch:=omega) only [Sh.out h1,go_sem,seval,↓reduceIte]
  ·have hk2:k<r.visits.length:=Za
   obtain ⟨v1,v2⟩:=hv _ (Zq hk2)
   have e3: ¬(nth r.visits k).order<0:=Za
   have e4: ¬(x.orders.length:Int)<=(nth r.visits k).order:=Za
   have v3:(nth r.visits k).order.toNat<x.orders.length:=Za
   have hcs:=RD hk2;have hcr:=aO hk (nth r.visits k).order;have hfi:=Nh (l:=r.visits) (k:=k);have hch2:chgF x r.visits r.typ (k+1)=_:=chgF.eq_2 x r.visits r.typ k;refine LA hT rfl ?_;rw [hmg];refine Yv ?_;refine dO hT rfl fun m' hm'=> ?_
   have hmg': ∀n,Kf m' n=D1 r.visits (k+1) n:=fun n=>by grind
   simp (disch:=omega) only [e3,e4,X2,Xj,go_sem,seval];refine LA hT rfl ?_;rw [hm',if_pos rfl];refine Yv ?_;refine ZH ?_ ?_<;>intro h2
   ·have h3: ¬Ux r.visits k=true:=by grind
    rw [if_neg h3] at hch2;exact ⟨(k+1,m'),⟨Za,hmg'⟩,Za,Weak.mk (by simp (disch:=omega) only [hch2,go_sem,seval])⟩
   ·have h3:Ux r.visits k=true:=by grind
    rw [if_pos h3] at hch2;refine (AH (nth x.orders (nth r.visits k).order.toNat).now r.typ).use (Yv ?_);refine cD ?_ ?_<;>intro h4<;>simp (disch:=omega) only [Sh.out h4,go_sem,seval,↓reduceIte]
    ·rw [if_pos h4] at hch2;refine (AH (nth x.orders (nth r.visits k).order.toNat).last r.typ).use (Yv ?_);refine ZH ?_ ?_<;>intro h5
     ·rw [if_pos h5] at hch2;exact ⟨(k+1,m'),⟨Za,hmg'⟩,Za,Weak.mk (by simp (disch:=omega) only [hch2,go_sem,seval])⟩
     ·rw [if_neg (by rw [h5];simp)] at hch2;exact ⟨(k+1,m'),⟨Za,hmg'⟩,Za,Weak.mk (by simp (disch:=omega) only [hch2,V3,go_sem,seval])⟩
    ·rw [if_neg (by rw [h4];simp)] at hch2;refine (AH (nth x.orders (nth r.visits k).order.toNat).last r.typ).use (Yv ?_);refine ZH ?_ ?_<;>intro h5
     ·rw [if_pos h5] at hch2;exact ⟨(k+1,m'),⟨Za,hmg'⟩,Za,Weak.mk (by simp (disch:=omega) only [hch2,V3,go_sem,seval])⟩
     ·rw [if_neg (by rw [h5];simp)] at hch2;exact ⟨(k+1,m'),⟨Za,hmg'⟩,Za,Weak.mk (by simp (disch:=omega) only [hch2,V3,go_sem,seval])⟩
  grind
end Go.Proofs.YtiigdaohjanidaaGreatDoor.K
namespace Go.Proofs.YtiigdaohjanidaaGreatDoor.K
open Go Go.AM Go.Proofs
set_option maxRecDepth 8000
set_option maxHeartbeats 8000000
@[go_sem] theorem ZcZ {f:FuncId} :(PV.fn f).cells= [.fn f]:=Zw rfl rfl
def ZbA : AM.Obj:= .cells [.p (.bool false),.p (.int .i64 0),.p (.list true []),.p (.int .i64 0),.p (.int .i64 0)]
theorem Nk (x:Inst) (r:Rte) (hx:InstOk x) (hl:r.visits.length<=1048576) (hrl:r.rests.length<=1048576):ACalls Tryz.prog 164 [.p (Zs x),.p (YJ r)] [] fun y H'=>y=A8 x r/\H'= []:=by
 have hld:=UZ hx;have htl:=hld.typ;have hol:=hld.ord;have chk:=eV x r hx hl
 have htb:x.types.length<=6:=by have:=hx.types.1;simp only [rng,Zl] at this;omega
 refine Ze [] Tryz.func164 rfl wZ ?_;simp (disch:=omega) only [Tryz.f164,go_sem,seval];refine gF ?_ ?_<;>intro h1<;>simp (disch:=omega) only [Sh.out h1,go_sem,seval,↓reduceIte]
 ·have e:Yd x r=2:=by rw [Yd,if_pos Za]
  rw [Yl (e:=2) (by rw [XI,e];rfl) Za];exact we (by simp (disch:=omega) only [zShe,zSco,Zk,go_sem,seval])
 ·refine cD ?_ ?_<;>intro h2<;>simp (disch:=omega) only [Sh.out h2,go_sem,seval,↓reduceIte]
  ·have e:Yd x r=2:=by simp_all [Yd]
   rw [Yl (e:=2) (by rw [XI,e];rfl) Za];exact we (by simp (disch:=omega) only [zShe,zSco,Zk,go_sem,seval])
  ·have hty:0<=r.typ/\r.typ<(x.types.length:Int):=Za
   have hti:r.typ.toNat<x.types.length:=Za
   have hnum:=UO hx hti;have htyp:nth x.types r.typ.toNat=Z0 x r:=rfl;rw [htyp] at hnum
   have hsk: ∀o∈x.orders,o.skills<9223372036854775808:=fun o hm=>by
    obtain ⟨i,hi,rfl⟩:=ZD.1 hm;have:=(hx.orders.2 i hi).skills
    grind [Zi]
   refine Zj [2,3,4,5,25,26] (fun k:Nat=> [(27,.p (.int .i64 k))]) (fun _=> [Zg x,Z5 r,ZbA,BS 0 0 0 0,.elems 1 [.fn 218,.fn 219,.fn 220]])
    (fun k=>k<=3/\(0<k->Xm x r.visits=0)/\(1<k-> ¬(r.visits.any fun v=> !Wz (Z0 x r) (nth x.orders v.order.toNat).skills)=true)/\(2<k->U3 x (Z0 x r).cap r.visits=true)) (fun k=>3-k) 0 ⟨Za,Za,Za,Za⟩ (Weak.mk ?_) ?_
   ·simp (disch:=omega) only [Zg,Z5,BS,ZbA,go_sem,seval]
   ·rintro k ⟨hk,k1,k2,k3⟩;simp (disch:=omega) only [Zg,Z5,BS,ZbA,go_sem,seval];refine cD ?_ ?_<;>intro h3<;>simp (disch:=omega) only [Sh.out h3,go_sem,seval,↓reduceIte]
    ·by_cases hk0:k=0
     ·subst hk0;have he:UW [PV.fn 218,PV.fn 219,PV.fn 220] 0=PV.fn 218:=rfl;simp (disch:=first | omega | (simp only [Zz,ZQ,Zm,Zu,Zy,ZK]<;>omega)) only [he,go_sem,seval,↓reduceIte];refine (chk).use (Yv ?_);refine ZH ?_ ?_<;>intro h4
      ·have e:Yd x r=Xm x r.visits:=by simp_all [Yd]
       rw [Yl (e:=Xm x r.visits) (by simp_all [XI]) h4];exact we (by simp (disch:=omega) only [zShe,zSco,Zk,go_sem,seval])
      ·exact ⟨1,⟨Za,fun _=>Za,Za,Za⟩,Za,wk⟩
     ·have h0:=k1 Za;have hsq:=U9 h0
      have hr0:Yd x r=if (r.visits.any fun v=> !Wz (Z0 x r) (nth x.orders v.order.toNat).skills)=true then 18 else if U3 x (Z0 x r).cap r.visits=false then 17 else if ¬(0<=r.start/\r.start<=4096/\r.rests.length<=r.visits.length+1) then 2 else 0:=by
       rw [Yd,if_neg (fun h=>h hty),if_neg Za]
      by_cases hk1:k=1
      ·subst hk1;have he:UW [PV.fn 218,PV.fn 219,PV.fn 220] 1=PV.fn 219:=rfl;simp (disch:=first | omega | (simp only [Zz,ZQ,Zm,Zu,Zy,ZK]<;>omega)) only [he,go_sem,seval,↓reduceIte];refine (eT x r hty (fun v hv=>by have:=hsq.inr v hv;grind [Ls]) hl htl Za Za hsk).use (Yv ?_)
       by_cases h5:(r.visits.any fun v=> !Wz (Z0 x r) (nth x.orders v.order.toNat).skills)=true
       ·rw [if_pos h5] at hr0 ⊢;rw [Yl (e:=18) (by rw [XI,hr0];rfl) Za];refine Yv ?_;exact we (by simp (disch:=omega) only [zShe,zSco,Zk,go_sem,seval])
       ·rw [if_neg h5];refine Yv ?_;exact ⟨2,⟨Za,fun _=>h0,fun _=>h5,Za⟩,Za,wk⟩
      ·have hk2:k=2:=Za
       subst hk2;have he:UW [PV.fn 218,PV.fn 219,PV.fn 220] 2=PV.fn 220:=rfl;simp (disch:=first | omega | (simp only [Zz,ZQ,Zm,Zu,Zy,ZK]<;>omega)) only [he,go_sem,seval,↓reduceIte];refine (eM x r hx hl hty h0).use (Yv ?_);rw [if_neg (k2 Za)] at hr0
       cases h5:U3 x (Z0 x r).cap r.visits with
       | false =>
        rw [if_pos h5] at hr0;rw [Yl (e:=17) (by rw [XI,hr0];rfl) Za];simp only [Yj,Ys];refine Yv ?_;exact we (by simp (disch:=omega) only [zShe,zSco,Zk,go_sem,seval])
       | true =>
        simp only [if_true];refine Yv ?_;exact ⟨3,⟨Za,fun _=>h0,fun _=>k2 Za,fun _=>Zb⟩,Za,wk⟩
    ·have hk3:k=3:=Za
     subst hk3;have h0:=k1 Za;have hsq:=U9 h0
     have hr0:Yd x r=if ¬(0<=r.start/\r.start<=4096/\r.rests.length<=r.visits.length+1) then 2 else 0:=by
      rw [Yd,if_neg (fun h=>h hty),if_neg Za,if_neg (k2 Za),if_neg (by grind)]
     have cb:=mW x r hx hl hrl hty h0;have hok:=BY hx hty hsq
     have hbr:QB x r=XB x r->(XB x r).2=0->(0<=r.start/\r.start<=4096/\r.rests.length<=r.visits.length+1)->(0<=(XB x r).1.fin/\(XB x r).1.fin<=8192)/\(0<=(XB x r).1.miles/\(XB x r).1.miles<=210000):=fun _ hz hs =>
      DX hok ⟨hs.1,hs.2.1⟩ (by grind [Yu]) hz
     by_cases h6:0<=r.start/\r.start<=4096/\r.rests.length<=r.visits.length+1
     ·have e:Yd x r=0:=Za
      have ee:XI x r=(XB x r).2:=by rw [XI,if_pos e]
      have eb:QB x r=XB x r:=by rw [QB,if_pos h6]
      have hbr:=fun hz=>hbr eb hz h6;rw [eb] at cb
      have es:Uw x r=if (XB x r).2=0 then (XB x r).1 else zShe:=by rw [Uw,ee]
      have ep:J6 x r=if (XB x r).2=0 then Mf x r (XB x r).1 else zSco:=by rw [J6,ee]
      unfold A8;rw [ee,es,ep];clear ee es ep eb
      generalize XB x r=q at *
      obtain ⟨sh,eb⟩:=q;simp only at cb hbr ⊢;refine X0 cb (Yv ?_);refine cD ?_ ?_<;>intro h7<;>simp (disch:=omega) only [Sh.out h7,go_sem,seval,↓reduceIte]
      ·exact we (by simp (disch:=omega) only [zShe,zSco,Zk,go_sem,seval])
      ·have h7':eb=0:=Za
       try rw [if_pos h7',if_pos h7']
       subst h7';obtain ⟨g1,g2⟩:=hbr rfl;refine Z1 5 mixed Zd Zd (Yv ?_);refine Zo (eU x r sh hty Za htl hl hsq.inr hnum.2.2.2.1 Za Za Za) (Yv ?_);exact we
     ·have e:Yd x r=2:=Za
      have eb:QB x r=(zShe,2):=by rw [QB,if_neg h6]
      rw [Yl (e:=2) (by rw [XI,e];rfl) Za];rw [eb] at cb;refine X0 cb (Yv ?_);exact we (by simp (disch:=omega) only [zShe,zSco,Zk,go_sem,seval])
theorem D5 {x:Inst} {r:Rte} (h:XI x r=0):Yd x r=0:=by
 grind [XI]
theorem GE {x:Inst} {r:Rte} (h:Yd x r=0):(0<=r.typ/\r.typ<(x.types.length:Int))/\Xm x r.visits=0/\(0<=r.start/\r.start<=4096/\r.rests.length<=r.visits.length+1):=by
 unfold Yd at h;omega
theorem bE {x:Inst} {r:Rte} (hx:InstOk x) (h:XI x r=0):(0<=(Uw x r).fin/\(Uw x r).fin<=8192)/\(0<=(Uw x r).miles/\(Uw x r).miles<=210000):=by
 obtain ⟨hty,h0,hs⟩:=GE (D5 h)
 have e:Uw x r=(XB x r).1:=by rw [Uw,if_pos h]
 have ee:(XB x r).2=0:=by rw [XI,if_pos (D5 h)] at h;exact h
 rw [e];exact DX (BY hx hty (U9 h0)) ⟨hs.1,hs.2.1⟩ (by grind [Yu]) ee
theorem KB {P:Program} {e:TypeId} {k:Nat} {cs:List PV} {kk:IntKind} {n:Int} {x:PV} (h0:0<=n) (h1:n<k) (hx:apart P e cs n.toNat=some x) (ht:Yw P e=some 1):Iu P (some (.array k e)) (.p (.agg cs)) (.p (.int kk n))=some (.p x):=by
 simp_all [Iu]
def Zf8 (s:Sco):PV:= .agg [.int .i64 s.cost,.int .i64 s.moved,.int .i64 s.other,.int .i64 s.work]
@[go_sem] theorem ZjC (s:Sco):Zf8 s= .agg [.int .i64 s.cost,.int .i64 s.moved,.int .i64 s.other,.int .i64 s.work]:=Zw rfl rfl
theorem eW (s:Sco):PC 198 [.p (Df s)] (Zf8 s):=by
 refine Ze [] Tryz.func198 rfl xU ?_;simp (disch:=omega) only [Tryz.f198,go_sem,seval];exact we
def scoR (B:Int) (s:Sco):Prop:=(-B<=s.cost/\s.cost<=B)/\(-B<=s.moved/\s.moved<=B)/\(-B<=s.other/\s.other<=B)/\(-B<=s.work/\s.work<=B)
def jR (s:Sco):AM.Obj:= .cells [.p (.int .i64 s.cost),.p (.int .i64 s.moved),.p (.int .i64 s.other),.p (.int .i64 s.work)]
def Wm (s:Sco):Int×Int:=if s.cost<0\/s.moved<0\/s.other<0\/s.work<0 then (0,2) else if 1073741824<s.cost\/16<=s.moved\/16<=s.other\/65536<=s.work then (0,4) else (((s.cost*16+s.moved)*16+s.other)*65536+s.work,0)
theorem Gt (s:Sco) (hs:scoR 1152921504606846976 s):PT 152 [.p (Df s)] [.p (.int .i64 (Wm s).1),.p (.int .i64 (Wm s).2)]:=by
 obtain ⟨a1,a2,a3,a4⟩:=hs;refine Ze [] Tryz.func152 rfl wS ?_;simp (disch:=omega) only [Tryz.f152,go_sem,seval];refine (eW s).use (Yv ?_);refine Zj [1,9] (fun k:Nat=> [(10,.p (.int .i64 k))]) (fun _=> [jR s,jR s]) (fun k=>k<=4/\(0<k->0<=s.cost)/\(1<k->0<=s.moved)/\(2<k->0<=s.other)/\(3<k->0<=s.work)) (fun k=>4-k) 0 ⟨Za,Za,Za,Za,Za⟩ (Weak.mk ?_) ?_
 ·simp (disch:=omega) only [jR,go_sem,seval]
 ·rintro k ⟨hk,k1,k2,k3,k4⟩;simp (disch:=omega) only [jR,go_sem,seval];refine cD ?_ ?_<;>intro h1<;>simp (disch:=omega) only [Sh.out h1,go_sem,seval,↓reduceIte]
  ·have:k=0\/k=1\/k=2\/k=3:=Za
   rcases this with rfl | rfl | rfl | rfl
   ·rw [KB (x:= .int .i64 s.cost) Za Za (by rfl) Zd];refine Yv ?_;refine ZH ?_ ?_<;>intro h2
    ·have e:Wm s=(0,2):=by simp_all [Wm]
     rw [e];exact we
    ·exact ⟨1,⟨Za,fun _=>Za,Za,Za,Za⟩,Za,wk⟩
   ·rw [KB (x:= .int .i64 s.moved) Za Za (by rfl) Zd];refine Yv ?_;refine ZH ?_ ?_<;>intro h2
    ·have e:Wm s=(0,2):=by simp_all [Wm]
     rw [e];exact we
    ·exact ⟨2,⟨Za,fun _=>k1 Za,fun _=>Za,Za,Za⟩,Za,wk⟩
   ·rw [KB (x:= .int .i64 s.other) Za Za (by rfl) Zd];refine Yv ?_;refine ZH ?_ ?_<;>intro h2
    ·have e:Wm s=(0,2):=by simp_all [Wm]
     rw [e];exact we
    ·exact ⟨3,⟨Za,fun _=>k1 Za,fun _=>k2 Za,fun _=>Za,Za⟩,Za,wk⟩
   ·rw [KB (x:= .int .i64 s.work) Za Za (by rfl) Zd];refine Yv ?_;refine ZH ?_ ?_<;>intro h2
    ·have e:Wm s=(0,2):=by simp_all [Wm]
     rw [e];exact we
    ·exact ⟨4,⟨Za,fun _=>k1 Za,fun _=>k2 Za,fun _=>k3 Za,fun _=>Za⟩,Za,wk⟩
  ·have hk4:k=4:=Za
   subst hk4;have g1:=k1 Za;have g2:=k2 Za;have g3:=k3 Za;have g4:=k4 Za
   have n1: ¬(s.cost<0\/s.moved<0\/s.other<0\/s.work<0):=Za
   have bad:(1073741824<s.cost\/16<=s.moved\/16<=s.other\/65536<=s.work)->Wm s=(0,4):=fun h=>by simp_all [Wm]
   refine gF ?_ ?_<;>intro h2<;>simp (disch:=omega) only [Sh.out h2,go_sem,seval,↓reduceIte]
   ·rw [bad Za];exact we
   ·refine gF ?_ ?_<;>intro h3<;>simp (disch:=omega) only [Sh.out h3,go_sem,seval,↓reduceIte]
    ·rw [bad Za];exact we
    ·refine gF ?_ ?_<;>intro h4<;>simp (disch:=omega) only [Sh.out h4,go_sem,seval,↓reduceIte]
     ·rw [bad Za];exact we
     ·refine cD ?_ ?_<;>intro h5<;>simp (disch:=omega) only [Sh.out h5,go_sem,seval,↓reduceIte]
      ·rw [bad Za];exact we
      ·have e:Wm s=(((s.cost*16+s.moved)*16+s.other)*65536+s.work,0):=by simp_all [Wm,if_neg]
       rw [e];exact we
def unsF (x:Inst) (i:Int):Sco×Int :=
 if i<0\/(x.orders.length:Int)<=i then (zSco,2)
 else if (nth x.orders i.toNat).off=true then (zSco,9)
 else if (nth x.orders i.toNat).penalty= -1 then (zSco,23)
 else (⟨(nth x.orders i.toNat).penalty,if (nth x.orders i.toNat).now= -1 then 0 else 1,0,0⟩,0)
theorem LV (x:Inst) (i:Int) (ho:x.orders.length<=1048576):PT 151 [.p (Zs x),.p (.int .i64 i)] [.p (Df (unsF x i).1),.p (.int .i64 (unsF x i).2)]:=by
 refine Ze [] Tryz.func151 rfl wR ?_;simp (disch:=omega) only [Tryz.f151,go_sem,seval];refine gF ?_ ?_<;>intro h1<;>simp (disch:=omega) only [Sh.out h1,go_sem,seval,↓reduceIte]
 ·have e:unsF x i=(zSco,2):=by simp_all [unsF]
  rw [e];exact we (by simp (disch:=omega) only [zSco,go_sem,seval])
 ·refine cD ?_ ?_<;>intro h2<;>simp (disch:=omega) only [Sh.out h2,go_sem,seval,↓reduceIte]
  ·have e:unsF x i=(zSco,2):=by simp_all [unsF]
   rw [e];exact we (by simp (disch:=omega) only [zSco,go_sem,seval])
  ·have hi:i.toNat<x.orders.length:=Za
   have n1: ¬(i<0\/(x.orders.length:Int)<=i):=Za
   refine cD ?_ ?_<;>intro h3<;>simp (disch:=omega) only [Sh.out h3,go_sem,seval,↓reduceIte]
   ·have e:unsF x i=(zSco,9):=by simp_all [unsF]
    rw [e];exact we (by simp (disch:=omega) only [zSco,go_sem,seval])
   ·have h3': ¬(nth x.orders i.toNat).off=true:=by rw [h3];simp
    refine cD ?_ ?_<;>intro h4<;>simp (disch:=omega) only [Sh.out h4,go_sem,seval,↓reduceIte]
    ·have e:unsF x i=(zSco,23):=by simp_all [unsF]
     rw [e];exact we (by simp (disch:=omega) only [zSco,go_sem,seval])
    ·refine cD ?_ ?_<;>intro h5<;>simp (disch:=omega) only [Sh.out h5,go_sem,seval,↓reduceIte]
     ·have e:unsF x i=(⟨(nth x.orders i.toNat).penalty,1,0,0⟩,0):=by simp_all [unsF]
      rw [e];exact we
     ·have h5':(nth x.orders i.toNat).now= -1:=Za
      have e:unsF x i=(⟨(nth x.orders i.toNat).penalty,0,0,0⟩,0):=by simp_all [unsF]
      rw [e];exact we
theorem Ih (x:Inst) (i:Int) (ho:x.orders.length<=1048576):PT 50 [.p (Zs x),.p (.int .i64 i)] [.p (Df (unsF x i).1),.p (.int .i64 (unsF x i).2)]:=by
 refine Ze [] Tryz.func50 rfl Zg9 ?_;simp (disch:=omega) only [Tryz.f50,go_sem,seval];refine gF ?_ ?_<;>intro h1<;>simp (disch:=omega) only [Sh.out h1,go_sem,seval,↓reduceIte]
 ·have e:unsF x i=(zSco,2):=by simp_all [unsF]
  rw [e];exact we (by simp (disch:=omega) only [zSco,go_sem,seval])
 ·refine cD ?_ ?_<;>intro h2<;>simp (disch:=omega) only [Sh.out h2,go_sem,seval,↓reduceIte]
  ·have e:unsF x i=(zSco,2):=by simp_all [unsF]
   rw [e];exact we (by simp (disch:=omega) only [zSco,go_sem,seval])
  ·have hi:i.toNat<x.orders.length:=Za
   have n1: ¬(i<0\/(x.orders.length:Int)<=i):=Za
   refine cD ?_ ?_<;>intro h3<;>simp (disch:=omega) only [Sh.out h3,go_sem,seval,↓reduceIte]
   ·have e:unsF x i=(zSco,9):=by simp_all [unsF]
    rw [e];exact we (by simp (disch:=omega) only [zSco,go_sem,seval])
   ·have h3': ¬(nth x.orders i.toNat).off=true:=by rw [h3];simp
    refine cD ?_ ?_<;>intro h4<;>simp (disch:=omega) only [Sh.out h4,go_sem,seval,↓reduceIte]
    ·have e:unsF x i=(zSco,23):=by simp_all [unsF]
     rw [e];exact we (by simp (disch:=omega) only [zSco,go_sem,seval])
    ·refine cD ?_ ?_<;>intro h5<;>simp (disch:=omega) only [Sh.out h5,go_sem,seval,↓reduceIte]
     ·have e:unsF x i=(⟨(nth x.orders i.toNat).penalty,1,0,0⟩,0):=by simp_all [unsF]
      rw [e];exact we
     ·have h5':(nth x.orders i.toNat).now= -1:=Za
      have e:unsF x i=(⟨(nth x.orders i.toNat).penalty,0,0,0⟩,0):=by simp_all [unsF]
      rw [e];exact we
def Vz (s:Sco):Bool:=decide (0<=s.cost)&&decide (s.cost<=1073741824)&&decide (0<=s.moved)&&decide (s.moved<=15)&&decide (0<=s.other)&&decide (s.other<=15)&&decide (0<=s.work)&&decide (s.work<=65535)
theorem SF (s:Sco):PC 123 [.p (Df s)] (.bool (Vz s)):=by
 refine Zc Tryz.func123 rfl vT ?_;simp (disch:=omega) only [Tryz.f123,go_sem,seval];refine gT ?_ ?_<;>intro h1<;>simp (disch:=omega) only [Sh.out h1,go_sem,seval,↓reduceIte]
 ·refine gT ?_ ?_<;>intro h2<;>simp (disch:=omega) only [Sh.out h2,go_sem,seval,↓reduceIte]
  ·refine gT ?_ ?_<;>intro h3<;>simp (disch:=omega) only [Sh.out h3,go_sem,seval,↓reduceIte]
   ·refine gT ?_ ?_<;>intro h4<;>simp (disch:=omega) only [Sh.out h4,go_sem,seval,↓reduceIte]
    ·refine gT ?_ ?_<;>intro h5<;>simp (disch:=omega) only [Sh.out h5,go_sem,seval,↓reduceIte]
     ·refine gT ?_ ?_<;>intro h6<;>simp (disch:=omega) only [Sh.out h6,go_sem,seval,↓reduceIte]
      ·refine gT ?_ ?_<;>intro h7<;>simp (disch:=omega) only [Sh.out h7,go_sem,seval,↓reduceIte]
       ·grind [Vz]
       grind [Vz]
      grind [Vz]
     grind [Vz]
    grind [Vz]
   grind [Vz]
  grind [Vz]
 ·simp [Vz,h1]
theorem E6 (s:Sco) (hs:scoR 1152921504606846976 s):PT 74 [.p (Df s)] [.p (.int .i64 (Wm s).1),.p (.int .i64 (Wm s).2)]:=by
 obtain ⟨a1,a2,a3,a4⟩:=hs
 have bad:(s.cost<0\/s.moved<0\/s.other<0\/s.work<0)->Wm s=(0,2):=fun h=>by rw [Wm,if_pos h]
 refine Ze [] Tryz.func74 rfl Zhg ?_;simp (disch:=omega) only [Tryz.f74,go_sem,seval];refine gF ?_ ?_<;>intro h1<;>simp (disch:=omega) only [Sh.out h1,go_sem,seval,↓reduceIte]
 ·rw [bad Za];exact we
 ·refine gF ?_ ?_<;>intro h2<;>simp (disch:=omega) only [Sh.out h2,go_sem,seval,↓reduceIte]
  ·rw [bad Za];exact we
  ·refine gF ?_ ?_<;>intro h3<;>simp (disch:=omega) only [Sh.out h3,go_sem,seval,↓reduceIte]
   ·rw [bad Za];exact we
   ·refine cD ?_ ?_<;>intro h4<;>simp (disch:=omega) only [Sh.out h4,go_sem,seval,↓reduceIte]
    ·rw [bad Za];exact we
    ·have n1: ¬(s.cost<0\/s.moved<0\/s.other<0\/s.work<0):=Za
     refine (SF s).use (Yv ?_);refine cD ?_ ?_<;>intro h5<;>simp (disch:=omega) only [Sh.out h5,go_sem,seval,↓reduceIte]
     ·have e:Wm s=(0,4):=by
       have h6: ¬Vz s=true:=by grind
       rw [Wm,if_neg n1,if_pos];refine Ka fun h7=>h6 ?_;simp [Vz];omega
      rw [e];exact we
     ·have h6:Vz s=true:=by grind
      simp [Vz] at h6
      have e:Wm s=(((s.cost*16+s.moved)*16+s.other)*65536+s.work,0):=by rw [Wm,if_neg n1,if_neg Za]
      rw [e];refine Yv ?_;exact we
theorem MA {x:Inst} (hx:InstOk x) (i:Int):scoR 1073741824 (unsF x i).1:=by
 unfold unsF
 split
 ·simp [scoR,zSco]
 ·split
  ·simp [scoR,zSco]
  ·split
   ·simp [scoR,zSco]
   ·have ha:=(hx.orders.2 i.toNat Za).arg;simp only [argOk,rng,ZG,Zl] at ha
    grind [scoR]
theorem K8 {a:Sco} {B C:Int} (h:B<=C) (ha:scoR B a):scoR C a:=by
 grind [scoR]
theorem FX {x:Inst} {r:Rte} (hx:InstOk x) (hl:r.visits.length<=1048576) (h:XI x r=0):scoR 1073741824 (J6 x r):=by
 have hg:=bE hx h;obtain ⟨hty,_,_⟩:=GE (D5 h);have hnum:=UO hx (show r.typ.toNat<x.types.length by omega);have htyp:nth x.types r.typ.toNat=Z0 x r:=rfl;rw [htyp] at hnum
 have e:(XB x r).1=Uw x r:=by rw [Uw,if_pos h]
 have hch:=A5 (x:=x) (l:=r.visits) (t:=r.typ) r.visits.length;rw [J6,if_pos h,e];unfold Mf scoR
 generalize Uw x r=s at *
 generalize Z0 x r=t at *
 have p1:0<=t.perMile*s.miles/\t.perMile*s.miles<=100*210000:=⟨Jl Za Za,Qq Za Za Za Za⟩
 have hW: -8192<=s.fin-t.opn/\s.fin-t.opn<=8192:=Za
 have p2: -819200<=t.perTick*(s.fin-t.opn)/\t.perTick*(s.fin-t.opn)<=819200:=by
  generalize s.fin-t.opn=w at hW;have a1:=Cn hW.2 (show 0<=t.perTick by omega);have a2:=Cn hW.1 (show 0<=t.perTick by omega);omega
 have p3: -128<=(s.fin-t.opn).tdiv 64/\(s.fin-t.opn).tdiv 64<=128:=by
  grind
 have p4:0<=(s.fin-t.opn).tdiv 64*(s.fin-t.opn).tdiv 64/\(s.fin-t.opn).tdiv 64*(s.fin-t.opn).tdiv 64<=16384:=by
  generalize (s.fin-t.opn).tdiv 64=q at p3;refine ⟨?_,?_⟩
  ·rcases KV 0 q with h | h
   ·exact Jl h h
   ·exact Int.mul_nonneg_of_nonpos_of_nonpos h h
  ·rcases KV 0 q with h | h
   ·have:=Qq p3.2 p3.2 h Za;omega
   ·have h2:0<= -q:=Za
    have:=Qq (show-q<=128 by omega) (show-q<=128 by omega) h2 Za
    grind
 grind
def JP (x:Inst) (r:Rte):Int×Int:=if XI x r=0 then Wm (J6 x r) else (0,XI x r)
theorem iF (s:Sco):0<=(Wm s).1/\(Wm s).1<=36028797018963968:=by
 grind [Wm]
theorem fG (x:Inst) (r:Rte):0<=(JP x r).1/\(JP x r).1<=36028797018963968:=by
 unfold JP
 split
 ·exact iF _
 ·simp
theorem SP (x:Inst) (r:Rte) (hx:InstOk x) (hb:FA r):PT 237 [.p (Zs x),.p (YJ r)] [.p (.int .i64 (JP x r).1),.p (.int .i64 (JP x r).2)]:=by
 have ce:=Nk x r hx hb.1 hb.2;refine Ze [] Tryz.func237 rfl yQ ?_;simp (disch:=omega) only [Tryz.f237,go_sem,seval];unfold A8 at ce;refine GT ce (Yv ?_);refine cD ?_ ?_<;>intro h1<;>simp (disch:=omega) only [Sh.out h1,go_sem,seval,↓reduceIte]
 ·rw [JP,if_neg h1];exact we
 ·have h0:XI x r=0:=Za
  rw [JP,if_pos h0];refine Qv (Gt (J6 x r) (K8 Za (FX hx hb.1 h0))) (Yv ?_);exact we
theorem L5 (x:Inst) (r:Rte) (hx:InstOk x) (hb:FA r):PT 212 [.p (Zs x),.p (YJ r)] [.p (.int .i64 (JP x r).1),.p (.int .i64 (JP x r).2)]:=by
 have ce:=A9 x r hx hb.1 hb.2;refine Ze [] Tryz.func212 rfl xV ?_;simp (disch:=omega) only [Tryz.f212,go_sem,seval];unfold A8 at ce;refine GT ce (Yv ?_);refine cD ?_ ?_<;>intro h1<;>simp (disch:=omega) only [Sh.out h1,go_sem,seval,↓reduceIte]
 ·rw [JP,if_neg h1];exact we
 ·have h0:XI x r=0:=Za
  rw [JP,if_pos h0];refine Qv (E6 (J6 x r) (K8 Za (FX hx hb.1 h0))) (Yv ?_);exact we
theorem iE {x:Inst} {t:Typ} {p:Int} {stop:Stp} {out:List Sr} {a b:Sr} (h:b∈out):b∈QZ x t p stop out a:=by
 grind [QZ,WQ]
theorem Lk {x:Inst} {t:Typ} {p:Int} {stop:Stp} : ∀(st:List Sr) (out:List Sr) (b:Sr),(b∈out->b∈st.foldl (QZ x t p stop) out)/\ ∀a∈st,(∀o,b∈QZ x t p stop o a)->b∈st.foldl (QZ x t p stop) out
 | [],out,b=>⟨id,fun a h=>by simp at h⟩
 | c::st,out,b=>by
  rw [XF];obtain ⟨g1,g2⟩:=Lk st (QZ x t p stop out c) b;refine ⟨fun h=>g1 (iE h),fun a ha hb=> ?_⟩
  grind
inductive Rch (x:Inst) (t:Typ) (sp:List Stp):Nat->Lab->Prop where
 | zero:Rch x t sp 0 (labF t 0)
 | succ {k:Nat} {L:Lab} (b:Bool) (h:Rch x t sp k L) (hk:k<sp.length) (e:(nxtF x t sp k L b).2=0):Rch x t sp (k+1) (nxtF x t sp k L b).1
theorem PD {x:Inst} {t:Typ} {sp:List Stp} : ∀(bs:List Bool) (k:Nat) (L:Lab),Rch x t sp k L->k+bs.length=sp.length+1->(XG x t sp k L bs).2=0-> ∀j,k<=j->j<=sp.length-> ∃L',Rch x t sp j L'
 | [],k,L,h,hl,_,j,h1,h2=>by grind
 | b::bs,k,L,h,hl,hr,j,h1,h2=>by
  by_cases e:k=j
  ·grind
  ·rw [XG] at hr
   split at hr
   ·rename_i he;exact PD bs (k+1) _ (.succ b h Za he) (by grind) hr j Za h2
   omega
def Ts (x:Inst) (t:Typ) (l:List Vis) (s:Int×List Sr):Prop:=s.1=Ug t (Z8 x l) l.length/\ ∀r L,Rch x t (Z8 x (l++r)) l.length L-> ∀b,(⟨ZX t L b,WD L b⟩:Sr)∈s.2
def goS (x:Inst) (t:Typ) (s:Int×List Sr) (v:Vis):Int×List Sr:=((XC x v).place,CL x t s.1 s.2 (XC x v))
def st0 (t:Typ):Int×List Sr:=(t.src,Vf t [] t.opn 0)
theorem aQ {x:Inst} {t:Typ} (h:0<=t.opn):Ts x t [] (st0 t):=by
 refine ⟨rfl,fun r L hL b=> ?_⟩
 have:L=labF t 0:=by
  generalize hk:([]:List Vis).length=k at hL
  cases hL with
  | zero=>rfl
  | succ=>simp at hk
 subst this
 have hm:max t.opn 0=t.opn:=Za
 cases b
 ·exact WQ.2 (.inr (.inl (by simp [ZX,WD,labF,hm])))
 ·exact WQ.2 (.inr (.inr (by simp [ZX,WD,labF,hm])))
theorem GL {x:Inst} {l r:List Vis} {v:Vis} :nth (Z8 x (l++(v::r))) l.length=XC x v:=by
 grind [Zi,Z8]
theorem fE {x:Inst} {t:Typ} {l r:List Vis} :Ug t (Z8 x (l++r)) l.length=Ug t (Z8 x l) l.length:=by
 grind [Ug,Z8,Zi]
theorem aP {x:Inst} {t:Typ} {l:List Vis} {s:Int×List Sr} {v:Vis} (h:Ts x t l s):Ts x t (l++ [v]) (goS x t s v):=by
 obtain ⟨h1,h2⟩:=h;refine ⟨?_,fun r L' hL b=> ?_⟩
 ·have e:=GL (x:=x) (l:=l) (r:= []) (v:=v);rw [Ug,if_neg Zb,show (l++ [v]).length-1=l.length by simp,e];rfl
 ·rw [UC,ZP,ZR] at hL;generalize hsp:Z8 x (l++(v::r))=sp at hL
  have hlen:l.length<sp.length:=by grind [Z8]
  have hat:nth sp l.length=XC x v:=by grind [GL]
  have hpl:Ug t sp l.length=s.1:=by grind [fE]
  generalize hk:(l++ [v]).length=k at hL
  cases hL with
  | zero=>simp at hk
  | succ b' hp hk' he =>
   rename_i k L
   have hkl:k=l.length:=by grind
   subst hkl;have hmem:=h2 (v::r) L (by grind) b'
   generalize hd:ZX t L b'=d at *
   generalize hs:WD L b'=w at *
   have hg:Wp x t sp l.length d=WX x.net t.prof s.1 (XC x v).place d:=by
    rw [Wp,hpl,S6,if_neg Za,hat]
   unfold nxtF at he ⊢;rw [hd,hs,hg] at he ⊢
   generalize hgn:WX x.net t.prof s.1 (XC x v).place d=g at *
   unfold WK at he ⊢
   split at he
   ·simp at he
   ·rename_i c1;rw [if_neg c1];rw [if_neg Za] at he ⊢;rw [hat] at he ⊢
    split at he
    ·simp at he
    ·rename_i c2;rw [if_neg c2]
     split at he
     ·simp at he
     ·rename_i c3;rw [if_neg c3];refine (Lk s.2 [] _).2 ⟨d,w⟩ hmem fun o=> ?_;have c4: ¬(¬g.2.2=0\/t.drive<w+g.1-d):=fun hh=>hh.elim (fun e=>c1 e) (fun e=>c3 e);simp only [QZ,hgn];rw [if_neg c4,if_neg c2]
      cases b
      ·exact WQ.2 (.inr (.inl rfl))
      ·exact WQ.2 (.inr (.inr rfl))
theorem RF {x:Inst} {k:Int} {l:List Vis} {s:Int×List Sr} (h:Ts x (nth x.types k.toNat) l s) (he:s.2= []) (r:List Vis) (c d:Bool): ¬(JP x ⟨k,0,c,[],d,l++r⟩).2=0:=fun hp=>by
 have h1:XI x ⟨k,0,c,[],d,l++r⟩=0:=by
  grind [JP]
 have h2:(XB x ⟨k,0,c,[],d,l++r⟩).2=0:=by
  grind [XI]
 obtain ⟨bs,hl,hrun,_⟩:=Rp Zb h2;obtain ⟨L,hL⟩:=PD bs 0 _ .zero Za hrun l.length Za (by simp [Z8]);have:=h.2 r L hL false
 grind
def Fg (k:Int) (l:List Vis):Rte:=⟨k,0,true,[],false,l⟩
def HQ (x:Inst) (k:Int) (l:List Vis):Bool:=decide ((JP x (Fg k l)).2=0)
def Dh (x:Inst) (k:Int) (S:Nat) (l:List Vis):Bool:=decide ((Qu l).1=(S:Int))&&(decide (XI x (Fg k l)=0)&&HQ x k l)
def YM (x:Inst) (k:Int) (S:Nat) (l:List Vis):Col:=⟨k,S,(JP x (Fg k l)).1,Fg k l⟩
def Wk (a b:Col):Bool:=if a.price≠b.price then decide (a.price<b.price) else decide (AE a.route.visits b.route.visits<0)
def B8 (x:Inst) (S:Nat) (l:List Vis):List Vis:=nextU x S l x.orders.length
def WS (x:Inst) (S:Nat):Nat:=Am x S x.orders.length
def Pg (x:Inst) (k:Int) (S f:Nat) (l:List Vis) (s:Int×List Sr):List (List Vis):=lvW (B8 x S) (goS x (nth x.types k.toNat)) (fun s=>s.2.isEmpty) f l s
theorem mM {x:Inst} {S:Nat} {l:List Vis} (h:Gr x S l) (hl:l.length=WS x S):B8 x S l= []:=by
 cases e:B8 x S l with
 | nil=>rfl
 | cons v r =>
  exfalso
  have hv:v∈nextU x S l x.orders.length:=by
   grind [B8]
  obtain ⟨i,hi,h1,h2,h3,h4⟩:=VL.1 hv;exact ((Vx h3).1 h4).1 (h.full hl v (WB.2 ⟨i,hi,h1,h3⟩))
def Hm (x:Inst) (k:Int) (S:Nat) (z:Col×Bool):Col×Bool:=(Pg x k S (WS x S) [] (st0 (nth x.types k.toNat))).foldl (XQ (HQ x k) (YM x k S) Wk) z
def C9 (x:Inst) (k:Int) (S:Nat) (z:Col×Bool):Col×Bool:=(B6 (B8 x S) (WS x S) []).foldl (XQ (Dh x k S) (YM x k S) Wk) z
theorem GQ {ok ok':List Vis->Bool} {col:List Vis->Col} {better:Col->Col->Bool} : ∀ {L:List (List Vis)} {b:Col×Bool},(∀l∈L,ok l=ok' l)->L.foldl (XQ ok col better) b=L.foldl (XQ ok' col better) b
 | [],_,_=>rfl
 | l::L,b,h=>by
  rw [XF,XF,XQ,XQ,h l Zb];exact GQ fun m hm=>h m (YF _ hm)
theorem GP {ok:List Vis->Bool} {col:List Vis->Col} {better:Col->Col->Bool} : ∀ {L:List (List Vis)} {b:Col×Bool},(∀l∈L,ok l=false)->L.foldl (XQ ok col better) b=b
 | [],_,_=>rfl
 | l::L,b,h=>by
  rw [XF,XQ,if_neg (by rw [h l Zb];simp)];exact GP fun m hm=>h m (YF _ hm)
theorem dG {x:Inst} {S:Nat} (hN: ∀l,Gr x S l->l.length<WS x S->B8 x S l≠ []): ∀(f:Nat) (l m:List Vis),Gr x S l->l.length+f=WS x S->m∈B6 (B8 x S) f l->Gr x S m/\m.length=WS x S
 | 0,l,m,h,ht,hm=>by
  simp_all [B6]
 | f+1,l,m,h,ht,hm=>by
  rw [B6,if_neg (hN l h Za)] at hm;obtain ⟨v,hv,hm⟩:=Yk.1 hm;exact dG hN f _ m (.snoc h hv) (by simp;omega) hm
theorem I7 {x:Inst} {r:Rte} (h:XI x r=0):RightV x r.visits:=by
 rw [<- SH]
 have h1:Yd x r=0:=by
  grind [XI]
 unfold Yd at h1;omega
theorem dX {x:Inst} {k:Int} {l:List Vis} (h:HQ x k l=true):XI x (Fg k l)=0:=by
 have h:=KP h
 grind [JP]
theorem Sc {x:Inst} (hx:InstOk x) {S:Nat} (ha:Alw x S) (l:List Vis) (h:Gr x S l) (hl:l.length<WS x S):B8 x S l≠ []:=fun e=>by
 have hf:=Ym hx
 have hn:x.orders.length<=60:=by have:=hf.len;omega
 have:=(h.next_nil ha hn hf.val).1 e
 grind [WS]
theorem uB {x:Inst} (hx:InstOk x) {k:Int} {S:Nat} (h0:S≠0) (hS:S / pw x.orders.length=0) (ha:Alw x S) (ht:0<=(nth x.types k.toNat).opn) (z:Col×Bool):Hm x k S z=C9 x k S z:=by
 have hN:=Sc hx ha
 have h1:C9 x k S z=(B6 (B8 x S) (WS x S) []).foldl (XQ (HQ x k) (YM x k S) Wk) z:=GQ fun l hl=>by
  obtain ⟨hg,hlen⟩:=dG hN _ _ _ .nil Zb hl;obtain ⟨hr,ho⟩:=hg.right (Ym hx) ha h0 hS hlen;unfold Dh
  cases hv:HQ x k l with
  | false=>simp
  | true =>
   rw [dX hv,hr.ord (Ym hx),ho];simp
 rw [h1,Hm,Pg,Qa,Qa (B6 _ _ _)]
 rw [<- rO (nx:=B8 x S) (go:=goS x (nth x.types k.toNat)) (emp:=fun s=>s.2.isEmpty) (ok:=HQ x k) (G:=Gr x S) (R:=Ts x (nth x.types k.toNat)) (tot:=WS x S) (fun l v hl hv=> .snoc hl hv) (fun l s v _ hs _=>aP hs)
  (fun l s _ hs he r=>UG (RF hs (List.isEmpty_iff.1 he) r true false)) hN (WS x S) [] (st0 (nth x.types k.toNat)) .nil (aQ ht) Zb]
theorem kP {x:Inst} (hx:InstOk x) {k:Int} {S:Nat} (ha: ¬Alw x S) (z:Col×Bool):C9 x k S z=z:=GP fun l _=>by
 cases ho:Dh x k S l with
 | false=>rfl
 | true =>
  exfalso;simp only [Dh,ZG,Zl] at ho;have hr:=I7 ho.2.1;have hv:(Fg k l).visits=l:=rfl;rw [hv] at hr;have he:=hr.ord (Ym hx);rw [he] at ho
  have hS:XZ l=S:=Za
  exact ha (hS ▸ hr.alw (Ym hx))
set_option maxRecDepth 60000
theorem fT (n:Nat) (h:n<=4):ACalls Tryz.prog 91 [.p (.list false [.int .i64 (-1)]),.p (.int .i64 n)] [] fun y H'=>y= .sl 0 0 n n/\H'= [.elems 1 ((Y8 (fun _=> -1) n).map eI)]:=by
 match n,h with
 | 0,_=>exact X4 { kp:= [91] } 20 mixed Zd
 | 1,_=>exact X4 { kp:= [91] } 20 mixed Zd
 | 2,_=>exact X4 { kp:= [91] } 20 mixed Zd
 | 3,_=>exact X4 { kp:= [91] } 20 mixed Zd
 | 4,_=>exact X4 { kp:= [91] } 20 mixed Zd
theorem Li : ∀(l:List Int),CS (l.map eI)=true
 | []=>rfl
 | a::l=>by simp [CS,Lh,eI,Li l]
def Bi (x:Inst) (p:Pln):V:=if Vl x p=0 then .tup [.p (.list false ((Cl x p).map eI)),.p (.int .i64 0)] else .tup [.p (.list true []),.p (.int .i64 (Vl x p))]
theorem Za4 {P Q:Prop} (h:Q) (e:Q->P:=by intro h;simp (disch:=omega) only [Zg,YP,go_sem,seval];exact h):P:=e h
theorem R9 (x:Inst) (p:Pln) (hn:x.orders.length<=4) (ht:x.types.length<=1048576) (hr:p.routes.length<=1048576) (hv: ∀r∈p.routes,r.visits.length<=1048576) :
  ACalls Tryz.prog 53 [.p (Zs x),.p (W2 p)] [] fun y H'=>y=Bi x p/\H'= []:=by
 have hrp:=fT x.orders.length hn;have hgl: ∀f,(Y8 f x.orders.length).length=x.orders.length:=fun f=>EM;have h0:Y8 (fun _=> -1) x.orders.length=Y8 (Xo p.routes 0) x.orders.length:=rfl;refine Ze [2] Tryz.func53 rfl Zha ?_;simp (disch:=omega) only [Tryz.f53,go_sem,seval];refine ACalls.viewF hrp (by rfl) (Li _) (Yv ?_);refine Zf [26] _ _ _ _ (Yv ?_);refine ZS [26] [2,3,6,21,22] (fun k:Nat=> [(7,.p (.bool (Mz p.routes k))),(23,.p (.int .i64 k))]) (fun k=> [Zg x,YP p,.elems 1 [.int .i64 (-1)],.elems 1 ((Y8 (Xo p.routes k) x.orders.length).map eI)]) (fun k=>k<=p.routes.length/\ ∀j,j<k->QP x (nth p.routes j)=false) (fun k=>p.routes.length-k) 0 Zb (Weak.mk ?_) ?_
 ·simp (disch:=omega) only [Zg,YP,h0,Mz,go_sem,seval]
 ·rintro k ⟨hk,hno⟩;refine Za4 ?_;refine cD ?_ ?_<;>intro h1<;>simp (disch:=omega) only [Sh.out h1,go_sem,seval,↓reduceIte]
  ·have hk2:k<p.routes.length:=Za
   have hvl:=hv _ (Zq hk2);have hbt:(nth p.routes k).typ<0\/(x.types.length:Int)<=(nth p.routes k).typ->Vl x p=2:=fun h=>Bh hk2 (by simp_all [QP]);have hbv: ∀q,q<(nth p.routes k).visits.length->E5 x.orders.length (nth (nth p.routes k).visits q)=true->Vl x p=2:=fun q hq h=>Bh hk2 (by rw [QP,Wd];grind [Zq]);refine gF ?_ ?_<;>intro h2<;>simp (disch:=omega) only [Sh.out h2,go_sem,seval,↓reduceIte]
   ·rw [Bi,hbt (.inl h2)];exact we (by simp (disch:=omega) only [go_sem,seval,↓reduceIte])
   ·refine cD ?_ ?_<;>intro h3<;>simp (disch:=omega) only [Sh.out h3,go_sem,seval,↓reduceIte]
    ·rw [Bi,hbt (.inr h3)];exact we (by simp (disch:=omega) only [go_sem,seval,↓reduceIte])
    ·obtain ⟨vs,hvs⟩: ∃vs,vs=(nth p.routes k).visits:=⟨_,rfl⟩;rw [<- hvs] at hvl hbv
     have hm0:Xo p.routes k=Qr p.routes k (vs.take 0):=by rfl
     have ht0:Mz p.routes k=(Mz p.routes k||PO p.routes k (vs.take 0)):=by simp [PO]
     refine Zj [2,3,6,8,21,22,23,40,41] (fun q:Nat=> [(7,.p (.bool (Mz p.routes k||PO p.routes k (vs.take q)))),(42,.p (.int .i64 q))]) (fun q=> [Zg x,YP p,.elems 1 [.int .i64 (-1)],.elems 1 ((Y8 (Qr p.routes k (vs.take q)) x.orders.length).map eI),Z5 (nth p.routes k)]) (fun q=>q<=vs.length/\ ∀j,j<q->0<=(nth vs j).order/\(nth vs j).order<(x.orders.length:Int)) (fun q=>vs.length-q) 0 Zb (Weak.mk ?_) ?_
     ·simp (disch:=omega) only [Zg,YP,Z5,<- hvs,go_sem,seval]
      grind
     ·rintro q ⟨hq,hin⟩;simp (disch:=omega) only [Zg,YP,Z5,<- hvs,go_sem,seval];refine ZH ?_ ?_<;>intro h4
      ·have hq2:q<vs.length:=Za
       have htk:vs.take (q+1)=vs.take q++ [nth vs q]:=by rw [ZE hq2,Zi hq2]
       refine gF ?_ ?_<;>intro h5<;>simp (disch:=omega) only [Sh.out h5,go_sem,seval,↓reduceIte]
       ·rw [Bi,hbv q hq2 (by simp [E5,h5])];exact we (by simp (disch:=omega) only [go_sem,seval,↓reduceIte])
       ·refine cD ?_ ?_<;>intro h6<;>simp (disch:=omega) only [Sh.out h6,go_sem,seval]
        ·rw [Bi,hbv q hq2 (by simp [E5,h6])];exact we (by simp (disch:=omega) only [go_sem,seval,↓reduceIte])
        ·have hvo:0<=(nth vs q).order/\(nth vs q).order<(x.orders.length:Int):=⟨Za,Za⟩
         have hvn:(nth vs q).order.toNat<x.orders.length:=Za
         have htw:=iB (rs:=p.routes) (k:=k) (l:=vs.take q) (v:=nth vs q) hvo.1 (b:=Mz p.routes k);rw [<- htk] at htw;have hms:=R7 (rs:=p.routes) (k:=k) (l:=vs.take q) (v:=nth vs q) hvo;rw [<- htk] at hms
         have ZF:((Y8 (Qr p.routes k (vs.take q)) x.orders.length).map eI).set (nth vs q).order.toNat (.int .i64 k)=(Y8 (Qr p.routes k (vs.take (q+1))) x.orders.length).map eI:=by rw [<- hms,V4];rfl
         have he:UW ((Y8 (Qr p.routes k (vs.take q)) x.orders.length).map eI) (nth vs q).order.toNat= .int .i64 (Qr p.routes k (vs.take q) (nth vs q).order.toNat):=by rw [Yx (by grind),EN hvn];rfl
         have hrl:=hgl (Qr p.routes k (vs.take q));have hrg:=dJ (rs:=p.routes) (k:=k) (l:=vs.take q) (o:=(nth vs q).order.toNat);generalize Qr p.routes k (vs.take q) (nth vs q).order.toNat=M at he htw hrg;have hnx: ∀j,j<q+1->0<=(nth vs j).order/\(nth vs j).order<(x.orders.length:Int):=Zn.2 ⟨hin,hvo⟩;generalize (Mz p.routes k||PO p.routes k (vs.take q))=B at htw ⊢
         cases B with
         | true =>
          rw [Bool.true_or] at htw;simp (disch:=first | omega | (simp only [Zz,ZQ,Zm,Zu,Zy,ZK]<;>omega)) only [eq_self,go_sem,seval];exact ⟨q+1,⟨Za,hnx⟩,Za,Weak.mk (by simp (disch:=omega) only [ZF,<- htw,<- hvs,go_sem,seval])⟩
         | false =>
          rw [Bool.false_or] at htw;simp (disch:=first | omega | (simp only [Zz,ZQ,Zm,Zu,Zy,ZK]<;>omega)) only [he,hrl,hvn,eq_self,go_sem,seval,↓reduceIte];refine gT ?_ ?_<;>intro h7<;>simp (disch:=omega) only [Sh.out h7,go_sem,seval,↓reduceIte]
          ·rw [Wv h7,Zge] at htw;simp (disch:=first | omega | (simp only [Zz,ZQ,Zm,Zu,Zy,ZK]<;>omega)) only [he,hrl,hvn,eq_self,go_sem,seval];exact ⟨q+1,⟨Za,hnx⟩,Za,Weak.mk (by simp (disch:=omega) only [ZF,<- htw,<- hvs,go_sem,seval])⟩
          ·rw [UG h7,Jw] at htw;simp (disch:=first | omega | (simp only [Zz,ZQ,Zm,Zu,Zy,ZK]<;>omega)) only [eq_self,go_sem,seval];exact ⟨q+1,⟨Za,hnx⟩,Za,Weak.mk (by simp (disch:=omega) only [ZF,<- htw,<- hvs,go_sem,seval])⟩
      ·have hql:q=vs.length:=Za
       subst hql
       have hgood:QP x (nth p.routes k)=false:=by
        rw [QP,Bool.or_eq_false_iff];refine ⟨by simp [h2,h3],?_⟩;rw [<- hvs,YG];intro v hm;obtain ⟨j,hj,rfl⟩:=ZD.1 hm
        grind [Zi,E5]
       rw [UB]
       have e1:Qr p.routes k vs=Xo p.routes (k+1):=by grind [dI]
       have e2:(Mz p.routes k||PO p.routes k vs)=Mz p.routes (k+1):=by rw [hvs];rfl
       exact ⟨k+1,⟨Za,Zn.2 ⟨hno,hgood⟩⟩,Za,Weak.mk (by simp (disch:=omega) only [e1,e2,go_sem,seval])⟩
  ·have hkl:k=p.routes.length:=Za
   subst hkl;have hz:=HE hno
   cases htw:Mz p.routes p.routes.length with
   | true =>
    rw [if_pos htw] at hz;rw [Bi,hz];refine Yv ?_;exact we
   | false =>
    rw [if_neg (by grind)] at hz;rw [Bi,if_pos hz];simp (disch:=first | omega | (simp only [Zz,ZQ,Zm,Zu,Zy,ZK]<;>omega)) only [hgl,eq_self,go_sem,seval,↓reduceIte];refine ZS [26] [3,12,84,85] (fun j:Nat=> [(86,.p (.int .i64 j))]) (fun j=> [Zg x,YP p,.elems 1 [.int .i64 (-1)],.elems 1 ((Y8 (fun o=>if o<j then Jg p.routes (Xo p.routes p.routes.length o) else Xo p.routes p.routes.length o) x.orders.length).map eI)]) (fun j=>j<=x.orders.length) (fun j=>x.orders.length-j) 0 Zb (Weak.mk ?_) ?_
    ·refine Za4 ?_;simp
    ·intro j hj;have hrl:=hgl (fun o=>if o<j then Jg p.routes (Xo p.routes p.routes.length o) else Xo p.routes p.routes.length o);refine Za4 ?_;refine cD ?_ ?_<;>intro h2<;>simp (disch:=omega) only [Sh.out h2,go_sem,seval,↓reduceIte]
     ·have hj2:j<x.orders.length:=Za
      have hrg:=QI (rs:=p.routes) (o:=j) p.routes.length
      have he:UW ((Y8 (fun o=>if o<j then Jg p.routes (Xo p.routes p.routes.length o) else Xo p.routes p.routes.length o) x.orders.length).map eI) j= .int .i64 (Xo p.routes p.routes.length j):=by rw [Yx Za,EN hj2,if_neg Za];rfl
      have ZF:((Y8 (fun o=>if o<j then Jg p.routes (Xo p.routes p.routes.length o) else Xo p.routes p.routes.length o) x.orders.length).map eI).set j (.int .i64 (Jg p.routes (Xo p.routes p.routes.length j)))=(Y8 (fun o=>if o<j+1 then Jg p.routes (Xo p.routes p.routes.length o) else Xo p.routes p.routes.length o) x.orders.length).map eI:=by
       rw [show PV.int .i64 (Jg p.routes (Xo p.routes p.routes.length j))=eI (Jg p.routes (Xo p.routes p.routes.length j)) from rfl,<- V4,LY]
       grind
      have hsame:Xo p.routes p.routes.length j<0->(Y8 (fun o=>if o<j+1 then Jg p.routes (Xo p.routes p.routes.length o) else Xo p.routes p.routes.length o) x.orders.length)=(Y8 (fun o=>if o<j then Jg p.routes (Xo p.routes p.routes.length o) else Xo p.routes p.routes.length o) x.orders.length):=fun h=>by
       refine DC fun o _=> ?_
       by_cases c:o=j
       ·subst c;rw [if_pos Za,if_neg Za,Jg,if_neg Za];omega
       omega
      simp (disch:=first | omega | (simp only [Zz,ZQ,Zm,Zu,Zy,ZK]<;>omega)) only [he,hrl,hj2,eq_self,go_sem,seval,↓reduceIte];generalize hL:Xo p.routes p.routes.length j=L at he ZF hsame hrg ⊢;refine ZH ?_ ?_<;>intro h3
      ·have hty:Jg p.routes L=(nth p.routes L.toNat).typ:=by rw [Jg,if_pos h3]
       have hlt:L<(p.routes.length:Int):=hrg.2;rw [hty] at ZF;simp (disch:=first | omega | (simp only [Zz,ZQ,Zm,Zu,Zy,ZK]<;>omega)) only [eq_self,go_sem,seval];exact ⟨j+1,Za,Za,Weak.mk (by simp (disch:=omega) only [ZF,go_sem,seval])⟩
      ·exact ⟨j+1,Za,Za,Weak.mk (by simp (disch:=omega) only [hsame Za,go_sem,seval])⟩
     ·have hjl:j=x.orders.length:=Za
      have hfin:Y8 (fun o=>if o<j then Jg p.routes (Xo p.routes p.routes.length o) else Xo p.routes p.routes.length o) x.orders.length=Cl x p:=DC fun o ho=>Za
      rw [hfin];have hkl:=En (x:=x) (p:=p);refine Zp (Weak.fz (o:=3) (by rfl)) (Zf [] _ _ _ _ (Kw ?_));rw [if_pos hkl];exact we
theorem Zgw {α:Type} [Inhabited α] {l:List α} {k:Nat} (h:k<l.length):(l.take (k+1)).drop k= [nth l k]:=by
 grind [CR]
theorem cV {x:Inst} {p:Pln} {o:Nat} (hno: ∀j,j<p.routes.length->QP x (nth p.routes j)=false) (h:2<=nW p.routes (o:Int) p.routes.length):Vl x p=6:=by
 rw [HE hno,if_pos];refine (DF fun j hj v hv=>((QQ (hno j hj)).2 v hv).1).2 ⟨o,h,?_⟩
 grind [Qs]
theorem F8 {x:Inst} {p:Pln} (hno: ∀j,j<p.routes.length->QP x (nth p.routes j)=false) (h: ∀o:Nat,o<x.orders.length->nW p.routes (o:Int) p.routes.length<=1):Vl x p=0:=by
 rw [HE hno,if_neg];intro h2;obtain ⟨o,h3,j,hj,h4⟩:=(DF fun j hj v hv=>((QQ (hno j hj)).2 v hv).1).1 h2;obtain ⟨v,hv,e⟩:=YC.1 h4;have:=(QQ (hno j hj)).2 v hv
 grind
theorem N5 (x:Inst) (p:Pln) (hn:x.orders.length<=1048576) (ht:x.types.length<=1048576) (hr:p.routes.length<=1048576) (hv: ∀r∈p.routes,r.visits.length<=1048576) :
  PC 132 [.p (Zs x),.p (W2 p)] (.int .i64 (Vl x p)):=by
 refine Zc Tryz.func132 rfl wB ?_;simp (disch:=omega) only [Tryz.f132,go_sem,seval];refine Zj [2,3] (fun k:Nat=> [(5,.p (.int .i64 k))]) (fun _=> [Zg x,YP p]) (fun k=>k<=p.routes.length/\ ∀j,j<k->QP x (nth p.routes j)=false) (fun k=>p.routes.length-k) 0 Zb (Weak.mk ?_) ?_
 ·simp (disch:=omega) only [Zg,YP,go_sem,seval]
 ·rintro k ⟨hk,hno⟩;refine Za4 ?_;refine cD ?_ ?_<;>intro h1<;>simp (disch:=omega) only [Sh.out h1,go_sem,seval,↓reduceIte]
  ·have hk2:k<p.routes.length:=Za
   have hvl:=hv _ (Zq hk2);have hbt:(nth p.routes k).typ<0\/(x.types.length:Int)<=(nth p.routes k).typ->Vl x p=2:=fun h=>Bh hk2 (by simp_all [QP]);have hbv: ∀q,q<(nth p.routes k).visits.length->E5 x.orders.length (nth (nth p.routes k).visits q)=true->Vl x p=2:=fun q hq h=>Bh hk2 (by rw [QP,Wd];grind [Zq]);refine Xd (Yv ?_);refine gF ?_ ?_<;>intro h2<;>simp (disch:=omega) only [Sh.out h2,go_sem,seval,↓reduceIte]
   ·grind
   ·refine cD ?_ ?_<;>intro h3<;>simp (disch:=omega) only [Sh.out h3,go_sem,seval]
    ·grind
    ·refine Zj [2,3,5] (fun q:Nat=> [(6,.p (.int .i64 q))]) (fun q=> [Zg x,YP p]) (fun q=>q<=(nth p.routes k).visits.length/\ ∀j,j<q->E5 x.orders.length (nth (nth p.routes k).visits j)=false) (fun q=>(nth p.routes k).visits.length-q) 0 Zb (Weak.mk ?_) ?_
     ·simp (disch:=omega) only [Zg,YP,go_sem,seval]
     ·rintro q ⟨hq,hin⟩;refine Za4 ?_;refine ZH ?_ ?_<;>intro h4
      ·have hq2:q<(nth p.routes k).visits.length:=Za
       refine Xd (Yv ?_);refine gF ?_ ?_<;>intro h5<;>simp (disch:=omega) only [Sh.out h5,go_sem,seval,↓reduceIte]
       ·grind [E5]
       ·refine ZH ?_ ?_<;>intro h6
        ·grind [E5]
        ·exact ⟨q+1,⟨Za,Zn.2 ⟨hin,by simp [E5];omega⟩⟩,Za,wk⟩
      ·have hql:q=(nth p.routes k).visits.length:=Za
       have hgood:QP x (nth p.routes k)=false:=by
        rw [QP,Bool.or_eq_false_iff];refine ⟨by simp [h2,h3],?_⟩;rw [YG];intro v hm;obtain ⟨j,hj,rfl⟩:=ZD.1 hm
        grind [Zi]
       exact ⟨k+1,⟨Za,Zn.2 ⟨hno,hgood⟩⟩,Za,wk⟩
  ·have hkl:k=p.routes.length:=Za
   subst hkl;refine Zj [2,3] (fun i:Nat=> [(7,.p (.int .i64 i))]) (fun _=> [Zg x,YP p]) (fun i=>i<=x.orders.length/\ ∀j,j<i->nW p.routes (j:Nat) p.routes.length<=1) (fun i=>x.orders.length-i) 0 Zb (Weak.mk ?_) ?_
   ·simp (disch:=omega) only [Zg,YP,go_sem,seval]
   ·rintro i ⟨hi,hone⟩;refine Za4 ?_;refine cD ?_ ?_<;>intro h2<;>simp (disch:=omega) only [Sh.out h2,go_sem,seval,↓reduceIte]
    ·have hi2:i<x.orders.length:=Za
     refine Zj [2,3,7] (fun k:Nat=> [(8,.p (.int .i64 (nW p.routes (i:Int) k))),(9,.p (.int .i64 k))]) (fun _=> [Zg x,YP p]) (fun k=>k<=p.routes.length) (fun k=>p.routes.length-k) 0 Zb (Weak.mk ?_) ?_
     ·simp (disch:=omega) only [Zg,YP,nW,go_sem,seval]
     ·intro k hk;have hnl:=rP (rs:=p.routes) (o:=(i:Int)) k;refine Za4 ?_;refine cD ?_ ?_<;>intro h3<;>simp (disch:=omega) only [Sh.out h3,go_sem,seval,↓reduceIte]
      ·have hk2:k<p.routes.length:=Za
       have hty:=(QQ (hno k hk2)).1;have ck:=GA ⟨p.routes_c&&decide ((k:Int)+1=(p.routes.length:Int)),[nth p.routes k],true,[]⟩ (i:Int) Zb (fun r hr=>by grind [Zq]);rw [Zgw hk2]
       by_cases c:hasO (nth p.routes k).visits (i:Int)=true
       ·rw [show Jf [nth p.routes k] (i:Int)=(nth p.routes k).typ from by rw [Jf,if_pos c]] at ck
        have hs:nW p.routes (i:Int) (k+1)=nW p.routes (i:Int) k+1:=by rw [nW,if_pos c]
        refine (ck).use (Yv ?_);refine ZH ?_ ?_<;>intro h5
        ·exact ⟨k+1,Za,Za,Weak.mk (by simp (disch:=omega) only [hs,go_sem,seval])⟩
        ·omega
       ·rw [show Jf [nth p.routes k] (i:Int)= -1 from by simp_all [Jf]] at ck
        have hs:nW p.routes (i:Int) (k+1)=nW p.routes (i:Int) k:=by simp_all [nW]
        refine (ck).use (Yv ?_);exact ⟨k+1,Za,Za,Weak.mk (by simp (disch:=omega) only [hs,go_sem,seval])⟩
      ·have hkl:k=p.routes.length:=Za
       subst hkl;refine ZH ?_ ?_<;>intro h4
       ·rw [cV hno (o:=i) Za]
       ·exact ⟨i+1,⟨Za,Zn.2 ⟨hone,Za⟩⟩,Za,wk⟩
    ·have hil:i=x.orders.length:=Za
     simp_all [F8]
theorem SL {f:Nat->Int} {n:Nat} :Y8 f (n+1)=Y8 f n++ [f n]:=by simp [Y8,Wt]
theorem NU (x:Inst) (p:Pln) (hn:x.orders.length<=1048576) (ht:x.types.length<=1048576) (hr:p.routes.length<=1048576) (hv: ∀r∈p.routes,r.visits.length<=1048576) :
  ACalls Tryz.prog 81 [.p (Zs x),.p (W2 p)] [] fun y H'=>y=Bi x p/\H'= []:=by
 have cw:=N5 x p hn ht hr hv;have ck:=fun o=>GA p o hr hv;refine Ze [5] Tryz.func81 rfl Zhk ?_;simp (disch:=omega) only [Tryz.f81,go_sem,seval];refine (cw).use (Yv ?_)
 by_cases h0:Vl x p=0
 ·rw [Bi,if_pos h0,h0];refine Yv ?_;refine Zp (Weak.ofNil 7 1 (by simp (disch:=omega) only [go_sem,seval]) Zb (Weak.refl _ _ _)) ?_;refine Zf [9] _ _ _ _ (Yv ?_);have hf:=cZ h0;refine ZS [9] [2,3] (fun q:Nat×List Int=> [(7,.sl 2 0 q.2.length q.2.length),(8,.p (.int .i64 q.1))]) (fun q=> [Zg x,YP p,.elems 1 (q.2.map eI)]) (fun q=>q.1<=x.orders.length/\q.2=Y8 (fun i=>Jf p.routes (i:Int)) q.1) (fun q=>x.orders.length-q.1) (0,[]) ⟨Zb,by simp [Y8]⟩ (Weak.mk ?_) ?_
  ·simp (disch:=omega) only [Zg,YP,go_sem,seval]
  ·rintro ⟨k,m⟩ ⟨hk,hm⟩;simp only at hk hm
   have hml:m.length=k:=by rw [hm];exact EM
   refine Za4 ?_;refine cD ?_ ?_<;>intro h<;>simp (disch:=omega) only [Sh.out h,go_sem,seval,↓reduceIte]
   ·have hk2:k<x.orders.length:=Za
    refine (ck (k:Int)).use (Yv ?_);exact ⟨(k+1,m++ [Jf p.routes (k:Int)]),⟨Za,by grind [SL]⟩,Za,wk⟩
   ·have hkl:k=x.orders.length:=Za
    subst hkl;rw [hf] at hm;subst hm;refine Zp (Weak.fz (o:=2) (by rfl)) (Zf [] _ _ _ _ (Kw ?_));exact we
 ·rw [Bi,if_neg h0];have hE: ¬(Vl x p=0):=h0;refine cD ?_ ?_<;>intro h1<;>simp (disch:=omega) only [Sh.out h1,go_sem,seval]
  ·exact we
  ·omega
theorem aS {x b:Inst} {p:Pln} (h:x.wf 1048576) (h0:Vl b p=0) (hb:b.types.length<=1048576):(RG x b p).wf 1048576:=by
 obtain ⟨h1,h2,h3,h4,h5,h6,h7,h8,h9⟩:=h;refine ⟨h1,h2,h3,by show (W3 _ _).length<=_;rw [YV];exact h4,fun o ho=> ?_,h6,h7,h8,h9⟩;obtain ⟨j,hj,rfl⟩:=ZD.1 ho
 have hj2:j<x.orders.length:=by grind [RG,W3]
 have e:(RG x b p).orders[j]=Qg x b p j:=by rw [<- Zi hj];exact Kp hj2
 rw [e];obtain ⟨v,e2,hv⟩:=Hp (x:=x) (b:=b) (p:=p) (j:=j);rw [e2];obtain ⟨a1,a2,a3,a4,a5,a6,a7,a8,a9,a10⟩:=h5 _ (Zq hj2);refine ⟨a1,a2,a3,a4,a5,a6,a7,a8,?_,⟨Zb,Zb⟩⟩;rcases hv with rfl | hv
 ·exact a9
 grind
def iZ (x:Inst):Inst:= { x with orders_c:=false,orders:=W3 (AC x) x.orders.length }
def noI (x:Inst):Inst:= { x with orders:= [] }
def noP : Pln:=⟨true,[],true,[]⟩
theorem bX {x:Inst} :iZ x=RG x (noI x) noP:=by
 rfl
theorem noE {x:Inst} :Vl (noI x) noP=0:=F8 (fun j hj=>by simp [noP] at hj) fun o ho=>by simp [noI] at ho
theorem uZ {x:Inst} (hx:InstOk x):InstOk (iZ x):=by
 rw [bX];exact aR hx (by rw [I1,if_pos (show x.types.length=(noI x).types.length from rfl)];exact noE)
theorem vA {x:Inst} (h:x.wf 1048576) (ht:x.types.length<=1048576):(iZ x).wf 1048576:=by
 rw [bX];exact aS h noE ht
def D3 (s:Sr):PV:= .agg [.int .i64 s.rdy,.int .i64 s.drv]
@[go_sem] theorem ZlL (s:Sr):D3 s= .agg [.int .i64 s.rdy,.int .i64 s.drv]:=Zw rfl rfl
theorem Zig {a b:Sr} :a=b↔a.rdy=b.rdy/\a.drv=b.drv:=by cases a;cases b;simp
theorem lY (l:List Sr) (c:Bool) (s:Sr) (hl:l.length<=1048576):ACalls Tryz.prog 305 [.p (.list c (l.map D3)),.p (D3 s)] [] fun y H'=> ∃i:Int,(0<=i↔s∈l)/\y= .p (.int .i64 i)/\H'= []:=by
 refine Ze [] Tryz.func305 rfl Zay ?_;simp (disch:=omega) only [Tryz.f305,go_sem,seval];refine Zj [0,3,7] (fun k:Nat=> [(8,.p (.int .i64 k))]) (fun _=> [.cells [.p (.int .i64 s.rdy),.p (.int .i64 s.drv)]]) (fun k=>k<=l.length/\ ∀j,j<k->nth l j≠s) (fun k=>l.length-k) 0 ⟨Zb,fun j hj=>Za⟩ (Weak.mk ?_) ?_
 ·simp (disch:=omega) only [go_sem,seval,↓reduceIte]
 ·rintro k ⟨hk,hno⟩;refine Yv ?_;refine cD ?_ ?_<;>intro h1<;>simp (disch:=omega) only [Sh.out h1,go_sem,seval,↓reduceIte]
  ·have hk2:k<l.length:=Za
   refine Xd (Yv ?_);refine cD ?_ ?_<;>intro h2<;>simp (disch:=omega) only [Sh.out h2,go_sem,seval,↓reduceIte]
   ·exact ⟨.p (.int .i64 k),[],wk,k,⟨fun _=>(Zig.2 h2) ▸ ZV hk2,fun _=>Za⟩,rfl,rfl⟩
   ·exact ⟨k+1,⟨Za,fun j hj=>by
     grind⟩,Za,wk⟩
  ·exact ⟨.p (.int .i64 (-1)),[],wk,-1,⟨fun h=>Za,fun h=>by
    obtain ⟨j,hj,rfl⟩:=ZD.1 h
    grind [Zi]⟩,rfl,rfl⟩
theorem O1 (l:List Sr) (c:Bool) (s:Sr) (hl:l.length<=1048576):PC 280 [.p (.list c (l.map D3)),.p (D3 s)] (.bool (decide (s∈l))):=by
 refine Ze [] Tryz.func280 rfl Zaa ?_;simp (disch:=omega) only [Tryz.f280,go_sem,seval];refine ((lY l c s hl).behind (by rfl) _).mono ?_;rintro y H' ⟨y1,H1,⟨i,hi,rfl,rfl⟩,rfl,rfl⟩
 have e:decide (0<=i)=decide (s∈l):=by grind
 simp (disch:=omega) only [shV,Zk,e,go_sem,seval];exact ⟨.p (.bool (decide (s∈l))),[],wk,rfl,rfl⟩
theorem RY {l:List Sr} {s:Sr} :(V9 l s).length<=l.length+1:=by grind [V9]
theorem Nw (l:List Sr) (s:Sr) (hl:l.length<=1048576):ACalls Tryz.prog 244 [.sl 0 0 l.length l.length,.p (D3 s)] [.elems 2 (l.map D3)] fun y H'=>y= .sl 0 0 (V9 l s).length (V9 l s).length/\H'= [.elems 2 ((V9 l s).map D3)]:=by
 obtain ⟨M,hM⟩: ∃M,M=V9 l s:=⟨_,rfl⟩;rw [<- hM];refine Ze [] Tryz.func244 rfl cR ?_;simp (disch:=omega) only [Tryz.f244,go_sem,seval];refine ACalls.view (O1 l false s hl) (by simp [vws,vw,oat,Ie]<;>rfl) (by rfl) ?_;refine Yv ?_;refine cD ?_ ?_<;>intro h<;>simp (disch:=omega) only [Sh.out h,go_sem,seval,↓reduceIte]
 ·have e:M=l:=by simp_all [V9]
  exact ⟨.sl 0 0 M.length M.length,[.elems 2 (M.map D3)],Weak.mk (by simp (disch:=omega) only [e,go_sem,seval]),rfl,rfl⟩
 ·have e:M=l++ [s]:=by simp_all [V9]
  exact ⟨.sl 0 0 M.length M.length,[.elems 2 (M.map D3)],Weak.mk (by simp (disch:=omega) only [e,Xi,ZN,Zk,Zm,Zz,ZQ,Xl,go_sem,seval]),rfl,rfl⟩
theorem mA (s:Sr):ACalls Tryz.prog 244 [.p (.list true []),.p (D3 s)] [] fun y H'=>y= .sl 0 0 1 1/\H'= [.elems 2 [D3 s]]:=by
 refine Ub (fn:=Tryz.f244) (by rfl) Tryz.func244 rfl cR ?_;simp (disch:=omega) only [Tryz.f244,go_sem,seval];refine (O1 [] true s Zb).use ?_;simp (disch:=omega) only [Jj,Jn,go_sem,seval];exact ⟨2,rfl,rfl⟩
def Ye (x:Inst) (k:Int) (S tot:Nat) (b:Col×Bool):AM.Obj:= .cells [.p (.list x.net.places_c (x.net.places.map eS)),.p (.list x.net.arcs_c (x.net.arcs.map VW)),.p (.list x.types_c (x.types.map Vr)),.p (.list x.orders_c (x.orders.map eOrd)),.p (.list x.apart_c (x.apart.map eP)),.p (.list x.before_c (x.before.map eP)),.p (.int .i64 k),.p (.int .i64 S),.p (.int .i64 tot),.p (.int .i64 b.1.typ),.p (.int .i64 b.1.set),.p (.int .i64 b.1.price),.p (.int .i64 b.1.route.typ),.p (.int .i64 b.1.route.start),.p (.list b.1.route.rests_c (b.1.route.rests.map eB)),.p (.list b.1.route.visits_c (b.1.route.visits.map Z2)),.p (.bool b.2)]
theorem AK {t:Typ} {l:List Sr} {d v:Int} :(Vf t l d v).length<=l.length+2:=by
 grind [Vf,V9]
theorem nK (x:Inst) (k:Int) (S tot:Nat) (b:Col×Bool) (stop:Stp) (l:List Sr) (d v:Int) (hk:0<=k/\k<x.types.length) (ht:x.types.length<=1048576) (hl:l.length<=1000000) (hd:0<=d/\d<=1048576) (hr:0<=(nth x.types k.toNat).rest/\(nth x.types k.toNat).rest<=1048576) :
  ACalls Tryz.prog 180 [.ptr 0 0,.sl 3 0 l.length l.length,.p (.int .i64 d),.p (.int .i64 v)] [Ye x k S tot b,.cells ((Af stop).map .p),.cells ((J1 (nth x.types k.toNat)).map .p),.elems 2 (l.map D3)] fun y H'=>y= .sl 3 0 (Vf (nth x.types k.toNat) l d v).length (Vf (nth x.types k.toNat) l d v).length/\H'= [Ye x k S tot b,.cells ((Af stop).map .p),.cells ((J1 (nth x.types k.toNat)).map .p),.elems 2 ((Vf (nth x.types k.toNat) l d v).map D3)]:=by
 obtain ⟨L1,h1⟩: ∃L1,L1=V9 l ⟨d,v⟩:=⟨_,rfl⟩;obtain ⟨L2,h2⟩: ∃L2,L2=Vf (nth x.types k.toNat) l d v:=⟨_,rfl⟩
 have h12:V9 L1 ⟨d+(nth x.types k.toNat).rest,0⟩=L2:=by rw [h1,h2];rfl
 have hl1:L1.length<=l.length+1:=by rw [h1];exact RY
 rw [<- h2];have c1:=Nw l ⟨d,v⟩ Za;have c2:=Nw L1 ⟨d+(nth x.types k.toNat).rest,0⟩ Za;rw [<- h1] at c1;rw [h12] at c2;obtain ⟨O,hO⟩: ∃O,O=Ye x k S tot b:=⟨_,rfl⟩;refine Ze [] Tryz.func180 rfl cO ?_;simp (disch:=omega) only [Tryz.f180,Af,J1,ZN,Zk,go_sem,seval];refine ACalls.mono (c1.back [Ye x k S tot b,.cells ((Af stop).map .p),.cells ((J1 (nth x.types k.toNat)).map .p)] (by rfl)) ?_;rintro y H' ⟨y1,H1,⟨rfl,rfl⟩,rfl,rfl⟩;simp (disch:=omega) only [shV,shO,Ye,Af,J1,ZN,Zk,ZP,ZR,go_sem,seval]
 refine Z1 16 mixed Zd Zd (Yv ?_);refine ACalls.mono (c2.back [Ye x k S tot b,.cells ((Af stop).map .p),.cells ((J1 (nth x.types k.toNat)).map .p)] (by rfl)) ?_;rintro y H' ⟨y1,H1,⟨rfl,rfl⟩,rfl,rfl⟩;simp (disch:=omega) only [shV,shO,Ye,Af,J1,ZN,Zk,ZP,ZR,go_sem,seval];exact ⟨.sl 3 0 L2.length L2.length,[Ye x k S tot b,.cells ((Af stop).map .p),.cells ((J1 (nth x.types k.toNat)).map .p),.elems 2 (L2.map D3)],Weak.mk (by simp (disch:=omega) only [Ye,Af,J1,ZN,Zk,go_sem,seval]),rfl,rfl⟩
def Ft (s:Stp) (a:Int):Int×Int:=if s.cls<max a s.opn then (0,14) else (max a s.opn+s.serv,0)
theorem aY (s:Stp) (a:Int) (ha: -1099511627776<=a/\a<=1099511627776) (hs:0<=s.serv/\s.serv<=1048576) (ho: -1099511627776<=s.opn/\s.opn<=1099511627776):PT 279 [.p (D4 s),.p (.int .i64 a)] [.p (.int .i64 (Ft s a).1),.p (.int .i64 (Ft s a).2)]:=by
 refine Ze [] Tryz.func279 rfl zZ ?_;simp (disch:=omega) only [Tryz.f279,go_sem,seval];refine Qv (OB s a) ?_
 have hm: -1099511627776<=max a s.opn/\max a s.opn<=1099511627776:=Za
 by_cases h:s.cls<max a s.opn
 ·have e:DV s a=(0,14):=by simp_all [DV]
  have e2:Ft s a=(0,14):=by rw [Ft,if_pos h]
  rw [e,e2];refine Yv ?_;exact we
 ·have e:DV s a=(max a s.opn,0):=by simp_all [DV]
  have e2:Ft s a=(max a s.opn+s.serv,0):=by rw [Ft,if_neg h]
  rw [e,e2];refine Yv ?_;exact we
def Fj (m:Int) (st:List Sr):Prop:= ∀a∈st,(0<=a.rdy/\a.rdy<=16384)/\(-m<=a.drv/\a.drv<=4096)
theorem oP (x:Inst) (k:Int) (S tot:Nat) (b:Col×Bool) (p:Int) (st:List Sr) (c:Bool) (stop:Stp) (m:Int) (hm:0<=m/\m<=1048576) (hk:0<=k/\k<x.types.length) (ht:x.types.length<=1048576) (hT:TrpOk x (nth x.types k.toNat) [stop]) (hl:st.length<=1000) (hst:Fj m st) :
  ACalls Tryz.prog 242 [.ptr 0 0,.p (.int .i64 p),.p (.list c (st.map D3)),.p (D4 stop)] [Ye x k S tot b] fun y H'=>y= .p (.list false ((CL x (nth x.types k.toNat) p st stop).map D3))/\H'= [Ye x k S tot b]:=by
 obtain ⟨W,hV⟩: ∃W:Nat->List Sr,W=fun q=>(st.take q).foldl (QZ x (nth x.types k.toNat) p stop) []:=⟨_,rfl⟩
 have hV0:W 0= []:=by rw [hV];rfl
 have hVn:CL x (nth x.types k.toNat) p st stop=W st.length:=by grind [CL]
 have hVs: ∀q,q<st.length->W (q+1)=QZ x (nth x.types k.toNat) p stop (W q) (nth st q):=fun q hq=>by
  grind [ZE,Zi]
 have hVl: ∀q,q<=st.length->(W q).length<=2*q:=fun q=>by
  induction q with
  | zero=>grind
  | succ q ih =>
   intro hq;rw [hVs q Za];have:=ih Za;unfold QZ
   split
   ·omega
   ·split
    ·omega
    grind [AK]
 rw [hVn];clear hV hVn;refine Ze [12] Tryz.func242 rfl yV ?_;simp (disch:=omega) only [Tryz.f242,Ye,go_sem,seval];refine Xc [11] 12 mixed Zd Zd Zd Zb (Yv ?_);refine ZU 11 _ _ Zd (by refine Yv ?_;exact ⟨rfl,rfl⟩) (Yg ?_);refine Yv ?_;refine ZS [12] [0,1,7,9,28,29] (fun q:Nat=> [(10,.sl 3 0 (W q).length (W q).length),(30,.p (.int .i64 q))]) (fun q=> [Ye x k S tot b,.cells ((Af stop).map .p),.cells ((J1 (nth x.types k.toNat)).map .p),.elems 2 ((W q).map D3)]) (fun q=>q<=st.length) (fun q=>st.length-q) 0 Zb (Weak.ofNil 10 2 (by simp (disch:=omega) only [go_sem,seval]) Zb (Weak.mk ?_)) ?_
 ·simp (disch:=omega) only [hV0,Ye,Af,J1,ZN,Zk,ZQ,go_sem,seval,↓reduceIte]
 ·intro q hq;have hql:=hVl q hq;simp (disch:=omega) only [Ye,Af,J1,ZN,Zk,go_sem,seval];refine cD ?_ ?_<;>intro h1<;>simp (disch:=omega) only [Sh.out h1,go_sem,seval,↓reduceIte]
  ·have hq2:q<st.length:=Za
   obtain ⟨a1,a2⟩:=hst _ (ZV hq2);have hsn:=hVs q hq2;have hg:=(HA (n:=x.net) (pr:=(nth x.types k.toNat).prof) (f:=p) (t:=stop.place) (τ:=(nth st q).rdy) hT.net hT.mil Za).1;refine Xd (Yv ?_);refine D7 (rR x.net (nth x.types k.toNat).prof p stop.place (nth st q).rdy hT.net Za) (Yv ?_);refine gF ?_ ?_<;>intro h2<;>simp (disch:=omega) only [Sh.out h2,go_sem,seval,↓reduceIte]
   ·have e:W (q+1)=W q:=by simp_all [QZ]
    exact ⟨q+1,Za,Za,Weak.mk (by simp (disch:=omega) only [e,go_sem,seval])⟩
   ·refine cD ?_ ?_<;>intro h3<;>simp (disch:=omega) only [Sh.out h3,go_sem,seval,↓reduceIte]
    ·have e:W (q+1)=W q:=by simp_all [QZ]
     exact ⟨q+1,Za,Za,Weak.mk (by simp (disch:=omega) only [e,go_sem,seval])⟩
    ·obtain ⟨z1,z2,z3,z4,z5⟩:=hT.stp stop Zb;obtain ⟨r1,r2⟩:=hT.rst;refine Qv (aY stop (WX x.net (nth x.types k.toNat).prof p stop.place (nth st q).rdy).1 Za Za Za) ?_
     by_cases hc:stop.cls<max (WX x.net (nth x.types k.toNat).prof p stop.place (nth st q).rdy).1 stop.opn
     ·have e2:Ft stop (WX x.net (nth x.types k.toNat).prof p stop.place (nth st q).rdy).1=(0,14):=by rw [Ft,if_pos hc]
      rw [e2];refine Yv ?_
      have e:W (q+1)=W q:=by simp_all [QZ]
      exact ⟨q+1,Za,Za,Weak.mk (by simp (disch:=omega) only [e,go_sem,seval])⟩
     ·have e2:Ft stop (WX x.net (nth x.types k.toNat).prof p stop.place (nth st q).rdy).1=(max (WX x.net (nth x.types k.toNat).prof p stop.place (nth st q).rdy).1 stop.opn+stop.serv,0):=by rw [Ft,if_neg hc]
      rw [e2];refine Yv ?_
      have e:W (q+1)=Vf (nth x.types k.toNat) (W q) (max (WX x.net (nth x.types k.toNat).prof p stop.place (nth st q).rdy).1 stop.opn+stop.serv) ((nth st q).drv+(WX x.net (nth x.types k.toNat).prof p stop.place (nth st q).rdy).1-(nth st q).rdy):=by simp_all [QZ,if_neg]
      have cr:=nK x k S tot b stop (W q) (max (WX x.net (nth x.types k.toNat).prof p stop.place (nth st q).rdy).1 stop.opn+stop.serv) ((nth st q).drv+(WX x.net (nth x.types k.toNat).prof p stop.place (nth st q).rdy).1-(nth st q).rdy) hk ht Za Za Za;rw [<- e] at cr;refine cr.useP (L:= [_]) (by rfl) ?_ (by rfl) (by rfl);simp (disch:=omega) only [Ye,Af,J1,ZN,Zk,ZP,ZR,go_sem,seval];exact ⟨q+1,Za,Za,wk⟩
  ·have hqs:q=st.length:=Za
   subst hqs;refine Zp (Weak.fz (o:=3) (by rfl)) ?_;refine Zf [] _ _ _ _ ?_;simp (disch:=omega) only [ZN,Zk,X2,Xj,eq_self,go_sem,seval];exact ⟨.p (.list false ((W st.length).map D3)),[Ye x k S tot b],Weak.mk (by simp (disch:=omega) only [Ye,go_sem,seval]),rfl,rfl⟩
theorem M9 (a b:Col) (ha:a.route.visits.length<=1048576) (hb:b.route.visits.length<=1048576):PC 239 [.p (Xg a),.p (Xg b)] (.bool (Wk a b)):=by
 refine Zc Tryz.func239 rfl yS ?_;simp (disch:=omega) only [Tryz.f239,go_sem,seval];refine cD ?_ ?_<;>intro h<;>simp (disch:=omega) only [Sh.out h,go_sem,seval,↓reduceIte]
 ·rw [Wk,if_pos h]
 ·refine (Zkf a.route.visits b.route.visits a.route.visits_c b.route.visits_c ha hb).use (Yv ?_);rw [Wk,if_neg h]
theorem lN (a b:Col) (f:Bool) (ha:a.route.visits.length<=1048576) (hb:b.route.visits.length<=1048576):PC 238 [.p (Xg a),.p (.bool f),.p (Xg b),.fn (.func 239) [] []] (Xg (if f=false\/Wk b a=true then b else a)):=by
 refine Zc Tryz.func238 rfl yR ?_
 cases f with
 | false =>
  simp (disch:=omega) only [Tryz.f238,VZ,go_sem,seval,↓reduceIte]
 | true =>
  simp (disch:=omega) only [Tryz.f238,Uy,go_sem,seval];refine (M9 b a hb ha).use (Yv ?_)
  cases h:Wk b a with
  | true=>simp (disch:=omega) only [go_sem,seval]
  | false=>simp (disch:=omega) only [go_sem,seval]
theorem ZhO {x:Inst} (hx:InstOk x) {S:Nat} {l:List Vis} {v:Vis} (hv:v∈B8 x S l) {k:Int} (hk:0<=k/\k<x.types.length):Ls x v=true/\0<=(XC x v).place/\TrpOk x (nth x.types k.toNat) [XC x v]:=by
 obtain ⟨i,hi,_,_,h4,_⟩:=VL.1 hv;have ho:=Yf h4
 have hpl:0<=(XC x v).place:=by
  unfold ZT at h4;unfold XC;rw [ho,XK]
  grind
 obtain ⟨t1,t2,t3,_⟩:=UO hx (show k.toNat<x.types.length by omega);obtain ⟨n1,n2⟩:=Pn hx.net;refine ⟨by simp [Ls,ho,hi],hpl,n1,n2,t1,t2,t3,fun s hs=> ?_,Zb⟩
 obtain rfl:s=XC x v:=by grind
 have hor:=hx.orders.2 i hi;have hp:=hor.pstp;have hd:=hor.dstp;simp only [stpOk,Zl] at hp hd;unfold XC at hpl ⊢;rw [ho,XK] at hpl ⊢
 split
 ·omega
 omega
theorem oO {x:Inst} {t:Typ} {p:Int} {stop:Stp} (hT:TrpOk x t [stop]) {m:Int} {out:List Sr} {a:Sr} (hm:0<=m) (ho:Fj (m+16384) out) (ha:(0<=a.rdy/\a.rdy<=16384)/\(-m<=a.drv/\a.drv<=4096)):Fj (m+16384) (QZ x t p stop out a)/\(QZ x t p stop out a).length<=out.length+2:=by
 have hg:=(HA (n:=x.net) (pr:=t.prof) (f:=p) (t:=stop.place) (τ:=a.rdy) hT.net hT.mil Za).1;obtain ⟨z1,z2,z3,z4,z5⟩:=hT.stp stop Zb;obtain ⟨r1,r2⟩:=hT.rst;have hd:=hT.drv;unfold QZ
 split
 ·grind
 ·rename_i c1
  split
  ·grind
  ·rename_i c2;refine ⟨fun b hb=> ?_,AK⟩;have c3: ¬t.drive<a.drv+(WX x.net t.prof p stop.place a.rdy).1-a.rdy:=fun h=>c1 (.inr h);rcases WQ.1 hb with h | rfl | rfl
   ·exact ho b h
   ·grind
   grind
theorem GU {x:Inst} {t:Typ} {p:Int} {stop:Stp} (hT:TrpOk x t [stop]) {m:Int} (hm:0<=m): ∀(st out:List Sr),Fj (m+16384) out->Fj m st->Fj (m+16384) (st.foldl (QZ x t p stop) out)/\(st.foldl (QZ x t p stop) out).length<=out.length+2*st.length
 | [],out,ho,_=>⟨ho,Zb⟩
 | a::st,out,ho,hs=>by
  obtain ⟨g1,g2⟩:=oO hT (p:=p) hm ho (hs a Zb);obtain ⟨k1,k2⟩:=GU hT (p:=p) hm st _ g1 fun b hb=>hs b (YF _ hb);rw [XF];exact ⟨k1,by simp only [Zz];omega⟩
def Ol (x:Inst) (k:Int) (S tot f:Nat):Prop:= ∀(l:List Vis) (c:Bool) (p:Int) (st:List Sr) (b:Col×Bool),l.length+f=tot->(c=true->0<f)->Fj (16384*(l.length:Int)) st->st.length<=2^(l.length+1)->b.1.route.visits.length<=1048576 ->
  ACalls Tryz.prog 179 [.ptr 0 0,.p (.list c (l.map Z2)),.p (.int .i64 p),.p (.list false (st.map D3))] [Ye x k S tot b] fun y H'=>y= .tup []/\H'= [Ye x k S tot ((Pg x k S f l (p,st)).foldl (XQ (HQ x k) (YM x k S) Wk) b)]
theorem ZbS (x:Inst) (hx:InstOk x) (k:Int) (S tot:Nat) (ht:tot<=8) (hk:0<=k/\k<x.types.length) (htl:x.types.length<=1048576):Ol x k S tot 0:=by
 intro l c p st b hlf hc hs1 hs2 hb
 have hc:c=false:=by grind
 subst hc
 have hll:l.length=tot:=Za
 obtain ⟨R,hR⟩: ∃R,R=Ye x k S tot ((Pg x k S 0 l (p,st)).foldl (XQ (HQ x k) (YM x k S) Wk) b):=⟨_,rfl⟩;rw [<- hR];simp only [Pg,lvW,XF,V2] at hR;obtain ⟨⟨bt,bs,bp,br⟩,bf⟩:=b;have hpr:=fG x (Fg k l);refine Ze [] Tryz.func179 rfl cN ?_;simp (disch:=omega) only [Tryz.f179,Ye,go_sem,seval];refine cD ?_ ?_<;>intro h1<;>simp (disch:=omega) only [Sh.out h1,go_sem,seval,↓reduceIte]
 ·refine Xd (Yv ?_);refine WW (SP x (Fg k l) hx ⟨by grind [Fg],by simp [Fg]⟩) (Yv ?_);refine cD ?_ ?_<;>intro h2<;>simp (disch:=omega) only [Sh.out h2,go_sem,seval]
  ·have hok:HQ x k l=true:=Wv h2;have hcol:(⟨k,(S:Int),(JP x (Fg k l)).1,⟨k,0,true,[],false,l⟩⟩:Col)=YM x k S l:=rfl;refine Xc [11] 12 mixed Zd Zd Zd Zb (Yv ?_);refine ZU 11 _ _ Zd (by refine Yv ?_;exact ⟨rfl,rfl⟩) (Yg ?_);refine Yv ?_;refine Z1 11 mixed Zd Zd (Yv ?_);refine Zo (lN ⟨bt,bs,bp,br⟩ (YM x k S l) bf hb (by grind)) ?_
   have hR2:R=Ye x k S tot (if bf=false\/Wk (YM x k S l) ⟨bt,bs,bp,br⟩=true then YM x k S l else ⟨bt,bs,bp,br⟩,true):=by
    rw [hR,XQ]
    grind
   generalize (if bf=false\/Wk (YM x k S l) ⟨bt,bs,bp,br⟩=true then YM x k S l else ⟨bt,bs,bp,br⟩)=C at hR2 ⊢;refine Yv ?_;exact ⟨.tup [],[R],Weak.mk (by simp (disch:=omega) only [hR2,Ye,go_sem,seval]),rfl,rfl⟩
  ·have hok:HQ x k l=false:=UG h2;rw [XQ,if_neg (fun h=>by grind)] at hR;exact ⟨.tup [],[R],Weak.mk (by simp (disch:=omega) only [hR,Ye,go_sem,seval]),rfl,rfl⟩
 ·omega
theorem HK {x:Inst} {k:Int} {S:Nat} : ∀(f:Nat) (l:List Vis) (s:Int×List Sr),∀m∈Pg x k S f l s,m.length=l.length+f
 | 0,l,s,m,hm=>by
  simp_all [Pg,lvW]
 | f+1,l,s,m,hm=>by
  simp only [Pg,lvW,Yk] at hm;obtain ⟨v,_,hm⟩:=hm
  split at hm
  ·simp at hm
  ·have:=HK f (l++ [v]) _ m hm;simp at this;omega
theorem MC {x:Inst} {k:Int} {S N:Nat} : ∀(L:List (List Vis)) (b:Col×Bool),b.1.route.visits.length<=N->(∀m∈L,m.length<=N)->(L.foldl (XQ (HQ x k) (YM x k S) Wk) b).1.route.visits.length<=N
 | [],b,h,_=>h
 | m::L,b,h,hL=>by
  rw [XF];refine MC L _ ?_ fun q hq=>hL q (YF _ hq);unfold XQ
  split
  ·exact hL m Zb
  ·exact h
theorem ZbT (x:Inst) (hx:InstOk x) (k:Int) (S tot f:Nat) (ht:tot<=8) (hk:0<=k/\k<x.types.length) (htl:x.types.length<=1048576) (hbl:x.before.length<=1048576) (hS:S<9223372036854775808) (ih:Ol x k S tot f):Ol x k S tot (f+1):=by
 intro l c p st b hlf hc hs1 hs2 hb;have hf:=Ym hx
 have hn:x.orders.length<=60:=by have:=hf.len;omega
 obtain ⟨R,hR⟩: ∃R,R=Ye x k S tot ((Pg x k S (f+1) l (p,st)).foldl (XQ (HQ x k) (YM x k S) Wk) b):=⟨_,rfl⟩;rw [<- hR];have hpw:2^(l.length+1)<=2^8:=Yi Za Za
 have hpw2:2^(l.length+1+1)=2*2^(l.length+1):=Za
 have hnl:=QN x S l x.orders.length;have hokv: ∀v∈nextU x S l x.orders.length,Ls x v=true/\0<=(XC x v).place/\TrpOk x (nth x.types k.toNat) [XC x v]:=fun v hv=>ZhO hx hv hk;obtain ⟨G,hG⟩: ∃G:Vis->List (List Vis),G=fun v=>if (goS x (nth x.types k.toNat) (p,st) v).2.isEmpty=true then [] else Pg x k S f (l++ [v]) (goS x (nth x.types k.toNat) (p,st) v):=⟨_,rfl⟩
 have hlv:Pg x k S (f+1) l (p,st)=(nextU x S l x.orders.length).flatMap G:=by rw [hG];rfl
 rw [hlv] at hR;have hsn:=SU x S l c hS Za hn hbl (fun q hq=>by have:=(hf.val q hq);omega);generalize hnx:nextU x S l x.orders.length=nx at hnl hokv hR hsn;clear hnx hlv;obtain ⟨B,hB⟩: ∃B:Nat->Col×Bool,B=fun q=>((nx.take q).flatMap G).foldl (XQ (HQ x k) (YM x k S) Wk) b:=⟨_,rfl⟩
 have hB0:B 0=b:=by rw [hB];rfl
 have hBn:R=Ye x k S tot (B nx.length):=by grind
 have hBs: ∀q,q<nx.length->B (q+1)=(G (nth nx q)).foldl (XQ (HQ x k) (YM x k S) Wk) (B q):=fun q hq=>by
  rw [hB];simp only;rw [ZE hq,List.flatMap_append,List.foldl_append,<- Zi hq];simp
 have hBl: ∀q,(B q).1.route.visits.length<=1048576:=fun q=>by
  rw [hB];refine MC _ _ hb fun m hm=> ?_;obtain ⟨v,_,hm⟩:=Yk.1 hm;rw [hG] at hm;simp only at hm
  split at hm
  ·simp at hm
  ·have:=HK _ _ _ m hm;simp at this;omega
 clear hR hB;refine Ze [] Tryz.func179 rfl cN ?_;simp (disch:=omega) only [Tryz.f179,Ye,go_sem,seval];refine cD ?_ ?_<;>intro h1<;>simp (disch:=omega) only [Sh.out h1,go_sem,seval,↓reduceIte]
 ·omega
 ·refine Xd (Yv ?_);refine Zo (hsn) (Yv ?_);refine Zj [0,1,2,3,77,78] (fun q:Nat=> [(79,.p (.int .i64 q))]) (fun q=> [Ye x k S tot (B q)]) (fun q=>q<=nx.length) (fun q=>nx.length-q) 0 Zb (Weak.mk ?_) ?_
  ·simp (disch:=omega) only [Ye,hB0,go_sem,seval,↓reduceIte]
  ·intro q hq;simp (disch:=omega) only [Ye,go_sem,seval];refine cD ?_ ?_<;>intro h2<;>simp (disch:=omega) only [Sh.out h2,go_sem,seval,↓reduceIte]
   ·have hq2:q<nx.length:=Za
    obtain ⟨v1,v2,v3⟩:=hokv _ (ZV hq2);have hBq:=hBs q hq2;refine Xc [10,11] 12 mixed Zd Zd Zd Zb (Yv ?_);refine WW (Pu x (nth nx q) Za v1 v2) (Yv ?_);refine ZU 10 _ _ Zd (by refine Yv ?_;exact ⟨rfl,rfl⟩) ?_;refine Yv ?_;refine ZU 11 _ _ Zd (by refine Yv ?_;exact ⟨rfl,rfl⟩) (Yg ?_);refine Yv ?_
    have hSr0:Fj (16384*(l.length:Int)+16384) []:=fun a ha=>by simp at ha
    obtain ⟨w1,w2⟩:=GU v3 (p:=p) (m:=16384*(l.length:Int)) Za st [] hSr0 hs1;obtain ⟨N,hN⟩: ∃N,N=CL x (nth x.types k.toNat) p st (XC x (nth nx q)):=⟨_,rfl⟩;have cv:=oP x k S tot (B q) p st false (XC x (nth nx q)) (16384*(l.length:Int)) Za hk htl v3 Za hs1
    have hGq:G (nth nx q)=if N.isEmpty=true then [] else Pg x k S f (l++ [nth nx q]) ((XC x (nth nx q)).place,N):=by rw [hG,hN];rfl
    rw [<- hN] at cv
    have w1':Fj (16384*(l.length:Int)+16384) N:=by rw [hN];exact w1
    have w2':N.length<=2*st.length:=by grind [CL]
    refine cv.useP (L:= [_,_]) (by rfl) ?_ (by rfl) (by rfl);simp (disch:=omega) only [Ye,ZP,ZR,go_sem,seval];refine cD ?_ ?_<;>intro h3<;>simp (disch:=omega) only [Sh.out h3,go_sem,seval,↓reduceIte]
    ·have hne: ¬N.isEmpty=true:=fun h=>by grind
     rw [hGq,if_neg hne] at hBq
     have ihc:=ih (l++ [nth nx q]) false (XC x (nth nx q)).place N (B q) (by simp;omega) Zb (by
      have e:16384*(((l++ [nth nx q]).length:Nat):Int)=16384*(l.length:Int)+16384:=by simp;omega
      grind) (by grind) (hBl q)
     rw [<- hBq,Xi] at ihc;refine Z1 9 mixed Zd Zd (Yv ?_);refine Zo (uP l c Za) (Yv ?_);refine ihc.useP (L:= [_,_]) (by rfl) ?_ (by rfl) (by rfl);simp (disch:=omega) only [Ye,ZP,ZR,go_sem,seval];exact ⟨q+1,Za,Za,wk⟩
    ·have he:N.isEmpty=true:=by simp_all
     rw [hGq,if_pos he] at hBq;have hBq':B (q+1)=B q:=hBq;exact ⟨q+1,Za,Za,Weak.mk (by simp (disch:=omega) only [hBq',go_sem,seval])⟩
   ·have hql:q=nx.length:=Za
    subst hql;exact ⟨.tup [],[R],Weak.mk (by simp (disch:=omega) only [hBn,Ye,go_sem,seval]),rfl,rfl⟩
theorem CQ (x:Inst) (hx:InstOk x) (k:Int) (S tot:Nat) (ht:tot<=8) (hk:0<=k/\k<x.types.length) (htl:x.types.length<=1048576) (hbl:x.before.length<=1048576) (hS:S<9223372036854775808): ∀f,Ol x k S tot f
 | 0=>ZbS x hx k S tot ht hk htl
 | f+1=>ZbT x hx k S tot f ht hk htl hbl hS (CQ x hx k S tot ht hk htl hbl hS f)
theorem fQ (x:Inst) (k:Int) (S tot:Nat) (b:Col×Bool) (d v:Int) (hk:0<=k/\k<x.types.length) (ht:x.types.length<=1048576) (hd:0<=d/\d<=1048576) (hr:0<=(nth x.types k.toNat).rest/\(nth x.types k.toNat).rest<=1048576) :
  ACalls Tryz.prog 180 [.ptr 0 0,.p (.list true []),.p (.int .i64 d),.p (.int .i64 v)] [Ye x k S tot b] fun y H'=>y= .p (.list false ((Vf (nth x.types k.toNat) [] d v).map D3))/\H'= [Ye x k S tot b]:=by
 obtain ⟨L2,h2⟩: ∃L2,L2=Vf (nth x.types k.toNat) [] d v:=⟨_,rfl⟩
 have h12:V9 [⟨d,v⟩] ⟨d+(nth x.types k.toNat).rest,0⟩=L2:=by rw [h2];rfl
 rw [<- h2];have c2:=Nw [⟨d,v⟩] ⟨d+(nth x.types k.toNat).rest,0⟩ Zb;rw [h12] at c2;refine Ze [] Tryz.func180 rfl cO ?_;simp (disch:=omega) only [Tryz.f180,go_sem,seval];refine (mA ⟨d,v⟩).useF (Yv ?_);simp (disch:=omega) only [Ye,go_sem,seval];refine Z1 16 mixed Zd Zd (Yv ?_);refine ACalls.mono (c2.back [Ye x k S tot b] (by rfl)) ?_;rintro y H' ⟨y1,H1,⟨rfl,rfl⟩,rfl,rfl⟩;simp (disch:=omega) only [AM.shV,AM.shO,Ye,ZN,Zk,ZP,ZR,go_sem,seval];exact ⟨.p (.list false (L2.map D3)),[Ye x k S tot b],(Weak.fz (o:=1) (by rfl)).trans (Weak.mk (by simp (disch:=omega) only [Ye,eq_self,ZN,Zk,X2,Xj,go_sem,seval,↓reduceIte])),rfl,rfl⟩
theorem LF (x:Inst) (S:Nat): ∀k,k<=63->((XN (S:Int) k).map fun i=>(ZT x.orders i.toNat).length).sum=Am x S k
 | 0,_=>by rfl
 | k+1,h=>by
  have ih:=LF x S k Za;rw [Ac]
  cases hb:sHas (S:Int) (k:Int) with
  | true =>
   rw [LG hb,Xi,List.sum_append,ih];rw [Wg _ _ Za] at hb;rw [if_pos hb];simp
  | false =>
   rw [Pk hb,ih];rw [Wg _ _ Za] at hb;rw [hb];simp
theorem My (x:Inst) (S n:Nat) (h: ∀i,S.testBit i=true->i<n): ∀d,Am x S (n+d)=Am x S n
 | 0=>rfl
 | d+1=>by
  rw [show n+(d+1)=n+d+1 by omega,Ac,My x S n h d,if_neg (fun e=>by have:=h _ e;omega)];rfl
def Wx : Col:=⟨0,0,0,⟨0,0,true,[],true,[]⟩⟩
noncomputable def Ur (x:Inst) (k:Int) (S:Nat):Col×Int:=if Zfw x.orders x.apart x.before (S:Int)=0/\(Hm x k S (Wx,false)).2=true then ((Hm x k S (Wx,false)).1,0) else (Wx,24)
def Dd : AM.Obj:= .cells ((Fp Wx).map .p)
theorem Zdu {P Q:Prop} (h:Q) (e:Q->P:=by intro h;simp (disch:=omega) only [VZ,go_sem,seval];exact h):P:=e h
theorem HT (x:Inst) (hx:InstOk x) (k:Int) (S:Nat) (hk:0<=k/\k<x.types.length) (h4:x.orders.length<=4) (htl:x.types.length<=1048576) (hbl:x.before.length<=1048576) (hal:x.apart.length<=1048576) (hS0:0<S) (hS1:S<2^x.orders.length) :
  PT 131 [.p (Zs x),.p (.int .i64 k),.p (.int .i64 S)] [.p (Xg (Ur x k S).1),.p (.int .i64 (Ur x k S).2)]:=by
 have hf:=Ym hx;have h16:S<16:=Qn hS1 (Yi (n:=2) Za h4);have hdiv:S / pw x.orders.length=0:=U0 hS1
 have hbit: ∀i,S.testBit i=true->i<x.orders.length:=fun i hi=>by
  rcases Ww i x.orders.length with h | h
  ·exact h
  ·have:2^x.orders.length<=2^i:=Yi Za h
   grind [KK]
 obtain ⟨Z,hZ⟩: ∃Z,Z=Ur x k S:=⟨_,rfl⟩;rw [<- hZ];have hal2:=Ra x.net x.types_c x.types x.orders_c x.apart_c x.before_c x.orders x.apart x.before (S:Nat) Za hal hbl hf.val;refine Ze [] Tryz.func131 rfl wA ?_;simp (disch:=omega) only [Tryz.f131,go_sem,seval];refine gF ?_ ?_<;>intro h1<;>simp (disch:=omega) only [Sh.out h1,go_sem,seval,↓reduceIte]
 ·omega
 ·refine gF ?_ ?_<;>intro h2<;>simp (disch:=omega) only [Sh.out h2,go_sem,seval,↓reduceIte]
  ·omega
  ·refine gF ?_ ?_<;>intro h3<;>simp (disch:=omega) only [Sh.out h3,go_sem,seval,↓reduceIte]
   ·omega
   ·refine cD ?_ ?_<;>intro h5<;>simp (disch:=omega) only [Sh.out h5,go_sem,seval,↓reduceIte]
    ·omega
    ·refine (hal2).use (Yv ?_);refine cD ?_ ?_<;>intro h6<;>simp (disch:=omega) only [Sh.out h6,go_sem,seval,↓reduceIte]
     ·have e:Z=(Wx,24):=by simp_all [Ur]
      exact ⟨.tup [.p (Xg Z.1),.p (.int .i64 Z.2)],[],Weak.mk (by simp (disch:=omega) only [e,Wx,Zk,go_sem,seval]),rfl,rfl⟩
     ·have h60:Zfw x.orders x.apart x.before (S:Int)=0:=Xk.1 h6;obtain ⟨T,hT⟩: ∃T:Nat->Nat,T=fun q=>(((XN (S:Int) 63).take q).map fun i=>(ZT x.orders i.toNat).length).sum:=⟨_,rfl⟩
      have hT0:T 0=0:=by rw [hT];rfl
      have hTn:T (XN (S:Int) 63).length=WS x S:=by
       rw [hT];simp only [UB];rw [LF x S 63 Za,show 63=x.orders.length+(63-x.orders.length) by omega,My x S _ hbit];rfl
      have hTs: ∀q,q<(XN (S:Int) 63).length->T (q+1)=T q+(ZT x.orders (nth (XN (S:Int) 63) q).toNat).length:=fun q hq=>by
       grind [ZE,Zi]
      have hTl: ∀q,T q<=2*q:=fun q=>by
       induction q with
       | zero=>omega
       | succ q ih =>
        rcases Ww q (XN (S:Int) 63).length with h | h
        ·grind [Wi]
        grind [Kb]
      have hml:=Bu (S:Int) 63
      have hmi: ∀q,q<(XN (S:Int) 63).length-> ∃i:Nat,nth (XN (S:Int) 63) q=(i:Int)/\i<x.orders.length:=fun q hq=>by
       obtain ⟨i,e,_,hb⟩:=QM.1 (ZV hq)
       grind
      refine ((Cq (S:Int)).frozen Zb).use (Yv ?_);generalize XN (S:Int) 63=M at hTn hTs hml hmi ⊢;clear hT;refine Zj [1,3,6,8,45,46] (fun q:Nat=> [(47,.p (.int .i64 q))]) (fun q=> [Zg x,Dd,Ye x k S (T q) (Wx,false)]) (fun q=>q<=M.length) (fun q=>M.length-q) 0 Zb (Weak.mk ?_) ?_
      ·simp (disch:=omega) only [Zg,Dd,Fp,Wx,Ye,hT0,Zk,ZN,go_sem,seval]
      ·intro q hq;have hq1:=hTl q;simp (disch:=omega) only [Zg,Dd,Fp,Wx,Ye,Zk,ZN,go_sem,seval];refine cD ?_ ?_<;>intro h7<;>simp (disch:=omega) only [Sh.out h7,go_sem,seval,↓reduceIte]
       ·have hq2:q<M.length:=Za
        obtain ⟨i,hi,hin⟩:=hmi q hq2;have hts:=hTs q hq2;rw [hi,XK] at hts;have hvl:=Wi x.orders i;refine Z1 10 mixed Zd Zd (Yv ?_);rw [hi];refine Zo (visits_c x.orders x.orders_c i hin Za) (Yv ?_)
        have hts2:((T (q+1):Nat):Int)=((T q:Nat):Int)+((ZT x.orders i).length:Int):=Za
        exact ⟨q+1,Za,Za,Weak.mk (by simp (disch:=omega) only [hts2,go_sem,seval])⟩
       ·have hqm:q=M.length:=Za
        subst hqm;rw [hTn] at hq1 ⊢
        have ht8:WS x S<=8:=by
         grind [BX,WS]
        have htp:0<WS x S:=PL hf.vne hdiv Za;obtain ⟨t1,t2,t3,_⟩:=UO hx (show k.toNat<x.types.length by omega);obtain ⟨N,hN⟩: ∃N,N=Vf (nth x.types k.toNat) [] (nth x.types k.toNat).opn 0:=⟨_,rfl⟩
        have hNl:N.length<=2:=by
         grind [AK]
        have hNo:Fj 0 N:=fun a ha=>by
         rw [hN] at ha;rcases WQ.1 ha with h | rfl | rfl
         ·simp at h
         ·grind
         ·exact ⟨by simp only;omega,Zb⟩
        have cf:=fQ x k S (WS x S) (Wx,false) (nth x.types k.toNat).opn 0 hk htl Za Za;rw [<- hN] at cf;have cw:=CQ x hx k S (WS x S) ht8 hk htl hbl Za (WS x S) [] true (nth x.types k.toNat).src N (Wx,false) Zb (fun _=>htp) (by grind) Za (by simp [Wx])
        have hB:(Pg x k S (WS x S) [] ((nth x.types k.toNat).src,N)).foldl (XQ (HQ x k) (YM x k S) Wk) (Wx,false)=Hm x k S (Wx,false):=by rw [Hm,st0,<- hN]
        rw [hB] at cw
        have hZ2:Z=if (Hm x k S (Wx,false)).2=true then ((Hm x k S (Wx,false)).1,0) else (Wx,24):=by
         rw [hZ,Ur]
         simp_all
        generalize Hm x k S (Wx,false)=B at cw hZ2;refine Z1 7 mixed Zd Zd (Yv ?_);refine ⟨.p (.list false (N.map D3)),?_,?_⟩
        ·refine ACalls.mono (((cf.mono fun y H' hq=>(⟨hq,by rw [hq.2]⟩:_/\H'.length= [Ye x k S (WS x S) (Wx,false)].length)).front (by rfl) (by rfl) [.cells ((J1 (nth x.types k.toNat)).map .p)]).back [Zg x,Dd] (by rfl)) ?_;rintro y H' ⟨y1,H1,⟨H2,⟨rfl,rfl⟩,rfl⟩,rfl,rfl⟩;exact ⟨rfl,rfl⟩
        ·refine Yv ?_;refine ACalls.mono (((cw.mono fun y H' hq=>(⟨hq,by grind⟩:_/\H'.length= [Ye x k S (WS x S) (Wx,false)].length)).front (by rfl) (by rfl) [.cells ((J1 (nth x.types k.toNat)).map .p)]).back [Zg x,Dd] (by rfl)) ?_;rintro y H' ⟨y1,H1,⟨H2,⟨rfl,rfl⟩,rfl⟩,rfl,rfl⟩;simp (disch:=omega) only [AM.shV,AM.shVs,AM.shO,Zg,Dd,Fp,Wx,Ye,J1,ZN,Zk,ZP,ZR,go_sem,seval];obtain ⟨C,f⟩:=B
         cases f with
         | false =>
          rw [if_neg Zb] at hZ2;refine Zdu ?_;exact ⟨.tup [.p (Xg Z.1),.p (.int .i64 Z.2)],[],Weak.mk (by simp (disch:=omega) only [hZ2,Wx,Zk,go_sem,seval]),rfl,rfl⟩
         | true =>
          rw [if_pos rfl] at hZ2;refine Mv ?_;exact ⟨.tup [.p (Xg Z.1),.p (.int .i64 Z.2)],[],Weak.mk (by simp (disch:=omega) only [hZ2,go_sem,seval]),rfl,rfl⟩
theorem M8 (a b:Col) (ha:a.route.visits.length<=1048576) (hb:b.route.visits.length<=1048576):PC 246 [.p (Xg a),.p (Xg b)] (.bool (Wk a b)):=by
 refine Zc Tryz.func246 rfl yY ?_;simp (disch:=omega) only [Tryz.f246,go_sem,seval];refine cD ?_ ?_<;>intro h<;>simp (disch:=omega) only [Sh.out h,go_sem,seval,↓reduceIte]
 ·rw [Wk,if_pos h]
 ·refine (nN a.route.visits b.route.visits a.route.visits_c b.route.visits_c ha hb).use (Yv ?_);rw [Wk,if_neg h]
theorem Nm (x:Inst) (S:Nat) (h4:x.orders.length<=60) (hS0:0<S) (hS:S<9223372036854775808):PC 181 [.p (Zs x),.p (.int .i64 S)] (.bool (decide (S / pw x.orders.length=0))):=by
 refine Zc Tryz.func181 rfl xK ?_;simp (disch:=omega) only [Tryz.f181,go_sem,seval];refine Zj [1,2] (fun k:Nat=> [(5,.p (.int .i64 (hv S k:Nat))),(6,.p (.int .i64 k))]) (fun _=> [Zg x]) (fun k=>k<=x.orders.length) (fun k=>x.orders.length-k) 0 Zb (Weak.mk ?_) ?_
 ·simp (disch:=omega) only [O5,Zg,go_sem,seval]
 ·intro k hk;have e1:=O4 S k;have h1:=rG S k;refine X6 ?_;refine gT ?_ ?_<;>intro h2<;>simp (disch:=omega) only [Sh.out h2,go_sem,seval,↓reduceIte]
  ·refine ZH ?_ ?_<;>intro h3
   ·have e2:((hv S (k+1):Nat):Int)=((hv S k:Nat):Int) / 2:=Za
    exact ⟨k+1,Za,Za,Weak.mk (by simp (disch:=omega) only [e2,go_sem,seval])⟩
   ·omega
  ·have hkn:k=x.orders.length:=Za
   subst hkn;refine gT ?_ ?_<;>intro h3<;>simp (disch:=omega) only [Sh.out h3,go_sem,seval,↓reduceIte]
   ·have e:decide (((hv S x.orders.length:Nat):Int)=0)=decide (S / pw x.orders.length=0):=by
     rw [decide_eq_decide];unfold hv;omega
    simp (disch:=omega) only [e,go_sem,seval]
   ·omega
def Oj (x:Inst) (k:Int) (S f:Nat):Prop:= ∀(l:List Vis) (c:Bool) (b:Col) (fd:Bool),Gr x S l->l.length+f=WS x S->(c=true->l= [])->b.typ=k->b.set=S->b.route.visits.length<=1048576 ->
  PT 182 [.p (Zs x),.p (Xg b),.p (.bool fd),.p (.list c (l.map Z2))] [.p (Xg ((B6 (B8 x S) f l).foldl (XQ (Dh x k S) (YM x k S) Wk) (b,fd)).1),.p (.bool ((B6 (B8 x S) f l).foldl (XQ (Dh x k S) (YM x k S) Wk) (b,fd)).2)]
theorem GK (x:Inst) (hx:InstOk x) (k:Int) (S:Nat) (hS0:0<S) (hS:S<9223372036854775808) (ho:x.orders.length<=60) (htl:x.types.length<=1048576) (hbl:x.before.length<=1048576) (l:List Vis) (c:Bool) (b:Col) (fd:Bool) (hnx:B8 x S l= []) (hll:l.length<=1048576) (hc:c=true->l= []) (hb1:b.typ=k) (hb2:b.set=S) (hb3:b.route.visits.length<=1048576) :
  PT 182 [.p (Zs x),.p (Xg b),.p (.bool fd),.p (.list c (l.map Z2))] [.p (Xg (XQ (Dh x k S) (YM x k S) Wk (b,fd) l).1),.p (.bool (XQ (Dh x k S) (YM x k S) Wk (b,fd) l).2)]:=by
 have hf:=Ym hx;obtain ⟨Z,hZ⟩: ∃Z,Z=XQ (Dh x k S) (YM x k S) Wk (b,fd) l:=⟨_,rfl⟩;rw [<- hZ];have hnx':nextU x S l x.orders.length= []:=hnx;obtain ⟨bt,bs,bp,br⟩:=b;simp only at hb1 hb2 hb3;have hb1:=hb1.symm;subst hb1;subst hb2;have hnc:=Py x S l c hS hll ho hbl hf.plc (fun q hq=>by have:=(hf.val q hq);omega);rw [hnx'] at hnc;refine Ze [] Tryz.func182 rfl cP ?_;simp (disch:=omega) only [Tryz.f182,go_sem,seval];refine (hnc).use (Yv ?_);refine Qv (GB ⟨k,0,true,[],c,l⟩ hll) (Yv ?_);refine gF ?_ ?_<;>intro h1<;>simp (disch:=omega) only [Sh.out h1,go_sem,seval,↓reduceIte]
 ·have hok:Dh x k S l=false:=by
   grind [Dh]
  have e:Z=(⟨k,S,bp,br⟩,fd):=by simp_all [XQ]
  exact ⟨.tup [.p (Xg Z.1),.p (.bool Z.2)],[],Weak.mk (by simp (disch:=omega) only [e,go_sem,seval]),rfl,rfl⟩
 ·have h1':(Qu l).1=(S:Int):=Xk.1 h1
  have hcf:c=false:=by
   cases c with
   | false=>rfl
   | true =>
    exfalso;rw [hc rfl] at h1';have:(Qu ([]:List Vis)).1=0:=rfl;omega
  subst hcf;refine (S8 x (Fg k l) hx hll (by simp [Fg])).use (Yv ?_);refine cD ?_ ?_<;>intro h2<;>simp (disch:=omega) only [Sh.out h2,go_sem,seval,↓reduceIte]
  ·have hok:Dh x k S l=false:=by
    grind [Dh]
   have e:Z=(⟨k,S,bp,br⟩,fd):=by simp_all [XQ]
   exact ⟨.tup [.p (Xg Z.1),.p (.bool Z.2)],[],Weak.mk (by simp (disch:=omega) only [e,go_sem,seval]),rfl,rfl⟩
  ·have h2':XI x (Fg k l)=0:=Xk.1 h2;refine Qv (L5 x (Fg k l) hx ⟨hll,by simp [Fg]⟩) (Yv ?_);have hcol:YM x k S l=⟨k,S,(JP x (Fg k l)).1,Fg k l⟩:=rfl;refine gF ?_ ?_<;>intro h3<;>simp (disch:=omega) only [Sh.out h3,go_sem,seval,↓reduceIte]
   ·have hok:Dh x k S l=false:=by
     grind [Dh,HQ]
    have e:Z=(⟨k,S,bp,br⟩,fd):=by simp_all [XQ]
    exact ⟨.tup [.p (Xg Z.1),.p (.bool Z.2)],[],Weak.mk (by simp (disch:=omega) only [e,go_sem,seval]),rfl,rfl⟩
   ·have hok:Dh x k S l=true:=by
     simp_all [Dh,HQ]
    cases fd with
    | false =>
     have e:Z=(YM x k S l,true):=by rw [hZ,XQ,if_pos ⟨hok,.inl rfl⟩]
     refine Yv ?_;exact ⟨.tup [.p (Xg Z.1),.p (.bool Z.2)],[],Weak.mk (by simp (disch:=omega) only [e,hcol,Fg,Zk,go_sem,seval]),rfl,rfl⟩
    | true =>
     refine Yv ?_;refine (M8 (YM x k S l) ⟨k,S,bp,br⟩ hll hb3).use (Yv ?_)
     cases hbt:Wk (YM x k S l) ⟨k,S,bp,br⟩ with
     | true =>
      have e:Z=(YM x k S l,true):=by simp_all [XQ]
      refine Mv ?_;exact ⟨.tup [.p (Xg Z.1),.p (.bool Z.2)],[],Weak.mk (by simp (disch:=omega) only [e,hcol,Fg,Zk,go_sem,seval]),rfl,rfl⟩
     | false =>
      have e:Z=(⟨k,S,bp,br⟩,true):=by simp_all [XQ]
      refine Zdu ?_;exact ⟨.tup [.p (Xg Z.1),.p (.bool Z.2)],[],Weak.mk (by simp (disch:=omega) only [e,go_sem,seval]),rfl,rfl⟩
theorem ZbC (x:Inst) (hx:InstOk x) (k:Int) (S:Nat) (hS0:0<S) (hS:S<9223372036854775808) (ho:x.orders.length<=60) (htl:x.types.length<=1048576) (hbl:x.before.length<=1048576):Oj x k S 0:=by
 intro l c b fd hg hl hc hb1 hb2 hb3;have:=BX x S x.orders.length
 have hl':l.length=Am x S x.orders.length:=by grind [WS]
 simp only [B6,XF,V2];exact GK x hx k S hS0 hS ho htl hbl l c b fd (mM hg Za) Za hc hb1 hb2 hb3
theorem MB {x:Inst} {k:Int} {S N:Nat} : ∀(L:List (List Vis)) (b:Col×Bool),b.1.typ=k/\b.1.set=S/\b.1.route.visits.length<=N->(∀m∈L,m.length<=N)->(L.foldl (XQ (Dh x k S) (YM x k S) Wk) b).1.typ=k/\(L.foldl (XQ (Dh x k S) (YM x k S) Wk) b).1.set=S/\(L.foldl (XQ (Dh x k S) (YM x k S) Wk) b).1.route.visits.length<=N
 | [],b,h,_=>h
 | m::L,b,h,hL=>by
  rw [XF];refine MB L _ ?_ fun q hq=>hL q (YF _ hq);unfold XQ
  split
  ·exact ⟨rfl,rfl,hL m Zb⟩
  ·exact h
theorem Ph {x:Inst} {S:Nat} : ∀(f:Nat) (l:List Vis),∀m∈B6 (B8 x S) f l,m.length<=l.length+f
 | 0,l,m,hm=>by
  simp_all [B6]
 | f+1,l,m,hm=>by
  rw [B6] at hm
  split at hm
  ·grind
  ·obtain ⟨v,_,hm⟩:=Yk.1 hm;have:=Ph f _ m hm
   grind
theorem ZbO {g:FuncId} {args:List V} {a b:PV} {H:List AM.Obj} {K:V->List AM.Obj->Prop} (h:ACalls Tryz.prog g args [] fun x H'=>x= .tup [.p a,.p b]/\H'= []) (k:K (.tup [.p a,.p b]) H) (ha:Xb 0 args=true:=by rfl):ACalls Tryz.prog g args H K:=Qv h k ha
theorem ZbD (x:Inst) (hx:InstOk x) (k:Int) (S f:Nat) (hS0:0<S) (hS:S<9223372036854775808) (ho:x.orders.length<=60) (htl:x.types.length<=1048576) (hbl:x.before.length<=1048576) (ih:Oj x k S f):Oj x k S (f+1):=by
 intro l c b fd hg hl hc hb1 hb2 hb3;have hf:=Ym hx;have htu:=BX x S x.orders.length
 have hll:l.length<=120:=by grind [WS]
 by_cases hnx:B8 x S l= []
 ·rw [show B6 (B8 x S) (f+1) l= [l] by rw [B6,if_pos hnx]];simp only [XF,V2];exact GK x hx k S hS0 hS ho htl hbl l c b fd hnx Za hc hb1 hb2 hb3
 ·rw [show B6 (B8 x S) (f+1) l=(B8 x S l).flatMap fun v=>B6 (B8 x S) f (l++ [v]) by rw [B6,if_neg hnx]];have hnc:=Py x S l c hS Za ho hbl hf.plc (fun q hq=>by have:=(hf.val q hq);omega);have hnl:=QN x S l x.orders.length;have hgv: ∀v∈B8 x S l,Gr x S (l++ [v]):=fun v hv=> .snoc hg hv;have hnv:nextU x S l x.orders.length=B8 x S l:=rfl;rw [hnv] at hnc hnl;generalize B8 x S l=nx at hnx hnc hnl hgv ⊢;obtain ⟨B,hB⟩: ∃B:Nat->Col×Bool,B=fun q=>((nx.take q).flatMap fun v=>B6 (B8 x S) f (l++ [v])).foldl (XQ (Dh x k S) (YM x k S) Wk) (b,fd):=⟨_,rfl⟩
  have hB0:B 0=(b,fd):=by rw [hB];rfl
  have hBn:(nx.flatMap fun v=>B6 (B8 x S) f (l++ [v])).foldl (XQ (Dh x k S) (YM x k S) Wk) (b,fd)=B nx.length:=by rw [hB];simp
  have hBs: ∀q,q<nx.length->B (q+1)=(B6 (B8 x S) f (l++ [nth nx q])).foldl (XQ (Dh x k S) (YM x k S) Wk) (B q):=fun q hq=>by
   rw [hB];simp only;rw [ZE hq,List.flatMap_append,List.foldl_append,<- Zi hq];simp
  have hBi: ∀q,(B q).1.typ=k/\(B q).1.set=S/\(B q).1.route.visits.length<=1048576:=fun q=>by
   rw [hB];refine MB _ _ ⟨hb1,hb2,hb3⟩ fun m hm=> ?_;obtain ⟨v,_,hm⟩:=Yk.1 hm;have:=Ph _ _ m hm
   grind [WS]
  rw [hBn];clear hB hBn;have hne: ¬nx.length=0:=fun h=>hnx (Xe h);refine Ze [] Tryz.func182 rfl cP ?_;simp (disch:=omega) only [Tryz.f182,go_sem,seval];rw [<- hb2] at hnc;refine (hnc).use (Yv ?_);refine cD ?_ ?_<;>intro h1<;>simp (disch:=omega) only [Sh.out h1,go_sem,seval,↓reduceIte]
  ·omega
  ·refine ZS [17] [3,4,5,8,10] (fun q:Nat=> [(2,.p (.bool (B q).2)),(16,.p (.int .i64 q))]) (fun q=> [Zg x,.cells ((Fp (B q).1).map .p),Dd]) (fun q=>q<=nx.length) (fun q=>nx.length-q) 0 Zb (Weak.mk ?_) ?_
   ·simp (disch:=omega) only [Zg,Dd,Wx,Fp,hB0,ZN,Zk,go_sem,seval]
   ·intro q hq;simp (disch:=omega) only [Zg,Dd,Wx,Fp,ZN,Zk,go_sem,seval];refine cD ?_ ?_<;>intro h2<;>simp (disch:=omega) only [Sh.out h2,go_sem,seval,↓reduceIte]
    ·have hq2:q<nx.length:=Za
     have hBq:=hBs q hq2;obtain ⟨i1,i2,i3⟩:=hBi q;have hmem:=ZV hq2;have ihc:=ih (l++ [nth nx q]) false (B q).1 (B q).2 (hgv _ hmem) (by simp;omega) Zb i1 i2 i3;rw [show ((B q).1,(B q).2)=B q from rfl,<- hBq,Xi] at ihc;refine ZJ [2,3,4,5,8,10,16] (fun _:Unit=> [(17,.p (.list false ((l++ [nth nx q]).map Z2)))]) (fun _=> [Zg x,.cells ((Fp (B q).1).map .p),Dd,.dead]) (fun _=>True) ?_ ?_
     ·simp (disch:=omega) only [ZQ,Xl,go_sem,seval];exact ⟨(),(Weak.fz (o:=3) (by rfl)).trans (Weak.mk (by simp (disch:=omega) only [Zg,Dd,Wx,Fp,ZN,Zk,Zm,Zz,ZQ,Zu,Xl,eq_self,X2,Xj,go_sem,seval]))⟩
     ·intro _ _;refine Zf [] _ _ _ _ ?_;simp (disch:=omega) only [Zg,Dd,Wx,Fp,ZN,Zk,go_sem,seval];refine ZbO ihc ?_;simp (disch:=omega) only [ZN,Zk,go_sem,seval];exact ⟨q+1,Za,Za,wk⟩
    ·have hql:q=nx.length:=Za
     subst hql;exact ⟨.tup [.p (Xg (B nx.length).1),.p (.bool (B nx.length).2)],[],wk,rfl,rfl⟩
theorem EU (x:Inst) (hx:InstOk x) (k:Int) (S:Nat) (hS0:0<S) (hS:S<9223372036854775808) (ho:x.orders.length<=60) (htl:x.types.length<=1048576) (hbl:x.before.length<=1048576): ∀f,Oj x k S f
 | 0=>ZbC x hx k S hS0 hS ho htl hbl
 | f+1=>ZbD x hx k S f hS0 hS ho htl hbl (EU x hx k S hS0 hS ho htl hbl f)
def AL (one:Nat->List Col):Nat->List Col
 | 0=> []
 | q+1=>AL one q++one (q+1)
def VG (one:Nat->Nat->List Col) (N:Nat):Nat->List Col
 | 0=> []
 | k+1=>VG one N k++AL (one k) N
theorem BL {one:Nat->List Col} (h: ∀q,(one q).length<=1): ∀q,(AL one q).length<=q
 | 0=>ZL _
 | q+1=>by
  have:=BL h q;have:=h (q+1);rw [AL,Zm];omega
theorem AW {one:Nat->Nat->List Col} {N:Nat} (h: ∀k q,(one k q).length<=1): ∀k,(VG one N k).length<=k*N
 | 0=>by simp [VG]
 | k+1=>by
  have h1:=AW (N:=N) h k;have h2:=BL (h k) N;rw [VG,Zm,YN];omega
noncomputable def Vd (x:Inst) (k S:Nat):List Col:=if (Ur x (k:Int) S).2=0 then [(Ur x (k:Int) S).1] else []
theorem Kk {x:Inst} (k S:Nat):(Vd x k S).length<=1:=by grind [Vd]
theorem Zjt (x:Inst) (hx:InstOk x) (h4:x.orders.length<=4) (h6:x.types.length<=6) (hbl:x.before.length<=1048576) (hal:x.apart.length<=1048576) :
  PT 80 [.p (Zs x)] [.p (.list false ((VG (Vd x) (2^x.orders.length-1) x.types.length).map Xg)),.p (.int .i64 0)]:=by
 have hp:pw x.orders.length=2^x.orders.length:=rfl;have hp1:1<=2^x.orders.length:=Nat.one_le_two_pow;have hp2:2^x.orders.length<=2^4:=Yi Za h4;obtain ⟨N,hN⟩: ∃N,N=2^x.orders.length-1:=⟨_,rfl⟩;rw [<- hN];refine Ze [12] Tryz.func80 rfl Zhj ?_;simp (disch:=omega) only [Tryz.f80,go_sem,seval];refine ZS [12] [1,11] (fun k:Nat=> [(4,.sl 1 0 (VG (Vd x) N k).length (VG (Vd x) N k).length),(12,.p (.int .i64 k))]) (fun k=> [Zg x,.elems 7 ((VG (Vd x) N k).map Xg)]) (fun k=>k<=x.types.length) (fun k=>x.types.length-k) 0 Zb (Weak.ofNil 4 7 (by simp (disch:=omega) only [go_sem,seval]) Zb (Weak.mk ?_)) ?_
 ·simp (disch:=omega) only [Zg,VG,Zk,ZQ,go_sem,seval]
 ·intro k hk;obtain ⟨R,hR⟩: ∃R,R=VG (Vd x) N k:=⟨_,rfl⟩;have hRl:=AW (N:=N) (Kk (x:=x)) k
  have hRs:VG (Vd x) N (k+1)=R++AL (Vd x k) N:=by rw [hR];rfl
  rw [<- hR] at hRl ⊢;have hkN:k*N<=6*16:=Br Za Za;refine X6 ?_;refine cD ?_ ?_<;>intro h1<;>simp (disch:=omega) only [Sh.out h1,go_sem,seval,↓reduceIte]
  ·obtain ⟨W,hW⟩: ∃W:Nat->List Col,W=fun q=>R++AL (Vd x k) (q-1):=⟨_,rfl⟩
   have hW0:W 1=R:=by grind [AL]
   have hWn:VG (Vd x) N (k+1)=W (N+1):=by grind
   have hWl: ∀q,(W q).length<=R.length+q:=fun q=>by
    grind [BL,Kk]
   have hWs: ∀q,1<=q->W (q+1)=W q++Vd x k q:=fun q h=>by
    obtain ⟨p,rfl⟩: ∃p,q=p+1:=⟨q-1,Za⟩
    grind [AL]
   clear hW hRs;refine Zj [1,5,11,12] (fun q:Nat=> [(4,.sl 1 0 (W q).length (W q).length),(6,.p (.int .i64 q))]) (fun q=> [Zg x,.elems 7 ((W q).map Xg)]) (fun q=>1<=q/\q<=N+1) (fun q=>N+1-q) 1 Za (Weak.mk ?_) ?_
   ·have e0:((1:Nat):Int)=1:=rfl;simp (disch:=omega) only [Zg,hW0,e0,go_sem,seval]
   ·rintro q ⟨hq0,hq⟩;have hql:=hWl q;have hqs:=hWs q hq0;refine X6 ?_;refine ZH ?_ ?_<;>intro h2
    ·have hq2:q<2^x.orders.length:=by
      have h2':q / pw x.orders.length=0:=Za
      simp_all
     refine Qv (HT x hx k q Za h4 Za hbl hal Za hq2) ?_;have hone:Vd x k q=if (Ur x (k:Int) q).2=0 then [(Ur x (k:Int) q).1] else []:=rfl;rw [hone] at hqs;generalize Ur x (k:Int) q=Z at hqs ⊢;refine Yv ?_;refine ZH ?_ ?_<;>intro h3
     ·rw [if_pos h3] at hqs;exact ⟨q+1,Za,Za,Weak.mk (by simp (disch:=omega) only [hqs,Xi,ZN,Zk,Zm,Zz,ZQ,Xl,go_sem,seval])⟩
     ·rw [if_neg h3,We] at hqs;exact ⟨q+1,Za,Za,Weak.mk (by simp (disch:=omega) only [hqs,go_sem,seval])⟩
    ·have hqn:q=N+1:=by
      have h2': ¬q / pw x.orders.length=0:=Za
      rw [hp] at h2';have: ¬q<2^x.orders.length:=fun h=>h2' (U0 h);omega
     subst hqn;exact ⟨k+1,Za,Za,Weak.mk (by simp (disch:=omega) only [hWn,go_sem,seval])⟩
  ·have hkt:k=x.types.length:=Za
   subst hkt;refine Zp (Weak.fz (o:=1) (by rfl)) ?_;refine Zf [] _ _ _ _ ?_;simp (disch:=omega) only [ZN,Zk,X2,Xj,eq_self,go_sem,seval];exact ⟨.tup [.p (.list false (R.map Xg)),.p (.int .i64 0)],[],wk,by rw [hR],rfl⟩
def Ap (k:Int) (S:Nat):Col:=⟨k,S,0,⟨0,0,true,[],true,[]⟩⟩
theorem T7 {x:Inst} (hx:InstOk x) {k:Int} (hk:0<=k/\k<x.types.length) {S:Nat} (hS0:0<S) (hS1:S<2^x.orders.length):Ur x k S=if (C9 x k S (Ap k S,false)).2=true then ((C9 x k S (Ap k S,false)).1,0) else (Wx,24):=by
 have hf:=Ym hx;have hdiv:S / pw x.orders.length=0:=U0 hS1
 have hn:x.orders.length<=60:=by have:=hf.len;omega
 obtain ⟨t1,_⟩:=UO hx (show k.toNat<x.types.length by omega);have hi:=Iz hn hdiv hf.val;rw [Ur]
 by_cases ha:Alw x S
 ·have e:=uB hx Za hdiv ha t1.1 (k:=k) (Wx,false);have f:=E4 (ok:=Dh x k S) (col:=YM x k S) (better:=Wk) (B6 (B8 x S) (WS x S) []) Wx (Ap k S);have f1:(C9 x k S (Wx,false)).2=(C9 x k S (Ap k S,false)).2:=f.1;have f2:(C9 x k S (Wx,false)).2=true->(C9 x k S (Wx,false)).1=(C9 x k S (Ap k S,false)).1:=f.2
  grind
 simp_all [kP]
theorem T3 (x:Inst) (hx:InstOk x) (k:Int) (S:Nat) (hk:0<=k/\k<x.types.length) (h4:x.orders.length<=4) (htl:x.types.length<=1048576) (hbl:x.before.length<=1048576) (hS0:0<S) (hS1:S<2^x.orders.length) :
  PT 134 [.p (Zs x),.p (.int .i64 k),.p (.int .i64 S)] [.p (Xg (Ur x k S).1),.p (.int .i64 (Ur x k S).2)]:=by
 have h16:S<16:=Qn hS1 (Yi (n:=2) Za h4);have hdiv:S / pw x.orders.length=0:=U0 hS1;obtain ⟨Z,hZ⟩: ∃Z,Z=Ur x k S:=⟨_,rfl⟩;rw [<- hZ];rw [T7 hx hk hS0 hS1] at hZ;have cs:=EU x hx k S hS0 Za Za htl hbl (WS x S) [] true (Ap k S) false .nil Zb (fun _=>rfl) rfl rfl (by simp [Ap]);rw [show (B6 (B8 x S) (WS x S) []).foldl (XQ (Dh x k S) (YM x k S) Wk) (Ap k S,false)=C9 x k S (Ap k S,false) from rfl] at cs;generalize C9 x k S (Ap k S,false)=B at cs hZ
 refine Ze [] Tryz.func134 rfl wD ?_;simp (disch:=omega) only [Tryz.f134,go_sem,seval];refine gF ?_ ?_<;>intro h1<;>simp (disch:=omega) only [Sh.out h1,go_sem,seval,↓reduceIte]
 ·omega
 ·refine gF ?_ ?_<;>intro h2<;>simp (disch:=omega) only [Sh.out h2,go_sem,seval,↓reduceIte]
  ·omega
  ·refine (Nm x S Za hS0 Za).use (Yv ?_);simp (disch:=omega) only [hdiv,eq_self,WG,go_sem,seval];refine Qv cs (Yv ?_);obtain ⟨C,f⟩:=B
   cases f with
   | false =>
    rw [if_neg Zb] at hZ;refine Zdu ?_;exact ⟨.tup [.p (Xg Z.1),.p (.int .i64 Z.2)],[],Weak.mk (by simp (disch:=omega) only [hZ,Wx,Zk,go_sem,seval]),rfl,rfl⟩
   | true =>
    rw [if_pos rfl] at hZ;refine Mv ?_;exact ⟨.tup [.p (Xg Z.1),.p (.int .i64 Z.2)],[],Weak.mk (by simp (disch:=omega) only [hZ,go_sem,seval]),rfl,rfl⟩
theorem jI (x:Inst) (hx:InstOk x) (h4:x.orders.length<=4) (h6:x.types.length<=6) (hbl:x.before.length<=1048576) :
  PT 83 [.p (Zs x)] [.p (.list false ((VG (Vd x) (2^x.orders.length-1) x.types.length).map Xg)),.p (.int .i64 0)]:=by
 have hp1:1<=2^x.orders.length:=Nat.one_le_two_pow;have hp2:2^x.orders.length<=2^4:=Yi Za h4;obtain ⟨N,hN⟩: ∃N,N=2^x.orders.length-1:=⟨_,rfl⟩
 have hpN:pw x.orders.length=N+1:=by unfold pw;omega
 rw [<- hN];refine Ze [16] Tryz.func83 rfl Zhm ?_;simp (disch:=omega) only [Tryz.f83,go_sem,seval];refine ZS [16] [1] (fun k:Nat=> [(4,.p (.int .i64 (pw k:Nat))),(5,.p (.int .i64 k))]) (fun _=> [Zg x]) (fun k=>k<=x.orders.length) (fun k=>x.orders.length-k) 0 Zb (Weak.mk ?_) ?_
 ·have e0:((pw 0:Nat):Int)=1:=rfl;simp (disch:=omega) only [Zg,e0,go_sem,seval]
 ·intro k hk;have hpk:pw k<=pw 4:=JK Za;have hp4:pw 4=16:=rfl;have hps:=DB k
  have e2:((pw (k+1):Nat):Int)=((pw k:Nat):Int)*2:=Za
  refine X6 ?_;refine gT ?_ ?_<;>intro h0<;>simp (disch:=omega) only [Sh.out h0,go_sem,seval,↓reduceIte]
  ·refine ZH ?_ ?_<;>intro h1
   ·exact ⟨k+1,Za,Za,Weak.mk (by simp (disch:=omega) only [e2,go_sem,seval])⟩
   ·omega
  ·have hkn:k=x.orders.length:=Za
   subst hkn;rw [hpN];refine ZS [16] [1,4] (fun k:Nat=> [(6,.sl 1 0 (VG (Vd x) N k).length (VG (Vd x) N k).length),(7,.p (.int .i64 k))]) (fun k=> [Zg x,.elems 7 ((VG (Vd x) N k).map Xg)]) (fun k=>k<=x.types.length) (fun k=>x.types.length-k) 0 Zb (Weak.ofNil 6 7 (by simp (disch:=omega) only [go_sem,seval]) Zb (Weak.mk ?_)) ?_
   ·simp (disch:=omega) only [Zg,VG,Zk,ZQ,go_sem,seval]
   ·intro k hk;obtain ⟨R,hR⟩: ∃R,R=VG (Vd x) N k:=⟨_,rfl⟩;have hRl:=AW (N:=N) (Kk (x:=x)) k
    have hRs:VG (Vd x) N (k+1)=R++AL (Vd x k) N:=by rw [hR];rfl
    rw [<- hR] at hRl ⊢;have hkN:k*N<=6*16:=Br Za Za;refine X6 ?_;refine cD ?_ ?_<;>intro h1<;>simp (disch:=omega) only [Sh.out h1,go_sem,seval,↓reduceIte]
    ·obtain ⟨W,hW⟩: ∃W:Nat->List Col,W=fun q=>R++AL (Vd x k) q:=⟨_,rfl⟩
     have hW0:W 0=R:=by grind [AL]
     have hWn:VG (Vd x) N (k+1)=W N:=by rw [hRs,hW]
     have hWl: ∀q,(W q).length<=R.length+q:=fun q=>by
      grind [BL,Kk]
     have hWs: ∀q,W (q+1)=W q++Vd x k (q+1):=fun q=>by grind [AL]
     clear hW hRs;refine Zj [1,4,7] (fun q:Nat=> [(6,.sl 1 0 (W q).length (W q).length),(8,.p (.int .i64 ((q+1:Nat):Int)))]) (fun q=> [Zg x,.elems 7 ((W q).map Xg)]) (fun q=>q<=N) (fun q=>N-q) 0 Zb (Weak.mk ?_) ?_
     ·have e0:((0+1:Nat):Int)=1:=rfl;simp (disch:=omega) only [Zg,hW0,e0,go_sem,seval]
     ·intro q hq;have hql:=hWl q;have hqs:=hWs q
      have e1:((q+1+1:Nat):Int)=((q+1:Nat):Int)+1:=Za
      refine X6 ?_;refine ZH ?_ ?_<;>intro h2
      ·refine Qv (T3 x hx k (q+1) Za h4 Za hbl Za Za) ?_;have hone:Vd x k (q+1)=if (Ur x (k:Int) (q+1)).2=0 then [(Ur x (k:Int) (q+1)).1] else []:=rfl;rw [hone] at hqs;generalize Ur x (k:Int) (q+1)=Z at hqs ⊢;refine Yv ?_;refine ZH ?_ ?_<;>intro h3
       ·rw [if_pos h3] at hqs;exact ⟨q+1,Za,Za,Weak.mk (by simp (disch:=omega) only [hqs,Xi,ZN,Zk,Zm,Zz,ZQ,Xl,go_sem,seval])⟩
       ·rw [if_neg h3,We] at hqs;exact ⟨q+1,Za,Za,Weak.mk (by simp (disch:=omega) only [hqs,go_sem,seval])⟩
      ·have hqn:q=N:=Za
       subst hqn;exact ⟨k+1,Za,Za,Weak.mk (by simp (disch:=omega) only [hWn,go_sem,seval])⟩
    ·have hkt:k=x.types.length:=Za
     subst hkt;refine Zp (Weak.fz (o:=1) (by rfl)) ?_;refine Zf [] _ _ _ _ ?_;simp (disch:=omega) only [ZN,Zk,X2,Xj,eq_self,go_sem,seval];exact ⟨.tup [.p (.list false (R.map Xg)),.p (.int .i64 0)],[],wk,by rw [hR],rfl⟩
structure St where
 ix:Int
 cov:Int
 used:List Int
 deriving Inhabited,DecidableEq
def Aj (s:St):PV:= .agg (.int .i64 s.ix:: .int .i64 s.cov::s.used.map eI)
@[go_sem] theorem ZlM (s:St):Aj s= .agg (.int .i64 s.ix:: .int .i64 s.cov::s.used.map eI):=Zw rfl rfl
def StR (s:St):Prop:=s.used.length=6
theorem six {l:List Int} (h:l.length=6): ∃a b c d e f,l= [a,b,c,d,e,f]:=by
 match l,h with
 | [a,b,c,d,e,f],_=>simp
theorem Yy {s:St} (h:StR s): ∃i v a b c d e f,s=⟨i,v,[a,b,c,d,e,f]⟩:=by
 obtain ⟨i,v,u⟩:=s;obtain ⟨a,b,c,d,e,f,rfl⟩:=six h;simp
theorem Ny : KeyE Tryz.prog 204 Aj StR:=by
 refine ⟨⟨151,3,Zd,Zd,fun s hs=> ?_,fun s t hs ht=> ?_⟩,fun s t hs ht=> ?_⟩
 ·obtain ⟨i,v,a,b,c,d,e,f,rfl⟩:=Yy hs
  kernel_rfl
 ·obtain ⟨i,v,a,b,c,d,e,f,rfl⟩:=Yy hs;obtain ⟨i',v',a',b',c',d',e',f',rfl⟩:=Yy ht
  have h1:Y9 Tryz.prog 9 151 (Aj ⟨i,v,[a,b,c,d,e,f]⟩) (Aj ⟨i',v',[a',b',c',d',e',f']⟩)=some (decide (i=i')&&(decide (v=v')&&((decide (a=a')&&(decide (b=b')&&(decide (c=c')&&(decide (d=d')&&(decide (e=e')&&(decide (f=f')&&true))))))&&true))):=Zd
  have h2:keq (Aj ⟨i,v,[a,b,c,d,e,f]⟩) (Aj ⟨i',v',[a',b',c',d',e',f']⟩)=(decide (i=i')&&(decide (v=v')&&((decide (a=a')&&(decide (b=b')&&(decide (c=c')&&(decide (d=d')&&(decide (e=e')&&(decide (f=f')&&true))))))&&true))):=by
   simp_all [keq,Aj,QO,eI]
  show (Y9 Tryz.prog 9 151 (Aj ⟨i,v,[a,b,c,d,e,f]⟩) (Aj ⟨i',v',[a',b',c',d',e',f']⟩)==some (keq (Aj ⟨i,v,[a,b,c,d,e,f]⟩) (Aj ⟨i',v',[a',b',c',d',e',f']⟩)))=true
  simp_all
 ·obtain ⟨i,v,a,b,c,d,e,f,rfl⟩:=Yy hs;obtain ⟨i',v',a',b',c',d',e',f',rfl⟩:=Yy ht
  simp_all [keq,Aj,QO,eI]
structure Kd where
 typ:Int
 set:Int
 deriving Inhabited,DecidableEq
def Ti (k:Kd):PV:= .agg [.int .i64 k.typ,.int .i64 k.set]
theorem cY : KeyE Tryz.prog 265 Ti fun _=>True:=by
 refine ⟨⟨267,3,Zd,Zd,fun s _=> ?_,fun s t _ _=> ?_⟩,fun s t _ _=> ?_⟩
 ·kernel_rfl
 ·obtain ⟨a,b⟩:=s;obtain ⟨c,d⟩:=t
  have h1:Y9 Tryz.prog 9 267 (Ti ⟨a,b⟩) (Ti ⟨c,d⟩)=some (decide (a=c)&&(decide (b=d)&&true)):=Zd
  have h2:keq (Ti ⟨a,b⟩) (Ti ⟨c,d⟩)=(decide (a=c)&&(decide (b=d)&&true)):=by
   grind [keq,Ti,QO]
  show (Y9 Tryz.prog 9 267 (Ti ⟨a,b⟩) (Ti ⟨c,d⟩)==some (keq (Ti ⟨a,b⟩) (Ti ⟨c,d⟩)))=true
  simp_all
 ·obtain ⟨a,b⟩:=s;obtain ⟨c,d⟩:=t;simp [keq,Ti,QO]
def AO (n:Nat) (m cov:Int):Nat->Nat->Nat
 | 0,k=>k
 | f+1,k=>if k<n/\(sHas m k=false\/sHas cov k=true) then AO n m cov f (k+1) else k
theorem CH {n:Nat} {m cov:Int} {k:Nat} (h: ¬(k<n/\(sHas m k=false\/sHas cov k=true))) (f:Nat):AO n m cov f k=k:=by
 cases f with
 | zero=>rfl
 | succ f=>rw [AO,if_neg h]
theorem DD {n:Nat} {m cov:Int} {k:Nat} (h:k<n) (hc:sHas m k=false\/sHas cov k=true):AO n m cov (n-k) k=AO n m cov (n-(k+1)) (k+1):=by
 rw [show n-k=(n-(k+1))+1 by omega,AO,if_pos ⟨h,hc⟩]
def W4 (n:Nat) (m:Int) (s:St):St:= { s with ix:=(AO n m s.cov (n-s.ix.toNat) s.ix.toNat:Nat) }
def YS (x:Inst) (f g:PV) (m:Int):AM.Obj:= .cells [.p (.list x.net.places_c (x.net.places.map eS)),.p (.list x.net.arcs_c (x.net.arcs.map VW)),.p (.list x.types_c (x.types.map Vr)),.p (.list x.orders_c (x.orders.map eOrd)),.p (.list x.apart_c (x.apart.map eP)),.p (.list x.before_c (x.before.map eP)),.p f,.p g,.mp 0,.p (.int .i64 m)]
def XX (x:Inst) (f g:PV) (m:Int) (l:List (St×Int)):List AM.Obj:= [.map (l.map (I5 Aj)),YS x f g m]
def Kv (s:St):AM.Obj:= .cells (.p (.int .i64 s.ix):: .p (.int .i64 s.cov)::(s.used.map eI).map .p)
theorem EX (x:Inst) (f g:PV) (m:Int) (l:List (St×Int)) (s:St) (hs:StR s) (h0:0<=s.ix) (hn:x.orders.length<=10) (h1:s.ix<=10) :
  ACalls Tryz.prog 100 [.ptr 1 0,.p (Aj s)] (XX x f g m l) fun y H'=>y= .p (Aj (W4 x.orders.length m s))/\H'=XX x f g m l:=by
 obtain ⟨i,v,a,b,c,d,e,u,rfl⟩:=Yy hs;obtain ⟨i,rfl⟩: ∃k:Nat,i=k:=⟨i.toNat,by grind⟩;simp only at h0 h1;generalize hT:Aj (W4 x.orders.length m ⟨i,v,[a,b,c,d,e,u]⟩)=T;refine Ze [] Tryz.func100 rfl vK ?_;simp (disch:=omega) only [Tryz.f100,XX,YS,ZN,Zk,go_sem,seval];refine Zj [0,3,4] (fun k:Nat=> []) (fun k=>XX x f g m l++ [Kv ⟨k,v,[a,b,c,d,e,u]⟩,.cells (List.replicate 8 (.p (.int .i64 0)))]) (fun k=>k<=10/\AO x.orders.length m v (x.orders.length-k) k=AO x.orders.length m v (x.orders.length-i) i) (fun k=>x.orders.length-k) i ⟨Za,rfl⟩ (Weak.mk ?_) ?_
 ·simp (disch:=omega) only [XX,YS,Kv,ZN,Zk,List.replicate,go_sem,seval,↓reduceIte]
 ·rintro k ⟨hk,hq⟩
  have fin: ∀q:Nat,q=AO x.orders.length m v (x.orders.length-i) i->Aj ⟨q,v,[a,b,c,d,e,u]⟩=T:=fun q hq=>by grind [W4]
  simp (disch:=omega) only [XX,YS,Kv,ZN,Zk,List.replicate,go_sem,seval];refine Xd (Yv ?_);refine gT ?_ ?_<;>intro h5<;>simp (disch:=omega) only [Sh.out h5,go_sem,seval,↓reduceIte]
  ·have hk2:k<x.orders.length:=Za
   refine Zo (CT m k) (Yv ?_)
   cases hm:sHas m k with
   | false =>
    refine Zdu ?_;exact ⟨k+1,⟨Za,by grind [DD]⟩,Za,wk⟩
   | true =>
    refine Mv ?_;refine Zo (CT v k) (Yv ?_)
    cases hv:sHas v k with
    | true =>
     refine Yv ?_;exact ⟨k+1,⟨Za,by grind [DD]⟩,Za,wk⟩
    | false =>
     refine Yv ?_;exact ⟨.p (Aj ⟨k,v,[a,b,c,d,e,u]⟩),_,Weak.mk (by simp (disch:=omega) only [ZN,Zk,go_sem,seval]),by grind [CH],rfl⟩
  ·exact ⟨.p (Aj ⟨k,v,[a,b,c,d,e,u]⟩),_,Weak.mk (by simp (disch:=omega) only [ZN,Zk,go_sem,seval]),by grind [CH],rfl⟩
def Ct (n:Nat) (m:Int) (s:St):St:=W4 n m { s with ix:=s.ix+1 }
theorem Za7 {P Q:Prop} (h:Q) (e:Q->P:=by intro h;simp (disch:=omega) only [XX,YS,ZN,Zk,ZP,ZR,go_sem,seval];exact h):P:=e h
theorem GV (x:Inst) (f g:PV) (m:Int) (l:List (St×Int)) (s:St) (hs:StR s) (h0:0<=s.ix) (hn:x.orders.length<=10) (h1:s.ix<=9) :
  ACalls Tryz.prog 155 [.ptr 1 0,.p (Aj s)] (XX x f g m l) fun y H'=>y= .p (Aj (Ct x.orders.length m s))/\H'=XX x f g m l:=by
 have hc:=EX x f g m l { s with ix:=s.ix+1 } hs (by grind) hn (by grind);obtain ⟨i,v,a,b,c,d,e,u,rfl⟩:=Yy hs;obtain ⟨q,hq⟩: ∃q:Int,Ct x.orders.length m ⟨i,v,[a,b,c,d,e,u]⟩=⟨q,v,[a,b,c,d,e,u]⟩:=⟨_,rfl⟩;have hq':W4 x.orders.length m ⟨i+1,v,[a,b,c,d,e,u]⟩=⟨q,v,[a,b,c,d,e,u]⟩:=hq;rw [hq];simp only at h0 h1 hc;rw [hq'] at hc;refine Ze [] Tryz.func155 rfl wV ?_;simp (disch:=omega) only [Tryz.f155,XX,YS,ZN,Zk,go_sem,seval];refine hc.useP (L:= [_,_]) (by rfl) ?_ (by rfl) (by rfl);refine Za7 ?_
 exact we
def B1 (n:Nat) (m:Int) (s:St) (T:Nat) (C S:Nat):St:=W4 n m ⟨s.ix,((C|||S:Nat):Int),s.used.set T (nth s.used T+1)⟩
def Dg (x:Inst) (s:St) (T:Nat) (C S:Nat):Bool:=decide (C&&&S=0)&&decide (nth s.used T<(nth x.types T).count)
theorem iJ (x:Inst) (f g:PV) (m:Int) (l:List (St×Int)) (s:St) (c:Col) (hs:StR s) (h0:0<=s.ix) (hn:x.orders.length<=10) (h1:s.ix<=10) (C S T:Nat) (hC:s.cov=C) (hS:c.set=S) (hT:c.typ=T) (hC2:C<1024) (hS2:S<1024) (hT2:T<x.types.length) (h6:x.types.length<=6)
  (hu: ∀j,j<6->0<=nth s.used j/\nth s.used j<=1048576) :
  ACalls Tryz.prog 154 [.ptr 1 0,.p (Aj s),.p (Xg c)] (XX x f g m l) fun y H'=>y=(if Dg x s T C S=true then .tup [.p (Aj (B1 x.orders.length m s T C S)),.p (.bool true)] else .tup [.p (Aj s),.p (.bool false)])/\H'=XX x f g m l:=by
 have hor:C|||S<1024:=Qo (n:=10) hC2 hS2;have hc:=EX x f g m l ⟨s.ix,((C|||S:Nat):Int),s.used.set T (nth s.used T+1)⟩ (by grind [StR]) h0 hn h1;obtain ⟨i,v,a0,a1,a2,a3,a4,a5,rfl⟩:=Yy hs
 have hT3:T=0\/T=1\/T=2\/T=3\/T=4\/T=5:=Za
 have u0:=hu 0 Za;have u1:=hu 1 Za;have u2:=hu 2 Za;have u3:=hu 3 Za;have u4:=hu 4 Za;have u5:=hu 5 Za;simp only [nth,List.getD_cons_zero,List.getD_cons_succ] at u0 u1 u2 u3 u4 u5;simp only at hC h0 h1;obtain ⟨ct,cs,cp,cr⟩:=c;simp only at hS hT;subst hC;subst hS;subst hT;obtain ⟨R,hR⟩: ∃R:V,R=(if Dg x ⟨i,(C:Nat),[a0,a1,a2,a3,a4,a5]⟩ T C S=true then .tup [.p (Aj (B1 x.orders.length m ⟨i,(C:Nat),[a0,a1,a2,a3,a4,a5]⟩ T C S)),.p (.bool true)] else .tup [.p (Aj ⟨i,(C:Nat),[a0,a1,a2,a3,a4,a5]⟩),.p (.bool false)]):=⟨_,rfl⟩
 rw [<- hR];obtain ⟨q,hq⟩: ∃q:Int,W4 x.orders.length m ⟨i,((C|||S:Nat):Int),[a0,a1,a2,a3,a4,a5].set T (nth [a0,a1,a2,a3,a4,a5] T+1)⟩=⟨q,((C|||S:Nat):Int),[a0,a1,a2,a3,a4,a5].set T (nth [a0,a1,a2,a3,a4,a5] T+1)⟩:=⟨_,rfl⟩;simp only at hc;rw [hq] at hc;have hw:B1 x.orders.length m ⟨i,(C:Nat),[a0,a1,a2,a3,a4,a5]⟩ T C S=⟨q,((C|||S:Nat):Int),[a0,a1,a2,a3,a4,a5].set T (nth [a0,a1,a2,a3,a4,a5] T+1)⟩:=hq;rw [hw] at hR;refine Ze [] Tryz.func154 rfl wU ?_;rcases hT3 with rfl | rfl | rfl | rfl | rfl | rfl
 all_goals
  simp (disch:=omega) only [Tryz.f154,XX,YS,ZN,Zk,go_sem,seval,↓reduceIte];refine Xd ?_;simp (disch:=omega) only [go_sem,seval,↓reduceIte];refine gF ?_ ?_<;>intro h5<;>simp (disch:=omega) only [Sh.out h5,go_sem,seval,↓reduceIte]
  ·have hno:(decide (C&&&S=0))=false:=UG Za;exact ⟨.tup [.p (Aj ⟨i,(C:Nat),[a0,a1,a2,a3,a4,a5]⟩),.p (.bool false)],_,Weak.mk (by simp (disch:=omega) only [ZN,Zk,go_sem,seval]),by rw [hR,if_neg (by rw [Dg,hno];simp)],rfl⟩
  ·have hcs:C&&&S=0:=Za
   refine cD ?_ ?_<;>intro h7<;>simp (disch:=omega) only [Sh.out h7,go_sem,seval,↓reduceIte]
   ·exact ⟨.tup [.p (Aj ⟨i,(C:Nat),[a0,a1,a2,a3,a4,a5]⟩),.p (.bool false)],_,Weak.mk (by simp (disch:=omega) only [ZN,Zk,go_sem,seval]),by rw [hR,if_neg (by rw [Dg,Wv hcs,Zge];exact fun h=>Int.not_lt.2 h7 (KP h))],rfl⟩
   ·rw [if_pos (by rw [Dg,Wv hcs,Zge];exact Wv (Int.not_le.1 h7))] at hR;refine hc.useP (L:= [_,_,_]) (by rfl) ?_ (by rfl) (by rfl);simp (disch:=omega) only [XX,YS,ZN,Zk,ZP,ZR,Xj,X2,go_sem,seval,↓reduceIte];exact ⟨R,_,Weak.mk (by rw [hR];simp (disch:=omega) only [nth,List.getD_cons_zero,List.getD_cons_succ,Xj,X2,ZN,Zk,go_sem,seval]),rfl,rfl⟩
def YI (o p r:Int):Int:=if 0<=r/\(o<0\/p+r<o) then p+r else o
theorem IR (o p r:Int) (hp: -4611686018427387904<=p/\p<=4611686018427387904) (hr: -4611686018427387904<r/\r<4611686018427387904) :
  ACalls Tryz.prog 153 [.p (.int .i64 p),.p (.int .i64 r),.ptr 0 0] [.cells [.p (.int .i64 o)]] fun y H'=>y= .tup []/\H'= [.cells [.p (.int .i64 (YI o p r))]]:=by
 obtain ⟨T,hT⟩: ∃T,T=YI o p r:=⟨_,rfl⟩;rw [<- hT];unfold YI at hT;refine Ze [] Tryz.func153 rfl wT ?_;simp (disch:=omega) only [Tryz.f153,go_sem,seval];refine gT ?_ ?_<;>intro h1<;>simp (disch:=omega) only [Sh.out h1,go_sem,seval,↓reduceIte]
 ·refine gF ?_ ?_<;>intro h2<;>simp (disch:=omega) only [Sh.out h2,go_sem,seval,↓reduceIte]
  ·rw [if_pos ⟨h1,.inl h2⟩] at hT;subst hT;exact we
  ·refine cD ?_ ?_<;>intro h3<;>simp (disch:=omega) only [Sh.out h3,go_sem,seval,↓reduceIte]
   ·rw [if_pos ⟨h1,.inr h3⟩] at hT;subst hT;exact we
   ·rw [if_neg Za] at hT;subst hT;exact we
 ·rw [if_neg Za] at hT;subst hT;exact we
theorem BU {n:Nat} {m cov:Int} : ∀(f k:Nat),k<=AO n m cov f k
 | 0,k=>ZL _
 | f+1,k=>by
  rw [AO]
  split
  ·have:=BU (n:=n) (m:=m) (cov:=cov) f (k+1);omega
  ·omega
theorem PE {n:Nat} {m cov:Int} : ∀(f k:Nat),k<=n->AO n m cov f k<=n
 | 0,k,h=>h
 | f+1,k,h=>by
  rw [AO]
  split
  ·rename_i hc;exact PE f (k+1) Za
  ·exact h
theorem SV {n:Nat} {m cov:Int} {k:Nat} (h:k<n) (hb:sHas cov k=true):k+1<=AO n m cov (n-k) k:=by
 grind [DD,BU]
theorem Bw {l:List Int} {i j:Nat} {a:Int} (h:i<l.length):nth (l.set i a) j=if i=j then a else nth l j:=by
 grind [nth]
structure StV (n:Nat) (s:St):Prop where
 len:StR s
 ix:0<=s.ix/\s.ix<=n
 cov: ∃C:Nat,s.cov=C/\C<1024
 used: ∀j,j<6->0<=nth s.used j/\nth s.used j<=1048576
theorem Ib {n:Nat} {m:Int} {s:St} (h:StV n s):StV n (W4 n m s)/\s.ix<=(W4 n m s).ix:=by
 obtain ⟨h1,h2,h3,h4⟩:=h;have a:=BU (n:=n) (m:=m) (cov:=s.cov) (n-s.ix.toNat) s.ix.toNat;have b:=PE (n:=n) (m:=m) (cov:=s.cov) (n-s.ix.toNat) s.ix.toNat Za;exact ⟨⟨h1,by grind [W4],h3,h4⟩,by grind [W4]⟩
theorem HM {n:Nat} {m:Int} {s:St} (h:StV n s) (hi:s.ix<n):StV n (Ct n m s)/\s.ix<(Ct n m s).ix:=by
 have h':StV n { s with ix:=s.ix+1 } :=⟨h.len,by have:=h.ix;grind,h.cov,h.used⟩
 grind [Ib,Ct]
theorem nP {C S k:Nat} (h:sHas (S:Int) k=true):sHas ((C|||S:Nat):Int) k=true:=by
 have key: ∀N:Nat,sHas (N:Int) k=true↔k<=62/\N.testBit k=true:=fun N=>by
  simp only [sHas,ZG,Zl,XK]
  grind
 grind
theorem oU {n:Nat} {m:Int} {s:St} {T C S:Nat} (h:StV n s) (hi:s.ix<n) (hC:C<1024) (hS:S<1024) (hb:sHas (S:Int) s.ix=true) (hT:T<6) (hu:nth s.used T<1048576):StV n (B1 n m s T C S)/\s.ix<(B1 n m s T C S).ix:=by
 have hor:C|||S<1024:=Qo (n:=10) hC hS;have hl:s.used.length=6:=h.len
 have h':StV n ⟨s.ix,((C|||S:Nat):Int),s.used.set T (nth s.used T+1)⟩:=by
  refine ⟨by grind [StR],h.ix,⟨_,rfl,hor⟩,fun j hj=> ?_⟩;simp only;rw [Bw Za]
  split
  ·have:=h.used T hT;omega
  ·exact h.used j hj
 grind [Ib,SV,nP,B1,W4]
def Yo (x:Inst) (s:St) (c:Col):Bool:=Dg x s c.typ.toNat s.cov.toNat c.set.toNat
def Vi (n:Nat) (m:Int) (s:St) (c:Col):St:=B1 n m s c.typ.toNat s.cov.toNat c.set.toNat
def YT (n:Nat) (m:Int) (x:Inst) (fst:List (List Col)) (sk:List Int):Nat->St->Int
 | 0,_=>0
 | d+1,s=>if (n:Int)<=s.ix then 0 else
  let o:=(nth fst s.ix.toNat).foldl (fun o c=>if Yo x s c=true then YI o c.price (YT n m x fst sk d (Vi n m s c)) else o) (-1)
  if 0<=nth sk s.ix.toNat then YI o (nth sk s.ix.toNat) (YT n m x fst sk d (Ct n m s)) else o
structure ChOk (n:Nat) (x:Inst) (fst:List (List Col)) (sk:List Int):Prop where
 col: ∀i,i<n-> ∀c∈nth fst i,(0<=c.typ/\c.typ<x.types.length)/\(∃S:Nat,c.set=S/\S<1024)/\sHas c.set i=true/\0<=c.price/\c.price<=18014398509481984
 typ:x.types.length<=6/\ ∀t,t<6->(nth x.types t).count<=1048576
 skp: ∀i,i<n-> -1<=nth sk i/\nth sk i<=18014398509481984
theorem DG {n:Nat} {m:Int} {x:Inst} {fst:List (List Col)} {sk:List Int} (hc:ChOk n x fst sk) {s:St} (h:StV n s) (hi:s.ix<n) {c:Col} (hm:c∈nth fst s.ix.toNat) (hy:Yo x s c=true):StV n (Vi n m s c)/\s.ix<(Vi n m s c).ix:=by
 obtain ⟨⟨t0,t1⟩,⟨S,hS,hS2⟩,hb,_⟩:=hc.col _ (by have:=h.ix;omega) c hm;obtain ⟨C,hC,hC2⟩:=h.cov;have ht:=hc.typ.1;have hcnt:=hc.typ.2 c.typ.toNat Za;simp only [Yo,Dg,ZG,Zl] at hy;have hi0:=h.ix;rw [show ((s.ix.toNat:Nat):Int)=s.ix by omega] at hb;exact oU h hi Za Za (by grind) Za Za
theorem Jb {α β:Type} {f g:β->α->β} : ∀ {l:List α} {b:β},(∀a∈l,∀b,f b a=g b a)->l.foldl f b=l.foldl g b
 | [],_,_=>rfl
 | a::l,b,h=>by
  rw [XF,XF,h a Zb b];exact Jb fun a ha=>h a (YF _ ha)
theorem QL {n:Nat} {m:Int} {x:Inst} {fst:List (List Col)} {sk:List Int} (hc:ChOk n x fst sk): ∀(d d':Nat) (s:St),StV n s->(n:Int)-s.ix<d->(n:Int)-s.ix<d'->YT n m x fst sk d s=YT n m x fst sk d' s
 | 0,_,s,h,h1,_=>by have:=h.ix;omega
 | _,0,s,h,_,h1=>by have:=h.ix;omega
 | d+1,d'+1,s,h,h1,h2=>by
  rw [YT,YT]
  split
  ·rfl
  ·rename_i hi
   have e1:(nth fst s.ix.toNat).foldl (fun o c=>if Yo x s c=true then YI o c.price (YT n m x fst sk d (Vi n m s c)) else o) (-1)=(nth fst s.ix.toNat).foldl (fun o c=>if Yo x s c=true then YI o c.price (YT n m x fst sk d' (Vi n m s c)) else o) (-1):=Jb fun c hm o=>by
    by_cases hy:Yo x s c=true
    ·obtain ⟨v1,v2⟩:=DG (m:=m) hc h Za hm hy;rw [if_pos hy,if_pos hy,QL hc d d' _ v1 Za Za]
    grind
   obtain ⟨v1,v2⟩:=HM (m:=m) h Za;rw [QL hc d d' _ v1 Za Za];simp only [e1]
theorem IQ {o p r B:Int} (h1: -1<=o/\o<=B) (h2:0<=p) (h3:p+r<=B): -1<=YI o p r/\YI o p r<=B:=by
 grind [YI]
theorem F5 {α β:Type} {f:β->α->β} {R:β->Prop} : ∀ {l:List α} {b:β},R b->(∀a∈l,∀b,R b->R (f b a))->R (l.foldl f b)
 | [],_,h,_=>h
 | a::l,b,h,hf=>by
  rw [XF];exact F5 (hf a Zb b h) fun a ha=>hf a (YF _ ha)
theorem VK {n:Nat} {m:Int} {x:Inst} {fst:List (List Col)} {sk:List Int} (hc:ChOk n x fst sk): ∀(d:Nat) (s:St),StV n s-> -1<=YT n m x fst sk d s/\YT n m x fst sk d s<=(d:Int)*18014398509481984
 | 0,s,h=>by simp [YT]
 | d+1,s,h=>by
  rw [YT]
  split
  ·omega
  ·rename_i hi;have i0:=h.ix
   have e1: -1<=(nth fst s.ix.toNat).foldl (fun o c=>if Yo x s c=true then YI o c.price (YT n m x fst sk d (Vi n m s c)) else o) (-1)/\(nth fst s.ix.toNat).foldl (fun o c=>if Yo x s c=true then YI o c.price (YT n m x fst sk d (Vi n m s c)) else o) (-1)<=((d+1:Nat):Int)*18014398509481984:=by
    refine F5 (R:=fun o:Int=> -1<=o/\o<=((d+1:Nat):Int)*18014398509481984) Za fun c hm o ho=> ?_
    split
    ·rename_i hy;obtain ⟨v1,v2⟩:=DG (m:=m) hc h Za hm hy;have:=VK (m:=m) hc d _ v1;have:=(hc.col _ Za c hm).2.2.2;exact IQ ho Za Za
    ·exact ho
   have hs:=hc.skp s.ix.toNat Za;obtain ⟨v1,v2⟩:=HM (m:=m) h Za;have:=VK (m:=m) hc d _ v1;simp only
   split
   ·exact IQ e1 Za Za
   ·exact e1
def Y2 (l:List Col):PV:= .list false (l.map Xg)
@[go_sem] theorem Zgx (l:List Col):Y2 l= .list false (l.map Xg):=Zw rfl rfl
def Hr (c:Col):AM.Obj:= .cells [.p (.int .i64 c.typ),.p (.int .i64 c.set),.p (.int .i64 c.price),.p (.int .i64 c.route.typ),.p (.int .i64 c.route.start),.p (.list c.route.rests_c (c.route.rests.map eB)),.p (.list c.route.visits_c (c.route.visits.map Z2))]
def sG (n:Nat) (m:Int) (x:Inst) (fst:List (List Col)) (sk:List Int) (l:List (St×Int)):Prop:= ∀p∈l,StV n p.1/\p.2=YT n m x fst sk 20 p.1
theorem Zdv {P Q:Prop} (h:Q) (e:Q->P:=by intro h;simp (disch:=omega) only [XX,YS,Kv,ZN,Zk,ZP,ZR,go_sem,seval];exact h):P:=e h
theorem Dn (x:Inst) (fst:List (List Col)) (sk:List Int) (fc sc:Bool) (m:Int) (hn:x.orders.length<=10) (hf:fst.length=x.orders.length) (hs:sk.length=x.orders.length) (hc:ChOk x.orders.length x fst sk) (hcl: ∀r∈fst,r.length<=1048576) :
  ∀(d:Nat) (s:St) (l:List (St×Int)),d<=20->StV x.orders.length s->(x.orders.length:Int)-s.ix<d->sG x.orders.length m x fst sk l ->
   ACalls Tryz.prog 101 [.ptr 1 0,.p (Aj s)] (XX x (.list fc (fst.map Y2)) (.list sc (sk.map eI)) m l) fun y H'=> ∃l',sG x.orders.length m x fst sk l'/\y= .p (.int .i64 (YT x.orders.length m x fst sk 20 s))/\H'=XX x (.list fc (fst.map Y2)) (.list sc (sk.map eI)) m l'
 | 0,s,l,_,hv,hd,_=>by have:=hv.ix;omega
 | d+1,s,l,hd0,hv,hd,hl=>by
  have ih:=Dn x fst sk fc sc m hn hf hs hc hcl d;have hlR: ∀p∈l,StR p.1:=fun p hp=>(hl p hp).1.len;obtain ⟨i,v,a0,a1,a2,a3,a4,a5,rfl⟩:=Yy hv.len;have hi:=hv.ix;simp only at hi hd;obtain ⟨i,rfl⟩: ∃k:Nat,i=k:=⟨i.toNat,Za⟩;obtain ⟨T,hT⟩: ∃T,T=YT x.orders.length m x fst sk 20 ⟨i,v,[a0,a1,a2,a3,a4,a5]⟩:=⟨_,rfl⟩;rw [<- hT];refine Ze [] Tryz.func101 rfl vL ?_;simp (disch:=omega) only [Tryz.f101,XX,YS,ZN,Zk,go_sem,seval];refine Xd ?_;refine Yv ?_;refine cD ?_ ?_<;>intro h1<;>simp (disch:=omega) only [Sh.out h1,go_sem,seval]
  ·rw [YT,if_pos Za] at hT;subst hT;exact ⟨_,_,wk,l,hl,rfl,rfl⟩
  ·refine Xd (Yv ?_);refine bG (FK (k:=(⟨i,v,[a0,a1,a2,a3,a4,a5]⟩:St)) Ny hlR hv.len (by rfl)) (Yv ?_)
   cases hq:mq l (⟨i,v,[a0,a1,a2,a3,a4,a5]⟩:St) with
   | some w =>
    obtain ⟨_,hw⟩:=hl _ (Za8 hq);simp only at hw;rw [<- hw] at hT;subst hT;simp (disch:=omega) only [Jt,Jk,go_sem,seval];exact ⟨_,_,wk,l,hl,rfl,rfl⟩
   | none =>
    have hi2:i<fst.length:=Za
    have hi3:i<sk.length:=Za
    have hrl:=hcl _ (ZV hi2);simp (disch:=omega) only [KO,Option.getD_none,go_sem,seval];refine Xd (Yv ?_)
    let F:Int->Col->Int:=fun o c=>if Yo x ⟨i,v,[a0,a1,a2,a3,a4,a5]⟩ c=true then YI o c.price (YT x.orders.length m x fst sk 19 (Vi x.orders.length m ⟨i,v,[a0,a1,a2,a3,a4,a5]⟩ c)) else o
    refine Zj [0,3,7,8,42,43] (fun q:Nat×List (St×Int)=> [(44,.p (.int .i64 q.1))]) (fun q=>XX x (.list fc (fst.map Y2)) (.list sc (sk.map eI)) m q.2++ [Kv ⟨i,v,[a0,a1,a2,a3,a4,a5]⟩,.cells [.p (.int .i64 (((nth fst i).take q.1).foldl F (-1)))]]) (fun q=>q.1<=(nth fst i).length/\sG x.orders.length m x fst sk q.2) (fun q=>(nth fst i).length-q.1) (0,l) ⟨Zb,hl⟩ (Weak.mk ?_) ?_
    ·simp (disch:=omega) only [XX,YS,Kv,ZN,Zk,ZP,ZR,UF,V2,go_sem,seval,↓reduceIte]
    ·rintro ⟨k,l1⟩ ⟨hk,hl1⟩;simp only at hk hl1;have hl1R: ∀p∈l1,StR p.1:=fun p hp=>(hl1 p hp).1.len;generalize hacc:((nth fst i).take k).foldl F (-1)=acc;refine Zdv ?_;refine cD ?_ ?_<;>intro h2<;>simp (disch:=omega) only [Sh.out h2,go_sem,seval,↓reduceIte]
     ·have hk2:k<(nth fst i).length:=Za
      have hm:=ZV hk2
      have hs1:((nth fst i).take (k+1)).foldl F (-1)=F acc (nth (nth fst i) k):=by
       grind [ZE,Zi]
      obtain ⟨⟨t0,t1⟩,⟨S,hS,hS2⟩,hb,hp0,hp1⟩:=hc.col i Za _ hm;obtain ⟨C,hC,hC2⟩:=hv.cov;simp only at hC;have h6:=hc.typ.1;obtain ⟨tt,htt⟩: ∃tt:Nat,(nth (nth fst i) k).typ=tt:=⟨(nth (nth fst i) k).typ.toNat,Za⟩;have cw:=iJ x (.list fc (fst.map Y2)) (.list sc (sk.map eI)) m l1 ⟨i,v,[a0,a1,a2,a3,a4,a5]⟩ (nth (nth fst i) k) hv.len Zb hn (by grind) C S tt hC hS htt hC2 hS2 Za h6 hv.used
      have hmay:Yo x ⟨i,v,[a0,a1,a2,a3,a4,a5]⟩ (nth (nth fst i) k)=Dg x ⟨i,v,[a0,a1,a2,a3,a4,a5]⟩ tt C S:=by grind [Yo,XK]
      have hwc:Vi x.orders.length m ⟨i,v,[a0,a1,a2,a3,a4,a5]⟩ (nth (nth fst i) k)=B1 x.orders.length m ⟨i,v,[a0,a1,a2,a3,a4,a5]⟩ tt C S:=by grind [Vi]
      by_cases hy:Dg x ⟨i,v,[a0,a1,a2,a3,a4,a5]⟩ tt C S=true
      ·obtain ⟨v1,v2⟩:=DG (m:=m) hc hv (by grind) (by simpa using hm) (by grind);rw [hwc] at v1 v2;obtain ⟨j,w,b0,b1,b2,b3,b4,b5,hw⟩:=Yy v1.len;rw [if_pos hy,hw] at cw;refine cw.useP (L:= [_,_,_]) (by rfl) ?_ (by rfl) (by rfl);refine Za7 ?_;refine Q7 [5] [1,2] [4] 6 mixed Zd Zd Zd Zd Zb (Yv ?_);refine ⟨fun q hq p hp=> ?_,?_⟩
       ·simp only [Xq,Jj,or_false] at hq;rcases hq with rfl | rfl
        ·obtain rfl:10=p:=Vu hp;exact WY (by decide)
        ·obtain rfl:57=p:=Vu hp;exact WY (by decide)
       ·have c3:=((ih ⟨j,w,[b0,b1,b2,b3,b4,b5]⟩ l1 Za (hw ▸ v1) (by grind) hl1).mono (fun y H' hq=>(⟨hq,by obtain ⟨l',_,_,rfl⟩:=hq;rfl⟩:_/\H'.length=(XX x (.list fc (fst.map Y2)) (.list sc (sk.map eI)) m l1).length))).front (by rfl) (by rfl) [Kv ⟨i,v,[a0,a1,a2,a3,a4,a5]⟩,.cells [.p (.int .i64 acc)],Hr (nth (nth fst i) k),Kv ⟨j,w,[b0,b1,b2,b3,b4,b5]⟩];refine Gf 5 _ Zd (by refine Yv ?_;exact c3) ?_;rintro y H' ⟨H1,⟨l2,hl2,rfl,rfl⟩,rfl⟩;refine ⟨fun k hk=>by simp at hk;subst hk;rfl,HG ?_⟩;simp (disch:=omega) only [XX,YS,Kv,Hr,ZN,Zk,ZP,ZR,go_sem,seval]
        have hrg:=VK (m:=m) hc 20 _ v1;rw [hw] at hrg;have c4:=(((IR acc (nth (nth fst i) k).price (YT x.orders.length m x fst sk 20 ⟨j,w,[b0,b1,b2,b3,b4,b5]⟩) Za Za).back [.map (l2.map (I5 Aj)),YS x (.list fc (fst.map Y2)) (.list sc (sk.map eI)) m,Kv ⟨i,v,[a0,a1,a2,a3,a4,a5]⟩] (by rfl)).mono (fun y H' hq=>(⟨hq,by grind⟩:_/\H'.length=4))).front (by rfl) (by rfl) [Hr (nth (nth fst i) k),Kv ⟨j,w,[b0,b1,b2,b3,b4,b5]⟩];refine ACalls.mono c4 ?_;rintro y H' ⟨H1,⟨y1,H2,⟨rfl,rfl⟩,rfl,rfl⟩,rfl⟩;simp (disch:=omega) only [YS,Kv,Hr,ZN,Zk,ZP,ZR,shO,shVs,shV,go_sem,seval]
        have hF:F acc (nth (nth fst i) k)=YI acc (nth (nth fst i) k).price (YT x.orders.length m x fst sk 20 ⟨j,w,[b0,b1,b2,b3,b4,b5]⟩):=by
         show (if _ then _ else _)=_
         rw [if_pos (by grind),hwc,QL hc 19 20 _ v1 (by grind) (by grind),hw]
        exact ⟨(k+1,l2),⟨Za,hl2⟩,Za,Weak.mk (by simp (disch:=omega) only [hs1,hF,go_sem,seval])⟩
      ·rw [if_neg hy] at cw;refine cw.useP (L:= [_,_,_]) (by rfl) ?_ (by rfl) (by rfl);refine Za7 ?_;have hF:F acc (nth (nth fst i) k)=acc:=if_neg (by grind);exact ⟨(k+1,l1),⟨Za,hl1⟩,Za,Weak.mk (by simp (disch:=omega) only [hs1,hF,go_sem,seval])⟩
     ·have hkl:k=(nth fst i).length:=Za
      subst hkl;rw [UB] at hacc
      have hTe:T=if 0<=nth sk i then YI acc (nth sk i) (YT x.orders.length m x fst sk 19 (Ct x.orders.length m ⟨i,v,[a0,a1,a2,a3,a4,a5]⟩)) else acc:=by
       rw [hT,show (20:Nat)=19+1 from rfl,YT,if_neg Za,<- hacc]
       rfl
      refine Xd (Yv ?_);refine cD ?_ ?_<;>intro h3<;>simp (disch:=omega) only [Sh.out h3,go_sem,seval,↓reduceIte]
      ·have cn:=GV x (.list fc (fst.map Y2)) (.list sc (sk.map eI)) m l1 ⟨i,v,[a0,a1,a2,a3,a4,a5]⟩ hv.len Zb hn (by grind);obtain ⟨v1,v2⟩:=HM (m:=m) hv (by grind);obtain ⟨j,w,b0,b1,b2,b3,b4,b5,hw⟩:=Yy v1.len;have hsk:=hc.skp i Za;have hrg:=VK (m:=m) hc 20 _ v1;rw [hw] at cn v1 v2 hrg;simp only at v2;refine cn.useP (L:= [_,_]) (by rfl) ?_ (by rfl) (by rfl);refine Za7 ?_;have c3:=((ih ⟨j,w,[b0,b1,b2,b3,b4,b5]⟩ l1 Za v1 (by grind) hl1).mono (fun y H' hq=>(⟨hq,by obtain ⟨l',_,_,rfl⟩:=hq;rfl⟩:_/\H'.length=(XX x (.list fc (fst.map Y2)) (.list sc (sk.map eI)) m l1).length))).front (by rfl) (by rfl) [Kv ⟨i,v,[a0,a1,a2,a3,a4,a5]⟩,.cells [.p (.int .i64 acc)]]
       refine ACalls.mono c3 ?_;rintro y H' ⟨H1,⟨l2,hl2,rfl,rfl⟩,rfl⟩;refine Zdv ?_;refine ACalls.mono ((IR acc (nth sk i) (YT x.orders.length m x fst sk 20 ⟨j,w,[b0,b1,b2,b3,b4,b5]⟩) Za Za).back [.map (l2.map (I5 Aj)),YS x (.list fc (fst.map Y2)) (.list sc (sk.map eI)) m,Kv ⟨i,v,[a0,a1,a2,a3,a4,a5]⟩] (by rfl)) ?_;rintro y H' ⟨y1,H2,⟨rfl,rfl⟩,rfl,rfl⟩;simp (disch:=omega) only [YS,Kv,ZN,Zk,ZP,ZR,shO,shVs,shV,go_sem,seval];refine Z1 6 mixed Zd Zd ?_
       refine Yv ?_;refine HW (l:=l2) (k:=(⟨i,v,[a0,a1,a2,a3,a4,a5]⟩:St)) Ny (fun p hp=>(hl2 p hp).1.len) hv.len (by rfl) fun l3 _ hl3=> ?_;simp (disch:=omega) only [Xj,go_sem,seval];rw [if_pos h3,QL hc 19 20 _ (by grind) (by grind) (by grind),hw] at hTe;rw [<- hTe];exact ⟨.p (.int .i64 T),_,wk,l3,fun p hp=>(hl3 p hp).elim (hl2 p) (fun e=>by grind),rfl,rfl⟩
      ·refine Z1 6 mixed Zd Zd (Yv ?_);refine HW (l:=l1) (k:=(⟨i,v,[a0,a1,a2,a3,a4,a5]⟩:St)) Ny hl1R hv.len (by rfl) fun l3 _ hl3=> ?_;simp (disch:=omega) only [Xj,go_sem,seval];rw [if_neg h3] at hTe;rw [<- hTe];exact ⟨.p (.int .i64 T),_,wk,l3,fun p hp=>(hl3 p hp).elim (hl1 p) (fun e=>by grind),rfl,rfl⟩
def Ia (n:Nat) (m:Int) (x:Inst) (fst:List (List Col)) (sk:List Int) (s:St) (c:Col):Bool :=
 Yo x s c&&(decide (0<=YT n m x fst sk 20 (Vi n m s c))&&decide (c.price+YT n m x fst sk 20 (Vi n m s c)=YT n m x fst sk 20 s))
def Yc (n:Nat) (m:Int) (x:Inst) (fst:List (List Col)) (sk:List Int):Nat->St->List Col×List Int
 | 0,_=>([],[])
 | d+1,s=>if (n:Int)<=s.ix then ([],[]) else match (nth fst s.ix.toNat).find? (Ia n m x fst sk s) with
  | some c=>(c::(Yc n m x fst sk d (Vi n m s c)).1,(Yc n m x fst sk d (Vi n m s c)).2)
  | none=>((Yc n m x fst sk d (Ct n m s)).1,s.ix::(Yc n m x fst sk d (Ct n m s)).2)
theorem Lc {α:Type} [Inhabited α] {p:α->Bool} : ∀ {l:List α} {k:Nat},k<l.length->(∀j,j<k->p (nth l j)=false)->p (nth l k)=true->l.find? p=some (nth l k)
 | [],_,h,_,_=>by simp at h
 | a::l,0,_,_,h=>by
  grind [nth]
 | a::l,k+1,hk,h0,h=>by
  rw [List.find?_cons_of_neg (by rw [show p a=false from h0 0 Za];simp)];exact Lc (l:=l) (k:=k) (by simpa using hk) (fun j hj=>h0 (j+1) Za) h
theorem lM {α:Type} [Inhabited α] {p:α->Bool} {l:List α} (h: ∀j,j<l.length->p (nth l j)=false):l.find? p=none:=by
 rw [KN];intro a ha;obtain ⟨j,hj,rfl⟩:=ZD.1 ha
 grind [Zi]
theorem Zbn (X:AM.Obj) (hX: ∀H n,DH H n X X) (hX2: ∀o xs,OZ o xs X=X) (x:Inst) (fst:List (List Col)) (sk:List Int) (fc sc:Bool) (m:Int) (hn:x.orders.length<=10) (hf:fst.length=x.orders.length) (hs:sk.length=x.orders.length) (hc:ChOk x.orders.length x fst sk) (hcl: ∀r∈fst,r.length<=1048576)
  (s:St) (l:List (St×Int)) (hv:StV x.orders.length s) (hl:sG x.orders.length m x fst sk l) :
  ACalls Tryz.prog 102 [.ptr 1 0,.p (Aj s)] (XX x (.list fc (fst.map Y2)) (.list sc (sk.map eI)) m l++ [X]) fun y H'=> ∃l' A B,sG x.orders.length m x fst sk l'/\(A,B)=Yc x.orders.length m x fst sk 20 s /\
   y= .tup [.sl 4 0 A.length A.length,.p (.list false (B.map eI))]/\H'=XX x (.list fc (fst.map Y2)) (.list sc (sk.map eI)) m l'++ [X,.cells (List.replicate 8 .junk),.elems 7 (A.map Xg)]:=by
 obtain ⟨i,v,a0,a1,a2,a3,a4,a5,rfl⟩:=Yy hv.len;obtain ⟨D,hD⟩: ∃D,D=20:=⟨20,rfl⟩;obtain ⟨R,hR⟩: ∃R,R=Yc x.orders.length m x fst sk D ⟨i,v,[a0,a1,a2,a3,a4,a5]⟩:=⟨_,rfl⟩;rw [<- hD,<- hR];have hi0:=hv.ix;simp only at hi0;refine Ze [20] Tryz.func102 rfl vM ?_;simp (disch:=omega) only [Tryz.f102,ZP,ZR,XX,YS,ZN,Zk,go_sem,seval]
 refine ZS [20] [0,3] (fun q:Nat×St×List (St×Int)×List Col×List Int=> [(6,.sl 4 0 q.2.2.2.1.length q.2.2.2.1.length),(7,.sl 5 0 q.2.2.2.2.length q.2.2.2.2.length)])
  (fun q=>XX x (.list fc (fst.map Y2)) (.list sc (sk.map eI)) m q.2.2.1++ [X,Kv q.2.1,.elems 7 (q.2.2.2.1.map Xg),.elems 1 (q.2.2.2.2.map eI)])
  (fun q=>q.1<=D/\StV x.orders.length q.2.1/\(x.orders.length:Int)-q.2.1.ix<q.1/\sG x.orders.length m x fst sk q.2.2.1/\(q.2.2.2.1.length:Int)<=q.2.1.ix/\(q.2.2.2.2.length:Int)<=q.2.1.ix/\R=(q.2.2.2.1++(Yc x.orders.length m x fst sk q.1 q.2.1).1,q.2.2.2.2++(Yc x.orders.length m x fst sk q.1 q.2.1).2))
  (fun q=>q.1) (D,⟨i,v,[a0,a1,a2,a3,a4,a5]⟩,l,[],[]) ⟨Zb,hv,by grind,hl,by grind,by grind,by rw [hR];rfl⟩
  (Weak.ofNil 6 7 (by simp (disch:=omega) only [go_sem,seval]) Zb (Weak.ofNil 7 1 (by simp (disch:=omega) only [go_sem,seval]) Zb (Weak.mk ?_))) ?_
 ·simp (disch:=omega) only [hX,XX,YS,Kv,ZN,Zk,ZP,ZR,ZQ,go_sem,seval,↓reduceIte]
 ·rintro ⟨d,s,l1,A,B⟩ ⟨hd1,hsv,hd,hl1,hA,hB,hq⟩;simp only at hd1 hsv hd hl1 hA hB hq;clear hv hR hi0;obtain ⟨i,v,a0,a1,a2,a3,a4,a5,rfl⟩:=Yy hsv.len;have hi0:=hsv.ix;simp only at hi0 hd hA hB hq;obtain ⟨i,rfl⟩: ∃k:Nat,i=k:=⟨i.toNat,Za⟩;obtain ⟨d,rfl⟩: ∃k,d=k+1:=⟨d-1,Za⟩;refine Zdv ?_;refine Xd ?_;refine Yv ?_;refine cD ?_ ?_<;>intro h1<;>simp (disch:=omega) only [Sh.out h1,go_sem,seval,↓reduceIte]
  ·have hi2:i<fst.length:=Za
   have hrl:=hcl _ (ZV hi2);have c3:=((Dn x fst sk fc sc m hn hf hs hc hcl 20 ⟨i,v,[a0,a1,a2,a3,a4,a5]⟩ l1 Za hsv (by grind) hl1).mono (fun y H' hq=>(⟨hq,by obtain ⟨l',_,_,rfl⟩:=hq;rfl⟩:_/\H'.length=(XX x (.list fc (fst.map Y2)) (.list sc (sk.map eI)) m l1).length))).front (by rfl) (by rfl) [X,Kv ⟨i,v,[a0,a1,a2,a3,a4,a5]⟩,.elems 7 (A.map Xg),.elems 1 (B.map eI)];refine ACalls.mono c3 ?_;rintro y H' ⟨H1,⟨l2,hl2,rfl,rfl⟩,rfl⟩;clear hl1 c3;obtain ⟨W,hW⟩: ∃W,W=YT x.orders.length m x fst sk 20 ⟨i,v,[a0,a1,a2,a3,a4,a5]⟩:=⟨_,rfl⟩
   rw [<- hW]
   have hWr: -1<=W/\W<=20*18014398509481984:=by rw [hW];exact VK hc 20 _ hsv
   refine Zdv ?_;refine Xd (Yv ?_);refine Zj [0,3,7,8,34,35] (fun q:Nat×List (St×Int)=> [(6,.sl 4 0 A.length A.length),(9,.p (.bool false)),(36,.p (.int .i64 q.1))]) (fun q=>XX x (.list fc (fst.map Y2)) (.list sc (sk.map eI)) m q.2++ [X,Kv ⟨i,v,[a0,a1,a2,a3,a4,a5]⟩,.elems 7 (A.map Xg),.elems 1 (B.map eI)]) (fun q=>q.1<=(nth fst i).length/\sG x.orders.length m x fst sk q.2/\ ∀j,j<q.1->Ia x.orders.length m x fst sk ⟨i,v,[a0,a1,a2,a3,a4,a5]⟩ (nth (nth fst i) j)=false) (fun q=>(nth fst i).length-q.1) (0,l2) ⟨Zb,hl2,fun j hj=>by simp at hj⟩ (Weak.mk ?_) ?_
   ·simp (disch:=omega) only [hX,XX,YS,Kv,ZN,Zk,ZP,ZR,go_sem,seval,↓reduceIte]
   ·rintro ⟨k,l1⟩ ⟨hk,hl1,hno⟩;simp only at hk hl1 hno;refine Zdv ?_;refine cD ?_ ?_<;>intro h2<;>simp (disch:=omega) only [Sh.out h2,go_sem,seval,↓reduceIte]
    ·have hk2:k<(nth fst i).length:=Za
     have hm:=ZV hk2;obtain ⟨⟨t0,t1⟩,⟨S,hS,hS2⟩,hb,hp0,hp1⟩:=hc.col i Za _ hm;obtain ⟨C,hC,hC2⟩:=hsv.cov;simp only at hC;have h6:=hc.typ.1;obtain ⟨tt,htt⟩: ∃tt:Nat,(nth (nth fst i) k).typ=tt:=⟨(nth (nth fst i) k).typ.toNat,Za⟩;have cw:=iJ x (.list fc (fst.map Y2)) (.list sc (sk.map eI)) m l1 ⟨i,v,[a0,a1,a2,a3,a4,a5]⟩ (nth (nth fst i) k) hsv.len Zb hn (by grind) C S tt hC hS htt hC2 hS2 Za h6 hsv.used
     have hmay:Yo x ⟨i,v,[a0,a1,a2,a3,a4,a5]⟩ (nth (nth fst i) k)=Dg x ⟨i,v,[a0,a1,a2,a3,a4,a5]⟩ tt C S:=by grind [Yo]
     have hwc:Vi x.orders.length m ⟨i,v,[a0,a1,a2,a3,a4,a5]⟩ (nth (nth fst i) k)=B1 x.orders.length m ⟨i,v,[a0,a1,a2,a3,a4,a5]⟩ tt C S:=by grind [Vi]
     have more:Ia x.orders.length m x fst sk ⟨i,v,[a0,a1,a2,a3,a4,a5]⟩ (nth (nth fst i) k)=false-> ∀j,j<k+1->Ia x.orders.length m x fst sk ⟨i,v,[a0,a1,a2,a3,a4,a5]⟩ (nth (nth fst i) j)=false:=fun h j hj=>by
      grind
     by_cases hy:Dg x ⟨i,v,[a0,a1,a2,a3,a4,a5]⟩ tt C S=true
     ·obtain ⟨v1,v2⟩:=DG (m:=m) hc hsv Za (by simpa using hm) (by grind);rw [hwc] at v1 v2;obtain ⟨j,w,b0,b1,b2,b3,b4,b5,hw⟩:=Yy v1.len;rw [if_pos hy,hw] at cw;refine cw.useP (L:= [_,_,_,_,_]) (by rfl) ?_ (by rfl) (by rfl);refine Za7 ?_;have c3:=((Dn x fst sk fc sc m hn hf hs hc hcl 20 ⟨j,w,[b0,b1,b2,b3,b4,b5]⟩ l1 Za (hw ▸ v1) (by grind) hl1).mono (fun y H' hq=>(⟨hq,by obtain ⟨l',_,_,rfl⟩:=hq;rfl⟩:_/\H'.length=(XX x (.list fc (fst.map Y2)) (.list sc (sk.map eI)) m l1).length))).front (by rfl) (by rfl) [X,Kv ⟨i,v,[a0,a1,a2,a3,a4,a5]⟩,.elems 7 (A.map Xg),.elems 1 (B.map eI),Hr (nth (nth fst i) k),Kv ⟨j,w,[b0,b1,b2,b3,b4,b5]⟩]
      refine ACalls.mono c3 ?_;rintro y H' ⟨H1,⟨l3,hl3,rfl,rfl⟩,rfl⟩;have hTr:=VK (m:=m) hc 20 _ v1
      have hsel:Ia x.orders.length m x fst sk ⟨i,v,[a0,a1,a2,a3,a4,a5]⟩ (nth (nth fst i) k)=(decide (0<=YT x.orders.length m x fst sk 20 ⟨j,w,[b0,b1,b2,b3,b4,b5]⟩)&&decide ((nth (nth fst i) k).price+YT x.orders.length m x fst sk 20 ⟨j,w,[b0,b1,b2,b3,b4,b5]⟩=W)):=by
       rw [Ia,hmay,hy,hwc,hw,hW,Zge]
      rw [hw] at hTr;generalize YT x.orders.length m x fst sk 20 ⟨j,w,[b0,b1,b2,b3,b4,b5]⟩=T at hTr hsel;simp (disch:=omega) only [XX,YS,Kv,Hr,ZN,Zk,ZP,ZR,go_sem,seval];refine gT ?_ ?_<;>intro h3<;>simp (disch:=omega) only [Sh.out h3,go_sem,seval,↓reduceIte]
      ·refine cD ?_ ?_<;>intro h4<;>simp (disch:=omega) only [Sh.out h4,go_sem,seval,↓reduceIte]
       ·rw [Wv h3,Wv h4,Zge] at hsel
        have hp:Yc x.orders.length m x fst sk (d+1) ⟨i,v,[a0,a1,a2,a3,a4,a5]⟩=(nth (nth fst i) k::(Yc x.orders.length m x fst sk d ⟨j,w,[b0,b1,b2,b3,b4,b5]⟩).1,(Yc x.orders.length m x fst sk d ⟨j,w,[b0,b1,b2,b3,b4,b5]⟩).2):=by
         rw [Yc,if_neg (by grind)];simp only [XK,Lc hk2 hno hsel,hwc,hw]
        rw [hw] at v1 v2;simp only at v2;rw [hp] at hq;exact ⟨(d,⟨j,w,[b0,b1,b2,b3,b4,b5]⟩,l3,A++ [nth (nth fst i) k],B),⟨Za,v1,by grind,hl3,by grind,by grind,by grind⟩,Za,Weak.mk (by simp (disch:=omega) only [hX,ZN,Zk,Xi,Zm,Zz,ZQ,Xl,go_sem,seval])⟩
       ·rw [UG h4,Bool.and_false] at hsel;exact ⟨(k+1,l3),⟨Za,hl3,more hsel⟩,Za,Weak.mk (by simp (disch:=omega) only [hX,go_sem,seval])⟩
      ·rw [UG h3,Jw] at hsel;exact ⟨(k+1,l3),⟨Za,hl3,more hsel⟩,Za,Weak.mk (by simp (disch:=omega) only [hX,go_sem,seval])⟩
     ·rw [if_neg hy] at cw;refine cw.useP (L:= [_,_,_,_,_]) (by rfl) ?_ (by rfl) (by rfl);refine Za7 ?_;exact ⟨(k+1,l1),⟨Za,hl1,more (by rw [Ia,hmay,Bool.eq_false_iff.2 hy,Jw])⟩,Za,Weak.mk (by simp (disch:=omega) only [hX,go_sem,seval])⟩
    ·have hkl:k=(nth fst i).length:=Za
     subst hkl
     have hp:Yc x.orders.length m x fst sk (d+1) ⟨i,v,[a0,a1,a2,a3,a4,a5]⟩=((Yc x.orders.length m x fst sk d (Ct x.orders.length m ⟨i,v,[a0,a1,a2,a3,a4,a5]⟩)).1,(i:Int)::(Yc x.orders.length m x fst sk d (Ct x.orders.length m ⟨i,v,[a0,a1,a2,a3,a4,a5]⟩)).2):=by
      simp_all [Yc,lM]
     rw [hp] at hq;have cn:=GV x (.list fc (fst.map Y2)) (.list sc (sk.map eI)) m l1 ⟨i,v,[a0,a1,a2,a3,a4,a5]⟩ hsv.len Zb hn (by grind);obtain ⟨v1,v2⟩:=HM (m:=m) hsv Za;obtain ⟨j,w,b0,b1,b2,b3,b4,b5,hw⟩:=Yy v1.len;rw [hw] at cn v1 v2 hq;simp only at v2;refine cn.useP (L:= [_,_,_,_,_]) (by rfl) ?_ (by rfl) (by rfl);refine Za7 ?_;exact ⟨(d,⟨j,w,[b0,b1,b2,b3,b4,b5]⟩,l1,A,B++ [(i:Int)]),⟨Za,v1,by grind,hl1,by grind,by grind,by grind⟩,Za,Weak.mk (by simp (disch:=omega) only [hX,ZN,Zk,Xi,Zm,Zz,ZQ,Xl,go_sem,seval])⟩
  ·rw [Yc,if_pos (by grind)] at hq;simp only [We] at hq;subst hq;refine Zp (Weak.fz (o:=5) (by rfl)) (Zf [] _ _ _ _ (Kw ?_));exact ⟨.tup [.sl 4 0 A.length A.length,.p (.list false (B.map eI))],_,Weak.mk (by simp (disch:=omega) only [hX,hX2,go_sem,seval]),l1,A,B,hl1,rfl,rfl,rfl⟩
def Hx (a:List Int) (i:Nat):Nat->Bool
 | 0=>true
 | k+1=>Hx a i k&&decide (nth a k≠nth a i)
theorem Lm {a:List Int} {i:Nat} : ∀k,Hx a i k=true↔ ∀t,t<k->nth a t≠nth a i
 | 0=>by simp [Hx]
 | k+1=>by
  rw [Hx,ZG,Lm k,Zl]
  grind
def RO (a:List Int) (i:Nat):Bool:=Hx a i i
theorem Ef {a:List Int} {i:Nat} :RO a i=true↔ ∀t,t<i->nth a t≠nth a i:=Lm i
def BZ (l:List Col) (a:List Int) (T:Int) (i:Nat):Bool:=decide (0<=nth a i)&&(decide ((nth l (nth a i).toNat).typ=T)&&RO a i)
def usdI (l:List Col) (a:List Int) (T:Int):Nat->Nat
 | 0=>0
 | i+1=>usdI l a T i+(if BZ l a T i=true then 1 else 0)
def UN (S:Nat) (a:List Int) (j:Int):List Int:=(List.range a.length).map fun i=>if S.testBit i=true then j else nth a i
theorem QT {S:Nat} {a:List Int} {j:Int} :(UN S a j).length=a.length:=by simp [UN]
theorem XA {S:Nat} {a:List Int} {j:Int} {i:Nat} (h:i<a.length):nth (UN S a j) i=if S.testBit i=true then j else nth a i:=by
 grind [UN,Zi]
def mN (S:Nat) (a:List Int) (k:Nat):Bool:=(List.range a.length).all fun i=> !S.testBit i||(decide (nth a i<0)&&decide (k<=i))
theorem K2 {S:Nat} {a:List Int} {k:Nat} :mN S a k=true↔ ∀i,i<a.length->S.testBit i=true->nth a i<0/\k<=i:=by
 simp only [mN,ZC,Xa,Wd,XR,ZG,Zl]
 grind
def Da (x:Inst) (l:List Col) (a:List Int) (j k:Nat):Bool :=
 (nth l j).set.toNat.testBit k&&(decide ((usdI l a (nth l j).typ a.length:Int)<(nth x.types (nth l j).typ.toNat).count)&&mN (nth l j).set.toNat a k)
def skR (x:Inst) (k:Nat):Int:=(Wm (unsF x k).1).1
def B7 (x:Inst) (l:List Col):Nat->List Int->Int->List (List Int×Int)
 | 0,a,p=> [(a,p)]
 | d+1,a,p=>if (nth x.orders (x.orders.length-(d+1))).off=true\/0<=nth a (x.orders.length-(d+1)) then B7 x l d a p else
  ((List.range l.length).flatMap fun j=>if Da x l a j (x.orders.length-(d+1))=true then B7 x l d (UN (nth l j).set.toNat a j) (p+(nth l j).price) else []) ++
   (if 0<=(nth x.orders (x.orders.length-(d+1))).penalty then B7 x l d a (p+skR x (x.orders.length-(d+1))) else [])
theorem Hh (n:Nat) (hn:n<=60):PC 111 [.p (.int .i64 n)] (.int .i64 (pw n:Nat)):=by
 refine Zc Tryz.func111 rfl vS ?_;simp (disch:=omega) only [Tryz.f111,go_sem,seval];refine Zj [0] (fun k:Nat=> [(3,.p (.int .i64 (pw k:Nat))),(4,.p (.int .i64 k))]) (fun _=> []) (fun k=>k<=n) (fun k=>n-k) 0 Zb (Weak.mk ?_) ?_
 ·refine Yv ?_;simp [pw]
 ·intro k hk;have h62:pw k<=pw 62:=JK Za;have h63:k<n->pw (k+1)<=pw 62:=fun h=>JK Za;have h64:=DB k;have h65:=EH;refine Yv ?_;refine cD ?_ ?_<;>intro h<;>simp (disch:=omega) only [Sh.out h,go_sem,seval,↓reduceIte]
  ·exact ⟨k+1,Za,Za,Weak.mk (by refine Yv ?_;simp [h64])⟩
  grind
theorem HC (s:Nat) (i:Nat) (hs:s<9223372036854775808) (hi:i<=64):PC 214 [.p (.int .i64 s),.p (.int .i64 i)] (.bool (s.testBit i)):=by
 refine Zc Tryz.func214 rfl xW ?_;simp (disch:=omega) only [Tryz.f214,go_sem,seval];refine Zj [1] (fun k:Nat=> [(0,.p (.int .i64 (hv s k:Nat))),(5,.p (.int .i64 k))]) (fun _=> []) (fun k=>k<=i) (fun k=>i-k) 0 Zb (Weak.mk ?_) ?_
 ·simp (disch:=omega) only [O5,go_sem,seval]
 ·intro k hk;have e1:=O4 s k;have h1:=rG s k;refine Yv ?_;refine ZH ?_ ?_<;>intro h
  ·exact ⟨k+1,Za,Za,Weak.mk (by refine Yv ?_;grind)⟩
  ·have:k=i:=Za
   subst this;rw [cK]
   have:((hv s k:Nat):Int)%2=1↔hv s k%2=1:=Za
   grind
structure Chc where
 found:Bool
 places:List Int
 price:Int
 deriving Inhabited
def Vk (x:Inst) (lc:Bool) (l:List Col) (b:Chc):AM.Obj:= .cells [.p (.list x.net.places_c (x.net.places.map eS)),.p (.list x.net.arcs_c (x.net.arcs.map VW)),.p (.list x.types_c (x.types.map Vr)),.p (.list x.orders_c (x.orders.map eOrd)),.p (.list x.apart_c (x.apart.map eP)),.p (.list x.before_c (x.before.map eP)),.p (.list lc (l.map Xg)),.p (.bool b.found),.p (.list (!b.found) (b.places.map eI)),.p (.int .i64 b.price)]
theorem PP {l:List Col} {a:List Int} {T:Int} : ∀m,usdI l a T m<=m
 | 0=>ZL _
 | m+1=>by
  have:=PP (l:=l) (a:=a) (T:=T) m;rw [usdI];split<;>omega
theorem Zdh {P Q:Prop} (h:Q) (e:Q->P:=by intro h;simp (disch:=omega) only [Vk,go_sem,seval];exact h):P:=e h
theorem iC (x:Inst) (lc:Bool) (l:List Col) (b:Chc) (a:List Int) (T:Int) (ha:a.length<=1048576) (hr: ∀i,i<a.length-> -1<=nth a i/\nth a i<l.length) (hl:l.length<=1048576) :
  ACalls Tryz.prog 216 [.ptr 0 0,.p (.list false (a.map eI)),.p (.int .i64 T)] [Vk x lc l b] fun y H'=>y= .p (.int .i64 (usdI l a T a.length:Nat))/\H'= [Vk x lc l b]:=by
 refine Ze [] Tryz.func216 rfl xY ?_;simp (disch:=omega) only [Tryz.f216,Vk,go_sem,seval];refine Zj [0,1,2] (fun k:Nat=> [(7,.p (.int .i64 (usdI l a T k:Nat))),(8,.p (.int .i64 k))]) (fun _=> [Vk x lc l b]) (fun k=>k<=a.length) (fun k=>a.length-k) 0 Zb (Weak.mk ?_) ?_
 ·have h00:((usdI l a T 0:Nat):Int)=0:=rfl;simp (disch:=omega) only [h00,Vk,go_sem,seval,↓reduceIte]
 ·intro k hk;have hu:=PP (l:=l) (a:=a) (T:=T) k;refine Zdh ?_;refine cD ?_ ?_<;>intro h1<;>simp (disch:=omega) only [Sh.out h1,go_sem,seval,↓reduceIte]
  ·have hk2:k<a.length:=Za
   have hrk:=hr k hk2;refine Xd (Yv ?_);refine gF ?_ ?_<;>intro h2<;>simp (disch:=omega) only [Sh.out h2,go_sem,seval,↓reduceIte]
   ·have e:usdI l a T (k+1)=usdI l a T k:=by grind [usdI,BZ]
    exact ⟨k+1,Za,Za,Weak.mk (by simp (disch:=omega) only [e,go_sem,seval])⟩
   ·refine cD ?_ ?_<;>intro h3<;>simp (disch:=omega) only [Sh.out h3,go_sem,seval,↓reduceIte]
    ·have e:usdI l a T (k+1)=usdI l a T k:=by grind [usdI,BZ]
     exact ⟨k+1,Za,Za,Weak.mk (by simp (disch:=omega) only [e,go_sem,seval])⟩
    ·have h3':(nth l (nth a k).toNat).typ=T:=Xk.1 h3;refine Zj [0,1,2,7,8] (fun q:Nat=> [(9,.p (.bool (Hx a k q))),(10,.p (.int .i64 q))]) (fun _=> [Vk x lc l b]) (fun q=>q<=k) (fun q=>k-q) 0 Zb (Weak.mk ?_) ?_
     ·simp (disch:=omega) only [Vk,Hx,go_sem,seval,↓reduceIte]
     ·intro q hq;refine Zdh ?_;refine cD ?_ ?_<;>intro h4<;>simp (disch:=omega) only [Sh.out h4,go_sem,seval,↓reduceIte]
      ·refine Z1 12 mixed Zd Zd (Yv ?_);refine gT ?_ ?_<;>intro h5<;>simp (disch:=omega) only [Sh.out h5,go_sem,seval,↓reduceIte]
       ·exact ⟨q+1,Za,Za,Weak.mk (by simp (disch:=omega) only [Hx,h5,Zge,go_sem,seval])⟩
       ·exact ⟨q+1,Za,Za,Weak.mk (by simp (disch:=omega) only [Hx,h5,Jw,go_sem,seval])⟩
      ·have hqk:q=k:=Za
       subst hqk;refine cD ?_ ?_<;>intro h5<;>simp (disch:=omega) only [Sh.out h5,go_sem,seval,↓reduceIte]
       ·have e:usdI l a T (q+1)=usdI l a T q+1:=by grind [usdI,BZ,RO]
        exact ⟨q+1,Za,Za,Weak.mk (by simp (disch:=omega) only [e,go_sem,seval])⟩
       ·have e:usdI l a T (q+1)=usdI l a T q:=by grind [usdI,BZ,RO]
        exact ⟨q+1,Za,Za,Weak.mk (by simp (disch:=omega) only [e,go_sem,seval])⟩
  ·have hka:k=a.length:=Za
   subst hka;exact we
def Ks (S:Nat) (a:List Int) (j:Int) (k:Nat):List Int:=(List.range a.length).map fun t=>if t<k/\S.testBit t=true then j else nth a t
theorem VT {S:Nat} {a:List Int} {j:Int} {k:Nat} :(Ks S a j k).length=a.length:=by simp [Ks]
theorem Kt {S:Nat} {a:List Int} {j:Int} {k i:Nat} (h:i<a.length):nth (Ks S a j k) i=if i<k/\S.testBit i=true then j else nth a i:=by
 grind [Ks,Zi]
theorem Zks {S:Nat} {a:List Int} {j:Int} :Ks S a j 0=a :=
 UH VT fun i hi=>by simp_all [VT,Kt]
theorem gO {S:Nat} {a:List Int} {j:Int} :Ks S a j a.length=UN S a j :=
 UH (by rw [VT,QT]) fun i hi=>by grind [VT,Kt,XA]
theorem gP {S:Nat} {a:List Int} {j:Int} {k:Nat} (hk:k<a.length) (hb:S.testBit k=true):(Ks S a j k).set k j=Ks S a j (k+1) :=
 UH (by simp [VT]) fun i hi=>by
  rw [KS,VT] at hi;rw [Bw (by rw [VT];exact hk),Kt hi,Kt hi]
  grind
theorem nU {S:Nat} {a:List Int} {j:Int} {k:Nat} (hb:S.testBit k=false):Ks S a j (k+1)=Ks S a j k:=by
 refine Vt fun i _=> ?_
 grind
theorem iI (x:Inst) (lc:Bool) (l:List Col) (b:Chc) (a:List Int) (j k:Nat) (ha:0<a.length/\a.length<=60) (hl:l.length<=1048576) (hj:j<l.length) (S:Nat) (hS:(nth l j).set=S) (hS2:S<9223372036854775808) :
  ACalls Tryz.prog 217 [.ptr 0 0,.p (.list false (a.map eI)),.p (.int .i64 j),.p (.int .i64 k)] [Vk x lc l b] fun y H'=>y=(if mN S a k=true then .tup [.p (.list false ((UN S a j).map eI)),.p (.bool true)] else .tup [.p (.list true []),.p (.bool false)])/\H'= [Vk x lc l b]:=by
 refine Ze [10] Tryz.func217 rfl xZ ?_;simp (disch:=omega) only [Tryz.f217,Vk,go_sem,seval];rw [if_pos ⟨Za,Za⟩];refine Yv ?_;refine ZS [10] [0,2,3,10] (fun q:Nat=> [(11,.p (.int .i64 q))]) (fun q=> [Vk x lc l b,.elems 1 ((Ks S a j q).map eI)]) (fun q=>q<=a.length/\ ∀t,t<q->S.testBit t=true->nth a t<0/\k<=t) (fun q=>a.length-q) 0 ⟨Zb,fun t ht=>Za⟩ (Weak.mk ?_) ?_
 ·simp (disch:=omega) only [Zks,Vk,go_sem,seval,↓reduceIte]
 ·rintro q ⟨hq,hok⟩;have hul:(Ks S a j q).length=a.length:=VT;refine Zdh ?_;rw [if_pos hul];refine Yv ?_;refine cD ?_ ?_<;>intro h1<;>simp (disch:=omega) only [Sh.out h1,go_sem,seval,↓reduceIte]
  ·have hq2:q<a.length:=Za
   rw [hS];refine (HC S q hS2 Za).use (Yv ?_);have hn:=Kt (S:=S) (j:=(j:Int)) (k:=q) hq2;rw [if_neg Za] at hn;refine cD ?_ ?_<;>intro h2<;>simp (disch:=omega) only [Sh.out h2,go_sem,seval,↓reduceIte]
   ·have hq3:q<(Ks S a j q).length:=Za
    simp (disch:=first | omega | (simp only [Zz,ZQ,Zm,Zu,Zy,ZK]<;>omega)) only [Yx hq3,hn,hq2,hul,eq_self,go_sem,seval,↓reduceIte];refine gF ?_ ?_<;>intro h3<;>simp (disch:=omega) only [Sh.out h3,go_sem,seval,↓reduceIte]
    ·have hno:mN S a k=false:=by
      grind [K2]
     exact ⟨.tup [.p (.list true []),.p (.bool false)],_,wk,by rw [hno];rfl,rfl⟩
    ·refine cD ?_ ?_<;>intro h4<;>simp (disch:=omega) only [Sh.out h4,go_sem,seval]
     ·have hno:mN S a k=false:=by
       grind [K2]
      exact ⟨.tup [.p (.list true []),.p (.bool false)],_,wk,by rw [hno];rfl,rfl⟩
     ·have ZF:((Ks S a j q).map eI).set q (.int .i64 j)=(Ks S a j (q+1)).map eI:=by rw [<- gP hq2 h2,V4];rfl
      simp (disch:=first | omega | (simp only [Zz,ZQ,Zm,Zu,Zy,ZK]<;>omega)) only [ZF,hn,eq_self,go_sem,seval,↓reduceIte]
      exact ⟨q+1,⟨Za,fun t ht hb=>by
       grind⟩,Za,wk⟩
   ·have hu:Ks S a j (q+1)=Ks S a j q:=nU h2
    exact ⟨q+1,⟨Za,fun t ht hb=>by
     grind⟩,Za,Weak.mk (by simp (disch:=omega) only [hu,go_sem,seval])⟩
  ·have hqa:q=a.length:=Za
   subst hqa;have hyes:mN S a k=true:=K2.2 hok;rw [hyes,if_pos rfl,gO];have hal:(UN S a j).length=a.length:=QT;refine Zp (Weak.fz (o:=1) (by rfl)) ?_;refine Zf [] _ _ _ _ ?_;simp (disch:=omega) only [ZN,Zk,X2,Xj,hal,eq_self,go_sem,seval];exact ⟨.tup [.p (.list false ((UN S a j).map eI)),.p (.bool true)],_,wk,rfl,rfl⟩
def JM (l:List Col):List Int->List Int->Option Bool
 | x::a,y::b=>if x=y then JM l a b else if x<0\/y<0 then some (decide (0<=x)) else if (nth l x.toNat).typ≠(nth l y.toNat).typ then some (decide ((nth l x.toNat).typ<(nth l y.toNat).typ)) else
   if (nth l x.toNat).set≠(nth l y.toNat).set then some (decide ((nth l x.toNat).set<(nth l y.toNat).set)) else JM l a b
 | _,_=>none
def C8 : List Int->List Int->Bool
 | x::a,y::b=>if x=y then C8 a b else decide (x<y)
 | _,_=>false
def DU (l:List Col) (a b:List Int):Bool:=match JM l a b with
 | some r=>r
 | none=>C8 a b
theorem Zjj {l:List Col} :JM l [] []=none:=by simp [JM]
theorem TZ : C8 [] []=false:=by simp [C8]
theorem QA {l:List Col} {a b:List Int} {r:Bool} (h:JM l a b=some r):DU l a b=r:=by rw [DU,h]
theorem FO {l:List Col} {a b:List Int} (h:JM l a b=none):DU l a b=C8 a b:=by rw [DU,h]
theorem M4 (x:Inst) (lc:Bool) (l:List Col) (b:Chc) (a d:List Int) (dc:Bool) (ha:a.length<=1048576) (hd:d.length=a.length) (hr: ∀i,i<a.length-> -1<=nth a i/\nth a i<l.length) (hq: ∀i,i<a.length-> -1<=nth d i/\nth d i<l.length) (hl:l.length<=1048576) :
  ACalls Tryz.prog 215 [.ptr 0 0,.p (.list false (a.map eI)),.p (.list dc (d.map eI))] [Vk x lc l b] fun y H'=>y= .p (.bool (DU l a d))/\H'= [Vk x lc l b]:=by
 obtain ⟨B,hB⟩: ∃B,B=DU l a d:=⟨_,rfl⟩;rw [<- hB];refine Ze [] Tryz.func215 rfl xX ?_;simp (disch:=omega) only [Tryz.f215,Vk,go_sem,seval];refine Zj [0,1,2] (fun k:Nat=> [(7,.p (.int .i64 k))]) (fun _=> [Vk x lc l b]) (fun k=>k<=a.length/\JM l (a.drop k) (d.drop k)=JM l a d) (fun k=>a.length-k) 0 Zb (Weak.mk ?_) ?_
 ·simp (disch:=omega) only [Vk,go_sem,seval,↓reduceIte]
 ·rintro k ⟨hk,hb⟩;refine Zdh ?_;refine cD ?_ ?_<;>intro h1<;>simp (disch:=omega) only [Sh.out h1,go_sem,seval,↓reduceIte]
  ·have hk2:k<a.length:=Za
   have hk3:k<d.length:=Za
   have hrk:=hr k hk2;have hqk:=hq k hk2;rw [CR hk2,CR hk3,JM] at hb;refine Xd (Yv ?_);refine cD ?_ ?_<;>intro h2<;>simp (disch:=omega) only [Sh.out h2,go_sem,seval,↓reduceIte]
   ·rw [if_pos h2] at hb;exact ⟨k+1,⟨Za,hb⟩,Za,wk⟩
   ·rw [if_neg h2] at hb;refine gF ?_ ?_<;>intro h3<;>simp (disch:=omega) only [Sh.out h3,go_sem,seval,↓reduceIte]
    ·rw [if_pos (.inl h3)] at hb;have e:=QA hb.symm;exact ⟨.p (.bool B),_,Weak.mk (by simp (disch:=omega) only [hB,e,go_sem,seval]),rfl,rfl⟩
    ·refine cD ?_ ?_<;>intro h4<;>simp (disch:=omega) only [Sh.out h4,go_sem,seval,↓reduceIte]
     ·rw [if_pos (.inr h4)] at hb;have e:=QA hb.symm;exact ⟨.p (.bool B),_,Weak.mk (by simp (disch:=omega) only [hB,e,go_sem,seval]),rfl,rfl⟩
     ·rw [if_neg Za] at hb;refine Xc [10] 11 mixed Zd Zd Zd Zb (Yv ?_);refine ZU 10 _ _ Zd (by refine Yv ?_;exact ⟨rfl,rfl⟩) (Yg ?_);refine Yv ?_;refine Xc [10] 11 mixed Zd Zd Zd Zb (Yv ?_);refine ZU 10 _ _ Zd (by refine Yv ?_;exact ⟨rfl,rfl⟩) (Yg ?_);refine Yv ?_;refine cD ?_ ?_<;>intro h5<;>simp (disch:=omega) only [Sh.out h5,go_sem,seval,↓reduceIte]
      ·rw [if_pos h5] at hb;have e:=QA hb.symm;exact ⟨.p (.bool B),_,Weak.mk (by simp (disch:=omega) only [hB,e,go_sem,seval]),rfl,rfl⟩
      ·rw [if_neg h5] at hb;refine cD ?_ ?_<;>intro h6<;>simp (disch:=omega) only [Sh.out h6,go_sem,seval,↓reduceIte]
       ·rw [if_pos h6] at hb;have e:=QA hb.symm;exact ⟨.p (.bool B),_,Weak.mk (by simp (disch:=omega) only [hB,e,go_sem,seval]),rfl,rfl⟩
       ·rw [if_neg h6] at hb;exact ⟨k+1,⟨Za,hb⟩,Za,wk⟩
  ·have hka:k=a.length:=Za
   subst hka;rw [V1,<- hd,V1,Zjj] at hb;have e:=FO hb.symm;refine Zj [1,2] (fun k:Nat=> [(10,.p (.int .i64 k))]) (fun _=> [Vk x lc l b]) (fun k=>k<=a.length/\C8 (a.drop k) (d.drop k)=C8 a d) (fun k=>a.length-k) 0 Zb (Weak.mk ?_) ?_
   ·simp (disch:=omega) only [Vk,go_sem,seval]
   ·rintro k ⟨hk,hb⟩;refine Zdh ?_;refine cD ?_ ?_<;>intro h2<;>simp (disch:=omega) only [Sh.out h2,go_sem,seval,↓reduceIte]
    ·have hk2:k<a.length:=Za
     have hk3:k<d.length:=Za
     rw [CR hk2,CR hk3,C8] at hb;refine Xd (Yv ?_);refine ZH ?_ ?_<;>intro h3
     ·rw [if_neg h3] at hb;refine Z1 9 mixed Zd Zd (Yv ?_);exact ⟨.p (.bool B),_,Weak.mk (by simp (disch:=omega) only [hB,e,<- hb,go_sem,seval]),rfl,rfl⟩
     ·rw [if_pos (Xk.1 h3)] at hb;exact ⟨k+1,⟨Za,hb⟩,Za,wk⟩
    ·have hka:k=a.length:=Za
     subst hka;rw [V1,<- hd,V1,TZ] at hb;exact ⟨.p (.bool B),_,Weak.mk (by simp (disch:=omega) only [hB,e,<- hb,go_sem,seval]),rfl,rfl⟩
def VA (l:List Col) (b:Chc) (q:List Int×Int):Chc:=if b.found=false\/q.2<b.price\/(q.2=b.price/\DU l q.1 b.places=true) then ⟨true,q.1,q.2⟩ else b
def RngA (x:Inst) (l:List Col) (a:List Int):Prop:=a.length=x.orders.length/\ ∀i,i<x.orders.length-> -1<=nth a i/\nth a i<l.length
def ChB (x:Inst) (l:List Col) (b:Chc):Prop:=b.found=true->RngA x l b.places
theorem EW {x:Inst} {l:List Col} {a:List Int} {S j:Nat} (h:RngA x l a) (hj:j<l.length):RngA x l (UN S a j) :=
 ⟨by rw [QT];exact h.1,fun i hi=>by
  rw [XA (by rw [h.1];exact hi)]
  split
  ·omega
  ·exact h.2 i hi⟩
theorem KY {x:Inst} {l:List Col} : ∀(d:Nat) {a:List Int} {p:Int},RngA x l a-> ∀q∈B7 x l d a p,RngA x l q.1
 | 0,a,p,h,q,hq=>by
  simp_all [B7]
 | d+1,a,p,h,q,hq=>by
  rw [B7] at hq
  split at hq
  ·exact KY d h q hq
  ·rw [Xy,Yk] at hq;rcases hq with ⟨j,hj,hq⟩ | hq
   ·split at hq
    ·exact KY d (EW h (Xa.1 hj)) q hq
    ·simp at hq
   ·split at hq
    ·exact KY d h q hq
    ·simp at hq
theorem Ii {x:Inst} {l:List Col} : ∀ {L:List (List Int×Int)} {b:Chc},ChB x l b->(∀q∈L,RngA x l q.1)->ChB x l (L.foldl (VA l) b)
 | [],_,h,_=>h
 | q::L,b,h,hL=>by
  rw [XF];refine Ii (L:=L) ?_ fun q hq=>hL q (YF _ hq);unfold VA
  split
  ·exact fun _=>hL q Zb
  ·exact h
structure ColsR (x:Inst) (l:List Col):Prop where
 n4:x.orders.length<=4
 t6:x.types.length<=6
 len:l.length<=1048576
 col: ∀c∈l,(0<=c.typ/\c.typ<x.types.length)/\(0<=c.price/\c.price<=18014398509481984)/\ ∃S:Nat,c.set=S/\S<16
 sk: ∀k,k<x.orders.length->(nth x.orders k).off=false->0<=(nth x.orders k).penalty->0<=skR x k/\skR x k<=18014398509481984
 us: ∀i,scoR 1152921504606846976 (unsF x i).1
theorem lL {P:Program} {f:FuncId} {az:List V} {z:PV} {O:AM.Obj} {L:List AM.Obj} {B:V->Prop} {t} (h:ACalls P f az [O] fun y H'=>y= .p z/\H'= [O]) (k:B (.p z)) (ha:Xb 1 az=true:=by rfl) (hf:refH 1 [O]=true:=by rfl) :
  OQ (fun y=>ACalls P f az (O::L) (Zv (Zv (fun x H'=>x=y/\H'=O::L) ⟨⟩) ⟨⟩)) (Zv B t) :=
 ⟨.p z,h.useP (L:=L) rfl ⟨rfl,rfl⟩ ha hf,k⟩
theorem Zi7 {P:Program} {f:FuncId} {az:List V} {v:V} {O:AM.Obj} {L:List AM.Obj} {K:V->List AM.Obj->Prop} (h:ACalls P f az [O] fun y H'=>y=v/\H'= [O]) (k:K v (O::L)) (ha:Xb 1 az=true:=by rfl) (hf:refH 1 [O]=true:=by rfl):ACalls P f az (O::L) K :=
 h.useP (L:=L) rfl k ha hf
def jG (x:Inst) (lc:Bool) (l:List Col) (d:Nat):Prop:= ∀(a:List Int) (p:Int) (b:Chc),d<=x.orders.length->RngA x l a->0<=p->p+(d:Int)*18014398509481984<=90071992547409920->ChB x l b ->
  ACalls Tryz.prog 163 [.ptr 0 0,.p (.list false (a.map eI)),.p (.int .i64 ((x.orders.length-d:Nat):Int)),.p (.int .i64 p)] [Vk x lc l b] fun y H'=>y= .tup []/\H'= [Vk x lc l ((B7 x l d a p).foldl (VA l) b)]
theorem oI (x:Inst) (lc:Bool) (l:List Col) (hC:ColsR x l):jG x lc l 0:=by
 intro a p b hd ha hp0 hp1 hb;have h4:=hC.n4;have hl:=hC.len;obtain ⟨R,hR⟩: ∃R,R=Vk x lc l ((B7 x l 0 a p).foldl (VA l) b):=⟨_,rfl⟩;rw [<- hR,Nat.sub_zero];simp only [B7,XF,V2] at hR;refine Ze [] Tryz.func163 rfl cM ?_;obtain ⟨f,bp,bc⟩:=b
 cases f with
 | false =>
  rw [VA,if_pos (.inl rfl)] at hR;simp (disch:=omega) only [Tryz.f163,Vk,VZ,go_sem,seval];exact ⟨_,[R],Weak.mk (by simp (disch:=omega) only [hR,Vk,Uy,go_sem,seval]),rfl,rfl⟩
 | true =>
  simp (disch:=omega) only [Tryz.f163,Vk,Uy,go_sem,seval];refine gF ?_ ?_<;>intro h1<;>simp (disch:=omega) only [Sh.out h1,go_sem,seval,↓reduceIte]
  ·rw [VA,if_pos (.inr (.inl h1))] at hR;exact ⟨_,[R],Weak.mk (by simp (disch:=omega) only [hR,Vk,Uy,go_sem,seval]),rfl,rfl⟩
  ·refine gT ?_ ?_<;>intro h2<;>simp (disch:=omega) only [Sh.out h2,go_sem,seval,↓reduceIte]
   ·have hq:=hb rfl;refine ACalls.mono (M4 x lc l ⟨true,bp,bc⟩ a bp (!true) (by rw [ha.1];omega) (by rw [ha.1];exact hq.1) (fun i hi=>ha.2 i (by rw [<- ha.1];exact hi)) (fun i hi=>hq.2 i (by rw [<- ha.1];exact hi)) hl) ?_;rintro y H' ⟨rfl,rfl⟩;simp (disch:=omega) only [Vk,Uy,go_sem,seval];refine cD ?_ ?_<;>intro h3<;>simp (disch:=omega) only [Sh.out h3,go_sem,seval,↓reduceIte]
    ·rw [VA,if_pos (.inr (.inr ⟨h2,h3⟩))] at hR;exact ⟨_,[R],Weak.mk (by simp (disch:=omega) only [hR,Vk,Uy,go_sem,seval]),rfl,rfl⟩
    ·rw [VA,if_neg (fun h=>h.elim (fun h=>by cases h) fun h=>h.elim (fun h=>h1 h) fun h=>by grind)] at hR;exact ⟨_,[R],Weak.mk (by simp (disch:=omega) only [hR,Vk,Uy,go_sem,seval]),rfl,rfl⟩
   ·rw [VA,if_neg (fun h=>h.elim (fun h=>by cases h) fun h=>h.elim (fun h=>h1 h) fun h=>h2 h.1)] at hR;exact ⟨_,[R],Weak.mk (by simp (disch:=omega) only [hR,Vk,Uy,go_sem,seval]),rfl,rfl⟩
theorem oJ (x:Inst) (lc:Bool) (l:List Col) (hC:ColsR x l) (d:Nat) (ih:jG x lc l d):jG x lc l (d+1):=by
 intro a p b hd ha hp0 hp1 hb;have h4:=hC.n4;have h6:=hC.t6;have hl:=hC.len;obtain ⟨k,hk⟩: ∃k,k=x.orders.length-(d+1):=⟨_,rfl⟩
 have hk1:k<x.orders.length:=Za
 have hkd:x.orders.length-d=k+1:=Za
 obtain ⟨R,hR⟩: ∃R,R=Vk x lc l ((B7 x l (d+1) a p).foldl (VA l) b):=⟨_,rfl⟩;rw [<- hR,<- hk];rw [B7,<- hk] at hR;have hla:a.length=x.orders.length:=ha.1
 have hka:k<a.length:=Za
 refine Ze [] Tryz.func163 rfl cM ?_;simp (disch:=omega) only [Tryz.f163,Vk,go_sem,seval]
 have nxt: ∀(a':List Int) (p':Int) (b':Chc) (L:List AM.Obj) (K:V->List AM.Obj->Prop),RngA x l a'->0<=p'->p'+(d:Int)*18014398509481984<=90071992547409920->ChB x l b'->K (.tup []) (Vk x lc l ((B7 x l d a' p').foldl (VA l) b')::L) ->
   ACalls Tryz.prog 163 [.ptr 0 0,.p (.list false (a'.map eI)),.p (.int .i64 ((k:Int)+1)),.p (.int .i64 p')] (Vk x lc l b'::L) K:=fun a' p' b' L K h1 h2 h3 h5 hK=>by
  have hi:=ih a' p' b' Za h1 h2 h3 h5;rw [hkd] at hi;refine ((hi.mono fun y H' hq=>(⟨hq,by grind⟩:_/\H'.length= [Vk x lc l b'].length)).front (by rfl) (by rfl) L).mono ?_
  grind
 refine cD ?_ ?_<;>intro h0<;>simp (disch:=omega) only [Sh.out h0,go_sem,seval,↓reduceIte]
 ·omega
 ·cases ho:(nth x.orders k).off with
  | true =>
   rw [if_pos (.inl ho)] at hR;refine Yv ?_;refine nxt a p b [_] _ ha hp0 Za hb (Zdh ?_);exact ⟨_,[R],Weak.mk (by simp (disch:=omega) only [hR,Vk,go_sem,seval]),rfl,rfl⟩
  | false =>
   refine Yv ?_;refine cD ?_ ?_<;>intro h1<;>simp (disch:=omega) only [Sh.out h1,go_sem,seval]
   ·rw [if_pos (.inr h1)] at hR;refine nxt a p b [_] _ ha hp0 Za hb (Zdh ?_);exact ⟨_,[R],Weak.mk (by simp (disch:=omega) only [hR,Vk,go_sem,seval]),rfl,rfl⟩
   ·rw [if_neg (by grind)] at hR;obtain ⟨G,hG⟩: ∃G:Nat->List (List Int×Int),G=fun j=>if Da x l a j k=true then B7 x l d (UN (nth l j).set.toNat a j) (p+(nth l j).price) else []:=⟨_,rfl⟩;rw [<- hG,List.foldl_append] at hR
    have hGr: ∀q:Nat,q<=l.length-> ∀e∈(List.range q).flatMap G,RngA x l e.1:=fun q hq e he=>by
     obtain ⟨j,hj,he⟩:=Yk.1 he;rw [hG] at he;simp only at he
     split at he
     ·exact KY d (EW ha (by grind)) e he
     ·simp at he
    have hGs: ∀q:Nat,((List.range (q+1)).flatMap G).foldl (VA l) b=(G q).foldl (VA l) (((List.range q).flatMap G).foldl (VA l) b):=fun q=>by
     grind [Wt]
    obtain ⟨B,hB⟩: ∃B:Nat->Chc,B=fun q=>((List.range q).flatMap G).foldl (VA l) b:=⟨_,rfl⟩
    have hBs: ∀q,B (q+1)=(G q).foldl (VA l) (B q):=fun q=>by grind
    have hB0:B 0=b:=by rw [hB];simp
    have hBc: ∀q,q<=l.length->ChB x l (B q):=fun q hq=>by rw [hB];exact Ii hb (hGr q hq)
    have hRB:R=Vk x lc l ((if 0<=(nth x.orders k).penalty then B7 x l d a (p+skR x k) else []).foldl (VA l) (B l.length)):=by rw [hR,hB]
    clear hR hGs hGr hB;refine Zj [0,1,2,3,9] (fun q:Nat=> [(10,.p (.int .i64 q))]) (fun q=> [Vk x lc l (B q),Yp (nth x.orders k)]) (fun q=>q<=l.length) (fun q=>l.length-q) 0 Zb (Weak.mk ?_) ?_
    ·simp (disch:=omega) only [Vk,Yp,hB0,ho,go_sem,seval,↓reduceIte]
    ·intro q hq;simp (disch:=omega) only [Vk,Yp,ho,go_sem,seval];refine cD ?_ ?_<;>intro h2<;>simp (disch:=omega) only [Sh.out h2,go_sem,seval,↓reduceIte]
     ·have hq2:q<l.length:=Za
      obtain ⟨⟨t0,t1⟩,⟨c0,c1⟩,S,hS,hS2⟩:=hC.col _ (Zq hq2);refine Xd (Yv ?_)
      have hST:(nth l q).set.toNat=S:=Za
      have hGq:Da x l a q k=(S.testBit k&&(decide ((usdI l a (nth l q).typ a.length:Int)<(nth x.types (nth l q).typ.toNat).count)&&mN S a k)):=by rw [Da,hST]
      have hnx: ∀c:Bool,Da x l a q k=c->B (q+1)=(if c=true then (B7 x l d (UN S a q) (p+(nth l q).price)).foldl (VA l) (B q) else B q):=fun c hc=>by
       rw [hBs,hG];simp only [hST,hc]
       cases c<;>simp
      rw [hS];refine Zo (HC S k Za Za) (Yv ?_);refine gT ?_ ?_<;>intro h3<;>simp (disch:=omega) only [Sh.out h3,go_sem,seval,↓reduceIte]
      ·refine lL (iC x lc l (B q) a (nth l q).typ Za (fun i hi=>ha.2 i Za) hl) (Yv ?_);refine cD ?_ ?_<;>intro h4<;>simp (disch:=omega) only [Sh.out h4,go_sem,seval,↓reduceIte]
       ·have hw:=iI x lc l (B q) a q k ⟨Za,Za⟩ hl hq2 S hS Za
        cases hok:mN S a k with
        | true =>
         rw [hok,if_pos rfl] at hw;refine Zi7 hw (Yv ?_);have e:=hnx true (by grind);rw [if_pos rfl] at e;refine nxt (UN S a q) (p+(nth l q).price) (B q) [_] _ (EW ha hq2) Za Za (hBc q Za) (Zdh ?_);exact ⟨q+1,Za,Za,Weak.mk (by simp (disch:=omega) only [e,ho,go_sem,seval])⟩
        | false =>
         rw [hok,if_neg Zb] at hw;refine Zi7 hw (Yv ?_);have e:=hnx false (by grind);rw [if_neg Zb] at e;exact ⟨q+1,Za,Za,Weak.mk (by simp (disch:=omega) only [e,ho,go_sem,seval])⟩
       ·have e:=hnx false (by grind);rw [if_neg Zb] at e;exact ⟨q+1,Za,Za,Weak.mk (by simp (disch:=omega) only [e,ho,go_sem,seval])⟩
      ·have e:=hnx false (by grind);rw [if_neg Zb] at e;exact ⟨q+1,Za,Za,Weak.mk (by simp (disch:=omega) only [e,ho,go_sem,seval])⟩
     ·have hql:q=l.length:=Za
      subst hql;refine cD ?_ ?_<;>intro h3<;>simp (disch:=omega) only [Sh.out h3,go_sem,seval,↓reduceIte]
      ·rw [if_pos h3] at hRB;have hsk:=hC.sk k hk1 ho h3;refine Qv (Ih x k Za) (Yv ?_);refine Qv (E6 (unsF x k).1 (hC.us k)) (Yv ?_);have e1:(Wm (unsF x k).1).1=skR x k:=rfl;rw [e1];refine Yv ?_;refine nxt a (p+skR x k) (B l.length) [_,_] _ ha Za Za (hBc _ (ZL _)) (Zdh ?_);exact ⟨_,[R],Weak.mk (by simp (disch:=omega) only [hRB,Vk,go_sem,seval]),rfl,rfl⟩
      ·rw [if_neg h3] at hRB;exact ⟨_,[R],Weak.mk (by simp (disch:=omega) only [hRB,Vk,V2,go_sem,seval]),rfl,rfl⟩
theorem PN (x:Inst) (lc:Bool) (l:List Col) (hC:ColsR x l): ∀d,jG x lc l d
 | 0=>oI x lc l hC
 | d+1=>oJ x lc l hC d (PN x lc l hC d)
def OH (x b:Inst) (p:Pln) (k:Nat):List Ord:=W3 (fun j=>if j<k then Qg x b p j else AC x j) x.orders.length
section
variable {x b : Inst} {p : Pln} {k : Nat}
theorem OI : (OH x b p k).length=x.orders.length:=YV
theorem aU : OH x b p 0=W3 (AC x) x.orders.length:=Jz fun j _=>by rfl
theorem lC : OH x b p x.orders.length=W3 (Qg x b p) x.orders.length:=Jz fun j hj=>by grind
theorem lD (h:k<x.orders.length):nth (OH x b p k) k=AC x k:=by simp_all [OH,Kp]
theorem lE : (OH x b p k).set k (Qg x b p k)=OH x b p (k+1):=by
 rw [OH,L3];refine Jz fun i _=> ?_
 grind
theorem aT (hk:k<x.orders.length) (h:Qg x b p k=AC x k):OH x b p (k+1)=OH x b p k:=Jz fun i _=>by
 grind
end
theorem kR (x b:Inst) (p:Pln) (hxo:x.orders.length<=1048576) (hxt:x.types.length<=1048576) (hbo:b.orders.length<=4) (hbt:b.types.length<=1048576) (hr:p.routes.length<=1048576) (hv: ∀r∈p.routes,r.visits.length<=1048576) :
  ACalls Tryz.prog 36 [.p (Zs x),.p (Zs b),.p (W2 p)] [] fun y H'=>y=Th x b p/\H'= []:=by
 have zI:Zs iQ= .agg [.list true [],.list true [],.list true [],.list true [],.list true [],.list true []]:=rfl;have ck:=R9 b p hbo hbt hr hv;refine Ze [14] Tryz.func36 rfl ZgX ?_;simp (disch:=omega) only [Tryz.f36,go_sem,seval];refine cD ?_ ?_<;>intro h1<;>simp (disch:=omega) only [Sh.out h1,go_sem,seval,↓reduceIte]
 ·have hE:I1 x b p=2:=by rw [I1,if_neg Za]
  rw [Th,hE,if_neg Za,zI];exact we
 ·have hE:I1 x b p=Vl b p:=by rw [I1,if_pos Za]
  by_cases h0:Vl b p=0
  ·rw [Bi,if_pos h0] at ck;rw [Th,hE,if_pos h0,h0];refine Qv ck (Yv ?_);refine ACalls.mono ((OY x hxo).behind (by rfl) [Zg x,Zg b,YP p,.cells (List.replicate 6 (.p (.list true [])))]) ?_;rintro y H' ⟨y1,H1,⟨rfl,rfl⟩,rfl,rfl⟩;rw [<- aU (x:=x) (b:=b) (p:=p)];have hl0:=OI (x:=x) (b:=b) (p:=p) (k:=0);simp (disch:=first | omega | (simp only [Zz,ZQ,Zm,Zu,Zy,ZK]<;>omega)) only [shV,shVs,shO,Fw,Zg,YP,List.replicate,ZN,Zk,ZP,ZR,hl0,eq_self,WG,go_sem,seval,↓reduceIte]
   refine ZS [14] [4,6,8,10,35,36] (fun k:Nat=> [(37,.p (.int .i64 k))]) (fun k=> [Zg x,Zg b,YP p,.cells (List.replicate 6 (.p (.list true []))),.cells (Fw x 6 x.orders.length),.cells (Fw x 6 x.orders.length),.elems 16 ((OH x b p k).map eOrd),.cells (Fw x 6 x.orders.length)]) (fun k=>k<=x.orders.length) (fun k=>x.orders.length-k) 0 Zb (Weak.mk ?_) ?_
   ·simp (disch:=omega) only [Zg,YP,List.replicate,Fw,go_sem,seval]
   ·intro k hk;have hrl:=OI (x:=x) (b:=b) (p:=p) (k:=k);simp (disch:=first | omega | (simp only [Zz,ZQ,Zm,Zu,Zy,ZK]<;>omega)) only [Zg,YP,List.replicate,Fw,eq_self,go_sem,seval];refine cD ?_ ?_<;>intro h2<;>simp (disch:=omega) only [Sh.out h2,go_sem,seval,↓reduceIte]
    ·have hk2:k<x.orders.length:=Za
     have hnk:=lD (b:=b) (p:=p) hk2
     have he:UW ((OH x b p k).map eOrd) k=eOrd (AC x k):=by grind [Yx]
     have ZF:((OH x b p k).map eOrd).set k (eOrd (Qg x b p k))=(OH x b p (k+1)).map eOrd:=by rw [<- V4,lE]
     have hsame:=aT (b:=b) (p:=p) hk2;have hnm:(AC x k).name=(nth x.orders k).name:=rfl;have hrg:=Eb (l:=b.orders) (s:=(nth x.orders k).name);have hkl:=En (x:=b) (p:=p);have cf:=oT b (nth x.orders k).name Za;simp (disch:=first | omega | (simp only [Zz,ZQ,Zm,Zu,Zy,ZK]<;>omega)) only [he,hrl,hk2,eq_self,go_sem,seval,↓reduceIte];refine (cf).use (Yv ?_);generalize hF:AB b.orders (nth x.orders k).name=F at hrg
     have hcar:Qg x b p k=if 0<=F/\0<=nth (Cl b p) F.toNat then { AC x k with last:=nth (Cl b p) F.toNat } else AC x k:=by rw [Qg,hF]
     refine US ?_ ?_<;>intro h3
     ·refine ZH ?_ ?_<;>intro h4
      ·rw [if_pos ⟨h3,h4⟩] at hcar;rw [hcar] at ZF;simp only [Hu,AC] at ZF;refine Z1 9 mixed Zd Zd (Yv ?_);simp (disch:=first | omega | (simp only [Zz,ZQ,Zm,Zu,Zy,ZK]<;>omega)) only [hrl,hnk,eq_self,WG,go_sem,seval];exact ⟨k+1,Za,Za,Weak.mk (by simp (disch:=omega) only [AC,ZF,go_sem,seval])⟩
      ·rw [if_neg (fun h=>h4 h.2)] at hcar;exact ⟨k+1,Za,Za,Weak.mk (by simp (disch:=omega) only [hsame hcar,go_sem,seval])⟩
     ·rw [if_neg (fun h=>h3 h.1)] at hcar;exact ⟨k+1,Za,Za,Weak.mk (by simp (disch:=omega) only [hsame hcar,go_sem,seval])⟩
    ·have hkl:k=x.orders.length:=Za
     subst hkl;rw [lC];have hrt:=YV (f:=Qg x b p) (n:=x.orders.length);refine Zp (Weak.fz (o:=6) (by rfl)) ?_;refine Zf [] _ _ _ _ ?_;simp (disch:=omega) only [ZN,Zk,X2,Xj,hrt,eq_self,go_sem,seval];exact we (by simp (disch:=omega) only [RG,go_sem,seval])
  ·rw [Bi,if_neg h0] at ck;rw [Th,hE,if_neg h0,zI];refine Qv ck (Yv ?_);refine cD ?_ ?_<;>intro h2<;>simp (disch:=omega) only [Sh.out h2,go_sem,seval,↓reduceIte]
   ·exact we
   ·omega
theorem fO (x b:Inst) (p:Pln) (hxo:x.orders.length<=1048576) (hxt:x.types.length<=1048576) (hbo:b.orders.length<=1048576) (hbt:b.types.length<=1048576) (hr:p.routes.length<=1048576) (hv: ∀r∈p.routes,r.visits.length<=1048576) :
  ACalls Tryz.prog 39 [.p (Zs x),.p (Zs b),.p (W2 p)] [] fun y H'=>y=Th x b p/\H'= []:=by
 have zI:Zs iQ= .agg [.list true [],.list true [],.list true [],.list true [],.list true [],.list true []]:=rfl;have ck:=NU b p hbo hbt hr hv;refine Ze [7,16] Tryz.func39 rfl Zg0 ?_;simp (disch:=omega) only [Tryz.f39,go_sem,seval];refine cD ?_ ?_<;>intro h1<;>simp (disch:=omega) only [Sh.out h1,go_sem,seval,↓reduceIte]
 ·have hE:I1 x b p=2:=by rw [I1,if_neg Za]
  rw [Th,hE,if_neg Za,zI];exact we
 ·have hE:I1 x b p=Vl b p:=by rw [I1,if_pos Za]
  by_cases h0:Vl b p=0
  ·rw [Bi,if_pos h0] at ck;rw [Th,hE,if_pos h0,h0];refine Qv ck (Yv ?_);refine Zp (Weak.ofNil 10 16 (by simp (disch:=omega) only [go_sem,seval]) Zb (Weak.refl _ _ _)) ?_;refine Zf [16] _ _ _ _ (Yv ?_);refine ZS [16] [3,4,6,8] (fun q:Nat×List Ord=> [(10,.sl 4 0 q.2.length q.2.length),(11,.p (.int .i64 q.1))]) (fun q=> [Zg x,Zg b,YP p,.cells (List.replicate 6 (.p (.list true []))),.elems 16 (q.2.map eOrd)]) (fun q=>q.1<=x.orders.length/\q.2=W3 (Qg x b p) q.1) (fun q=>x.orders.length-q.1) (0,[]) ⟨Zb,by simp [W3]⟩ (Weak.mk ?_) ?_
   ·simp (disch:=omega) only [Zg,YP,List.replicate,go_sem,seval]
   ·rintro ⟨k,m⟩ ⟨hk,hm⟩;simp only at hk hm
    have hml:m.length=k:=by rw [hm];exact YV
    simp (disch:=omega) only [Zg,YP,List.replicate,go_sem,seval];refine cD ?_ ?_<;>intro h2<;>simp (disch:=omega) only [Sh.out h2,go_sem,seval,↓reduceIte]
    ·have hk2:k<x.orders.length:=Za
     have hrg:=Eb (l:=b.orders) (s:=(nth x.orders k).name);have hkl:=En (x:=b) (p:=p);refine (SD b (nth x.orders k).name Za).use (Yv ?_);generalize hF:AB b.orders (nth x.orders k).name=F at hrg
     have hcar:Qg x b p k=if 0<=F/\0<=nth (Cl b p) F.toNat then { AC x k with last:=nth (Cl b p) F.toNat } else AC x k:=by rw [Qg,hF]
     have hsn:W3 (Qg x b p) (k+1)=m++ [Qg x b p k]:=by rw [GC,hm]
     refine US ?_ ?_<;>intro h3
     ·refine ZH ?_ ?_<;>intro h4
      ·rw [if_pos ⟨h3,h4⟩] at hcar;exact ⟨(k+1,m++ [Qg x b p k]),⟨Za,hsn.symm⟩,Za,Weak.mk (by simp (disch:=omega) only [hcar,AC,go_sem,seval])⟩
      ·rw [if_neg (fun h=>h4 h.2)] at hcar;exact ⟨(k+1,m++ [Qg x b p k]),⟨Za,hsn.symm⟩,Za,Weak.mk (by simp (disch:=omega) only [hcar,AC,go_sem,seval])⟩
     ·rw [if_neg (fun h=>h3 h.1)] at hcar;exact ⟨(k+1,m++ [Qg x b p k]),⟨Za,hsn.symm⟩,Za,Weak.mk (by simp (disch:=omega) only [hcar,AC,go_sem,seval])⟩
    ·have hkl:k=x.orders.length:=Za
     subst hkl;subst hm;refine Zp (Weak.fz (o:=4) (by rfl)) (Zf [] _ _ _ _ (Kw ?_));exact we (by simp (disch:=omega) only [RG,go_sem,seval])
  ·rw [Bi,if_neg h0] at ck;rw [Th,hE,if_neg h0,zI];refine Qv ck (Yv ?_);refine cD ?_ ?_<;>intro h2<;>simp (disch:=omega) only [Sh.out h2,go_sem,seval,↓reduceIte]
   ·exact we
   ·omega
end Go.Proofs.YtiigdaohjanidaaGreatDoor.K
