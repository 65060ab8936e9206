/- Declarations that the closing texts need, part 17: joined by tools/slim.py. -/
import Derived.Test.YtenjikkmmibffaaGreatDoorI16
set_option linter.unusedVariables false
set_option linter.unusedSimpArgs false
namespace Go.Proofs.YtenjikkmmibffaaGreatDoor.K
open Go Go.AM Go.Proofs
set_option maxRecDepth 8000
theorem sF {x:Inst} {t:Typ} {sp:List Stp} {k:Nat} {L:Lab} {b:Bool} (hT:TrpOk x t sp) (hk:k<sp.length) (he:(nxtF x t sp k L b).2=0):L.ready<=(nxtF x t sp k L b).1.ready:=by
 have hrs:=hT.rst
 have hd:L.ready<=ZJ t L b:=by grind [ZJ]
 have hgo:(Y1 x t sp k (ZJ t L b)).2.2=0->ZJ t L b<=(Y1 x t sp k (ZJ t L b)).1:=fun e=>iW hT.net e;have hst:=hT.stp _ (ZY hk);unfold nxtF at he ⊢
 generalize Y1 x t sp k (ZJ t L b)=g at *
 generalize ZJ t L b=d at *
 generalize WU L b=s at *
 generalize XZ k d b L.she=m at *
 have hk2: ¬k=sp.length:=Za
 unfold WE at he ⊢
 grind
theorem sE {x:Inst} {t:Typ} {sp:List Stp} {L:Lab} {b:Bool} (hT:TrpOk x t sp) (he:(nxtF x t sp sp.length L b).2=0):L.ready<=(nxtF x t sp sp.length L b).1.she.fin/\(nxtF x t sp sp.length L b).1.she.fin<=t.cls:=by
 have hrs:=hT.rst
 have hd:L.ready<=ZJ t L b:=by grind [ZJ]
 have hgo:(Y1 x t sp sp.length (ZJ t L b)).2.2=0->ZJ t L b<=(Y1 x t sp sp.length (ZJ t L b)).1:=fun e=>iW hT.net e;unfold nxtF at he ⊢
 generalize Y1 x t sp sp.length (ZJ t L b)=g at *
 generalize ZJ t L b=d at *
 generalize WU L b=s at *
 generalize XZ sp.length d b L.she=m at *
 unfold WE at he ⊢
 grind
theorem SG {x:Inst} {t:Typ} {sp:List Stp} (hT:TrpOk x t sp): ∀(bs:List Bool) (k:Nat) (L:Lab),k+bs.length=sp.length+1->0<bs.length->(Xf x t sp k L bs).2=0->L.ready<=(Xf x t sp k L bs).1.she.fin/\(Xf x t sp k L bs).1.she.fin<=t.cls
 | [],k,L,_,h3,_=>by simp at h3
 | b::bs,k,L,h2,_,h=>by
  rw [Xf] at h ⊢
  by_cases h4:(nxtF x t sp k L b).2=0
  ·simp only [h4,if_true] at h ⊢
   cases bs with
   | nil =>
    simp_all [Xf,sE]
   | cons b2 bs =>
    simp at h2;have h5:=SG hT (b2::bs) (k+1) _ (by simp;omega) Zb h;have h6:=sF hT (show k<sp.length by omega) h4;omega
  grind
theorem I3 {x:Inst} {r:Rte} (hx:InstOk x) (h:Xw x r=0):(ZE x r).opn<=(X7 x r).fin/\(X7 x r).fin<=(ZE x r).cls:=by
 obtain ⟨hty,h0,hs⟩:=U3 (Ui h)
 have e:X7 x r=(Xv x r).1:=by rw [X7,if_pos h]
 have ee:(Xv x r).2=0:=by rw [Xw,if_pos (Ui h)] at h;exact h
 have hT:=K4 hx hty (VS h0);obtain ⟨bs,hb1,hb2,hb3⟩:=Hj (by grind [Yc]) ee;have hb3:(Xv x r).1=_:=hb3;rw [e,hb3];have h1:=SG hT bs 0 _ Za Za hb2
 grind [labF]
def Eg (l:List Vis) (N:Nat):Nat:=(List.range N).countP fun i:Nat=>hasO l (i:Int)
theorem TH {l m:List Vis} {N:Nat} (h: ∀v∈l,v∈m):Eg l N<=Eg m N:=List.countP_mono_left fun i _ hi=>by
 grind [W7]
theorem Ry {x:Inst} {l:List Vis} {t:Int} (hi:Inr x l): ∀n,n<=l.length->(0<=(chgF x l t n).1/\(chgF x l t n).1<=(Eg (l.take n) x.orders.length:Int))/\(0<=(chgF x l t n).2/\(chgF x l t n).2<=(Eg (l.take n) x.orders.length:Int))
 | 0,_=>by simp [chgF]
 | n+1,h=>by
  have ih:=Ry (t:=t) hi n Za
  have hn:n<l.length:=Za
  have hv:=hi _ (ZY hn)
  have htk:l.take (n+1)=l.take n++ [nth l n]:=by rw [Yb hn,Zh hn]
  have hmono:Eg (l.take n) x.orders.length<=Eg (l.take (n+1)) x.orders.length:=TH fun v hv=>by grind
  have hap: ∀i:Int,hasO (l.take (n+1)) i=(hasO (l.take n) i||decide ((nth l n).order=i)):=fun i=>by grind [hasO]
  rw [chgF]
  split
  ·rename_i hf
   have hadd:Eg (l.take (n+1)) x.orders.length=Eg (l.take n) x.orders.length+1:=by
    unfold Eg;rw [List.countP_eq_length_filter,List.countP_eq_length_filter]
    have ei:(((nth l n).order.toNat:Nat):Int)=(nth l n).order:=Za
    refine Fz (a:=(nth l n).order.toNat) List.nodup_range (ZL.2 Za) ?_ ?_ fun b _ hb=> ?_
    ·rw [ei];simp only [Ux,XN] at hf;exact hf
    ·grind
    grind
   omega
  ·omega
theorem Bp {x:Inst} {r:Rte} (hx:InstOk x) (h:Xw x r=0):aX (We x r)/\(We x r).cost<=22000000/\(We x r).moved<=(Eg r.visits x.orders.length:Int)/\(We x r).other<=(Eg r.visits x.orders.length:Int)/\(We x r).work<=4096:=by
 have hg:=MM hx h;have hf:=I3 hx h;obtain ⟨hty,_,_⟩:=U3 (Ui h);have hnum:=WS hx (show r.typ.toNat<x.types.length by omega);have htyp:nth x.types r.typ.toNat=ZE x r:=rfl;rw [htyp] at hnum
 have e:(Xv x r).1=X7 x r:=by rw [X7,if_pos h]
 have hch:=Ry (t:=r.typ) (WI h).inr r.visits.length (ZA _);rw [YV] at hch;rw [We,if_pos h,e];unfold DK aX
 generalize X7 x r=s at *
 generalize ZE x r=t at *
 have p1:0<=t.perMile*s.miles/\t.perMile*s.miles<=100*210000:=⟨UC Za Za,VJ Za Za Za Za⟩
 have hW:0<=s.fin-t.opn/\s.fin-t.opn<=4096:=Za
 have p2:0<=t.perTick*(s.fin-t.opn)/\t.perTick*(s.fin-t.opn)<=100*4096:=⟨UC Za Za,VJ Za Za Za Za⟩
 have p3:0<=(s.fin-t.opn).tdiv 64/\(s.fin-t.opn).tdiv 64<=64:=by
  grind
 have p4:0<=(s.fin-t.opn).tdiv 64*(s.fin-t.opn).tdiv 64/\(s.fin-t.opn).tdiv 64*(s.fin-t.opn).tdiv 64<=64*64:=⟨UC p3.1 p3.1,VJ p3.2 p3.2 p3.1 Za⟩
 grind
theorem H5 {x:Inst} (hx:InstOk x) (hn:x.orders.length<=4): ∀c∈XG x,rightB x c=true:=fun c hc=>by
 obtain ⟨k,S,h1,h2,h3,h4,h5⟩:=BS.1 hc;obtain ⟨m,m1,m2,m3⟩:=Di h4;have hp4:2^x.orders.length<=2^4:=Yt Za hn
 have hal:Wx x.orders x.apart x.before ((S:Nat):Int)=0:=by
  grind [VU]
 have hf:=XJ hx;have ha:Alw x S:=(Qt Za (by rw [Nat.div_eq_zero_iff];exact .inr h3) hf.val).1 hal
 have hw:Rb S (Yv x x.orders.length)=true:=by
  rw [Ol hn Za,ZB,Zq,Zz];refine ⟨h3,fun i hi=> ?_⟩
  cases hb:S.testBit i with
  | false=>rfl
  | true=>rw [ha.off i (ZL.1 hi) hb];rfl
 have he:=Um m2;have hfn:=Bp hx he
 have hcn:Eg (Q6 (k:Int) m).visits x.orders.length<=x.orders.length:=by
  have:=List.countP_le_length (p:=fun i:Nat=>hasO (Q6 (k:Int) m).visits (i:Int)) (l:=List.range x.orders.length);rw [List.length_range] at this;exact this
 have hpr:(YH x (Q6 k m)).1=(((We x (Q6 k m)).cost*16+(We x (Q6 k m)).moved)*16+(We x (Q6 k m)).other)*65536+(We x (Q6 k m)).work:=by
  rw [YH,if_pos he]
  grind [nM,Oj]
 have hp:=NE x (Q6 k m)
 have h6:(YR x k S m).price<=18014398509481984:=by
  show (YH x (Q6 k m)).1<=_
  omega
 rw [h5,m3];simp only [rightB,ZB,Zq];refine ⟨?_,?_,?_,?_,?_,h6⟩
 ·show (0:Int)<=(k:Int);omega
 ·show (k:Int)<_;omega
 ·show (0:Int)<(S:Int);omega
 ·show Rb ((S:Nat):Int).toNat _=true
  grind
 ·exact hp.1
theorem aY {x:Inst} {r:Rte} (h:(YH x r).2=0):Xw x r=0:=by
 grind [YH]
set_option maxHeartbeats 8000000
theorem rK {n:Net} {pr f t τ σ:Int} :(WZ n pr f t τ).2=(WZ n pr f t σ).2:=by
 grind [WZ]
theorem Ss {x:Inst} {t:Typ} {sp:List Stp} {k:Nat} {L:Lab} {b:Bool} (h:(nxtF x t sp k L b).2=0):(nxtF x t sp k L b).1.she.miles=L.she.miles+(Y1 x t sp k 0).2.1:=by
 have e:(Y1 x t sp k (ZJ t L b)).2=(Y1 x t sp k 0).2:=rK
 have hm:(XZ k (ZJ t L b) b L.she).miles=L.she.miles:=by grind [XZ]
 rw [<- e];unfold nxtF at h ⊢
 generalize Y1 x t sp k (ZJ t L b)=g at *
 generalize XZ k (ZJ t L b) b L.she=m at *
 unfold WE at h ⊢
 grind
theorem SH {x:Inst} {t:Typ} {sp:List Stp} : ∀(bs cs:List Bool) (k:Nat) (L M:Lab),bs.length=cs.length->L.she.miles=M.she.miles->(Xf x t sp k L bs).2=0->(Xf x t sp k M cs).2=0->(Xf x t sp k L bs).1.she.miles=(Xf x t sp k M cs).1.she.miles
 | [],[],k,L,M,_,h,_,_=>by grind [Xf]
 | [],_::_,_,_,_,h,_,_,_=>by simp at h
 | _::_,[],_,_,_,h,_,_,_=>by simp at h
 | b::bs,c::cs,k,L,M,hl,h,h1,h2=>by
  rw [Xf] at h1 h2 ⊢;rw [Xf]
  by_cases g1:(nxtF x t sp k L b).2=0
  ·by_cases g2:(nxtF x t sp k M c).2=0
   ·simp only [g1,g2,if_true] at h1 h2 ⊢;exact SH bs cs (k+1) _ _ (by simpa using hl) (by rw [Ss g1,Ss g2,h]) h1 h2
   grind
  grind
theorem FE : ∀(n:Nat) (l:List Bool),l.length=n->l∈YS (List.replicate n false)
 | 0,l,h=>by
  grind [YS]
 | n+1,[],h=>by simp at h
 | n+1,b::l,h=>by
  have ih:=FE n l (by simpa using h);rw [KG,YS];simp only [YU,Yi,Xd,XQ,Ct]
  cases b with
  | false=>exact .inl ⟨l,ih,rfl⟩
  | true=>exact .inr ⟨l,ih,rfl⟩
theorem DH {r q:List Bool} {n:Nat} (hr:r.length<=n):q∈XE r n↔q.length=n/\ ∃s,q=r++s:=by
 rw [XE,XQ]
 constructor
 ·rintro ⟨s,hs,rfl⟩;have:=bestF_len.fromB_len _ _ hs
  grind
 ·rintro ⟨h,s,rfl⟩;rw [ZH] at h;exact ⟨s,FE _ s Za,rfl⟩
theorem RQ {L:Type} {fin:L->Int} : ∀l:List L,W4 fin none l=none->l= []
 | [],_=>rfl
 | a::l,h=>by
  rw [W4] at h;obtain ⟨z,e,_⟩:=VD fin l a
  grind
theorem iJ {L:Type} {fin:L->Int} {l:List L} {m:L} (h:W4 fin none l=some m): ∀y∈l,fin m<=fin y:=by
 cases l with
 | nil=>simp
 | cons a l =>
  rw [W4] at h;obtain ⟨z,e,e1,e2⟩:=VD fin l a
  grind
theorem OU {x t sp} {st:Int} {r bs:List Bool} (hr:r.length<=sp.length+1) (hb:bs∈XE r (sp.length+1)) (h:(Xf x t sp 0 (labF t st) bs).2=0) :
  (Yn x t sp st r).2=0/\(Yn x t sp st r).1.fin<=(Xf x t sp 0 (labF t st) bs).1.she.fin/\(Yn x t sp st r).1.miles=(Xf x t sp 0 (labF t st) bs).1.she.miles:=by
 have hrun:Y9 (XA x t sp) 0 (labF t st) bs=some (Xf x t sp 0 (labF t st) bs).1:=by rw [Yy,if_pos h]
 have hmem:(Xf x t sp 0 (labF t st) bs).1∈(XE r (sp.length+1)).filterMap (Y9 (XA x t sp) 0 (labF t st)):=KH.2 ⟨_,hb,hrun⟩;unfold Yn
 cases hf:W4 Wf none ((XE r (sp.length+1)).filterMap (Y9 (XA x t sp) 0 (labF t st))) with
 | none =>
  grind [RQ]
 | some L =>
  simp only;refine ⟨trivial,iJ hf _ hmem,?_⟩;have hm:=bestF_len.fmL_mem _ _ hf;obtain ⟨cs,hcs,hrun2⟩:=KH.1 hm;rw [Yy] at hrun2
  split at hrun2
  ·rename_i h5;obtain rfl:=Vi hrun2;have l1:=((DH hr).1 hb).1;have l2:=((DH hr).1 hcs).1;exact SH cs bs 0 _ _ Za rfl h5 h
  grind
theorem fB {x t sp} {st:Int} {r:List Bool} (hr:r.length<=sp.length+1) (h:(Yn x t sp st r).2=0): ∃bs:List Bool,bs∈XE r (sp.length+1)/\(Xf x t sp 0 (labF t st) bs).2=0/\(Yn x t sp st r).1=(Xf x t sp 0 (labF t st) bs).1.she:=by
 unfold Yn at h ⊢
 cases hf:W4 Wf none ((XE r (sp.length+1)).filterMap (Y9 (XA x t sp) 0 (labF t st))) with
 | none =>
  exfalso;rw [hf] at h;simp only at h
  have hm:YM r (sp.length+1)∈XE r (sp.length+1):=by
   grind [XE,YM,fromB_next]
  have h2:Y9 (XA x t sp) 0 (labF t st) (YM r (sp.length+1))=some (Xf x t sp 0 (labF t st) (YM r (sp.length+1))).1:=by rw [Yy,if_pos h]
  grind [RQ]
 | some L =>
  simp only;have hm:=bestF_len.fmL_mem _ _ hf;obtain ⟨bs,hbs,hrun⟩:=KH.1 hm;rw [Yy] at hrun
  grind
theorem nN {a b:Sco} (h:(YB a).2=0) (hb:0<=b.cost/\0<=b.moved/\0<=b.other/\0<=b.work) (h1:b.cost<=a.cost) (h2:b.moved=a.moved) (h3:b.other=a.other) (h4:b.work<=a.work):(YB b).2=0/\(YB b).1<=(YB a).1:=by
 unfold YB at h ⊢
 grind
theorem Ii {x:Inst} {l:List Itm} {r:Rte} (h:0<=r.typ/\r.typ<(x.types.length:Int)):ZE (Zk x l) r=WC (ZE x r) r.typ l:=by
 unfold ZE;rw [show (Zk x l).types=Xa x.types l from rfl,Wk Za]
 grind
theorem nQ {x:Inst} {l:List Itm} {r:Rte} (hx:InstOk x) (h:XX x r=0):WkT (ZE x r) (ZE (Zk x l) r) (ZM x r.visits) (ZM (Zk x l) r.visits):=by
 obtain ⟨c1,c2,_⟩:=U3 h;have hsq:=VS c2
 have htl:r.typ.toNat<x.types.length:=Za
 have hty:=hx.types.2 _ htl;unfold Us at hty;obtain ⟨⟨⟨⟨⟨⟨⟨⟨_,_⟩,_⟩,_⟩,hcap⟩,_⟩,hcl⟩,G4⟩,_⟩:=hty
 have hsp: ∀w∈r.visits,∃c,(Xk x w).cls<=c/\Xk (Zk x l) w= { Xk x w with cls:=c } :=fun w hw=>by
  obtain ⟨w1,w2⟩:=hsq.inr w hw
  have hi:w.order.toNat<x.orders.length:=Za
  have hord:=hx.orders.2 _ hi;have hpk:=hord.pstp;have hdk:=hord.dstp;simp only [stpOk,Zq] at hpk hdk;unfold Xk;rw [show (Zk x l).orders=Z8 x.orders l from rfl,Z0 hi]
  split
  ·simp only [WN]
   grind
  ·simp only [WN]
   grind
 rw [Ii c1];refine ⟨by simp [ZM],?_,?_,rfl,rfl,rfl,rfl,rfl,fun k hk=> ?_⟩
 ·simp only [WC];split
  ·exact hcl.2
  omega
 ·simp only [WC];split
  ·have:=G4.1;simp [rng] at this;exact this.2
  omega
 ·simp [ZM] at hk
  have e: ∀y:Inst,nth (ZM y r.visits) k=Xk y (nth r.visits k):=fun y=>by
   grind [Zh,ZM]
  grind [Zt]
theorem Tw {x y:Inst} {t t' sp sp'} {st:Int} {r:List Bool} (hn:y.net=x.net) (h:WkT t t' sp sp') (hr:r.length<=sp.length+1) (h0:(Yn x t sp st r).2=0) :
  (Yn y t' sp' st r).1.fin<=(Yn x t sp st r).1.fin/\(Yn y t' sp' st r).1.miles=(Yn x t sp st r).1.miles:=by
 obtain ⟨bs,b1,b2,b3⟩:=fB hr h0;have hl:=((DH hr).1 b1).1
 have hrun:Y9 (XA x t sp) 0 (labF t st) bs=some (Xf x t sp 0 (labF t st) bs).1:=by rw [Yy,if_pos b2]
 have el:labF t' st=labF t st:=by simp [labF,h.opn]
 have hy:=DI hn h bs 0 _ _ Za hrun;rw [Yy,<- el] at hy
 split at hy
 ·rename_i h5;have e:=Vi hy;rw [el] at e
  have hb:bs∈XE r (sp'.length+1):=by rw [h.len];exact b1
  obtain ⟨_,g2,g3⟩:=OU (x:=y) (t:=t') (sp:=sp') (st:=st) (r:=r) (by rw [h.len];exact hr) hb h5
  grind
 ·cases hy
theorem MC {x:Inst} {l:List Itm} {v:List Vis} {t:Int} (hi:Inr x v): ∀n,n<=v.length->chgF (Zk x l) v t n=chgF x v t n
 | 0,_=>rfl
 | n+1,hn=>by
  have ih:=MC (l:=l) (t:=t) hi n Za;have hv:=hi _ (ZY (show n<v.length by omega));have e:nth (Zk x l).orders (nth v n).order.toNat=WN (nth x.orders (nth v n).order.toNat) ((nth v n).order.toNat:Nat) l:=Z0 Za;rw [chgF,chgF,ih,e]
  rfl
theorem PG {x:Inst} {l:List Itm} {r:Rte} (hx:InstOk x) (hy:InstOk (Zk x l)) (hI: ∀v∈l,XB x v=true) (h:(YH x r).2=0) :
  (YH (Zk x l) r).2=0/\(YH (Zk x l) r).1<=(YH x r).1:=by
 have he:=aY h;have e1:=TN hx hI he;have hru:=Ui he;obtain ⟨c1,_,c3⟩:=U3 hru;have hw:=nQ (l:=l) hx hru
 have hb:(Xv x r).2=0:=by simp_all [Xw]
 have hlen:r.rests.length<=(ZM x r.visits).length+1:=by grind [Yc]
 obtain ⟨g1,g2⟩:=Tw (x:=x) (y:=Zk x l) rfl hw hlen hb;have hty:=Ii (l:=l) c1;have f1:=I3 hy e1;have f2:=I3 hx he;obtain ⟨p1,_⟩:=Bp hy e1;have hnum:=WS hx (show r.typ.toNat<x.types.length by omega);have htyp:nth x.types r.typ.toNat=ZE x r:=rfl;rw [htyp] at hnum;have hin:Inr x r.visits:=(WI he).inr;have hch:=MC (l:=l) (t:=r.typ) hin r.visits.length (ZA _);rw [YH,if_pos he] at h;rw [YH,if_pos e1,YH,if_pos he]
 have b1:(Xv (Zk x l) r).1=X7 (Zk x l) r:=by rw [X7,if_pos e1]
 have b2:(Xv x r).1=X7 x r:=by rw [X7,if_pos he]
 have g1:(X7 (Zk x l) r).fin<=(X7 x r).fin:=by rw [<- b1,<- b2];exact g1
 have g2:(X7 (Zk x l) r).miles=(X7 x r).miles:=by rw [<- b1,<- b2];exact g2
 rw [We,if_pos e1,b1] at p1 ⊢;rw [We,if_pos he,b2] at h ⊢
 have o1:(ZE (Zk x l) r).opn=(ZE x r).opn:=by rw [hty];rfl
 have o2:(ZE (Zk x l) r).fixed=(ZE x r).fixed:=by rw [hty];rfl
 have o3:(ZE (Zk x l) r).perMile=(ZE x r).perMile:=by rw [hty];rfl
 have o4:(ZE (Zk x l) r).perTick=(ZE x r).perTick:=by rw [hty];rfl
 rw [o1] at f1;unfold aX at p1;refine nN h p1 ?_ ?_ ?_ ?_
 ·simp only [DK,o1,o2,o3,o4,g2];have:(ZE x r).perTick*((X7 (Zk x l) r).fin-(ZE x r).opn)<=(ZE x r).perTick*((X7 x r).fin-(ZE x r).opn):=Bu Za Za;omega
 ·grind [DK]
 ·grind [DK]
 ·simp only [DK,o1]
  have t1:0<=((X7 (Zk x l) r).fin-(ZE x r).opn).tdiv 64/\((X7 (Zk x l) r).fin-(ZE x r).opn).tdiv 64<=((X7 x r).fin-(ZE x r).opn).tdiv 64:=by
   grind
  exact VJ t1.2 t1.2 t1.1 Za
set_option maxRecDepth 60000
theorem N1 {x:Inst} (hx:InstOk x):(∀k,k<x.orders.length->(nth x.orders k).off=false->0<=(nth x.orders k).penalty->0<=skR x k/\skR x k<=18014398509481984)/\ ∀i,scoR 1152921504606846976 (unsF x i).1 :=
 ⟨fun k hk hof hp=>by
  obtain ⟨s1,s2⟩:=wU hx hk hof;have:=N2 hx k
  omega,fun i=>AQ Za (Od hx i)⟩
theorem Rz (x:Inst) (l:List Col): ∃q:Pln×Int×Int,Me x l q.1 q.2.1 q.2.2:=by
 suffices h: ∃b e,dC x l b e by
  obtain ⟨b,e,h⟩:=h
  by_cases he:e=0
  ·exact ⟨⟨_,_,e⟩,b,h,fun h=>absurd he h,fun _=>⟨rfl,rfl⟩⟩
  ·exact ⟨⟨_,_,e⟩,b,h,fun _=>⟨rfl,rfl⟩,fun h=>absurd h he⟩
 unfold dC
 by_cases h1:8192<l.length
 ·grind
 ·by_cases h2: ∃c∈l,rightB x c=false
  ·exact ⟨_,_,.inr (.inl ⟨Za,h2,rfl,rfl⟩)⟩
  ·have h3: ∀c∈l,rightB x c=true:=fun c hc=>by
    grind
   cases hf:(Eb x l).found with
   | false=>exact ⟨_,_,.inr (.inr ⟨Za,h3,.inl ⟨rfl,rfl,rfl⟩⟩)⟩
   | true=>exact ⟨_,_,.inr (.inr ⟨Za,h3,.inr ⟨rfl,rfl,rfl⟩⟩)⟩
noncomputable def mU (x:Inst):Pln×Int×Int:=Classical.choose (Rz x (XG x))
theorem LU (x:Inst):Me x (XG x) (mU x).1 (mU x).2.1 (mU x).2.2:=Classical.choose_spec (Rz x (XG x))
noncomputable def XW (x:Inst):Int:=(mU x).2.1
noncomputable def Wa (x:Inst):Int:=(mU x).2.2
theorem fN {x:Inst} {l:List Col} {p q:Pln} {c c' e e':Int} (h:Me x l p c e) (h':Me x l q c' e'):c=c'/\e=e':=by
 obtain ⟨b,hb,h1,h2⟩:=h;obtain ⟨b',hb',h1',h2'⟩:=h'
 have he:e=e'/\b=b':=by
  rcases hb with ⟨k1,rfl,rfl⟩ | ⟨k1,⟨d,kd,k2⟩,rfl,rfl⟩ | ⟨k1,k2,k3⟩<;>rcases hb' with ⟨j1,rfl,rfl⟩ | ⟨j1,⟨d',jd,j2⟩,rfl,rfl⟩ | ⟨j1,j2,j3⟩
  ·simp
  ·omega
  ·omega
  ·omega
  ·simp
  ·grind
  ·omega
  ·grind
  grind
 grind
theorem mW (x:Inst) (hx:InstOk x) (hn:x.orders.length<=4) (hbl:x.before.length<=1048576) (hal:x.apart.length<=1048576) :
  ACalls Tryz.prog 47 [.p (Zv x)] [] fun y H'=> ∃p:Pln,oG x (XG x) p (XW x) (Wa x)/\y= .tup [.p (JI p),.p (.int .i64 (XW x)),.p (.int .i64 (Wa x))]/\H'= []:=by
 refine (tW x hx hn (uN hx) hbl hal).mono fun y H' h=> ?_;obtain ⟨p,c,e,h,rfl,rfl⟩:=h;obtain ⟨_,hc⟩:=Er hn (uN hx);obtain ⟨rfl,rfl,_⟩:=fO hx hn (fun c h=>(hc c h).1) h (LU x);exact ⟨p,h,rfl,rfl⟩
theorem mX (x:Inst) (hx:InstOk x) (hn:x.orders.length<=4) (hbl:x.before.length<=1048576) :
  ACalls Tryz.prog 12 [.p (Zv x)] [] fun y H'=> ∃p:Pln,Me x (XG x) p (XW x) (Wa x)/\y= .tup [.p (JI p),.p (.int .i64 (XW x)),.p (.int .i64 (Wa x))]/\H'= []:=by
 obtain ⟨hsk,hus⟩:=N1 hx;refine (bY x hx hn (uN hx) hbl hsk hus).mono fun y H' h=> ?_;obtain ⟨p,c,e,h,rfl,rfl⟩:=h;obtain ⟨rfl,rfl⟩:=fN h (LU x);exact ⟨p,h,rfl,rfl⟩
end Go.Proofs.YtenjikkmmibffaaGreatDoor.K
