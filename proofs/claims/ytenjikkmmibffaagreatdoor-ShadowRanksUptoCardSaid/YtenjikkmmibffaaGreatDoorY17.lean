/- Declarations that the closing texts need, part 17: joined by tools/slim.py. -/
import Derived.Test.YtenjikkmmibffaaGreatDoorY16
set_option linter.unusedVariables false
set_option linter.unusedSimpArgs false
namespace Go.Proofs.YtenjikkmmibffaaGreatDoor.K
open Go Go.AM Go.Proofs
set_option maxRecDepth 8000
theorem sT {x:Inst} {t:Typ} {sp:List Stp} {k:Nat} {L:Lab} {b:Bool} (hT:TrpOk x t sp) (hk:k<sp.length) (he:(nxtF x t sp k L b).2=0):L.ready<=(nxtF x t sp k L b).1.ready:=by
 have hrs:=hT.rst
 have hd:L.ready<=ZK t L b:=by grind [ZK]
 have hgo:(Y2 x t sp k (ZK t L b)).2.2=0->ZK t L b<=(Y2 x t sp k (ZK t L b)).1:=fun e=>jN hT.net e;have hst:=hT.stp _ (ZZ hk);unfold nxtF at he ⊢
 generalize Y2 x t sp k (ZK t L b)=g at *
 generalize ZK t L b=d at *
 generalize WU L b=s at *
 generalize X1 k d b L.she=m at *
 have hk2: ¬k=sp.length:=Za
 unfold WB at he ⊢
 grind
theorem sS {x:Inst} {t:Typ} {sp:List Stp} {L:Lab} {b:Bool} (hT:TrpOk x t sp) (he:(nxtF x t sp sp.length L b).2=0):L.ready<=(nxtF x t sp sp.length L b).1.she.fin/\(nxtF x t sp sp.length L b).1.she.fin<=t.cls:=by
 have hrs:=hT.rst
 have hd:L.ready<=ZK t L b:=by grind [ZK]
 have hgo:(Y2 x t sp sp.length (ZK t L b)).2.2=0->ZK t L b<=(Y2 x t sp sp.length (ZK t L b)).1:=fun e=>jN hT.net e;unfold nxtF at he ⊢
 generalize Y2 x t sp sp.length (ZK t L b)=g at *
 generalize ZK t L b=d at *
 generalize WU L b=s at *
 generalize X1 sp.length d b L.she=m at *
 unfold WB at he ⊢
 grind
theorem SR {x:Inst} {t:Typ} {sp:List Stp} (hT:TrpOk x t sp): ∀(bs:List Bool) (k:Nat) (L:Lab),k+bs.length=sp.length+1->0<bs.length->(Xc x t sp k L bs).2=0->L.ready<=(Xc x t sp k L bs).1.she.fin/\(Xc x t sp k L bs).1.she.fin<=t.cls
 | [],k,L,_,h3,_=>by simp at h3
 | b::bs,k,L,h2,_,h=>by
  rw [Xc] at h ⊢
  by_cases h4:(nxtF x t sp k L b).2=0
  ·simp only [h4,if_true] at h ⊢
   cases bs with
   | nil =>
    simp_all [Xc,sS]
   | cons b2 bs =>
    simp at h2;have h5:=SR hT (b2::bs) (k+1) _ (by simp;omega) Zb h;have h6:=sT hT (show k<sp.length by omega) h4;omega
  grind
theorem La {x:Inst} {r:Rte} (hx:InstOk x) (h:Xw x r=0):(ZE x r).opn<=(X8 x r).fin/\(X8 x r).fin<=(ZE x r).cls:=by
 obtain ⟨hty,h0,hs⟩:=Qb (Uj h)
 have e:X8 x r=(Xv x r).1:=by rw [X8,if_pos h]
 have ee:(Xv x r).2=0:=by rw [Xw,if_pos (Uj h)] at h;exact h
 have hT:=K7 hx hty (VO h0);obtain ⟨bs,hb1,hb2,hb3⟩:=Hm (by grind [Yf]) ee;have hb3:(Xv x r).1=_:=hb3;rw [e,hb3];have h1:=SR hT bs 0 _ Za Za hb2
 grind [labF]
def Em (l:List Vis) (N:Nat):Nat:=(List.range N).countP fun i:Nat=>hasO l (i:Int)
theorem TY {l m:List Vis} {N:Nat} (h: ∀v∈l,v∈m):Em l N<=Em m N:=List.countP_mono_left fun i _ hi=>by
 grind [W6]
theorem RN {x:Inst} {l:List Vis} {t:Int} (hi:Inr x l): ∀n,n<=l.length->(0<=(chgF x l t n).1/\(chgF x l t n).1<=(Em (l.take n) x.orders.length:Int))/\(0<=(chgF x l t n).2/\(chgF x l t n).2<=(Em (l.take n) x.orders.length:Int))
 | 0,_=>by simp [chgF]
 | n+1,h=>by
  have ih:=RN (t:=t) hi n Za
  have hn:n<l.length:=Za
  have hv:=hi _ (ZZ hn)
  have htk:l.take (n+1)=l.take n++ [nth l n]:=by rw [X0 hn,Zh hn]
  have hmono:Em (l.take n) x.orders.length<=Em (l.take (n+1)) x.orders.length:=TY fun v hv=>by grind
  have hap: ∀i:Int,hasO (l.take (n+1)) i=(hasO (l.take n) i||decide ((nth l n).order=i)):=fun i=>by grind [hasO]
  rw [chgF]
  split
  ·rename_i hf
   have hadd:Em (l.take (n+1)) x.orders.length=Em (l.take n) x.orders.length+1:=by
    unfold Em;rw [List.countP_eq_length_filter,List.countP_eq_length_filter]
    have ei:(((nth l n).order.toNat:Nat):Int)=(nth l n).order:=Za
    refine FD (a:=(nth l n).order.toNat) List.nodup_range (ZM.2 Za) ?_ ?_ fun b _ hb=> ?_
    ·rw [ei];simp only [UD,XQ] at hf;exact hf
    ·grind
    grind
   omega
  ·omega
theorem Bu {x:Inst} {r:Rte} (hx:InstOk x) (h:Xw x r=0):bN (Wg x r)/\(Wg x r).cost<=22000000/\(Wg x r).moved<=(Em r.visits x.orders.length:Int)/\(Wg x r).other<=(Em r.visits x.orders.length:Int)/\(Wg x r).work<=4096:=by
 have hg:=MU hx h;have hf:=La hx h;obtain ⟨hty,_,_⟩:=Qb (Uj h);have hnum:=WM hx (show r.typ.toNat<x.types.length by omega);have htyp:nth x.types r.typ.toNat=ZE x r:=rfl;rw [htyp] at hnum
 have e:(Xv x r).1=X8 x r:=by rw [X8,if_pos h]
 have hch:=RN (t:=r.typ) (WD h).inr r.visits.length (ZB _);rw [Yd] at hch;rw [Wg,if_pos h,e];unfold DQ bN
 generalize X8 x r=s at *
 generalize ZE x r=t at *
 have p1:0<=t.perMile*s.miles/\t.perMile*s.miles<=100*210000:=⟨UI Za Za,VG Za Za Za Za⟩
 have hW:0<=s.fin-t.opn/\s.fin-t.opn<=4096:=Za
 have p2:0<=t.perTick*(s.fin-t.opn)/\t.perTick*(s.fin-t.opn)<=100*4096:=⟨UI Za Za,VG Za Za Za Za⟩
 have p3:0<=(s.fin-t.opn).tdiv 64/\(s.fin-t.opn).tdiv 64<=64:=by
  grind
 have p4:0<=(s.fin-t.opn).tdiv 64*(s.fin-t.opn).tdiv 64/\(s.fin-t.opn).tdiv 64*(s.fin-t.opn).tdiv 64<=64*64:=⟨UI p3.1 p3.1,VG p3.2 p3.2 p3.1 Za⟩
 grind
theorem H9 {x:Inst} (hx:InstOk x) (hn:x.orders.length<=4): ∀c∈XF x,rightB x c=true:=fun c hc=>by
 obtain ⟨k,S,h1,h2,h3,h4,h5⟩:=BY.1 hc;obtain ⟨m,m1,m2,m3⟩:=Dp h4;have hp4:2^x.orders.length<=2^4:=Ys Za hn
 have hal:Wt x.orders x.apart x.before ((S:Nat):Int)=0:=by
  grind [VQ]
 have hf:=XK hx;have ha:Alw x S:=(QE Za (by rw [Nat.div_eq_zero_iff];exact .inr h3) hf.val).1 hal
 have hw:Rq S (Yt x x.orders.length)=true:=by
  rw [OE hn Za,ZH,Zs,ZA];refine ⟨h3,fun i hi=> ?_⟩
  cases hb:S.testBit i with
  | false=>rfl
  | true=>rw [ha.off i (ZM.1 hi) hb];rfl
 have he:=Up m2;have hfn:=Bu hx he
 have hcn:Em (Jf (k:Int) m).visits x.orders.length<=x.orders.length:=by
  have:=List.countP_le_length (p:=fun i:Nat=>hasO (Jf (k:Int) m).visits (i:Int)) (l:=List.range x.orders.length);rw [List.length_range] at this;exact this
 have hpr:(YL x (Jf k m)).1=(((Wg x (Jf k m)).cost*16+(Wg x (Jf k m)).moved)*16+(Wg x (Jf k m)).other)*65536+(Wg x (Jf k m)).work:=by
  rw [YL,if_pos he]
  grind [oA,OD]
 have hp:=NS x (Jf k m)
 have h6:(YU x k S m).price<=18014398509481984:=by
  show (YL x (Jf k m)).1<=_
  omega
 rw [h5,m3];simp only [rightB,ZH,Zs];refine ⟨?_,?_,?_,?_,?_,h6⟩
 ·show (0:Int)<=(k:Int);omega
 ·show (k:Int)<_;omega
 ·show (0:Int)<(S:Int);omega
 ·show Rq ((S:Nat):Int).toNat _=true
  grind
 ·exact hp.1
theorem bO {x:Inst} {r:Rte} (h:(YL x r).2=0):Xw x r=0:=by
 grind [YL]
set_option maxHeartbeats 8000000
theorem rY {n:Net} {pr f t τ σ:Int} :(WY n pr f t τ).2=(WY n pr f t σ).2:=by
 grind [WY]
theorem SG {x:Inst} {t:Typ} {sp:List Stp} {k:Nat} {L:Lab} {b:Bool} (h:(nxtF x t sp k L b).2=0):(nxtF x t sp k L b).1.she.miles=L.she.miles+(Y2 x t sp k 0).2.1:=by
 have e:(Y2 x t sp k (ZK t L b)).2=(Y2 x t sp k 0).2:=rY
 have hm:(X1 k (ZK t L b) b L.she).miles=L.she.miles:=by grind [X1]
 rw [<- e];unfold nxtF at h ⊢
 generalize Y2 x t sp k (ZK t L b)=g at *
 generalize X1 k (ZK t L b) b L.she=m at *
 unfold WB at h ⊢
 grind
theorem SS {x:Inst} {t:Typ} {sp:List Stp} : ∀(bs cs:List Bool) (k:Nat) (L M:Lab),bs.length=cs.length->L.she.miles=M.she.miles->(Xc x t sp k L bs).2=0->(Xc x t sp k M cs).2=0->(Xc x t sp k L bs).1.she.miles=(Xc x t sp k M cs).1.she.miles
 | [],[],k,L,M,_,h,_,_=>by grind [Xc]
 | [],_::_,_,_,_,h,_,_,_=>by simp at h
 | _::_,[],_,_,_,h,_,_,_=>by simp at h
 | b::bs,c::cs,k,L,M,hl,h,h1,h2=>by
  rw [Xc] at h1 h2 ⊢;rw [Xc]
  by_cases g1:(nxtF x t sp k L b).2=0
  ·by_cases g2:(nxtF x t sp k M c).2=0
   ·simp only [g1,g2,if_true] at h1 h2 ⊢;exact SS bs cs (k+1) _ _ (by simpa using hl) (by rw [SG g1,SG g2,h]) h1 h2
   grind
  grind
theorem FI : ∀(n:Nat) (l:List Bool),l.length=n->l∈YV (List.replicate n false)
 | 0,l,h=>by
  grind [YV]
 | n+1,[],h=>by simp at h
 | n+1,b::l,h=>by
  have ih:=FI n l (by simpa using h);rw [KI,YV];simp only [YX,YE,Xi,XC,CB]
  cases b with
  | false=>exact .inl ⟨l,ih,rfl⟩
  | true=>exact .inr ⟨l,ih,rfl⟩
theorem DN {r q:List Bool} {n:Nat} (hr:r.length<=n):q∈XD r n↔q.length=n/\ ∃s,q=r++s:=by
 rw [XD,XC]
 constructor
 ·rintro ⟨s,hs,rfl⟩;have:=bestF_len.fromB_len _ _ hs
  grind
 ·rintro ⟨h,s,rfl⟩;rw [ZG] at h;exact ⟨s,FI _ s Za,rfl⟩
theorem R5 {L:Type} {fin:L->Int} : ∀l:List L,W4 fin none l=none->l= []
 | [],_=>rfl
 | a::l,h=>by
  rw [W4] at h;obtain ⟨z,e,_⟩:=VA fin l a
  grind
theorem jA {L:Type} {fin:L->Int} {l:List L} {m:L} (h:W4 fin none l=some m): ∀y∈l,fin m<=fin y:=by
 cases l with
 | nil=>simp
 | cons a l =>
  rw [W4] at h;obtain ⟨z,e,e1,e2⟩:=VA fin l a
  grind
theorem Pa {x t sp} {st:Int} {r bs:List Bool} (hr:r.length<=sp.length+1) (hb:bs∈XD r (sp.length+1)) (h:(Xc x t sp 0 (labF t st) bs).2=0) :
  (Yn x t sp st r).2=0/\(Yn x t sp st r).1.fin<=(Xc x t sp 0 (labF t st) bs).1.she.fin/\(Yn x t sp st r).1.miles=(Xc x t sp 0 (labF t st) bs).1.she.miles:=by
 have hrun:Wc (XA x t sp) 0 (labF t st) bs=some (Xc x t sp 0 (labF t st) bs).1:=by rw [Yw,if_pos h]
 have hmem:(Xc x t sp 0 (labF t st) bs).1∈(XD r (sp.length+1)).filterMap (Wc (XA x t sp) 0 (labF t st)):=KJ.2 ⟨_,hb,hrun⟩;unfold Yn
 cases hf:W4 Wh none ((XD r (sp.length+1)).filterMap (Wc (XA x t sp) 0 (labF t st))) with
 | none =>
  grind [R5]
 | some L =>
  simp only;refine ⟨trivial,jA hf _ hmem,?_⟩;have hm:=bestF_len.fmL_mem _ _ hf;obtain ⟨cs,hcs,hrun2⟩:=KJ.1 hm;rw [Yw] at hrun2
  split at hrun2
  ·rename_i h5;obtain rfl:=Vi hrun2;have l1:=((DN hr).1 hb).1;have l2:=((DN hr).1 hcs).1;exact SS cs bs 0 _ _ Za rfl h5 h
  grind
theorem fV {x t sp} {st:Int} {r:List Bool} (hr:r.length<=sp.length+1) (h:(Yn x t sp st r).2=0): ∃bs:List Bool,bs∈XD r (sp.length+1)/\(Xc x t sp 0 (labF t st) bs).2=0/\(Yn x t sp st r).1=(Xc x t sp 0 (labF t st) bs).1.she:=by
 unfold Yn at h ⊢
 cases hf:W4 Wh none ((XD r (sp.length+1)).filterMap (Wc (XA x t sp) 0 (labF t st))) with
 | none =>
  exfalso;rw [hf] at h;simp only at h
  have hm:YQ r (sp.length+1)∈XD r (sp.length+1):=by
   grind [XD,YQ,fromB_next]
  have h2:Wc (XA x t sp) 0 (labF t st) (YQ r (sp.length+1))=some (Xc x t sp 0 (labF t st) (YQ r (sp.length+1))).1:=by rw [Yw,if_pos h]
  grind [R5]
 | some L =>
  simp only;have hm:=bestF_len.fmL_mem _ _ hf;obtain ⟨bs,hbs,hrun⟩:=KJ.1 hm;rw [Yw] at hrun
  grind
theorem oB {a b:Sco} (h:(YA a).2=0) (hb:0<=b.cost/\0<=b.moved/\0<=b.other/\0<=b.work) (h1:b.cost<=a.cost) (h2:b.moved=a.moved) (h3:b.other=a.other) (h4:b.work<=a.work):(YA b).2=0/\(YA b).1<=(YA a).1:=by
 unfold YA at h ⊢
 grind
theorem Io {x:Inst} {l:List Itm} {r:Rte} (h:0<=r.typ/\r.typ<(x.types.length:Int)):ZE (Zm x l) r=Va (ZE x r) r.typ l:=by
 unfold ZE;rw [show (Zm x l).types=Xo x.types l from rfl,Wl Za]
 grind
theorem oE {x:Inst} {l:List Itm} {r:Rte} (hx:InstOk x) (h:XW x r=0):WkT (ZE x r) (ZE (Zm x l) r) (ZO x r.visits) (ZO (Zm x l) r.visits):=by
 obtain ⟨c1,c2,_⟩:=Qb h;have hsq:=VO c2
 have htl:r.typ.toNat<x.types.length:=Za
 have hty:=hx.types.2 _ htl;unfold Ux at hty;obtain ⟨⟨⟨⟨⟨⟨⟨⟨_,_⟩,_⟩,_⟩,hcap⟩,_⟩,hcl⟩,G6⟩,_⟩:=hty
 have hsp: ∀w∈r.visits,∃c,(Xj x w).cls<=c/\Xj (Zm x l) w= { Xj x w with cls:=c } :=fun w hw=>by
  obtain ⟨w1,w2⟩:=hsq.inr w hw
  have hi:w.order.toNat<x.orders.length:=Za
  have hord:=hx.orders.2 _ hi;have hpk:=hord.pstp;have hdk:=hord.dstp;simp only [stpOk,Zs] at hpk hdk;unfold Xj;rw [show (Zm x l).orders=Xm x.orders l from rfl,Z6 hi]
  split
  ·simp only [VU]
   grind
  ·simp only [VU]
   grind
 rw [Io c1];refine ⟨by simp [ZO],?_,?_,rfl,rfl,rfl,rfl,rfl,fun k hk=> ?_⟩
 ·simp only [Va];split
  ·exact hcl.2
  omega
 ·simp only [Va];split
  ·have:=G6.1;simp [rng] at this;exact this.2
  omega
 ·simp [ZO] at hk
  have e: ∀y:Inst,nth (ZO y r.visits) k=Xj y (nth r.visits k):=fun y=>by
   grind [Zh,ZO]
  grind [Zt]
theorem TM {x y:Inst} {t t' sp sp'} {st:Int} {r:List Bool} (hn:y.net=x.net) (h:WkT t t' sp sp') (hr:r.length<=sp.length+1) (h0:(Yn x t sp st r).2=0) :
  (Yn y t' sp' st r).1.fin<=(Yn x t sp st r).1.fin/\(Yn y t' sp' st r).1.miles=(Yn x t sp st r).1.miles:=by
 obtain ⟨bs,b1,b2,b3⟩:=fV hr h0;have hl:=((DN hr).1 b1).1
 have hrun:Wc (XA x t sp) 0 (labF t st) bs=some (Xc x t sp 0 (labF t st) bs).1:=by rw [Yw,if_pos b2]
 have el:labF t' st=labF t st:=by simp [labF,h.opn]
 have hy:=DO hn h bs 0 _ _ Za hrun;rw [Yw,<- el] at hy
 split at hy
 ·rename_i h5;have e:=Vi hy;rw [el] at e
  have hb:bs∈XD r (sp'.length+1):=by rw [h.len];exact b1
  obtain ⟨_,g2,g3⟩:=Pa (x:=y) (t:=t') (sp:=sp') (st:=st) (r:=r) (by rw [h.len];exact hr) hb h5
  grind
 ·cases hy
theorem MK {x:Inst} {l:List Itm} {v:List Vis} {t:Int} (hi:Inr x v): ∀n,n<=v.length->chgF (Zm x l) v t n=chgF x v t n
 | 0,_=>rfl
 | n+1,hn=>by
  have ih:=MK (l:=l) (t:=t) hi n Za;have hv:=hi _ (ZZ (show n<v.length by omega));have e:nth (Zm x l).orders (nth v n).order.toNat=VU (nth x.orders (nth v n).order.toNat) ((nth v n).order.toNat:Nat) l:=Z6 Za;rw [chgF,chgF,ih,e]
  rfl
theorem PX {x:Inst} {l:List Itm} {r:Rte} (hx:InstOk x) (hy:InstOk (Zm x l)) (hI: ∀v∈l,XN x v=true) (h:(YL x r).2=0) :
  (YL (Zm x l) r).2=0/\(YL (Zm x l) r).1<=(YL x r).1:=by
 have he:=bO h;have e1:=T4 hx hI he;have hru:=Uj he;obtain ⟨c1,_,c3⟩:=Qb hru;have hw:=oE (l:=l) hx hru
 have hb:(Xv x r).2=0:=by simp_all [Xw]
 have hlen:r.rests.length<=(ZO x r.visits).length+1:=by grind [Yf]
 obtain ⟨g1,g2⟩:=TM (x:=x) (y:=Zm x l) rfl hw hlen hb;have hty:=Io (l:=l) c1;have f1:=La hy e1;have f2:=La hx he;obtain ⟨p1,_⟩:=Bu hy e1;have hnum:=WM hx (show r.typ.toNat<x.types.length by omega);have htyp:nth x.types r.typ.toNat=ZE x r:=rfl;rw [htyp] at hnum;have hin:Inr x r.visits:=(WD he).inr;have hch:=MK (l:=l) (t:=r.typ) hin r.visits.length (ZB _);rw [YL,if_pos he] at h;rw [YL,if_pos e1,YL,if_pos he]
 have b1:(Xv (Zm x l) r).1=X8 (Zm x l) r:=by rw [X8,if_pos e1]
 have b2:(Xv x r).1=X8 x r:=by rw [X8,if_pos he]
 have g1:(X8 (Zm x l) r).fin<=(X8 x r).fin:=by rw [<- b1,<- b2];exact g1
 have g2:(X8 (Zm x l) r).miles=(X8 x r).miles:=by rw [<- b1,<- b2];exact g2
 rw [Wg,if_pos e1,b1] at p1 ⊢;rw [Wg,if_pos he,b2] at h ⊢
 have o1:(ZE (Zm x l) r).opn=(ZE x r).opn:=by rw [hty];rfl
 have o2:(ZE (Zm x l) r).fixed=(ZE x r).fixed:=by rw [hty];rfl
 have o3:(ZE (Zm x l) r).perMile=(ZE x r).perMile:=by rw [hty];rfl
 have o4:(ZE (Zm x l) r).perTick=(ZE x r).perTick:=by rw [hty];rfl
 rw [o1] at f1;unfold bN at p1;refine oB h p1 ?_ ?_ ?_ ?_
 ·simp only [DQ,o1,o2,o3,o4,g2];have:(ZE x r).perTick*((X8 (Zm x l) r).fin-(ZE x r).opn)<=(ZE x r).perTick*((X8 x r).fin-(ZE x r).opn):=Bz Za Za;omega
 ·grind [DQ]
 ·grind [DQ]
 ·simp only [DQ,o1]
  have t1:0<=((X8 (Zm x l) r).fin-(ZE x r).opn).tdiv 64/\((X8 (Zm x l) r).fin-(ZE x r).opn).tdiv 64<=((X8 x r).fin-(ZE x r).opn).tdiv 64:=by
   grind
  exact VG t1.2 t1.2 t1.1 Za
set_option maxRecDepth 60000
theorem Oh {x:Inst} (hx:InstOk x):(∀k,k<x.orders.length->(nth x.orders k).off=false->0<=(nth x.orders k).penalty->0<=skR x k/\skR x k<=18014398509481984)/\ ∀i,scoR 1152921504606846976 (unsF x i).1 :=
 ⟨fun k hk hof hp=>by
  obtain ⟨s1,s2⟩:=xJ hx hk hof;have:=Oi hx k
  omega,fun i=>AV Za (Ox hx i)⟩
theorem RO (x:Inst) (l:List Col): ∃q:Pln×Int×Int,Mk x l q.1 q.2.1 q.2.2:=by
 suffices h: ∃b e,dV x l b e by
  obtain ⟨b,e,h⟩:=h
  by_cases he:e=0
  ·exact ⟨⟨_,_,e⟩,b,h,fun h=>absurd he h,fun _=>⟨rfl,rfl⟩⟩
  ·exact ⟨⟨_,_,e⟩,b,h,fun _=>⟨rfl,rfl⟩,fun h=>absurd h he⟩
 unfold dV
 by_cases h1:8192<l.length
 ·grind
 ·by_cases h2: ∃c∈l,rightB x c=false
  ·exact ⟨_,_,.inr (.inl ⟨Za,h2,rfl,rfl⟩)⟩
  ·have h3: ∀c∈l,rightB x c=true:=fun c hc=>by
    grind
   cases hf:(Ei x l).found with
   | false=>exact ⟨_,_,.inr (.inr ⟨Za,h3,.inl ⟨rfl,rfl,rfl⟩⟩)⟩
   | true=>exact ⟨_,_,.inr (.inr ⟨Za,h3,.inr ⟨rfl,rfl,rfl⟩⟩)⟩
noncomputable def nI (x:Inst):Pln×Int×Int:=Classical.choose (RO x (XF x))
theorem L4 (x:Inst):Mk x (XF x) (nI x).1 (nI x).2.1 (nI x).2.2:=Classical.choose_spec (RO x (XF x))
noncomputable def Xz (x:Inst):Int:=(nI x).2.1
noncomputable def Yx (x:Inst):Int:=(nI x).2.2
theorem gI {x:Inst} {l:List Col} {p q:Pln} {c c' e e':Int} (h:Mk x l p c e) (h':Mk x l q c' e'):c=c'/\e=e':=by
 obtain ⟨b,hb,h1,h2⟩:=h;obtain ⟨b',hb',h1',h2'⟩:=h'
 have he:e=e'/\b=b':=by
  rcases hb with ⟨k1,rfl,rfl⟩ | ⟨k1,⟨d,kd,k2⟩,rfl,rfl⟩ | ⟨k1,k2,k3⟩<;>rcases hb' with ⟨j1,rfl,rfl⟩ | ⟨j1,⟨d',jd,j2⟩,rfl,rfl⟩ | ⟨j1,j2,j3⟩
  ·simp
  ·omega
  ·omega
  ·omega
  ·simp
  ·grind
  ·omega
  ·grind
  grind
 grind
theorem nK (x:Inst) (hx:InstOk x) (hn:x.orders.length<=4) (hbl:x.before.length<=1048576) (hal:x.apart.length<=1048576) :
  ACalls Tryz.prog 47 [.p (Zv x)] [] fun y H'=> ∃p:Pln,oU x (XF x) p (Xz x) (Yx x)/\y= .tup [.p (JO p),.p (.int .i64 (Xz x)),.p (.int .i64 (Yx x))]/\H'= []:=by
 refine (uL x hx hn (vC hx) hbl hal).mono fun y H' h=> ?_;obtain ⟨p,c,e,h,rfl,rfl⟩:=h;obtain ⟨_,hc⟩:=Ey hn (vC hx);obtain ⟨rfl,rfl,_⟩:=gJ hx hn (fun c h=>(hc c h).1) h (L4 x);exact ⟨p,h,rfl,rfl⟩
theorem nL (x:Inst) (hx:InstOk x) (hn:x.orders.length<=4) (hbl:x.before.length<=1048576) :
  ACalls Tryz.prog 12 [.p (Zv x)] [] fun y H'=> ∃p:Pln,Mk x (XF x) p (Xz x) (Yx x)/\y= .tup [.p (JO p),.p (.int .i64 (Xz x)),.p (.int .i64 (Yx x))]/\H'= []:=by
 obtain ⟨hsk,hus⟩:=Oh hx;refine (cW x hx hn (vC hx) hbl hsk hus).mono fun y H' h=> ?_;obtain ⟨p,c,e,h,rfl,rfl⟩:=h;obtain ⟨rfl,rfl⟩:=gI h (L4 x);exact ⟨p,h,rfl,rfl⟩
end Go.Proofs.YtenjikkmmibffaaGreatDoor.K
