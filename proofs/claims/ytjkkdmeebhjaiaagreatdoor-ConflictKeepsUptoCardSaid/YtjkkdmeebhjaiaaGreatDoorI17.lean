/- Declarations that the closing texts need, part 17: joined by tools/slim.py. -/
import Derived.Test.YtjkkdmeebhjaiaaGreatDoorI16
set_option linter.unusedVariables false
set_option linter.unusedSimpArgs false
namespace Go.Proofs.YtjkkdmeebhjaiaaGreatDoor.K
open Go Go.AM Go.Proofs
set_option maxRecDepth 8000
theorem lR {x:Inst} {t:Typ} {sp:List Stp} {k:Nat} {L:Lab} {b:Bool} (hT:TrpOk x t sp) (hk:k<sp.length) (he:(nxtF x t sp k L b).2=0):L.ready<=(nxtF x t sp k L b).1.ready:=by
 have hrs:=hT.rst
 have hd:L.ready<=Xh t L b:=by grind [Xh]
 have hgo:(BR x t sp k (Xh t L b)).2.2=0->Xh t L b<=(BR x t sp k (Xh t L b)).1:=fun e=>aX hT.net e;have hst:=hT.stp _ (Z0 hk);unfold nxtF at he ⊢
 generalize BR x t sp k (Xh t L b)=g at *
 generalize Xh t L b=d at *
 generalize UI L b=s at *
 generalize YN k d b L.she=m at *
 have hk2: ¬k=sp.length:=Za
 unfold Vt at he ⊢
 grind
theorem lQ {x:Inst} {t:Typ} {sp:List Stp} {L:Lab} {b:Bool} (hT:TrpOk x t sp) (he:(nxtF x t sp sp.length L b).2=0):L.ready<=(nxtF x t sp sp.length L b).1.she.fin/\(nxtF x t sp sp.length L b).1.she.fin<=t.cls:=by
 have hrs:=hT.rst
 have hd:L.ready<=Xh t L b:=by grind [Xh]
 have hgo:(BR x t sp sp.length (Xh t L b)).2.2=0->Xh t L b<=(BR x t sp sp.length (Xh t L b)).1:=fun e=>aX hT.net e;unfold nxtF at he ⊢
 generalize BR x t sp sp.length (Xh t L b)=g at *
 generalize Xh t L b=d at *
 generalize UI L b=s at *
 generalize YN sp.length d b L.she=m at *
 unfold Vt at he ⊢
 grind
theorem Pj {x:Inst} {t:Typ} {sp:List Stp} (hT:TrpOk x t sp): ∀(bs:List Bool) (k:Nat) (L:Lab),k+bs.length=sp.length+1->0<bs.length->(Xf x t sp k L bs).2=0->L.ready<=(Xf x t sp k L bs).1.she.fin/\(Xf x t sp k L bs).1.she.fin<=t.cls
 | [],k,L,_,h3,_=>by simp at h3
 | b::bs,k,L,h2,_,h=>by
  rw [Xf] at h ⊢
  by_cases h4:(nxtF x t sp k L b).2=0
  ·simp only [h4,if_true] at h ⊢
   cases bs with
   | nil =>
    simp_all [Xf,lQ]
   | cons b2 bs =>
    simp at h2;have h5:=Pj hT (b2::bs) (k+1) _ (by simp;omega) Zb h;have h6:=lR hT (show k<sp.length by omega) h4;omega
  grind
theorem Hm {x:Inst} {r:Rte} (hx:InstOk x) (h:XH x r=0):(ZG x r).opn<=(XW x r).fin/\(XW x r).fin<=(ZG x r).cls:=by
 obtain ⟨hty,h0,hs⟩:=Ug (Vu h)
 have e:XW x r=(XV x r).1:=by rw [XW,if_pos h]
 have ee:(XV x r).2=0:=by rw [XH,if_pos (Vu h)] at h;exact h
 have hT:=BO hx hty (Vr h0);obtain ⟨bs,hb1,hb2,hb3⟩:=FG (by grind [YT]) ee;have hb3:(XV x r).1=_:=hb3;rw [e,hb3];have h1:=Pj hT bs 0 _ Za Za hb2
 grind [labF]
def CZ (l:List Vis) (N:Nat):Nat:=(List.range N).countP fun i:Nat=>hasO l (i:Int)
theorem Rm {l m:List Vis} {N:Nat} (h: ∀v∈l,v∈m):CZ l N<=CZ m N:=List.countP_mono_left fun i _ hi=>by
 grind [Vx]
theorem Oi {x:Inst} {l:List Vis} {t:Int} (hi:Inr x l): ∀n,n<=l.length->(0<=(chgF x l t n).1/\(chgF x l t n).1<=(CZ (l.take n) x.orders.length:Int))/\(0<=(chgF x l t n).2/\(chgF x l t n).2<=(CZ (l.take n) x.orders.length:Int))
 | 0,_=>by simp [chgF]
 | n+1,h=>by
  have ih:=Oi (t:=t) hi n Za
  have hn:n<l.length:=Za
  have hv:=hi _ (Z0 hn)
  have htk:l.take (n+1)=l.take n++ [nth l n]:=by rw [Yu hn,Zg hn]
  have hmono:CZ (l.take n) x.orders.length<=CZ (l.take (n+1)) x.orders.length:=Rm fun v hv=>by grind
  have hap: ∀i:Int,hasO (l.take (n+1)) i=(hasO (l.take n) i||decide ((nth l n).order=i)):=fun i=>by grind [hasO]
  rw [chgF]
  split
  ·rename_i hf
   have hadd:CZ (l.take (n+1)) x.orders.length=CZ (l.take n) x.orders.length+1:=by
    unfold CZ;rw [List.countP_eq_length_filter,List.countP_eq_length_filter]
    have ei:(((nth l n).order.toNat:Nat):Int)=(nth l n).order:=Za
    refine D4 (a:=(nth l n).order.toNat) List.nodup_range (ZO.2 Za) ?_ ?_ fun b _ hb=> ?_
    ·rw [ei];simp only [B3,XE] at hf;exact hf
    ·grind
    grind
   omega
  ·omega
theorem D0 {x:Inst} {r:Rte} (hx:InstOk x) (h:XH x r=0):dV (Y9 x r)/\(Y9 x r).cost<=22000000/\(Y9 x r).moved<=(CZ r.visits x.orders.length:Int)/\(Y9 x r).other<=(CZ r.visits x.orders.length:Int)/\(Y9 x r).work<=4096:=by
 have hg:=IW hx h;have hf:=Hm hx h;obtain ⟨hty,_,_⟩:=Ug (Vu h);have hnum:=W6 hx (show r.typ.toNat<x.types.length by omega);have htyp:nth x.types r.typ.toNat=ZG x r:=rfl;rw [htyp] at hnum
 have e:(XV x r).1=XW x r:=by rw [XW,if_pos h]
 have hch:=Oi (t:=r.typ) (WL h).inr r.visits.length (Zw _);rw [X5] at hch;rw [Y9,if_pos h,e];unfold EW dV
 generalize XW x r=s at *
 generalize ZG x r=t at *
 have p1:0<=t.perMile*s.miles/\t.perMile*s.miles<=100*210000:=⟨Qd Za Za,Uu Za Za Za Za⟩
 have hW:0<=s.fin-t.opn/\s.fin-t.opn<=4096:=Za
 have p2:0<=t.perTick*(s.fin-t.opn)/\t.perTick*(s.fin-t.opn)<=100*4096:=⟨Qd Za Za,Uu Za Za Za Za⟩
 have p3:0<=(s.fin-t.opn).tdiv 64/\(s.fin-t.opn).tdiv 64<=64:=by
  grind
 have p4:0<=(s.fin-t.opn).tdiv 64*(s.fin-t.opn).tdiv 64/\(s.fin-t.opn).tdiv 64*(s.fin-t.opn).tdiv 64<=64*64:=⟨Qd p3.1 p3.1,Uu p3.2 p3.2 p3.1 Za⟩
 grind
theorem Sp {x:Inst} (hx:InstOk x) (hn:x.orders.length<=4): ∀c∈XO x,rightB x c=true:=fun c hc=>by
 obtain ⟨k,S,h1,h2,h3,h4,h5⟩:=Az.1 hc;obtain ⟨m,m1,m2,m3⟩:=BY h4;have hp4:2^x.orders.length<=2^4:=YD Za hn
 have hal:Y6 x.orders x.apart x.before ((S:Nat):Int)=0:=by
  grind [Qp]
 have hf:=YB hx;have ha:Alw x S:=(Jx Za (by rw [Nat.div_eq_zero_iff];exact .inr h3) hf.val).1 hal
 have hw:NT S (X6 x x.orders.length)=true:=by
  rw [gD hn Za,Zs,Zp,ZH];refine ⟨h3,fun i hi=> ?_⟩
  cases hb:S.testBit i with
  | false=>rfl
  | true=>rw [ha.off i (ZO.1 hi) hb];rfl
 have he:=Ux m2;have hfn:=D0 hx he
 have hcn:CZ (Ax (k:Int) m).visits x.orders.length<=x.orders.length:=by
  have:=List.countP_le_length (p:=fun i:Nat=>hasO (Ax (k:Int) m).visits (i:Int)) (l:=List.range x.orders.length);rw [List.length_range] at this;exact this
 have hpr:(YS x (Ax k m)).1=(((Y9 x (Ax k m)).cost*16+(Y9 x (Ax k m)).moved)*16+(Y9 x (Ax k m)).other)*65536+(Y9 x (Ax k m)).work:=by
  rw [YS,if_pos he]
  grind [gB,Mg]
 have hp:=LK x (Ax k m)
 have h6:(Uk x k S m).price<=18014398509481984:=by
  show (YS x (Ax k m)).1<=_
  omega
 rw [h5,m3];simp only [rightB,Zs,Zp];refine ⟨?_,?_,?_,?_,?_,h6⟩
 ·show (0:Int)<=(k:Int);omega
 ·show (k:Int)<_;omega
 ·show (0:Int)<(S:Int);omega
 ·show NT ((S:Nat):Int).toNat _=true
  grind
 ·exact hp.1
theorem Sd {x:Inst} {r:Rte} (h:(YS x r).2=0):XH x r=0:=by
 grind [YS]
set_option maxHeartbeats 8000000
theorem kW {n:Net} {pr f t τ σ:Int} :(Qt n pr f t τ).2=(Qt n pr f t σ).2:=by
 unfold Qt
 split
 ·rfl
 ·split
  ·rfl
  ·split<;>rfl
theorem O6 {x:Inst} {t:Typ} {sp:List Stp} {k:Nat} {L:Lab} {b:Bool} (h:(nxtF x t sp k L b).2=0):(nxtF x t sp k L b).1.she.miles=L.she.miles+(BR x t sp k 0).2.1:=by
 have e:(BR x t sp k (Xh t L b)).2=(BR x t sp k 0).2:=kW
 have hm:(YN k (Xh t L b) b L.she).miles=L.she.miles:=by unfold YN;split<;>rfl
 rw [<- e];unfold nxtF at h ⊢
 generalize BR x t sp k (Xh t L b)=g at *
 generalize YN k (Xh t L b) b L.she=m at *
 unfold Vt at h ⊢
 split at h
 ·cases h
 ·rename_i c1;rw [if_neg c1]
  split at h
  ·rename_i c2;rw [if_pos c2]
   split at h
   ·cases h
   ·split at h
    ·cases h
    ·rename_i c3 c4;rw [if_neg c3,if_neg c4,<- hm]
  ·rename_i c2;rw [if_neg c2]
   split at h
   ·cases h
   ·split at h
    ·cases h
    ·rename_i c3 c4;rw [if_neg c3,if_neg c4,<- hm]
theorem Pk {x:Inst} {t:Typ} {sp:List Stp} : ∀(bs cs:List Bool) (k:Nat) (L M:Lab),bs.length=cs.length->L.she.miles=M.she.miles->(Xf x t sp k L bs).2=0->(Xf x t sp k M cs).2=0->(Xf x t sp k L bs).1.she.miles=(Xf x t sp k M cs).1.she.miles
 | [],[],k,L,M,_,h,_,_=>by rw [Xf,Xf];exact h
 | [],_::_,_,_,_,h,_,_,_=>by simp at h
 | _::_,[],_,_,_,h,_,_,_=>by simp at h
 | b::bs,c::cs,k,L,M,hl,h,h1,h2=>by
  rw [Xf] at h1 h2 ⊢;rw [Xf]
  by_cases g1:(nxtF x t sp k L b).2=0
  ·by_cases g2:(nxtF x t sp k M c).2=0
   ·simp only [g1,g2,if_true] at h1 h2 ⊢;exact Pk bs cs (k+1) _ _ (by simpa using hl) (by rw [O6 g1,O6 g2,h]) h1 h2
   ·simp only [if_neg g2] at h2;exact absurd h2 g2
  ·simp only [if_neg g1] at h1;exact absurd h1 g1
theorem D9 : ∀(n:Nat) (l:List Bool),l.length=n->l∈YM (List.replicate n false)
 | 0,l,h=>by
  rw [List.length_eq_zero_iff] at h;subst h;simp [YM]
 | n+1,[],h=>by simp at h
 | n+1,b::l,h=>by
  have ih:=D9 n l (by simpa using h);rw [Ki,YM];simp only [JK,Ys,Z5,Xj,Df]
  cases b with
  | false=>exact .inl ⟨l,ih,rfl⟩
  | true=>exact .inr ⟨l,ih,rfl⟩
theorem Cu {r q:List Bool} {n:Nat} (hr:r.length<=n):q∈Xs r n↔q.length=n/\ ∃s,q=r++s:=by
 rw [Xs,Xj]
 constructor
 ·rintro ⟨s,hs,rfl⟩;have:=bestF_len.fromB_len _ _ hs;simp only [Df] at this;exact ⟨by rw [Zy];omega,s,rfl⟩
 ·rintro ⟨h,s,rfl⟩;rw [Zy] at h;exact ⟨s,D9 _ s Za,rfl⟩
theorem OA {L:Type} {fin:L->Int} : ∀l:List L,WU fin none l=none->l= []
 | [],_=>rfl
 | a::l,h=>by
  rw [WU] at h;obtain ⟨z,e,_⟩:=WV fin l a;rw [e] at h;cases h
theorem aO {L:Type} {fin:L->Int} {l:List L} {m:L} (h:WU fin none l=some m): ∀y∈l,fin m<=fin y:=by
 cases l with
 | nil=>simp [WU] at h
 | cons a l =>
  rw [WU] at h;obtain ⟨z,e,e1,e2⟩:=WV fin l a;rw [e] at h;obtain rfl:=WD h;intro y hy;rcases Z4.1 hy with rfl | hy
  ·exact e1
  ·exact e2 y hy
theorem MK {x t sp} {st:Int} {r bs:List Bool} (hr:r.length<=sp.length+1) (hb:bs∈Xs r (sp.length+1)) (h:(Xf x t sp 0 (labF t st) bs).2=0) :
  (XU x t sp st r).2=0/\(XU x t sp st r).1.fin<=(Xf x t sp 0 (labF t st) bs).1.she.fin/\(XU x t sp st r).1.miles=(Xf x t sp 0 (labF t st) bs).1.she.miles:=by
 have hrun:WG (Xp x t sp) 0 (labF t st) bs=some (Xf x t sp 0 (labF t st) bs).1:=by rw [Yl,if_pos h]
 have hmem:(Xf x t sp 0 (labF t st) bs).1∈(Xs r (sp.length+1)).filterMap (WG (Xp x t sp) 0 (labF t st)):=Ur.2 ⟨_,hb,hrun⟩;unfold XU
 cases hf:WU Wu none ((Xs r (sp.length+1)).filterMap (WG (Xp x t sp) 0 (labF t st))) with
 | none =>
  rw [OA _ hf] at hmem;simp at hmem
 | some L =>
  simp only;refine ⟨trivial,aO hf _ hmem,?_⟩;have hm:=bestF_len.fmL_mem _ _ hf;obtain ⟨cs,hcs,hrun2⟩:=Ur.1 hm;rw [Yl] at hrun2
  split at hrun2
  ·rename_i h5;obtain rfl:=WD hrun2;have l1:=((Cu hr).1 hb).1;have l2:=((Cu hr).1 hcs).1;exact Pk cs bs 0 _ _ Za rfl h5 h
  ·cases hrun2
theorem TB {x t sp} {st:Int} {r:List Bool} (hr:r.length<=sp.length+1) (h:(XU x t sp st r).2=0): ∃bs:List Bool,bs∈Xs r (sp.length+1)/\(Xf x t sp 0 (labF t st) bs).2=0/\(XU x t sp st r).1=(Xf x t sp 0 (labF t st) bs).1.she:=by
 unfold XU at h ⊢
 cases hf:WU Wu none ((Xs r (sp.length+1)).filterMap (WG (Xp x t sp) 0 (labF t st))) with
 | none =>
  exfalso;rw [hf] at h;simp only at h
  have hm:Vn r (sp.length+1)∈Xs r (sp.length+1):=by
   unfold Xs Vn;rw [Vh];simp
  have h2:WG (Xp x t sp) 0 (labF t st) (Vn r (sp.length+1))=some (Xf x t sp 0 (labF t st) (Vn r (sp.length+1))).1:=by rw [Yl,if_pos h]
  have h3:=Ur.2 ⟨_,hm,h2⟩;rw [OA _ hf] at h3;simp at h3
 | some L =>
  simp only;have hm:=bestF_len.fmL_mem _ _ hf;obtain ⟨bs,hbs,hrun⟩:=Ur.1 hm;rw [Yl] at hrun
  split at hrun
  ·rename_i h5;obtain rfl:=WD hrun;exact ⟨bs,hbs,h5,rfl⟩
  ·cases hrun
theorem gC {a b:Sco} (h:(Wg a).2=0) (hb:0<=b.cost/\0<=b.moved/\0<=b.other/\0<=b.work) (h1:b.cost<=a.cost) (h2:b.moved=a.moved) (h3:b.other=a.other) (h4:b.work<=a.work):(Wg b).2=0/\(Wg b).1<=(Wg a).1:=by
 unfold Wg at h ⊢
 split at h
 ·cases h
 ·split at h
  ·cases h
  ·rename_i c1 c2
   have d1: ¬(b.cost<0\/b.moved<0\/b.other<0\/b.work<0):=Za
   have d2: ¬(1073741824<b.cost\/16<=b.moved\/16<=b.other\/65536<=b.work):=Za
   rw [if_neg c1,if_neg c2,if_neg d1,if_neg d2];refine ⟨rfl,?_⟩;simp only;omega
theorem GG {x:Inst} {l:List Itm} {r:Rte} (h:0<=r.typ/\r.typ<(x.types.length:Int)):ZG (Zl x l) r=Yx (ZG x r) r.typ l:=by
 unfold ZG;rw [show (Zl x l).types=ZZ x.types l from rfl,Yj Za]
 congr 1;omega
theorem gG {x:Inst} {l:List Itm} {r:Rte} (hx:InstOk x) (h:Yf x r=0):WkT (ZG x r) (ZG (Zl x l) r) (ZS x r.visits) (ZS (Zl x l) r.visits):=by
 obtain ⟨c1,c2,_⟩:=Ug h;have hsq:=Vr c2
 have htl:r.typ.toNat<x.types.length:=Za
 have hty:=hx.types.2 _ htl;unfold VW at hty;obtain ⟨⟨⟨⟨⟨⟨⟨⟨_,_⟩,_⟩,_⟩,hcap⟩,_⟩,hcl⟩,Mo⟩,_⟩:=hty
 have hsp: ∀w∈r.visits,∃c,(Xg x w).cls<=c/\Xg (Zl x l) w= { Xg x w with cls:=c } :=fun w hw=>by
  obtain ⟨w1,w2⟩:=hsq.inr w hw
  have hi:w.order.toNat<x.orders.length:=Za
  have hord:=hx.orders.2 _ hi;have hpk:=hord.pstp;have hdk:=hord.dstp;simp only [stpOk,Zp] at hpk hdk;unfold Xg;rw [show (Zl x l).orders=ZV x.orders l from rfl,ZF hi]
  split
  ·simp only [YE];refine ⟨_,?_,rfl⟩
   split
   ·omega
   ·exact Yr _
  ·simp only [YE];refine ⟨_,?_,rfl⟩
   split
   ·omega
   ·exact Yr _
 rw [GG c1];refine ⟨by simp [ZS],?_,?_,rfl,rfl,rfl,rfl,rfl,fun k hk=> ?_⟩
 ·simp only [Yx];split
  ·exact hcl.2
  ·exact Yr _
 ·simp only [Yx];split
  ·have:=Mo.1;simp [rng] at this;exact this.2
  ·exact Yr _
 ·simp [ZS] at hk
  have e: ∀y:Inst,nth (ZS y r.visits) k=Xg y (nth r.visits k):=fun y=>by
   rw [Zg (by simpa [ZS] using hk)];simp [ZS,Zg hk]
  rw [e,e];exact hsp _ (Zz hk)
theorem P9 {x y:Inst} {t t' sp sp'} {st:Int} {r:List Bool} (hn:y.net=x.net) (h:WkT t t' sp sp') (hr:r.length<=sp.length+1) (h0:(XU x t sp st r).2=0) :
  (XU y t' sp' st r).1.fin<=(XU x t sp st r).1.fin/\(XU y t' sp' st r).1.miles=(XU x t sp st r).1.miles:=by
 obtain ⟨bs,b1,b2,b3⟩:=TB hr h0;have hl:=((Cu hr).1 b1).1
 have hrun:WG (Xp x t sp) 0 (labF t st) bs=some (Xf x t sp 0 (labF t st) bs).1:=by rw [Yl,if_pos b2]
 have el:labF t' st=labF t st:=by simp [labF,h.opn]
 have hy:=Cv hn h bs 0 _ _ Za hrun;rw [Yl,<- el] at hy
 split at hy
 ·rename_i h5;have e:=WD hy;rw [el] at e
  have hb:bs∈Xs r (sp'.length+1):=by rw [h.len];exact b1
  obtain ⟨_,g2,g3⟩:=MK (x:=y) (t:=t') (sp:=sp') (st:=st) (r:=r) (by rw [h.len];exact hr) hb h5;rw [b3,<- e,<- el];exact ⟨g2,g3⟩
 ·cases hy
theorem IL {x:Inst} {l:List Itm} {v:List Vis} {t:Int} (hi:Inr x v): ∀n,n<=v.length->chgF (Zl x l) v t n=chgF x v t n
 | 0,_=>rfl
 | n+1,hn=>by
  have ih:=IL (l:=l) (t:=t) hi n Za;have hv:=hi _ (Z0 (show n<v.length by omega));have e:nth (Zl x l).orders (nth v n).order.toNat=YE (nth x.orders (nth v n).order.toNat) ((nth v n).order.toNat:Nat) l:=ZF Za;rw [chgF,chgF,ih,e]
  rfl
theorem Nr {x:Inst} {l:List Itm} {r:Rte} (hx:InstOk x) (hy:InstOk (Zl x l)) (hI: ∀v∈l,XI x v=true) (h:(YS x r).2=0) :
  (YS (Zl x l) r).2=0/\(YS (Zl x l) r).1<=(YS x r).1:=by
 have he:=Sd h;have e1:=Rv hx hI he;have hru:=Vu he;obtain ⟨c1,_,c3⟩:=Ug hru;have hw:=gG (l:=l) hx hru
 have hb:(XV x r).2=0:=by rw [XH,if_pos hru] at he;exact he
 have hlen:r.rests.length<=(ZS x r.visits).length+1:=by rw [YT];exact c3.2.2
 obtain ⟨g1,g2⟩:=P9 (x:=x) (y:=Zl x l) rfl hw hlen hb;have hty:=GG (l:=l) c1;have f1:=Hm hy e1;have f2:=Hm hx he;obtain ⟨p1,_⟩:=D0 hy e1;have hnum:=W6 hx (show r.typ.toNat<x.types.length by omega);have htyp:nth x.types r.typ.toNat=ZG x r:=rfl;rw [htyp] at hnum;have hin:Inr x r.visits:=(WL he).inr;have hch:=IL (l:=l) (t:=r.typ) hin r.visits.length (Zw _);rw [YS,if_pos he] at h;rw [YS,if_pos e1,YS,if_pos he]
 have b1:(XV (Zl x l) r).1=XW (Zl x l) r:=by rw [XW,if_pos e1]
 have b2:(XV x r).1=XW x r:=by rw [XW,if_pos he]
 have g1:(XW (Zl x l) r).fin<=(XW x r).fin:=by rw [<- b1,<- b2];exact g1
 have g2:(XW (Zl x l) r).miles=(XW x r).miles:=by rw [<- b1,<- b2];exact g2
 rw [Y9,if_pos e1,b1] at p1 ⊢;rw [Y9,if_pos he,b2] at h ⊢
 have o1:(ZG (Zl x l) r).opn=(ZG x r).opn:=by rw [hty];rfl
 have o2:(ZG (Zl x l) r).fixed=(ZG x r).fixed:=by rw [hty];rfl
 have o3:(ZG (Zl x l) r).perMile=(ZG x r).perMile:=by rw [hty];rfl
 have o4:(ZG (Zl x l) r).perTick=(ZG x r).perTick:=by rw [hty];rfl
 rw [o1] at f1;unfold dV at p1;refine gC h p1 ?_ ?_ ?_ ?_
 ·simp only [EW,o1,o2,o3,o4,g2];have:(ZG x r).perTick*((XW (Zl x l) r).fin-(ZG x r).opn)<=(ZG x r).perTick*((XW x r).fin-(ZG x r).opn):=Ek Za Za;omega
 ·simp only [EW,hch]
 ·simp only [EW,hch]
 ·simp only [EW,o1]
  have t1:0<=((XW (Zl x l) r).fin-(ZG x r).opn).tdiv 64/\((XW (Zl x l) r).fin-(ZG x r).opn).tdiv 64<=((XW x r).fin-(ZG x r).opn).tdiv 64:=by
   rw [Da Za,Da Za];omega
  exact Uu t1.2 t1.2 t1.1 Za
theorem Oj (x:Inst) (l:List Col): ∃q:Pln×Int×Int,qC x l q.1 q.2.1 q.2.2:=by
 suffices h: ∃b e,hU x l b e by
  obtain ⟨b,e,h⟩:=h
  by_cases he:e=0
  ·exact ⟨⟨_,_,e⟩,b,h,fun h=>absurd he h,fun _=>⟨rfl,rfl⟩⟩
  ·exact ⟨⟨_,_,e⟩,b,h,fun _=>⟨rfl,rfl⟩,fun h=>absurd h he⟩
 unfold hU
 by_cases h1:8192<l.length
 ·exact ⟨_,_,.inl ⟨h1,rfl,rfl⟩⟩
 ·by_cases h2: ∃c∈l,rightB x c=false
  ·exact ⟨_,_,.inr (.inl ⟨Za,h2,rfl,rfl⟩)⟩
  ·have h3: ∀c∈l,rightB x c=true:=fun c hc=>by
    cases h:rightB x c with
    | false=>exact absurd ⟨c,hc,h⟩ h2
    | true=>rfl
   cases hf:(GW x l).found with
   | false=>exact ⟨_,_,.inr (.inr ⟨Za,h3,.inl ⟨rfl,rfl,rfl⟩⟩)⟩
   | true=>exact ⟨_,_,.inr (.inr ⟨Za,h3,.inr ⟨rfl,rfl,rfl⟩⟩)⟩
noncomputable def fK (x:Inst):Pln×Int×Int:=Classical.choose (Oj x (XO x))
theorem Pq (x:Inst):qC x (XO x) (fK x).1 (fK x).2.1 (fK x).2.2:=Classical.choose_spec (Oj x (XO x))
noncomputable def KS (x:Inst):Int:=(fK x).2.1
noncomputable def Ym (x:Inst):Int:=(fK x).2.2
theorem fN (x:Inst) (hx:InstOk x) (hn:x.orders.length<=4) (hbl:x.before.length<=1048576) (hal:x.apart.length<=1048576) :
  ACalls Tryz.prog 43 [.p (ZW x)] [] fun y H'=> ∃p:Pln,hK x (XO x) p (KS x) (Ym x)/\y= .tup [.p (C1 p),.p (.int .i64 (KS x)),.p (.int .i64 (Ym x))]/\H'= []:=by
 refine (nH x hx hn (zA hx) hbl hal).mono fun y H' h=> ?_;obtain ⟨p,c,e,h,rfl,rfl⟩:=h;obtain ⟨_,hc⟩:=GX hn (zA hx);obtain ⟨rfl,rfl,_⟩:=TK hx hn (fun c h=>(hc c h).1) h (Pq x);exact ⟨p,h,rfl,rfl⟩
end Go.Proofs.YtjkkdmeebhjaiaaGreatDoor.K
