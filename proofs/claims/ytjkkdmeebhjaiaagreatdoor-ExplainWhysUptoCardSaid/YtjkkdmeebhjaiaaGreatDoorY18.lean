/- Declarations that the closing texts need, part 18: joined by tools/slim.py. -/
import Derived.Test.YtjkkdmeebhjaiaaGreatDoorY17
set_option linter.unusedVariables false
set_option linter.unusedSimpArgs false
namespace Go.Proofs.YtjkkdmeebhjaiaaGreatDoor.K
open Go Go.AM Go.Proofs
set_option maxRecDepth 8000
theorem pU {x:Inst} {t:Typ} {sp:List Stp} {k:Nat} {L:Lab} {b:Bool} (hT:TrpOk x t sp) (hk:k<sp.length) (he:(nxtF x t sp k L b).2=0):L.ready<=(nxtF x t sp k L b).1.ready:=by
 have hrs:=hT.rst
 have hd:L.ready<=ZP t L b:=by grind [ZP]
 have hgo:(Wd x t sp k (ZP t L b)).2.2=0->ZP t L b<=(Wd x t sp k (ZP t L b)).1:=fun e=>fZ hT.net e;have hst:=hT.stp _ (ZX hk);unfold nxtF at he ⊢
 generalize Wd x t sp k (ZP t L b)=g at *
 generalize ZP t L b=d at *
 generalize Ww L b=s at *
 generalize X1 k d b L.she=m at *
 have hk2: ¬k=sp.length:=Za
 unfold WB at he ⊢
 grind
theorem pT {x:Inst} {t:Typ} {sp:List Stp} {L:Lab} {b:Bool} (hT:TrpOk x t sp) (he:(nxtF x t sp sp.length L b).2=0):L.ready<=(nxtF x t sp sp.length L b).1.she.fin/\(nxtF x t sp sp.length L b).1.she.fin<=t.cls:=by
 have hrs:=hT.rst
 have hd:L.ready<=ZP t L b:=by grind [ZP]
 have hgo:(Wd x t sp sp.length (ZP t L b)).2.2=0->ZP t L b<=(Wd x t sp sp.length (ZP t L b)).1:=fun e=>fZ hT.net e;unfold nxtF at he ⊢
 generalize Wd x t sp sp.length (ZP t L b)=g at *
 generalize ZP t L b=d at *
 generalize Ww L b=s at *
 generalize X1 sp.length d b L.she=m at *
 unfold WB at he ⊢
 grind
theorem Sa {x:Inst} {t:Typ} {sp:List Stp} (hT:TrpOk x t sp): ∀(bs:List Bool) (k:Nat) (L:Lab),k+bs.length=sp.length+1->0<bs.length->(Xz x t sp k L bs).2=0->L.ready<=(Xz x t sp k L bs).1.she.fin/\(Xz x t sp k L bs).1.she.fin<=t.cls
 | [],k,L,_,h3,_=>by simp at h3
 | b::bs,k,L,h2,_,h=>by
  rw [Xz] at h ⊢
  by_cases h4:(nxtF x t sp k L b).2=0
  ·simp only [h4,if_true] at h ⊢
   cases bs with
   | nil =>
    simp_all [Xz,pT]
   | cons b2 bs =>
    simp at h2;have h5:=Sa hT (b2::bs) (k+1) _ (by simp;omega) Zb h;have h6:=pU hT (show k<sp.length by omega) h4;omega
  grind
theorem oQ {x:Inst} {r:Rte} (hx:InstOk x) (h:XD x r=0):(Z0 x r).opn<=(Wy x r).fin/\(Wy x r).fin<=(Z0 x r).cls:=by
 obtain ⟨hty,h0,hs⟩:=Aw (Q7 h)
 have e:Wy x r=(Xu x r).1:=by rw [Wy,if_pos h]
 have ee:(Xu x r).2=0:=by rw [XD,if_pos (Q7 h)] at h;exact h
 have hT:=KS hx hty (UN h0);obtain ⟨bs,hb1,hb2,hb3⟩:=GR (by grind [Yp]) ee;have hb3:(Xu x r).1=_:=hb3;rw [e,hb3];have h1:=Sa hT bs 0 _ Za Za hb2
 grind [labF]
def DR (l:List Vis) (N:Nat):Nat:=(List.range N).countP fun i:Nat=>hasO l (i:Int)
theorem S9 {l m:List Vis} {N:Nat} (h: ∀v∈l,v∈m):DR l N<=DR m N:=List.countP_mono_left fun i _ hi=>by
 grind [WN]
theorem Rb {x:Inst} {l:List Vis} {t:Int} (hi:Inr x l): ∀n,n<=l.length->(0<=(chgF x l t n).1/\(chgF x l t n).1<=(DR (l.take n) x.orders.length:Int))/\(0<=(chgF x l t n).2/\(chgF x l t n).2<=(DR (l.take n) x.orders.length:Int))
 | 0,_=>by simp [chgF]
 | n+1,h=>by
  have ih:=Rb (t:=t) hi n Za
  have hn:n<l.length:=Za
  have hv:=hi _ (ZX hn)
  have htk:l.take (n+1)=l.take n++ [nth l n]:=by rw [Xm hn,Zk hn]
  have hmono:DR (l.take n) x.orders.length<=DR (l.take (n+1)) x.orders.length:=S9 fun v hv=>by grind
  have hap: ∀i:Int,hasO (l.take (n+1)) i=(hasO (l.take n) i||decide ((nth l n).order=i)):=fun i=>by grind [hasO]
  rw [chgF]
  split
  ·rename_i hf
   have hadd:DR (l.take (n+1)) x.orders.length=DR (l.take n) x.orders.length+1:=by
    unfold DR;rw [List.countP_eq_length_filter,List.countP_eq_length_filter]
    have ei:(((nth l n).order.toNat:Nat):Int)=(nth l n).order:=Za
    refine E7 (a:=(nth l n).order.toNat) List.nodup_range (ZR.2 Za) ?_ ?_ fun b _ hb=> ?_
    ·rw [ei];simp only [Ue,XN] at hf;exact hf
    ·grind
    grind
   omega
  ·omega
theorem OI {x:Inst} {r:Rte} (hx:InstOk x) (h:XD x r=0):qN (WL x r)/\(WL x r).cost<=22000000/\(WL x r).moved<=(DR r.visits x.orders.length:Int)/\(WL x r).other<=(DR r.visits x.orders.length:Int)/\(WL x r).work<=4096:=by
 have hg:=Mn hx h;have hf:=oQ hx h;obtain ⟨hty,_,_⟩:=Aw (Q7 h);have hnum:=V8 hx (show r.typ.toNat<x.types.length by omega);have htyp:nth x.types r.typ.toNat=Z0 x r:=rfl;rw [htyp] at hnum
 have e:(Xu x r).1=Wy x r:=by rw [Wy,if_pos h]
 have hch:=Rb (t:=r.typ) (DD h).inr r.visits.length (ZI _);rw [X3] at hch;rw [WL,if_pos h,e];unfold Lo qN
 generalize Wy x r=s at *
 generalize Z0 x r=t at *
 have p1:0<=t.perMile*s.miles/\t.perMile*s.miles<=100*210000:=⟨Ul Za Za,VF Za Za Za Za⟩
 have hW:0<=s.fin-t.opn/\s.fin-t.opn<=4096:=Za
 have p2:0<=t.perTick*(s.fin-t.opn)/\t.perTick*(s.fin-t.opn)<=100*4096:=⟨Ul Za Za,VF Za Za Za Za⟩
 have p3:0<=(s.fin-t.opn).tdiv 64/\(s.fin-t.opn).tdiv 64<=64:=by
  grind
 have p4:0<=(s.fin-t.opn).tdiv 64*(s.fin-t.opn).tdiv 64/\(s.fin-t.opn).tdiv 64*(s.fin-t.opn).tdiv 64<=64*64:=⟨Ul p3.1 p3.1,VF p3.2 p3.2 p3.1 Za⟩
 grind
theorem aG {x:Inst} (hx:InstOk x) (hn:x.orders.length<=4): ∀c∈Uc x,rightB x c=true:=fun c hc=>by
 obtain ⟨k,S,h1,h2,h3,h4,h5⟩:=LR.1 hc;obtain ⟨m,m1,m2,m3⟩:=GS h4;have hp4:2^x.orders.length<=2^4:=Yi Za hn
 have hal:Wt x.orders x.apart x.before ((S:Nat):Int)=0:=by
  grind [UB]
 have hf:=X0 hx;have ha:Alw x S:=(Dy Za (by rw [Nat.div_eq_zero_iff];exact .inr h3) hf.val).1 hal
 have hw:PK S (Yk x x.orders.length)=true:=by
  rw [NZ hn Za,Zw,Zs,ZC];refine ⟨h3,fun i hi=> ?_⟩
  cases hb:S.testBit i with
  | false=>rfl
  | true=>rw [ha.off i (ZR.1 hi) hb];rfl
 have he:=M6 m2;have hfn:=OI hx he
 have hcn:DR (Be (k:Int) m).visits x.orders.length<=x.orders.length:=by
  have:=List.countP_le_length (p:=fun i:Nat=>hasO (Be (k:Int) m).visits (i:Int)) (l:=List.range x.orders.length);rw [List.length_range] at this;exact this
 have hpr:(QV x (Be k m)).1=(((WL x (Be k m)).cost*16+(WL x (Be k m)).moved)*16+(WL x (Be k m)).other)*65536+(WL x (Be k m)).work:=by
  rw [QV,if_pos he]
  grind [lQ,NY]
 have hp:=Nl x (Be k m)
 have h6:(YM x k S m).price<=18014398509481984:=by
  show (QV x (Be k m)).1<=_
  omega
 rw [h5,m3];simp only [rightB,Zw,Zs];refine ⟨?_,?_,?_,?_,?_,h6⟩
 ·show (0:Int)<=(k:Int);omega
 ·show (k:Int)<_;omega
 ·show (0:Int)<(S:Int);omega
 ·show PK ((S:Nat):Int).toNat _=true
  grind
 ·exact hp.1
set_option maxRecDepth 60000
set_option maxHeartbeats 8000000
theorem kW {x:Inst} (hx:InstOk x):(∀k,k<x.orders.length->(nth x.orders k).off=false->0<=(nth x.orders k).penalty->0<=skR x k/\skR x k<=18014398509481984)/\ ∀i,scoR 1152921504606846976 (unsF x i).1 :=
 ⟨fun k hk hof hp=>by
  obtain ⟨s1,s2⟩:=uH hx hk hof;have:=NH hx k
  omega,fun i=>Ax Za (NS hx i)⟩
theorem Rc (x:Inst) (l:List Col): ∃q:Pln×Int×Int,LJ x l q.1 q.2.1 q.2.2:=by
 suffices h: ∃b e,bT x l b e by
  obtain ⟨b,e,h⟩:=h
  by_cases he:e=0
  ·exact ⟨⟨_,_,e⟩,b,h,fun h=>absurd he h,fun _=>⟨rfl,rfl⟩⟩
  ·exact ⟨⟨_,_,e⟩,b,h,fun _=>⟨rfl,rfl⟩,fun h=>absurd h he⟩
 unfold bT
 by_cases h1:8192<l.length
 ·exact ⟨_,_,.inl ⟨h1,rfl,rfl⟩⟩
 ·by_cases h2: ∃c∈l,rightB x c=false
  ·exact ⟨_,_,.inr (.inl ⟨Za,h2,rfl,rfl⟩)⟩
  ·have h3: ∀c∈l,rightB x c=true:=fun c hc=>by
    cases h:rightB x c with
    | false=>exact absurd ⟨c,hc,h⟩ h2
    | true=>rfl
   cases hf:(DN x l).found with
   | false=>exact ⟨_,_,.inr (.inr ⟨Za,h3,.inl ⟨rfl,rfl,rfl⟩⟩)⟩
   | true=>exact ⟨_,_,.inr (.inr ⟨Za,h3,.inr ⟨rfl,rfl,rfl⟩⟩)⟩
noncomputable def kZ (x:Inst):Pln×Int×Int:=Classical.choose (Rc x (Uc x))
theorem Lr (x:Inst):LJ x (Uc x) (kZ x).1 (kZ x).2.1 (kZ x).2.2:=Classical.choose_spec (Rc x (Uc x))
noncomputable def DZ (x:Inst):Int:=(kZ x).2.1
noncomputable def WG (x:Inst):Int:=(kZ x).2.2
theorem dW {x:Inst} {l:List Col} {p q:Pln} {c c' e e':Int} (h:LJ x l p c e) (h':LJ x l q c' e'):c=c'/\e=e':=by
 obtain ⟨b,hb,h1,h2⟩:=h;obtain ⟨b',hb',h1',h2'⟩:=h'
 have he:e=e'/\b=b':=by
  rcases hb with ⟨k1,rfl,rfl⟩ | ⟨k1,⟨d,kd,k2⟩,rfl,rfl⟩ | ⟨k1,k2,k3⟩<;>rcases hb' with ⟨j1,rfl,rfl⟩ | ⟨j1,⟨d',jd,j2⟩,rfl,rfl⟩ | ⟨j1,j2,j3⟩
  ·exact ⟨rfl,rfl⟩
  ·omega
  ·omega
  ·omega
  ·exact ⟨rfl,rfl⟩
  ·rw [j2 d kd] at k2;cases k2
  ·omega
  ·rw [k2 d' jd] at j2;cases j2
  ·rcases k3 with ⟨f,rfl,rfl⟩ | ⟨f,rfl,rfl⟩<;>rcases j3 with ⟨g,rfl,rfl⟩ | ⟨g,rfl,rfl⟩
   ·exact ⟨rfl,rfl⟩
   ·rw [f] at g;cases g
   ·rw [f] at g;cases g
   ·exact ⟨rfl,rfl⟩
 obtain ⟨rfl,rfl⟩:=he
 by_cases h0:e=0
 ·exact ⟨(h2 h0).1.trans (h2' h0).1.symm,rfl⟩
 ·exact ⟨(h1 h0).2.trans (h1' h0).2.symm,rfl⟩
theorem lA (x:Inst) (hx:InstOk x) (hn:x.orders.length<=4) (hbl:x.before.length<=1048576) (hal:x.apart.length<=1048576) :
  ACalls Tryz.prog 43 [.p (Zr x)] [] fun y H'=> ∃p:Pln,mH x (Uc x) p (DZ x) (WG x)/\y= .tup [.p (Jy p),.p (.int .i64 (DZ x)),.p (.int .i64 (WG x))]/\H'= []:=by
 refine (rL x hx hn (sB hx) hbl hal).mono fun y H' h=> ?_;obtain ⟨p,c,e,h,rfl,rfl⟩:=h;obtain ⟨_,hc⟩:=D4 hn (sB hx);obtain ⟨rfl,rfl,_⟩:=dX hx hn (fun c h=>(hc c h).1) h (Lr x);exact ⟨p,h,rfl,rfl⟩
theorem lB (x:Inst) (hx:InstOk x) (hn:x.orders.length<=4) (hbl:x.before.length<=1048576) :
  ACalls Tryz.prog 24 [.p (Zr x)] [] fun y H'=> ∃p:Pln,LJ x (Uc x) p (DZ x) (WG x)/\y= .tup [.p (Jy p),.p (.int .i64 (DZ x)),.p (.int .i64 (WG x))]/\H'= []:=by
 obtain ⟨hsk,hus⟩:=kW hx;refine (aU x hx hn (sB hx) hbl hsk hus).mono fun y H' h=> ?_;obtain ⟨p,c,e,h,rfl,rfl⟩:=h;obtain ⟨rfl,rfl⟩:=dW h (Lr x);exact ⟨p,h,rfl,rfl⟩
end Go.Proofs.YtjkkdmeebhjaiaaGreatDoor.K
