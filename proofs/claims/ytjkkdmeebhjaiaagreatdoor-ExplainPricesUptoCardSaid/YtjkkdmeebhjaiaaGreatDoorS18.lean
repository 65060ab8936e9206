/- Declarations that the closing texts need, part 18: joined by tools/slim.py. -/
import Derived.Test.YtjkkdmeebhjaiaaGreatDoorS17
set_option linter.unusedVariables false
set_option linter.unusedSimpArgs false
namespace Go.Proofs.YtjkkdmeebhjaiaaGreatDoor.K
open Go Go.AM Go.Proofs
set_option maxRecDepth 8000
theorem SD {x:Inst} {r:Rte} (h0:r.start=0) (hz:r.rests= []):WI x r=WI x (JB r.typ r.visits):=by
 cases r
 simp only at h0 hz;subst h0;subst hz;rfl
theorem yM {x:Inst} (hx:InstOk x) {r:Rte} (he:(WI x r).2=0) (hty:0<=r.typ/\r.typ<(x.types.length:Int)) (h0:r.start=0) (hz:r.rests= []) :
  ∃j,j<(X2 x).length/\(nth (X2 x) j).typ=r.typ/\(nth (X2 x) j).set=((Xo r.visits:Nat):Int)/\(nth (X2 x) j).price<=(WI x r).1:=by
 obtain ⟨k,hk⟩: ∃k:Nat,r.typ=(k:Int):=⟨r.typ.toNat,Za⟩
 have hkl:k<x.types.length:=Za
 have hok:F0 x (k:Int) r.visits=true:=by
  grind [F0,SD]
 have hr:RightV x r.visits:=V7 (r:=JB (k:Int) r.visits) (Jr hok)
 have hopn:0<=(nth x.types (k:Int).toNat).opn:=by
  simp_all [W0]
 obtain ⟨g1,g2,g3⟩:=TB hx (k:=(k:Int)) (m:=r.visits) hopn hok (Wn,false)
 have hv:VC x (k:Int) (Xo r.visits)=((Eb x (k:Int) (Xo r.visits) (Wn,false)).1,0):=by
  simp_all [VC]
 have hS:Xo r.visits<2^x.orders.length:=by
  rcases Nat.div_eq_zero_iff.1 (hr.lt (XC hx)).2 with h | h
  ·grind [pw]
  ·exact h
 have hmem:(VC x (k:Int) (Xo r.visits)).1∈X2 x:=BN.2 ⟨k,Xo r.visits,hkl,Nat.pos_of_ne_zero (NA hr),hS,by rw [hv],rfl⟩;obtain ⟨m,_,_,m3⟩:=Dj (x:=x) (k:=(k:Int)) (S:=Xo r.visits) (by rw [hv]);obtain ⟨j,hj,e⟩:=List.getElem_of_mem hmem;refine ⟨j,hj,?_⟩;rw [Zj hj,e];refine ⟨by rw [m3,hk];rfl,by rw [m3];rfl,?_⟩
 grind [SD]
theorem rI {x:Inst} {t:Typ} {sp:List Stp} {k:Nat} {L:Lab} {b:Bool} (hT:TrpOk x t sp) (hk:k<sp.length) (he:(nxtF x t sp k L b).2=0):L.ready<=(nxtF x t sp k L b).1.ready:=by
 have hrs:=hT.rst
 have hd:L.ready<=ZR t L b:=by grind [ZR]
 have hgo:(Wh x t sp k (ZR t L b)).2.2=0->ZR t L b<=(Wh x t sp k (ZR t L b)).1:=fun e=>iJ hT.net e;have hst:=hT.stp _ (ZZ hk);unfold nxtF at he ⊢
 generalize Wh x t sp k (ZR t L b)=g at *
 generalize ZR t L b=d at *
 generalize WJ L b=s at *
 generalize X6 k d b L.she=m at *
 have hk2: ¬k=sp.length:=Za
 unfold WQ at he ⊢
 grind
theorem rH {x:Inst} {t:Typ} {sp:List Stp} {L:Lab} {b:Bool} (hT:TrpOk x t sp) (he:(nxtF x t sp sp.length L b).2=0):L.ready<=(nxtF x t sp sp.length L b).1.she.fin/\(nxtF x t sp sp.length L b).1.she.fin<=t.cls:=by
 have hrs:=hT.rst
 have hd:L.ready<=ZR t L b:=by grind [ZR]
 have hgo:(Wh x t sp sp.length (ZR t L b)).2.2=0->ZR t L b<=(Wh x t sp sp.length (ZR t L b)).1:=fun e=>iJ hT.net e;unfold nxtF at he ⊢
 generalize Wh x t sp sp.length (ZR t L b)=g at *
 generalize ZR t L b=d at *
 generalize WJ L b=s at *
 generalize X6 sp.length d b L.she=m at *
 unfold WQ at he ⊢
 grind
theorem SK {x:Inst} {t:Typ} {sp:List Stp} (hT:TrpOk x t sp): ∀(bs:List Bool) (k:Nat) (L:Lab),k+bs.length=sp.length+1->0<bs.length->(Xs x t sp k L bs).2=0->L.ready<=(Xs x t sp k L bs).1.she.fin/\(Xs x t sp k L bs).1.she.fin<=t.cls
 | [],k,L,_,h3,_=>by simp at h3
 | b::bs,k,L,h2,_,h=>by
  rw [Xs] at h ⊢
  by_cases h4:(nxtF x t sp k L b).2=0
  ·simp only [h4,if_true] at h ⊢
   cases bs with
   | nil =>
    simp_all [Xs,rH]
   | cons b2 bs =>
    simp at h2;have h5:=SK hT (b2::bs) (k+1) _ (by simp;omega) Zb h;have h6:=rI hT (show k<sp.length by omega) h4;omega
  grind
theorem qE {x:Inst} {r:Rte} (hx:InstOk x) (h:Xv x r=0):(ZT x r).opn<=(WM x r).fin/\(WM x r).fin<=(ZT x r).cls:=by
 obtain ⟨hty,h0,hs⟩:=AO (Ji h)
 have e:WM x r=(Xq x r).1:=by rw [WM,if_pos h]
 have ee:(Xq x r).2=0:=by rw [Xv,if_pos (Ji h)] at h;exact h
 have hT:=K7 hx hty (UY h0);obtain ⟨bs,hb1,hb2,hb3⟩:=Hi (by grind [Yt]) ee;have hb3:(Xq x r).1=_:=hb3;rw [e,hb3];have h1:=SK hT bs 0 _ Za Za hb2
 grind [labF]
def Ee (l:List Vis) (N:Nat):Nat:=(List.range N).countP fun i:Nat=>hasO l (i:Int)
theorem TK {l m:List Vis} {N:Nat} (h: ∀v∈l,v∈m):Ee l N<=Ee m N:=List.countP_mono_left fun i _ hi=>by
 grind [WX]
theorem RH {x:Inst} {l:List Vis} {t:Int} (hi:Inr x l): ∀n,n<=l.length->(0<=(chgF x l t n).1/\(chgF x l t n).1<=(Ee (l.take n) x.orders.length:Int))/\(0<=(chgF x l t n).2/\(chgF x l t n).2<=(Ee (l.take n) x.orders.length:Int))
 | 0,_=>by simp [chgF]
 | n+1,h=>by
  have ih:=RH (t:=t) hi n Za
  have hn:n<l.length:=Za
  have hv:=hi _ (ZZ hn)
  have htk:l.take (n+1)=l.take n++ [nth l n]:=by rw [XZ hn,Zj hn]
  have hmono:Ee (l.take n) x.orders.length<=Ee (l.take (n+1)) x.orders.length:=TK fun v hv=>by grind
  have hap: ∀i:Int,hasO (l.take (n+1)) i=(hasO (l.take n) i||decide ((nth l n).order=i)):=fun i=>by grind [hasO]
  rw [chgF]
  split
  ·rename_i hf
   have hadd:Ee (l.take (n+1)) x.orders.length=Ee (l.take n) x.orders.length+1:=by
    unfold Ee;rw [List.countP_eq_length_filter,List.countP_eq_length_filter]
    have ei:(((nth l n).order.toNat:Nat):Int)=(nth l n).order:=Za
    refine FA (a:=(nth l n).order.toNat) List.nodup_range (ZP.2 Za) ?_ ?_ fun b _ hb=> ?_
    ·rw [ei];simp only [Us,XR] at hf;exact hf
    ·grind
    grind
   omega
  ·omega
theorem O9 {x:Inst} {r:Rte} (hx:InstOk x) (h:Xv x r=0):sG (Wf x r)/\(Wf x r).cost<=22000000/\(Wf x r).moved<=(Ee r.visits x.orders.length:Int)/\(Wf x r).other<=(Ee r.visits x.orders.length:Int)/\(Wf x r).work<=4096:=by
 have hg:=MK hx h;have hf:=qE hx h;obtain ⟨hty,_,_⟩:=AO (Ji h);have hnum:=W0 hx (show r.typ.toNat<x.types.length by omega);have htyp:nth x.types r.typ.toNat=ZT x r:=rfl;rw [htyp] at hnum
 have e:(Xq x r).1=WM x r:=by rw [WM,if_pos h]
 have hch:=RH (t:=r.typ) (V7 h).inr r.visits.length (ZF _);rw [XX] at hch;rw [Wf,if_pos h,e];unfold G9 sG
 generalize WM x r=s at *
 generalize ZT x r=t at *
 have p1:0<=t.perMile*s.miles/\t.perMile*s.miles<=100*210000:=⟨Uy Za Za,VS Za Za Za Za⟩
 have hW:0<=s.fin-t.opn/\s.fin-t.opn<=4096:=Za
 have p2:0<=t.perTick*(s.fin-t.opn)/\t.perTick*(s.fin-t.opn)<=100*4096:=⟨Uy Za Za,VS Za Za Za Za⟩
 have p3:0<=(s.fin-t.opn).tdiv 64/\(s.fin-t.opn).tdiv 64<=64:=by
  grind
 have p4:0<=(s.fin-t.opn).tdiv 64*(s.fin-t.opn).tdiv 64/\(s.fin-t.opn).tdiv 64*(s.fin-t.opn).tdiv 64<=64*64:=⟨Uy p3.1 p3.1,VS p3.2 p3.2 p3.1 Za⟩
 grind
theorem H9 {x:Inst} (hx:InstOk x) (hn:x.orders.length<=4): ∀c∈X2 x,rightB x c=true:=fun c hc=>by
 obtain ⟨k,S,h1,h2,h3,h4,h5⟩:=BN.1 hc;obtain ⟨m,m1,m2,m3⟩:=Dj h4;have hp4:2^x.orders.length<=2^4:=Ym Za hn
 have hal:Wd x.orders x.apart x.before ((S:Nat):Int)=0:=by
  grind [VC]
 have hf:=XC hx;have ha:Alw x S:=(Qw Za (by rw [Nat.div_eq_zero_iff];exact .inr h3) hf.val).1 hal
 have hw:Ri S (Yp x x.orders.length)=true:=by
  rw [Ot hn Za,Zv,Zr,ZD];refine ⟨h3,fun i hi=> ?_⟩
  cases hb:S.testBit i with
  | false=>rfl
  | true=>rw [ha.off i (ZP.1 hi) hb];rfl
 have he:=Jr m2;have hfn:=O9 hx he
 have hcn:Ee (JB (k:Int) m).visits x.orders.length<=x.orders.length:=by
  have:=List.countP_le_length (p:=fun i:Nat=>hasO (JB (k:Int) m).visits (i:Int)) (l:=List.range x.orders.length);rw [List.length_range] at this;exact this
 have hpr:(WI x (JB k m)).1=(((Wf x (JB k m)).cost*16+(Wf x (JB k m)).moved)*16+(Wf x (JB k m)).other)*65536+(Wf x (JB k m)).work:=by
  rw [WI,if_pos he]
  grind [nB,Oo]
 have hp:=NJ x (JB k m)
 have h6:(YM x k S m).price<=18014398509481984:=by
  show (WI x (JB k m)).1<=_
  omega
 rw [h5,m3];simp only [rightB,Zv,Zr];refine ⟨?_,?_,?_,?_,?_,h6⟩
 ·show (0:Int)<=(k:Int);omega
 ·show (k:Int)<_;omega
 ·show (0:Int)<(S:Int);omega
 ·show Ri ((S:Nat):Int).toNat _=true
  grind
 ·exact hp.1
set_option maxRecDepth 60000
set_option maxHeartbeats 8000000
theorem N5 {x:Inst} (hx:InstOk x):(∀k,k<x.orders.length->(nth x.orders k).off=false->0<=(nth x.orders k).penalty->0<=skR x k/\skR x k<=18014398509481984)/\ ∀i,scoR 1152921504606846976 (unsF x i).1 :=
 ⟨fun k hk hof hp=>by
  obtain ⟨s1,s2⟩:=wB hx hk hof;have:=N6 hx k
  omega,fun i=>AP Za (Oh hx i)⟩
theorem RI (x:Inst) (l:List Col): ∃q:Pln×Int×Int,Ma x l q.1 q.2.1 q.2.2:=by
 suffices h: ∃b e,dC x l b e by
  obtain ⟨b,e,h⟩:=h
  by_cases he:e=0
  ·exact ⟨⟨_,_,e⟩,b,h,fun h=>absurd he h,fun _=>⟨rfl,rfl⟩⟩
  ·exact ⟨⟨_,_,e⟩,b,h,fun _=>⟨rfl,rfl⟩,fun h=>absurd h he⟩
 unfold dC
 by_cases h1:8192<l.length
 ·exact ⟨_,_,.inl ⟨h1,rfl,rfl⟩⟩
 ·by_cases h2: ∃c∈l,rightB x c=false
  ·exact ⟨_,_,.inr (.inl ⟨Za,h2,rfl,rfl⟩)⟩
  ·have h3: ∀c∈l,rightB x c=true:=fun c hc=>by
    cases h:rightB x c with
    | false=>exact absurd ⟨c,hc,h⟩ h2
    | true=>rfl
   cases hf:(D9 x l).found with
   | false=>exact ⟨_,_,.inr (.inr ⟨Za,h3,.inl ⟨rfl,rfl,rfl⟩⟩)⟩
   | true=>exact ⟨_,_,.inr (.inr ⟨Za,h3,.inr ⟨rfl,rfl,rfl⟩⟩)⟩
noncomputable def mL (x:Inst):Pln×Int×Int:=Classical.choose (RI x (X2 x))
theorem LS (x:Inst):Ma x (X2 x) (mL x).1 (mL x).2.1 (mL x).2.2:=Classical.choose_spec (RI x (X2 x))
noncomputable def Um (x:Inst):Int:=(mL x).2.1
noncomputable def XU (x:Inst):Int:=(mL x).2.2
theorem fL {x:Inst} {l:List Col} {p q:Pln} {c c' e e':Int} (h:Ma x l p c e) (h':Ma x l q c' e'):c=c'/\e=e':=by
 obtain ⟨b,hb,h1,h2⟩:=h;obtain ⟨b',hb',h1',h2'⟩:=h'
 have he:e=e'/\b=b':=by
  rcases hb with ⟨k1,rfl,rfl⟩ | ⟨k1,⟨d,kd,k2⟩,rfl,rfl⟩ | ⟨k1,k2,k3⟩<;>rcases hb' with ⟨j1,rfl,rfl⟩ | ⟨j1,⟨d',jd,j2⟩,rfl,rfl⟩ | ⟨j1,j2,j3⟩
  ·exact ⟨rfl,rfl⟩
  ·omega
  ·omega
  ·omega
  ·exact ⟨rfl,rfl⟩
  ·rw [j2 d kd] at k2;cases k2
  ·omega
  ·rw [k2 d' jd] at j2;cases j2
  ·rcases k3 with ⟨f,rfl,rfl⟩ | ⟨f,rfl,rfl⟩<;>rcases j3 with ⟨g,rfl,rfl⟩ | ⟨g,rfl,rfl⟩
   ·exact ⟨rfl,rfl⟩
   ·rw [f] at g;cases g
   ·rw [f] at g;cases g
   ·exact ⟨rfl,rfl⟩
 obtain ⟨rfl,rfl⟩:=he
 by_cases h0:e=0
 ·exact ⟨(h2 h0).1.trans (h2' h0).1.symm,rfl⟩
 ·exact ⟨(h1 h0).2.trans (h1' h0).2.symm,rfl⟩
theorem mM (x:Inst) (hx:InstOk x) (hn:x.orders.length<=4) (hbl:x.before.length<=1048576) (hal:x.apart.length<=1048576) :
  ACalls Tryz.prog 43 [.p (Zq x)] [] fun y H'=> ∃p:Pln,nQ x (X2 x) p (Um x) (XU x)/\y= .tup [.p (JL p),.p (.int .i64 (Um x)),.p (.int .i64 (XU x))]/\H'= []:=by
 refine (tE x hx hn (tU hx) hbl hal).mono fun y H' h=> ?_;obtain ⟨p,c,e,h,rfl,rfl⟩:=h;obtain ⟨_,hc⟩:=Ep hn (tU hx);obtain ⟨rfl,rfl,_⟩:=fM hx hn (fun c h=>(hc c h).1) h (LS x);exact ⟨p,h,rfl,rfl⟩
theorem mN (x:Inst) (hx:InstOk x) (hn:x.orders.length<=4) (hbl:x.before.length<=1048576) :
  ACalls Tryz.prog 24 [.p (Zq x)] [] fun y H'=> ∃p:Pln,Ma x (X2 x) p (Um x) (XU x)/\y= .tup [.p (JL p),.p (.int .i64 (Um x)),.p (.int .i64 (XU x))]/\H'= []:=by
 obtain ⟨hsk,hus⟩:=N5 hx;refine (bY x hx hn (tU hx) hbl hsk hus).mono fun y H' h=> ?_;obtain ⟨p,c,e,h,rfl,rfl⟩:=h;obtain ⟨rfl,rfl⟩:=fL h (LS x);exact ⟨p,h,rfl,rfl⟩
end Go.Proofs.YtjkkdmeebhjaiaaGreatDoor.K
