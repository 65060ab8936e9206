/- Declarations that the closing texts need, part 17: joined by tools/slim.py. -/
import Derived.Test.YtenjikkmmibffaaGreatDoorH16
set_option linter.unusedVariables false
set_option linter.unusedSimpArgs false
namespace Go.Proofs.YtenjikkmmibffaaGreatDoor.K
open Go Go.AM Go.Proofs
set_option maxRecDepth 60000
set_option maxHeartbeats 8000000
theorem El {ok:List Vis->Bool} {col:List Vis->Col} {better:Col->Col->Bool} : ∀(L:List (List Vis)) (b:Col×Bool),(L.foldl (XI ok col better) b).2=true->(b.2=true/\(L.foldl (XI ok col better) b).1=b.1)\/ ∃m∈L,ok m=true/\(L.foldl (XI ok col better) b).1=col m
 | [],b,h=> .inl ⟨h,rfl⟩
 | l::L,b,h=>by
  rw [XO] at h ⊢;rcases El L _ h with ⟨h1,h2⟩ | ⟨m,h1,h2,h3⟩
  ·rw [h2];unfold XI at h1 ⊢
   grind
  grind
theorem DG {x:Inst} {k:Int} {S:Nat} (h:(V0 x k S).2=0): ∃m,m∈S7 x k S (W2 x S) [] (st0 (nth x.types k.toNat))/\GB x k m=true/\(V0 x k S).1=YX x k S m:=by
 unfold V0 at h ⊢
 split at h
 ·rename_i hc;rw [if_pos hc];rcases El _ _ hc.2 with ⟨h1,_⟩ | ⟨m,h1,h2,h3⟩
  ·cases h1
  ·exact ⟨m,h1,h2,h3⟩
 ·cases h
theorem Oy {one:Nat->List Col} {c:Col} : ∀q,c∈BX one q↔ ∃S,1<=S/\S<=q/\c∈one S
 | 0=>by simp [BX];omega
 | q+1=>by
  rw [BX,Xj,Oy q]
  grind
theorem MZ {one:Nat->Nat->List Col} {N:Nat} {c:Col} : ∀K,c∈Uq one N K↔ ∃k S,k<K/\1<=S/\S<=N/\c∈one k S
 | 0=>by simp [Uq]
 | K+1=>by
  rw [Uq,Xj,MZ K,Oy]
  grind
noncomputable def Xh (x:Inst):List Col:=Uq (VU x) (2^x.orders.length-1) x.types.length
theorem Cg {x:Inst} {c:Col} :c∈Xh x↔ ∃k S,k<x.types.length/\0<S/\S<2^x.orders.length/\(V0 x (k:Int) S).2=0/\c=(V0 x (k:Int) S).1:=by
 have hp1:1<=2^x.orders.length:=Nat.one_le_two_pow;rw [Xh,MZ]
 constructor
 ·grind [VU]
 ·rintro ⟨k,S,h1,h2,h3,h4,h5⟩;exact ⟨k,S,h1,Za,Za,by simp_all [VU]⟩
theorem M0 {x:Inst} {c:Col} (h:c∈Xh x): ∃(k S:Nat) (m:List Vis),k<x.types.length/\0<S/\S<2^x.orders.length/\m.length=W2 x S/\GB x k m=true/\c=YX x k S m:=by
 obtain ⟨k,S,h1,h2,h3,h4,rfl⟩:=Cg.1 h;obtain ⟨m,m1,m2,m3⟩:=DG h4;exact ⟨k,S,m,h1,h2,h3,by have:=L9 _ _ _ m m1;grind,m2,m3⟩
theorem Ax {x:Inst} (hn:x.orders.length<=4) (h6:x.types.length<=6):(Xh x).length<=96/\ ∀c∈Xh x,c.set<9223372036854775808/\Mu c.route:=by
 have hp2:2^x.orders.length<=2^4:=YA Za hn;refine ⟨?_,fun c hc=> ?_⟩
 ·have h1:=Cf (N:=2^x.orders.length-1) (Ab (x:=x)) x.types.length;have h2:x.types.length*(2^x.orders.length-1)<=6*16:=CX Za Za;unfold Xh;omega
 ·obtain ⟨k,S,m,_,_,h3,h4,_,rfl⟩:=M0 hc;have:=Dv x S x.orders.length;unfold W2 at h4;exact ⟨by grind [YX],by grind [YX,Jr],by simp [YX,Jr]⟩
theorem wW (x:Inst) (hx:InstOk x) (hn:x.orders.length<=4) (h6:x.types.length<=6) (hbl:x.before.length<=1048576) (hal:x.apart.length<=1048576) :
  ACalls Tryz.prog 47 [.p (Zv x)] [] fun y H'=> ∃p c e,I5 x (Xh x) p c e/\y= .tup [.p (Ut p),.p (.int .i64 c),.p (.int .i64 e)]/\H'= []:=by
 obtain ⟨hl,hc⟩:=Ax hn h6;have ca:=Oq x hx hn h6 hbl hal;have cc:=dG x (Xh x) false hx hn Za (fun c h=>(hc c h).1) Za;rw [show Uq (VU x) (2^x.orders.length-1) x.types.length=Xh x from rfl] at ca;generalize Xh x=L at ca cc ⊢;refine Zf [] Tryz.func47 rfl ZjH ?_;simp (disch:=omega) only [Tryz.f47,go_sem,seval];refine Vi ca (Zc ?_);refine MM cc fun p c e hR=>Zc ?_;exact ⟨.tup [.p (Ut p),.p (.int .i64 c),.p (.int .i64 e)],[],wk,p,c,e,hR,rfl,rfl⟩
theorem eV (x:Inst) (hx:InstOk x) (hn:x.orders.length<=4) (h6:x.types.length<=6) (hbl:x.before.length<=1048576)
  (hsk: ∀k,k<x.orders.length->(nth x.orders k).off=false->0<=(nth x.orders k).penalty->0<=skR x k/\skR x k<=18014398509481984) (hus: ∀i,scoR 1152921504606846976 (unsF x i).1) :
  ACalls Tryz.prog 12 [.p (Zv x)] [] fun y H'=> ∃p c e,MS x (Xh x) p c e/\y= .tup [.p (Ut p),.p (.int .i64 c),.p (.int .i64 e)]/\H'= []:=by
 obtain ⟨hl,hc⟩:=Ax hn h6;have ca:=rH x hx hn h6 hbl;have cc:=Nm x (Xh x) false hn h6 Za (fun c h=>(hc c h).1) hsk hus;rw [show Uq (VU x) (2^x.orders.length-1) x.types.length=Xh x from rfl] at ca;generalize Xh x=L at ca cc ⊢;refine Zf [] Tryz.func12 rfl Zji ?_;simp (disch:=omega) only [Tryz.f12,go_sem,seval];refine Vi ca (Zc ?_);refine MM cc fun p c e hR=>Zc ?_;exact ⟨.tup [.p (Ut p),.p (.int .i64 c),.p (.int .i64 e)],[],wk,p,c,e,hR,rfl,rfl⟩
theorem Tv {x:Inst} {r:Rte} (h0:r.start=0) (hz:r.rests= []):Ye x r=Ye x (Jr r.typ r.visits):=by
 cases r
 simp only at h0 hz;subst h0;subst hz;rfl
theorem PW {x:Inst} (hx:InstOk x) {r:Rte} (he:(Ye x r).2=0) (hty:0<=r.typ/\r.typ<(x.types.length:Int)) (h0:r.start=0) (hz:r.rests= []) :
  ∃j,j<(Xh x).length/\(nth (Xh x) j).typ=r.typ/\(nth (Xh x) j).set=((Xo r.visits:Nat):Int)/\(nth (Xh x) j).price<=(Ye x r).1:=by
 obtain ⟨k,hk⟩: ∃k:Nat,r.typ=(k:Int):=⟨r.typ.toNat,Za⟩
 have hkl:k<x.types.length:=Za
 have hok:GB x (k:Int) r.visits=true:=by
  grind [GB,Tv]
 have hr:RightV x r.visits:=YM (r:=Jr (k:Int) r.visits) (Ux hok)
 have hopn:0<=(nth x.types (k:Int).toNat).opn:=by
  simp_all [WU]
 obtain ⟨g1,g2,g3⟩:=aT hx (k:=(k:Int)) (m:=r.visits) hopn hok (WH,false)
 have hv:V0 x (k:Int) (Xo r.visits)=((EJ x (k:Int) (Xo r.visits) (WH,false)).1,0):=by
  simp_all [V0]
 have hS:Xo r.visits<2^x.orders.length:=by
  rcases Nat.div_eq_zero_iff.1 (hr.lt (Xz hx)).2 with h | h
  ·grind [pw]
  ·exact h
 have hmem:(V0 x (k:Int) (Xo r.visits)).1∈Xh x:=Cg.2 ⟨k,Xo r.visits,hkl,Nat.pos_of_ne_zero (Oo hr),hS,by rw [hv],rfl⟩;obtain ⟨m,_,_,m3⟩:=DG (x:=x) (k:=(k:Int)) (S:=Xo r.visits) (by rw [hv]);obtain ⟨j,hj,e⟩:=List.getElem_of_mem hmem;refine ⟨j,hj,?_⟩;rw [Zh hj,e];refine ⟨by rw [m3,hk];rfl,by rw [m3];rfl,?_⟩
 grind [Tv]
theorem vC {x:Inst} {t:Typ} {sp:List Stp} {k:Nat} {L:Lab} {b:Bool} (hT:TrpOk x t sp) (hk:k<sp.length) (he:(nxtF x t sp k L b).2=0):L.ready<=(nxtF x t sp k L b).1.ready:=by
 have hrs:=hT.rst
 have hd:L.ready<=ZM t L b:=by grind [ZM]
 have hgo:(Y7 x t sp k (ZM t L b)).2.2=0->ZM t L b<=(Y7 x t sp k (ZM t L b)).1:=fun e=>lM hT.net e;have hst:=hT.stp _ (ZL hk);unfold nxtF at he ⊢
 generalize Y7 x t sp k (ZM t L b)=g at *
 generalize ZM t L b=d at *
 generalize W1 L b=s at *
 generalize X4 k d b L.she=m at *
 have hk2: ¬k=sp.length:=Za
 unfold WI at he ⊢
 grind
theorem vB {x:Inst} {t:Typ} {sp:List Stp} {L:Lab} {b:Bool} (hT:TrpOk x t sp) (he:(nxtF x t sp sp.length L b).2=0):L.ready<=(nxtF x t sp sp.length L b).1.she.fin/\(nxtF x t sp sp.length L b).1.she.fin<=t.cls:=by
 have hrs:=hT.rst
 have hd:L.ready<=ZM t L b:=by grind [ZM]
 have hgo:(Y7 x t sp sp.length (ZM t L b)).2.2=0->ZM t L b<=(Y7 x t sp sp.length (ZM t L b)).1:=fun e=>lM hT.net e;unfold nxtF at he ⊢
 generalize Y7 x t sp sp.length (ZM t L b)=g at *
 generalize ZM t L b=d at *
 generalize W1 L b=s at *
 generalize X4 sp.length d b L.she=m at *
 unfold WI at he ⊢
 grind
theorem TB {x:Inst} {t:Typ} {sp:List Stp} (hT:TrpOk x t sp): ∀(bs:List Bool) (k:Nat) (L:Lab),k+bs.length=sp.length+1->0<bs.length->(Xd x t sp k L bs).2=0->L.ready<=(Xd x t sp k L bs).1.she.fin/\(Xd x t sp k L bs).1.she.fin<=t.cls
 | [],k,L,_,h3,_=>by simp at h3
 | b::bs,k,L,h2,_,h=>by
  rw [Xd] at h ⊢
  by_cases h4:(nxtF x t sp k L b).2=0
  ·simp only [h4,if_true] at h ⊢
   cases bs with
   | nil =>
    simp_all [Xd,vB]
   | cons b2 bs =>
    simp at h2;have h5:=TB hT (b2::bs) (k+1) _ (by simp;omega) Zb h;have h6:=vC hT (show k<sp.length by omega) h4;omega
  grind
theorem LM {x:Inst} {r:Rte} (hx:InstOk x) (h:Z6 x r=0):(ZF x r).opn<=(Yc x r).fin/\(Yc x r).fin<=(ZF x r).cls:=by
 obtain ⟨hty,h0,hs⟩:=Uk (VI h)
 have e:Yc x r=(XB x r).1:=by rw [Yc,if_pos h]
 have ee:(XB x r).2=0:=by rw [Z6,if_pos (VI h)] at h;exact h
 have hT:=Aq hx hty (VY h0);obtain ⟨bs,hb1,hb2,hb3⟩:=HS (by grind [Yi]) ee;have hb3:(XB x r).1=_:=hb3;rw [e,hb3];have h1:=TB hT bs 0 _ Za Za hb2
 grind [labF]
def QK (l:List Vis) (N:Nat):Nat:=(List.range N).countP fun i:Nat=>hasO l (i:Int)
theorem bA {l m:List Vis} {N:Nat} (h: ∀v∈l,v∈m):QK l N<=QK m N:=List.countP_mono_left fun i _ hi=>by
 grind [Yd]
theorem Sq {x:Inst} {l:List Vis} {t:Int} (hi:Inr x l): ∀n,n<=l.length->(0<=(chgF x l t n).1/\(chgF x l t n).1<=(QK (l.take n) x.orders.length:Int))/\(0<=(chgF x l t n).2/\(chgF x l t n).2<=(QK (l.take n) x.orders.length:Int))
 | 0,_=>by simp [chgF]
 | n+1,h=>by
  have ih:=Sq (t:=t) hi n Za
  have hn:n<l.length:=Za
  have hv:=hi _ (ZL hn)
  have htk:l.take (n+1)=l.take n++ [nth l n]:=by rw [XZ hn,Zh hn]
  have hmono:QK (l.take n) x.orders.length<=QK (l.take (n+1)) x.orders.length:=bA fun v hv=>by grind
  have hap: ∀i:Int,hasO (l.take (n+1)) i=(hasO (l.take n) i||decide ((nth l n).order=i)):=fun i=>by grind [hasO]
  rw [chgF]
  split
  ·rename_i hf
   have hadd:QK (l.take (n+1)) x.orders.length=QK (l.take n) x.orders.length+1:=by
    unfold QK;rw [CK,CK]
    have ei:(((nth l n).order.toNat:Nat):Int)=(nth l n).order:=Za
    refine BK (a:=(nth l n).order.toNat) List.nodup_range (Zz.2 Za) ?_ ?_ fun b _ hb=> ?_
    ·rw [ei];simp only [UJ,XM] at hf;exact hf
    ·grind
    grind
   omega
  ·omega
theorem Qo {x:Inst} {r:Rte} (hx:InstOk x) (h:Z6 x r=0):Vf (XF x r)/\(XF x r).cost<=22000000/\(XF x r).moved<=(QK r.visits x.orders.length:Int)/\(XF x r).other<=(QK r.visits x.orders.length:Int)/\(XF x r).work<=4096:=by
 have hg:=Nz hx h;have hf:=LM hx h;obtain ⟨hty,_,_⟩:=Uk (VI h);have hnum:=WU hx (show r.typ.toNat<x.types.length by omega);have htyp:nth x.types r.typ.toNat=ZF x r:=rfl;rw [htyp] at hnum
 have e:(XB x r).1=Yc x r:=by rw [Yc,if_pos h]
 have hch:=Sq (t:=r.typ) (YM h).inr r.visits.length (Zw _);rw [X5] at hch;rw [XF,if_pos h,e];unfold Eb Vf
 generalize Yc x r=s at *
 generalize ZF x r=t at *
 have p1:0<=t.perMile*s.miles/\t.perMile*s.miles<=100*210000:=⟨UO Za Za,VQ Za Za Za Za⟩
 have hW:0<=s.fin-t.opn/\s.fin-t.opn<=4096:=Za
 have p2:0<=t.perTick*(s.fin-t.opn)/\t.perTick*(s.fin-t.opn)<=100*4096:=⟨UO Za Za,VQ Za Za Za Za⟩
 have p3:0<=(s.fin-t.opn).tdiv 64/\(s.fin-t.opn).tdiv 64<=64:=by
  grind
 have p4:0<=(s.fin-t.opn).tdiv 64*(s.fin-t.opn).tdiv 64/\(s.fin-t.opn).tdiv 64*(s.fin-t.opn).tdiv 64<=64*64:=⟨UO p3.1 p3.1,VQ p3.2 p3.2 p3.1 Za⟩
 grind
theorem TL {α:Type} {f:α->Nat} {p:α->Bool} : ∀l:List α,(l.map fun a=>f a+(if p a=true then 1 else 0)).sum=(l.map f).sum+l.countP p
 | []=>rfl
 | a::l=>by
  rw [Zr,Zr,Uf,Uf,TL l,List.countP_cons];omega
theorem jR {rs:List Rte} {us:List Int} {N:Nat} (h: ∀i:Nat,i<N->rs.countP (fun r=>hasO r.visits (i:Int))+us.countP (fun u=>decide (u=(i:Int)))<=1): ∀n,n<=N->(rs.map fun r=>QK r.visits n).sum+(us.map fun u=>(List.range n).countP fun i=>decide (u=((i:Nat):Int))).sum<=n
 | 0,_=>by
  have h1: ∀l:List Rte,(l.map fun r=>QK r.visits 0).sum=0:=fun l=>by
   induction l with
   | nil=>rfl
   | cons a l ih=>grind [QK]
  have h2: ∀l:List Int,(l.map fun u=>(List.range 0).countP fun i=>decide (u=((i:Nat):Int))).sum=0:=fun l=>by
   induction l with
   | nil=>rfl
   | cons a l ih=>grind
  grind
 | n+1,hn=>by
  have ih:=jR h n Za;have hh:=h n Za
  have e1:(fun r:Rte=>QK r.visits (n+1))=fun r=>QK r.visits n+(if hasO r.visits (n:Int)=true then 1 else 0):=funext fun r=>by
   simp_all [QK,X6]
  have e2:(fun u:Int=>(List.range (n+1)).countP fun i=>decide (u=((i:Nat):Int)))=fun u=>((List.range n).countP fun i=>decide (u=((i:Nat):Int)))+(if decide (u=(n:Int))=true then 1 else 0):=funext fun u=>by
   simp_all [X6]
  grind [TL]
theorem Gd {α:Type} {f:α->Sco} {g:α->Nat} : ∀(l:List α) (s:Sco),(∀a∈l,(f a).cost<=22000000/\(f a).moved<=(g a:Int)/\(f a).other<=(g a:Int)/\(f a).work<=4096) ->
  (l.foldl (fun s a=>Yp s (f a)) s).cost<=s.cost+22000000*(l.length:Int)/\(l.foldl (fun s a=>Yp s (f a)) s).moved<=s.moved+((l.map g).sum:Nat)/\(l.foldl (fun s a=>Yp s (f a)) s).other<=s.other+((l.map g).sum:Nat)/\(l.foldl (fun s a=>Yp s (f a)) s).work<=s.work+4096*(l.length:Int)
 | [],s,_=>Zb
 | a::l,s,h=>by
  have h1:=h a Zb;have h2:=Gd l (Yp s (f a)) fun b hb=>h b (XL _ hb)
  grind [Yp]
theorem L8 {α:Type} {g:α->Nat} : ∀l:List α,(∀a∈l,1<=g a)->l.length<=(l.map g).sum
 | [],_=>Zb
 | a::l,h=>by
  have h1:=h a Zb;have h2:=L8 l fun b hb=>h b (XL _ hb);rw [Zr,Uf,ZC];omega
theorem jN {x:Inst} {l:List Vis} (h:RightV x l):1<=QK l x.orders.length:=by
 obtain ⟨v,hv⟩: ∃v,v∈l:=by
  cases l with
  | nil=>exact absurd rfl h.ne
  | cons v l=>simp
 have hi:=h.inr v hv;exact Jl.2 ⟨v.order.toNat,Zz.2 Za,Yd.2 ⟨v,hv,Za⟩⟩
theorem Hb {x:Inst} (hx:InstOk x) (i:Int):Vf (unsF x i).1/\(unsF x i).1.cost<=22000000/\(unsF x i).1.moved<=1/\(unsF x i).1.other<=1/\(unsF x i).1.work<=4096:=by
 unfold unsF
 split
 ·simp [Vf,zSco]
 ·split
  ·simp [Vf,zSco]
  ·split
   ·simp [Vf,zSco]
   ·have ha:=(hx.orders.2 i.toNat Za).arg;simp only [argOk,rng,ZE,Zs] at ha
    grind [Vf]
theorem TF {x:Inst} {p:Pln} (hx:InstOk x) (hn:x.orders.length<=4) (hk:Vm x p=0):(Xm (JO x p)).2=0/\p.routes.length+p.unserved.length<=4:=by
 obtain ⟨hev,hun⟩:=Qd hk;obtain ⟨k1,k2,k3,k4,k5⟩:=DI hk;have hc:=jR (rs:=p.routes) (us:=p.unserved) k2 x.orders.length (Zw _);have hR: ∀r∈p.routes,Vf (XF x r)/\(XF x r).cost<=22000000/\(XF x r).moved<=(QK r.visits x.orders.length:Int)/\(XF x r).other<=(QK r.visits x.orders.length:Int)/\(XF x r).work<=4096:=fun r hr=>Qo hx (hev r hr)
 have hU1: ∀u∈p.unserved,1<=(List.range x.orders.length).countP fun i=>decide (u=((i:Nat):Int)):=fun u hu=>by
  have:=k1 u hu;exact Jl.2 ⟨u.toNat,Zz.2 Za,by simp;omega⟩
 have l1:=L8 p.routes fun r hr=>jN (YM (hev r hr));have l2:=L8 p.unserved hU1;have f1:=Gd (f:=fun r=>XF x r) (g:=fun r=>QK r.visits x.orders.length) p.routes zSco fun r hr=>(hR r hr).2
 have f2:=Gd (f:=fun i=>(unsF x i).1) (g:=fun u=>(List.range x.orders.length).countP fun i=>decide (u=((i:Nat):Int))) p.unserved (WT x p.routes) fun u hu=>by
  have h1:=(Hb hx u).2;have h2:=hU1 u hu;omega
 have hpos: ∀ {α:Type} (f:α->Sco) (l:List α) (s:Sco),(∀a∈l,Vf (f a))->Vf s->Vf (l.foldl (fun s a=>Yp s (f a)) s):=fun f l=>by
  induction l with
  | nil=>simp
  | cons r l ih=>simp_all [Ae]
 have q1:Vf (WT x p.routes):=hpos (fun r=>XF x r) p.routes zSco (fun r hr=>(hR r hr).1) (by simp [Vf,zSco]);have q2:Vf (KN x (WT x p.routes) p.unserved):=hpos (fun i=>(unsF x i).1) p.unserved _ (fun u _=>(Hb hx u).1) q1
 have hsc:JO x p=KN x (WT x p.routes) p.unserved:=by rw [JO,if_pos hk]
 rw [hsc,JU q2];have f1:(WT x p.routes).cost<=zSco.cost+_/\(WT x p.routes).moved<=zSco.moved+_/\(WT x p.routes).other<=zSco.other+_/\(WT x p.routes).work<=zSco.work+_:=f1;have f2:(KN x (WT x p.routes) p.unserved).cost<=(WT x p.routes).cost+_/\(KN x (WT x p.routes) p.unserved).moved<=(WT x p.routes).moved+_/\(KN x (WT x p.routes) p.unserved).other<=(WT x p.routes).other+_/\(KN x (WT x p.routes) p.unserved).work<=(WT x p.routes).work+_:=f2;simp only [zSco] at f1;omega
theorem D8 {x:Inst} (hx:InstOk x) (hn:x.orders.length<=4): ∀c∈Xh x,rightB x c=true:=fun c hc=>by
 obtain ⟨k,S,h1,h2,h3,h4,h5⟩:=Cg.1 hc;obtain ⟨m,m1,m2,m3⟩:=DG h4;have hp4:2^x.orders.length<=2^4:=YA Za hn
 have hal:WC x.orders x.apart x.before ((S:Nat):Int)=0:=by
  grind [V0]
 have hf:=Xz hx;have ha:Alw x S:=(QN Za (by rw [Nat.div_eq_zero_iff];exact .inr h3) hf.val).1 hal
 have hw:R2 S (Yk x x.orders.length)=true:=by
  rw [Pa hn Za,ZE,Zs,Zx];refine ⟨h3,fun i hi=> ?_⟩
  cases hb:S.testBit i with
  | false=>rfl
  | true=>rw [ha.off i (Zz.1 hi) hb];rfl
 have he:=Ux m2;have hfn:=Qo hx he
 have hcn:QK (Jr (k:Int) m).visits x.orders.length<=x.orders.length:=by
  have:=List.countP_le_length (p:=fun i:Nat=>hasO (Jr (k:Int) m).visits (i:Int)) (l:=List.range x.orders.length);rw [List.length_range] at this;exact this
 have hpr:(Ye x (Jr k m)).1=(((XF x (Jr k m)).cost*16+(XF x (Jr k m)).moved)*16+(XF x (Jr k m)).other)*65536+(XF x (Jr k m)).work:=by
  rw [Ye,if_pos he]
  grind [O9,JU]
 have hp:=Ov x (Jr k m)
 have h6:(YX x k S m).price<=18014398509481984:=by
  show (Ye x (Jr k m)).1<=_
  omega
 rw [h5,m3];simp only [rightB,ZE,Zs];refine ⟨?_,?_,?_,?_,?_,h6⟩
 ·show (0:Int)<=(k:Int);omega
 ·show (k:Int)<_;omega
 ·show (0:Int)<(S:Int);omega
 ·show R2 ((S:Nat):Int).toNat _=true
  grind
 ·exact hp.1
theorem dH {x:Inst} {r:Rte} (h:(Ye x r).2=0):Z6 x r=0:=by
 grind [Ye]
theorem uI {n:Net} {pr f t τ σ:Int} :(W5 n pr f t τ).2=(W5 n pr f t σ).2:=by
 grind [W5]
theorem To {x:Inst} {t:Typ} {sp:List Stp} {k:Nat} {L:Lab} {b:Bool} (h:(nxtF x t sp k L b).2=0):(nxtF x t sp k L b).1.she.miles=L.she.miles+(Y7 x t sp k 0).2.1:=by
 have e:(Y7 x t sp k (ZM t L b)).2=(Y7 x t sp k 0).2:=uI
 have hm:(X4 k (ZM t L b) b L.she).miles=L.she.miles:=by grind [X4]
 rw [<- e];unfold nxtF at h ⊢
 generalize Y7 x t sp k (ZM t L b)=g at *
 generalize X4 k (ZM t L b) b L.she=m at *
 unfold WI at h ⊢
 grind
theorem TC {x:Inst} {t:Typ} {sp:List Stp} : ∀(bs cs:List Bool) (k:Nat) (L M:Lab),bs.length=cs.length->L.she.miles=M.she.miles->(Xd x t sp k L bs).2=0->(Xd x t sp k M cs).2=0->(Xd x t sp k L bs).1.she.miles=(Xd x t sp k M cs).1.she.miles
 | [],[],k,L,M,_,h,_,_=>by grind [Xd]
 | [],_::_,_,_,_,h,_,_,_=>by simp at h
 | _::_,[],_,_,_,h,_,_,_=>by simp at h
 | b::bs,c::cs,k,L,M,hl,h,h1,h2=>by
  rw [Xd] at h1 h2 ⊢;rw [Xd]
  by_cases g1:(nxtF x t sp k L b).2=0
  ·by_cases g2:(nxtF x t sp k M c).2=0
   ·simp only [g1,g2,if_true] at h1 h2 ⊢;exact TC bs cs (k+1) _ _ (by simpa using hl) (by rw [To g1,To g2,h]) h1 h2
   grind
  grind
theorem Gg : ∀(n:Nat) (l:List Bool),l.length=n->l∈YY (List.replicate n false)
 | 0,l,h=>by
  grind [YY]
 | n+1,[],h=>by simp at h
 | n+1,b::l,h=>by
  have ih:=Gg n l (by simpa using h);rw [K3,YY];simp only [Y1,YH,Xj,Xn,CS]
  cases b with
  | false=>exact .inl ⟨l,ih,rfl⟩
  | true=>exact .inr ⟨l,ih,rfl⟩
theorem D7 {r q:List Bool} {n:Nat} (hr:r.length<=n):q∈XH r n↔q.length=n/\ ∃s,q=r++s:=by
 rw [XH,Xn]
 constructor
 ·rintro ⟨s,hs,rfl⟩;have:=bestF_len.fromB_len _ _ hs
  grind
 ·rintro ⟨h,s,rfl⟩;rw [ZJ] at h;exact ⟨s,Gg _ s Za,rfl⟩
theorem SL {L:Type} {fin:L->Int} : ∀l:List L,Vb fin none l=none->l= []
 | [],_=>rfl
 | a::l,h=>by
  rw [Vb] at h;obtain ⟨z,e,_⟩:=VJ fin l a
  grind
theorem kZ {L:Type} {fin:L->Int} {l:List L} {m:L} (h:Vb fin none l=some m): ∀y∈l,fin m<=fin y:=by
 cases l with
 | nil=>simp
 | cons a l =>
  rw [Vb] at h;obtain ⟨z,e,e1,e2⟩:=VJ fin l a
  grind
theorem PH {x t sp} {st:Int} {r bs:List Bool} (hr:r.length<=sp.length+1) (hb:bs∈XH r (sp.length+1)) (h:(Xd x t sp 0 (labF t st) bs).2=0) :
  (Yw x t sp st r).2=0/\(Yw x t sp st r).1.fin<=(Xd x t sp 0 (labF t st) bs).1.she.fin/\(Yw x t sp st r).1.miles=(Xd x t sp 0 (labF t st) bs).1.she.miles:=by
 have hrun:Wi (XE x t sp) 0 (labF t st) bs=some (Xd x t sp 0 (labF t st) bs).1:=by rw [YD,if_pos h]
 have hmem:(Xd x t sp 0 (labF t st) bs).1∈(XH r (sp.length+1)).filterMap (Wi (XE x t sp) 0 (labF t st)):=K4.2 ⟨_,hb,hrun⟩;unfold Yw
 cases hf:Vb Wn none ((XH r (sp.length+1)).filterMap (Wi (XE x t sp) 0 (labF t st))) with
 | none =>
  grind [SL]
 | some L =>
  simp only;refine ⟨trivial,kZ hf _ hmem,?_⟩;have hm:=bestF_len.fmL_mem _ _ hf;obtain ⟨cs,hcs,hrun2⟩:=K4.1 hm;rw [YD] at hrun2
  split at hrun2
  ·rename_i h5;obtain rfl:=Vp hrun2;have l1:=((D7 hr).1 hb).1;have l2:=((D7 hr).1 hcs).1;exact TC cs bs 0 _ _ Za rfl h5 h
  grind
theorem iN {x t sp} {st:Int} {r:List Bool} (hr:r.length<=sp.length+1) (h:(Yw x t sp st r).2=0): ∃bs:List Bool,bs∈XH r (sp.length+1)/\(Xd x t sp 0 (labF t st) bs).2=0/\(Yw x t sp st r).1=(Xd x t sp 0 (labF t st) bs).1.she:=by
 unfold Yw at h ⊢
 cases hf:Vb Wn none ((XH r (sp.length+1)).filterMap (Wi (XE x t sp) 0 (labF t st))) with
 | none =>
  exfalso;rw [hf] at h;simp only at h
  have hm:YT r (sp.length+1)∈XH r (sp.length+1):=by
   grind [XH,YT,fromB_next]
  have h2:Wi (XE x t sp) 0 (labF t st) (YT r (sp.length+1))=some (Xd x t sp 0 (labF t st) (YT r (sp.length+1))).1:=by rw [YD,if_pos h]
  grind [SL]
 | some L =>
  simp only;have hm:=bestF_len.fmL_mem _ _ hf;obtain ⟨bs,hbs,hrun⟩:=K4.1 hm;rw [YD] at hrun
  grind
theorem qK {a b:Sco} (h:(Xm a).2=0) (hb:0<=b.cost/\0<=b.moved/\0<=b.other/\0<=b.work) (h1:b.cost<=a.cost) (h2:b.moved=a.moved) (h3:b.other=a.other) (h4:b.work<=a.work):(Xm b).2=0/\(Xm b).1<=(Xm a).1:=by
 unfold Xm at h ⊢
 grind
theorem IW {x:Inst} {l:List Itm} {r:Rte} (h:0<=r.typ/\r.typ<(x.types.length:Int)):ZF (Zm x l) r=Vh (ZF x r) r.typ l:=by
 unfold ZF;rw [show (Zm x l).types=Xw x.types l from rfl,Wt Za]
 grind
theorem qN {x:Inst} {l:List Itm} {r:Rte} (hx:InstOk x) (h:X2 x r=0):WkT (ZF x r) (ZF (Zm x l) r) (ZP x r.visits) (ZP (Zm x l) r.visits):=by
 obtain ⟨c1,c2,_⟩:=Uk h;have hsq:=VY c2
 have htl:r.typ.toNat<x.types.length:=Za
 have hty:=hx.types.2 _ htl;unfold UD at hty;obtain ⟨⟨⟨⟨⟨⟨⟨⟨_,_⟩,_⟩,_⟩,hcap⟩,_⟩,hcl⟩,HA⟩,_⟩:=hty
 have hsp: ∀w∈r.visits,∃c,(Xp x w).cls<=c/\Xp (Zm x l) w= { Xp x w with cls:=c } :=fun w hw=>by
  obtain ⟨w1,w2⟩:=hsq.inr w hw
  have hi:w.order.toNat<x.orders.length:=Za
  have hord:=hx.orders.2 _ hi;have hpk:=hord.pstp;have hdk:=hord.dstp;simp only [stpOk,Zs] at hpk hdk;unfold Xp;rw [show (Zm x l).orders=Xu x.orders l from rfl,Z8 hi]
  split
  ·simp only [V3]
   grind
  ·simp only [V3]
   grind
 rw [IW c1];refine ⟨by simp [ZP],?_,?_,rfl,rfl,rfl,rfl,rfl,fun k hk=> ?_⟩
 ·simp only [Vh];split
  ·exact hcl.2
  omega
 ·simp only [Vh];split
  ·have:=HA.1;simp [rng] at this;exact this.2
  omega
 ·simp [ZP] at hk
  have e: ∀y:Inst,nth (ZP y r.visits) k=Xp y (nth r.visits k):=fun y=>by
   grind [Zh,ZP]
  grind [Zt]
theorem aP {x y:Inst} {t t' sp sp'} {st:Int} {r:List Bool} (hn:y.net=x.net) (h:WkT t t' sp sp') (hr:r.length<=sp.length+1) (h0:(Yw x t sp st r).2=0) :
  (Yw y t' sp' st r).1.fin<=(Yw x t sp st r).1.fin/\(Yw y t' sp' st r).1.miles=(Yw x t sp st r).1.miles:=by
 obtain ⟨bs,b1,b2,b3⟩:=iN hr h0;have hl:=((D7 hr).1 b1).1
 have hrun:Wi (XE x t sp) 0 (labF t st) bs=some (Xd x t sp 0 (labF t st) bs).1:=by rw [YD,if_pos b2]
 have el:labF t' st=labF t st:=by simp [labF,h.opn]
 have hy:=D9 hn h bs 0 _ _ Za hrun;rw [YD,<- el] at hy
 split at hy
 ·rename_i h5;have e:=Vp hy;rw [el] at e
  have hb:bs∈XH r (sp'.length+1):=by rw [h.len];exact b1
  obtain ⟨_,g2,g3⟩:=PH (x:=y) (t:=t') (sp:=sp') (st:=st) (r:=r) (by rw [h.len];exact hr) hb h5
  grind
 ·cases hy
theorem Nk {x:Inst} {l:List Itm} {v:List Vis} {t:Int} (hi:Inr x v): ∀n,n<=v.length->chgF (Zm x l) v t n=chgF x v t n
 | 0,_=>rfl
 | n+1,hn=>by
  have ih:=Nk (l:=l) (t:=t) hi n Za;have hv:=hi _ (ZL (show n<v.length by omega));have e:nth (Zm x l).orders (nth v n).order.toNat=V3 (nth x.orders (nth v n).order.toNat) ((nth v n).order.toNat:Nat) l:=Z8 Za;rw [chgF,chgF,ih,e]
  rfl
theorem Rw {x:Inst} {l:List Itm} {r:Rte} (hx:InstOk x) (hy:InstOk (Zm x l)) (hI: ∀v∈l,X9 x v=true) (h:(Ye x r).2=0) :
  (Ye (Zm x l) r).2=0/\(Ye (Zm x l) r).1<=(Ye x r).1:=by
 have he:=dH h;have e1:=bJ hx hI he;have hru:=VI he;obtain ⟨c1,_,c3⟩:=Uk hru;have hw:=qN (l:=l) hx hru
 have hb:(XB x r).2=0:=by simp_all [Z6]
 have hlen:r.rests.length<=(ZP x r.visits).length+1:=by grind [Yi]
 obtain ⟨g1,g2⟩:=aP (x:=x) (y:=Zm x l) rfl hw hlen hb;have hty:=IW (l:=l) c1;have f1:=LM hy e1;have f2:=LM hx he;obtain ⟨p1,_⟩:=Qo hy e1;have hnum:=WU hx (show r.typ.toNat<x.types.length by omega);have htyp:nth x.types r.typ.toNat=ZF x r:=rfl;rw [htyp] at hnum;have hin:Inr x r.visits:=(YM he).inr;have hch:=Nk (l:=l) (t:=r.typ) hin r.visits.length (Zw _);rw [Ye,if_pos he] at h;rw [Ye,if_pos e1,Ye,if_pos he]
 have b1:(XB (Zm x l) r).1=Yc (Zm x l) r:=by rw [Yc,if_pos e1]
 have b2:(XB x r).1=Yc x r:=by rw [Yc,if_pos he]
 have g1:(Yc (Zm x l) r).fin<=(Yc x r).fin:=by rw [<- b1,<- b2];exact g1
 have g2:(Yc (Zm x l) r).miles=(Yc x r).miles:=by rw [<- b1,<- b2];exact g2
 rw [XF,if_pos e1,b1] at p1 ⊢;rw [XF,if_pos he,b2] at h ⊢
 have o1:(ZF (Zm x l) r).opn=(ZF x r).opn:=by rw [hty];rfl
 have o2:(ZF (Zm x l) r).fixed=(ZF x r).fixed:=by rw [hty];rfl
 have o3:(ZF (Zm x l) r).perMile=(ZF x r).perMile:=by rw [hty];rfl
 have o4:(ZF (Zm x l) r).perTick=(ZF x r).perTick:=by rw [hty];rfl
 rw [o1] at f1;unfold Vf at p1;refine qK h p1 ?_ ?_ ?_ ?_
 ·simp only [Eb,o1,o2,o3,o4,g2];have:(ZF x r).perTick*((Yc (Zm x l) r).fin-(ZF x r).opn)<=(ZF x r).perTick*((Yc x r).fin-(ZF x r).opn):=BP Za Za;omega
 ·grind [Eb]
 ·grind [Eb]
 ·simp only [Eb,o1]
  have t1:0<=((Yc (Zm x l) r).fin-(ZF x r).opn).tdiv 64/\((Yc (Zm x l) r).fin-(ZF x r).opn).tdiv 64<=((Yc x r).fin-(ZF x r).opn).tdiv 64:=by
   grind
  exact VQ t1.2 t1.2 t1.1 Za
theorem OR {x:Inst} (hx:InstOk x):(∀k,k<x.orders.length->(nth x.orders k).off=false->0<=(nth x.orders k).penalty->0<=skR x k/\skR x k<=18014398509481984)/\ ∀i,scoR 1152921504606846976 (unsF x i).1 :=
 ⟨fun k hk hof hp=>by
  obtain ⟨s1,s2⟩:=zX hx hk hof;have:=OS hx k
  omega,fun i=>Yu Za (Dw hx i)⟩
theorem Ss (x:Inst) (l:List Col): ∃q:Pln×Int×Int,MS x l q.1 q.2.1 q.2.2:=by
 suffices h: ∃b e,fU x l b e by
  obtain ⟨b,e,h⟩:=h
  by_cases he:e=0
  ·exact ⟨⟨_,_,e⟩,b,h,fun h=>absurd he h,fun _=>⟨rfl,rfl⟩⟩
  ·exact ⟨⟨_,_,e⟩,b,h,fun _=>⟨rfl,rfl⟩,fun h=>absurd h he⟩
 unfold fU
 by_cases h1:8192<l.length
 ·grind
 ·by_cases h2: ∃c∈l,rightB x c=false
  ·exact ⟨_,_,.inr (.inl ⟨Za,h2,rfl,rfl⟩)⟩
  ·have h3: ∀c∈l,rightB x c=true:=fun c hc=>by
    grind
   cases hf:(EH x l).found with
   | false=>exact ⟨_,_,.inr (.inr ⟨Za,h3,.inl ⟨rfl,rfl,rfl⟩⟩)⟩
   | true=>exact ⟨_,_,.inr (.inr ⟨Za,h3,.inr ⟨rfl,rfl,rfl⟩⟩)⟩
noncomputable def pP (x:Inst):Pln×Int×Int:=Classical.choose (Ss x (Xh x))
theorem Fx (x:Inst):MS x (Xh x) (pP x).1 (pP x).2.1 (pP x).2.2:=Classical.choose_spec (Ss x (Xh x))
noncomputable def X1 (x:Inst):Int:=(pP x).2.1
noncomputable def WS (x:Inst):Int:=(pP x).2.2
theorem jC {x:Inst} {l:List Col} {p q:Pln} {c c' e e':Int} (h:MS x l p c e) (h':MS x l q c' e'):c=c'/\e=e':=by
 obtain ⟨b,hb,h1,h2⟩:=h;obtain ⟨b',hb',h1',h2'⟩:=h'
 have he:e=e'/\b=b':=by
  rcases hb with ⟨k1,rfl,rfl⟩ | ⟨k1,⟨d,kd,k2⟩,rfl,rfl⟩ | ⟨k1,k2,k3⟩<;>rcases hb' with ⟨j1,rfl,rfl⟩ | ⟨j1,⟨d',jd,j2⟩,rfl,rfl⟩ | ⟨j1,j2,j3⟩
  ·simp
  ·omega
  ·omega
  ·omega
  ·simp
  ·grind
  ·omega
  ·grind
  grind
 grind
theorem pR (x:Inst) (hx:InstOk x) (hn:x.orders.length<=4) (hbl:x.before.length<=1048576) (hal:x.apart.length<=1048576) :
  ACalls Tryz.prog 47 [.p (Zv x)] [] fun y H'=> ∃p:Pln,I5 x (Xh x) p (X1 x) (WS x)/\y= .tup [.p (Ut p),.p (.int .i64 (X1 x)),.p (.int .i64 (WS x))]/\H'= []:=by
 refine (wW x hx hn (RW hx) hbl hal).mono fun y H' h=> ?_;obtain ⟨p,c,e,h,rfl,rfl⟩:=h;obtain ⟨_,hc⟩:=Ax hn (RW hx);obtain ⟨rfl,rfl,_⟩:=Nl hx hn (fun c h=>(hc c h).1) h (Fx x);exact ⟨p,h,rfl,rfl⟩
theorem pS (x:Inst) (hx:InstOk x) (hn:x.orders.length<=4) (hbl:x.before.length<=1048576) :
  ACalls Tryz.prog 12 [.p (Zv x)] [] fun y H'=> ∃p:Pln,MS x (Xh x) p (X1 x) (WS x)/\y= .tup [.p (Ut p),.p (.int .i64 (X1 x)),.p (.int .i64 (WS x))]/\H'= []:=by
 obtain ⟨hsk,hus⟩:=OR hx;refine (eV x hx hn (RW hx) hbl hsk hus).mono fun y H' h=> ?_;obtain ⟨p,c,e,h,rfl,rfl⟩:=h;obtain ⟨rfl,rfl⟩:=jC h (Fx x);exact ⟨p,h,rfl,rfl⟩
theorem KT {α:Type} {p:α->Bool} : ∀ {l:List α},l.countP p<=1->l.Pairwise fun a b=> ¬(p a=true/\p b=true)
 | [],_=> .nil
 | a::l,h=>by
  rw [List.countP_cons] at h;rw [List.pairwise_cons];refine ⟨fun b hb hh=> ?_,KT Za⟩
  simp_all
theorem oF {x:Inst} {l:List Col} {rs:List Rte} {f:Rte->Nat} (hf:IFacts x)
  (hj: ∀r∈rs,f r<l.length/\(nth l (f r)).typ=r.typ/\(nth l (f r)).set=((Xo r.visits:Nat):Int))
  (hr: ∀r∈rs,RightV x r.visits) (ht: ∀r∈rs,0<=r.typ)
  (htw: ∀i:Nat,i<x.orders.length->rs.countP (fun r=>hasO r.visits (i:Int))<=1)
  (hoff: ∀r∈rs,∀i:Nat,i<x.orders.length->hasO r.visits (i:Int)=true->(nth x.orders i).off=false)
  (hcr: ∀r∈rs,((rs.countP fun s=>decide (s.typ=r.typ):Nat):Int)<=(nth x.types r.typ.toNat).count)
  (hsv: ∀k:Nat,k<x.orders.length->(nth x.orders k).off=false->(∃r∈rs,hasO r.visits (k:Int)=true)\/0<=(nth x.orders k).penalty) :
  Prt x l (rs.map f)/\(∀j∈rs.map f,∃t,hasC l j t=true)/\ ∀r∈rs,∀t,hasC l (f r) t=hasO r.visits (t:Int):=by
 have hb: ∀r∈rs,∀t:Nat,hasC l (f r) t=hasO r.visits (t:Int):=fun r h t=>by
  rw [Wf,hasC,(hj r h).2.2,XY,(hr r h).bit,Yd]
 have hlt: ∀r∈rs,∀t:Nat,hasO r.visits (t:Int)=true->t<x.orders.length:=fun r h t e=>by
  obtain ⟨v,hv,e⟩:=Yd.1 e;have:=(hr r h).inr v hv;omega
 have hpw:rs.Pairwise fun a b=> ∀t:Nat,¬(hasO a.visits (t:Int)=true/\hasO b.visits (t:Int)=true):=by
  rw [VP];intro i j hi hj' hij t hh;have htl:=hlt _ (QS hi) t hh.1;exact VP.1 (KT (htw t htl)) i j hi hj' hij hh
 have hne: ∀r∈rs,∃t:Nat,hasO r.visits (t:Int)=true:=fun r h=>by
  obtain ⟨v,hv⟩: ∃v,v∈r.visits:=by
   cases e:r.visits with
   | nil=>exact absurd e (hr r h).ne
   | cons v m=>simp
  have:=(hr r h).inr v hv;exact ⟨v.order.toNat,Yd.2 ⟨v,hv,Za⟩⟩
 have hinj: ∀a∈rs,∀b∈rs,∀t:Nat,hasO a.visits (t:Int)=true->hasO b.visits (t:Int)=true->a=b:=fun a ha b hb' t h1 h2=>by
  obtain ⟨i,hi,rfl⟩:=List.getElem_of_mem ha;obtain ⟨j,hj',rfl⟩:=List.getElem_of_mem hb';rcases Nat.lt_trichotomy i j with h | h | h
  ·exact absurd ⟨h1,h2⟩ (VP.1 hpw i j hi hj' h t)
  ·subst h;rfl
  ·exact absurd ⟨h2,h1⟩ (VP.1 hpw j i hj' hi h t)
 refine ⟨⟨fun j h=> ?_,fun j h t e=> ?_,fun i hi j hj' t h1 h2=> ?_,?_,fun j h=> ?_,fun k hk ho=> ?_⟩,fun j h=> ?_,hb⟩
 ·grind
 ·grind
 ·obtain ⟨a,ha,rfl⟩:=Xn.1 hi;obtain ⟨b,hb',rfl⟩:=Xn.1 hj'
  grind
 ·rw [List.Nodup,List.pairwise_map];refine hpw.imp_of_mem fun {a b} ha hb' h e=> ?_;obtain ⟨t,ht⟩:=hne a ha;refine h t ⟨ht,?_⟩;rw [<- hb b hb',<- e,hb a ha];exact ht
 ·obtain ⟨r,hq,rfl⟩:=Xn.1 h;rw [<- CK,List.countP_map,(hj r hq).2.1]
  have:rs.countP ((fun i=>decide ((nth l i).typ=r.typ))∘f)=rs.countP fun s=>decide (s.typ=r.typ):=List.countP_congr fun s hs=>by
   grind
  grind
 ·rcases hsv k hk ho with ⟨r,h,e⟩ | h
  ·exact .inl ⟨f r,Xn.2 ⟨r,h,rfl⟩,by grind⟩
  omega
 ·obtain ⟨r,hq,rfl⟩:=Xn.1 h
  simp_all
theorem qE {n:Nat} {us:List Int} (h: ∀u∈us,0<=u/\u<(n:Int)) (ht: ∀i:Nat,i<n->us.countP (fun u=>decide (u=(i:Int)))<=1):us.Nodup:=by
 rw [List.Nodup,VP];intro i j hi hj hij e;have hu:=h _ (QS hi)
 have e1:us[i]=((us[i].toNat:Nat):Int):=Za
 refine VP.1 (KT (ht us[i].toNat Za)) i j hi hj hij ⟨Vr e1,Vr ?_⟩;omega
theorem qF {n:Nat} {g:Int->Int} : ∀ {us:List Int},(∀u∈us,0<=u/\u<(n:Int))->us.Nodup->((List.range n).map fun k:Nat=>if (k:Int)∈us then g (k:Int) else 0).sum=(us.map g).sum
 | [],_,_=>Ao fun k _=>Zb
 | u::us,h,hn=>by
  rw [List.nodup_cons] at hn;have hu:=h u Zb;have ih:=qF (g:=g) (fun v hv=>h v (XL _ hv)) hn.2
  have e:(fun k:Nat=>if (k:Int)∈u::us then g (k:Int) else 0)=fun k:Nat=>(if (k:Int)=u then g (k:Int) else 0)+(if (k:Int)∈us then g (k:Int) else 0):=funext fun k=>by
   grind
  rw [e,Du,ih,Zr,Uf];rw [B7 (j:=u.toNat) List.nodup_range (Zz.2 Za) fun i _ hne=>if_neg fun e=>hne Za]
  grind
theorem uE {x:Inst} {l:List Col} {rs:List Rte} {us:List Int} {f:Rte->Nat} (hb: ∀r∈rs,∀t:Nat,hasC l (f r) t=hasO r.visits (t:Int))
  (hu: ∀u∈us,0<=u/\u<(x.orders.length:Int))
  (htw: ∀i:Nat,i<x.orders.length->rs.countP (fun r=>hasO r.visits (i:Int))+us.countP (fun u=>decide (u=(i:Int)))<=1)
  (hst: ∀i:Nat,i<x.orders.length->(i:Int)∈us->(nth x.orders i).off=false)
  (hms: ∀i:Nat,i<x.orders.length->(nth x.orders i).off=false->1<=rs.countP (fun r=>hasO r.visits (i:Int))+us.countP (fun u=>decide (u=(i:Int)))) :
  ((List.range x.orders.length).map fun k=>if CA x l (rs.map f) k=true then skR x k else 0).sum=(us.map fun u=>skR x u.toNat).sum:=by
 have hn:=qE hu fun i hi=>by grind
 rw [<- qF (n:=x.orders.length) (g:=fun u=>skR x u.toNat) hu hn]
 congr 1
 refine Y0 fun k hk=> ?_;have hk:=Zz.1 hk
 have e:CA x l (rs.map f) k=true↔(k:Int)∈us:=by
  simp only [CA,ZE,XM,Zx]
  constructor
  ·rintro ⟨ho,hno⟩
   have hz:rs.countP (fun r=>hasO r.visits (k:Int))=0:=List.countP_eq_zero.2 fun r hr=>by
    simp_all
   have h1:=hms k hk ho;obtain ⟨u,h2,h3⟩:=Jl.1 (show 0<us.countP (fun u=>decide (u=(k:Int))) by omega)
   grind
  ·intro h;refine ⟨hst k hk h,fun j hj=> ?_⟩;obtain ⟨r,hr,rfl⟩:=Xn.1 hj;rw [hb r hr];have h1:0<us.countP (fun u=>decide (u=(k:Int))):=Jl.2 ⟨k,h,Zb⟩;have h2:=htw k hk
   cases hc:hasO r.visits (k:Int) with
   | false=>rfl
   | true =>
    have:0<rs.countP (fun r=>hasO r.visits (k:Int)):=Jl.2 ⟨r,hr,hc⟩;omega
 simp_all
theorem pZ {α:Type} {f g:α->Int} : ∀ {l:List α},(∀a∈l,f a<=g a)->(l.map f).sum<=(l.map g).sum
 | [],_=>Zb
 | a::l,h=>by
  have h1:=h a Zb;have h2:=pZ (l:=l) fun b hb=>h b (XL _ hb)
  grind
theorem dJ {x:Inst} {p:Pln} (hx:InstOk x) (hn:x.orders.length<=4) (hk:Vm x p=0):(∀r∈p.routes,Ye x r=Xm (XF x r)/\(Ye x r).2=0)/\(Xm (JO x p)).1=(p.routes.map fun r=>(Ye x r).1).sum+(p.unserved.map fun u=>skR x u.toNat).sum:=by
 have hw:=(TF hx hn hk).1;have hpos: ∀r∈p.routes,Vf (XF x r):=fun r hr=>(Qo hx ((Qd hk).1 r hr)).1;obtain ⟨hev,hun⟩:=Qd hk;obtain ⟨k1,k2,k3,k4,k5⟩:=DI hk
 have hsc:JO x p=KN x (WT x p.routes) p.unserved:=by rw [JO,if_pos hk]
 rw [hsc] at hw ⊢
 have hsR:Vf (WT x p.routes):=by
  have: ∀(l:List Rte) (s:Sco),(∀r∈l,Vf (XF x r))->Vf s->Vf (l.foldl (fun s r=>Yp s (XF x r)) s):=fun l=>by
   induction l with
   | nil=>simp
   | cons r l ih=>simp_all [Ae]
  exact this _ _ hpos (by simp [Vf,zSco])
 obtain ⟨w1,w2,w3⟩:=Hg (f:=fun i=>(unsF x i).1) p.unserved (WT x p.routes) (fun u _=>(Hb hx u).1) hsR hw;obtain ⟨_,v2,v3⟩:=Hg (f:=fun r=>XF x r) p.routes zSco hpos (by simp [Vf,zSco]) w1
 have hpr: ∀r∈p.routes,Ye x r=Xm (XF x r):=fun r hr=>by simp_all [Ye]
 refine ⟨fun r hr=>⟨hpr r hr,by grind⟩,?_⟩
 have s1:(p.routes.map fun r=>(Ye x r).1)=p.routes.map fun r=>(Xm (XF x r)).1:=Y0 fun r hr=>by rw [hpr r hr]
 have s2:(p.unserved.map fun u=>skR x u.toNat)=p.unserved.map fun u=>(Xm (unsF x u).1).1:=Y0 fun u hu=>by
  rw [skR,show ((u.toNat:Nat):Int)=u by have:=k1 u hu;omega]
 have z0:(Xm zSco).1=0:=by decide
 grind [KN,WT]
theorem NY {x:Inst} {p q:Pln} {c e:Int} (hx:InstOk x) (hn:x.orders.length<=4) (h6:x.types.length<=6) (h:I5 x (Xh x) q c e) (hk:Vm x p=0)
  (h0: ∀r∈p.routes,r.start=0/\r.rests= []):e=0/\(Xm (JO x p)).2=0/\c<=(Xm (JO x p)).1:=by
 have hr:=D8 hx hn;have hw:=(TF hx hn hk).1;refine (and_congr_right fun _=>and_iff_right hw).2 ?_;obtain ⟨hl,hc⟩:=Ax hn h6;obtain ⟨hev,hun⟩:=Qd hk;obtain ⟨k1,k2,k3,k4,k5⟩:=DI hk;obtain ⟨hpp,hps⟩:=dJ hx hn hk;have hty: ∀r∈p.routes,0<=r.typ/\r.typ<(x.types.length:Int):=fun r hr=>(Uk (VI (hev r hr))).1
 have H: ∀r∈p.routes,∃j,j<(Xh x).length/\(nth (Xh x) j).typ=r.typ/\(nth (Xh x) j).set=((Xo r.visits:Nat):Int)/\(nth (Xh x) j).price<=(Ye x r).1:=fun r hr =>
  PW hx (hpp r hr).2 (hty r hr) (h0 r hr).1 (h0 r hr).2
 obtain ⟨f,hf⟩: ∃f:Rte->Nat,∀r∈p.routes,f r<(Xh x).length/\(nth (Xh x) (f r)).typ=r.typ/\(nth (Xh x) (f r)).set=((Xo r.visits:Nat):Int)/\(nth (Xh x) (f r)).price<=(Ye x r).1:=by
  classical
  exact ⟨fun r=>if g:r∈p.routes then Classical.choose (H r g) else 0,fun r g=>by
   grind⟩
 have hRV: ∀r∈p.routes,RightV x r.visits:=fun r hr=>YM (hev r hr)
 have hoff: ∀r∈p.routes,∀i:Nat,i<x.orders.length->hasO r.visits (i:Int)=true->(nth x.orders i).off=false:=fun r hr i hi ho=>by
  have ha:=(hRV r hr).alw (Xz hx);have hb:(Xo r.visits).testBit i=true:=((hRV r hr).bit i).2 (Yd.1 ho);exact (ha.1 i hi hb)
 have hpen: ∀k:Nat,k<x.orders.length->(nth x.orders k).penalty≠ -1->0<=(nth x.orders k).penalty:=fun k hk' hne=>by
  have ha:=(hx.orders.2 k hk').arg;simp only [argOk,rng,ZE,Zs] at ha;omega
 obtain ⟨hP,hne,hb⟩:=oF (Xz hx) (fun r hr=>⟨(hf r hr).1,(hf r hr).2.1,(hf r hr).2.2.1⟩) hRV (fun r hr=>(hty r hr).1) (fun i hi=>by have:=k2 i hi;omega) hoff
  (fun r hr=>by
   have h1:=k5 r.typ.toNat (by simp_all)
   rwa [show ((r.typ.toNat:Nat):Int)=r.typ by have:=hty r hr;omega] at h1)
  (fun k hk' ho=>by
   rcases Nat.eq_zero_or_pos (p.routes.countP fun r=>hasO r.visits (k:Int)) with z | z
   ·have h1:=k4 k hk' ho;obtain ⟨u,h2,h3⟩:=Jl.1 (show 0<p.unserved.countP (fun u=>decide (u=(k:Int))) by omega);rw [Zs] at h3
    simp_all
   simp_all)
 obtain ⟨e0,hle⟩:=vY hx hn (fun c h=>(hc c h).1) h Za hr hP hne;refine ⟨e0,AW hle ?_⟩;rw [vX,uE hb k1 k2 (fun i hi hu=>(k3 i hi hu).1) k4]
 have s1:((p.routes.map f).map fun j=>(nth (Xh x) j).price).sum<=(p.routes.map fun r=>(Ye x r).1).sum:=by
  rw [List.map_map];exact pZ fun r hr=>(hf r hr).2.2.2
 omega
end Go.Proofs.YtenjikkmmibffaaGreatDoor.K
