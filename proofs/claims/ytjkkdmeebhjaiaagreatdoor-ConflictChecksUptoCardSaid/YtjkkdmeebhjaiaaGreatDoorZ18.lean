/- Declarations that the closing texts need, part 18: joined by tools/slim.py. -/
import Derived.Test.YtjkkdmeebhjaiaaGreatDoorZ17
set_option linter.unusedVariables false
set_option linter.unusedSimpArgs false
namespace Go.Proofs.YtjkkdmeebhjaiaaGreatDoor.K
open Go Go.AM Go.Proofs
set_option maxRecDepth 8000
theorem FP {α:Type} {p q:α->Bool} : ∀ {l:List α},(∀a∈l,p a=q a)->l.find? p=l.find? q
 | [],_=>rfl
 | a::l,h=>by
  rw [List.find?_cons,List.find?_cons,h a Zb,FP fun a ha=>h a (Yq _ ha)]
def RA (l:List Col) (g:List Int):Nat->Nat->List Col
 | 0,_=> []
 | d+1,k=>(if 0<=nth g k/\Ba (nth l (nth g k).toNat).set.toNat=(k:Int) then [nth l (nth g k).toNat] else [])++RA l g d (k+1)
def UA (x:Inst) (g:List Int):Nat->Nat->List Int
 | 0,_=> []
 | d+1,k=>(if nth g k<0/\(nth x.orders k).off=false then [(k:Int)] else [])++UA x g d (k+1)
theorem vR {x:Inst} {l ys:List Col} (hc:Ctx x l ys) {D:Nat} (hD:D=20) {s:St} {k:Nat} (hv:StV x.orders.length s) (hk:s.ix=k) (hkn:k<x.orders.length) (ho:(nth x.orders k).off=false) (hcv:s.cov.toNat.testBit k=false) {c:Col} (hm:c∈Yu ys k) :
  Mi x.orders.length (mI x) x (fstF x.orders.length ys) (skF x x.orders.length) s c=Aa x ys D s c:=by
 have hn:=hc.n4;have e1:=D3 (n:=x.orders.length) hk (m:=mI x) (by grind [F5]) (by grind [Ce]);have e2:=G1 (m:=mI x) hk hkn hn (K7 hc hkn hm).2.2.2
 grind [Mi,Aa,Lx]
theorem E8 {x:Inst} {l ys:List Col} (hc:Ctx x l ys) {D:Nat} (hD:D=20): ∀(d k:Nat) (s:St) (a:List Int) (f:Nat),k+d=x.orders.length->d<f->Nd x l a s k ->
  YE x.orders.length (mI x) x (fstF x.orders.length ys) (skF x x.orders.length) f (VE x.orders.length (mI x) s)=(RA l (gr x l ys D d k s a) d k,UA x (gr x l ys D d k s a) d k)
 | 0,k,s,a,0,_,hf,_=>Za
 | 0,k,s,a,f+1,hd,_,h=>by
  rw [YE,if_pos,RA,UA];simp only [VE];have:=Df (n:=x.orders.length) (m:=mI x) (cov:=s.cov) (x.orders.length-s.ix.toNat) s.ix.toNat;have:=h.ix;omega
 | d+1,k,s,a,0,_,hf,_=>Za
 | d+1,k,s,a,f+1,hd,hf,h=>by
  have hk:k<x.orders.length:=Za
  have hn:=hc.n4;rw [gr]
  split
  ·rename_i ho;have hsk:=ho.imp (fun e=>show sHas (mI x) k=false by grind [F5]) (fun e=>show sHas s.cov k=true by rw [Ce h.v Za,h.cov k hk];grind);rw [D2 h.ix hk hsk,E8 hc hD d (k+1) (G5 s) a (f+1) Za Za (h.skip' hk)];have hg:=(DF hc (D:=D) d (k+1) (G5 s) a Za (h.skip' hk)).2 k hk (.inl Za);rw [RA,UA,hg,if_neg,if_neg,ZC,ZC]
   ·grind
   ·rintro ⟨g1,g2⟩;obtain ⟨t,t1,t2⟩:=h.old k hk (ZD _) g1;have hr:=h.rng k hk;obtain ⟨_,s0,s1,_⟩:=hc.set (Z2 (l:=l) (i:=(nth a k).toNat) Za);have:=((RD s0 s1 hn hk).1 g2).2 t Za t2;omega
  ·rename_i ho
   have hoff:(nth x.orders k).off=false:=by
    grind
   have hak:nth a k<0:=Int.not_le.1 fun g=>ho (.inr g)
   have hcv:s.cov.toNat.testBit k=false:=by rw [h.cov k hk];grind
   rw [D3 h.ix (by grind [F5]) (by rw [Ce h.v Za,hcv]),YE,if_neg (by rw [h.ix];omega)]
   have e2:nth (fstF x.orders.length ys) s.ix.toNat=Yu ys k:=by rw [h.ix,XK,NP,if_pos hk]
   rw [e2,FP (q:=Aa x ys D s) fun c hm=>vR hc hD h.v h.ix hk hoff hcv hm]
   cases hfd:(Yu ys k).find? (Aa x ys D s) with
   | some c =>
    have hsel:=J9 hfd;have hm:=Ja hfd;simp only [Aa,Zw] at hsel;obtain ⟨p1,p2,p3⟩:=Kj hc h hk hm hsel.1;have hch:=h.child hc hk p1 p3;obtain ⟨c1,c2⟩:=Cb h.len p3;rw [p2] at hch c1 c2;have hg:=(DF hc (D:=D) d (k+1) (AT s c) _ Za hch).2 k hk (.inl Za);rw [XB (by rw [h.len];exact hk),if_pos c1] at hg;simp only;rw [G1 h.ix hk hn (K7 hc hk hm).2.2.2,E8 hc hD d (k+1) (AT s c) _ f Za Za hch,RA,UA,hg,if_pos ⟨Za,by rw [XK,p2];exact (K7 hc hk hm).2.2.1⟩,if_neg Za,XK,p2]
    rfl
   | none =>
    have hg:=(DF hc (D:=D) d (k+1) (G5 s) a Za (h.skip' hk)).2 k hk (.inl Za);simp only;have e3:DQ x.orders.length (mI x) s=VE x.orders.length (mI x) (G5 s):=rfl;rw [e3,E8 hc hD d (k+1) (G5 s) a f Za Za (h.skip' hk),RA,UA,hg,if_neg Za,if_pos ⟨hak,hoff⟩,h.ix]
    rfl
theorem IS {l:List Col} {g:List Int} {c:Col} : ∀(d k:Nat),c∈RA l g d k↔ ∃i,k<=i/\i<k+d/\0<=nth g i/\Ba (nth l (nth g i).toNat).set.toNat=(i:Int)/\c=nth l (nth g i).toNat
 | 0,k=>by simp [RA];omega
 | d+1,k=>by
  rw [RA,Xe,IS d (k+1)]
  constructor
  ·rintro (h | ⟨i,h1,h2,h3⟩)
   ·split at h
    ·grind
    ·simp at h
   grind
  grind
theorem fB {l:List Col} {g:List Int} : ∀(d k:Nat),(RA l g d k).Pairwise fun a b=>Ba a.set.toNat<Ba b.set.toNat
 | 0,k=> .nil
 | d+1,k=>by
  rw [RA,EY];refine ⟨?_,fB d (k+1),fun a ha b hb=> ?_⟩
  ·split<;>simp
  ·split at ha
   ·rename_i hh;obtain ⟨i,h1,h2,h3,h4,rfl⟩:=(IS _ _).1 hb
    grind
   ·simp at ha
theorem RL {x:Inst} {g:List Int} : ∀(d k:Nat),UA x g (d+1) k=UA x g d k++(if nth g (k+d)<0/\(nth x.orders (k+d)).off=false then [((k+d:Nat):Int)] else [])
 | 0,k=>by simp [UA]
 | d+1,k=>by
  rw [UA,RL d (k+1),UA,Vo,show k+1+d=k+(d+1) by omega]
theorem fD {x:Inst} {g:List Int} : ∀n,UA x g n 0=eX x g n
 | 0=>rfl
 | n+1=>by rw [RL,fD n,eX,Xq]
theorem ZdV : ∀S:Fin 16,0<S.val-> ∀i:Fin 4,S.val.testBit i.val=true->((S.val:Int)%(pw i.val:Nat)=0↔Ba S.val=(i.val:Int)):=by decide+kernel
theorem A2 {l:List Col} {g:List Int} {T:Nat} {c:Col} : ∀k,c∈Tb l g T k↔ ∃i,i<k/\0<=nth g i/\(nth l (nth g i).toNat).typ=T/\(nth l (nth g i).toNat).set%(pw i:Nat)=0/\c=nth l (nth g i).toNat
 | 0=>by simp [Tb]
 | k+1=>by
  rw [Tb,Xe,A2 k]
  constructor
  ·grind
  grind
theorem Md {l:List Col} {g:List Int} {n:Nat} {c:Col} : ∀T,c∈Mz l g n T↔ ∃t,t<T/\c∈Tb l g t n
 | 0=>by simp [Mz]
 | T+1=>by
  rw [Mz,Xe,Md T]
  grind
theorem yU {x:Inst} (hx:InstOk x) {k:Nat} (hk:k<x.orders.length) (ho:(nth x.orders k).off=false):(0<=(nth x.orders k).penalty↔0<=skpF x k)/\(0<=skpF x k->skpF x k=skR x k):=by
 have ha:=(hx.orders.2 k hk).arg;simp only [argOk,rng,Zw,Zq] at ha
 have e:unsF x k=if (nth x.orders k).penalty= -1 then (zSco,23) else (⟨(nth x.orders k).penalty,if (nth x.orders k).now= -1 then 0 else 1,0,0⟩,0):=by
  simp_all [unsF,if_neg]
 by_cases hp:(nth x.orders k).penalty= -1
 ·simp_all [skpF]
 ·have hm:(if (nth x.orders k).now= -1 then (0:Int) else 1)=0\/(if (nth x.orders k).now= -1 then (0:Int) else 1)=1:=Za
  have e2:skpF x k=skR x k/\0<=skR x k:=by
   rw [skpF,skR,e,if_neg hp];generalize (if (nth x.orders k).now= -1 then (0:Int) else 1)=m at hm
   have:YS ⟨(nth x.orders k).penalty,m,0,0⟩=((((nth x.orders k).penalty*16+m)*16+0)*65536+0,0):=by
    rw [YS,if_neg (by grind),if_neg (by grind)]
   grind
  omega
theorem iR {x:Inst} {l ys:List Col} (hx:InstOk x) (hn:x.orders.length<=4) (hC:Cheap l ys) (hr: ∀c∈l,rightB x c=true) (hs: ∀c∈l,c.set<9223372036854775808):Ctx x l ys :=
 have hok:=R6 hx hn hC hr hs
 ⟨hn,hok.typ.1,hC,hr,hs,hok,fun _ hk ho=>yU hx hk ho⟩
theorem Ty {l:List Col} {n:Nat} {T:Int} : ∀m,m<=n->usdI l (List.replicate n (-1)) T m=0
 | 0,_=>rfl
 | m+1,h=>by
  rw [usdI,Ty m Za,Aj,E3 Za,Vr Za];rfl
theorem SU (x:Inst) (l:List Col):Nd x l (List.replicate x.orders.length (-1)) zSt 0:=by
 have hz: ∀i,i<x.orders.length->nth (List.replicate x.orders.length (-1:Int)) i= -1:=fun i hi=>E3 hi;refine ⟨Zb,rfl,yX _,fun i hi=> ?_,fun i hi=>by grind,fun T hT=> ?_,fun i hi h=>by grind,fun i hi _ h=>by grind,fun i hi h=>by grind⟩
 ·simp_all [zSt]
 ·rw [Ty _ (ZD _)]
  have:T=0\/T=1\/T=2\/T=3\/T=4\/T=5:=Za
  rcases this with rfl | rfl | rfl | rfl | rfl | rfl<;>rfl
theorem Nd.RngA {x:Inst} {l:List Col} {a:List Int} {s:St} {k:Nat} (h:Nd x l a s k):RngA x l a:=⟨h.len,h.rng⟩
theorem Ns {x:Inst} {l ys:List Col} (hc:Ctx x l ys) {D:Nat} : ∀(d k:Nat) (s:St) (a:List Int),k+d=x.orders.length->Nd x l a s k-> ∃s',Nd x l (gr x l ys D d k s a) s' x.orders.length
 | 0,k,s,a,hd,h=>⟨s,by grind [gr]⟩
 | d+1,k,s,a,hd,h=>by
  have hk:k<x.orders.length:=Za
  rw [gr]
  split
  ·exact Ns hc d (k+1) _ _ Za (h.skip' hk)
  ·split
   ·rename_i c hf;have hsel:=J9 hf;simp only [Aa,Zw] at hsel;obtain ⟨p1,p2,p3⟩:=Kj hc h hk (Ja hf) hsel.1;have hch:=h.child hc hk p1 p3;rw [p2] at hch;exact Ns hc d (k+1) _ _ Za hch
   ·exact Ns hc d (k+1) _ _ Za (h.skip' hk)
theorem RR {x:Inst} {l ys:List Col} (hc:Ctx x l ys) {D:Nat} (hD:10<D) :
  (Lx x ys D zSt<0->(Eu x l).found=false)/\(0<=Lx x ys D zSt->Eu x l=⟨true,gr x l ys D x.orders.length 0 zSt (List.replicate x.orders.length (-1)),Lx x ys D zSt⟩):=by
 have hz:=SU x l;have hb:=Cp hc hD x.orders.length 0 zSt _ _ 0 Za hz hz KE.refl;obtain ⟨s',hg⟩:=Ns hc (D:=D) x.orders.length 0 zSt _ Za hz
 constructor
 ·intro h
  have:JN x l x.orders.length (List.replicate x.orders.length (-1)) 0= []:=by
   cases e:JN x l x.orders.length (List.replicate x.orders.length (-1)) 0 with
   | nil=>rfl
   | cons q L=>grind
  rw [Eu,this];rfl
 ·intro h;have hin:=Su hc hD x.orders.length 0 zSt _ 0 Za hz h;rw [Int.zero_add] at hin;refine IM (.inl rfl) (fun q hq=> ?_) hin;obtain ⟨_,h2,h3⟩:=hb q hq;rw [Int.zero_add] at h2 h3;exact ⟨h2,fun e=>yY hg.RngA (AR _ hz.RngA q hq) (h3 e)⟩
theorem Tc {l:List Col} {g:List Int} {T n:Nat} (hdv: ∀i,i<n->0<=nth g i->((nth l (nth g i).toNat).set%(pw i:Nat)=0↔Ba (nth l (nth g i).toNat).set.toNat=(i:Int))): ∀k,k<=n->(Tb l g T k).Pairwise fun a b=>rY a b<0
 | 0,_=> .nil
 | k+1,hk=>by
  rw [Tb,EY];refine ⟨Tc hdv k Za,by split<;>simp,fun a ha b hb=> ?_⟩
  split at hb
  ·rename_i hh
   obtain rfl:b=nth l (nth g k).toNat:=by grind
   obtain ⟨i,h1,h2,h3,h4,rfl⟩:=(A2 _).1 ha;rw [JV,h3,hh.2.1]
   right
   refine ⟨rfl,?_⟩
   show Ba _<Ba _
   grind
  ·simp at hb
theorem Td {l:List Col} {g:List Int} {n:Nat} (hdv: ∀i,i<n->0<=nth g i->((nth l (nth g i).toNat).set%(pw i:Nat)=0↔Ba (nth l (nth g i).toNat).set.toNat=(i:Int))): ∀T,(Mz l g n T).Pairwise fun a b=>rY a b<0
 | 0=> .nil
 | T+1=>by
  rw [Mz,EY];refine ⟨Td hdv T,Tc hdv n (ZD _),fun a ha b hb=> ?_⟩;obtain ⟨t,h1,h2⟩:=(Md _).1 ha;obtain ⟨i,_,_,h3,_,rfl⟩:=(A2 _).1 h2;obtain ⟨j,_,_,h5,_,rfl⟩:=(A2 _).1 hb
  simp_all [JV]
theorem dD {x:Inst} {l ys:List Col} (hc:Ctx x l ys) {g:List Int} {s:St} (hg:Nd x l g s x.orders.length) {zs:List Col} (hp:zs.Perm (RA l g x.orders.length 0)) (ha:zs.Pairwise fun a b=> ¬rY b a<0):zs=Mz l g x.orders.length x.types.length:=by
 have hn:=hc.n4;have hin: ∀i,i<x.orders.length->0<=nth g i->nth l (nth g i).toNat∈l:=fun i hi h0=>Z2 (by have:=hg.rng i hi;omega)
 have hdv: ∀i,i<x.orders.length->0<=nth g i->((nth l (nth g i).toNat).set%(pw i:Nat)=0↔Ba (nth l (nth g i).toNat).set.toNat=(i:Int)):=fun i hi h0=>by
  obtain ⟨e,s0,s1,_⟩:=hc.set (hin i hi h0);have h16:(nth l (nth g i).toNat).set.toNat<16:=UG s1 (YB (n:=2) Za hn);have:=ZdV ⟨_,h16⟩ s0 ⟨i,Za⟩ (hg.own i hi h0)
  grind
 have hne:zs.Pairwise fun a b=>lo a≠lo b:=by
  have h1:(RA l g x.orders.length 0).Pairwise fun a b=>lo a≠lo b:=(fB _ _).imp fun {a b} h e=>by
   have e':Ba a.set.toNat=Ba b.set.toNat:=e;omega
  exact (hp.pairwise_iff fun h e=>h e.symm).2 h1
 have hz:zs.Pairwise fun a b=>rY a b<0:=(hne.and ha).imp fun {a b} h=>by
  have h1:=h.1;have h2:=h.2;rw [JV] at h2 ⊢;omega
 refine GR (r:=fun a b=>rY a b<0) (fun a=>by rw [JV];omega) (fun a b=>by rw [JV,JV];omega) hz (Td hdv _) fun c=> ?_;rw [hp.mem_iff,IS,Md]
 constructor
 ·rintro ⟨i,_,h1,h2,h3,rfl⟩;have ht:=(hc.typ (hin i Za h2)).1;exact ⟨(nth l (nth g i).toNat).typ.toNat,Za,(A2 _).2 ⟨i,Za,h2,Za,(hdv i Za h2).2 h3,rfl⟩⟩
 ·rintro ⟨t,_,h⟩;obtain ⟨i,h1,h2,h3,h4,rfl⟩:=(A2 _).1 h
  grind
theorem MS {x:Inst} {ys:List Col} {D:Nat} (hD:D=20):LN x ys=Lx x ys D zSt:=by subst hD;rfl
theorem Zkh {x:Inst} {l:List Col} {a e e':Int} {b:Chc} (hx:InstOk x) (hn:x.orders.length<=4) (hs: ∀c∈l,c.set<9223372036854775808) (h:ZnY x l a e) (h':eY x l b e'):a=b.price/\e=e':=by
 rcases h with ⟨g1,rfl,rfl⟩ | ⟨g1,⟨c,gc,g2⟩,rfl,rfl⟩ | ⟨g1,g2,ys,g3,rfl,rfl⟩<;>rcases h' with ⟨k1,rfl,rfl⟩ | ⟨k1,⟨c',kc,k2⟩,rfl,rfl⟩ | ⟨k1,k2,k3⟩
 ·exact ⟨rfl,rfl⟩
 ·omega
 ·omega
 ·omega
 ·exact ⟨rfl,rfl⟩
 ·grind
 ·omega
 ·grind
 ·obtain ⟨D,hD⟩: ∃D:Nat,D=20:=⟨20,rfl⟩;rw [MS hD];obtain ⟨q1,q2⟩:=RR (iR hx hn g3 g2 hs) (D:=D) Za;rcases k3 with ⟨f,rfl,rfl⟩ | ⟨f,rfl,rfl⟩
  ·have:Lx x ys D zSt<0:=Int.not_le.1 fun h0=>by grind
   rw [if_pos this,if_pos this];exact ⟨rfl,rfl⟩
  grind
theorem iD {x:Inst} {l:List Col} {p q:Pln} {c e c' e':Int} (hx:InstOk x) (hn:x.orders.length<=4) (hs: ∀c∈l,c.set<9223372036854775808) (h:qF x l p c e) (h':MA x l q c' e'):c=c'/\e=e'/\p.routes=q.routes/\p.unserved=q.unserved/\p.routes.length<=24/\p.unserved.length<=24/\ ∀r∈p.routes,∃c∈l,r=c.route:=by
 obtain ⟨b,hb,h1,h2⟩:=h';have z:zPlC.routes.length<=24/\zPlC.unserved.length<=24/\ ∀r∈zPlC.routes,∃c∈l,r=c.route:=⟨by simp [zPlC],by simp [zPlC],fun r hr=>by simp [zPlC] at hr⟩;rcases h with ⟨g1,rfl,rfl,rfl⟩ | ⟨g1,⟨c,gc,g2⟩,rfl,rfl,rfl⟩ | ⟨g1,g2,ys,g3,g4,g5⟩<;>rcases hb with ⟨k1,rfl,rfl⟩ | ⟨k1,⟨c',kc,k2⟩,rfl,rfl⟩ | ⟨k1,k2,k3⟩
 ·grind
 ·omega
 ·omega
 ·omega
 ·grind
 ·grind
 ·omega
 ·grind
 ·obtain ⟨D,hD⟩: ∃D:Nat,D=20:=⟨20,rfl⟩;have hc:=iR hx hn g3 g2 hs;obtain ⟨q1,q2⟩:=RR hc (D:=D) Za;rw [MS hD] at g5;rcases g5 with ⟨g6,rfl,rfl,rfl⟩ | ⟨g6,rfl,rfl,zs,hp,ha,rfl⟩
  ·grind
  ·rcases k3 with ⟨f,rfl,rfl⟩ | ⟨f,rfl,rfl⟩
   ·grind
   ·obtain ⟨rfl,rfl⟩:=h2 rfl;have hz:=SU x l;have hpk:=E8 hc hD x.orders.length 0 zSt _ 20 Za Za hz;obtain ⟨s',hg⟩:=Ns hc (D:=D) x.orders.length 0 zSt _ Za hz;rw [q2 g6];simp only [mI] at hpk;rw [hpk] at hp ⊢;simp only at hp ⊢;have hzs:=dD hc hg hp ha;rw [hg.len,fD,hzs];have l1:=Mc (l:=l) (g:=gr x l ys D x.orders.length 0 zSt (List.replicate x.orders.length (-1))) (n:=x.orders.length) x.types.length;have l2:=Mq (x:=x) (g:=gr x l ys D x.orders.length 0 zSt (List.replicate x.orders.length (-1))) x.orders.length
    have l3:x.types.length*x.orders.length<=6*4:=AK hc.t6 hn;refine ⟨trivial,trivial,rfl,rfl,by grind,Za,fun r hr=> ?_⟩;obtain ⟨c,hcm,rfl⟩:=Xw.1 hr;rw [<- hzs,hp.mem_iff,IS] at hcm;obtain ⟨i,_,i1,i2,_,rfl⟩:=hcm;exact ⟨_,Z2 (by have:=hg.rng i Za;omega),rfl⟩
theorem FO {α:Type} [DecidableEq α] {p q:α->Bool} {a:α} : ∀ {l:List α},l.Nodup->a∈l->p a=false->q a=true->(∀b∈l,b≠a->p b=q b)->(l.filter q).length=(l.filter p).length+1
 | [],_,h,_,_,_=>by simp at h
 | b::l,hn,h,hp,hq,he=>by
  rw [List.nodup_cons] at hn
  by_cases e:b=a
  ·grind [AG]
  ·have ih:=FO hn.2 (by
    grind) hp hq fun c hc=>he c (Yq _ hc)
   grind
theorem GX {ok:List Vis->Bool} {col:List Vis->Col} {better:Col->Col->Bool} (hb: ∀a b,(better a b=true->a.price<=b.price)/\(better a b=false->b.price<=a.price)): ∀(L:List (List Vis)) (b:Col×Bool),(b.2=true->(L.foldl (XH ok col better) b).2=true/\(L.foldl (XH ok col better) b).1.price<=b.1.price) /\
  ∀m∈L,ok m=true->(L.foldl (XH ok col better) b).2=true/\(L.foldl (XH ok col better) b).1.price<=(col m).price
 | [],b=>⟨fun h=>⟨h,YW _⟩,fun m hm=>by simp at hm⟩
 | l::L,b=>by
  rw [XT];obtain ⟨g1,g2⟩:=GX hb L (XH ok col better b l)
  have hu:(b.2=true->(XH ok col better b l).2=true/\(XH ok col better b l).1.price<=b.1.price)/\(ok l=true->(XH ok col better b l).2=true/\(XH ok col better b l).1.price<=(col l).price):=by
   unfold XH
   split
   ·rename_i hc;refine ⟨fun h=>⟨rfl,?_⟩,fun _=>⟨rfl,YW _⟩⟩;rcases hc.2 with h2 | h2
    ·rw [h2] at h;cases h
    ·exact (hb _ _).1 h2
   ·rename_i hc;refine ⟨fun h=>⟨h,YW _⟩,fun h=> ?_⟩
    have h2:b.2=true:=by
     cases h3:b.2 with
     | true=>rfl
     | false=>exact absurd ⟨h,.inl h3⟩ hc
    have h4:better (col l) b.1=false:=by
     cases h3:better (col l) b.1 with
     | false=>rfl
     | true=>exact absurd ⟨h,.inr h3⟩ hc
    exact ⟨h2,(hb _ _).2 h4⟩
  refine ⟨fun h=> ?_,fun m hm hk=> ?_⟩
  ·obtain ⟨h1,h2⟩:=hu.1 h;obtain ⟨h3,h4⟩:=g1 h1;exact ⟨h3,AP h4 h2⟩
  grind
theorem kC {x:Inst} {S:Nat} {m:List Vis} (h:Gr x S m): ∀(f k:Nat),m.length=k+f->m∈Bn (fun l=>nextU x S l x.orders.length) f (m.take k)
 | 0,k,hl=>by
  grind [Bn]
 | f+1,k,hl=>by
  have hk:k<m.length:=Za
  have ha:=h.at k hk;rw [Bn,if_neg (fun e=>by grind),X1];refine ⟨nth m k,ha,?_⟩
  have e:m.take k++ [nth m k]=m.take (k+1):=by rw [Ya hk,Zi hk]
  rw [e];exact kC h f (k+1) Za
theorem NZ {x:Inst} {l:List Vis} (h:RightV x l):Xx l≠0:=fun e=>by
 obtain ⟨v,hv⟩: ∃v,v∈l:=by
  cases l with
  | nil=>exact absurd rfl h.ne
  | cons v l=>simp
 have hi:=h.inr v hv;have hb:=(h.bit v.order.toNat).2 ⟨v,hv,Za⟩
 grind
theorem rT (a b:Col):(Wv a b=true->a.price<=b.price)/\(Wv a b=false->b.price<=a.price):=by
 unfold Wv
 grind
theorem T5 {x:Inst} (hx:InstOk x) {k:Int} {m:List Vis} (ht:0<=(nth x.types k.toNat).opn) (hok:Gg x k m=true) (z:Col×Bool) :
  WB x.orders x.apart x.before ((Xx m:Nat):Int)=0/\(Ew x k (Xx m) z).2=true/\(Ew x k (Xx m) z).1.price<=(YR x (JO k m)).1:=by
 have hf:=XO hx
 have hn:x.orders.length<=60:=by have:=hf.len;omega
 have hr:RightV x m:=WO (Qu hok);have ha:=hr.alw hf;have hS:=(hr.lt hf).2;refine ⟨(QG hn hS hf.val).2 ha,?_⟩;rw [Ps hx (NZ hr) hS ha ht z,B9];have hg:=hr.gr hf m.length (ZD _);rw [X7] at hg;have hin:m∈Bn (CT x (Xx m)) (W5 x (Xx m)) []:=kC hg (W5 x (Xx m)) 0 (by rw [hr.len hf,W5];omega)
 have hR:Dq x k (Xx m) m=true:=by
  unfold Dq;rw [hok,Qu hok,hr.ord hf];simp
 exact (GX rT _ z).2 m hin hR
set_option maxRecDepth 60000
set_option maxHeartbeats 8000000
theorem Mt {g:FuncId} {args:List V} {R:Pln->Int->Int->Prop} {H:List AM.Obj} {K:V->List AM.Obj->Prop} (h:ACalls Tryz.prog g args [] fun y H'=> ∃p c e,R p c e/\y= .tup [.p (JY p),.p (.int .i64 c),.p (.int .i64 e)]/\H'= []) (k: ∀p c e,R p c e->K (.tup [.p (JY p),.p (.int .i64 c),.p (.int .i64 e)]) H) (ha:Xs 0 args=true:=by rfl):ACalls Tryz.prog g args H K :=
 (h.behind ha H).mono fun x H' hq=>by
  obtain ⟨y,H1,⟨p,c,e,hr,rfl,rfl⟩,rfl,rfl⟩:=hq
  grind [shV,shVs]
theorem D8 {ok:List Vis->Bool} {col:List Vis->Col} {better:Col->Col->Bool} : ∀(L:List (List Vis)) (b:Col×Bool),(L.foldl (XH ok col better) b).2=true->(b.2=true/\(L.foldl (XH ok col better) b).1=b.1)\/ ∃m∈L,ok m=true/\(L.foldl (XH ok col better) b).1=col m
 | [],b,h=> .inl ⟨h,rfl⟩
 | l::L,b,h=>by
  rw [XT] at h ⊢;rcases D8 L _ h with ⟨h1,h2⟩ | ⟨m,h1,h2,h3⟩
  ·rw [h2];unfold XH at h1 ⊢
   grind
  grind
theorem Dy {x:Inst} {k:Int} {S:Nat} (h:(V0 x k S).2=0): ∃m,m∈SJ x k S (W5 x S) [] (st0 (nth x.types k.toNat))/\Gg x k m=true/\(V0 x k S).1=Y3 x k S m:=by
 unfold V0 at h ⊢
 split at h
 ·rename_i hc;rw [if_pos hc];rcases D8 _ _ hc.2 with ⟨h1,_⟩ | ⟨m,h1,h2,h3⟩
  ·cases h1
  ·exact ⟨m,h1,h2,h3⟩
 ·cases h
theorem Ob {one:Nat->List Col} {c:Col} : ∀q,c∈BP one q↔ ∃S,1<=S/\S<=q/\c∈one S
 | 0=>by simp [BP];omega
 | q+1=>by
  rw [BP,Xe,Ob q]
  grind
theorem MH {one:Nat->Nat->List Col} {N:Nat} {c:Col} : ∀K,c∈Ul one N K↔ ∃k S,k<K/\1<=S/\S<=N/\c∈one k S
 | 0=>by simp [Ul]
 | K+1=>by
  rw [Ul,Xe,MH K,Ob]
  grind
noncomputable def X3 (x:Inst):List Col:=Ul (VR x) (2^x.orders.length-1) x.types.length
theorem B3 {x:Inst} {c:Col} :c∈X3 x↔ ∃k S,k<x.types.length/\0<S/\S<2^x.orders.length/\(V0 x (k:Int) S).2=0/\c=(V0 x (k:Int) S).1:=by
 have hp1:1<=2^x.orders.length:=Nat.one_le_two_pow;rw [X3,MH]
 constructor
 ·grind [VR]
 ·rintro ⟨k,S,h1,h2,h3,h4,h5⟩;exact ⟨k,S,h1,Za,Za,by simp_all [VR]⟩
theorem fT {x:Inst} {c:Col} (h:c∈X3 x): ∃(k S:Nat) (m:List Vis),k<x.types.length/\0<S/\S<2^x.orders.length/\m.length=W5 x S/\Gg x k m=true/\c=Y3 x k S m:=by
 obtain ⟨k,S,h1,h2,h3,h4,rfl⟩:=B3.1 h;obtain ⟨m,m1,m2,m3⟩:=Dy h4;exact ⟨k,S,m,h1,h2,h3,by have:=LO _ _ _ m m1;grind,m2,m3⟩
theorem EG {x:Inst} (hn:x.orders.length<=4) (h6:x.types.length<=6):(X3 x).length<=96/\ ∀c∈X3 x,c.set<9223372036854775808/\Zd1 c.route:=by
 have hp2:2^x.orders.length<=2^4:=YB Za hn;refine ⟨?_,fun c hc=> ?_⟩
 ·have h1:=B2 (N:=2^x.orders.length-1) (K4 (x:=x)) x.types.length;have h2:x.types.length*(2^x.orders.length-1)<=6*16:=AK Za Za;unfold X3;omega
 ·obtain ⟨k,S,m,_,_,h3,h4,_,rfl⟩:=fT hc;have:=Dm x S x.orders.length;unfold W5 at h4;exact ⟨by grind [Y3],by grind [Y3,JO],by simp [Y3,JO]⟩
theorem vX (x:Inst) (hx:InstOk x) (hn:x.orders.length<=4) (h6:x.types.length<=6) (hbl:x.before.length<=1048576) (hal:x.apart.length<=1048576) :
  ACalls Tryz.prog 43 [.p (Zu x)] [] fun y H'=> ∃p c e,qF x (X3 x) p c e/\y= .tup [.p (JY p),.p (.int .i64 c),.p (.int .i64 e)]/\H'= []:=by
 obtain ⟨hl,hc⟩:=EG hn h6;have ca:=N2 x hx hn h6 hbl hal;have cc:=cI x (X3 x) false hx hn Za (fun c h=>(hc c h).1) Za;rw [show Ul (VR x) (2^x.orders.length-1) x.types.length=X3 x from rfl] at ca;generalize X3 x=L at ca cc ⊢;refine Zg [] Tryz.func43 rfl Zjs ?_;simp (disch:=omega) only [Tryz.f43,go_sem,seval];refine Vh ca (Zd ?_);refine Mt cc fun p c e hR=>Zd ?_;exact ⟨.tup [.p (JY p),.p (.int .i64 c),.p (.int .i64 e)],[],wk,p,c,e,hR,rfl,rfl⟩
theorem dR (x:Inst) (hx:InstOk x) (hn:x.orders.length<=4) (h6:x.types.length<=6) (hbl:x.before.length<=1048576)
  (hsk: ∀k,k<x.orders.length->(nth x.orders k).off=false->0<=(nth x.orders k).penalty->0<=skR x k/\skR x k<=18014398509481984) (hus: ∀i,scoR 1152921504606846976 (unsF x i).1) :
  ACalls Tryz.prog 24 [.p (Zu x)] [] fun y H'=> ∃p c e,MA x (X3 x) p c e/\y= .tup [.p (JY p),.p (.int .i64 c),.p (.int .i64 e)]/\H'= []:=by
 obtain ⟨hl,hc⟩:=EG hn h6;have ca:=qL x hx hn h6 hbl;have cc:=M3 x (X3 x) false hn h6 Za (fun c h=>(hc c h).1) hsk hus;rw [show Ul (VR x) (2^x.orders.length-1) x.types.length=X3 x from rfl] at ca;generalize X3 x=L at ca cc ⊢;refine Zg [] Tryz.func24 rfl Zjb ?_;simp (disch:=omega) only [Tryz.f24,go_sem,seval];refine Vh ca (Zd ?_);refine Mt cc fun p c e hR=>Zd ?_;exact ⟨.tup [.p (JY p),.p (.int .i64 c),.p (.int .i64 e)],[],wk,p,c,e,hR,rfl,rfl⟩
theorem S7 {x:Inst} {r:Rte} (h0:r.start=0) (hz:r.rests= []):YR x r=YR x (JO r.typ r.visits):=by
 cases r
 simp only at h0 hz;subst h0;subst hz;rfl
theorem iO {x:Inst} (hx:InstOk x) {r:Rte} (he:(YR x r).2=0) (hty:0<=r.typ/\r.typ<(x.types.length:Int)) (h0:r.start=0) (hz:r.rests= []) :
  ∃j,j<(X3 x).length/\(nth (X3 x) j).typ=r.typ/\(nth (X3 x) j).set=((Xx r.visits:Nat):Int)/\(nth (X3 x) j).price<=(YR x r).1:=by
 obtain ⟨k,hk⟩: ∃k:Nat,r.typ=(k:Int):=⟨r.typ.toNat,Za⟩
 have hkl:k<x.types.length:=Za
 have hok:Gg x (k:Int) r.visits=true:=by
  grind [Gg,S7]
 have hr:RightV x r.visits:=WO (r:=JO (k:Int) r.visits) (Qu hok)
 have hopn:0<=(nth x.types (k:Int).toNat).opn:=by
  simp_all [WY]
 obtain ⟨g1,g2,g3⟩:=T5 hx (k:=(k:Int)) (m:=r.visits) hopn hok (WK,false)
 have hv:V0 x (k:Int) (Xx r.visits)=((Ew x (k:Int) (Xx r.visits) (WK,false)).1,0):=by
  simp_all [V0]
 have hS:Xx r.visits<2^x.orders.length:=by
  rcases Nat.div_eq_zero_iff.1 (hr.lt (XO hx)).2 with h | h
  ·grind [pw]
  ·exact h
 have hmem:(V0 x (k:Int) (Xx r.visits)).1∈X3 x:=B3.2 ⟨k,Xx r.visits,hkl,Nat.pos_of_ne_zero (NZ hr),hS,by rw [hv],rfl⟩;obtain ⟨m,_,_,m3⟩:=Dy (x:=x) (k:=(k:Int)) (S:=Xx r.visits) (by rw [hv]);obtain ⟨j,hj,e⟩:=List.getElem_of_mem hmem;refine ⟨j,hj,?_⟩;rw [Zi hj,e];refine ⟨by rw [m3,hk];rfl,by rw [m3];rfl,?_⟩
 grind [S7]
theorem uC {x:Inst} {t:Typ} {sp:List Stp} {k:Nat} {L:Lab} {b:Bool} (hT:TrpOk x t sp) (hk:k<sp.length) (he:(nxtF x t sp k L b).2=0):L.ready<=(nxtF x t sp k L b).1.ready:=by
 have hrs:=hT.rst
 have hd:L.ready<=ZO t L b:=by grind [ZO]
 have hgo:(Wb x t sp k (ZO t L b)).2.2=0->ZO t L b<=(Wb x t sp k (ZO t L b)).1:=fun e=>kB hT.net e;have hst:=hT.stp _ (Z2 hk);unfold nxtF at he ⊢
 generalize Wb x t sp k (ZO t L b)=g at *
 generalize ZO t L b=d at *
 generalize W4 L b=s at *
 generalize X5 k d b L.she=m at *
 have hk2: ¬k=sp.length:=Za
 unfold WL at he ⊢
 grind
theorem uB {x:Inst} {t:Typ} {sp:List Stp} {L:Lab} {b:Bool} (hT:TrpOk x t sp) (he:(nxtF x t sp sp.length L b).2=0):L.ready<=(nxtF x t sp sp.length L b).1.she.fin/\(nxtF x t sp sp.length L b).1.she.fin<=t.cls:=by
 have hrs:=hT.rst
 have hd:L.ready<=ZO t L b:=by grind [ZO]
 have hgo:(Wb x t sp sp.length (ZO t L b)).2.2=0->ZO t L b<=(Wb x t sp sp.length (ZO t L b)).1:=fun e=>kB hT.net e;unfold nxtF at he ⊢
 generalize Wb x t sp sp.length (ZO t L b)=g at *
 generalize ZO t L b=d at *
 generalize W4 L b=s at *
 generalize X5 sp.length d b L.she=m at *
 unfold WL at he ⊢
 grind
theorem Te {x:Inst} {t:Typ} {sp:List Stp} (hT:TrpOk x t sp): ∀(bs:List Bool) (k:Nat) (L:Lab),k+bs.length=sp.length+1->0<bs.length->(Xb x t sp k L bs).2=0->L.ready<=(Xb x t sp k L bs).1.she.fin/\(Xb x t sp k L bs).1.she.fin<=t.cls
 | [],k,L,_,h3,_=>by simp at h3
 | b::bs,k,L,h2,_,h=>by
  rw [Xb] at h ⊢
  by_cases h4:(nxtF x t sp k L b).2=0
  ·simp only [h4,if_true] at h ⊢
   cases bs with
   | nil =>
    simp_all [Xb,uB]
   | cons b2 bs =>
    simp at h2;have h5:=Te hT (b2::bs) (k+1) _ (by simp;omega) Zb h;have h6:=uC hT (show k<sp.length by omega) h4;omega
  grind
theorem Lt {x:Inst} {r:Rte} (hx:InstOk x) (h:Xo x r=0):(Zx x r).opn<=(Yc x r).fin/\(Yc x r).fin<=(Zx x r).cls:=by
 obtain ⟨hty,h0,hs⟩:=Qd (Uo h)
 have e:Yc x r=(Xn x r).1:=by rw [Yc,if_pos h]
 have ee:(Xn x r).2=0:=by rw [Xo,if_pos (Uo h)] at h;exact h
 have hT:=Ah hx hty (VW h0);obtain ⟨bs,hb1,hb2,hb3⟩:=HB (by grind [Ym]) ee;have hb3:(Xn x r).1=_:=hb3;rw [e,hb3];have h1:=Te hT bs 0 _ Za Za hb2
 grind [labF]
def Ex (l:List Vis) (N:Nat):Nat:=(List.range N).countP fun i:Nat=>hasO l (i:Int)
theorem aD {l m:List Vis} {N:Nat} (h: ∀v∈l,v∈m):Ex l N<=Ex m N:=List.countP_mono_left fun i _ hi=>by
 grind [Ve]
theorem R7 {x:Inst} {l:List Vis} {t:Int} (hi:Inr x l): ∀n,n<=l.length->(0<=(chgF x l t n).1/\(chgF x l t n).1<=(Ex (l.take n) x.orders.length:Int))/\(0<=(chgF x l t n).2/\(chgF x l t n).2<=(Ex (l.take n) x.orders.length:Int))
 | 0,_=>by simp [chgF]
 | n+1,h=>by
  have ih:=R7 (t:=t) hi n Za
  have hn:n<l.length:=Za
  have hv:=hi _ (Z2 hn)
  have htk:l.take (n+1)=l.take n++ [nth l n]:=by rw [Ya hn,Zi hn]
  have hmono:Ex (l.take n) x.orders.length<=Ex (l.take (n+1)) x.orders.length:=aD fun v hv=>by grind
  have hap: ∀i:Int,hasO (l.take (n+1)) i=(hasO (l.take n) i||decide ((nth l n).order=i)):=fun i=>by grind [hasO]
  rw [chgF]
  split
  ·rename_i hf
   have hadd:Ex (l.take (n+1)) x.orders.length=Ex (l.take n) x.orders.length+1:=by
    unfold Ex;rw [List.countP_eq_length_filter,List.countP_eq_length_filter]
    have ei:(((nth l n).order.toNat:Nat):Int)=(nth l n).order:=Za
    refine FO (a:=(nth l n).order.toNat) List.nodup_range (ZM.2 Za) ?_ ?_ fun b _ hb=> ?_
    ·rw [ei];simp only [UE,XS] at hf;exact hf
    ·grind
    grind
   omega
  ·omega
theorem FK {x:Inst} {r:Rte} (hx:InstOk x) (h:Xo x r=0):nI (Wf x r)/\(Wf x r).cost<=22000000/\(Wf x r).moved<=(Ex r.visits x.orders.length:Int)/\(Wf x r).other<=(Ex r.visits x.orders.length:Int)/\(Wf x r).work<=4096:=by
 have hg:=Nc hx h;have hf:=Lt hx h;obtain ⟨hty,_,_⟩:=Qd (Uo h);have hnum:=WY hx (show r.typ.toNat<x.types.length by omega);have htyp:nth x.types r.typ.toNat=Zx x r:=rfl;rw [htyp] at hnum
 have e:(Xn x r).1=Yc x r:=by rw [Yc,if_pos h]
 have hch:=R7 (t:=r.typ) (WO h).inr r.visits.length (ZD _);rw [X7] at hch;rw [Wf,if_pos h,e];unfold Db nI
 generalize Yc x r=s at *
 generalize Zx x r=t at *
 have p1:0<=t.perMile*s.miles/\t.perMile*s.miles<=100*210000:=⟨UL Za Za,VO Za Za Za Za⟩
 have hW:0<=s.fin-t.opn/\s.fin-t.opn<=4096:=Za
 have p2:0<=t.perTick*(s.fin-t.opn)/\t.perTick*(s.fin-t.opn)<=100*4096:=⟨UL Za Za,VO Za Za Za Za⟩
 have p3:0<=(s.fin-t.opn).tdiv 64/\(s.fin-t.opn).tdiv 64<=64:=by
  grind
 have p4:0<=(s.fin-t.opn).tdiv 64*(s.fin-t.opn).tdiv 64/\(s.fin-t.opn).tdiv 64*(s.fin-t.opn).tdiv 64<=64*64:=⟨UL p3.1 p3.1,VO p3.2 p3.2 p3.1 Za⟩
 grind
theorem cZ {x:Inst} (hx:InstOk x) (hn:x.orders.length<=4): ∀c∈X3 x,rightB x c=true:=fun c hc=>by
 obtain ⟨k,S,h1,h2,h3,h4,h5⟩:=B3.1 hc;obtain ⟨m,m1,m2,m3⟩:=Dy h4;have hp4:2^x.orders.length<=2^4:=YB Za hn
 have hal:WB x.orders x.apart x.before ((S:Nat):Int)=0:=by
  grind [V0]
 have hf:=XO hx;have ha:Alw x S:=(QG Za (by rw [Nat.div_eq_zero_iff];exact .inr h3) hf.val).1 hal
 have hw:RG S (YC x x.orders.length)=true:=by
  rw [OQ hn Za,Zw,Zq,Zz];refine ⟨h3,fun i hi=> ?_⟩
  cases hb:S.testBit i with
  | false=>rfl
  | true=>rw [ha.off i (ZM.1 hi) hb];rfl
 have he:=Qu m2;have hfn:=FK hx he
 have hcn:Ex (JO (k:Int) m).visits x.orders.length<=x.orders.length:=by
  have:=List.countP_le_length (p:=fun i:Nat=>hasO (JO (k:Int) m).visits (i:Int)) (l:=List.range x.orders.length);rw [List.length_range] at this;exact this
 have hpr:(YR x (JO k m)).1=(((Wf x (JO k m)).cost*16+(Wf x (JO k m)).moved)*16+(Wf x (JO k m)).other)*65536+(Wf x (JO k m)).work:=by
  rw [YR,if_pos he]
  grind [pM,OP]
 have hp:=N6 x (JO k m)
 have h6:(Y3 x k S m).price<=18014398509481984:=by
  show (YR x (JO k m)).1<=_
  omega
 rw [h5,m3];simp only [rightB,Zw,Zq];refine ⟨?_,?_,?_,?_,?_,h6⟩
 ·show (0:Int)<=(k:Int);omega
 ·show (k:Int)<_;omega
 ·show (0:Int)<(S:Int);omega
 ·show RG ((S:Nat):Int).toNat _=true
  grind
 ·exact hp.1
theorem cJ {x:Inst} {r:Rte} (h:(YR x r).2=0):Xo x r=0:=by
 grind [YR]
theorem tG {n:Net} {pr f t τ σ:Int} :(W8 n pr f t τ).2=(W8 n pr f t σ).2:=by
 unfold W8
 split
 ·rfl
 ·split
  ·rfl
  ·split<;>rfl
theorem SZ {x:Inst} {t:Typ} {sp:List Stp} {k:Nat} {L:Lab} {b:Bool} (h:(nxtF x t sp k L b).2=0):(nxtF x t sp k L b).1.she.miles=L.she.miles+(Wb x t sp k 0).2.1:=by
 have e:(Wb x t sp k (ZO t L b)).2=(Wb x t sp k 0).2:=tG
 have hm:(X5 k (ZO t L b) b L.she).miles=L.she.miles:=by unfold X5;split<;>rfl
 rw [<- e];unfold nxtF at h ⊢
 generalize Wb x t sp k (ZO t L b)=g at *
 generalize X5 k (ZO t L b) b L.she=m at *
 unfold WL at h ⊢
 split at h
 ·cases h
 ·rename_i c1;rw [if_neg c1]
  split at h
  ·rename_i c2;rw [if_pos c2]
   split at h
   ·cases h
   ·split at h
    ·cases h
    ·rename_i c3 c4;rw [if_neg c3,if_neg c4,<- hm]
  ·rename_i c2;rw [if_neg c2]
   split at h
   ·cases h
   ·split at h
    ·cases h
    ·rename_i c3 c4;rw [if_neg c3,if_neg c4,<- hm]
theorem Tf {x:Inst} {t:Typ} {sp:List Stp} : ∀(bs cs:List Bool) (k:Nat) (L M:Lab),bs.length=cs.length->L.she.miles=M.she.miles->(Xb x t sp k L bs).2=0->(Xb x t sp k M cs).2=0->(Xb x t sp k L bs).1.she.miles=(Xb x t sp k M cs).1.she.miles
 | [],[],k,L,M,_,h,_,_=>by rw [Xb,Xb];exact h
 | [],_::_,_,_,_,h,_,_,_=>by simp at h
 | _::_,[],_,_,_,h,_,_,_=>by simp at h
 | b::bs,c::cs,k,L,M,hl,h,h1,h2=>by
  rw [Xb] at h1 h2 ⊢;rw [Xb]
  by_cases g1:(nxtF x t sp k L b).2=0
  ·by_cases g2:(nxtF x t sp k M c).2=0
   ·simp only [g1,g2,if_true] at h1 h2 ⊢;exact Tf bs cs (k+1) _ _ (by simpa using hl) (by rw [SZ g1,SZ g2,h]) h1 h2
   ·simp only [if_neg g2] at h2;exact absurd h2 g2
  ·simp only [if_neg g1] at h1;exact absurd h1 g1
theorem FU : ∀(n:Nat) (l:List Bool),l.length=n->l∈Y4 (List.replicate n false)
 | 0,l,h=>by
  rw [List.length_eq_zero_iff] at h;subst h;simp [Y4]
 | n+1,[],h=>by simp at h
 | n+1,b::l,h=>by
  have ih:=FU n l (by simpa using h);rw [KU,Y4];simp only [Y6,Ye,Xe,Xw,AC]
  cases b with
  | false=>exact .inl ⟨l,ih,rfl⟩
  | true=>exact .inr ⟨l,ih,rfl⟩
theorem DZ {r q:List Bool} {n:Nat} (hr:r.length<=n):q∈XD r n↔q.length=n/\ ∃s,q=r++s:=by
 rw [XD,Xw]
 constructor
 ·rintro ⟨s,hs,rfl⟩;have:=bestF_len.fromB_len _ _ hs;simp only [AC] at this;exact ⟨by rw [ZA];omega,s,rfl⟩
 ·rintro ⟨h,s,rfl⟩;rw [ZA] at h;exact ⟨s,FU _ s Za,rfl⟩
theorem Sp {L:Type} {fin:L->Int} : ∀l:List L,W9 fin none l=none->l= []
 | [],_=>rfl
 | a::l,h=>by
  rw [W9] at h;obtain ⟨z,e,_⟩:=VJ fin l a;rw [e] at h;cases h
theorem jT {L:Type} {fin:L->Int} {l:List L} {m:L} (h:W9 fin none l=some m): ∀y∈l,fin m<=fin y:=by
 cases l with
 | nil=>simp [W9] at h
 | cons a l =>
  rw [W9] at h;obtain ⟨z,e,e1,e2⟩:=VJ fin l a;rw [e] at h;obtain rfl:=WT h;intro y hy;rcases Xa.1 hy with rfl | hy
  ·exact e1
  ·exact e2 y hy
theorem Pn {x t sp} {st:Int} {r bs:List Bool} (hr:r.length<=sp.length+1) (hb:bs∈XD r (sp.length+1)) (h:(Xb x t sp 0 (labF t st) bs).2=0) :
  (Yi x t sp st r).2=0/\(Yi x t sp st r).1.fin<=(Xb x t sp 0 (labF t st) bs).1.she.fin/\(Yi x t sp st r).1.miles=(Xb x t sp 0 (labF t st) bs).1.she.miles:=by
 have hrun:We (Xr x t sp) 0 (labF t st) bs=some (Xb x t sp 0 (labF t st) bs).1:=by rw [YF,if_pos h]
 have hmem:(Xb x t sp 0 (labF t st) bs).1∈(XD r (sp.length+1)).filterMap (We (Xr x t sp) 0 (labF t st)):=Qm.2 ⟨_,hb,hrun⟩;unfold Yi
 cases hf:W9 Wo none ((XD r (sp.length+1)).filterMap (We (Xr x t sp) 0 (labF t st))) with
 | none =>
  rw [Sp _ hf] at hmem;simp at hmem
 | some L =>
  simp only;refine ⟨trivial,jT hf _ hmem,?_⟩;have hm:=bestF_len.fmL_mem _ _ hf;obtain ⟨cs,hcs,hrun2⟩:=Qm.1 hm;rw [YF] at hrun2
  split at hrun2
  ·rename_i h5;obtain rfl:=WT hrun2;have l1:=((DZ hr).1 hb).1;have l2:=((DZ hr).1 hcs).1;exact Tf cs bs 0 _ _ Za rfl h5 h
  ·cases hrun2
theorem gQ {x t sp} {st:Int} {r:List Bool} (hr:r.length<=sp.length+1) (h:(Yi x t sp st r).2=0): ∃bs:List Bool,bs∈XD r (sp.length+1)/\(Xb x t sp 0 (labF t st) bs).2=0/\(Yi x t sp st r).1=(Xb x t sp 0 (labF t st) bs).1.she:=by
 unfold Yi at h ⊢
 cases hf:W9 Wo none ((XD r (sp.length+1)).filterMap (We (Xr x t sp) 0 (labF t st))) with
 | none =>
  exfalso;rw [hf] at h;simp only at h
  have hm:YY r (sp.length+1)∈XD r (sp.length+1):=by
   unfold XD YY;rw [fromB_next];simp
  have h2:We (Xr x t sp) 0 (labF t st) (YY r (sp.length+1))=some (Xb x t sp 0 (labF t st) (YY r (sp.length+1))).1:=by rw [YF,if_pos h]
  have h3:=Qm.2 ⟨_,hm,h2⟩;rw [Sp _ hf] at h3;simp at h3
 | some L =>
  simp only;have hm:=bestF_len.fmL_mem _ _ hf;obtain ⟨bs,hbs,hrun⟩:=Qm.1 hm;rw [YF] at hrun
  split at hrun
  ·rename_i h5;obtain rfl:=WT hrun;exact ⟨bs,hbs,h5,rfl⟩
  ·cases hrun
theorem pN {a b:Sco} (h:(YS a).2=0) (hb:0<=b.cost/\0<=b.moved/\0<=b.other/\0<=b.work) (h1:b.cost<=a.cost) (h2:b.moved=a.moved) (h3:b.other=a.other) (h4:b.work<=a.work):(YS b).2=0/\(YS b).1<=(YS a).1:=by
 unfold YS at h ⊢
 split at h
 ·cases h
 ·split at h
  ·cases h
  ·rename_i c1 c2
   have d1: ¬(b.cost<0\/b.moved<0\/b.other<0\/b.work<0):=Za
   have d2: ¬(1073741824<b.cost\/16<=b.moved\/16<=b.other\/65536<=b.work):=Za
   rw [if_neg c1,if_neg c2,if_neg d1,if_neg d2];refine ⟨rfl,?_⟩;simp only;omega
theorem IG {x:Inst} {l:List Itm} {r:Rte} (h:0<=r.typ/\r.typ<(x.types.length:Int)):Zx (Zn x l) r=YH (Zx x r) r.typ l:=by
 unfold Zx;rw [show (Zn x l).types=Z8 x.types l from rfl,Yv Za]
 congr 1;omega
theorem pQ {x:Inst} {l:List Itm} {r:Rte} (hx:InstOk x) (h:XI x r=0):WkT (Zx x r) (Zx (Zn x l) r) (ZI x r.visits) (ZI (Zn x l) r.visits):=by
 obtain ⟨c1,c2,_⟩:=Qd h;have hsq:=VW c2
 have htl:r.typ.toNat<x.types.length:=Za
 have hty:=hx.types.2 _ htl;unfold Ux at hty;obtain ⟨⟨⟨⟨⟨⟨⟨⟨_,_⟩,_⟩,_⟩,hcap⟩,_⟩,hcl⟩,Hk⟩,_⟩:=hty
 have hsp: ∀w∈r.visits,∃c,(Xm x w).cls<=c/\Xm (Zn x l) w= { Xm x w with cls:=c } :=fun w hw=>by
  obtain ⟨w1,w2⟩:=hsq.inr w hw
  have hi:w.order.toNat<x.orders.length:=Za
  have hord:=hx.orders.2 _ hi;have hpk:=hord.pstp;have hdk:=hord.dstp;simp only [stpOk,Zq] at hpk hdk;unfold Xm;rw [show (Zn x l).orders=Z5 x.orders l from rfl,ZU hi]
  split
  ·simp only [YL];refine ⟨_,?_,rfl⟩
   split
   ·omega
   ·exact YW _
  ·simp only [YL];refine ⟨_,?_,rfl⟩
   split
   ·omega
   ·exact YW _
 rw [IG c1];refine ⟨by simp [ZI],?_,?_,rfl,rfl,rfl,rfl,rfl,fun k hk=> ?_⟩
 ·simp only [YH];split
  ·exact hcl.2
  ·exact YW _
 ·simp only [YH];split
  ·have:=Hk.1;simp [rng] at this;exact this.2
  ·exact YW _
 ·simp [ZI] at hk
  have e: ∀y:Inst,nth (ZI y r.visits) k=Xm y (nth r.visits k):=fun y=>by
   rw [Zi (by simpa [ZI] using hk)];simp [ZI,Zi hk]
  rw [e,e];exact hsp _ (Zt hk)
theorem T1 {x y:Inst} {t t' sp sp'} {st:Int} {r:List Bool} (hn:y.net=x.net) (h:WkT t t' sp sp') (hr:r.length<=sp.length+1) (h0:(Yi x t sp st r).2=0) :
  (Yi y t' sp' st r).1.fin<=(Yi x t sp st r).1.fin/\(Yi y t' sp' st r).1.miles=(Yi x t sp st r).1.miles:=by
 obtain ⟨bs,b1,b2,b3⟩:=gQ hr h0;have hl:=((DZ hr).1 b1).1
 have hrun:We (Xr x t sp) 0 (labF t st) bs=some (Xb x t sp 0 (labF t st) bs).1:=by rw [YF,if_pos b2]
 have el:labF t' st=labF t st:=by simp [labF,h.opn]
 have hy:=D0 hn h bs 0 _ _ Za hrun;rw [YF,<- el] at hy
 split at hy
 ·rename_i h5;have e:=WT hy;rw [el] at e
  have hb:bs∈XD r (sp'.length+1):=by rw [h.len];exact b1
  obtain ⟨_,g2,g3⟩:=Pn (x:=y) (t:=t') (sp:=sp') (st:=st) (r:=r) (by rw [h.len];exact hr) hb h5;rw [b3,<- e,<- el];exact ⟨g2,g3⟩
 ·cases hy
theorem M0 {x:Inst} {l:List Itm} {v:List Vis} {t:Int} (hi:Inr x v): ∀n,n<=v.length->chgF (Zn x l) v t n=chgF x v t n
 | 0,_=>rfl
 | n+1,hn=>by
  have ih:=M0 (l:=l) (t:=t) hi n Za;have hv:=hi _ (Z2 (show n<v.length by omega));have e:nth (Zn x l).orders (nth v n).order.toNat=YL (nth x.orders (nth v n).order.toNat) ((nth v n).order.toNat:Nat) l:=ZU Za;rw [chgF,chgF,ih,e]
  rfl
theorem Rc {x:Inst} {l:List Itm} {r:Rte} (hx:InstOk x) (hy:InstOk (Zn x l)) (hI: ∀v∈l,XW x v=true) (h:(YR x r).2=0) :
  (YR (Zn x l) r).2=0/\(YR (Zn x l) r).1<=(YR x r).1:=by
 have he:=cJ h;have e1:=aK hx hI he;have hru:=Uo he;obtain ⟨c1,_,c3⟩:=Qd hru;have hw:=pQ (l:=l) hx hru
 have hb:(Xn x r).2=0:=by rw [Xo,if_pos hru] at he;exact he
 have hlen:r.rests.length<=(ZI x r.visits).length+1:=by rw [Ym];exact c3.2.2
 obtain ⟨g1,g2⟩:=T1 (x:=x) (y:=Zn x l) rfl hw hlen hb;have hty:=IG (l:=l) c1;have f1:=Lt hy e1;have f2:=Lt hx he;obtain ⟨p1,_⟩:=FK hy e1;have hnum:=WY hx (show r.typ.toNat<x.types.length by omega);have htyp:nth x.types r.typ.toNat=Zx x r:=rfl;rw [htyp] at hnum;have hin:Inr x r.visits:=(WO he).inr;have hch:=M0 (l:=l) (t:=r.typ) hin r.visits.length (ZD _);rw [YR,if_pos he] at h;rw [YR,if_pos e1,YR,if_pos he]
 have b1:(Xn (Zn x l) r).1=Yc (Zn x l) r:=by rw [Yc,if_pos e1]
 have b2:(Xn x r).1=Yc x r:=by rw [Yc,if_pos he]
 have g1:(Yc (Zn x l) r).fin<=(Yc x r).fin:=by rw [<- b1,<- b2];exact g1
 have g2:(Yc (Zn x l) r).miles=(Yc x r).miles:=by rw [<- b1,<- b2];exact g2
 rw [Wf,if_pos e1,b1] at p1 ⊢;rw [Wf,if_pos he,b2] at h ⊢
 have o1:(Zx (Zn x l) r).opn=(Zx x r).opn:=by rw [hty];rfl
 have o2:(Zx (Zn x l) r).fixed=(Zx x r).fixed:=by rw [hty];rfl
 have o3:(Zx (Zn x l) r).perMile=(Zx x r).perMile:=by rw [hty];rfl
 have o4:(Zx (Zn x l) r).perTick=(Zx x r).perTick:=by rw [hty];rfl
 rw [o1] at f1;unfold nI at p1;refine pN h p1 ?_ ?_ ?_ ?_
 ·simp only [Db,o1,o2,o3,o4,g2];have:(Zx x r).perTick*((Yc (Zn x l) r).fin-(Zx x r).opn)<=(Zx x r).perTick*((Yc x r).fin-(Zx x r).opn):=BG Za Za;omega
 ·simp only [Db,hch]
 ·simp only [Db,hch]
 ·simp only [Db,o1]
  have t1:0<=((Yc (Zn x l) r).fin-(Zx x r).opn).tdiv 64/\((Yc (Zn x l) r).fin-(Zx x r).opn).tdiv 64<=((Yc x r).fin-(Zx x r).opn).tdiv 64:=by
   rw [EP Za,EP Za];omega
  exact VO t1.2 t1.2 t1.1 Za
theorem oN {x:Inst} (hx:InstOk x):(∀k,k<x.orders.length->(nth x.orders k).off=false->0<=(nth x.orders k).penalty->0<=skR x k/\skR x k<=18014398509481984)/\ ∀i,scoR 1152921504606846976 (unsF x i).1 :=
 ⟨fun k hk hof hp=>by
  obtain ⟨s1,s2⟩:=yU hx hk hof;have:=Oy hx k
  omega,fun i=>A3 Za (OJ hx i)⟩
theorem R9 (x:Inst) (l:List Col): ∃q:Pln×Int×Int,MA x l q.1 q.2.1 q.2.2:=by
 suffices h: ∃b e,eY x l b e by
  obtain ⟨b,e,h⟩:=h
  by_cases he:e=0
  ·exact ⟨⟨_,_,e⟩,b,h,fun h=>absurd he h,fun _=>⟨rfl,rfl⟩⟩
  ·exact ⟨⟨_,_,e⟩,b,h,fun _=>⟨rfl,rfl⟩,fun h=>absurd h he⟩
 unfold eY
 by_cases h1:8192<l.length
 ·exact ⟨_,_,.inl ⟨h1,rfl,rfl⟩⟩
 ·by_cases h2: ∃c∈l,rightB x c=false
  ·exact ⟨_,_,.inr (.inl ⟨Za,h2,rfl,rfl⟩)⟩
  ·have h3: ∀c∈l,rightB x c=true:=fun c hc=>by
    cases h:rightB x c with
    | false=>exact absurd ⟨c,hc,h⟩ h2
    | true=>rfl
   cases hf:(Eu x l).found with
   | false=>exact ⟨_,_,.inr (.inr ⟨Za,h3,.inl ⟨rfl,rfl,rfl⟩⟩)⟩
   | true=>exact ⟨_,_,.inr (.inr ⟨Za,h3,.inr ⟨rfl,rfl,rfl⟩⟩)⟩
noncomputable def oQ (x:Inst):Pln×Int×Int:=Classical.choose (R9 x (X3 x))
theorem Mk (x:Inst):MA x (X3 x) (oQ x).1 (oQ x).2.1 (oQ x).2.2:=Classical.choose_spec (R9 x (X3 x))
noncomputable def JI (x:Inst):Int:=(oQ x).2.1
noncomputable def XN (x:Inst):Int:=(oQ x).2.2
theorem iC {x:Inst} {l:List Col} {p q:Pln} {c c' e e':Int} (h:MA x l p c e) (h':MA x l q c' e'):c=c'/\e=e':=by
 obtain ⟨b,hb,h1,h2⟩:=h;obtain ⟨b',hb',h1',h2'⟩:=h'
 have he:e=e'/\b=b':=by
  rcases hb with ⟨k1,rfl,rfl⟩ | ⟨k1,⟨d,kd,k2⟩,rfl,rfl⟩ | ⟨k1,k2,k3⟩<;>rcases hb' with ⟨j1,rfl,rfl⟩ | ⟨j1,⟨d',jd,j2⟩,rfl,rfl⟩ | ⟨j1,j2,j3⟩
  ·exact ⟨rfl,rfl⟩
  ·omega
  ·omega
  ·omega
  ·exact ⟨rfl,rfl⟩
  ·rw [j2 d kd] at k2;cases k2
  ·omega
  ·rw [k2 d' jd] at j2;cases j2
  ·rcases k3 with ⟨f,rfl,rfl⟩ | ⟨f,rfl,rfl⟩<;>rcases j3 with ⟨g,rfl,rfl⟩ | ⟨g,rfl,rfl⟩
   ·exact ⟨rfl,rfl⟩
   ·rw [f] at g;cases g
   ·rw [f] at g;cases g
   ·exact ⟨rfl,rfl⟩
 obtain ⟨rfl,rfl⟩:=he
 by_cases h0:e=0
 ·exact ⟨(h2 h0).1.trans (h2' h0).1.symm,rfl⟩
 ·exact ⟨(h1 h0).2.trans (h1' h0).2.symm,rfl⟩
theorem oV (x:Inst) (hx:InstOk x) (hn:x.orders.length<=4) (hbl:x.before.length<=1048576) (hal:x.apart.length<=1048576) :
  ACalls Tryz.prog 43 [.p (Zu x)] [] fun y H'=> ∃p:Pln,qF x (X3 x) p (JI x) (XN x)/\y= .tup [.p (JY p),.p (.int .i64 (JI x)),.p (.int .i64 (XN x))]/\H'= []:=by
 refine (vX x hx hn (wO hx) hbl hal).mono fun y H' h=> ?_;obtain ⟨p,c,e,h,rfl,rfl⟩:=h;obtain ⟨_,hc⟩:=EG hn (wO hx);obtain ⟨rfl,rfl,_⟩:=iD hx hn (fun c h=>(hc c h).1) h (Mk x);exact ⟨p,h,rfl,rfl⟩
theorem oW (x:Inst) (hx:InstOk x) (hn:x.orders.length<=4) (hbl:x.before.length<=1048576) :
  ACalls Tryz.prog 24 [.p (Zu x)] [] fun y H'=> ∃p:Pln,MA x (X3 x) p (JI x) (XN x)/\y= .tup [.p (JY p),.p (.int .i64 (JI x)),.p (.int .i64 (XN x))]/\H'= []:=by
 obtain ⟨hsk,hus⟩:=oN hx;refine (dR x hx hn (wO hx) hbl hsk hus).mono fun y H' h=> ?_;obtain ⟨p,c,e,h,rfl,rfl⟩:=h;obtain ⟨rfl,rfl⟩:=iC h (Mk x);exact ⟨p,h,rfl,rfl⟩
end Go.Proofs.YtjkkdmeebhjaiaaGreatDoor.K
