/- Declarations that the closing texts need, part 18: joined by tools/slim.py. -/
import Derived.Test.YtjkkdmeebhjaiaaGreatDoorH17
set_option linter.unusedVariables false
set_option linter.unusedSimpArgs false
namespace Go.Proofs.YtjkkdmeebhjaiaaGreatDoor.K
open Go Go.AM Go.Proofs
set_option maxRecDepth 8000
theorem F2 {α:Type} {p q:α->Bool} : ∀ {l:List α},(∀a∈l,p a=q a)->l.find? p=l.find? q
 | [],_=>rfl
 | a::l,h=>by
  rw [List.find?_cons,List.find?_cons,h a Zb,F2 fun a ha=>h a (Yo _ ha)]
def RA (l:List Col) (g:List Int):Nat->Nat->List Col
 | 0,_=> []
 | d+1,k=>(if 0<=nth g k/\Bc (nth l (nth g k).toNat).set.toNat=(k:Int) then [nth l (nth g k).toNat] else [])++RA l g d (k+1)
def UA (x:Inst) (g:List Int):Nat->Nat->List Int
 | 0,_=> []
 | d+1,k=>(if nth g k<0/\(nth x.orders k).off=false then [(k:Int)] else [])++UA x g d (k+1)
theorem vN {x:Inst} {l ys:List Col} (hc:Ctx x l ys) {D:Nat} (hD:D=20) {s:St} {k:Nat} (hv:StV x.orders.length s) (hk:s.ix=k) (hkn:k<x.orders.length) (ho:(nth x.orders k).off=false) (hcv:s.cov.toNat.testBit k=false) {c:Col} (hm:c∈Ys ys k) :
  Mq x.orders.length (mI x) x (fstF x.orders.length ys) (skF x x.orders.length) s c=Ae x ys D s c:=by
 have hn:=hc.n4;have e1:=D8 (n:=x.orders.length) hk (m:=mI x) (by grind [Gh]) (by grind [Cg]);have e2:=Hb (m:=mI x) hk hkn hn (Aa hc hkn hm).2.2.2
 grind [Mq,Ae,Lx]
theorem Fi {x:Inst} {l ys:List Col} (hc:Ctx x l ys) {D:Nat} (hD:D=20): ∀(d k:Nat) (s:St) (a:List Int) (f:Nat),k+d=x.orders.length->d<f->Nd x l a s k ->
  YA x.orders.length (mI x) x (fstF x.orders.length ys) (skF x x.orders.length) f (VD x.orders.length (mI x) s)=(RA l (gr x l ys D d k s a) d k,UA x (gr x l ys D d k s a) d k)
 | 0,k,s,a,0,_,hf,_=>Za
 | 0,k,s,a,f+1,hd,_,h=>by
  rw [YA,if_pos,RA,UA];simp only [VD];have:=Dh (n:=x.orders.length) (m:=mI x) (cov:=s.cov) (x.orders.length-s.ix.toNat) s.ix.toNat;have:=h.ix;omega
 | d+1,k,s,a,0,_,hf,_=>Za
 | d+1,k,s,a,f+1,hd,hf,h=>by
  have hk:k<x.orders.length:=Za
  have hn:=hc.n4;rw [gr]
  split
  ·rename_i ho;have hsk:=ho.imp (fun e=>show sHas (mI x) k=false by grind [Gh]) (fun e=>show sHas s.cov k=true by rw [Cg h.v Za,h.cov k hk];grind);rw [D7 h.ix hk hsk,Fi hc hD d (k+1) (Hf s) a (f+1) Za Za (h.skip' hk)];have hg:=(DG hc (D:=D) d (k+1) (Hf s) a Za (h.skip' hk)).2 k hk (.inl Za);rw [RA,UA,hg,if_neg,if_neg,ZH,ZH]
   ·grind
   ·rintro ⟨g1,g2⟩;obtain ⟨t,t1,t2⟩:=h.old k hk (Zy _) g1;have hr:=h.rng k hk;obtain ⟨_,s0,s1,_⟩:=hc.set (Z2 (l:=l) (i:=(nth a k).toNat) Za);have:=((RS s0 s1 hn hk).1 g2).2 t Za t2;omega
  ·rename_i ho
   have hoff:(nth x.orders k).off=false:=by
    grind
   have hak:nth a k<0:=Int.not_le.1 fun g=>ho (.inr g)
   have hcv:s.cov.toNat.testBit k=false:=by rw [h.cov k hk];grind
   rw [D8 h.ix (by grind [Gh]) (by rw [Cg h.v Za,hcv]),YA,if_neg (by rw [h.ix];omega)]
   have e2:nth (fstF x.orders.length ys) s.ix.toNat=Ys ys k:=by rw [h.ix,XD,NZ,if_pos hk]
   rw [e2,F2 (q:=Ae x ys D s) fun c hm=>vN hc hD h.v h.ix hk hoff hcv hm]
   cases hfd:(Ys ys k).find? (Ae x ys D s) with
   | some c =>
    have hsel:=Kg hfd;have hm:=Jf hfd;simp only [Ae,Zv] at hsel;obtain ⟨p1,p2,p3⟩:=Ko hc h hk hm hsel.1;have hch:=h.child hc hk p1 p3;obtain ⟨c1,c2⟩:=Cd h.len p3;rw [p2] at hch c1 c2;have hg:=(DG hc (D:=D) d (k+1) (AY s c) _ Za hch).2 k hk (.inl Za);rw [XC (by rw [h.len];exact hk),if_pos c1] at hg;simp only;rw [Hb h.ix hk hn (Aa hc hk hm).2.2.2,Fi hc hD d (k+1) (AY s c) _ f Za Za hch,RA,UA,hg,if_pos ⟨Za,by rw [XD,p2];exact (Aa hc hk hm).2.2.1⟩,if_neg Za,XD,p2]
    rfl
   | none =>
    have hg:=(DG hc (D:=D) d (k+1) (Hf s) a Za (h.skip' hk)).2 k hk (.inl Za);simp only;have e3:DT x.orders.length (mI x) s=VD x.orders.length (mI x) (Hf s):=rfl;rw [e3,Fi hc hD d (k+1) (Hf s) a f Za Za (h.skip' hk),RA,UA,hg,if_neg Za,if_pos ⟨hak,hoff⟩,h.ix]
    rfl
theorem IY {l:List Col} {g:List Int} {c:Col} : ∀(d k:Nat),c∈RA l g d k↔ ∃i,k<=i/\i<k+d/\0<=nth g i/\Bc (nth l (nth g i).toNat).set.toNat=(i:Int)/\c=nth l (nth g i).toNat
 | 0,k=>by simp [RA];omega
 | d+1,k=>by
  rw [RA,Xe,IY d (k+1)]
  constructor
  ·rintro (h | ⟨i,h1,h2,h3⟩)
   ·split at h
    ·grind
    ·simp at h
   grind
  grind
theorem fQ {l:List Col} {g:List Int} : ∀(d k:Nat),(RA l g d k).Pairwise fun a b=>Bc a.set.toNat<Bc b.set.toNat
 | 0,k=> .nil
 | d+1,k=>by
  rw [RA,E6];refine ⟨?_,fQ d (k+1),fun a ha b hb=> ?_⟩
  ·split<;>simp
  ·split at ha
   ·rename_i hh;obtain ⟨i,h1,h2,h3,h4,rfl⟩:=(IY _ _).1 hb
    grind
   ·simp at ha
theorem R0 {x:Inst} {g:List Int} : ∀(d k:Nat),UA x g (d+1) k=UA x g d k++(if nth g (k+d)<0/\(nth x.orders (k+d)).off=false then [((k+d:Nat):Int)] else [])
 | 0,k=>by simp [UA]
 | d+1,k=>by
  rw [UA,R0 d (k+1),UA,Vq,show k+1+d=k+(d+1) by omega]
theorem fS {x:Inst} {g:List Int} : ∀n,UA x g n 0=fM x g n
 | 0=>rfl
 | n+1=>by rw [R0,fS n,fM,Xs]
theorem ZdW : ∀S:Fin 16,0<S.val-> ∀i:Fin 4,S.val.testBit i.val=true->((S.val:Int)%(pw i.val:Nat)=0↔Bc S.val=(i.val:Int)):=by decide+kernel
theorem A6 {l:List Col} {g:List Int} {T:Nat} {c:Col} : ∀k,c∈Tu l g T k↔ ∃i,i<k/\0<=nth g i/\(nth l (nth g i).toNat).typ=T/\(nth l (nth g i).toNat).set%(pw i:Nat)=0/\c=nth l (nth g i).toNat
 | 0=>by simp [Tu]
 | k+1=>by
  rw [Tu,Xe,A6 k]
  constructor
  ·grind
  grind
theorem Ml {l:List Col} {g:List Int} {n:Nat} {c:Col} : ∀T,c∈MG l g n T↔ ∃t,t<T/\c∈Tu l g t n
 | 0=>by simp [MG]
 | T+1=>by
  rw [MG,Xe,Ml T]
  grind
theorem yP {x:Inst} (hx:InstOk x) {k:Nat} (hk:k<x.orders.length) (ho:(nth x.orders k).off=false):(0<=(nth x.orders k).penalty↔0<=skpF x k)/\(0<=skpF x k->skpF x k=skR x k):=by
 have ha:=(hx.orders.2 k hk).arg;simp only [argOk,rng,Zv,Zq] at ha
 have e:unsF x k=if (nth x.orders k).penalty= -1 then (zSco,23) else (⟨(nth x.orders k).penalty,if (nth x.orders k).now= -1 then 0 else 1,0,0⟩,0):=by
  simp_all [unsF,if_neg]
 by_cases hp:(nth x.orders k).penalty= -1
 ·simp_all [skpF]
 ·have hm:(if (nth x.orders k).now= -1 then (0:Int) else 1)=0\/(if (nth x.orders k).now= -1 then (0:Int) else 1)=1:=Za
  have e2:skpF x k=skR x k/\0<=skR x k:=by
   rw [skpF,skR,e,if_neg hp];generalize (if (nth x.orders k).now= -1 then (0:Int) else 1)=m at hm
   have:YP ⟨(nth x.orders k).penalty,m,0,0⟩=((((nth x.orders k).penalty*16+m)*16+0)*65536+0,0):=by
    rw [YP,if_neg (by grind),if_neg (by grind)]
   grind
  omega
theorem jG {x:Inst} {l ys:List Col} (hx:InstOk x) (hn:x.orders.length<=4) (hC:Cheap l ys) (hr: ∀c∈l,rightB x c=true) (hs: ∀c∈l,c.set<9223372036854775808):Ctx x l ys :=
 have hok:=Sj hx hn hC hr hs
 ⟨hn,hok.typ.1,hC,hr,hs,hok,fun _ hk ho=>yP hx hk ho⟩
theorem TO {l:List Col} {n:Nat} {T:Int} : ∀m,m<=n->usdI l (List.replicate n (-1)) T m=0
 | 0,_=>rfl
 | m+1,h=>by
  rw [usdI,TO m Za,An,Fc Za,Vs Za];rfl
theorem Td (x:Inst) (l:List Col):Nd x l (List.replicate x.orders.length (-1)) zSt 0:=by
 have hz: ∀i,i<x.orders.length->nth (List.replicate x.orders.length (-1:Int)) i= -1:=fun i hi=>Fc hi;refine ⟨Zb,rfl,yU _,fun i hi=> ?_,fun i hi=>by grind,fun T hT=> ?_,fun i hi h=>by grind,fun i hi _ h=>by grind,fun i hi h=>by grind⟩
 ·simp_all [zSt]
 ·rw [TO _ (Zy _)]
  have:T=0\/T=1\/T=2\/T=3\/T=4\/T=5:=Za
  rcases this with rfl | rfl | rfl | rfl | rfl | rfl<;>rfl
theorem Nd.RngA {x:Inst} {l:List Col} {a:List Int} {s:St} {k:Nat} (h:Nd x l a s k):RngA x l a:=⟨h.len,h.rng⟩
theorem Nz {x:Inst} {l ys:List Col} (hc:Ctx x l ys) {D:Nat} : ∀(d k:Nat) (s:St) (a:List Int),k+d=x.orders.length->Nd x l a s k-> ∃s',Nd x l (gr x l ys D d k s a) s' x.orders.length
 | 0,k,s,a,hd,h=>⟨s,by grind [gr]⟩
 | d+1,k,s,a,hd,h=>by
  have hk:k<x.orders.length:=Za
  rw [gr]
  split
  ·exact Nz hc d (k+1) _ _ Za (h.skip' hk)
  ·split
   ·rename_i c hf;have hsel:=Kg hf;simp only [Ae,Zv] at hsel;obtain ⟨p1,p2,p3⟩:=Ko hc h hk (Jf hf) hsel.1;have hch:=h.child hc hk p1 p3;rw [p2] at hch;exact Nz hc d (k+1) _ _ Za hch
   ·exact Nz hc d (k+1) _ _ Za (h.skip' hk)
theorem R5 {x:Inst} {l ys:List Col} (hc:Ctx x l ys) {D:Nat} (hD:10<D) :
  (Lx x ys D zSt<0->(Ez x l).found=false)/\(0<=Lx x ys D zSt->Ez x l=⟨true,gr x l ys D x.orders.length 0 zSt (List.replicate x.orders.length (-1)),Lx x ys D zSt⟩):=by
 have hz:=Td x l;have hb:=Cs hc hD x.orders.length 0 zSt _ _ 0 Za hz hz KE.refl;obtain ⟨s',hg⟩:=Nz hc (D:=D) x.orders.length 0 zSt _ Za hz
 constructor
 ·intro h
  have:KC x l x.orders.length (List.replicate x.orders.length (-1)) 0= []:=by
   cases e:KC x l x.orders.length (List.replicate x.orders.length (-1)) 0 with
   | nil=>rfl
   | cons q L=>grind
  rw [Ez,this];rfl
 ·intro h;have hin:=SI hc hD x.orders.length 0 zSt _ 0 Za hz h;rw [Int.zero_add] at hin;refine IT (.inl rfl) (fun q hq=> ?_) hin;obtain ⟨_,h2,h3⟩:=hb q hq;rw [Int.zero_add] at h2 h3;exact ⟨h2,fun e=>yV hg.RngA (AV _ hz.RngA q hq) (h3 e)⟩
theorem Tv {l:List Col} {g:List Int} {T n:Nat} (hdv: ∀i,i<n->0<=nth g i->((nth l (nth g i).toNat).set%(pw i:Nat)=0↔Bc (nth l (nth g i).toNat).set.toNat=(i:Int))): ∀k,k<=n->(Tu l g T k).Pairwise fun a b=>sF a b<0
 | 0,_=> .nil
 | k+1,hk=>by
  rw [Tu,E6];refine ⟨Tv hdv k Za,by split<;>simp,fun a ha b hb=> ?_⟩
  split at hb
  ·rename_i hh
   obtain rfl:b=nth l (nth g k).toNat:=by grind
   obtain ⟨i,h1,h2,h3,h4,rfl⟩:=(A6 _).1 ha;rw [J0,h3,hh.2.1]
   right
   refine ⟨rfl,?_⟩
   show Bc _<Bc _
   grind
  ·simp at hb
theorem Tw {l:List Col} {g:List Int} {n:Nat} (hdv: ∀i,i<n->0<=nth g i->((nth l (nth g i).toNat).set%(pw i:Nat)=0↔Bc (nth l (nth g i).toNat).set.toNat=(i:Int))): ∀T,(MG l g n T).Pairwise fun a b=>sF a b<0
 | 0=> .nil
 | T+1=>by
  rw [MG,E6];refine ⟨Tw hdv T,Tv hdv n (Zy _),fun a ha b hb=> ?_⟩;obtain ⟨t,h1,h2⟩:=(Ml _).1 ha;obtain ⟨i,_,_,h3,_,rfl⟩:=(A6 _).1 h2;obtain ⟨j,_,_,h5,_,rfl⟩:=(A6 _).1 hb
  simp_all [J0]
theorem dU {x:Inst} {l ys:List Col} (hc:Ctx x l ys) {g:List Int} {s:St} (hg:Nd x l g s x.orders.length) {zs:List Col} (hp:zs.Perm (RA l g x.orders.length 0)) (ha:zs.Pairwise fun a b=> ¬sF b a<0):zs=MG l g x.orders.length x.types.length:=by
 have hn:=hc.n4;have hin: ∀i,i<x.orders.length->0<=nth g i->nth l (nth g i).toNat∈l:=fun i hi h0=>Z2 (by have:=hg.rng i hi;omega)
 have hdv: ∀i,i<x.orders.length->0<=nth g i->((nth l (nth g i).toNat).set%(pw i:Nat)=0↔Bc (nth l (nth g i).toNat).set.toNat=(i:Int)):=fun i hi h0=>by
  obtain ⟨e,s0,s1,_⟩:=hc.set (hin i hi h0);have h16:(nth l (nth g i).toNat).set.toNat<16:=UL s1 (Yw (n:=2) Za hn);have:=ZdW ⟨_,h16⟩ s0 ⟨i,Za⟩ (hg.own i hi h0)
  grind
 have hne:zs.Pairwise fun a b=>lo a≠lo b:=by
  have h1:(RA l g x.orders.length 0).Pairwise fun a b=>lo a≠lo b:=(fQ _ _).imp fun {a b} h e=>by
   have e':Bc a.set.toNat=Bc b.set.toNat:=e;omega
  exact (hp.pairwise_iff fun h e=>h e.symm).2 h1
 have hz:zs.Pairwise fun a b=>sF a b<0:=(hne.and ha).imp fun {a b} h=>by
  have h1:=h.1;have h2:=h.2;rw [J0] at h2 ⊢;omega
 refine G0 (r:=fun a b=>sF a b<0) (fun a=>by rw [J0];omega) (fun a b=>by rw [J0,J0];omega) hz (Tw hdv _) fun c=> ?_;rw [hp.mem_iff,IY,Ml]
 constructor
 ·rintro ⟨i,_,h1,h2,h3,rfl⟩;have ht:=(hc.typ (hin i Za h2)).1;exact ⟨(nth l (nth g i).toNat).typ.toNat,Za,(A6 _).2 ⟨i,Za,h2,Za,(hdv i Za h2).2 h3,rfl⟩⟩
 ·rintro ⟨t,_,h⟩;obtain ⟨i,h1,h2,h3,h4,rfl⟩:=(A6 _).1 h
  grind
theorem MY {x:Inst} {ys:List Col} {D:Nat} (hD:D=20):LU x ys=Lx x ys D zSt:=by subst hD;rfl
theorem Zkh {x:Inst} {l:List Col} {a e e':Int} {b:Chc} (hx:InstOk x) (hn:x.orders.length<=4) (hs: ∀c∈l,c.set<9223372036854775808) (h:ZnW x l a e) (h':fN x l b e'):a=b.price/\e=e':=by
 rcases h with ⟨g1,rfl,rfl⟩ | ⟨g1,⟨c,gc,g2⟩,rfl,rfl⟩ | ⟨g1,g2,ys,g3,rfl,rfl⟩<;>rcases h' with ⟨k1,rfl,rfl⟩ | ⟨k1,⟨c',kc,k2⟩,rfl,rfl⟩ | ⟨k1,k2,k3⟩
 ·exact ⟨rfl,rfl⟩
 ·omega
 ·omega
 ·omega
 ·exact ⟨rfl,rfl⟩
 ·grind
 ·omega
 ·grind
 ·obtain ⟨D,hD⟩: ∃D:Nat,D=20:=⟨20,rfl⟩;rw [MY hD];obtain ⟨q1,q2⟩:=R5 (jG hx hn g3 g2 hs) (D:=D) Za;rcases k3 with ⟨f,rfl,rfl⟩ | ⟨f,rfl,rfl⟩
  ·have:Lx x ys D zSt<0:=Int.not_le.1 fun h0=>by grind
   rw [if_pos this,if_pos this];exact ⟨rfl,rfl⟩
  grind
theorem iT {x:Inst} {l:List Col} {p q:Pln} {c e c' e':Int} (hx:InstOk x) (hn:x.orders.length<=4) (hs: ∀c∈l,c.set<9223372036854775808) (h:qM x l p c e) (h':MH x l q c' e'):c=c'/\e=e'/\p.routes=q.routes/\p.unserved=q.unserved/\p.routes.length<=24/\p.unserved.length<=24/\ ∀r∈p.routes,∃c∈l,r=c.route:=by
 obtain ⟨b,hb,h1,h2⟩:=h';have z:zPlC.routes.length<=24/\zPlC.unserved.length<=24/\ ∀r∈zPlC.routes,∃c∈l,r=c.route:=⟨by simp [zPlC],by simp [zPlC],fun r hr=>by simp [zPlC] at hr⟩;rcases h with ⟨g1,rfl,rfl,rfl⟩ | ⟨g1,⟨c,gc,g2⟩,rfl,rfl,rfl⟩ | ⟨g1,g2,ys,g3,g4,g5⟩<;>rcases hb with ⟨k1,rfl,rfl⟩ | ⟨k1,⟨c',kc,k2⟩,rfl,rfl⟩ | ⟨k1,k2,k3⟩
 ·grind
 ·omega
 ·omega
 ·omega
 ·grind
 ·grind
 ·omega
 ·grind
 ·obtain ⟨D,hD⟩: ∃D:Nat,D=20:=⟨20,rfl⟩;have hc:=jG hx hn g3 g2 hs;obtain ⟨q1,q2⟩:=R5 hc (D:=D) Za;rw [MY hD] at g5;rcases g5 with ⟨g6,rfl,rfl,rfl⟩ | ⟨g6,rfl,rfl,zs,hp,ha,rfl⟩
  ·grind
  ·rcases k3 with ⟨f,rfl,rfl⟩ | ⟨f,rfl,rfl⟩
   ·grind
   ·obtain ⟨rfl,rfl⟩:=h2 rfl;have hz:=Td x l;have hpk:=Fi hc hD x.orders.length 0 zSt _ 20 Za Za hz;obtain ⟨s',hg⟩:=Nz hc (D:=D) x.orders.length 0 zSt _ Za hz;rw [q2 g6];simp only [mI] at hpk;rw [hpk] at hp ⊢;simp only at hp ⊢;have hzs:=dU hc hg hp ha;rw [hg.len,fS,hzs];have l1:=Mk (l:=l) (g:=gr x l ys D x.orders.length 0 zSt (List.replicate x.orders.length (-1))) (n:=x.orders.length) x.types.length;have l2:=My (x:=x) (g:=gr x l ys D x.orders.length 0 zSt (List.replicate x.orders.length (-1))) x.orders.length
    have l3:x.types.length*x.orders.length<=6*4:=AO hc.t6 hn;refine ⟨trivial,trivial,rfl,rfl,by grind,Za,fun r hr=> ?_⟩;obtain ⟨c,hcm,rfl⟩:=XH.1 hr;rw [<- hzs,hp.mem_iff,IY] at hcm;obtain ⟨i,_,i1,i2,_,rfl⟩:=hcm;exact ⟨_,Z2 (by have:=hg.rng i Za;omega),rfl⟩
theorem F1 {α:Type} [DecidableEq α] {p q:α->Bool} {a:α} : ∀ {l:List α},l.Nodup->a∈l->p a=false->q a=true->(∀b∈l,b≠a->p b=q b)->(l.filter q).length=(l.filter p).length+1
 | [],_,h,_,_,_=>by simp at h
 | b::l,hn,h,hp,hq,he=>by
  rw [List.nodup_cons] at hn
  by_cases e:b=a
  ·grind [AJ]
  ·have ih:=F1 hn.2 (by
    grind) hp hq fun c hc=>he c (Yo _ hc)
   grind
theorem G6 {ok:List Vis->Bool} {col:List Vis->Col} {better:Col->Col->Bool} (hb: ∀a b,(better a b=true->a.price<=b.price)/\(better a b=false->b.price<=a.price)): ∀(L:List (List Vis)) (b:Col×Bool),(b.2=true->(L.foldl (XJ ok col better) b).2=true/\(L.foldl (XJ ok col better) b).1.price<=b.1.price) /\
  ∀m∈L,ok m=true->(L.foldl (XJ ok col better) b).2=true/\(L.foldl (XJ ok col better) b).1.price<=(col m).price
 | [],b=>⟨fun h=>⟨h,YS _⟩,fun m hm=>by simp at hm⟩
 | l::L,b=>by
  rw [XS];obtain ⟨g1,g2⟩:=G6 hb L (XJ ok col better b l)
  have hu:(b.2=true->(XJ ok col better b l).2=true/\(XJ ok col better b l).1.price<=b.1.price)/\(ok l=true->(XJ ok col better b l).2=true/\(XJ ok col better b l).1.price<=(col l).price):=by
   unfold XJ
   split
   ·rename_i hc;refine ⟨fun h=>⟨rfl,?_⟩,fun _=>⟨rfl,YS _⟩⟩;rcases hc.2 with h2 | h2
    ·rw [h2] at h;cases h
    ·exact (hb _ _).1 h2
   ·rename_i hc;refine ⟨fun h=>⟨h,YS _⟩,fun h=> ?_⟩
    have h2:b.2=true:=by
     cases h3:b.2 with
     | true=>rfl
     | false=>exact absurd ⟨h,.inl h3⟩ hc
    have h4:better (col l) b.1=false:=by
     cases h3:better (col l) b.1 with
     | false=>rfl
     | true=>exact absurd ⟨h,.inr h3⟩ hc
    exact ⟨h2,(hb _ _).2 h4⟩
  refine ⟨fun h=> ?_,fun m hm hk=> ?_⟩
  ·obtain ⟨h1,h2⟩:=hu.1 h;obtain ⟨h3,h4⟩:=g1 h1;exact ⟨h3,AS h4 h2⟩
  grind
theorem kP {x:Inst} {S:Nat} {m:List Vis} (h:Gr x S m): ∀(f k:Nat),m.length=k+f->m∈Bo (fun l=>nextU x S l x.orders.length) f (m.take k)
 | 0,k,hl=>by
  grind [Bo]
 | f+1,k,hl=>by
  have hk:k<m.length:=Za
  have ha:=h.at k hk;rw [Bo,if_neg (fun e=>by grind),X0];refine ⟨nth m k,ha,?_⟩
  have e:m.take k++ [nth m k]=m.take (k+1):=by rw [X3 hk,Zi hk]
  rw [e];exact kP h f (k+1) Za
theorem N9 {x:Inst} {l:List Vis} (h:RightV x l):Xz l≠0:=fun e=>by
 obtain ⟨v,hv⟩: ∃v,v∈l:=by
  cases l with
  | nil=>exact absurd rfl h.ne
  | cons v l=>simp
 have hi:=h.inr v hv;have hb:=(h.bit v.order.toNat).2 ⟨v,hv,Za⟩
 grind
theorem sA (a b:Col):(Wy a b=true->a.price<=b.price)/\(Wy a b=false->b.price<=a.price):=by
 unfold Wy
 grind
theorem aN {x:Inst} (hx:InstOk x) {k:Int} {m:List Vis} (ht:0<=(nth x.types k.toNat).opn) (hok:Gv x k m=true) (z:Col×Bool) :
  WC x.orders x.apart x.before ((Xz m:Nat):Int)=0/\(EB x k (Xz m) z).2=true/\(EB x k (Xz m) z).1.price<=(YT x (JT k m)).1:=by
 have hf:=XP hx
 have hn:x.orders.length<=60:=by have:=hf.len;omega
 have hr:RightV x m:=Vy (JJ hok);have ha:=hr.alw hf;have hS:=(hr.lt hf).2;refine ⟨(QM hn hS hf.val).2 ha,?_⟩;rw [PF hx (N9 hr) hS ha ht z,Cb];have hg:=hr.gr hf m.length (Zy _);rw [X1] at hg;have hin:m∈Bo (CU x (Xz m)) (W5 x (Xz m)) []:=kP hg (W5 x (Xz m)) 0 (by rw [hr.len hf,W5];omega)
 have hR:Dt x k (Xz m) m=true:=by
  unfold Dt;rw [hok,JJ hok,hr.ord hf];simp
 exact (G6 sA _ z).2 m hin hR
set_option maxRecDepth 60000
set_option maxHeartbeats 8000000
theorem G7 {g:FuncId} {args:List V} {R:Pln->Int->Int->Prop} {H:List AM.Obj} {K:V->List AM.Obj->Prop} (h:ACalls Tryz.prog g args [] fun y H'=> ∃p c e,R p c e/\y= .tup [.p (J3 p),.p (.int .i64 c),.p (.int .i64 e)]/\H'= []) (k: ∀p c e,R p c e->K (.tup [.p (J3 p),.p (.int .i64 c),.p (.int .i64 e)]) H) (ha:Xu 0 args=true:=by rfl):ACalls Tryz.prog g args H K :=
 (h.behind ha H).mono fun x H' hq=>by
  obtain ⟨y,H1,⟨p,c,e,hr,rfl,rfl⟩,rfl,rfl⟩:=hq
  grind [shV,shVs]
theorem Ee {ok:List Vis->Bool} {col:List Vis->Col} {better:Col->Col->Bool} : ∀(L:List (List Vis)) (b:Col×Bool),(L.foldl (XJ ok col better) b).2=true->(b.2=true/\(L.foldl (XJ ok col better) b).1=b.1)\/ ∃m∈L,ok m=true/\(L.foldl (XJ ok col better) b).1=col m
 | [],b,h=> .inl ⟨h,rfl⟩
 | l::L,b,h=>by
  rw [XS] at h ⊢;rcases Ee L _ h with ⟨h1,h2⟩ | ⟨m,h1,h2,h3⟩
  ·rw [h2];unfold XJ at h1 ⊢
   grind
  grind
theorem Dz {x:Inst} {k:Int} {S:Nat} (h:(VZ x k S).2=0): ∃m,m∈S0 x k S (W5 x S) [] (st0 (nth x.types k.toNat))/\Gv x k m=true/\(VZ x k S).1=Y3 x k S m:=by
 unfold VZ at h ⊢
 split at h
 ·rename_i hc;rw [if_pos hc];rcases Ee _ _ hc.2 with ⟨h1,_⟩ | ⟨m,h1,h2,h3⟩
  ·cases h1
  ·exact ⟨m,h1,h2,h3⟩
 ·cases h
theorem On {one:Nat->List Col} {c:Col} : ∀q,c∈BQ one q↔ ∃S,1<=S/\S<=q/\c∈one S
 | 0=>by simp [BQ];omega
 | q+1=>by
  rw [BQ,Xe,On q]
  grind
theorem MO {one:Nat->Nat->List Col} {N:Nat} {c:Col} : ∀K,c∈Uo one N K↔ ∃k S,k<K/\1<=S/\S<=N/\c∈one k S
 | 0=>by simp [Uo]
 | K+1=>by
  rw [Uo,Xe,MO K,On]
  grind
noncomputable def Yd (x:Inst):List Col:=Uo (VS x) (2^x.orders.length-1) x.types.length
theorem B5 {x:Inst} {c:Col} :c∈Yd x↔ ∃k S,k<x.types.length/\0<S/\S<2^x.orders.length/\(VZ x (k:Int) S).2=0/\c=(VZ x (k:Int) S).1:=by
 have hp1:1<=2^x.orders.length:=Nat.one_le_two_pow;rw [Yd,MO]
 constructor
 ·grind [VS]
 ·rintro ⟨k,S,h1,h2,h3,h4,h5⟩;exact ⟨k,S,h1,Za,Za,by simp_all [VS]⟩
theorem gK {x:Inst} {c:Col} (h:c∈Yd x): ∃(k S:Nat) (m:List Vis),k<x.types.length/\0<S/\S<2^x.orders.length/\m.length=W5 x S/\Gv x k m=true/\c=Y3 x k S m:=by
 obtain ⟨k,S,h1,h2,h3,h4,rfl⟩:=B5.1 h;obtain ⟨m,m1,m2,m3⟩:=Dz h4;exact ⟨k,S,m,h1,h2,h3,by have:=LV _ _ _ m m1;grind,m2,m3⟩
theorem EN {x:Inst} (hn:x.orders.length<=4) (h6:x.types.length<=6):(Yd x).length<=96/\ ∀c∈Yd x,c.set<9223372036854775808/\Zd2 c.route:=by
 have hp2:2^x.orders.length<=2^4:=Yw Za hn;refine ⟨?_,fun c hc=> ?_⟩
 ·have h1:=B4 (N:=2^x.orders.length-1) (K6 (x:=x)) x.types.length;have h2:x.types.length*(2^x.orders.length-1)<=6*16:=AO Za Za;unfold Yd;omega
 ·obtain ⟨k,S,m,_,_,h3,h4,_,rfl⟩:=gK hc;have:=Do x S x.orders.length;unfold W5 at h4;exact ⟨by grind [Y3],by grind [Y3,JT],by simp [Y3,JT]⟩
theorem vT (x:Inst) (hx:InstOk x) (hn:x.orders.length<=4) (h6:x.types.length<=6) (hbl:x.before.length<=1048576) (hal:x.apart.length<=1048576) :
  ACalls Tryz.prog 43 [.p (Zs x)] [] fun y H'=> ∃p c e,qM x (Yd x) p c e/\y= .tup [.p (J3 p),.p (.int .i64 c),.p (.int .i64 e)]/\H'= []:=by
 obtain ⟨hl,hc⟩:=EN hn h6;have ca:=Od x hx hn h6 hbl hal;have cc:=dB x (Yd x) false hx hn Za (fun c h=>(hc c h).1) Za;rw [show Uo (VS x) (2^x.orders.length-1) x.types.length=Yd x from rfl] at ca;generalize Yd x=L at ca cc ⊢;refine Ze [] Tryz.func43 rfl Zjq ?_;simp (disch:=omega) only [Tryz.f43,go_sem,seval];refine YU ca (Zd ?_);refine G7 cc fun p c e hR=>Zd ?_;exact ⟨.tup [.p (J3 p),.p (.int .i64 c),.p (.int .i64 e)],[],wk,p,c,e,hR,rfl,rfl⟩
theorem eJ (x:Inst) (hx:InstOk x) (hn:x.orders.length<=4) (h6:x.types.length<=6) (hbl:x.before.length<=1048576)
  (hsk: ∀k,k<x.orders.length->(nth x.orders k).off=false->0<=(nth x.orders k).penalty->0<=skR x k/\skR x k<=18014398509481984) (hus: ∀i,scoR 1152921504606846976 (unsF x i).1) :
  ACalls Tryz.prog 24 [.p (Zs x)] [] fun y H'=> ∃p c e,MH x (Yd x) p c e/\y= .tup [.p (J3 p),.p (.int .i64 c),.p (.int .i64 e)]/\H'= []:=by
 obtain ⟨hl,hc⟩:=EN hn h6;have ca:=qS x hx hn h6 hbl;have cc:=Na x (Yd x) false hn h6 Za (fun c h=>(hc c h).1) hsk hus;rw [show Uo (VS x) (2^x.orders.length-1) x.types.length=Yd x from rfl] at ca;generalize Yd x=L at ca cc ⊢;refine Ze [] Tryz.func24 rfl Zjd ?_;simp (disch:=omega) only [Tryz.f24,go_sem,seval];refine YU ca (Zd ?_);refine G7 cc fun p c e hR=>Zd ?_;exact ⟨.tup [.p (J3 p),.p (.int .i64 c),.p (.int .i64 e)],[],wk,p,c,e,hR,rfl,rfl⟩
theorem Tn {x:Inst} {r:Rte} (h0:r.start=0) (hz:r.rests= []):YT x r=YT x (JT r.typ r.visits):=by
 cases r
 simp only at h0 hz;subst h0;subst hz;rfl
theorem ZaD {x:Inst} (hx:InstOk x) {r:Rte} (he:(YT x r).2=0) (hty:0<=r.typ/\r.typ<(x.types.length:Int)) (h0:r.start=0) (hz:r.rests= []) :
  ∃j,j<(Yd x).length/\(nth (Yd x) j).typ=r.typ/\(nth (Yd x) j).set=((Xz r.visits:Nat):Int)/\(nth (Yd x) j).price<=(YT x r).1:=by
 obtain ⟨k,hk⟩: ∃k:Nat,r.typ=(k:Int):=⟨r.typ.toNat,Za⟩
 have hkl:k<x.types.length:=Za
 have hok:Gv x (k:Int) r.visits=true:=by
  grind [Gv,Tn]
 have hr:RightV x r.visits:=Vy (r:=JT (k:Int) r.visits) (JJ hok)
 have hopn:0<=(nth x.types (k:Int).toNat).opn:=by
  simp_all [WX]
 obtain ⟨g1,g2,g3⟩:=aN hx (k:=(k:Int)) (m:=r.visits) hopn hok (WK,false)
 have hv:VZ x (k:Int) (Xz r.visits)=((EB x (k:Int) (Xz r.visits) (WK,false)).1,0):=by
  simp_all [VZ]
 have hS:Xz r.visits<2^x.orders.length:=by
  rcases Nat.div_eq_zero_iff.1 (hr.lt (XP hx)).2 with h | h
  ·grind [pw]
  ·exact h
 have hmem:(VZ x (k:Int) (Xz r.visits)).1∈Yd x:=B5.2 ⟨k,Xz r.visits,hkl,Nat.pos_of_ne_zero (N9 hr),hS,by rw [hv],rfl⟩;obtain ⟨m,_,_,m3⟩:=Dz (x:=x) (k:=(k:Int)) (S:=Xz r.visits) (by rw [hv]);obtain ⟨j,hj,e⟩:=List.getElem_of_mem hmem;refine ⟨j,hj,?_⟩;rw [Zi hj,e];refine ⟨by rw [m3,hk];rfl,by rw [m3];rfl,?_⟩
 grind [Tn]
theorem uA {x:Inst} {t:Typ} {sp:List Stp} {k:Nat} {L:Lab} {b:Bool} (hT:TrpOk x t sp) (hk:k<sp.length) (he:(nxtF x t sp k L b).2=0):L.ready<=(nxtF x t sp k L b).1.ready:=by
 have hrs:=hT.rst
 have hd:L.ready<=ZN t L b:=by grind [ZN]
 have hgo:(Y9 x t sp k (ZN t L b)).2.2=0->ZN t L b<=(Y9 x t sp k (ZN t L b)).1:=fun e=>kO hT.net e;have hst:=hT.stp _ (Z2 hk);unfold nxtF at he ⊢
 generalize Y9 x t sp k (ZN t L b)=g at *
 generalize ZN t L b=d at *
 generalize W4 L b=s at *
 generalize X4 k d b L.she=m at *
 have hk2: ¬k=sp.length:=Za
 unfold WL at he ⊢
 grind
theorem tZ {x:Inst} {t:Typ} {sp:List Stp} {L:Lab} {b:Bool} (hT:TrpOk x t sp) (he:(nxtF x t sp sp.length L b).2=0):L.ready<=(nxtF x t sp sp.length L b).1.she.fin/\(nxtF x t sp sp.length L b).1.she.fin<=t.cls:=by
 have hrs:=hT.rst
 have hd:L.ready<=ZN t L b:=by grind [ZN]
 have hgo:(Y9 x t sp sp.length (ZN t L b)).2.2=0->ZN t L b<=(Y9 x t sp sp.length (ZN t L b)).1:=fun e=>kO hT.net e;unfold nxtF at he ⊢
 generalize Y9 x t sp sp.length (ZN t L b)=g at *
 generalize ZN t L b=d at *
 generalize W4 L b=s at *
 generalize X4 sp.length d b L.she=m at *
 unfold WL at he ⊢
 grind
theorem Tx {x:Inst} {t:Typ} {sp:List Stp} (hT:TrpOk x t sp): ∀(bs:List Bool) (k:Nat) (L:Lab),k+bs.length=sp.length+1->0<bs.length->(Xb x t sp k L bs).2=0->L.ready<=(Xb x t sp k L bs).1.she.fin/\(Xb x t sp k L bs).1.she.fin<=t.cls
 | [],k,L,_,h3,_=>by simp at h3
 | b::bs,k,L,h2,_,h=>by
  rw [Xb] at h ⊢
  by_cases h4:(nxtF x t sp k L b).2=0
  ·simp only [h4,if_true] at h ⊢
   cases bs with
   | nil =>
    simp_all [Xb,tZ]
   | cons b2 bs =>
    simp at h2;have h5:=Tx hT (b2::bs) (k+1) _ (by simp;omega) Zb h;have h6:=uA hT (show k<sp.length by omega) h4;omega
  grind
theorem Ly {x:Inst} {r:Rte} (hx:InstOk x) (h:Xq x r=0):(Zx x r).opn<=(X9 x r).fin/\(X9 x r).fin<=(Zx x r).cls:=by
 obtain ⟨hty,h0,hs⟩:=Qg (Qm h)
 have e:X9 x r=(Xp x r).1:=by rw [X9,if_pos h]
 have ee:(Xp x r).2=0:=by rw [Xq,if_pos (Qm h)] at h;exact h
 have hT:=Al hx hty (VW h0);obtain ⟨bs,hb1,hb2,hb3⟩:=HI (by grind [Yi]) ee;have hb3:(Xp x r).1=_:=hb3;rw [e,hb3];have h1:=Tx hT bs 0 _ Za Za hb2
 grind [labF]
def EC (l:List Vis) (N:Nat):Nat:=(List.range N).countP fun i:Nat=>hasO l (i:Int)
theorem aV {l m:List Vis} {N:Nat} (h: ∀v∈l,v∈m):EC l N<=EC m N:=List.countP_mono_left fun i _ hi=>by
 grind [Vf]
theorem Sk {x:Inst} {l:List Vis} {t:Int} (hi:Inr x l): ∀n,n<=l.length->(0<=(chgF x l t n).1/\(chgF x l t n).1<=(EC (l.take n) x.orders.length:Int))/\(0<=(chgF x l t n).2/\(chgF x l t n).2<=(EC (l.take n) x.orders.length:Int))
 | 0,_=>by simp [chgF]
 | n+1,h=>by
  have ih:=Sk (t:=t) hi n Za
  have hn:n<l.length:=Za
  have hv:=hi _ (Z2 hn)
  have htk:l.take (n+1)=l.take n++ [nth l n]:=by rw [X3 hn,Zi hn]
  have hmono:EC (l.take n) x.orders.length<=EC (l.take (n+1)) x.orders.length:=aV fun v hv=>by grind
  have hap: ∀i:Int,hasO (l.take (n+1)) i=(hasO (l.take n) i||decide ((nth l n).order=i)):=fun i=>by grind [hasO]
  rw [chgF]
  split
  ·rename_i hf
   have hadd:EC (l.take (n+1)) x.orders.length=EC (l.take n) x.orders.length+1:=by
    unfold EC;rw [List.countP_eq_length_filter,List.countP_eq_length_filter]
    have ei:(((nth l n).order.toNat:Nat):Int)=(nth l n).order:=Za
    refine F1 (a:=(nth l n).order.toNat) List.nodup_range (ZO.2 Za) ?_ ?_ fun b _ hb=> ?_
    ·rw [ei];simp only [UJ,XN] at hf;exact hf
    ·grind
    grind
   omega
  ·omega
theorem FX {x:Inst} {r:Rte} (hx:InstOk x) (h:Xq x r=0):nU (We x r)/\(We x r).cost<=22000000/\(We x r).moved<=(EC r.visits x.orders.length:Int)/\(We x r).other<=(EC r.visits x.orders.length:Int)/\(We x r).work<=4096:=by
 have hg:=Nl hx h;have hf:=Ly hx h;obtain ⟨hty,_,_⟩:=Qg (Qm h);have hnum:=WX hx (show r.typ.toNat<x.types.length by omega);have htyp:nth x.types r.typ.toNat=Zx x r:=rfl;rw [htyp] at hnum
 have e:(Xp x r).1=X9 x r:=by rw [X9,if_pos h]
 have hch:=Sk (t:=r.typ) (Vy h).inr r.visits.length (Zy _);rw [X1] at hch;rw [We,if_pos h,e];unfold De nU
 generalize X9 x r=s at *
 generalize Zx x r=t at *
 have p1:0<=t.perMile*s.miles/\t.perMile*s.miles<=100*210000:=⟨UP Za Za,VP Za Za Za Za⟩
 have hW:0<=s.fin-t.opn/\s.fin-t.opn<=4096:=Za
 have p2:0<=t.perTick*(s.fin-t.opn)/\t.perTick*(s.fin-t.opn)<=100*4096:=⟨UP Za Za,VP Za Za Za Za⟩
 have p3:0<=(s.fin-t.opn).tdiv 64/\(s.fin-t.opn).tdiv 64<=64:=by
  grind
 have p4:0<=(s.fin-t.opn).tdiv 64*(s.fin-t.opn).tdiv 64/\(s.fin-t.opn).tdiv 64*(s.fin-t.opn).tdiv 64<=64*64:=⟨UP p3.1 p3.1,VP p3.2 p3.2 p3.1 Za⟩
 grind
theorem dQ {x:Inst} (hx:InstOk x) (hn:x.orders.length<=4): ∀c∈Yd x,rightB x c=true:=fun c hc=>by
 obtain ⟨k,S,h1,h2,h3,h4,h5⟩:=B5.1 hc;obtain ⟨m,m1,m2,m3⟩:=Dz h4;have hp4:2^x.orders.length<=2^4:=Yw Za hn
 have hal:WC x.orders x.apart x.before ((S:Nat):Int)=0:=by
  grind [VZ]
 have hf:=XP hx;have ha:Alw x S:=(QM Za (by rw [Nat.div_eq_zero_iff];exact .inr h3) hf.val).1 hal
 have hw:RW S (Yy x x.orders.length)=true:=by
  rw [O2 hn Za,Zv,Zq,ZD];refine ⟨h3,fun i hi=> ?_⟩
  cases hb:S.testBit i with
  | false=>rfl
  | true=>rw [ha.off i (ZO.1 hi) hb];rfl
 have he:=JJ m2;have hfn:=FX hx he
 have hcn:EC (JT (k:Int) m).visits x.orders.length<=x.orders.length:=by
  have:=List.countP_le_length (p:=fun i:Nat=>hasO (JT (k:Int) m).visits (i:Int)) (l:=List.range x.orders.length);rw [List.length_range] at this;exact this
 have hpr:(YT x (JT k m)).1=(((We x (JT k m)).cost*16+(We x (JT k m)).moved)*16+(We x (JT k m)).other)*65536+(We x (JT k m)).work:=by
  rw [YT,if_pos he]
  grind [pU,O0]
 have hp:=Oh x (JT k m)
 have h6:(Y3 x k S m).price<=18014398509481984:=by
  show (YT x (JT k m)).1<=_
  omega
 rw [h5,m3];simp only [rightB,Zv,Zq];refine ⟨?_,?_,?_,?_,?_,h6⟩
 ·show (0:Int)<=(k:Int);omega
 ·show (k:Int)<_;omega
 ·show (0:Int)<(S:Int);omega
 ·show RW ((S:Nat):Int).toNat _=true
  grind
 ·exact hp.1
theorem dC {x:Inst} {r:Rte} (h:(YT x r).2=0):Xq x r=0:=by
 grind [YT]
theorem tH {n:Net} {pr f t τ σ:Int} :(W8 n pr f t τ).2=(W8 n pr f t σ).2:=by
 unfold W8
 split
 ·rfl
 ·split
  ·rfl
  ·split<;>rfl
theorem Tg {x:Inst} {t:Typ} {sp:List Stp} {k:Nat} {L:Lab} {b:Bool} (h:(nxtF x t sp k L b).2=0):(nxtF x t sp k L b).1.she.miles=L.she.miles+(Y9 x t sp k 0).2.1:=by
 have e:(Y9 x t sp k (ZN t L b)).2=(Y9 x t sp k 0).2:=tH
 have hm:(X4 k (ZN t L b) b L.she).miles=L.she.miles:=by unfold X4;split<;>rfl
 rw [<- e];unfold nxtF at h ⊢
 generalize Y9 x t sp k (ZN t L b)=g at *
 generalize X4 k (ZN t L b) b L.she=m at *
 unfold WL at h ⊢
 split at h
 ·cases h
 ·rename_i c1;rw [if_neg c1]
  split at h
  ·rename_i c2;rw [if_pos c2]
   split at h
   ·cases h
   ·split at h
    ·cases h
    ·rename_i c3 c4;rw [if_neg c3,if_neg c4,<- hm]
  ·rename_i c2;rw [if_neg c2]
   split at h
   ·cases h
   ·split at h
    ·cases h
    ·rename_i c3 c4;rw [if_neg c3,if_neg c4,<- hm]
theorem Ty {x:Inst} {t:Typ} {sp:List Stp} : ∀(bs cs:List Bool) (k:Nat) (L M:Lab),bs.length=cs.length->L.she.miles=M.she.miles->(Xb x t sp k L bs).2=0->(Xb x t sp k M cs).2=0->(Xb x t sp k L bs).1.she.miles=(Xb x t sp k M cs).1.she.miles
 | [],[],k,L,M,_,h,_,_=>by rw [Xb,Xb];exact h
 | [],_::_,_,_,_,h,_,_,_=>by simp at h
 | _::_,[],_,_,_,h,_,_,_=>by simp at h
 | b::bs,c::cs,k,L,M,hl,h,h1,h2=>by
  rw [Xb] at h1 h2 ⊢;rw [Xb]
  by_cases g1:(nxtF x t sp k L b).2=0
  ·by_cases g2:(nxtF x t sp k M c).2=0
   ·simp only [g1,g2,if_true] at h1 h2 ⊢;exact Ty bs cs (k+1) _ _ (by simpa using hl) (by rw [Tg g1,Tg g2,h]) h1 h2
   ·simp only [if_neg g2] at h2;exact absurd h2 g2
  ·simp only [if_neg g1] at h1;exact absurd h1 g1
theorem F6 : ∀(n:Nat) (l:List Bool),l.length=n->l∈Y4 (List.replicate n false)
 | 0,l,h=>by
  rw [E0] at h;subst h;simp [Y4]
 | n+1,[],h=>by simp at h
 | n+1,b::l,h=>by
  have ih:=F6 n l (by simpa using h);rw [KY,Y4];simp only [Y6,Yb,Xe,XH,AF]
  cases b with
  | false=>exact .inl ⟨l,ih,rfl⟩
  | true=>exact .inr ⟨l,ih,rfl⟩
theorem D4 {r q:List Bool} {n:Nat} (hr:r.length<=n):q∈XE r n↔q.length=n/\ ∃s,q=r++s:=by
 rw [XE,XH]
 constructor
 ·rintro ⟨s,hs,rfl⟩;have:=bestF_len.fromB_len _ _ hs;simp only [AF] at this;exact ⟨by rw [ZA];omega,s,rfl⟩
 ·rintro ⟨h,s,rfl⟩;rw [ZA] at h;exact ⟨s,F6 _ s Za,rfl⟩
theorem SF {L:Type} {fin:L->Int} : ∀l:List L,Va fin none l=none->l= []
 | [],_=>rfl
 | a::l,h=>by
  rw [Va] at h;obtain ⟨z,e,_⟩:=VK fin l a;rw [e] at h;cases h
theorem kG {L:Type} {fin:L->Int} {l:List L} {m:L} (h:Va fin none l=some m): ∀y∈l,fin m<=fin y:=by
 cases l with
 | nil=>simp [Va] at h
 | cons a l =>
  rw [Va] at h;obtain ⟨z,e,e1,e2⟩:=VK fin l a;rw [e] at h;obtain rfl:=WR h;intro y hy;rcases Z7.1 hy with rfl | hy
  ·exact e1
  ·exact e2 y hy
theorem Pz {x t sp} {st:Int} {r bs:List Bool} (hr:r.length<=sp.length+1) (hb:bs∈XE r (sp.length+1)) (h:(Xb x t sp 0 (labF t st) bs).2=0) :
  (Yf x t sp st r).2=0/\(Yf x t sp st r).1.fin<=(Xb x t sp 0 (labF t st) bs).1.she.fin/\(Yf x t sp st r).1.miles=(Xb x t sp 0 (labF t st) bs).1.she.miles:=by
 have hrun:Wd (Xt x t sp) 0 (labF t st) bs=some (Xb x t sp 0 (labF t st) bs).1:=by rw [YB,if_pos h]
 have hmem:(Xb x t sp 0 (labF t st) bs).1∈(XE r (sp.length+1)).filterMap (Wd (Xt x t sp) 0 (labF t st)):=Qp.2 ⟨_,hb,hrun⟩;unfold Yf
 cases hf:Va Wq none ((XE r (sp.length+1)).filterMap (Wd (Xt x t sp) 0 (labF t st))) with
 | none =>
  rw [SF _ hf] at hmem;simp at hmem
 | some L =>
  simp only;refine ⟨trivial,kG hf _ hmem,?_⟩;have hm:=bestF_len.fmL_mem _ _ hf;obtain ⟨cs,hcs,hrun2⟩:=Qp.1 hm;rw [YB] at hrun2
  split at hrun2
  ·rename_i h5;obtain rfl:=WR hrun2;have l1:=((D4 hr).1 hb).1;have l2:=((D4 hr).1 hcs).1;exact Ty cs bs 0 _ _ Za rfl h5 h
  ·cases hrun2
theorem iH {x t sp} {st:Int} {r:List Bool} (hr:r.length<=sp.length+1) (h:(Yf x t sp st r).2=0): ∃bs:List Bool,bs∈XE r (sp.length+1)/\(Xb x t sp 0 (labF t st) bs).2=0/\(Yf x t sp st r).1=(Xb x t sp 0 (labF t st) bs).1.she:=by
 unfold Yf at h ⊢
 cases hf:Va Wq none ((XE r (sp.length+1)).filterMap (Wd (Xt x t sp) 0 (labF t st))) with
 | none =>
  exfalso;rw [hf] at h;simp only at h
  have hm:YY r (sp.length+1)∈XE r (sp.length+1):=by
   unfold XE YY;rw [fromB_next];simp
  have h2:Wd (Xt x t sp) 0 (labF t st) (YY r (sp.length+1))=some (Xb x t sp 0 (labF t st) (YY r (sp.length+1))).1:=by rw [YB,if_pos h]
  have h3:=Qp.2 ⟨_,hm,h2⟩;rw [SF _ hf] at h3;simp at h3
 | some L =>
  simp only;have hm:=bestF_len.fmL_mem _ _ hf;obtain ⟨bs,hbs,hrun⟩:=Qp.1 hm;rw [YB] at hrun
  split at hrun
  ·rename_i h5;obtain rfl:=WR hrun;exact ⟨bs,hbs,h5,rfl⟩
  ·cases hrun
theorem pV {a b:Sco} (h:(YP a).2=0) (hb:0<=b.cost/\0<=b.moved/\0<=b.other/\0<=b.work) (h1:b.cost<=a.cost) (h2:b.moved=a.moved) (h3:b.other=a.other) (h4:b.work<=a.work):(YP b).2=0/\(YP b).1<=(YP a).1:=by
 unfold YP at h ⊢
 split at h
 ·cases h
 ·split at h
  ·cases h
  ·rename_i c1 c2
   have d1: ¬(b.cost<0\/b.moved<0\/b.other<0\/b.work<0):=Za
   have d2: ¬(1073741824<b.cost\/16<=b.moved\/16<=b.other\/65536<=b.work):=Za
   rw [if_neg c1,if_neg c2,if_neg d1,if_neg d2];refine ⟨rfl,?_⟩;simp only;omega
theorem IN {x:Inst} {l:List Itm} {r:Rte} (h:0<=r.typ/\r.typ<(x.types.length:Int)):Zx (Zn x l) r=Y8 (Zx x r) r.typ l:=by
 unfold Zx;rw [show (Zn x l).types=Z9 x.types l from rfl,YJ Za]
 congr 1;omega
theorem pY {x:Inst} {l:List Itm} {r:Rte} (hx:InstOk x) (h:XU x r=0):WkT (Zx x r) (Zx (Zn x l) r) (ZK x r.visits) (ZK (Zn x l) r.visits):=by
 obtain ⟨c1,c2,_⟩:=Qg h;have hsq:=VW c2
 have htl:r.typ.toNat<x.types.length:=Za
 have hty:=hx.types.2 _ htl;unfold UE at hty;obtain ⟨⟨⟨⟨⟨⟨⟨⟨_,_⟩,_⟩,_⟩,hcap⟩,_⟩,hcl⟩,Ht⟩,_⟩:=hty
 have hsp: ∀w∈r.visits,∃c,(Xo x w).cls<=c/\Xo (Zn x l) w= { Xo x w with cls:=c } :=fun w hw=>by
  obtain ⟨w1,w2⟩:=hsq.inr w hw
  have hi:w.order.toNat<x.orders.length:=Za
  have hord:=hx.orders.2 _ hi;have hpk:=hord.pstp;have hdk:=hord.dstp;simp only [stpOk,Zq] at hpk hdk;unfold Xo;rw [show (Zn x l).orders=Z6 x.orders l from rfl,ZW hi]
  split
  ·simp only [Ws];refine ⟨_,?_,rfl⟩
   split
   ·omega
   ·exact YS _
  ·simp only [Ws];refine ⟨_,?_,rfl⟩
   split
   ·omega
   ·exact YS _
 rw [IN c1];refine ⟨by simp [ZK],?_,?_,rfl,rfl,rfl,rfl,rfl,fun k hk=> ?_⟩
 ·simp only [Y8];split
  ·exact hcl.2
  ·exact YS _
 ·simp only [Y8];split
  ·have:=Ht.1;simp [rng] at this;exact this.2
  ·exact YS _
 ·simp [ZK] at hk
  have e: ∀y:Inst,nth (ZK y r.visits) k=Xo y (nth r.visits k):=fun y=>by
   rw [Zi (by simpa [ZK] using hk)];simp [ZK,Zi hk]
  rw [e,e];exact hsp _ (Zu hk)
theorem aJ {x y:Inst} {t t' sp sp'} {st:Int} {r:List Bool} (hn:y.net=x.net) (h:WkT t t' sp sp') (hr:r.length<=sp.length+1) (h0:(Yf x t sp st r).2=0) :
  (Yf y t' sp' st r).1.fin<=(Yf x t sp st r).1.fin/\(Yf y t' sp' st r).1.miles=(Yf x t sp st r).1.miles:=by
 obtain ⟨bs,b1,b2,b3⟩:=iH hr h0;have hl:=((D4 hr).1 b1).1
 have hrun:Wd (Xt x t sp) 0 (labF t st) bs=some (Xb x t sp 0 (labF t st) bs).1:=by rw [YB,if_pos b2]
 have el:labF t' st=labF t st:=by simp [labF,h.opn]
 have hy:=D5 hn h bs 0 _ _ Za hrun;rw [YB,<- el] at hy
 split at hy
 ·rename_i h5;have e:=WR hy;rw [el] at e
  have hb:bs∈XE r (sp'.length+1):=by rw [h.len];exact b1
  obtain ⟨_,g2,g3⟩:=Pz (x:=y) (t:=t') (sp:=sp') (st:=st) (r:=r) (by rw [h.len];exact hr) hb h5;rw [b3,<- e,<- el];exact ⟨g2,g3⟩
 ·cases hy
theorem M8 {x:Inst} {l:List Itm} {v:List Vis} {t:Int} (hi:Inr x v): ∀n,n<=v.length->chgF (Zn x l) v t n=chgF x v t n
 | 0,_=>rfl
 | n+1,hn=>by
  have ih:=M8 (l:=l) (t:=t) hi n Za;have hv:=hi _ (Z2 (show n<v.length by omega));have e:nth (Zn x l).orders (nth v n).order.toNat=Ws (nth x.orders (nth v n).order.toNat) ((nth v n).order.toNat:Nat) l:=ZW Za;rw [chgF,chgF,ih,e]
  rfl
theorem Ro {x:Inst} {l:List Itm} {r:Rte} (hx:InstOk x) (hy:InstOk (Zn x l)) (hI: ∀v∈l,XI x v=true) (h:(YT x r).2=0) :
  (YT (Zn x l) r).2=0/\(YT (Zn x l) r).1<=(YT x r).1:=by
 have he:=dC h;have e1:=bB hx hI he;have hru:=Qm he;obtain ⟨c1,_,c3⟩:=Qg hru;have hw:=pY (l:=l) hx hru
 have hb:(Xp x r).2=0:=by rw [Xq,if_pos hru] at he;exact he
 have hlen:r.rests.length<=(ZK x r.visits).length+1:=by rw [Yi];exact c3.2.2
 obtain ⟨g1,g2⟩:=aJ (x:=x) (y:=Zn x l) rfl hw hlen hb;have hty:=IN (l:=l) c1;have f1:=Ly hy e1;have f2:=Ly hx he;obtain ⟨p1,_⟩:=FX hy e1;have hnum:=WX hx (show r.typ.toNat<x.types.length by omega);have htyp:nth x.types r.typ.toNat=Zx x r:=rfl;rw [htyp] at hnum;have hin:Inr x r.visits:=(Vy he).inr;have hch:=M8 (l:=l) (t:=r.typ) hin r.visits.length (Zy _);rw [YT,if_pos he] at h;rw [YT,if_pos e1,YT,if_pos he]
 have b1:(Xp (Zn x l) r).1=X9 (Zn x l) r:=by rw [X9,if_pos e1]
 have b2:(Xp x r).1=X9 x r:=by rw [X9,if_pos he]
 have g1:(X9 (Zn x l) r).fin<=(X9 x r).fin:=by rw [<- b1,<- b2];exact g1
 have g2:(X9 (Zn x l) r).miles=(X9 x r).miles:=by rw [<- b1,<- b2];exact g2
 rw [We,if_pos e1,b1] at p1 ⊢;rw [We,if_pos he,b2] at h ⊢
 have o1:(Zx (Zn x l) r).opn=(Zx x r).opn:=by rw [hty];rfl
 have o2:(Zx (Zn x l) r).fixed=(Zx x r).fixed:=by rw [hty];rfl
 have o3:(Zx (Zn x l) r).perMile=(Zx x r).perMile:=by rw [hty];rfl
 have o4:(Zx (Zn x l) r).perTick=(Zx x r).perTick:=by rw [hty];rfl
 rw [o1] at f1;unfold nU at p1;refine pV h p1 ?_ ?_ ?_ ?_
 ·simp only [De,o1,o2,o3,o4,g2];have:(Zx x r).perTick*((X9 (Zn x l) r).fin-(Zx x r).opn)<=(Zx x r).perTick*((X9 x r).fin-(Zx x r).opn):=BG Za Za;omega
 ·simp only [De,hch]
 ·simp only [De,hch]
 ·simp only [De,o1]
  have t1:0<=((X9 (Zn x l) r).fin-(Zx x r).opn).tdiv 64/\((X9 (Zn x l) r).fin-(Zx x r).opn).tdiv 64<=((X9 x r).fin-(Zx x r).opn).tdiv 64:=by
   rw [EW Za,EW Za];omega
  exact VP t1.2 t1.2 t1.1 Za
theorem oW {x:Inst} (hx:InstOk x):(∀k,k<x.orders.length->(nth x.orders k).off=false->0<=(nth x.orders k).penalty->0<=skR x k/\skR x k<=18014398509481984)/\ ∀i,scoR 1152921504606846976 (unsF x i).1 :=
 ⟨fun k hk hof hp=>by
  obtain ⟨s1,s2⟩:=yP hx hk hof;have:=OJ hx k
  omega,fun i=>A7 Za (OU hx i)⟩
theorem Sm (x:Inst) (l:List Col): ∃q:Pln×Int×Int,MH x l q.1 q.2.1 q.2.2:=by
 suffices h: ∃b e,fN x l b e by
  obtain ⟨b,e,h⟩:=h
  by_cases he:e=0
  ·exact ⟨⟨_,_,e⟩,b,h,fun h=>absurd he h,fun _=>⟨rfl,rfl⟩⟩
  ·exact ⟨⟨_,_,e⟩,b,h,fun _=>⟨rfl,rfl⟩,fun h=>absurd h he⟩
 unfold fN
 by_cases h1:8192<l.length
 ·exact ⟨_,_,.inl ⟨h1,rfl,rfl⟩⟩
 ·by_cases h2: ∃c∈l,rightB x c=false
  ·exact ⟨_,_,.inr (.inl ⟨Za,h2,rfl,rfl⟩)⟩
  ·have h3: ∀c∈l,rightB x c=true:=fun c hc=>by
    cases h:rightB x c with
    | false=>exact absurd ⟨c,hc,h⟩ h2
    | true=>rfl
   cases hf:(Ez x l).found with
   | false=>exact ⟨_,_,.inr (.inr ⟨Za,h3,.inl ⟨rfl,rfl,rfl⟩⟩)⟩
   | true=>exact ⟨_,_,.inr (.inr ⟨Za,h3,.inr ⟨rfl,rfl,rfl⟩⟩)⟩
noncomputable def oZ (x:Inst):Pln×Int×Int:=Classical.choose (Sm x (Yd x))
theorem Ms (x:Inst):MH x (Yd x) (oZ x).1 (oZ x).2.1 (oZ x).2.2:=Classical.choose_spec (Sm x (Yd x))
noncomputable def JO (x:Inst):Int:=(oZ x).2.1
noncomputable def Xm (x:Inst):Int:=(oZ x).2.2
theorem iS {x:Inst} {l:List Col} {p q:Pln} {c c' e e':Int} (h:MH x l p c e) (h':MH x l q c' e'):c=c'/\e=e':=by
 obtain ⟨b,hb,h1,h2⟩:=h;obtain ⟨b',hb',h1',h2'⟩:=h'
 have he:e=e'/\b=b':=by
  rcases hb with ⟨k1,rfl,rfl⟩ | ⟨k1,⟨d,kd,k2⟩,rfl,rfl⟩ | ⟨k1,k2,k3⟩<;>rcases hb' with ⟨j1,rfl,rfl⟩ | ⟨j1,⟨d',jd,j2⟩,rfl,rfl⟩ | ⟨j1,j2,j3⟩
  ·exact ⟨rfl,rfl⟩
  ·omega
  ·omega
  ·omega
  ·exact ⟨rfl,rfl⟩
  ·rw [j2 d kd] at k2;cases k2
  ·omega
  ·rw [k2 d' jd] at j2;cases j2
  ·rcases k3 with ⟨f,rfl,rfl⟩ | ⟨f,rfl,rfl⟩<;>rcases j3 with ⟨g,rfl,rfl⟩ | ⟨g,rfl,rfl⟩
   ·exact ⟨rfl,rfl⟩
   ·rw [f] at g;cases g
   ·rw [f] at g;cases g
   ·exact ⟨rfl,rfl⟩
 obtain ⟨rfl,rfl⟩:=he
 by_cases h0:e=0
 ·exact ⟨(h2 h0).1.trans (h2' h0).1.symm,rfl⟩
 ·exact ⟨(h1 h0).2.trans (h1' h0).2.symm,rfl⟩
theorem pE (x:Inst) (hx:InstOk x) (hn:x.orders.length<=4) (hbl:x.before.length<=1048576) (hal:x.apart.length<=1048576) :
  ACalls Tryz.prog 43 [.p (Zs x)] [] fun y H'=> ∃p:Pln,qM x (Yd x) p (JO x) (Xm x)/\y= .tup [.p (J3 p),.p (.int .i64 (JO x)),.p (.int .i64 (Xm x))]/\H'= []:=by
 refine (vT x hx hn (wJ hx) hbl hal).mono fun y H' h=> ?_;obtain ⟨p,c,e,h,rfl,rfl⟩:=h;obtain ⟨_,hc⟩:=EN hn (wJ hx);obtain ⟨rfl,rfl,_⟩:=iT hx hn (fun c h=>(hc c h).1) h (Ms x);exact ⟨p,h,rfl,rfl⟩
theorem pG (x:Inst) (hx:InstOk x) (hn:x.orders.length<=4) (hbl:x.before.length<=1048576) :
  ACalls Tryz.prog 24 [.p (Zs x)] [] fun y H'=> ∃p:Pln,MH x (Yd x) p (JO x) (Xm x)/\y= .tup [.p (J3 p),.p (.int .i64 (JO x)),.p (.int .i64 (Xm x))]/\H'= []:=by
 obtain ⟨hsk,hus⟩:=oW hx;refine (eJ x hx hn (wJ hx) hbl hsk hus).mono fun y H' h=> ?_;obtain ⟨p,c,e,h,rfl,rfl⟩:=h;obtain ⟨rfl,rfl⟩:=iS h (Ms x);exact ⟨p,h,rfl,rfl⟩
end Go.Proofs.YtjkkdmeebhjaiaaGreatDoor.K
