/- Declarations that the closing texts need, part 17: joined by tools/slim.py. -/
import Derived.Test.YtenjikkmmibffaaGreatDoorZ16
set_option linter.unusedVariables false
set_option linter.unusedSimpArgs false
namespace Go.Proofs.YtenjikkmmibffaaGreatDoor.K
open Go Go.AM Go.Proofs
set_option maxRecDepth 8000
set_option maxHeartbeats 8000000
theorem qP {n:Net} {pr f t τ σ:Int} :(WU n pr f t τ).2=(WU n pr f t σ).2:=by
 grind [WU]
theorem Sb {x:Inst} {t:Typ} {sp:List Stp} {k:Nat} {L:Lab} {b:Bool} (h:(nxtF x t sp k L b).2=0):(nxtF x t sp k L b).1.she.miles=L.she.miles+(YY x t sp k 0).2.1:=by
 have e:(YY x t sp k (ZJ t L b)).2=(YY x t sp k 0).2:=qP
 have hm:(XW k (ZJ t L b) b L.she).miles=L.she.miles:=by grind [XW]
 rw [<- e];unfold nxtF at h ⊢
 generalize YY x t sp k (ZJ t L b)=g at *
 generalize XW k (ZJ t L b) b L.she=m at *
 unfold Wx at h ⊢
 grind
theorem Sp {x:Inst} {t:Typ} {sp:List Stp} : ∀(bs cs:List Bool) (k:Nat) (L M:Lab),bs.length=cs.length->L.she.miles=M.she.miles->(Xb x t sp k L bs).2=0->(Xb x t sp k M cs).2=0->(Xb x t sp k L bs).1.she.miles=(Xb x t sp k M cs).1.she.miles
 | [],[],k,L,M,_,h,_,_=>by grind [Xb]
 | [],_::_,_,_,_,h,_,_,_=>by simp at h
 | _::_,[],_,_,_,h,_,_,_=>by simp at h
 | b::bs,c::cs,k,L,M,hl,h,h1,h2=>by
  rw [Xb] at h1 h2 ⊢;rw [Xb]
  by_cases g1:(nxtF x t sp k L b).2=0
  ·by_cases g2:(nxtF x t sp k M c).2=0
   ·simp only [g1,g2,if_true] at h1 h2 ⊢;exact Sp bs cs (k+1) _ _ (by simpa using hl) (by rw [Sb g1,Sb g2,h]) h1 h2
   grind
  grind
theorem FD : ∀(n:Nat) (l:List Bool),l.length=n->l∈YQ (List.replicate n false)
 | 0,l,h=>by
  grind [YQ]
 | n+1,[],h=>by simp at h
 | n+1,b::l,h=>by
  have ih:=FD n l (by simpa using h);rw [KC,YQ];simp only [YS,YC,Xg,XM,Cl]
  cases b with
  | false=>exact .inl ⟨l,ih,rfl⟩
  | true=>exact .inr ⟨l,ih,rfl⟩
theorem Dz {r q:List Bool} {n:Nat} (hr:r.length<=n):q∈XB r n↔q.length=n/\ ∃s,q=r++s:=by
 rw [XB,XM]
 constructor
 ·rintro ⟨s,hs,rfl⟩;have:=bestF_len.fromB_len _ _ hs
  grind
 ·rintro ⟨h,s,rfl⟩;rw [ZH] at h;exact ⟨s,FD _ s Za,rfl⟩
theorem Rz {L:Type} {fin:L->Int} : ∀l:List L,WY fin none l=none->l= []
 | [],_=>rfl
 | a::l,h=>by
  rw [WY] at h;obtain ⟨z,e,_⟩:=Vv fin l a
  grind
theorem gS {L:Type} {fin:L->Int} {l:List L} {m:L} (h:WY fin none l=some m): ∀y∈l,fin m<=fin y:=by
 cases l with
 | nil=>simp
 | cons a l =>
  rw [WY] at h;obtain ⟨z,e,e1,e2⟩:=Vv fin l a
  grind
theorem OG {x t sp} {st:Int} {r bs:List Bool} (hr:r.length<=sp.length+1) (hb:bs∈XB r (sp.length+1)) (h:(Xb x t sp 0 (labF t st) bs).2=0) :
  (Yl x t sp st r).2=0/\(Yl x t sp st r).1.fin<=(Xb x t sp 0 (labF t st) bs).1.she.fin/\(Yl x t sp st r).1.miles=(Xb x t sp 0 (labF t st) bs).1.she.miles:=by
 have hrun:Y6 (Xy x t sp) 0 (labF t st) bs=some (Xb x t sp 0 (labF t st) bs).1:=by rw [Yw,if_pos h]
 have hmem:(Xb x t sp 0 (labF t st) bs).1∈(XB r (sp.length+1)).filterMap (Y6 (Xy x t sp) 0 (labF t st)):=KD.2 ⟨_,hb,hrun⟩;unfold Yl
 cases hf:WY Wb none ((XB r (sp.length+1)).filterMap (Y6 (Xy x t sp) 0 (labF t st))) with
 | none =>
  grind [Rz]
 | some L =>
  simp only;refine ⟨trivial,gS hf _ hmem,?_⟩;have hm:=bestF_len.fmL_mem _ _ hf;obtain ⟨cs,hcs,hrun2⟩:=KD.1 hm;rw [Yw] at hrun2
  split at hrun2
  ·rename_i h5;obtain rfl:=Vc hrun2;have l1:=((Dz hr).1 hb).1;have l2:=((Dz hr).1 hcs).1;exact Sp cs bs 0 _ _ Za rfl h5 h
  grind
theorem eC {x t sp} {st:Int} {r:List Bool} (hr:r.length<=sp.length+1) (h:(Yl x t sp st r).2=0): ∃bs:List Bool,bs∈XB r (sp.length+1)/\(Xb x t sp 0 (labF t st) bs).2=0/\(Yl x t sp st r).1=(Xb x t sp 0 (labF t st) bs).1.she:=by
 unfold Yl at h ⊢
 cases hf:WY Wb none ((XB r (sp.length+1)).filterMap (Y6 (Xy x t sp) 0 (labF t st))) with
 | none =>
  exfalso;rw [hf] at h;simp only at h
  have hm:YK r (sp.length+1)∈XB r (sp.length+1):=by
   grind [XB,YK,fromB_next]
  have h2:Y6 (Xy x t sp) 0 (labF t st) (YK r (sp.length+1))=some (Xb x t sp 0 (labF t st) (YK r (sp.length+1))).1:=by rw [Yw,if_pos h]
  grind [Rz]
 | some L =>
  simp only;have hm:=bestF_len.fmL_mem _ _ hf;obtain ⟨bs,hbs,hrun⟩:=KD.1 hm;rw [Yw] at hrun
  grind
theorem mT {a b:Sco} (h:(Yz a).2=0) (hb:0<=b.cost/\0<=b.moved/\0<=b.other/\0<=b.work) (h1:b.cost<=a.cost) (h2:b.moved=a.moved) (h3:b.other=a.other) (h4:b.work<=a.work):(Yz b).2=0/\(Yz b).1<=(Yz a).1:=by
 unfold Yz at h ⊢
 grind
theorem H8 {x:Inst} {l:List Itm} {r:Rte} (h:0<=r.typ/\r.typ<(x.types.length:Int)):ZC (Zn x l) r=W4 (ZC x r) r.typ l:=by
 unfold ZC;rw [show (Zn x l).types=Xm x.types l from rfl,Wg Za]
 grind
theorem mW {x:Inst} {l:List Itm} {r:Rte} (hx:InstOk x) (h:XS x r=0):WkT (ZC x r) (ZC (Zn x l) r) (ZM x r.visits) (ZM (Zn x l) r.visits):=by
 obtain ⟨c1,c2,_⟩:=U0 h;have hsq:=VK c2
 have htl:r.typ.toNat<x.types.length:=Za
 have hty:=hx.types.2 _ htl;unfold Un at hty;obtain ⟨⟨⟨⟨⟨⟨⟨⟨_,_⟩,_⟩,_⟩,hcap⟩,_⟩,hcl⟩,GV⟩,_⟩:=hty
 have hsp: ∀w∈r.visits,∃c,(Xh x w).cls<=c/\Xh (Zn x l) w= { Xh x w with cls:=c } :=fun w hw=>by
  obtain ⟨w1,w2⟩:=hsq.inr w hw
  have hi:w.order.toNat<x.orders.length:=Za
  have hord:=hx.orders.2 _ hi;have hpk:=hord.pstp;have hdk:=hord.dstp;simp only [stpOk,Zs] at hpk hdk;unfold Xh;rw [show (Zn x l).orders=Xk x.orders l from rfl,Z5 hi]
  split
  ·simp only [VP]
   grind
  ·simp only [VP]
   grind
 rw [H8 c1];refine ⟨by simp [ZM],?_,?_,rfl,rfl,rfl,rfl,rfl,fun k hk=> ?_⟩
 ·simp only [W4];split
  ·exact hcl.2
  omega
 ·simp only [W4];split
  ·have:=GV.1;simp [rng] at this;exact this.2
  omega
 ·simp [ZM] at hk
  have e: ∀y:Inst,nth (ZM y r.visits) k=Xh y (nth r.visits k):=fun y=>by
   grind [Zh,ZM]
  grind [Zt]
theorem Te {x y:Inst} {t t' sp sp'} {st:Int} {r:List Bool} (hn:y.net=x.net) (h:WkT t t' sp sp') (hr:r.length<=sp.length+1) (h0:(Yl x t sp st r).2=0) :
  (Yl y t' sp' st r).1.fin<=(Yl x t sp st r).1.fin/\(Yl y t' sp' st r).1.miles=(Yl x t sp st r).1.miles:=by
 obtain ⟨bs,b1,b2,b3⟩:=eC hr h0;have hl:=((Dz hr).1 b1).1
 have hrun:Y6 (Xy x t sp) 0 (labF t st) bs=some (Xb x t sp 0 (labF t st) bs).1:=by rw [Yw,if_pos b2]
 have el:labF t' st=labF t st:=by simp [labF,h.opn]
 have hy:=DA hn h bs 0 _ _ Za hrun;rw [Yw,<- el] at hy
 split at hy
 ·rename_i h5;have e:=Vc hy;rw [el] at e
  have hb:bs∈XB r (sp'.length+1):=by rw [h.len];exact b1
  obtain ⟨_,g2,g3⟩:=OG (x:=y) (t:=t') (sp:=sp') (st:=st) (r:=r) (by rw [h.len];exact hr) hb h5
  grind
 ·cases hy
theorem Mq {x:Inst} {l:List Itm} {v:List Vis} {t:Int} (hi:Inr x v): ∀n,n<=v.length->chgF (Zn x l) v t n=chgF x v t n
 | 0,_=>rfl
 | n+1,hn=>by
  have ih:=Mq (l:=l) (t:=t) hi n Za;have hv:=hi _ (ZX (show n<v.length by omega));have e:nth (Zn x l).orders (nth v n).order.toNat=VP (nth x.orders (nth v n).order.toNat) ((nth v n).order.toNat:Nat) l:=Z5 Za;rw [chgF,chgF,ih,e]
  rfl
theorem Pq {x:Inst} {l:List Itm} {r:Rte} (hx:InstOk x) (hy:InstOk (Zn x l)) (hI: ∀v∈l,X5 x v=true) (h:(YG x r).2=0) :
  (YG (Zn x l) r).2=0/\(YG (Zn x l) r).1<=(YG x r).1:=by
 have he:=aI h;have e1:=Ty hx hI he;have hru:=Uc he;obtain ⟨c1,_,c3⟩:=U0 hru;have hw:=mW (l:=l) hx hru
 have hb:(Xu x r).2=0:=by simp_all [Xv]
 have hlen:r.rests.length<=(ZM x r.visits).length+1:=by grind [Ya]
 obtain ⟨g1,g2⟩:=Te (x:=x) (y:=Zn x l) rfl hw hlen hb;have hty:=H8 (l:=l) c1;have f1:=IU hy e1;have f2:=IU hx he;obtain ⟨p1,_⟩:=Bi hy e1;have hnum:=WK hx (show r.typ.toNat<x.types.length by omega);have htyp:nth x.types r.typ.toNat=ZC x r:=rfl;rw [htyp] at hnum;have hin:Inr x r.visits:=(WA he).inr;have hch:=Mq (l:=l) (t:=r.typ) hin r.visits.length (ZD _);rw [YG,if_pos he] at h;rw [YG,if_pos e1,YG,if_pos he]
 have b1:(Xu (Zn x l) r).1=X4 (Zn x l) r:=by rw [X4,if_pos e1]
 have b2:(Xu x r).1=X4 x r:=by rw [X4,if_pos he]
 have g1:(X4 (Zn x l) r).fin<=(X4 x r).fin:=by rw [<- b1,<- b2];exact g1
 have g2:(X4 (Zn x l) r).miles=(X4 x r).miles:=by rw [<- b1,<- b2];exact g2
 rw [Wa,if_pos e1,b1] at p1 ⊢;rw [Wa,if_pos he,b2] at h ⊢
 have o1:(ZC (Zn x l) r).opn=(ZC x r).opn:=by rw [hty];rfl
 have o2:(ZC (Zn x l) r).fixed=(ZC x r).fixed:=by rw [hty];rfl
 have o3:(ZC (Zn x l) r).perMile=(ZC x r).perMile:=by rw [hty];rfl
 have o4:(ZC (Zn x l) r).perTick=(ZC x r).perTick:=by rw [hty];rfl
 rw [o1] at f1;unfold aH at p1;refine mT h p1 ?_ ?_ ?_ ?_
 ·simp only [DC,o1,o2,o3,o4,g2];have:(ZC x r).perTick*((X4 (Zn x l) r).fin-(ZC x r).opn)<=(ZC x r).perTick*((X4 x r).fin-(ZC x r).opn):=Bn Za Za;omega
 ·grind [DC]
 ·grind [DC]
 ·simp only [DC,o1]
  have t1:0<=((X4 (Zn x l) r).fin-(ZC x r).opn).tdiv 64/\((X4 (Zn x l) r).fin-(ZC x r).opn).tdiv 64<=((X4 x r).fin-(ZC x r).opn).tdiv 64:=by
   grind
  exact VB t1.2 t1.2 t1.1 Za
set_option maxRecDepth 60000
theorem NO {x:Inst} (hx:InstOk x):(∀k,k<x.orders.length->(nth x.orders k).off=false->0<=(nth x.orders k).penalty->0<=skR x k/\skR x k<=18014398509481984)/\ ∀i,scoR 1152921504606846976 (unsF x i).1 :=
 ⟨fun k hk hof hp=>by
  obtain ⟨s1,s2⟩:=vY hx hk hof;have:=NP hx k
  omega,fun i=>AK Za (N0 hx i)⟩
theorem Rl (x:Inst) (l:List Col): ∃q:Pln×Int×Int,LZ x l q.1 q.2.1 q.2.2:=by
 suffices h: ∃b e,cK x l b e by
  obtain ⟨b,e,h⟩:=h
  by_cases he:e=0
  ·exact ⟨⟨_,_,e⟩,b,h,fun h=>absurd he h,fun _=>⟨rfl,rfl⟩⟩
  ·exact ⟨⟨_,_,e⟩,b,h,fun _=>⟨rfl,rfl⟩,fun h=>absurd h he⟩
 unfold cK
 by_cases h1:8192<l.length
 ·grind
 ·by_cases h2: ∃c∈l,rightB x c=false
  ·exact ⟨_,_,.inr (.inl ⟨Za,h2,rfl,rfl⟩)⟩
  ·have h3: ∀c∈l,rightB x c=true:=fun c hc=>by
    grind
   cases hf:(D3 x l).found with
   | false=>exact ⟨_,_,.inr (.inr ⟨Za,h3,.inl ⟨rfl,rfl,rfl⟩⟩)⟩
   | true=>exact ⟨_,_,.inr (.inr ⟨Za,h3,.inr ⟨rfl,rfl,rfl⟩⟩)⟩
noncomputable def mA (x:Inst):Pln×Int×Int:=Classical.choose (Rl x (XD x))
theorem LH (x:Inst):LZ x (XD x) (mA x).1 (mA x).2.1 (mA x).2.2:=Classical.choose_spec (Rl x (XD x))
noncomputable def XX (x:Inst):Int:=(mA x).2.1
noncomputable def Wv (x:Inst):Int:=(mA x).2.2
theorem eX {x:Inst} {l:List Col} {p q:Pln} {c c' e e':Int} (h:LZ x l p c e) (h':LZ x l q c' e'):c=c'/\e=e':=by
 obtain ⟨b,hb,h1,h2⟩:=h;obtain ⟨b',hb',h1',h2'⟩:=h'
 have he:e=e'/\b=b':=by
  rcases hb with ⟨k1,rfl,rfl⟩ | ⟨k1,⟨d,kd,k2⟩,rfl,rfl⟩ | ⟨k1,k2,k3⟩<;>rcases hb' with ⟨j1,rfl,rfl⟩ | ⟨j1,⟨d',jd,j2⟩,rfl,rfl⟩ | ⟨j1,j2,j3⟩
  ·simp
  ·omega
  ·omega
  ·omega
  ·simp
  ·grind
  ·omega
  ·grind
  grind
 grind
theorem mC (x:Inst) (hx:InstOk x) (hn:x.orders.length<=4) (hbl:x.before.length<=1048576) (hal:x.apart.length<=1048576) :
  ACalls Tryz.prog 47 [.p (Zv x)] [] fun y H'=> ∃p:Pln,nK x (XD x) p (XX x) (Wv x)/\y= .tup [.p (JF p),.p (.int .i64 (XX x)),.p (.int .i64 (Wv x))]/\H'= []:=by
 refine (tB x hx hn (tR hx) hbl hal).mono fun y H' h=> ?_;obtain ⟨p,c,e,h,rfl,rfl⟩:=h;obtain ⟨_,hc⟩:=Er hn (tR hx);obtain ⟨rfl,rfl,_⟩:=eY hx hn (fun c h=>(hc c h).1) h (LH x);exact ⟨p,h,rfl,rfl⟩
theorem mD (x:Inst) (hx:InstOk x) (hn:x.orders.length<=4) (hbl:x.before.length<=1048576) :
  ACalls Tryz.prog 12 [.p (Zv x)] [] fun y H'=> ∃p:Pln,LZ x (XD x) p (XX x) (Wv x)/\y= .tup [.p (JF p),.p (.int .i64 (XX x)),.p (.int .i64 (Wv x))]/\H'= []:=by
 obtain ⟨hsk,hus⟩:=NO hx;refine (bI x hx hn (tR hx) hbl hsk hus).mono fun y H' h=> ?_;obtain ⟨p,c,e,h,rfl,rfl⟩:=h;obtain ⟨rfl,rfl⟩:=eX h (LH x);exact ⟨p,h,rfl,rfl⟩
end Go.Proofs.YtenjikkmmibffaaGreatDoor.K
