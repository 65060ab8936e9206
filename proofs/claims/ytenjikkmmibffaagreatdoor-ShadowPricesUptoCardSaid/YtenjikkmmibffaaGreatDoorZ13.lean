/- Declarations that the closing texts need, part 13: joined by tools/slim.py. -/
import Derived.Test.YtenjikkmmibffaaGreatDoorZ12
set_option linter.unusedVariables false
set_option linter.unusedSimpArgs false
namespace Go.Proofs.YtenjikkmmibffaaGreatDoor.K
open Go Go.AM Go.Proofs
set_option maxRecDepth 8000
theorem mQ {x:Inst} {t:Typ} {p:Int} {stop:Stp} {out:List Sr} {a b:Sr} (h:b∈out):b∈Ju x t p stop out a:=by
 grind [Ju,Vf]
theorem ML {x:Inst} {t:Typ} {p:Int} {stop:Stp} : ∀(st:List Sr) (out:List Sr) (b:Sr),(b∈out->b∈st.foldl (Ju x t p stop) out)/\ ∀a∈st,(∀o,b∈Ju x t p stop o a)->b∈st.foldl (Ju x t p stop) out
 | [],out,b=>⟨id,fun a h=>by simp at h⟩
 | c::st,out,b=>by
  rw [XL];obtain ⟨g1,g2⟩:=ML st (Ju x t p stop out c) b;refine ⟨fun h=>g1 (mQ h),fun a ha hb=> ?_⟩
  grind
inductive Rch (x:Inst) (t:Typ) (sp:List Stp):Nat->Lab->Prop where
 | zero:Rch x t sp 0 (labF t 0)
 | succ {k:Nat} {L:Lab} (b:Bool) (h:Rch x t sp k L) (hk:k<sp.length) (e:(nxtF x t sp k L b).2=0):Rch x t sp (k+1) (nxtF x t sp k L b).1
theorem Sq {x:Inst} {t:Typ} {sp:List Stp} : ∀(bs:List Bool) (k:Nat) (L:Lab),Rch x t sp k L->k+bs.length=sp.length+1->(Xb x t sp k L bs).2=0-> ∀j,k<=j->j<=sp.length-> ∃L',Rch x t sp j L'
 | [],k,L,h,hl,_,j,h1,h2=>by grind
 | b::bs,k,L,h,hl,hr,j,h1,h2=>by
  by_cases e:k=j
  ·grind
  ·rw [Xb] at hr
   split at hr
   ·rename_i he;exact Sq bs (k+1) _ (.succ b h Za he) (by grind) hr j Za h2
   omega
def cL (x:Inst) (t:Typ) (l:List Vis) (s:Int×List Sr):Prop:=s.1=V2 t (ZM x l) l.length/\ ∀r L,Rch x t (ZM x (l++r)) l.length L-> ∀b,(⟨ZJ t L b,WQ L b⟩:Sr)∈s.2
def goS (x:Inst) (t:Typ) (s:Int×List Sr) (v:Vis):Int×List Sr:=((Xh x v).place,DM x t s.1 s.2 (Xh x v))
def st0 (t:Typ):Int×List Sr:=(t.src,VH t [] t.opn 0)
theorem fL {x:Inst} {t:Typ} (h:0<=t.opn):cL x t [] (st0 t):=by
 refine ⟨rfl,fun r L hL b=> ?_⟩
 have:L=labF t 0:=by
  generalize hk:([]:List Vis).length=k at hL
  cases hL with
  | zero=>rfl
  | succ=>simp at hk
 subst this
 have hm:max t.opn 0=t.opn:=Za
 cases b
 ·exact Vf.2 (.inr (.inl (by simp [ZJ,WQ,labF,hm])))
 ·exact Vf.2 (.inr (.inr (by simp [ZJ,WQ,labF,hm])))
theorem HY {x:Inst} {l r:List Vis} {v:Vis} :nth (ZM x (l++(v::r))) l.length=Xh x v:=by
 grind [Zh,ZM]
theorem kS {x:Inst} {t:Typ} {l r:List Vis} :V2 t (ZM x (l++r)) l.length=V2 t (ZM x l) l.length:=by
 grind [V2,ZM,Zh]
theorem fK {x:Inst} {t:Typ} {l:List Vis} {s:Int×List Sr} {v:Vis} (h:cL x t l s):cL x t (l++ [v]) (goS x t s v):=by
 obtain ⟨h1,h2⟩:=h;refine ⟨?_,fun r L' hL b=> ?_⟩
 ·have e:=HY (x:=x) (l:=l) (r:= []) (v:=v);rw [V2,if_neg Zb,show (l++ [v]).length-1=l.length by simp,e];rfl
 ·rw [KF,ZK,Zy] at hL;generalize hsp:ZM x (l++(v::r))=sp at hL
  have hlen:l.length<sp.length:=by grind [ZM]
  have hat:nth sp l.length=Xh x v:=by grind [HY]
  have hpl:V2 t sp l.length=s.1:=by grind [kS]
  generalize hk:(l++ [v]).length=k at hL
  cases hL with
  | zero=>simp at hk
  | succ b' hp hk' he =>
   rename_i k L
   have hkl:k=l.length:=by grind
   subst hkl;have hmem:=h2 (v::r) L (by grind) b'
   generalize hd:ZJ t L b'=d at *
   generalize hs:WQ L b'=w at *
   have hg:YY x t sp l.length d=WU x.net t.prof s.1 (Xh x v).place d:=by
    rw [YY,hpl,Of,if_neg Za,hat]
   unfold nxtF at he ⊢;rw [hd,hs,hg] at he ⊢
   generalize hgn:WU x.net t.prof s.1 (Xh x v).place d=g at *
   unfold Wx at he ⊢
   split at he
   ·simp at he
   ·rename_i c1;rw [if_neg c1];rw [if_neg Za] at he ⊢;rw [hat] at he ⊢
    split at he
    ·simp at he
    ·rename_i c2;rw [if_neg c2]
     split at he
     ·simp at he
     ·rename_i c3;rw [if_neg c3];refine (ML s.2 [] _).2 ⟨d,w⟩ hmem fun o=> ?_;have c4: ¬(¬g.2.2=0\/t.drive<w+g.1-d):=fun hh=>hh.elim (fun e=>c1 e) (fun e=>c3 e);simp only [Ju,hgn];rw [if_neg c4,if_neg c2]
      cases b
      ·exact Vf.2 (.inr (.inl rfl))
      ·exact Vf.2 (.inr (.inr rfl))
theorem Tu {x:Inst} {k:Int} {l:List Vis} {s:Int×List Sr} (h:cL x (nth x.types k.toNat) l s) (he:s.2= []) (r:List Vis) (c d:Bool): ¬(YG x ⟨k,0,c,[],d,l++r⟩).2=0:=fun hp=>by
 have h1:Xv x ⟨k,0,c,[],d,l++r⟩=0:=by
  grind [YG]
 have h2:(Xu x ⟨k,0,c,[],d,l++r⟩).2=0:=by
  grind [Xv]
 obtain ⟨bs,hl,hrun,_⟩:=Hb Zb h2;obtain ⟨L,hL⟩:=Sq bs 0 _ .zero Za hrun l.length Za (by simp [ZM]);have:=h.2 r L hL false
 grind
def Q3 (k:Int) (l:List Vis):Rte:=⟨k,0,true,[],false,l⟩
def FY (x:Inst) (k:Int) (l:List Vis):Bool:=decide ((YG x (Q3 k l)).2=0)
def C3 (x:Inst) (k:Int) (S:Nat) (l:List Vis):Bool:=decide ((Q1 l).1=(S:Int))&&(decide (Xv x (Q3 k l)=0)&&FY x k l)
def YP (x:Inst) (k:Int) (S:Nat) (l:List Vis):Col:=⟨k,S,(YG x (Q3 k l)).1,Q3 k l⟩
def Wi (a b:Col):Bool:=if a.price≠b.price then decide (a.price<b.price) else decide (Bm a.route.visits b.route.visits<0)
def Cx (x:Inst) (S:Nat) (l:List Vis):List Vis:=nextU x S l x.orders.length
def WR (x:Inst) (S:Nat):Nat:=KZ x S x.orders.length
def RT (x:Inst) (k:Int) (S f:Nat) (l:List Vis) (s:Int×List Sr):List (List Vis):=lvW (Cx x S) (goS x (nth x.types k.toNat)) (fun s=>s.2.isEmpty) f l s
theorem rI {x:Inst} {S:Nat} {l:List Vis} (h:Gr x S l) (hl:l.length=WR x S):Cx x S l= []:=by
 cases e:Cx x S l with
 | nil=>rfl
 | cons v r =>
  exfalso
  have hv:v∈nextU x S l x.orders.length:=by
   grind [Cx]
  obtain ⟨i,hi,h1,h2,h3,h4⟩:=VD.1 hv;exact ((Ve h3).1 h4).1 (h.full hl v (WG.2 ⟨i,hi,h1,h3⟩))
def D5 (x:Inst) (k:Int) (S:Nat) (z:Col×Bool):Col×Bool:=(RT x k S (WR x S) [] (st0 (nth x.types k.toNat))).foldl (XC (FY x k) (YP x k S) Wi) z
def BR (x:Inst) (k:Int) (S:Nat) (z:Col×Bool):Col×Bool:=(A3 (Cx x S) (WR x S) []).foldl (XC (C3 x k S) (YP x k S) Wi) z
theorem Ib {ok ok':List Vis->Bool} {col:List Vis->Col} {better:Col->Col->Bool} : ∀ {L:List (List Vis)} {b:Col×Bool},(∀l∈L,ok l=ok' l)->L.foldl (XC ok col better) b=L.foldl (XC ok' col better) b
 | [],_,_=>rfl
 | l::L,b,h=>by
  rw [XL,XL,XC,XC,h l Zb];exact Ib fun m hm=>h m (Yp _ hm)
theorem Ia {ok:List Vis->Bool} {col:List Vis->Col} {better:Col->Col->Bool} : ∀ {L:List (List Vis)} {b:Col×Bool},(∀l∈L,ok l=false)->L.foldl (XC ok col better) b=b
 | [],_,_=>rfl
 | l::L,b,h=>by
  rw [XL,XC,if_neg (by rw [h l Zb];simp)];exact Ia fun m hm=>h m (Yp _ hm)
theorem jE {x:Inst} {S:Nat} (hN: ∀l,Gr x S l->l.length<WR x S->Cx x S l≠ []): ∀(f:Nat) (l m:List Vis),Gr x S l->l.length+f=WR x S->m∈A3 (Cx x S) f l->Gr x S m/\m.length=WR x S
 | 0,l,m,h,ht,hm=>by
  simp_all [A3]
 | f+1,l,m,h,ht,hm=>by
  rw [A3,if_neg (hN l h Za)] at hm;obtain ⟨v,hv,hm⟩:=XQ.1 hm;exact jE hN f _ m (.snoc h hv) (by simp;omega) hm
theorem WA {x:Inst} {r:Rte} (h:Xv x r=0):RightV x r.visits:=by
 rw [<- aV]
 have h1:XS x r=0:=by
  grind [Xv]
 unfold XS at h1;omega
theorem Ug {x:Inst} {k:Int} {l:List Vis} (h:FY x k l=true):Xv x (Q3 k l)=0:=by
 have h:=Ao h
 grind [YG]
theorem T1 {x:Inst} (hx:InstOk x) {S:Nat} (ha:Alw x S) (l:List Vis) (h:Gr x S l) (hl:l.length<WR x S):Cx x S l≠ []:=fun e=>by
 have hf:=XH hx
 have hn:x.orders.length<=60:=by have:=hf.len;omega
 have:=(h.next_nil ha hn hf.val).1 e
 grind [WR]
theorem OM {x:Inst} (hx:InstOk x) {k:Int} {S:Nat} (h0:S≠0) (hS:S / pw x.orders.length=0) (ha:Alw x S) (ht:0<=(nth x.types k.toNat).opn) (z:Col×Bool):D5 x k S z=BR x k S z:=by
 have hN:=T1 hx ha
 have h1:BR x k S z=(A3 (Cx x S) (WR x S) []).foldl (XC (FY x k) (YP x k S) Wi) z:=Ib fun l hl=>by
  obtain ⟨hg,hlen⟩:=jE hN _ _ _ .nil Zb hl;obtain ⟨hr,ho⟩:=hg.right (XH hx) ha h0 hS hlen;unfold C3
  cases hv:FY x k l with
  | false=>simp
  | true =>
   rw [Ug hv,hr.ord (XH hx),ho];simp
 rw [h1,D5,RT,QG,QG (A3 _ _ _)]
 rw [<- vN (nx:=Cx x S) (go:=goS x (nth x.types k.toNat)) (emp:=fun s=>s.2.isEmpty) (ok:=FY x k) (G:=Gr x S) (R:=cL x (nth x.types k.toNat)) (tot:=WR x S) (fun l v hl hv=> .snoc hl hv) (fun l s v _ hs _=>fK hs)
  (fun l s _ hs he r=>JZ (Tu hs (List.isEmpty_iff.1 he) r true false)) hN (WR x S) [] (st0 (nth x.types k.toNat)) .nil (fL ht) Zb]
theorem pB {x:Inst} (hx:InstOk x) {k:Int} {S:Nat} (ha: ¬Alw x S) (z:Col×Bool):BR x k S z=z:=Ia fun l _=>by
 cases ho:C3 x k S l with
 | false=>rfl
 | true =>
  exfalso;simp only [C3,ZF,Zs] at ho;have hr:=WA ho.2.1;have hv:(Q3 k l).visits=l:=rfl;rw [hv] at hr;have he:=hr.ord (XH hx);rw [he] at ho
  have hS:Xs l=S:=Za
  exact ha (hS ▸ hr.alw (XH hx))
set_option maxHeartbeats 8000000
theorem tR {x:Inst} (hx:InstOk x):x.types.length<=6:=by have:=hx.types.1;simp only [rng,Zs] at this;omega
set_option maxRecDepth 60000
structure St where
 ix:Int
 cov:Int
 used:List Int
 deriving Inhabited,DecidableEq
def AZ (s:St):PV:= .agg (.int .i64 s.ix:: .int .i64 s.cov::s.used.map eI)
@[go_sem] theorem ZmF (s:St):AZ s= .agg (.int .i64 s.ix:: .int .i64 s.cov::s.used.map eI):=Zk rfl rfl
def StR (s:St):Prop:=s.used.length=6
theorem six {l:List Int} (h:l.length=6): ∃a b c d e f,l= [a,b,c,d,e,f]:=by
 match l,h with
 | [a,b,c,d,e,f],_=>simp
theorem YN {s:St} (h:StR s): ∃i v a b c d e f,s=⟨i,v,[a,b,c,d,e,f]⟩:=by
 obtain ⟨i,v,u⟩:=s;obtain ⟨a,b,c,d,e,f,rfl⟩:=six h;simp
theorem Pb : KeyE Tryz.prog 246 AZ StR:=by
 refine ⟨⟨197,3,Ze,Ze,fun s hs=> ?_,fun s t hs ht=> ?_⟩,fun s t hs ht=> ?_⟩
 ·obtain ⟨i,v,a,b,c,d,e,f,rfl⟩:=YN hs
  kernel_rfl
 ·obtain ⟨i,v,a,b,c,d,e,f,rfl⟩:=YN hs;obtain ⟨i',v',a',b',c',d',e',f',rfl⟩:=YN ht
  have h1:Vp Tryz.prog 9 197 (AZ ⟨i,v,[a,b,c,d,e,f]⟩) (AZ ⟨i',v',[a',b',c',d',e',f']⟩)=some (decide (i=i')&&(decide (v=v')&&((decide (a=a')&&(decide (b=b')&&(decide (c=c')&&(decide (d=d')&&(decide (e=e')&&(decide (f=f')&&true))))))&&true))):=Ze
  have h2:keq (AZ ⟨i,v,[a,b,c,d,e,f]⟩) (AZ ⟨i',v',[a',b',c',d',e',f']⟩)=(decide (i=i')&&(decide (v=v')&&((decide (a=a')&&(decide (b=b')&&(decide (c=c')&&(decide (d=d')&&(decide (e=e')&&(decide (f=f')&&true))))))&&true))):=by
   simp_all [keq,AZ,Jo,eI]
  show (Vp Tryz.prog 9 197 (AZ ⟨i,v,[a,b,c,d,e,f]⟩) (AZ ⟨i',v',[a',b',c',d',e',f']⟩)==some (keq (AZ ⟨i,v,[a,b,c,d,e,f]⟩) (AZ ⟨i',v',[a',b',c',d',e',f']⟩)))=true
  simp_all
 ·obtain ⟨i,v,a,b,c,d,e,f,rfl⟩:=YN hs;obtain ⟨i',v',a',b',c',d',e',f',rfl⟩:=YN ht
  simp_all [keq,AZ,Jo,eI]
structure Kd where
 typ:Int
 set:Int
 deriving Inhabited,DecidableEq
def cC (k:Kd):PV:= .agg [.int .i64 k.typ,.int .i64 k.set]
theorem iZ : KeyE Tryz.prog 281 cC fun _=>True:=by
 refine ⟨⟨283,3,Ze,Ze,fun s _=> ?_,fun s t _ _=> ?_⟩,fun s t _ _=> ?_⟩
 ·kernel_rfl
 ·obtain ⟨a,b⟩:=s;obtain ⟨c,d⟩:=t
  have h1:Vp Tryz.prog 9 283 (cC ⟨a,b⟩) (cC ⟨c,d⟩)=some (decide (a=c)&&(decide (b=d)&&true)):=Ze
  have h2:keq (cC ⟨a,b⟩) (cC ⟨c,d⟩)=(decide (a=c)&&(decide (b=d)&&true)):=by
   grind [keq,cC,Jo]
  show (Vp Tryz.prog 9 283 (cC ⟨a,b⟩) (cC ⟨c,d⟩)==some (keq (cC ⟨a,b⟩) (cC ⟨c,d⟩)))=true
  simp_all
 ·obtain ⟨a,b⟩:=s;obtain ⟨c,d⟩:=t;simp [keq,cC,Jo]
def By (n:Nat) (m cov:Int):Nat->Nat->Nat
 | 0,k=>k
 | f+1,k=>if k<n/\(sHas m k=false\/sHas cov k=true) then By n m cov f (k+1) else k
theorem DF {n:Nat} {m cov:Int} {k:Nat} (h: ¬(k<n/\(sHas m k=false\/sHas cov k=true))) (f:Nat):By n m cov f k=k:=by
 cases f with
 | zero=>rfl
 | succ f=>rw [By,if_neg h]
theorem EQ {n:Nat} {m cov:Int} {k:Nat} (h:k<n) (hc:sHas m k=false\/sHas cov k=true):By n m cov (n-k) k=By n m cov (n-(k+1)) (k+1):=by
 rw [show n-k=(n-(k+1))+1 by omega,By,if_pos ⟨h,hc⟩]
def Vo (n:Nat) (m:Int) (s:St):St:= { s with ix:=(By n m s.cov (n-s.ix.toNat) s.ix.toNat:Nat) }
def VN (x:Inst) (f g:PV) (m:Int):AM.Obj:= .cells [.p (.list x.net.places_c (x.net.places.map eS)),.p (.list x.net.arcs_c (x.net.arcs.map VO)),.p (.list x.types_c (x.types.map X1)),.p (.list x.orders_c (x.orders.map Yg)),.p (.list x.apart_c (x.apart.map eP)),.p (.list x.before_c (x.before.map eP)),.p f,.p g,.mp 0,.p (.int .i64 m)]
def YW (x:Inst) (f g:PV) (m:Int) (l:List (St×Int)):List AM.Obj:= [.map (l.map (My AZ)),VN x f g m]
def BA (s:St):AM.Obj:= .cells (.p (.int .i64 s.ix):: .p (.int .i64 s.cov)::(s.used.map eI).map .p)
theorem BB {P Q:Prop} (h:Q) (e:Q->P:=by intro h;simp (disch:=omega) only [YB,go_sem,seval];exact h):P:=e h
theorem Gv {P Q:Prop} (h:Q) (e:Q->P:=by intro h;simp (disch:=omega) only [Vd,go_sem,seval];exact h):P:=e h
theorem Gm (x:Inst) (f g:PV) (m:Int) (l:List (St×Int)) (s:St) (hs:StR s) (h0:0<=s.ix) (hn:x.orders.length<=10) (h1:s.ix<=10) :
  ACalls Tryz.prog 120 [.ptr 1 0,.p (AZ s)] (YW x f g m l) fun y H'=>y= .p (AZ (Vo x.orders.length m s))/\H'=YW x f g m l:=by
 obtain ⟨i,v,a,b,c,d,e,u,rfl⟩:=YN hs;obtain ⟨i,rfl⟩: ∃k:Nat,i=k:=⟨i.toNat,by grind⟩;simp only at h0 h1;generalize hT:AZ (Vo x.orders.length m ⟨i,v,[a,b,c,d,e,u]⟩)=T;refine Zf [] Tryz.func120 rfl zO ?_;simp (disch:=omega) only [Tryz.f120,YW,VN,Zq,Zm,go_sem,seval];refine Zl [0,3,4] (fun k:Nat=> []) (fun k=>YW x f g m l++ [BA ⟨k,v,[a,b,c,d,e,u]⟩,.cells (List.replicate 8 (.p (.int .i64 0)))]) (fun k=>k<=10/\By x.orders.length m v (x.orders.length-k) k=By x.orders.length m v (x.orders.length-i) i) (fun k=>x.orders.length-k) i ⟨Za,rfl⟩ (Weak.mk ?_) ?_
 ·simp (disch:=omega) only [YW,VN,BA,Zq,Zm,List.replicate,go_sem,seval,↓reduceIte]
 ·rintro k ⟨hk,hq⟩
  have fin: ∀q:Nat,q=By x.orders.length m v (x.orders.length-i) i->AZ ⟨q,v,[a,b,c,d,e,u]⟩=T:=fun q hq=>by grind [Vo]
  simp (disch:=omega) only [YW,VN,BA,Zq,Zm,List.replicate,go_sem,seval];refine Xn (Zc ?_);refine gT ?_ ?_<;>intro h5<;>simp (disch:=omega) only [Sh.out h5,go_sem,seval,↓reduceIte]
  ·have hk2:k<x.orders.length:=Za
   refine Zo (DT m k) (Zc ?_)
   cases hm:sHas m k with
   | false =>
    refine Gv ?_;exact ⟨k+1,⟨Za,by grind [EQ]⟩,Za,wk⟩
   | true =>
    refine BB ?_;refine Zo (DT v k) (Zc ?_)
    cases hv:sHas v k with
    | true =>
     refine Zc ?_;exact ⟨k+1,⟨Za,by grind [EQ]⟩,Za,wk⟩
    | false =>
     refine Zc ?_;exact ⟨.p (AZ ⟨k,v,[a,b,c,d,e,u]⟩),_,Weak.mk (by simp (disch:=omega) only [Zq,Zm,go_sem,seval]),by grind [DF],rfl⟩
  ·exact ⟨.p (AZ ⟨k,v,[a,b,c,d,e,u]⟩),_,Weak.mk (by simp (disch:=omega) only [Zq,Zm,go_sem,seval]),by grind [DF],rfl⟩
def Dr (n:Nat) (m:Int) (s:St):St:=Vo n m { s with ix:=s.ix+1 }
theorem BC {P Q:Prop} (h:Q) (e:Q->P:=by intro h;simp (disch:=omega) only [YW,VN,Zq,Zm,ZK,Zy,go_sem,seval];exact h):P:=e h
theorem Ig (x:Inst) (f g:PV) (m:Int) (l:List (St×Int)) (s:St) (hs:StR s) (h0:0<=s.ix) (hn:x.orders.length<=10) (h1:s.ix<=9) :
  ACalls Tryz.prog 172 [.ptr 1 0,.p (AZ s)] (YW x f g m l) fun y H'=>y= .p (AZ (Dr x.orders.length m s))/\H'=YW x f g m l:=by
 have hc:=Gm x f g m l { s with ix:=s.ix+1 } hs (by grind) hn (by grind);obtain ⟨i,v,a,b,c,d,e,u,rfl⟩:=YN hs;obtain ⟨q,hq⟩: ∃q:Int,Dr x.orders.length m ⟨i,v,[a,b,c,d,e,u]⟩=⟨q,v,[a,b,c,d,e,u]⟩:=⟨_,rfl⟩;have hq':Vo x.orders.length m ⟨i+1,v,[a,b,c,d,e,u]⟩=⟨q,v,[a,b,c,d,e,u]⟩:=hq;rw [hq];simp only at h0 h1 hc;rw [hq'] at hc;refine Zf [] Tryz.func172 rfl Zay ?_;simp (disch:=omega) only [Tryz.f172,YW,VN,Zq,Zm,go_sem,seval];refine hc.useP (L:= [_,_]) (by rfl) ?_ (by rfl) (by rfl);refine BC ?_
 exact we
def C0 (n:Nat) (m:Int) (s:St) (T:Nat) (C S:Nat):St:=Vo n m ⟨s.ix,((C|||S:Nat):Int),s.used.set T (nth s.used T+1)⟩
def Ec (x:Inst) (s:St) (T:Nat) (C S:Nat):Bool:=decide (C&&&S=0)&&decide (nth s.used T<(nth x.types T).count)
theorem mV (x:Inst) (f g:PV) (m:Int) (l:List (St×Int)) (s:St) (c:Col) (hs:StR s) (h0:0<=s.ix) (hn:x.orders.length<=10) (h1:s.ix<=10) (C S T:Nat) (hC:s.cov=C) (hS:c.set=S) (hT:c.typ=T) (hC2:C<1024) (hS2:S<1024) (hT2:T<x.types.length) (h6:x.types.length<=6)
  (hu: ∀j,j<6->0<=nth s.used j/\nth s.used j<=1048576) :
  ACalls Tryz.prog 171 [.ptr 1 0,.p (AZ s),.p (Xo c)] (YW x f g m l) fun y H'=>y=(if Ec x s T C S=true then .tup [.p (AZ (C0 x.orders.length m s T C S)),.p (.bool true)] else .tup [.p (AZ s),.p (.bool false)])/\H'=YW x f g m l:=by
 have hor:C|||S<1024:=QX (n:=10) hC2 hS2;have hc:=Gm x f g m l ⟨s.ix,((C|||S:Nat):Int),s.used.set T (nth s.used T+1)⟩ (by grind [StR]) h0 hn h1;obtain ⟨i,v,a0,a1,a2,a3,a4,a5,rfl⟩:=YN hs
 have hT3:T=0\/T=1\/T=2\/T=3\/T=4\/T=5:=Za
 have u0:=hu 0 Za;have u1:=hu 1 Za;have u2:=hu 2 Za;have u3:=hu 3 Za;have u4:=hu 4 Za;have u5:=hu 5 Za;simp only [nth,List.getD_cons_zero,List.getD_cons_succ] at u0 u1 u2 u3 u4 u5;simp only at hC h0 h1;obtain ⟨ct,cs,cp,cr⟩:=c;simp only at hS hT;subst hC;subst hS;subst hT;obtain ⟨R,hR⟩: ∃R:V,R=(if Ec x ⟨i,(C:Nat),[a0,a1,a2,a3,a4,a5]⟩ T C S=true then .tup [.p (AZ (C0 x.orders.length m ⟨i,(C:Nat),[a0,a1,a2,a3,a4,a5]⟩ T C S)),.p (.bool true)] else .tup [.p (AZ ⟨i,(C:Nat),[a0,a1,a2,a3,a4,a5]⟩),.p (.bool false)]):=⟨_,rfl⟩
 rw [<- hR];obtain ⟨q,hq⟩: ∃q:Int,Vo x.orders.length m ⟨i,((C|||S:Nat):Int),[a0,a1,a2,a3,a4,a5].set T (nth [a0,a1,a2,a3,a4,a5] T+1)⟩=⟨q,((C|||S:Nat):Int),[a0,a1,a2,a3,a4,a5].set T (nth [a0,a1,a2,a3,a4,a5] T+1)⟩:=⟨_,rfl⟩;simp only at hc;rw [hq] at hc;have hw:C0 x.orders.length m ⟨i,(C:Nat),[a0,a1,a2,a3,a4,a5]⟩ T C S=⟨q,((C|||S:Nat):Int),[a0,a1,a2,a3,a4,a5].set T (nth [a0,a1,a2,a3,a4,a5] T+1)⟩:=hq;rw [hw] at hR;refine Zf [] Tryz.func171 rfl Zax ?_;rcases hT3 with rfl | rfl | rfl | rfl | rfl | rfl
 all_goals
  simp (disch:=omega) only [Tryz.f171,YW,VN,Zq,Zm,go_sem,seval,↓reduceIte];refine Xn ?_;simp (disch:=omega) only [go_sem,seval,↓reduceIte];refine gF ?_ ?_<;>intro h5<;>simp (disch:=omega) only [Sh.out h5,go_sem,seval,↓reduceIte]
  ·have hno:(decide (C&&&S=0))=false:=JZ Za;exact ⟨.tup [.p (AZ ⟨i,(C:Nat),[a0,a1,a2,a3,a4,a5]⟩),.p (.bool false)],_,Weak.mk (by simp (disch:=omega) only [Zq,Zm,go_sem,seval]),by rw [hR,if_neg (by rw [Ec,hno];simp)],rfl⟩
  ·have hcs:C&&&S=0:=Za
   refine cD ?_ ?_<;>intro h7<;>simp (disch:=omega) only [Sh.out h7,go_sem,seval,↓reduceIte]
   ·exact ⟨.tup [.p (AZ ⟨i,(C:Nat),[a0,a1,a2,a3,a4,a5]⟩),.p (.bool false)],_,Weak.mk (by simp (disch:=omega) only [Zq,Zm,go_sem,seval]),by rw [hR,if_neg (by rw [Ec,Q0 hcs,VC];exact fun h=>Int.not_lt.2 h7 (Ao h))],rfl⟩
   ·rw [if_pos (by rw [Ec,Q0 hcs,VC];exact Q0 (Int.not_le.1 h7))] at hR;refine hc.useP (L:= [_,_,_]) (by rfl) ?_ (by rfl) (by rfl);simp (disch:=omega) only [YW,VN,Zq,Zm,ZK,Zy,ZZ,Z8,go_sem,seval,↓reduceIte];exact ⟨R,_,Weak.mk (by rw [hR];simp (disch:=omega) only [nth,List.getD_cons_zero,List.getD_cons_succ,ZZ,Z8,Zq,Zm,go_sem,seval]),rfl,rfl⟩
def YV (o p r:Int):Int:=if 0<=r/\(o<0\/p+r<o) then p+r else o
theorem Ml (o p r:Int) (hp: -4611686018427387904<=p/\p<=4611686018427387904) (hr: -4611686018427387904<r/\r<4611686018427387904) :
  ACalls Tryz.prog 170 [.p (.int .i64 p),.p (.int .i64 r),.ptr 0 0] [.cells [.p (.int .i64 o)]] fun y H'=>y= .tup []/\H'= [.cells [.p (.int .i64 (YV o p r))]]:=by
 obtain ⟨T,hT⟩: ∃T,T=YV o p r:=⟨_,rfl⟩;rw [<- hT];unfold YV at hT;refine Zf [] Tryz.func170 rfl Zaw ?_;simp (disch:=omega) only [Tryz.f170,go_sem,seval];refine gT ?_ ?_<;>intro h1<;>simp (disch:=omega) only [Sh.out h1,go_sem,seval,↓reduceIte]
 ·refine gF ?_ ?_<;>intro h2<;>simp (disch:=omega) only [Sh.out h2,go_sem,seval,↓reduceIte]
  ·rw [if_pos ⟨h1,.inl h2⟩] at hT;subst hT;exact we
  ·refine cD ?_ ?_<;>intro h3<;>simp (disch:=omega) only [Sh.out h3,go_sem,seval,↓reduceIte]
   ·rw [if_pos ⟨h1,.inr h3⟩] at hT;subst hT;exact we
   ·rw [if_neg Za] at hT;subst hT;exact we
 ·rw [if_neg Za] at hT;subst hT;exact we
theorem CT {n:Nat} {m cov:Int} : ∀(f k:Nat),k<=By n m cov f k
 | 0,k=>ZD _
 | f+1,k=>by
  rw [By]
  split
  ·have:=CT (n:=n) (m:=m) (cov:=cov) f (k+1);omega
  ·omega
theorem Ss {n:Nat} {m cov:Int} : ∀(f k:Nat),k<=n->By n m cov f k<=n
 | 0,k,h=>h
 | f+1,k,h=>by
  rw [By]
  split
  ·rename_i hc;exact Ss f (k+1) Za
  ·exact h
theorem bF {n:Nat} {m cov:Int} {k:Nat} (h:k<n) (hb:sHas cov k=true):k+1<=By n m cov (n-k) k:=by
 grind [EQ,CT]
theorem Cw {l:List Int} {i j:Nat} {a:Int} (h:i<l.length):nth (l.set i a) j=if i=j then a else nth l j:=by
 grind [nth]
structure StV (n:Nat) (s:St):Prop where
 len:StR s
 ix:0<=s.ix/\s.ix<=n
 cov: ∃C:Nat,s.cov=C/\C<1024
 used: ∀j,j<6->0<=nth s.used j/\nth s.used j<=1048576
theorem LG {n:Nat} {m:Int} {s:St} (h:StV n s):StV n (Vo n m s)/\s.ix<=(Vo n m s).ix:=by
 obtain ⟨h1,h2,h3,h4⟩:=h;have a:=CT (n:=n) (m:=m) (cov:=s.cov) (n-s.ix.toNat) s.ix.toNat;have b:=Ss (n:=n) (m:=m) (cov:=s.cov) (n-s.ix.toNat) s.ix.toNat Za;exact ⟨⟨h1,by grind [Vo],h3,h4⟩,by grind [Vo]⟩
theorem Lf {n:Nat} {m:Int} {s:St} (h:StV n s) (hi:s.ix<n):StV n (Dr n m s)/\s.ix<(Dr n m s).ix:=by
 have h':StV n { s with ix:=s.ix+1 } :=⟨h.len,by have:=h.ix;grind,h.cov,h.used⟩
 grind [LG,Dr]
theorem sQ {C S k:Nat} (h:sHas (S:Int) k=true):sHas ((C|||S:Nat):Int) k=true:=by
 have key: ∀N:Nat,sHas (N:Int) k=true↔k<=62/\N.testBit k=true:=fun N=>by
  simp only [sHas,ZF,Zs,XU]
  grind
 grind
theorem tX {n:Nat} {m:Int} {s:St} {T C S:Nat} (h:StV n s) (hi:s.ix<n) (hC:C<1024) (hS:S<1024) (hb:sHas (S:Int) s.ix=true) (hT:T<6) (hu:nth s.used T<1048576):StV n (C0 n m s T C S)/\s.ix<(C0 n m s T C S).ix:=by
 have hor:C|||S<1024:=QX (n:=10) hC hS;have hl:s.used.length=6:=h.len
 have h':StV n ⟨s.ix,((C|||S:Nat):Int),s.used.set T (nth s.used T+1)⟩:=by
  refine ⟨by grind [StR],h.ix,⟨_,rfl,hor⟩,fun j hj=> ?_⟩;simp only;rw [Cw Za]
  split
  ·have:=h.used T hT;omega
  ·exact h.used j hj
 grind [LG,bF,sQ,C0,Vo]
def YF (x:Inst) (s:St) (c:Col):Bool:=Ec x s c.typ.toNat s.cov.toNat c.set.toNat
def VL (n:Nat) (m:Int) (s:St) (c:Col):St:=C0 n m s c.typ.toNat s.cov.toNat c.set.toNat
def Wc (n:Nat) (m:Int) (x:Inst) (fst:List (List Col)) (sk:List Int):Nat->St->Int
 | 0,_=>0
 | d+1,s=>if (n:Int)<=s.ix then 0 else
  let o:=(nth fst s.ix.toNat).foldl (fun o c=>if YF x s c=true then YV o c.price (Wc n m x fst sk d (VL n m s c)) else o) (-1)
  if 0<=nth sk s.ix.toNat then YV o (nth sk s.ix.toNat) (Wc n m x fst sk d (Dr n m s)) else o
structure ChOk (n:Nat) (x:Inst) (fst:List (List Col)) (sk:List Int):Prop where
 col: ∀i,i<n-> ∀c∈nth fst i,(0<=c.typ/\c.typ<x.types.length)/\(∃S:Nat,c.set=S/\S<1024)/\sHas c.set i=true/\0<=c.price/\c.price<=18014398509481984
 typ:x.types.length<=6/\ ∀t,t<6->(nth x.types t).count<=1048576
 skp: ∀i,i<n-> -1<=nth sk i/\nth sk i<=18014398509481984
theorem EV {n:Nat} {m:Int} {x:Inst} {fst:List (List Col)} {sk:List Int} (hc:ChOk n x fst sk) {s:St} (h:StV n s) (hi:s.ix<n) {c:Col} (hm:c∈nth fst s.ix.toNat) (hy:YF x s c=true):StV n (VL n m s c)/\s.ix<(VL n m s c).ix:=by
 obtain ⟨⟨t0,t1⟩,⟨S,hS,hS2⟩,hb,_⟩:=hc.col _ (by have:=h.ix;omega) c hm;obtain ⟨C,hC,hC2⟩:=h.cov;have ht:=hc.typ.1;have hcnt:=hc.typ.2 c.typ.toNat Za;simp only [YF,Ec,ZF,Zs] at hy;have hi0:=h.ix;rw [show ((s.ix.toNat:Nat):Int)=s.ix by omega] at hb;exact tX h hi Za Za (by grind) Za Za
theorem JH {α β:Type} {f g:β->α->β} : ∀ {l:List α} {b:β},(∀a∈l,∀b,f b a=g b a)->l.foldl f b=l.foldl g b
 | [],_,_=>rfl
 | a::l,b,h=>by
  rw [XL,XL,h a Zb b];exact JH fun a ha=>h a (Yp _ ha)
theorem Jj {n:Nat} {m:Int} {x:Inst} {fst:List (List Col)} {sk:List Int} (hc:ChOk n x fst sk): ∀(d d':Nat) (s:St),StV n s->(n:Int)-s.ix<d->(n:Int)-s.ix<d'->Wc n m x fst sk d s=Wc n m x fst sk d' s
 | 0,_,s,h,h1,_=>by have:=h.ix;omega
 | _,0,s,h,_,h1=>by have:=h.ix;omega
 | d+1,d'+1,s,h,h1,h2=>by
  rw [Wc,Wc]
  split
  ·rfl
  ·rename_i hi
   have e1:(nth fst s.ix.toNat).foldl (fun o c=>if YF x s c=true then YV o c.price (Wc n m x fst sk d (VL n m s c)) else o) (-1)=(nth fst s.ix.toNat).foldl (fun o c=>if YF x s c=true then YV o c.price (Wc n m x fst sk d' (VL n m s c)) else o) (-1):=JH fun c hm o=>by
    by_cases hy:YF x s c=true
    ·obtain ⟨v1,v2⟩:=EV (m:=m) hc h Za hm hy;rw [if_pos hy,if_pos hy,Jj hc d d' _ v1 Za Za]
    grind
   obtain ⟨v1,v2⟩:=Lf (m:=m) h Za;rw [Jj hc d d' _ v1 Za Za];simp only [e1]
theorem Mk {o p r B:Int} (h1: -1<=o/\o<=B) (h2:0<=p) (h3:p+r<=B): -1<=YV o p r/\YV o p r<=B:=by
 grind [YV]
theorem Ht {α β:Type} {f:β->α->β} {R:β->Prop} : ∀ {l:List α} {b:β},R b->(∀a∈l,∀b,R b->R (f b a))->R (l.foldl f b)
 | [],_,h,_=>h
 | a::l,b,h,hf=>by
  rw [XL];exact Ht (hf a Zb b h) fun a ha=>hf a (Yp _ ha)
theorem Ue {n:Nat} {m:Int} {x:Inst} {fst:List (List Col)} {sk:List Int} (hc:ChOk n x fst sk): ∀(d:Nat) (s:St),StV n s-> -1<=Wc n m x fst sk d s/\Wc n m x fst sk d s<=(d:Int)*18014398509481984
 | 0,s,h=>by simp [Wc]
 | d+1,s,h=>by
  rw [Wc]
  split
  ·omega
  ·rename_i hi;have i0:=h.ix
   have e1: -1<=(nth fst s.ix.toNat).foldl (fun o c=>if YF x s c=true then YV o c.price (Wc n m x fst sk d (VL n m s c)) else o) (-1)/\(nth fst s.ix.toNat).foldl (fun o c=>if YF x s c=true then YV o c.price (Wc n m x fst sk d (VL n m s c)) else o) (-1)<=((d+1:Nat):Int)*18014398509481984:=by
    refine Ht (R:=fun o:Int=> -1<=o/\o<=((d+1:Nat):Int)*18014398509481984) Za fun c hm o ho=> ?_
    split
    ·rename_i hy;obtain ⟨v1,v2⟩:=EV (m:=m) hc h Za hm hy;have:=Ue (m:=m) hc d _ v1;have:=(hc.col _ Za c hm).2.2.2;exact Mk ho Za Za
    ·exact ho
   have hs:=hc.skp s.ix.toNat Za;obtain ⟨v1,v2⟩:=Lf (m:=m) h Za;have:=Ue (m:=m) hc d _ v1;simp only
   split
   ·exact Mk e1 Za Za
   ·exact e1
def Wr (l:List Col):PV:= .list false (l.map Xo)
@[go_sem] theorem Zg9 (l:List Col):Wr l= .list false (l.map Xo):=Zk rfl rfl
def IN (c:Col):AM.Obj:= .cells [.p (.int .i64 c.typ),.p (.int .i64 c.set),.p (.int .i64 c.price),.p (.int .i64 c.route.typ),.p (.int .i64 c.route.start),.p (.list c.route.rests_c (c.route.rests.map eB)),.p (.list c.route.visits_c (c.route.visits.map Z7))]
def wF (n:Nat) (m:Int) (x:Inst) (fst:List (List Col)) (sk:List Int) (l:List (St×Int)):Prop:= ∀p∈l,StV n p.1/\p.2=Wc n m x fst sk 20 p.1
theorem Gu {P Q:Prop} (h:Q) (e:Q->P:=by intro h;simp (disch:=omega) only [YW,VN,BA,Zq,Zm,ZK,Zy,go_sem,seval];exact h):P:=e h
theorem Eu (x:Inst) (fst:List (List Col)) (sk:List Int) (fc sc:Bool) (m:Int) (hn:x.orders.length<=10) (hf:fst.length=x.orders.length) (hs:sk.length=x.orders.length) (hc:ChOk x.orders.length x fst sk) (hcl: ∀r∈fst,r.length<=1048576) :
  ∀(d:Nat) (s:St) (l:List (St×Int)),d<=20->StV x.orders.length s->(x.orders.length:Int)-s.ix<d->wF x.orders.length m x fst sk l ->
   ACalls Tryz.prog 121 [.ptr 1 0,.p (AZ s)] (YW x (.list fc (fst.map Wr)) (.list sc (sk.map eI)) m l) fun y H'=> ∃l',wF x.orders.length m x fst sk l'/\y= .p (.int .i64 (Wc x.orders.length m x fst sk 20 s))/\H'=YW x (.list fc (fst.map Wr)) (.list sc (sk.map eI)) m l'
 | 0,s,l,_,hv,hd,_=>by have:=hv.ix;omega
 | d+1,s,l,hd0,hv,hd,hl=>by
  have ih:=Eu x fst sk fc sc m hn hf hs hc hcl d;have hlR: ∀p∈l,StR p.1:=fun p hp=>(hl p hp).1.len;obtain ⟨i,v,a0,a1,a2,a3,a4,a5,rfl⟩:=YN hv.len;have hi:=hv.ix;simp only at hi hd;obtain ⟨i,rfl⟩: ∃k:Nat,i=k:=⟨i.toNat,Za⟩;obtain ⟨T,hT⟩: ∃T,T=Wc x.orders.length m x fst sk 20 ⟨i,v,[a0,a1,a2,a3,a4,a5]⟩:=⟨_,rfl⟩;rw [<- hT];refine Zf [] Tryz.func121 rfl zP ?_;simp (disch:=omega) only [Tryz.f121,YW,VN,Zq,Zm,go_sem,seval];refine Xn ?_;refine Zc ?_;refine cD ?_ ?_<;>intro h1<;>simp (disch:=omega) only [Sh.out h1,go_sem,seval]
  ·rw [Wc,if_pos Za] at hT;subst hT;exact ⟨_,_,wk,l,hl,rfl,rfl⟩
  ·refine Xn (Zc ?_);refine fV (G6 (k:=(⟨i,v,[a0,a1,a2,a3,a4,a5]⟩:St)) Pb hlR hv.len (by rfl)) (Zc ?_)
   cases hq:mq l (⟨i,v,[a0,a1,a2,a3,a4,a5]⟩:St) with
   | some w =>
    obtain ⟨_,hw⟩:=hl _ (Zcl hq);simp only at hw;rw [<- hw] at hT;subst hT;simp (disch:=omega) only [JY,JO,go_sem,seval];exact ⟨_,_,wk,l,hl,rfl,rfl⟩
   | none =>
    have hi2:i<fst.length:=Za
    have hi3:i<sk.length:=Za
    have hrl:=hcl _ (ZX hi2);simp (disch:=omega) only [Am,Option.getD_none,go_sem,seval];refine Xn (Zc ?_)
    let F:Int->Col->Int:=fun o c=>if YF x ⟨i,v,[a0,a1,a2,a3,a4,a5]⟩ c=true then YV o c.price (Wc x.orders.length m x fst sk 19 (VL x.orders.length m ⟨i,v,[a0,a1,a2,a3,a4,a5]⟩ c)) else o
    refine Zl [0,3,7,8,42,43] (fun q:Nat×List (St×Int)=> [(44,.p (.int .i64 q.1))]) (fun q=>YW x (.list fc (fst.map Wr)) (.list sc (sk.map eI)) m q.2++ [BA ⟨i,v,[a0,a1,a2,a3,a4,a5]⟩,.cells [.p (.int .i64 (((nth fst i).take q.1).foldl F (-1)))]]) (fun q=>q.1<=(nth fst i).length/\wF x.orders.length m x fst sk q.2) (fun q=>(nth fst i).length-q.1) (0,l) ⟨Zb,hl⟩ (Weak.mk ?_) ?_
    ·simp (disch:=omega) only [YW,VN,BA,Zq,Zm,ZK,Zy,QZ,Ux,go_sem,seval,↓reduceIte]
    ·rintro ⟨k,l1⟩ ⟨hk,hl1⟩;simp only at hk hl1;have hl1R: ∀p∈l1,StR p.1:=fun p hp=>(hl1 p hp).1.len;generalize hacc:((nth fst i).take k).foldl F (-1)=acc;refine Gu ?_;refine cD ?_ ?_<;>intro h2<;>simp (disch:=omega) only [Sh.out h2,go_sem,seval,↓reduceIte]
     ·have hk2:k<(nth fst i).length:=Za
      have hm:=ZX hk2
      have hs1:((nth fst i).take (k+1)).foldl F (-1)=F acc (nth (nth fst i) k):=by
       grind [X9,Zh]
      obtain ⟨⟨t0,t1⟩,⟨S,hS,hS2⟩,hb,hp0,hp1⟩:=hc.col i Za _ hm;obtain ⟨C,hC,hC2⟩:=hv.cov;simp only at hC;have h6:=hc.typ.1;obtain ⟨tt,htt⟩: ∃tt:Nat,(nth (nth fst i) k).typ=tt:=⟨(nth (nth fst i) k).typ.toNat,Za⟩;have cw:=mV x (.list fc (fst.map Wr)) (.list sc (sk.map eI)) m l1 ⟨i,v,[a0,a1,a2,a3,a4,a5]⟩ (nth (nth fst i) k) hv.len Zb hn (by grind) C S tt hC hS htt hC2 hS2 Za h6 hv.used
      have hmay:YF x ⟨i,v,[a0,a1,a2,a3,a4,a5]⟩ (nth (nth fst i) k)=Ec x ⟨i,v,[a0,a1,a2,a3,a4,a5]⟩ tt C S:=by grind [YF,XU]
      have hwc:VL x.orders.length m ⟨i,v,[a0,a1,a2,a3,a4,a5]⟩ (nth (nth fst i) k)=C0 x.orders.length m ⟨i,v,[a0,a1,a2,a3,a4,a5]⟩ tt C S:=by grind [VL]
      by_cases hy:Ec x ⟨i,v,[a0,a1,a2,a3,a4,a5]⟩ tt C S=true
      ·obtain ⟨v1,v2⟩:=EV (m:=m) hc hv (by grind) (by simpa using hm) (by grind);rw [hwc] at v1 v2;obtain ⟨j,w,b0,b1,b2,b3,b4,b5,hw⟩:=YN v1.len;rw [if_pos hy,hw] at cw;refine cw.useP (L:= [_,_,_]) (by rfl) ?_ (by rfl) (by rfl);refine BC ?_;refine Be [5] [1,2] [4] 6 mixed Ze Ze Ze Ze Zb (Zc ?_);refine ⟨fun q hq p hp=> ?_,?_⟩
       ·simp only [Z3,Y3,Wn] at hq;rcases hq with rfl | rfl
        ·obtain rfl:10=p:=Vc hp;exact VW (by decide)
        ·obtain rfl:57=p:=Vc hp;exact VW (by decide)
       ·have c3:=((ih ⟨j,w,[b0,b1,b2,b3,b4,b5]⟩ l1 Za (hw ▸ v1) (by grind) hl1).mono (fun y H' hq=>(⟨hq,by obtain ⟨l',_,_,rfl⟩:=hq;rfl⟩:_/\H'.length=(YW x (.list fc (fst.map Wr)) (.list sc (sk.map eI)) m l1).length))).front (by rfl) (by rfl) [BA ⟨i,v,[a0,a1,a2,a3,a4,a5]⟩,.cells [.p (.int .i64 acc)],IN (nth (nth fst i) k),BA ⟨j,w,[b0,b1,b2,b3,b4,b5]⟩];refine HA 5 _ Ze (by refine Zc ?_;exact c3) ?_;rintro y H' ⟨H1,⟨l2,hl2,rfl,rfl⟩,rfl⟩;refine ⟨fun k hk=>by simp at hk;subst hk;rfl,La ?_⟩;simp (disch:=omega) only [YW,VN,BA,IN,Zq,Zm,ZK,Zy,go_sem,seval]
        have hrg:=Ue (m:=m) hc 20 _ v1;rw [hw] at hrg;have c4:=(((Ml acc (nth (nth fst i) k).price (Wc x.orders.length m x fst sk 20 ⟨j,w,[b0,b1,b2,b3,b4,b5]⟩) Za Za).back [.map (l2.map (My AZ)),VN x (.list fc (fst.map Wr)) (.list sc (sk.map eI)) m,BA ⟨i,v,[a0,a1,a2,a3,a4,a5]⟩] (by rfl)).mono (fun y H' hq=>(⟨hq,by grind⟩:_/\H'.length=4))).front (by rfl) (by rfl) [IN (nth (nth fst i) k),BA ⟨j,w,[b0,b1,b2,b3,b4,b5]⟩];refine ACalls.mono c4 ?_;rintro y H' ⟨H1,⟨y1,H2,⟨rfl,rfl⟩,rfl,rfl⟩,rfl⟩;simp (disch:=omega) only [VN,BA,IN,Zq,Zm,ZK,Zy,shO,shVs,shV,go_sem,seval]
        have hF:F acc (nth (nth fst i) k)=YV acc (nth (nth fst i) k).price (Wc x.orders.length m x fst sk 20 ⟨j,w,[b0,b1,b2,b3,b4,b5]⟩):=by
         show (if _ then _ else _)=_
         rw [if_pos (by grind),hwc,Jj hc 19 20 _ v1 (by grind) (by grind),hw]
        exact ⟨(k+1,l2),⟨Za,hl2⟩,Za,Weak.mk (by simp (disch:=omega) only [hs1,hF,go_sem,seval])⟩
      ·rw [if_neg hy] at cw;refine cw.useP (L:= [_,_,_]) (by rfl) ?_ (by rfl) (by rfl);refine BC ?_;have hF:F acc (nth (nth fst i) k)=acc:=if_neg (by grind);exact ⟨(k+1,l1),⟨Za,hl1⟩,Za,Weak.mk (by simp (disch:=omega) only [hs1,hF,go_sem,seval])⟩
     ·have hkl:k=(nth fst i).length:=Za
      subst hkl;rw [YT] at hacc
      have hTe:T=if 0<=nth sk i then YV acc (nth sk i) (Wc x.orders.length m x fst sk 19 (Dr x.orders.length m ⟨i,v,[a0,a1,a2,a3,a4,a5]⟩)) else acc:=by
       rw [hT,show (20:Nat)=19+1 from rfl,Wc,if_neg Za,<- hacc]
       rfl
      refine Xn (Zc ?_);refine cD ?_ ?_<;>intro h3<;>simp (disch:=omega) only [Sh.out h3,go_sem,seval,↓reduceIte]
      ·have cn:=Ig x (.list fc (fst.map Wr)) (.list sc (sk.map eI)) m l1 ⟨i,v,[a0,a1,a2,a3,a4,a5]⟩ hv.len Zb hn (by grind);obtain ⟨v1,v2⟩:=Lf (m:=m) hv (by grind);obtain ⟨j,w,b0,b1,b2,b3,b4,b5,hw⟩:=YN v1.len;have hsk:=hc.skp i Za;have hrg:=Ue (m:=m) hc 20 _ v1;rw [hw] at cn v1 v2 hrg;simp only at v2;refine cn.useP (L:= [_,_]) (by rfl) ?_ (by rfl) (by rfl);refine BC ?_;have c3:=((ih ⟨j,w,[b0,b1,b2,b3,b4,b5]⟩ l1 Za v1 (by grind) hl1).mono (fun y H' hq=>(⟨hq,by obtain ⟨l',_,_,rfl⟩:=hq;rfl⟩:_/\H'.length=(YW x (.list fc (fst.map Wr)) (.list sc (sk.map eI)) m l1).length))).front (by rfl) (by rfl) [BA ⟨i,v,[a0,a1,a2,a3,a4,a5]⟩,.cells [.p (.int .i64 acc)]]
       refine ACalls.mono c3 ?_;rintro y H' ⟨H1,⟨l2,hl2,rfl,rfl⟩,rfl⟩;refine Gu ?_;refine ACalls.mono ((Ml acc (nth sk i) (Wc x.orders.length m x fst sk 20 ⟨j,w,[b0,b1,b2,b3,b4,b5]⟩) Za Za).back [.map (l2.map (My AZ)),VN x (.list fc (fst.map Wr)) (.list sc (sk.map eI)) m,BA ⟨i,v,[a0,a1,a2,a3,a4,a5]⟩] (by rfl)) ?_;rintro y H' ⟨y1,H2,⟨rfl,rfl⟩,rfl,rfl⟩;simp (disch:=omega) only [VN,BA,Zq,Zm,ZK,Zy,shO,shVs,shV,go_sem,seval];refine ZA 6 mixed Ze Ze ?_
       refine Zc ?_;refine Lr (l:=l2) (k:=(⟨i,v,[a0,a1,a2,a3,a4,a5]⟩:St)) Pb (fun p hp=>(hl2 p hp).1.len) hv.len (by rfl) fun l3 _ hl3=> ?_;simp (disch:=omega) only [ZZ,go_sem,seval];rw [if_pos h3,Jj hc 19 20 _ (by grind) (by grind) (by grind),hw] at hTe;rw [<- hTe];exact ⟨.p (.int .i64 T),_,wk,l3,fun p hp=>(hl3 p hp).elim (hl2 p) (fun e=>by grind),rfl,rfl⟩
      ·refine ZA 6 mixed Ze Ze (Zc ?_);refine Lr (l:=l1) (k:=(⟨i,v,[a0,a1,a2,a3,a4,a5]⟩:St)) Pb hl1R hv.len (by rfl) fun l3 _ hl3=> ?_;simp (disch:=omega) only [ZZ,go_sem,seval];rw [if_neg h3] at hTe;rw [<- hTe];exact ⟨.p (.int .i64 T),_,wk,l3,fun p hp=>(hl3 p hp).elim (hl1 p) (fun e=>by grind),rfl,rfl⟩
def LF (n:Nat) (m:Int) (x:Inst) (fst:List (List Col)) (sk:List Int) (s:St) (c:Col):Bool :=
 YF x s c&&(decide (0<=Wc n m x fst sk 20 (VL n m s c))&&decide (c.price+Wc n m x fst sk 20 (VL n m s c)=Wc n m x fst sk 20 s))
def Yv (n:Nat) (m:Int) (x:Inst) (fst:List (List Col)) (sk:List Int):Nat->St->List Col×List Int
 | 0,_=>([],[])
 | d+1,s=>if (n:Int)<=s.ix then ([],[]) else match (nth fst s.ix.toNat).find? (LF n m x fst sk s) with
  | some c=>(c::(Yv n m x fst sk d (VL n m s c)).1,(Yv n m x fst sk d (VL n m s c)).2)
  | none=>((Yv n m x fst sk d (Dr n m s)).1,s.ix::(Yv n m x fst sk d (Dr n m s)).2)
theorem MG {α:Type} [Inhabited α] {p:α->Bool} : ∀ {l:List α} {k:Nat},k<l.length->(∀j,j<k->p (nth l j)=false)->p (nth l k)=true->l.find? p=some (nth l k)
 | [],_,h,_,_=>by simp at h
 | a::l,0,_,_,h=>by
  grind [nth]
 | a::l,k+1,hk,h0,h=>by
  rw [List.find?_cons_of_neg (by rw [show p a=false from h0 0 Za];simp)];exact MG (l:=l) (k:=k) (by simpa using hk) (fun j hj=>h0 (j+1) Za) h
theorem qB {α:Type} [Inhabited α] {p:α->Bool} {l:List α} (h: ∀j,j<l.length->p (nth l j)=false):l.find? p=none:=by
 rw [Ak];intro a ha;obtain ⟨j,hj,rfl⟩:=ZT.1 ha
 grind [Zh]
theorem Zcx (X:AM.Obj) (hX: ∀H n,EX H n X X) (hX2: ∀o xs,RC o xs X=X) (x:Inst) (fst:List (List Col)) (sk:List Int) (fc sc:Bool) (m:Int) (hn:x.orders.length<=10) (hf:fst.length=x.orders.length) (hs:sk.length=x.orders.length) (hc:ChOk x.orders.length x fst sk) (hcl: ∀r∈fst,r.length<=1048576)
  (s:St) (l:List (St×Int)) (hv:StV x.orders.length s) (hl:wF x.orders.length m x fst sk l) :
  ACalls Tryz.prog 122 [.ptr 1 0,.p (AZ s)] (YW x (.list fc (fst.map Wr)) (.list sc (sk.map eI)) m l++ [X]) fun y H'=> ∃l' A B,wF x.orders.length m x fst sk l'/\(A,B)=Yv x.orders.length m x fst sk 20 s /\
   y= .tup [.sl 4 0 A.length A.length,.p (.list false (B.map eI))]/\H'=YW x (.list fc (fst.map Wr)) (.list sc (sk.map eI)) m l'++ [X,.cells (List.replicate 8 .junk),.elems 7 (A.map Xo)]:=by
 obtain ⟨i,v,a0,a1,a2,a3,a4,a5,rfl⟩:=YN hv.len;obtain ⟨D,hD⟩: ∃D,D=20:=⟨20,rfl⟩;obtain ⟨R,hR⟩: ∃R,R=Yv x.orders.length m x fst sk D ⟨i,v,[a0,a1,a2,a3,a4,a5]⟩:=⟨_,rfl⟩;rw [<- hD,<- hR];have hi0:=hv.ix;simp only at hi0;refine Zf [20] Tryz.func122 rfl zQ ?_;simp (disch:=omega) only [Tryz.f122,ZK,Zy,YW,VN,Zq,Zm,go_sem,seval]
 refine Z2 [20] [0,3] (fun q:Nat×St×List (St×Int)×List Col×List Int=> [(6,.sl 4 0 q.2.2.2.1.length q.2.2.2.1.length),(7,.sl 5 0 q.2.2.2.2.length q.2.2.2.2.length)])
  (fun q=>YW x (.list fc (fst.map Wr)) (.list sc (sk.map eI)) m q.2.2.1++ [X,BA q.2.1,.elems 7 (q.2.2.2.1.map Xo),.elems 1 (q.2.2.2.2.map eI)])
  (fun q=>q.1<=D/\StV x.orders.length q.2.1/\(x.orders.length:Int)-q.2.1.ix<q.1/\wF x.orders.length m x fst sk q.2.2.1/\(q.2.2.2.1.length:Int)<=q.2.1.ix/\(q.2.2.2.2.length:Int)<=q.2.1.ix/\R=(q.2.2.2.1++(Yv x.orders.length m x fst sk q.1 q.2.1).1,q.2.2.2.2++(Yv x.orders.length m x fst sk q.1 q.2.1).2))
  (fun q=>q.1) (D,⟨i,v,[a0,a1,a2,a3,a4,a5]⟩,l,[],[]) ⟨Zb,hv,by grind,hl,by grind,by grind,by rw [hR];rfl⟩
  (Weak.ofNil 6 7 (by simp (disch:=omega) only [go_sem,seval]) Zb (Weak.ofNil 7 1 (by simp (disch:=omega) only [go_sem,seval]) Zb (Weak.mk ?_))) ?_
 ·simp (disch:=omega) only [hX,YW,VN,BA,Zq,Zm,ZK,Zy,ZE,go_sem,seval,↓reduceIte]
 ·rintro ⟨d,s,l1,A,B⟩ ⟨hd1,hsv,hd,hl1,hA,hB,hq⟩;simp only at hd1 hsv hd hl1 hA hB hq;clear hv hR hi0;obtain ⟨i,v,a0,a1,a2,a3,a4,a5,rfl⟩:=YN hsv.len;have hi0:=hsv.ix;simp only at hi0 hd hA hB hq;obtain ⟨i,rfl⟩: ∃k:Nat,i=k:=⟨i.toNat,Za⟩;obtain ⟨d,rfl⟩: ∃k,d=k+1:=⟨d-1,Za⟩;refine Gu ?_;refine Xn ?_;refine Zc ?_;refine cD ?_ ?_<;>intro h1<;>simp (disch:=omega) only [Sh.out h1,go_sem,seval,↓reduceIte]
  ·have hi2:i<fst.length:=Za
   have hrl:=hcl _ (ZX hi2);have c3:=((Eu x fst sk fc sc m hn hf hs hc hcl 20 ⟨i,v,[a0,a1,a2,a3,a4,a5]⟩ l1 Za hsv (by grind) hl1).mono (fun y H' hq=>(⟨hq,by obtain ⟨l',_,_,rfl⟩:=hq;rfl⟩:_/\H'.length=(YW x (.list fc (fst.map Wr)) (.list sc (sk.map eI)) m l1).length))).front (by rfl) (by rfl) [X,BA ⟨i,v,[a0,a1,a2,a3,a4,a5]⟩,.elems 7 (A.map Xo),.elems 1 (B.map eI)];refine ACalls.mono c3 ?_;rintro y H' ⟨H1,⟨l2,hl2,rfl,rfl⟩,rfl⟩;clear hl1 c3;obtain ⟨W,hW⟩: ∃W,W=Wc x.orders.length m x fst sk 20 ⟨i,v,[a0,a1,a2,a3,a4,a5]⟩:=⟨_,rfl⟩
   rw [<- hW]
   have hWr: -1<=W/\W<=20*18014398509481984:=by rw [hW];exact Ue hc 20 _ hsv
   refine Gu ?_;refine Xn (Zc ?_);refine Zl [0,3,7,8,34,35] (fun q:Nat×List (St×Int)=> [(6,.sl 4 0 A.length A.length),(9,.p (.bool false)),(36,.p (.int .i64 q.1))]) (fun q=>YW x (.list fc (fst.map Wr)) (.list sc (sk.map eI)) m q.2++ [X,BA ⟨i,v,[a0,a1,a2,a3,a4,a5]⟩,.elems 7 (A.map Xo),.elems 1 (B.map eI)]) (fun q=>q.1<=(nth fst i).length/\wF x.orders.length m x fst sk q.2/\ ∀j,j<q.1->LF x.orders.length m x fst sk ⟨i,v,[a0,a1,a2,a3,a4,a5]⟩ (nth (nth fst i) j)=false) (fun q=>(nth fst i).length-q.1) (0,l2) ⟨Zb,hl2,fun j hj=>by simp at hj⟩ (Weak.mk ?_) ?_
   ·simp (disch:=omega) only [hX,YW,VN,BA,Zq,Zm,ZK,Zy,go_sem,seval,↓reduceIte]
   ·rintro ⟨k,l1⟩ ⟨hk,hl1,hno⟩;simp only at hk hl1 hno;refine Gu ?_;refine cD ?_ ?_<;>intro h2<;>simp (disch:=omega) only [Sh.out h2,go_sem,seval,↓reduceIte]
    ·have hk2:k<(nth fst i).length:=Za
     have hm:=ZX hk2;obtain ⟨⟨t0,t1⟩,⟨S,hS,hS2⟩,hb,hp0,hp1⟩:=hc.col i Za _ hm;obtain ⟨C,hC,hC2⟩:=hsv.cov;simp only at hC;have h6:=hc.typ.1;obtain ⟨tt,htt⟩: ∃tt:Nat,(nth (nth fst i) k).typ=tt:=⟨(nth (nth fst i) k).typ.toNat,Za⟩;have cw:=mV x (.list fc (fst.map Wr)) (.list sc (sk.map eI)) m l1 ⟨i,v,[a0,a1,a2,a3,a4,a5]⟩ (nth (nth fst i) k) hsv.len Zb hn (by grind) C S tt hC hS htt hC2 hS2 Za h6 hsv.used
     have hmay:YF x ⟨i,v,[a0,a1,a2,a3,a4,a5]⟩ (nth (nth fst i) k)=Ec x ⟨i,v,[a0,a1,a2,a3,a4,a5]⟩ tt C S:=by grind [YF]
     have hwc:VL x.orders.length m ⟨i,v,[a0,a1,a2,a3,a4,a5]⟩ (nth (nth fst i) k)=C0 x.orders.length m ⟨i,v,[a0,a1,a2,a3,a4,a5]⟩ tt C S:=by grind [VL]
     have more:LF x.orders.length m x fst sk ⟨i,v,[a0,a1,a2,a3,a4,a5]⟩ (nth (nth fst i) k)=false-> ∀j,j<k+1->LF x.orders.length m x fst sk ⟨i,v,[a0,a1,a2,a3,a4,a5]⟩ (nth (nth fst i) j)=false:=fun h j hj=>by
      grind
     by_cases hy:Ec x ⟨i,v,[a0,a1,a2,a3,a4,a5]⟩ tt C S=true
     ·obtain ⟨v1,v2⟩:=EV (m:=m) hc hsv Za (by simpa using hm) (by grind);rw [hwc] at v1 v2;obtain ⟨j,w,b0,b1,b2,b3,b4,b5,hw⟩:=YN v1.len;rw [if_pos hy,hw] at cw;refine cw.useP (L:= [_,_,_,_,_]) (by rfl) ?_ (by rfl) (by rfl);refine BC ?_;have c3:=((Eu x fst sk fc sc m hn hf hs hc hcl 20 ⟨j,w,[b0,b1,b2,b3,b4,b5]⟩ l1 Za (hw ▸ v1) (by grind) hl1).mono (fun y H' hq=>(⟨hq,by obtain ⟨l',_,_,rfl⟩:=hq;rfl⟩:_/\H'.length=(YW x (.list fc (fst.map Wr)) (.list sc (sk.map eI)) m l1).length))).front (by rfl) (by rfl) [X,BA ⟨i,v,[a0,a1,a2,a3,a4,a5]⟩,.elems 7 (A.map Xo),.elems 1 (B.map eI),IN (nth (nth fst i) k),BA ⟨j,w,[b0,b1,b2,b3,b4,b5]⟩]
      refine ACalls.mono c3 ?_;rintro y H' ⟨H1,⟨l3,hl3,rfl,rfl⟩,rfl⟩;have hTr:=Ue (m:=m) hc 20 _ v1
      have hsel:LF x.orders.length m x fst sk ⟨i,v,[a0,a1,a2,a3,a4,a5]⟩ (nth (nth fst i) k)=(decide (0<=Wc x.orders.length m x fst sk 20 ⟨j,w,[b0,b1,b2,b3,b4,b5]⟩)&&decide ((nth (nth fst i) k).price+Wc x.orders.length m x fst sk 20 ⟨j,w,[b0,b1,b2,b3,b4,b5]⟩=W)):=by
       rw [LF,hmay,hy,hwc,hw,hW,VC]
      rw [hw] at hTr;generalize Wc x.orders.length m x fst sk 20 ⟨j,w,[b0,b1,b2,b3,b4,b5]⟩=T at hTr hsel;simp (disch:=omega) only [YW,VN,BA,IN,Zq,Zm,ZK,Zy,go_sem,seval];refine gT ?_ ?_<;>intro h3<;>simp (disch:=omega) only [Sh.out h3,go_sem,seval,↓reduceIte]
      ·refine cD ?_ ?_<;>intro h4<;>simp (disch:=omega) only [Sh.out h4,go_sem,seval,↓reduceIte]
       ·rw [Q0 h3,Q0 h4,VC] at hsel
        have hp:Yv x.orders.length m x fst sk (d+1) ⟨i,v,[a0,a1,a2,a3,a4,a5]⟩=(nth (nth fst i) k::(Yv x.orders.length m x fst sk d ⟨j,w,[b0,b1,b2,b3,b4,b5]⟩).1,(Yv x.orders.length m x fst sk d ⟨j,w,[b0,b1,b2,b3,b4,b5]⟩).2):=by
         rw [Yv,if_neg (by grind)];simp only [XU,MG hk2 hno hsel,hwc,hw]
        rw [hw] at v1 v2;simp only at v2;rw [hp] at hq;exact ⟨(d,⟨j,w,[b0,b1,b2,b3,b4,b5]⟩,l3,A++ [nth (nth fst i) k],B),⟨Za,v1,by grind,hl3,by grind,by grind,by grind⟩,Za,Weak.mk (by simp (disch:=omega) only [hX,Zq,Zm,XG,ZH,ZB,ZE,Xj,go_sem,seval])⟩
       ·rw [JZ h4,Bool.and_false] at hsel;exact ⟨(k+1,l3),⟨Za,hl3,more hsel⟩,Za,Weak.mk (by simp (disch:=omega) only [hX,go_sem,seval])⟩
      ·rw [JZ h3,Qv] at hsel;exact ⟨(k+1,l3),⟨Za,hl3,more hsel⟩,Za,Weak.mk (by simp (disch:=omega) only [hX,go_sem,seval])⟩
     ·rw [if_neg hy] at cw;refine cw.useP (L:= [_,_,_,_,_]) (by rfl) ?_ (by rfl) (by rfl);refine BC ?_;exact ⟨(k+1,l1),⟨Za,hl1,more (by rw [LF,hmay,Bool.eq_false_iff.2 hy,Qv])⟩,Za,Weak.mk (by simp (disch:=omega) only [hX,go_sem,seval])⟩
    ·have hkl:k=(nth fst i).length:=Za
     subst hkl
     have hp:Yv x.orders.length m x fst sk (d+1) ⟨i,v,[a0,a1,a2,a3,a4,a5]⟩=((Yv x.orders.length m x fst sk d (Dr x.orders.length m ⟨i,v,[a0,a1,a2,a3,a4,a5]⟩)).1,(i:Int)::(Yv x.orders.length m x fst sk d (Dr x.orders.length m ⟨i,v,[a0,a1,a2,a3,a4,a5]⟩)).2):=by
      simp_all [Yv,qB]
     rw [hp] at hq;have cn:=Ig x (.list fc (fst.map Wr)) (.list sc (sk.map eI)) m l1 ⟨i,v,[a0,a1,a2,a3,a4,a5]⟩ hsv.len Zb hn (by grind);obtain ⟨v1,v2⟩:=Lf (m:=m) hsv Za;obtain ⟨j,w,b0,b1,b2,b3,b4,b5,hw⟩:=YN v1.len;rw [hw] at cn v1 v2 hq;simp only at v2;refine cn.useP (L:= [_,_,_,_,_]) (by rfl) ?_ (by rfl) (by rfl);refine BC ?_;exact ⟨(d,⟨j,w,[b0,b1,b2,b3,b4,b5]⟩,l1,A,B++ [(i:Int)]),⟨Za,v1,by grind,hl1,by grind,by grind,by grind⟩,Za,Weak.mk (by simp (disch:=omega) only [hX,Zq,Zm,XG,ZH,ZB,ZE,Xj,go_sem,seval])⟩
  ·rw [Yv,if_pos (by grind)] at hq;simp only [Wl] at hq;subst hq;refine Zp (Weak.fz (o:=5) (by rfl)) (Zg [] _ _ _ _ (UH ?_));exact ⟨.tup [.sl 4 0 A.length A.length,.p (.list false (B.map eI))],_,Weak.mk (by simp (disch:=omega) only [hX,hX2,go_sem,seval]),l1,A,B,hl1,rfl,rfl,rfl⟩
def IW (a:List Int) (i:Nat):Nat->Bool
 | 0=>true
 | k+1=>IW a i k&&decide (nth a k≠nth a i)
theorem MM {a:List Int} {i:Nat} : ∀k,IW a i k=true↔ ∀t,t<k->nth a t≠nth a i
 | 0=>by simp [IW]
 | k+1=>by
  rw [IW,ZF,MM k,Zs]
  grind
def TH (a:List Int) (i:Nat):Bool:=IW a i i
theorem B3 {a:List Int} {i:Nat} :TH a i=true↔ ∀t,t<i->nth a t≠nth a i:=MM i
def K2 (l:List Col) (a:List Int) (T:Int) (i:Nat):Bool:=decide (0<=nth a i)&&(decide ((nth l (nth a i).toNat).typ=T)&&TH a i)
def usdI (l:List Col) (a:List Int) (T:Int):Nat->Nat
 | 0=>0
 | i+1=>usdI l a T i+(if K2 l a T i=true then 1 else 0)
def VJ (S:Nat) (a:List Int) (j:Int):List Int:=(List.range a.length).map fun i=>if S.testBit i=true then j else nth a i
theorem Uk {S:Nat} {a:List Int} {j:Int} :(VJ S a j).length=a.length:=by simp [VJ]
theorem Xx {S:Nat} {a:List Int} {j:Int} {i:Nat} (h:i<a.length):nth (VJ S a j) i=if S.testBit i=true then j else nth a i:=by
 grind [VJ,Zh]
def rL (S:Nat) (a:List Int) (k:Nat):Bool:=(List.range a.length).all fun i=> !S.testBit i||(decide (nth a i<0)&&decide (k<=i))
theorem J1 {S:Nat} {a:List Int} {k:Nat} :rL S a k=true↔ ∀i,i<a.length->S.testBit i=true->nth a i<0/\k<=i:=by
 simp only [rL,Zz,ZL,Vb,XT,ZF,Zs]
 grind
def Ki (x:Inst) (l:List Col) (a:List Int) (j k:Nat):Bool :=
 (nth l j).set.toNat.testBit k&&(decide ((usdI l a (nth l j).typ a.length:Int)<(nth x.types (nth l j).typ.toNat).count)&&rL (nth l j).set.toNat a k)
def skR (x:Inst) (k:Nat):Int:=(Yz (unsF x k).1).1
def Q6 (x:Inst) (l:List Col):Nat->List Int->Int->List (List Int×Int)
 | 0,a,p=> [(a,p)]
 | d+1,a,p=>if (nth x.orders (x.orders.length-(d+1))).off=true\/0<=nth a (x.orders.length-(d+1)) then Q6 x l d a p else
  ((List.range l.length).flatMap fun j=>if Ki x l a j (x.orders.length-(d+1))=true then Q6 x l d (VJ (nth l j).set.toNat a j) (p+(nth l j).price) else []) ++
   (if 0<=(nth x.orders (x.orders.length-(d+1))).penalty then Q6 x l d a (p+skR x (x.orders.length-(d+1))) else [])
theorem IC (n:Nat) (hn:n<=60):PC 52 [.p (.int .i64 n)] (.int .i64 (pw n:Nat)):=by
 refine Zd Tryz.func52 rfl Zh4 ?_;simp (disch:=omega) only [Tryz.f52,go_sem,seval];refine Zl [0] (fun k:Nat=> [(3,.p (.int .i64 (pw k:Nat))),(4,.p (.int .i64 k))]) (fun _=> []) (fun k=>k<=n) (fun k=>n-k) 0 Zb (Weak.mk ?_) ?_
 ·refine Zc ?_;simp [pw]
 ·intro k hk;have h62:pw k<=pw 62:=Kf Za;have h63:k<n->pw (k+1)<=pw 62:=fun h=>Kf Za;have h64:=EP k;have h65:=F6;refine Zc ?_;refine cD ?_ ?_<;>intro h<;>simp (disch:=omega) only [Sh.out h,go_sem,seval,↓reduceIte]
  ·exact ⟨k+1,Za,Za,Weak.mk (by refine Zc ?_;simp [h64])⟩
  grind
theorem I1 (s:Nat) (i:Nat) (hs:s<9223372036854775808) (hi:i<=64):PC 130 [.p (.int .i64 s),.p (.int .i64 i)] (.bool (s.testBit i)):=by
 refine Zd Tryz.func130 rfl zX ?_;simp (disch:=omega) only [Tryz.f130,go_sem,seval];refine Zl [1] (fun k:Nat=> [(0,.p (.int .i64 (hv s k:Nat))),(5,.p (.int .i64 k))]) (fun _=> []) (fun k=>k<=i) (fun k=>i-k) 0 Zb (Weak.mk ?_) ?_
 ·simp (disch:=omega) only [RH,go_sem,seval]
 ·intro k hk;have e1:=RG s k;have h1:=vC s k;refine Zc ?_;refine ZO ?_ ?_<;>intro h
  ·exact ⟨k+1,Za,Za,Weak.mk (by refine Zc ?_;grind)⟩
  ·have:k=i:=Za
   subst this;rw [iM]
   have:((hv s k:Nat):Int)%2=1↔hv s k%2=1:=Za
   grind
structure Chc where
 found:Bool
 places:List Int
 price:Int
 deriving Inhabited
def UG (x:Inst) (lc:Bool) (l:List Col) (b:Chc):AM.Obj:= .cells [.p (.list x.net.places_c (x.net.places.map eS)),.p (.list x.net.arcs_c (x.net.arcs.map VO)),.p (.list x.types_c (x.types.map X1)),.p (.list x.orders_c (x.orders.map Yg)),.p (.list x.apart_c (x.apart.map eP)),.p (.list x.before_c (x.before.map eP)),.p (.list lc (l.map Xo)),.p (.bool b.found),.p (.list (!b.found) (b.places.map eI)),.p (.int .i64 b.price)]
theorem SG {l:List Col} {a:List Int} {T:Int} : ∀m,usdI l a T m<=m
 | 0=>ZD _
 | m+1=>by
  have:=SG (l:=l) (a:=a) (T:=T) m;rw [usdI];split<;>omega
theorem CX {P Q:Prop} (h:Q) (e:Q->P:=by intro h;simp (disch:=omega) only [UG,go_sem,seval];exact h):P:=e h
theorem mO (x:Inst) (lc:Bool) (l:List Col) (b:Chc) (a:List Int) (T:Int) (ha:a.length<=1048576) (hr: ∀i,i<a.length-> -1<=nth a i/\nth a i<l.length) (hl:l.length<=1048576) :
  ACalls Tryz.prog 132 [.ptr 0 0,.p (.list false (a.map eI)),.p (.int .i64 T)] [UG x lc l b] fun y H'=>y= .p (.int .i64 (usdI l a T a.length:Nat))/\H'= [UG x lc l b]:=by
 refine Zf [] Tryz.func132 rfl zZ ?_;simp (disch:=omega) only [Tryz.f132,UG,go_sem,seval];refine Zl [0,1,2] (fun k:Nat=> [(7,.p (.int .i64 (usdI l a T k:Nat))),(8,.p (.int .i64 k))]) (fun _=> [UG x lc l b]) (fun k=>k<=a.length) (fun k=>a.length-k) 0 Zb (Weak.mk ?_) ?_
 ·have h00:((usdI l a T 0:Nat):Int)=0:=rfl;simp (disch:=omega) only [h00,UG,go_sem,seval,↓reduceIte]
 ·intro k hk;have hu:=SG (l:=l) (a:=a) (T:=T) k;refine CX ?_;refine cD ?_ ?_<;>intro h1<;>simp (disch:=omega) only [Sh.out h1,go_sem,seval,↓reduceIte]
  ·have hk2:k<a.length:=Za
   have hrk:=hr k hk2;refine Xn (Zc ?_);refine gF ?_ ?_<;>intro h2<;>simp (disch:=omega) only [Sh.out h2,go_sem,seval,↓reduceIte]
   ·have e:usdI l a T (k+1)=usdI l a T k:=by grind [usdI,K2]
    exact ⟨k+1,Za,Za,Weak.mk (by simp (disch:=omega) only [e,go_sem,seval])⟩
   ·refine cD ?_ ?_<;>intro h3<;>simp (disch:=omega) only [Sh.out h3,go_sem,seval,↓reduceIte]
    ·have e:usdI l a T (k+1)=usdI l a T k:=by grind [usdI,K2]
     exact ⟨k+1,Za,Za,Weak.mk (by simp (disch:=omega) only [e,go_sem,seval])⟩
    ·have h3':(nth l (nth a k).toNat).typ=T:=Z4.1 h3;refine Zl [0,1,2,7,8] (fun q:Nat=> [(9,.p (.bool (IW a k q))),(10,.p (.int .i64 q))]) (fun _=> [UG x lc l b]) (fun q=>q<=k) (fun q=>k-q) 0 Zb (Weak.mk ?_) ?_
     ·simp (disch:=omega) only [UG,IW,go_sem,seval,↓reduceIte]
     ·intro q hq;refine CX ?_;refine cD ?_ ?_<;>intro h4<;>simp (disch:=omega) only [Sh.out h4,go_sem,seval,↓reduceIte]
      ·refine ZA 12 mixed Ze Ze (Zc ?_);refine gT ?_ ?_<;>intro h5<;>simp (disch:=omega) only [Sh.out h5,go_sem,seval,↓reduceIte]
       ·exact ⟨q+1,Za,Za,Weak.mk (by simp (disch:=omega) only [IW,h5,VC,go_sem,seval])⟩
       ·exact ⟨q+1,Za,Za,Weak.mk (by simp (disch:=omega) only [IW,h5,Qv,go_sem,seval])⟩
      ·have hqk:q=k:=Za
       subst hqk;refine cD ?_ ?_<;>intro h5<;>simp (disch:=omega) only [Sh.out h5,go_sem,seval,↓reduceIte]
       ·have e:usdI l a T (q+1)=usdI l a T q+1:=by grind [usdI,K2,TH]
        exact ⟨q+1,Za,Za,Weak.mk (by simp (disch:=omega) only [e,go_sem,seval])⟩
       ·have e:usdI l a T (q+1)=usdI l a T q:=by grind [usdI,K2,TH]
        exact ⟨q+1,Za,Za,Weak.mk (by simp (disch:=omega) only [e,go_sem,seval])⟩
  ·have hka:k=a.length:=Za
   subst hka;exact we
def KT (S:Nat) (a:List Int) (j:Int) (k:Nat):List Int:=(List.range a.length).map fun t=>if t<k/\S.testBit t=true then j else nth a t
theorem Ul {S:Nat} {a:List Int} {j:Int} {k:Nat} :(KT S a j k).length=a.length:=by simp [KT]
theorem KU {S:Nat} {a:List Int} {j:Int} {k i:Nat} (h:i<a.length):nth (KT S a j k) i=if i<k/\S.testBit i=true then j else nth a i:=by
 grind [KT,Zh]
theorem bG {S:Nat} {a:List Int} {j:Int} :KT S a j 0=a :=
 Qa Ul fun i hi=>by simp_all [Ul,KU]
theorem lU {S:Nat} {a:List Int} {j:Int} :KT S a j a.length=VJ S a j :=
 Qa (by rw [Ul,Uk]) fun i hi=>by grind [Ul,KU,Xx]
theorem lV {S:Nat} {a:List Int} {j:Int} {k:Nat} (hk:k<a.length) (hb:S.testBit k=true):(KT S a j k).set k j=KT S a j (k+1) :=
 Qa (by simp [Ul]) fun i hi=>by
  rw [Qx,Ul] at hi;rw [Cw (by rw [Ul];exact hk),KU hi,KU hi]
  grind
theorem sW {S:Nat} {a:List Int} {j:Int} {k:Nat} (hb:S.testBit k=false):KT S a j (k+1)=KT S a j k:=by
 refine WW fun i _=> ?_
 grind
theorem mU (x:Inst) (lc:Bool) (l:List Col) (b:Chc) (a:List Int) (j k:Nat) (ha:0<a.length/\a.length<=60) (hl:l.length<=1048576) (hj:j<l.length) (S:Nat) (hS:(nth l j).set=S) (hS2:S<9223372036854775808) :
  ACalls Tryz.prog 133 [.ptr 0 0,.p (.list false (a.map eI)),.p (.int .i64 j),.p (.int .i64 k)] [UG x lc l b] fun y H'=>y=(if rL S a k=true then .tup [.p (.list false ((VJ S a j).map eI)),.p (.bool true)] else .tup [.p (.list true []),.p (.bool false)])/\H'= [UG x lc l b]:=by
 refine Zf [10] Tryz.func133 rfl Zaa ?_;simp (disch:=omega) only [Tryz.f133,UG,go_sem,seval];rw [if_pos ⟨Za,Za⟩];refine Zc ?_;refine Z2 [10] [0,2,3,10] (fun q:Nat=> [(11,.p (.int .i64 q))]) (fun q=> [UG x lc l b,.elems 1 ((KT S a j q).map eI)]) (fun q=>q<=a.length/\ ∀t,t<q->S.testBit t=true->nth a t<0/\k<=t) (fun q=>a.length-q) 0 ⟨Zb,fun t ht=>Za⟩ (Weak.mk ?_) ?_
 ·simp (disch:=omega) only [bG,UG,go_sem,seval,↓reduceIte]
 ·rintro q ⟨hq,hok⟩;have hul:(KT S a j q).length=a.length:=Ul;refine CX ?_;rw [if_pos hul];refine Zc ?_;refine cD ?_ ?_<;>intro h1<;>simp (disch:=omega) only [Sh.out h1,go_sem,seval,↓reduceIte]
  ·have hq2:q<a.length:=Za
   rw [hS];refine (I1 S q hS2 Za).use (Zc ?_);have hn:=KU (S:=S) (j:=(j:Int)) (k:=q) hq2;rw [if_neg Za] at hn;refine cD ?_ ?_<;>intro h2<;>simp (disch:=omega) only [Sh.out h2,go_sem,seval,↓reduceIte]
   ·have hq3:q<(KT S a j q).length:=Za
    simp (disch:=first | omega | (simp only [ZB,ZE,ZH,Z0,Xr,XF]<;>omega)) only [UO hq3,hn,hq2,hul,eq_self,go_sem,seval,↓reduceIte];refine gF ?_ ?_<;>intro h3<;>simp (disch:=omega) only [Sh.out h3,go_sem,seval,↓reduceIte]
    ·have hno:rL S a k=false:=by
      grind [J1]
     exact ⟨.tup [.p (.list true []),.p (.bool false)],_,wk,by rw [hno];rfl,rfl⟩
    ·refine cD ?_ ?_<;>intro h4<;>simp (disch:=omega) only [Sh.out h4,go_sem,seval]
     ·have hno:rL S a k=false:=by
       grind [J1]
      exact ⟨.tup [.p (.list true []),.p (.bool false)],_,wk,by rw [hno];rfl,rfl⟩
     ·have ZP:((KT S a j q).map eI).set q (.int .i64 j)=(KT S a j (q+1)).map eI:=by rw [<- lV hq2 h2,UQ];rfl
      simp (disch:=first | omega | (simp only [ZB,ZE,ZH,Z0,Xr,XF]<;>omega)) only [ZP,hn,eq_self,go_sem,seval,↓reduceIte]
      exact ⟨q+1,⟨Za,fun t ht hb=>by
       grind⟩,Za,wk⟩
   ·have hu:KT S a j (q+1)=KT S a j q:=sW h2
    exact ⟨q+1,⟨Za,fun t ht hb=>by
     grind⟩,Za,Weak.mk (by simp (disch:=omega) only [hu,go_sem,seval])⟩
  ·have hqa:q=a.length:=Za
   subst hqa;have hyes:rL S a k=true:=J1.2 hok;rw [hyes,if_pos rfl,lU];have hal:(VJ S a j).length=a.length:=Uk;refine Zp (Weak.fz (o:=1) (by rfl)) ?_;refine Zg [] _ _ _ _ ?_;simp (disch:=omega) only [Zq,Zm,Z8,ZZ,hal,eq_self,go_sem,seval];exact ⟨.tup [.p (.list false ((VJ S a j).map eI)),.p (.bool true)],_,wk,rfl,rfl⟩
def Kh (l:List Col):List Int->List Int->Option Bool
 | x::a,y::b=>if x=y then Kh l a b else if x<0\/y<0 then some (decide (0<=x)) else if (nth l x.toNat).typ≠(nth l y.toNat).typ then some (decide ((nth l x.toNat).typ<(nth l y.toNat).typ)) else
   if (nth l x.toNat).set≠(nth l y.toNat).set then some (decide ((nth l x.toNat).set<(nth l y.toNat).set)) else Kh l a b
 | _,_=>none
def D4 : List Int->List Int->Bool
 | x::a,y::b=>if x=y then D4 a b else decide (x<y)
 | _,_=>false
def Fg (l:List Col) (a b:List Int):Bool:=match Kh l a b with
 | some r=>r
 | none=>D4 a b
theorem Mi {l:List Col} :Kh l [] []=none:=by simp [Kh]
theorem dW : D4 [] []=false:=by simp [D4]
theorem Rr {α:Type} [Inhabited α] {l:List α} {k:Nat} (h:k<l.length):l.drop k=nth l k::l.drop (k+1):=by
 grind [Zh,VX]
theorem Jb {l:List Col} {a b:List Int} {r:Bool} (h:Kh l a b=some r):Fg l a b=r:=by rw [Fg,h]
theorem G9 {l:List Col} {a b:List Int} (h:Kh l a b=none):Fg l a b=D4 a b:=by rw [Fg,h]
def cO (c:Col):AM.Obj:= .cells ((Xo c).cells.map .p)
theorem OB (x:Inst) (lc:Bool) (l:List Col) (b:Chc) (a d:List Int) (dc:Bool) (ha:a.length<=1048576) (hd:d.length=a.length) (hr: ∀i,i<a.length-> -1<=nth a i/\nth a i<l.length) (hq: ∀i,i<a.length-> -1<=nth d i/\nth d i<l.length) (hl:l.length<=1048576) :
  ACalls Tryz.prog 131 [.ptr 0 0,.p (.list false (a.map eI)),.p (.list dc (d.map eI))] [UG x lc l b] fun y H'=>y= .p (.bool (Fg l a d))/\H'= [UG x lc l b]:=by
 obtain ⟨B,hB⟩: ∃B,B=Fg l a d:=⟨_,rfl⟩;rw [<- hB];refine Zf [] Tryz.func131 rfl zY ?_;simp (disch:=omega) only [Tryz.f131,UG,go_sem,seval];refine Zl [0,1,2] (fun k:Nat=> [(7,.p (.int .i64 k))]) (fun _=> [UG x lc l b]) (fun k=>k<=a.length/\Kh l (a.drop k) (d.drop k)=Kh l a d) (fun k=>a.length-k) 0 Zb (Weak.mk ?_) ?_
 ·simp (disch:=omega) only [UG,go_sem,seval,↓reduceIte]
 ·rintro k ⟨hk,hb⟩;refine CX ?_;refine cD ?_ ?_<;>intro h1<;>simp (disch:=omega) only [Sh.out h1,go_sem,seval,↓reduceIte]
  ·have hk2:k<a.length:=Za
   have hk3:k<d.length:=Za
   have hrk:=hr k hk2;have hqk:=hq k hk2;rw [Rr hk2,Rr hk3,Kh] at hb;refine Xn (Zc ?_);refine cD ?_ ?_<;>intro h2<;>simp (disch:=omega) only [Sh.out h2,go_sem,seval,↓reduceIte]
   ·rw [if_pos h2] at hb;exact ⟨k+1,⟨Za,hb⟩,Za,wk⟩
   ·rw [if_neg h2] at hb;refine gF ?_ ?_<;>intro h3<;>simp (disch:=omega) only [Sh.out h3,go_sem,seval,↓reduceIte]
    ·rw [if_pos (.inl h3)] at hb;have e:=Jb hb.symm;exact ⟨.p (.bool B),_,Weak.mk (by simp (disch:=omega) only [hB,e,go_sem,seval]),rfl,rfl⟩
    ·refine cD ?_ ?_<;>intro h4<;>simp (disch:=omega) only [Sh.out h4,go_sem,seval,↓reduceIte]
     ·rw [if_pos (.inr h4)] at hb;have e:=Jb hb.symm;exact ⟨.p (.bool B),_,Weak.mk (by simp (disch:=omega) only [hB,e,go_sem,seval]),rfl,rfl⟩
     ·rw [if_neg Za] at hb;refine XY [10] 11 mixed Ze Ze Ze Zb (Zc ?_);refine Xq 10 _ _ Ze (by refine Zc ?_;exact ⟨rfl,rfl⟩) (Ws ?_);refine Zc ?_;refine XY [10] 11 mixed Ze Ze Ze Zb (Zc ?_);refine Xq 10 _ _ Ze (by refine Zc ?_;exact ⟨rfl,rfl⟩) (Ws ?_);refine Zc ?_;refine cD ?_ ?_<;>intro h5<;>simp (disch:=omega) only [Sh.out h5,go_sem,seval,↓reduceIte]
      ·rw [if_pos h5] at hb;have e:=Jb hb.symm;exact ⟨.p (.bool B),_,Weak.mk (by simp (disch:=omega) only [hB,e,go_sem,seval]),rfl,rfl⟩
      ·rw [if_neg h5] at hb;refine cD ?_ ?_<;>intro h6<;>simp (disch:=omega) only [Sh.out h6,go_sem,seval,↓reduceIte]
       ·rw [if_pos h6] at hb;have e:=Jb hb.symm;exact ⟨.p (.bool B),_,Weak.mk (by simp (disch:=omega) only [hB,e,go_sem,seval]),rfl,rfl⟩
       ·rw [if_neg h6] at hb;exact ⟨k+1,⟨Za,hb⟩,Za,wk⟩
  ·have hka:k=a.length:=Za
   subst hka;rw [U9,<- hd,U9,Mi] at hb;have e:=G9 hb.symm;refine Zl [1,2] (fun k:Nat=> [(10,.p (.int .i64 k))]) (fun _=> [UG x lc l b]) (fun k=>k<=a.length/\D4 (a.drop k) (d.drop k)=D4 a d) (fun k=>a.length-k) 0 Zb (Weak.mk ?_) ?_
   ·simp (disch:=omega) only [UG,go_sem,seval]
   ·rintro k ⟨hk,hb⟩;refine CX ?_;refine cD ?_ ?_<;>intro h2<;>simp (disch:=omega) only [Sh.out h2,go_sem,seval,↓reduceIte]
    ·have hk2:k<a.length:=Za
     have hk3:k<d.length:=Za
     rw [Rr hk2,Rr hk3,D4] at hb;refine Xn (Zc ?_);refine ZO ?_ ?_<;>intro h3
     ·rw [if_neg h3] at hb;refine ZA 9 mixed Ze Ze (Zc ?_);exact ⟨.p (.bool B),_,Weak.mk (by simp (disch:=omega) only [hB,e,<- hb,go_sem,seval]),rfl,rfl⟩
     ·rw [if_pos (Z4.1 h3)] at hb;exact ⟨k+1,⟨Za,hb⟩,Za,wk⟩
    ·have hka:k=a.length:=Za
     subst hka;rw [U9,<- hd,U9,dW] at hb;exact ⟨.p (.bool B),_,Weak.mk (by simp (disch:=omega) only [hB,e,<- hb,go_sem,seval]),rfl,rfl⟩
def YL (l:List Col) (b:Chc) (q:List Int×Int):Chc:=if b.found=false\/q.2<b.price\/(q.2=b.price/\Fg l q.1 b.places=true) then ⟨true,q.1,q.2⟩ else b
def RngA (x:Inst) (l:List Col) (a:List Int):Prop:=a.length=x.orders.length/\ ∀i,i<x.orders.length-> -1<=nth a i/\nth a i<l.length
def ChB (x:Inst) (l:List Col) (b:Chc):Prop:=b.found=true->RngA x l b.places
theorem Gl {x:Inst} {l:List Col} {a:List Int} {S j:Nat} (h:RngA x l a) (hj:j<l.length):RngA x l (VJ S a j) :=
 ⟨by rw [Uk];exact h.1,fun i hi=>by
  rw [Xx (by rw [h.1];exact hi)]
  split
  ·omega
  ·exact h.2 i hi⟩
theorem Az {x:Inst} {l:List Col} : ∀(d:Nat) {a:List Int} {p:Int},RngA x l a-> ∀q∈Q6 x l d a p,RngA x l q.1
 | 0,a,p,h,q,hq=>by
  simp_all [Q6]
 | d+1,a,p,h,q,hq=>by
  rw [Q6] at hq
  split at hq
  ·exact Az d h q hq
  ·rw [Xg,XQ] at hq;rcases hq with ⟨j,hj,hq⟩ | hq
   ·split at hq
    ·exact Az d (Gl h (ZL.1 hj)) q hq
    ·simp at hq
   ·split at hq
    ·exact Az d h q hq
    ·simp at hq
theorem LS {x:Inst} {l:List Col} : ∀ {L:List (List Int×Int)} {b:Chc},ChB x l b->(∀q∈L,RngA x l q.1)->ChB x l (L.foldl (YL l) b)
 | [],_,h,_=>h
 | q::L,b,h,hL=>by
  rw [XL];refine LS (L:=L) ?_ fun q hq=>hL q (Yp _ hq);unfold YL
  split
  ·exact fun _=>hL q Zb
  ·exact h
structure ColsR (x:Inst) (l:List Col):Prop where
 n4:x.orders.length<=4
 t6:x.types.length<=6
 len:l.length<=1048576
 col: ∀c∈l,(0<=c.typ/\c.typ<x.types.length)/\(0<=c.price/\c.price<=18014398509481984)/\ ∃S:Nat,c.set=S/\S<16
 sk: ∀k,k<x.orders.length->(nth x.orders k).off=false->0<=(nth x.orders k).penalty->0<=skR x k/\skR x k<=18014398509481984
 us: ∀i,scoR 1152921504606846976 (unsF x i).1
theorem pY {P:Program} {f:FuncId} {az:List V} {z:PV} {O:AM.Obj} {L:List AM.Obj} {B:V->Prop} {t} (h:ACalls P f az [O] fun y H'=>y= .p z/\H'= [O]) (k:B (.p z)) (ha:Xl 1 az=true:=by rfl) (hf:refH 1 [O]=true:=by rfl) :
  TA (fun y=>ACalls P f az (O::L) (Zu (Zu (fun x H'=>x=y/\H'=O::L) ⟨⟩) ⟨⟩)) (Zu B t) :=
 ⟨.p z,h.useP (L:=L) rfl ⟨rfl,rfl⟩ ha hf,k⟩
theorem Zkb {P:Program} {f:FuncId} {az:List V} {v:V} {O:AM.Obj} {L:List AM.Obj} {K:V->List AM.Obj->Prop} (h:ACalls P f az [O] fun y H'=>y=v/\H'= [O]) (k:K v (O::L)) (ha:Xl 1 az=true:=by rfl) (hf:refH 1 [O]=true:=by rfl):ACalls P f az (O::L) K :=
 h.useP (L:=L) rfl k ha hf
def nO (x:Inst) (lc:Bool) (l:List Col) (d:Nat):Prop:= ∀(a:List Int) (p:Int) (b:Chc),d<=x.orders.length->RngA x l a->0<=p->p+(d:Int)*18014398509481984<=90071992547409920->ChB x l b ->
  ACalls Tryz.prog 85 [.ptr 0 0,.p (.list false (a.map eI)),.p (.int .i64 ((x.orders.length-d:Nat):Int)),.p (.int .i64 p)] [UG x lc l b] fun y H'=>y= .tup []/\H'= [UG x lc l ((Q6 x l d a p).foldl (YL l) b)]
theorem tM (x:Inst) (lc:Bool) (l:List Col) (hC:ColsR x l):nO x lc l 0:=by
 intro a p b hd ha hp0 hp1 hb;have h4:=hC.n4;have hl:=hC.len;obtain ⟨R,hR⟩: ∃R,R=UG x lc l ((Q6 x l 0 a p).foldl (YL l) b):=⟨_,rfl⟩;rw [<- hR,Nat.sub_zero];simp only [Q6,XL,Ux] at hR;refine Zf [] Tryz.func85 rfl vF ?_;obtain ⟨f,bp,bc⟩:=b
 cases f with
 | false =>
  rw [YL,if_pos (.inl rfl)] at hR;simp (disch:=omega) only [Tryz.f85,UG,Vd,go_sem,seval];exact ⟨_,[R],Weak.mk (by simp (disch:=omega) only [hR,UG,YB,go_sem,seval]),rfl,rfl⟩
 | true =>
  simp (disch:=omega) only [Tryz.f85,UG,YB,go_sem,seval];refine gF ?_ ?_<;>intro h1<;>simp (disch:=omega) only [Sh.out h1,go_sem,seval,↓reduceIte]
  ·rw [YL,if_pos (.inr (.inl h1))] at hR;exact ⟨_,[R],Weak.mk (by simp (disch:=omega) only [hR,UG,YB,go_sem,seval]),rfl,rfl⟩
  ·refine gT ?_ ?_<;>intro h2<;>simp (disch:=omega) only [Sh.out h2,go_sem,seval,↓reduceIte]
   ·have hq:=hb rfl;refine ACalls.mono (OB x lc l ⟨true,bp,bc⟩ a bp (!true) (by rw [ha.1];omega) (by rw [ha.1];exact hq.1) (fun i hi=>ha.2 i (by rw [<- ha.1];exact hi)) (fun i hi=>hq.2 i (by rw [<- ha.1];exact hi)) hl) ?_;rintro y H' ⟨rfl,rfl⟩;simp (disch:=omega) only [UG,YB,go_sem,seval];refine cD ?_ ?_<;>intro h3<;>simp (disch:=omega) only [Sh.out h3,go_sem,seval,↓reduceIte]
    ·rw [YL,if_pos (.inr (.inr ⟨h2,h3⟩))] at hR;exact ⟨_,[R],Weak.mk (by simp (disch:=omega) only [hR,UG,YB,go_sem,seval]),rfl,rfl⟩
    ·rw [YL,if_neg (fun h=>h.elim (fun h=>by cases h) fun h=>h.elim (fun h=>h1 h) fun h=>by grind)] at hR;exact ⟨_,[R],Weak.mk (by simp (disch:=omega) only [hR,UG,YB,go_sem,seval]),rfl,rfl⟩
   ·rw [YL,if_neg (fun h=>h.elim (fun h=>by cases h) fun h=>h.elim (fun h=>h1 h) fun h=>h2 h.1)] at hR;exact ⟨_,[R],Weak.mk (by simp (disch:=omega) only [hR,UG,YB,go_sem,seval]),rfl,rfl⟩
theorem tN (x:Inst) (lc:Bool) (l:List Col) (hC:ColsR x l) (d:Nat) (ih:nO x lc l d):nO x lc l (d+1):=by
 intro a p b hd ha hp0 hp1 hb;have h4:=hC.n4;have h6:=hC.t6;have hl:=hC.len;obtain ⟨k,hk⟩: ∃k,k=x.orders.length-(d+1):=⟨_,rfl⟩
 have hk1:k<x.orders.length:=Za
 have hkd:x.orders.length-d=k+1:=Za
 obtain ⟨R,hR⟩: ∃R,R=UG x lc l ((Q6 x l (d+1) a p).foldl (YL l) b):=⟨_,rfl⟩;rw [<- hR,<- hk];rw [Q6,<- hk] at hR;have hla:a.length=x.orders.length:=ha.1
 have hka:k<a.length:=Za
 refine Zf [] Tryz.func85 rfl vF ?_;simp (disch:=omega) only [Tryz.f85,UG,go_sem,seval]
 have nxt: ∀(a':List Int) (p':Int) (b':Chc) (L:List AM.Obj) (K:V->List AM.Obj->Prop),RngA x l a'->0<=p'->p'+(d:Int)*18014398509481984<=90071992547409920->ChB x l b'->K (.tup []) (UG x lc l ((Q6 x l d a' p').foldl (YL l) b')::L) ->
   ACalls Tryz.prog 85 [.ptr 0 0,.p (.list false (a'.map eI)),.p (.int .i64 ((k:Int)+1)),.p (.int .i64 p')] (UG x lc l b'::L) K:=fun a' p' b' L K h1 h2 h3 h5 hK=>by
  have hi:=ih a' p' b' Za h1 h2 h3 h5;rw [hkd] at hi;refine ((hi.mono fun y H' hq=>(⟨hq,by grind⟩:_/\H'.length= [UG x lc l b'].length)).front (by rfl) (by rfl) L).mono ?_
  grind
 refine cD ?_ ?_<;>intro h0<;>simp (disch:=omega) only [Sh.out h0,go_sem,seval,↓reduceIte]
 ·omega
 ·cases ho:(nth x.orders k).off with
  | true =>
   rw [if_pos (.inl ho)] at hR;refine Zc ?_;refine nxt a p b [_] _ ha hp0 Za hb (CX ?_);exact ⟨_,[R],Weak.mk (by simp (disch:=omega) only [hR,UG,go_sem,seval]),rfl,rfl⟩
  | false =>
   refine Zc ?_;refine cD ?_ ?_<;>intro h1<;>simp (disch:=omega) only [Sh.out h1,go_sem,seval]
   ·rw [if_pos (.inr h1)] at hR;refine nxt a p b [_] _ ha hp0 Za hb (CX ?_);exact ⟨_,[R],Weak.mk (by simp (disch:=omega) only [hR,UG,go_sem,seval]),rfl,rfl⟩
   ·rw [if_neg (by grind)] at hR;obtain ⟨G,hG⟩: ∃G:Nat->List (List Int×Int),G=fun j=>if Ki x l a j k=true then Q6 x l d (VJ (nth l j).set.toNat a j) (p+(nth l j).price) else []:=⟨_,rfl⟩;rw [<- hG,List.foldl_append] at hR
    have hGr: ∀q:Nat,q<=l.length-> ∀e∈(List.range q).flatMap G,RngA x l e.1:=fun q hq e he=>by
     obtain ⟨j,hj,he⟩:=XQ.1 he;rw [hG] at he;simp only at he
     split at he
     ·exact Az d (Gl ha (by grind)) e he
     ·simp at he
    have hGs: ∀q:Nat,((List.range (q+1)).flatMap G).foldl (YL l) b=(G q).foldl (YL l) (((List.range q).flatMap G).foldl (YL l) b):=fun q=>by
     grind [Ys]
    obtain ⟨B,hB⟩: ∃B:Nat->Chc,B=fun q=>((List.range q).flatMap G).foldl (YL l) b:=⟨_,rfl⟩
    have hBs: ∀q,B (q+1)=(G q).foldl (YL l) (B q):=fun q=>by grind
    have hB0:B 0=b:=by rw [hB];simp
    have hBc: ∀q,q<=l.length->ChB x l (B q):=fun q hq=>by rw [hB];exact LS hb (hGr q hq)
    have hRB:R=UG x lc l ((if 0<=(nth x.orders k).penalty then Q6 x l d a (p+skR x k) else []).foldl (YL l) (B l.length)):=by rw [hR,hB]
    clear hR hGs hGr hB;refine Zl [0,1,2,3,9] (fun q:Nat=> [(10,.p (.int .i64 q))]) (fun q=> [UG x lc l (B q),Y4 (nth x.orders k)]) (fun q=>q<=l.length) (fun q=>l.length-q) 0 Zb (Weak.mk ?_) ?_
    ·simp (disch:=omega) only [UG,Y4,hB0,ho,go_sem,seval,↓reduceIte]
    ·intro q hq;simp (disch:=omega) only [UG,Y4,ho,go_sem,seval];refine cD ?_ ?_<;>intro h2<;>simp (disch:=omega) only [Sh.out h2,go_sem,seval,↓reduceIte]
     ·have hq2:q<l.length:=Za
      obtain ⟨⟨t0,t1⟩,⟨c0,c1⟩,S,hS,hS2⟩:=hC.col _ (Zt hq2);refine Xn (Zc ?_)
      have hST:(nth l q).set.toNat=S:=Za
      have hGq:Ki x l a q k=(S.testBit k&&(decide ((usdI l a (nth l q).typ a.length:Int)<(nth x.types (nth l q).typ.toNat).count)&&rL S a k)):=by rw [Ki,hST]
      have hnx: ∀c:Bool,Ki x l a q k=c->B (q+1)=(if c=true then (Q6 x l d (VJ S a q) (p+(nth l q).price)).foldl (YL l) (B q) else B q):=fun c hc=>by
       rw [hBs,hG];simp only [hST,hc]
       cases c<;>simp
      rw [hS];refine Zo (I1 S k Za Za) (Zc ?_);refine gT ?_ ?_<;>intro h3<;>simp (disch:=omega) only [Sh.out h3,go_sem,seval,↓reduceIte]
      ·refine pY (mO x lc l (B q) a (nth l q).typ Za (fun i hi=>ha.2 i Za) hl) (Zc ?_);refine cD ?_ ?_<;>intro h4<;>simp (disch:=omega) only [Sh.out h4,go_sem,seval,↓reduceIte]
       ·have hw:=mU x lc l (B q) a q k ⟨Za,Za⟩ hl hq2 S hS Za
        cases hok:rL S a k with
        | true =>
         rw [hok,if_pos rfl] at hw;refine Zkb hw (Zc ?_);have e:=hnx true (by grind);rw [if_pos rfl] at e;refine nxt (VJ S a q) (p+(nth l q).price) (B q) [_] _ (Gl ha hq2) Za Za (hBc q Za) (CX ?_);exact ⟨q+1,Za,Za,Weak.mk (by simp (disch:=omega) only [e,ho,go_sem,seval])⟩
        | false =>
         rw [hok,if_neg Zb] at hw;refine Zkb hw (Zc ?_);have e:=hnx false (by grind);rw [if_neg Zb] at e;exact ⟨q+1,Za,Za,Weak.mk (by simp (disch:=omega) only [e,ho,go_sem,seval])⟩
       ·have e:=hnx false (by grind);rw [if_neg Zb] at e;exact ⟨q+1,Za,Za,Weak.mk (by simp (disch:=omega) only [e,ho,go_sem,seval])⟩
      ·have e:=hnx false (by grind);rw [if_neg Zb] at e;exact ⟨q+1,Za,Za,Weak.mk (by simp (disch:=omega) only [e,ho,go_sem,seval])⟩
     ·have hql:q=l.length:=Za
      subst hql;refine cD ?_ ?_<;>intro h3<;>simp (disch:=omega) only [Sh.out h3,go_sem,seval,↓reduceIte]
      ·rw [if_pos h3] at hRB;have hsk:=hC.sk k hk1 ho h3;refine WL (LR x k Za) (Zc ?_);refine WL (GB (unsF x k).1 (hC.us k)) (Zc ?_);have e1:(Yz (unsF x k).1).1=skR x k:=rfl;rw [e1];refine Zc ?_;refine nxt a (p+skR x k) (B l.length) [_,_] _ ha Za Za (hBc _ (ZD _)) (CX ?_);exact ⟨_,[R],Weak.mk (by simp (disch:=omega) only [hRB,UG,go_sem,seval]),rfl,rfl⟩
      ·rw [if_neg h3] at hRB;exact ⟨_,[R],Weak.mk (by simp (disch:=omega) only [hRB,UG,Ux,go_sem,seval]),rfl,rfl⟩
theorem SE (x:Inst) (lc:Bool) (l:List Col) (hC:ColsR x l): ∀d,nO x lc l d
 | 0=>tM x lc l hC
 | d+1=>tN x lc l hC d (SE x lc l hC d)
def Fp (s:Sr):PV:= .agg [.int .i64 s.rdy,.int .i64 s.drv]
@[go_sem] theorem ZmE (s:Sr):Fp s= .agg [.int .i64 s.rdy,.int .i64 s.drv]:=Zk rfl rfl
theorem Zjo {a b:Sr} :a=b↔a.rdy=b.rdy/\a.drv=b.drv:=by cases a;cases b;simp
theorem qS (l:List Sr) (c:Bool) (s:Sr) (hl:l.length<=1048576):ACalls Tryz.prog 241 [.p (.list c (l.map Fp)),.p (Fp s)] [] fun y H'=> ∃i:Int,(0<=i↔s∈l)/\y= .p (.int .i64 i)/\H'= []:=by
 refine Zf [] Tryz.func241 rfl Zbk ?_;simp (disch:=omega) only [Tryz.f241,go_sem,seval];refine Zl [0,3,7] (fun k:Nat=> [(8,.p (.int .i64 k))]) (fun _=> [.cells [.p (.int .i64 s.rdy),.p (.int .i64 s.drv)]]) (fun k=>k<=l.length/\ ∀j,j<k->nth l j≠s) (fun k=>l.length-k) 0 ⟨Zb,fun j hj=>Za⟩ (Weak.mk ?_) ?_
 ·simp (disch:=omega) only [go_sem,seval,↓reduceIte]
 ·rintro k ⟨hk,hno⟩;refine Zc ?_;refine cD ?_ ?_<;>intro h1<;>simp (disch:=omega) only [Sh.out h1,go_sem,seval,↓reduceIte]
  ·have hk2:k<l.length:=Za
   refine Xn (Zc ?_);refine cD ?_ ?_<;>intro h2<;>simp (disch:=omega) only [Sh.out h2,go_sem,seval,↓reduceIte]
   ·exact ⟨.p (.int .i64 k),[],wk,k,⟨fun _=>(Zjo.2 h2) ▸ ZX hk2,fun _=>Za⟩,rfl,rfl⟩
   ·exact ⟨k+1,⟨Za,fun j hj=>by
     grind⟩,Za,wk⟩
  ·exact ⟨.p (.int .i64 (-1)),[],wk,-1,⟨fun h=>Za,fun h=>by
    obtain ⟨j,hj,rfl⟩:=ZT.1 h
    grind [Zh]⟩,rfl,rfl⟩
theorem RE (l:List Sr) (c:Bool) (s:Sr) (hl:l.length<=1048576):PC 223 [.p (.list c (l.map Fp)),.p (Fp s)] (.bool (decide (s∈l))):=by
 refine Zf [] Tryz.func223 rfl Za5 ?_;simp (disch:=omega) only [Tryz.f223,go_sem,seval];refine ((qS l c s hl).behind (by rfl) _).mono ?_;rintro y H' ⟨y1,H1,⟨i,hi,rfl,rfl⟩,rfl,rfl⟩
 have e:decide (0<=i)=decide (s∈l):=by grind
 simp (disch:=omega) only [shV,Zm,e,go_sem,seval];exact ⟨.p (.bool (decide (s∈l))),[],wk,rfl,rfl⟩
theorem TQ {l:List Sr} {s:Sr} :(UF l s).length<=l.length+1:=by grind [UF]
theorem O9 (l:List Sr) (s:Sr) (hl:l.length<=1048576):ACalls Tryz.prog 196 [.sl 0 0 l.length l.length,.p (Fp s)] [.elems 2 (l.map Fp)] fun y H'=>y= .sl 0 0 (UF l s).length (UF l s).length/\H'= [.elems 2 ((UF l s).map Fp)]:=by
 obtain ⟨M,hM⟩: ∃M,M=UF l s:=⟨_,rfl⟩;rw [<- hM];refine Zf [] Tryz.func196 rfl iR ?_;simp (disch:=omega) only [Tryz.f196,go_sem,seval];refine ACalls.view (RE l false s hl) (by simp [vws,vw,oat,LL]<;>rfl) (by rfl) ?_;refine Zc ?_;refine cD ?_ ?_<;>intro h<;>simp (disch:=omega) only [Sh.out h,go_sem,seval,↓reduceIte]
 ·have e:M=l:=by simp_all [UF]
  exact ⟨.sl 0 0 M.length M.length,[.elems 2 (M.map Fp)],Weak.mk (by simp (disch:=omega) only [e,go_sem,seval]),rfl,rfl⟩
 ·have e:M=l++ [s]:=by simp_all [UF]
  exact ⟨.sl 0 0 M.length M.length,[.elems 2 (M.map Fp)],Weak.mk (by simp (disch:=omega) only [e,XG,Zq,Zm,ZH,ZB,ZE,Xj,go_sem,seval]),rfl,rfl⟩
theorem qW (s:Sr):ACalls Tryz.prog 196 [.p (.list true []),.p (Fp s)] [] fun y H'=>y= .sl 0 0 1 1/\H'= [.elems 2 [Fp s]]:=by
 refine UI (fn:=Tryz.f196) (by rfl) Tryz.func196 rfl iR ?_;simp (disch:=omega) only [Tryz.f196,go_sem,seval];refine (RE [] true s Zb).use ?_;simp (disch:=omega) only [Y3,JQ,go_sem,seval];exact ⟨2,rfl,rfl⟩
def Yx (x:Inst) (k:Int) (S tot:Nat) (b:Col×Bool):AM.Obj:= .cells [.p (.list x.net.places_c (x.net.places.map eS)),.p (.list x.net.arcs_c (x.net.arcs.map VO)),.p (.list x.types_c (x.types.map X1)),.p (.list x.orders_c (x.orders.map Yg)),.p (.list x.apart_c (x.apart.map eP)),.p (.list x.before_c (x.before.map eP)),.p (.int .i64 k),.p (.int .i64 S),.p (.int .i64 tot),.p (.int .i64 b.1.typ),.p (.int .i64 b.1.set),.p (.int .i64 b.1.price),.p (.int .i64 b.1.route.typ),.p (.int .i64 b.1.route.start),.p (.list b.1.route.rests_c (b.1.route.rests.map eB)),.p (.list b.1.route.visits_c (b.1.route.visits.map Z7)),.p (.bool b.2)]
theorem Bt {t:Typ} {l:List Sr} {d v:Int} :(VH t l d v).length<=l.length+2:=by
 grind [VH,UF]
theorem sK (x:Inst) (k:Int) (S tot:Nat) (b:Col×Bool) (stop:Stp) (l:List Sr) (d v:Int) (hk:0<=k/\k<x.types.length) (ht:x.types.length<=1048576) (hl:l.length<=1000000) (hd:0<=d/\d<=1048576) (hr:0<=(nth x.types k.toNat).rest/\(nth x.types k.toNat).rest<=1048576) :
  ACalls Tryz.prog 163 [.ptr 0 0,.sl 3 0 l.length l.length,.p (.int .i64 d),.p (.int .i64 v)] [Yx x k S tot b,.cells ((AX stop).map .p),.cells ((Kr (nth x.types k.toNat)).map .p),.elems 2 (l.map Fp)] fun y H'=>y= .sl 3 0 (VH (nth x.types k.toNat) l d v).length (VH (nth x.types k.toNat) l d v).length/\H'= [Yx x k S tot b,.cells ((AX stop).map .p),.cells ((Kr (nth x.types k.toNat)).map .p),.elems 2 ((VH (nth x.types k.toNat) l d v).map Fp)]:=by
 obtain ⟨L1,h1⟩: ∃L1,L1=UF l ⟨d,v⟩:=⟨_,rfl⟩;obtain ⟨L2,h2⟩: ∃L2,L2=VH (nth x.types k.toNat) l d v:=⟨_,rfl⟩
 have h12:UF L1 ⟨d+(nth x.types k.toNat).rest,0⟩=L2:=by rw [h1,h2];rfl
 have hl1:L1.length<=l.length+1:=by rw [h1];exact TQ
 rw [<- h2];have c1:=O9 l ⟨d,v⟩ Za;have c2:=O9 L1 ⟨d+(nth x.types k.toNat).rest,0⟩ Za;rw [<- h1] at c1;rw [h12] at c2;obtain ⟨O,hO⟩: ∃O,O=Yx x k S tot b:=⟨_,rfl⟩;refine Zf [] Tryz.func163 rfl iP ?_;simp (disch:=omega) only [Tryz.f163,AX,Kr,Zq,Zm,go_sem,seval];refine ACalls.mono (c1.back [Yx x k S tot b,.cells ((AX stop).map .p),.cells ((Kr (nth x.types k.toNat)).map .p)] (by rfl)) ?_;rintro y H' ⟨y1,H1,⟨rfl,rfl⟩,rfl,rfl⟩;simp (disch:=omega) only [shV,shO,Yx,AX,Kr,Zq,Zm,ZK,Zy,go_sem,seval]
 refine ZA 16 mixed Ze Ze (Zc ?_);refine ACalls.mono (c2.back [Yx x k S tot b,.cells ((AX stop).map .p),.cells ((Kr (nth x.types k.toNat)).map .p)] (by rfl)) ?_;rintro y H' ⟨y1,H1,⟨rfl,rfl⟩,rfl,rfl⟩;simp (disch:=omega) only [shV,shO,Yx,AX,Kr,Zq,Zm,ZK,Zy,go_sem,seval];exact ⟨.sl 3 0 L2.length L2.length,[Yx x k S tot b,.cells ((AX stop).map .p),.cells ((Kr (nth x.types k.toNat)).map .p),.elems 2 (L2.map Fp)],Weak.mk (by simp (disch:=omega) only [Yx,AX,Kr,Zq,Zm,go_sem,seval]),rfl,rfl⟩
def GS (s:Stp) (a:Int):Int×Int:=if s.cls<max a s.opn then (0,14) else (max a s.opn+s.serv,0)
theorem fN (s:Stp) (a:Int) (ha: -1099511627776<=a/\a<=1099511627776) (hs:0<=s.serv/\s.serv<=1048576) (ho: -1099511627776<=s.opn/\s.opn<=1099511627776):PT 222 [.p (Fq s),.p (.int .i64 a)] [.p (.int .i64 (GS s a).1),.p (.int .i64 (GS s a).2)]:=by
 refine Zf [] Tryz.func222 rfl Za4 ?_;simp (disch:=omega) only [Tryz.f222,go_sem,seval];refine WL (Rf s a) ?_
 have hm: -1099511627776<=max a s.opn/\max a s.opn<=1099511627776:=Za
 by_cases h:s.cls<max a s.opn
 ·have e:Fh s a=(0,14):=by simp_all [Fh]
  have e2:GS s a=(0,14):=by rw [GS,if_pos h]
  rw [e,e2];refine Zc ?_;exact we
 ·have e:Fh s a=(max a s.opn,0):=by simp_all [Fh]
  have e2:GS s a=(max a s.opn+s.serv,0):=by rw [GS,if_neg h]
  rw [e,e2];refine Zc ?_;exact we
def GG (m:Int) (st:List Sr):Prop:= ∀a∈st,(0<=a.rdy/\a.rdy<=16384)/\(-m<=a.drv/\a.drv<=4096)
theorem tU (x:Inst) (k:Int) (S tot:Nat) (b:Col×Bool) (p:Int) (st:List Sr) (c:Bool) (stop:Stp) (m:Int) (hm:0<=m/\m<=1048576) (hk:0<=k/\k<x.types.length) (ht:x.types.length<=1048576) (hT:TrpOk x (nth x.types k.toNat) [stop]) (hl:st.length<=1000) (hst:GG m st) :
  ACalls Tryz.prog 194 [.ptr 0 0,.p (.int .i64 p),.p (.list c (st.map Fp)),.p (Fq stop)] [Yx x k S tot b] fun y H'=>y= .p (.list false ((DM x (nth x.types k.toNat) p st stop).map Fp))/\H'= [Yx x k S tot b]:=by
 obtain ⟨W,hV⟩: ∃W:Nat->List Sr,W=fun q=>(st.take q).foldl (Ju x (nth x.types k.toNat) p stop) []:=⟨_,rfl⟩
 have hV0:W 0= []:=by rw [hV];rfl
 have hVn:DM x (nth x.types k.toNat) p st stop=W st.length:=by grind [DM]
 have hVs: ∀q,q<st.length->W (q+1)=Ju x (nth x.types k.toNat) p stop (W q) (nth st q):=fun q hq=>by
  grind [X9,Zh]
 have hVl: ∀q,q<=st.length->(W q).length<=2*q:=fun q=>by
  induction q with
  | zero=>grind
  | succ q ih =>
   intro hq;rw [hVs q Za];have:=ih Za;unfold Ju
   split
   ·omega
   ·split
    ·omega
    grind [Bt]
 rw [hVn];clear hV hVn;refine Zf [12] Tryz.func194 rfl ZaO ?_;simp (disch:=omega) only [Tryz.f194,Yx,go_sem,seval];refine XY [11] 12 mixed Ze Ze Ze Zb (Zc ?_);refine Xq 11 _ _ Ze (by refine Zc ?_;exact ⟨rfl,rfl⟩) (Ws ?_);refine Zc ?_;refine Z2 [12] [0,1,7,9,28,29] (fun q:Nat=> [(10,.sl 3 0 (W q).length (W q).length),(30,.p (.int .i64 q))]) (fun q=> [Yx x k S tot b,.cells ((AX stop).map .p),.cells ((Kr (nth x.types k.toNat)).map .p),.elems 2 ((W q).map Fp)]) (fun q=>q<=st.length) (fun q=>st.length-q) 0 Zb (Weak.ofNil 10 2 (by simp (disch:=omega) only [go_sem,seval]) Zb (Weak.mk ?_)) ?_
 ·simp (disch:=omega) only [hV0,Yx,AX,Kr,Zq,Zm,ZE,go_sem,seval,↓reduceIte]
 ·intro q hq;have hql:=hVl q hq;simp (disch:=omega) only [Yx,AX,Kr,Zq,Zm,go_sem,seval];refine cD ?_ ?_<;>intro h1<;>simp (disch:=omega) only [Sh.out h1,go_sem,seval,↓reduceIte]
  ·have hq2:q<st.length:=Za
   obtain ⟨a1,a2⟩:=hst _ (ZX hq2);have hsn:=hVs q hq2;have hg:=(IY (n:=x.net) (pr:=(nth x.types k.toNat).prof) (f:=p) (t:=stop.place) (τ:=(nth st q).rdy) hT.net hT.mil Za).1;refine Xn (Zc ?_);refine Fw (vP x.net (nth x.types k.toNat).prof p stop.place (nth st q).rdy hT.net Za) (Zc ?_);refine gF ?_ ?_<;>intro h2<;>simp (disch:=omega) only [Sh.out h2,go_sem,seval,↓reduceIte]
   ·have e:W (q+1)=W q:=by simp_all [Ju]
    exact ⟨q+1,Za,Za,Weak.mk (by simp (disch:=omega) only [e,go_sem,seval])⟩
   ·refine cD ?_ ?_<;>intro h3<;>simp (disch:=omega) only [Sh.out h3,go_sem,seval,↓reduceIte]
    ·have e:W (q+1)=W q:=by simp_all [Ju]
     exact ⟨q+1,Za,Za,Weak.mk (by simp (disch:=omega) only [e,go_sem,seval])⟩
    ·obtain ⟨z1,z2,z3,z4,z5⟩:=hT.stp stop Zb;obtain ⟨r1,r2⟩:=hT.rst;refine WL (fN stop (WU x.net (nth x.types k.toNat).prof p stop.place (nth st q).rdy).1 Za Za Za) ?_
     by_cases hc:stop.cls<max (WU x.net (nth x.types k.toNat).prof p stop.place (nth st q).rdy).1 stop.opn
     ·have e2:GS stop (WU x.net (nth x.types k.toNat).prof p stop.place (nth st q).rdy).1=(0,14):=by rw [GS,if_pos hc]
      rw [e2];refine Zc ?_
      have e:W (q+1)=W q:=by simp_all [Ju]
      exact ⟨q+1,Za,Za,Weak.mk (by simp (disch:=omega) only [e,go_sem,seval])⟩
     ·have e2:GS stop (WU x.net (nth x.types k.toNat).prof p stop.place (nth st q).rdy).1=(max (WU x.net (nth x.types k.toNat).prof p stop.place (nth st q).rdy).1 stop.opn+stop.serv,0):=by rw [GS,if_neg hc]
      rw [e2];refine Zc ?_
      have e:W (q+1)=VH (nth x.types k.toNat) (W q) (max (WU x.net (nth x.types k.toNat).prof p stop.place (nth st q).rdy).1 stop.opn+stop.serv) ((nth st q).drv+(WU x.net (nth x.types k.toNat).prof p stop.place (nth st q).rdy).1-(nth st q).rdy):=by simp_all [Ju,if_neg]
      have cr:=sK x k S tot b stop (W q) (max (WU x.net (nth x.types k.toNat).prof p stop.place (nth st q).rdy).1 stop.opn+stop.serv) ((nth st q).drv+(WU x.net (nth x.types k.toNat).prof p stop.place (nth st q).rdy).1-(nth st q).rdy) hk ht Za Za Za;rw [<- e] at cr;refine cr.useP (L:= [_]) (by rfl) ?_ (by rfl) (by rfl);simp (disch:=omega) only [Yx,AX,Kr,Zq,Zm,ZK,Zy,go_sem,seval];exact ⟨q+1,Za,Za,wk⟩
  ·have hqs:q=st.length:=Za
   subst hqs;refine Zp (Weak.fz (o:=3) (by rfl)) ?_;refine Zg [] _ _ _ _ ?_;simp (disch:=omega) only [Zq,Zm,Z8,ZZ,eq_self,go_sem,seval];exact ⟨.p (.list false ((W st.length).map Fp)),[Yx x k S tot b],Weak.mk (by simp (disch:=omega) only [Yx,go_sem,seval]),rfl,rfl⟩
theorem OJ (a b:Col) (ha:a.route.visits.length<=1048576) (hb:b.route.visits.length<=1048576):PC 191 [.p (Xo a),.p (Xo b)] (.bool (Wi a b)):=by
 refine Zd Tryz.func191 rfl ZaL ?_;simp (disch:=omega) only [Tryz.f191,go_sem,seval];refine cD ?_ ?_<;>intro h<;>simp (disch:=omega) only [Sh.out h,go_sem,seval,↓reduceIte]
 ·rw [Wi,if_pos h]
 ·refine (bD a.route.visits b.route.visits a.route.visits_c b.route.visits_c ha hb).use (Zc ?_);rw [Wi,if_neg h]
theorem qC (a b:Col) (f:Bool) (ha:a.route.visits.length<=1048576) (hb:b.route.visits.length<=1048576):PC 190 [.p (Xo a),.p (.bool f),.p (Xo b),.fn (.func 191) [] []] (Xo (if f=false\/Wi b a=true then b else a)):=by
 refine Zd Tryz.func190 rfl ZaK ?_
 cases f with
 | false =>
  simp (disch:=omega) only [Tryz.f190,Vd,go_sem,seval,↓reduceIte]
 | true =>
  simp (disch:=omega) only [Tryz.f190,YB,go_sem,seval];refine (OJ b a hb ha).use (Zc ?_)
  cases h:Wi b a with
  | true=>simp (disch:=omega) only [go_sem,seval]
  | false=>simp (disch:=omega) only [go_sem,seval]
theorem ZiR {x:Inst} (hx:InstOk x) {S:Nat} {l:List Vis} {v:Vis} (hv:v∈Cx x S l) {k:Int} (hk:0<=k/\k<x.types.length):MT x v=true/\0<=(Xh x v).place/\TrpOk x (nth x.types k.toNat) [Xh x v]:=by
 obtain ⟨i,hi,_,_,h4,_⟩:=VD.1 hv;have ho:=Yb h4
 have hpl:0<=(Xh x v).place:=by
  unfold ZU at h4;unfold Xh;rw [ho,XU]
  grind
 obtain ⟨t1,t2,t3,_⟩:=WK hx (show k.toNat<x.types.length by omega);obtain ⟨n1,n2⟩:=R8 hx.net;refine ⟨by simp [MT,ho,hi],hpl,n1,n2,t1,t2,t3,fun s hs=> ?_,Zb⟩
 obtain rfl:s=Xh x v:=by grind
 have hor:=hx.orders.2 i hi;have hp:=hor.pstp;have hd:=hor.dstp;simp only [stpOk,Zs] at hp hd;unfold Xh at hpl ⊢;rw [ho,XU] at hpl ⊢
 split
 ·omega
 omega
theorem tT {x:Inst} {t:Typ} {p:Int} {stop:Stp} (hT:TrpOk x t [stop]) {m:Int} {out:List Sr} {a:Sr} (hm:0<=m) (ho:GG (m+16384) out) (ha:(0<=a.rdy/\a.rdy<=16384)/\(-m<=a.drv/\a.drv<=4096)):GG (m+16384) (Ju x t p stop out a)/\(Ju x t p stop out a).length<=out.length+2:=by
 have hg:=(IY (n:=x.net) (pr:=t.prof) (f:=p) (t:=stop.place) (τ:=a.rdy) hT.net hT.mil Za).1;obtain ⟨z1,z2,z3,z4,z5⟩:=hT.stp stop Zb;obtain ⟨r1,r2⟩:=hT.rst;have hd:=hT.drv;unfold Ju
 split
 ·grind
 ·rename_i c1
  split
  ·grind
  ·rename_i c2;refine ⟨fun b hb=> ?_,Bt⟩;have c3: ¬t.drive<a.drv+(WU x.net t.prof p stop.place a.rdy).1-a.rdy:=fun h=>c1 (.inr h);rcases Vf.1 hb with h | rfl | rfl
   ·exact ho b h
   ·grind
   grind
theorem If {x:Inst} {t:Typ} {p:Int} {stop:Stp} (hT:TrpOk x t [stop]) {m:Int} (hm:0<=m): ∀(st out:List Sr),GG (m+16384) out->GG m st->GG (m+16384) (st.foldl (Ju x t p stop) out)/\(st.foldl (Ju x t p stop) out).length<=out.length+2*st.length
 | [],out,ho,_=>⟨ho,Zb⟩
 | a::st,out,ho,hs=>by
  obtain ⟨g1,g2⟩:=tT hT (p:=p) hm ho (hs a Zb);obtain ⟨k1,k2⟩:=If hT (p:=p) hm st _ g1 fun b hb=>hs b (Yp _ hb);rw [XL];exact ⟨k1,by simp only [ZB];omega⟩
def P2 (x:Inst) (k:Int) (S tot f:Nat):Prop:= ∀(l:List Vis) (c:Bool) (p:Int) (st:List Sr) (b:Col×Bool),l.length+f=tot->(c=true->0<f)->GG (16384*(l.length:Int)) st->st.length<=2^(l.length+1)->b.1.route.visits.length<=1048576 ->
  ACalls Tryz.prog 162 [.ptr 0 0,.p (.list c (l.map Z7)),.p (.int .i64 p),.p (.list false (st.map Fp))] [Yx x k S tot b] fun y H'=>y= .tup []/\H'= [Yx x k S tot ((RT x k S f l (p,st)).foldl (XC (FY x k) (YP x k S) Wi) b)]
theorem Zc6 (x:Inst) (hx:InstOk x) (k:Int) (S tot:Nat) (ht:tot<=8) (hk:0<=k/\k<x.types.length) (htl:x.types.length<=1048576):P2 x k S tot 0:=by
 intro l c p st b hlf hc hs1 hs2 hb
 have hc:c=false:=by grind
 subst hc
 have hll:l.length=tot:=Za
 obtain ⟨R,hR⟩: ∃R,R=Yx x k S tot ((RT x k S 0 l (p,st)).foldl (XC (FY x k) (YP x k S) Wi) b):=⟨_,rfl⟩;rw [<- hR];simp only [RT,lvW,XL,Ux] at hR;obtain ⟨⟨bt,bs,bp,br⟩,bf⟩:=b;have hpr:=Ns x (Q3 k l);refine Zf [] Tryz.func162 rfl iO ?_;simp (disch:=omega) only [Tryz.f162,Yx,go_sem,seval];refine cD ?_ ?_<;>intro h1<;>simp (disch:=omega) only [Sh.out h1,go_sem,seval,↓reduceIte]
 ·refine Xn (Zc ?_);refine Ac (bA x (Q3 k l) hx ⟨by grind [Q3],by simp [Q3]⟩) (Zc ?_);refine cD ?_ ?_<;>intro h2<;>simp (disch:=omega) only [Sh.out h2,go_sem,seval]
  ·have hok:FY x k l=true:=Q0 h2;have hcol:(⟨k,(S:Int),(YG x (Q3 k l)).1,⟨k,0,true,[],false,l⟩⟩:Col)=YP x k S l:=rfl;refine XY [11] 12 mixed Ze Ze Ze Zb (Zc ?_);refine Xq 11 _ _ Ze (by refine Zc ?_;exact ⟨rfl,rfl⟩) (Ws ?_);refine Zc ?_;refine ZA 11 mixed Ze Ze (Zc ?_);refine Zo (qC ⟨bt,bs,bp,br⟩ (YP x k S l) bf hb (by grind)) ?_
   have hR2:R=Yx x k S tot (if bf=false\/Wi (YP x k S l) ⟨bt,bs,bp,br⟩=true then YP x k S l else ⟨bt,bs,bp,br⟩,true):=by
    rw [hR,XC]
    grind
   generalize (if bf=false\/Wi (YP x k S l) ⟨bt,bs,bp,br⟩=true then YP x k S l else ⟨bt,bs,bp,br⟩)=C at hR2 ⊢;refine Zc ?_;exact ⟨.tup [],[R],Weak.mk (by simp (disch:=omega) only [hR2,Yx,go_sem,seval]),rfl,rfl⟩
  ·have hok:FY x k l=false:=JZ h2;rw [XC,if_neg (fun h=>by grind)] at hR;exact ⟨.tup [],[R],Weak.mk (by simp (disch:=omega) only [hR,Yx,go_sem,seval]),rfl,rfl⟩
 ·omega
theorem Ld {x:Inst} {k:Int} {S:Nat} : ∀(f:Nat) (l:List Vis) (s:Int×List Sr),∀m∈RT x k S f l s,m.length=l.length+f
 | 0,l,s,m,hm=>by
  simp_all [RT,lvW]
 | f+1,l,s,m,hm=>by
  simp only [RT,lvW,XQ] at hm;obtain ⟨v,_,hm⟩:=hm
  split at hm
  ·simp at hm
  ·have:=Ld f (l++ [v]) _ m hm;simp at this;omega
theorem N2 {x:Inst} {k:Int} {S N:Nat} : ∀(L:List (List Vis)) (b:Col×Bool),b.1.route.visits.length<=N->(∀m∈L,m.length<=N)->(L.foldl (XC (FY x k) (YP x k S) Wi) b).1.route.visits.length<=N
 | [],b,h,_=>h
 | m::L,b,h,hL=>by
  rw [XL];refine N2 L _ ?_ fun q hq=>hL q (Yp _ hq);unfold XC
  split
  ·exact hL m Zb
  ·exact h
theorem Zc7 (x:Inst) (hx:InstOk x) (k:Int) (S tot f:Nat) (ht:tot<=8) (hk:0<=k/\k<x.types.length) (htl:x.types.length<=1048576) (hbl:x.before.length<=1048576) (hS:S<9223372036854775808) (ih:P2 x k S tot f):P2 x k S tot (f+1):=by
 intro l c p st b hlf hc hs1 hs2 hb;have hf:=XH hx
 have hn:x.orders.length<=60:=by have:=hf.len;omega
 obtain ⟨R,hR⟩: ∃R,R=Yx x k S tot ((RT x k S (f+1) l (p,st)).foldl (XC (FY x k) (YP x k S) Wi) b):=⟨_,rfl⟩;rw [<- hR];have hpw:2^(l.length+1)<=2^8:=Yr Za Za
 have hpw2:2^(l.length+1+1)=2*2^(l.length+1):=Za
 have hnl:=Jn x S l x.orders.length;have hokv: ∀v∈nextU x S l x.orders.length,MT x v=true/\0<=(Xh x v).place/\TrpOk x (nth x.types k.toNat) [Xh x v]:=fun v hv=>ZiR hx hv hk;obtain ⟨G,hG⟩: ∃G:Vis->List (List Vis),G=fun v=>if (goS x (nth x.types k.toNat) (p,st) v).2.isEmpty=true then [] else RT x k S f (l++ [v]) (goS x (nth x.types k.toNat) (p,st) v):=⟨_,rfl⟩
 have hlv:RT x k S (f+1) l (p,st)=(nextU x S l x.orders.length).flatMap G:=by rw [hG];rfl
 rw [hlv] at hR;have hsn:=bE x S l c hS Za hn hbl (fun q hq=>by have:=(hf.val q hq);omega);generalize hnx:nextU x S l x.orders.length=nx at hnl hokv hR hsn;clear hnx hlv;obtain ⟨B,hB⟩: ∃B:Nat->Col×Bool,B=fun q=>((nx.take q).flatMap G).foldl (XC (FY x k) (YP x k S) Wi) b:=⟨_,rfl⟩
 have hB0:B 0=b:=by rw [hB];rfl
 have hBn:R=Yx x k S tot (B nx.length):=by grind
 have hBs: ∀q,q<nx.length->B (q+1)=(G (nth nx q)).foldl (XC (FY x k) (YP x k S) Wi) (B q):=fun q hq=>by
  rw [hB];simp only;rw [X9 hq,List.flatMap_append,List.foldl_append,<- Zh hq];simp
 have hBl: ∀q,(B q).1.route.visits.length<=1048576:=fun q=>by
  rw [hB];refine N2 _ _ hb fun m hm=> ?_;obtain ⟨v,_,hm⟩:=XQ.1 hm;rw [hG] at hm;simp only at hm
  split at hm
  ·simp at hm
  ·have:=Ld _ _ _ m hm;simp at this;omega
 clear hR hB;refine Zf [] Tryz.func162 rfl iO ?_;simp (disch:=omega) only [Tryz.f162,Yx,go_sem,seval];refine cD ?_ ?_<;>intro h1<;>simp (disch:=omega) only [Sh.out h1,go_sem,seval,↓reduceIte]
 ·omega
 ·refine Xn (Zc ?_);refine Zo (hsn) (Zc ?_);refine Zl [0,1,2,3,77,78] (fun q:Nat=> [(79,.p (.int .i64 q))]) (fun q=> [Yx x k S tot (B q)]) (fun q=>q<=nx.length) (fun q=>nx.length-q) 0 Zb (Weak.mk ?_) ?_
  ·simp (disch:=omega) only [Yx,hB0,go_sem,seval,↓reduceIte]
  ·intro q hq;simp (disch:=omega) only [Yx,go_sem,seval];refine cD ?_ ?_<;>intro h2<;>simp (disch:=omega) only [Sh.out h2,go_sem,seval,↓reduceIte]
   ·have hq2:q<nx.length:=Za
    obtain ⟨v1,v2,v3⟩:=hokv _ (ZX hq2);have hBq:=hBs q hq2;refine XY [10,11] 12 mixed Ze Ze Ze Zb (Zc ?_);refine Ac (Se x (nth nx q) Za v1 v2) (Zc ?_);refine Xq 10 _ _ Ze (by refine Zc ?_;exact ⟨rfl,rfl⟩) ?_;refine Zc ?_;refine Xq 11 _ _ Ze (by refine Zc ?_;exact ⟨rfl,rfl⟩) (Ws ?_);refine Zc ?_
    have hSr0:GG (16384*(l.length:Int)+16384) []:=fun a ha=>by simp at ha
    obtain ⟨w1,w2⟩:=If v3 (p:=p) (m:=16384*(l.length:Int)) Za st [] hSr0 hs1;obtain ⟨N,hN⟩: ∃N,N=DM x (nth x.types k.toNat) p st (Xh x (nth nx q)):=⟨_,rfl⟩;have cv:=tU x k S tot (B q) p st false (Xh x (nth nx q)) (16384*(l.length:Int)) Za hk htl v3 Za hs1
    have hGq:G (nth nx q)=if N.isEmpty=true then [] else RT x k S f (l++ [nth nx q]) ((Xh x (nth nx q)).place,N):=by rw [hG,hN];rfl
    rw [<- hN] at cv
    have w1':GG (16384*(l.length:Int)+16384) N:=by rw [hN];exact w1
    have w2':N.length<=2*st.length:=by grind [DM]
    refine cv.useP (L:= [_,_]) (by rfl) ?_ (by rfl) (by rfl);simp (disch:=omega) only [Yx,ZK,Zy,go_sem,seval];refine cD ?_ ?_<;>intro h3<;>simp (disch:=omega) only [Sh.out h3,go_sem,seval,↓reduceIte]
    ·have hne: ¬N.isEmpty=true:=fun h=>by grind
     rw [hGq,if_neg hne] at hBq
     have ihc:=ih (l++ [nth nx q]) false (Xh x (nth nx q)).place N (B q) (by simp;omega) Zb (by
      have e:16384*(((l++ [nth nx q]).length:Nat):Int)=16384*(l.length:Int)+16384:=by simp;omega
      grind) (by grind) (hBl q)
     rw [<- hBq,XG] at ihc;refine ZA 9 mixed Ze Ze (Zc ?_);refine Zo (yJ l c Za) (Zc ?_);refine ihc.useP (L:= [_,_]) (by rfl) ?_ (by rfl) (by rfl);simp (disch:=omega) only [Yx,ZK,Zy,go_sem,seval];exact ⟨q+1,Za,Za,wk⟩
    ·have he:N.isEmpty=true:=by simp_all
     rw [hGq,if_pos he] at hBq;have hBq':B (q+1)=B q:=hBq;exact ⟨q+1,Za,Za,Weak.mk (by simp (disch:=omega) only [hBq',go_sem,seval])⟩
   ·have hql:q=nx.length:=Za
    subst hql;exact ⟨.tup [],[R],Weak.mk (by simp (disch:=omega) only [hBn,Yx,go_sem,seval]),rfl,rfl⟩
theorem DR (x:Inst) (hx:InstOk x) (k:Int) (S tot:Nat) (ht:tot<=8) (hk:0<=k/\k<x.types.length) (htl:x.types.length<=1048576) (hbl:x.before.length<=1048576) (hS:S<9223372036854775808): ∀f,P2 x k S tot f
 | 0=>Zc6 x hx k S tot ht hk htl
 | f+1=>Zc7 x hx k S tot f ht hk htl hbl hS (DR x hx k S tot ht hk htl hbl hS f)
theorem lD (x:Inst) (k:Int) (S tot:Nat) (b:Col×Bool) (d v:Int) (hk:0<=k/\k<x.types.length) (ht:x.types.length<=1048576) (hd:0<=d/\d<=1048576) (hr:0<=(nth x.types k.toNat).rest/\(nth x.types k.toNat).rest<=1048576) :
  ACalls Tryz.prog 163 [.ptr 0 0,.p (.list true []),.p (.int .i64 d),.p (.int .i64 v)] [Yx x k S tot b] fun y H'=>y= .p (.list false ((VH (nth x.types k.toNat) [] d v).map Fp))/\H'= [Yx x k S tot b]:=by
 obtain ⟨L2,h2⟩: ∃L2,L2=VH (nth x.types k.toNat) [] d v:=⟨_,rfl⟩
 have h12:UF [⟨d,v⟩] ⟨d+(nth x.types k.toNat).rest,0⟩=L2:=by rw [h2];rfl
 rw [<- h2];have c2:=O9 [⟨d,v⟩] ⟨d+(nth x.types k.toNat).rest,0⟩ Zb;rw [h12] at c2;refine Zf [] Tryz.func163 rfl iP ?_;simp (disch:=omega) only [Tryz.f163,go_sem,seval];refine (qW ⟨d,v⟩).useF (Zc ?_);simp (disch:=omega) only [Yx,go_sem,seval];refine ZA 16 mixed Ze Ze (Zc ?_);refine ACalls.mono (c2.back [Yx x k S tot b] (by rfl)) ?_;rintro y H' ⟨y1,H1,⟨rfl,rfl⟩,rfl,rfl⟩;simp (disch:=omega) only [AM.shV,AM.shO,Yx,Zq,Zm,ZK,Zy,go_sem,seval];exact ⟨.p (.list false (L2.map Fp)),[Yx x k S tot b],(Weak.fz (o:=1) (by rfl)).trans (Weak.mk (by simp (disch:=omega) only [Yx,eq_self,Zq,Zm,Z8,ZZ,go_sem,seval,↓reduceIte])),rfl,rfl⟩
theorem M6 (x:Inst) (S:Nat): ∀k,k<=63->((X0 (S:Int) k).map fun i=>(ZU x.orders i.toNat).length).sum=KZ x S k
 | 0,_=>by rfl
 | k+1,h=>by
  have ih:=M6 x S k Za;rw [AR]
  cases hb:sHas (S:Int) (k:Int) with
  | true =>
   rw [M7 hb,XG,List.sum_append,ih];rw [WI _ _ Za] at hb;rw [if_pos hb];simp
  | false =>
   rw [RZ hb,ih];rw [WI _ _ Za] at hb;rw [hb];simp
theorem NZ (x:Inst) (S n:Nat) (h: ∀i,S.testBit i=true->i<n): ∀d,KZ x S (n+d)=KZ x S n
 | 0=>rfl
 | d+1=>by
  rw [show n+(d+1)=n+d+1 by omega,AR,NZ x S n h d,if_neg (fun e=>by have:=h _ e;omega)];rfl
def Ww : Col:=⟨0,0,0,⟨0,0,true,[],true,[]⟩⟩
noncomputable def VM (x:Inst) (k:Int) (S:Nat):Col×Int:=if Wq x.orders x.apart x.before (S:Int)=0/\(D5 x k S (Ww,false)).2=true then ((D5 x k S (Ww,false)).1,0) else (Ww,24)
def D9 : AM.Obj:= .cells ((GM Ww).map .p)
theorem Ln (x:Inst) (hx:InstOk x) (k:Int) (S:Nat) (hk:0<=k/\k<x.types.length) (h4:x.orders.length<=4) (htl:x.types.length<=1048576) (hbl:x.before.length<=1048576) (hal:x.apart.length<=1048576) (hS0:0<S) (hS1:S<2^x.orders.length) :
  PT 118 [.p (Zv x),.p (.int .i64 k),.p (.int .i64 S)] [.p (Xo (VM x k S).1),.p (.int .i64 (VM x k S).2)]:=by
 have hf:=XH hx;have h16:S<16:=Uu hS1 (Yr (n:=2) Za h4);have hdiv:S / pw x.orders.length=0:=Qu hS1
 have hbit: ∀i,S.testBit i=true->i<x.orders.length:=fun i hi=>by
  rcases WE i x.orders.length with h | h
  ·exact h
  ·have:2^x.orders.length<=2^i:=Yr Za h
   grind [Ai]
 obtain ⟨Z,hZ⟩: ∃Z,Z=VM x k S:=⟨_,rfl⟩;rw [<- hZ];have hal2:=SV x.net x.types_c x.types x.orders_c x.apart_c x.before_c x.orders x.apart x.before (S:Nat) Za hal hbl hf.val;refine Zf [] Tryz.func118 rfl zM ?_;simp (disch:=omega) only [Tryz.f118,go_sem,seval];refine gF ?_ ?_<;>intro h1<;>simp (disch:=omega) only [Sh.out h1,go_sem,seval,↓reduceIte]
 ·omega
 ·refine gF ?_ ?_<;>intro h2<;>simp (disch:=omega) only [Sh.out h2,go_sem,seval,↓reduceIte]
  ·omega
  ·refine gF ?_ ?_<;>intro h3<;>simp (disch:=omega) only [Sh.out h3,go_sem,seval,↓reduceIte]
   ·omega
   ·refine cD ?_ ?_<;>intro h5<;>simp (disch:=omega) only [Sh.out h5,go_sem,seval,↓reduceIte]
    ·omega
    ·refine (hal2).use (Zc ?_);refine cD ?_ ?_<;>intro h6<;>simp (disch:=omega) only [Sh.out h6,go_sem,seval,↓reduceIte]
     ·have e:Z=(Ww,24):=by simp_all [VM]
      exact ⟨.tup [.p (Xo Z.1),.p (.int .i64 Z.2)],[],Weak.mk (by simp (disch:=omega) only [e,Ww,Zm,go_sem,seval]),rfl,rfl⟩
     ·have h60:Wq x.orders x.apart x.before (S:Int)=0:=Z4.1 h6;obtain ⟨T,hT⟩: ∃T:Nat->Nat,T=fun q=>(((X0 (S:Int) 63).take q).map fun i=>(ZU x.orders i.toNat).length).sum:=⟨_,rfl⟩
      have hT0:T 0=0:=by rw [hT];rfl
      have hTn:T (X0 (S:Int) 63).length=WR x S:=by
       rw [hT];simp only [YT];rw [M6 x S 63 Za,show 63=x.orders.length+(63-x.orders.length) by omega,NZ x S _ hbit];rfl
      have hTs: ∀q,q<(X0 (S:Int) 63).length->T (q+1)=T q+(ZU x.orders (nth (X0 (S:Int) 63) q).toNat).length:=fun q hq=>by
       grind [X9,Zh]
      have hTl: ∀q,T q<=2*q:=fun q=>by
       induction q with
       | zero=>omega
       | succ q ih =>
        rcases WE q (X0 (S:Int) 63).length with h | h
        ·grind [WM]
        grind [Ci]
      have hml:=Cu (S:Int) 63
      have hmi: ∀q,q<(X0 (S:Int) 63).length-> ∃i:Nat,nth (X0 (S:Int) 63) q=(i:Int)/\i<x.orders.length:=fun q hq=>by
       obtain ⟨i,e,_,hb⟩:=Jk.1 (ZX hq)
       grind
      refine ((Dn (S:Int)).frozen Zb).use (Zc ?_);generalize X0 (S:Int) 63=M at hTn hTs hml hmi ⊢;clear hT;refine Zl [1,3,6,8,45,46] (fun q:Nat=> [(47,.p (.int .i64 q))]) (fun q=> [Zj x,D9,Yx x k S (T q) (Ww,false)]) (fun q=>q<=M.length) (fun q=>M.length-q) 0 Zb (Weak.mk ?_) ?_
      ·simp (disch:=omega) only [Zj,D9,GM,Ww,Yx,hT0,Zm,Zq,go_sem,seval]
      ·intro q hq;have hq1:=hTl q;simp (disch:=omega) only [Zj,D9,GM,Ww,Yx,Zm,Zq,go_sem,seval];refine cD ?_ ?_<;>intro h7<;>simp (disch:=omega) only [Sh.out h7,go_sem,seval,↓reduceIte]
       ·have hq2:q<M.length:=Za
        obtain ⟨i,hi,hin⟩:=hmi q hq2;have hts:=hTs q hq2;rw [hi,XU] at hts;have hvl:=WM x.orders i;refine ZA 10 mixed Ze Ze (Zc ?_);rw [hi];refine Zo (visits_c x.orders x.orders_c i hin Za) (Zc ?_)
        have hts2:((T (q+1):Nat):Int)=((T q:Nat):Int)+((ZU x.orders i).length:Int):=Za
        exact ⟨q+1,Za,Za,Weak.mk (by simp (disch:=omega) only [hts2,go_sem,seval])⟩
       ·have hqm:q=M.length:=Za
        subst hqm;rw [hTn] at hq1 ⊢
        have ht8:WR x S<=8:=by
         grind [CY,WR]
        have htp:0<WR x S:=SC hf.vne hdiv Za;obtain ⟨t1,t2,t3,_⟩:=WK hx (show k.toNat<x.types.length by omega);obtain ⟨N,hN⟩: ∃N,N=VH (nth x.types k.toNat) [] (nth x.types k.toNat).opn 0:=⟨_,rfl⟩
        have hNl:N.length<=2:=by
         grind [Bt]
        have hNo:GG 0 N:=fun a ha=>by
         rw [hN] at ha;rcases Vf.1 ha with h | rfl | rfl
         ·simp at h
         ·grind
         ·exact ⟨by simp only;omega,Zb⟩
        have cf:=lD x k S (WR x S) (Ww,false) (nth x.types k.toNat).opn 0 hk htl Za Za;rw [<- hN] at cf;have cw:=DR x hx k S (WR x S) ht8 hk htl hbl Za (WR x S) [] true (nth x.types k.toNat).src N (Ww,false) Zb (fun _=>htp) (by grind) Za (by simp [Ww])
        have hB:(RT x k S (WR x S) [] ((nth x.types k.toNat).src,N)).foldl (XC (FY x k) (YP x k S) Wi) (Ww,false)=D5 x k S (Ww,false):=by rw [D5,st0,<- hN]
        rw [hB] at cw
        have hZ2:Z=if (D5 x k S (Ww,false)).2=true then ((D5 x k S (Ww,false)).1,0) else (Ww,24):=by
         rw [hZ,VM]
         simp_all
        generalize D5 x k S (Ww,false)=B at cw hZ2;refine ZA 7 mixed Ze Ze (Zc ?_);refine ⟨.p (.list false (N.map Fp)),?_,?_⟩
        ·refine ACalls.mono (((cf.mono fun y H' hq=>(⟨hq,by rw [hq.2]⟩:_/\H'.length= [Yx x k S (WR x S) (Ww,false)].length)).front (by rfl) (by rfl) [.cells ((Kr (nth x.types k.toNat)).map .p)]).back [Zj x,D9] (by rfl)) ?_;rintro y H' ⟨y1,H1,⟨H2,⟨rfl,rfl⟩,rfl⟩,rfl,rfl⟩;exact ⟨rfl,rfl⟩
        ·refine Zc ?_;refine ACalls.mono (((cw.mono fun y H' hq=>(⟨hq,by grind⟩:_/\H'.length= [Yx x k S (WR x S) (Ww,false)].length)).front (by rfl) (by rfl) [.cells ((Kr (nth x.types k.toNat)).map .p)]).back [Zj x,D9] (by rfl)) ?_;rintro y H' ⟨y1,H1,⟨H2,⟨rfl,rfl⟩,rfl⟩,rfl,rfl⟩;simp (disch:=omega) only [AM.shV,AM.shVs,AM.shO,Zj,D9,GM,Ww,Yx,Kr,Zq,Zm,ZK,Zy,go_sem,seval];obtain ⟨C,f⟩:=B
         cases f with
         | false =>
          rw [if_neg Zb] at hZ2;refine Gv ?_;exact ⟨.tup [.p (Xo Z.1),.p (.int .i64 Z.2)],[],Weak.mk (by simp (disch:=omega) only [hZ2,Ww,Zm,go_sem,seval]),rfl,rfl⟩
         | true =>
          rw [if_pos rfl] at hZ2;refine BB ?_;exact ⟨.tup [.p (Xo Z.1),.p (.int .i64 Z.2)],[],Weak.mk (by simp (disch:=omega) only [hZ2,go_sem,seval]),rfl,rfl⟩
theorem OI (a b:Col) (ha:a.route.visits.length<=1048576) (hb:b.route.visits.length<=1048576):PC 129 [.p (Xo a),.p (Xo b)] (.bool (Wi a b)):=by
 refine Zd Tryz.func129 rfl zW ?_;simp (disch:=omega) only [Tryz.f129,go_sem,seval];refine cD ?_ ?_<;>intro h<;>simp (disch:=omega) only [Sh.out h,go_sem,seval,↓reduceIte]
 ·rw [Wi,if_pos h]
 ·refine (sO a.route.visits b.route.visits a.route.visits_c b.route.visits_c ha hb).use (Zc ?_);rw [Wi,if_neg h]
theorem OY (x:Inst) (S:Nat) (h4:x.orders.length<=60) (hS0:0<S) (hS:S<9223372036854775808):PC 82 [.p (Zv x),.p (.int .i64 S)] (.bool (decide (S / pw x.orders.length=0))):=by
 refine Zd Tryz.func82 rfl Zit ?_;simp (disch:=omega) only [Tryz.f82,go_sem,seval];refine Zl [1,2] (fun k:Nat=> [(5,.p (.int .i64 (hv S k:Nat))),(6,.p (.int .i64 k))]) (fun _=> [Zj x]) (fun k=>k<=x.orders.length) (fun k=>x.orders.length-k) 0 Zb (Weak.mk ?_) ?_
 ·simp (disch:=omega) only [RH,Zj,go_sem,seval]
 ·intro k hk;have e1:=RG S k;have h1:=vC S k;refine Yd ?_;refine gT ?_ ?_<;>intro h2<;>simp (disch:=omega) only [Sh.out h2,go_sem,seval,↓reduceIte]
  ·refine ZO ?_ ?_<;>intro h3
   ·have e2:((hv S (k+1):Nat):Int)=((hv S k:Nat):Int) / 2:=Za
    exact ⟨k+1,Za,Za,Weak.mk (by simp (disch:=omega) only [e2,go_sem,seval])⟩
   ·omega
  ·have hkn:k=x.orders.length:=Za
   subst hkn;refine gT ?_ ?_<;>intro h3<;>simp (disch:=omega) only [Sh.out h3,go_sem,seval,↓reduceIte]
   ·have e:decide (((hv S x.orders.length:Nat):Int)=0)=decide (S / pw x.orders.length=0):=by
     rw [decide_eq_decide];unfold hv;omega
    simp (disch:=omega) only [e,go_sem,seval]
   ·omega
def P0 (x:Inst) (k:Int) (S f:Nat):Prop:= ∀(l:List Vis) (c:Bool) (b:Col) (fd:Bool),Gr x S l->l.length+f=WR x S->(c=true->l= [])->b.typ=k->b.set=S->b.route.visits.length<=1048576 ->
  PT 83 [.p (Zv x),.p (Xo b),.p (.bool fd),.p (.list c (l.map Z7))] [.p (Xo ((A3 (Cx x S) f l).foldl (XC (C3 x k S) (YP x k S) Wi) (b,fd)).1),.p (.bool ((A3 (Cx x S) f l).foldl (XC (C3 x k S) (YP x k S) Wi) (b,fd)).2)]
theorem HW (x:Inst) (hx:InstOk x) (k:Int) (S:Nat) (hS0:0<S) (hS:S<9223372036854775808) (ho:x.orders.length<=60) (htl:x.types.length<=1048576) (hbl:x.before.length<=1048576) (l:List Vis) (c:Bool) (b:Col) (fd:Bool) (hnx:Cx x S l= []) (hll:l.length<=1048576) (hc:c=true->l= []) (hb1:b.typ=k) (hb2:b.set=S) (hb3:b.route.visits.length<=1048576) :
  PT 83 [.p (Zv x),.p (Xo b),.p (.bool fd),.p (.list c (l.map Z7))] [.p (Xo (XC (C3 x k S) (YP x k S) Wi (b,fd) l).1),.p (.bool (XC (C3 x k S) (YP x k S) Wi (b,fd) l).2)]:=by
 have hf:=XH hx;obtain ⟨Z,hZ⟩: ∃Z,Z=XC (C3 x k S) (YP x k S) Wi (b,fd) l:=⟨_,rfl⟩;rw [<- hZ];have hnx':nextU x S l x.orders.length= []:=hnx;obtain ⟨bt,bs,bp,br⟩:=b;simp only at hb1 hb2 hb3;have hb1:=hb1.symm;subst hb1;subst hb2;have hnc:=Sk x S l c hS hll ho hbl hf.plc (fun q hq=>by have:=(hf.val q hq);omega);rw [hnx'] at hnc;refine Zf [] Tryz.func83 rfl vE ?_;simp (disch:=omega) only [Tryz.f83,go_sem,seval];refine (hnc).use (Zc ?_);refine WL (HS ⟨k,0,true,[],c,l⟩ hll) (Zc ?_);refine gF ?_ ?_<;>intro h1<;>simp (disch:=omega) only [Sh.out h1,go_sem,seval,↓reduceIte]
 ·have hok:C3 x k S l=false:=by
   grind [C3]
  have e:Z=(⟨k,S,bp,br⟩,fd):=by simp_all [XC]
  exact ⟨.tup [.p (Xo Z.1),.p (.bool Z.2)],[],Weak.mk (by simp (disch:=omega) only [e,go_sem,seval]),rfl,rfl⟩
 ·have h1':(Q1 l).1=(S:Int):=Z4.1 h1
  have hcf:c=false:=by
   cases c with
   | false=>rfl
   | true =>
    exfalso;rw [hc rfl] at h1';have:(Q1 ([]:List Vis)).1=0:=rfl;omega
  subst hcf;refine (bT x (Q3 k l) hx hll (by simp [Q3])).use (Zc ?_);refine cD ?_ ?_<;>intro h2<;>simp (disch:=omega) only [Sh.out h2,go_sem,seval,↓reduceIte]
  ·have hok:C3 x k S l=false:=by
    grind [C3]
   have e:Z=(⟨k,S,bp,br⟩,fd):=by simp_all [XC]
   exact ⟨.tup [.p (Xo Z.1),.p (.bool Z.2)],[],Weak.mk (by simp (disch:=omega) only [e,go_sem,seval]),rfl,rfl⟩
  ·have h2':Xv x (Q3 k l)=0:=Z4.1 h2;refine WL (Nw x (Q3 k l) hx ⟨hll,by simp [Q3]⟩) (Zc ?_);have hcol:YP x k S l=⟨k,S,(YG x (Q3 k l)).1,Q3 k l⟩:=rfl;refine gF ?_ ?_<;>intro h3<;>simp (disch:=omega) only [Sh.out h3,go_sem,seval,↓reduceIte]
   ·have hok:C3 x k S l=false:=by
     grind [C3,FY]
    have e:Z=(⟨k,S,bp,br⟩,fd):=by simp_all [XC]
    exact ⟨.tup [.p (Xo Z.1),.p (.bool Z.2)],[],Weak.mk (by simp (disch:=omega) only [e,go_sem,seval]),rfl,rfl⟩
   ·have hok:C3 x k S l=true:=by
     simp_all [C3,FY]
    cases fd with
    | false =>
     have e:Z=(YP x k S l,true):=by rw [hZ,XC,if_pos ⟨hok,.inl rfl⟩]
     refine Zc ?_;exact ⟨.tup [.p (Xo Z.1),.p (.bool Z.2)],[],Weak.mk (by simp (disch:=omega) only [e,hcol,Q3,Zm,go_sem,seval]),rfl,rfl⟩
    | true =>
     refine Zc ?_;refine (OI (YP x k S l) ⟨k,S,bp,br⟩ hll hb3).use (Zc ?_)
     cases hbt:Wi (YP x k S l) ⟨k,S,bp,br⟩ with
     | true =>
      have e:Z=(YP x k S l,true):=by simp_all [XC]
      refine BB ?_;exact ⟨.tup [.p (Xo Z.1),.p (.bool Z.2)],[],Weak.mk (by simp (disch:=omega) only [e,hcol,Q3,Zm,go_sem,seval]),rfl,rfl⟩
     | false =>
      have e:Z=(⟨k,S,bp,br⟩,true):=by simp_all [XC]
      refine Gv ?_;exact ⟨.tup [.p (Xo Z.1),.p (.bool Z.2)],[],Weak.mk (by simp (disch:=omega) only [e,go_sem,seval]),rfl,rfl⟩
theorem ZcQ (x:Inst) (hx:InstOk x) (k:Int) (S:Nat) (hS0:0<S) (hS:S<9223372036854775808) (ho:x.orders.length<=60) (htl:x.types.length<=1048576) (hbl:x.before.length<=1048576):P0 x k S 0:=by
 intro l c b fd hg hl hc hb1 hb2 hb3;have:=CY x S x.orders.length
 have hl':l.length=KZ x S x.orders.length:=by grind [WR]
 simp only [A3,XL,Ux];exact HW x hx k S hS0 hS ho htl hbl l c b fd (rI hg Za) Za hc hb1 hb2 hb3
theorem N1 {x:Inst} {k:Int} {S N:Nat} : ∀(L:List (List Vis)) (b:Col×Bool),b.1.typ=k/\b.1.set=S/\b.1.route.visits.length<=N->(∀m∈L,m.length<=N)->(L.foldl (XC (C3 x k S) (YP x k S) Wi) b).1.typ=k/\(L.foldl (XC (C3 x k S) (YP x k S) Wi) b).1.set=S/\(L.foldl (XC (C3 x k S) (YP x k S) Wi) b).1.route.visits.length<=N
 | [],b,h,_=>h
 | m::L,b,h,hL=>by
  rw [XL];refine N1 L _ ?_ fun q hq=>hL q (Yp _ hq);unfold XC
  split
  ·exact ⟨rfl,rfl,hL m Zb⟩
  ·exact h
theorem RU {x:Inst} {S:Nat} : ∀(f:Nat) (l:List Vis),∀m∈A3 (Cx x S) f l,m.length<=l.length+f
 | 0,l,m,hm=>by
  simp_all [A3]
 | f+1,l,m,hm=>by
  rw [A3] at hm
  split at hm
  ·grind
  ·obtain ⟨v,_,hm⟩:=XQ.1 hm;have:=RU f _ m hm
   grind
theorem Zc2 {g:FuncId} {args:List V} {a b:PV} {H:List AM.Obj} {K:V->List AM.Obj->Prop} (h:ACalls Tryz.prog g args [] fun x H'=>x= .tup [.p a,.p b]/\H'= []) (k:K (.tup [.p a,.p b]) H) (ha:Xl 0 args=true:=by rfl):ACalls Tryz.prog g args H K:=WL h k ha
theorem ZcR (x:Inst) (hx:InstOk x) (k:Int) (S f:Nat) (hS0:0<S) (hS:S<9223372036854775808) (ho:x.orders.length<=60) (htl:x.types.length<=1048576) (hbl:x.before.length<=1048576) (ih:P0 x k S f):P0 x k S (f+1):=by
 intro l c b fd hg hl hc hb1 hb2 hb3;have hf:=XH hx;have htu:=CY x S x.orders.length
 have hll:l.length<=120:=by grind [WR]
 by_cases hnx:Cx x S l= []
 ·rw [show A3 (Cx x S) (f+1) l= [l] by rw [A3,if_pos hnx]];simp only [XL,Ux];exact HW x hx k S hS0 hS ho htl hbl l c b fd hnx Za hc hb1 hb2 hb3
 ·rw [show A3 (Cx x S) (f+1) l=(Cx x S l).flatMap fun v=>A3 (Cx x S) f (l++ [v]) by rw [A3,if_neg hnx]];have hnc:=Sk x S l c hS Za ho hbl hf.plc (fun q hq=>by have:=(hf.val q hq);omega);have hnl:=Jn x S l x.orders.length;have hgv: ∀v∈Cx x S l,Gr x S (l++ [v]):=fun v hv=> .snoc hg hv;have hnv:nextU x S l x.orders.length=Cx x S l:=rfl;rw [hnv] at hnc hnl;generalize Cx x S l=nx at hnx hnc hnl hgv ⊢;obtain ⟨B,hB⟩: ∃B:Nat->Col×Bool,B=fun q=>((nx.take q).flatMap fun v=>A3 (Cx x S) f (l++ [v])).foldl (XC (C3 x k S) (YP x k S) Wi) (b,fd):=⟨_,rfl⟩
  have hB0:B 0=(b,fd):=by rw [hB];rfl
  have hBn:(nx.flatMap fun v=>A3 (Cx x S) f (l++ [v])).foldl (XC (C3 x k S) (YP x k S) Wi) (b,fd)=B nx.length:=by rw [hB];simp
  have hBs: ∀q,q<nx.length->B (q+1)=(A3 (Cx x S) f (l++ [nth nx q])).foldl (XC (C3 x k S) (YP x k S) Wi) (B q):=fun q hq=>by
   rw [hB];simp only;rw [X9 hq,List.flatMap_append,List.foldl_append,<- Zh hq];simp
  have hBi: ∀q,(B q).1.typ=k/\(B q).1.set=S/\(B q).1.route.visits.length<=1048576:=fun q=>by
   rw [hB];refine N1 _ _ ⟨hb1,hb2,hb3⟩ fun m hm=> ?_;obtain ⟨v,_,hm⟩:=XQ.1 hm;have:=RU _ _ m hm
   grind [WR]
  rw [hBn];clear hB hBn;have hne: ¬nx.length=0:=fun h=>hnx (YA h);refine Zf [] Tryz.func83 rfl vE ?_;simp (disch:=omega) only [Tryz.f83,go_sem,seval];rw [<- hb2] at hnc;refine (hnc).use (Zc ?_);refine cD ?_ ?_<;>intro h1<;>simp (disch:=omega) only [Sh.out h1,go_sem,seval,↓reduceIte]
  ·omega
  ·refine Z2 [17] [3,4,5,8,10] (fun q:Nat=> [(2,.p (.bool (B q).2)),(16,.p (.int .i64 q))]) (fun q=> [Zj x,.cells ((GM (B q).1).map .p),D9]) (fun q=>q<=nx.length) (fun q=>nx.length-q) 0 Zb (Weak.mk ?_) ?_
   ·simp (disch:=omega) only [Zj,D9,Ww,GM,hB0,Zq,Zm,go_sem,seval]
   ·intro q hq;simp (disch:=omega) only [Zj,D9,Ww,GM,Zq,Zm,go_sem,seval];refine cD ?_ ?_<;>intro h2<;>simp (disch:=omega) only [Sh.out h2,go_sem,seval,↓reduceIte]
    ·have hq2:q<nx.length:=Za
     have hBq:=hBs q hq2;obtain ⟨i1,i2,i3⟩:=hBi q;have hmem:=ZX hq2;have ihc:=ih (l++ [nth nx q]) false (B q).1 (B q).2 (hgv _ hmem) (by simp;omega) Zb i1 i2 i3;rw [show ((B q).1,(B q).2)=B q from rfl,<- hBq,XG] at ihc;refine ZI [2,3,4,5,8,10,16] (fun _:Unit=> [(17,.p (.list false ((l++ [nth nx q]).map Z7)))]) (fun _=> [Zj x,.cells ((GM (B q).1).map .p),D9,.dead]) (fun _=>True) ?_ ?_
     ·simp (disch:=omega) only [ZE,Xj,go_sem,seval];exact ⟨(),(Weak.fz (o:=3) (by rfl)).trans (Weak.mk (by simp (disch:=omega) only [Zj,D9,Ww,GM,Zq,Zm,ZH,ZB,ZE,Z0,Xj,eq_self,Z8,ZZ,go_sem,seval]))⟩
     ·intro _ _;refine Zg [] _ _ _ _ ?_;simp (disch:=omega) only [Zj,D9,Ww,GM,Zq,Zm,go_sem,seval];refine Zc2 ihc ?_;simp (disch:=omega) only [Zq,Zm,go_sem,seval];exact ⟨q+1,Za,Za,wk⟩
    ·have hql:q=nx.length:=Za
     subst hql;exact ⟨.tup [.p (Xo (B nx.length).1),.p (.bool (B nx.length).2)],[],wk,rfl,rfl⟩
theorem Gj (x:Inst) (hx:InstOk x) (k:Int) (S:Nat) (hS0:0<S) (hS:S<9223372036854775808) (ho:x.orders.length<=60) (htl:x.types.length<=1048576) (hbl:x.before.length<=1048576): ∀f,P0 x k S f
 | 0=>ZcQ x hx k S hS0 hS ho htl hbl
 | f+1=>ZcR x hx k S f hS0 hS ho htl hbl (Gj x hx k S hS0 hS ho htl hbl f)
def Bv (one:Nat->List Col):Nat->List Col
 | 0=> []
 | q+1=>Bv one q++one (q+1)
def V9 (one:Nat->Nat->List Col) (N:Nat):Nat->List Col
 | 0=> []
 | k+1=>V9 one N k++Bv (one k) N
theorem CL {one:Nat->List Col} (h: ∀q,(one q).length<=1): ∀q,(Bv one q).length<=q
 | 0=>ZD _
 | q+1=>by
  have:=CL h q;have:=h (q+1);rw [Bv,ZH];omega
theorem BK {one:Nat->Nat->List Col} {N:Nat} (h: ∀k q,(one k q).length<=1): ∀k,(V9 one N k).length<=k*N
 | 0=>by simp [V9]
 | k+1=>by
  have h1:=BK (N:=N) h k;have h2:=CL (h k) N;rw [V9,ZH,XN];omega
noncomputable def VE (x:Inst) (k S:Nat):List Col:=if (VM x (k:Int) S).2=0 then [(VM x (k:Int) S).1] else []
theorem KN {x:Inst} (k S:Nat):(VE x k S).length<=1:=by grind [VE]
theorem Np (x:Inst) (hx:InstOk x) (h4:x.orders.length<=4) (h6:x.types.length<=6) (hbl:x.before.length<=1048576) (hal:x.apart.length<=1048576) :
  PT 80 [.p (Zv x)] [.p (.list false ((V9 (VE x) (2^x.orders.length-1) x.types.length).map Xo)),.p (.int .i64 0)]:=by
 have hp:pw x.orders.length=2^x.orders.length:=rfl;have hp1:1<=2^x.orders.length:=Nat.one_le_two_pow;have hp2:2^x.orders.length<=2^4:=Yr Za h4;obtain ⟨N,hN⟩: ∃N,N=2^x.orders.length-1:=⟨_,rfl⟩;rw [<- hN];refine Zf [12] Tryz.func80 rfl Zir ?_;simp (disch:=omega) only [Tryz.f80,go_sem,seval];refine Z2 [12] [1,11] (fun k:Nat=> [(4,.sl 1 0 (V9 (VE x) N k).length (V9 (VE x) N k).length),(12,.p (.int .i64 k))]) (fun k=> [Zj x,.elems 7 ((V9 (VE x) N k).map Xo)]) (fun k=>k<=x.types.length) (fun k=>x.types.length-k) 0 Zb (Weak.ofNil 4 7 (by simp (disch:=omega) only [go_sem,seval]) Zb (Weak.mk ?_)) ?_
 ·simp (disch:=omega) only [Zj,V9,Zm,ZE,go_sem,seval]
 ·intro k hk;obtain ⟨R,hR⟩: ∃R,R=V9 (VE x) N k:=⟨_,rfl⟩;have hRl:=BK (N:=N) (KN (x:=x)) k
  have hRs:V9 (VE x) N (k+1)=R++Bv (VE x k) N:=by rw [hR];rfl
  rw [<- hR] at hRl ⊢;have hkN:k*N<=6*16:=Cr Za Za;refine Yd ?_;refine cD ?_ ?_<;>intro h1<;>simp (disch:=omega) only [Sh.out h1,go_sem,seval,↓reduceIte]
  ·obtain ⟨W,hW⟩: ∃W:Nat->List Col,W=fun q=>R++Bv (VE x k) (q-1):=⟨_,rfl⟩
   have hW0:W 1=R:=by grind [Bv]
   have hWn:V9 (VE x) N (k+1)=W (N+1):=by grind
   have hWl: ∀q,(W q).length<=R.length+q:=fun q=>by
    grind [CL,KN]
   have hWs: ∀q,1<=q->W (q+1)=W q++VE x k q:=fun q h=>by
    obtain ⟨p,rfl⟩: ∃p,q=p+1:=⟨q-1,Za⟩
    grind [Bv]
   clear hW hRs;refine Zl [1,5,11,12] (fun q:Nat=> [(4,.sl 1 0 (W q).length (W q).length),(6,.p (.int .i64 q))]) (fun q=> [Zj x,.elems 7 ((W q).map Xo)]) (fun q=>1<=q/\q<=N+1) (fun q=>N+1-q) 1 Za (Weak.mk ?_) ?_
   ·have e0:((1:Nat):Int)=1:=rfl;simp (disch:=omega) only [Zj,hW0,e0,go_sem,seval]
   ·rintro q ⟨hq0,hq⟩;have hql:=hWl q;have hqs:=hWs q hq0;refine Yd ?_;refine ZO ?_ ?_<;>intro h2
    ·have hq2:q<2^x.orders.length:=by
      have h2':q / pw x.orders.length=0:=Za
      simp_all
     refine WL (Ln x hx k q Za h4 Za hbl hal Za hq2) ?_;have hone:VE x k q=if (VM x (k:Int) q).2=0 then [(VM x (k:Int) q).1] else []:=rfl;rw [hone] at hqs;generalize VM x (k:Int) q=Z at hqs ⊢;refine Zc ?_;refine ZO ?_ ?_<;>intro h3
     ·rw [if_pos h3] at hqs;exact ⟨q+1,Za,Za,Weak.mk (by simp (disch:=omega) only [hqs,XG,Zq,Zm,ZH,ZB,ZE,Xj,go_sem,seval])⟩
     ·rw [if_neg h3,Wl] at hqs;exact ⟨q+1,Za,Za,Weak.mk (by simp (disch:=omega) only [hqs,go_sem,seval])⟩
    ·have hqn:q=N+1:=by
      have h2': ¬q / pw x.orders.length=0:=Za
      rw [hp] at h2';have: ¬q<2^x.orders.length:=fun h=>h2' (Qu h);omega
     subst hqn;exact ⟨k+1,Za,Za,Weak.mk (by simp (disch:=omega) only [hWn,go_sem,seval])⟩
  ·have hkt:k=x.types.length:=Za
   subst hkt;refine Zp (Weak.fz (o:=1) (by rfl)) ?_;refine Zg [] _ _ _ _ ?_;simp (disch:=omega) only [Zq,Zm,Z8,ZZ,eq_self,go_sem,seval];exact ⟨.tup [.p (.list false (R.map Xo)),.p (.int .i64 0)],[],wk,by rw [hR],rfl⟩
def A1 (k:Int) (S:Nat):Col:=⟨k,S,0,⟨0,0,true,[],true,[]⟩⟩
theorem eK {x:Inst} (hx:InstOk x) {k:Int} (hk:0<=k/\k<x.types.length) {S:Nat} (hS0:0<S) (hS1:S<2^x.orders.length):VM x k S=if (BR x k S (A1 k S,false)).2=true then ((BR x k S (A1 k S,false)).1,0) else (Ww,24):=by
 have hf:=XH hx;have hdiv:S / pw x.orders.length=0:=Qu hS1
 have hn:x.orders.length<=60:=by have:=hf.len;omega
 obtain ⟨t1,_⟩:=WK hx (show k.toNat<x.types.length by omega);have hi:=Qr hn hdiv hf.val;rw [VM]
 by_cases ha:Alw x S
 ·have e:=OM hx Za hdiv ha t1.1 (k:=k) (Ww,false);have f:=Gw (ok:=C3 x k S) (col:=YP x k S) (better:=Wi) (A3 (Cx x S) (WR x S) []) Ww (A1 k S);have f1:(BR x k S (Ww,false)).2=(BR x k S (A1 k S,false)).2:=f.1;have f2:(BR x k S (Ww,false)).2=true->(BR x k S (Ww,false)).1=(BR x k S (A1 k S,false)).1:=f.2
  grind
 simp_all [pB]
theorem eA (x:Inst) (hx:InstOk x) (k:Int) (S:Nat) (hk:0<=k/\k<x.types.length) (h4:x.orders.length<=4) (htl:x.types.length<=1048576) (hbl:x.before.length<=1048576) (hS0:0<S) (hS1:S<2^x.orders.length) :
  PT 50 [.p (Zv x),.p (.int .i64 k),.p (.int .i64 S)] [.p (Xo (VM x k S).1),.p (.int .i64 (VM x k S).2)]:=by
 have h16:S<16:=Uu hS1 (Yr (n:=2) Za h4);have hdiv:S / pw x.orders.length=0:=Qu hS1;obtain ⟨Z,hZ⟩: ∃Z,Z=VM x k S:=⟨_,rfl⟩;rw [<- hZ];rw [eK hx hk hS0 hS1] at hZ;have cs:=Gj x hx k S hS0 Za Za htl hbl (WR x S) [] true (A1 k S) false .nil Zb (fun _=>rfl) rfl rfl (by simp [A1]);rw [show (A3 (Cx x S) (WR x S) []).foldl (XC (C3 x k S) (YP x k S) Wi) (A1 k S,false)=BR x k S (A1 k S,false) from rfl] at cs;generalize BR x k S (A1 k S,false)=B at cs hZ
 refine Zf [] Tryz.func50 rfl Zh2 ?_;simp (disch:=omega) only [Tryz.f50,go_sem,seval];refine gF ?_ ?_<;>intro h1<;>simp (disch:=omega) only [Sh.out h1,go_sem,seval,↓reduceIte]
 ·omega
 ·refine gF ?_ ?_<;>intro h2<;>simp (disch:=omega) only [Sh.out h2,go_sem,seval,↓reduceIte]
  ·omega
  ·refine (OY x S Za hS0 Za).use (Zc ?_);simp (disch:=omega) only [hdiv,eq_self,Vz,go_sem,seval];refine WL cs (Zc ?_);obtain ⟨C,f⟩:=B
   cases f with
   | false =>
    rw [if_neg Zb] at hZ;refine Gv ?_;exact ⟨.tup [.p (Xo Z.1),.p (.int .i64 Z.2)],[],Weak.mk (by simp (disch:=omega) only [hZ,Ww,Zm,go_sem,seval]),rfl,rfl⟩
   | true =>
    rw [if_pos rfl] at hZ;refine BB ?_;exact ⟨.tup [.p (Xo Z.1),.p (.int .i64 Z.2)],[],Weak.mk (by simp (disch:=omega) only [hZ,go_sem,seval]),rfl,rfl⟩
theorem nQ (x:Inst) (hx:InstOk x) (h4:x.orders.length<=4) (h6:x.types.length<=6) (hbl:x.before.length<=1048576) :
  PT 30 [.p (Zv x)] [.p (.list false ((V9 (VE x) (2^x.orders.length-1) x.types.length).map Xo)),.p (.int .i64 0)]:=by
 have hp1:1<=2^x.orders.length:=Nat.one_le_two_pow;have hp2:2^x.orders.length<=2^4:=Yr Za h4;obtain ⟨N,hN⟩: ∃N,N=2^x.orders.length-1:=⟨_,rfl⟩
 have hpN:pw x.orders.length=N+1:=by unfold pw;omega
 rw [<- hN];refine Zf [16] Tryz.func30 rfl ZhN ?_;simp (disch:=omega) only [Tryz.f30,go_sem,seval];refine Z2 [16] [1] (fun k:Nat=> [(4,.p (.int .i64 (pw k:Nat))),(5,.p (.int .i64 k))]) (fun _=> [Zj x]) (fun k=>k<=x.orders.length) (fun k=>x.orders.length-k) 0 Zb (Weak.mk ?_) ?_
 ·have e0:((pw 0:Nat):Int)=1:=rfl;simp (disch:=omega) only [Zj,e0,go_sem,seval]
 ·intro k hk;have hpk:pw k<=pw 4:=Kf Za;have hp4:pw 4=16:=rfl;have hps:=EP k
  have e2:((pw (k+1):Nat):Int)=((pw k:Nat):Int)*2:=Za
  refine Yd ?_;refine gT ?_ ?_<;>intro h0<;>simp (disch:=omega) only [Sh.out h0,go_sem,seval,↓reduceIte]
  ·refine ZO ?_ ?_<;>intro h1
   ·exact ⟨k+1,Za,Za,Weak.mk (by simp (disch:=omega) only [e2,go_sem,seval])⟩
   ·omega
  ·have hkn:k=x.orders.length:=Za
   subst hkn;rw [hpN];refine Z2 [16] [1,4] (fun k:Nat=> [(6,.sl 1 0 (V9 (VE x) N k).length (V9 (VE x) N k).length),(7,.p (.int .i64 k))]) (fun k=> [Zj x,.elems 7 ((V9 (VE x) N k).map Xo)]) (fun k=>k<=x.types.length) (fun k=>x.types.length-k) 0 Zb (Weak.ofNil 6 7 (by simp (disch:=omega) only [go_sem,seval]) Zb (Weak.mk ?_)) ?_
   ·simp (disch:=omega) only [Zj,V9,Zm,ZE,go_sem,seval]
   ·intro k hk;obtain ⟨R,hR⟩: ∃R,R=V9 (VE x) N k:=⟨_,rfl⟩;have hRl:=BK (N:=N) (KN (x:=x)) k
    have hRs:V9 (VE x) N (k+1)=R++Bv (VE x k) N:=by rw [hR];rfl
    rw [<- hR] at hRl ⊢;have hkN:k*N<=6*16:=Cr Za Za;refine Yd ?_;refine cD ?_ ?_<;>intro h1<;>simp (disch:=omega) only [Sh.out h1,go_sem,seval,↓reduceIte]
    ·obtain ⟨W,hW⟩: ∃W:Nat->List Col,W=fun q=>R++Bv (VE x k) q:=⟨_,rfl⟩
     have hW0:W 0=R:=by grind [Bv]
     have hWn:V9 (VE x) N (k+1)=W N:=by rw [hRs,hW]
     have hWl: ∀q,(W q).length<=R.length+q:=fun q=>by
      grind [CL,KN]
     have hWs: ∀q,W (q+1)=W q++VE x k (q+1):=fun q=>by grind [Bv]
     clear hW hRs;refine Zl [1,4,7] (fun q:Nat=> [(6,.sl 1 0 (W q).length (W q).length),(8,.p (.int .i64 ((q+1:Nat):Int)))]) (fun q=> [Zj x,.elems 7 ((W q).map Xo)]) (fun q=>q<=N) (fun q=>N-q) 0 Zb (Weak.mk ?_) ?_
     ·have e0:((0+1:Nat):Int)=1:=rfl;simp (disch:=omega) only [Zj,hW0,e0,go_sem,seval]
     ·intro q hq;have hql:=hWl q;have hqs:=hWs q
      have e1:((q+1+1:Nat):Int)=((q+1:Nat):Int)+1:=Za
      refine Yd ?_;refine ZO ?_ ?_<;>intro h2
      ·refine WL (eA x hx k (q+1) Za h4 Za hbl Za Za) ?_;have hone:VE x k (q+1)=if (VM x (k:Int) (q+1)).2=0 then [(VM x (k:Int) (q+1)).1] else []:=rfl;rw [hone] at hqs;generalize VM x (k:Int) (q+1)=Z at hqs ⊢;refine Zc ?_;refine ZO ?_ ?_<;>intro h3
       ·rw [if_pos h3] at hqs;exact ⟨q+1,Za,Za,Weak.mk (by simp (disch:=omega) only [hqs,XG,Zq,Zm,ZH,ZB,ZE,Xj,go_sem,seval])⟩
       ·rw [if_neg h3,Wl] at hqs;exact ⟨q+1,Za,Za,Weak.mk (by simp (disch:=omega) only [hqs,go_sem,seval])⟩
      ·have hqn:q=N:=Za
       subst hqn;exact ⟨k+1,Za,Za,Weak.mk (by simp (disch:=omega) only [hWn,go_sem,seval])⟩
    ·have hkt:k=x.types.length:=Za
     subst hkt;refine Zp (Weak.fz (o:=1) (by rfl)) ?_;refine Zg [] _ _ _ _ ?_;simp (disch:=omega) only [Zq,Zm,Z8,ZZ,eq_self,go_sem,seval];exact ⟨.tup [.p (.list false (R.map Xo)),.p (.int .i64 0)],[],wk,by rw [hR],rfl⟩
end Go.Proofs.YtenjikkmmibffaaGreatDoor.K
