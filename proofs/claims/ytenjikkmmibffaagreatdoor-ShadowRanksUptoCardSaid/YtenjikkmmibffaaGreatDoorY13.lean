/- Declarations that the closing texts need, part 13: joined by tools/slim.py. -/
import Derived.Test.YtenjikkmmibffaaGreatDoorY12
set_option linter.unusedVariables false
set_option linter.unusedSimpArgs false
namespace Go.Proofs.YtenjikkmmibffaaGreatDoor.K
open Go Go.AM Go.Proofs
set_option maxRecDepth 8000
theorem nY {x:Inst} {t:Typ} {p:Int} {stop:Stp} {out:List Sr} {a b:Sr} (h:b∈out):b∈JE x t p stop out a:=by
 grind [JE,Vl]
theorem M7 {x:Inst} {t:Typ} {p:Int} {stop:Stp} : ∀(st:List Sr) (out:List Sr) (b:Sr),(b∈out->b∈st.foldl (JE x t p stop) out)/\ ∀a∈st,(∀o,b∈JE x t p stop o a)->b∈st.foldl (JE x t p stop) out
 | [],out,b=>⟨id,fun a h=>by simp at h⟩
 | c::st,out,b=>by
  rw [XR];obtain ⟨g1,g2⟩:=M7 st (JE x t p stop out c) b;refine ⟨fun h=>g1 (nY h),fun a ha hb=> ?_⟩
  grind
inductive Rch (x:Inst) (t:Typ) (sp:List Stp):Nat->Lab->Prop where
 | zero:Rch x t sp 0 (labF t 0)
 | succ {k:Nat} {L:Lab} (b:Bool) (h:Rch x t sp k L) (hk:k<sp.length) (e:(nxtF x t sp k L b).2=0):Rch x t sp (k+1) (nxtF x t sp k L b).1
theorem SU {x:Inst} {t:Typ} {sp:List Stp} : ∀(bs:List Bool) (k:Nat) (L:Lab),Rch x t sp k L->k+bs.length=sp.length+1->(Xc x t sp k L bs).2=0-> ∀j,k<=j->j<=sp.length-> ∃L',Rch x t sp j L'
 | [],k,L,h,hl,_,j,h1,h2=>by grind
 | b::bs,k,L,h,hl,hr,j,h1,h2=>by
  by_cases e:k=j
  ·grind
  ·rw [Xc] at hr
   split at hr
   ·rename_i he;exact SU bs (k+1) _ (.succ b h Za he) (by grind) hr j Za h2
   omega
def dW (x:Inst) (t:Typ) (l:List Vis) (s:Int×List Sr):Prop:=s.1=V7 t (ZO x l) l.length/\ ∀r L,Rch x t (ZO x (l++r)) l.length L-> ∀b,(⟨ZK t L b,WU L b⟩:Sr)∈s.2
def goS (x:Inst) (t:Typ) (s:Int×List Sr) (v:Vis):Int×List Sr:=((Xj x v).place,D0 x t s.1 s.2 (Xj x v))
def st0 (t:Typ):Int×List Sr:=(t.src,VM t [] t.opn 0)
theorem iA {x:Inst} {t:Typ} (h:0<=t.opn):dW x t [] (st0 t):=by
 refine ⟨rfl,fun r L hL b=> ?_⟩
 have:L=labF t 0:=by
  generalize hk:([]:List Vis).length=k at hL
  cases hL with
  | zero=>rfl
  | succ=>simp at hk
 subst this
 have hm:max t.opn 0=t.opn:=Za
 cases b
 ·exact Vl.2 (.inr (.inl (by simp [ZK,WU,labF,hm])))
 ·exact Vl.2 (.inr (.inr (by simp [ZK,WU,labF,hm])))
theorem Ih {x:Inst} {l r:List Vis} {v:Vis} :nth (ZO x (l++(v::r))) l.length=Xj x v:=by
 grind [Zh,ZO]
theorem mB {x:Inst} {t:Typ} {l r:List Vis} :V7 t (ZO x (l++r)) l.length=V7 t (ZO x l) l.length:=by
 grind [V7,ZO,Zh]
theorem hJ {x:Inst} {t:Typ} {l:List Vis} {s:Int×List Sr} {v:Vis} (h:dW x t l s):dW x t (l++ [v]) (goS x t s v):=by
 obtain ⟨h1,h2⟩:=h;refine ⟨?_,fun r L' hL b=> ?_⟩
 ·have e:=Ih (x:=x) (l:=l) (r:= []) (v:=v);rw [V7,if_neg Zb,show (l++ [v]).length-1=l.length by simp,e];rfl
 ·rw [J6,ZL,Zz] at hL;generalize hsp:ZO x (l++(v::r))=sp at hL
  have hlen:l.length<sp.length:=by grind [ZO]
  have hat:nth sp l.length=Xj x v:=by grind [Ih]
  have hpl:V7 t sp l.length=s.1:=by grind [mB]
  generalize hk:(l++ [v]).length=k at hL
  cases hL with
  | zero=>simp at hk
  | succ b' hp hk' he =>
   rename_i k L
   have hkl:k=l.length:=by grind
   subst hkl;have hmem:=h2 (v::r) L (by grind) b'
   generalize hd:ZK t L b'=d at *
   generalize hs:WU L b'=w at *
   have hg:Y2 x t sp l.length d=WY x.net t.prof s.1 (Xj x v).place d:=by
    rw [Y2,hpl,OM,if_neg Za,hat]
   unfold nxtF at he ⊢;rw [hd,hs,hg] at he ⊢
   generalize hgn:WY x.net t.prof s.1 (Xj x v).place d=g at *
   unfold WB at he ⊢
   split at he
   ·simp at he
   ·rename_i c1;rw [if_neg c1];rw [if_neg Za] at he ⊢;rw [hat] at he ⊢
    split at he
    ·simp at he
    ·rename_i c2;rw [if_neg c2]
     split at he
     ·simp at he
     ·rename_i c3;rw [if_neg c3];refine (M7 s.2 [] _).2 ⟨d,w⟩ hmem fun o=> ?_;have c4: ¬(¬g.2.2=0\/t.drive<w+g.1-d):=fun hh=>hh.elim (fun e=>c1 e) (fun e=>c3 e);simp only [JE,hgn];rw [if_neg c4,if_neg c2]
      cases b
      ·exact Vl.2 (.inr (.inl rfl))
      ·exact Vl.2 (.inr (.inr rfl))
theorem T0 {x:Inst} {k:Int} {l:List Vis} {s:Int×List Sr} (h:dW x (nth x.types k.toNat) l s) (he:s.2= []) (r:List Vis) (c d:Bool): ¬(YL x ⟨k,0,c,[],d,l++r⟩).2=0:=fun hp=>by
 have h1:Xw x ⟨k,0,c,[],d,l++r⟩=0:=by
  grind [YL]
 have h2:(Xv x ⟨k,0,c,[],d,l++r⟩).2=0:=by
  grind [Xw]
 obtain ⟨bs,hl,hrun,_⟩:=Hm Zb h2;obtain ⟨L,hL⟩:=SU bs 0 _ .zero Za hrun l.length Za (by simp [ZO]);have:=h.2 r L hL false
 grind
def Jf (k:Int) (l:List Vis):Rte:=⟨k,0,true,[],false,l⟩
def F2 (x:Inst) (k:Int) (l:List Vis):Bool:=decide ((YL x (Jf k l)).2=0)
def Dj (x:Inst) (k:Int) (S:Nat) (l:List Vis):Bool:=decide ((Jd l).1=(S:Int))&&(decide (Xw x (Jf k l)=0)&&F2 x k l)
def YU (x:Inst) (k:Int) (S:Nat) (l:List Vis):Col:=⟨k,S,(YL x (Jf k l)).1,Jf k l⟩
def Wn (a b:Col):Bool:=if a.price≠b.price then decide (a.price<b.price) else decide (By a.route.visits b.route.visits<0)
def CN (x:Inst) (S:Nat) (l:List Vis):List Vis:=nextU x S l x.orders.length
def WV (x:Inst) (S:Nat):Nat:=K6 x S x.orders.length
def Sn (x:Inst) (k:Int) (S f:Nat) (l:List Vis) (s:Int×List Sr):List (List Vis):=lvW (CN x S) (goS x (nth x.types k.toNat)) (fun s=>s.2.isEmpty) f l s
theorem sR {x:Inst} {S:Nat} {l:List Vis} (h:Gr x S l) (hl:l.length=WV x S):CN x S l= []:=by
 cases e:CN x S l with
 | nil=>rfl
 | cons v r =>
  exfalso
  have hv:v∈nextU x S l x.orders.length:=by
   grind [CN]
  obtain ⟨i,hi,h1,h2,h3,h4⟩:=VJ.1 hv;exact ((Vk h3).1 h4).1 (h.full hl v (WI.2 ⟨i,hi,h1,h3⟩))
def Ek (x:Inst) (k:Int) (S:Nat) (z:Col×Bool):Col×Bool:=(Sn x k S (WV x S) [] (st0 (nth x.types k.toNat))).foldl (XE (F2 x k) (YU x k S) Wn) z
def B4 (x:Inst) (k:Int) (S:Nat) (z:Col×Bool):Col×Bool:=(Bd (CN x S) (WV x S) []).foldl (XE (Dj x k S) (YU x k S) Wn) z
theorem Ir {ok ok':List Vis->Bool} {col:List Vis->Col} {better:Col->Col->Bool} : ∀ {L:List (List Vis)} {b:Col×Bool},(∀l∈L,ok l=ok' l)->L.foldl (XE ok col better) b=L.foldl (XE ok' col better) b
 | [],_,_=>rfl
 | l::L,b,h=>by
  rw [XR,XR,XE,XE,h l Zb];exact Ir fun m hm=>h m (Yq _ hm)
theorem Iq {ok:List Vis->Bool} {col:List Vis->Col} {better:Col->Col->Bool} : ∀ {L:List (List Vis)} {b:Col×Bool},(∀l∈L,ok l=false)->L.foldl (XE ok col better) b=b
 | [],_,_=>rfl
 | l::L,b,h=>by
  rw [XR,XE,if_neg (by rw [h l Zb];simp)];exact Iq fun m hm=>h m (Yq _ hm)
theorem kM {x:Inst} {S:Nat} (hN: ∀l,Gr x S l->l.length<WV x S->CN x S l≠ []): ∀(f:Nat) (l m:List Vis),Gr x S l->l.length+f=WV x S->m∈Bd (CN x S) f l->Gr x S m/\m.length=WV x S
 | 0,l,m,h,ht,hm=>by
  simp_all [Bd]
 | f+1,l,m,h,ht,hm=>by
  rw [Bd,if_neg (hN l h Za)] at hm;obtain ⟨v,hv,hm⟩:=XU.1 hm;exact kM hN f _ m (.snoc h hv) (by simp;omega) hm
theorem WD {x:Inst} {r:Rte} (h:Xw x r=0):RightV x r.visits:=by
 rw [<- cF]
 have h1:XW x r=0:=by
  grind [Xw]
 unfold XW at h1;omega
theorem Up {x:Inst} {k:Int} {l:List Vis} (h:F2 x k l=true):Xw x (Jf k l)=0:=by
 have h:=Ay h
 grind [YL]
theorem aY {x:Inst} (hx:InstOk x) {S:Nat} (ha:Alw x S) (l:List Vis) (h:Gr x S l) (hl:l.length<WV x S):CN x S l≠ []:=fun e=>by
 have hf:=XK hx
 have hn:x.orders.length<=60:=by have:=hf.len;omega
 have:=(h.next_nil ha hn hf.val).1 e
 grind [WV]
theorem Pf {x:Inst} (hx:InstOk x) {k:Int} {S:Nat} (h0:S≠0) (hS:S / pw x.orders.length=0) (ha:Alw x S) (ht:0<=(nth x.types k.toNat).opn) (z:Col×Bool):Ek x k S z=B4 x k S z:=by
 have hN:=aY hx ha
 have h1:B4 x k S z=(Bd (CN x S) (WV x S) []).foldl (XE (F2 x k) (YU x k S) Wn) z:=Ir fun l hl=>by
  obtain ⟨hg,hlen⟩:=kM hN _ _ _ .nil Zb hl;obtain ⟨hr,ho⟩:=hg.right (XK hx) ha h0 hS hlen;unfold Dj
  cases hv:F2 x k l with
  | false=>simp
  | true =>
   rw [Up hv,hr.ord (XK hx),ho];simp
 rw [h1,Ek,Sn,QT,QT (Bd _ _ _)]
 rw [<- wY (nx:=CN x S) (go:=goS x (nth x.types k.toNat)) (emp:=fun s=>s.2.isEmpty) (ok:=F2 x k) (G:=Gr x S) (R:=dW x (nth x.types k.toNat)) (tot:=WV x S) (fun l v hl hv=> .snoc hl hv) (fun l s v _ hs _=>hJ hs)
  (fun l s _ hs he r=>U1 (T0 hs (List.isEmpty_iff.1 he) r true false)) hN (WV x S) [] (st0 (nth x.types k.toNat)) .nil (iA ht) Zb]
theorem qM {x:Inst} (hx:InstOk x) {k:Int} {S:Nat} (ha: ¬Alw x S) (z:Col×Bool):B4 x k S z=z:=Iq fun l _=>by
 cases ho:Dj x k S l with
 | false=>rfl
 | true =>
  exfalso;simp only [Dj,ZH,Zs] at ho;have hr:=WD ho.2.1;have hv:(Jf k l).visits=l:=rfl;rw [hv] at hr;have he:=hr.ord (XK hx);rw [he] at ho
  have hS:Xt l=S:=Za
  exact ha (hS ▸ hr.alw (XK hx))
set_option maxHeartbeats 8000000
theorem vC {x:Inst} (hx:InstOk x):x.types.length<=6:=by have:=hx.types.1;simp only [rng,Zs] at this;omega
set_option maxRecDepth 60000
structure St where
 ix:Int
 cov:Int
 used:List Int
 deriving Inhabited,DecidableEq
def A8 (s:St):PV:= .agg (.int .i64 s.ix:: .int .i64 s.cov::s.used.map eI)
@[go_sem] theorem Znu (s:St):A8 s= .agg (.int .i64 s.ix:: .int .i64 s.cov::s.used.map eI):=Zk rfl rfl
def StR (s:St):Prop:=s.used.length=6
theorem six {l:List Int} (h:l.length=6): ∃a b c d e f,l= [a,b,c,d,e,f]:=by
 match l,h with
 | [a,b,c,d,e,f],_=>simp
theorem YS {s:St} (h:StR s): ∃i v a b c d e f,s=⟨i,v,[a,b,c,d,e,f]⟩:=by
 obtain ⟨i,v,u⟩:=s;obtain ⟨a,b,c,d,e,f,rfl⟩:=six h;simp
theorem PF : KeyE Tryz.prog 246 A8 StR:=by
 refine ⟨⟨197,3,Ze,Ze,fun s hs=> ?_,fun s t hs ht=> ?_⟩,fun s t hs ht=> ?_⟩
 ·obtain ⟨i,v,a,b,c,d,e,f,rfl⟩:=YS hs
  kernel_rfl
 ·obtain ⟨i,v,a,b,c,d,e,f,rfl⟩:=YS hs;obtain ⟨i',v',a',b',c',d',e',f',rfl⟩:=YS ht
  have h1:Vu Tryz.prog 9 197 (A8 ⟨i,v,[a,b,c,d,e,f]⟩) (A8 ⟨i',v',[a',b',c',d',e',f']⟩)=some (decide (i=i')&&(decide (v=v')&&((decide (a=a')&&(decide (b=b')&&(decide (c=c')&&(decide (d=d')&&(decide (e=e')&&(decide (f=f')&&true))))))&&true))):=Ze
  have h2:keq (A8 ⟨i,v,[a,b,c,d,e,f]⟩) (A8 ⟨i',v',[a',b',c',d',e',f']⟩)=(decide (i=i')&&(decide (v=v')&&((decide (a=a')&&(decide (b=b')&&(decide (c=c')&&(decide (d=d')&&(decide (e=e')&&(decide (f=f')&&true))))))&&true))):=by
   simp_all [keq,A8,Jy,eI]
  show (Vu Tryz.prog 9 197 (A8 ⟨i,v,[a,b,c,d,e,f]⟩) (A8 ⟨i',v',[a',b',c',d',e',f']⟩)==some (keq (A8 ⟨i,v,[a,b,c,d,e,f]⟩) (A8 ⟨i',v',[a',b',c',d',e',f']⟩)))=true
  simp_all
 ·obtain ⟨i,v,a,b,c,d,e,f,rfl⟩:=YS hs;obtain ⟨i',v',a',b',c',d',e',f',rfl⟩:=YS ht
  simp_all [keq,A8,Jy,eI]
structure Kd where
 typ:Int
 set:Int
 deriving Inhabited,DecidableEq
def dO (k:Kd):PV:= .agg [.int .i64 k.typ,.int .i64 k.set]
theorem kH : KeyE Tryz.prog 281 dO fun _=>True:=by
 refine ⟨⟨283,3,Ze,Ze,fun s _=> ?_,fun s t _ _=> ?_⟩,fun s t _ _=> ?_⟩
 ·kernel_rfl
 ·obtain ⟨a,b⟩:=s;obtain ⟨c,d⟩:=t
  have h1:Vu Tryz.prog 9 283 (dO ⟨a,b⟩) (dO ⟨c,d⟩)=some (decide (a=c)&&(decide (b=d)&&true)):=Ze
  have h2:keq (dO ⟨a,b⟩) (dO ⟨c,d⟩)=(decide (a=c)&&(decide (b=d)&&true)):=by
   grind [keq,dO,Jy]
  show (Vu Tryz.prog 9 283 (dO ⟨a,b⟩) (dO ⟨c,d⟩)==some (keq (dO ⟨a,b⟩) (dO ⟨c,d⟩)))=true
  simp_all
 ·obtain ⟨a,b⟩:=s;obtain ⟨c,d⟩:=t;simp [keq,dO,Jy]
def BK (n:Nat) (m cov:Int):Nat->Nat->Nat
 | 0,k=>k
 | f+1,k=>if k<n/\(sHas m k=false\/sHas cov k=true) then BK n m cov f (k+1) else k
theorem DT {n:Nat} {m cov:Int} {k:Nat} (h: ¬(k<n/\(sHas m k=false\/sHas cov k=true))) (f:Nat):BK n m cov f k=k:=by
 cases f with
 | zero=>rfl
 | succ f=>rw [BK,if_neg h]
theorem EX {n:Nat} {m cov:Int} {k:Nat} (h:k<n) (hc:sHas m k=false\/sHas cov k=true):BK n m cov (n-k) k=BK n m cov (n-(k+1)) (k+1):=by
 rw [show n-k=(n-(k+1))+1 by omega,BK,if_pos ⟨h,hc⟩]
def Vt (n:Nat) (m:Int) (s:St):St:= { s with ix:=(BK n m s.cov (n-s.ix.toNat) s.ix.toNat:Nat) }
def VR (x:Inst) (f g:PV) (m:Int):AM.Obj:= .cells [.p (.list x.net.places_c (x.net.places.map eS)),.p (.list x.net.arcs_c (x.net.arcs.map VS)),.p (.list x.types_c (x.types.map X4)),.p (.list x.orders_c (x.orders.map Yj)),.p (.list x.apart_c (x.apart.map eP)),.p (.list x.before_c (x.before.map eP)),.p f,.p g,.mp 0,.p (.int .i64 m)]
def Y1 (x:Inst) (f g:PV) (m:Int) (l:List (St×Int)):List AM.Obj:= [.map (l.map (MS A8)),VR x f g m]
def BM (s:St):AM.Obj:= .cells (.p (.int .i64 s.ix):: .p (.int .i64 s.cov)::(s.used.map eI).map .p)
theorem BN {P Q:Prop} (h:Q) (e:Q->P:=by intro h;simp (disch:=omega) only [YD,go_sem,seval];exact h):P:=e h
theorem GG {P Q:Prop} (h:Q) (e:Q->P:=by intro h;simp (disch:=omega) only [Vj,go_sem,seval];exact h):P:=e h
theorem Gq (x:Inst) (f g:PV) (m:Int) (l:List (St×Int)) (s:St) (hs:StR s) (h0:0<=s.ix) (hn:x.orders.length<=10) (h1:s.ix<=10) :
  ACalls Tryz.prog 120 [.ptr 1 0,.p (A8 s)] (Y1 x f g m l) fun y H'=>y= .p (A8 (Vt x.orders.length m s))/\H'=Y1 x f g m l:=by
 obtain ⟨i,v,a,b,c,d,e,u,rfl⟩:=YS hs;obtain ⟨i,rfl⟩: ∃k:Nat,i=k:=⟨i.toNat,by grind⟩;simp only at h0 h1;generalize hT:A8 (Vt x.orders.length m ⟨i,v,[a,b,c,d,e,u]⟩)=T;refine Zf [] Tryz.func120 rfl ZaA ?_;simp (disch:=omega) only [Tryz.f120,Y1,VR,Zq,Zn,go_sem,seval];refine Zl [0,3,4] (fun k:Nat=> []) (fun k=>Y1 x f g m l++ [BM ⟨k,v,[a,b,c,d,e,u]⟩,.cells (List.replicate 8 (.p (.int .i64 0)))]) (fun k=>k<=10/\BK x.orders.length m v (x.orders.length-k) k=BK x.orders.length m v (x.orders.length-i) i) (fun k=>x.orders.length-k) i ⟨Za,rfl⟩ (Weak.mk ?_) ?_
 ·simp (disch:=omega) only [Y1,VR,BM,Zq,Zn,List.replicate,go_sem,seval,↓reduceIte]
 ·rintro k ⟨hk,hq⟩
  have fin: ∀q:Nat,q=BK x.orders.length m v (x.orders.length-i) i->A8 ⟨q,v,[a,b,c,d,e,u]⟩=T:=fun q hq=>by grind [Vt]
  simp (disch:=omega) only [Y1,VR,BM,Zq,Zn,List.replicate,go_sem,seval];refine Xe (Zc ?_);refine gT ?_ ?_<;>intro h5<;>simp (disch:=omega) only [Sh.out h5,go_sem,seval,↓reduceIte]
  ·have hk2:k<x.orders.length:=Za
   refine Zo (D8 m k) (Zc ?_)
   cases hm:sHas m k with
   | false =>
    refine GG ?_;exact ⟨k+1,⟨Za,by grind [EX]⟩,Za,wk⟩
   | true =>
    refine BN ?_;refine Zo (D8 v k) (Zc ?_)
    cases hv:sHas v k with
    | true =>
     refine Zc ?_;exact ⟨k+1,⟨Za,by grind [EX]⟩,Za,wk⟩
    | false =>
     refine Zc ?_;exact ⟨.p (A8 ⟨k,v,[a,b,c,d,e,u]⟩),_,Weak.mk (by simp (disch:=omega) only [Zq,Zn,go_sem,seval]),by grind [DT],rfl⟩
  ·exact ⟨.p (A8 ⟨k,v,[a,b,c,d,e,u]⟩),_,Weak.mk (by simp (disch:=omega) only [Zq,Zn,go_sem,seval]),by grind [DT],rfl⟩
def DF (n:Nat) (m:Int) (s:St):St:=Vt n m { s with ix:=s.ix+1 }
theorem BO {P Q:Prop} (h:Q) (e:Q->P:=by intro h;simp (disch:=omega) only [Y1,VR,Zq,Zn,ZL,Zz,go_sem,seval];exact h):P:=e h
theorem Iv (x:Inst) (f g:PV) (m:Int) (l:List (St×Int)) (s:St) (hs:StR s) (h0:0<=s.ix) (hn:x.orders.length<=10) (h1:s.ix<=9) :
  ACalls Tryz.prog 172 [.ptr 1 0,.p (A8 s)] (Y1 x f g m l) fun y H'=>y= .p (A8 (DF x.orders.length m s))/\H'=Y1 x f g m l:=by
 have hc:=Gq x f g m l { s with ix:=s.ix+1 } hs (by grind) hn (by grind);obtain ⟨i,v,a,b,c,d,e,u,rfl⟩:=YS hs;obtain ⟨q,hq⟩: ∃q:Int,DF x.orders.length m ⟨i,v,[a,b,c,d,e,u]⟩=⟨q,v,[a,b,c,d,e,u]⟩:=⟨_,rfl⟩;have hq':Vt x.orders.length m ⟨i+1,v,[a,b,c,d,e,u]⟩=⟨q,v,[a,b,c,d,e,u]⟩:=hq;rw [hq];simp only at h0 h1 hc;rw [hq'] at hc;refine Zf [] Tryz.func172 rfl Zba ?_;simp (disch:=omega) only [Tryz.f172,Y1,VR,Zq,Zn,go_sem,seval];refine hc.useP (L:= [_,_]) (by rfl) ?_ (by rfl) (by rfl);refine BO ?_
 exact we
def Di (n:Nat) (m:Int) (s:St) (T:Nat) (C S:Nat):St:=Vt n m ⟨s.ix,((C|||S:Nat):Int),s.used.set T (nth s.used T+1)⟩
def Es (x:Inst) (s:St) (T:Nat) (C S:Nat):Bool:=decide (C&&&S=0)&&decide (nth s.used T<(nth x.types T).count)
theorem oD (x:Inst) (f g:PV) (m:Int) (l:List (St×Int)) (s:St) (c:Col) (hs:StR s) (h0:0<=s.ix) (hn:x.orders.length<=10) (h1:s.ix<=10) (C S T:Nat) (hC:s.cov=C) (hS:c.set=S) (hT:c.typ=T) (hC2:C<1024) (hS2:S<1024) (hT2:T<x.types.length) (h6:x.types.length<=6)
  (hu: ∀j,j<6->0<=nth s.used j/\nth s.used j<=1048576) :
  ACalls Tryz.prog 171 [.ptr 1 0,.p (A8 s),.p (Xp c)] (Y1 x f g m l) fun y H'=>y=(if Es x s T C S=true then .tup [.p (A8 (Di x.orders.length m s T C S)),.p (.bool true)] else .tup [.p (A8 s),.p (.bool false)])/\H'=Y1 x f g m l:=by
 have hor:C|||S<1024:=Jb (n:=10) hC2 hS2;have hc:=Gq x f g m l ⟨s.ix,((C|||S:Nat):Int),s.used.set T (nth s.used T+1)⟩ (by grind [StR]) h0 hn h1;obtain ⟨i,v,a0,a1,a2,a3,a4,a5,rfl⟩:=YS hs
 have hT3:T=0\/T=1\/T=2\/T=3\/T=4\/T=5:=Za
 have u0:=hu 0 Za;have u1:=hu 1 Za;have u2:=hu 2 Za;have u3:=hu 3 Za;have u4:=hu 4 Za;have u5:=hu 5 Za;simp only [nth,List.getD_cons_zero,List.getD_cons_succ] at u0 u1 u2 u3 u4 u5;simp only at hC h0 h1;obtain ⟨ct,cs,cp,cr⟩:=c;simp only at hS hT;subst hC;subst hS;subst hT;obtain ⟨R,hR⟩: ∃R:V,R=(if Es x ⟨i,(C:Nat),[a0,a1,a2,a3,a4,a5]⟩ T C S=true then .tup [.p (A8 (Di x.orders.length m ⟨i,(C:Nat),[a0,a1,a2,a3,a4,a5]⟩ T C S)),.p (.bool true)] else .tup [.p (A8 ⟨i,(C:Nat),[a0,a1,a2,a3,a4,a5]⟩),.p (.bool false)]):=⟨_,rfl⟩
 rw [<- hR];obtain ⟨q,hq⟩: ∃q:Int,Vt x.orders.length m ⟨i,((C|||S:Nat):Int),[a0,a1,a2,a3,a4,a5].set T (nth [a0,a1,a2,a3,a4,a5] T+1)⟩=⟨q,((C|||S:Nat):Int),[a0,a1,a2,a3,a4,a5].set T (nth [a0,a1,a2,a3,a4,a5] T+1)⟩:=⟨_,rfl⟩;simp only at hc;rw [hq] at hc;have hw:Di x.orders.length m ⟨i,(C:Nat),[a0,a1,a2,a3,a4,a5]⟩ T C S=⟨q,((C|||S:Nat):Int),[a0,a1,a2,a3,a4,a5].set T (nth [a0,a1,a2,a3,a4,a5] T+1)⟩:=hq;rw [hw] at hR;refine Zf [] Tryz.func171 rfl Za9 ?_;rcases hT3 with rfl | rfl | rfl | rfl | rfl | rfl
 all_goals
  simp (disch:=omega) only [Tryz.f171,Y1,VR,Zq,Zn,go_sem,seval,↓reduceIte];refine Xe ?_;simp (disch:=omega) only [go_sem,seval,↓reduceIte];refine gF ?_ ?_<;>intro h5<;>simp (disch:=omega) only [Sh.out h5,go_sem,seval,↓reduceIte]
  ·have hno:(decide (C&&&S=0))=false:=U1 Za;exact ⟨.tup [.p (A8 ⟨i,(C:Nat),[a0,a1,a2,a3,a4,a5]⟩),.p (.bool false)],_,Weak.mk (by simp (disch:=omega) only [Zq,Zn,go_sem,seval]),by rw [hR,if_neg (by rw [Es,hno];simp)],rfl⟩
  ·have hcs:C&&&S=0:=Za
   refine cD ?_ ?_<;>intro h7<;>simp (disch:=omega) only [Sh.out h7,go_sem,seval,↓reduceIte]
   ·exact ⟨.tup [.p (A8 ⟨i,(C:Nat),[a0,a1,a2,a3,a4,a5]⟩),.p (.bool false)],_,Weak.mk (by simp (disch:=omega) only [Zq,Zn,go_sem,seval]),by rw [hR,if_neg (by rw [Es,UK hcs,VH];exact fun h=>Int.not_lt.2 h7 (Ay h))],rfl⟩
   ·rw [if_pos (by rw [Es,UK hcs,VH];exact UK (Int.not_le.1 h7))] at hR;refine hc.useP (L:= [_,_,_]) (by rfl) ?_ (by rfl) (by rfl);simp (disch:=omega) only [Y1,VR,Zq,Zn,ZL,Zz,ZW,Z1,go_sem,seval,↓reduceIte];exact ⟨R,_,Weak.mk (by rw [hR];simp (disch:=omega) only [nth,List.getD_cons_zero,List.getD_cons_succ,ZW,Z1,Zq,Zn,go_sem,seval]),rfl,rfl⟩
def Y0 (o p r:Int):Int:=if 0<=r/\(o<0\/p+r<o) then p+r else o
theorem ME (o p r:Int) (hp: -4611686018427387904<=p/\p<=4611686018427387904) (hr: -4611686018427387904<r/\r<4611686018427387904) :
  ACalls Tryz.prog 170 [.p (.int .i64 p),.p (.int .i64 r),.ptr 0 0] [.cells [.p (.int .i64 o)]] fun y H'=>y= .tup []/\H'= [.cells [.p (.int .i64 (Y0 o p r))]]:=by
 obtain ⟨T,hT⟩: ∃T,T=Y0 o p r:=⟨_,rfl⟩;rw [<- hT];unfold Y0 at hT;refine Zf [] Tryz.func170 rfl Za8 ?_;simp (disch:=omega) only [Tryz.f170,go_sem,seval];refine gT ?_ ?_<;>intro h1<;>simp (disch:=omega) only [Sh.out h1,go_sem,seval,↓reduceIte]
 ·refine gF ?_ ?_<;>intro h2<;>simp (disch:=omega) only [Sh.out h2,go_sem,seval,↓reduceIte]
  ·rw [if_pos ⟨h1,.inl h2⟩] at hT;subst hT;exact we
  ·refine cD ?_ ?_<;>intro h3<;>simp (disch:=omega) only [Sh.out h3,go_sem,seval,↓reduceIte]
   ·rw [if_pos ⟨h1,.inr h3⟩] at hT;subst hT;exact we
   ·rw [if_neg Za] at hT;subst hT;exact we
 ·rw [if_neg Za] at hT;subst hT;exact we
theorem Da {n:Nat} {m cov:Int} : ∀(f k:Nat),k<=BK n m cov f k
 | 0,k=>ZB _
 | f+1,k=>by
  rw [BK]
  split
  ·have:=Da (n:=n) (m:=m) (cov:=cov) f (k+1);omega
  ·omega
theorem SV {n:Nat} {m cov:Int} : ∀(f k:Nat),k<=n->BK n m cov f k<=n
 | 0,k,h=>h
 | f+1,k,h=>by
  rw [BK]
  split
  ·rename_i hc;exact SV f (k+1) Za
  ·exact h
theorem cS {n:Nat} {m cov:Int} {k:Nat} (h:k<n) (hb:sHas cov k=true):k+1<=BK n m cov (n-k) k:=by
 grind [EX,Da]
theorem CM {l:List Int} {i j:Nat} {a:Int} (h:i<l.length):nth (l.set i a) j=if i=j then a else nth l j:=by
 grind [nth]
structure StV (n:Nat) (s:St):Prop where
 len:StR s
 ix:0<=s.ix/\s.ix<=n
 cov: ∃C:Nat,s.cov=C/\C<1024
 used: ∀j,j<6->0<=nth s.used j/\nth s.used j<=1048576
theorem L3 {n:Nat} {m:Int} {s:St} (h:StV n s):StV n (Vt n m s)/\s.ix<=(Vt n m s).ix:=by
 obtain ⟨h1,h2,h3,h4⟩:=h;have a:=Da (n:=n) (m:=m) (cov:=s.cov) (n-s.ix.toNat) s.ix.toNat;have b:=SV (n:=n) (m:=m) (cov:=s.cov) (n-s.ix.toNat) s.ix.toNat Za;exact ⟨⟨h1,by grind [Vt],h3,h4⟩,by grind [Vt]⟩
theorem Lz {n:Nat} {m:Int} {s:St} (h:StV n s) (hi:s.ix<n):StV n (DF n m s)/\s.ix<(DF n m s).ix:=by
 have h':StV n { s with ix:=s.ix+1 } :=⟨h.len,by have:=h.ix;grind,h.cov,h.used⟩
 grind [L3,DF]
theorem uB {C S k:Nat} (h:sHas (S:Int) k=true):sHas ((C|||S:Nat):Int) k=true:=by
 have key: ∀N:Nat,sHas (N:Int) k=true↔k<=62/\N.testBit k=true:=fun N=>by
  simp only [sHas,ZH,Zs,XY]
  grind
 grind
theorem vI {n:Nat} {m:Int} {s:St} {T C S:Nat} (h:StV n s) (hi:s.ix<n) (hC:C<1024) (hS:S<1024) (hb:sHas (S:Int) s.ix=true) (hT:T<6) (hu:nth s.used T<1048576):StV n (Di n m s T C S)/\s.ix<(Di n m s T C S).ix:=by
 have hor:C|||S<1024:=Jb (n:=10) hC hS;have hl:s.used.length=6:=h.len
 have h':StV n ⟨s.ix,((C|||S:Nat):Int),s.used.set T (nth s.used T+1)⟩:=by
  refine ⟨by grind [StR],h.ix,⟨_,rfl,hor⟩,fun j hj=> ?_⟩;simp only;rw [CM Za]
  split
  ·have:=h.used T hT;omega
  ·exact h.used j hj
 grind [L3,cS,uB,Di,Vt]
def YK (x:Inst) (s:St) (c:Col):Bool:=Es x s c.typ.toNat s.cov.toNat c.set.toNat
def VP (n:Nat) (m:Int) (s:St) (c:Col):St:=Di n m s c.typ.toNat s.cov.toNat c.set.toNat
def Wi (n:Nat) (m:Int) (x:Inst) (fst:List (List Col)) (sk:List Int):Nat->St->Int
 | 0,_=>0
 | d+1,s=>if (n:Int)<=s.ix then 0 else
  let o:=(nth fst s.ix.toNat).foldl (fun o c=>if YK x s c=true then Y0 o c.price (Wi n m x fst sk d (VP n m s c)) else o) (-1)
  if 0<=nth sk s.ix.toNat then Y0 o (nth sk s.ix.toNat) (Wi n m x fst sk d (DF n m s)) else o
structure ChOk (n:Nat) (x:Inst) (fst:List (List Col)) (sk:List Int):Prop where
 col: ∀i,i<n-> ∀c∈nth fst i,(0<=c.typ/\c.typ<x.types.length)/\(∃S:Nat,c.set=S/\S<1024)/\sHas c.set i=true/\0<=c.price/\c.price<=18014398509481984
 typ:x.types.length<=6/\ ∀t,t<6->(nth x.types t).count<=1048576
 skp: ∀i,i<n-> -1<=nth sk i/\nth sk i<=18014398509481984
theorem E2 {n:Nat} {m:Int} {x:Inst} {fst:List (List Col)} {sk:List Int} (hc:ChOk n x fst sk) {s:St} (h:StV n s) (hi:s.ix<n) {c:Col} (hm:c∈nth fst s.ix.toNat) (hy:YK x s c=true):StV n (VP n m s c)/\s.ix<(VP n m s c).ix:=by
 obtain ⟨⟨t0,t1⟩,⟨S,hS,hS2⟩,hb,_⟩:=hc.col _ (by have:=h.ix;omega) c hm;obtain ⟨C,hC,hC2⟩:=h.cov;have ht:=hc.typ.1;have hcnt:=hc.typ.2 c.typ.toNat Za;simp only [YK,Es,ZH,Zs] at hy;have hi0:=h.ix;rw [show ((s.ix.toNat:Nat):Int)=s.ix by omega] at hb;exact vI h hi Za Za (by grind) Za Za
theorem JQ {α β:Type} {f g:β->α->β} : ∀ {l:List α} {b:β},(∀a∈l,∀b,f b a=g b a)->l.foldl f b=l.foldl g b
 | [],_,_=>rfl
 | a::l,b,h=>by
  rw [XR,XR,h a Zb b];exact JQ fun a ha=>h a (Yq _ ha)
theorem Jv {n:Nat} {m:Int} {x:Inst} {fst:List (List Col)} {sk:List Int} (hc:ChOk n x fst sk): ∀(d d':Nat) (s:St),StV n s->(n:Int)-s.ix<d->(n:Int)-s.ix<d'->Wi n m x fst sk d s=Wi n m x fst sk d' s
 | 0,_,s,h,h1,_=>by have:=h.ix;omega
 | _,0,s,h,_,h1=>by have:=h.ix;omega
 | d+1,d'+1,s,h,h1,h2=>by
  rw [Wi,Wi]
  split
  ·rfl
  ·rename_i hi
   have e1:(nth fst s.ix.toNat).foldl (fun o c=>if YK x s c=true then Y0 o c.price (Wi n m x fst sk d (VP n m s c)) else o) (-1)=(nth fst s.ix.toNat).foldl (fun o c=>if YK x s c=true then Y0 o c.price (Wi n m x fst sk d' (VP n m s c)) else o) (-1):=JQ fun c hm o=>by
    by_cases hy:YK x s c=true
    ·obtain ⟨v1,v2⟩:=E2 (m:=m) hc h Za hm hy;rw [if_pos hy,if_pos hy,Jv hc d d' _ v1 Za Za]
    grind
   obtain ⟨v1,v2⟩:=Lz (m:=m) h Za;rw [Jv hc d d' _ v1 Za Za];simp only [e1]
theorem MD {o p r B:Int} (h1: -1<=o/\o<=B) (h2:0<=p) (h3:p+r<=B): -1<=Y0 o p r/\Y0 o p r<=B:=by
 grind [Y0]
theorem HD {α β:Type} {f:β->α->β} {R:β->Prop} : ∀ {l:List α} {b:β},R b->(∀a∈l,∀b,R b->R (f b a))->R (l.foldl f b)
 | [],_,h,_=>h
 | a::l,b,h,hf=>by
  rw [XR];exact HD (hf a Zb b h) fun a ha=>hf a (Yq _ ha)
theorem Un {n:Nat} {m:Int} {x:Inst} {fst:List (List Col)} {sk:List Int} (hc:ChOk n x fst sk): ∀(d:Nat) (s:St),StV n s-> -1<=Wi n m x fst sk d s/\Wi n m x fst sk d s<=(d:Int)*18014398509481984
 | 0,s,h=>by simp [Wi]
 | d+1,s,h=>by
  rw [Wi]
  split
  ·omega
  ·rename_i hi;have i0:=h.ix
   have e1: -1<=(nth fst s.ix.toNat).foldl (fun o c=>if YK x s c=true then Y0 o c.price (Wi n m x fst sk d (VP n m s c)) else o) (-1)/\(nth fst s.ix.toNat).foldl (fun o c=>if YK x s c=true then Y0 o c.price (Wi n m x fst sk d (VP n m s c)) else o) (-1)<=((d+1:Nat):Int)*18014398509481984:=by
    refine HD (R:=fun o:Int=> -1<=o/\o<=((d+1:Nat):Int)*18014398509481984) Za fun c hm o ho=> ?_
    split
    ·rename_i hy;obtain ⟨v1,v2⟩:=E2 (m:=m) hc h Za hm hy;have:=Un (m:=m) hc d _ v1;have:=(hc.col _ Za c hm).2.2.2;exact MD ho Za Za
    ·exact ho
   have hs:=hc.skp s.ix.toNat Za;obtain ⟨v1,v2⟩:=Lz (m:=m) h Za;have:=Un (m:=m) hc d _ v1;simp only
   split
   ·exact MD e1 Za Za
   ·exact e1
def Wu (l:List Col):PV:= .list false (l.map Xp)
@[go_sem] theorem ZhN (l:List Col):Wu l= .list false (l.map Xp):=Zk rfl rfl
def I3 (c:Col):AM.Obj:= .cells [.p (.int .i64 c.typ),.p (.int .i64 c.set),.p (.int .i64 c.price),.p (.int .i64 c.route.typ),.p (.int .i64 c.route.start),.p (.list c.route.rests_c (c.route.rests.map eB)),.p (.list c.route.visits_c (c.route.visits.map Z8))]
def xP (n:Nat) (m:Int) (x:Inst) (fst:List (List Col)) (sk:List Int) (l:List (St×Int)):Prop:= ∀p∈l,StV n p.1/\p.2=Wi n m x fst sk 20 p.1
theorem GF {P Q:Prop} (h:Q) (e:Q->P:=by intro h;simp (disch:=omega) only [Y1,VR,BM,Zq,Zn,ZL,Zz,go_sem,seval];exact h):P:=e h
theorem EC (x:Inst) (fst:List (List Col)) (sk:List Int) (fc sc:Bool) (m:Int) (hn:x.orders.length<=10) (hf:fst.length=x.orders.length) (hs:sk.length=x.orders.length) (hc:ChOk x.orders.length x fst sk) (hcl: ∀r∈fst,r.length<=1048576) :
  ∀(d:Nat) (s:St) (l:List (St×Int)),d<=20->StV x.orders.length s->(x.orders.length:Int)-s.ix<d->xP x.orders.length m x fst sk l ->
   ACalls Tryz.prog 121 [.ptr 1 0,.p (A8 s)] (Y1 x (.list fc (fst.map Wu)) (.list sc (sk.map eI)) m l) fun y H'=> ∃l',xP x.orders.length m x fst sk l'/\y= .p (.int .i64 (Wi x.orders.length m x fst sk 20 s))/\H'=Y1 x (.list fc (fst.map Wu)) (.list sc (sk.map eI)) m l'
 | 0,s,l,_,hv,hd,_=>by have:=hv.ix;omega
 | d+1,s,l,hd0,hv,hd,hl=>by
  have ih:=EC x fst sk fc sc m hn hf hs hc hcl d;have hlR: ∀p∈l,StR p.1:=fun p hp=>(hl p hp).1.len;obtain ⟨i,v,a0,a1,a2,a3,a4,a5,rfl⟩:=YS hv.len;have hi:=hv.ix;simp only at hi hd;obtain ⟨i,rfl⟩: ∃k:Nat,i=k:=⟨i.toNat,Za⟩;obtain ⟨T,hT⟩: ∃T,T=Wi x.orders.length m x fst sk 20 ⟨i,v,[a0,a1,a2,a3,a4,a5]⟩:=⟨_,rfl⟩;rw [<- hT];refine Zf [] Tryz.func121 rfl ZaB ?_;simp (disch:=omega) only [Tryz.f121,Y1,VR,Zq,Zn,go_sem,seval];refine Xe ?_;refine Zc ?_;refine cD ?_ ?_<;>intro h1<;>simp (disch:=omega) only [Sh.out h1,go_sem,seval]
  ·rw [Wi,if_pos Za] at hT;subst hT;exact ⟨_,_,wk,l,hl,rfl,rfl⟩
  ·refine Xe (Zc ?_);refine iK (Hg (k:=(⟨i,v,[a0,a1,a2,a3,a4,a5]⟩:St)) PF hlR hv.len (by rfl)) (Zc ?_)
   cases hq:mq l (⟨i,v,[a0,a1,a2,a3,a4,a5]⟩:St) with
   | some w =>
    obtain ⟨_,hw⟩:=hl _ (ZcY hq);simp only at hw;rw [<- hw] at hT;subst hT;simp (disch:=omega) only [J5,JX,go_sem,seval];exact ⟨_,_,wk,l,hl,rfl,rfl⟩
   | none =>
    have hi2:i<fst.length:=Za
    have hi3:i<sk.length:=Za
    have hrl:=hcl _ (ZZ hi2);simp (disch:=omega) only [Aw,Option.getD_none,go_sem,seval];refine Xe (Zc ?_)
    let F:Int->Col->Int:=fun o c=>if YK x ⟨i,v,[a0,a1,a2,a3,a4,a5]⟩ c=true then Y0 o c.price (Wi x.orders.length m x fst sk 19 (VP x.orders.length m ⟨i,v,[a0,a1,a2,a3,a4,a5]⟩ c)) else o
    refine Zl [0,3,7,8,42,43] (fun q:Nat×List (St×Int)=> [(44,.p (.int .i64 q.1))]) (fun q=>Y1 x (.list fc (fst.map Wu)) (.list sc (sk.map eI)) m q.2++ [BM ⟨i,v,[a0,a1,a2,a3,a4,a5]⟩,.cells [.p (.int .i64 (((nth fst i).take q.1).foldl F (-1)))]]) (fun q=>q.1<=(nth fst i).length/\xP x.orders.length m x fst sk q.2) (fun q=>(nth fst i).length-q.1) (0,l) ⟨Zb,hl⟩ (Weak.mk ?_) ?_
    ·simp (disch:=omega) only [Y1,VR,BM,Zq,Zn,ZL,Zz,Ql,UJ,go_sem,seval,↓reduceIte]
    ·rintro ⟨k,l1⟩ ⟨hk,hl1⟩;simp only at hk hl1;have hl1R: ∀p∈l1,StR p.1:=fun p hp=>(hl1 p hp).1.len;generalize hacc:((nth fst i).take k).foldl F (-1)=acc;refine GF ?_;refine cD ?_ ?_<;>intro h2<;>simp (disch:=omega) only [Sh.out h2,go_sem,seval,↓reduceIte]
     ·have hk2:k<(nth fst i).length:=Za
      have hm:=ZZ hk2
      have hs1:((nth fst i).take (k+1)).foldl F (-1)=F acc (nth (nth fst i) k):=by
       grind [X0,Zh]
      obtain ⟨⟨t0,t1⟩,⟨S,hS,hS2⟩,hb,hp0,hp1⟩:=hc.col i Za _ hm;obtain ⟨C,hC,hC2⟩:=hv.cov;simp only at hC;have h6:=hc.typ.1;obtain ⟨tt,htt⟩: ∃tt:Nat,(nth (nth fst i) k).typ=tt:=⟨(nth (nth fst i) k).typ.toNat,Za⟩;have cw:=oD x (.list fc (fst.map Wu)) (.list sc (sk.map eI)) m l1 ⟨i,v,[a0,a1,a2,a3,a4,a5]⟩ (nth (nth fst i) k) hv.len Zb hn (by grind) C S tt hC hS htt hC2 hS2 Za h6 hv.used
      have hmay:YK x ⟨i,v,[a0,a1,a2,a3,a4,a5]⟩ (nth (nth fst i) k)=Es x ⟨i,v,[a0,a1,a2,a3,a4,a5]⟩ tt C S:=by grind [YK,XY]
      have hwc:VP x.orders.length m ⟨i,v,[a0,a1,a2,a3,a4,a5]⟩ (nth (nth fst i) k)=Di x.orders.length m ⟨i,v,[a0,a1,a2,a3,a4,a5]⟩ tt C S:=by grind [VP]
      by_cases hy:Es x ⟨i,v,[a0,a1,a2,a3,a4,a5]⟩ tt C S=true
      ·obtain ⟨v1,v2⟩:=E2 (m:=m) hc hv (by grind) (by simpa using hm) (by grind);rw [hwc] at v1 v2;obtain ⟨j,w,b0,b1,b2,b3,b4,b5,hw⟩:=YS v1.len;rw [if_pos hy,hw] at cw;refine cw.useP (L:= [_,_,_]) (by rfl) ?_ (by rfl) (by rfl);refine BO ?_;refine Bq [5] [1,2] [4] 6 mixed Ze Ze Ze Ze Zb (Zc ?_);refine ⟨fun q hq p hp=> ?_,?_⟩
       ·simp only [Z3,Y7,Wq] at hq;rcases hq with rfl | rfl
        ·obtain rfl:10=p:=Vi hp;exact V2 (by decide)
        ·obtain rfl:57=p:=Vi hp;exact V2 (by decide)
       ·have c3:=((ih ⟨j,w,[b0,b1,b2,b3,b4,b5]⟩ l1 Za (hw ▸ v1) (by grind) hl1).mono (fun y H' hq=>(⟨hq,by obtain ⟨l',_,_,rfl⟩:=hq;rfl⟩:_/\H'.length=(Y1 x (.list fc (fst.map Wu)) (.list sc (sk.map eI)) m l1).length))).front (by rfl) (by rfl) [BM ⟨i,v,[a0,a1,a2,a3,a4,a5]⟩,.cells [.p (.int .i64 acc)],I3 (nth (nth fst i) k),BM ⟨j,w,[b0,b1,b2,b3,b4,b5]⟩];refine HK 5 _ Ze (by refine Zc ?_;exact c3) ?_;rintro y H' ⟨H1,⟨l2,hl2,rfl,rfl⟩,rfl⟩;refine ⟨fun k hk=>by simp at hk;subst hk;rfl,Ls ?_⟩;simp (disch:=omega) only [Y1,VR,BM,I3,Zq,Zn,ZL,Zz,go_sem,seval]
        have hrg:=Un (m:=m) hc 20 _ v1;rw [hw] at hrg;have c4:=(((ME acc (nth (nth fst i) k).price (Wi x.orders.length m x fst sk 20 ⟨j,w,[b0,b1,b2,b3,b4,b5]⟩) Za Za).back [.map (l2.map (MS A8)),VR x (.list fc (fst.map Wu)) (.list sc (sk.map eI)) m,BM ⟨i,v,[a0,a1,a2,a3,a4,a5]⟩] (by rfl)).mono (fun y H' hq=>(⟨hq,by grind⟩:_/\H'.length=4))).front (by rfl) (by rfl) [I3 (nth (nth fst i) k),BM ⟨j,w,[b0,b1,b2,b3,b4,b5]⟩];refine ACalls.mono c4 ?_;rintro y H' ⟨H1,⟨y1,H2,⟨rfl,rfl⟩,rfl,rfl⟩,rfl⟩;simp (disch:=omega) only [VR,BM,I3,Zq,Zn,ZL,Zz,shO,shVs,shV,go_sem,seval]
        have hF:F acc (nth (nth fst i) k)=Y0 acc (nth (nth fst i) k).price (Wi x.orders.length m x fst sk 20 ⟨j,w,[b0,b1,b2,b3,b4,b5]⟩):=by
         show (if _ then _ else _)=_
         rw [if_pos (by grind),hwc,Jv hc 19 20 _ v1 (by grind) (by grind),hw]
        exact ⟨(k+1,l2),⟨Za,hl2⟩,Za,Weak.mk (by simp (disch:=omega) only [hs1,hF,go_sem,seval])⟩
      ·rw [if_neg hy] at cw;refine cw.useP (L:= [_,_,_]) (by rfl) ?_ (by rfl) (by rfl);refine BO ?_;have hF:F acc (nth (nth fst i) k)=acc:=if_neg (by grind);exact ⟨(k+1,l1),⟨Za,hl1⟩,Za,Weak.mk (by simp (disch:=omega) only [hs1,hF,go_sem,seval])⟩
     ·have hkl:k=(nth fst i).length:=Za
      subst hkl;rw [Yd] at hacc
      have hTe:T=if 0<=nth sk i then Y0 acc (nth sk i) (Wi x.orders.length m x fst sk 19 (DF x.orders.length m ⟨i,v,[a0,a1,a2,a3,a4,a5]⟩)) else acc:=by
       rw [hT,show (20:Nat)=19+1 from rfl,Wi,if_neg Za,<- hacc]
       rfl
      refine Xe (Zc ?_);refine cD ?_ ?_<;>intro h3<;>simp (disch:=omega) only [Sh.out h3,go_sem,seval,↓reduceIte]
      ·have cn:=Iv x (.list fc (fst.map Wu)) (.list sc (sk.map eI)) m l1 ⟨i,v,[a0,a1,a2,a3,a4,a5]⟩ hv.len Zb hn (by grind);obtain ⟨v1,v2⟩:=Lz (m:=m) hv (by grind);obtain ⟨j,w,b0,b1,b2,b3,b4,b5,hw⟩:=YS v1.len;have hsk:=hc.skp i Za;have hrg:=Un (m:=m) hc 20 _ v1;rw [hw] at cn v1 v2 hrg;simp only at v2;refine cn.useP (L:= [_,_]) (by rfl) ?_ (by rfl) (by rfl);refine BO ?_;have c3:=((ih ⟨j,w,[b0,b1,b2,b3,b4,b5]⟩ l1 Za v1 (by grind) hl1).mono (fun y H' hq=>(⟨hq,by obtain ⟨l',_,_,rfl⟩:=hq;rfl⟩:_/\H'.length=(Y1 x (.list fc (fst.map Wu)) (.list sc (sk.map eI)) m l1).length))).front (by rfl) (by rfl) [BM ⟨i,v,[a0,a1,a2,a3,a4,a5]⟩,.cells [.p (.int .i64 acc)]]
       refine ACalls.mono c3 ?_;rintro y H' ⟨H1,⟨l2,hl2,rfl,rfl⟩,rfl⟩;refine GF ?_;refine ACalls.mono ((ME acc (nth sk i) (Wi x.orders.length m x fst sk 20 ⟨j,w,[b0,b1,b2,b3,b4,b5]⟩) Za Za).back [.map (l2.map (MS A8)),VR x (.list fc (fst.map Wu)) (.list sc (sk.map eI)) m,BM ⟨i,v,[a0,a1,a2,a3,a4,a5]⟩] (by rfl)) ?_;rintro y H' ⟨y1,H2,⟨rfl,rfl⟩,rfl,rfl⟩;simp (disch:=omega) only [VR,BM,Zq,Zn,ZL,Zz,shO,shVs,shV,go_sem,seval];refine ZC 6 mixed Ze Ze ?_
       refine Zc ?_;refine LL (l:=l2) (k:=(⟨i,v,[a0,a1,a2,a3,a4,a5]⟩:St)) PF (fun p hp=>(hl2 p hp).1.len) hv.len (by rfl) fun l3 _ hl3=> ?_;simp (disch:=omega) only [ZW,go_sem,seval];rw [if_pos h3,Jv hc 19 20 _ (by grind) (by grind) (by grind),hw] at hTe;rw [<- hTe];exact ⟨.p (.int .i64 T),_,wk,l3,fun p hp=>(hl3 p hp).elim (hl2 p) (fun e=>by grind),rfl,rfl⟩
      ·refine ZC 6 mixed Ze Ze (Zc ?_);refine LL (l:=l1) (k:=(⟨i,v,[a0,a1,a2,a3,a4,a5]⟩:St)) PF hl1R hv.len (by rfl) fun l3 _ hl3=> ?_;simp (disch:=omega) only [ZW,go_sem,seval];rw [if_neg h3] at hTe;rw [<- hTe];exact ⟨.p (.int .i64 T),_,wk,l3,fun p hp=>(hl3 p hp).elim (hl1 p) (fun e=>by grind),rfl,rfl⟩
def LZ (n:Nat) (m:Int) (x:Inst) (fst:List (List Col)) (sk:List Int) (s:St) (c:Col):Bool :=
 YK x s c&&(decide (0<=Wi n m x fst sk 20 (VP n m s c))&&decide (c.price+Wi n m x fst sk 20 (VP n m s c)=Wi n m x fst sk 20 s))
def Yv (n:Nat) (m:Int) (x:Inst) (fst:List (List Col)) (sk:List Int):Nat->St->List Col×List Int
 | 0,_=>([],[])
 | d+1,s=>if (n:Int)<=s.ix then ([],[]) else match (nth fst s.ix.toNat).find? (LZ n m x fst sk s) with
  | some c=>(c::(Yv n m x fst sk d (VP n m s c)).1,(Yv n m x fst sk d (VP n m s c)).2)
  | none=>((Yv n m x fst sk d (DF n m s)).1,s.ix::(Yv n m x fst sk d (DF n m s)).2)
theorem M0 {α:Type} [Inhabited α] {p:α->Bool} : ∀ {l:List α} {k:Nat},k<l.length->(∀j,j<k->p (nth l j)=false)->p (nth l k)=true->l.find? p=some (nth l k)
 | [],_,h,_,_=>by simp at h
 | a::l,0,_,_,h=>by
  grind [nth]
 | a::l,k+1,hk,h0,h=>by
  rw [List.find?_cons_of_neg (by rw [show p a=false from h0 0 Za];simp)];exact M0 (l:=l) (k:=k) (by simpa using hk) (fun j hj=>h0 (j+1) Za) h
theorem rK {α:Type} [Inhabited α] {p:α->Bool} {l:List α} (h: ∀j,j<l.length->p (nth l j)=false):l.find? p=none:=by
 rw [Au];intro a ha;obtain ⟨j,hj,rfl⟩:=ZN.1 ha
 grind [Zh]
theorem Zda (X:AM.Obj) (hX: ∀H n,E4 H n X X) (hX2: ∀o xs,R7 o xs X=X) (x:Inst) (fst:List (List Col)) (sk:List Int) (fc sc:Bool) (m:Int) (hn:x.orders.length<=10) (hf:fst.length=x.orders.length) (hs:sk.length=x.orders.length) (hc:ChOk x.orders.length x fst sk) (hcl: ∀r∈fst,r.length<=1048576)
  (s:St) (l:List (St×Int)) (hv:StV x.orders.length s) (hl:xP x.orders.length m x fst sk l) :
  ACalls Tryz.prog 122 [.ptr 1 0,.p (A8 s)] (Y1 x (.list fc (fst.map Wu)) (.list sc (sk.map eI)) m l++ [X]) fun y H'=> ∃l' A B,xP x.orders.length m x fst sk l'/\(A,B)=Yv x.orders.length m x fst sk 20 s /\
   y= .tup [.sl 4 0 A.length A.length,.p (.list false (B.map eI))]/\H'=Y1 x (.list fc (fst.map Wu)) (.list sc (sk.map eI)) m l'++ [X,.cells (List.replicate 8 .junk),.elems 7 (A.map Xp)]:=by
 obtain ⟨i,v,a0,a1,a2,a3,a4,a5,rfl⟩:=YS hv.len;obtain ⟨D,hD⟩: ∃D,D=20:=⟨20,rfl⟩;obtain ⟨R,hR⟩: ∃R,R=Yv x.orders.length m x fst sk D ⟨i,v,[a0,a1,a2,a3,a4,a5]⟩:=⟨_,rfl⟩;rw [<- hD,<- hR];have hi0:=hv.ix;simp only at hi0;refine Zf [20] Tryz.func122 rfl ZaC ?_;simp (disch:=omega) only [Tryz.f122,ZL,Zz,Y1,VR,Zq,Zn,go_sem,seval]
 refine Z0 [20] [0,3] (fun q:Nat×St×List (St×Int)×List Col×List Int=> [(6,.sl 4 0 q.2.2.2.1.length q.2.2.2.1.length),(7,.sl 5 0 q.2.2.2.2.length q.2.2.2.2.length)])
  (fun q=>Y1 x (.list fc (fst.map Wu)) (.list sc (sk.map eI)) m q.2.2.1++ [X,BM q.2.1,.elems 7 (q.2.2.2.1.map Xp),.elems 1 (q.2.2.2.2.map eI)])
  (fun q=>q.1<=D/\StV x.orders.length q.2.1/\(x.orders.length:Int)-q.2.1.ix<q.1/\xP x.orders.length m x fst sk q.2.2.1/\(q.2.2.2.1.length:Int)<=q.2.1.ix/\(q.2.2.2.2.length:Int)<=q.2.1.ix/\R=(q.2.2.2.1++(Yv x.orders.length m x fst sk q.1 q.2.1).1,q.2.2.2.2++(Yv x.orders.length m x fst sk q.1 q.2.1).2))
  (fun q=>q.1) (D,⟨i,v,[a0,a1,a2,a3,a4,a5]⟩,l,[],[]) ⟨Zb,hv,by grind,hl,by grind,by grind,by rw [hR];rfl⟩
  (Weak.ofNil 6 7 (by simp (disch:=omega) only [go_sem,seval]) Zb (Weak.ofNil 7 1 (by simp (disch:=omega) only [go_sem,seval]) Zb (Weak.mk ?_))) ?_
 ·simp (disch:=omega) only [hX,Y1,VR,BM,Zq,Zn,ZL,Zz,ZF,go_sem,seval,↓reduceIte]
 ·rintro ⟨d,s,l1,A,B⟩ ⟨hd1,hsv,hd,hl1,hA,hB,hq⟩;simp only at hd1 hsv hd hl1 hA hB hq;clear hv hR hi0;obtain ⟨i,v,a0,a1,a2,a3,a4,a5,rfl⟩:=YS hsv.len;have hi0:=hsv.ix;simp only at hi0 hd hA hB hq;obtain ⟨i,rfl⟩: ∃k:Nat,i=k:=⟨i.toNat,Za⟩;obtain ⟨d,rfl⟩: ∃k,d=k+1:=⟨d-1,Za⟩;refine GF ?_;refine Xe ?_;refine Zc ?_;refine cD ?_ ?_<;>intro h1<;>simp (disch:=omega) only [Sh.out h1,go_sem,seval,↓reduceIte]
  ·have hi2:i<fst.length:=Za
   have hrl:=hcl _ (ZZ hi2);have c3:=((EC x fst sk fc sc m hn hf hs hc hcl 20 ⟨i,v,[a0,a1,a2,a3,a4,a5]⟩ l1 Za hsv (by grind) hl1).mono (fun y H' hq=>(⟨hq,by obtain ⟨l',_,_,rfl⟩:=hq;rfl⟩:_/\H'.length=(Y1 x (.list fc (fst.map Wu)) (.list sc (sk.map eI)) m l1).length))).front (by rfl) (by rfl) [X,BM ⟨i,v,[a0,a1,a2,a3,a4,a5]⟩,.elems 7 (A.map Xp),.elems 1 (B.map eI)];refine ACalls.mono c3 ?_;rintro y H' ⟨H1,⟨l2,hl2,rfl,rfl⟩,rfl⟩;clear hl1 c3;obtain ⟨W,hW⟩: ∃W,W=Wi x.orders.length m x fst sk 20 ⟨i,v,[a0,a1,a2,a3,a4,a5]⟩:=⟨_,rfl⟩
   rw [<- hW]
   have hWr: -1<=W/\W<=20*18014398509481984:=by rw [hW];exact Un hc 20 _ hsv
   refine GF ?_;refine Xe (Zc ?_);refine Zl [0,3,7,8,34,35] (fun q:Nat×List (St×Int)=> [(6,.sl 4 0 A.length A.length),(9,.p (.bool false)),(36,.p (.int .i64 q.1))]) (fun q=>Y1 x (.list fc (fst.map Wu)) (.list sc (sk.map eI)) m q.2++ [X,BM ⟨i,v,[a0,a1,a2,a3,a4,a5]⟩,.elems 7 (A.map Xp),.elems 1 (B.map eI)]) (fun q=>q.1<=(nth fst i).length/\xP x.orders.length m x fst sk q.2/\ ∀j,j<q.1->LZ x.orders.length m x fst sk ⟨i,v,[a0,a1,a2,a3,a4,a5]⟩ (nth (nth fst i) j)=false) (fun q=>(nth fst i).length-q.1) (0,l2) ⟨Zb,hl2,fun j hj=>by simp at hj⟩ (Weak.mk ?_) ?_
   ·simp (disch:=omega) only [hX,Y1,VR,BM,Zq,Zn,ZL,Zz,go_sem,seval,↓reduceIte]
   ·rintro ⟨k,l1⟩ ⟨hk,hl1,hno⟩;simp only at hk hl1 hno;refine GF ?_;refine cD ?_ ?_<;>intro h2<;>simp (disch:=omega) only [Sh.out h2,go_sem,seval,↓reduceIte]
    ·have hk2:k<(nth fst i).length:=Za
     have hm:=ZZ hk2;obtain ⟨⟨t0,t1⟩,⟨S,hS,hS2⟩,hb,hp0,hp1⟩:=hc.col i Za _ hm;obtain ⟨C,hC,hC2⟩:=hsv.cov;simp only at hC;have h6:=hc.typ.1;obtain ⟨tt,htt⟩: ∃tt:Nat,(nth (nth fst i) k).typ=tt:=⟨(nth (nth fst i) k).typ.toNat,Za⟩;have cw:=oD x (.list fc (fst.map Wu)) (.list sc (sk.map eI)) m l1 ⟨i,v,[a0,a1,a2,a3,a4,a5]⟩ (nth (nth fst i) k) hsv.len Zb hn (by grind) C S tt hC hS htt hC2 hS2 Za h6 hsv.used
     have hmay:YK x ⟨i,v,[a0,a1,a2,a3,a4,a5]⟩ (nth (nth fst i) k)=Es x ⟨i,v,[a0,a1,a2,a3,a4,a5]⟩ tt C S:=by grind [YK]
     have hwc:VP x.orders.length m ⟨i,v,[a0,a1,a2,a3,a4,a5]⟩ (nth (nth fst i) k)=Di x.orders.length m ⟨i,v,[a0,a1,a2,a3,a4,a5]⟩ tt C S:=by grind [VP]
     have more:LZ x.orders.length m x fst sk ⟨i,v,[a0,a1,a2,a3,a4,a5]⟩ (nth (nth fst i) k)=false-> ∀j,j<k+1->LZ x.orders.length m x fst sk ⟨i,v,[a0,a1,a2,a3,a4,a5]⟩ (nth (nth fst i) j)=false:=fun h j hj=>by
      grind
     by_cases hy:Es x ⟨i,v,[a0,a1,a2,a3,a4,a5]⟩ tt C S=true
     ·obtain ⟨v1,v2⟩:=E2 (m:=m) hc hsv Za (by simpa using hm) (by grind);rw [hwc] at v1 v2;obtain ⟨j,w,b0,b1,b2,b3,b4,b5,hw⟩:=YS v1.len;rw [if_pos hy,hw] at cw;refine cw.useP (L:= [_,_,_,_,_]) (by rfl) ?_ (by rfl) (by rfl);refine BO ?_;have c3:=((EC x fst sk fc sc m hn hf hs hc hcl 20 ⟨j,w,[b0,b1,b2,b3,b4,b5]⟩ l1 Za (hw ▸ v1) (by grind) hl1).mono (fun y H' hq=>(⟨hq,by obtain ⟨l',_,_,rfl⟩:=hq;rfl⟩:_/\H'.length=(Y1 x (.list fc (fst.map Wu)) (.list sc (sk.map eI)) m l1).length))).front (by rfl) (by rfl) [X,BM ⟨i,v,[a0,a1,a2,a3,a4,a5]⟩,.elems 7 (A.map Xp),.elems 1 (B.map eI),I3 (nth (nth fst i) k),BM ⟨j,w,[b0,b1,b2,b3,b4,b5]⟩]
      refine ACalls.mono c3 ?_;rintro y H' ⟨H1,⟨l3,hl3,rfl,rfl⟩,rfl⟩;have hTr:=Un (m:=m) hc 20 _ v1
      have hsel:LZ x.orders.length m x fst sk ⟨i,v,[a0,a1,a2,a3,a4,a5]⟩ (nth (nth fst i) k)=(decide (0<=Wi x.orders.length m x fst sk 20 ⟨j,w,[b0,b1,b2,b3,b4,b5]⟩)&&decide ((nth (nth fst i) k).price+Wi x.orders.length m x fst sk 20 ⟨j,w,[b0,b1,b2,b3,b4,b5]⟩=W)):=by
       rw [LZ,hmay,hy,hwc,hw,hW,VH]
      rw [hw] at hTr;generalize Wi x.orders.length m x fst sk 20 ⟨j,w,[b0,b1,b2,b3,b4,b5]⟩=T at hTr hsel;simp (disch:=omega) only [Y1,VR,BM,I3,Zq,Zn,ZL,Zz,go_sem,seval];refine gT ?_ ?_<;>intro h3<;>simp (disch:=omega) only [Sh.out h3,go_sem,seval,↓reduceIte]
      ·refine cD ?_ ?_<;>intro h4<;>simp (disch:=omega) only [Sh.out h4,go_sem,seval,↓reduceIte]
       ·rw [UK h3,UK h4,VH] at hsel
        have hp:Yv x.orders.length m x fst sk (d+1) ⟨i,v,[a0,a1,a2,a3,a4,a5]⟩=(nth (nth fst i) k::(Yv x.orders.length m x fst sk d ⟨j,w,[b0,b1,b2,b3,b4,b5]⟩).1,(Yv x.orders.length m x fst sk d ⟨j,w,[b0,b1,b2,b3,b4,b5]⟩).2):=by
         rw [Yv,if_neg (by grind)];simp only [XY,M0 hk2 hno hsel,hwc,hw]
        rw [hw] at v1 v2;simp only at v2;rw [hp] at hq;exact ⟨(d,⟨j,w,[b0,b1,b2,b3,b4,b5]⟩,l3,A++ [nth (nth fst i) k],B),⟨Za,v1,by grind,hl3,by grind,by grind,by grind⟩,Za,Weak.mk (by simp (disch:=omega) only [hX,Zq,Zn,Xs,ZG,ZD,ZF,Xl,go_sem,seval])⟩
       ·rw [U1 h4,Bool.and_false] at hsel;exact ⟨(k+1,l3),⟨Za,hl3,more hsel⟩,Za,Weak.mk (by simp (disch:=omega) only [hX,go_sem,seval])⟩
      ·rw [U1 h3,QI] at hsel;exact ⟨(k+1,l3),⟨Za,hl3,more hsel⟩,Za,Weak.mk (by simp (disch:=omega) only [hX,go_sem,seval])⟩
     ·rw [if_neg hy] at cw;refine cw.useP (L:= [_,_,_,_,_]) (by rfl) ?_ (by rfl) (by rfl);refine BO ?_;exact ⟨(k+1,l1),⟨Za,hl1,more (by rw [LZ,hmay,Bool.eq_false_iff.2 hy,QI])⟩,Za,Weak.mk (by simp (disch:=omega) only [hX,go_sem,seval])⟩
    ·have hkl:k=(nth fst i).length:=Za
     subst hkl
     have hp:Yv x.orders.length m x fst sk (d+1) ⟨i,v,[a0,a1,a2,a3,a4,a5]⟩=((Yv x.orders.length m x fst sk d (DF x.orders.length m ⟨i,v,[a0,a1,a2,a3,a4,a5]⟩)).1,(i:Int)::(Yv x.orders.length m x fst sk d (DF x.orders.length m ⟨i,v,[a0,a1,a2,a3,a4,a5]⟩)).2):=by
      simp_all [Yv,rK]
     rw [hp] at hq;have cn:=Iv x (.list fc (fst.map Wu)) (.list sc (sk.map eI)) m l1 ⟨i,v,[a0,a1,a2,a3,a4,a5]⟩ hsv.len Zb hn (by grind);obtain ⟨v1,v2⟩:=Lz (m:=m) hsv Za;obtain ⟨j,w,b0,b1,b2,b3,b4,b5,hw⟩:=YS v1.len;rw [hw] at cn v1 v2 hq;simp only at v2;refine cn.useP (L:= [_,_,_,_,_]) (by rfl) ?_ (by rfl) (by rfl);refine BO ?_;exact ⟨(d,⟨j,w,[b0,b1,b2,b3,b4,b5]⟩,l1,A,B++ [(i:Int)]),⟨Za,v1,by grind,hl1,by grind,by grind,by grind⟩,Za,Weak.mk (by simp (disch:=omega) only [hX,Zq,Zn,Xs,ZG,ZD,ZF,Xl,go_sem,seval])⟩
  ·rw [Yv,if_pos (by grind)] at hq;simp only [Y8] at hq;subst hq;refine Zp (Weak.fz (o:=5) (by rfl)) (Zg [] _ _ _ _ (US ?_));exact ⟨.tup [.sl 4 0 A.length A.length,.p (.list false (B.map eI))],_,Weak.mk (by simp (disch:=omega) only [hX,hX2,go_sem,seval]),l1,A,B,hl1,rfl,rfl,rfl⟩
def Lc (a:List Int) (i:Nat):Nat->Bool
 | 0=>true
 | k+1=>Lc a i k&&decide (nth a k≠nth a i)
theorem M8 {a:List Int} {i:Nat} : ∀k,Lc a i k=true↔ ∀t,t<k->nth a t≠nth a i
 | 0=>by simp [Lc]
 | k+1=>by
  rw [Lc,ZH,M8 k,Zs]
  grind
def aC (a:List Int) (i:Nat):Bool:=Lc a i i
theorem Ci {a:List Int} {i:Nat} :aC a i=true↔ ∀t,t<i->nth a t≠nth a i:=M8 i
def K9 (l:List Col) (a:List Int) (T:Int) (i:Nat):Bool:=decide (0<=nth a i)&&(decide ((nth l (nth a i).toNat).typ=T)&&aC a i)
def usdI (l:List Col) (a:List Int) (T:Int):Nat->Nat
 | 0=>0
 | i+1=>usdI l a T i+(if K9 l a T i=true then 1 else 0)
def VN (S:Nat) (a:List Int) (j:Int):List Int:=(List.range a.length).map fun i=>if S.testBit i=true then j else nth a i
theorem Uv {S:Nat} {a:List Int} {j:Int} :(VN S a j).length=a.length:=by simp [VN]
theorem Xy {S:Nat} {a:List Int} {j:Int} {i:Nat} (h:i<a.length):nth (VN S a j) i=if S.testBit i=true then j else nth a i:=by
 grind [VN,Zh]
def sU (S:Nat) (a:List Int) (k:Nat):Bool:=(List.range a.length).all fun i=> !S.testBit i||(decide (nth a i<0)&&decide (k<=i))
theorem J9 {S:Nat} {a:List Int} {k:Nat} :sU S a k=true↔ ∀i,i<a.length->S.testBit i=true->nth a i<0/\k<=i:=by
 simp only [sU,ZA,ZM,W1,XQ,ZH,Zs]
 grind
def Kr (x:Inst) (l:List Col) (a:List Int) (j k:Nat):Bool :=
 (nth l j).set.toNat.testBit k&&(decide ((usdI l a (nth l j).typ a.length:Int)<(nth x.types (nth l j).typ.toNat).count)&&sU (nth l j).set.toNat a k)
def skR (x:Inst) (k:Nat):Int:=(YA (unsF x k).1).1
def Ji (x:Inst) (l:List Col):Nat->List Int->Int->List (List Int×Int)
 | 0,a,p=> [(a,p)]
 | d+1,a,p=>if (nth x.orders (x.orders.length-(d+1))).off=true\/0<=nth a (x.orders.length-(d+1)) then Ji x l d a p else
  ((List.range l.length).flatMap fun j=>if Kr x l a j (x.orders.length-(d+1))=true then Ji x l d (VN (nth l j).set.toNat a j) (p+(nth l j).price) else []) ++
   (if 0<=(nth x.orders (x.orders.length-(d+1))).penalty then Ji x l d a (p+skR x (x.orders.length-(d+1))) else [])
theorem IS (n:Nat) (hn:n<=60):PC 52 [.p (.int .i64 n)] (.int .i64 (pw n:Nat)):=by
 refine Zd Tryz.func52 rfl ZiP ?_;simp (disch:=omega) only [Tryz.f52,go_sem,seval];refine Zl [0] (fun k:Nat=> [(3,.p (.int .i64 (pw k:Nat))),(4,.p (.int .i64 k))]) (fun _=> []) (fun k=>k<=n) (fun k=>n-k) 0 Zb (Weak.mk ?_) ?_
 ·refine Zc ?_;simp [pw]
 ·intro k hk;have h62:pw k<=pw 62:=Ko Za;have h63:k<n->pw (k+1)<=pw 62:=fun h=>Ko Za;have h64:=EV k;have h65:=F9;refine Zc ?_;refine cD ?_ ?_<;>intro h<;>simp (disch:=omega) only [Sh.out h,go_sem,seval,↓reduceIte]
  ·exact ⟨k+1,Za,Za,Weak.mk (by refine Zc ?_;simp [h64])⟩
  grind
theorem Li (s:Nat) (i:Nat) (hs:s<9223372036854775808) (hi:i<=64):PC 130 [.p (.int .i64 s),.p (.int .i64 i)] (.bool (s.testBit i)):=by
 refine Zd Tryz.func130 rfl ZaJ ?_;simp (disch:=omega) only [Tryz.f130,go_sem,seval];refine Zl [1] (fun k:Nat=> [(0,.p (.int .i64 (hv s k:Nat))),(5,.p (.int .i64 k))]) (fun _=> []) (fun k=>k<=i) (fun k=>i-k) 0 Zb (Weak.mk ?_) ?_
 ·simp (disch:=omega) only [Sb,go_sem,seval]
 ·intro k hk;have e1:=Sa s k;have h1:=wN s k;refine Zc ?_;refine ZR ?_ ?_<;>intro h
  ·exact ⟨k+1,Za,Za,Weak.mk (by refine Zc ?_;grind)⟩
  ·have:k=i:=Za
   subst this;rw [jU]
   have:((hv s k:Nat):Int)%2=1↔hv s k%2=1:=Za
   grind
structure Chc where
 found:Bool
 places:List Int
 price:Int
 deriving Inhabited
def UR (x:Inst) (lc:Bool) (l:List Col) (b:Chc):AM.Obj:= .cells [.p (.list x.net.places_c (x.net.places.map eS)),.p (.list x.net.arcs_c (x.net.arcs.map VS)),.p (.list x.types_c (x.types.map X4)),.p (.list x.orders_c (x.orders.map Yj)),.p (.list x.apart_c (x.apart.map eP)),.p (.list x.before_c (x.before.map eP)),.p (.list lc (l.map Xp)),.p (.bool b.found),.p (.list (!b.found) (b.places.map eI)),.p (.int .i64 b.price)]
theorem Tc {l:List Col} {a:List Int} {T:Int} : ∀m,usdI l a T m<=m
 | 0=>ZB _
 | m+1=>by
  have:=Tc (l:=l) (a:=a) (T:=T) m;rw [usdI];split<;>omega
theorem Df {P Q:Prop} (h:Q) (e:Q->P:=by intro h;simp (disch:=omega) only [UR,go_sem,seval];exact h):P:=e h
theorem nW (x:Inst) (lc:Bool) (l:List Col) (b:Chc) (a:List Int) (T:Int) (ha:a.length<=1048576) (hr: ∀i,i<a.length-> -1<=nth a i/\nth a i<l.length) (hl:l.length<=1048576) :
  ACalls Tryz.prog 132 [.ptr 0 0,.p (.list false (a.map eI)),.p (.int .i64 T)] [UR x lc l b] fun y H'=>y= .p (.int .i64 (usdI l a T a.length:Nat))/\H'= [UR x lc l b]:=by
 refine Zf [] Tryz.func132 rfl ZaL ?_;simp (disch:=omega) only [Tryz.f132,UR,go_sem,seval];refine Zl [0,1,2] (fun k:Nat=> [(7,.p (.int .i64 (usdI l a T k:Nat))),(8,.p (.int .i64 k))]) (fun _=> [UR x lc l b]) (fun k=>k<=a.length) (fun k=>a.length-k) 0 Zb (Weak.mk ?_) ?_
 ·have h00:((usdI l a T 0:Nat):Int)=0:=rfl;simp (disch:=omega) only [h00,UR,go_sem,seval,↓reduceIte]
 ·intro k hk;have hu:=Tc (l:=l) (a:=a) (T:=T) k;refine Df ?_;refine cD ?_ ?_<;>intro h1<;>simp (disch:=omega) only [Sh.out h1,go_sem,seval,↓reduceIte]
  ·have hk2:k<a.length:=Za
   have hrk:=hr k hk2;refine Xe (Zc ?_);refine gF ?_ ?_<;>intro h2<;>simp (disch:=omega) only [Sh.out h2,go_sem,seval,↓reduceIte]
   ·have e:usdI l a T (k+1)=usdI l a T k:=by grind [usdI,K9]
    exact ⟨k+1,Za,Za,Weak.mk (by simp (disch:=omega) only [e,go_sem,seval])⟩
   ·refine cD ?_ ?_<;>intro h3<;>simp (disch:=omega) only [Sh.out h3,go_sem,seval,↓reduceIte]
    ·have e:usdI l a T (k+1)=usdI l a T k:=by grind [usdI,K9]
     exact ⟨k+1,Za,Za,Weak.mk (by simp (disch:=omega) only [e,go_sem,seval])⟩
    ·have h3':(nth l (nth a k).toNat).typ=T:=Z5.1 h3;refine Zl [0,1,2,7,8] (fun q:Nat=> [(9,.p (.bool (Lc a k q))),(10,.p (.int .i64 q))]) (fun _=> [UR x lc l b]) (fun q=>q<=k) (fun q=>k-q) 0 Zb (Weak.mk ?_) ?_
     ·simp (disch:=omega) only [UR,Lc,go_sem,seval,↓reduceIte]
     ·intro q hq;refine Df ?_;refine cD ?_ ?_<;>intro h4<;>simp (disch:=omega) only [Sh.out h4,go_sem,seval,↓reduceIte]
      ·refine ZC 12 mixed Ze Ze (Zc ?_);refine gT ?_ ?_<;>intro h5<;>simp (disch:=omega) only [Sh.out h5,go_sem,seval,↓reduceIte]
       ·exact ⟨q+1,Za,Za,Weak.mk (by simp (disch:=omega) only [Lc,h5,VH,go_sem,seval])⟩
       ·exact ⟨q+1,Za,Za,Weak.mk (by simp (disch:=omega) only [Lc,h5,QI,go_sem,seval])⟩
      ·have hqk:q=k:=Za
       subst hqk;refine cD ?_ ?_<;>intro h5<;>simp (disch:=omega) only [Sh.out h5,go_sem,seval,↓reduceIte]
       ·have e:usdI l a T (q+1)=usdI l a T q+1:=by grind [usdI,K9,aC]
        exact ⟨q+1,Za,Za,Weak.mk (by simp (disch:=omega) only [e,go_sem,seval])⟩
       ·have e:usdI l a T (q+1)=usdI l a T q:=by grind [usdI,K9,aC]
        exact ⟨q+1,Za,Za,Weak.mk (by simp (disch:=omega) only [e,go_sem,seval])⟩
  ·have hka:k=a.length:=Za
   subst hka;exact we
def KZ (S:Nat) (a:List Int) (j:Int) (k:Nat):List Int:=(List.range a.length).map fun t=>if t<k/\S.testBit t=true then j else nth a t
theorem Uw {S:Nat} {a:List Int} {j:Int} {k:Nat} :(KZ S a j k).length=a.length:=by simp [KZ]
theorem K0 {S:Nat} {a:List Int} {j:Int} {k i:Nat} (h:i<a.length):nth (KZ S a j k) i=if i<k/\S.testBit i=true then j else nth a i:=by
 grind [KZ,Zh]
theorem cU {S:Nat} {a:List Int} {j:Int} :KZ S a j 0=a :=
 Qm Uw fun i hi=>by simp_all [Uw,K0]
theorem nD {S:Nat} {a:List Int} {j:Int} :KZ S a j a.length=VN S a j :=
 Qm (by rw [Uw,Uv]) fun i hi=>by grind [Uw,K0,Xy]
theorem nE {S:Nat} {a:List Int} {j:Int} {k:Nat} (hk:k<a.length) (hb:S.testBit k=true):(KZ S a j k).set k j=KZ S a j (k+1) :=
 Qm (by simp [Uw]) fun i hi=>by
  rw [U0,Uw] at hi;rw [CM (by rw [Uw];exact hk),K0 hi,K0 hi]
  grind
theorem uG {S:Nat} {a:List Int} {j:Int} {k:Nat} (hb:S.testBit k=false):KZ S a j (k+1)=KZ S a j k:=by
 refine W0 fun i _=> ?_
 grind
theorem oC (x:Inst) (lc:Bool) (l:List Col) (b:Chc) (a:List Int) (j k:Nat) (ha:0<a.length/\a.length<=60) (hl:l.length<=1048576) (hj:j<l.length) (S:Nat) (hS:(nth l j).set=S) (hS2:S<9223372036854775808) :
  ACalls Tryz.prog 133 [.ptr 0 0,.p (.list false (a.map eI)),.p (.int .i64 j),.p (.int .i64 k)] [UR x lc l b] fun y H'=>y=(if sU S a k=true then .tup [.p (.list false ((VN S a j).map eI)),.p (.bool true)] else .tup [.p (.list true []),.p (.bool false)])/\H'= [UR x lc l b]:=by
 refine Zf [10] Tryz.func133 rfl ZaM ?_;simp (disch:=omega) only [Tryz.f133,UR,go_sem,seval];rw [if_pos ⟨Za,Za⟩];refine Zc ?_;refine Z0 [10] [0,2,3,10] (fun q:Nat=> [(11,.p (.int .i64 q))]) (fun q=> [UR x lc l b,.elems 1 ((KZ S a j q).map eI)]) (fun q=>q<=a.length/\ ∀t,t<q->S.testBit t=true->nth a t<0/\k<=t) (fun q=>a.length-q) 0 ⟨Zb,fun t ht=>Za⟩ (Weak.mk ?_) ?_
 ·simp (disch:=omega) only [cU,UR,go_sem,seval,↓reduceIte]
 ·rintro q ⟨hq,hok⟩;have hul:(KZ S a j q).length=a.length:=Uw;refine Df ?_;rw [if_pos hul];refine Zc ?_;refine cD ?_ ?_<;>intro h1<;>simp (disch:=omega) only [Sh.out h1,go_sem,seval,↓reduceIte]
  ·have hq2:q<a.length:=Za
   rw [hS];refine (Li S q hS2 Za).use (Zc ?_);have hn:=K0 (S:=S) (j:=(j:Int)) (k:=q) hq2;rw [if_neg Za] at hn;refine cD ?_ ?_<;>intro h2<;>simp (disch:=omega) only [Sh.out h2,go_sem,seval,↓reduceIte]
   ·have hq3:q<(KZ S a j q).length:=Za
    simp (disch:=first | omega | (simp only [ZD,ZF,ZG,ZY,Xh,XI]<;>omega)) only [Vz hq3,hn,hq2,hul,eq_self,go_sem,seval,↓reduceIte];refine gF ?_ ?_<;>intro h3<;>simp (disch:=omega) only [Sh.out h3,go_sem,seval,↓reduceIte]
    ·have hno:sU S a k=false:=by
      grind [J9]
     exact ⟨.tup [.p (.list true []),.p (.bool false)],_,wk,by rw [hno];rfl,rfl⟩
    ·refine cD ?_ ?_<;>intro h4<;>simp (disch:=omega) only [Sh.out h4,go_sem,seval]
     ·have hno:sU S a k=false:=by
       grind [J9]
      exact ⟨.tup [.p (.list true []),.p (.bool false)],_,wk,by rw [hno];rfl,rfl⟩
     ·have ZT:((KZ S a j q).map eI).set q (.int .i64 j)=(KZ S a j (q+1)).map eI:=by rw [<- nE hq2 h2,V4];rfl
      simp (disch:=first | omega | (simp only [ZD,ZF,ZG,ZY,Xh,XI]<;>omega)) only [ZT,hn,eq_self,go_sem,seval,↓reduceIte]
      exact ⟨q+1,⟨Za,fun t ht hb=>by
       grind⟩,Za,wk⟩
   ·have hu:KZ S a j (q+1)=KZ S a j q:=uG h2
    exact ⟨q+1,⟨Za,fun t ht hb=>by
     grind⟩,Za,Weak.mk (by simp (disch:=omega) only [hu,go_sem,seval])⟩
  ·have hqa:q=a.length:=Za
   subst hqa;have hyes:sU S a k=true:=J9.2 hok;rw [hyes,if_pos rfl,nD];have hal:(VN S a j).length=a.length:=Uv;refine Zp (Weak.fz (o:=1) (by rfl)) ?_;refine Zg [] _ _ _ _ ?_;simp (disch:=omega) only [Zq,Zn,Z1,ZW,hal,eq_self,go_sem,seval];exact ⟨.tup [.p (.list false ((VN S a j).map eI)),.p (.bool true)],_,wk,rfl,rfl⟩
def Kq (l:List Col):List Int->List Int->Option Bool
 | x::a,y::b=>if x=y then Kq l a b else if x<0\/y<0 then some (decide (0<=x)) else if (nth l x.toNat).typ≠(nth l y.toNat).typ then some (decide ((nth l x.toNat).typ<(nth l y.toNat).typ)) else
   if (nth l x.toNat).set≠(nth l y.toNat).set then some (decide ((nth l x.toNat).set<(nth l y.toNat).set)) else Kq l a b
 | _,_=>none
def Ej : List Int->List Int->Bool
 | x::a,y::b=>if x=y then Ej a b else decide (x<y)
 | _,_=>false
def Fl (l:List Col) (a b:List Int):Bool:=match Kq l a b with
 | some r=>r
 | none=>Ej a b
theorem MB {l:List Col} :Kq l [] []=none:=by simp [Kq]
theorem fQ : Ej [] []=false:=by simp [Ej]
theorem RX {α:Type} [Inhabited α] {l:List α} {k:Nat} (h:k<l.length):l.drop k=nth l k::l.drop (k+1):=by
 grind [Zh,VF]
theorem Jn {l:List Col} {a b:List Int} {r:Bool} (h:Kq l a b=some r):Fl l a b=r:=by rw [Fl,h]
theorem Hk {l:List Col} {a b:List Int} (h:Kq l a b=none):Fl l a b=Ej a b:=by rw [Fl,h]
def cO (c:Col):AM.Obj:= .cells ((Xp c).cells.map .p)
theorem O5 (x:Inst) (lc:Bool) (l:List Col) (b:Chc) (a d:List Int) (dc:Bool) (ha:a.length<=1048576) (hd:d.length=a.length) (hr: ∀i,i<a.length-> -1<=nth a i/\nth a i<l.length) (hq: ∀i,i<a.length-> -1<=nth d i/\nth d i<l.length) (hl:l.length<=1048576) :
  ACalls Tryz.prog 131 [.ptr 0 0,.p (.list false (a.map eI)),.p (.list dc (d.map eI))] [UR x lc l b] fun y H'=>y= .p (.bool (Fl l a d))/\H'= [UR x lc l b]:=by
 obtain ⟨B,hB⟩: ∃B,B=Fl l a d:=⟨_,rfl⟩;rw [<- hB];refine Zf [] Tryz.func131 rfl ZaK ?_;simp (disch:=omega) only [Tryz.f131,UR,go_sem,seval];refine Zl [0,1,2] (fun k:Nat=> [(7,.p (.int .i64 k))]) (fun _=> [UR x lc l b]) (fun k=>k<=a.length/\Kq l (a.drop k) (d.drop k)=Kq l a d) (fun k=>a.length-k) 0 Zb (Weak.mk ?_) ?_
 ·simp (disch:=omega) only [UR,go_sem,seval,↓reduceIte]
 ·rintro k ⟨hk,hb⟩;refine Df ?_;refine cD ?_ ?_<;>intro h1<;>simp (disch:=omega) only [Sh.out h1,go_sem,seval,↓reduceIte]
  ·have hk2:k<a.length:=Za
   have hk3:k<d.length:=Za
   have hrk:=hr k hk2;have hqk:=hq k hk2;rw [RX hk2,RX hk3,Kq] at hb;refine Xe (Zc ?_);refine cD ?_ ?_<;>intro h2<;>simp (disch:=omega) only [Sh.out h2,go_sem,seval,↓reduceIte]
   ·rw [if_pos h2] at hb;exact ⟨k+1,⟨Za,hb⟩,Za,wk⟩
   ·rw [if_neg h2] at hb;refine gF ?_ ?_<;>intro h3<;>simp (disch:=omega) only [Sh.out h3,go_sem,seval,↓reduceIte]
    ·rw [if_pos (.inl h3)] at hb;have e:=Jn hb.symm;exact ⟨.p (.bool B),_,Weak.mk (by simp (disch:=omega) only [hB,e,go_sem,seval]),rfl,rfl⟩
    ·refine cD ?_ ?_<;>intro h4<;>simp (disch:=omega) only [Sh.out h4,go_sem,seval,↓reduceIte]
     ·rw [if_pos (.inr h4)] at hb;have e:=Jn hb.symm;exact ⟨.p (.bool B),_,Weak.mk (by simp (disch:=omega) only [hB,e,go_sem,seval]),rfl,rfl⟩
     ·rw [if_neg Za] at hb;refine X2 [10] 11 mixed Ze Ze Ze Zb (Zc ?_);refine Xr 10 _ _ Ze (by refine Zc ?_;exact ⟨rfl,rfl⟩) (Wv ?_);refine Zc ?_;refine X2 [10] 11 mixed Ze Ze Ze Zb (Zc ?_);refine Xr 10 _ _ Ze (by refine Zc ?_;exact ⟨rfl,rfl⟩) (Wv ?_);refine Zc ?_;refine cD ?_ ?_<;>intro h5<;>simp (disch:=omega) only [Sh.out h5,go_sem,seval,↓reduceIte]
      ·rw [if_pos h5] at hb;have e:=Jn hb.symm;exact ⟨.p (.bool B),_,Weak.mk (by simp (disch:=omega) only [hB,e,go_sem,seval]),rfl,rfl⟩
      ·rw [if_neg h5] at hb;refine cD ?_ ?_<;>intro h6<;>simp (disch:=omega) only [Sh.out h6,go_sem,seval,↓reduceIte]
       ·rw [if_pos h6] at hb;have e:=Jn hb.symm;exact ⟨.p (.bool B),_,Weak.mk (by simp (disch:=omega) only [hB,e,go_sem,seval]),rfl,rfl⟩
       ·rw [if_neg h6] at hb;exact ⟨k+1,⟨Za,hb⟩,Za,wk⟩
  ·have hka:k=a.length:=Za
   subst hka;rw [UH,<- hd,UH,MB] at hb;have e:=Hk hb.symm;refine Zl [1,2] (fun k:Nat=> [(10,.p (.int .i64 k))]) (fun _=> [UR x lc l b]) (fun k=>k<=a.length/\Ej (a.drop k) (d.drop k)=Ej a d) (fun k=>a.length-k) 0 Zb (Weak.mk ?_) ?_
   ·simp (disch:=omega) only [UR,go_sem,seval]
   ·rintro k ⟨hk,hb⟩;refine Df ?_;refine cD ?_ ?_<;>intro h2<;>simp (disch:=omega) only [Sh.out h2,go_sem,seval,↓reduceIte]
    ·have hk2:k<a.length:=Za
     have hk3:k<d.length:=Za
     rw [RX hk2,RX hk3,Ej] at hb;refine Xe (Zc ?_);refine ZR ?_ ?_<;>intro h3
     ·rw [if_neg h3] at hb;refine ZC 9 mixed Ze Ze (Zc ?_);exact ⟨.p (.bool B),_,Weak.mk (by simp (disch:=omega) only [hB,e,<- hb,go_sem,seval]),rfl,rfl⟩
     ·rw [if_pos (Z5.1 h3)] at hb;exact ⟨k+1,⟨Za,hb⟩,Za,wk⟩
    ·have hka:k=a.length:=Za
     subst hka;rw [UH,<- hd,UH,fQ] at hb;exact ⟨.p (.bool B),_,Weak.mk (by simp (disch:=omega) only [hB,e,<- hb,go_sem,seval]),rfl,rfl⟩
def YR (l:List Col) (b:Chc) (q:List Int×Int):Chc:=if b.found=false\/q.2<b.price\/(q.2=b.price/\Fl l q.1 b.places=true) then ⟨true,q.1,q.2⟩ else b
def RngA (x:Inst) (l:List Col) (a:List Int):Prop:=a.length=x.orders.length/\ ∀i,i<x.orders.length-> -1<=nth a i/\nth a i<l.length
def ChB (x:Inst) (l:List Col) (b:Chc):Prop:=b.found=true->RngA x l b.places
theorem Gp {x:Inst} {l:List Col} {a:List Int} {S j:Nat} (h:RngA x l a) (hj:j<l.length):RngA x l (VN S a j) :=
 ⟨by rw [Uv];exact h.1,fun i hi=>by
  rw [Xy (by rw [h.1];exact hi)]
  split
  ·omega
  ·exact h.2 i hi⟩
theorem AJ {x:Inst} {l:List Col} : ∀(d:Nat) {a:List Int} {p:Int},RngA x l a-> ∀q∈Ji x l d a p,RngA x l q.1
 | 0,a,p,h,q,hq=>by
  simp_all [Ji]
 | d+1,a,p,h,q,hq=>by
  rw [Ji] at hq
  split at hq
  ·exact AJ d h q hq
  ·rw [Xi,XU] at hq;rcases hq with ⟨j,hj,hq⟩ | hq
   ·split at hq
    ·exact AJ d (Gp h (ZM.1 hj)) q hq
    ·simp at hq
   ·split at hq
    ·exact AJ d h q hq
    ·simp at hq
theorem Me {x:Inst} {l:List Col} : ∀ {L:List (List Int×Int)} {b:Chc},ChB x l b->(∀q∈L,RngA x l q.1)->ChB x l (L.foldl (YR l) b)
 | [],_,h,_=>h
 | q::L,b,h,hL=>by
  rw [XR];refine Me (L:=L) ?_ fun q hq=>hL q (Yq _ hq);unfold YR
  split
  ·exact fun _=>hL q Zb
  ·exact h
structure ColsR (x:Inst) (l:List Col):Prop where
 n4:x.orders.length<=4
 t6:x.types.length<=6
 len:l.length<=1048576
 col: ∀c∈l,(0<=c.typ/\c.typ<x.types.length)/\(0<=c.price/\c.price<=18014398509481984)/\ ∃S:Nat,c.set=S/\S<16
 sk: ∀k,k<x.orders.length->(nth x.orders k).off=false->0<=(nth x.orders k).penalty->0<=skR x k/\skR x k<=18014398509481984
 us: ∀i,scoR 1152921504606846976 (unsF x i).1
theorem rH {P:Program} {f:FuncId} {az:List V} {z:PV} {O:AM.Obj} {L:List AM.Obj} {B:V->Prop} {t} (h:ACalls P f az [O] fun y H'=>y= .p z/\H'= [O]) (k:B (.p z)) (ha:Xn 1 az=true:=by rfl) (hf:refH 1 [O]=true:=by rfl) :
  T6 (fun y=>ACalls P f az (O::L) (Zu (Zu (fun x H'=>x=y/\H'=O::L) ⟨⟩) ⟨⟩)) (Zu B t) :=
 ⟨.p z,h.useP (L:=L) rfl ⟨rfl,rfl⟩ ha hf,k⟩
theorem ZkZ {P:Program} {f:FuncId} {az:List V} {v:V} {O:AM.Obj} {L:List AM.Obj} {K:V->List AM.Obj->Prop} (h:ACalls P f az [O] fun y H'=>y=v/\H'= [O]) (k:K v (O::L)) (ha:Xn 1 az=true:=by rfl) (hf:refH 1 [O]=true:=by rfl):ACalls P f az (O::L) K :=
 h.useP (L:=L) rfl k ha hf
def oY (x:Inst) (lc:Bool) (l:List Col) (d:Nat):Prop:= ∀(a:List Int) (p:Int) (b:Chc),d<=x.orders.length->RngA x l a->0<=p->p+(d:Int)*18014398509481984<=90071992547409920->ChB x l b ->
  ACalls Tryz.prog 85 [.ptr 0 0,.p (.list false (a.map eI)),.p (.int .i64 ((x.orders.length-d:Nat):Int)),.p (.int .i64 p)] [UR x lc l b] fun y H'=>y= .tup []/\H'= [UR x lc l ((Ji x l d a p).foldl (YR l) b)]
theorem uX (x:Inst) (lc:Bool) (l:List Col) (hC:ColsR x l):oY x lc l 0:=by
 intro a p b hd ha hp0 hp1 hb;have h4:=hC.n4;have hl:=hC.len;obtain ⟨R,hR⟩: ∃R,R=UR x lc l ((Ji x l 0 a p).foldl (YR l) b):=⟨_,rfl⟩;rw [<- hR,Nat.sub_zero];simp only [Ji,XR,UJ] at hR;refine Zf [] Tryz.func85 rfl wQ ?_;obtain ⟨f,bp,bc⟩:=b
 cases f with
 | false =>
  rw [YR,if_pos (.inl rfl)] at hR;simp (disch:=omega) only [Tryz.f85,UR,Vj,go_sem,seval];exact ⟨_,[R],Weak.mk (by simp (disch:=omega) only [hR,UR,YD,go_sem,seval]),rfl,rfl⟩
 | true =>
  simp (disch:=omega) only [Tryz.f85,UR,YD,go_sem,seval];refine gF ?_ ?_<;>intro h1<;>simp (disch:=omega) only [Sh.out h1,go_sem,seval,↓reduceIte]
  ·rw [YR,if_pos (.inr (.inl h1))] at hR;exact ⟨_,[R],Weak.mk (by simp (disch:=omega) only [hR,UR,YD,go_sem,seval]),rfl,rfl⟩
  ·refine gT ?_ ?_<;>intro h2<;>simp (disch:=omega) only [Sh.out h2,go_sem,seval,↓reduceIte]
   ·have hq:=hb rfl;refine ACalls.mono (O5 x lc l ⟨true,bp,bc⟩ a bp (!true) (by rw [ha.1];omega) (by rw [ha.1];exact hq.1) (fun i hi=>ha.2 i (by rw [<- ha.1];exact hi)) (fun i hi=>hq.2 i (by rw [<- ha.1];exact hi)) hl) ?_;rintro y H' ⟨rfl,rfl⟩;simp (disch:=omega) only [UR,YD,go_sem,seval];refine cD ?_ ?_<;>intro h3<;>simp (disch:=omega) only [Sh.out h3,go_sem,seval,↓reduceIte]
    ·rw [YR,if_pos (.inr (.inr ⟨h2,h3⟩))] at hR;exact ⟨_,[R],Weak.mk (by simp (disch:=omega) only [hR,UR,YD,go_sem,seval]),rfl,rfl⟩
    ·rw [YR,if_neg (fun h=>h.elim (fun h=>by cases h) fun h=>h.elim (fun h=>h1 h) fun h=>by grind)] at hR;exact ⟨_,[R],Weak.mk (by simp (disch:=omega) only [hR,UR,YD,go_sem,seval]),rfl,rfl⟩
   ·rw [YR,if_neg (fun h=>h.elim (fun h=>by cases h) fun h=>h.elim (fun h=>h1 h) fun h=>h2 h.1)] at hR;exact ⟨_,[R],Weak.mk (by simp (disch:=omega) only [hR,UR,YD,go_sem,seval]),rfl,rfl⟩
theorem uY (x:Inst) (lc:Bool) (l:List Col) (hC:ColsR x l) (d:Nat) (ih:oY x lc l d):oY x lc l (d+1):=by
 intro a p b hd ha hp0 hp1 hb;have h4:=hC.n4;have h6:=hC.t6;have hl:=hC.len;obtain ⟨k,hk⟩: ∃k,k=x.orders.length-(d+1):=⟨_,rfl⟩
 have hk1:k<x.orders.length:=Za
 have hkd:x.orders.length-d=k+1:=Za
 obtain ⟨R,hR⟩: ∃R,R=UR x lc l ((Ji x l (d+1) a p).foldl (YR l) b):=⟨_,rfl⟩;rw [<- hR,<- hk];rw [Ji,<- hk] at hR;have hla:a.length=x.orders.length:=ha.1
 have hka:k<a.length:=Za
 refine Zf [] Tryz.func85 rfl wQ ?_;simp (disch:=omega) only [Tryz.f85,UR,go_sem,seval]
 have nxt: ∀(a':List Int) (p':Int) (b':Chc) (L:List AM.Obj) (K:V->List AM.Obj->Prop),RngA x l a'->0<=p'->p'+(d:Int)*18014398509481984<=90071992547409920->ChB x l b'->K (.tup []) (UR x lc l ((Ji x l d a' p').foldl (YR l) b')::L) ->
   ACalls Tryz.prog 85 [.ptr 0 0,.p (.list false (a'.map eI)),.p (.int .i64 ((k:Int)+1)),.p (.int .i64 p')] (UR x lc l b'::L) K:=fun a' p' b' L K h1 h2 h3 h5 hK=>by
  have hi:=ih a' p' b' Za h1 h2 h3 h5;rw [hkd] at hi;refine ((hi.mono fun y H' hq=>(⟨hq,by grind⟩:_/\H'.length= [UR x lc l b'].length)).front (by rfl) (by rfl) L).mono ?_
  grind
 refine cD ?_ ?_<;>intro h0<;>simp (disch:=omega) only [Sh.out h0,go_sem,seval,↓reduceIte]
 ·omega
 ·cases ho:(nth x.orders k).off with
  | true =>
   rw [if_pos (.inl ho)] at hR;refine Zc ?_;refine nxt a p b [_] _ ha hp0 Za hb (Df ?_);exact ⟨_,[R],Weak.mk (by simp (disch:=omega) only [hR,UR,go_sem,seval]),rfl,rfl⟩
  | false =>
   refine Zc ?_;refine cD ?_ ?_<;>intro h1<;>simp (disch:=omega) only [Sh.out h1,go_sem,seval]
   ·rw [if_pos (.inr h1)] at hR;refine nxt a p b [_] _ ha hp0 Za hb (Df ?_);exact ⟨_,[R],Weak.mk (by simp (disch:=omega) only [hR,UR,go_sem,seval]),rfl,rfl⟩
   ·rw [if_neg (by grind)] at hR;obtain ⟨G,hG⟩: ∃G:Nat->List (List Int×Int),G=fun j=>if Kr x l a j k=true then Ji x l d (VN (nth l j).set.toNat a j) (p+(nth l j).price) else []:=⟨_,rfl⟩;rw [<- hG,List.foldl_append] at hR
    have hGr: ∀q:Nat,q<=l.length-> ∀e∈(List.range q).flatMap G,RngA x l e.1:=fun q hq e he=>by
     obtain ⟨j,hj,he⟩:=XU.1 he;rw [hG] at he;simp only at he
     split at he
     ·exact AJ d (Gp ha (by grind)) e he
     ·simp at he
    have hGs: ∀q:Nat,((List.range (q+1)).flatMap G).foldl (YR l) b=(G q).foldl (YR l) (((List.range q).flatMap G).foldl (YR l) b):=fun q=>by
     grind [Ye]
    obtain ⟨B,hB⟩: ∃B:Nat->Chc,B=fun q=>((List.range q).flatMap G).foldl (YR l) b:=⟨_,rfl⟩
    have hBs: ∀q,B (q+1)=(G q).foldl (YR l) (B q):=fun q=>by grind
    have hB0:B 0=b:=by rw [hB];simp
    have hBc: ∀q,q<=l.length->ChB x l (B q):=fun q hq=>by rw [hB];exact Me hb (hGr q hq)
    have hRB:R=UR x lc l ((if 0<=(nth x.orders k).penalty then Ji x l d a (p+skR x k) else []).foldl (YR l) (B l.length)):=by rw [hR,hB]
    clear hR hGs hGr hB;refine Zl [0,1,2,3,9] (fun q:Nat=> [(10,.p (.int .i64 q))]) (fun q=> [UR x lc l (B q),Wa (nth x.orders k)]) (fun q=>q<=l.length) (fun q=>l.length-q) 0 Zb (Weak.mk ?_) ?_
    ·simp (disch:=omega) only [UR,Wa,hB0,ho,go_sem,seval,↓reduceIte]
    ·intro q hq;simp (disch:=omega) only [UR,Wa,ho,go_sem,seval];refine cD ?_ ?_<;>intro h2<;>simp (disch:=omega) only [Sh.out h2,go_sem,seval,↓reduceIte]
     ·have hq2:q<l.length:=Za
      obtain ⟨⟨t0,t1⟩,⟨c0,c1⟩,S,hS,hS2⟩:=hC.col _ (Zt hq2);refine Xe (Zc ?_)
      have hST:(nth l q).set.toNat=S:=Za
      have hGq:Kr x l a q k=(S.testBit k&&(decide ((usdI l a (nth l q).typ a.length:Int)<(nth x.types (nth l q).typ.toNat).count)&&sU S a k)):=by rw [Kr,hST]
      have hnx: ∀c:Bool,Kr x l a q k=c->B (q+1)=(if c=true then (Ji x l d (VN S a q) (p+(nth l q).price)).foldl (YR l) (B q) else B q):=fun c hc=>by
       rw [hBs,hG];simp only [hST,hc]
       cases c<;>simp
      rw [hS];refine Zo (Li S k Za Za) (Zc ?_);refine gT ?_ ?_<;>intro h3<;>simp (disch:=omega) only [Sh.out h3,go_sem,seval,↓reduceIte]
      ·refine rH (nW x lc l (B q) a (nth l q).typ Za (fun i hi=>ha.2 i Za) hl) (Zc ?_);refine cD ?_ ?_<;>intro h4<;>simp (disch:=omega) only [Sh.out h4,go_sem,seval,↓reduceIte]
       ·have hw:=oC x lc l (B q) a q k ⟨Za,Za⟩ hl hq2 S hS Za
        cases hok:sU S a k with
        | true =>
         rw [hok,if_pos rfl] at hw;refine ZkZ hw (Zc ?_);have e:=hnx true (by grind);rw [if_pos rfl] at e;refine nxt (VN S a q) (p+(nth l q).price) (B q) [_] _ (Gp ha hq2) Za Za (hBc q Za) (Df ?_);exact ⟨q+1,Za,Za,Weak.mk (by simp (disch:=omega) only [e,ho,go_sem,seval])⟩
        | false =>
         rw [hok,if_neg Zb] at hw;refine ZkZ hw (Zc ?_);have e:=hnx false (by grind);rw [if_neg Zb] at e;exact ⟨q+1,Za,Za,Weak.mk (by simp (disch:=omega) only [e,ho,go_sem,seval])⟩
       ·have e:=hnx false (by grind);rw [if_neg Zb] at e;exact ⟨q+1,Za,Za,Weak.mk (by simp (disch:=omega) only [e,ho,go_sem,seval])⟩
      ·have e:=hnx false (by grind);rw [if_neg Zb] at e;exact ⟨q+1,Za,Za,Weak.mk (by simp (disch:=omega) only [e,ho,go_sem,seval])⟩
     ·have hql:q=l.length:=Za
      subst hql;refine cD ?_ ?_<;>intro h3<;>simp (disch:=omega) only [Sh.out h3,go_sem,seval,↓reduceIte]
      ·rw [if_pos h3] at hRB;have hsk:=hC.sk k hk1 ho h3;refine W3 (Md x k Za) (Zc ?_);refine W3 (GL (unsF x k).1 (hC.us k)) (Zc ?_);have e1:(YA (unsF x k).1).1=skR x k:=rfl;rw [e1];refine Zc ?_;refine nxt a (p+skR x k) (B l.length) [_,_] _ ha Za Za (hBc _ (ZB _)) (Df ?_);exact ⟨_,[R],Weak.mk (by simp (disch:=omega) only [hRB,UR,go_sem,seval]),rfl,rfl⟩
      ·rw [if_neg h3] at hRB;exact ⟨_,[R],Weak.mk (by simp (disch:=omega) only [hRB,UR,UJ,go_sem,seval]),rfl,rfl⟩
theorem Ta (x:Inst) (lc:Bool) (l:List Col) (hC:ColsR x l): ∀d,oY x lc l d
 | 0=>uX x lc l hC
 | d+1=>uY x lc l hC d (Ta x lc l hC d)
def Fv (s:Sr):PV:= .agg [.int .i64 s.rdy,.int .i64 s.drv]
@[go_sem] theorem Znt (s:Sr):Fv s= .agg [.int .i64 s.rdy,.int .i64 s.drv]:=Zk rfl rfl
theorem Zj8 {a b:Sr} :a=b↔a.rdy=b.rdy/\a.drv=b.drv:=by cases a;cases b;simp
theorem sB (l:List Sr) (c:Bool) (s:Sr) (hl:l.length<=1048576):ACalls Tryz.prog 241 [.p (.list c (l.map Fv)),.p (Fv s)] [] fun y H'=> ∃i:Int,(0<=i↔s∈l)/\y= .p (.int .i64 i)/\H'= []:=by
 refine Zf [] Tryz.func241 rfl ZbW ?_;simp (disch:=omega) only [Tryz.f241,go_sem,seval];refine Zl [0,3,7] (fun k:Nat=> [(8,.p (.int .i64 k))]) (fun _=> [.cells [.p (.int .i64 s.rdy),.p (.int .i64 s.drv)]]) (fun k=>k<=l.length/\ ∀j,j<k->nth l j≠s) (fun k=>l.length-k) 0 ⟨Zb,fun j hj=>Za⟩ (Weak.mk ?_) ?_
 ·simp (disch:=omega) only [go_sem,seval,↓reduceIte]
 ·rintro k ⟨hk,hno⟩;refine Zc ?_;refine cD ?_ ?_<;>intro h1<;>simp (disch:=omega) only [Sh.out h1,go_sem,seval,↓reduceIte]
  ·have hk2:k<l.length:=Za
   refine Xe (Zc ?_);refine cD ?_ ?_<;>intro h2<;>simp (disch:=omega) only [Sh.out h2,go_sem,seval,↓reduceIte]
   ·exact ⟨.p (.int .i64 k),[],wk,k,⟨fun _=>(Zj8.2 h2) ▸ ZZ hk2,fun _=>Za⟩,rfl,rfl⟩
   ·exact ⟨k+1,⟨Za,fun j hj=>by
     grind⟩,Za,wk⟩
  ·exact ⟨.p (.int .i64 (-1)),[],wk,-1,⟨fun h=>Za,fun h=>by
    obtain ⟨j,hj,rfl⟩:=ZN.1 h
    grind [Zh]⟩,rfl,rfl⟩
theorem R9 (l:List Sr) (c:Bool) (s:Sr) (hl:l.length<=1048576):PC 223 [.p (.list c (l.map Fv)),.p (Fv s)] (.bool (decide (s∈l))):=by
 refine Zf [] Tryz.func223 rfl ZbH ?_;simp (disch:=omega) only [Tryz.f223,go_sem,seval];refine ((sB l c s hl).behind (by rfl) _).mono ?_;rintro y H' ⟨y1,H1,⟨i,hi,rfl,rfl⟩,rfl,rfl⟩
 have e:decide (0<=i)=decide (s∈l):=by grind
 simp (disch:=omega) only [shV,Zn,e,go_sem,seval];exact ⟨.p (.bool (decide (s∈l))),[],wk,rfl,rfl⟩
theorem aN {l:List Sr} {s:Sr} :(UQ l s).length<=l.length+1:=by grind [UQ]
theorem PD (l:List Sr) (s:Sr) (hl:l.length<=1048576):ACalls Tryz.prog 196 [.sl 0 0 l.length l.length,.p (Fv s)] [.elems 2 (l.map Fv)] fun y H'=>y= .sl 0 0 (UQ l s).length (UQ l s).length/\H'= [.elems 2 ((UQ l s).map Fv)]:=by
 obtain ⟨M,hM⟩: ∃M,M=UQ l s:=⟨_,rfl⟩;rw [<- hM];refine Zf [] Tryz.func196 rfl jZ ?_;simp (disch:=omega) only [Tryz.f196,go_sem,seval];refine ACalls.view (R9 l false s hl) (by simp [vws,vw,oat,L8]<;>rfl) (by rfl) ?_;refine Zc ?_;refine cD ?_ ?_<;>intro h<;>simp (disch:=omega) only [Sh.out h,go_sem,seval,↓reduceIte]
 ·have e:M=l:=by simp_all [UQ]
  exact ⟨.sl 0 0 M.length M.length,[.elems 2 (M.map Fv)],Weak.mk (by simp (disch:=omega) only [e,go_sem,seval]),rfl,rfl⟩
 ·have e:M=l++ [s]:=by simp_all [UQ]
  exact ⟨.sl 0 0 M.length M.length,[.elems 2 (M.map Fv)],Weak.mk (by simp (disch:=omega) only [e,Xs,Zq,Zn,ZG,ZD,ZF,Xl,go_sem,seval]),rfl,rfl⟩
theorem sG (s:Sr):ACalls Tryz.prog 196 [.p (.list true []),.p (Fv s)] [] fun y H'=>y= .sl 0 0 1 1/\H'= [.elems 2 [Fv s]]:=by
 refine UT (fn:=Tryz.f196) (by rfl) Tryz.func196 rfl jZ ?_;simp (disch:=omega) only [Tryz.f196,go_sem,seval];refine (R9 [] true s Zb).use ?_;simp (disch:=omega) only [Y7,VE,go_sem,seval];exact ⟨2,rfl,rfl⟩
def Yy (x:Inst) (k:Int) (S tot:Nat) (b:Col×Bool):AM.Obj:= .cells [.p (.list x.net.places_c (x.net.places.map eS)),.p (.list x.net.arcs_c (x.net.arcs.map VS)),.p (.list x.types_c (x.types.map X4)),.p (.list x.orders_c (x.orders.map Yj)),.p (.list x.apart_c (x.apart.map eP)),.p (.list x.before_c (x.before.map eP)),.p (.int .i64 k),.p (.int .i64 S),.p (.int .i64 tot),.p (.int .i64 b.1.typ),.p (.int .i64 b.1.set),.p (.int .i64 b.1.price),.p (.int .i64 b.1.route.typ),.p (.int .i64 b.1.route.start),.p (.list b.1.route.rests_c (b.1.route.rests.map eB)),.p (.list b.1.route.visits_c (b.1.route.visits.map Z8)),.p (.bool b.2)]
theorem BF {t:Typ} {l:List Sr} {d v:Int} :(VM t l d v).length<=l.length+2:=by
 grind [VM,UQ]
theorem tV (x:Inst) (k:Int) (S tot:Nat) (b:Col×Bool) (stop:Stp) (l:List Sr) (d v:Int) (hk:0<=k/\k<x.types.length) (ht:x.types.length<=1048576) (hl:l.length<=1000000) (hd:0<=d/\d<=1048576) (hr:0<=(nth x.types k.toNat).rest/\(nth x.types k.toNat).rest<=1048576) :
  ACalls Tryz.prog 163 [.ptr 0 0,.sl 3 0 l.length l.length,.p (.int .i64 d),.p (.int .i64 v)] [Yy x k S tot b,.cells ((A6 stop).map .p),.cells ((KA (nth x.types k.toNat)).map .p),.elems 2 (l.map Fv)] fun y H'=>y= .sl 3 0 (VM (nth x.types k.toNat) l d v).length (VM (nth x.types k.toNat) l d v).length/\H'= [Yy x k S tot b,.cells ((A6 stop).map .p),.cells ((KA (nth x.types k.toNat)).map .p),.elems 2 ((VM (nth x.types k.toNat) l d v).map Fv)]:=by
 obtain ⟨L1,h1⟩: ∃L1,L1=UQ l ⟨d,v⟩:=⟨_,rfl⟩;obtain ⟨L2,h2⟩: ∃L2,L2=VM (nth x.types k.toNat) l d v:=⟨_,rfl⟩
 have h12:UQ L1 ⟨d+(nth x.types k.toNat).rest,0⟩=L2:=by rw [h1,h2];rfl
 have hl1:L1.length<=l.length+1:=by rw [h1];exact aN
 rw [<- h2];have c1:=PD l ⟨d,v⟩ Za;have c2:=PD L1 ⟨d+(nth x.types k.toNat).rest,0⟩ Za;rw [<- h1] at c1;rw [h12] at c2;obtain ⟨O,hO⟩: ∃O,O=Yy x k S tot b:=⟨_,rfl⟩;refine Zf [] Tryz.func163 rfl jX ?_;simp (disch:=omega) only [Tryz.f163,A6,KA,Zq,Zn,go_sem,seval];refine ACalls.mono (c1.back [Yy x k S tot b,.cells ((A6 stop).map .p),.cells ((KA (nth x.types k.toNat)).map .p)] (by rfl)) ?_;rintro y H' ⟨y1,H1,⟨rfl,rfl⟩,rfl,rfl⟩;simp (disch:=omega) only [shV,shO,Yy,A6,KA,Zq,Zn,ZL,Zz,go_sem,seval]
 refine ZC 16 mixed Ze Ze (Zc ?_);refine ACalls.mono (c2.back [Yy x k S tot b,.cells ((A6 stop).map .p),.cells ((KA (nth x.types k.toNat)).map .p)] (by rfl)) ?_;rintro y H' ⟨y1,H1,⟨rfl,rfl⟩,rfl,rfl⟩;simp (disch:=omega) only [shV,shO,Yy,A6,KA,Zq,Zn,ZL,Zz,go_sem,seval];exact ⟨.sl 3 0 L2.length L2.length,[Yy x k S tot b,.cells ((A6 stop).map .p),.cells ((KA (nth x.types k.toNat)).map .p),.elems 2 (L2.map Fv)],Weak.mk (by simp (disch:=omega) only [Yy,A6,KA,Zq,Zn,go_sem,seval]),rfl,rfl⟩
def G3 (s:Stp) (a:Int):Int×Int:=if s.cls<max a s.opn then (0,14) else (max a s.opn+s.serv,0)
theorem iC (s:Stp) (a:Int) (ha: -1099511627776<=a/\a<=1099511627776) (hs:0<=s.serv/\s.serv<=1048576) (ho: -1099511627776<=s.opn/\s.opn<=1099511627776):PT 222 [.p (Fw s),.p (.int .i64 a)] [.p (.int .i64 (G3 s a).1),.p (.int .i64 (G3 s a).2)]:=by
 refine Zf [] Tryz.func222 rfl ZbG ?_;simp (disch:=omega) only [Tryz.f222,go_sem,seval];refine W3 (RI s a) ?_
 have hm: -1099511627776<=max a s.opn/\max a s.opn<=1099511627776:=Za
 by_cases h:s.cls<max a s.opn
 ·have e:Fm s a=(0,14):=by simp_all [Fm]
  have e2:G3 s a=(0,14):=by rw [G3,if_pos h]
  rw [e,e2];refine Zc ?_;exact we
 ·have e:Fm s a=(max a s.opn,0):=by simp_all [Fm]
  have e2:G3 s a=(max a s.opn+s.serv,0):=by rw [G3,if_neg h]
  rw [e,e2];refine Zc ?_;exact we
def GR (m:Int) (st:List Sr):Prop:= ∀a∈st,(0<=a.rdy/\a.rdy<=16384)/\(-m<=a.drv/\a.drv<=4096)
theorem vF (x:Inst) (k:Int) (S tot:Nat) (b:Col×Bool) (p:Int) (st:List Sr) (c:Bool) (stop:Stp) (m:Int) (hm:0<=m/\m<=1048576) (hk:0<=k/\k<x.types.length) (ht:x.types.length<=1048576) (hT:TrpOk x (nth x.types k.toNat) [stop]) (hl:st.length<=1000) (hst:GR m st) :
  ACalls Tryz.prog 194 [.ptr 0 0,.p (.int .i64 p),.p (.list c (st.map Fv)),.p (Fw stop)] [Yy x k S tot b] fun y H'=>y= .p (.list false ((D0 x (nth x.types k.toNat) p st stop).map Fv))/\H'= [Yy x k S tot b]:=by
 obtain ⟨W,hV⟩: ∃W:Nat->List Sr,W=fun q=>(st.take q).foldl (JE x (nth x.types k.toNat) p stop) []:=⟨_,rfl⟩
 have hV0:W 0= []:=by rw [hV];rfl
 have hVn:D0 x (nth x.types k.toNat) p st stop=W st.length:=by grind [D0]
 have hVs: ∀q,q<st.length->W (q+1)=JE x (nth x.types k.toNat) p stop (W q) (nth st q):=fun q hq=>by
  grind [X0,Zh]
 have hVl: ∀q,q<=st.length->(W q).length<=2*q:=fun q=>by
  induction q with
  | zero=>grind
  | succ q ih =>
   intro hq;rw [hVs q Za];have:=ih Za;unfold JE
   split
   ·omega
   ·split
    ·omega
    grind [BF]
 rw [hVn];clear hV hVn;refine Zf [12] Tryz.func194 rfl Zbq ?_;simp (disch:=omega) only [Tryz.f194,Yy,go_sem,seval];refine X2 [11] 12 mixed Ze Ze Ze Zb (Zc ?_);refine Xr 11 _ _ Ze (by refine Zc ?_;exact ⟨rfl,rfl⟩) (Wv ?_);refine Zc ?_;refine Z0 [12] [0,1,7,9,28,29] (fun q:Nat=> [(10,.sl 3 0 (W q).length (W q).length),(30,.p (.int .i64 q))]) (fun q=> [Yy x k S tot b,.cells ((A6 stop).map .p),.cells ((KA (nth x.types k.toNat)).map .p),.elems 2 ((W q).map Fv)]) (fun q=>q<=st.length) (fun q=>st.length-q) 0 Zb (Weak.ofNil 10 2 (by simp (disch:=omega) only [go_sem,seval]) Zb (Weak.mk ?_)) ?_
 ·simp (disch:=omega) only [hV0,Yy,A6,KA,Zq,Zn,ZF,go_sem,seval,↓reduceIte]
 ·intro q hq;have hql:=hVl q hq;simp (disch:=omega) only [Yy,A6,KA,Zq,Zn,go_sem,seval];refine cD ?_ ?_<;>intro h1<;>simp (disch:=omega) only [Sh.out h1,go_sem,seval,↓reduceIte]
  ·have hq2:q<st.length:=Za
   obtain ⟨a1,a2⟩:=hst _ (ZZ hq2);have hsn:=hVs q hq2;have hg:=(Le (n:=x.net) (pr:=(nth x.types k.toNat).prof) (f:=p) (t:=stop.place) (τ:=(nth st q).rdy) hT.net hT.mil Za).1;refine Xe (Zc ?_);refine FB (xA x.net (nth x.types k.toNat).prof p stop.place (nth st q).rdy hT.net Za) (Zc ?_);refine gF ?_ ?_<;>intro h2<;>simp (disch:=omega) only [Sh.out h2,go_sem,seval,↓reduceIte]
   ·have e:W (q+1)=W q:=by simp_all [JE]
    exact ⟨q+1,Za,Za,Weak.mk (by simp (disch:=omega) only [e,go_sem,seval])⟩
   ·refine cD ?_ ?_<;>intro h3<;>simp (disch:=omega) only [Sh.out h3,go_sem,seval,↓reduceIte]
    ·have e:W (q+1)=W q:=by simp_all [JE]
     exact ⟨q+1,Za,Za,Weak.mk (by simp (disch:=omega) only [e,go_sem,seval])⟩
    ·obtain ⟨z1,z2,z3,z4,z5⟩:=hT.stp stop Zb;obtain ⟨r1,r2⟩:=hT.rst;refine W3 (iC stop (WY x.net (nth x.types k.toNat).prof p stop.place (nth st q).rdy).1 Za Za Za) ?_
     by_cases hc:stop.cls<max (WY x.net (nth x.types k.toNat).prof p stop.place (nth st q).rdy).1 stop.opn
     ·have e2:G3 stop (WY x.net (nth x.types k.toNat).prof p stop.place (nth st q).rdy).1=(0,14):=by rw [G3,if_pos hc]
      rw [e2];refine Zc ?_
      have e:W (q+1)=W q:=by simp_all [JE]
      exact ⟨q+1,Za,Za,Weak.mk (by simp (disch:=omega) only [e,go_sem,seval])⟩
     ·have e2:G3 stop (WY x.net (nth x.types k.toNat).prof p stop.place (nth st q).rdy).1=(max (WY x.net (nth x.types k.toNat).prof p stop.place (nth st q).rdy).1 stop.opn+stop.serv,0):=by rw [G3,if_neg hc]
      rw [e2];refine Zc ?_
      have e:W (q+1)=VM (nth x.types k.toNat) (W q) (max (WY x.net (nth x.types k.toNat).prof p stop.place (nth st q).rdy).1 stop.opn+stop.serv) ((nth st q).drv+(WY x.net (nth x.types k.toNat).prof p stop.place (nth st q).rdy).1-(nth st q).rdy):=by simp_all [JE,if_neg]
      have cr:=tV x k S tot b stop (W q) (max (WY x.net (nth x.types k.toNat).prof p stop.place (nth st q).rdy).1 stop.opn+stop.serv) ((nth st q).drv+(WY x.net (nth x.types k.toNat).prof p stop.place (nth st q).rdy).1-(nth st q).rdy) hk ht Za Za Za;rw [<- e] at cr;refine cr.useP (L:= [_]) (by rfl) ?_ (by rfl) (by rfl);simp (disch:=omega) only [Yy,A6,KA,Zq,Zn,ZL,Zz,go_sem,seval];exact ⟨q+1,Za,Za,wk⟩
  ·have hqs:q=st.length:=Za
   subst hqs;refine Zp (Weak.fz (o:=3) (by rfl)) ?_;refine Zg [] _ _ _ _ ?_;simp (disch:=omega) only [Zq,Zn,Z1,ZW,eq_self,go_sem,seval];exact ⟨.p (.list false ((W st.length).map Fv)),[Yy x k S tot b],Weak.mk (by simp (disch:=omega) only [Yy,go_sem,seval]),rfl,rfl⟩
theorem Pd (a b:Col) (ha:a.route.visits.length<=1048576) (hb:b.route.visits.length<=1048576):PC 191 [.p (Xp a),.p (Xp b)] (.bool (Wn a b)):=by
 refine Zd Tryz.func191 rfl Zbn ?_;simp (disch:=omega) only [Tryz.f191,go_sem,seval];refine cD ?_ ?_<;>intro h<;>simp (disch:=omega) only [Sh.out h,go_sem,seval,↓reduceIte]
 ·rw [Wn,if_pos h]
 ·refine (cQ a.route.visits b.route.visits a.route.visits_c b.route.visits_c ha hb).use (Zc ?_);rw [Wn,if_neg h]
theorem rL (a b:Col) (f:Bool) (ha:a.route.visits.length<=1048576) (hb:b.route.visits.length<=1048576):PC 190 [.p (Xp a),.p (.bool f),.p (Xp b),.fn (.func 191) [] []] (Xp (if f=false\/Wn b a=true then b else a)):=by
 refine Zd Tryz.func190 rfl Zbm ?_
 cases f with
 | false =>
  simp (disch:=omega) only [Tryz.f190,Vj,go_sem,seval,↓reduceIte]
 | true =>
  simp (disch:=omega) only [Tryz.f190,YD,go_sem,seval];refine (Pd b a hb ha).use (Zc ?_)
  cases h:Wn b a with
  | true=>simp (disch:=omega) only [go_sem,seval]
  | false=>simp (disch:=omega) only [go_sem,seval]
theorem ZjC {x:Inst} (hx:InstOk x) {S:Nat} {l:List Vis} {v:Vis} (hv:v∈CN x S l) {k:Int} (hk:0<=k/\k<x.types.length):Nh x v=true/\0<=(Xj x v).place/\TrpOk x (nth x.types k.toNat) [Xj x v]:=by
 obtain ⟨i,hi,_,_,h4,_⟩:=VJ.1 hv;have ho:=Yg h4
 have hpl:0<=(Xj x v).place:=by
  unfold ZX at h4;unfold Xj;rw [ho,XY]
  grind
 obtain ⟨t1,t2,t3,_⟩:=WM hx (show k.toNat<x.types.length by omega);obtain ⟨n1,n2⟩:=SD hx.net;refine ⟨by simp [Nh,ho,hi],hpl,n1,n2,t1,t2,t3,fun s hs=> ?_,Zb⟩
 obtain rfl:s=Xj x v:=by grind
 have hor:=hx.orders.2 i hi;have hp:=hor.pstp;have hd:=hor.dstp;simp only [stpOk,Zs] at hp hd;unfold Xj at hpl ⊢;rw [ho,XY] at hpl ⊢
 split
 ·omega
 omega
theorem vE {x:Inst} {t:Typ} {p:Int} {stop:Stp} (hT:TrpOk x t [stop]) {m:Int} {out:List Sr} {a:Sr} (hm:0<=m) (ho:GR (m+16384) out) (ha:(0<=a.rdy/\a.rdy<=16384)/\(-m<=a.drv/\a.drv<=4096)):GR (m+16384) (JE x t p stop out a)/\(JE x t p stop out a).length<=out.length+2:=by
 have hg:=(Le (n:=x.net) (pr:=t.prof) (f:=p) (t:=stop.place) (τ:=a.rdy) hT.net hT.mil Za).1;obtain ⟨z1,z2,z3,z4,z5⟩:=hT.stp stop Zb;obtain ⟨r1,r2⟩:=hT.rst;have hd:=hT.drv;unfold JE
 split
 ·grind
 ·rename_i c1
  split
  ·grind
  ·rename_i c2;refine ⟨fun b hb=> ?_,BF⟩;have c3: ¬t.drive<a.drv+(WY x.net t.prof p stop.place a.rdy).1-a.rdy:=fun h=>c1 (.inr h);rcases Vl.1 hb with h | rfl | rfl
   ·exact ho b h
   ·grind
   grind
theorem Iu {x:Inst} {t:Typ} {p:Int} {stop:Stp} (hT:TrpOk x t [stop]) {m:Int} (hm:0<=m): ∀(st out:List Sr),GR (m+16384) out->GR m st->GR (m+16384) (st.foldl (JE x t p stop) out)/\(st.foldl (JE x t p stop) out).length<=out.length+2*st.length
 | [],out,ho,_=>⟨ho,Zb⟩
 | a::st,out,ho,hs=>by
  obtain ⟨g1,g2⟩:=vE hT (p:=p) hm ho (hs a Zb);obtain ⟨k1,k2⟩:=Iu hT (p:=p) hm st _ g1 fun b hb=>hs b (Yq _ hb);rw [XR];exact ⟨k1,by simp only [ZD];omega⟩
def Rv (x:Inst) (k:Int) (S tot f:Nat):Prop:= ∀(l:List Vis) (c:Bool) (p:Int) (st:List Sr) (b:Col×Bool),l.length+f=tot->(c=true->0<f)->GR (16384*(l.length:Int)) st->st.length<=2^(l.length+1)->b.1.route.visits.length<=1048576 ->
  ACalls Tryz.prog 162 [.ptr 0 0,.p (.list c (l.map Z8)),.p (.int .i64 p),.p (.list false (st.map Fv))] [Yy x k S tot b] fun y H'=>y= .tup []/\H'= [Yy x k S tot ((Sn x k S f l (p,st)).foldl (XE (F2 x k) (YU x k S) Wn) b)]
theorem ZdK (x:Inst) (hx:InstOk x) (k:Int) (S tot:Nat) (ht:tot<=8) (hk:0<=k/\k<x.types.length) (htl:x.types.length<=1048576):Rv x k S tot 0:=by
 intro l c p st b hlf hc hs1 hs2 hb
 have hc:c=false:=by grind
 subst hc
 have hll:l.length=tot:=Za
 obtain ⟨R,hR⟩: ∃R,R=Yy x k S tot ((Sn x k S 0 l (p,st)).foldl (XE (F2 x k) (YU x k S) Wn) b):=⟨_,rfl⟩;rw [<- hR];simp only [Sn,lvW,XR,UJ] at hR;obtain ⟨⟨bt,bs,bp,br⟩,bf⟩:=b;have hpr:=NS x (Jf k l);refine Zf [] Tryz.func162 rfl jW ?_;simp (disch:=omega) only [Tryz.f162,Yy,go_sem,seval];refine cD ?_ ?_<;>intro h1<;>simp (disch:=omega) only [Sh.out h1,go_sem,seval,↓reduceIte]
 ·refine Xe (Zc ?_);refine U7 (cM x (Jf k l) hx ⟨by grind [Jf],by simp [Jf]⟩) (Zc ?_);refine cD ?_ ?_<;>intro h2<;>simp (disch:=omega) only [Sh.out h2,go_sem,seval]
  ·have hok:F2 x k l=true:=UK h2;have hcol:(⟨k,(S:Int),(YL x (Jf k l)).1,⟨k,0,true,[],false,l⟩⟩:Col)=YU x k S l:=rfl;refine X2 [11] 12 mixed Ze Ze Ze Zb (Zc ?_);refine Xr 11 _ _ Ze (by refine Zc ?_;exact ⟨rfl,rfl⟩) (Wv ?_);refine Zc ?_;refine ZC 11 mixed Ze Ze (Zc ?_);refine Zo (rL ⟨bt,bs,bp,br⟩ (YU x k S l) bf hb (by grind)) ?_
   have hR2:R=Yy x k S tot (if bf=false\/Wn (YU x k S l) ⟨bt,bs,bp,br⟩=true then YU x k S l else ⟨bt,bs,bp,br⟩,true):=by
    rw [hR,XE]
    grind
   generalize (if bf=false\/Wn (YU x k S l) ⟨bt,bs,bp,br⟩=true then YU x k S l else ⟨bt,bs,bp,br⟩)=C at hR2 ⊢;refine Zc ?_;exact ⟨.tup [],[R],Weak.mk (by simp (disch:=omega) only [hR2,Yy,go_sem,seval]),rfl,rfl⟩
  ·have hok:F2 x k l=false:=U1 h2;rw [XE,if_neg (fun h=>by grind)] at hR;exact ⟨.tup [],[R],Weak.mk (by simp (disch:=omega) only [hR,Yy,go_sem,seval]),rfl,rfl⟩
 ·omega
theorem Lw {x:Inst} {k:Int} {S:Nat} : ∀(f:Nat) (l:List Vis) (s:Int×List Sr),∀m∈Sn x k S f l s,m.length=l.length+f
 | 0,l,s,m,hm=>by
  simp_all [Sn,lvW]
 | f+1,l,s,m,hm=>by
  simp only [Sn,lvW,XU] at hm;obtain ⟨v,_,hm⟩:=hm
  split at hm
  ·simp at hm
  ·have:=Lw f (l++ [v]) _ m hm;simp at this;omega
theorem Oz {x:Inst} {k:Int} {S N:Nat} : ∀(L:List (List Vis)) (b:Col×Bool),b.1.route.visits.length<=N->(∀m∈L,m.length<=N)->(L.foldl (XE (F2 x k) (YU x k S) Wn) b).1.route.visits.length<=N
 | [],b,h,_=>h
 | m::L,b,h,hL=>by
  rw [XR];refine Oz L _ ?_ fun q hq=>hL q (Yq _ hq);unfold XE
  split
  ·exact hL m Zb
  ·exact h
theorem ZdL (x:Inst) (hx:InstOk x) (k:Int) (S tot f:Nat) (ht:tot<=8) (hk:0<=k/\k<x.types.length) (htl:x.types.length<=1048576) (hbl:x.before.length<=1048576) (hS:S<9223372036854775808) (ih:Rv x k S tot f):Rv x k S tot (f+1):=by
 intro l c p st b hlf hc hs1 hs2 hb;have hf:=XK hx
 have hn:x.orders.length<=60:=by have:=hf.len;omega
 obtain ⟨R,hR⟩: ∃R,R=Yy x k S tot ((Sn x k S (f+1) l (p,st)).foldl (XE (F2 x k) (YU x k S) Wn) b):=⟨_,rfl⟩;rw [<- hR];have hpw:2^(l.length+1)<=2^8:=Ys Za Za
 have hpw2:2^(l.length+1+1)=2*2^(l.length+1):=Za
 have hnl:=Jx x S l x.orders.length;have hokv: ∀v∈nextU x S l x.orders.length,Nh x v=true/\0<=(Xj x v).place/\TrpOk x (nth x.types k.toNat) [Xj x v]:=fun v hv=>ZjC hx hv hk;obtain ⟨G,hG⟩: ∃G:Vis->List (List Vis),G=fun v=>if (goS x (nth x.types k.toNat) (p,st) v).2.isEmpty=true then [] else Sn x k S f (l++ [v]) (goS x (nth x.types k.toNat) (p,st) v):=⟨_,rfl⟩
 have hlv:Sn x k S (f+1) l (p,st)=(nextU x S l x.orders.length).flatMap G:=by rw [hG];rfl
 rw [hlv] at hR;have hsn:=cR x S l c hS Za hn hbl (fun q hq=>by have:=(hf.val q hq);omega);generalize hnx:nextU x S l x.orders.length=nx at hnl hokv hR hsn;clear hnx hlv;obtain ⟨B,hB⟩: ∃B:Nat->Col×Bool,B=fun q=>((nx.take q).flatMap G).foldl (XE (F2 x k) (YU x k S) Wn) b:=⟨_,rfl⟩
 have hB0:B 0=b:=by rw [hB];rfl
 have hBn:R=Yy x k S tot (B nx.length):=by grind
 have hBs: ∀q,q<nx.length->B (q+1)=(G (nth nx q)).foldl (XE (F2 x k) (YU x k S) Wn) (B q):=fun q hq=>by
  rw [hB];simp only;rw [X0 hq,List.flatMap_append,List.foldl_append,<- Zh hq];simp
 have hBl: ∀q,(B q).1.route.visits.length<=1048576:=fun q=>by
  rw [hB];refine Oz _ _ hb fun m hm=> ?_;obtain ⟨v,_,hm⟩:=XU.1 hm;rw [hG] at hm;simp only at hm
  split at hm
  ·simp at hm
  ·have:=Lw _ _ _ m hm;simp at this;omega
 clear hR hB;refine Zf [] Tryz.func162 rfl jW ?_;simp (disch:=omega) only [Tryz.f162,Yy,go_sem,seval];refine cD ?_ ?_<;>intro h1<;>simp (disch:=omega) only [Sh.out h1,go_sem,seval,↓reduceIte]
 ·omega
 ·refine Xe (Zc ?_);refine Zo (hsn) (Zc ?_);refine Zl [0,1,2,3,77,78] (fun q:Nat=> [(79,.p (.int .i64 q))]) (fun q=> [Yy x k S tot (B q)]) (fun q=>q<=nx.length) (fun q=>nx.length-q) 0 Zb (Weak.mk ?_) ?_
  ·simp (disch:=omega) only [Yy,hB0,go_sem,seval,↓reduceIte]
  ·intro q hq;simp (disch:=omega) only [Yy,go_sem,seval];refine cD ?_ ?_<;>intro h2<;>simp (disch:=omega) only [Sh.out h2,go_sem,seval,↓reduceIte]
   ·have hq2:q<nx.length:=Za
    obtain ⟨v1,v2,v3⟩:=hokv _ (ZZ hq2);have hBq:=hBs q hq2;refine X2 [10,11] 12 mixed Ze Ze Ze Zb (Zc ?_);refine U7 (SJ x (nth nx q) Za v1 v2) (Zc ?_);refine Xr 10 _ _ Ze (by refine Zc ?_;exact ⟨rfl,rfl⟩) ?_;refine Zc ?_;refine Xr 11 _ _ Ze (by refine Zc ?_;exact ⟨rfl,rfl⟩) (Wv ?_);refine Zc ?_
    have hSr0:GR (16384*(l.length:Int)+16384) []:=fun a ha=>by simp at ha
    obtain ⟨w1,w2⟩:=Iu v3 (p:=p) (m:=16384*(l.length:Int)) Za st [] hSr0 hs1;obtain ⟨N,hN⟩: ∃N,N=D0 x (nth x.types k.toNat) p st (Xj x (nth nx q)):=⟨_,rfl⟩;have cv:=vF x k S tot (B q) p st false (Xj x (nth nx q)) (16384*(l.length:Int)) Za hk htl v3 Za hs1
    have hGq:G (nth nx q)=if N.isEmpty=true then [] else Sn x k S f (l++ [nth nx q]) ((Xj x (nth nx q)).place,N):=by rw [hG,hN];rfl
    rw [<- hN] at cv
    have w1':GR (16384*(l.length:Int)+16384) N:=by rw [hN];exact w1
    have w2':N.length<=2*st.length:=by grind [D0]
    refine cv.useP (L:= [_,_]) (by rfl) ?_ (by rfl) (by rfl);simp (disch:=omega) only [Yy,ZL,Zz,go_sem,seval];refine cD ?_ ?_<;>intro h3<;>simp (disch:=omega) only [Sh.out h3,go_sem,seval,↓reduceIte]
    ·have hne: ¬N.isEmpty=true:=fun h=>by grind
     rw [hGq,if_neg hne] at hBq
     have ihc:=ih (l++ [nth nx q]) false (Xj x (nth nx q)).place N (B q) (by simp;omega) Zb (by
      have e:16384*(((l++ [nth nx q]).length:Nat):Int)=16384*(l.length:Int)+16384:=by simp;omega
      grind) (by grind) (hBl q)
     rw [<- hBq,Xs] at ihc;refine ZC 9 mixed Ze Ze (Zc ?_);refine Zo (zX l c Za) (Zc ?_);refine ihc.useP (L:= [_,_]) (by rfl) ?_ (by rfl) (by rfl);simp (disch:=omega) only [Yy,ZL,Zz,go_sem,seval];exact ⟨q+1,Za,Za,wk⟩
    ·have he:N.isEmpty=true:=by simp_all
     rw [hGq,if_pos he] at hBq;have hBq':B (q+1)=B q:=hBq;exact ⟨q+1,Za,Za,Weak.mk (by simp (disch:=omega) only [hBq',go_sem,seval])⟩
   ·have hql:q=nx.length:=Za
    subst hql;exact ⟨.tup [],[R],Weak.mk (by simp (disch:=omega) only [hBn,Yy,go_sem,seval]),rfl,rfl⟩
theorem D6 (x:Inst) (hx:InstOk x) (k:Int) (S tot:Nat) (ht:tot<=8) (hk:0<=k/\k<x.types.length) (htl:x.types.length<=1048576) (hbl:x.before.length<=1048576) (hS:S<9223372036854775808): ∀f,Rv x k S tot f
 | 0=>ZdK x hx k S tot ht hk htl
 | f+1=>ZdL x hx k S tot f ht hk htl hbl hS (D6 x hx k S tot ht hk htl hbl hS f)
theorem mM (x:Inst) (k:Int) (S tot:Nat) (b:Col×Bool) (d v:Int) (hk:0<=k/\k<x.types.length) (ht:x.types.length<=1048576) (hd:0<=d/\d<=1048576) (hr:0<=(nth x.types k.toNat).rest/\(nth x.types k.toNat).rest<=1048576) :
  ACalls Tryz.prog 163 [.ptr 0 0,.p (.list true []),.p (.int .i64 d),.p (.int .i64 v)] [Yy x k S tot b] fun y H'=>y= .p (.list false ((VM (nth x.types k.toNat) [] d v).map Fv))/\H'= [Yy x k S tot b]:=by
 obtain ⟨L2,h2⟩: ∃L2,L2=VM (nth x.types k.toNat) [] d v:=⟨_,rfl⟩
 have h12:UQ [⟨d,v⟩] ⟨d+(nth x.types k.toNat).rest,0⟩=L2:=by rw [h2];rfl
 rw [<- h2];have c2:=PD [⟨d,v⟩] ⟨d+(nth x.types k.toNat).rest,0⟩ Zb;rw [h12] at c2;refine Zf [] Tryz.func163 rfl jX ?_;simp (disch:=omega) only [Tryz.f163,go_sem,seval];refine (sG ⟨d,v⟩).useF (Zc ?_);simp (disch:=omega) only [Yy,go_sem,seval];refine ZC 16 mixed Ze Ze (Zc ?_);refine ACalls.mono (c2.back [Yy x k S tot b] (by rfl)) ?_;rintro y H' ⟨y1,H1,⟨rfl,rfl⟩,rfl,rfl⟩;simp (disch:=omega) only [AM.shV,AM.shO,Yy,Zq,Zn,ZL,Zz,go_sem,seval];exact ⟨.p (.list false (L2.map Fv)),[Yy x k S tot b],(Weak.fz (o:=1) (by rfl)).trans (Weak.mk (by simp (disch:=omega) only [Yy,eq_self,Zq,Zn,Z1,ZW,go_sem,seval,↓reduceIte])),rfl,rfl⟩
theorem Nx (x:Inst) (S:Nat): ∀k,k<=63->((X3 (S:Int) k).map fun i=>(ZX x.orders i.toNat).length).sum=K6 x S k
 | 0,_=>by rfl
 | k+1,h=>by
  have ih:=Nx x S k Za;rw [A0]
  cases hb:sHas (S:Int) (k:Int) with
  | true =>
   rw [Ny hb,Xs,List.sum_append,ih];rw [WK _ _ Za] at hb;rw [if_pos hb];simp
  | false =>
   rw [Su hb,ih];rw [WK _ _ Za] at hb;rw [hb];simp
theorem Ow (x:Inst) (S n:Nat) (h: ∀i,S.testBit i=true->i<n): ∀d,K6 x S (n+d)=K6 x S n
 | 0=>rfl
 | d+1=>by
  rw [show n+(d+1)=n+d+1 by omega,A0,Ow x S n h d,if_neg (fun e=>by have:=h _ e;omega)];rfl
def WA : Col:=⟨0,0,0,⟨0,0,true,[],true,[]⟩⟩
noncomputable def VQ (x:Inst) (k:Int) (S:Nat):Col×Int:=if Wt x.orders x.apart x.before (S:Int)=0/\(Ek x k S (WA,false)).2=true then ((Ek x k S (WA,false)).1,0) else (WA,24)
def Eo : AM.Obj:= .cells ((GX WA).map .p)
theorem LH (x:Inst) (hx:InstOk x) (k:Int) (S:Nat) (hk:0<=k/\k<x.types.length) (h4:x.orders.length<=4) (htl:x.types.length<=1048576) (hbl:x.before.length<=1048576) (hal:x.apart.length<=1048576) (hS0:0<S) (hS1:S<2^x.orders.length) :
  PT 118 [.p (Zv x),.p (.int .i64 k),.p (.int .i64 S)] [.p (Xp (VQ x k S).1),.p (.int .i64 (VQ x k S).2)]:=by
 have hf:=XK hx;have h16:S<16:=UF hS1 (Ys (n:=2) Za h4);have hdiv:S / pw x.orders.length=0:=QH hS1
 have hbit: ∀i,S.testBit i=true->i<x.orders.length:=fun i hi=>by
  rcases Y9 i x.orders.length with h | h
  ·exact h
  ·have:2^x.orders.length<=2^i:=Ys Za h
   grind [Ap]
 obtain ⟨Z,hZ⟩: ∃Z,Z=VQ x k S:=⟨_,rfl⟩;rw [<- hZ];have hal2:=Tw x.net x.types_c x.types x.orders_c x.apart_c x.before_c x.orders x.apart x.before (S:Nat) Za hal hbl hf.val;refine Zf [] Tryz.func118 rfl Zay ?_;simp (disch:=omega) only [Tryz.f118,go_sem,seval];refine gF ?_ ?_<;>intro h1<;>simp (disch:=omega) only [Sh.out h1,go_sem,seval,↓reduceIte]
 ·omega
 ·refine gF ?_ ?_<;>intro h2<;>simp (disch:=omega) only [Sh.out h2,go_sem,seval,↓reduceIte]
  ·omega
  ·refine gF ?_ ?_<;>intro h3<;>simp (disch:=omega) only [Sh.out h3,go_sem,seval,↓reduceIte]
   ·omega
   ·refine cD ?_ ?_<;>intro h5<;>simp (disch:=omega) only [Sh.out h5,go_sem,seval,↓reduceIte]
    ·omega
    ·refine (hal2).use (Zc ?_);refine cD ?_ ?_<;>intro h6<;>simp (disch:=omega) only [Sh.out h6,go_sem,seval,↓reduceIte]
     ·have e:Z=(WA,24):=by simp_all [VQ]
      exact ⟨.tup [.p (Xp Z.1),.p (.int .i64 Z.2)],[],Weak.mk (by simp (disch:=omega) only [e,WA,Zn,go_sem,seval]),rfl,rfl⟩
     ·have h60:Wt x.orders x.apart x.before (S:Int)=0:=Z5.1 h6;obtain ⟨T,hT⟩: ∃T:Nat->Nat,T=fun q=>(((X3 (S:Int) 63).take q).map fun i=>(ZX x.orders i.toNat).length).sum:=⟨_,rfl⟩
      have hT0:T 0=0:=by rw [hT];rfl
      have hTn:T (X3 (S:Int) 63).length=WV x S:=by
       rw [hT];simp only [Yd];rw [Nx x S 63 Za,show 63=x.orders.length+(63-x.orders.length) by omega,Ow x S _ hbit];rfl
      have hTs: ∀q,q<(X3 (S:Int) 63).length->T (q+1)=T q+(ZX x.orders (nth (X3 (S:Int) 63) q).toNat).length:=fun q hq=>by
       grind [X0,Zh]
      have hTl: ∀q,T q<=2*q:=fun q=>by
       induction q with
       | zero=>omega
       | succ q ih =>
        rcases Y9 q (X3 (S:Int) 63).length with h | h
        ·grind [WN]
        grind [Cx]
      have hml:=CK (S:Int) 63
      have hmi: ∀q,q<(X3 (S:Int) 63).length-> ∃i:Nat,nth (X3 (S:Int) 63) q=(i:Int)/\i<x.orders.length:=fun q hq=>by
       obtain ⟨i,e,_,hb⟩:=Jw.1 (ZZ hq)
       grind
      refine ((DB (S:Int)).frozen Zb).use (Zc ?_);generalize X3 (S:Int) 63=M at hTn hTs hml hmi ⊢;clear hT;refine Zl [1,3,6,8,45,46] (fun q:Nat=> [(47,.p (.int .i64 q))]) (fun q=> [Zi x,Eo,Yy x k S (T q) (WA,false)]) (fun q=>q<=M.length) (fun q=>M.length-q) 0 Zb (Weak.mk ?_) ?_
      ·simp (disch:=omega) only [Zi,Eo,GX,WA,Yy,hT0,Zn,Zq,go_sem,seval]
      ·intro q hq;have hq1:=hTl q;simp (disch:=omega) only [Zi,Eo,GX,WA,Yy,Zn,Zq,go_sem,seval];refine cD ?_ ?_<;>intro h7<;>simp (disch:=omega) only [Sh.out h7,go_sem,seval,↓reduceIte]
       ·have hq2:q<M.length:=Za
        obtain ⟨i,hi,hin⟩:=hmi q hq2;have hts:=hTs q hq2;rw [hi,XY] at hts;have hvl:=WN x.orders i;refine ZC 10 mixed Ze Ze (Zc ?_);rw [hi];refine Zo (visits_c x.orders x.orders_c i hin Za) (Zc ?_)
        have hts2:((T (q+1):Nat):Int)=((T q:Nat):Int)+((ZX x.orders i).length:Int):=Za
        exact ⟨q+1,Za,Za,Weak.mk (by simp (disch:=omega) only [hts2,go_sem,seval])⟩
       ·have hqm:q=M.length:=Za
        subst hqm;rw [hTn] at hq1 ⊢
        have ht8:WV x S<=8:=by
         grind [Dg,WV]
        have htp:0<WV x S:=S8 hf.vne hdiv Za;obtain ⟨t1,t2,t3,_⟩:=WM hx (show k.toNat<x.types.length by omega);obtain ⟨N,hN⟩: ∃N,N=VM (nth x.types k.toNat) [] (nth x.types k.toNat).opn 0:=⟨_,rfl⟩
        have hNl:N.length<=2:=by
         grind [BF]
        have hNo:GR 0 N:=fun a ha=>by
         rw [hN] at ha;rcases Vl.1 ha with h | rfl | rfl
         ·simp at h
         ·grind
         ·exact ⟨by simp only;omega,Zb⟩
        have cf:=mM x k S (WV x S) (WA,false) (nth x.types k.toNat).opn 0 hk htl Za Za;rw [<- hN] at cf;have cw:=D6 x hx k S (WV x S) ht8 hk htl hbl Za (WV x S) [] true (nth x.types k.toNat).src N (WA,false) Zb (fun _=>htp) (by grind) Za (by simp [WA])
        have hB:(Sn x k S (WV x S) [] ((nth x.types k.toNat).src,N)).foldl (XE (F2 x k) (YU x k S) Wn) (WA,false)=Ek x k S (WA,false):=by rw [Ek,st0,<- hN]
        rw [hB] at cw
        have hZ2:Z=if (Ek x k S (WA,false)).2=true then ((Ek x k S (WA,false)).1,0) else (WA,24):=by
         rw [hZ,VQ]
         simp_all
        generalize Ek x k S (WA,false)=B at cw hZ2;refine ZC 7 mixed Ze Ze (Zc ?_);refine ⟨.p (.list false (N.map Fv)),?_,?_⟩
        ·refine ACalls.mono (((cf.mono fun y H' hq=>(⟨hq,by rw [hq.2]⟩:_/\H'.length= [Yy x k S (WV x S) (WA,false)].length)).front (by rfl) (by rfl) [.cells ((KA (nth x.types k.toNat)).map .p)]).back [Zi x,Eo] (by rfl)) ?_;rintro y H' ⟨y1,H1,⟨H2,⟨rfl,rfl⟩,rfl⟩,rfl,rfl⟩;exact ⟨rfl,rfl⟩
        ·refine Zc ?_;refine ACalls.mono (((cw.mono fun y H' hq=>(⟨hq,by grind⟩:_/\H'.length= [Yy x k S (WV x S) (WA,false)].length)).front (by rfl) (by rfl) [.cells ((KA (nth x.types k.toNat)).map .p)]).back [Zi x,Eo] (by rfl)) ?_;rintro y H' ⟨y1,H1,⟨H2,⟨rfl,rfl⟩,rfl⟩,rfl,rfl⟩;simp (disch:=omega) only [AM.shV,AM.shVs,AM.shO,Zi,Eo,GX,WA,Yy,KA,Zq,Zn,ZL,Zz,go_sem,seval];obtain ⟨C,f⟩:=B
         cases f with
         | false =>
          rw [if_neg Zb] at hZ2;refine GG ?_;exact ⟨.tup [.p (Xp Z.1),.p (.int .i64 Z.2)],[],Weak.mk (by simp (disch:=omega) only [hZ2,WA,Zn,go_sem,seval]),rfl,rfl⟩
         | true =>
          rw [if_pos rfl] at hZ2;refine BN ?_;exact ⟨.tup [.p (Xp Z.1),.p (.int .i64 Z.2)],[],Weak.mk (by simp (disch:=omega) only [hZ2,go_sem,seval]),rfl,rfl⟩
theorem Pc (a b:Col) (ha:a.route.visits.length<=1048576) (hb:b.route.visits.length<=1048576):PC 129 [.p (Xp a),.p (Xp b)] (.bool (Wn a b)):=by
 refine Zd Tryz.func129 rfl ZaI ?_;simp (disch:=omega) only [Tryz.f129,go_sem,seval];refine cD ?_ ?_<;>intro h<;>simp (disch:=omega) only [Sh.out h,go_sem,seval,↓reduceIte]
 ·rw [Wn,if_pos h]
 ·refine (tZ a.route.visits b.route.visits a.route.visits_c b.route.visits_c ha hb).use (Zc ?_);rw [Wn,if_neg h]
theorem Pq (x:Inst) (S:Nat) (h4:x.orders.length<=60) (hS0:0<S) (hS:S<9223372036854775808):PC 82 [.p (Zv x),.p (.int .i64 S)] (.bool (decide (S / pw x.orders.length=0))):=by
 refine Zd Tryz.func82 rfl Zje ?_;simp (disch:=omega) only [Tryz.f82,go_sem,seval];refine Zl [1,2] (fun k:Nat=> [(5,.p (.int .i64 (hv S k:Nat))),(6,.p (.int .i64 k))]) (fun _=> [Zi x]) (fun k=>k<=x.orders.length) (fun k=>x.orders.length-k) 0 Zb (Weak.mk ?_) ?_
 ·simp (disch:=omega) only [Sb,Zi,go_sem,seval]
 ·intro k hk;have e1:=Sa S k;have h1:=wN S k;refine Ya ?_;refine gT ?_ ?_<;>intro h2<;>simp (disch:=omega) only [Sh.out h2,go_sem,seval,↓reduceIte]
  ·refine ZR ?_ ?_<;>intro h3
   ·have e2:((hv S (k+1):Nat):Int)=((hv S k:Nat):Int) / 2:=Za
    exact ⟨k+1,Za,Za,Weak.mk (by simp (disch:=omega) only [e2,go_sem,seval])⟩
   ·omega
  ·have hkn:k=x.orders.length:=Za
   subst hkn;refine gT ?_ ?_<;>intro h3<;>simp (disch:=omega) only [Sh.out h3,go_sem,seval,↓reduceIte]
   ·have e:decide (((hv S x.orders.length:Nat):Int)=0)=decide (S / pw x.orders.length=0):=by
     rw [decide_eq_decide];unfold hv;omega
    simp (disch:=omega) only [e,go_sem,seval]
   ·omega
def Rt (x:Inst) (k:Int) (S f:Nat):Prop:= ∀(l:List Vis) (c:Bool) (b:Col) (fd:Bool),Gr x S l->l.length+f=WV x S->(c=true->l= [])->b.typ=k->b.set=S->b.route.visits.length<=1048576 ->
  PT 83 [.p (Zv x),.p (Xp b),.p (.bool fd),.p (.list c (l.map Z8))] [.p (Xp ((Bd (CN x S) f l).foldl (XE (Dj x k S) (YU x k S) Wn) (b,fd)).1),.p (.bool ((Bd (CN x S) f l).foldl (XE (Dj x k S) (YU x k S) Wn) (b,fd)).2)]
theorem Ig (x:Inst) (hx:InstOk x) (k:Int) (S:Nat) (hS0:0<S) (hS:S<9223372036854775808) (ho:x.orders.length<=60) (htl:x.types.length<=1048576) (hbl:x.before.length<=1048576) (l:List Vis) (c:Bool) (b:Col) (fd:Bool) (hnx:CN x S l= []) (hll:l.length<=1048576) (hc:c=true->l= []) (hb1:b.typ=k) (hb2:b.set=S) (hb3:b.route.visits.length<=1048576) :
  PT 83 [.p (Zv x),.p (Xp b),.p (.bool fd),.p (.list c (l.map Z8))] [.p (Xp (XE (Dj x k S) (YU x k S) Wn (b,fd) l).1),.p (.bool (XE (Dj x k S) (YU x k S) Wn (b,fd) l).2)]:=by
 have hf:=XK hx;obtain ⟨Z,hZ⟩: ∃Z,Z=XE (Dj x k S) (YU x k S) Wn (b,fd) l:=⟨_,rfl⟩;rw [<- hZ];have hnx':nextU x S l x.orders.length= []:=hnx;obtain ⟨bt,bs,bp,br⟩:=b;simp only at hb1 hb2 hb3;have hb1:=hb1.symm;subst hb1;subst hb2;have hnc:=SN x S l c hS hll ho hbl hf.plc (fun q hq=>by have:=(hf.val q hq);omega);rw [hnx'] at hnc;refine Zf [] Tryz.func83 rfl wP ?_;simp (disch:=omega) only [Tryz.f83,go_sem,seval];refine (hnc).use (Zc ?_);refine W3 (Ib ⟨k,0,true,[],c,l⟩ hll) (Zc ?_);refine gF ?_ ?_<;>intro h1<;>simp (disch:=omega) only [Sh.out h1,go_sem,seval,↓reduceIte]
 ·have hok:Dj x k S l=false:=by
   grind [Dj]
  have e:Z=(⟨k,S,bp,br⟩,fd):=by simp_all [XE]
  exact ⟨.tup [.p (Xp Z.1),.p (.bool Z.2)],[],Weak.mk (by simp (disch:=omega) only [e,go_sem,seval]),rfl,rfl⟩
 ·have h1':(Jd l).1=(S:Int):=Z5.1 h1
  have hcf:c=false:=by
   cases c with
   | false=>rfl
   | true =>
    exfalso;rw [hc rfl] at h1';have:(Jd ([]:List Vis)).1=0:=rfl;omega
  subst hcf;refine (dH x (Jf k l) hx hll (by simp [Jf])).use (Zc ?_);refine cD ?_ ?_<;>intro h2<;>simp (disch:=omega) only [Sh.out h2,go_sem,seval,↓reduceIte]
  ·have hok:Dj x k S l=false:=by
    grind [Dj]
   have e:Z=(⟨k,S,bp,br⟩,fd):=by simp_all [XE]
   exact ⟨.tup [.p (Xp Z.1),.p (.bool Z.2)],[],Weak.mk (by simp (disch:=omega) only [e,go_sem,seval]),rfl,rfl⟩
  ·have h2':Xw x (Jf k l)=0:=Z5.1 h2;refine W3 (NY x (Jf k l) hx ⟨hll,by simp [Jf]⟩) (Zc ?_);have hcol:YU x k S l=⟨k,S,(YL x (Jf k l)).1,Jf k l⟩:=rfl;refine gF ?_ ?_<;>intro h3<;>simp (disch:=omega) only [Sh.out h3,go_sem,seval,↓reduceIte]
   ·have hok:Dj x k S l=false:=by
     grind [Dj,F2]
    have e:Z=(⟨k,S,bp,br⟩,fd):=by simp_all [XE]
    exact ⟨.tup [.p (Xp Z.1),.p (.bool Z.2)],[],Weak.mk (by simp (disch:=omega) only [e,go_sem,seval]),rfl,rfl⟩
   ·have hok:Dj x k S l=true:=by
     simp_all [Dj,F2]
    cases fd with
    | false =>
     have e:Z=(YU x k S l,true):=by rw [hZ,XE,if_pos ⟨hok,.inl rfl⟩]
     refine Zc ?_;exact ⟨.tup [.p (Xp Z.1),.p (.bool Z.2)],[],Weak.mk (by simp (disch:=omega) only [e,hcol,Jf,Zn,go_sem,seval]),rfl,rfl⟩
    | true =>
     refine Zc ?_;refine (Pc (YU x k S l) ⟨k,S,bp,br⟩ hll hb3).use (Zc ?_)
     cases hbt:Wn (YU x k S l) ⟨k,S,bp,br⟩ with
     | true =>
      have e:Z=(YU x k S l,true):=by simp_all [XE]
      refine BN ?_;exact ⟨.tup [.p (Xp Z.1),.p (.bool Z.2)],[],Weak.mk (by simp (disch:=omega) only [e,hcol,Jf,Zn,go_sem,seval]),rfl,rfl⟩
     | false =>
      have e:Z=(⟨k,S,bp,br⟩,true):=by simp_all [XE]
      refine GG ?_;exact ⟨.tup [.p (Xp Z.1),.p (.bool Z.2)],[],Weak.mk (by simp (disch:=omega) only [e,go_sem,seval]),rfl,rfl⟩
theorem Zdu (x:Inst) (hx:InstOk x) (k:Int) (S:Nat) (hS0:0<S) (hS:S<9223372036854775808) (ho:x.orders.length<=60) (htl:x.types.length<=1048576) (hbl:x.before.length<=1048576):Rt x k S 0:=by
 intro l c b fd hg hl hc hb1 hb2 hb3;have:=Dg x S x.orders.length
 have hl':l.length=K6 x S x.orders.length:=by grind [WV]
 simp only [Bd,XR,UJ];exact Ig x hx k S hS0 hS ho htl hbl l c b fd (sR hg Za) Za hc hb1 hb2 hb3
theorem Oy {x:Inst} {k:Int} {S N:Nat} : ∀(L:List (List Vis)) (b:Col×Bool),b.1.typ=k/\b.1.set=S/\b.1.route.visits.length<=N->(∀m∈L,m.length<=N)->(L.foldl (XE (Dj x k S) (YU x k S) Wn) b).1.typ=k/\(L.foldl (XE (Dj x k S) (YU x k S) Wn) b).1.set=S/\(L.foldl (XE (Dj x k S) (YU x k S) Wn) b).1.route.visits.length<=N
 | [],b,h,_=>h
 | m::L,b,h,hL=>by
  rw [XR];refine Oy L _ ?_ fun q hq=>hL q (Yq _ hq);unfold XE
  split
  ·exact ⟨rfl,rfl,hL m Zb⟩
  ·exact h
theorem So {x:Inst} {S:Nat} : ∀(f:Nat) (l:List Vis),∀m∈Bd (CN x S) f l,m.length<=l.length+f
 | 0,l,m,hm=>by
  simp_all [Bd]
 | f+1,l,m,hm=>by
  rw [Bd] at hm
  split at hm
  ·grind
  ·obtain ⟨v,_,hm⟩:=XU.1 hm;have:=So f _ m hm
   grind
theorem ZdG {g:FuncId} {args:List V} {a b:PV} {H:List AM.Obj} {K:V->List AM.Obj->Prop} (h:ACalls Tryz.prog g args [] fun x H'=>x= .tup [.p a,.p b]/\H'= []) (k:K (.tup [.p a,.p b]) H) (ha:Xn 0 args=true:=by rfl):ACalls Tryz.prog g args H K:=W3 h k ha
theorem Zdv (x:Inst) (hx:InstOk x) (k:Int) (S f:Nat) (hS0:0<S) (hS:S<9223372036854775808) (ho:x.orders.length<=60) (htl:x.types.length<=1048576) (hbl:x.before.length<=1048576) (ih:Rt x k S f):Rt x k S (f+1):=by
 intro l c b fd hg hl hc hb1 hb2 hb3;have hf:=XK hx;have htu:=Dg x S x.orders.length
 have hll:l.length<=120:=by grind [WV]
 by_cases hnx:CN x S l= []
 ·rw [show Bd (CN x S) (f+1) l= [l] by rw [Bd,if_pos hnx]];simp only [XR,UJ];exact Ig x hx k S hS0 hS ho htl hbl l c b fd hnx Za hc hb1 hb2 hb3
 ·rw [show Bd (CN x S) (f+1) l=(CN x S l).flatMap fun v=>Bd (CN x S) f (l++ [v]) by rw [Bd,if_neg hnx]];have hnc:=SN x S l c hS Za ho hbl hf.plc (fun q hq=>by have:=(hf.val q hq);omega);have hnl:=Jx x S l x.orders.length;have hgv: ∀v∈CN x S l,Gr x S (l++ [v]):=fun v hv=> .snoc hg hv;have hnv:nextU x S l x.orders.length=CN x S l:=rfl;rw [hnv] at hnc hnl;generalize CN x S l=nx at hnx hnc hnl hgv ⊢;obtain ⟨B,hB⟩: ∃B:Nat->Col×Bool,B=fun q=>((nx.take q).flatMap fun v=>Bd (CN x S) f (l++ [v])).foldl (XE (Dj x k S) (YU x k S) Wn) (b,fd):=⟨_,rfl⟩
  have hB0:B 0=(b,fd):=by rw [hB];rfl
  have hBn:(nx.flatMap fun v=>Bd (CN x S) f (l++ [v])).foldl (XE (Dj x k S) (YU x k S) Wn) (b,fd)=B nx.length:=by rw [hB];simp
  have hBs: ∀q,q<nx.length->B (q+1)=(Bd (CN x S) f (l++ [nth nx q])).foldl (XE (Dj x k S) (YU x k S) Wn) (B q):=fun q hq=>by
   rw [hB];simp only;rw [X0 hq,List.flatMap_append,List.foldl_append,<- Zh hq];simp
  have hBi: ∀q,(B q).1.typ=k/\(B q).1.set=S/\(B q).1.route.visits.length<=1048576:=fun q=>by
   rw [hB];refine Oy _ _ ⟨hb1,hb2,hb3⟩ fun m hm=> ?_;obtain ⟨v,_,hm⟩:=XU.1 hm;have:=So _ _ m hm
   grind [WV]
  rw [hBn];clear hB hBn;have hne: ¬nx.length=0:=fun h=>hnx (YC h);refine Zf [] Tryz.func83 rfl wP ?_;simp (disch:=omega) only [Tryz.f83,go_sem,seval];rw [<- hb2] at hnc;refine (hnc).use (Zc ?_);refine cD ?_ ?_<;>intro h1<;>simp (disch:=omega) only [Sh.out h1,go_sem,seval,↓reduceIte]
  ·omega
  ·refine Z0 [17] [3,4,5,8,10] (fun q:Nat=> [(2,.p (.bool (B q).2)),(16,.p (.int .i64 q))]) (fun q=> [Zi x,.cells ((GX (B q).1).map .p),Eo]) (fun q=>q<=nx.length) (fun q=>nx.length-q) 0 Zb (Weak.mk ?_) ?_
   ·simp (disch:=omega) only [Zi,Eo,WA,GX,hB0,Zq,Zn,go_sem,seval]
   ·intro q hq;simp (disch:=omega) only [Zi,Eo,WA,GX,Zq,Zn,go_sem,seval];refine cD ?_ ?_<;>intro h2<;>simp (disch:=omega) only [Sh.out h2,go_sem,seval,↓reduceIte]
    ·have hq2:q<nx.length:=Za
     have hBq:=hBs q hq2;obtain ⟨i1,i2,i3⟩:=hBi q;have hmem:=ZZ hq2;have ihc:=ih (l++ [nth nx q]) false (B q).1 (B q).2 (hgv _ hmem) (by simp;omega) Zb i1 i2 i3;rw [show ((B q).1,(B q).2)=B q from rfl,<- hBq,Xs] at ihc;refine ZJ [2,3,4,5,8,10,16] (fun _:Unit=> [(17,.p (.list false ((l++ [nth nx q]).map Z8)))]) (fun _=> [Zi x,.cells ((GX (B q).1).map .p),Eo,.dead]) (fun _=>True) ?_ ?_
     ·simp (disch:=omega) only [ZF,Xl,go_sem,seval];exact ⟨(),(Weak.fz (o:=3) (by rfl)).trans (Weak.mk (by simp (disch:=omega) only [Zi,Eo,WA,GX,Zq,Zn,ZG,ZD,ZF,ZY,Xl,eq_self,Z1,ZW,go_sem,seval]))⟩
     ·intro _ _;refine Zg [] _ _ _ _ ?_;simp (disch:=omega) only [Zi,Eo,WA,GX,Zq,Zn,go_sem,seval];refine ZdG ihc ?_;simp (disch:=omega) only [Zq,Zn,go_sem,seval];exact ⟨q+1,Za,Za,wk⟩
    ·have hql:q=nx.length:=Za
     subst hql;exact ⟨.tup [.p (Xp (B nx.length).1),.p (.bool (B nx.length).2)],[],wk,rfl,rfl⟩
theorem Gm (x:Inst) (hx:InstOk x) (k:Int) (S:Nat) (hS0:0<S) (hS:S<9223372036854775808) (ho:x.orders.length<=60) (htl:x.types.length<=1048576) (hbl:x.before.length<=1048576): ∀f,Rt x k S f
 | 0=>Zdu x hx k S hS0 hS ho htl hbl
 | f+1=>Zdv x hx k S f hS0 hS ho htl hbl (Gm x hx k S hS0 hS ho htl hbl f)
def BH (one:Nat->List Col):Nat->List Col
 | 0=> []
 | q+1=>BH one q++one (q+1)
def Ug (one:Nat->Nat->List Col) (N:Nat):Nat->List Col
 | 0=> []
 | k+1=>Ug one N k++BH (one k) N
theorem C1 {one:Nat->List Col} (h: ∀q,(one q).length<=1): ∀q,(BH one q).length<=q
 | 0=>ZB _
 | q+1=>by
  have:=C1 h q;have:=h (q+1);rw [BH,ZG];omega
theorem BX {one:Nat->Nat->List Col} {N:Nat} (h: ∀k q,(one k q).length<=1): ∀k,(Ug one N k).length<=k*N
 | 0=>by simp [Ug]
 | k+1=>by
  have h1:=BX (N:=N) h k;have h2:=C1 (h k) N;rw [Ug,ZG,XJ];omega
noncomputable def VK (x:Inst) (k S:Nat):List Col:=if (VQ x (k:Int) S).2=0 then [(VQ x (k:Int) S).1] else []
theorem KS {x:Inst} (k S:Nat):(VK x k S).length<=1:=by grind [VK]
theorem NP (x:Inst) (hx:InstOk x) (h4:x.orders.length<=4) (h6:x.types.length<=6) (hbl:x.before.length<=1048576) (hal:x.apart.length<=1048576) :
  PT 80 [.p (Zv x)] [.p (.list false ((Ug (VK x) (2^x.orders.length-1) x.types.length).map Xp)),.p (.int .i64 0)]:=by
 have hp:pw x.orders.length=2^x.orders.length:=rfl;have hp1:1<=2^x.orders.length:=Nat.one_le_two_pow;have hp2:2^x.orders.length<=2^4:=Ys Za h4;obtain ⟨N,hN⟩: ∃N,N=2^x.orders.length-1:=⟨_,rfl⟩;rw [<- hN];refine Zf [12] Tryz.func80 rfl Zjc ?_;simp (disch:=omega) only [Tryz.f80,go_sem,seval];refine Z0 [12] [1,11] (fun k:Nat=> [(4,.sl 1 0 (Ug (VK x) N k).length (Ug (VK x) N k).length),(12,.p (.int .i64 k))]) (fun k=> [Zi x,.elems 7 ((Ug (VK x) N k).map Xp)]) (fun k=>k<=x.types.length) (fun k=>x.types.length-k) 0 Zb (Weak.ofNil 4 7 (by simp (disch:=omega) only [go_sem,seval]) Zb (Weak.mk ?_)) ?_
 ·simp (disch:=omega) only [Zi,Ug,Zn,ZF,go_sem,seval]
 ·intro k hk;obtain ⟨R,hR⟩: ∃R,R=Ug (VK x) N k:=⟨_,rfl⟩;have hRl:=BX (N:=N) (KS (x:=x)) k
  have hRs:Ug (VK x) N (k+1)=R++BH (VK x k) N:=by rw [hR];rfl
  rw [<- hR] at hRl ⊢;have hkN:k*N<=6*16:=AC Za Za;refine Ya ?_;refine cD ?_ ?_<;>intro h1<;>simp (disch:=omega) only [Sh.out h1,go_sem,seval,↓reduceIte]
  ·obtain ⟨W,hW⟩: ∃W:Nat->List Col,W=fun q=>R++BH (VK x k) (q-1):=⟨_,rfl⟩
   have hW0:W 1=R:=by grind [BH]
   have hWn:Ug (VK x) N (k+1)=W (N+1):=by grind
   have hWl: ∀q,(W q).length<=R.length+q:=fun q=>by
    grind [C1,KS]
   have hWs: ∀q,1<=q->W (q+1)=W q++VK x k q:=fun q h=>by
    obtain ⟨p,rfl⟩: ∃p,q=p+1:=⟨q-1,Za⟩
    grind [BH]
   clear hW hRs;refine Zl [1,5,11,12] (fun q:Nat=> [(4,.sl 1 0 (W q).length (W q).length),(6,.p (.int .i64 q))]) (fun q=> [Zi x,.elems 7 ((W q).map Xp)]) (fun q=>1<=q/\q<=N+1) (fun q=>N+1-q) 1 Za (Weak.mk ?_) ?_
   ·have e0:((1:Nat):Int)=1:=rfl;simp (disch:=omega) only [Zi,hW0,e0,go_sem,seval]
   ·rintro q ⟨hq0,hq⟩;have hql:=hWl q;have hqs:=hWs q hq0;refine Ya ?_;refine ZR ?_ ?_<;>intro h2
    ·have hq2:q<2^x.orders.length:=by
      have h2':q / pw x.orders.length=0:=Za
      simp_all
     refine W3 (LH x hx k q Za h4 Za hbl hal Za hq2) ?_;have hone:VK x k q=if (VQ x (k:Int) q).2=0 then [(VQ x (k:Int) q).1] else []:=rfl;rw [hone] at hqs;generalize VQ x (k:Int) q=Z at hqs ⊢;refine Zc ?_;refine ZR ?_ ?_<;>intro h3
     ·rw [if_pos h3] at hqs;exact ⟨q+1,Za,Za,Weak.mk (by simp (disch:=omega) only [hqs,Xs,Zq,Zn,ZG,ZD,ZF,Xl,go_sem,seval])⟩
     ·rw [if_neg h3,Y8] at hqs;exact ⟨q+1,Za,Za,Weak.mk (by simp (disch:=omega) only [hqs,go_sem,seval])⟩
    ·have hqn:q=N+1:=by
      have h2': ¬q / pw x.orders.length=0:=Za
      rw [hp] at h2';have: ¬q<2^x.orders.length:=fun h=>h2' (QH h);omega
     subst hqn;exact ⟨k+1,Za,Za,Weak.mk (by simp (disch:=omega) only [hWn,go_sem,seval])⟩
  ·have hkt:k=x.types.length:=Za
   subst hkt;refine Zp (Weak.fz (o:=1) (by rfl)) ?_;refine Zg [] _ _ _ _ ?_;simp (disch:=omega) only [Zq,Zn,Z1,ZW,eq_self,go_sem,seval];exact ⟨.tup [.p (.list false (R.map Xp)),.p (.int .i64 0)],[],wk,by rw [hR],rfl⟩
def Bb (k:Int) (S:Nat):Col:=⟨k,S,0,⟨0,0,true,[],true,[]⟩⟩
theorem fZ {x:Inst} (hx:InstOk x) {k:Int} (hk:0<=k/\k<x.types.length) {S:Nat} (hS0:0<S) (hS1:S<2^x.orders.length):VQ x k S=if (B4 x k S (Bb k S,false)).2=true then ((B4 x k S (Bb k S,false)).1,0) else (WA,24):=by
 have hf:=XK hx;have hdiv:S / pw x.orders.length=0:=QH hS1
 have hn:x.orders.length<=60:=by have:=hf.len;omega
 obtain ⟨t1,_⟩:=WM hx (show k.toNat<x.types.length by omega);have hi:=QE hn hdiv hf.val;rw [VQ]
 by_cases ha:Alw x S
 ·have e:=Pf hx Za hdiv ha t1.1 (k:=k) (WA,false);have f:=GH (ok:=Dj x k S) (col:=YU x k S) (better:=Wn) (Bd (CN x S) (WV x S) []) WA (Bb k S);have f1:(B4 x k S (WA,false)).2=(B4 x k S (Bb k S,false)).2:=f.1;have f2:(B4 x k S (WA,false)).2=true->(B4 x k S (WA,false)).1=(B4 x k S (Bb k S,false)).1:=f.2
  grind
 simp_all [qM]
theorem fU (x:Inst) (hx:InstOk x) (k:Int) (S:Nat) (hk:0<=k/\k<x.types.length) (h4:x.orders.length<=4) (htl:x.types.length<=1048576) (hbl:x.before.length<=1048576) (hS0:0<S) (hS1:S<2^x.orders.length) :
  PT 50 [.p (Zv x),.p (.int .i64 k),.p (.int .i64 S)] [.p (Xp (VQ x k S).1),.p (.int .i64 (VQ x k S).2)]:=by
 have h16:S<16:=UF hS1 (Ys (n:=2) Za h4);have hdiv:S / pw x.orders.length=0:=QH hS1;obtain ⟨Z,hZ⟩: ∃Z,Z=VQ x k S:=⟨_,rfl⟩;rw [<- hZ];rw [fZ hx hk hS0 hS1] at hZ;have cs:=Gm x hx k S hS0 Za Za htl hbl (WV x S) [] true (Bb k S) false .nil Zb (fun _=>rfl) rfl rfl (by simp [Bb]);rw [show (Bd (CN x S) (WV x S) []).foldl (XE (Dj x k S) (YU x k S) Wn) (Bb k S,false)=B4 x k S (Bb k S,false) from rfl] at cs;generalize B4 x k S (Bb k S,false)=B at cs hZ
 refine Zf [] Tryz.func50 rfl ZiN ?_;simp (disch:=omega) only [Tryz.f50,go_sem,seval];refine gF ?_ ?_<;>intro h1<;>simp (disch:=omega) only [Sh.out h1,go_sem,seval,↓reduceIte]
 ·omega
 ·refine gF ?_ ?_<;>intro h2<;>simp (disch:=omega) only [Sh.out h2,go_sem,seval,↓reduceIte]
  ·omega
  ·refine (Pq x S Za hS0 Za).use (Zc ?_);simp (disch:=omega) only [hdiv,eq_self,VI,go_sem,seval];refine W3 cs (Zc ?_);obtain ⟨C,f⟩:=B
   cases f with
   | false =>
    rw [if_neg Zb] at hZ;refine GG ?_;exact ⟨.tup [.p (Xp Z.1),.p (.int .i64 Z.2)],[],Weak.mk (by simp (disch:=omega) only [hZ,WA,Zn,go_sem,seval]),rfl,rfl⟩
   | true =>
    rw [if_pos rfl] at hZ;refine BN ?_;exact ⟨.tup [.p (Xp Z.1),.p (.int .i64 Z.2)],[],Weak.mk (by simp (disch:=omega) only [hZ,go_sem,seval]),rfl,rfl⟩
theorem pA (x:Inst) (hx:InstOk x) (h4:x.orders.length<=4) (h6:x.types.length<=6) (hbl:x.before.length<=1048576) :
  PT 30 [.p (Zv x)] [.p (.list false ((Ug (VK x) (2^x.orders.length-1) x.types.length).map Xp)),.p (.int .i64 0)]:=by
 have hp1:1<=2^x.orders.length:=Nat.one_le_two_pow;have hp2:2^x.orders.length<=2^4:=Ys Za h4;obtain ⟨N,hN⟩: ∃N,N=2^x.orders.length-1:=⟨_,rfl⟩
 have hpN:pw x.orders.length=N+1:=by unfold pw;omega
 rw [<- hN];refine Zf [16] Tryz.func30 rfl Ziu ?_;simp (disch:=omega) only [Tryz.f30,go_sem,seval];refine Z0 [16] [1] (fun k:Nat=> [(4,.p (.int .i64 (pw k:Nat))),(5,.p (.int .i64 k))]) (fun _=> [Zi x]) (fun k=>k<=x.orders.length) (fun k=>x.orders.length-k) 0 Zb (Weak.mk ?_) ?_
 ·have e0:((pw 0:Nat):Int)=1:=rfl;simp (disch:=omega) only [Zi,e0,go_sem,seval]
 ·intro k hk;have hpk:pw k<=pw 4:=Ko Za;have hp4:pw 4=16:=rfl;have hps:=EV k
  have e2:((pw (k+1):Nat):Int)=((pw k:Nat):Int)*2:=Za
  refine Ya ?_;refine gT ?_ ?_<;>intro h0<;>simp (disch:=omega) only [Sh.out h0,go_sem,seval,↓reduceIte]
  ·refine ZR ?_ ?_<;>intro h1
   ·exact ⟨k+1,Za,Za,Weak.mk (by simp (disch:=omega) only [e2,go_sem,seval])⟩
   ·omega
  ·have hkn:k=x.orders.length:=Za
   subst hkn;rw [hpN];refine Z0 [16] [1,4] (fun k:Nat=> [(6,.sl 1 0 (Ug (VK x) N k).length (Ug (VK x) N k).length),(7,.p (.int .i64 k))]) (fun k=> [Zi x,.elems 7 ((Ug (VK x) N k).map Xp)]) (fun k=>k<=x.types.length) (fun k=>x.types.length-k) 0 Zb (Weak.ofNil 6 7 (by simp (disch:=omega) only [go_sem,seval]) Zb (Weak.mk ?_)) ?_
   ·simp (disch:=omega) only [Zi,Ug,Zn,ZF,go_sem,seval]
   ·intro k hk;obtain ⟨R,hR⟩: ∃R,R=Ug (VK x) N k:=⟨_,rfl⟩;have hRl:=BX (N:=N) (KS (x:=x)) k
    have hRs:Ug (VK x) N (k+1)=R++BH (VK x k) N:=by rw [hR];rfl
    rw [<- hR] at hRl ⊢;have hkN:k*N<=6*16:=AC Za Za;refine Ya ?_;refine cD ?_ ?_<;>intro h1<;>simp (disch:=omega) only [Sh.out h1,go_sem,seval,↓reduceIte]
    ·obtain ⟨W,hW⟩: ∃W:Nat->List Col,W=fun q=>R++BH (VK x k) q:=⟨_,rfl⟩
     have hW0:W 0=R:=by grind [BH]
     have hWn:Ug (VK x) N (k+1)=W N:=by rw [hRs,hW]
     have hWl: ∀q,(W q).length<=R.length+q:=fun q=>by
      grind [C1,KS]
     have hWs: ∀q,W (q+1)=W q++VK x k (q+1):=fun q=>by grind [BH]
     clear hW hRs;refine Zl [1,4,7] (fun q:Nat=> [(6,.sl 1 0 (W q).length (W q).length),(8,.p (.int .i64 ((q+1:Nat):Int)))]) (fun q=> [Zi x,.elems 7 ((W q).map Xp)]) (fun q=>q<=N) (fun q=>N-q) 0 Zb (Weak.mk ?_) ?_
     ·have e0:((0+1:Nat):Int)=1:=rfl;simp (disch:=omega) only [Zi,hW0,e0,go_sem,seval]
     ·intro q hq;have hql:=hWl q;have hqs:=hWs q
      have e1:((q+1+1:Nat):Int)=((q+1:Nat):Int)+1:=Za
      refine Ya ?_;refine ZR ?_ ?_<;>intro h2
      ·refine W3 (fU x hx k (q+1) Za h4 Za hbl Za Za) ?_;have hone:VK x k (q+1)=if (VQ x (k:Int) (q+1)).2=0 then [(VQ x (k:Int) (q+1)).1] else []:=rfl;rw [hone] at hqs;generalize VQ x (k:Int) (q+1)=Z at hqs ⊢;refine Zc ?_;refine ZR ?_ ?_<;>intro h3
       ·rw [if_pos h3] at hqs;exact ⟨q+1,Za,Za,Weak.mk (by simp (disch:=omega) only [hqs,Xs,Zq,Zn,ZG,ZD,ZF,Xl,go_sem,seval])⟩
       ·rw [if_neg h3,Y8] at hqs;exact ⟨q+1,Za,Za,Weak.mk (by simp (disch:=omega) only [hqs,go_sem,seval])⟩
      ·have hqn:q=N:=Za
       subst hqn;exact ⟨k+1,Za,Za,Weak.mk (by simp (disch:=omega) only [hWn,go_sem,seval])⟩
    ·have hkt:k=x.types.length:=Za
     subst hkt;refine Zp (Weak.fz (o:=1) (by rfl)) ?_;refine Zg [] _ _ _ _ ?_;simp (disch:=omega) only [Zq,Zn,Z1,ZW,eq_self,go_sem,seval];exact ⟨.tup [.p (.list false (R.map Xp)),.p (.int .i64 0)],[],wk,by rw [hR],rfl⟩
end Go.Proofs.YtenjikkmmibffaaGreatDoor.K
