/- Declarations that the closing texts need, part 14: joined by tools/slim.py. -/
import Derived.Test.YtjkkdmeebhjaiaaGreatDoorH13
set_option linter.unusedVariables false
set_option linter.unusedSimpArgs false
namespace Go.Proofs.YtjkkdmeebhjaiaaGreatDoor.K
open Go Go.AM Go.Proofs
set_option maxRecDepth 8000
theorem pS {x:Inst} {t:Typ} {p:Int} {stop:Stp} {out:List Sr} {a b:Sr} (h:b∈out):b∈JS x t p stop out a:=by
 grind [JS,Vu]
theorem Nx {x:Inst} {t:Typ} {p:Int} {stop:Stp} : ∀(st:List Sr) (out:List Sr) (b:Sr),(b∈out->b∈st.foldl (JS x t p stop) out)/\ ∀a∈st,(∀o,b∈JS x t p stop o a)->b∈st.foldl (JS x t p stop) out
 | [],out,b=>⟨id,fun a h=>by simp at h⟩
 | c::st,out,b=>by
  rw [XS];obtain ⟨g1,g2⟩:=Nx st (JS x t p stop out c) b;refine ⟨fun h=>g1 (pS h),fun a ha hb=> ?_⟩
  grind
inductive Rch (x:Inst) (t:Typ) (sp:List Stp):Nat->Lab->Prop where
 | zero:Rch x t sp 0 (labF t 0)
 | succ {k:Nat} {L:Lab} (b:Bool) (h:Rch x t sp k L) (hk:k<sp.length) (e:(nxtF x t sp k L b).2=0):Rch x t sp (k+1) (nxtF x t sp k L b).1
theorem Tz {x:Inst} {t:Typ} {sp:List Stp} : ∀(bs:List Bool) (k:Nat) (L:Lab),Rch x t sp k L->k+bs.length=sp.length+1->(Xb x t sp k L bs).2=0-> ∀j,k<=j->j<=sp.length-> ∃L',Rch x t sp j L'
 | [],k,L,h,hl,_,j,h1,h2=>by grind
 | b::bs,k,L,h,hl,hr,j,h1,h2=>by
  by_cases e:k=j
  ·grind
  ·rw [Xb] at hr
   split at hr
   ·rename_i he;exact Tz bs (k+1) _ (.succ b h Za he) (by grind) hr j Za h2
   omega
def fO (x:Inst) (t:Typ) (l:List Vis) (s:Int×List Sr):Prop:=s.1=Ug t (ZK x l) l.length/\ ∀r L,Rch x t (ZK x (l++r)) l.length L-> ∀b,(⟨ZN t L b,W4 L b⟩:Sr)∈s.2
def goS (x:Inst) (t:Typ) (s:Int×List Sr) (v:Vis):Int×List Sr:=((Xo x v).place,Eg x t s.1 s.2 (Xo x v))
def st0 (t:Typ):Int×List Sr:=(t.src,VU t [] t.opn 0)
theorem jF {x:Inst} {t:Typ} (h:0<=t.opn):fO x t [] (st0 t):=by
 refine ⟨rfl,fun r L hL b=> ?_⟩
 have:L=labF t 0:=by
  generalize hk:([]:List Vis).length=k at hL
  cases hL with
  | zero=>rfl
  | succ=>simp at hk
 subst this
 have hm:max t.opn 0=t.opn:=Za
 cases b
 ·exact Vu.2 (.inr (.inl (by simp [ZN,W4,labF,hm])))
 ·exact Vu.2 (.inr (.inr (by simp [ZN,W4,labF,hm])))
theorem II {x:Inst} {l r:List Vis} {v:Vis} :nth (ZK x (l++(v::r))) l.length=Xo x v:=by
 grind [Zi,ZK]
theorem nT {x:Inst} {t:Typ} {l r:List Vis} :Ug t (ZK x (l++r)) l.length=Ug t (ZK x l) l.length:=by
 grind [Ug,ZK,Zi]
theorem jE {x:Inst} {t:Typ} {l:List Vis} {s:Int×List Sr} {v:Vis} (h:fO x t l s):fO x t (l++ [v]) (goS x t s v):=by
 obtain ⟨h1,h2⟩:=h;refine ⟨?_,fun r L' hL b=> ?_⟩
 ·have e:=II (x:=x) (l:=l) (r:= []) (v:=v);rw [Ug,if_neg Zb,show (l++ [v]).length-1=l.length by simp,e];rfl
 ·rw [Vq,ZR,ZH] at hL;generalize hsp:ZK x (l++(v::r))=sp at hL
  have hlen:l.length<sp.length:=by grind [ZK]
  have hat:nth sp l.length=Xo x v:=by grind [II]
  have hpl:Ug t sp l.length=s.1:=by grind [nT]
  generalize hk:(l++ [v]).length=k at hL
  cases hL with
  | zero=>simp at hk
  | succ b' hp hk' he =>
   rename_i k L
   have hkl:k=l.length:=by grind
   subst hkl;have hmem:=h2 (v::r) L (by grind) b'
   generalize hd:ZN t L b'=d at *
   generalize hs:W4 L b'=w at *
   have hg:Y9 x t sp l.length d=W8 x.net t.prof s.1 (Xo x v).place d:=by
    rw [Y9,hpl,Pa,if_neg Za,hat]
   unfold nxtF at he ⊢;rw [hd,hs,hg] at he ⊢
   generalize hgn:W8 x.net t.prof s.1 (Xo x v).place d=g at *
   unfold WL at he ⊢
   split at he
   ·simp at he
   ·rename_i c1;rw [if_neg c1];rw [if_neg Za] at he ⊢;rw [hat] at he ⊢
    split at he
    ·simp at he
    ·rename_i c2;rw [if_neg c2]
     split at he
     ·simp at he
     ·rename_i c3;rw [if_neg c3];refine (Nx s.2 [] _).2 ⟨d,w⟩ hmem fun o=> ?_;have c4: ¬(¬g.2.2=0\/t.drive<w+g.1-d):=fun hh=>hh.elim (fun e=>c1 e) (fun e=>c3 e);simp only [JS,hgn];rw [if_neg c4,if_neg c2]
      cases b
      ·exact Vu.2 (.inr (.inl rfl))
      ·exact Vu.2 (.inr (.inr rfl))
theorem aX {x:Inst} {k:Int} {l:List Vis} {s:Int×List Sr} (h:fO x (nth x.types k.toNat) l s) (he:s.2= []) (r:List Vis) (c d:Bool): ¬(YT x ⟨k,0,c,[],d,l++r⟩).2=0:=fun hp=>by
 have h1:Xq x ⟨k,0,c,[],d,l++r⟩=0:=by
  grind [YT]
 have h2:(Xp x ⟨k,0,c,[],d,l++r⟩).2=0:=by
  grind [Xq]
 obtain ⟨bs,hl,hrun,_⟩:=HI Zb h2;obtain ⟨L,hL⟩:=Tz bs 0 _ .zero Za hrun l.length Za (by simp [ZK]);have:=h.2 r L hL false
 grind
def JT (k:Int) (l:List Vis):Rte:=⟨k,0,true,[],false,l⟩
def Gv (x:Inst) (k:Int) (l:List Vis):Bool:=decide ((YT x (JT k l)).2=0)
def Dt (x:Inst) (k:Int) (S:Nat) (l:List Vis):Bool:=decide ((Jl l).1=(S:Int))&&(decide (Xq x (JT k l)=0)&&Gv x k l)
def Y3 (x:Inst) (k:Int) (S:Nat) (l:List Vis):Col:=⟨k,S,(YT x (JT k l)).1,JT k l⟩
def Wy (a b:Col):Bool:=if a.price≠b.price then decide (a.price<b.price) else decide (BF a.route.visits b.route.visits<0)
def CU (x:Inst) (S:Nat) (l:List Vis):List Vis:=nextU x S l x.orders.length
def W5 (x:Inst) (S:Nat):Nat:=Ak x S x.orders.length
def S0 (x:Inst) (k:Int) (S f:Nat) (l:List Vis) (s:Int×List Sr):List (List Vis):=lvW (CU x S) (goS x (nth x.types k.toNat)) (fun s=>s.2.isEmpty) f l s
theorem tY {x:Inst} {S:Nat} {l:List Vis} (h:Gr x S l) (hl:l.length=W5 x S):CU x S l= []:=by
 cases e:CU x S l with
 | nil=>rfl
 | cons v r =>
  exfalso
  have hv:v∈nextU x S l x.orders.length:=by
   grind [CU]
  obtain ⟨i,hi,h1,h2,h3,h4⟩:=VR.1 hv;exact ((Vt h3).1 h4).1 (h.full hl v (WT.2 ⟨i,hi,h1,h3⟩))
def EB (x:Inst) (k:Int) (S:Nat) (z:Col×Bool):Col×Bool:=(S0 x k S (W5 x S) [] (st0 (nth x.types k.toNat))).foldl (XJ (Gv x k) (Y3 x k S) Wy) z
def Cb (x:Inst) (k:Int) (S:Nat) (z:Col×Bool):Col×Bool:=(Bo (CU x S) (W5 x S) []).foldl (XJ (Dt x k S) (Y3 x k S) Wy) z
theorem IS {ok ok':List Vis->Bool} {col:List Vis->Col} {better:Col->Col->Bool} : ∀ {L:List (List Vis)} {b:Col×Bool},(∀l∈L,ok l=ok' l)->L.foldl (XJ ok col better) b=L.foldl (XJ ok' col better) b
 | [],_,_=>rfl
 | l::L,b,h=>by
  rw [XS,XS,XJ,XJ,h l Zb];exact IS fun m hm=>h m (Yo _ hm)
theorem IR {ok:List Vis->Bool} {col:List Vis->Col} {better:Col->Col->Bool} : ∀ {L:List (List Vis)} {b:Col×Bool},(∀l∈L,ok l=false)->L.foldl (XJ ok col better) b=b
 | [],_,_=>rfl
 | l::L,b,h=>by
  rw [XS,XJ,if_neg (by rw [h l Zb];simp)];exact IR fun m hm=>h m (Yo _ hm)
theorem lX {x:Inst} {S:Nat} (hN: ∀l,Gr x S l->l.length<W5 x S->CU x S l≠ []): ∀(f:Nat) (l m:List Vis),Gr x S l->l.length+f=W5 x S->m∈Bo (CU x S) f l->Gr x S m/\m.length=W5 x S
 | 0,l,m,h,ht,hm=>by
  simp_all [Bo]
 | f+1,l,m,h,ht,hm=>by
  rw [Bo,if_neg (hN l h Za)] at hm;obtain ⟨v,hv,hm⟩:=X0.1 hm;exact lX hN f _ m (.snoc h hv) (by simp;omega) hm
theorem Vy {x:Inst} {r:Rte} (h:Xq x r=0):RightV x r.visits:=by
 rw [<- dR]
 have h1:XU x r=0:=by
  grind [Xq]
 unfold XU at h1;omega
theorem JJ {x:Inst} {k:Int} {l:List Vis} (h:Gv x k l=true):Xq x (JT k l)=0:=by
 have h:=AK h
 grind [YT]
theorem cL {x:Inst} (hx:InstOk x) {S:Nat} (ha:Alw x S) (l:List Vis) (h:Gr x S l) (hl:l.length<W5 x S):CU x S l≠ []:=fun e=>by
 have hf:=XP hx
 have hn:x.orders.length<=60:=by have:=hf.len;omega
 have:=(h.next_nil ha hn hf.val).1 e
 grind [W5]
theorem PF {x:Inst} (hx:InstOk x) {k:Int} {S:Nat} (h0:S≠0) (hS:S / pw x.orders.length=0) (ha:Alw x S) (ht:0<=(nth x.types k.toNat).opn) (z:Col×Bool):EB x k S z=Cb x k S z:=by
 have hN:=cL hx ha
 have h1:Cb x k S z=(Bo (CU x S) (W5 x S) []).foldl (XJ (Gv x k) (Y3 x k S) Wy) z:=IS fun l hl=>by
  obtain ⟨hg,hlen⟩:=lX hN _ _ _ .nil Zb hl;obtain ⟨hr,ho⟩:=hg.right (XP hx) ha h0 hS hlen;unfold Dt
  cases hv:Gv x k l with
  | false=>simp
  | true =>
   rw [JJ hv,hr.ord (XP hx),ho];simp
 rw [h1,EB,S0,Q0,Q0 (Bo _ _ _)]
 rw [<- yE (nx:=CU x S) (go:=goS x (nth x.types k.toNat)) (emp:=fun s=>s.2.isEmpty) (ok:=Gv x k) (G:=Gr x S) (R:=fO x (nth x.types k.toNat)) (tot:=W5 x S) (fun l v hl hv=> .snoc hl hv) (fun l s v _ hs _=>jE hs)
  (fun l s _ hs he r=>Vs (aX hs (List.isEmpty_iff.1 he) r true false)) hN (W5 x S) [] (st0 (nth x.types k.toNat)) .nil (jF ht) Zb]
theorem sD {x:Inst} (hx:InstOk x) {k:Int} {S:Nat} (ha: ¬Alw x S) (z:Col×Bool):Cb x k S z=z:=IR fun l _=>by
 cases ho:Dt x k S l with
 | false=>rfl
 | true =>
  exfalso;simp only [Dt,Zv,Zq] at ho;have hr:=Vy ho.2.1;have hv:(JT k l).visits=l:=rfl;rw [hv] at hr;have he:=hr.ord (XP hx);rw [he] at ho
  have hS:Xz l=S:=Za
  exact ha (hS ▸ hr.alw (XP hx))
set_option maxHeartbeats 8000000
theorem wJ {x:Inst} (hx:InstOk x):x.types.length<=6:=by have:=hx.types.1;simp only [rng,Zq] at this;omega
set_option maxRecDepth 60000
structure St where
 ix:Int
 cov:Int
 used:List Int
 deriving Inhabited,DecidableEq
def Bi (s:St):PV:= .agg (.int .i64 s.ix:: .int .i64 s.cov::s.used.map eI)
@[go_sem] theorem Zn6 (s:St):Bi s= .agg (.int .i64 s.ix:: .int .i64 s.cov::s.used.map eI):=Zm rfl rfl
def StR (s:St):Prop:=s.used.length=6
theorem six {l:List Int} (h:l.length=6): ∃a b c d e f,l= [a,b,c,d,e,f]:=by
 match l,h with
 | [a,b,c,d,e,f],_=>simp
theorem Y0 {s:St} (h:StR s): ∃i v a b c d e f,s=⟨i,v,[a,b,c,d,e,f]⟩:=by
 obtain ⟨i,v,u⟩:=s;obtain ⟨a,b,c,d,e,f,rfl⟩:=six h;simp
theorem P5 : KeyE Tryz.prog 188 Bi StR:=by
 refine ⟨⟨152,3,Zg,Zg,fun s hs=> ?_,fun s t hs ht=> ?_⟩,fun s t hs ht=> ?_⟩
 ·obtain ⟨i,v,a,b,c,d,e,f,rfl⟩:=Y0 hs
  kernel_rfl
 ·obtain ⟨i,v,a,b,c,d,e,f,rfl⟩:=Y0 hs;obtain ⟨i',v',a',b',c',d',e',f',rfl⟩:=Y0 ht
  have h1:VF Tryz.prog 9 152 (Bi ⟨i,v,[a,b,c,d,e,f]⟩) (Bi ⟨i',v',[a',b',c',d',e',f']⟩)=some (decide (i=i')&&(decide (v=v')&&((decide (a=a')&&(decide (b=b')&&(decide (c=c')&&(decide (d=d')&&(decide (e=e')&&(decide (f=f')&&true))))))&&true))):=Zg
  have h2:keq (Bi ⟨i,v,[a,b,c,d,e,f]⟩) (Bi ⟨i',v',[a',b',c',d',e',f']⟩)=(decide (i=i')&&(decide (v=v')&&((decide (a=a')&&(decide (b=b')&&(decide (c=c')&&(decide (d=d')&&(decide (e=e')&&(decide (f=f')&&true))))))&&true))):=by
   simp_all [keq,Bi,JK,eI]
  show (VF Tryz.prog 9 152 (Bi ⟨i,v,[a,b,c,d,e,f]⟩) (Bi ⟨i',v',[a',b',c',d',e',f']⟩)==some (keq (Bi ⟨i,v,[a,b,c,d,e,f]⟩) (Bi ⟨i',v',[a',b',c',d',e',f']⟩)))=true
  simp_all
 ·obtain ⟨i,v,a,b,c,d,e,f,rfl⟩:=Y0 hs;obtain ⟨i',v',a',b',c',d',e',f',rfl⟩:=Y0 ht
  simp_all [keq,Bi,JK,eI]
structure Kd where
 typ:Int
 set:Int
 deriving Inhabited,DecidableEq
def fG (k:Kd):PV:= .agg [.int .i64 k.typ,.int .i64 k.set]
theorem lQ : KeyE Tryz.prog 234 fG fun _=>True:=by
 refine ⟨⟨236,3,Zg,Zg,fun s _=> ?_,fun s t _ _=> ?_⟩,fun s t _ _=> ?_⟩
 ·kernel_rfl
 ·obtain ⟨a,b⟩:=s;obtain ⟨c,d⟩:=t
  have h1:VF Tryz.prog 9 236 (fG ⟨a,b⟩) (fG ⟨c,d⟩)=some (decide (a=c)&&(decide (b=d)&&true)):=Zg
  have h2:keq (fG ⟨a,b⟩) (fG ⟨c,d⟩)=(decide (a=c)&&(decide (b=d)&&true)):=by
   grind [keq,fG,JK]
  show (VF Tryz.prog 9 236 (fG ⟨a,b⟩) (fG ⟨c,d⟩)==some (keq (fG ⟨a,b⟩) (fG ⟨c,d⟩)))=true
  simp_all
 ·obtain ⟨a,b⟩:=s;obtain ⟨c,d⟩:=t;simp [keq,fG,JK]
def BT (n:Nat) (m cov:Int):Nat->Nat->Nat
 | 0,k=>k
 | f+1,k=>if k<n/\(sHas m k=false\/sHas cov k=true) then BT n m cov f (k+1) else k
theorem D9 {n:Nat} {m cov:Int} {k:Nat} (h: ¬(k<n/\(sHas m k=false\/sHas cov k=true))) (f:Nat):BT n m cov f k=k:=by
 cases f with
 | zero=>rfl
 | succ f=>rw [BT,if_neg h]
theorem Fk {n:Nat} {m cov:Int} {k:Nat} (h:k<n) (hc:sHas m k=false\/sHas cov k=true):BT n m cov (n-k) k=BT n m cov (n-(k+1)) (k+1):=by
 rw [show n-k=(n-(k+1))+1 by omega,BT,if_pos ⟨h,hc⟩]
def VD (n:Nat) (m:Int) (s:St):St:= { s with ix:=(BT n m s.cov (n-s.ix.toNat) s.ix.toNat:Nat) }
def V0 (x:Inst) (f g:PV) (m:Int):AM.Obj:= .cells [.p (.list x.net.places_c (x.net.places.map eS)),.p (.list x.net.arcs_c (x.net.arcs.map V1)),.p (.list x.types_c (x.types.map X7)),.p (.list x.orders_c (x.orders.map eOrd)),.p (.list x.apart_c (x.apart.map eP)),.p (.list x.before_c (x.before.map eP)),.p f,.p g,.mp 0,.p (.int .i64 m)]
def Wc (x:Inst) (f g:PV) (m:Int) (l:List (St×Int)):List AM.Obj:= [.map (l.map (Nj Bi)),V0 x f g m]
def BV (s:St):AM.Obj:= .cells (.p (.int .i64 s.ix):: .p (.int .i64 s.cov)::(s.used.map eI).map .p)
theorem G3 {P Q:Prop} (h:Q) (e:Q->P:=by intro h;simp (disch:=omega) only [WS,go_sem,seval];exact h):P:=e h
theorem G4 {P Q:Prop} (h:Q) (e:Q->P:=by intro h;simp (disch:=omega) only [Yx,go_sem,seval];exact h):P:=e h
theorem GW (x:Inst) (f g:PV) (m:Int) (l:List (St×Int)) (s:St) (hs:StR s) (h0:0<=s.ix) (hn:x.orders.length<=10) (h1:s.ix<=10) :
  ACalls Tryz.prog 106 [.ptr 1 0,.p (Bi s)] (Wc x f g m l) fun y H'=>y= .p (Bi (VD x.orders.length m s))/\H'=Wc x f g m l:=by
 obtain ⟨i,v,a,b,c,d,e,u,rfl⟩:=Y0 hs;obtain ⟨i,rfl⟩: ∃k:Nat,i=k:=⟨i.toNat,by grind⟩;simp only at h0 h1;generalize hT:Bi (VD x.orders.length m ⟨i,v,[a,b,c,d,e,u]⟩)=T;refine Ze [] Tryz.func106 rfl Za2 ?_;simp (disch:=omega) only [Tryz.f106,Wc,V0,Zt,Zk,go_sem,seval];refine Zl [0,3,4] (fun k:Nat=> []) (fun k=>Wc x f g m l++ [BV ⟨k,v,[a,b,c,d,e,u]⟩,.cells (List.replicate 8 (.p (.int .i64 0)))]) (fun k=>k<=10/\BT x.orders.length m v (x.orders.length-k) k=BT x.orders.length m v (x.orders.length-i) i) (fun k=>x.orders.length-k) i ⟨Za,rfl⟩ (Weak.mk ?_) ?_
 ·simp (disch:=omega) only [Wc,V0,BV,Zt,Zk,List.replicate,go_sem,seval,↓reduceIte]
 ·rintro k ⟨hk,hq⟩
  have fin: ∀q:Nat,q=BT x.orders.length m v (x.orders.length-i) i->Bi ⟨q,v,[a,b,c,d,e,u]⟩=T:=fun q hq=>by grind [VD]
  simp (disch:=omega) only [Wc,V0,BV,Zt,Zk,List.replicate,go_sem,seval];refine Xj (Zd ?_);refine gT ?_ ?_<;>intro h5<;>simp (disch:=omega) only [Sh.out h5,go_sem,seval,↓reduceIte]
  ·have hk2:k<x.orders.length:=Za
   refine Zo (Ep m k) (Zd ?_)
   cases hm:sHas m k with
   | false =>
    refine G3 ?_;exact ⟨k+1,⟨Za,by grind [Fk]⟩,Za,wk⟩
   | true =>
    refine G4 ?_;refine Zo (Ep v k) (Zd ?_)
    cases hv:sHas v k with
    | true =>
     refine Zd ?_;exact ⟨k+1,⟨Za,by grind [Fk]⟩,Za,wk⟩
    | false =>
     refine Zd ?_;exact ⟨.p (Bi ⟨k,v,[a,b,c,d,e,u]⟩),_,Weak.mk (by simp (disch:=omega) only [Zt,Zk,go_sem,seval]),by grind [D9],rfl⟩
  ·exact ⟨.p (Bi ⟨k,v,[a,b,c,d,e,u]⟩),_,Weak.mk (by simp (disch:=omega) only [Zt,Zk,go_sem,seval]),by grind [D9],rfl⟩
def DT (n:Nat) (m:Int) (s:St):St:=VD n m { s with ix:=s.ix+1 }
theorem BW {P Q:Prop} (h:Q) (e:Q->P:=by intro h;simp (disch:=omega) only [Wc,V0,Zt,Zk,ZR,ZH,go_sem,seval];exact h):P:=e h
theorem IW (x:Inst) (f g:PV) (m:Int) (l:List (St×Int)) (s:St) (hs:StR s) (h0:0<=s.ix) (hn:x.orders.length<=10) (h1:s.ix<=9) :
  ACalls Tryz.prog 143 [.ptr 1 0,.p (Bi s)] (Wc x f g m l) fun y H'=>y= .p (Bi (DT x.orders.length m s))/\H'=Wc x f g m l:=by
 have hc:=GW x f g m l { s with ix:=s.ix+1 } hs (by grind) hn (by grind);obtain ⟨i,v,a,b,c,d,e,u,rfl⟩:=Y0 hs;obtain ⟨q,hq⟩: ∃q:Int,DT x.orders.length m ⟨i,v,[a,b,c,d,e,u]⟩=⟨q,v,[a,b,c,d,e,u]⟩:=⟨_,rfl⟩;have hq':VD x.orders.length m ⟨i+1,v,[a,b,c,d,e,u]⟩=⟨q,v,[a,b,c,d,e,u]⟩:=hq;rw [hq];simp only at h0 h1 hc;rw [hq'] at hc;refine Ze [] Tryz.func143 rfl Zbn ?_;simp (disch:=omega) only [Tryz.f143,Wc,V0,Zt,Zk,go_sem,seval];refine hc.useP (L:= [_,_]) (by rfl) ?_ (by rfl) (by rfl);refine BW ?_
 exact we
def Dr (n:Nat) (m:Int) (s:St) (T:Nat) (C S:Nat):St:=VD n m ⟨s.ix,((C|||S:Nat):Int),s.used.set T (nth s.used T+1)⟩
def EH (x:Inst) (s:St) (T:Nat) (C S:Nat):Bool:=decide (C&&&S=0)&&decide (nth s.used T<(nth x.types T).count)
theorem pX (x:Inst) (f g:PV) (m:Int) (l:List (St×Int)) (s:St) (c:Col) (hs:StR s) (h0:0<=s.ix) (hn:x.orders.length<=10) (h1:s.ix<=10) (C S T:Nat) (hC:s.cov=C) (hS:c.set=S) (hT:c.typ=T) (hC2:C<1024) (hS2:S<1024) (hT2:T<x.types.length) (h6:x.types.length<=6)
  (hu: ∀j,j<6->0<=nth s.used j/\nth s.used j<=1048576) :
  ACalls Tryz.prog 142 [.ptr 1 0,.p (Bi s),.p (Xv c)] (Wc x f g m l) fun y H'=>y=(if EH x s T C S=true then .tup [.p (Bi (Dr x.orders.length m s T C S)),.p (.bool true)] else .tup [.p (Bi s),.p (.bool false)])/\H'=Wc x f g m l:=by
 have hor:C|||S<1024:=Ji (n:=10) hC2 hS2;have hc:=GW x f g m l ⟨s.ix,((C|||S:Nat):Int),s.used.set T (nth s.used T+1)⟩ (by grind [StR]) h0 hn h1;obtain ⟨i,v,a0,a1,a2,a3,a4,a5,rfl⟩:=Y0 hs
 have hT3:T=0\/T=1\/T=2\/T=3\/T=4\/T=5:=Za
 have u0:=hu 0 Za;have u1:=hu 1 Za;have u2:=hu 2 Za;have u3:=hu 3 Za;have u4:=hu 4 Za;have u5:=hu 5 Za;simp only [nth,List.getD_cons_zero,List.getD_cons_succ] at u0 u1 u2 u3 u4 u5;simp only at hC h0 h1;obtain ⟨ct,cs,cp,cr⟩:=c;simp only at hS hT;subst hC;subst hS;subst hT;obtain ⟨R,hR⟩: ∃R:V,R=(if EH x ⟨i,(C:Nat),[a0,a1,a2,a3,a4,a5]⟩ T C S=true then .tup [.p (Bi (Dr x.orders.length m ⟨i,(C:Nat),[a0,a1,a2,a3,a4,a5]⟩ T C S)),.p (.bool true)] else .tup [.p (Bi ⟨i,(C:Nat),[a0,a1,a2,a3,a4,a5]⟩),.p (.bool false)]):=⟨_,rfl⟩
 rw [<- hR];obtain ⟨q,hq⟩: ∃q:Int,VD x.orders.length m ⟨i,((C|||S:Nat):Int),[a0,a1,a2,a3,a4,a5].set T (nth [a0,a1,a2,a3,a4,a5] T+1)⟩=⟨q,((C|||S:Nat):Int),[a0,a1,a2,a3,a4,a5].set T (nth [a0,a1,a2,a3,a4,a5] T+1)⟩:=⟨_,rfl⟩;simp only at hc;rw [hq] at hc;have hw:Dr x.orders.length m ⟨i,(C:Nat),[a0,a1,a2,a3,a4,a5]⟩ T C S=⟨q,((C|||S:Nat):Int),[a0,a1,a2,a3,a4,a5].set T (nth [a0,a1,a2,a3,a4,a5] T+1)⟩:=hq;rw [hw] at hR;refine Ze [] Tryz.func142 rfl Zbm ?_;rcases hT3 with rfl | rfl | rfl | rfl | rfl | rfl
 all_goals
  simp (disch:=omega) only [Tryz.f142,Wc,V0,Zt,Zk,go_sem,seval,↓reduceIte];refine Xj ?_;simp (disch:=omega) only [go_sem,seval,↓reduceIte];refine gF ?_ ?_<;>intro h5<;>simp (disch:=omega) only [Sh.out h5,go_sem,seval,↓reduceIte]
  ·have hno:(decide (C&&&S=0))=false:=Vs Za;exact ⟨.tup [.p (Bi ⟨i,(C:Nat),[a0,a1,a2,a3,a4,a5]⟩),.p (.bool false)],_,Weak.mk (by simp (disch:=omega) only [Zt,Zk,go_sem,seval]),by rw [hR,if_neg (by rw [EH,hno];simp)],rfl⟩
  ·have hcs:C&&&S=0:=Za
   refine cD ?_ ?_<;>intro h7<;>simp (disch:=omega) only [Sh.out h7,go_sem,seval,↓reduceIte]
   ·exact ⟨.tup [.p (Bi ⟨i,(C:Nat),[a0,a1,a2,a3,a4,a5]⟩),.p (.bool false)],_,Weak.mk (by simp (disch:=omega) only [Zt,Zk,go_sem,seval]),by rw [hR,if_neg (by rw [EH,Ud hcs,VQ];exact fun h=>Int.not_lt.2 h7 (AK h))],rfl⟩
   ·rw [if_pos (by rw [EH,Ud hcs,VQ];exact Ud (Int.not_le.1 h7))] at hR;refine hc.useP (L:= [_,_,_]) (by rfl) ?_ (by rfl) (by rfl);simp (disch:=omega) only [Wc,V0,Zt,Zk,ZR,ZH,ZG,ZQ,go_sem,seval,↓reduceIte];exact ⟨R,_,Weak.mk (by rw [hR];simp (disch:=omega) only [nth,List.getD_cons_zero,List.getD_cons_succ,ZG,ZQ,Zt,Zk,go_sem,seval]),rfl,rfl⟩
def Wb (o p r:Int):Int:=if 0<=r/\(o<0\/p+r<o) then p+r else o
theorem M0 (o p r:Int) (hp: -4611686018427387904<=p/\p<=4611686018427387904) (hr: -4611686018427387904<r/\r<4611686018427387904) :
  ACalls Tryz.prog 141 [.p (.int .i64 p),.p (.int .i64 r),.ptr 0 0] [.cells [.p (.int .i64 o)]] fun y H'=>y= .tup []/\H'= [.cells [.p (.int .i64 (Wb o p r))]]:=by
 obtain ⟨T,hT⟩: ∃T,T=Wb o p r:=⟨_,rfl⟩;rw [<- hT];unfold Wb at hT;refine Ze [] Tryz.func141 rfl Zbl ?_;simp (disch:=omega) only [Tryz.f141,go_sem,seval];refine gT ?_ ?_<;>intro h1<;>simp (disch:=omega) only [Sh.out h1,go_sem,seval,↓reduceIte]
 ·refine gF ?_ ?_<;>intro h2<;>simp (disch:=omega) only [Sh.out h2,go_sem,seval,↓reduceIte]
  ·rw [if_pos ⟨h1,.inl h2⟩] at hT;subst hT;exact we
  ·refine cD ?_ ?_<;>intro h3<;>simp (disch:=omega) only [Sh.out h3,go_sem,seval,↓reduceIte]
   ·rw [if_pos ⟨h1,.inr h3⟩] at hT;subst hT;exact we
   ·rw [if_neg Za] at hT;subst hT;exact we
 ·rw [if_neg Za] at hT;subst hT;exact we
theorem Dh {n:Nat} {m cov:Int} : ∀(f k:Nat),k<=BT n m cov f k
 | 0,k=>Zy _
 | f+1,k=>by
  rw [BT]
  split
  ·have:=Dh (n:=n) (m:=m) (cov:=cov) f (k+1);omega
  ·omega
theorem TA {n:Nat} {m cov:Int} : ∀(f k:Nat),k<=n->BT n m cov f k<=n
 | 0,k,h=>h
 | f+1,k,h=>by
  rw [BT]
  split
  ·rename_i hc;exact TA f (k+1) Za
  ·exact h
theorem eC {n:Nat} {m cov:Int} {k:Nat} (h:k<n) (hb:sHas cov k=true):k+1<=BT n m cov (n-k) k:=by
 grind [Fk,Dh]
theorem CT {l:List Int} {i j:Nat} {a:Int} (h:i<l.length):nth (l.set i a) j=if i=j then a else nth l j:=by
 grind [nth]
structure StV (n:Nat) (s:St):Prop where
 len:StR s
 ix:0<=s.ix/\s.ix<=n
 cov: ∃C:Nat,s.cov=C/\C<1024
 used: ∀j,j<6->0<=nth s.used j/\nth s.used j<=1048576
theorem Mr {n:Nat} {m:Int} {s:St} (h:StV n s):StV n (VD n m s)/\s.ix<=(VD n m s).ix:=by
 obtain ⟨h1,h2,h3,h4⟩:=h;have a:=Dh (n:=n) (m:=m) (cov:=s.cov) (n-s.ix.toNat) s.ix.toNat;have b:=TA (n:=n) (m:=m) (cov:=s.cov) (n-s.ix.toNat) s.ix.toNat Za;exact ⟨⟨h1,by grind [VD],h3,h4⟩,by grind [VD]⟩
theorem LZ {n:Nat} {m:Int} {s:St} (h:StV n s) (hi:s.ix<n):StV n (DT n m s)/\s.ix<(DT n m s).ix:=by
 have h':StV n { s with ix:=s.ix+1 } :=⟨h.len,by have:=h.ix;grind,h.cov,h.used⟩
 grind [Mr,DT]
theorem vL {C S k:Nat} (h:sHas (S:Int) k=true):sHas ((C|||S:Nat):Int) k=true:=by
 have key: ∀N:Nat,sHas (N:Int) k=true↔k<=62/\N.testBit k=true:=fun N=>by
  simp only [sHas,Zv,Zq,XD]
  grind
 grind
theorem wP {n:Nat} {m:Int} {s:St} {T C S:Nat} (h:StV n s) (hi:s.ix<n) (hC:C<1024) (hS:S<1024) (hb:sHas (S:Int) s.ix=true) (hT:T<6) (hu:nth s.used T<1048576):StV n (Dr n m s T C S)/\s.ix<(Dr n m s T C S).ix:=by
 have hor:C|||S<1024:=Ji (n:=10) hC hS;have hl:s.used.length=6:=h.len
 have h':StV n ⟨s.ix,((C|||S:Nat):Int),s.used.set T (nth s.used T+1)⟩:=by
  refine ⟨by grind [StR],h.ix,⟨_,rfl,hor⟩,fun j hj=> ?_⟩;simp only;rw [CT Za]
  split
  ·have:=h.used T hT;omega
  ·exact h.used j hj
 grind [Mr,eC,vL,Dr,VD]
def YN (x:Inst) (s:St) (c:Col):Bool:=EH x s c.typ.toNat s.cov.toNat c.set.toNat
def VX (n:Nat) (m:Int) (s:St) (c:Col):St:=Dr n m s c.typ.toNat s.cov.toNat c.set.toNat
def Wr (n:Nat) (m:Int) (x:Inst) (fst:List (List Col)) (sk:List Int):Nat->St->Int
 | 0,_=>0
 | d+1,s=>if (n:Int)<=s.ix then 0 else
  let o:=(nth fst s.ix.toNat).foldl (fun o c=>if YN x s c=true then Wb o c.price (Wr n m x fst sk d (VX n m s c)) else o) (-1)
  if 0<=nth sk s.ix.toNat then Wb o (nth sk s.ix.toNat) (Wr n m x fst sk d (DT n m s)) else o
structure ChOk (n:Nat) (x:Inst) (fst:List (List Col)) (sk:List Int):Prop where
 col: ∀i,i<n-> ∀c∈nth fst i,(0<=c.typ/\c.typ<x.types.length)/\(∃S:Nat,c.set=S/\S<1024)/\sHas c.set i=true/\0<=c.price/\c.price<=18014398509481984
 typ:x.types.length<=6/\ ∀t,t<6->(nth x.types t).count<=1048576
 skp: ∀i,i<n-> -1<=nth sk i/\nth sk i<=18014398509481984
theorem Fq {n:Nat} {m:Int} {x:Inst} {fst:List (List Col)} {sk:List Int} (hc:ChOk n x fst sk) {s:St} (h:StV n s) (hi:s.ix<n) {c:Col} (hm:c∈nth fst s.ix.toNat) (hy:YN x s c=true):StV n (VX n m s c)/\s.ix<(VX n m s c).ix:=by
 obtain ⟨⟨t0,t1⟩,⟨S,hS,hS2⟩,hb,_⟩:=hc.col _ (by have:=h.ix;omega) c hm;obtain ⟨C,hC,hC2⟩:=h.cov;have ht:=hc.typ.1;have hcnt:=hc.typ.2 c.typ.toNat Za;simp only [YN,EH,Zv,Zq] at hy;have hi0:=h.ix;rw [show ((s.ix.toNat:Nat):Int)=s.ix by omega] at hb;exact wP h hi Za Za (by grind) Za Za
theorem J6 {α β:Type} {f g:β->α->β} : ∀ {l:List α} {b:β},(∀a∈l,∀b,f b a=g b a)->l.foldl f b=l.foldl g b
 | [],_,_=>rfl
 | a::l,b,h=>by
  rw [XS,XS,h a Zb b];exact J6 fun a ha=>h a (Yo _ ha)
theorem JE {n:Nat} {m:Int} {x:Inst} {fst:List (List Col)} {sk:List Int} (hc:ChOk n x fst sk): ∀(d d':Nat) (s:St),StV n s->(n:Int)-s.ix<d->(n:Int)-s.ix<d'->Wr n m x fst sk d s=Wr n m x fst sk d' s
 | 0,_,s,h,h1,_=>by have:=h.ix;omega
 | _,0,s,h,_,h1=>by have:=h.ix;omega
 | d+1,d'+1,s,h,h1,h2=>by
  rw [Wr,Wr]
  split
  ·rfl
  ·rename_i hi
   have e1:(nth fst s.ix.toNat).foldl (fun o c=>if YN x s c=true then Wb o c.price (Wr n m x fst sk d (VX n m s c)) else o) (-1)=(nth fst s.ix.toNat).foldl (fun o c=>if YN x s c=true then Wb o c.price (Wr n m x fst sk d' (VX n m s c)) else o) (-1):=J6 fun c hm o=>by
    by_cases hy:YN x s c=true
    ·obtain ⟨v1,v2⟩:=Fq (m:=m) hc h Za hm hy;rw [if_pos hy,if_pos hy,JE hc d d' _ v1 Za Za]
    grind
   obtain ⟨v1,v2⟩:=LZ (m:=m) h Za;rw [JE hc d d' _ v1 Za Za];simp only [e1]
theorem MZ {o p r B:Int} (h1: -1<=o/\o<=B) (h2:0<=p) (h3:p+r<=B): -1<=Wb o p r/\Wb o p r<=B:=by
 grind [Wb]
theorem H4 {α β:Type} {f:β->α->β} {R:β->Prop} : ∀ {l:List α} {b:β},R b->(∀a∈l,∀b,R b->R (f b a))->R (l.foldl f b)
 | [],_,h,_=>h
 | a::l,b,h,hf=>by
  rw [XS];exact H4 (hf a Zb b h) fun a ha=>hf a (Yo _ ha)
theorem Uu {n:Nat} {m:Int} {x:Inst} {fst:List (List Col)} {sk:List Int} (hc:ChOk n x fst sk): ∀(d:Nat) (s:St),StV n s-> -1<=Wr n m x fst sk d s/\Wr n m x fst sk d s<=(d:Int)*18014398509481984
 | 0,s,h=>by simp [Wr]
 | d+1,s,h=>by
  rw [Wr]
  split
  ·omega
  ·rename_i hi;have i0:=h.ix
   have e1: -1<=(nth fst s.ix.toNat).foldl (fun o c=>if YN x s c=true then Wb o c.price (Wr n m x fst sk d (VX n m s c)) else o) (-1)/\(nth fst s.ix.toNat).foldl (fun o c=>if YN x s c=true then Wb o c.price (Wr n m x fst sk d (VX n m s c)) else o) (-1)<=((d+1:Nat):Int)*18014398509481984:=by
    refine H4 (R:=fun o:Int=> -1<=o/\o<=((d+1:Nat):Int)*18014398509481984) Za fun c hm o ho=> ?_
    split
    ·rename_i hy;obtain ⟨v1,v2⟩:=Fq (m:=m) hc h Za hm hy;have:=Uu (m:=m) hc d _ v1;have:=(hc.col _ Za c hm).2.2.2;exact MZ ho Za Za
    ·exact ho
   have hs:=hc.skp s.ix.toNat Za;obtain ⟨v1,v2⟩:=LZ (m:=m) h Za;have:=Uu (m:=m) hc d _ v1;simp only
   split
   ·exact MZ e1 Za Za
   ·exact e1
def WD (l:List Col):PV:= .list false (l.map Xv)
@[go_sem] theorem ZiH (l:List Col):WD l= .list false (l.map Xv):=Zm rfl rfl
def Ls (c:Col):AM.Obj:= .cells [.p (.int .i64 c.typ),.p (.int .i64 c.set),.p (.int .i64 c.price),.p (.int .i64 c.route.typ),.p (.int .i64 c.route.start),.p (.list c.route.rests_c (c.route.rests.map eB)),.p (.list c.route.visits_c (c.route.visits.map Xa))]
def yX (n:Nat) (m:Int) (x:Inst) (fst:List (List Col)) (sk:List Int) (l:List (St×Int)):Prop:= ∀p∈l,StV n p.1/\p.2=Wr n m x fst sk 20 p.1
theorem G2 {P Q:Prop} (h:Q) (e:Q->P:=by intro h;simp (disch:=omega) only [Wc,V0,BV,Zt,Zk,ZR,ZH,go_sem,seval];exact h):P:=e h
theorem ES (x:Inst) (fst:List (List Col)) (sk:List Int) (fc sc:Bool) (m:Int) (hn:x.orders.length<=10) (hf:fst.length=x.orders.length) (hs:sk.length=x.orders.length) (hc:ChOk x.orders.length x fst sk) (hcl: ∀r∈fst,r.length<=1048576) :
  ∀(d:Nat) (s:St) (l:List (St×Int)),d<=20->StV x.orders.length s->(x.orders.length:Int)-s.ix<d->yX x.orders.length m x fst sk l ->
   ACalls Tryz.prog 107 [.ptr 1 0,.p (Bi s)] (Wc x (.list fc (fst.map WD)) (.list sc (sk.map eI)) m l) fun y H'=> ∃l',yX x.orders.length m x fst sk l'/\y= .p (.int .i64 (Wr x.orders.length m x fst sk 20 s))/\H'=Wc x (.list fc (fst.map WD)) (.list sc (sk.map eI)) m l'
 | 0,s,l,_,hv,hd,_=>by have:=hv.ix;omega
 | d+1,s,l,hd0,hv,hd,hl=>by
  have ih:=ES x fst sk fc sc m hn hf hs hc hcl d;have hlR: ∀p∈l,StR p.1:=fun p hp=>(hl p hp).1.len;obtain ⟨i,v,a0,a1,a2,a3,a4,a5,rfl⟩:=Y0 hv.len;have hi:=hv.ix;simp only at hi hd;obtain ⟨i,rfl⟩: ∃k:Nat,i=k:=⟨i.toNat,Za⟩;obtain ⟨T,hT⟩: ∃T,T=Wr x.orders.length m x fst sk 20 ⟨i,v,[a0,a1,a2,a3,a4,a5]⟩:=⟨_,rfl⟩;rw [<- hT];refine Ze [] Tryz.func107 rfl Za3 ?_;simp (disch:=omega) only [Tryz.f107,Wc,V0,Zt,Zk,go_sem,seval];refine Xj ?_;refine Zd ?_;refine cD ?_ ?_<;>intro h1<;>simp (disch:=omega) only [Sh.out h1,go_sem,seval]
  ·rw [Wr,if_pos Za] at hT;subst hT;exact ⟨_,_,wk,l,hl,rfl,rfl⟩
  ·refine Xj (Zd ?_);refine jR (HD (k:=(⟨i,v,[a0,a1,a2,a3,a4,a5]⟩:St)) P5 hlR hv.len (by rfl)) (Zd ?_)
   cases hq:mq l (⟨i,v,[a0,a1,a2,a3,a4,a5]⟩:St) with
   | some w =>
    obtain ⟨_,hw⟩:=hl _ (ZdC hq);simp only at hw;rw [<- hw] at hT;subst hT;simp (disch:=omega) only [Kn,Kf,go_sem,seval];exact ⟨_,_,wk,l,hl,rfl,rfl⟩
   | none =>
    have hi2:i<fst.length:=Za
    have hi3:i<sk.length:=Za
    have hrl:=hcl _ (Z2 hi2);simp (disch:=omega) only [AI,Option.getD_none,go_sem,seval];refine Xj (Zd ?_)
    let F:Int->Col->Int:=fun o c=>if YN x ⟨i,v,[a0,a1,a2,a3,a4,a5]⟩ c=true then Wb o c.price (Wr x.orders.length m x fst sk 19 (VX x.orders.length m ⟨i,v,[a0,a1,a2,a3,a4,a5]⟩ c)) else o
    refine Zl [0,3,7,8,42,43] (fun q:Nat×List (St×Int)=> [(44,.p (.int .i64 q.1))]) (fun q=>Wc x (.list fc (fst.map WD)) (.list sc (sk.map eI)) m q.2++ [BV ⟨i,v,[a0,a1,a2,a3,a4,a5]⟩,.cells [.p (.int .i64 (((nth fst i).take q.1).foldl F (-1)))]]) (fun q=>q.1<=(nth fst i).length/\yX x.orders.length m x fst sk q.2) (fun q=>(nth fst i).length-q.1) (0,l) ⟨Zb,hl⟩ (Weak.mk ?_) ?_
    ·simp (disch:=omega) only [Wc,V0,BV,Zt,Zk,ZR,ZH,Jj,UQ,go_sem,seval,↓reduceIte]
    ·rintro ⟨k,l1⟩ ⟨hk,hl1⟩;simp only at hk hl1;have hl1R: ∀p∈l1,StR p.1:=fun p hp=>(hl1 p hp).1.len;generalize hacc:((nth fst i).take k).foldl F (-1)=acc;refine G2 ?_;refine cD ?_ ?_<;>intro h2<;>simp (disch:=omega) only [Sh.out h2,go_sem,seval,↓reduceIte]
     ·have hk2:k<(nth fst i).length:=Za
      have hm:=Z2 hk2
      have hs1:((nth fst i).take (k+1)).foldl F (-1)=F acc (nth (nth fst i) k):=by
       grind [X3,Zi]
      obtain ⟨⟨t0,t1⟩,⟨S,hS,hS2⟩,hb,hp0,hp1⟩:=hc.col i Za _ hm;obtain ⟨C,hC,hC2⟩:=hv.cov;simp only at hC;have h6:=hc.typ.1;obtain ⟨tt,htt⟩: ∃tt:Nat,(nth (nth fst i) k).typ=tt:=⟨(nth (nth fst i) k).typ.toNat,Za⟩;have cw:=pX x (.list fc (fst.map WD)) (.list sc (sk.map eI)) m l1 ⟨i,v,[a0,a1,a2,a3,a4,a5]⟩ (nth (nth fst i) k) hv.len Zb hn (by grind) C S tt hC hS htt hC2 hS2 Za h6 hv.used
      have hmay:YN x ⟨i,v,[a0,a1,a2,a3,a4,a5]⟩ (nth (nth fst i) k)=EH x ⟨i,v,[a0,a1,a2,a3,a4,a5]⟩ tt C S:=by grind [YN,XD]
      have hwc:VX x.orders.length m ⟨i,v,[a0,a1,a2,a3,a4,a5]⟩ (nth (nth fst i) k)=Dr x.orders.length m ⟨i,v,[a0,a1,a2,a3,a4,a5]⟩ tt C S:=by grind [VX]
      by_cases hy:EH x ⟨i,v,[a0,a1,a2,a3,a4,a5]⟩ tt C S=true
      ·obtain ⟨v1,v2⟩:=Fq (m:=m) hc hv (by grind) (by simpa using hm) (by grind);rw [hwc] at v1 v2;obtain ⟨j,w,b0,b1,b2,b3,b4,b5,hw⟩:=Y0 v1.len;rw [if_pos hy,hw] at cw;refine cw.useP (L:= [_,_,_]) (by rfl) ?_ (by rfl) (by rfl);refine BW ?_;refine Bz [5] [1,2] [4] 6 mixed Zg Zg Zg Zg Zb (Zd ?_);refine ⟨fun q hq p hp=> ?_,?_⟩
       ·simp only [Z7,Vd,Wi] at hq;rcases hq with rfl | rfl
        ·obtain rfl:10=p:=WR hp;exact V8 (by decide)
        ·obtain rfl:57=p:=WR hp;exact V8 (by decide)
       ·have c3:=((ih ⟨j,w,[b0,b1,b2,b3,b4,b5]⟩ l1 Za (hw ▸ v1) (by grind) hl1).mono (fun y H' hq=>(⟨hq,by obtain ⟨l',_,_,rfl⟩:=hq;rfl⟩:_/\H'.length=(Wc x (.list fc (fst.map WD)) (.list sc (sk.map eI)) m l1).length))).front (by rfl) (by rfl) [BV ⟨i,v,[a0,a1,a2,a3,a4,a5]⟩,.cells [.p (.int .i64 acc)],Ls (nth (nth fst i) k),BV ⟨j,w,[b0,b1,b2,b3,b4,b5]⟩];refine Ie 5 _ Zg (by refine Zd ?_;exact c3) ?_;rintro y H' ⟨H1,⟨l2,hl2,rfl,rfl⟩,rfl⟩;refine ⟨fun k hk=>by simp at hk;subst hk;rfl,LQ ?_⟩;simp (disch:=omega) only [Wc,V0,BV,Ls,Zt,Zk,ZR,ZH,go_sem,seval]
        have hrg:=Uu (m:=m) hc 20 _ v1;rw [hw] at hrg;have c4:=(((M0 acc (nth (nth fst i) k).price (Wr x.orders.length m x fst sk 20 ⟨j,w,[b0,b1,b2,b3,b4,b5]⟩) Za Za).back [.map (l2.map (Nj Bi)),V0 x (.list fc (fst.map WD)) (.list sc (sk.map eI)) m,BV ⟨i,v,[a0,a1,a2,a3,a4,a5]⟩] (by rfl)).mono (fun y H' hq=>(⟨hq,by grind⟩:_/\H'.length=4))).front (by rfl) (by rfl) [Ls (nth (nth fst i) k),BV ⟨j,w,[b0,b1,b2,b3,b4,b5]⟩];refine ACalls.mono c4 ?_;rintro y H' ⟨H1,⟨y1,H2,⟨rfl,rfl⟩,rfl,rfl⟩,rfl⟩;simp (disch:=omega) only [V0,BV,Ls,Zt,Zk,ZR,ZH,shO,shVs,shV,go_sem,seval]
        have hF:F acc (nth (nth fst i) k)=Wb acc (nth (nth fst i) k).price (Wr x.orders.length m x fst sk 20 ⟨j,w,[b0,b1,b2,b3,b4,b5]⟩):=by
         show (if _ then _ else _)=_
         rw [if_pos (by grind),hwc,JE hc 19 20 _ v1 (by grind) (by grind),hw]
        exact ⟨(k+1,l2),⟨Za,hl2⟩,Za,Weak.mk (by simp (disch:=omega) only [hs1,hF,go_sem,seval])⟩
      ·rw [if_neg hy] at cw;refine cw.useP (L:= [_,_,_]) (by rfl) ?_ (by rfl) (by rfl);refine BW ?_;have hF:F acc (nth (nth fst i) k)=acc:=if_neg (by grind);exact ⟨(k+1,l1),⟨Za,hl1⟩,Za,Weak.mk (by simp (disch:=omega) only [hs1,hF,go_sem,seval])⟩
     ·have hkl:k=(nth fst i).length:=Za
      subst hkl;rw [X1] at hacc
      have hTe:T=if 0<=nth sk i then Wb acc (nth sk i) (Wr x.orders.length m x fst sk 19 (DT x.orders.length m ⟨i,v,[a0,a1,a2,a3,a4,a5]⟩)) else acc:=by
       rw [hT,show (20:Nat)=19+1 from rfl,Wr,if_neg Za,<- hacc]
       rfl
      refine Xj (Zd ?_);refine cD ?_ ?_<;>intro h3<;>simp (disch:=omega) only [Sh.out h3,go_sem,seval,↓reduceIte]
      ·have cn:=IW x (.list fc (fst.map WD)) (.list sc (sk.map eI)) m l1 ⟨i,v,[a0,a1,a2,a3,a4,a5]⟩ hv.len Zb hn (by grind);obtain ⟨v1,v2⟩:=LZ (m:=m) hv (by grind);obtain ⟨j,w,b0,b1,b2,b3,b4,b5,hw⟩:=Y0 v1.len;have hsk:=hc.skp i Za;have hrg:=Uu (m:=m) hc 20 _ v1;rw [hw] at cn v1 v2 hrg;simp only at v2;refine cn.useP (L:= [_,_]) (by rfl) ?_ (by rfl) (by rfl);refine BW ?_;have c3:=((ih ⟨j,w,[b0,b1,b2,b3,b4,b5]⟩ l1 Za v1 (by grind) hl1).mono (fun y H' hq=>(⟨hq,by obtain ⟨l',_,_,rfl⟩:=hq;rfl⟩:_/\H'.length=(Wc x (.list fc (fst.map WD)) (.list sc (sk.map eI)) m l1).length))).front (by rfl) (by rfl) [BV ⟨i,v,[a0,a1,a2,a3,a4,a5]⟩,.cells [.p (.int .i64 acc)]]
       refine ACalls.mono c3 ?_;rintro y H' ⟨H1,⟨l2,hl2,rfl,rfl⟩,rfl⟩;refine G2 ?_;refine ACalls.mono ((M0 acc (nth sk i) (Wr x.orders.length m x fst sk 20 ⟨j,w,[b0,b1,b2,b3,b4,b5]⟩) Za Za).back [.map (l2.map (Nj Bi)),V0 x (.list fc (fst.map WD)) (.list sc (sk.map eI)) m,BV ⟨i,v,[a0,a1,a2,a3,a4,a5]⟩] (by rfl)) ?_;rintro y H' ⟨y1,H2,⟨rfl,rfl⟩,rfl,rfl⟩;simp (disch:=omega) only [V0,BV,Zt,Zk,ZR,ZH,shO,shVs,shV,go_sem,seval];refine ZF 6 mixed Zg Zg ?_
       refine Zd ?_;refine Md (l:=l2) (k:=(⟨i,v,[a0,a1,a2,a3,a4,a5]⟩:St)) P5 (fun p hp=>(hl2 p hp).1.len) hv.len (by rfl) fun l3 _ hl3=> ?_;simp (disch:=omega) only [ZG,go_sem,seval];rw [if_pos h3,JE hc 19 20 _ (by grind) (by grind) (by grind),hw] at hTe;rw [<- hTe];exact ⟨.p (.int .i64 T),_,wk,l3,fun p hp=>(hl3 p hp).elim (hl2 p) (fun e=>by grind),rfl,rfl⟩
      ·refine ZF 6 mixed Zg Zg (Zd ?_);refine Md (l:=l1) (k:=(⟨i,v,[a0,a1,a2,a3,a4,a5]⟩:St)) P5 hl1R hv.len (by rfl) fun l3 _ hl3=> ?_;simp (disch:=omega) only [ZG,go_sem,seval];rw [if_neg h3] at hTe;rw [<- hTe];exact ⟨.p (.int .i64 T),_,wk,l3,fun p hp=>(hl3 p hp).elim (hl1 p) (fun e=>by grind),rfl,rfl⟩
def Mq (n:Nat) (m:Int) (x:Inst) (fst:List (List Col)) (sk:List Int) (s:St) (c:Col):Bool :=
 YN x s c&&(decide (0<=Wr n m x fst sk 20 (VX n m s c))&&decide (c.price+Wr n m x fst sk 20 (VX n m s c)=Wr n m x fst sk 20 s))
def YA (n:Nat) (m:Int) (x:Inst) (fst:List (List Col)) (sk:List Int):Nat->St->List Col×List Int
 | 0,_=>([],[])
 | d+1,s=>if (n:Int)<=s.ix then ([],[]) else match (nth fst s.ix.toNat).find? (Mq n m x fst sk s) with
  | some c=>(c::(YA n m x fst sk d (VX n m s c)).1,(YA n m x fst sk d (VX n m s c)).2)
  | none=>((YA n m x fst sk d (DT n m s)).1,s.ix::(YA n m x fst sk d (DT n m s)).2)
theorem Nr {α:Type} [Inhabited α] {p:α->Bool} : ∀ {l:List α} {k:Nat},k<l.length->(∀j,j<k->p (nth l j)=false)->p (nth l k)=true->l.find? p=some (nth l k)
 | [],_,h,_,_=>by simp at h
 | a::l,0,_,_,h=>by
  grind [nth]
 | a::l,k+1,hk,h0,h=>by
  rw [List.find?_cons_of_neg (by rw [show p a=false from h0 0 Za];simp)];exact Nr (l:=l) (k:=k) (by simpa using hk) (fun j hj=>h0 (j+1) Za) h
theorem sX {α:Type} [Inhabited α] {p:α->Bool} {l:List α} (h: ∀j,j<l.length->p (nth l j)=false):l.find? p=none:=by
 rw [Kb];intro a ha;obtain ⟨j,hj,rfl⟩:=ZU.1 ha
 grind [Zi]
theorem ZdR (X:AM.Obj) (hX: ∀H n,Ft H n X X) (hX2: ∀o xs,SH o xs X=X) (x:Inst) (fst:List (List Col)) (sk:List Int) (fc sc:Bool) (m:Int) (hn:x.orders.length<=10) (hf:fst.length=x.orders.length) (hs:sk.length=x.orders.length) (hc:ChOk x.orders.length x fst sk) (hcl: ∀r∈fst,r.length<=1048576)
  (s:St) (l:List (St×Int)) (hv:StV x.orders.length s) (hl:yX x.orders.length m x fst sk l) :
  ACalls Tryz.prog 108 [.ptr 1 0,.p (Bi s)] (Wc x (.list fc (fst.map WD)) (.list sc (sk.map eI)) m l++ [X]) fun y H'=> ∃l' A B,yX x.orders.length m x fst sk l'/\(A,B)=YA x.orders.length m x fst sk 20 s /\
   y= .tup [.sl 4 0 A.length A.length,.p (.list false (B.map eI))]/\H'=Wc x (.list fc (fst.map WD)) (.list sc (sk.map eI)) m l'++ [X,.cells (List.replicate 8 .junk),.elems 7 (A.map Xv)]:=by
 obtain ⟨i,v,a0,a1,a2,a3,a4,a5,rfl⟩:=Y0 hv.len;obtain ⟨D,hD⟩: ∃D,D=20:=⟨20,rfl⟩;obtain ⟨R,hR⟩: ∃R,R=YA x.orders.length m x fst sk D ⟨i,v,[a0,a1,a2,a3,a4,a5]⟩:=⟨_,rfl⟩;rw [<- hD,<- hR];have hi0:=hv.ix;simp only at hi0;refine Ze [20] Tryz.func108 rfl Za4 ?_;simp (disch:=omega) only [Tryz.f108,ZR,ZH,Wc,V0,Zt,Zk,go_sem,seval]
 refine Z3 [20] [0,3] (fun q:Nat×St×List (St×Int)×List Col×List Int=> [(6,.sl 4 0 q.2.2.2.1.length q.2.2.2.1.length),(7,.sl 5 0 q.2.2.2.2.length q.2.2.2.2.length)])
  (fun q=>Wc x (.list fc (fst.map WD)) (.list sc (sk.map eI)) m q.2.2.1++ [X,BV q.2.1,.elems 7 (q.2.2.2.1.map Xv),.elems 1 (q.2.2.2.2.map eI)])
  (fun q=>q.1<=D/\StV x.orders.length q.2.1/\(x.orders.length:Int)-q.2.1.ix<q.1/\yX x.orders.length m x fst sk q.2.2.1/\(q.2.2.2.1.length:Int)<=q.2.1.ix/\(q.2.2.2.2.length:Int)<=q.2.1.ix/\R=(q.2.2.2.1++(YA x.orders.length m x fst sk q.1 q.2.1).1,q.2.2.2.2++(YA x.orders.length m x fst sk q.1 q.2.1).2))
  (fun q=>q.1) (D,⟨i,v,[a0,a1,a2,a3,a4,a5]⟩,l,[],[]) ⟨Zb,hv,by grind,hl,by grind,by grind,by rw [hR];rfl⟩
  (Weak.ofNil 6 7 (by simp (disch:=omega) only [go_sem,seval]) Zb (Weak.ofNil 7 1 (by simp (disch:=omega) only [go_sem,seval]) Zb (Weak.mk ?_))) ?_
 ·simp (disch:=omega) only [hX,Wc,V0,BV,Zt,Zk,ZR,ZH,ZJ,go_sem,seval,↓reduceIte]
 ·rintro ⟨d,s,l1,A,B⟩ ⟨hd1,hsv,hd,hl1,hA,hB,hq⟩;simp only at hd1 hsv hd hl1 hA hB hq;clear hv hR hi0;obtain ⟨i,v,a0,a1,a2,a3,a4,a5,rfl⟩:=Y0 hsv.len;have hi0:=hsv.ix;simp only at hi0 hd hA hB hq;obtain ⟨i,rfl⟩: ∃k:Nat,i=k:=⟨i.toNat,Za⟩;obtain ⟨d,rfl⟩: ∃k,d=k+1:=⟨d-1,Za⟩;refine G2 ?_;refine Xj ?_;refine Zd ?_;refine cD ?_ ?_<;>intro h1<;>simp (disch:=omega) only [Sh.out h1,go_sem,seval,↓reduceIte]
  ·have hi2:i<fst.length:=Za
   have hrl:=hcl _ (Z2 hi2);have c3:=((ES x fst sk fc sc m hn hf hs hc hcl 20 ⟨i,v,[a0,a1,a2,a3,a4,a5]⟩ l1 Za hsv (by grind) hl1).mono (fun y H' hq=>(⟨hq,by obtain ⟨l',_,_,rfl⟩:=hq;rfl⟩:_/\H'.length=(Wc x (.list fc (fst.map WD)) (.list sc (sk.map eI)) m l1).length))).front (by rfl) (by rfl) [X,BV ⟨i,v,[a0,a1,a2,a3,a4,a5]⟩,.elems 7 (A.map Xv),.elems 1 (B.map eI)];refine ACalls.mono c3 ?_;rintro y H' ⟨H1,⟨l2,hl2,rfl,rfl⟩,rfl⟩;clear hl1 c3;obtain ⟨W,hW⟩: ∃W,W=Wr x.orders.length m x fst sk 20 ⟨i,v,[a0,a1,a2,a3,a4,a5]⟩:=⟨_,rfl⟩
   rw [<- hW]
   have hWr: -1<=W/\W<=20*18014398509481984:=by rw [hW];exact Uu hc 20 _ hsv
   refine G2 ?_;refine Xj (Zd ?_);refine Zl [0,3,7,8,34,35] (fun q:Nat×List (St×Int)=> [(6,.sl 4 0 A.length A.length),(9,.p (.bool false)),(36,.p (.int .i64 q.1))]) (fun q=>Wc x (.list fc (fst.map WD)) (.list sc (sk.map eI)) m q.2++ [X,BV ⟨i,v,[a0,a1,a2,a3,a4,a5]⟩,.elems 7 (A.map Xv),.elems 1 (B.map eI)]) (fun q=>q.1<=(nth fst i).length/\yX x.orders.length m x fst sk q.2/\ ∀j,j<q.1->Mq x.orders.length m x fst sk ⟨i,v,[a0,a1,a2,a3,a4,a5]⟩ (nth (nth fst i) j)=false) (fun q=>(nth fst i).length-q.1) (0,l2) ⟨Zb,hl2,fun j hj=>by simp at hj⟩ (Weak.mk ?_) ?_
   ·simp (disch:=omega) only [hX,Wc,V0,BV,Zt,Zk,ZR,ZH,go_sem,seval,↓reduceIte]
   ·rintro ⟨k,l1⟩ ⟨hk,hl1,hno⟩;simp only at hk hl1 hno;refine G2 ?_;refine cD ?_ ?_<;>intro h2<;>simp (disch:=omega) only [Sh.out h2,go_sem,seval,↓reduceIte]
    ·have hk2:k<(nth fst i).length:=Za
     have hm:=Z2 hk2;obtain ⟨⟨t0,t1⟩,⟨S,hS,hS2⟩,hb,hp0,hp1⟩:=hc.col i Za _ hm;obtain ⟨C,hC,hC2⟩:=hsv.cov;simp only at hC;have h6:=hc.typ.1;obtain ⟨tt,htt⟩: ∃tt:Nat,(nth (nth fst i) k).typ=tt:=⟨(nth (nth fst i) k).typ.toNat,Za⟩;have cw:=pX x (.list fc (fst.map WD)) (.list sc (sk.map eI)) m l1 ⟨i,v,[a0,a1,a2,a3,a4,a5]⟩ (nth (nth fst i) k) hsv.len Zb hn (by grind) C S tt hC hS htt hC2 hS2 Za h6 hsv.used
     have hmay:YN x ⟨i,v,[a0,a1,a2,a3,a4,a5]⟩ (nth (nth fst i) k)=EH x ⟨i,v,[a0,a1,a2,a3,a4,a5]⟩ tt C S:=by grind [YN]
     have hwc:VX x.orders.length m ⟨i,v,[a0,a1,a2,a3,a4,a5]⟩ (nth (nth fst i) k)=Dr x.orders.length m ⟨i,v,[a0,a1,a2,a3,a4,a5]⟩ tt C S:=by grind [VX]
     have more:Mq x.orders.length m x fst sk ⟨i,v,[a0,a1,a2,a3,a4,a5]⟩ (nth (nth fst i) k)=false-> ∀j,j<k+1->Mq x.orders.length m x fst sk ⟨i,v,[a0,a1,a2,a3,a4,a5]⟩ (nth (nth fst i) j)=false:=fun h j hj=>by
      grind
     by_cases hy:EH x ⟨i,v,[a0,a1,a2,a3,a4,a5]⟩ tt C S=true
     ·obtain ⟨v1,v2⟩:=Fq (m:=m) hc hsv Za (by simpa using hm) (by grind);rw [hwc] at v1 v2;obtain ⟨j,w,b0,b1,b2,b3,b4,b5,hw⟩:=Y0 v1.len;rw [if_pos hy,hw] at cw;refine cw.useP (L:= [_,_,_,_,_]) (by rfl) ?_ (by rfl) (by rfl);refine BW ?_;have c3:=((ES x fst sk fc sc m hn hf hs hc hcl 20 ⟨j,w,[b0,b1,b2,b3,b4,b5]⟩ l1 Za (hw ▸ v1) (by grind) hl1).mono (fun y H' hq=>(⟨hq,by obtain ⟨l',_,_,rfl⟩:=hq;rfl⟩:_/\H'.length=(Wc x (.list fc (fst.map WD)) (.list sc (sk.map eI)) m l1).length))).front (by rfl) (by rfl) [X,BV ⟨i,v,[a0,a1,a2,a3,a4,a5]⟩,.elems 7 (A.map Xv),.elems 1 (B.map eI),Ls (nth (nth fst i) k),BV ⟨j,w,[b0,b1,b2,b3,b4,b5]⟩]
      refine ACalls.mono c3 ?_;rintro y H' ⟨H1,⟨l3,hl3,rfl,rfl⟩,rfl⟩;have hTr:=Uu (m:=m) hc 20 _ v1
      have hsel:Mq x.orders.length m x fst sk ⟨i,v,[a0,a1,a2,a3,a4,a5]⟩ (nth (nth fst i) k)=(decide (0<=Wr x.orders.length m x fst sk 20 ⟨j,w,[b0,b1,b2,b3,b4,b5]⟩)&&decide ((nth (nth fst i) k).price+Wr x.orders.length m x fst sk 20 ⟨j,w,[b0,b1,b2,b3,b4,b5]⟩=W)):=by
       rw [Mq,hmay,hy,hwc,hw,hW,VQ]
      rw [hw] at hTr;generalize Wr x.orders.length m x fst sk 20 ⟨j,w,[b0,b1,b2,b3,b4,b5]⟩=T at hTr hsel;simp (disch:=omega) only [Wc,V0,BV,Ls,Zt,Zk,ZR,ZH,go_sem,seval];refine gT ?_ ?_<;>intro h3<;>simp (disch:=omega) only [Sh.out h3,go_sem,seval,↓reduceIte]
      ·refine cD ?_ ?_<;>intro h4<;>simp (disch:=omega) only [Sh.out h4,go_sem,seval,↓reduceIte]
       ·rw [Ud h3,Ud h4,VQ] at hsel
        have hp:YA x.orders.length m x fst sk (d+1) ⟨i,v,[a0,a1,a2,a3,a4,a5]⟩=(nth (nth fst i) k::(YA x.orders.length m x fst sk d ⟨j,w,[b0,b1,b2,b3,b4,b5]⟩).1,(YA x.orders.length m x fst sk d ⟨j,w,[b0,b1,b2,b3,b4,b5]⟩).2):=by
         rw [YA,if_neg (by grind)];simp only [XD,Nr hk2 hno hsel,hwc,hw]
        rw [hw] at v1 v2;simp only at v2;rw [hp] at hq;exact ⟨(d,⟨j,w,[b0,b1,b2,b3,b4,b5]⟩,l3,A++ [nth (nth fst i) k],B),⟨Za,v1,by grind,hl3,by grind,by grind,by grind⟩,Za,Weak.mk (by simp (disch:=omega) only [hX,Zt,Zk,Xy,ZA,ZE,ZJ,Xs,go_sem,seval])⟩
       ·rw [Vs h4,Bool.and_false] at hsel;exact ⟨(k+1,l3),⟨Za,hl3,more hsel⟩,Za,Weak.mk (by simp (disch:=omega) only [hX,go_sem,seval])⟩
      ·rw [Vs h3,QQ] at hsel;exact ⟨(k+1,l3),⟨Za,hl3,more hsel⟩,Za,Weak.mk (by simp (disch:=omega) only [hX,go_sem,seval])⟩
     ·rw [if_neg hy] at cw;refine cw.useP (L:= [_,_,_,_,_]) (by rfl) ?_ (by rfl) (by rfl);refine BW ?_;exact ⟨(k+1,l1),⟨Za,hl1,more (by rw [Mq,hmay,Bool.eq_false_iff.2 hy,QQ])⟩,Za,Weak.mk (by simp (disch:=omega) only [hX,go_sem,seval])⟩
    ·have hkl:k=(nth fst i).length:=Za
     subst hkl
     have hp:YA x.orders.length m x fst sk (d+1) ⟨i,v,[a0,a1,a2,a3,a4,a5]⟩=((YA x.orders.length m x fst sk d (DT x.orders.length m ⟨i,v,[a0,a1,a2,a3,a4,a5]⟩)).1,(i:Int)::(YA x.orders.length m x fst sk d (DT x.orders.length m ⟨i,v,[a0,a1,a2,a3,a4,a5]⟩)).2):=by
      simp_all [YA,sX]
     rw [hp] at hq;have cn:=IW x (.list fc (fst.map WD)) (.list sc (sk.map eI)) m l1 ⟨i,v,[a0,a1,a2,a3,a4,a5]⟩ hsv.len Zb hn (by grind);obtain ⟨v1,v2⟩:=LZ (m:=m) hsv Za;obtain ⟨j,w,b0,b1,b2,b3,b4,b5,hw⟩:=Y0 v1.len;rw [hw] at cn v1 v2 hq;simp only at v2;refine cn.useP (L:= [_,_,_,_,_]) (by rfl) ?_ (by rfl) (by rfl);refine BW ?_;exact ⟨(d,⟨j,w,[b0,b1,b2,b3,b4,b5]⟩,l1,A,B++ [(i:Int)]),⟨Za,v1,by grind,hl1,by grind,by grind,by grind⟩,Za,Weak.mk (by simp (disch:=omega) only [hX,Zt,Zk,Xy,ZA,ZE,ZJ,Xs,go_sem,seval])⟩
  ·rw [YA,if_pos (by grind)] at hq;simp only [Yp] at hq;subst hq;refine Zp (Weak.fz (o:=5) (by rfl)) (Zh [] _ _ _ _ (JQ ?_));exact ⟨.tup [.sl 4 0 A.length A.length,.p (.list false (B.map eI))],_,Weak.mk (by simp (disch:=omega) only [hX,hX2,go_sem,seval]),l1,A,B,hl1,rfl,rfl,rfl⟩
def LA (a:List Int) (i:Nat):Nat->Bool
 | 0=>true
 | k+1=>LA a i k&&decide (nth a k≠nth a i)
theorem Ny {a:List Int} {i:Nat} : ∀k,LA a i k=true↔ ∀t,t<k->nth a t≠nth a i
 | 0=>by simp [LA]
 | k+1=>by
  rw [LA,Zv,Ny k,Zq]
  grind
def bI (a:List Int) (i:Nat):Bool:=LA a i i
theorem Cr {a:List Int} {i:Nat} :bI a i=true↔ ∀t,t<i->nth a t≠nth a i:=Ny i
def An (l:List Col) (a:List Int) (T:Int) (i:Nat):Bool:=decide (0<=nth a i)&&(decide ((nth l (nth a i).toNat).typ=T)&&bI a i)
def usdI (l:List Col) (a:List Int) (T:Int):Nat->Nat
 | 0=>0
 | i+1=>usdI l a T i+(if An l a T i=true then 1 else 0)
def VV (S:Nat) (a:List Int) (j:Int):List Int:=(List.range a.length).map fun i=>if S.testBit i=true then j else nth a i
theorem UC {S:Nat} {a:List Int} {j:Int} :(VV S a j).length=a.length:=by simp [VV]
theorem XC {S:Nat} {a:List Int} {j:Int} {i:Nat} (h:i<a.length):nth (VV S a j) i=if S.testBit i=true then j else nth a i:=by
 grind [VV,Zi]
def uB (S:Nat) (a:List Int) (k:Nat):Bool:=(List.range a.length).all fun i=> !S.testBit i||(decide (nth a i<0)&&decide (k<=i))
theorem Kq {S:Nat} {a:List Int} {k:Nat} :uB S a k=true↔ ∀i,i<a.length->S.testBit i=true->nth a i<0/\k<=i:=by
 simp only [uB,ZD,ZO,Vr,XN,Zv,Zq]
 grind
def BB (x:Inst) (l:List Col) (a:List Int) (j k:Nat):Bool :=
 (nth l j).set.toNat.testBit k&&(decide ((usdI l a (nth l j).typ a.length:Int)<(nth x.types (nth l j).typ.toNat).count)&&uB (nth l j).set.toNat a k)
def skR (x:Inst) (k:Nat):Int:=(YP (unsF x k).1).1
def KC (x:Inst) (l:List Col):Nat->List Int->Int->List (List Int×Int)
 | 0,a,p=> [(a,p)]
 | d+1,a,p=>if (nth x.orders (x.orders.length-(d+1))).off=true\/0<=nth a (x.orders.length-(d+1)) then KC x l d a p else
  ((List.range l.length).flatMap fun j=>if BB x l a j (x.orders.length-(d+1))=true then KC x l d (VV (nth l j).set.toNat a j) (p+(nth l j).price) else []) ++
   (if 0<=(nth x.orders (x.orders.length-(d+1))).penalty then KC x l d a (p+skR x (x.orders.length-(d+1))) else [])
theorem Li (n:Nat) (hn:n<=60):PC 86 [.p (.int .i64 n)] (.int .i64 (pw n:Nat)):=by
 refine Zc Tryz.func86 rfl Zj4 ?_;simp (disch:=omega) only [Tryz.f86,go_sem,seval];refine Zl [0] (fun k:Nat=> [(3,.p (.int .i64 (pw k:Nat))),(4,.p (.int .i64 k))]) (fun _=> []) (fun k=>k<=n) (fun k=>n-k) 0 Zb (Weak.mk ?_) ?_
 ·refine Zd ?_;simp [pw]
 ·intro k hk;have h62:pw k<=pw 62:=KD Za;have h63:k<n->pw (k+1)<=pw 62:=fun h=>KD Za;have h64:=Fj k;have h65:=GD;refine Zd ?_;refine cD ?_ ?_<;>intro h<;>simp (disch:=omega) only [Sh.out h,go_sem,seval,↓reduceIte]
  ·exact ⟨k+1,Za,Za,Weak.mk (by refine Zd ?_;simp [h64])⟩
  grind
theorem LG (s:Nat) (i:Nat) (hs:s<9223372036854775808) (hi:i<=64):PC 151 [.p (.int .i64 s),.p (.int .i64 i)] (.bool (s.testBit i)):=by
 refine Zc Tryz.func151 rfl Zbu ?_;simp (disch:=omega) only [Tryz.f151,go_sem,seval];refine Zl [1] (fun k:Nat=> [(0,.p (.int .i64 (hv s k:Nat))),(5,.p (.int .i64 k))]) (fun _=> []) (fun k=>k<=i) (fun k=>i-k) 0 Zb (Weak.mk ?_) ?_
 ·simp (disch:=omega) only [SN,go_sem,seval]
 ·intro k hk;have e1:=SM s k;have h1:=xV s k;refine Zd ?_;refine Z0 ?_ ?_<;>intro h
  ·exact ⟨k+1,Za,Za,Weak.mk (by refine Zd ?_;grind)⟩
  ·have:k=i:=Za
   subst this;rw [kW]
   have:((hv s k:Nat):Int)%2=1↔hv s k%2=1:=Za
   grind
structure Chc where
 found:Bool
 places:List Int
 price:Int
 deriving Inhabited
def UW (x:Inst) (lc:Bool) (l:List Col) (b:Chc):AM.Obj:= .cells [.p (.list x.net.places_c (x.net.places.map eS)),.p (.list x.net.arcs_c (x.net.arcs.map V1)),.p (.list x.types_c (x.types.map X7)),.p (.list x.orders_c (x.orders.map eOrd)),.p (.list x.apart_c (x.apart.map eP)),.p (.list x.before_c (x.before.map eP)),.p (.list lc (l.map Xv)),.p (.bool b.found),.p (.list (!b.found) (b.places.map eI)),.p (.int .i64 b.price)]
theorem TN {l:List Col} {a:List Int} {T:Int} : ∀m,usdI l a T m<=m
 | 0=>Zy _
 | m+1=>by
  have:=TN (l:=l) (a:=a) (T:=T) m;rw [usdI];split<;>omega
theorem Dm {P Q:Prop} (h:Q) (e:Q->P:=by intro h;simp (disch:=omega) only [UW,go_sem,seval];exact h):P:=e h
theorem pQ (x:Inst) (lc:Bool) (l:List Col) (b:Chc) (a:List Int) (T:Int) (ha:a.length<=1048576) (hr: ∀i,i<a.length-> -1<=nth a i/\nth a i<l.length) (hl:l.length<=1048576) :
  ACalls Tryz.prog 153 [.ptr 0 0,.p (.list false (a.map eI)),.p (.int .i64 T)] [UW x lc l b] fun y H'=>y= .p (.int .i64 (usdI l a T a.length:Nat))/\H'= [UW x lc l b]:=by
 refine Ze [] Tryz.func153 rfl Zbw ?_;simp (disch:=omega) only [Tryz.f153,UW,go_sem,seval];refine Zl [0,1,2] (fun k:Nat=> [(7,.p (.int .i64 (usdI l a T k:Nat))),(8,.p (.int .i64 k))]) (fun _=> [UW x lc l b]) (fun k=>k<=a.length) (fun k=>a.length-k) 0 Zb (Weak.mk ?_) ?_
 ·have h00:((usdI l a T 0:Nat):Int)=0:=rfl;simp (disch:=omega) only [h00,UW,go_sem,seval,↓reduceIte]
 ·intro k hk;have hu:=TN (l:=l) (a:=a) (T:=T) k;refine Dm ?_;refine cD ?_ ?_<;>intro h1<;>simp (disch:=omega) only [Sh.out h1,go_sem,seval,↓reduceIte]
  ·have hk2:k<a.length:=Za
   have hrk:=hr k hk2;refine Xj (Zd ?_);refine gF ?_ ?_<;>intro h2<;>simp (disch:=omega) only [Sh.out h2,go_sem,seval,↓reduceIte]
   ·have e:usdI l a T (k+1)=usdI l a T k:=by grind [usdI,An]
    exact ⟨k+1,Za,Za,Weak.mk (by simp (disch:=omega) only [e,go_sem,seval])⟩
   ·refine cD ?_ ?_<;>intro h3<;>simp (disch:=omega) only [Sh.out h3,go_sem,seval,↓reduceIte]
    ·have e:usdI l a T (k+1)=usdI l a T k:=by grind [usdI,An]
     exact ⟨k+1,Za,Za,Weak.mk (by simp (disch:=omega) only [e,go_sem,seval])⟩
    ·have h3':(nth l (nth a k).toNat).typ=T:=Z1.1 h3;refine Zl [0,1,2,7,8] (fun q:Nat=> [(9,.p (.bool (LA a k q))),(10,.p (.int .i64 q))]) (fun _=> [UW x lc l b]) (fun q=>q<=k) (fun q=>k-q) 0 Zb (Weak.mk ?_) ?_
     ·simp (disch:=omega) only [UW,LA,go_sem,seval,↓reduceIte]
     ·intro q hq;refine Dm ?_;refine cD ?_ ?_<;>intro h4<;>simp (disch:=omega) only [Sh.out h4,go_sem,seval,↓reduceIte]
      ·refine ZF 12 mixed Zg Zg (Zd ?_);refine gT ?_ ?_<;>intro h5<;>simp (disch:=omega) only [Sh.out h5,go_sem,seval,↓reduceIte]
       ·exact ⟨q+1,Za,Za,Weak.mk (by simp (disch:=omega) only [LA,h5,VQ,go_sem,seval])⟩
       ·exact ⟨q+1,Za,Za,Weak.mk (by simp (disch:=omega) only [LA,h5,QQ,go_sem,seval])⟩
      ·have hqk:q=k:=Za
       subst hqk;refine cD ?_ ?_<;>intro h5<;>simp (disch:=omega) only [Sh.out h5,go_sem,seval,↓reduceIte]
       ·have e:usdI l a T (q+1)=usdI l a T q+1:=by grind [usdI,An,bI]
        exact ⟨q+1,Za,Za,Weak.mk (by simp (disch:=omega) only [e,go_sem,seval])⟩
       ·have e:usdI l a T (q+1)=usdI l a T q:=by grind [usdI,An,bI]
        exact ⟨q+1,Za,Za,Weak.mk (by simp (disch:=omega) only [e,go_sem,seval])⟩
  ·have hka:k=a.length:=Za
   subst hka;exact we
def Af (S:Nat) (a:List Int) (j:Int) (k:Nat):List Int:=(List.range a.length).map fun t=>if t<k/\S.testBit t=true then j else nth a t
theorem UD {S:Nat} {a:List Int} {j:Int} {k:Nat} :(Af S a j k).length=a.length:=by simp [Af]
theorem Ag {S:Nat} {a:List Int} {j:Int} {k i:Nat} (h:i<a.length):nth (Af S a j k) i=if i<k/\S.testBit i=true then j else nth a i:=by
 grind [Af,Zi]
theorem eD {S:Nat} {a:List Int} {j:Int} :Af S a j 0=a :=
 Qr UD fun i hi=>by simp_all [UD,Ag]
theorem oU {S:Nat} {a:List Int} {j:Int} :Af S a j a.length=VV S a j :=
 Qr (by rw [UD,UC]) fun i hi=>by grind [UD,Ag,XC]
theorem oV {S:Nat} {a:List Int} {j:Int} {k:Nat} (hk:k<a.length) (hb:S.testBit k=true):(Af S a j k).set k j=Af S a j (k+1) :=
 Qr (by simp [UD]) fun i hi=>by
  rw [VO,UD] at hi;rw [CT (by rw [UD];exact hk),Ag hi,Ag hi]
  grind
theorem vQ {S:Nat} {a:List Int} {j:Int} {k:Nat} (hb:S.testBit k=false):Af S a j (k+1)=Af S a j k:=by
 refine Wk fun i _=> ?_
 grind
theorem pW (x:Inst) (lc:Bool) (l:List Col) (b:Chc) (a:List Int) (j k:Nat) (ha:0<a.length/\a.length<=60) (hl:l.length<=1048576) (hj:j<l.length) (S:Nat) (hS:(nth l j).set=S) (hS2:S<9223372036854775808) :
  ACalls Tryz.prog 154 [.ptr 0 0,.p (.list false (a.map eI)),.p (.int .i64 j),.p (.int .i64 k)] [UW x lc l b] fun y H'=>y=(if uB S a k=true then .tup [.p (.list false ((VV S a j).map eI)),.p (.bool true)] else .tup [.p (.list true []),.p (.bool false)])/\H'= [UW x lc l b]:=by
 refine Ze [10] Tryz.func154 rfl Zbx ?_;simp (disch:=omega) only [Tryz.f154,UW,go_sem,seval];rw [if_pos ⟨Za,Za⟩];refine Zd ?_;refine Z3 [10] [0,2,3,10] (fun q:Nat=> [(11,.p (.int .i64 q))]) (fun q=> [UW x lc l b,.elems 1 ((Af S a j q).map eI)]) (fun q=>q<=a.length/\ ∀t,t<q->S.testBit t=true->nth a t<0/\k<=t) (fun q=>a.length-q) 0 ⟨Zb,fun t ht=>Za⟩ (Weak.mk ?_) ?_
 ·simp (disch:=omega) only [eD,UW,go_sem,seval,↓reduceIte]
 ·rintro q ⟨hq,hok⟩;have hul:(Af S a j q).length=a.length:=UD;refine Dm ?_;rw [if_pos hul];refine Zd ?_;refine cD ?_ ?_<;>intro h1<;>simp (disch:=omega) only [Sh.out h1,go_sem,seval,↓reduceIte]
  ·have hq2:q<a.length:=Za
   rw [hS];refine (LG S q hS2 Za).use (Zd ?_);have hn:=Ag (S:=S) (j:=(j:Int)) (k:=q) hq2;rw [if_neg Za] at hn;refine cD ?_ ?_<;>intro h2<;>simp (disch:=omega) only [Sh.out h2,go_sem,seval,↓reduceIte]
   ·have hq3:q<(Af S a j q).length:=Za
    simp (disch:=first | omega | (simp only [ZE,ZJ,ZA,ZB,Xd,XG]<;>omega)) only [VJ hq3,hn,hq2,hul,eq_self,go_sem,seval,↓reduceIte];refine gF ?_ ?_<;>intro h3<;>simp (disch:=omega) only [Sh.out h3,go_sem,seval,↓reduceIte]
    ·have hno:uB S a k=false:=by
      grind [Kq]
     exact ⟨.tup [.p (.list true []),.p (.bool false)],_,wk,by rw [hno];rfl,rfl⟩
    ·refine cD ?_ ?_<;>intro h4<;>simp (disch:=omega) only [Sh.out h4,go_sem,seval]
     ·have hno:uB S a k=false:=by
       grind [Kq]
      exact ⟨.tup [.p (.list true []),.p (.bool false)],_,wk,by rw [hno];rfl,rfl⟩
     ·have ZP:((Af S a j q).map eI).set q (.int .i64 j)=(Af S a j (q+1)).map eI:=by rw [<- oV hq2 h2,Vk];rfl
      simp (disch:=first | omega | (simp only [ZE,ZJ,ZA,ZB,Xd,XG]<;>omega)) only [ZP,hn,eq_self,go_sem,seval,↓reduceIte]
      exact ⟨q+1,⟨Za,fun t ht hb=>by
       grind⟩,Za,wk⟩
   ·have hu:Af S a j (q+1)=Af S a j q:=vQ h2
    exact ⟨q+1,⟨Za,fun t ht hb=>by
     grind⟩,Za,Weak.mk (by simp (disch:=omega) only [hu,go_sem,seval])⟩
  ·have hqa:q=a.length:=Za
   subst hqa;have hyes:uB S a k=true:=Kq.2 hok;rw [hyes,if_pos rfl,oU];have hal:(VV S a j).length=a.length:=UC;refine Zp (Weak.fz (o:=1) (by rfl)) ?_;refine Zh [] _ _ _ _ ?_;simp (disch:=omega) only [Zt,Zk,ZQ,ZG,hal,eq_self,go_sem,seval];exact ⟨.tup [.p (.list false ((VV S a j).map eI)),.p (.bool true)],_,wk,rfl,rfl⟩
def KG (l:List Col):List Int->List Int->Option Bool
 | x::a,y::b=>if x=y then KG l a b else if x<0\/y<0 then some (decide (0<=x)) else if (nth l x.toNat).typ≠(nth l y.toNat).typ then some (decide ((nth l x.toNat).typ<(nth l y.toNat).typ)) else
   if (nth l x.toNat).set≠(nth l y.toNat).set then some (decide ((nth l x.toNat).set<(nth l y.toNat).set)) else KG l a b
 | _,_=>none
def EA : List Int->List Int->Bool
 | x::a,y::b=>if x=y then EA a b else decide (x<y)
 | _,_=>false
def FJ (l:List Col) (a b:List Int):Bool:=match KG l a b with
 | some r=>r
 | none=>EA a b
theorem MX {l:List Col} :KG l [] []=none:=by simp [KG]
theorem iC : EA [] []=false:=by simp [EA]
theorem Sw {α:Type} [Inhabited α] {l:List α} {k:Nat} (h:k<l.length):l.drop k=nth l k::l.drop (k+1):=by
 grind [Zi,Ua]
theorem Jt {l:List Col} {a b:List Int} {r:Bool} (h:KG l a b=some r):FJ l a b=r:=by rw [FJ,h]
theorem HG {l:List Col} {a b:List Int} (h:KG l a b=none):FJ l a b=EA a b:=by rw [FJ,h]
def cO (c:Col):AM.Obj:= .cells ((Xv c).cells.map .p)
theorem Pu (x:Inst) (lc:Bool) (l:List Col) (b:Chc) (a d:List Int) (dc:Bool) (ha:a.length<=1048576) (hd:d.length=a.length) (hr: ∀i,i<a.length-> -1<=nth a i/\nth a i<l.length) (hq: ∀i,i<a.length-> -1<=nth d i/\nth d i<l.length) (hl:l.length<=1048576) :
  ACalls Tryz.prog 152 [.ptr 0 0,.p (.list false (a.map eI)),.p (.list dc (d.map eI))] [UW x lc l b] fun y H'=>y= .p (.bool (FJ l a d))/\H'= [UW x lc l b]:=by
 obtain ⟨B,hB⟩: ∃B,B=FJ l a d:=⟨_,rfl⟩;rw [<- hB];refine Ze [] Tryz.func152 rfl Zbv ?_;simp (disch:=omega) only [Tryz.f152,UW,go_sem,seval];refine Zl [0,1,2] (fun k:Nat=> [(7,.p (.int .i64 k))]) (fun _=> [UW x lc l b]) (fun k=>k<=a.length/\KG l (a.drop k) (d.drop k)=KG l a d) (fun k=>a.length-k) 0 Zb (Weak.mk ?_) ?_
 ·simp (disch:=omega) only [UW,go_sem,seval,↓reduceIte]
 ·rintro k ⟨hk,hb⟩;refine Dm ?_;refine cD ?_ ?_<;>intro h1<;>simp (disch:=omega) only [Sh.out h1,go_sem,seval,↓reduceIte]
  ·have hk2:k<a.length:=Za
   have hk3:k<d.length:=Za
   have hrk:=hr k hk2;have hqk:=hq k hk2;rw [Sw hk2,Sw hk3,KG] at hb;refine Xj (Zd ?_);refine cD ?_ ?_<;>intro h2<;>simp (disch:=omega) only [Sh.out h2,go_sem,seval,↓reduceIte]
   ·rw [if_pos h2] at hb;exact ⟨k+1,⟨Za,hb⟩,Za,wk⟩
   ·rw [if_neg h2] at hb;refine gF ?_ ?_<;>intro h3<;>simp (disch:=omega) only [Sh.out h3,go_sem,seval,↓reduceIte]
    ·rw [if_pos (.inl h3)] at hb;have e:=Jt hb.symm;exact ⟨.p (.bool B),_,Weak.mk (by simp (disch:=omega) only [hB,e,go_sem,seval]),rfl,rfl⟩
    ·refine cD ?_ ?_<;>intro h4<;>simp (disch:=omega) only [Sh.out h4,go_sem,seval,↓reduceIte]
     ·rw [if_pos (.inr h4)] at hb;have e:=Jt hb.symm;exact ⟨.p (.bool B),_,Weak.mk (by simp (disch:=omega) only [hB,e,go_sem,seval]),rfl,rfl⟩
     ·rw [if_neg Za] at hb;refine X5 [10] 11 mixed Zg Zg Zg Zb (Zd ?_);refine Xx 10 _ _ Zg (by refine Zd ?_;exact ⟨rfl,rfl⟩) (WE ?_);refine Zd ?_;refine X5 [10] 11 mixed Zg Zg Zg Zb (Zd ?_);refine Xx 10 _ _ Zg (by refine Zd ?_;exact ⟨rfl,rfl⟩) (WE ?_);refine Zd ?_;refine cD ?_ ?_<;>intro h5<;>simp (disch:=omega) only [Sh.out h5,go_sem,seval,↓reduceIte]
      ·rw [if_pos h5] at hb;have e:=Jt hb.symm;exact ⟨.p (.bool B),_,Weak.mk (by simp (disch:=omega) only [hB,e,go_sem,seval]),rfl,rfl⟩
      ·rw [if_neg h5] at hb;refine cD ?_ ?_<;>intro h6<;>simp (disch:=omega) only [Sh.out h6,go_sem,seval,↓reduceIte]
       ·rw [if_pos h6] at hb;have e:=Jt hb.symm;exact ⟨.p (.bool B),_,Weak.mk (by simp (disch:=omega) only [hB,e,go_sem,seval]),rfl,rfl⟩
       ·rw [if_neg h6] at hb;exact ⟨k+1,⟨Za,hb⟩,Za,wk⟩
  ·have hka:k=a.length:=Za
   subst hka;rw [UO,<- hd,UO,MX] at hb;have e:=HG hb.symm;refine Zl [1,2] (fun k:Nat=> [(10,.p (.int .i64 k))]) (fun _=> [UW x lc l b]) (fun k=>k<=a.length/\EA (a.drop k) (d.drop k)=EA a d) (fun k=>a.length-k) 0 Zb (Weak.mk ?_) ?_
   ·simp (disch:=omega) only [UW,go_sem,seval]
   ·rintro k ⟨hk,hb⟩;refine Dm ?_;refine cD ?_ ?_<;>intro h2<;>simp (disch:=omega) only [Sh.out h2,go_sem,seval,↓reduceIte]
    ·have hk2:k<a.length:=Za
     have hk3:k<d.length:=Za
     rw [Sw hk2,Sw hk3,EA] at hb;refine Xj (Zd ?_);refine Z0 ?_ ?_<;>intro h3
     ·rw [if_neg h3] at hb;refine ZF 9 mixed Zg Zg (Zd ?_);exact ⟨.p (.bool B),_,Weak.mk (by simp (disch:=omega) only [hB,e,<- hb,go_sem,seval]),rfl,rfl⟩
     ·rw [if_pos (Z1.1 h3)] at hb;exact ⟨k+1,⟨Za,hb⟩,Za,wk⟩
    ·have hka:k=a.length:=Za
     subst hka;rw [UO,<- hd,UO,iC] at hb;exact ⟨.p (.bool B),_,Weak.mk (by simp (disch:=omega) only [hB,e,<- hb,go_sem,seval]),rfl,rfl⟩
def YZ (l:List Col) (b:Chc) (q:List Int×Int):Chc:=if b.found=false\/q.2<b.price\/(q.2=b.price/\FJ l q.1 b.places=true) then ⟨true,q.1,q.2⟩ else b
def RngA (x:Inst) (l:List Col) (a:List Int):Prop:=a.length=x.orders.length/\ ∀i,i<x.orders.length-> -1<=nth a i/\nth a i<l.length
def ChB (x:Inst) (l:List Col) (b:Chc):Prop:=b.found=true->RngA x l b.places
theorem GV {x:Inst} {l:List Col} {a:List Int} {S j:Nat} (h:RngA x l a) (hj:j<l.length):RngA x l (VV S a j) :=
 ⟨by rw [UC];exact h.1,fun i hi=>by
  rw [XC (by rw [h.1];exact hi)]
  split
  ·omega
  ·exact h.2 i hi⟩
theorem AV {x:Inst} {l:List Col} : ∀(d:Nat) {a:List Int} {p:Int},RngA x l a-> ∀q∈KC x l d a p,RngA x l q.1
 | 0,a,p,h,q,hq=>by
  simp_all [KC]
 | d+1,a,p,h,q,hq=>by
  rw [KC] at hq
  split at hq
  ·exact AV d h q hq
  ·rw [Xe,X0] at hq;rcases hq with ⟨j,hj,hq⟩ | hq
   ·split at hq
    ·exact AV d (GV h (ZO.1 hj)) q hq
    ·simp at hq
   ·split at hq
    ·exact AV d h q hq
    ·simp at hq
theorem MA {x:Inst} {l:List Col} : ∀ {L:List (List Int×Int)} {b:Chc},ChB x l b->(∀q∈L,RngA x l q.1)->ChB x l (L.foldl (YZ l) b)
 | [],_,h,_=>h
 | q::L,b,h,hL=>by
  rw [XS];refine MA (L:=L) ?_ fun q hq=>hL q (Yo _ hq);unfold YZ
  split
  ·exact fun _=>hL q Zb
  ·exact h
structure ColsR (x:Inst) (l:List Col):Prop where
 n4:x.orders.length<=4
 t6:x.types.length<=6
 len:l.length<=1048576
 col: ∀c∈l,(0<=c.typ/\c.typ<x.types.length)/\(0<=c.price/\c.price<=18014398509481984)/\ ∃S:Nat,c.set=S/\S<16
 sk: ∀k,k<x.orders.length->(nth x.orders k).off=false->0<=(nth x.orders k).penalty->0<=skR x k/\skR x k<=18014398509481984
 us: ∀i,scoR 1152921504606846976 (unsF x i).1
theorem sW {P:Program} {f:FuncId} {az:List V} {z:PV} {O:AM.Obj} {L:List AM.Obj} {B:V->Prop} {t} (h:ACalls P f az [O] fun y H'=>y= .p z/\H'= [O]) (k:B (.p z)) (ha:Xu 1 az=true:=by rfl) (hf:refH 1 [O]=true:=by rfl) :
  bC (fun y=>ACalls P f az (O::L) (Zw (Zw (fun x H'=>x=y/\H'=O::L) ⟨⟩) ⟨⟩)) (Zw B t) :=
 ⟨.p z,h.useP (L:=L) rfl ⟨rfl,rfl⟩ ha hf,k⟩
theorem ZlF {P:Program} {f:FuncId} {az:List V} {v:V} {O:AM.Obj} {L:List AM.Obj} {K:V->List AM.Obj->Prop} (h:ACalls P f az [O] fun y H'=>y=v/\H'= [O]) (k:K v (O::L)) (ha:Xu 1 az=true:=by rfl) (hf:refH 1 [O]=true:=by rfl):ACalls P f az (O::L) K :=
 h.useP (L:=L) rfl k ha hf
def qQ (x:Inst) (lc:Bool) (l:List Col) (d:Nat):Prop:= ∀(a:List Int) (p:Int) (b:Chc),d<=x.orders.length->RngA x l a->0<=p->p+(d:Int)*18014398509481984<=90071992547409920->ChB x l b ->
  ACalls Tryz.prog 116 [.ptr 0 0,.p (.list false (a.map eI)),.p (.int .i64 ((x.orders.length-d:Nat):Int)),.p (.int .i64 p)] [UW x lc l b] fun y H'=>y= .tup []/\H'= [UW x lc l ((KC x l d a p).foldl (YZ l) b)]
theorem wE (x:Inst) (lc:Bool) (l:List Col) (hC:ColsR x l):qQ x lc l 0:=by
 intro a p b hd ha hp0 hp1 hb;have h4:=hC.n4;have hl:=hC.len;obtain ⟨R,hR⟩: ∃R,R=UW x lc l ((KC x l 0 a p).foldl (YZ l) b):=⟨_,rfl⟩;rw [<- hR,Nat.sub_zero];simp only [KC,XS,UQ] at hR;refine Ze [] Tryz.func116 rfl lA ?_;obtain ⟨f,bp,bc⟩:=b
 cases f with
 | false =>
  rw [YZ,if_pos (.inl rfl)] at hR;simp (disch:=omega) only [Tryz.f116,UW,WS,go_sem,seval];exact ⟨_,[R],Weak.mk (by simp (disch:=omega) only [hR,UW,Yx,go_sem,seval]),rfl,rfl⟩
 | true =>
  simp (disch:=omega) only [Tryz.f116,UW,Yx,go_sem,seval];refine gF ?_ ?_<;>intro h1<;>simp (disch:=omega) only [Sh.out h1,go_sem,seval,↓reduceIte]
  ·rw [YZ,if_pos (.inr (.inl h1))] at hR;exact ⟨_,[R],Weak.mk (by simp (disch:=omega) only [hR,UW,Yx,go_sem,seval]),rfl,rfl⟩
  ·refine gT ?_ ?_<;>intro h2<;>simp (disch:=omega) only [Sh.out h2,go_sem,seval,↓reduceIte]
   ·have hq:=hb rfl;refine ACalls.mono (Pu x lc l ⟨true,bp,bc⟩ a bp (!true) (by rw [ha.1];omega) (by rw [ha.1];exact hq.1) (fun i hi=>ha.2 i (by rw [<- ha.1];exact hi)) (fun i hi=>hq.2 i (by rw [<- ha.1];exact hi)) hl) ?_;rintro y H' ⟨rfl,rfl⟩;simp (disch:=omega) only [UW,Yx,go_sem,seval];refine cD ?_ ?_<;>intro h3<;>simp (disch:=omega) only [Sh.out h3,go_sem,seval,↓reduceIte]
    ·rw [YZ,if_pos (.inr (.inr ⟨h2,h3⟩))] at hR;exact ⟨_,[R],Weak.mk (by simp (disch:=omega) only [hR,UW,Yx,go_sem,seval]),rfl,rfl⟩
    ·rw [YZ,if_neg (fun h=>h.elim (fun h=>by cases h) fun h=>h.elim (fun h=>h1 h) fun h=>by grind)] at hR;exact ⟨_,[R],Weak.mk (by simp (disch:=omega) only [hR,UW,Yx,go_sem,seval]),rfl,rfl⟩
   ·rw [YZ,if_neg (fun h=>h.elim (fun h=>by cases h) fun h=>h.elim (fun h=>h1 h) fun h=>h2 h.1)] at hR;exact ⟨_,[R],Weak.mk (by simp (disch:=omega) only [hR,UW,Yx,go_sem,seval]),rfl,rfl⟩
theorem wF (x:Inst) (lc:Bool) (l:List Col) (hC:ColsR x l) (d:Nat) (ih:qQ x lc l d):qQ x lc l (d+1):=by
 intro a p b hd ha hp0 hp1 hb;have h4:=hC.n4;have h6:=hC.t6;have hl:=hC.len;obtain ⟨k,hk⟩: ∃k,k=x.orders.length-(d+1):=⟨_,rfl⟩
 have hk1:k<x.orders.length:=Za
 have hkd:x.orders.length-d=k+1:=Za
 obtain ⟨R,hR⟩: ∃R,R=UW x lc l ((KC x l (d+1) a p).foldl (YZ l) b):=⟨_,rfl⟩;rw [<- hR,<- hk];rw [KC,<- hk] at hR;have hla:a.length=x.orders.length:=ha.1
 have hka:k<a.length:=Za
 refine Ze [] Tryz.func116 rfl lA ?_;simp (disch:=omega) only [Tryz.f116,UW,go_sem,seval]
 have nxt: ∀(a':List Int) (p':Int) (b':Chc) (L:List AM.Obj) (K:V->List AM.Obj->Prop),RngA x l a'->0<=p'->p'+(d:Int)*18014398509481984<=90071992547409920->ChB x l b'->K (.tup []) (UW x lc l ((KC x l d a' p').foldl (YZ l) b')::L) ->
   ACalls Tryz.prog 116 [.ptr 0 0,.p (.list false (a'.map eI)),.p (.int .i64 ((k:Int)+1)),.p (.int .i64 p')] (UW x lc l b'::L) K:=fun a' p' b' L K h1 h2 h3 h5 hK=>by
  have hi:=ih a' p' b' Za h1 h2 h3 h5;rw [hkd] at hi;refine ((hi.mono fun y H' hq=>(⟨hq,by grind⟩:_/\H'.length= [UW x lc l b'].length)).front (by rfl) (by rfl) L).mono ?_
  grind
 refine cD ?_ ?_<;>intro h0<;>simp (disch:=omega) only [Sh.out h0,go_sem,seval,↓reduceIte]
 ·omega
 ·cases ho:(nth x.orders k).off with
  | true =>
   rw [if_pos (.inl ho)] at hR;refine Zd ?_;refine nxt a p b [_] _ ha hp0 Za hb (Dm ?_);exact ⟨_,[R],Weak.mk (by simp (disch:=omega) only [hR,UW,go_sem,seval]),rfl,rfl⟩
  | false =>
   refine Zd ?_;refine cD ?_ ?_<;>intro h1<;>simp (disch:=omega) only [Sh.out h1,go_sem,seval]
   ·rw [if_pos (.inr h1)] at hR;refine nxt a p b [_] _ ha hp0 Za hb (Dm ?_);exact ⟨_,[R],Weak.mk (by simp (disch:=omega) only [hR,UW,go_sem,seval]),rfl,rfl⟩
   ·rw [if_neg (by grind)] at hR;obtain ⟨G,hG⟩: ∃G:Nat->List (List Int×Int),G=fun j=>if BB x l a j k=true then KC x l d (VV (nth l j).set.toNat a j) (p+(nth l j).price) else []:=⟨_,rfl⟩;rw [<- hG,List.foldl_append] at hR
    have hGr: ∀q:Nat,q<=l.length-> ∀e∈(List.range q).flatMap G,RngA x l e.1:=fun q hq e he=>by
     obtain ⟨j,hj,he⟩:=X0.1 he;rw [hG] at he;simp only at he
     split at he
     ·exact AV d (GV ha (by grind)) e he
     ·simp at he
    have hGs: ∀q:Nat,((List.range (q+1)).flatMap G).foldl (YZ l) b=(G q).foldl (YZ l) (((List.range q).flatMap G).foldl (YZ l) b):=fun q=>by
     grind [Yh]
    obtain ⟨B,hB⟩: ∃B:Nat->Chc,B=fun q=>((List.range q).flatMap G).foldl (YZ l) b:=⟨_,rfl⟩
    have hBs: ∀q,B (q+1)=(G q).foldl (YZ l) (B q):=fun q=>by grind
    have hB0:B 0=b:=by rw [hB];simp
    have hBc: ∀q,q<=l.length->ChB x l (B q):=fun q hq=>by rw [hB];exact MA hb (hGr q hq)
    have hRB:R=UW x lc l ((if 0<=(nth x.orders k).penalty then KC x l d a (p+skR x k) else []).foldl (YZ l) (B l.length)):=by rw [hR,hB]
    clear hR hGs hGr hB;refine Zl [0,1,2,3,9] (fun q:Nat=> [(10,.p (.int .i64 q))]) (fun q=> [UW x lc l (B q),YO (nth x.orders k)]) (fun q=>q<=l.length) (fun q=>l.length-q) 0 Zb (Weak.mk ?_) ?_
    ·simp (disch:=omega) only [UW,YO,hB0,ho,go_sem,seval,↓reduceIte]
    ·intro q hq;simp (disch:=omega) only [UW,YO,ho,go_sem,seval];refine cD ?_ ?_<;>intro h2<;>simp (disch:=omega) only [Sh.out h2,go_sem,seval,↓reduceIte]
     ·have hq2:q<l.length:=Za
      obtain ⟨⟨t0,t1⟩,⟨c0,c1⟩,S,hS,hS2⟩:=hC.col _ (Zu hq2);refine Xj (Zd ?_)
      have hST:(nth l q).set.toNat=S:=Za
      have hGq:BB x l a q k=(S.testBit k&&(decide ((usdI l a (nth l q).typ a.length:Int)<(nth x.types (nth l q).typ.toNat).count)&&uB S a k)):=by rw [BB,hST]
      have hnx: ∀c:Bool,BB x l a q k=c->B (q+1)=(if c=true then (KC x l d (VV S a q) (p+(nth l q).price)).foldl (YZ l) (B q) else B q):=fun c hc=>by
       rw [hBs,hG];simp only [hST,hc]
       cases c<;>simp
      rw [hS];refine Zo (LG S k Za Za) (Zd ?_);refine gT ?_ ?_<;>intro h3<;>simp (disch:=omega) only [Sh.out h3,go_sem,seval,↓reduceIte]
      ·refine sW (pQ x lc l (B q) a (nth l q).typ Za (fun i hi=>ha.2 i Za) hl) (Zd ?_);refine cD ?_ ?_<;>intro h4<;>simp (disch:=omega) only [Sh.out h4,go_sem,seval,↓reduceIte]
       ·have hw:=pW x lc l (B q) a q k ⟨Za,Za⟩ hl hq2 S hS Za
        cases hok:uB S a k with
        | true =>
         rw [hok,if_pos rfl] at hw;refine ZlF hw (Zd ?_);have e:=hnx true (by grind);rw [if_pos rfl] at e;refine nxt (VV S a q) (p+(nth l q).price) (B q) [_] _ (GV ha hq2) Za Za (hBc q Za) (Dm ?_);exact ⟨q+1,Za,Za,Weak.mk (by simp (disch:=omega) only [e,ho,go_sem,seval])⟩
        | false =>
         rw [hok,if_neg Zb] at hw;refine ZlF hw (Zd ?_);have e:=hnx false (by grind);rw [if_neg Zb] at e;exact ⟨q+1,Za,Za,Weak.mk (by simp (disch:=omega) only [e,ho,go_sem,seval])⟩
       ·have e:=hnx false (by grind);rw [if_neg Zb] at e;exact ⟨q+1,Za,Za,Weak.mk (by simp (disch:=omega) only [e,ho,go_sem,seval])⟩
      ·have e:=hnx false (by grind);rw [if_neg Zb] at e;exact ⟨q+1,Za,Za,Weak.mk (by simp (disch:=omega) only [e,ho,go_sem,seval])⟩
     ·have hql:q=l.length:=Za
      subst hql;refine cD ?_ ?_<;>intro h3<;>simp (disch:=omega) only [Sh.out h3,go_sem,seval,↓reduceIte]
      ·rw [if_pos h3] at hRB;have hsk:=hC.sk k hk1 ho h3;refine YU (Mz x k Za) (Zd ?_);refine YU (Ha (unsF x k).1 (hC.us k)) (Zd ?_);have e1:(YP (unsF x k).1).1=skR x k:=rfl;rw [e1];refine Zd ?_;refine nxt a (p+skR x k) (B l.length) [_,_] _ ha Za Za (hBc _ (Zy _)) (Dm ?_);exact ⟨_,[R],Weak.mk (by simp (disch:=omega) only [hRB,UW,go_sem,seval]),rfl,rfl⟩
      ·rw [if_neg h3] at hRB;exact ⟨_,[R],Weak.mk (by simp (disch:=omega) only [hRB,UW,UQ,go_sem,seval]),rfl,rfl⟩
theorem TL (x:Inst) (lc:Bool) (l:List Col) (hC:ColsR x l): ∀d,qQ x lc l d
 | 0=>wE x lc l hC
 | d+1=>wF x lc l hC d (TL x lc l hC d)
def FU (s:Sr):PV:= .agg [.int .i64 s.rdy,.int .i64 s.drv]
@[go_sem] theorem Zn5 (s:Sr):FU s= .agg [.int .i64 s.rdy,.int .i64 s.drv]:=Zm rfl rfl
theorem Zk0 {a b:Sr} :a=b↔a.rdy=b.rdy/\a.drv=b.drv:=by cases a;cases b;simp
theorem tJ (l:List Sr) (c:Bool) (s:Sr) (hl:l.length<=1048576):ACalls Tryz.prog 223 [.p (.list c (l.map FU)),.p (FU s)] [] fun y H'=> ∃i:Int,(0<=i↔s∈l)/\y= .p (.int .i64 i)/\H'= []:=by
 refine Ze [] Tryz.func223 rfl Zci ?_;simp (disch:=omega) only [Tryz.f223,go_sem,seval];refine Zl [0,3,7] (fun k:Nat=> [(8,.p (.int .i64 k))]) (fun _=> [.cells [.p (.int .i64 s.rdy),.p (.int .i64 s.drv)]]) (fun k=>k<=l.length/\ ∀j,j<k->nth l j≠s) (fun k=>l.length-k) 0 ⟨Zb,fun j hj=>Za⟩ (Weak.mk ?_) ?_
 ·simp (disch:=omega) only [go_sem,seval,↓reduceIte]
 ·rintro k ⟨hk,hno⟩;refine Zd ?_;refine cD ?_ ?_<;>intro h1<;>simp (disch:=omega) only [Sh.out h1,go_sem,seval,↓reduceIte]
  ·have hk2:k<l.length:=Za
   refine Xj (Zd ?_);refine cD ?_ ?_<;>intro h2<;>simp (disch:=omega) only [Sh.out h2,go_sem,seval,↓reduceIte]
   ·exact ⟨.p (.int .i64 k),[],wk,k,⟨fun _=>(Zk0.2 h2) ▸ Z2 hk2,fun _=>Za⟩,rfl,rfl⟩
   ·exact ⟨k+1,⟨Za,fun j hj=>by
     grind⟩,Za,wk⟩
  ·exact ⟨.p (.int .i64 (-1)),[],wk,-1,⟨fun h=>Za,fun h=>by
    obtain ⟨j,hj,rfl⟩:=ZU.1 h
    grind [Zi]⟩,rfl,rfl⟩
theorem SK (l:List Sr) (c:Bool) (s:Sr) (hl:l.length<=1048576):PC 200 [.p (.list c (l.map FU)),.p (FU s)] (.bool (decide (s∈l))):=by
 refine Ze [] Tryz.func200 rfl ZbZ ?_;simp (disch:=omega) only [Tryz.f200,go_sem,seval];refine ((tJ l c s hl).behind (by rfl) _).mono ?_;rintro y H' ⟨y1,H1,⟨i,hi,rfl,rfl⟩,rfl,rfl⟩
 have e:decide (0<=i)=decide (s∈l):=by grind
 simp (disch:=omega) only [shV,Zk,e,go_sem,seval];exact ⟨.p (.bool (decide (s∈l))),[],wk,rfl,rfl⟩
theorem bT {l:List Sr} {s:Sr} :(UV l s).length<=l.length+1:=by grind [UV]
theorem P2 (l:List Sr) (s:Sr) (hl:l.length<=1048576):ACalls Tryz.prog 171 [.sl 0 0 l.length l.length,.p (FU s)] [.elems 2 (l.map FU)] fun y H'=>y= .sl 0 0 (UV l s).length (UV l s).length/\H'= [.elems 2 ((UV l s).map FU)]:=by
 obtain ⟨M,hM⟩: ∃M,M=UV l s:=⟨_,rfl⟩;rw [<- hM];refine Ze [] Tryz.func171 rfl lE ?_;simp (disch:=omega) only [Tryz.f171,go_sem,seval];refine ACalls.view (SK l false s hl) (by simp [vws,vw,oat,Mw]<;>rfl) (by rfl) ?_;refine Zd ?_;refine cD ?_ ?_<;>intro h<;>simp (disch:=omega) only [Sh.out h,go_sem,seval,↓reduceIte]
 ·have e:M=l:=by simp_all [UV]
  exact ⟨.sl 0 0 M.length M.length,[.elems 2 (M.map FU)],Weak.mk (by simp (disch:=omega) only [e,go_sem,seval]),rfl,rfl⟩
 ·have e:M=l++ [s]:=by simp_all [UV]
  exact ⟨.sl 0 0 M.length M.length,[.elems 2 (M.map FU)],Weak.mk (by simp (disch:=omega) only [e,Xy,Zt,Zk,ZA,ZE,ZJ,Xs,go_sem,seval]),rfl,rfl⟩
theorem tN (s:Sr):ACalls Tryz.prog 171 [.p (.list true []),.p (FU s)] [] fun y H'=>y= .sl 0 0 1 1/\H'= [.elems 2 [FU s]]:=by
 refine UX (fn:=Tryz.f171) (by rfl) Tryz.func171 rfl lE ?_;simp (disch:=omega) only [Tryz.f171,go_sem,seval];refine (SK [] true s Zb).use ?_;simp (disch:=omega) only [Vd,Ki,go_sem,seval];exact ⟨2,rfl,rfl⟩
def YC (x:Inst) (k:Int) (S tot:Nat) (b:Col×Bool):AM.Obj:= .cells [.p (.list x.net.places_c (x.net.places.map eS)),.p (.list x.net.arcs_c (x.net.arcs.map V1)),.p (.list x.types_c (x.types.map X7)),.p (.list x.orders_c (x.orders.map eOrd)),.p (.list x.apart_c (x.apart.map eP)),.p (.list x.before_c (x.before.map eP)),.p (.int .i64 k),.p (.int .i64 S),.p (.int .i64 tot),.p (.int .i64 b.1.typ),.p (.int .i64 b.1.set),.p (.int .i64 b.1.price),.p (.int .i64 b.1.route.typ),.p (.int .i64 b.1.route.start),.p (.list b.1.route.rests_c (b.1.route.rests.map eB)),.p (.list b.1.route.visits_c (b.1.route.visits.map Xa)),.p (.bool b.2)]
theorem BO {t:Typ} {l:List Sr} {d v:Int} :(VU t l d v).length<=l.length+2:=by
 grind [VU,UV]
theorem vF (x:Inst) (k:Int) (S tot:Nat) (b:Col×Bool) (stop:Stp) (l:List Sr) (d v:Int) (hk:0<=k/\k<x.types.length) (ht:x.types.length<=1048576) (hl:l.length<=1000000) (hd:0<=d/\d<=1048576) (hr:0<=(nth x.types k.toNat).rest/\(nth x.types k.toNat).rest<=1048576) :
  ACalls Tryz.prog 134 [.ptr 0 0,.sl 3 0 l.length l.length,.p (.int .i64 d),.p (.int .i64 v)] [YC x k S tot b,.cells ((Bg stop).map .p),.cells ((KP (nth x.types k.toNat)).map .p),.elems 2 (l.map FU)] fun y H'=>y= .sl 3 0 (VU (nth x.types k.toNat) l d v).length (VU (nth x.types k.toNat) l d v).length/\H'= [YC x k S tot b,.cells ((Bg stop).map .p),.cells ((KP (nth x.types k.toNat)).map .p),.elems 2 ((VU (nth x.types k.toNat) l d v).map FU)]:=by
 obtain ⟨L1,h1⟩: ∃L1,L1=UV l ⟨d,v⟩:=⟨_,rfl⟩;obtain ⟨L2,h2⟩: ∃L2,L2=VU (nth x.types k.toNat) l d v:=⟨_,rfl⟩
 have h12:UV L1 ⟨d+(nth x.types k.toNat).rest,0⟩=L2:=by rw [h1,h2];rfl
 have hl1:L1.length<=l.length+1:=by rw [h1];exact bT
 rw [<- h2];have c1:=P2 l ⟨d,v⟩ Za;have c2:=P2 L1 ⟨d+(nth x.types k.toNat).rest,0⟩ Za;rw [<- h1] at c1;rw [h12] at c2;obtain ⟨O,hO⟩: ∃O,O=YC x k S tot b:=⟨_,rfl⟩;refine Ze [] Tryz.func134 rfl lC ?_;simp (disch:=omega) only [Tryz.f134,Bg,KP,Zt,Zk,go_sem,seval];refine ACalls.mono (c1.back [YC x k S tot b,.cells ((Bg stop).map .p),.cells ((KP (nth x.types k.toNat)).map .p)] (by rfl)) ?_;rintro y H' ⟨y1,H1,⟨rfl,rfl⟩,rfl,rfl⟩;simp (disch:=omega) only [shV,shO,YC,Bg,KP,Zt,Zk,ZR,ZH,go_sem,seval]
 refine ZF 16 mixed Zg Zg (Zd ?_);refine ACalls.mono (c2.back [YC x k S tot b,.cells ((Bg stop).map .p),.cells ((KP (nth x.types k.toNat)).map .p)] (by rfl)) ?_;rintro y H' ⟨y1,H1,⟨rfl,rfl⟩,rfl,rfl⟩;simp (disch:=omega) only [shV,shO,YC,Bg,KP,Zt,Zk,ZR,ZH,go_sem,seval];exact ⟨.sl 3 0 L2.length L2.length,[YC x k S tot b,.cells ((Bg stop).map .p),.cells ((KP (nth x.types k.toNat)).map .p),.elems 2 (L2.map FU)],Weak.mk (by simp (disch:=omega) only [YC,Bg,KP,Zt,Zk,go_sem,seval]),rfl,rfl⟩
def Hr (s:Stp) (a:Int):Int×Int:=if s.cls<max a s.opn then (0,14) else (max a s.opn+s.serv,0)
theorem jH (s:Stp) (a:Int) (ha: -1099511627776<=a/\a<=1099511627776) (hs:0<=s.serv/\s.serv<=1048576) (ho: -1099511627776<=s.opn/\s.opn<=1099511627776):PT 199 [.p (FV s),.p (.int .i64 a)] [.p (.int .i64 (Hr s a).1),.p (.int .i64 (Hr s a).2)]:=by
 refine Ze [] Tryz.func199 rfl ZbY ?_;simp (disch:=omega) only [Tryz.f199,go_sem,seval];refine YU (Se s a) ?_
 have hm: -1099511627776<=max a s.opn/\max a s.opn<=1099511627776:=Za
 by_cases h:s.cls<max a s.opn
 ·have e:FK s a=(0,14):=by simp_all [FK]
  have e2:Hr s a=(0,14):=by rw [Hr,if_pos h]
  rw [e,e2];refine Zd ?_;exact we
 ·have e:FK s a=(max a s.opn,0):=by simp_all [FK]
  have e2:Hr s a=(max a s.opn+s.serv,0):=by rw [Hr,if_neg h]
  rw [e,e2];refine Zd ?_;exact we
def Hg (m:Int) (st:List Sr):Prop:= ∀a∈st,(0<=a.rdy/\a.rdy<=16384)/\(-m<=a.drv/\a.drv<=4096)
theorem wM (x:Inst) (k:Int) (S tot:Nat) (b:Col×Bool) (p:Int) (st:List Sr) (c:Bool) (stop:Stp) (m:Int) (hm:0<=m/\m<=1048576) (hk:0<=k/\k<x.types.length) (ht:x.types.length<=1048576) (hT:TrpOk x (nth x.types k.toNat) [stop]) (hl:st.length<=1000) (hst:Hg m st) :
  ACalls Tryz.prog 169 [.ptr 0 0,.p (.int .i64 p),.p (.list c (st.map FU)),.p (FV stop)] [YC x k S tot b] fun y H'=>y= .p (.list false ((Eg x (nth x.types k.toNat) p st stop).map FU))/\H'= [YC x k S tot b]:=by
 obtain ⟨W,hV⟩: ∃W:Nat->List Sr,W=fun q=>(st.take q).foldl (JS x (nth x.types k.toNat) p stop) []:=⟨_,rfl⟩
 have hV0:W 0= []:=by rw [hV];rfl
 have hVn:Eg x (nth x.types k.toNat) p st stop=W st.length:=by grind [Eg]
 have hVs: ∀q,q<st.length->W (q+1)=JS x (nth x.types k.toNat) p stop (W q) (nth st q):=fun q hq=>by
  grind [X3,Zi]
 have hVl: ∀q,q<=st.length->(W q).length<=2*q:=fun q=>by
  induction q with
  | zero=>grind
  | succ q ih =>
   intro hq;rw [hVs q Za];have:=ih Za;unfold JS
   split
   ·omega
   ·split
    ·omega
    grind [BO]
 rw [hVn];clear hV hVn;refine Ze [12] Tryz.func169 rfl ZbG ?_;simp (disch:=omega) only [Tryz.f169,YC,go_sem,seval];refine X5 [11] 12 mixed Zg Zg Zg Zb (Zd ?_);refine Xx 11 _ _ Zg (by refine Zd ?_;exact ⟨rfl,rfl⟩) (WE ?_);refine Zd ?_;refine Z3 [12] [0,1,7,9,28,29] (fun q:Nat=> [(10,.sl 3 0 (W q).length (W q).length),(30,.p (.int .i64 q))]) (fun q=> [YC x k S tot b,.cells ((Bg stop).map .p),.cells ((KP (nth x.types k.toNat)).map .p),.elems 2 ((W q).map FU)]) (fun q=>q<=st.length) (fun q=>st.length-q) 0 Zb (Weak.ofNil 10 2 (by simp (disch:=omega) only [go_sem,seval]) Zb (Weak.mk ?_)) ?_
 ·simp (disch:=omega) only [hV0,YC,Bg,KP,Zt,Zk,ZJ,go_sem,seval,↓reduceIte]
 ·intro q hq;have hql:=hVl q hq;simp (disch:=omega) only [YC,Bg,KP,Zt,Zk,go_sem,seval];refine cD ?_ ?_<;>intro h1<;>simp (disch:=omega) only [Sh.out h1,go_sem,seval,↓reduceIte]
  ·have hq2:q<st.length:=Za
   obtain ⟨a1,a2⟩:=hst _ (Z2 hq2);have hsn:=hVs q hq2;have hg:=(LC (n:=x.net) (pr:=(nth x.types k.toNat).prof) (f:=p) (t:=stop.place) (τ:=(nth st q).rdy) hT.net hT.mil Za).1;refine Xj (Zd ?_);refine FZ (yG x.net (nth x.types k.toNat).prof p stop.place (nth st q).rdy hT.net Za) (Zd ?_);refine gF ?_ ?_<;>intro h2<;>simp (disch:=omega) only [Sh.out h2,go_sem,seval,↓reduceIte]
   ·have e:W (q+1)=W q:=by simp_all [JS]
    exact ⟨q+1,Za,Za,Weak.mk (by simp (disch:=omega) only [e,go_sem,seval])⟩
   ·refine cD ?_ ?_<;>intro h3<;>simp (disch:=omega) only [Sh.out h3,go_sem,seval,↓reduceIte]
    ·have e:W (q+1)=W q:=by simp_all [JS]
     exact ⟨q+1,Za,Za,Weak.mk (by simp (disch:=omega) only [e,go_sem,seval])⟩
    ·obtain ⟨z1,z2,z3,z4,z5⟩:=hT.stp stop Zb;obtain ⟨r1,r2⟩:=hT.rst;refine YU (jH stop (W8 x.net (nth x.types k.toNat).prof p stop.place (nth st q).rdy).1 Za Za Za) ?_
     by_cases hc:stop.cls<max (W8 x.net (nth x.types k.toNat).prof p stop.place (nth st q).rdy).1 stop.opn
     ·have e2:Hr stop (W8 x.net (nth x.types k.toNat).prof p stop.place (nth st q).rdy).1=(0,14):=by rw [Hr,if_pos hc]
      rw [e2];refine Zd ?_
      have e:W (q+1)=W q:=by simp_all [JS]
      exact ⟨q+1,Za,Za,Weak.mk (by simp (disch:=omega) only [e,go_sem,seval])⟩
     ·have e2:Hr stop (W8 x.net (nth x.types k.toNat).prof p stop.place (nth st q).rdy).1=(max (W8 x.net (nth x.types k.toNat).prof p stop.place (nth st q).rdy).1 stop.opn+stop.serv,0):=by rw [Hr,if_neg hc]
      rw [e2];refine Zd ?_
      have e:W (q+1)=VU (nth x.types k.toNat) (W q) (max (W8 x.net (nth x.types k.toNat).prof p stop.place (nth st q).rdy).1 stop.opn+stop.serv) ((nth st q).drv+(W8 x.net (nth x.types k.toNat).prof p stop.place (nth st q).rdy).1-(nth st q).rdy):=by simp_all [JS,if_neg]
      have cr:=vF x k S tot b stop (W q) (max (W8 x.net (nth x.types k.toNat).prof p stop.place (nth st q).rdy).1 stop.opn+stop.serv) ((nth st q).drv+(W8 x.net (nth x.types k.toNat).prof p stop.place (nth st q).rdy).1-(nth st q).rdy) hk ht Za Za Za;rw [<- e] at cr;refine cr.useP (L:= [_]) (by rfl) ?_ (by rfl) (by rfl);simp (disch:=omega) only [YC,Bg,KP,Zt,Zk,ZR,ZH,go_sem,seval];exact ⟨q+1,Za,Za,wk⟩
  ·have hqs:q=st.length:=Za
   subst hqs;refine Zp (Weak.fz (o:=3) (by rfl)) ?_;refine Zh [] _ _ _ _ ?_;simp (disch:=omega) only [Zt,Zk,ZQ,ZG,eq_self,go_sem,seval];exact ⟨.p (.list false ((W st.length).map FU)),[YC x k S tot b],Weak.mk (by simp (disch:=omega) only [YC,go_sem,seval]),rfl,rfl⟩
theorem PD (a b:Col) (ha:a.route.visits.length<=1048576) (hb:b.route.visits.length<=1048576):PC 166 [.p (Xv a),.p (Xv b)] (.bool (Wy a b)):=by
 refine Zc Tryz.func166 rfl ZbD ?_;simp (disch:=omega) only [Tryz.f166,go_sem,seval];refine cD ?_ ?_<;>intro h<;>simp (disch:=omega) only [Sh.out h,go_sem,seval,↓reduceIte]
 ·rw [Wy,if_pos h]
 ·refine (dZ a.route.visits b.route.visits a.route.visits_c b.route.visits_c ha hb).use (Zd ?_);rw [Wy,if_neg h]
theorem sY (a b:Col) (f:Bool) (ha:a.route.visits.length<=1048576) (hb:b.route.visits.length<=1048576):PC 165 [.p (Xv a),.p (.bool f),.p (Xv b),.fn (.func 166) [] []] (Xv (if f=false\/Wy b a=true then b else a)):=by
 refine Zc Tryz.func165 rfl ZbC ?_
 cases f with
 | false =>
  simp (disch:=omega) only [Tryz.f165,WS,go_sem,seval,↓reduceIte]
 | true =>
  simp (disch:=omega) only [Tryz.f165,Yx,go_sem,seval];refine (PD b a hb ha).use (Zd ?_)
  cases h:Wy b a with
  | true=>simp (disch:=omega) only [go_sem,seval]
  | false=>simp (disch:=omega) only [go_sem,seval]
theorem Zkt {x:Inst} (hx:InstOk x) {S:Nat} {l:List Vis} {v:Vis} (hv:v∈CU x S l) {k:Int} (hk:0<=k/\k<x.types.length):NF x v=true/\0<=(Xo x v).place/\TrpOk x (nth x.types k.toNat) [Xo x v]:=by
 obtain ⟨i,hi,_,_,h4,_⟩:=VR.1 hv;have ho:=Yk h4
 have hpl:0<=(Xo x v).place:=by
  unfold ZV at h4;unfold Xo;rw [ho,XD]
  grind
 obtain ⟨t1,t2,t3,_⟩:=WX hx (show k.toNat<x.types.length by omega);obtain ⟨n1,n2⟩:=Te hx.net;refine ⟨by simp [NF,ho,hi],hpl,n1,n2,t1,t2,t3,fun s hs=> ?_,Zb⟩
 obtain rfl:s=Xo x v:=by grind
 have hor:=hx.orders.2 i hi;have hp:=hor.pstp;have hd:=hor.dstp;simp only [stpOk,Zq] at hp hd;unfold Xo at hpl ⊢;rw [ho,XD] at hpl ⊢
 split
 ·omega
 omega
theorem wL {x:Inst} {t:Typ} {p:Int} {stop:Stp} (hT:TrpOk x t [stop]) {m:Int} {out:List Sr} {a:Sr} (hm:0<=m) (ho:Hg (m+16384) out) (ha:(0<=a.rdy/\a.rdy<=16384)/\(-m<=a.drv/\a.drv<=4096)):Hg (m+16384) (JS x t p stop out a)/\(JS x t p stop out a).length<=out.length+2:=by
 have hg:=(LC (n:=x.net) (pr:=t.prof) (f:=p) (t:=stop.place) (τ:=a.rdy) hT.net hT.mil Za).1;obtain ⟨z1,z2,z3,z4,z5⟩:=hT.stp stop Zb;obtain ⟨r1,r2⟩:=hT.rst;have hd:=hT.drv;unfold JS
 split
 ·grind
 ·rename_i c1
  split
  ·grind
  ·rename_i c2;refine ⟨fun b hb=> ?_,BO⟩;have c3: ¬t.drive<a.drv+(W8 x.net t.prof p stop.place a.rdy).1-a.rdy:=fun h=>c1 (.inr h);rcases Vu.1 hb with h | rfl | rfl
   ·exact ho b h
   ·grind
   grind
theorem IV {x:Inst} {t:Typ} {p:Int} {stop:Stp} (hT:TrpOk x t [stop]) {m:Int} (hm:0<=m): ∀(st out:List Sr),Hg (m+16384) out->Hg m st->Hg (m+16384) (st.foldl (JS x t p stop) out)/\(st.foldl (JS x t p stop) out).length<=out.length+2*st.length
 | [],out,ho,_=>⟨ho,Zb⟩
 | a::st,out,ho,hs=>by
  obtain ⟨g1,g2⟩:=wL hT (p:=p) hm ho (hs a Zb);obtain ⟨k1,k2⟩:=IV hT (p:=p) hm st _ g1 fun b hb=>hs b (Yo _ hb);rw [XS];exact ⟨k1,by simp only [ZE];omega⟩
def R1 (x:Inst) (k:Int) (S tot f:Nat):Prop:= ∀(l:List Vis) (c:Bool) (p:Int) (st:List Sr) (b:Col×Bool),l.length+f=tot->(c=true->0<f)->Hg (16384*(l.length:Int)) st->st.length<=2^(l.length+1)->b.1.route.visits.length<=1048576 ->
  ACalls Tryz.prog 133 [.ptr 0 0,.p (.list c (l.map Xa)),.p (.int .i64 p),.p (.list false (st.map FU))] [YC x k S tot b] fun y H'=>y= .tup []/\H'= [YC x k S tot ((S0 x k S f l (p,st)).foldl (XJ (Gv x k) (Y3 x k S) Wy) b)]
theorem Zeq (x:Inst) (hx:InstOk x) (k:Int) (S tot:Nat) (ht:tot<=8) (hk:0<=k/\k<x.types.length) (htl:x.types.length<=1048576):R1 x k S tot 0:=by
 intro l c p st b hlf hc hs1 hs2 hb
 have hc:c=false:=by grind
 subst hc
 have hll:l.length=tot:=Za
 obtain ⟨R,hR⟩: ∃R,R=YC x k S tot ((S0 x k S 0 l (p,st)).foldl (XJ (Gv x k) (Y3 x k S) Wy) b):=⟨_,rfl⟩;rw [<- hR];simp only [S0,lvW,XS,UQ] at hR;obtain ⟨⟨bt,bs,bp,br⟩,bf⟩:=b;have hpr:=Oh x (JT k l);refine Ze [] Tryz.func133 rfl lB ?_;simp (disch:=omega) only [Tryz.f133,YC,go_sem,seval];refine cD ?_ ?_<;>intro h1<;>simp (disch:=omega) only [Sh.out h1,go_sem,seval,↓reduceIte]
 ·refine Xj (Zd ?_);refine Qd (dW x (JT k l) hx ⟨by grind [JT],by simp [JT]⟩) (Zd ?_);refine cD ?_ ?_<;>intro h2<;>simp (disch:=omega) only [Sh.out h2,go_sem,seval]
  ·have hok:Gv x k l=true:=Ud h2;have hcol:(⟨k,(S:Int),(YT x (JT k l)).1,⟨k,0,true,[],false,l⟩⟩:Col)=Y3 x k S l:=rfl;refine X5 [11] 12 mixed Zg Zg Zg Zb (Zd ?_);refine Xx 11 _ _ Zg (by refine Zd ?_;exact ⟨rfl,rfl⟩) (WE ?_);refine Zd ?_;refine ZF 11 mixed Zg Zg (Zd ?_);refine Zo (sY ⟨bt,bs,bp,br⟩ (Y3 x k S l) bf hb (by grind)) ?_
   have hR2:R=YC x k S tot (if bf=false\/Wy (Y3 x k S l) ⟨bt,bs,bp,br⟩=true then Y3 x k S l else ⟨bt,bs,bp,br⟩,true):=by
    rw [hR,XJ]
    grind
   generalize (if bf=false\/Wy (Y3 x k S l) ⟨bt,bs,bp,br⟩=true then Y3 x k S l else ⟨bt,bs,bp,br⟩)=C at hR2 ⊢;refine Zd ?_;exact ⟨.tup [],[R],Weak.mk (by simp (disch:=omega) only [hR2,YC,go_sem,seval]),rfl,rfl⟩
  ·have hok:Gv x k l=false:=Vs h2;rw [XJ,if_neg (fun h=>by grind)] at hR;exact ⟨.tup [],[R],Weak.mk (by simp (disch:=omega) only [hR,YC,go_sem,seval]),rfl,rfl⟩
 ·omega
theorem LV {x:Inst} {k:Int} {S:Nat} : ∀(f:Nat) (l:List Vis) (s:Int×List Sr),∀m∈S0 x k S f l s,m.length=l.length+f
 | 0,l,s,m,hm=>by
  simp_all [S0,lvW]
 | f+1,l,s,m,hm=>by
  simp only [S0,lvW,X0] at hm;obtain ⟨v,_,hm⟩:=hm
  split at hm
  ·simp at hm
  ·have:=LV f (l++ [v]) _ m hm;simp at this;omega
theorem OW {x:Inst} {k:Int} {S N:Nat} : ∀(L:List (List Vis)) (b:Col×Bool),b.1.route.visits.length<=N->(∀m∈L,m.length<=N)->(L.foldl (XJ (Gv x k) (Y3 x k S) Wy) b).1.route.visits.length<=N
 | [],b,h,_=>h
 | m::L,b,h,hL=>by
  rw [XS];refine OW L _ ?_ fun q hq=>hL q (Yo _ hq);unfold XJ
  split
  ·exact hL m Zb
  ·exact h
theorem Zer (x:Inst) (hx:InstOk x) (k:Int) (S tot f:Nat) (ht:tot<=8) (hk:0<=k/\k<x.types.length) (htl:x.types.length<=1048576) (hbl:x.before.length<=1048576) (hS:S<9223372036854775808) (ih:R1 x k S tot f):R1 x k S tot (f+1):=by
 intro l c p st b hlf hc hs1 hs2 hb;have hf:=XP hx
 have hn:x.orders.length<=60:=by have:=hf.len;omega
 obtain ⟨R,hR⟩: ∃R,R=YC x k S tot ((S0 x k S (f+1) l (p,st)).foldl (XJ (Gv x k) (Y3 x k S) Wy) b):=⟨_,rfl⟩;rw [<- hR];have hpw:2^(l.length+1)<=2^8:=Yw Za Za
 have hpw2:2^(l.length+1+1)=2*2^(l.length+1):=Za
 have hnl:=JI x S l x.orders.length;have hokv: ∀v∈nextU x S l x.orders.length,NF x v=true/\0<=(Xo x v).place/\TrpOk x (nth x.types k.toNat) [Xo x v]:=fun v hv=>Zkt hx hv hk;obtain ⟨G,hG⟩: ∃G:Vis->List (List Vis),G=fun v=>if (goS x (nth x.types k.toNat) (p,st) v).2.isEmpty=true then [] else S0 x k S f (l++ [v]) (goS x (nth x.types k.toNat) (p,st) v):=⟨_,rfl⟩
 have hlv:S0 x k S (f+1) l (p,st)=(nextU x S l x.orders.length).flatMap G:=by rw [hG];rfl
 rw [hlv] at hR;have hsn:=eA x S l c hS Za hn hbl (fun q hq=>by have:=(hf.val q hq);omega);generalize hnx:nextU x S l x.orders.length=nx at hnl hokv hR hsn;clear hnx hlv;obtain ⟨B,hB⟩: ∃B:Nat->Col×Bool,B=fun q=>((nx.take q).flatMap G).foldl (XJ (Gv x k) (Y3 x k S) Wy) b:=⟨_,rfl⟩
 have hB0:B 0=b:=by rw [hB];rfl
 have hBn:R=YC x k S tot (B nx.length):=by grind
 have hBs: ∀q,q<nx.length->B (q+1)=(G (nth nx q)).foldl (XJ (Gv x k) (Y3 x k S) Wy) (B q):=fun q hq=>by
  rw [hB];simp only;rw [X3 hq,List.flatMap_append,List.foldl_append,<- Zi hq];simp
 have hBl: ∀q,(B q).1.route.visits.length<=1048576:=fun q=>by
  rw [hB];refine OW _ _ hb fun m hm=> ?_;obtain ⟨v,_,hm⟩:=X0.1 hm;rw [hG] at hm;simp only at hm
  split at hm
  ·simp at hm
  ·have:=LV _ _ _ m hm;simp at this;omega
 clear hR hB;refine Ze [] Tryz.func133 rfl lB ?_;simp (disch:=omega) only [Tryz.f133,YC,go_sem,seval];refine cD ?_ ?_<;>intro h1<;>simp (disch:=omega) only [Sh.out h1,go_sem,seval,↓reduceIte]
 ·omega
 ·refine Xj (Zd ?_);refine Zo (hsn) (Zd ?_);refine Zl [0,1,2,3,77,78] (fun q:Nat=> [(79,.p (.int .i64 q))]) (fun q=> [YC x k S tot (B q)]) (fun q=>q<=nx.length) (fun q=>nx.length-q) 0 Zb (Weak.mk ?_) ?_
  ·simp (disch:=omega) only [YC,hB0,go_sem,seval,↓reduceIte]
  ·intro q hq;simp (disch:=omega) only [YC,go_sem,seval];refine cD ?_ ?_<;>intro h2<;>simp (disch:=omega) only [Sh.out h2,go_sem,seval,↓reduceIte]
   ·have hq2:q<nx.length:=Za
    obtain ⟨v1,v2,v3⟩:=hokv _ (Z2 hq2);have hBq:=hBs q hq2;refine X5 [10,11] 12 mixed Zg Zg Zg Zb (Zd ?_);refine Qd (Tj x (nth nx q) Za v1 v2) (Zd ?_);refine Xx 10 _ _ Zg (by refine Zd ?_;exact ⟨rfl,rfl⟩) ?_;refine Zd ?_;refine Xx 11 _ _ Zg (by refine Zd ?_;exact ⟨rfl,rfl⟩) (WE ?_);refine Zd ?_
    have hSr0:Hg (16384*(l.length:Int)+16384) []:=fun a ha=>by simp at ha
    obtain ⟨w1,w2⟩:=IV v3 (p:=p) (m:=16384*(l.length:Int)) Za st [] hSr0 hs1;obtain ⟨N,hN⟩: ∃N,N=Eg x (nth x.types k.toNat) p st (Xo x (nth nx q)):=⟨_,rfl⟩;have cv:=wM x k S tot (B q) p st false (Xo x (nth nx q)) (16384*(l.length:Int)) Za hk htl v3 Za hs1
    have hGq:G (nth nx q)=if N.isEmpty=true then [] else S0 x k S f (l++ [nth nx q]) ((Xo x (nth nx q)).place,N):=by rw [hG,hN];rfl
    rw [<- hN] at cv
    have w1':Hg (16384*(l.length:Int)+16384) N:=by rw [hN];exact w1
    have w2':N.length<=2*st.length:=by grind [Eg]
    refine cv.useP (L:= [_,_]) (by rfl) ?_ (by rfl) (by rfl);simp (disch:=omega) only [YC,ZR,ZH,go_sem,seval];refine cD ?_ ?_<;>intro h3<;>simp (disch:=omega) only [Sh.out h3,go_sem,seval,↓reduceIte]
    ·have hne: ¬N.isEmpty=true:=fun h=>by grind
     rw [hGq,if_neg hne] at hBq
     have ihc:=ih (l++ [nth nx q]) false (Xo x (nth nx q)).place N (B q) (by simp;omega) Zb (by
      have e:16384*(((l++ [nth nx q]).length:Nat):Int)=16384*(l.length:Int)+16384:=by simp;omega
      grind) (by grind) (hBl q)
     rw [<- hBq,Xy] at ihc;refine ZF 9 mixed Zg Zg (Zd ?_);refine Zo (ZaC l c Za) (Zd ?_);refine ihc.useP (L:= [_,_]) (by rfl) ?_ (by rfl) (by rfl);simp (disch:=omega) only [YC,ZR,ZH,go_sem,seval];exact ⟨q+1,Za,Za,wk⟩
    ·have he:N.isEmpty=true:=by simp_all
     rw [hGq,if_pos he] at hBq;have hBq':B (q+1)=B q:=hBq;exact ⟨q+1,Za,Za,Weak.mk (by simp (disch:=omega) only [hBq',go_sem,seval])⟩
   ·have hql:q=nx.length:=Za
    subst hql;exact ⟨.tup [],[R],Weak.mk (by simp (disch:=omega) only [hBn,YC,go_sem,seval]),rfl,rfl⟩
theorem Em (x:Inst) (hx:InstOk x) (k:Int) (S tot:Nat) (ht:tot<=8) (hk:0<=k/\k<x.types.length) (htl:x.types.length<=1048576) (hbl:x.before.length<=1048576) (hS:S<9223372036854775808): ∀f,R1 x k S tot f
 | 0=>Zeq x hx k S tot ht hk htl
 | f+1=>Zer x hx k S tot f ht hk htl hbl hS (Em x hx k S tot ht hk htl hbl hS f)
theorem oF (x:Inst) (k:Int) (S tot:Nat) (b:Col×Bool) (d v:Int) (hk:0<=k/\k<x.types.length) (ht:x.types.length<=1048576) (hd:0<=d/\d<=1048576) (hr:0<=(nth x.types k.toNat).rest/\(nth x.types k.toNat).rest<=1048576) :
  ACalls Tryz.prog 134 [.ptr 0 0,.p (.list true []),.p (.int .i64 d),.p (.int .i64 v)] [YC x k S tot b] fun y H'=>y= .p (.list false ((VU (nth x.types k.toNat) [] d v).map FU))/\H'= [YC x k S tot b]:=by
 obtain ⟨L2,h2⟩: ∃L2,L2=VU (nth x.types k.toNat) [] d v:=⟨_,rfl⟩
 have h12:UV [⟨d,v⟩] ⟨d+(nth x.types k.toNat).rest,0⟩=L2:=by rw [h2];rfl
 rw [<- h2];have c2:=P2 [⟨d,v⟩] ⟨d+(nth x.types k.toNat).rest,0⟩ Zb;rw [h12] at c2;refine Ze [] Tryz.func134 rfl lC ?_;simp (disch:=omega) only [Tryz.f134,go_sem,seval];refine (tN ⟨d,v⟩).useF (Zd ?_);simp (disch:=omega) only [YC,go_sem,seval];refine ZF 16 mixed Zg Zg (Zd ?_);refine ACalls.mono (c2.back [YC x k S tot b] (by rfl)) ?_;rintro y H' ⟨y1,H1,⟨rfl,rfl⟩,rfl,rfl⟩;simp (disch:=omega) only [AM.shV,AM.shO,YC,Zt,Zk,ZR,ZH,go_sem,seval];exact ⟨.p (.list false (L2.map FU)),[YC x k S tot b],(Weak.fz (o:=1) (by rfl)).trans (Weak.mk (by simp (disch:=omega) only [YC,eq_self,Zt,Zk,ZQ,ZG,go_sem,seval,↓reduceIte])),rfl,rfl⟩
theorem NT (x:Inst) (S:Nat): ∀k,k<=63->((X6 (S:Int) k).map fun i=>(ZV x.orders i.toNat).length).sum=Ak x S k
 | 0,_=>by rfl
 | k+1,h=>by
  have ih:=NT x S k Za;rw [Ba]
  cases hb:sHas (S:Int) (k:Int) with
  | true =>
   rw [NU hb,Xy,List.sum_append,ih];rw [WV _ _ Za] at hb;rw [if_pos hb];simp
  | false =>
   rw [S7 hb,ih];rw [WV _ _ Za] at hb;rw [hb];simp
theorem OT (x:Inst) (S n:Nat) (h: ∀i,S.testBit i=true->i<n): ∀d,Ak x S (n+d)=Ak x S n
 | 0=>rfl
 | d+1=>by
  rw [show n+(d+1)=n+d+1 by omega,Ba,OT x S n h d,if_neg (fun e=>by have:=h _ e;omega)];rfl
def WK : Col:=⟨0,0,0,⟨0,0,true,[],true,[]⟩⟩
noncomputable def VZ (x:Inst) (k:Int) (S:Nat):Col×Int:=if WC x.orders x.apart x.before (S:Int)=0/\(EB x k S (WK,false)).2=true then ((EB x k S (WK,false)).1,0) else (WK,24)
def EE : AM.Obj:= .cells ((Hm WK).map .p)
theorem Ma (x:Inst) (hx:InstOk x) (k:Int) (S:Nat) (hk:0<=k/\k<x.types.length) (h4:x.orders.length<=4) (htl:x.types.length<=1048576) (hbl:x.before.length<=1048576) (hal:x.apart.length<=1048576) (hS0:0<S) (hS1:S<2^x.orders.length) :
  PT 104 [.p (Zs x),.p (.int .i64 k),.p (.int .i64 S)] [.p (Xv (VZ x k S).1),.p (.int .i64 (VZ x k S).2)]:=by
 have hf:=XP hx;have h16:S<16:=UL hS1 (Yw (n:=2) Za h4);have hdiv:S / pw x.orders.length=0:=QP hS1
 have hbit: ∀i,S.testBit i=true->i<x.orders.length:=fun i hi=>by
  rcases Wm i x.orders.length with h | h
  ·exact h
  ·have:2^x.orders.length<=2^i:=Yw Za h
   grind [AE]
 obtain ⟨Z,hZ⟩: ∃Z,Z=VZ x k S:=⟨_,rfl⟩;rw [<- hZ];have hal2:=T2 x.net x.types_c x.types x.orders_c x.apart_c x.before_c x.orders x.apart x.before (S:Nat) Za hal hbl hf.val;refine Ze [] Tryz.func104 rfl Za0 ?_;simp (disch:=omega) only [Tryz.f104,go_sem,seval];refine gF ?_ ?_<;>intro h1<;>simp (disch:=omega) only [Sh.out h1,go_sem,seval,↓reduceIte]
 ·omega
 ·refine gF ?_ ?_<;>intro h2<;>simp (disch:=omega) only [Sh.out h2,go_sem,seval,↓reduceIte]
  ·omega
  ·refine gF ?_ ?_<;>intro h3<;>simp (disch:=omega) only [Sh.out h3,go_sem,seval,↓reduceIte]
   ·omega
   ·refine cD ?_ ?_<;>intro h5<;>simp (disch:=omega) only [Sh.out h5,go_sem,seval,↓reduceIte]
    ·omega
    ·refine (hal2).use (Zd ?_);refine cD ?_ ?_<;>intro h6<;>simp (disch:=omega) only [Sh.out h6,go_sem,seval,↓reduceIte]
     ·have e:Z=(WK,24):=by simp_all [VZ]
      exact ⟨.tup [.p (Xv Z.1),.p (.int .i64 Z.2)],[],Weak.mk (by simp (disch:=omega) only [e,WK,Zk,go_sem,seval]),rfl,rfl⟩
     ·have h60:WC x.orders x.apart x.before (S:Int)=0:=Z1.1 h6;obtain ⟨T,hT⟩: ∃T:Nat->Nat,T=fun q=>(((X6 (S:Int) 63).take q).map fun i=>(ZV x.orders i.toNat).length).sum:=⟨_,rfl⟩
      have hT0:T 0=0:=by rw [hT];rfl
      have hTn:T (X6 (S:Int) 63).length=W5 x S:=by
       rw [hT];simp only [X1];rw [NT x S 63 Za,show 63=x.orders.length+(63-x.orders.length) by omega,OT x S _ hbit];rfl
      have hTs: ∀q,q<(X6 (S:Int) 63).length->T (q+1)=T q+(ZV x.orders (nth (X6 (S:Int) 63) q).toNat).length:=fun q hq=>by
       grind [X3,Zi]
      have hTl: ∀q,T q<=2*q:=fun q=>by
       induction q with
       | zero=>omega
       | succ q ih =>
        rcases Wm q (X6 (S:Int) 63).length with h | h
        ·grind [WY]
        grind [CF]
      have hml:=CO (S:Int) 63
      have hmi: ∀q,q<(X6 (S:Int) 63).length-> ∃i:Nat,nth (X6 (S:Int) 63) q=(i:Int)/\i<x.orders.length:=fun q hq=>by
       obtain ⟨i,e,_,hb⟩:=JF.1 (Z2 hq)
       grind
      refine ((DP (S:Int)).frozen Zb).use (Zd ?_);generalize X6 (S:Int) 63=M at hTn hTs hml hmi ⊢;clear hT;refine Zl [1,3,6,8,45,46] (fun q:Nat=> [(47,.p (.int .i64 q))]) (fun q=> [Zf x,EE,YC x k S (T q) (WK,false)]) (fun q=>q<=M.length) (fun q=>M.length-q) 0 Zb (Weak.mk ?_) ?_
      ·simp (disch:=omega) only [Zf,EE,Hm,WK,YC,hT0,Zk,Zt,go_sem,seval]
      ·intro q hq;have hq1:=hTl q;simp (disch:=omega) only [Zf,EE,Hm,WK,YC,Zk,Zt,go_sem,seval];refine cD ?_ ?_<;>intro h7<;>simp (disch:=omega) only [Sh.out h7,go_sem,seval,↓reduceIte]
       ·have hq2:q<M.length:=Za
        obtain ⟨i,hi,hin⟩:=hmi q hq2;have hts:=hTs q hq2;rw [hi,XD] at hts;have hvl:=WY x.orders i;refine ZF 10 mixed Zg Zg (Zd ?_);rw [hi];refine Zo (visits_c x.orders x.orders_c i hin Za) (Zd ?_)
        have hts2:((T (q+1):Nat):Int)=((T q:Nat):Int)+((ZV x.orders i).length:Int):=Za
        exact ⟨q+1,Za,Za,Weak.mk (by simp (disch:=omega) only [hts2,go_sem,seval])⟩
       ·have hqm:q=M.length:=Za
        subst hqm;rw [hTn] at hq1 ⊢
        have ht8:W5 x S<=8:=by
         grind [Do,W5]
        have htp:0<W5 x S:=TJ hf.vne hdiv Za;obtain ⟨t1,t2,t3,_⟩:=WX hx (show k.toNat<x.types.length by omega);obtain ⟨N,hN⟩: ∃N,N=VU (nth x.types k.toNat) [] (nth x.types k.toNat).opn 0:=⟨_,rfl⟩
        have hNl:N.length<=2:=by
         grind [BO]
        have hNo:Hg 0 N:=fun a ha=>by
         rw [hN] at ha;rcases Vu.1 ha with h | rfl | rfl
         ·simp at h
         ·grind
         ·exact ⟨by simp only;omega,Zb⟩
        have cf:=oF x k S (W5 x S) (WK,false) (nth x.types k.toNat).opn 0 hk htl Za Za;rw [<- hN] at cf;have cw:=Em x hx k S (W5 x S) ht8 hk htl hbl Za (W5 x S) [] true (nth x.types k.toNat).src N (WK,false) Zb (fun _=>htp) (by grind) Za (by simp [WK])
        have hB:(S0 x k S (W5 x S) [] ((nth x.types k.toNat).src,N)).foldl (XJ (Gv x k) (Y3 x k S) Wy) (WK,false)=EB x k S (WK,false):=by rw [EB,st0,<- hN]
        rw [hB] at cw
        have hZ2:Z=if (EB x k S (WK,false)).2=true then ((EB x k S (WK,false)).1,0) else (WK,24):=by
         rw [hZ,VZ]
         simp_all
        generalize EB x k S (WK,false)=B at cw hZ2;refine ZF 7 mixed Zg Zg (Zd ?_);refine ⟨.p (.list false (N.map FU)),?_,?_⟩
        ·refine ACalls.mono (((cf.mono fun y H' hq=>(⟨hq,by rw [hq.2]⟩:_/\H'.length= [YC x k S (W5 x S) (WK,false)].length)).front (by rfl) (by rfl) [.cells ((KP (nth x.types k.toNat)).map .p)]).back [Zf x,EE] (by rfl)) ?_;rintro y H' ⟨y1,H1,⟨H2,⟨rfl,rfl⟩,rfl⟩,rfl,rfl⟩;exact ⟨rfl,rfl⟩
        ·refine Zd ?_;refine ACalls.mono (((cw.mono fun y H' hq=>(⟨hq,by grind⟩:_/\H'.length= [YC x k S (W5 x S) (WK,false)].length)).front (by rfl) (by rfl) [.cells ((KP (nth x.types k.toNat)).map .p)]).back [Zf x,EE] (by rfl)) ?_;rintro y H' ⟨y1,H1,⟨H2,⟨rfl,rfl⟩,rfl⟩,rfl,rfl⟩;simp (disch:=omega) only [AM.shV,AM.shVs,AM.shO,Zf,EE,Hm,WK,YC,KP,Zt,Zk,ZR,ZH,go_sem,seval];obtain ⟨C,f⟩:=B
         cases f with
         | false =>
          rw [if_neg Zb] at hZ2;refine G3 ?_;exact ⟨.tup [.p (Xv Z.1),.p (.int .i64 Z.2)],[],Weak.mk (by simp (disch:=omega) only [hZ2,WK,Zk,go_sem,seval]),rfl,rfl⟩
         | true =>
          rw [if_pos rfl] at hZ2;refine G4 ?_;exact ⟨.tup [.p (Xv Z.1),.p (.int .i64 Z.2)],[],Weak.mk (by simp (disch:=omega) only [hZ2,go_sem,seval]),rfl,rfl⟩
theorem PB (a b:Col) (ha:a.route.visits.length<=1048576) (hb:b.route.visits.length<=1048576):PC 150 [.p (Xv a),.p (Xv b)] (.bool (Wy a b)):=by
 refine Zc Tryz.func150 rfl Zbt ?_;simp (disch:=omega) only [Tryz.f150,go_sem,seval];refine cD ?_ ?_<;>intro h<;>simp (disch:=omega) only [Sh.out h,go_sem,seval,↓reduceIte]
 ·rw [Wy,if_pos h]
 ·refine (vJ a.route.visits b.route.visits a.route.visits_c b.route.visits_c ha hb).use (Zd ?_);rw [Wy,if_neg h]
theorem PP (x:Inst) (S:Nat) (h4:x.orders.length<=60) (hS0:0<S) (hS:S<9223372036854775808):PC 113 [.p (Zs x),.p (.int .i64 S)] (.bool (decide (S / pw x.orders.length=0))):=by
 refine Zc Tryz.func113 rfl Za7 ?_;simp (disch:=omega) only [Tryz.f113,go_sem,seval];refine Zl [1,2] (fun k:Nat=> [(5,.p (.int .i64 (hv S k:Nat))),(6,.p (.int .i64 k))]) (fun _=> [Zf x]) (fun k=>k<=x.orders.length) (fun k=>x.orders.length-k) 0 Zb (Weak.mk ?_) ?_
 ·simp (disch:=omega) only [SN,Zf,go_sem,seval]
 ·intro k hk;have e1:=SM S k;have h1:=xV S k;refine YV ?_;refine gT ?_ ?_<;>intro h2<;>simp (disch:=omega) only [Sh.out h2,go_sem,seval,↓reduceIte]
  ·refine Z0 ?_ ?_<;>intro h3
   ·have e2:((hv S (k+1):Nat):Int)=((hv S k:Nat):Int) / 2:=Za
    exact ⟨k+1,Za,Za,Weak.mk (by simp (disch:=omega) only [e2,go_sem,seval])⟩
   ·omega
  ·have hkn:k=x.orders.length:=Za
   subst hkn;refine gT ?_ ?_<;>intro h3<;>simp (disch:=omega) only [Sh.out h3,go_sem,seval,↓reduceIte]
   ·have e:decide (((hv S x.orders.length:Nat):Int)=0)=decide (S / pw x.orders.length=0):=by
     rw [decide_eq_decide];unfold hv;omega
    simp (disch:=omega) only [e,go_sem,seval]
   ·omega
def RZ (x:Inst) (k:Int) (S f:Nat):Prop:= ∀(l:List Vis) (c:Bool) (b:Col) (fd:Bool),Gr x S l->l.length+f=W5 x S->(c=true->l= [])->b.typ=k->b.set=S->b.route.visits.length<=1048576 ->
  PT 114 [.p (Zs x),.p (Xv b),.p (.bool fd),.p (.list c (l.map Xa))] [.p (Xv ((Bo (CU x S) f l).foldl (XJ (Dt x k S) (Y3 x k S) Wy) (b,fd)).1),.p (.bool ((Bo (CU x S) f l).foldl (XJ (Dt x k S) (Y3 x k S) Wy) (b,fd)).2)]
theorem IG (x:Inst) (hx:InstOk x) (k:Int) (S:Nat) (hS0:0<S) (hS:S<9223372036854775808) (ho:x.orders.length<=60) (htl:x.types.length<=1048576) (hbl:x.before.length<=1048576) (l:List Vis) (c:Bool) (b:Col) (fd:Bool) (hnx:CU x S l= []) (hll:l.length<=1048576) (hc:c=true->l= []) (hb1:b.typ=k) (hb2:b.set=S) (hb3:b.route.visits.length<=1048576) :
  PT 114 [.p (Zs x),.p (Xv b),.p (.bool fd),.p (.list c (l.map Xa))] [.p (Xv (XJ (Dt x k S) (Y3 x k S) Wy (b,fd) l).1),.p (.bool (XJ (Dt x k S) (Y3 x k S) Wy (b,fd) l).2)]:=by
 have hf:=XP hx;obtain ⟨Z,hZ⟩: ∃Z,Z=XJ (Dt x k S) (Y3 x k S) Wy (b,fd) l:=⟨_,rfl⟩;rw [<- hZ];have hnx':nextU x S l x.orders.length= []:=hnx;obtain ⟨bt,bs,bp,br⟩:=b;simp only at hb1 hb2 hb3;have hb1:=hb1.symm;subst hb1;subst hb2;have hnc:=Ts x S l c hS hll ho hbl hf.plc (fun q hq=>by have:=(hf.val q hq);omega);rw [hnx'] at hnc;refine Ze [] Tryz.func114 rfl kZ ?_;simp (disch:=omega) only [Tryz.f114,go_sem,seval];refine (hnc).use (Zd ?_);refine YU (IC ⟨k,0,true,[],c,l⟩ hll) (Zd ?_);refine gF ?_ ?_<;>intro h1<;>simp (disch:=omega) only [Sh.out h1,go_sem,seval,↓reduceIte]
 ·have hok:Dt x k S l=false:=by
   grind [Dt]
  have e:Z=(⟨k,S,bp,br⟩,fd):=by simp_all [XJ]
  exact ⟨.tup [.p (Xv Z.1),.p (.bool Z.2)],[],Weak.mk (by simp (disch:=omega) only [e,go_sem,seval]),rfl,rfl⟩
 ·have h1':(Jl l).1=(S:Int):=Z1.1 h1
  have hcf:c=false:=by
   cases c with
   | false=>rfl
   | true =>
    exfalso;rw [hc rfl] at h1';have:(Jl ([]:List Vis)).1=0:=rfl;omega
  subst hcf;refine (eZ x (JT k l) hx hll (by simp [JT])).use (Zd ?_);refine cD ?_ ?_<;>intro h2<;>simp (disch:=omega) only [Sh.out h2,go_sem,seval,↓reduceIte]
  ·have hok:Dt x k S l=false:=by
    grind [Dt]
   have e:Z=(⟨k,S,bp,br⟩,fd):=by simp_all [XJ]
   exact ⟨.tup [.p (Xv Z.1),.p (.bool Z.2)],[],Weak.mk (by simp (disch:=omega) only [e,go_sem,seval]),rfl,rfl⟩
  ·have h2':Xq x (JT k l)=0:=Z1.1 h2;refine YU (Oo x (JT k l) hx ⟨hll,by simp [JT]⟩) (Zd ?_);have hcol:Y3 x k S l=⟨k,S,(YT x (JT k l)).1,JT k l⟩:=rfl;refine gF ?_ ?_<;>intro h3<;>simp (disch:=omega) only [Sh.out h3,go_sem,seval,↓reduceIte]
   ·have hok:Dt x k S l=false:=by
     grind [Dt,Gv]
    have e:Z=(⟨k,S,bp,br⟩,fd):=by simp_all [XJ]
    exact ⟨.tup [.p (Xv Z.1),.p (.bool Z.2)],[],Weak.mk (by simp (disch:=omega) only [e,go_sem,seval]),rfl,rfl⟩
   ·have hok:Dt x k S l=true:=by
     simp_all [Dt,Gv]
    cases fd with
    | false =>
     have e:Z=(Y3 x k S l,true):=by rw [hZ,XJ,if_pos ⟨hok,.inl rfl⟩]
     refine Zd ?_;exact ⟨.tup [.p (Xv Z.1),.p (.bool Z.2)],[],Weak.mk (by simp (disch:=omega) only [e,hcol,JT,Zk,go_sem,seval]),rfl,rfl⟩
    | true =>
     refine Zd ?_;refine (PB (Y3 x k S l) ⟨k,S,bp,br⟩ hll hb3).use (Zd ?_)
     cases hbt:Wy (Y3 x k S l) ⟨k,S,bp,br⟩ with
     | true =>
      have e:Z=(Y3 x k S l,true):=by simp_all [XJ]
      refine G4 ?_;exact ⟨.tup [.p (Xv Z.1),.p (.bool Z.2)],[],Weak.mk (by simp (disch:=omega) only [e,hcol,JT,Zk,go_sem,seval]),rfl,rfl⟩
     | false =>
      have e:Z=(⟨k,S,bp,br⟩,true):=by simp_all [XJ]
      refine G3 ?_;exact ⟨.tup [.p (Xv Z.1),.p (.bool Z.2)],[],Weak.mk (by simp (disch:=omega) only [e,go_sem,seval]),rfl,rfl⟩
theorem Zea (x:Inst) (hx:InstOk x) (k:Int) (S:Nat) (hS0:0<S) (hS:S<9223372036854775808) (ho:x.orders.length<=60) (htl:x.types.length<=1048576) (hbl:x.before.length<=1048576):RZ x k S 0:=by
 intro l c b fd hg hl hc hb1 hb2 hb3;have:=Do x S x.orders.length
 have hl':l.length=Ak x S x.orders.length:=by grind [W5]
 simp only [Bo,XS,UQ];exact IG x hx k S hS0 hS ho htl hbl l c b fd (tY hg Za) Za hc hb1 hb2 hb3
theorem OV {x:Inst} {k:Int} {S N:Nat} : ∀(L:List (List Vis)) (b:Col×Bool),b.1.typ=k/\b.1.set=S/\b.1.route.visits.length<=N->(∀m∈L,m.length<=N)->(L.foldl (XJ (Dt x k S) (Y3 x k S) Wy) b).1.typ=k/\(L.foldl (XJ (Dt x k S) (Y3 x k S) Wy) b).1.set=S/\(L.foldl (XJ (Dt x k S) (Y3 x k S) Wy) b).1.route.visits.length<=N
 | [],b,h,_=>h
 | m::L,b,h,hL=>by
  rw [XS];refine OV L _ ?_ fun q hq=>hL q (Yo _ hq);unfold XJ
  split
  ·exact ⟨rfl,rfl,hL m Zb⟩
  ·exact h
theorem S1 {x:Inst} {S:Nat} : ∀(f:Nat) (l:List Vis),∀m∈Bo (CU x S) f l,m.length<=l.length+f
 | 0,l,m,hm=>by
  simp_all [Bo]
 | f+1,l,m,hm=>by
  rw [Bo] at hm
  split at hm
  ·grind
  ·obtain ⟨v,_,hm⟩:=X0.1 hm;have:=S1 f _ m hm
   grind
theorem Zem {g:FuncId} {args:List V} {a b:PV} {H:List AM.Obj} {K:V->List AM.Obj->Prop} (h:ACalls Tryz.prog g args [] fun x H'=>x= .tup [.p a,.p b]/\H'= []) (k:K (.tup [.p a,.p b]) H) (ha:Xu 0 args=true:=by rfl):ACalls Tryz.prog g args H K:=YU h k ha
theorem Zeb (x:Inst) (hx:InstOk x) (k:Int) (S f:Nat) (hS0:0<S) (hS:S<9223372036854775808) (ho:x.orders.length<=60) (htl:x.types.length<=1048576) (hbl:x.before.length<=1048576) (ih:RZ x k S f):RZ x k S (f+1):=by
 intro l c b fd hg hl hc hb1 hb2 hb3;have hf:=XP hx;have htu:=Do x S x.orders.length
 have hll:l.length<=120:=by grind [W5]
 by_cases hnx:CU x S l= []
 ·rw [show Bo (CU x S) (f+1) l= [l] by rw [Bo,if_pos hnx]];simp only [XS,UQ];exact IG x hx k S hS0 hS ho htl hbl l c b fd hnx Za hc hb1 hb2 hb3
 ·rw [show Bo (CU x S) (f+1) l=(CU x S l).flatMap fun v=>Bo (CU x S) f (l++ [v]) by rw [Bo,if_neg hnx]];have hnc:=Ts x S l c hS Za ho hbl hf.plc (fun q hq=>by have:=(hf.val q hq);omega);have hnl:=JI x S l x.orders.length;have hgv: ∀v∈CU x S l,Gr x S (l++ [v]):=fun v hv=> .snoc hg hv;have hnv:nextU x S l x.orders.length=CU x S l:=rfl;rw [hnv] at hnc hnl;generalize CU x S l=nx at hnx hnc hnl hgv ⊢;obtain ⟨B,hB⟩: ∃B:Nat->Col×Bool,B=fun q=>((nx.take q).flatMap fun v=>Bo (CU x S) f (l++ [v])).foldl (XJ (Dt x k S) (Y3 x k S) Wy) (b,fd):=⟨_,rfl⟩
  have hB0:B 0=(b,fd):=by rw [hB];rfl
  have hBn:(nx.flatMap fun v=>Bo (CU x S) f (l++ [v])).foldl (XJ (Dt x k S) (Y3 x k S) Wy) (b,fd)=B nx.length:=by rw [hB];simp
  have hBs: ∀q,q<nx.length->B (q+1)=(Bo (CU x S) f (l++ [nth nx q])).foldl (XJ (Dt x k S) (Y3 x k S) Wy) (B q):=fun q hq=>by
   rw [hB];simp only;rw [X3 hq,List.flatMap_append,List.foldl_append,<- Zi hq];simp
  have hBi: ∀q,(B q).1.typ=k/\(B q).1.set=S/\(B q).1.route.visits.length<=1048576:=fun q=>by
   rw [hB];refine OV _ _ ⟨hb1,hb2,hb3⟩ fun m hm=> ?_;obtain ⟨v,_,hm⟩:=X0.1 hm;have:=S1 _ _ m hm
   grind [W5]
  rw [hBn];clear hB hBn;have hne: ¬nx.length=0:=fun h=>hnx (YE h);refine Ze [] Tryz.func114 rfl kZ ?_;simp (disch:=omega) only [Tryz.f114,go_sem,seval];rw [<- hb2] at hnc;refine (hnc).use (Zd ?_);refine cD ?_ ?_<;>intro h1<;>simp (disch:=omega) only [Sh.out h1,go_sem,seval,↓reduceIte]
  ·omega
  ·refine Z3 [17] [3,4,5,8,10] (fun q:Nat=> [(2,.p (.bool (B q).2)),(16,.p (.int .i64 q))]) (fun q=> [Zf x,.cells ((Hm (B q).1).map .p),EE]) (fun q=>q<=nx.length) (fun q=>nx.length-q) 0 Zb (Weak.mk ?_) ?_
   ·simp (disch:=omega) only [Zf,EE,WK,Hm,hB0,Zt,Zk,go_sem,seval]
   ·intro q hq;simp (disch:=omega) only [Zf,EE,WK,Hm,Zt,Zk,go_sem,seval];refine cD ?_ ?_<;>intro h2<;>simp (disch:=omega) only [Sh.out h2,go_sem,seval,↓reduceIte]
    ·have hq2:q<nx.length:=Za
     have hBq:=hBs q hq2;obtain ⟨i1,i2,i3⟩:=hBi q;have hmem:=Z2 hq2;have ihc:=ih (l++ [nth nx q]) false (B q).1 (B q).2 (hgv _ hmem) (by simp;omega) Zb i1 i2 i3;rw [show ((B q).1,(B q).2)=B q from rfl,<- hBq,Xy] at ihc;refine ZM [2,3,4,5,8,10,16] (fun _:Unit=> [(17,.p (.list false ((l++ [nth nx q]).map Xa)))]) (fun _=> [Zf x,.cells ((Hm (B q).1).map .p),EE,.dead]) (fun _=>True) ?_ ?_
     ·simp (disch:=omega) only [ZJ,Xs,go_sem,seval];exact ⟨(),(Weak.fz (o:=3) (by rfl)).trans (Weak.mk (by simp (disch:=omega) only [Zf,EE,WK,Hm,Zt,Zk,ZA,ZE,ZJ,ZB,Xs,eq_self,ZQ,ZG,go_sem,seval]))⟩
     ·intro _ _;refine Zh [] _ _ _ _ ?_;simp (disch:=omega) only [Zf,EE,WK,Hm,Zt,Zk,go_sem,seval];refine Zem ihc ?_;simp (disch:=omega) only [Zt,Zk,go_sem,seval];exact ⟨q+1,Za,Za,wk⟩
    ·have hql:q=nx.length:=Za
     subst hql;exact ⟨.tup [.p (Xv (B nx.length).1),.p (.bool (B nx.length).2)],[],wk,rfl,rfl⟩
theorem GT (x:Inst) (hx:InstOk x) (k:Int) (S:Nat) (hS0:0<S) (hS:S<9223372036854775808) (ho:x.orders.length<=60) (htl:x.types.length<=1048576) (hbl:x.before.length<=1048576): ∀f,RZ x k S f
 | 0=>Zea x hx k S hS0 hS ho htl hbl
 | f+1=>Zeb x hx k S f hS0 hS ho htl hbl (GT x hx k S hS0 hS ho htl hbl f)
def BQ (one:Nat->List Col):Nat->List Col
 | 0=> []
 | q+1=>BQ one q++one (q+1)
def Uo (one:Nat->Nat->List Col) (N:Nat):Nat->List Col
 | 0=> []
 | k+1=>Uo one N k++BQ (one k) N
theorem C8 {one:Nat->List Col} (h: ∀q,(one q).length<=1): ∀q,(BQ one q).length<=q
 | 0=>Zy _
 | q+1=>by
  have:=C8 h q;have:=h (q+1);rw [BQ,ZA];omega
theorem B4 {one:Nat->Nat->List Col} {N:Nat} (h: ∀k q,(one k q).length<=1): ∀k,(Uo one N k).length<=k*N
 | 0=>by simp [Uo]
 | k+1=>by
  have h1:=B4 (N:=N) h k;have h2:=C8 (h k) N;rw [Uo,ZA,XO];omega
noncomputable def VS (x:Inst) (k S:Nat):List Col:=if (VZ x (k:Int) S).2=0 then [(VZ x (k:Int) S).1] else []
theorem K6 {x:Inst} (k S:Nat):(VS x k S).length<=1:=by grind [VS]
theorem Od (x:Inst) (hx:InstOk x) (h4:x.orders.length<=4) (h6:x.types.length<=6) (hbl:x.before.length<=1048576) (hal:x.apart.length<=1048576) :
  PT 77 [.p (Zs x)] [.p (.list false ((Uo (VS x) (2^x.orders.length-1) x.types.length).map Xv)),.p (.int .i64 0)]:=by
 have hp:pw x.orders.length=2^x.orders.length:=rfl;have hp1:1<=2^x.orders.length:=Nat.one_le_two_pow;have hp2:2^x.orders.length<=2^4:=Yw Za h4;obtain ⟨N,hN⟩: ∃N,N=2^x.orders.length-1:=⟨_,rfl⟩;rw [<- hN];refine Ze [12] Tryz.func77 rfl ZjV ?_;simp (disch:=omega) only [Tryz.f77,go_sem,seval];refine Z3 [12] [1,11] (fun k:Nat=> [(4,.sl 1 0 (Uo (VS x) N k).length (Uo (VS x) N k).length),(12,.p (.int .i64 k))]) (fun k=> [Zf x,.elems 7 ((Uo (VS x) N k).map Xv)]) (fun k=>k<=x.types.length) (fun k=>x.types.length-k) 0 Zb (Weak.ofNil 4 7 (by simp (disch:=omega) only [go_sem,seval]) Zb (Weak.mk ?_)) ?_
 ·simp (disch:=omega) only [Zf,Uo,Zk,ZJ,go_sem,seval]
 ·intro k hk;obtain ⟨R,hR⟩: ∃R,R=Uo (VS x) N k:=⟨_,rfl⟩;have hRl:=B4 (N:=N) (K6 (x:=x)) k
  have hRs:Uo (VS x) N (k+1)=R++BQ (VS x k) N:=by rw [hR];rfl
  rw [<- hR] at hRl ⊢;have hkN:k*N<=6*16:=AO Za Za;refine YV ?_;refine cD ?_ ?_<;>intro h1<;>simp (disch:=omega) only [Sh.out h1,go_sem,seval,↓reduceIte]
  ·obtain ⟨W,hW⟩: ∃W:Nat->List Col,W=fun q=>R++BQ (VS x k) (q-1):=⟨_,rfl⟩
   have hW0:W 1=R:=by grind [BQ]
   have hWn:Uo (VS x) N (k+1)=W (N+1):=by grind
   have hWl: ∀q,(W q).length<=R.length+q:=fun q=>by
    grind [C8,K6]
   have hWs: ∀q,1<=q->W (q+1)=W q++VS x k q:=fun q h=>by
    obtain ⟨p,rfl⟩: ∃p,q=p+1:=⟨q-1,Za⟩
    grind [BQ]
   clear hW hRs;refine Zl [1,5,11,12] (fun q:Nat=> [(4,.sl 1 0 (W q).length (W q).length),(6,.p (.int .i64 q))]) (fun q=> [Zf x,.elems 7 ((W q).map Xv)]) (fun q=>1<=q/\q<=N+1) (fun q=>N+1-q) 1 Za (Weak.mk ?_) ?_
   ·have e0:((1:Nat):Int)=1:=rfl;simp (disch:=omega) only [Zf,hW0,e0,go_sem,seval]
   ·rintro q ⟨hq0,hq⟩;have hql:=hWl q;have hqs:=hWs q hq0;refine YV ?_;refine Z0 ?_ ?_<;>intro h2
    ·have hq2:q<2^x.orders.length:=by
      have h2':q / pw x.orders.length=0:=Za
      simp_all
     refine YU (Ma x hx k q Za h4 Za hbl hal Za hq2) ?_;have hone:VS x k q=if (VZ x (k:Int) q).2=0 then [(VZ x (k:Int) q).1] else []:=rfl;rw [hone] at hqs;generalize VZ x (k:Int) q=Z at hqs ⊢;refine Zd ?_;refine Z0 ?_ ?_<;>intro h3
     ·rw [if_pos h3] at hqs;exact ⟨q+1,Za,Za,Weak.mk (by simp (disch:=omega) only [hqs,Xy,Zt,Zk,ZA,ZE,ZJ,Xs,go_sem,seval])⟩
     ·rw [if_neg h3,Yp] at hqs;exact ⟨q+1,Za,Za,Weak.mk (by simp (disch:=omega) only [hqs,go_sem,seval])⟩
    ·have hqn:q=N+1:=by
      have h2': ¬q / pw x.orders.length=0:=Za
      rw [hp] at h2';have: ¬q<2^x.orders.length:=fun h=>h2' (QP h);omega
     subst hqn;exact ⟨k+1,Za,Za,Weak.mk (by simp (disch:=omega) only [hWn,go_sem,seval])⟩
  ·have hkt:k=x.types.length:=Za
   subst hkt;refine Zp (Weak.fz (o:=1) (by rfl)) ?_;refine Zh [] _ _ _ _ ?_;simp (disch:=omega) only [Zt,Zk,ZQ,ZG,eq_self,go_sem,seval];exact ⟨.tup [.p (.list false (R.map Xv)),.p (.int .i64 0)],[],wk,by rw [hR],rfl⟩
def Bm (k:Int) (S:Nat):Col:=⟨k,S,0,⟨0,0,true,[],true,[]⟩⟩
theorem iL {x:Inst} (hx:InstOk x) {k:Int} (hk:0<=k/\k<x.types.length) {S:Nat} (hS0:0<S) (hS1:S<2^x.orders.length):VZ x k S=if (Cb x k S (Bm k S,false)).2=true then ((Cb x k S (Bm k S,false)).1,0) else (WK,24):=by
 have hf:=XP hx;have hdiv:S / pw x.orders.length=0:=QP hS1
 have hn:x.orders.length<=60:=by have:=hf.len;omega
 obtain ⟨t1,_⟩:=WX hx (show k.toNat<x.types.length by omega);have hi:=QM hn hdiv hf.val;rw [VZ]
 by_cases ha:Alw x S
 ·have e:=PF hx Za hdiv ha t1.1 (k:=k) (WK,false);have f:=G5 (ok:=Dt x k S) (col:=Y3 x k S) (better:=Wy) (Bo (CU x S) (W5 x S) []) WK (Bm k S);have f1:(Cb x k S (WK,false)).2=(Cb x k S (Bm k S,false)).2:=f.1;have f2:(Cb x k S (WK,false)).2=true->(Cb x k S (WK,false)).1=(Cb x k S (Bm k S,false)).1:=f.2
  grind
 simp_all [sD]
theorem iG (x:Inst) (hx:InstOk x) (k:Int) (S:Nat) (hk:0<=k/\k<x.types.length) (h4:x.orders.length<=4) (htl:x.types.length<=1048576) (hbl:x.before.length<=1048576) (hS0:0<S) (hS1:S<2^x.orders.length) :
  PT 84 [.p (Zs x),.p (.int .i64 k),.p (.int .i64 S)] [.p (Xv (VZ x k S).1),.p (.int .i64 (VZ x k S).2)]:=by
 have h16:S<16:=UL hS1 (Yw (n:=2) Za h4);have hdiv:S / pw x.orders.length=0:=QP hS1;obtain ⟨Z,hZ⟩: ∃Z,Z=VZ x k S:=⟨_,rfl⟩;rw [<- hZ];rw [iL hx hk hS0 hS1] at hZ;have cs:=GT x hx k S hS0 Za Za htl hbl (W5 x S) [] true (Bm k S) false .nil Zb (fun _=>rfl) rfl rfl (by simp [Bm]);rw [show (Bo (CU x S) (W5 x S) []).foldl (XJ (Dt x k S) (Y3 x k S) Wy) (Bm k S,false)=Cb x k S (Bm k S,false) from rfl] at cs;generalize Cb x k S (Bm k S,false)=B at cs hZ
 refine Ze [] Tryz.func84 rfl Zj2 ?_;simp (disch:=omega) only [Tryz.f84,go_sem,seval];refine gF ?_ ?_<;>intro h1<;>simp (disch:=omega) only [Sh.out h1,go_sem,seval,↓reduceIte]
 ·omega
 ·refine gF ?_ ?_<;>intro h2<;>simp (disch:=omega) only [Sh.out h2,go_sem,seval,↓reduceIte]
  ·omega
  ·refine (PP x S Za hS0 Za).use (Zd ?_);simp (disch:=omega) only [hdiv,eq_self,W2,go_sem,seval];refine YU cs (Zd ?_);obtain ⟨C,f⟩:=B
   cases f with
   | false =>
    rw [if_neg Zb] at hZ;refine G3 ?_;exact ⟨.tup [.p (Xv Z.1),.p (.int .i64 Z.2)],[],Weak.mk (by simp (disch:=omega) only [hZ,WK,Zk,go_sem,seval]),rfl,rfl⟩
   | true =>
    rw [if_pos rfl] at hZ;refine G4 ?_;exact ⟨.tup [.p (Xv Z.1),.p (.int .i64 Z.2)],[],Weak.mk (by simp (disch:=omega) only [hZ,go_sem,seval]),rfl,rfl⟩
theorem qS (x:Inst) (hx:InstOk x) (h4:x.orders.length<=4) (h6:x.types.length<=6) (hbl:x.before.length<=1048576) :
  PT 54 [.p (Zs x)] [.p (.list false ((Uo (VS x) (2^x.orders.length-1) x.types.length).map Xv)),.p (.int .i64 0)]:=by
 have hp1:1<=2^x.orders.length:=Nat.one_le_two_pow;have hp2:2^x.orders.length<=2^4:=Yw Za h4;obtain ⟨N,hN⟩: ∃N,N=2^x.orders.length-1:=⟨_,rfl⟩
 have hpN:pw x.orders.length=N+1:=by unfold pw;omega
 rw [<- hN];refine Ze [16] Tryz.func54 rfl ZjB ?_;simp (disch:=omega) only [Tryz.f54,go_sem,seval];refine Z3 [16] [1] (fun k:Nat=> [(4,.p (.int .i64 (pw k:Nat))),(5,.p (.int .i64 k))]) (fun _=> [Zf x]) (fun k=>k<=x.orders.length) (fun k=>x.orders.length-k) 0 Zb (Weak.mk ?_) ?_
 ·have e0:((pw 0:Nat):Int)=1:=rfl;simp (disch:=omega) only [Zf,e0,go_sem,seval]
 ·intro k hk;have hpk:pw k<=pw 4:=KD Za;have hp4:pw 4=16:=rfl;have hps:=Fj k
  have e2:((pw (k+1):Nat):Int)=((pw k:Nat):Int)*2:=Za
  refine YV ?_;refine gT ?_ ?_<;>intro h0<;>simp (disch:=omega) only [Sh.out h0,go_sem,seval,↓reduceIte]
  ·refine Z0 ?_ ?_<;>intro h1
   ·exact ⟨k+1,Za,Za,Weak.mk (by simp (disch:=omega) only [e2,go_sem,seval])⟩
   ·omega
  ·have hkn:k=x.orders.length:=Za
   subst hkn;rw [hpN];refine Z3 [16] [1,4] (fun k:Nat=> [(6,.sl 1 0 (Uo (VS x) N k).length (Uo (VS x) N k).length),(7,.p (.int .i64 k))]) (fun k=> [Zf x,.elems 7 ((Uo (VS x) N k).map Xv)]) (fun k=>k<=x.types.length) (fun k=>x.types.length-k) 0 Zb (Weak.ofNil 6 7 (by simp (disch:=omega) only [go_sem,seval]) Zb (Weak.mk ?_)) ?_
   ·simp (disch:=omega) only [Zf,Uo,Zk,ZJ,go_sem,seval]
   ·intro k hk;obtain ⟨R,hR⟩: ∃R,R=Uo (VS x) N k:=⟨_,rfl⟩;have hRl:=B4 (N:=N) (K6 (x:=x)) k
    have hRs:Uo (VS x) N (k+1)=R++BQ (VS x k) N:=by rw [hR];rfl
    rw [<- hR] at hRl ⊢;have hkN:k*N<=6*16:=AO Za Za;refine YV ?_;refine cD ?_ ?_<;>intro h1<;>simp (disch:=omega) only [Sh.out h1,go_sem,seval,↓reduceIte]
    ·obtain ⟨W,hW⟩: ∃W:Nat->List Col,W=fun q=>R++BQ (VS x k) q:=⟨_,rfl⟩
     have hW0:W 0=R:=by grind [BQ]
     have hWn:Uo (VS x) N (k+1)=W N:=by rw [hRs,hW]
     have hWl: ∀q,(W q).length<=R.length+q:=fun q=>by
      grind [C8,K6]
     have hWs: ∀q,W (q+1)=W q++VS x k (q+1):=fun q=>by grind [BQ]
     clear hW hRs;refine Zl [1,4,7] (fun q:Nat=> [(6,.sl 1 0 (W q).length (W q).length),(8,.p (.int .i64 ((q+1:Nat):Int)))]) (fun q=> [Zf x,.elems 7 ((W q).map Xv)]) (fun q=>q<=N) (fun q=>N-q) 0 Zb (Weak.mk ?_) ?_
     ·have e0:((0+1:Nat):Int)=1:=rfl;simp (disch:=omega) only [Zf,hW0,e0,go_sem,seval]
     ·intro q hq;have hql:=hWl q;have hqs:=hWs q
      have e1:((q+1+1:Nat):Int)=((q+1:Nat):Int)+1:=Za
      refine YV ?_;refine Z0 ?_ ?_<;>intro h2
      ·refine YU (iG x hx k (q+1) Za h4 Za hbl Za Za) ?_;have hone:VS x k (q+1)=if (VZ x (k:Int) (q+1)).2=0 then [(VZ x (k:Int) (q+1)).1] else []:=rfl;rw [hone] at hqs;generalize VZ x (k:Int) (q+1)=Z at hqs ⊢;refine Zd ?_;refine Z0 ?_ ?_<;>intro h3
       ·rw [if_pos h3] at hqs;exact ⟨q+1,Za,Za,Weak.mk (by simp (disch:=omega) only [hqs,Xy,Zt,Zk,ZA,ZE,ZJ,Xs,go_sem,seval])⟩
       ·rw [if_neg h3,Yp] at hqs;exact ⟨q+1,Za,Za,Weak.mk (by simp (disch:=omega) only [hqs,go_sem,seval])⟩
      ·have hqn:q=N:=Za
       subst hqn;exact ⟨k+1,Za,Za,Weak.mk (by simp (disch:=omega) only [hWn,go_sem,seval])⟩
    ·have hkt:k=x.types.length:=Za
     subst hkt;refine Zp (Weak.fz (o:=1) (by rfl)) ?_;refine Zh [] _ _ _ _ ?_;simp (disch:=omega) only [Zt,Zk,ZQ,ZG,eq_self,go_sem,seval];exact ⟨.tup [.p (.list false (R.map Xv)),.p (.int .i64 0)],[],wk,by rw [hR],rfl⟩
end Go.Proofs.YtjkkdmeebhjaiaaGreatDoor.K
