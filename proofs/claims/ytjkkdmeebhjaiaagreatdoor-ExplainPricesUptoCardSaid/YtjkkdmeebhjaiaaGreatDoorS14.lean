/- Declarations that the closing texts need, part 14: joined by tools/slim.py. -/
import Derived.Test.YtjkkdmeebhjaiaaGreatDoorS13
set_option linter.unusedVariables false
set_option linter.unusedSimpArgs false
namespace Go.Proofs.YtjkkdmeebhjaiaaGreatDoor.K
open Go Go.AM Go.Proofs
set_option maxRecDepth 8000
theorem mZ {x:Inst} {t:Typ} {p:Int} {stop:Stp} {out:List Sr} {a b:Sr} (h:b∈out):b∈JA x t p stop out a:=by
 grind [JA,Va]
theorem MW {x:Inst} {t:Typ} {p:Int} {stop:Stp} : ∀(st:List Sr) (out:List Sr) (b:Sr),(b∈out->b∈st.foldl (JA x t p stop) out)/\ ∀a∈st,(∀o,b∈JA x t p stop o a)->b∈st.foldl (JA x t p stop) out
 | [],out,b=>⟨id,fun a h=>by simp at h⟩
 | c::st,out,b=>by
  rw [XG];obtain ⟨g1,g2⟩:=MW st (JA x t p stop out c) b;refine ⟨fun h=>g1 (mZ h),fun a ha hb=> ?_⟩
  grind
inductive Rch (x:Inst) (t:Typ) (sp:List Stp):Nat->Lab->Prop where
 | zero:Rch x t sp 0 (labF t 0)
 | succ {k:Nat} {L:Lab} (b:Bool) (h:Rch x t sp k L) (hk:k<sp.length) (e:(nxtF x t sp k L b).2=0):Rch x t sp (k+1) (nxtF x t sp k L b).1
theorem SL {x:Inst} {t:Typ} {sp:List Stp} : ∀(bs:List Bool) (k:Nat) (L:Lab),Rch x t sp k L->k+bs.length=sp.length+1->(Xs x t sp k L bs).2=0-> ∀j,k<=j->j<=sp.length-> ∃L',Rch x t sp j L'
 | [],k,L,h,hl,_,j,h1,h2=>by grind
 | b::bs,k,L,h,hl,hr,j,h1,h2=>by
  by_cases e:k=j
  ·grind
  ·rw [Xs] at hr
   split at hr
   ·rename_i he;exact SL bs (k+1) _ (.succ b h Za he) (by grind) hr j Za h2
   omega
def dD (x:Inst) (t:Typ) (l:List Vis) (s:Int×List Sr):Prop:=s.1=UW t (Z6 x l) l.length/\ ∀r L,Rch x t (Z6 x (l++r)) l.length L-> ∀b,(⟨ZR t L b,WJ L b⟩:Sr)∈s.2
def goS (x:Inst) (t:Typ) (s:Int×List Sr) (v:Vis):Int×List Sr:=((XP x v).place,DT x t s.1 s.2 (XP x v))
def st0 (t:Typ):Int×List Sr:=(t.src,Vy t [] t.opn 0)
theorem fY {x:Inst} {t:Typ} (h:0<=t.opn):dD x t [] (st0 t):=by
 refine ⟨rfl,fun r L hL b=> ?_⟩
 have:L=labF t 0:=by
  generalize hk:([]:List Vis).length=k at hL
  cases hL with
  | zero=>rfl
  | succ=>simp at hk
 subst this
 have hm:max t.opn 0=t.opn:=Za
 cases b
 ·exact Va.2 (.inr (.inl (by simp [ZR,WJ,labF,hm])))
 ·exact Va.2 (.inr (.inr (by simp [ZR,WJ,labF,hm])))
theorem Ig {x:Inst} {l r:List Vis} {v:Vis} :nth (Z6 x (l++(v::r))) l.length=XP x v:=by
 grind [Zj,Z6]
theorem lF {x:Inst} {t:Typ} {l r:List Vis} :UW t (Z6 x (l++r)) l.length=UW t (Z6 x l) l.length:=by
 grind [UW,Z6,Zj]
theorem fX {x:Inst} {t:Typ} {l:List Vis} {s:Int×List Sr} {v:Vis} (h:dD x t l s):dD x t (l++ [v]) (goS x t s v):=by
 obtain ⟨h1,h2⟩:=h;refine ⟨?_,fun r L' hL b=> ?_⟩
 ·have e:=Ig (x:=x) (l:=l) (r:= []) (v:=v);rw [UW,if_neg Zb,show (l++ [v]).length-1=l.length by simp,e];rfl
 ·rw [Vr,ZM,ZE] at hL;generalize hsp:Z6 x (l++(v::r))=sp at hL
  have hlen:l.length<sp.length:=by grind [Z6]
  have hat:nth sp l.length=XP x v:=by grind [Ig]
  have hpl:UW t sp l.length=s.1:=by grind [lF]
  generalize hk:(l++ [v]).length=k at hL
  cases hL with
  | zero=>simp at hk
  | succ b' hp hk' he =>
   rename_i k L
   have hkl:k=l.length:=by grind
   subst hkl;have hmem:=h2 (v::r) L (by grind) b'
   generalize hd:ZR t L b'=d at *
   generalize hs:WJ L b'=w at *
   have hg:Wh x t sp l.length d=WW x.net t.prof s.1 (XP x v).place d:=by
    rw [Wh,hpl,cJ,if_neg Za,hat]
   unfold nxtF at he ⊢;rw [hd,hs,hg] at he ⊢
   generalize hgn:WW x.net t.prof s.1 (XP x v).place d=g at *
   unfold WQ at he ⊢
   split at he
   ·simp at he
   ·rename_i c1;rw [if_neg c1];rw [if_neg Za] at he ⊢;rw [hat] at he ⊢
    split at he
    ·simp at he
    ·rename_i c2;rw [if_neg c2]
     split at he
     ·simp at he
     ·rename_i c3;rw [if_neg c3];refine (MW s.2 [] _).2 ⟨d,w⟩ hmem fun o=> ?_;have c4: ¬(¬g.2.2=0\/t.drive<w+g.1-d):=fun hh=>hh.elim (fun e=>c1 e) (fun e=>c3 e);simp only [JA,hgn];rw [if_neg c4,if_neg c2]
      cases b
      ·exact Va.2 (.inr (.inl rfl))
      ·exact Va.2 (.inr (.inr rfl))
theorem TM {x:Inst} {k:Int} {l:List Vis} {s:Int×List Sr} (h:dD x (nth x.types k.toNat) l s) (he:s.2= []) (r:List Vis) (c d:Bool): ¬(WI x ⟨k,0,c,[],d,l++r⟩).2=0:=fun hp=>by
 have h1:Xv x ⟨k,0,c,[],d,l++r⟩=0:=by
  grind [WI]
 have h2:(Xq x ⟨k,0,c,[],d,l++r⟩).2=0:=by
  grind [Xv]
 obtain ⟨bs,hl,hrun,_⟩:=Hi Zb h2;obtain ⟨L,hL⟩:=SL bs 0 _ .zero Za hrun l.length Za (by simp [Z6]);have:=h.2 r L hL false
 grind
def JB (k:Int) (l:List Vis):Rte:=⟨k,0,true,[],false,l⟩
def F0 (x:Inst) (k:Int) (l:List Vis):Bool:=decide ((WI x (JB k l)).2=0)
def Dd (x:Inst) (k:Int) (S:Nat) (l:List Vis):Bool:=decide ((Q4 l).1=(S:Int))&&(decide (Xv x (JB k l)=0)&&F0 x k l)
def YM (x:Inst) (k:Int) (S:Nat) (l:List Vis):Col:=⟨k,S,(WI x (JB k l)).1,JB k l⟩
def Y9 (a b:Col):Bool:=if a.price≠b.price then decide (a.price<b.price) else decide (Bo a.route.visits b.route.visits<0)
def CG (x:Inst) (S:Nat) (l:List Vis):List Vis:=nextU x S l x.orders.length
def WK (x:Inst) (S:Nat):Nat:=K6 x S x.orders.length
def Sj (x:Inst) (k:Int) (S f:Nat) (l:List Vis) (s:Int×List Sr):List (List Vis):=lvW (CG x S) (goS x (nth x.types k.toNat)) (fun s=>s.2.isEmpty) f l s
theorem rG {x:Inst} {S:Nat} {l:List Vis} (h:Gr x S l) (hl:l.length=WK x S):CG x S l= []:=by
 cases e:CG x S l with
 | nil=>rfl
 | cons v r =>
  exfalso
  have hv:v∈nextU x S l x.orders.length:=by
   grind [CG]
  obtain ⟨i,hi,h1,h2,h3,h4⟩:=Vu.1 hv;exact ((W9 h3).1 h4).1 (h.full hl v (Wz.2 ⟨i,hi,h1,h3⟩))
def Eb (x:Inst) (k:Int) (S:Nat) (z:Col×Bool):Col×Bool:=(Sj x k S (WK x S) [] (st0 (nth x.types k.toNat))).foldl (Xy (F0 x k) (YM x k S) Y9) z
def BT (x:Inst) (k:Int) (S:Nat) (z:Col×Bool):Col×Bool:=(A7 (CG x S) (WK x S) []).foldl (Xy (Dd x k S) (YM x k S) Y9) z
theorem Io {ok ok':List Vis->Bool} {col:List Vis->Col} {better:Col->Col->Bool} : ∀ {L:List (List Vis)} {b:Col×Bool},(∀l∈L,ok l=ok' l)->L.foldl (Xy ok col better) b=L.foldl (Xy ok' col better) b
 | [],_,_=>rfl
 | l::L,b,h=>by
  rw [XG,XG,Xy,Xy,h l Zb];exact Io fun m hm=>h m (Ye _ hm)
theorem Im {ok:List Vis->Bool} {col:List Vis->Col} {better:Col->Col->Bool} : ∀ {L:List (List Vis)} {b:Col×Bool},(∀l∈L,ok l=false)->L.foldl (Xy ok col better) b=b
 | [],_,_=>rfl
 | l::L,b,h=>by
  rw [XG,Xy,if_neg (by rw [h l Zb];simp)];exact Im fun m hm=>h m (Ye _ hm)
theorem jO {x:Inst} {S:Nat} (hN: ∀l,Gr x S l->l.length<WK x S->CG x S l≠ []): ∀(f:Nat) (l m:List Vis),Gr x S l->l.length+f=WK x S->m∈A7 (CG x S) f l->Gr x S m/\m.length=WK x S
 | 0,l,m,h,ht,hm=>by
  simp_all [A7]
 | f+1,l,m,h,ht,hm=>by
  rw [A7,if_neg (hN l h Za)] at hm;obtain ⟨v,hv,hm⟩:=XK.1 hm;exact jO hN f _ m (.snoc h hv) (by simp;omega) hm
theorem V7 {x:Inst} {r:Rte} (h:Xv x r=0):RightV x r.visits:=by
 rw [<- bL]
 have h1:X7 x r=0:=by
  grind [Xv]
 unfold X7 at h1;omega
theorem Jr {x:Inst} {k:Int} {l:List Vis} (h:F0 x k l=true):Xv x (JB k l)=0:=by
 have h:=Cu h
 grind [WI]
theorem aJ {x:Inst} (hx:InstOk x) {S:Nat} (ha:Alw x S) (l:List Vis) (h:Gr x S l) (hl:l.length<WK x S):CG x S l≠ []:=fun e=>by
 have hf:=XC hx
 have hn:x.orders.length<=60:=by have:=hf.len;omega
 have:=(h.next_nil ha hn hf.val).1 e
 grind [WK]
theorem O0 {x:Inst} (hx:InstOk x) {k:Int} {S:Nat} (h0:S≠0) (hS:S / pw x.orders.length=0) (ha:Alw x S) (ht:0<=(nth x.types k.toNat).opn) (z:Col×Bool):Eb x k S z=BT x k S z:=by
 have hN:=aJ hx ha
 have h1:BT x k S z=(A7 (CG x S) (WK x S) []).foldl (Xy (F0 x k) (YM x k S) Y9) z:=Io fun l hl=>by
  obtain ⟨hg,hlen⟩:=jO hN _ _ _ .nil Zb hl;obtain ⟨hr,ho⟩:=hg.right (XC hx) ha h0 hS hlen;unfold Dd
  cases hv:F0 x k l with
  | false=>simp
  | true =>
   rw [Jr hv,hr.ord (XC hx),ho];simp
 rw [h1,Eb,Sj,QK,QK (A7 _ _ _)]
 rw [<- vQ (nx:=CG x S) (go:=goS x (nth x.types k.toNat)) (emp:=fun s=>s.2.isEmpty) (ok:=F0 x k) (G:=Gr x S) (R:=dD x (nth x.types k.toNat)) (tot:=WK x S) (fun l v hl hv=> .snoc hl hv) (fun l s v _ hs _=>fX hs)
  (fun l s _ hs he r=>Qd (TM hs (List.isEmpty_iff.1 he) r true false)) hN (WK x S) [] (st0 (nth x.types k.toNat)) .nil (fY ht) Zb]
theorem pJ {x:Inst} (hx:InstOk x) {k:Int} {S:Nat} (ha: ¬Alw x S) (z:Col×Bool):BT x k S z=z:=Im fun l _=>by
 cases ho:Dd x k S l with
 | false=>rfl
 | true =>
  exfalso;simp only [Dd,Zv,Zr] at ho;have hr:=V7 ho.2.1;have hv:(JB k l).visits=l:=rfl;rw [hv] at hr;have he:=hr.ord (XC hx);rw [he] at ho
  have hS:Xo l=S:=Za
  exact ha (hS ▸ hr.alw (XC hx))
set_option maxHeartbeats 8000000
theorem tU {x:Inst} (hx:InstOk x):x.types.length<=6:=by have:=hx.types.1;simp only [rng,Zr] at this;omega
set_option maxRecDepth 60000
structure St where
 ix:Int
 cov:Int
 used:List Int
 deriving Inhabited,DecidableEq
def A0 (s:St):PV:= .agg (.int .i64 s.ix:: .int .i64 s.cov::s.used.map eI)
@[go_sem] theorem Zm3 (s:St):A0 s= .agg (.int .i64 s.ix:: .int .i64 s.cov::s.used.map eI):=Zm rfl rfl
def StR (s:St):Prop:=s.used.length=6
theorem six {l:List Int} (h:l.length=6): ∃a b c d e f,l= [a,b,c,d,e,f]:=by
 match l,h with
 | [a,b,c,d,e,f],_=>simp
theorem YK {s:St} (h:StR s): ∃i v a b c d e f,s=⟨i,v,[a,b,c,d,e,f]⟩:=by
 obtain ⟨i,v,u⟩:=s;obtain ⟨a,b,c,d,e,f,rfl⟩:=six h;simp
theorem Pp : KeyE Tryz.prog 188 A0 StR:=by
 refine ⟨⟨152,3,Zg,Zg,fun s hs=> ?_,fun s t hs ht=> ?_⟩,fun s t hs ht=> ?_⟩
 ·obtain ⟨i,v,a,b,c,d,e,f,rfl⟩:=YK hs
  kernel_rfl
 ·obtain ⟨i,v,a,b,c,d,e,f,rfl⟩:=YK hs;obtain ⟨i',v',a',b',c',d',e',f',rfl⟩:=YK ht
  have h1:Vi Tryz.prog 9 152 (A0 ⟨i,v,[a,b,c,d,e,f]⟩) (A0 ⟨i',v',[a',b',c',d',e',f']⟩)=some (decide (i=i')&&(decide (v=v')&&((decide (a=a')&&(decide (b=b')&&(decide (c=c')&&(decide (d=d')&&(decide (e=e')&&(decide (f=f')&&true))))))&&true))):=Zg
  have h2:keq (A0 ⟨i,v,[a,b,c,d,e,f]⟩) (A0 ⟨i',v',[a',b',c',d',e',f']⟩)=(decide (i=i')&&(decide (v=v')&&((decide (a=a')&&(decide (b=b')&&(decide (c=c')&&(decide (d=d')&&(decide (e=e')&&(decide (f=f')&&true))))))&&true))):=by
   simp_all [keq,A0,Js,eI]
  show (Vi Tryz.prog 9 152 (A0 ⟨i,v,[a,b,c,d,e,f]⟩) (A0 ⟨i',v',[a',b',c',d',e',f']⟩)==some (keq (A0 ⟨i,v,[a,b,c,d,e,f]⟩) (A0 ⟨i',v',[a',b',c',d',e',f']⟩)))=true
  simp_all
 ·obtain ⟨i,v,a,b,c,d,e,f,rfl⟩:=YK hs;obtain ⟨i',v',a',b',c',d',e',f',rfl⟩:=YK ht
  simp_all [keq,A0,Js,eI]
structure Kd where
 typ:Int
 set:Int
 deriving Inhabited,DecidableEq
def cV (k:Kd):PV:= .agg [.int .i64 k.typ,.int .i64 k.set]
theorem jH : KeyE Tryz.prog 234 cV fun _=>True:=by
 refine ⟨⟨236,3,Zg,Zg,fun s _=> ?_,fun s t _ _=> ?_⟩,fun s t _ _=> ?_⟩
 ·kernel_rfl
 ·obtain ⟨a,b⟩:=s;obtain ⟨c,d⟩:=t
  have h1:Vi Tryz.prog 9 236 (cV ⟨a,b⟩) (cV ⟨c,d⟩)=some (decide (a=c)&&(decide (b=d)&&true)):=Zg
  have h2:keq (cV ⟨a,b⟩) (cV ⟨c,d⟩)=(decide (a=c)&&(decide (b=d)&&true)):=by
   grind [keq,cV,Js]
  show (Vi Tryz.prog 9 236 (cV ⟨a,b⟩) (cV ⟨c,d⟩)==some (keq (cV ⟨a,b⟩) (cV ⟨c,d⟩)))=true
  simp_all
 ·obtain ⟨a,b⟩:=s;obtain ⟨c,d⟩:=t;simp [keq,cV,Js]
def BB (n:Nat) (m cov:Int):Nat->Nat->Nat
 | 0,k=>k
 | f+1,k=>if k<n/\(sHas m k=false\/sHas cov k=true) then BB n m cov f (k+1) else k
theorem DM {n:Nat} {m cov:Int} {k:Nat} (h: ¬(k<n/\(sHas m k=false\/sHas cov k=true))) (f:Nat):BB n m cov f k=k:=by
 cases f with
 | zero=>rfl
 | succ f=>rw [BB,if_neg h]
theorem EV {n:Nat} {m cov:Int} {k:Nat} (h:k<n) (hc:sHas m k=false\/sHas cov k=true):BB n m cov (n-k) k=BB n m cov (n-(k+1)) (k+1):=by
 rw [show n-k=(n-(k+1))+1 by omega,BB,if_pos ⟨h,hc⟩]
def Vg (n:Nat) (m:Int) (s:St):St:= { s with ix:=(BB n m s.cov (n-s.ix.toNat) s.ix.toNat:Nat) }
def VD (x:Inst) (f g:PV) (m:Int):AM.Obj:= .cells [.p (.list x.net.places_c (x.net.places.map eS)),.p (.list x.net.arcs_c (x.net.arcs.map VE)),.p (.list x.types_c (x.types.map X0)),.p (.list x.orders_c (x.orders.map eOrd)),.p (.list x.apart_c (x.apart.map eP)),.p (.list x.before_c (x.before.map eP)),.p f,.p g,.mp 0,.p (.int .i64 m)]
def YR (x:Inst) (f g:PV) (m:Int) (l:List (St×Int)):List AM.Obj:= [.map (l.map (MH A0)),VD x f g m]
def BD (s:St):AM.Obj:= .cells (.p (.int .i64 s.ix):: .p (.int .i64 s.cov)::(s.used.map eI).map .p)
theorem GA {P Q:Prop} (h:Q) (e:Q->P:=by intro h;simp (disch:=omega) only [Wx,go_sem,seval];exact h):P:=e h
theorem GB {P Q:Prop} (h:Q) (e:Q->P:=by intro h;simp (disch:=omega) only [Yn,go_sem,seval];exact h):P:=e h
theorem Gt (x:Inst) (f g:PV) (m:Int) (l:List (St×Int)) (s:St) (hs:StR s) (h0:0<=s.ix) (hn:x.orders.length<=10) (h1:s.ix<=10) :
  ACalls Tryz.prog 106 [.ptr 1 0,.p (A0 s)] (YR x f g m l) fun y H'=>y= .p (A0 (Vg x.orders.length m s))/\H'=YR x f g m l:=by
 obtain ⟨i,v,a,b,c,d,e,u,rfl⟩:=YK hs;obtain ⟨i,rfl⟩: ∃k:Nat,i=k:=⟨i.toNat,by grind⟩;simp only at h0 h1;generalize hT:A0 (Vg x.orders.length m ⟨i,v,[a,b,c,d,e,u]⟩)=T;refine Ze [] Tryz.func106 rfl zN ?_;simp (disch:=omega) only [Tryz.f106,YR,VD,Zs,Zk,go_sem,seval];refine Zl [0,3,4] (fun k:Nat=> []) (fun k=>YR x f g m l++ [BD ⟨k,v,[a,b,c,d,e,u]⟩,.cells (List.replicate 8 (.p (.int .i64 0)))]) (fun k=>k<=10/\BB x.orders.length m v (x.orders.length-k) k=BB x.orders.length m v (x.orders.length-i) i) (fun k=>x.orders.length-k) i ⟨Za,rfl⟩ (Weak.mk ?_) ?_
 ·simp (disch:=omega) only [YR,VD,BD,Zs,Zk,List.replicate,go_sem,seval,↓reduceIte]
 ·rintro k ⟨hk,hq⟩
  have fin: ∀q:Nat,q=BB x.orders.length m v (x.orders.length-i) i->A0 ⟨q,v,[a,b,c,d,e,u]⟩=T:=fun q hq=>by grind [Vg]
  simp (disch:=omega) only [YR,VD,BD,Zs,Zk,List.replicate,go_sem,seval];refine Xd (Zd ?_);refine gT ?_ ?_<;>intro h5<;>simp (disch:=omega) only [Sh.out h5,go_sem,seval,↓reduceIte]
  ·have hk2:k<x.orders.length:=Za
   refine Zn (D1 m k) (Zd ?_)
   cases hm:sHas m k with
   | false =>
    refine GA ?_;exact ⟨k+1,⟨Za,by grind [EV]⟩,Za,wk⟩
   | true =>
    refine GB ?_;refine Zn (D1 v k) (Zd ?_)
    cases hv:sHas v k with
    | true =>
     refine Zd ?_;exact ⟨k+1,⟨Za,by grind [EV]⟩,Za,wk⟩
    | false =>
     refine Zd ?_;exact ⟨.p (A0 ⟨k,v,[a,b,c,d,e,u]⟩),_,Weak.mk (by simp (disch:=omega) only [Zs,Zk,go_sem,seval]),by grind [DM],rfl⟩
  ·exact ⟨.p (A0 ⟨k,v,[a,b,c,d,e,u]⟩),_,Weak.mk (by simp (disch:=omega) only [Zs,Zk,go_sem,seval]),by grind [DM],rfl⟩
def Dz (n:Nat) (m:Int) (s:St):St:=Vg n m { s with ix:=s.ix+1 }
theorem BE {P Q:Prop} (h:Q) (e:Q->P:=by intro h;simp (disch:=omega) only [YR,VD,Zs,Zk,ZM,ZE,go_sem,seval];exact h):P:=e h
theorem Is (x:Inst) (f g:PV) (m:Int) (l:List (St×Int)) (s:St) (hs:StR s) (h0:0<=s.ix) (hn:x.orders.length<=10) (h1:s.ix<=9) :
  ACalls Tryz.prog 143 [.ptr 1 0,.p (A0 s)] (YR x f g m l) fun y H'=>y= .p (A0 (Dz x.orders.length m s))/\H'=YR x f g m l:=by
 have hc:=Gt x f g m l { s with ix:=s.ix+1 } hs (by grind) hn (by grind);obtain ⟨i,v,a,b,c,d,e,u,rfl⟩:=YK hs;obtain ⟨q,hq⟩: ∃q:Int,Dz x.orders.length m ⟨i,v,[a,b,c,d,e,u]⟩=⟨q,v,[a,b,c,d,e,u]⟩:=⟨_,rfl⟩;have hq':Vg x.orders.length m ⟨i+1,v,[a,b,c,d,e,u]⟩=⟨q,v,[a,b,c,d,e,u]⟩:=hq;rw [hq];simp only at h0 h1 hc;rw [hq'] at hc;refine Ze [] Tryz.func143 rfl Zai ?_;simp (disch:=omega) only [Tryz.f143,YR,VD,Zs,Zk,go_sem,seval];refine hc.useP (L:= [_,_]) (by rfl) ?_ (by rfl) (by rfl);refine BE ?_
 exact we
def Db (n:Nat) (m:Int) (s:St) (T:Nat) (C S:Nat):St:=Vg n m ⟨s.ix,((C|||S:Nat):Int),s.used.set T (nth s.used T+1)⟩
def Ej (x:Inst) (s:St) (T:Nat) (C S:Nat):Bool:=decide (C&&&S=0)&&decide (nth s.used T<(nth x.types T).count)
theorem nD (x:Inst) (f g:PV) (m:Int) (l:List (St×Int)) (s:St) (c:Col) (hs:StR s) (h0:0<=s.ix) (hn:x.orders.length<=10) (h1:s.ix<=10) (C S T:Nat) (hC:s.cov=C) (hS:c.set=S) (hT:c.typ=T) (hC2:C<1024) (hS2:S<1024) (hT2:T<x.types.length) (h6:x.types.length<=6)
  (hu: ∀j,j<6->0<=nth s.used j/\nth s.used j<=1048576) :
  ACalls Tryz.prog 142 [.ptr 1 0,.p (A0 s),.p (Xk c)] (YR x f g m l) fun y H'=>y=(if Ej x s T C S=true then .tup [.p (A0 (Db x.orders.length m s T C S)),.p (.bool true)] else .tup [.p (A0 s),.p (.bool false)])/\H'=YR x f g m l:=by
 have hor:C|||S<1024:=Q1 (n:=10) hC2 hS2;have hc:=Gt x f g m l ⟨s.ix,((C|||S:Nat):Int),s.used.set T (nth s.used T+1)⟩ (by grind [StR]) h0 hn h1;obtain ⟨i,v,a0,a1,a2,a3,a4,a5,rfl⟩:=YK hs
 have hT3:T=0\/T=1\/T=2\/T=3\/T=4\/T=5:=Za
 have u0:=hu 0 Za;have u1:=hu 1 Za;have u2:=hu 2 Za;have u3:=hu 3 Za;have u4:=hu 4 Za;have u5:=hu 5 Za;simp only [nth,List.getD_cons_zero,List.getD_cons_succ] at u0 u1 u2 u3 u4 u5;simp only at hC h0 h1;obtain ⟨ct,cs,cp,cr⟩:=c;simp only at hS hT;subst hC;subst hS;subst hT;obtain ⟨R,hR⟩: ∃R:V,R=(if Ej x ⟨i,(C:Nat),[a0,a1,a2,a3,a4,a5]⟩ T C S=true then .tup [.p (A0 (Db x.orders.length m ⟨i,(C:Nat),[a0,a1,a2,a3,a4,a5]⟩ T C S)),.p (.bool true)] else .tup [.p (A0 ⟨i,(C:Nat),[a0,a1,a2,a3,a4,a5]⟩),.p (.bool false)]):=⟨_,rfl⟩
 rw [<- hR];obtain ⟨q,hq⟩: ∃q:Int,Vg x.orders.length m ⟨i,((C|||S:Nat):Int),[a0,a1,a2,a3,a4,a5].set T (nth [a0,a1,a2,a3,a4,a5] T+1)⟩=⟨q,((C|||S:Nat):Int),[a0,a1,a2,a3,a4,a5].set T (nth [a0,a1,a2,a3,a4,a5] T+1)⟩:=⟨_,rfl⟩;simp only at hc;rw [hq] at hc;have hw:Db x.orders.length m ⟨i,(C:Nat),[a0,a1,a2,a3,a4,a5]⟩ T C S=⟨q,((C|||S:Nat):Int),[a0,a1,a2,a3,a4,a5].set T (nth [a0,a1,a2,a3,a4,a5] T+1)⟩:=hq;rw [hw] at hR;refine Ze [] Tryz.func142 rfl Zah ?_;rcases hT3 with rfl | rfl | rfl | rfl | rfl | rfl
 all_goals
  simp (disch:=omega) only [Tryz.f142,YR,VD,Zs,Zk,go_sem,seval,↓reduceIte];refine Xd ?_;simp (disch:=omega) only [go_sem,seval,↓reduceIte];refine gF ?_ ?_<;>intro h5<;>simp (disch:=omega) only [Sh.out h5,go_sem,seval,↓reduceIte]
  ·have hno:(decide (C&&&S=0))=false:=Qd Za;exact ⟨.tup [.p (A0 ⟨i,(C:Nat),[a0,a1,a2,a3,a4,a5]⟩),.p (.bool false)],_,Weak.mk (by simp (disch:=omega) only [Zs,Zk,go_sem,seval]),by rw [hR,if_neg (by rw [Ej,hno];simp)],rfl⟩
  ·have hcs:C&&&S=0:=Za
   refine cD ?_ ?_<;>intro h7<;>simp (disch:=omega) only [Sh.out h7,go_sem,seval,↓reduceIte]
   ·exact ⟨.tup [.p (A0 ⟨i,(C:Nat),[a0,a1,a2,a3,a4,a5]⟩),.p (.bool false)],_,Weak.mk (by simp (disch:=omega) only [Zs,Zk,go_sem,seval]),by rw [hR,if_neg (by rw [Ej,UB hcs,Vt];exact fun h=>Int.not_lt.2 h7 (Cu h))],rfl⟩
   ·rw [if_pos (by rw [Ej,UB hcs,Vt];exact UB (Int.not_le.1 h7))] at hR;refine hc.useP (L:= [_,_,_]) (by rfl) ?_ (by rfl) (by rfl);simp (disch:=omega) only [YR,VD,Zs,Zk,ZM,ZE,ZC,ZL,go_sem,seval,↓reduceIte];exact ⟨R,_,Weak.mk (by rw [hR];simp (disch:=omega) only [nth,List.getD_cons_zero,List.getD_cons_succ,ZC,ZL,Zs,Zk,go_sem,seval]),rfl,rfl⟩
def YQ (o p r:Int):Int:=if 0<=r/\(o<0\/p+r<o) then p+r else o
theorem Mt (o p r:Int) (hp: -4611686018427387904<=p/\p<=4611686018427387904) (hr: -4611686018427387904<r/\r<4611686018427387904) :
  ACalls Tryz.prog 141 [.p (.int .i64 p),.p (.int .i64 r),.ptr 0 0] [.cells [.p (.int .i64 o)]] fun y H'=>y= .tup []/\H'= [.cells [.p (.int .i64 (YQ o p r))]]:=by
 obtain ⟨T,hT⟩: ∃T,T=YQ o p r:=⟨_,rfl⟩;rw [<- hT];unfold YQ at hT;refine Ze [] Tryz.func141 rfl Zag ?_;simp (disch:=omega) only [Tryz.f141,go_sem,seval];refine gT ?_ ?_<;>intro h1<;>simp (disch:=omega) only [Sh.out h1,go_sem,seval,↓reduceIte]
 ·refine gF ?_ ?_<;>intro h2<;>simp (disch:=omega) only [Sh.out h2,go_sem,seval,↓reduceIte]
  ·rw [if_pos ⟨h1,.inl h2⟩] at hT;subst hT;exact we
  ·refine cD ?_ ?_<;>intro h3<;>simp (disch:=omega) only [Sh.out h3,go_sem,seval,↓reduceIte]
   ·rw [if_pos ⟨h1,.inr h3⟩] at hT;subst hT;exact we
   ·rw [if_neg Za] at hT;subst hT;exact we
 ·rw [if_neg Za] at hT;subst hT;exact we
theorem C1 {n:Nat} {m cov:Int} : ∀(f k:Nat),k<=BB n m cov f k
 | 0,k=>ZF _
 | f+1,k=>by
  rw [BB]
  split
  ·have:=C1 (n:=n) (m:=m) (cov:=cov) f (k+1);omega
  ·omega
theorem SM {n:Nat} {m cov:Int} : ∀(f k:Nat),k<=n->BB n m cov f k<=n
 | 0,k,h=>h
 | f+1,k,h=>by
  rw [BB]
  split
  ·rename_i hc;exact SM f (k+1) Za
  ·exact h
theorem bV {n:Nat} {m cov:Int} {k:Nat} (h:k<n) (hb:sHas cov k=true):k+1<=BB n m cov (n-k) k:=by
 grind [EV,C1]
theorem CF {l:List Int} {i j:Nat} {a:Int} (h:i<l.length):nth (l.set i a) j=if i=j then a else nth l j:=by
 grind [nth]
structure StV (n:Nat) (s:St):Prop where
 len:StR s
 ix:0<=s.ix/\s.ix<=n
 cov: ∃C:Nat,s.cov=C/\C<1024
 used: ∀j,j<6->0<=nth s.used j/\nth s.used j<=1048576
theorem LR {n:Nat} {m:Int} {s:St} (h:StV n s):StV n (Vg n m s)/\s.ix<=(Vg n m s).ix:=by
 obtain ⟨h1,h2,h3,h4⟩:=h;have a:=C1 (n:=n) (m:=m) (cov:=s.cov) (n-s.ix.toNat) s.ix.toNat;have b:=SM (n:=n) (m:=m) (cov:=s.cov) (n-s.ix.toNat) s.ix.toNat Za;exact ⟨⟨h1,by grind [Vg],h3,h4⟩,by grind [Vg]⟩
theorem Lr {n:Nat} {m:Int} {s:St} (h:StV n s) (hi:s.ix<n):StV n (Dz n m s)/\s.ix<(Dz n m s).ix:=by
 have h':StV n { s with ix:=s.ix+1 } :=⟨h.len,by have:=h.ix;grind,h.cov,h.used⟩
 grind [LR,Dz]
theorem sU {C S k:Nat} (h:sHas (S:Int) k=true):sHas ((C|||S:Nat):Int) k=true:=by
 have key: ∀N:Nat,sHas (N:Int) k=true↔k<=62/\N.testBit k=true:=fun N=>by
  simp only [sHas,Zv,Zr,XS]
  grind
 grind
theorem uB {n:Nat} {m:Int} {s:St} {T C S:Nat} (h:StV n s) (hi:s.ix<n) (hC:C<1024) (hS:S<1024) (hb:sHas (S:Int) s.ix=true) (hT:T<6) (hu:nth s.used T<1048576):StV n (Db n m s T C S)/\s.ix<(Db n m s T C S).ix:=by
 have hor:C|||S<1024:=Q1 (n:=10) hC hS;have hl:s.used.length=6:=h.len
 have h':StV n ⟨s.ix,((C|||S:Nat):Int),s.used.set T (nth s.used T+1)⟩:=by
  refine ⟨by grind [StR],h.ix,⟨_,rfl,hor⟩,fun j hj=> ?_⟩;simp only;rw [CF Za]
  split
  ·have:=h.used T hT;omega
  ·exact h.used j hj
 grind [LR,bV,sU,Db,Vg]
def YC (x:Inst) (s:St) (c:Col):Bool:=Ej x s c.typ.toNat s.cov.toNat c.set.toNat
def VA (n:Nat) (m:Int) (s:St) (c:Col):St:=Db n m s c.typ.toNat s.cov.toNat c.set.toNat
def Y4 (n:Nat) (m:Int) (x:Inst) (fst:List (List Col)) (sk:List Int):Nat->St->Int
 | 0,_=>0
 | d+1,s=>if (n:Int)<=s.ix then 0 else
  let o:=(nth fst s.ix.toNat).foldl (fun o c=>if YC x s c=true then YQ o c.price (Y4 n m x fst sk d (VA n m s c)) else o) (-1)
  if 0<=nth sk s.ix.toNat then YQ o (nth sk s.ix.toNat) (Y4 n m x fst sk d (Dz n m s)) else o
structure ChOk (n:Nat) (x:Inst) (fst:List (List Col)) (sk:List Int):Prop where
 col: ∀i,i<n-> ∀c∈nth fst i,(0<=c.typ/\c.typ<x.types.length)/\(∃S:Nat,c.set=S/\S<1024)/\sHas c.set i=true/\0<=c.price/\c.price<=18014398509481984
 typ:x.types.length<=6/\ ∀t,t<6->(nth x.types t).count<=1048576
 skp: ∀i,i<n-> -1<=nth sk i/\nth sk i<=18014398509481984
theorem E1 {n:Nat} {m:Int} {x:Inst} {fst:List (List Col)} {sk:List Int} (hc:ChOk n x fst sk) {s:St} (h:StV n s) (hi:s.ix<n) {c:Col} (hm:c∈nth fst s.ix.toNat) (hy:YC x s c=true):StV n (VA n m s c)/\s.ix<(VA n m s c).ix:=by
 obtain ⟨⟨t0,t1⟩,⟨S,hS,hS2⟩,hb,_⟩:=hc.col _ (by have:=h.ix;omega) c hm;obtain ⟨C,hC,hC2⟩:=h.cov;have ht:=hc.typ.1;have hcnt:=hc.typ.2 c.typ.toNat Za;simp only [YC,Ej,Zv,Zr] at hy;have hi0:=h.ix;rw [show ((s.ix.toNat:Nat):Int)=s.ix by omega] at hb;exact uB h hi Za Za (by grind) Za Za
theorem JN {α β:Type} {f g:β->α->β} : ∀ {l:List α} {b:β},(∀a∈l,∀b,f b a=g b a)->l.foldl f b=l.foldl g b
 | [],_,_=>rfl
 | a::l,b,h=>by
  rw [XG,XG,h a Zb b];exact JN fun a ha=>h a (Ye _ ha)
theorem Jn {n:Nat} {m:Int} {x:Inst} {fst:List (List Col)} {sk:List Int} (hc:ChOk n x fst sk): ∀(d d':Nat) (s:St),StV n s->(n:Int)-s.ix<d->(n:Int)-s.ix<d'->Y4 n m x fst sk d s=Y4 n m x fst sk d' s
 | 0,_,s,h,h1,_=>by have:=h.ix;omega
 | _,0,s,h,_,h1=>by have:=h.ix;omega
 | d+1,d'+1,s,h,h1,h2=>by
  rw [Y4,Y4]
  split
  ·rfl
  ·rename_i hi
   have e1:(nth fst s.ix.toNat).foldl (fun o c=>if YC x s c=true then YQ o c.price (Y4 n m x fst sk d (VA n m s c)) else o) (-1)=(nth fst s.ix.toNat).foldl (fun o c=>if YC x s c=true then YQ o c.price (Y4 n m x fst sk d' (VA n m s c)) else o) (-1):=JN fun c hm o=>by
    by_cases hy:YC x s c=true
    ·obtain ⟨v1,v2⟩:=E1 (m:=m) hc h Za hm hy;rw [if_pos hy,if_pos hy,Jn hc d d' _ v1 Za Za]
    grind
   obtain ⟨v1,v2⟩:=Lr (m:=m) h Za;rw [Jn hc d d' _ v1 Za Za];simp only [e1]
theorem Ms {o p r B:Int} (h1: -1<=o/\o<=B) (h2:0<=p) (h3:p+r<=B): -1<=YQ o p r/\YQ o p r<=B:=by
 grind [YQ]
theorem HA {α β:Type} {f:β->α->β} {R:β->Prop} : ∀ {l:List α} {b:β},R b->(∀a∈l,∀b,R b->R (f b a))->R (l.foldl f b)
 | [],_,h,_=>h
 | a::l,b,h,hf=>by
  rw [XG];exact HA (hf a Zb b h) fun a ha=>hf a (Ye _ ha)
theorem Ub {n:Nat} {m:Int} {x:Inst} {fst:List (List Col)} {sk:List Int} (hc:ChOk n x fst sk): ∀(d:Nat) (s:St),StV n s-> -1<=Y4 n m x fst sk d s/\Y4 n m x fst sk d s<=(d:Int)*18014398509481984
 | 0,s,h=>by simp [Y4]
 | d+1,s,h=>by
  rw [Y4]
  split
  ·omega
  ·rename_i hi;have i0:=h.ix
   have e1: -1<=(nth fst s.ix.toNat).foldl (fun o c=>if YC x s c=true then YQ o c.price (Y4 n m x fst sk d (VA n m s c)) else o) (-1)/\(nth fst s.ix.toNat).foldl (fun o c=>if YC x s c=true then YQ o c.price (Y4 n m x fst sk d (VA n m s c)) else o) (-1)<=((d+1:Nat):Int)*18014398509481984:=by
    refine HA (R:=fun o:Int=> -1<=o/\o<=((d+1:Nat):Int)*18014398509481984) Za fun c hm o ho=> ?_
    split
    ·rename_i hy;obtain ⟨v1,v2⟩:=E1 (m:=m) hc h Za hm hy;have:=Ub (m:=m) hc d _ v1;have:=(hc.col _ Za c hm).2.2.2;exact Ms ho Za Za
    ·exact ho
   have hs:=hc.skp s.ix.toNat Za;obtain ⟨v1,v2⟩:=Lr (m:=m) h Za;have:=Ub (m:=m) hc d _ v1;simp only
   split
   ·exact Ms e1 Za Za
   ·exact e1
def We (l:List Col):PV:= .list false (l.map Xk)
@[go_sem] theorem ZhE (l:List Col):We l= .list false (l.map Xk):=Zm rfl rfl
def IY (c:Col):AM.Obj:= .cells [.p (.int .i64 c.typ),.p (.int .i64 c.set),.p (.int .i64 c.price),.p (.int .i64 c.route.typ),.p (.int .i64 c.route.start),.p (.list c.route.rests_c (c.route.rests.map eB)),.p (.list c.route.visits_c (c.route.visits.map Z5))]
def wI (n:Nat) (m:Int) (x:Inst) (fst:List (List Col)) (sk:List Int) (l:List (St×Int)):Prop:= ∀p∈l,StV n p.1/\p.2=Y4 n m x fst sk 20 p.1
theorem Gz {P Q:Prop} (h:Q) (e:Q->P:=by intro h;simp (disch:=omega) only [YR,VD,BD,Zs,Zk,ZM,ZE,go_sem,seval];exact h):P:=e h
theorem Ev (x:Inst) (fst:List (List Col)) (sk:List Int) (fc sc:Bool) (m:Int) (hn:x.orders.length<=10) (hf:fst.length=x.orders.length) (hs:sk.length=x.orders.length) (hc:ChOk x.orders.length x fst sk) (hcl: ∀r∈fst,r.length<=1048576) :
  ∀(d:Nat) (s:St) (l:List (St×Int)),d<=20->StV x.orders.length s->(x.orders.length:Int)-s.ix<d->wI x.orders.length m x fst sk l ->
   ACalls Tryz.prog 107 [.ptr 1 0,.p (A0 s)] (YR x (.list fc (fst.map We)) (.list sc (sk.map eI)) m l) fun y H'=> ∃l',wI x.orders.length m x fst sk l'/\y= .p (.int .i64 (Y4 x.orders.length m x fst sk 20 s))/\H'=YR x (.list fc (fst.map We)) (.list sc (sk.map eI)) m l'
 | 0,s,l,_,hv,hd,_=>by have:=hv.ix;omega
 | d+1,s,l,hd0,hv,hd,hl=>by
  have ih:=Ev x fst sk fc sc m hn hf hs hc hcl d;have hlR: ∀p∈l,StR p.1:=fun p hp=>(hl p hp).1.len;obtain ⟨i,v,a0,a1,a2,a3,a4,a5,rfl⟩:=YK hv.len;have hi:=hv.ix;simp only at hi hd;obtain ⟨i,rfl⟩: ∃k:Nat,i=k:=⟨i.toNat,Za⟩;obtain ⟨T,hT⟩: ∃T,T=Y4 x.orders.length m x fst sk 20 ⟨i,v,[a0,a1,a2,a3,a4,a5]⟩:=⟨_,rfl⟩;rw [<- hT];refine Ze [] Tryz.func107 rfl zO ?_;simp (disch:=omega) only [Tryz.f107,YR,VD,Zs,Zk,go_sem,seval];refine Xd ?_;refine Zd ?_;refine cD ?_ ?_<;>intro h1<;>simp (disch:=omega) only [Sh.out h1,go_sem,seval]
  ·rw [Y4,if_pos Za] at hT;subst hT;exact ⟨_,_,wk,l,hl,rfl,rfl⟩
  ·refine Xd (Zd ?_);refine gM (Hd (k:=(⟨i,v,[a0,a1,a2,a3,a4,a5]⟩:St)) Pp hlR hv.len (by rfl)) (Zd ?_)
   cases hq:mq l (⟨i,v,[a0,a1,a2,a3,a4,a5]⟩:St) with
   | some w =>
    obtain ⟨_,hw⟩:=hl _ (Zcy hq);simp only at hw;rw [<- hw] at hT;subst hT;simp (disch:=omega) only [J7,JX,go_sem,seval];exact ⟨_,_,wk,l,hl,rfl,rfl⟩
   | none =>
    have hi2:i<fst.length:=Za
    have hi3:i<sk.length:=Za
    have hrl:=hcl _ (ZZ hi2);simp (disch:=omega) only [Aq,Option.getD_none,go_sem,seval];refine Xd (Zd ?_)
    let F:Int->Col->Int:=fun o c=>if YC x ⟨i,v,[a0,a1,a2,a3,a4,a5]⟩ c=true then YQ o c.price (Y4 x.orders.length m x fst sk 19 (VA x.orders.length m ⟨i,v,[a0,a1,a2,a3,a4,a5]⟩ c)) else o
    refine Zl [0,3,7,8,42,43] (fun q:Nat×List (St×Int)=> [(44,.p (.int .i64 q.1))]) (fun q=>YR x (.list fc (fst.map We)) (.list sc (sk.map eI)) m q.2++ [BD ⟨i,v,[a0,a1,a2,a3,a4,a5]⟩,.cells [.p (.int .i64 (((nth fst i).take q.1).foldl F (-1)))]]) (fun q=>q.1<=(nth fst i).length/\wI x.orders.length m x fst sk q.2) (fun q=>(nth fst i).length-q.1) (0,l) ⟨Zb,hl⟩ (Weak.mk ?_) ?_
    ·simp (disch:=omega) only [YR,VD,BD,Zs,Zk,ZM,ZE,Q2,Uz,go_sem,seval,↓reduceIte]
    ·rintro ⟨k,l1⟩ ⟨hk,hl1⟩;simp only at hk hl1;have hl1R: ∀p∈l1,StR p.1:=fun p hp=>(hl1 p hp).1.len;generalize hacc:((nth fst i).take k).foldl F (-1)=acc;refine Gz ?_;refine cD ?_ ?_<;>intro h2<;>simp (disch:=omega) only [Sh.out h2,go_sem,seval,↓reduceIte]
     ·have hk2:k<(nth fst i).length:=Za
      have hm:=ZZ hk2
      have hs1:((nth fst i).take (k+1)).foldl F (-1)=F acc (nth (nth fst i) k):=by
       grind [XZ,Zj]
      obtain ⟨⟨t0,t1⟩,⟨S,hS,hS2⟩,hb,hp0,hp1⟩:=hc.col i Za _ hm;obtain ⟨C,hC,hC2⟩:=hv.cov;simp only at hC;have h6:=hc.typ.1;obtain ⟨tt,htt⟩: ∃tt:Nat,(nth (nth fst i) k).typ=tt:=⟨(nth (nth fst i) k).typ.toNat,Za⟩;have cw:=nD x (.list fc (fst.map We)) (.list sc (sk.map eI)) m l1 ⟨i,v,[a0,a1,a2,a3,a4,a5]⟩ (nth (nth fst i) k) hv.len Zb hn (by grind) C S tt hC hS htt hC2 hS2 Za h6 hv.used
      have hmay:YC x ⟨i,v,[a0,a1,a2,a3,a4,a5]⟩ (nth (nth fst i) k)=Ej x ⟨i,v,[a0,a1,a2,a3,a4,a5]⟩ tt C S:=by grind [YC,XS]
      have hwc:VA x.orders.length m ⟨i,v,[a0,a1,a2,a3,a4,a5]⟩ (nth (nth fst i) k)=Db x.orders.length m ⟨i,v,[a0,a1,a2,a3,a4,a5]⟩ tt C S:=by grind [VA]
      by_cases hy:Ej x ⟨i,v,[a0,a1,a2,a3,a4,a5]⟩ tt C S=true
      ·obtain ⟨v1,v2⟩:=E1 (m:=m) hc hv (by grind) (by simpa using hm) (by grind);rw [hwc] at v1 v2;obtain ⟨j,w,b0,b1,b2,b3,b4,b5,hw⟩:=YK v1.len;rw [if_pos hy,hw] at cw;refine cw.useP (L:= [_,_,_]) (by rfl) ?_ (by rfl) (by rfl);refine BE ?_;refine Bi [5] [1,2] [4] 6 mixed Zg Zg Zg Zg Zb (Zd ?_);refine ⟨fun q hq p hp=> ?_,?_⟩
       ·simp only [Z3,Wv,WT] at hq;rcases hq with rfl | rfl
        ·obtain rfl:10=p:=VR hp;exact VN (by decide)
        ·obtain rfl:57=p:=VR hp;exact VN (by decide)
       ·have c3:=((ih ⟨j,w,[b0,b1,b2,b3,b4,b5]⟩ l1 Za (hw ▸ v1) (by grind) hl1).mono (fun y H' hq=>(⟨hq,by obtain ⟨l',_,_,rfl⟩:=hq;rfl⟩:_/\H'.length=(YR x (.list fc (fst.map We)) (.list sc (sk.map eI)) m l1).length))).front (by rfl) (by rfl) [BD ⟨i,v,[a0,a1,a2,a3,a4,a5]⟩,.cells [.p (.int .i64 acc)],IY (nth (nth fst i) k),BD ⟨j,w,[b0,b1,b2,b3,b4,b5]⟩];refine HI 5 _ Zg (by refine Zd ?_;exact c3) ?_;rintro y H' ⟨H1,⟨l2,hl2,rfl,rfl⟩,rfl⟩;refine ⟨fun k hk=>by simp at hk;subst hk;rfl,Lk ?_⟩;simp (disch:=omega) only [YR,VD,BD,IY,Zs,Zk,ZM,ZE,go_sem,seval]
        have hrg:=Ub (m:=m) hc 20 _ v1;rw [hw] at hrg;have c4:=(((Mt acc (nth (nth fst i) k).price (Y4 x.orders.length m x fst sk 20 ⟨j,w,[b0,b1,b2,b3,b4,b5]⟩) Za Za).back [.map (l2.map (MH A0)),VD x (.list fc (fst.map We)) (.list sc (sk.map eI)) m,BD ⟨i,v,[a0,a1,a2,a3,a4,a5]⟩] (by rfl)).mono (fun y H' hq=>(⟨hq,by grind⟩:_/\H'.length=4))).front (by rfl) (by rfl) [IY (nth (nth fst i) k),BD ⟨j,w,[b0,b1,b2,b3,b4,b5]⟩];refine ACalls.mono c4 ?_;rintro y H' ⟨H1,⟨y1,H2,⟨rfl,rfl⟩,rfl,rfl⟩,rfl⟩;simp (disch:=omega) only [VD,BD,IY,Zs,Zk,ZM,ZE,shO,shVs,shV,go_sem,seval]
        have hF:F acc (nth (nth fst i) k)=YQ acc (nth (nth fst i) k).price (Y4 x.orders.length m x fst sk 20 ⟨j,w,[b0,b1,b2,b3,b4,b5]⟩):=by
         show (if _ then _ else _)=_
         rw [if_pos (by grind),hwc,Jn hc 19 20 _ v1 (by grind) (by grind),hw]
        exact ⟨(k+1,l2),⟨Za,hl2⟩,Za,Weak.mk (by simp (disch:=omega) only [hs1,hF,go_sem,seval])⟩
      ·rw [if_neg hy] at cw;refine cw.useP (L:= [_,_,_]) (by rfl) ?_ (by rfl) (by rfl);refine BE ?_;have hF:F acc (nth (nth fst i) k)=acc:=if_neg (by grind);exact ⟨(k+1,l1),⟨Za,hl1⟩,Za,Weak.mk (by simp (disch:=omega) only [hs1,hF,go_sem,seval])⟩
     ·have hkl:k=(nth fst i).length:=Za
      subst hkl;rw [XX] at hacc
      have hTe:T=if 0<=nth sk i then YQ acc (nth sk i) (Y4 x.orders.length m x fst sk 19 (Dz x.orders.length m ⟨i,v,[a0,a1,a2,a3,a4,a5]⟩)) else acc:=by
       rw [hT,show (20:Nat)=19+1 from rfl,Y4,if_neg Za,<- hacc]
       rfl
      refine Xd (Zd ?_);refine cD ?_ ?_<;>intro h3<;>simp (disch:=omega) only [Sh.out h3,go_sem,seval,↓reduceIte]
      ·have cn:=Is x (.list fc (fst.map We)) (.list sc (sk.map eI)) m l1 ⟨i,v,[a0,a1,a2,a3,a4,a5]⟩ hv.len Zb hn (by grind);obtain ⟨v1,v2⟩:=Lr (m:=m) hv (by grind);obtain ⟨j,w,b0,b1,b2,b3,b4,b5,hw⟩:=YK v1.len;have hsk:=hc.skp i Za;have hrg:=Ub (m:=m) hc 20 _ v1;rw [hw] at cn v1 v2 hrg;simp only at v2;refine cn.useP (L:= [_,_]) (by rfl) ?_ (by rfl) (by rfl);refine BE ?_;have c3:=((ih ⟨j,w,[b0,b1,b2,b3,b4,b5]⟩ l1 Za v1 (by grind) hl1).mono (fun y H' hq=>(⟨hq,by obtain ⟨l',_,_,rfl⟩:=hq;rfl⟩:_/\H'.length=(YR x (.list fc (fst.map We)) (.list sc (sk.map eI)) m l1).length))).front (by rfl) (by rfl) [BD ⟨i,v,[a0,a1,a2,a3,a4,a5]⟩,.cells [.p (.int .i64 acc)]]
       refine ACalls.mono c3 ?_;rintro y H' ⟨H1,⟨l2,hl2,rfl,rfl⟩,rfl⟩;refine Gz ?_;refine ACalls.mono ((Mt acc (nth sk i) (Y4 x.orders.length m x fst sk 20 ⟨j,w,[b0,b1,b2,b3,b4,b5]⟩) Za Za).back [.map (l2.map (MH A0)),VD x (.list fc (fst.map We)) (.list sc (sk.map eI)) m,BD ⟨i,v,[a0,a1,a2,a3,a4,a5]⟩] (by rfl)) ?_;rintro y H' ⟨y1,H2,⟨rfl,rfl⟩,rfl,rfl⟩;simp (disch:=omega) only [VD,BD,Zs,Zk,ZM,ZE,shO,shVs,shV,go_sem,seval];refine ZB 6 mixed Zg Zg ?_
       refine Zd ?_;refine LD (l:=l2) (k:=(⟨i,v,[a0,a1,a2,a3,a4,a5]⟩:St)) Pp (fun p hp=>(hl2 p hp).1.len) hv.len (by rfl) fun l3 _ hl3=> ?_;simp (disch:=omega) only [ZC,go_sem,seval];rw [if_pos h3,Jn hc 19 20 _ (by grind) (by grind) (by grind),hw] at hTe;rw [<- hTe];exact ⟨.p (.int .i64 T),_,wk,l3,fun p hp=>(hl3 p hp).elim (hl2 p) (fun e=>by grind),rfl,rfl⟩
      ·refine ZB 6 mixed Zg Zg (Zd ?_);refine LD (l:=l1) (k:=(⟨i,v,[a0,a1,a2,a3,a4,a5]⟩:St)) Pp hl1R hv.len (by rfl) fun l3 _ hl3=> ?_;simp (disch:=omega) only [ZC,go_sem,seval];rw [if_neg h3] at hTe;rw [<- hTe];exact ⟨.p (.int .i64 T),_,wk,l3,fun p hp=>(hl3 p hp).elim (hl1 p) (fun e=>by grind),rfl,rfl⟩
def LQ (n:Nat) (m:Int) (x:Inst) (fst:List (List Col)) (sk:List Int) (s:St) (c:Col):Bool :=
 YC x s c&&(decide (0<=Y4 n m x fst sk 20 (VA n m s c))&&decide (c.price+Y4 n m x fst sk 20 (VA n m s c)=Y4 n m x fst sk 20 s))
def Yr (n:Nat) (m:Int) (x:Inst) (fst:List (List Col)) (sk:List Int):Nat->St->List Col×List Int
 | 0,_=>([],[])
 | d+1,s=>if (n:Int)<=s.ix then ([],[]) else match (nth fst s.ix.toNat).find? (LQ n m x fst sk s) with
  | some c=>(c::(Yr n m x fst sk d (VA n m s c)).1,(Yr n m x fst sk d (VA n m s c)).2)
  | none=>((Yr n m x fst sk d (Dz n m s)).1,s.ix::(Yr n m x fst sk d (Dz n m s)).2)
theorem MQ {α:Type} [Inhabited α] {p:α->Bool} : ∀ {l:List α} {k:Nat},k<l.length->(∀j,j<k->p (nth l j)=false)->p (nth l k)=true->l.find? p=some (nth l k)
 | [],_,h,_,_=>by simp at h
 | a::l,0,_,_,h=>by
  grind [nth]
 | a::l,k+1,hk,h0,h=>by
  rw [List.find?_cons_of_neg (by rw [show p a=false from h0 0 Za];simp)];exact MQ (l:=l) (k:=k) (by simpa using hk) (fun j hj=>h0 (j+1) Za) h
theorem qF {α:Type} [Inhabited α] {p:α->Bool} {l:List α} (h: ∀j,j<l.length->p (nth l j)=false):l.find? p=none:=by
 rw [JT];intro a ha;obtain ⟨j,hj,rfl⟩:=ZO.1 ha
 grind [Zj]
theorem ZcO (X:AM.Obj) (hX: ∀H n,E3 H n X X) (hX2: ∀o xs,R1 o xs X=X) (x:Inst) (fst:List (List Col)) (sk:List Int) (fc sc:Bool) (m:Int) (hn:x.orders.length<=10) (hf:fst.length=x.orders.length) (hs:sk.length=x.orders.length) (hc:ChOk x.orders.length x fst sk) (hcl: ∀r∈fst,r.length<=1048576)
  (s:St) (l:List (St×Int)) (hv:StV x.orders.length s) (hl:wI x.orders.length m x fst sk l) :
  ACalls Tryz.prog 108 [.ptr 1 0,.p (A0 s)] (YR x (.list fc (fst.map We)) (.list sc (sk.map eI)) m l++ [X]) fun y H'=> ∃l' A B,wI x.orders.length m x fst sk l'/\(A,B)=Yr x.orders.length m x fst sk 20 s /\
   y= .tup [.sl 4 0 A.length A.length,.p (.list false (B.map eI))]/\H'=YR x (.list fc (fst.map We)) (.list sc (sk.map eI)) m l'++ [X,.cells (List.replicate 8 .junk),.elems 7 (A.map Xk)]:=by
 obtain ⟨i,v,a0,a1,a2,a3,a4,a5,rfl⟩:=YK hv.len;obtain ⟨D,hD⟩: ∃D,D=20:=⟨20,rfl⟩;obtain ⟨R,hR⟩: ∃R,R=Yr x.orders.length m x fst sk D ⟨i,v,[a0,a1,a2,a3,a4,a5]⟩:=⟨_,rfl⟩;rw [<- hD,<- hR];have hi0:=hv.ix;simp only at hi0;refine Ze [20] Tryz.func108 rfl zP ?_;simp (disch:=omega) only [Tryz.f108,ZM,ZE,YR,VD,Zs,Zk,go_sem,seval]
 refine ZY [20] [0,3] (fun q:Nat×St×List (St×Int)×List Col×List Int=> [(6,.sl 4 0 q.2.2.2.1.length q.2.2.2.1.length),(7,.sl 5 0 q.2.2.2.2.length q.2.2.2.2.length)])
  (fun q=>YR x (.list fc (fst.map We)) (.list sc (sk.map eI)) m q.2.2.1++ [X,BD q.2.1,.elems 7 (q.2.2.2.1.map Xk),.elems 1 (q.2.2.2.2.map eI)])
  (fun q=>q.1<=D/\StV x.orders.length q.2.1/\(x.orders.length:Int)-q.2.1.ix<q.1/\wI x.orders.length m x fst sk q.2.2.1/\(q.2.2.2.1.length:Int)<=q.2.1.ix/\(q.2.2.2.2.length:Int)<=q.2.1.ix/\R=(q.2.2.2.1++(Yr x.orders.length m x fst sk q.1 q.2.1).1,q.2.2.2.2++(Yr x.orders.length m x fst sk q.1 q.2.1).2))
  (fun q=>q.1) (D,⟨i,v,[a0,a1,a2,a3,a4,a5]⟩,l,[],[]) ⟨Zb,hv,by grind,hl,by grind,by grind,by rw [hR];rfl⟩
  (Weak.ofNil 6 7 (by simp (disch:=omega) only [go_sem,seval]) Zb (Weak.ofNil 7 1 (by simp (disch:=omega) only [go_sem,seval]) Zb (Weak.mk ?_))) ?_
 ·simp (disch:=omega) only [hX,YR,VD,BD,Zs,Zk,ZM,ZE,ZH,go_sem,seval,↓reduceIte]
 ·rintro ⟨d,s,l1,A,B⟩ ⟨hd1,hsv,hd,hl1,hA,hB,hq⟩;simp only at hd1 hsv hd hl1 hA hB hq;clear hv hR hi0;obtain ⟨i,v,a0,a1,a2,a3,a4,a5,rfl⟩:=YK hsv.len;have hi0:=hsv.ix;simp only at hi0 hd hA hB hq;obtain ⟨i,rfl⟩: ∃k:Nat,i=k:=⟨i.toNat,Za⟩;obtain ⟨d,rfl⟩: ∃k,d=k+1:=⟨d-1,Za⟩;refine Gz ?_;refine Xd ?_;refine Zd ?_;refine cD ?_ ?_<;>intro h1<;>simp (disch:=omega) only [Sh.out h1,go_sem,seval,↓reduceIte]
  ·have hi2:i<fst.length:=Za
   have hrl:=hcl _ (ZZ hi2);have c3:=((Ev x fst sk fc sc m hn hf hs hc hcl 20 ⟨i,v,[a0,a1,a2,a3,a4,a5]⟩ l1 Za hsv (by grind) hl1).mono (fun y H' hq=>(⟨hq,by obtain ⟨l',_,_,rfl⟩:=hq;rfl⟩:_/\H'.length=(YR x (.list fc (fst.map We)) (.list sc (sk.map eI)) m l1).length))).front (by rfl) (by rfl) [X,BD ⟨i,v,[a0,a1,a2,a3,a4,a5]⟩,.elems 7 (A.map Xk),.elems 1 (B.map eI)];refine ACalls.mono c3 ?_;rintro y H' ⟨H1,⟨l2,hl2,rfl,rfl⟩,rfl⟩;clear hl1 c3;obtain ⟨W,hW⟩: ∃W,W=Y4 x.orders.length m x fst sk 20 ⟨i,v,[a0,a1,a2,a3,a4,a5]⟩:=⟨_,rfl⟩
   rw [<- hW]
   have hWr: -1<=W/\W<=20*18014398509481984:=by rw [hW];exact Ub hc 20 _ hsv
   refine Gz ?_;refine Xd (Zd ?_);refine Zl [0,3,7,8,34,35] (fun q:Nat×List (St×Int)=> [(6,.sl 4 0 A.length A.length),(9,.p (.bool false)),(36,.p (.int .i64 q.1))]) (fun q=>YR x (.list fc (fst.map We)) (.list sc (sk.map eI)) m q.2++ [X,BD ⟨i,v,[a0,a1,a2,a3,a4,a5]⟩,.elems 7 (A.map Xk),.elems 1 (B.map eI)]) (fun q=>q.1<=(nth fst i).length/\wI x.orders.length m x fst sk q.2/\ ∀j,j<q.1->LQ x.orders.length m x fst sk ⟨i,v,[a0,a1,a2,a3,a4,a5]⟩ (nth (nth fst i) j)=false) (fun q=>(nth fst i).length-q.1) (0,l2) ⟨Zb,hl2,fun j hj=>by simp at hj⟩ (Weak.mk ?_) ?_
   ·simp (disch:=omega) only [hX,YR,VD,BD,Zs,Zk,ZM,ZE,go_sem,seval,↓reduceIte]
   ·rintro ⟨k,l1⟩ ⟨hk,hl1,hno⟩;simp only at hk hl1 hno;refine Gz ?_;refine cD ?_ ?_<;>intro h2<;>simp (disch:=omega) only [Sh.out h2,go_sem,seval,↓reduceIte]
    ·have hk2:k<(nth fst i).length:=Za
     have hm:=ZZ hk2;obtain ⟨⟨t0,t1⟩,⟨S,hS,hS2⟩,hb,hp0,hp1⟩:=hc.col i Za _ hm;obtain ⟨C,hC,hC2⟩:=hsv.cov;simp only at hC;have h6:=hc.typ.1;obtain ⟨tt,htt⟩: ∃tt:Nat,(nth (nth fst i) k).typ=tt:=⟨(nth (nth fst i) k).typ.toNat,Za⟩;have cw:=nD x (.list fc (fst.map We)) (.list sc (sk.map eI)) m l1 ⟨i,v,[a0,a1,a2,a3,a4,a5]⟩ (nth (nth fst i) k) hsv.len Zb hn (by grind) C S tt hC hS htt hC2 hS2 Za h6 hsv.used
     have hmay:YC x ⟨i,v,[a0,a1,a2,a3,a4,a5]⟩ (nth (nth fst i) k)=Ej x ⟨i,v,[a0,a1,a2,a3,a4,a5]⟩ tt C S:=by grind [YC]
     have hwc:VA x.orders.length m ⟨i,v,[a0,a1,a2,a3,a4,a5]⟩ (nth (nth fst i) k)=Db x.orders.length m ⟨i,v,[a0,a1,a2,a3,a4,a5]⟩ tt C S:=by grind [VA]
     have more:LQ x.orders.length m x fst sk ⟨i,v,[a0,a1,a2,a3,a4,a5]⟩ (nth (nth fst i) k)=false-> ∀j,j<k+1->LQ x.orders.length m x fst sk ⟨i,v,[a0,a1,a2,a3,a4,a5]⟩ (nth (nth fst i) j)=false:=fun h j hj=>by
      grind
     by_cases hy:Ej x ⟨i,v,[a0,a1,a2,a3,a4,a5]⟩ tt C S=true
     ·obtain ⟨v1,v2⟩:=E1 (m:=m) hc hsv Za (by simpa using hm) (by grind);rw [hwc] at v1 v2;obtain ⟨j,w,b0,b1,b2,b3,b4,b5,hw⟩:=YK v1.len;rw [if_pos hy,hw] at cw;refine cw.useP (L:= [_,_,_,_,_]) (by rfl) ?_ (by rfl) (by rfl);refine BE ?_;have c3:=((Ev x fst sk fc sc m hn hf hs hc hcl 20 ⟨j,w,[b0,b1,b2,b3,b4,b5]⟩ l1 Za (hw ▸ v1) (by grind) hl1).mono (fun y H' hq=>(⟨hq,by obtain ⟨l',_,_,rfl⟩:=hq;rfl⟩:_/\H'.length=(YR x (.list fc (fst.map We)) (.list sc (sk.map eI)) m l1).length))).front (by rfl) (by rfl) [X,BD ⟨i,v,[a0,a1,a2,a3,a4,a5]⟩,.elems 7 (A.map Xk),.elems 1 (B.map eI),IY (nth (nth fst i) k),BD ⟨j,w,[b0,b1,b2,b3,b4,b5]⟩]
      refine ACalls.mono c3 ?_;rintro y H' ⟨H1,⟨l3,hl3,rfl,rfl⟩,rfl⟩;have hTr:=Ub (m:=m) hc 20 _ v1
      have hsel:LQ x.orders.length m x fst sk ⟨i,v,[a0,a1,a2,a3,a4,a5]⟩ (nth (nth fst i) k)=(decide (0<=Y4 x.orders.length m x fst sk 20 ⟨j,w,[b0,b1,b2,b3,b4,b5]⟩)&&decide ((nth (nth fst i) k).price+Y4 x.orders.length m x fst sk 20 ⟨j,w,[b0,b1,b2,b3,b4,b5]⟩=W)):=by
       rw [LQ,hmay,hy,hwc,hw,hW,Vt]
      rw [hw] at hTr;generalize Y4 x.orders.length m x fst sk 20 ⟨j,w,[b0,b1,b2,b3,b4,b5]⟩=T at hTr hsel;simp (disch:=omega) only [YR,VD,BD,IY,Zs,Zk,ZM,ZE,go_sem,seval];refine gT ?_ ?_<;>intro h3<;>simp (disch:=omega) only [Sh.out h3,go_sem,seval,↓reduceIte]
      ·refine cD ?_ ?_<;>intro h4<;>simp (disch:=omega) only [Sh.out h4,go_sem,seval,↓reduceIte]
       ·rw [UB h3,UB h4,Vt] at hsel
        have hp:Yr x.orders.length m x fst sk (d+1) ⟨i,v,[a0,a1,a2,a3,a4,a5]⟩=(nth (nth fst i) k::(Yr x.orders.length m x fst sk d ⟨j,w,[b0,b1,b2,b3,b4,b5]⟩).1,(Yr x.orders.length m x fst sk d ⟨j,w,[b0,b1,b2,b3,b4,b5]⟩).2):=by
         rw [Yr,if_neg (by grind)];simp only [XS,MQ hk2 hno hsel,hwc,hw]
        rw [hw] at v1 v2;simp only at v2;rw [hp] at hq;exact ⟨(d,⟨j,w,[b0,b1,b2,b3,b4,b5]⟩,l3,A++ [nth (nth fst i) k],B),⟨Za,v1,by grind,hl3,by grind,by grind,by grind⟩,Za,Weak.mk (by simp (disch:=omega) only [hX,Zs,Zk,Xn,Zz,ZA,ZH,Xi,go_sem,seval])⟩
       ·rw [Qd h4,Bool.and_false] at hsel;exact ⟨(k+1,l3),⟨Za,hl3,more hsel⟩,Za,Weak.mk (by simp (disch:=omega) only [hX,go_sem,seval])⟩
      ·rw [Qd h3,QB] at hsel;exact ⟨(k+1,l3),⟨Za,hl3,more hsel⟩,Za,Weak.mk (by simp (disch:=omega) only [hX,go_sem,seval])⟩
     ·rw [if_neg hy] at cw;refine cw.useP (L:= [_,_,_,_,_]) (by rfl) ?_ (by rfl) (by rfl);refine BE ?_;exact ⟨(k+1,l1),⟨Za,hl1,more (by rw [LQ,hmay,Bool.eq_false_iff.2 hy,QB])⟩,Za,Weak.mk (by simp (disch:=omega) only [hX,go_sem,seval])⟩
    ·have hkl:k=(nth fst i).length:=Za
     subst hkl
     have hp:Yr x.orders.length m x fst sk (d+1) ⟨i,v,[a0,a1,a2,a3,a4,a5]⟩=((Yr x.orders.length m x fst sk d (Dz x.orders.length m ⟨i,v,[a0,a1,a2,a3,a4,a5]⟩)).1,(i:Int)::(Yr x.orders.length m x fst sk d (Dz x.orders.length m ⟨i,v,[a0,a1,a2,a3,a4,a5]⟩)).2):=by
      simp_all [Yr,qF]
     rw [hp] at hq;have cn:=Is x (.list fc (fst.map We)) (.list sc (sk.map eI)) m l1 ⟨i,v,[a0,a1,a2,a3,a4,a5]⟩ hsv.len Zb hn (by grind);obtain ⟨v1,v2⟩:=Lr (m:=m) hsv Za;obtain ⟨j,w,b0,b1,b2,b3,b4,b5,hw⟩:=YK v1.len;rw [hw] at cn v1 v2 hq;simp only at v2;refine cn.useP (L:= [_,_,_,_,_]) (by rfl) ?_ (by rfl) (by rfl);refine BE ?_;exact ⟨(d,⟨j,w,[b0,b1,b2,b3,b4,b5]⟩,l1,A,B++ [(i:Int)]),⟨Za,v1,by grind,hl1,by grind,by grind,by grind⟩,Za,Weak.mk (by simp (disch:=omega) only [hX,Zs,Zk,Xn,Zz,ZA,ZH,Xi,go_sem,seval])⟩
  ·rw [Yr,if_pos (by grind)] at hq;simp only [Yw] at hq;subst hq;refine Zo (Weak.fz (o:=5) (by rfl)) (Zh [] _ _ _ _ (Jx ?_));exact ⟨.tup [.sl 4 0 A.length A.length,.p (.list false (B.map eI))],_,Weak.mk (by simp (disch:=omega) only [hX,hX2,go_sem,seval]),l1,A,B,hl1,rfl,rfl,rfl⟩
def I4 (a:List Int) (i:Nat):Nat->Bool
 | 0=>true
 | k+1=>I4 a i k&&decide (nth a k≠nth a i)
theorem MX {a:List Int} {i:Nat} : ∀k,I4 a i k=true↔ ∀t,t<k->nth a t≠nth a i
 | 0=>by simp [I4]
 | k+1=>by
  rw [I4,Zv,MX k,Zr]
  grind
def TV (a:List Int) (i:Nat):Bool:=I4 a i i
theorem B8 {a:List Int} {i:Nat} :TV a i=true↔ ∀t,t<i->nth a t≠nth a i:=MX i
def K9 (l:List Col) (a:List Int) (T:Int) (i:Nat):Bool:=decide (0<=nth a i)&&(decide ((nth l (nth a i).toNat).typ=T)&&TV a i)
def usdI (l:List Col) (a:List Int) (T:Int):Nat->Nat
 | 0=>0
 | i+1=>usdI l a T i+(if K9 l a T i=true then 1 else 0)
def Vz (S:Nat) (a:List Int) (j:Int):List Int:=(List.range a.length).map fun i=>if S.testBit i=true then j else nth a i
theorem Uk {S:Nat} {a:List Int} {j:Int} :(Vz S a j).length=a.length:=by simp [Vz]
theorem Xt {S:Nat} {a:List Int} {j:Int} {i:Nat} (h:i<a.length):nth (Vz S a j) i=if S.testBit i=true then j else nth a i:=by
 grind [Vz,Zj]
def rJ (S:Nat) (a:List Int) (k:Nat):Bool:=(List.range a.length).all fun i=> !S.testBit i||(decide (nth a i<0)&&decide (k<=i))
theorem Ke {S:Nat} {a:List Int} {k:Nat} :rJ S a k=true↔ ∀i,i<a.length->S.testBit i=true->nth a i<0/\k<=i:=by
 simp only [rJ,ZD,ZP,W8,XR,Zv,Zr]
 grind
def Bk (x:Inst) (l:List Col) (a:List Int) (j k:Nat):Bool :=
 (nth l j).set.toNat.testBit k&&(decide ((usdI l a (nth l j).typ a.length:Int)<(nth x.types (nth l j).typ.toNat).count)&&rJ (nth l j).set.toNat a k)
def skR (x:Inst) (k:Nat):Int:=(Y1 (unsF x k).1).1
def Jo (x:Inst) (l:List Col):Nat->List Int->Int->List (List Int×Int)
 | 0,a,p=> [(a,p)]
 | d+1,a,p=>if (nth x.orders (x.orders.length-(d+1))).off=true\/0<=nth a (x.orders.length-(d+1)) then Jo x l d a p else
  ((List.range l.length).flatMap fun j=>if Bk x l a j (x.orders.length-(d+1))=true then Jo x l d (Vz (nth l j).set.toNat a j) (p+(nth l j).price) else []) ++
   (if 0<=(nth x.orders (x.orders.length-(d+1))).penalty then Jo x l d a (p+skR x (x.orders.length-(d+1))) else [])
theorem IP (n:Nat) (hn:n<=60):PC 86 [.p (.int .i64 n)] (.int .i64 (pw n:Nat)):=by
 refine Zc Tryz.func86 rfl Zi2 ?_;simp (disch:=omega) only [Tryz.f86,go_sem,seval];refine Zl [0] (fun k:Nat=> [(3,.p (.int .i64 (pw k:Nat))),(4,.p (.int .i64 k))]) (fun _=> []) (fun k=>k<=n) (fun k=>n-k) 0 Zb (Weak.mk ?_) ?_
 ·refine Zd ?_;simp [pw]
 ·intro k hk;have h62:pw k<=pw 62:=Ks Za;have h63:k<n->pw (k+1)<=pw 62:=fun h=>Ks Za;have h64:=EU k;have h65:=F9;refine Zd ?_;refine cD ?_ ?_<;>intro h<;>simp (disch:=omega) only [Sh.out h,go_sem,seval,↓reduceIte]
  ·exact ⟨k+1,Za,Za,Weak.mk (by refine Zd ?_;simp [h64])⟩
  grind
theorem I9 (s:Nat) (i:Nat) (hs:s<9223372036854775808) (hi:i<=64):PC 151 [.p (.int .i64 s),.p (.int .i64 i)] (.bool (s.testBit i)):=by
 refine Zc Tryz.func151 rfl Zap ?_;simp (disch:=omega) only [Tryz.f151,go_sem,seval];refine Zl [1] (fun k:Nat=> [(0,.p (.int .i64 (hv s k:Nat))),(5,.p (.int .i64 k))]) (fun _=> []) (fun k=>k<=i) (fun k=>i-k) 0 Zb (Weak.mk ?_) ?_
 ·simp (disch:=omega) only [R7,go_sem,seval]
 ·intro k hk;have e1:=R6 s k;have h1:=vH s k;refine Zd ?_;refine ZX ?_ ?_<;>intro h
  ·exact ⟨k+1,Za,Za,Weak.mk (by refine Zd ?_;grind)⟩
  ·have:k=i:=Za
   subst this;rw [iQ]
   have:((hv s k:Nat):Int)%2=1↔hv s k%2=1:=Za
   grind
structure Chc where
 found:Bool
 places:List Int
 price:Int
 deriving Inhabited
def UJ (x:Inst) (lc:Bool) (l:List Col) (b:Chc):AM.Obj:= .cells [.p (.list x.net.places_c (x.net.places.map eS)),.p (.list x.net.arcs_c (x.net.arcs.map VE)),.p (.list x.types_c (x.types.map X0)),.p (.list x.orders_c (x.orders.map eOrd)),.p (.list x.apart_c (x.apart.map eP)),.p (.list x.before_c (x.before.map eP)),.p (.list lc (l.map Xk)),.p (.bool b.found),.p (.list (!b.found) (b.places.map eI)),.p (.int .i64 b.price)]
theorem SZ {l:List Col} {a:List Int} {T:Int} : ∀m,usdI l a T m<=m
 | 0=>ZF _
 | m+1=>by
  have:=SZ (l:=l) (a:=a) (T:=T) m;rw [usdI];split<;>omega
theorem C6 {P Q:Prop} (h:Q) (e:Q->P:=by intro h;simp (disch:=omega) only [UJ,go_sem,seval];exact h):P:=e h
theorem mX (x:Inst) (lc:Bool) (l:List Col) (b:Chc) (a:List Int) (T:Int) (ha:a.length<=1048576) (hr: ∀i,i<a.length-> -1<=nth a i/\nth a i<l.length) (hl:l.length<=1048576) :
  ACalls Tryz.prog 153 [.ptr 0 0,.p (.list false (a.map eI)),.p (.int .i64 T)] [UJ x lc l b] fun y H'=>y= .p (.int .i64 (usdI l a T a.length:Nat))/\H'= [UJ x lc l b]:=by
 refine Ze [] Tryz.func153 rfl Zar ?_;simp (disch:=omega) only [Tryz.f153,UJ,go_sem,seval];refine Zl [0,1,2] (fun k:Nat=> [(7,.p (.int .i64 (usdI l a T k:Nat))),(8,.p (.int .i64 k))]) (fun _=> [UJ x lc l b]) (fun k=>k<=a.length) (fun k=>a.length-k) 0 Zb (Weak.mk ?_) ?_
 ·have h00:((usdI l a T 0:Nat):Int)=0:=rfl;simp (disch:=omega) only [h00,UJ,go_sem,seval,↓reduceIte]
 ·intro k hk;have hu:=SZ (l:=l) (a:=a) (T:=T) k;refine C6 ?_;refine cD ?_ ?_<;>intro h1<;>simp (disch:=omega) only [Sh.out h1,go_sem,seval,↓reduceIte]
  ·have hk2:k<a.length:=Za
   have hrk:=hr k hk2;refine Xd (Zd ?_);refine gF ?_ ?_<;>intro h2<;>simp (disch:=omega) only [Sh.out h2,go_sem,seval,↓reduceIte]
   ·have e:usdI l a T (k+1)=usdI l a T k:=by grind [usdI,K9]
    exact ⟨k+1,Za,Za,Weak.mk (by simp (disch:=omega) only [e,go_sem,seval])⟩
   ·refine cD ?_ ?_<;>intro h3<;>simp (disch:=omega) only [Sh.out h3,go_sem,seval,↓reduceIte]
    ·have e:usdI l a T (k+1)=usdI l a T k:=by grind [usdI,K9]
     exact ⟨k+1,Za,Za,Weak.mk (by simp (disch:=omega) only [e,go_sem,seval])⟩
    ·have h3':(nth l (nth a k).toNat).typ=T:=Z2.1 h3;refine Zl [0,1,2,7,8] (fun q:Nat=> [(9,.p (.bool (I4 a k q))),(10,.p (.int .i64 q))]) (fun _=> [UJ x lc l b]) (fun q=>q<=k) (fun q=>k-q) 0 Zb (Weak.mk ?_) ?_
     ·simp (disch:=omega) only [UJ,I4,go_sem,seval,↓reduceIte]
     ·intro q hq;refine C6 ?_;refine cD ?_ ?_<;>intro h4<;>simp (disch:=omega) only [Sh.out h4,go_sem,seval,↓reduceIte]
      ·refine ZB 12 mixed Zg Zg (Zd ?_);refine gT ?_ ?_<;>intro h5<;>simp (disch:=omega) only [Sh.out h5,go_sem,seval,↓reduceIte]
       ·exact ⟨q+1,Za,Za,Weak.mk (by simp (disch:=omega) only [I4,h5,Vt,go_sem,seval])⟩
       ·exact ⟨q+1,Za,Za,Weak.mk (by simp (disch:=omega) only [I4,h5,QB,go_sem,seval])⟩
      ·have hqk:q=k:=Za
       subst hqk;refine cD ?_ ?_<;>intro h5<;>simp (disch:=omega) only [Sh.out h5,go_sem,seval,↓reduceIte]
       ·have e:usdI l a T (q+1)=usdI l a T q+1:=by grind [usdI,K9,TV]
        exact ⟨q+1,Za,Za,Weak.mk (by simp (disch:=omega) only [e,go_sem,seval])⟩
       ·have e:usdI l a T (q+1)=usdI l a T q:=by grind [usdI,K9,TV]
        exact ⟨q+1,Za,Za,Weak.mk (by simp (disch:=omega) only [e,go_sem,seval])⟩
  ·have hka:k=a.length:=Za
   subst hka;exact we
def K1 (S:Nat) (a:List Int) (j:Int) (k:Nat):List Int:=(List.range a.length).map fun t=>if t<k/\S.testBit t=true then j else nth a t
theorem Ul {S:Nat} {a:List Int} {j:Int} {k:Nat} :(K1 S a j k).length=a.length:=by simp [K1]
theorem K2 {S:Nat} {a:List Int} {j:Int} {k i:Nat} (h:i<a.length):nth (K1 S a j k) i=if i<k/\S.testBit i=true then j else nth a i:=by
 grind [K1,Zj]
theorem bW {S:Nat} {a:List Int} {j:Int} :K1 S a j 0=a :=
 Qe Ul fun i hi=>by simp_all [Ul,K2]
theorem mF {S:Nat} {a:List Int} {j:Int} :K1 S a j a.length=Vz S a j :=
 Qe (by rw [Ul,Uk]) fun i hi=>by grind [Ul,K2,Xt]
theorem mG {S:Nat} {a:List Int} {j:Int} {k:Nat} (hk:k<a.length) (hb:S.testBit k=true):(K1 S a j k).set k j=K1 S a j (k+1) :=
 Qe (by simp [Ul]) fun i hi=>by
  rw [Vs,Ul] at hi;rw [CF (by rw [Ul];exact hk),K2 hi,K2 hi]
  grind
theorem sZ {S:Nat} {a:List Int} {j:Int} {k:Nat} (hb:S.testBit k=false):K1 S a j (k+1)=K1 S a j k:=by
 refine Wu fun i _=> ?_
 grind
theorem nC (x:Inst) (lc:Bool) (l:List Col) (b:Chc) (a:List Int) (j k:Nat) (ha:0<a.length/\a.length<=60) (hl:l.length<=1048576) (hj:j<l.length) (S:Nat) (hS:(nth l j).set=S) (hS2:S<9223372036854775808) :
  ACalls Tryz.prog 154 [.ptr 0 0,.p (.list false (a.map eI)),.p (.int .i64 j),.p (.int .i64 k)] [UJ x lc l b] fun y H'=>y=(if rJ S a k=true then .tup [.p (.list false ((Vz S a j).map eI)),.p (.bool true)] else .tup [.p (.list true []),.p (.bool false)])/\H'= [UJ x lc l b]:=by
 refine Ze [10] Tryz.func154 rfl Zas ?_;simp (disch:=omega) only [Tryz.f154,UJ,go_sem,seval];rw [if_pos ⟨Za,Za⟩];refine Zd ?_;refine ZY [10] [0,2,3,10] (fun q:Nat=> [(11,.p (.int .i64 q))]) (fun q=> [UJ x lc l b,.elems 1 ((K1 S a j q).map eI)]) (fun q=>q<=a.length/\ ∀t,t<q->S.testBit t=true->nth a t<0/\k<=t) (fun q=>a.length-q) 0 ⟨Zb,fun t ht=>Za⟩ (Weak.mk ?_) ?_
 ·simp (disch:=omega) only [bW,UJ,go_sem,seval,↓reduceIte]
 ·rintro q ⟨hq,hok⟩;have hul:(K1 S a j q).length=a.length:=Ul;refine C6 ?_;rw [if_pos hul];refine Zd ?_;refine cD ?_ ?_<;>intro h1<;>simp (disch:=omega) only [Sh.out h1,go_sem,seval,↓reduceIte]
  ·have hq2:q<a.length:=Za
   rw [hS];refine (I9 S q hS2 Za).use (Zd ?_);have hn:=K2 (S:=S) (j:=(j:Int)) (k:=q) hq2;rw [if_neg Za] at hn;refine cD ?_ ?_<;>intro h2<;>simp (disch:=omega) only [Sh.out h2,go_sem,seval,↓reduceIte]
   ·have hq3:q<(K1 S a j q).length:=Za
    simp (disch:=first | omega | (simp only [ZA,ZH,Zz,Zx,Z7,Xx]<;>omega)) only [Vm hq3,hn,hq2,hul,eq_self,go_sem,seval,↓reduceIte];refine gF ?_ ?_<;>intro h3<;>simp (disch:=omega) only [Sh.out h3,go_sem,seval,↓reduceIte]
    ·have hno:rJ S a k=false:=by
      grind [Ke]
     exact ⟨.tup [.p (.list true []),.p (.bool false)],_,wk,by rw [hno];rfl,rfl⟩
    ·refine cD ?_ ?_<;>intro h4<;>simp (disch:=omega) only [Sh.out h4,go_sem,seval]
     ·have hno:rJ S a k=false:=by
       grind [Ke]
      exact ⟨.tup [.p (.list true []),.p (.bool false)],_,wk,by rw [hno];rfl,rfl⟩
     ·have ZK:((K1 S a j q).map eI).set q (.int .i64 j)=(K1 S a j (q+1)).map eI:=by rw [<- mG hq2 h2,UD];rfl
      simp (disch:=first | omega | (simp only [ZA,ZH,Zz,Zx,Z7,Xx]<;>omega)) only [ZK,hn,eq_self,go_sem,seval,↓reduceIte]
      exact ⟨q+1,⟨Za,fun t ht hb=>by
       grind⟩,Za,wk⟩
   ·have hu:K1 S a j (q+1)=K1 S a j q:=sZ h2
    exact ⟨q+1,⟨Za,fun t ht hb=>by
     grind⟩,Za,Weak.mk (by simp (disch:=omega) only [hu,go_sem,seval])⟩
  ·have hqa:q=a.length:=Za
   subst hqa;have hyes:rJ S a k=true:=Ke.2 hok;rw [hyes,if_pos rfl,mF];have hal:(Vz S a j).length=a.length:=Uk;refine Zo (Weak.fz (o:=1) (by rfl)) ?_;refine Zh [] _ _ _ _ ?_;simp (disch:=omega) only [Zs,Zk,ZL,ZC,hal,eq_self,go_sem,seval];exact ⟨.tup [.p (.list false ((Vz S a j).map eI)),.p (.bool true)],_,wk,rfl,rfl⟩
def Ku (l:List Col):List Int->List Int->Option Bool
 | x::a,y::b=>if x=y then Ku l a b else if x<0\/y<0 then some (decide (0<=x)) else if (nth l x.toNat).typ≠(nth l y.toNat).typ then some (decide ((nth l x.toNat).typ<(nth l y.toNat).typ)) else
   if (nth l x.toNat).set≠(nth l y.toNat).set then some (decide ((nth l x.toNat).set<(nth l y.toNat).set)) else Ku l a b
 | _,_=>none
def Ea : List Int->List Int->Bool
 | x::a,y::b=>if x=y then Ea a b else decide (x<y)
 | _,_=>false
def Fj (l:List Col) (a b:List Int):Bool:=match Ku l a b with
 | some r=>r
 | none=>Ea a b
theorem Mq {l:List Col} :Ku l [] []=none:=by simp [Ku]
theorem eW : Ea [] []=false:=by simp [Ea]
theorem RQ {α:Type} [Inhabited α] {l:List α} {k:Nat} (h:k<l.length):l.drop k=nth l k::l.drop (k+1):=by
 grind [Zj,VP]
theorem Jc {l:List Col} {a b:List Int} {r:Bool} (h:Ku l a b=some r):Fj l a b=r:=by rw [Fj,h]
theorem Hg {l:List Col} {a b:List Int} (h:Ku l a b=none):Fj l a b=Ea a b:=by rw [Fj,h]
def cO (c:Col):AM.Obj:= .cells ((Xk c).cells.map .p)
theorem OT (x:Inst) (lc:Bool) (l:List Col) (b:Chc) (a d:List Int) (dc:Bool) (ha:a.length<=1048576) (hd:d.length=a.length) (hr: ∀i,i<a.length-> -1<=nth a i/\nth a i<l.length) (hq: ∀i,i<a.length-> -1<=nth d i/\nth d i<l.length) (hl:l.length<=1048576) :
  ACalls Tryz.prog 152 [.ptr 0 0,.p (.list false (a.map eI)),.p (.list dc (d.map eI))] [UJ x lc l b] fun y H'=>y= .p (.bool (Fj l a d))/\H'= [UJ x lc l b]:=by
 obtain ⟨B,hB⟩: ∃B,B=Fj l a d:=⟨_,rfl⟩;rw [<- hB];refine Ze [] Tryz.func152 rfl Zaq ?_;simp (disch:=omega) only [Tryz.f152,UJ,go_sem,seval];refine Zl [0,1,2] (fun k:Nat=> [(7,.p (.int .i64 k))]) (fun _=> [UJ x lc l b]) (fun k=>k<=a.length/\Ku l (a.drop k) (d.drop k)=Ku l a d) (fun k=>a.length-k) 0 Zb (Weak.mk ?_) ?_
 ·simp (disch:=omega) only [UJ,go_sem,seval,↓reduceIte]
 ·rintro k ⟨hk,hb⟩;refine C6 ?_;refine cD ?_ ?_<;>intro h1<;>simp (disch:=omega) only [Sh.out h1,go_sem,seval,↓reduceIte]
  ·have hk2:k<a.length:=Za
   have hk3:k<d.length:=Za
   have hrk:=hr k hk2;have hqk:=hq k hk2;rw [RQ hk2,RQ hk3,Ku] at hb;refine Xd (Zd ?_);refine cD ?_ ?_<;>intro h2<;>simp (disch:=omega) only [Sh.out h2,go_sem,seval,↓reduceIte]
   ·rw [if_pos h2] at hb;exact ⟨k+1,⟨Za,hb⟩,Za,wk⟩
   ·rw [if_neg h2] at hb;refine gF ?_ ?_<;>intro h3<;>simp (disch:=omega) only [Sh.out h3,go_sem,seval,↓reduceIte]
    ·rw [if_pos (.inl h3)] at hb;have e:=Jc hb.symm;exact ⟨.p (.bool B),_,Weak.mk (by simp (disch:=omega) only [hB,e,go_sem,seval]),rfl,rfl⟩
    ·refine cD ?_ ?_<;>intro h4<;>simp (disch:=omega) only [Sh.out h4,go_sem,seval,↓reduceIte]
     ·rw [if_pos (.inr h4)] at hb;have e:=Jc hb.symm;exact ⟨.p (.bool B),_,Weak.mk (by simp (disch:=omega) only [hB,e,go_sem,seval]),rfl,rfl⟩
     ·rw [if_neg Za] at hb;refine XW [10] 11 mixed Zg Zg Zg Zb (Zd ?_);refine Xm 10 _ _ Zg (by refine Zd ?_;exact ⟨rfl,rfl⟩) (Wi ?_);refine Zd ?_;refine XW [10] 11 mixed Zg Zg Zg Zb (Zd ?_);refine Xm 10 _ _ Zg (by refine Zd ?_;exact ⟨rfl,rfl⟩) (Wi ?_);refine Zd ?_;refine cD ?_ ?_<;>intro h5<;>simp (disch:=omega) only [Sh.out h5,go_sem,seval,↓reduceIte]
      ·rw [if_pos h5] at hb;have e:=Jc hb.symm;exact ⟨.p (.bool B),_,Weak.mk (by simp (disch:=omega) only [hB,e,go_sem,seval]),rfl,rfl⟩
      ·rw [if_neg h5] at hb;refine cD ?_ ?_<;>intro h6<;>simp (disch:=omega) only [Sh.out h6,go_sem,seval,↓reduceIte]
       ·rw [if_pos h6] at hb;have e:=Jc hb.symm;exact ⟨.p (.bool B),_,Weak.mk (by simp (disch:=omega) only [hB,e,go_sem,seval]),rfl,rfl⟩
       ·rw [if_neg h6] at hb;exact ⟨k+1,⟨Za,hb⟩,Za,wk⟩
  ·have hka:k=a.length:=Za
   subst hka;rw [Ux,<- hd,Ux,Mq] at hb;have e:=Hg hb.symm;refine Zl [1,2] (fun k:Nat=> [(10,.p (.int .i64 k))]) (fun _=> [UJ x lc l b]) (fun k=>k<=a.length/\Ea (a.drop k) (d.drop k)=Ea a d) (fun k=>a.length-k) 0 Zb (Weak.mk ?_) ?_
   ·simp (disch:=omega) only [UJ,go_sem,seval]
   ·rintro k ⟨hk,hb⟩;refine C6 ?_;refine cD ?_ ?_<;>intro h2<;>simp (disch:=omega) only [Sh.out h2,go_sem,seval,↓reduceIte]
    ·have hk2:k<a.length:=Za
     have hk3:k<d.length:=Za
     rw [RQ hk2,RQ hk3,Ea] at hb;refine Xd (Zd ?_);refine ZX ?_ ?_<;>intro h3
     ·rw [if_neg h3] at hb;refine ZB 9 mixed Zg Zg (Zd ?_);exact ⟨.p (.bool B),_,Weak.mk (by simp (disch:=omega) only [hB,e,<- hb,go_sem,seval]),rfl,rfl⟩
     ·rw [if_pos (Z2.1 h3)] at hb;exact ⟨k+1,⟨Za,hb⟩,Za,wk⟩
    ·have hka:k=a.length:=Za
     subst hka;rw [Ux,<- hd,Ux,eW] at hb;exact ⟨.p (.bool B),_,Weak.mk (by simp (disch:=omega) only [hB,e,<- hb,go_sem,seval]),rfl,rfl⟩
def YI (l:List Col) (b:Chc) (q:List Int×Int):Chc:=if b.found=false\/q.2<b.price\/(q.2=b.price/\Fj l q.1 b.places=true) then ⟨true,q.1,q.2⟩ else b
def RngA (x:Inst) (l:List Col) (a:List Int):Prop:=a.length=x.orders.length/\ ∀i,i<x.orders.length-> -1<=nth a i/\nth a i<l.length
def ChB (x:Inst) (l:List Col) (b:Chc):Prop:=b.found=true->RngA x l b.places
theorem Gs {x:Inst} {l:List Col} {a:List Int} {S j:Nat} (h:RngA x l a) (hj:j<l.length):RngA x l (Vz S a j) :=
 ⟨by rw [Uk];exact h.1,fun i hi=>by
  rw [Xt (by rw [h.1];exact hi)]
  split
  ·omega
  ·exact h.2 i hi⟩
theorem AC {x:Inst} {l:List Col} : ∀(d:Nat) {a:List Int} {p:Int},RngA x l a-> ∀q∈Jo x l d a p,RngA x l q.1
 | 0,a,p,h,q,hq=>by
  simp_all [Jo]
 | d+1,a,p,h,q,hq=>by
  rw [Jo] at hq
  split at hq
  ·exact AC d h q hq
  ·rw [Xe,XK] at hq;rcases hq with ⟨j,hj,hq⟩ | hq
   ·split at hq
    ·exact AC d (Gs h (ZP.1 hj)) q hq
    ·simp at hq
   ·split at hq
    ·exact AC d h q hq
    ·simp at hq
theorem L4 {x:Inst} {l:List Col} : ∀ {L:List (List Int×Int)} {b:Chc},ChB x l b->(∀q∈L,RngA x l q.1)->ChB x l (L.foldl (YI l) b)
 | [],_,h,_=>h
 | q::L,b,h,hL=>by
  rw [XG];refine L4 (L:=L) ?_ fun q hq=>hL q (Ye _ hq);unfold YI
  split
  ·exact fun _=>hL q Zb
  ·exact h
structure ColsR (x:Inst) (l:List Col):Prop where
 n4:x.orders.length<=4
 t6:x.types.length<=6
 len:l.length<=1048576
 col: ∀c∈l,(0<=c.typ/\c.typ<x.types.length)/\(0<=c.price/\c.price<=18014398509481984)/\ ∃S:Nat,c.set=S/\S<16
 sk: ∀k,k<x.orders.length->(nth x.orders k).off=false->0<=(nth x.orders k).penalty->0<=skR x k/\skR x k<=18014398509481984
 us: ∀i,scoR 1152921504606846976 (unsF x i).1
theorem qD {P:Program} {f:FuncId} {az:List V} {z:PV} {O:AM.Obj} {L:List AM.Obj} {B:V->Prop} {t} (h:ACalls P f az [O] fun y H'=>y= .p z/\H'= [O]) (k:B (.p z)) (ha:Xj 1 az=true:=by rfl) (hf:refH 1 [O]=true:=by rfl) :
  TQ (fun y=>ACalls P f az (O::L) (Zu (Zu (fun x H'=>x=y/\H'=O::L) ⟨⟩) ⟨⟩)) (Zu B t) :=
 ⟨.p z,h.useP (L:=L) rfl ⟨rfl,rfl⟩ ha hf,k⟩
theorem ZkC {P:Program} {f:FuncId} {az:List V} {v:V} {O:AM.Obj} {L:List AM.Obj} {K:V->List AM.Obj->Prop} (h:ACalls P f az [O] fun y H'=>y=v/\H'= [O]) (k:K v (O::L)) (ha:Xj 1 az=true:=by rfl) (hf:refH 1 [O]=true:=by rfl):ACalls P f az (O::L) K :=
 h.useP (L:=L) rfl k ha hf
def nU (x:Inst) (lc:Bool) (l:List Col) (d:Nat):Prop:= ∀(a:List Int) (p:Int) (b:Chc),d<=x.orders.length->RngA x l a->0<=p->p+(d:Int)*18014398509481984<=90071992547409920->ChB x l b ->
  ACalls Tryz.prog 116 [.ptr 0 0,.p (.list false (a.map eI)),.p (.int .i64 ((x.orders.length-d:Nat):Int)),.p (.int .i64 p)] [UJ x lc l b] fun y H'=>y= .tup []/\H'= [UJ x lc l ((Jo x l d a p).foldl (YI l) b)]
theorem tP (x:Inst) (lc:Bool) (l:List Col) (hC:ColsR x l):nU x lc l 0:=by
 intro a p b hd ha hp0 hp1 hb;have h4:=hC.n4;have hl:=hC.len;obtain ⟨R,hR⟩: ∃R,R=UJ x lc l ((Jo x l 0 a p).foldl (YI l) b):=⟨_,rfl⟩;rw [<- hR,Nat.sub_zero];simp only [Jo,XG,Uz] at hR;refine Ze [] Tryz.func116 rfl iU ?_;obtain ⟨f,bp,bc⟩:=b
 cases f with
 | false =>
  rw [YI,if_pos (.inl rfl)] at hR;simp (disch:=omega) only [Tryz.f116,UJ,Wx,go_sem,seval];exact ⟨_,[R],Weak.mk (by simp (disch:=omega) only [hR,UJ,Yn,go_sem,seval]),rfl,rfl⟩
 | true =>
  simp (disch:=omega) only [Tryz.f116,UJ,Yn,go_sem,seval];refine gF ?_ ?_<;>intro h1<;>simp (disch:=omega) only [Sh.out h1,go_sem,seval,↓reduceIte]
  ·rw [YI,if_pos (.inr (.inl h1))] at hR;exact ⟨_,[R],Weak.mk (by simp (disch:=omega) only [hR,UJ,Yn,go_sem,seval]),rfl,rfl⟩
  ·refine gT ?_ ?_<;>intro h2<;>simp (disch:=omega) only [Sh.out h2,go_sem,seval,↓reduceIte]
   ·have hq:=hb rfl;refine ACalls.mono (OT x lc l ⟨true,bp,bc⟩ a bp (!true) (by rw [ha.1];omega) (by rw [ha.1];exact hq.1) (fun i hi=>ha.2 i (by rw [<- ha.1];exact hi)) (fun i hi=>hq.2 i (by rw [<- ha.1];exact hi)) hl) ?_;rintro y H' ⟨rfl,rfl⟩;simp (disch:=omega) only [UJ,Yn,go_sem,seval];refine cD ?_ ?_<;>intro h3<;>simp (disch:=omega) only [Sh.out h3,go_sem,seval,↓reduceIte]
    ·rw [YI,if_pos (.inr (.inr ⟨h2,h3⟩))] at hR;exact ⟨_,[R],Weak.mk (by simp (disch:=omega) only [hR,UJ,Yn,go_sem,seval]),rfl,rfl⟩
    ·rw [YI,if_neg (fun h=>h.elim (fun h=>by cases h) fun h=>h.elim (fun h=>h1 h) fun h=>by grind)] at hR;exact ⟨_,[R],Weak.mk (by simp (disch:=omega) only [hR,UJ,Yn,go_sem,seval]),rfl,rfl⟩
   ·rw [YI,if_neg (fun h=>h.elim (fun h=>by cases h) fun h=>h.elim (fun h=>h1 h) fun h=>h2 h.1)] at hR;exact ⟨_,[R],Weak.mk (by simp (disch:=omega) only [hR,UJ,Yn,go_sem,seval]),rfl,rfl⟩
theorem tQ (x:Inst) (lc:Bool) (l:List Col) (hC:ColsR x l) (d:Nat) (ih:nU x lc l d):nU x lc l (d+1):=by
 intro a p b hd ha hp0 hp1 hb;have h4:=hC.n4;have h6:=hC.t6;have hl:=hC.len;obtain ⟨k,hk⟩: ∃k,k=x.orders.length-(d+1):=⟨_,rfl⟩
 have hk1:k<x.orders.length:=Za
 have hkd:x.orders.length-d=k+1:=Za
 obtain ⟨R,hR⟩: ∃R,R=UJ x lc l ((Jo x l (d+1) a p).foldl (YI l) b):=⟨_,rfl⟩;rw [<- hR,<- hk];rw [Jo,<- hk] at hR;have hla:a.length=x.orders.length:=ha.1
 have hka:k<a.length:=Za
 refine Ze [] Tryz.func116 rfl iU ?_;simp (disch:=omega) only [Tryz.f116,UJ,go_sem,seval]
 have nxt: ∀(a':List Int) (p':Int) (b':Chc) (L:List AM.Obj) (K:V->List AM.Obj->Prop),RngA x l a'->0<=p'->p'+(d:Int)*18014398509481984<=90071992547409920->ChB x l b'->K (.tup []) (UJ x lc l ((Jo x l d a' p').foldl (YI l) b')::L) ->
   ACalls Tryz.prog 116 [.ptr 0 0,.p (.list false (a'.map eI)),.p (.int .i64 ((k:Int)+1)),.p (.int .i64 p')] (UJ x lc l b'::L) K:=fun a' p' b' L K h1 h2 h3 h5 hK=>by
  have hi:=ih a' p' b' Za h1 h2 h3 h5;rw [hkd] at hi;refine ((hi.mono fun y H' hq=>(⟨hq,by grind⟩:_/\H'.length= [UJ x lc l b'].length)).front (by rfl) (by rfl) L).mono ?_
  grind
 refine cD ?_ ?_<;>intro h0<;>simp (disch:=omega) only [Sh.out h0,go_sem,seval,↓reduceIte]
 ·omega
 ·cases ho:(nth x.orders k).off with
  | true =>
   rw [if_pos (.inl ho)] at hR;refine Zd ?_;refine nxt a p b [_] _ ha hp0 Za hb (C6 ?_);exact ⟨_,[R],Weak.mk (by simp (disch:=omega) only [hR,UJ,go_sem,seval]),rfl,rfl⟩
  | false =>
   refine Zd ?_;refine cD ?_ ?_<;>intro h1<;>simp (disch:=omega) only [Sh.out h1,go_sem,seval]
   ·rw [if_pos (.inr h1)] at hR;refine nxt a p b [_] _ ha hp0 Za hb (C6 ?_);exact ⟨_,[R],Weak.mk (by simp (disch:=omega) only [hR,UJ,go_sem,seval]),rfl,rfl⟩
   ·rw [if_neg (by grind)] at hR;obtain ⟨G,hG⟩: ∃G:Nat->List (List Int×Int),G=fun j=>if Bk x l a j k=true then Jo x l d (Vz (nth l j).set.toNat a j) (p+(nth l j).price) else []:=⟨_,rfl⟩;rw [<- hG,List.foldl_append] at hR
    have hGr: ∀q:Nat,q<=l.length-> ∀e∈(List.range q).flatMap G,RngA x l e.1:=fun q hq e he=>by
     obtain ⟨j,hj,he⟩:=XK.1 he;rw [hG] at he;simp only at he
     split at he
     ·exact AC d (Gs ha (by grind)) e he
     ·simp at he
    have hGs: ∀q:Nat,((List.range (q+1)).flatMap G).foldl (YI l) b=(G q).foldl (YI l) (((List.range q).flatMap G).foldl (YI l) b):=fun q=>by
     grind [X8]
    obtain ⟨B,hB⟩: ∃B:Nat->Chc,B=fun q=>((List.range q).flatMap G).foldl (YI l) b:=⟨_,rfl⟩
    have hBs: ∀q,B (q+1)=(G q).foldl (YI l) (B q):=fun q=>by grind
    have hB0:B 0=b:=by rw [hB];simp
    have hBc: ∀q,q<=l.length->ChB x l (B q):=fun q hq=>by rw [hB];exact L4 hb (hGr q hq)
    have hRB:R=UJ x lc l ((if 0<=(nth x.orders k).penalty then Jo x l d a (p+skR x k) else []).foldl (YI l) (B l.length)):=by rw [hR,hB]
    clear hR hGs hGr hB;refine Zl [0,1,2,3,9] (fun q:Nat=> [(10,.p (.int .i64 q))]) (fun q=> [UJ x lc l (B q),YD (nth x.orders k)]) (fun q=>q<=l.length) (fun q=>l.length-q) 0 Zb (Weak.mk ?_) ?_
    ·simp (disch:=omega) only [UJ,YD,hB0,ho,go_sem,seval,↓reduceIte]
    ·intro q hq;simp (disch:=omega) only [UJ,YD,ho,go_sem,seval];refine cD ?_ ?_<;>intro h2<;>simp (disch:=omega) only [Sh.out h2,go_sem,seval,↓reduceIte]
     ·have hq2:q<l.length:=Za
      obtain ⟨⟨t0,t1⟩,⟨c0,c1⟩,S,hS,hS2⟩:=hC.col _ (Zt hq2);refine Xd (Zd ?_)
      have hST:(nth l q).set.toNat=S:=Za
      have hGq:Bk x l a q k=(S.testBit k&&(decide ((usdI l a (nth l q).typ a.length:Int)<(nth x.types (nth l q).typ.toNat).count)&&rJ S a k)):=by rw [Bk,hST]
      have hnx: ∀c:Bool,Bk x l a q k=c->B (q+1)=(if c=true then (Jo x l d (Vz S a q) (p+(nth l q).price)).foldl (YI l) (B q) else B q):=fun c hc=>by
       rw [hBs,hG];simp only [hST,hc]
       cases c<;>simp
      rw [hS];refine Zn (I9 S k Za Za) (Zd ?_);refine gT ?_ ?_<;>intro h3<;>simp (disch:=omega) only [Sh.out h3,go_sem,seval,↓reduceIte]
      ·refine qD (mX x lc l (B q) a (nth l q).typ Za (fun i hi=>ha.2 i Za) hl) (Zd ?_);refine cD ?_ ?_<;>intro h4<;>simp (disch:=omega) only [Sh.out h4,go_sem,seval,↓reduceIte]
       ·have hw:=nC x lc l (B q) a q k ⟨Za,Za⟩ hl hq2 S hS Za
        cases hok:rJ S a k with
        | true =>
         rw [hok,if_pos rfl] at hw;refine ZkC hw (Zd ?_);have e:=hnx true (by grind);rw [if_pos rfl] at e;refine nxt (Vz S a q) (p+(nth l q).price) (B q) [_] _ (Gs ha hq2) Za Za (hBc q Za) (C6 ?_);exact ⟨q+1,Za,Za,Weak.mk (by simp (disch:=omega) only [e,ho,go_sem,seval])⟩
        | false =>
         rw [hok,if_neg Zb] at hw;refine ZkC hw (Zd ?_);have e:=hnx false (by grind);rw [if_neg Zb] at e;exact ⟨q+1,Za,Za,Weak.mk (by simp (disch:=omega) only [e,ho,go_sem,seval])⟩
       ·have e:=hnx false (by grind);rw [if_neg Zb] at e;exact ⟨q+1,Za,Za,Weak.mk (by simp (disch:=omega) only [e,ho,go_sem,seval])⟩
      ·have e:=hnx false (by grind);rw [if_neg Zb] at e;exact ⟨q+1,Za,Za,Weak.mk (by simp (disch:=omega) only [e,ho,go_sem,seval])⟩
     ·have hql:q=l.length:=Za
      subst hql;refine cD ?_ ?_<;>intro h3<;>simp (disch:=omega) only [Sh.out h3,go_sem,seval,↓reduceIte]
      ·rw [if_pos h3] at hRB;have hsk:=hC.sk k hk1 ho h3;refine YJ (L3 x k Za) (Zd ?_);refine YJ (GG (unsF x k).1 (hC.us k)) (Zd ?_);have e1:(Y1 (unsF x k).1).1=skR x k:=rfl;rw [e1];refine Zd ?_;refine nxt a (p+skR x k) (B l.length) [_,_] _ ha Za Za (hBc _ (ZF _)) (C6 ?_);exact ⟨_,[R],Weak.mk (by simp (disch:=omega) only [hRB,UJ,go_sem,seval]),rfl,rfl⟩
      ·rw [if_neg h3] at hRB;exact ⟨_,[R],Weak.mk (by simp (disch:=omega) only [hRB,UJ,Uz,go_sem,seval]),rfl,rfl⟩
theorem SY (x:Inst) (lc:Bool) (l:List Col) (hC:ColsR x l): ∀d,nU x lc l d
 | 0=>tP x lc l hC
 | d+1=>tQ x lc l hC d (SY x lc l hC d)
def Fv (s:Sr):PV:= .agg [.int .i64 s.rdy,.int .i64 s.drv]
@[go_sem] theorem Zm2 (s:Sr):Fv s= .agg [.int .i64 s.rdy,.int .i64 s.drv]:=Zm rfl rfl
theorem ZjX {a b:Sr} :a=b↔a.rdy=b.rdy/\a.drv=b.drv:=by cases a;cases b;simp
theorem qQ (l:List Sr) (c:Bool) (s:Sr) (hl:l.length<=1048576):ACalls Tryz.prog 223 [.p (.list c (l.map Fv)),.p (Fv s)] [] fun y H'=> ∃i:Int,(0<=i↔s∈l)/\y= .p (.int .i64 i)/\H'= []:=by
 refine Ze [] Tryz.func223 rfl Zbd ?_;simp (disch:=omega) only [Tryz.f223,go_sem,seval];refine Zl [0,3,7] (fun k:Nat=> [(8,.p (.int .i64 k))]) (fun _=> [.cells [.p (.int .i64 s.rdy),.p (.int .i64 s.drv)]]) (fun k=>k<=l.length/\ ∀j,j<k->nth l j≠s) (fun k=>l.length-k) 0 ⟨Zb,fun j hj=>Za⟩ (Weak.mk ?_) ?_
 ·simp (disch:=omega) only [go_sem,seval,↓reduceIte]
 ·rintro k ⟨hk,hno⟩;refine Zd ?_;refine cD ?_ ?_<;>intro h1<;>simp (disch:=omega) only [Sh.out h1,go_sem,seval,↓reduceIte]
  ·have hk2:k<l.length:=Za
   refine Xd (Zd ?_);refine cD ?_ ?_<;>intro h2<;>simp (disch:=omega) only [Sh.out h2,go_sem,seval,↓reduceIte]
   ·exact ⟨.p (.int .i64 k),[],wk,k,⟨fun _=>(ZjX.2 h2) ▸ ZZ hk2,fun _=>Za⟩,rfl,rfl⟩
   ·exact ⟨k+1,⟨Za,fun j hj=>by
     grind⟩,Za,wk⟩
  ·exact ⟨.p (.int .i64 (-1)),[],wk,-1,⟨fun h=>Za,fun h=>by
    obtain ⟨j,hj,rfl⟩:=ZO.1 h
    grind [Zj]⟩,rfl,rfl⟩
theorem R4 (l:List Sr) (c:Bool) (s:Sr) (hl:l.length<=1048576):PC 200 [.p (.list c (l.map Fv)),.p (Fv s)] (.bool (decide (s∈l))):=by
 refine Ze [] Tryz.func200 rfl ZaU ?_;simp (disch:=omega) only [Tryz.f200,go_sem,seval];refine ((qQ l c s hl).behind (by rfl) _).mono ?_;rintro y H' ⟨y1,H1,⟨i,hi,rfl,rfl⟩,rfl,rfl⟩
 have e:decide (0<=i)=decide (s∈l):=by grind
 simp (disch:=omega) only [shV,Zk,e,go_sem,seval];exact ⟨.p (.bool (decide (s∈l))),[],wk,rfl,rfl⟩
theorem T5 {l:List Sr} {s:Sr} :(UI l s).length<=l.length+1:=by grind [UI]
theorem Pm (l:List Sr) (s:Sr) (hl:l.length<=1048576):ACalls Tryz.prog 171 [.sl 0 0 l.length l.length,.p (Fv s)] [.elems 2 (l.map Fv)] fun y H'=>y= .sl 0 0 (UI l s).length (UI l s).length/\H'= [.elems 2 ((UI l s).map Fv)]:=by
 obtain ⟨M,hM⟩: ∃M,M=UI l s:=⟨_,rfl⟩;rw [<- hM];refine Ze [] Tryz.func171 rfl iY ?_;simp (disch:=omega) only [Tryz.f171,go_sem,seval];refine ACalls.view (R4 l false s hl) (by simp [vws,vw,oat,LX]<;>rfl) (by rfl) ?_;refine Zd ?_;refine cD ?_ ?_<;>intro h<;>simp (disch:=omega) only [Sh.out h,go_sem,seval,↓reduceIte]
 ·have e:M=l:=by simp_all [UI]
  exact ⟨.sl 0 0 M.length M.length,[.elems 2 (M.map Fv)],Weak.mk (by simp (disch:=omega) only [e,go_sem,seval]),rfl,rfl⟩
 ·have e:M=l++ [s]:=by simp_all [UI]
  exact ⟨.sl 0 0 M.length M.length,[.elems 2 (M.map Fv)],Weak.mk (by simp (disch:=omega) only [e,Xn,Zs,Zk,Zz,ZA,ZH,Xi,go_sem,seval]),rfl,rfl⟩
theorem qU (s:Sr):ACalls Tryz.prog 171 [.p (.list true []),.p (Fv s)] [] fun y H'=>y= .sl 0 0 1 1/\H'= [.elems 2 [Fv s]]:=by
 refine UK (fn:=Tryz.f171) (by rfl) Tryz.func171 rfl iY ?_;simp (disch:=omega) only [Tryz.f171,go_sem,seval];refine (R4 [] true s Zb).use ?_;simp (disch:=omega) only [Wv,J0,go_sem,seval];exact ⟨2,rfl,rfl⟩
def Ys (x:Inst) (k:Int) (S tot:Nat) (b:Col×Bool):AM.Obj:= .cells [.p (.list x.net.places_c (x.net.places.map eS)),.p (.list x.net.arcs_c (x.net.arcs.map VE)),.p (.list x.types_c (x.types.map X0)),.p (.list x.orders_c (x.orders.map eOrd)),.p (.list x.apart_c (x.apart.map eP)),.p (.list x.before_c (x.before.map eP)),.p (.int .i64 k),.p (.int .i64 S),.p (.int .i64 tot),.p (.int .i64 b.1.typ),.p (.int .i64 b.1.set),.p (.int .i64 b.1.price),.p (.int .i64 b.1.route.typ),.p (.int .i64 b.1.route.start),.p (.list b.1.route.rests_c (b.1.route.rests.map eB)),.p (.list b.1.route.visits_c (b.1.route.visits.map Z5)),.p (.bool b.2)]
theorem Bw {t:Typ} {l:List Sr} {d v:Int} :(Vy t l d v).length<=l.length+2:=by
 grind [Vy,UI]
theorem sO (x:Inst) (k:Int) (S tot:Nat) (b:Col×Bool) (stop:Stp) (l:List Sr) (d v:Int) (hk:0<=k/\k<x.types.length) (ht:x.types.length<=1048576) (hl:l.length<=1000000) (hd:0<=d/\d<=1048576) (hr:0<=(nth x.types k.toNat).rest/\(nth x.types k.toNat).rest<=1048576) :
  ACalls Tryz.prog 134 [.ptr 0 0,.sl 3 0 l.length l.length,.p (.int .i64 d),.p (.int .i64 v)] [Ys x k S tot b,.cells ((AY stop).map .p),.cells ((KC (nth x.types k.toNat)).map .p),.elems 2 (l.map Fv)] fun y H'=>y= .sl 3 0 (Vy (nth x.types k.toNat) l d v).length (Vy (nth x.types k.toNat) l d v).length/\H'= [Ys x k S tot b,.cells ((AY stop).map .p),.cells ((KC (nth x.types k.toNat)).map .p),.elems 2 ((Vy (nth x.types k.toNat) l d v).map Fv)]:=by
 obtain ⟨L1,h1⟩: ∃L1,L1=UI l ⟨d,v⟩:=⟨_,rfl⟩;obtain ⟨L2,h2⟩: ∃L2,L2=Vy (nth x.types k.toNat) l d v:=⟨_,rfl⟩
 have h12:UI L1 ⟨d+(nth x.types k.toNat).rest,0⟩=L2:=by rw [h1,h2];rfl
 have hl1:L1.length<=l.length+1:=by rw [h1];exact T5
 rw [<- h2];have c1:=Pm l ⟨d,v⟩ Za;have c2:=Pm L1 ⟨d+(nth x.types k.toNat).rest,0⟩ Za;rw [<- h1] at c1;rw [h12] at c2;obtain ⟨O,hO⟩: ∃O,O=Ys x k S tot b:=⟨_,rfl⟩;refine Ze [] Tryz.func134 rfl iW ?_;simp (disch:=omega) only [Tryz.f134,AY,KC,Zs,Zk,go_sem,seval];refine ACalls.mono (c1.back [Ys x k S tot b,.cells ((AY stop).map .p),.cells ((KC (nth x.types k.toNat)).map .p)] (by rfl)) ?_;rintro y H' ⟨y1,H1,⟨rfl,rfl⟩,rfl,rfl⟩;simp (disch:=omega) only [shV,shO,Ys,AY,KC,Zs,Zk,ZM,ZE,go_sem,seval]
 refine ZB 16 mixed Zg Zg (Zd ?_);refine ACalls.mono (c2.back [Ys x k S tot b,.cells ((AY stop).map .p),.cells ((KC (nth x.types k.toNat)).map .p)] (by rfl)) ?_;rintro y H' ⟨y1,H1,⟨rfl,rfl⟩,rfl,rfl⟩;simp (disch:=omega) only [shV,shO,Ys,AY,KC,Zs,Zk,ZM,ZE,go_sem,seval];exact ⟨.sl 3 0 L2.length L2.length,[Ys x k S tot b,.cells ((AY stop).map .p),.cells ((KC (nth x.types k.toNat)).map .p),.elems 2 (L2.map Fv)],Weak.mk (by simp (disch:=omega) only [Ys,AY,KC,Zs,Zk,go_sem,seval]),rfl,rfl⟩
def GZ (s:Stp) (a:Int):Int×Int:=if s.cls<max a s.opn then (0,14) else (max a s.opn+s.serv,0)
theorem gA (s:Stp) (a:Int) (ha: -1099511627776<=a/\a<=1099511627776) (hs:0<=s.serv/\s.serv<=1048576) (ho: -1099511627776<=s.opn/\s.opn<=1099511627776):PT 199 [.p (Fw s),.p (.int .i64 a)] [.p (.int .i64 (GZ s a).1),.p (.int .i64 (GZ s a).2)]:=by
 refine Ze [] Tryz.func199 rfl ZaT ?_;simp (disch:=omega) only [Tryz.f199,go_sem,seval];refine YJ (RC s a) ?_
 have hm: -1099511627776<=max a s.opn/\max a s.opn<=1099511627776:=Za
 by_cases h:s.cls<max a s.opn
 ·have e:Fk s a=(0,14):=by simp_all [Fk]
  have e2:GZ s a=(0,14):=by rw [GZ,if_pos h]
  rw [e,e2];refine Zd ?_;exact we
 ·have e:Fk s a=(max a s.opn,0):=by simp_all [Fk]
  have e2:GZ s a=(max a s.opn+s.serv,0):=by rw [GZ,if_neg h]
  rw [e,e2];refine Zd ?_;exact we
def GO (m:Int) (st:List Sr):Prop:= ∀a∈st,(0<=a.rdy/\a.rdy<=16384)/\(-m<=a.drv/\a.drv<=4096)
theorem tY (x:Inst) (k:Int) (S tot:Nat) (b:Col×Bool) (p:Int) (st:List Sr) (c:Bool) (stop:Stp) (m:Int) (hm:0<=m/\m<=1048576) (hk:0<=k/\k<x.types.length) (ht:x.types.length<=1048576) (hT:TrpOk x (nth x.types k.toNat) [stop]) (hl:st.length<=1000) (hst:GO m st) :
  ACalls Tryz.prog 169 [.ptr 0 0,.p (.int .i64 p),.p (.list c (st.map Fv)),.p (Fw stop)] [Ys x k S tot b] fun y H'=>y= .p (.list false ((DT x (nth x.types k.toNat) p st stop).map Fv))/\H'= [Ys x k S tot b]:=by
 obtain ⟨W,hV⟩: ∃W:Nat->List Sr,W=fun q=>(st.take q).foldl (JA x (nth x.types k.toNat) p stop) []:=⟨_,rfl⟩
 have hV0:W 0= []:=by rw [hV];rfl
 have hVn:DT x (nth x.types k.toNat) p st stop=W st.length:=by grind [DT]
 have hVs: ∀q,q<st.length->W (q+1)=JA x (nth x.types k.toNat) p stop (W q) (nth st q):=fun q hq=>by
  grind [XZ,Zj]
 have hVl: ∀q,q<=st.length->(W q).length<=2*q:=fun q=>by
  induction q with
  | zero=>grind
  | succ q ih =>
   intro hq;rw [hVs q Za];have:=ih Za;unfold JA
   split
   ·omega
   ·split
    ·omega
    grind [Bw]
 rw [hVn];clear hV hVn;refine Ze [12] Tryz.func169 rfl ZaB ?_;simp (disch:=omega) only [Tryz.f169,Ys,go_sem,seval];refine XW [11] 12 mixed Zg Zg Zg Zb (Zd ?_);refine Xm 11 _ _ Zg (by refine Zd ?_;exact ⟨rfl,rfl⟩) (Wi ?_);refine Zd ?_;refine ZY [12] [0,1,7,9,28,29] (fun q:Nat=> [(10,.sl 3 0 (W q).length (W q).length),(30,.p (.int .i64 q))]) (fun q=> [Ys x k S tot b,.cells ((AY stop).map .p),.cells ((KC (nth x.types k.toNat)).map .p),.elems 2 ((W q).map Fv)]) (fun q=>q<=st.length) (fun q=>st.length-q) 0 Zb (Weak.ofNil 10 2 (by simp (disch:=omega) only [go_sem,seval]) Zb (Weak.mk ?_)) ?_
 ·simp (disch:=omega) only [hV0,Ys,AY,KC,Zs,Zk,ZH,go_sem,seval,↓reduceIte]
 ·intro q hq;have hql:=hVl q hq;simp (disch:=omega) only [Ys,AY,KC,Zs,Zk,go_sem,seval];refine cD ?_ ?_<;>intro h1<;>simp (disch:=omega) only [Sh.out h1,go_sem,seval,↓reduceIte]
  ·have hq2:q<st.length:=Za
   obtain ⟨a1,a2⟩:=hst _ (ZZ hq2);have hsn:=hVs q hq2;have hg:=(I6 (n:=x.net) (pr:=(nth x.types k.toNat).prof) (f:=p) (t:=stop.place) (τ:=(nth st q).rdy) hT.net hT.mil Za).1;refine Xd (Zd ?_);refine Fy (vS x.net (nth x.types k.toNat).prof p stop.place (nth st q).rdy hT.net Za) (Zd ?_);refine gF ?_ ?_<;>intro h2<;>simp (disch:=omega) only [Sh.out h2,go_sem,seval,↓reduceIte]
   ·have e:W (q+1)=W q:=by simp_all [JA]
    exact ⟨q+1,Za,Za,Weak.mk (by simp (disch:=omega) only [e,go_sem,seval])⟩
   ·refine cD ?_ ?_<;>intro h3<;>simp (disch:=omega) only [Sh.out h3,go_sem,seval,↓reduceIte]
    ·have e:W (q+1)=W q:=by simp_all [JA]
     exact ⟨q+1,Za,Za,Weak.mk (by simp (disch:=omega) only [e,go_sem,seval])⟩
    ·obtain ⟨z1,z2,z3,z4,z5⟩:=hT.stp stop Zb;obtain ⟨r1,r2⟩:=hT.rst;refine YJ (gA stop (WW x.net (nth x.types k.toNat).prof p stop.place (nth st q).rdy).1 Za Za Za) ?_
     by_cases hc:stop.cls<max (WW x.net (nth x.types k.toNat).prof p stop.place (nth st q).rdy).1 stop.opn
     ·have e2:GZ stop (WW x.net (nth x.types k.toNat).prof p stop.place (nth st q).rdy).1=(0,14):=by rw [GZ,if_pos hc]
      rw [e2];refine Zd ?_
      have e:W (q+1)=W q:=by simp_all [JA]
      exact ⟨q+1,Za,Za,Weak.mk (by simp (disch:=omega) only [e,go_sem,seval])⟩
     ·have e2:GZ stop (WW x.net (nth x.types k.toNat).prof p stop.place (nth st q).rdy).1=(max (WW x.net (nth x.types k.toNat).prof p stop.place (nth st q).rdy).1 stop.opn+stop.serv,0):=by rw [GZ,if_neg hc]
      rw [e2];refine Zd ?_
      have e:W (q+1)=Vy (nth x.types k.toNat) (W q) (max (WW x.net (nth x.types k.toNat).prof p stop.place (nth st q).rdy).1 stop.opn+stop.serv) ((nth st q).drv+(WW x.net (nth x.types k.toNat).prof p stop.place (nth st q).rdy).1-(nth st q).rdy):=by simp_all [JA,if_neg]
      have cr:=sO x k S tot b stop (W q) (max (WW x.net (nth x.types k.toNat).prof p stop.place (nth st q).rdy).1 stop.opn+stop.serv) ((nth st q).drv+(WW x.net (nth x.types k.toNat).prof p stop.place (nth st q).rdy).1-(nth st q).rdy) hk ht Za Za Za;rw [<- e] at cr;refine cr.useP (L:= [_]) (by rfl) ?_ (by rfl) (by rfl);simp (disch:=omega) only [Ys,AY,KC,Zs,Zk,ZM,ZE,go_sem,seval];exact ⟨q+1,Za,Za,wk⟩
  ·have hqs:q=st.length:=Za
   subst hqs;refine Zo (Weak.fz (o:=3) (by rfl)) ?_;refine Zh [] _ _ _ _ ?_;simp (disch:=omega) only [Zs,Zk,ZL,ZC,eq_self,go_sem,seval];exact ⟨.p (.list false ((W st.length).map Fv)),[Ys x k S tot b],Weak.mk (by simp (disch:=omega) only [Ys,go_sem,seval]),rfl,rfl⟩
theorem OY (a b:Col) (ha:a.route.visits.length<=1048576) (hb:b.route.visits.length<=1048576):PC 166 [.p (Xk a),.p (Xk b)] (.bool (Y9 a b)):=by
 refine Zc Tryz.func166 rfl Zay ?_;simp (disch:=omega) only [Tryz.f166,go_sem,seval];refine cD ?_ ?_<;>intro h<;>simp (disch:=omega) only [Sh.out h,go_sem,seval,↓reduceIte]
 ·rw [Y9,if_pos h]
 ·refine (bT a.route.visits b.route.visits a.route.visits_c b.route.visits_c ha hb).use (Zd ?_);rw [Y9,if_neg h]
theorem qG (a b:Col) (f:Bool) (ha:a.route.visits.length<=1048576) (hb:b.route.visits.length<=1048576):PC 165 [.p (Xk a),.p (.bool f),.p (Xk b),.fn (.func 166) [] []] (Xk (if f=false\/Y9 b a=true then b else a)):=by
 refine Zc Tryz.func165 rfl Zax ?_
 cases f with
 | false =>
  simp (disch:=omega) only [Tryz.f165,Wx,go_sem,seval,↓reduceIte]
 | true =>
  simp (disch:=omega) only [Tryz.f165,Yn,go_sem,seval];refine (OY b a hb ha).use (Zd ?_)
  cases h:Y9 b a with
  | true=>simp (disch:=omega) only [go_sem,seval]
  | false=>simp (disch:=omega) only [go_sem,seval]
theorem Zjr {x:Inst} (hx:InstOk x) {S:Nat} {l:List Vis} {v:Vis} (hv:v∈CG x S l) {k:Int} (hk:0<=k/\k<x.types.length):M7 x v=true/\0<=(XP x v).place/\TrpOk x (nth x.types k.toNat) [XP x v]:=by
 obtain ⟨i,hi,_,_,h4,_⟩:=Vu.1 hv;have ho:=Ya h4
 have hpl:0<=(XP x v).place:=by
  unfold ZU at h4;unfold XP;rw [ho,XS]
  grind
 obtain ⟨t1,t2,t3,_⟩:=W0 hx (show k.toNat<x.types.length by omega);obtain ⟨n1,n2⟩:=Sw hx.net;refine ⟨by simp [M7,ho,hi],hpl,n1,n2,t1,t2,t3,fun s hs=> ?_,Zb⟩
 obtain rfl:s=XP x v:=by grind
 have hor:=hx.orders.2 i hi;have hp:=hor.pstp;have hd:=hor.dstp;simp only [stpOk,Zr] at hp hd;unfold XP at hpl ⊢;rw [ho,XS] at hpl ⊢
 split
 ·omega
 omega
theorem tX {x:Inst} {t:Typ} {p:Int} {stop:Stp} (hT:TrpOk x t [stop]) {m:Int} {out:List Sr} {a:Sr} (hm:0<=m) (ho:GO (m+16384) out) (ha:(0<=a.rdy/\a.rdy<=16384)/\(-m<=a.drv/\a.drv<=4096)):GO (m+16384) (JA x t p stop out a)/\(JA x t p stop out a).length<=out.length+2:=by
 have hg:=(I6 (n:=x.net) (pr:=t.prof) (f:=p) (t:=stop.place) (τ:=a.rdy) hT.net hT.mil Za).1;obtain ⟨z1,z2,z3,z4,z5⟩:=hT.stp stop Zb;obtain ⟨r1,r2⟩:=hT.rst;have hd:=hT.drv;unfold JA
 split
 ·grind
 ·rename_i c1
  split
  ·grind
  ·rename_i c2;refine ⟨fun b hb=> ?_,Bw⟩;have c3: ¬t.drive<a.drv+(WW x.net t.prof p stop.place a.rdy).1-a.rdy:=fun h=>c1 (.inr h);rcases Va.1 hb with h | rfl | rfl
   ·exact ho b h
   ·grind
   grind
theorem Ir {x:Inst} {t:Typ} {p:Int} {stop:Stp} (hT:TrpOk x t [stop]) {m:Int} (hm:0<=m): ∀(st out:List Sr),GO (m+16384) out->GO m st->GO (m+16384) (st.foldl (JA x t p stop) out)/\(st.foldl (JA x t p stop) out).length<=out.length+2*st.length
 | [],out,ho,_=>⟨ho,Zb⟩
 | a::st,out,ho,hs=>by
  obtain ⟨g1,g2⟩:=tX hT (p:=p) hm ho (hs a Zb);obtain ⟨k1,k2⟩:=Ir hT (p:=p) hm st _ g1 fun b hb=>hs b (Ye _ hb);rw [XG];exact ⟨k1,by simp only [ZA];omega⟩
def Ro (x:Inst) (k:Int) (S tot f:Nat):Prop:= ∀(l:List Vis) (c:Bool) (p:Int) (st:List Sr) (b:Col×Bool),l.length+f=tot->(c=true->0<f)->GO (16384*(l.length:Int)) st->st.length<=2^(l.length+1)->b.1.route.visits.length<=1048576 ->
  ACalls Tryz.prog 133 [.ptr 0 0,.p (.list c (l.map Z5)),.p (.int .i64 p),.p (.list false (st.map Fv))] [Ys x k S tot b] fun y H'=>y= .tup []/\H'= [Ys x k S tot ((Sj x k S f l (p,st)).foldl (Xy (F0 x k) (YM x k S) Y9) b)]
theorem Zdm (x:Inst) (hx:InstOk x) (k:Int) (S tot:Nat) (ht:tot<=8) (hk:0<=k/\k<x.types.length) (htl:x.types.length<=1048576):Ro x k S tot 0:=by
 intro l c p st b hlf hc hs1 hs2 hb
 have hc:c=false:=by grind
 subst hc
 have hll:l.length=tot:=Za
 obtain ⟨R,hR⟩: ∃R,R=Ys x k S tot ((Sj x k S 0 l (p,st)).foldl (Xy (F0 x k) (YM x k S) Y9) b):=⟨_,rfl⟩;rw [<- hR];simp only [Sj,lvW,XG,Uz] at hR;obtain ⟨⟨bt,bs,bp,br⟩,bf⟩:=b;have hpr:=NJ x (JB k l);refine Ze [] Tryz.func133 rfl iV ?_;simp (disch:=omega) only [Tryz.f133,Ys,go_sem,seval];refine cD ?_ ?_<;>intro h1<;>simp (disch:=omega) only [Sh.out h1,go_sem,seval,↓reduceIte]
 ·refine Xd (Zd ?_);refine Ah (bQ x (JB k l) hx ⟨by grind [JB],by simp [JB]⟩) (Zd ?_);refine cD ?_ ?_<;>intro h2<;>simp (disch:=omega) only [Sh.out h2,go_sem,seval]
  ·have hok:F0 x k l=true:=UB h2;have hcol:(⟨k,(S:Int),(WI x (JB k l)).1,⟨k,0,true,[],false,l⟩⟩:Col)=YM x k S l:=rfl;refine XW [11] 12 mixed Zg Zg Zg Zb (Zd ?_);refine Xm 11 _ _ Zg (by refine Zd ?_;exact ⟨rfl,rfl⟩) (Wi ?_);refine Zd ?_;refine ZB 11 mixed Zg Zg (Zd ?_);refine Zn (qG ⟨bt,bs,bp,br⟩ (YM x k S l) bf hb (by grind)) ?_
   have hR2:R=Ys x k S tot (if bf=false\/Y9 (YM x k S l) ⟨bt,bs,bp,br⟩=true then YM x k S l else ⟨bt,bs,bp,br⟩,true):=by
    rw [hR,Xy]
    grind
   generalize (if bf=false\/Y9 (YM x k S l) ⟨bt,bs,bp,br⟩=true then YM x k S l else ⟨bt,bs,bp,br⟩)=C at hR2 ⊢;refine Zd ?_;exact ⟨.tup [],[R],Weak.mk (by simp (disch:=omega) only [hR2,Ys,go_sem,seval]),rfl,rfl⟩
  ·have hok:F0 x k l=false:=Qd h2;rw [Xy,if_neg (fun h=>by grind)] at hR;exact ⟨.tup [],[R],Weak.mk (by simp (disch:=omega) only [hR,Ys,go_sem,seval]),rfl,rfl⟩
 ·omega
theorem Ln {x:Inst} {k:Int} {S:Nat} : ∀(f:Nat) (l:List Vis) (s:Int×List Sr),∀m∈Sj x k S f l s,m.length=l.length+f
 | 0,l,s,m,hm=>by
  simp_all [Sj,lvW]
 | f+1,l,s,m,hm=>by
  simp only [Sj,lvW,XK] at hm;obtain ⟨v,_,hm⟩:=hm
  split at hm
  ·simp at hm
  ·have:=Ln f (l++ [v]) _ m hm;simp at this;omega
theorem Oj {x:Inst} {k:Int} {S N:Nat} : ∀(L:List (List Vis)) (b:Col×Bool),b.1.route.visits.length<=N->(∀m∈L,m.length<=N)->(L.foldl (Xy (F0 x k) (YM x k S) Y9) b).1.route.visits.length<=N
 | [],b,h,_=>h
 | m::L,b,h,hL=>by
  rw [XG];refine Oj L _ ?_ fun q hq=>hL q (Ye _ hq);unfold Xy
  split
  ·exact hL m Zb
  ·exact h
theorem Zdn (x:Inst) (hx:InstOk x) (k:Int) (S tot f:Nat) (ht:tot<=8) (hk:0<=k/\k<x.types.length) (htl:x.types.length<=1048576) (hbl:x.before.length<=1048576) (hS:S<9223372036854775808) (ih:Ro x k S tot f):Ro x k S tot (f+1):=by
 intro l c p st b hlf hc hs1 hs2 hb;have hf:=XC hx
 have hn:x.orders.length<=60:=by have:=hf.len;omega
 obtain ⟨R,hR⟩: ∃R,R=Ys x k S tot ((Sj x k S (f+1) l (p,st)).foldl (Xy (F0 x k) (YM x k S) Y9) b):=⟨_,rfl⟩;rw [<- hR];have hpw:2^(l.length+1)<=2^8:=Ym Za Za
 have hpw2:2^(l.length+1+1)=2*2^(l.length+1):=Za
 have hnl:=Jq x S l x.orders.length;have hokv: ∀v∈nextU x S l x.orders.length,M7 x v=true/\0<=(XP x v).place/\TrpOk x (nth x.types k.toNat) [XP x v]:=fun v hv=>Zjr hx hv hk;obtain ⟨G,hG⟩: ∃G:Vis->List (List Vis),G=fun v=>if (goS x (nth x.types k.toNat) (p,st) v).2.isEmpty=true then [] else Sj x k S f (l++ [v]) (goS x (nth x.types k.toNat) (p,st) v):=⟨_,rfl⟩
 have hlv:Sj x k S (f+1) l (p,st)=(nextU x S l x.orders.length).flatMap G:=by rw [hG];rfl
 rw [hlv] at hR;have hsn:=bU x S l c hS Za hn hbl (fun q hq=>by have:=(hf.val q hq);omega);generalize hnx:nextU x S l x.orders.length=nx at hnl hokv hR hsn;clear hnx hlv;obtain ⟨B,hB⟩: ∃B:Nat->Col×Bool,B=fun q=>((nx.take q).flatMap G).foldl (Xy (F0 x k) (YM x k S) Y9) b:=⟨_,rfl⟩
 have hB0:B 0=b:=by rw [hB];rfl
 have hBn:R=Ys x k S tot (B nx.length):=by grind
 have hBs: ∀q,q<nx.length->B (q+1)=(G (nth nx q)).foldl (Xy (F0 x k) (YM x k S) Y9) (B q):=fun q hq=>by
  rw [hB];simp only;rw [XZ hq,List.flatMap_append,List.foldl_append,<- Zj hq];simp
 have hBl: ∀q,(B q).1.route.visits.length<=1048576:=fun q=>by
  rw [hB];refine Oj _ _ hb fun m hm=> ?_;obtain ⟨v,_,hm⟩:=XK.1 hm;rw [hG] at hm;simp only at hm
  split at hm
  ·simp at hm
  ·have:=Ln _ _ _ m hm;simp at this;omega
 clear hR hB;refine Ze [] Tryz.func133 rfl iV ?_;simp (disch:=omega) only [Tryz.f133,Ys,go_sem,seval];refine cD ?_ ?_<;>intro h1<;>simp (disch:=omega) only [Sh.out h1,go_sem,seval,↓reduceIte]
 ·omega
 ·refine Xd (Zd ?_);refine Zn (hsn) (Zd ?_);refine Zl [0,1,2,3,77,78] (fun q:Nat=> [(79,.p (.int .i64 q))]) (fun q=> [Ys x k S tot (B q)]) (fun q=>q<=nx.length) (fun q=>nx.length-q) 0 Zb (Weak.mk ?_) ?_
  ·simp (disch:=omega) only [Ys,hB0,go_sem,seval,↓reduceIte]
  ·intro q hq;simp (disch:=omega) only [Ys,go_sem,seval];refine cD ?_ ?_<;>intro h2<;>simp (disch:=omega) only [Sh.out h2,go_sem,seval,↓reduceIte]
   ·have hq2:q<nx.length:=Za
    obtain ⟨v1,v2,v3⟩:=hokv _ (ZZ hq2);have hBq:=hBs q hq2;refine XW [10,11] 12 mixed Zg Zg Zg Zb (Zd ?_);refine Ah (SA x (nth nx q) Za v1 v2) (Zd ?_);refine Xm 10 _ _ Zg (by refine Zd ?_;exact ⟨rfl,rfl⟩) ?_;refine Zd ?_;refine Xm 11 _ _ Zg (by refine Zd ?_;exact ⟨rfl,rfl⟩) (Wi ?_);refine Zd ?_
    have hSr0:GO (16384*(l.length:Int)+16384) []:=fun a ha=>by simp at ha
    obtain ⟨w1,w2⟩:=Ir v3 (p:=p) (m:=16384*(l.length:Int)) Za st [] hSr0 hs1;obtain ⟨N,hN⟩: ∃N,N=DT x (nth x.types k.toNat) p st (XP x (nth nx q)):=⟨_,rfl⟩;have cv:=tY x k S tot (B q) p st false (XP x (nth nx q)) (16384*(l.length:Int)) Za hk htl v3 Za hs1
    have hGq:G (nth nx q)=if N.isEmpty=true then [] else Sj x k S f (l++ [nth nx q]) ((XP x (nth nx q)).place,N):=by rw [hG,hN];rfl
    rw [<- hN] at cv
    have w1':GO (16384*(l.length:Int)+16384) N:=by rw [hN];exact w1
    have w2':N.length<=2*st.length:=by grind [DT]
    refine cv.useP (L:= [_,_]) (by rfl) ?_ (by rfl) (by rfl);simp (disch:=omega) only [Ys,ZM,ZE,go_sem,seval];refine cD ?_ ?_<;>intro h3<;>simp (disch:=omega) only [Sh.out h3,go_sem,seval,↓reduceIte]
    ·have hne: ¬N.isEmpty=true:=fun h=>by grind
     rw [hGq,if_neg hne] at hBq
     have ihc:=ih (l++ [nth nx q]) false (XP x (nth nx q)).place N (B q) (by simp;omega) Zb (by
      have e:16384*(((l++ [nth nx q]).length:Nat):Int)=16384*(l.length:Int)+16384:=by simp;omega
      grind) (by grind) (hBl q)
     rw [<- hBq,Xn] at ihc;refine ZB 9 mixed Zg Zg (Zd ?_);refine Zn (yL l c Za) (Zd ?_);refine ihc.useP (L:= [_,_]) (by rfl) ?_ (by rfl) (by rfl);simp (disch:=omega) only [Ys,ZM,ZE,go_sem,seval];exact ⟨q+1,Za,Za,wk⟩
    ·have he:N.isEmpty=true:=by simp_all
     rw [hGq,if_pos he] at hBq;have hBq':B (q+1)=B q:=hBq;exact ⟨q+1,Za,Za,Weak.mk (by simp (disch:=omega) only [hBq',go_sem,seval])⟩
   ·have hql:q=nx.length:=Za
    subst hql;exact ⟨.tup [],[R],Weak.mk (by simp (disch:=omega) only [hBn,Ys,go_sem,seval]),rfl,rfl⟩
theorem DY (x:Inst) (hx:InstOk x) (k:Int) (S tot:Nat) (ht:tot<=8) (hk:0<=k/\k<x.types.length) (htl:x.types.length<=1048576) (hbl:x.before.length<=1048576) (hS:S<9223372036854775808): ∀f,Ro x k S tot f
 | 0=>Zdm x hx k S tot ht hk htl
 | f+1=>Zdn x hx k S tot f ht hk htl hbl hS (DY x hx k S tot ht hk htl hbl hS f)
theorem lQ (x:Inst) (k:Int) (S tot:Nat) (b:Col×Bool) (d v:Int) (hk:0<=k/\k<x.types.length) (ht:x.types.length<=1048576) (hd:0<=d/\d<=1048576) (hr:0<=(nth x.types k.toNat).rest/\(nth x.types k.toNat).rest<=1048576) :
  ACalls Tryz.prog 134 [.ptr 0 0,.p (.list true []),.p (.int .i64 d),.p (.int .i64 v)] [Ys x k S tot b] fun y H'=>y= .p (.list false ((Vy (nth x.types k.toNat) [] d v).map Fv))/\H'= [Ys x k S tot b]:=by
 obtain ⟨L2,h2⟩: ∃L2,L2=Vy (nth x.types k.toNat) [] d v:=⟨_,rfl⟩
 have h12:UI [⟨d,v⟩] ⟨d+(nth x.types k.toNat).rest,0⟩=L2:=by rw [h2];rfl
 rw [<- h2];have c2:=Pm [⟨d,v⟩] ⟨d+(nth x.types k.toNat).rest,0⟩ Zb;rw [h12] at c2;refine Ze [] Tryz.func134 rfl iW ?_;simp (disch:=omega) only [Tryz.f134,go_sem,seval];refine (qU ⟨d,v⟩).useF (Zd ?_);simp (disch:=omega) only [Ys,go_sem,seval];refine ZB 16 mixed Zg Zg (Zd ?_);refine ACalls.mono (c2.back [Ys x k S tot b] (by rfl)) ?_;rintro y H' ⟨y1,H1,⟨rfl,rfl⟩,rfl,rfl⟩;simp (disch:=omega) only [AM.shV,AM.shO,Ys,Zs,Zk,ZM,ZE,go_sem,seval];exact ⟨.p (.list false (L2.map Fv)),[Ys x k S tot b],(Weak.fz (o:=1) (by rfl)).trans (Weak.mk (by simp (disch:=omega) only [Ys,eq_self,Zs,Zk,ZL,ZC,go_sem,seval,↓reduceIte])),rfl,rfl⟩
theorem Nm (x:Inst) (S:Nat): ∀k,k<=63->((XY (S:Int) k).map fun i=>(ZU x.orders i.toNat).length).sum=K6 x S k
 | 0,_=>by rfl
 | k+1,h=>by
  have ih:=Nm x S k Za;rw [AS]
  cases hb:sHas (S:Int) (k:Int) with
  | true =>
   rw [Nn hb,Xn,List.sum_append,ih];rw [WB _ _ Za] at hb;rw [if_pos hb];simp
  | false =>
   rw [So hb,ih];rw [WB _ _ Za] at hb;rw [hb];simp
theorem Og (x:Inst) (S n:Nat) (h: ∀i,S.testBit i=true->i<n): ∀d,K6 x S (n+d)=K6 x S n
 | 0=>rfl
 | d+1=>by
  rw [show n+(d+1)=n+d+1 by omega,AS,Og x S n h d,if_neg (fun e=>by have:=h _ e;omega)];rfl
def Wn : Col:=⟨0,0,0,⟨0,0,true,[],true,[]⟩⟩
noncomputable def VC (x:Inst) (k:Int) (S:Nat):Col×Int:=if Wd x.orders x.apart x.before (S:Int)=0/\(Eb x k S (Wn,false)).2=true then ((Eb x k S (Wn,false)).1,0) else (Wn,24)
def Eg : AM.Obj:= .cells ((GU Wn).map .p)
theorem LA (x:Inst) (hx:InstOk x) (k:Int) (S:Nat) (hk:0<=k/\k<x.types.length) (h4:x.orders.length<=4) (htl:x.types.length<=1048576) (hbl:x.before.length<=1048576) (hal:x.apart.length<=1048576) (hS0:0<S) (hS1:S<2^x.orders.length) :
  PT 104 [.p (Zq x),.p (.int .i64 k),.p (.int .i64 S)] [.p (Xk (VC x k S).1),.p (.int .i64 (VC x k S).2)]:=by
 have hf:=XC hx;have h16:S<16:=Uu hS1 (Ym (n:=2) Za h4);have hdiv:S / pw x.orders.length=0:=QA hS1
 have hbit: ∀i,S.testBit i=true->i<x.orders.length:=fun i hi=>by
  rcases Wy i x.orders.length with h | h
  ·exact h
  ·have:2^x.orders.length<=2^i:=Ym Za h
   grind [An]
 obtain ⟨Z,hZ⟩: ∃Z,Z=VC x k S:=⟨_,rfl⟩;rw [<- hZ];have hal2:=Tf x.net x.types_c x.types x.orders_c x.apart_c x.before_c x.orders x.apart x.before (S:Nat) Za hal hbl hf.val;refine Ze [] Tryz.func104 rfl zL ?_;simp (disch:=omega) only [Tryz.f104,go_sem,seval];refine gF ?_ ?_<;>intro h1<;>simp (disch:=omega) only [Sh.out h1,go_sem,seval,↓reduceIte]
 ·omega
 ·refine gF ?_ ?_<;>intro h2<;>simp (disch:=omega) only [Sh.out h2,go_sem,seval,↓reduceIte]
  ·omega
  ·refine gF ?_ ?_<;>intro h3<;>simp (disch:=omega) only [Sh.out h3,go_sem,seval,↓reduceIte]
   ·omega
   ·refine cD ?_ ?_<;>intro h5<;>simp (disch:=omega) only [Sh.out h5,go_sem,seval,↓reduceIte]
    ·omega
    ·refine (hal2).use (Zd ?_);refine cD ?_ ?_<;>intro h6<;>simp (disch:=omega) only [Sh.out h6,go_sem,seval,↓reduceIte]
     ·have e:Z=(Wn,24):=by simp_all [VC]
      exact ⟨.tup [.p (Xk Z.1),.p (.int .i64 Z.2)],[],Weak.mk (by simp (disch:=omega) only [e,Wn,Zk,go_sem,seval]),rfl,rfl⟩
     ·have h60:Wd x.orders x.apart x.before (S:Int)=0:=Z2.1 h6;obtain ⟨T,hT⟩: ∃T:Nat->Nat,T=fun q=>(((XY (S:Int) 63).take q).map fun i=>(ZU x.orders i.toNat).length).sum:=⟨_,rfl⟩
      have hT0:T 0=0:=by rw [hT];rfl
      have hTn:T (XY (S:Int) 63).length=WK x S:=by
       rw [hT];simp only [XX];rw [Nm x S 63 Za,show 63=x.orders.length+(63-x.orders.length) by omega,Og x S _ hbit];rfl
      have hTs: ∀q,q<(XY (S:Int) 63).length->T (q+1)=T q+(ZU x.orders (nth (XY (S:Int) 63) q).toNat).length:=fun q hq=>by
       grind [XZ,Zj]
      have hTl: ∀q,T q<=2*q:=fun q=>by
       induction q with
       | zero=>omega
       | succ q ih =>
        rcases Wy q (XY (S:Int) 63).length with h | h
        ·grind [WD]
        grind [Co]
      have hml:=Cz (S:Int) 63
      have hmi: ∀q,q<(XY (S:Int) 63).length-> ∃i:Nat,nth (XY (S:Int) 63) q=(i:Int)/\i<x.orders.length:=fun q hq=>by
       obtain ⟨i,e,_,hb⟩:=Jp.1 (ZZ hq)
       grind
      refine ((Dw (S:Int)).frozen Zb).use (Zd ?_);generalize XY (S:Int) 63=M at hTn hTs hml hmi ⊢;clear hT;refine Zl [1,3,6,8,45,46] (fun q:Nat=> [(47,.p (.int .i64 q))]) (fun q=> [Zf x,Eg,Ys x k S (T q) (Wn,false)]) (fun q=>q<=M.length) (fun q=>M.length-q) 0 Zb (Weak.mk ?_) ?_
      ·simp (disch:=omega) only [Zf,Eg,GU,Wn,Ys,hT0,Zk,Zs,go_sem,seval]
      ·intro q hq;have hq1:=hTl q;simp (disch:=omega) only [Zf,Eg,GU,Wn,Ys,Zk,Zs,go_sem,seval];refine cD ?_ ?_<;>intro h7<;>simp (disch:=omega) only [Sh.out h7,go_sem,seval,↓reduceIte]
       ·have hq2:q<M.length:=Za
        obtain ⟨i,hi,hin⟩:=hmi q hq2;have hts:=hTs q hq2;rw [hi,XS] at hts;have hvl:=WD x.orders i;refine ZB 10 mixed Zg Zg (Zd ?_);rw [hi];refine Zn (visits_c x.orders x.orders_c i hin Za) (Zd ?_)
        have hts2:((T (q+1):Nat):Int)=((T q:Nat):Int)+((ZU x.orders i).length:Int):=Za
        exact ⟨q+1,Za,Za,Weak.mk (by simp (disch:=omega) only [hts2,go_sem,seval])⟩
       ·have hqm:q=M.length:=Za
        subst hqm;rw [hTn] at hq1 ⊢
        have ht8:WK x S<=8:=by
         grind [C7,WK]
        have htp:0<WK x S:=SV hf.vne hdiv Za;obtain ⟨t1,t2,t3,_⟩:=W0 hx (show k.toNat<x.types.length by omega);obtain ⟨N,hN⟩: ∃N,N=Vy (nth x.types k.toNat) [] (nth x.types k.toNat).opn 0:=⟨_,rfl⟩
        have hNl:N.length<=2:=by
         grind [Bw]
        have hNo:GO 0 N:=fun a ha=>by
         rw [hN] at ha;rcases Va.1 ha with h | rfl | rfl
         ·simp at h
         ·grind
         ·exact ⟨by simp only;omega,Zb⟩
        have cf:=lQ x k S (WK x S) (Wn,false) (nth x.types k.toNat).opn 0 hk htl Za Za;rw [<- hN] at cf;have cw:=DY x hx k S (WK x S) ht8 hk htl hbl Za (WK x S) [] true (nth x.types k.toNat).src N (Wn,false) Zb (fun _=>htp) (by grind) Za (by simp [Wn])
        have hB:(Sj x k S (WK x S) [] ((nth x.types k.toNat).src,N)).foldl (Xy (F0 x k) (YM x k S) Y9) (Wn,false)=Eb x k S (Wn,false):=by rw [Eb,st0,<- hN]
        rw [hB] at cw
        have hZ2:Z=if (Eb x k S (Wn,false)).2=true then ((Eb x k S (Wn,false)).1,0) else (Wn,24):=by
         rw [hZ,VC]
         simp_all
        generalize Eb x k S (Wn,false)=B at cw hZ2;refine ZB 7 mixed Zg Zg (Zd ?_);refine ⟨.p (.list false (N.map Fv)),?_,?_⟩
        ·refine ACalls.mono (((cf.mono fun y H' hq=>(⟨hq,by rw [hq.2]⟩:_/\H'.length= [Ys x k S (WK x S) (Wn,false)].length)).front (by rfl) (by rfl) [.cells ((KC (nth x.types k.toNat)).map .p)]).back [Zf x,Eg] (by rfl)) ?_;rintro y H' ⟨y1,H1,⟨H2,⟨rfl,rfl⟩,rfl⟩,rfl,rfl⟩;exact ⟨rfl,rfl⟩
        ·refine Zd ?_;refine ACalls.mono (((cw.mono fun y H' hq=>(⟨hq,by grind⟩:_/\H'.length= [Ys x k S (WK x S) (Wn,false)].length)).front (by rfl) (by rfl) [.cells ((KC (nth x.types k.toNat)).map .p)]).back [Zf x,Eg] (by rfl)) ?_;rintro y H' ⟨y1,H1,⟨H2,⟨rfl,rfl⟩,rfl⟩,rfl,rfl⟩;simp (disch:=omega) only [AM.shV,AM.shVs,AM.shO,Zf,Eg,GU,Wn,Ys,KC,Zs,Zk,ZM,ZE,go_sem,seval];obtain ⟨C,f⟩:=B
         cases f with
         | false =>
          rw [if_neg Zb] at hZ2;refine GA ?_;exact ⟨.tup [.p (Xk Z.1),.p (.int .i64 Z.2)],[],Weak.mk (by simp (disch:=omega) only [hZ2,Wn,Zk,go_sem,seval]),rfl,rfl⟩
         | true =>
          rw [if_pos rfl] at hZ2;refine GB ?_;exact ⟨.tup [.p (Xk Z.1),.p (.int .i64 Z.2)],[],Weak.mk (by simp (disch:=omega) only [hZ2,go_sem,seval]),rfl,rfl⟩
theorem OX (a b:Col) (ha:a.route.visits.length<=1048576) (hb:b.route.visits.length<=1048576):PC 150 [.p (Xk a),.p (Xk b)] (.bool (Y9 a b)):=by
 refine Zc Tryz.func150 rfl Zao ?_;simp (disch:=omega) only [Tryz.f150,go_sem,seval];refine cD ?_ ?_<;>intro h<;>simp (disch:=omega) only [Sh.out h,go_sem,seval,↓reduceIte]
 ·rw [Y9,if_pos h]
 ·refine (sS a.route.visits b.route.visits a.route.visits_c b.route.visits_c ha hb).use (Zd ?_);rw [Y9,if_neg h]
theorem Pc (x:Inst) (S:Nat) (h4:x.orders.length<=60) (hS0:0<S) (hS:S<9223372036854775808):PC 113 [.p (Zq x),.p (.int .i64 S)] (.bool (decide (S / pw x.orders.length=0))):=by
 refine Zc Tryz.func113 rfl zS ?_;simp (disch:=omega) only [Tryz.f113,go_sem,seval];refine Zl [1,2] (fun k:Nat=> [(5,.p (.int .i64 (hv S k:Nat))),(6,.p (.int .i64 k))]) (fun _=> [Zf x]) (fun k=>k<=x.orders.length) (fun k=>x.orders.length-k) 0 Zb (Weak.mk ?_) ?_
 ·simp (disch:=omega) only [R7,Zf,go_sem,seval]
 ·intro k hk;have e1:=R6 S k;have h1:=vH S k;refine YH ?_;refine gT ?_ ?_<;>intro h2<;>simp (disch:=omega) only [Sh.out h2,go_sem,seval,↓reduceIte]
  ·refine ZX ?_ ?_<;>intro h3
   ·have e2:((hv S (k+1):Nat):Int)=((hv S k:Nat):Int) / 2:=Za
    exact ⟨k+1,Za,Za,Weak.mk (by simp (disch:=omega) only [e2,go_sem,seval])⟩
   ·omega
  ·have hkn:k=x.orders.length:=Za
   subst hkn;refine gT ?_ ?_<;>intro h3<;>simp (disch:=omega) only [Sh.out h3,go_sem,seval,↓reduceIte]
   ·have e:decide (((hv S x.orders.length:Nat):Int)=0)=decide (S / pw x.orders.length=0):=by
     rw [decide_eq_decide];unfold hv;omega
    simp (disch:=omega) only [e,go_sem,seval]
   ·omega
def Rm (x:Inst) (k:Int) (S f:Nat):Prop:= ∀(l:List Vis) (c:Bool) (b:Col) (fd:Bool),Gr x S l->l.length+f=WK x S->(c=true->l= [])->b.typ=k->b.set=S->b.route.visits.length<=1048576 ->
  PT 114 [.p (Zq x),.p (Xk b),.p (.bool fd),.p (.list c (l.map Z5))] [.p (Xk ((A7 (CG x S) f l).foldl (Xy (Dd x k S) (YM x k S) Y9) (b,fd)).1),.p (.bool ((A7 (CG x S) f l).foldl (Xy (Dd x k S) (YM x k S) Y9) (b,fd)).2)]
theorem If (x:Inst) (hx:InstOk x) (k:Int) (S:Nat) (hS0:0<S) (hS:S<9223372036854775808) (ho:x.orders.length<=60) (htl:x.types.length<=1048576) (hbl:x.before.length<=1048576) (l:List Vis) (c:Bool) (b:Col) (fd:Bool) (hnx:CG x S l= []) (hll:l.length<=1048576) (hc:c=true->l= []) (hb1:b.typ=k) (hb2:b.set=S) (hb3:b.route.visits.length<=1048576) :
  PT 114 [.p (Zq x),.p (Xk b),.p (.bool fd),.p (.list c (l.map Z5))] [.p (Xk (Xy (Dd x k S) (YM x k S) Y9 (b,fd) l).1),.p (.bool (Xy (Dd x k S) (YM x k S) Y9 (b,fd) l).2)]:=by
 have hf:=XC hx;obtain ⟨Z,hZ⟩: ∃Z,Z=Xy (Dd x k S) (YM x k S) Y9 (b,fd) l:=⟨_,rfl⟩;rw [<- hZ];have hnx':nextU x S l x.orders.length= []:=hnx;obtain ⟨bt,bs,bp,br⟩:=b;simp only at hb1 hb2 hb3;have hb1:=hb1.symm;subst hb1;subst hb2;have hnc:=SG x S l c hS hll ho hbl hf.plc (fun q hq=>by have:=(hf.val q hq);omega);rw [hnx'] at hnc;refine Ze [] Tryz.func114 rfl iT ?_;simp (disch:=omega) only [Tryz.f114,go_sem,seval];refine (hnc).use (Zd ?_);refine YJ (Ia ⟨k,0,true,[],c,l⟩ hll) (Zd ?_);refine gF ?_ ?_<;>intro h1<;>simp (disch:=omega) only [Sh.out h1,go_sem,seval,↓reduceIte]
 ·have hok:Dd x k S l=false:=by
   grind [Dd]
  have e:Z=(⟨k,S,bp,br⟩,fd):=by simp_all [Xy]
  exact ⟨.tup [.p (Xk Z.1),.p (.bool Z.2)],[],Weak.mk (by simp (disch:=omega) only [e,go_sem,seval]),rfl,rfl⟩
 ·have h1':(Q4 l).1=(S:Int):=Z2.1 h1
  have hcf:c=false:=by
   cases c with
   | false=>rfl
   | true =>
    exfalso;rw [hc rfl] at h1';have:(Q4 ([]:List Vis)).1=0:=rfl;omega
  subst hcf;refine (cM x (JB k l) hx hll (by simp [JB])).use (Zd ?_);refine cD ?_ ?_<;>intro h2<;>simp (disch:=omega) only [Sh.out h2,go_sem,seval,↓reduceIte]
  ·have hok:Dd x k S l=false:=by
    grind [Dd]
   have e:Z=(⟨k,S,bp,br⟩,fd):=by simp_all [Xy]
   exact ⟨.tup [.p (Xk Z.1),.p (.bool Z.2)],[],Weak.mk (by simp (disch:=omega) only [e,go_sem,seval]),rfl,rfl⟩
  ·have h2':Xv x (JB k l)=0:=Z2.1 h2;refine YJ (NO x (JB k l) hx ⟨hll,by simp [JB]⟩) (Zd ?_);have hcol:YM x k S l=⟨k,S,(WI x (JB k l)).1,JB k l⟩:=rfl;refine gF ?_ ?_<;>intro h3<;>simp (disch:=omega) only [Sh.out h3,go_sem,seval,↓reduceIte]
   ·have hok:Dd x k S l=false:=by
     grind [Dd,F0]
    have e:Z=(⟨k,S,bp,br⟩,fd):=by simp_all [Xy]
    exact ⟨.tup [.p (Xk Z.1),.p (.bool Z.2)],[],Weak.mk (by simp (disch:=omega) only [e,go_sem,seval]),rfl,rfl⟩
   ·have hok:Dd x k S l=true:=by
     simp_all [Dd,F0]
    cases fd with
    | false =>
     have e:Z=(YM x k S l,true):=by rw [hZ,Xy,if_pos ⟨hok,.inl rfl⟩]
     refine Zd ?_;exact ⟨.tup [.p (Xk Z.1),.p (.bool Z.2)],[],Weak.mk (by simp (disch:=omega) only [e,hcol,JB,Zk,go_sem,seval]),rfl,rfl⟩
    | true =>
     refine Zd ?_;refine (OX (YM x k S l) ⟨k,S,bp,br⟩ hll hb3).use (Zd ?_)
     cases hbt:Y9 (YM x k S l) ⟨k,S,bp,br⟩ with
     | true =>
      have e:Z=(YM x k S l,true):=by simp_all [Xy]
      refine GB ?_;exact ⟨.tup [.p (Xk Z.1),.p (.bool Z.2)],[],Weak.mk (by simp (disch:=omega) only [e,hcol,JB,Zk,go_sem,seval]),rfl,rfl⟩
     | false =>
      have e:Z=(⟨k,S,bp,br⟩,true):=by simp_all [Xy]
      refine GA ?_;exact ⟨.tup [.p (Xk Z.1),.p (.bool Z.2)],[],Weak.mk (by simp (disch:=omega) only [e,go_sem,seval]),rfl,rfl⟩
theorem Zc7 (x:Inst) (hx:InstOk x) (k:Int) (S:Nat) (hS0:0<S) (hS:S<9223372036854775808) (ho:x.orders.length<=60) (htl:x.types.length<=1048576) (hbl:x.before.length<=1048576):Rm x k S 0:=by
 intro l c b fd hg hl hc hb1 hb2 hb3;have:=C7 x S x.orders.length
 have hl':l.length=K6 x S x.orders.length:=by grind [WK]
 simp only [A7,XG,Uz];exact If x hx k S hS0 hS ho htl hbl l c b fd (rG hg Za) Za hc hb1 hb2 hb3
theorem Oi {x:Inst} {k:Int} {S N:Nat} : ∀(L:List (List Vis)) (b:Col×Bool),b.1.typ=k/\b.1.set=S/\b.1.route.visits.length<=N->(∀m∈L,m.length<=N)->(L.foldl (Xy (Dd x k S) (YM x k S) Y9) b).1.typ=k/\(L.foldl (Xy (Dd x k S) (YM x k S) Y9) b).1.set=S/\(L.foldl (Xy (Dd x k S) (YM x k S) Y9) b).1.route.visits.length<=N
 | [],b,h,_=>h
 | m::L,b,h,hL=>by
  rw [XG];refine Oi L _ ?_ fun q hq=>hL q (Ye _ hq);unfold Xy
  split
  ·exact ⟨rfl,rfl,hL m Zb⟩
  ·exact h
theorem Sk {x:Inst} {S:Nat} : ∀(f:Nat) (l:List Vis),∀m∈A7 (CG x S) f l,m.length<=l.length+f
 | 0,l,m,hm=>by
  simp_all [A7]
 | f+1,l,m,hm=>by
  rw [A7] at hm
  split at hm
  ·grind
  ·obtain ⟨v,_,hm⟩:=XK.1 hm;have:=Sk f _ m hm
   grind
theorem Zdj {g:FuncId} {args:List V} {a b:PV} {H:List AM.Obj} {K:V->List AM.Obj->Prop} (h:ACalls Tryz.prog g args [] fun x H'=>x= .tup [.p a,.p b]/\H'= []) (k:K (.tup [.p a,.p b]) H) (ha:Xj 0 args=true:=by rfl):ACalls Tryz.prog g args H K:=YJ h k ha
theorem Zc8 (x:Inst) (hx:InstOk x) (k:Int) (S f:Nat) (hS0:0<S) (hS:S<9223372036854775808) (ho:x.orders.length<=60) (htl:x.types.length<=1048576) (hbl:x.before.length<=1048576) (ih:Rm x k S f):Rm x k S (f+1):=by
 intro l c b fd hg hl hc hb1 hb2 hb3;have hf:=XC hx;have htu:=C7 x S x.orders.length
 have hll:l.length<=120:=by grind [WK]
 by_cases hnx:CG x S l= []
 ·rw [show A7 (CG x S) (f+1) l= [l] by rw [A7,if_pos hnx]];simp only [XG,Uz];exact If x hx k S hS0 hS ho htl hbl l c b fd hnx Za hc hb1 hb2 hb3
 ·rw [show A7 (CG x S) (f+1) l=(CG x S l).flatMap fun v=>A7 (CG x S) f (l++ [v]) by rw [A7,if_neg hnx]];have hnc:=SG x S l c hS Za ho hbl hf.plc (fun q hq=>by have:=(hf.val q hq);omega);have hnl:=Jq x S l x.orders.length;have hgv: ∀v∈CG x S l,Gr x S (l++ [v]):=fun v hv=> .snoc hg hv;have hnv:nextU x S l x.orders.length=CG x S l:=rfl;rw [hnv] at hnc hnl;generalize CG x S l=nx at hnx hnc hnl hgv ⊢;obtain ⟨B,hB⟩: ∃B:Nat->Col×Bool,B=fun q=>((nx.take q).flatMap fun v=>A7 (CG x S) f (l++ [v])).foldl (Xy (Dd x k S) (YM x k S) Y9) (b,fd):=⟨_,rfl⟩
  have hB0:B 0=(b,fd):=by rw [hB];rfl
  have hBn:(nx.flatMap fun v=>A7 (CG x S) f (l++ [v])).foldl (Xy (Dd x k S) (YM x k S) Y9) (b,fd)=B nx.length:=by rw [hB];simp
  have hBs: ∀q,q<nx.length->B (q+1)=(A7 (CG x S) f (l++ [nth nx q])).foldl (Xy (Dd x k S) (YM x k S) Y9) (B q):=fun q hq=>by
   rw [hB];simp only;rw [XZ hq,List.flatMap_append,List.foldl_append,<- Zj hq];simp
  have hBi: ∀q,(B q).1.typ=k/\(B q).1.set=S/\(B q).1.route.visits.length<=1048576:=fun q=>by
   rw [hB];refine Oi _ _ ⟨hb1,hb2,hb3⟩ fun m hm=> ?_;obtain ⟨v,_,hm⟩:=XK.1 hm;have:=Sk _ _ m hm
   grind [WK]
  rw [hBn];clear hB hBn;have hne: ¬nx.length=0:=fun h=>hnx (Yv h);refine Ze [] Tryz.func114 rfl iT ?_;simp (disch:=omega) only [Tryz.f114,go_sem,seval];rw [<- hb2] at hnc;refine (hnc).use (Zd ?_);refine cD ?_ ?_<;>intro h1<;>simp (disch:=omega) only [Sh.out h1,go_sem,seval,↓reduceIte]
  ·omega
  ·refine ZY [17] [3,4,5,8,10] (fun q:Nat=> [(2,.p (.bool (B q).2)),(16,.p (.int .i64 q))]) (fun q=> [Zf x,.cells ((GU (B q).1).map .p),Eg]) (fun q=>q<=nx.length) (fun q=>nx.length-q) 0 Zb (Weak.mk ?_) ?_
   ·simp (disch:=omega) only [Zf,Eg,Wn,GU,hB0,Zs,Zk,go_sem,seval]
   ·intro q hq;simp (disch:=omega) only [Zf,Eg,Wn,GU,Zs,Zk,go_sem,seval];refine cD ?_ ?_<;>intro h2<;>simp (disch:=omega) only [Sh.out h2,go_sem,seval,↓reduceIte]
    ·have hq2:q<nx.length:=Za
     have hBq:=hBs q hq2;obtain ⟨i1,i2,i3⟩:=hBi q;have hmem:=ZZ hq2;have ihc:=ih (l++ [nth nx q]) false (B q).1 (B q).2 (hgv _ hmem) (by simp;omega) Zb i1 i2 i3;rw [show ((B q).1,(B q).2)=B q from rfl,<- hBq,Xn] at ihc;refine ZJ [2,3,4,5,8,10,16] (fun _:Unit=> [(17,.p (.list false ((l++ [nth nx q]).map Z5)))]) (fun _=> [Zf x,.cells ((GU (B q).1).map .p),Eg,.dead]) (fun _=>True) ?_ ?_
     ·simp (disch:=omega) only [ZH,Xi,go_sem,seval];exact ⟨(),(Weak.fz (o:=3) (by rfl)).trans (Weak.mk (by simp (disch:=omega) only [Zf,Eg,Wn,GU,Zs,Zk,Zz,ZA,ZH,Zx,Xi,eq_self,ZL,ZC,go_sem,seval]))⟩
     ·intro _ _;refine Zh [] _ _ _ _ ?_;simp (disch:=omega) only [Zf,Eg,Wn,GU,Zs,Zk,go_sem,seval];refine Zdj ihc ?_;simp (disch:=omega) only [Zs,Zk,go_sem,seval];exact ⟨q+1,Za,Za,wk⟩
    ·have hql:q=nx.length:=Za
     subst hql;exact ⟨.tup [.p (Xk (B nx.length).1),.p (.bool (B nx.length).2)],[],wk,rfl,rfl⟩
theorem Gp (x:Inst) (hx:InstOk x) (k:Int) (S:Nat) (hS0:0<S) (hS:S<9223372036854775808) (ho:x.orders.length<=60) (htl:x.types.length<=1048576) (hbl:x.before.length<=1048576): ∀f,Rm x k S f
 | 0=>Zc7 x hx k S hS0 hS ho htl hbl
 | f+1=>Zc8 x hx k S f hS0 hS ho htl hbl (Gp x hx k S hS0 hS ho htl hbl f)
def By (one:Nat->List Col):Nat->List Col
 | 0=> []
 | q+1=>By one q++one (q+1)
def V3 (one:Nat->Nat->List Col) (N:Nat):Nat->List Col
 | 0=> []
 | k+1=>V3 one N k++By (one k) N
theorem CU {one:Nat->List Col} (h: ∀q,(one q).length<=1): ∀q,(By one q).length<=q
 | 0=>ZF _
 | q+1=>by
  have:=CU h q;have:=h (q+1);rw [By,Zz];omega
theorem BM {one:Nat->Nat->List Col} {N:Nat} (h: ∀k q,(one k q).length<=1): ∀k,(V3 one N k).length<=k*N
 | 0=>by simp [V3]
 | k+1=>by
  have h1:=BM (N:=N) h k;have h2:=CU (h k) N;rw [V3,Zz,XB];omega
noncomputable def Vv (x:Inst) (k S:Nat):List Col:=if (VC x (k:Int) S).2=0 then [(VC x (k:Int) S).1] else []
theorem KU {x:Inst} (k S:Nat):(Vv x k S).length<=1:=by grind [Vv]
theorem NF (x:Inst) (hx:InstOk x) (h4:x.orders.length<=4) (h6:x.types.length<=6) (hbl:x.before.length<=1048576) (hal:x.apart.length<=1048576) :
  PT 77 [.p (Zq x)] [.p (.list false ((V3 (Vv x) (2^x.orders.length-1) x.types.length).map Xk)),.p (.int .i64 0)]:=by
 have hp:pw x.orders.length=2^x.orders.length:=rfl;have hp1:1<=2^x.orders.length:=Nat.one_le_two_pow;have hp2:2^x.orders.length<=2^4:=Ym Za h4;obtain ⟨N,hN⟩: ∃N,N=2^x.orders.length-1:=⟨_,rfl⟩;rw [<- hN];refine Ze [12] Tryz.func77 rfl ZiT ?_;simp (disch:=omega) only [Tryz.f77,go_sem,seval];refine ZY [12] [1,11] (fun k:Nat=> [(4,.sl 1 0 (V3 (Vv x) N k).length (V3 (Vv x) N k).length),(12,.p (.int .i64 k))]) (fun k=> [Zf x,.elems 7 ((V3 (Vv x) N k).map Xk)]) (fun k=>k<=x.types.length) (fun k=>x.types.length-k) 0 Zb (Weak.ofNil 4 7 (by simp (disch:=omega) only [go_sem,seval]) Zb (Weak.mk ?_)) ?_
 ·simp (disch:=omega) only [Zf,V3,Zk,ZH,go_sem,seval]
 ·intro k hk;obtain ⟨R,hR⟩: ∃R,R=V3 (Vv x) N k:=⟨_,rfl⟩;have hRl:=BM (N:=N) (KU (x:=x)) k
  have hRs:V3 (Vv x) N (k+1)=R++By (Vv x k) N:=by rw [hR];rfl
  rw [<- hR] at hRl ⊢;have hkN:k*N<=6*16:=Av Za Za;refine YH ?_;refine cD ?_ ?_<;>intro h1<;>simp (disch:=omega) only [Sh.out h1,go_sem,seval,↓reduceIte]
  ·obtain ⟨W,hW⟩: ∃W:Nat->List Col,W=fun q=>R++By (Vv x k) (q-1):=⟨_,rfl⟩
   have hW0:W 1=R:=by grind [By]
   have hWn:V3 (Vv x) N (k+1)=W (N+1):=by grind
   have hWl: ∀q,(W q).length<=R.length+q:=fun q=>by
    grind [CU,KU]
   have hWs: ∀q,1<=q->W (q+1)=W q++Vv x k q:=fun q h=>by
    obtain ⟨p,rfl⟩: ∃p,q=p+1:=⟨q-1,Za⟩
    grind [By]
   clear hW hRs;refine Zl [1,5,11,12] (fun q:Nat=> [(4,.sl 1 0 (W q).length (W q).length),(6,.p (.int .i64 q))]) (fun q=> [Zf x,.elems 7 ((W q).map Xk)]) (fun q=>1<=q/\q<=N+1) (fun q=>N+1-q) 1 Za (Weak.mk ?_) ?_
   ·have e0:((1:Nat):Int)=1:=rfl;simp (disch:=omega) only [Zf,hW0,e0,go_sem,seval]
   ·rintro q ⟨hq0,hq⟩;have hql:=hWl q;have hqs:=hWs q hq0;refine YH ?_;refine ZX ?_ ?_<;>intro h2
    ·have hq2:q<2^x.orders.length:=by
      have h2':q / pw x.orders.length=0:=Za
      simp_all
     refine YJ (LA x hx k q Za h4 Za hbl hal Za hq2) ?_;have hone:Vv x k q=if (VC x (k:Int) q).2=0 then [(VC x (k:Int) q).1] else []:=rfl;rw [hone] at hqs;generalize VC x (k:Int) q=Z at hqs ⊢;refine Zd ?_;refine ZX ?_ ?_<;>intro h3
     ·rw [if_pos h3] at hqs;exact ⟨q+1,Za,Za,Weak.mk (by simp (disch:=omega) only [hqs,Xn,Zs,Zk,Zz,ZA,ZH,Xi,go_sem,seval])⟩
     ·rw [if_neg h3,Yw] at hqs;exact ⟨q+1,Za,Za,Weak.mk (by simp (disch:=omega) only [hqs,go_sem,seval])⟩
    ·have hqn:q=N+1:=by
      have h2': ¬q / pw x.orders.length=0:=Za
      rw [hp] at h2';have: ¬q<2^x.orders.length:=fun h=>h2' (QA h);omega
     subst hqn;exact ⟨k+1,Za,Za,Weak.mk (by simp (disch:=omega) only [hWn,go_sem,seval])⟩
  ·have hkt:k=x.types.length:=Za
   subst hkt;refine Zo (Weak.fz (o:=1) (by rfl)) ?_;refine Zh [] _ _ _ _ ?_;simp (disch:=omega) only [Zs,Zk,ZL,ZC,eq_self,go_sem,seval];exact ⟨.tup [.p (.list false (R.map Xk)),.p (.int .i64 0)],[],wk,by rw [hR],rfl⟩
def A5 (k:Int) (S:Nat):Col:=⟨k,S,0,⟨0,0,true,[],true,[]⟩⟩
theorem fE {x:Inst} (hx:InstOk x) {k:Int} (hk:0<=k/\k<x.types.length) {S:Nat} (hS0:0<S) (hS1:S<2^x.orders.length):VC x k S=if (BT x k S (A5 k S,false)).2=true then ((BT x k S (A5 k S,false)).1,0) else (Wn,24):=by
 have hf:=XC hx;have hdiv:S / pw x.orders.length=0:=QA hS1
 have hn:x.orders.length<=60:=by have:=hf.len;omega
 obtain ⟨t1,_⟩:=W0 hx (show k.toNat<x.types.length by omega);have hi:=Qw hn hdiv hf.val;rw [VC]
 by_cases ha:Alw x S
 ·have e:=O0 hx Za hdiv ha t1.1 (k:=k) (Wn,false);have f:=GC (ok:=Dd x k S) (col:=YM x k S) (better:=Y9) (A7 (CG x S) (WK x S) []) Wn (A5 k S);have f1:(BT x k S (Wn,false)).2=(BT x k S (A5 k S,false)).2:=f.1;have f2:(BT x k S (Wn,false)).2=true->(BT x k S (Wn,false)).1=(BT x k S (A5 k S,false)).1:=f.2
  grind
 simp_all [pJ]
theorem fA (x:Inst) (hx:InstOk x) (k:Int) (S:Nat) (hk:0<=k/\k<x.types.length) (h4:x.orders.length<=4) (htl:x.types.length<=1048576) (hbl:x.before.length<=1048576) (hS0:0<S) (hS1:S<2^x.orders.length) :
  PT 84 [.p (Zq x),.p (.int .i64 k),.p (.int .i64 S)] [.p (Xk (VC x k S).1),.p (.int .i64 (VC x k S).2)]:=by
 have h16:S<16:=Uu hS1 (Ym (n:=2) Za h4);have hdiv:S / pw x.orders.length=0:=QA hS1;obtain ⟨Z,hZ⟩: ∃Z,Z=VC x k S:=⟨_,rfl⟩;rw [<- hZ];rw [fE hx hk hS0 hS1] at hZ;have cs:=Gp x hx k S hS0 Za Za htl hbl (WK x S) [] true (A5 k S) false .nil Zb (fun _=>rfl) rfl rfl (by simp [A5]);rw [show (A7 (CG x S) (WK x S) []).foldl (Xy (Dd x k S) (YM x k S) Y9) (A5 k S,false)=BT x k S (A5 k S,false) from rfl] at cs;generalize BT x k S (A5 k S,false)=B at cs hZ
 refine Ze [] Tryz.func84 rfl Zi0 ?_;simp (disch:=omega) only [Tryz.f84,go_sem,seval];refine gF ?_ ?_<;>intro h1<;>simp (disch:=omega) only [Sh.out h1,go_sem,seval,↓reduceIte]
 ·omega
 ·refine gF ?_ ?_<;>intro h2<;>simp (disch:=omega) only [Sh.out h2,go_sem,seval,↓reduceIte]
  ·omega
  ·refine (Pc x S Za hS0 Za).use (Zd ?_);simp (disch:=omega) only [hdiv,eq_self,W2,go_sem,seval];refine YJ cs (Zd ?_);obtain ⟨C,f⟩:=B
   cases f with
   | false =>
    rw [if_neg Zb] at hZ;refine GA ?_;exact ⟨.tup [.p (Xk Z.1),.p (.int .i64 Z.2)],[],Weak.mk (by simp (disch:=omega) only [hZ,Wn,Zk,go_sem,seval]),rfl,rfl⟩
   | true =>
    rw [if_pos rfl] at hZ;refine GB ?_;exact ⟨.tup [.p (Xk Z.1),.p (.int .i64 Z.2)],[],Weak.mk (by simp (disch:=omega) only [hZ,go_sem,seval]),rfl,rfl⟩
theorem nW (x:Inst) (hx:InstOk x) (h4:x.orders.length<=4) (h6:x.types.length<=6) (hbl:x.before.length<=1048576) :
  PT 54 [.p (Zq x)] [.p (.list false ((V3 (Vv x) (2^x.orders.length-1) x.types.length).map Xk)),.p (.int .i64 0)]:=by
 have hp1:1<=2^x.orders.length:=Nat.one_le_two_pow;have hp2:2^x.orders.length<=2^4:=Ym Za h4;obtain ⟨N,hN⟩: ∃N,N=2^x.orders.length-1:=⟨_,rfl⟩
 have hpN:pw x.orders.length=N+1:=by unfold pw;omega
 rw [<- hN];refine Ze [16] Tryz.func54 rfl Ziz ?_;simp (disch:=omega) only [Tryz.f54,go_sem,seval];refine ZY [16] [1] (fun k:Nat=> [(4,.p (.int .i64 (pw k:Nat))),(5,.p (.int .i64 k))]) (fun _=> [Zf x]) (fun k=>k<=x.orders.length) (fun k=>x.orders.length-k) 0 Zb (Weak.mk ?_) ?_
 ·have e0:((pw 0:Nat):Int)=1:=rfl;simp (disch:=omega) only [Zf,e0,go_sem,seval]
 ·intro k hk;have hpk:pw k<=pw 4:=Ks Za;have hp4:pw 4=16:=rfl;have hps:=EU k
  have e2:((pw (k+1):Nat):Int)=((pw k:Nat):Int)*2:=Za
  refine YH ?_;refine gT ?_ ?_<;>intro h0<;>simp (disch:=omega) only [Sh.out h0,go_sem,seval,↓reduceIte]
  ·refine ZX ?_ ?_<;>intro h1
   ·exact ⟨k+1,Za,Za,Weak.mk (by simp (disch:=omega) only [e2,go_sem,seval])⟩
   ·omega
  ·have hkn:k=x.orders.length:=Za
   subst hkn;rw [hpN];refine ZY [16] [1,4] (fun k:Nat=> [(6,.sl 1 0 (V3 (Vv x) N k).length (V3 (Vv x) N k).length),(7,.p (.int .i64 k))]) (fun k=> [Zf x,.elems 7 ((V3 (Vv x) N k).map Xk)]) (fun k=>k<=x.types.length) (fun k=>x.types.length-k) 0 Zb (Weak.ofNil 6 7 (by simp (disch:=omega) only [go_sem,seval]) Zb (Weak.mk ?_)) ?_
   ·simp (disch:=omega) only [Zf,V3,Zk,ZH,go_sem,seval]
   ·intro k hk;obtain ⟨R,hR⟩: ∃R,R=V3 (Vv x) N k:=⟨_,rfl⟩;have hRl:=BM (N:=N) (KU (x:=x)) k
    have hRs:V3 (Vv x) N (k+1)=R++By (Vv x k) N:=by rw [hR];rfl
    rw [<- hR] at hRl ⊢;have hkN:k*N<=6*16:=Av Za Za;refine YH ?_;refine cD ?_ ?_<;>intro h1<;>simp (disch:=omega) only [Sh.out h1,go_sem,seval,↓reduceIte]
    ·obtain ⟨W,hW⟩: ∃W:Nat->List Col,W=fun q=>R++By (Vv x k) q:=⟨_,rfl⟩
     have hW0:W 0=R:=by grind [By]
     have hWn:V3 (Vv x) N (k+1)=W N:=by rw [hRs,hW]
     have hWl: ∀q,(W q).length<=R.length+q:=fun q=>by
      grind [CU,KU]
     have hWs: ∀q,W (q+1)=W q++Vv x k (q+1):=fun q=>by grind [By]
     clear hW hRs;refine Zl [1,4,7] (fun q:Nat=> [(6,.sl 1 0 (W q).length (W q).length),(8,.p (.int .i64 ((q+1:Nat):Int)))]) (fun q=> [Zf x,.elems 7 ((W q).map Xk)]) (fun q=>q<=N) (fun q=>N-q) 0 Zb (Weak.mk ?_) ?_
     ·have e0:((0+1:Nat):Int)=1:=rfl;simp (disch:=omega) only [Zf,hW0,e0,go_sem,seval]
     ·intro q hq;have hql:=hWl q;have hqs:=hWs q
      have e1:((q+1+1:Nat):Int)=((q+1:Nat):Int)+1:=Za
      refine YH ?_;refine ZX ?_ ?_<;>intro h2
      ·refine YJ (fA x hx k (q+1) Za h4 Za hbl Za Za) ?_;have hone:Vv x k (q+1)=if (VC x (k:Int) (q+1)).2=0 then [(VC x (k:Int) (q+1)).1] else []:=rfl;rw [hone] at hqs;generalize VC x (k:Int) (q+1)=Z at hqs ⊢;refine Zd ?_;refine ZX ?_ ?_<;>intro h3
       ·rw [if_pos h3] at hqs;exact ⟨q+1,Za,Za,Weak.mk (by simp (disch:=omega) only [hqs,Xn,Zs,Zk,Zz,ZA,ZH,Xi,go_sem,seval])⟩
       ·rw [if_neg h3,Yw] at hqs;exact ⟨q+1,Za,Za,Weak.mk (by simp (disch:=omega) only [hqs,go_sem,seval])⟩
      ·have hqn:q=N:=Za
       subst hqn;exact ⟨k+1,Za,Za,Weak.mk (by simp (disch:=omega) only [hWn,go_sem,seval])⟩
    ·have hkt:k=x.types.length:=Za
     subst hkt;refine Zo (Weak.fz (o:=1) (by rfl)) ?_;refine Zh [] _ _ _ _ ?_;simp (disch:=omega) only [Zs,Zk,ZL,ZC,eq_self,go_sem,seval];exact ⟨.tup [.p (.list false (R.map Xk)),.p (.int .i64 0)],[],wk,by rw [hR],rfl⟩
end Go.Proofs.YtjkkdmeebhjaiaaGreatDoor.K
