/- Declarations that the closing texts need, part 14: joined by tools/slim.py. -/
import Derived.Test.YtjkkdmeebhjaiaaGreatDoorY13
set_option linter.unusedVariables false
set_option linter.unusedSimpArgs false
namespace Go.Proofs.YtjkkdmeebhjaiaaGreatDoor.K
open Go Go.AM Go.Proofs
set_option maxRecDepth 8000
theorem lN {x:Inst} {t:Typ} {p:Int} {stop:Stp} {out:List Sr} {a b:Sr} (h:b∈out):b∈Jp x t p stop out a:=by
 grind [Jp,W2]
theorem Mz {x:Inst} {t:Typ} {p:Int} {stop:Stp} : ∀(st:List Sr) (out:List Sr) (b:Sr),(b∈out->b∈st.foldl (Jp x t p stop) out)/\ ∀a∈st,(∀o,b∈Jp x t p stop o a)->b∈st.foldl (Jp x t p stop) out
 | [],out,b=>⟨id,fun a h=>by simp at h⟩
 | c::st,out,b=>by
  rw [XG];obtain ⟨g1,g2⟩:=Mz st (Jp x t p stop out c) b;refine ⟨fun h=>g1 (lN h),fun a ha hb=> ?_⟩
  grind
inductive Rch (x:Inst) (t:Typ) (sp:List Stp):Nat->Lab->Prop where
 | zero:Rch x t sp 0 (labF t 0)
 | succ {k:Nat} {L:Lab} (b:Bool) (h:Rch x t sp k L) (hk:k<sp.length) (e:(nxtF x t sp k L b).2=0):Rch x t sp (k+1) (nxtF x t sp k L b).1
theorem Sb {x:Inst} {t:Typ} {sp:List Stp} : ∀(bs:List Bool) (k:Nat) (L:Lab),Rch x t sp k L->k+bs.length=sp.length+1->(Xz x t sp k L bs).2=0-> ∀j,k<=j->j<=sp.length-> ∃L',Rch x t sp j L'
 | [],k,L,h,hl,_,j,h1,h2=>by grind
 | b::bs,k,L,h,hl,hr,j,h1,h2=>by
  by_cases e:k=j
  ·grind
  ·rw [Xz] at hr
   split at hr
   ·rename_i he;exact Sb bs (k+1) _ (.succ b h Za he) (by grind) hr j Za h2
   omega
def bU (x:Inst) (t:Typ) (l:List Vis) (s:Int×List Sr):Prop:=s.1=UL t (Z9 x l) l.length/\ ∀r L,Rch x t (Z9 x (l++r)) l.length L-> ∀b,(⟨ZP t L b,Ww L b⟩:Sr)∈s.2
def goS (x:Inst) (t:Typ) (s:Int×List Sr) (v:Vis):Int×List Sr:=((XL x v).place,Dv x t s.1 s.2 (XL x v))
def st0 (t:Typ):Int×List Sr:=(t.src,Vo t [] t.opn 0)
theorem eQ {x:Inst} {t:Typ} (h:0<=t.opn):bU x t [] (st0 t):=by
 refine ⟨rfl,fun r L hL b=> ?_⟩
 have:L=labF t 0:=by
  generalize hk:([]:List Vis).length=k at hL
  cases hL with
  | zero=>rfl
  | succ=>simp at hk
 subst this
 have hm:max t.opn 0=t.opn:=Za
 cases b
 ·exact W2.2 (.inr (.inl (by simp [ZP,Ww,labF,hm])))
 ·exact W2.2 (.inr (.inr (by simp [ZP,Ww,labF,hm])))
theorem HH {x:Inst} {l r:List Vis} {v:Vis} :nth (Z9 x (l++(v::r))) l.length=XL x v:=by
 grind [Zk,Z9]
theorem jW {x:Inst} {t:Typ} {l r:List Vis} :UL t (Z9 x (l++r)) l.length=UL t (Z9 x l) l.length:=by
 grind [UL,Z9,Zk]
theorem eM {x:Inst} {t:Typ} {l:List Vis} {s:Int×List Sr} {v:Vis} (h:bU x t l s):bU x t (l++ [v]) (goS x t s v):=by
 obtain ⟨h1,h2⟩:=h;refine ⟨?_,fun r L' hL b=> ?_⟩
 ·have e:=HH (x:=x) (l:=l) (r:= []) (v:=v);rw [UL,if_neg Zb,show (l++ [v]).length-1=l.length by simp,e];rfl
 ·rw [Vj,ZL,ZD] at hL;generalize hsp:Z9 x (l++(v::r))=sp at hL
  have hlen:l.length<sp.length:=by grind [Z9]
  have hat:nth sp l.length=XL x v:=by grind [HH]
  have hpl:UL t sp l.length=s.1:=by grind [jW]
  generalize hk:(l++ [v]).length=k at hL
  cases hL with
  | zero=>simp at hk
  | succ b' hp hk' he =>
   rename_i k L
   have hkl:k=l.length:=by grind
   subst hkl;have hmem:=h2 (v::r) L (by grind) b'
   generalize hd:ZP t L b'=d at *
   generalize hs:Ww L b'=w at *
   have hg:Wd x t sp l.length d=WM x.net t.prof s.1 (XL x v).place d:=by
    rw [Wd,hpl,bC,if_neg Za,hat]
   unfold nxtF at he ⊢;rw [hd,hs,hg] at he ⊢
   generalize hgn:WM x.net t.prof s.1 (XL x v).place d=g at *
   unfold WB at he ⊢
   split at he
   ·simp at he
   ·rename_i c1;rw [if_neg c1];rw [if_neg Za] at he ⊢;rw [hat] at he ⊢
    split at he
    ·simp at he
    ·rename_i c2;rw [if_neg c2]
     split at he
     ·simp at he
     ·rename_i c3;rw [if_neg c3];refine (Mz s.2 [] _).2 ⟨d,w⟩ hmem fun o=> ?_;have c4: ¬(¬g.2.2=0\/t.drive<w+g.1-d):=fun hh=>hh.elim (fun e=>c1 e) (fun e=>c3 e);simp only [Jp,hgn];rw [if_neg c4,if_neg c2]
      cases b
      ·exact W2.2 (.inr (.inl rfl))
      ·exact W2.2 (.inr (.inr rfl))
theorem Tb {x:Inst} {k:Int} {l:List Vis} {s:Int×List Sr} (h:bU x (nth x.types k.toNat) l s) (he:s.2= []) (r:List Vis) (c d:Bool): ¬(QV x ⟨k,0,c,[],d,l++r⟩).2=0:=fun hp=>by
 have h1:XD x ⟨k,0,c,[],d,l++r⟩=0:=by
  grind [QV]
 have h2:(Xu x ⟨k,0,c,[],d,l++r⟩).2=0:=by
  grind [XD]
 obtain ⟨bs,hl,hrun,_⟩:=GR Zb h2;obtain ⟨L,hL⟩:=Sb bs 0 _ .zero Za hrun l.length Za (by simp [Z9]);have:=h.2 r L hL false
 grind
def Be (k:Int) (l:List Vis):Rte:=⟨k,0,true,[],false,l⟩
def I6 (x:Inst) (k:Int) (l:List Vis):Bool:=decide ((QV x (Be k l)).2=0)
def DY (x:Inst) (k:Int) (S:Nat) (l:List Vis):Bool:=decide ((QU l).1=(S:Int))&&(decide (XD x (Be k l)=0)&&I6 x k l)
def YM (x:Inst) (k:Int) (S:Nat) (l:List Vis):Col:=⟨k,S,(QV x (Be k l)).1,Be k l⟩
def Wu (a b:Col):Bool:=if a.price≠b.price then decide (a.price<b.price) else decide (A3 a.route.visits b.route.visits<0)
def CR (x:Inst) (S:Nat) (l:List Vis):List Vis:=nextU x S l x.orders.length
def W3 (x:Inst) (S:Nat):Nat:=AK x S x.orders.length
def RL (x:Inst) (k:Int) (S f:Nat) (l:List Vis) (s:Int×List Sr):List (List Vis):=lvW (CR x S) (goS x (nth x.types k.toNat)) (fun s=>s.2.isEmpty) f l s
theorem pS {x:Inst} {S:Nat} {l:List Vis} (h:Gr x S l) (hl:l.length=W3 x S):CR x S l= []:=by
 cases e:CR x S l with
 | nil=>rfl
 | cons v r =>
  exfalso
  have hv:v∈nextU x S l x.orders.length:=by
   grind [CR]
  obtain ⟨i,hi,h1,h2,h3,h4⟩:=VX.1 hv;exact ((VJ h3).1 h4).1 (h.full hl v (WQ.2 ⟨i,hi,h1,h3⟩))
def Ip (x:Inst) (k:Int) (S:Nat) (z:Col×Bool):Col×Bool:=(RL x k S (W3 x S) [] (st0 (nth x.types k.toNat))).foldl (XW (I6 x k) (YM x k S) Wu) z
def DP (x:Inst) (k:Int) (S:Nat) (z:Col×Bool):Col×Bool:=(CQ (CR x S) (W3 x S) []).foldl (XW (DY x k S) (YM x k S) Wu) z
theorem HP {ok ok':List Vis->Bool} {col:List Vis->Col} {better:Col->Col->Bool} : ∀ {L:List (List Vis)} {b:Col×Bool},(∀l∈L,ok l=ok' l)->L.foldl (XW ok col better) b=L.foldl (XW ok' col better) b
 | [],_,_=>rfl
 | l::L,b,h=>by
  rw [XG,XG,XW,XW,h l Zb];exact HP fun m hm=>h m (X9 _ hm)
theorem HO {ok:List Vis->Bool} {col:List Vis->Col} {better:Col->Col->Bool} : ∀ {L:List (List Vis)} {b:Col×Bool},(∀l∈L,ok l=false)->L.foldl (XW ok col better) b=b
 | [],_,_=>rfl
 | l::L,b,h=>by
  rw [XG,XW,if_neg (by rw [h l Zb];simp)];exact HO fun m hm=>h m (X9 _ hm)
theorem iI {x:Inst} {S:Nat} (hN: ∀l,Gr x S l->l.length<W3 x S->CR x S l≠ []): ∀(f:Nat) (l m:List Vis),Gr x S l->l.length+f=W3 x S->m∈CQ (CR x S) f l->Gr x S m/\m.length=W3 x S
 | 0,l,m,h,ht,hm=>by
  simp_all [CQ]
 | f+1,l,m,h,ht,hm=>by
  rw [CQ,if_neg (hN l h Za)] at hm;obtain ⟨v,hv,hm⟩:=X2.1 hm;exact iI hN f _ m (.snoc h hv) (by simp;omega) hm
theorem DD {x:Inst} {r:Rte} (h:XD x r=0):RightV x r.visits:=by
 rw [<- aH]
 have h1:Yn x r=0:=by
  grind [XD]
 unfold Yn at h1;omega
theorem M6 {x:Inst} {k:Int} {l:List Vis} (h:I6 x k l=true):XD x (Be k l)=0:=by
 have h:=of_decide_eq_true h
 grind [QV]
theorem TM {x:Inst} (hx:InstOk x) {S:Nat} (ha:Alw x S) (l:List Vis) (h:Gr x S l) (hl:l.length<W3 x S):CR x S l≠ []:=fun e=>by
 have hf:=X0 hx
 have hn:x.orders.length<=60:=by have:=hf.len;omega
 have:=(h.next_nil ha hn hf.val).1 e
 grind [W3]
theorem wG {x:Inst} (hx:InstOk x) {k:Int} {S:Nat} (h0:S≠0) (hS:S / pw x.orders.length=0) (ha:Alw x S) (ht:0<=(nth x.types k.toNat).opn) (z:Col×Bool):Ip x k S z=DP x k S z:=by
 have hN:=TM hx ha
 have h1:DP x k S z=(CQ (CR x S) (W3 x S) []).foldl (XW (I6 x k) (YM x k S) Wu) z:=HP fun l hl=>by
  obtain ⟨hg,hlen⟩:=iI hN _ _ _ .nil Zb hl;obtain ⟨hr,ho⟩:=hg.right (X0 hx) ha h0 hS hlen;unfold DY
  cases hv:I6 x k l with
  | false=>simp
  | true =>
   rw [M6 hv,hr.ord (X0 hx),ho];simp
 rw [h1,Ip,RL,Qz,Qz (CQ _ _ _)]
 rw [<- tW (nx:=CR x S) (go:=goS x (nth x.types k.toNat)) (emp:=fun s=>s.2.isEmpty) (ok:=I6 x k) (G:=Gr x S) (R:=bU x (nth x.types k.toNat)) (tot:=W3 x S) (fun l v hl hv=> .snoc hl hv) (fun l s v _ hs _=>eM hs)
  (fun l s _ hs he r=>U1 (Tb hs (List.isEmpty_iff.1 he) r true false)) hN (W3 x S) [] (st0 (nth x.types k.toNat)) .nil (eQ ht) Zb]
theorem nY {x:Inst} (hx:InstOk x) {k:Int} {S:Nat} (ha: ¬Alw x S) (z:Col×Bool):DP x k S z=z:=HO fun l _=>by
 cases ho:DY x k S l with
 | false=>rfl
 | true =>
  exfalso;simp only [DY,Zw,Zs] at ho;have hr:=DD ho.2.1;have hv:(Be k l).visits=l:=rfl;rw [hv] at hr;have he:=hr.ord (X0 hx);rw [he] at ho
  have hS:X7 l=S:=Za
  exact ha (hS ▸ hr.alw (X0 hx))
set_option maxHeartbeats 8000000
theorem sB {x:Inst} (hx:InstOk x):x.types.length<=6:=by have:=hx.types.1;simp only [rng,Zs] at this;omega
set_option maxRecDepth 60000
structure St where
 ix:Int
 cov:Int
 used:List Int
 deriving Inhabited,DecidableEq
def AI (s:St):PV:= .agg (.int .i64 s.ix:: .int .i64 s.cov::s.used.map eI)
@[go_sem] theorem Zme (s:St):AI s= .agg (.int .i64 s.ix:: .int .i64 s.cov::s.used.map eI):=Zm rfl rfl
def StR (s:St):Prop:=s.used.length=6
theorem six {l:List Int} (h:l.length=6): ∃a b c d e f,l= [a,b,c,d,e,f]:=by
 match l,h with
 | [a,b,c,d,e,f],_=>simp
theorem YF {s:St} (h:StR s): ∃i v a b c d e f,s=⟨i,v,[a,b,c,d,e,f]⟩:=by
 obtain ⟨i,v,u⟩:=s;obtain ⟨a,b,c,d,e,f,rfl⟩:=six h;simp
theorem OY : KeyE Tryz.prog 188 AI StR:=by
 refine ⟨⟨152,3,Zg,Zg,fun s hs=> ?_,fun s t hs ht=> ?_⟩,fun s t hs ht=> ?_⟩
 ·obtain ⟨i,v,a,b,c,d,e,f,rfl⟩:=YF hs
  kernel_rfl
 ·obtain ⟨i,v,a,b,c,d,e,f,rfl⟩:=YF hs;obtain ⟨i',v',a',b',c',d',e',f',rfl⟩:=YF ht
  have h1:Va Tryz.prog 9 152 (AI ⟨i,v,[a,b,c,d,e,f]⟩) (AI ⟨i',v',[a',b',c',d',e',f']⟩)=some (decide (i=i')&&(decide (v=v')&&((decide (a=a')&&(decide (b=b')&&(decide (c=c')&&(decide (d=d')&&(decide (e=e')&&(decide (f=f')&&true))))))&&true))):=Zg
  have h2:keq (AI ⟨i,v,[a,b,c,d,e,f]⟩) (AI ⟨i',v',[a',b',c',d',e',f']⟩)=(decide (i=i')&&(decide (v=v')&&((decide (a=a')&&(decide (b=b')&&(decide (c=c')&&(decide (d=d')&&(decide (e=e')&&(decide (f=f')&&true))))))&&true))):=by
   simp_all [keq,AI,Jf,eI]
  show (Va Tryz.prog 9 152 (AI ⟨i,v,[a,b,c,d,e,f]⟩) (AI ⟨i',v',[a',b',c',d',e',f']⟩)==some (keq (AI ⟨i,v,[a,b,c,d,e,f]⟩) (AI ⟨i',v',[a',b',c',d',e',f']⟩)))=true
  simp_all
 ·obtain ⟨i,v,a,b,c,d,e,f,rfl⟩:=YF hs;obtain ⟨i',v',a',b',c',d',e',f',rfl⟩:=YF ht
  simp_all [keq,AI,Jf,eI]
structure Kd where
 typ:Int
 set:Int
 deriving Inhabited,DecidableEq
def bM (k:Kd):PV:= .agg [.int .i64 k.typ,.int .i64 k.set]
theorem iB : KeyE Tryz.prog 234 bM fun _=>True:=by
 refine ⟨⟨236,3,Zg,Zg,fun s _=> ?_,fun s t _ _=> ?_⟩,fun s t _ _=> ?_⟩
 ·kernel_rfl
 ·obtain ⟨a,b⟩:=s;obtain ⟨c,d⟩:=t
  have h1:Va Tryz.prog 9 236 (bM ⟨a,b⟩) (bM ⟨c,d⟩)=some (decide (a=c)&&(decide (b=d)&&true)):=Zg
  have h2:keq (bM ⟨a,b⟩) (bM ⟨c,d⟩)=(decide (a=c)&&(decide (b=d)&&true)):=by
   grind [keq,bM,Jf]
  show (Va Tryz.prog 9 236 (bM ⟨a,b⟩) (bM ⟨c,d⟩)==some (keq (bM ⟨a,b⟩) (bM ⟨c,d⟩)))=true
  simp_all
 ·obtain ⟨a,b⟩:=s;obtain ⟨c,d⟩:=t;simp [keq,bM,Jf]
def Bg (n:Nat) (m cov:Int):Nat->Nat->Nat
 | 0,k=>k
 | f+1,k=>if k<n/\(sHas m k=false\/sHas cov k=true) then Bg n m cov f (k+1) else k
theorem Dr {n:Nat} {m cov:Int} {k:Nat} (h: ¬(k<n/\(sHas m k=false\/sHas cov k=true))) (f:Nat):Bg n m cov f k=k:=by
 cases f with
 | zero=>rfl
 | succ f=>rw [Bg,if_neg h]
theorem Ey {n:Nat} {m cov:Int} {k:Nat} (h:k<n) (hc:sHas m k=false\/sHas cov k=true):Bg n m cov (n-k) k=Bg n m cov (n-(k+1)) (k+1):=by
 rw [show n-k=(n-(k+1))+1 by omega,Bg,if_pos ⟨h,hc⟩]
def W9 (n:Nat) (m:Int) (s:St):St:= { s with ix:=(Bg n m s.cov (n-s.ix.toNat) s.ix.toNat:Nat) }
def Vr (x:Inst) (f g:PV) (m:Int):AM.Obj:= .cells [.p (.list x.net.places_c (x.net.places.map eS)),.p (.list x.net.arcs_c (x.net.arcs.map Vs)),.p (.list x.types_c (x.types.map XU)),.p (.list x.orders_c (x.orders.map eOrd)),.p (.list x.apart_c (x.apart.map eP)),.p (.list x.before_c (x.before.map eP)),.p f,.p g,.mp 0,.p (.int .i64 m)]
def YL (x:Inst) (f g:PV) (m:Int) (l:List (St×Int)):List AM.Obj:= [.map (l.map (Mk AI)),Vr x f g m]
def Bi (s:St):AM.Obj:= .cells (.p (.int .i64 s.ix):: .p (.int .i64 s.cov)::(s.used.map eI).map .p)
theorem F9 {P Q:Prop} (h:Q) (e:Q->P:=by intro h;simp (disch:=omega) only [WE,go_sem,seval];exact h):P:=e h
theorem Ga {P Q:Prop} (h:Q) (e:Q->P:=by intro h;simp (disch:=omega) only [Yu,go_sem,seval];exact h):P:=e h
theorem F2 (x:Inst) (f g:PV) (m:Int) (l:List (St×Int)) (s:St) (hs:StR s) (h0:0<=s.ix) (hn:x.orders.length<=10) (h1:s.ix<=10) :
  ACalls Tryz.prog 106 [.ptr 1 0,.p (AI s)] (YL x f g m l) fun y H'=>y= .p (AI (W9 x.orders.length m s))/\H'=YL x f g m l:=by
 obtain ⟨i,v,a,b,c,d,e,u,rfl⟩:=YF hs;obtain ⟨i,rfl⟩: ∃k:Nat,i=k:=⟨i.toNat,by grind⟩;simp only at h0 h1;generalize hT:AI (W9 x.orders.length m ⟨i,v,[a,b,c,d,e,u]⟩)=T;refine Ze [] Tryz.func106 rfl xQ ?_;simp (disch:=omega) only [Tryz.f106,YL,Vr,Zq,Zj,go_sem,seval];refine Zl [0,3,4] (fun k:Nat=> []) (fun k=>YL x f g m l++ [Bi ⟨k,v,[a,b,c,d,e,u]⟩,.cells (List.replicate 8 (.p (.int .i64 0)))]) (fun k=>k<=10/\Bg x.orders.length m v (x.orders.length-k) k=Bg x.orders.length m v (x.orders.length-i) i) (fun k=>x.orders.length-k) i ⟨Za,rfl⟩ (Weak.mk ?_) ?_
 ·simp (disch:=omega) only [YL,Vr,Bi,Zq,Zj,List.replicate,go_sem,seval,↓reduceIte]
 ·rintro k ⟨hk,hq⟩
  have fin: ∀q:Nat,q=Bg x.orders.length m v (x.orders.length-i) i->AI ⟨q,v,[a,b,c,d,e,u]⟩=T:=fun q hq=>by grind [W9]
  simp (disch:=omega) only [YL,Vr,Bi,Zq,Zj,List.replicate,go_sem,seval];refine Xd (Zd ?_);refine gT ?_ ?_<;>intro h5<;>simp (disch:=omega) only [Sh.out h5,go_sem,seval,↓reduceIte]
  ·have hk2:k<x.orders.length:=Za
   refine Zn (DF m k) (Zd ?_)
   cases hm:sHas m k with
   | false =>
    refine F9 ?_;exact ⟨k+1,⟨Za,by grind [Ey]⟩,Za,wk⟩
   | true =>
    refine Ga ?_;refine Zn (DF v k) (Zd ?_)
    cases hv:sHas v k with
    | true =>
     refine Zd ?_;exact ⟨k+1,⟨Za,by grind [Ey]⟩,Za,wk⟩
    | false =>
     refine Zd ?_;exact ⟨.p (AI ⟨k,v,[a,b,c,d,e,u]⟩),_,Weak.mk (by simp (disch:=omega) only [Zq,Zj,go_sem,seval]),by grind [Dr],rfl⟩
  ·exact ⟨.p (AI ⟨k,v,[a,b,c,d,e,u]⟩),_,Weak.mk (by simp (disch:=omega) only [Zq,Zj,go_sem,seval]),by grind [Dr],rfl⟩
def De (n:Nat) (m:Int) (s:St):St:=W9 n m { s with ix:=s.ix+1 }
theorem Bj {P Q:Prop} (h:Q) (e:Q->P:=by intro h;simp (disch:=omega) only [YL,Vr,Zq,Zj,ZL,ZD,go_sem,seval];exact h):P:=e h
theorem HT (x:Inst) (f g:PV) (m:Int) (l:List (St×Int)) (s:St) (hs:StR s) (h0:0<=s.ix) (hn:x.orders.length<=10) (h1:s.ix<=9) :
  ACalls Tryz.prog 143 [.ptr 1 0,.p (AI s)] (YL x f g m l) fun y H'=>y= .p (AI (De x.orders.length m s))/\H'=YL x f g m l:=by
 have hc:=F2 x f g m l { s with ix:=s.ix+1 } hs (by grind) hn (by grind);obtain ⟨i,v,a,b,c,d,e,u,rfl⟩:=YF hs;obtain ⟨q,hq⟩: ∃q:Int,De x.orders.length m ⟨i,v,[a,b,c,d,e,u]⟩=⟨q,v,[a,b,c,d,e,u]⟩:=⟨_,rfl⟩;have hq':W9 x.orders.length m ⟨i+1,v,[a,b,c,d,e,u]⟩=⟨q,v,[a,b,c,d,e,u]⟩:=hq;rw [hq];simp only at h0 h1 hc;rw [hq'] at hc;refine Ze [] Tryz.func143 rfl yL ?_;simp (disch:=omega) only [Tryz.f143,YL,Vr,Zq,Zj,go_sem,seval];refine hc.useP (L:= [_,_]) (by rfl) ?_ (by rfl) (by rfl);refine Bj ?_
 exact we
def CP (n:Nat) (m:Int) (s:St) (T:Nat) (C S:Nat):St:=W9 n m ⟨s.ix,((C|||S:Nat):Int),s.used.set T (nth s.used T+1)⟩
def DW (x:Inst) (s:St) (T:Nat) (C S:Nat):Bool:=decide (C&&&S=0)&&decide (nth s.used T<(nth x.types T).count)
theorem lU (x:Inst) (f g:PV) (m:Int) (l:List (St×Int)) (s:St) (c:Col) (hs:StR s) (h0:0<=s.ix) (hn:x.orders.length<=10) (h1:s.ix<=10) (C S T:Nat) (hC:s.cov=C) (hS:c.set=S) (hT:c.typ=T) (hC2:C<1024) (hS2:S<1024) (hT2:T<x.types.length) (h6:x.types.length<=6)
  (hu: ∀j,j<6->0<=nth s.used j/\nth s.used j<=1048576) :
  ACalls Tryz.prog 142 [.ptr 1 0,.p (AI s),.p (Xj c)] (YL x f g m l) fun y H'=>y=(if DW x s T C S=true then .tup [.p (AI (CP x.orders.length m s T C S)),.p (.bool true)] else .tup [.p (AI s),.p (.bool false)])/\H'=YL x f g m l:=by
 have hor:C|||S<1024:=QQ (n:=10) hC2 hS2;have hc:=F2 x f g m l ⟨s.ix,((C|||S:Nat):Int),s.used.set T (nth s.used T+1)⟩ (by grind [StR]) h0 hn h1;obtain ⟨i,v,a0,a1,a2,a3,a4,a5,rfl⟩:=YF hs
 have hT3:T=0\/T=1\/T=2\/T=3\/T=4\/T=5:=Za
 have u0:=hu 0 Za;have u1:=hu 1 Za;have u2:=hu 2 Za;have u3:=hu 3 Za;have u4:=hu 4 Za;have u5:=hu 5 Za;simp only [nth,List.getD_cons_zero,List.getD_cons_succ] at u0 u1 u2 u3 u4 u5;simp only at hC h0 h1;obtain ⟨ct,cs,cp,cr⟩:=c;simp only at hS hT;subst hC;subst hS;subst hT;obtain ⟨R,hR⟩: ∃R:V,R=(if DW x ⟨i,(C:Nat),[a0,a1,a2,a3,a4,a5]⟩ T C S=true then .tup [.p (AI (CP x.orders.length m ⟨i,(C:Nat),[a0,a1,a2,a3,a4,a5]⟩ T C S)),.p (.bool true)] else .tup [.p (AI ⟨i,(C:Nat),[a0,a1,a2,a3,a4,a5]⟩),.p (.bool false)]):=⟨_,rfl⟩
 rw [<- hR];obtain ⟨q,hq⟩: ∃q:Int,W9 x.orders.length m ⟨i,((C|||S:Nat):Int),[a0,a1,a2,a3,a4,a5].set T (nth [a0,a1,a2,a3,a4,a5] T+1)⟩=⟨q,((C|||S:Nat):Int),[a0,a1,a2,a3,a4,a5].set T (nth [a0,a1,a2,a3,a4,a5] T+1)⟩:=⟨_,rfl⟩;simp only at hc;rw [hq] at hc;have hw:CP x.orders.length m ⟨i,(C:Nat),[a0,a1,a2,a3,a4,a5]⟩ T C S=⟨q,((C|||S:Nat):Int),[a0,a1,a2,a3,a4,a5].set T (nth [a0,a1,a2,a3,a4,a5] T+1)⟩:=hq;rw [hw] at hR;refine Ze [] Tryz.func142 rfl yK ?_;rcases hT3 with rfl | rfl | rfl | rfl | rfl | rfl
 all_goals
  simp (disch:=omega) only [Tryz.f142,YL,Vr,Zq,Zj,go_sem,seval,↓reduceIte];refine Xd ?_;simp (disch:=omega) only [go_sem,seval,↓reduceIte];refine gF ?_ ?_<;>intro h5<;>simp (disch:=omega) only [Sh.out h5,go_sem,seval,↓reduceIte]
  ·have hno:(decide (C&&&S=0))=false:=U1 Za;exact ⟨.tup [.p (AI ⟨i,(C:Nat),[a0,a1,a2,a3,a4,a5]⟩),.p (.bool false)],_,Weak.mk (by simp (disch:=omega) only [Zq,Zj,go_sem,seval]),by rw [hR,if_neg (by rw [DW,hno];simp)],rfl⟩
  ·have hcs:C&&&S=0:=Za
   refine cD ?_ ?_<;>intro h7<;>simp (disch:=omega) only [Sh.out h7,go_sem,seval,↓reduceIte]
   ·exact ⟨.tup [.p (AI ⟨i,(C:Nat),[a0,a1,a2,a3,a4,a5]⟩),.p (.bool false)],_,Weak.mk (by simp (disch:=omega) only [Zq,Zj,go_sem,seval]),by rw [hR,if_neg (by rw [DW,Un hcs,Vl];exact fun h=>Int.not_lt.2 h7 (of_decide_eq_true h))],rfl⟩
   ·rw [if_pos (by rw [DW,Un hcs,Vl];exact Un (Int.not_le.1 h7))] at hR;refine hc.useP (L:= [_,_,_]) (by rfl) ?_ (by rfl) (by rfl);simp (disch:=omega) only [YL,Vr,Zq,Zj,ZL,ZD,ZY,ZK,go_sem,seval,↓reduceIte];exact ⟨R,_,Weak.mk (by rw [hR];simp (disch:=omega) only [nth,List.getD_cons_zero,List.getD_cons_succ,ZY,ZK,Zq,Zj,go_sem,seval]),rfl,rfl⟩
def YK (o p r:Int):Int:=if 0<=r/\(o<0\/p+r<o) then p+r else o
theorem L7 (o p r:Int) (hp: -4611686018427387904<=p/\p<=4611686018427387904) (hr: -4611686018427387904<r/\r<4611686018427387904) :
  ACalls Tryz.prog 141 [.p (.int .i64 p),.p (.int .i64 r),.ptr 0 0] [.cells [.p (.int .i64 o)]] fun y H'=>y= .tup []/\H'= [.cells [.p (.int .i64 (YK o p r))]]:=by
 obtain ⟨T,hT⟩: ∃T,T=YK o p r:=⟨_,rfl⟩;rw [<- hT];unfold YK at hT;refine Ze [] Tryz.func141 rfl yJ ?_;simp (disch:=omega) only [Tryz.f141,go_sem,seval];refine gT ?_ ?_<;>intro h1<;>simp (disch:=omega) only [Sh.out h1,go_sem,seval,↓reduceIte]
 ·refine gF ?_ ?_<;>intro h2<;>simp (disch:=omega) only [Sh.out h2,go_sem,seval,↓reduceIte]
  ·rw [if_pos ⟨h1,.inl h2⟩] at hT;subst hT;exact we
  ·refine cD ?_ ?_<;>intro h3<;>simp (disch:=omega) only [Sh.out h3,go_sem,seval,↓reduceIte]
   ·rw [if_pos ⟨h1,.inr h3⟩] at hT;subst hT;exact we
   ·rw [if_neg Za] at hT;subst hT;exact we
 ·rw [if_neg Za] at hT;subst hT;exact we
theorem CE {n:Nat} {m cov:Int} : ∀(f k:Nat),k<=Bg n m cov f k
 | 0,k=>ZI _
 | f+1,k=>by
  rw [Bg]
  split
  ·have:=CE (n:=n) (m:=m) (cov:=cov) f (k+1);omega
  ·omega
theorem Sc {n:Nat} {m cov:Int} : ∀(f k:Nat),k<=n->Bg n m cov f k<=n
 | 0,k,h=>h
 | f+1,k,h=>by
  rw [Bg]
  split
  ·rename_i hc;exact Sc f (k+1) Za
  ·exact h
theorem aR {n:Nat} {m cov:Int} {k:Nat} (h:k<n) (hb:sHas cov k=true):k+1<=Bg n m cov (n-k) k:=by
 grind [Ey,CE]
theorem Ci {l:List Int} {i j:Nat} {a:Int} (h:i<l.length):nth (l.set i a) j=if i=j then a else nth l j:=by
 grind [nth]
structure StV (n:Nat) (s:St):Prop where
 len:StR s
 ix:0<=s.ix/\s.ix<=n
 cov: ∃C:Nat,s.cov=C/\C<1024
 used: ∀j,j<6->0<=nth s.used j/\nth s.used j<=1048576
theorem Lq {n:Nat} {m:Int} {s:St} (h:StV n s):StV n (W9 n m s)/\s.ix<=(W9 n m s).ix:=by
 obtain ⟨h1,h2,h3,h4⟩:=h;have a:=CE (n:=n) (m:=m) (cov:=s.cov) (n-s.ix.toNat) s.ix.toNat;have b:=Sc (n:=n) (m:=m) (cov:=s.cov) (n-s.ix.toNat) s.ix.toNat Za;exact ⟨⟨h1,by grind [W9],h3,h4⟩,by grind [W9]⟩
theorem IY {n:Nat} {m:Int} {s:St} (h:StV n s) (hi:s.ix<n):StV n (De n m s)/\s.ix<(De n m s).ix:=by
 have h':StV n { s with ix:=s.ix+1 } :=⟨h.len,by have:=h.ix;grind,h.cov,h.used⟩
 grind [Lq,De]
theorem rC {C S k:Nat} (h:sHas (S:Int) k=true):sHas ((C|||S:Nat):Int) k=true:=by
 have key: ∀N:Nat,sHas (N:Int) k=true↔k<=62/\N.testBit k=true:=fun N=>by
  simp only [sHas,Zw,Zs,XS]
  grind
 grind
theorem sI {n:Nat} {m:Int} {s:St} {T C S:Nat} (h:StV n s) (hi:s.ix<n) (hC:C<1024) (hS:S<1024) (hb:sHas (S:Int) s.ix=true) (hT:T<6) (hu:nth s.used T<1048576):StV n (CP n m s T C S)/\s.ix<(CP n m s T C S).ix:=by
 have hor:C|||S<1024:=QQ (n:=10) hC hS;have hl:s.used.length=6:=h.len
 have h':StV n ⟨s.ix,((C|||S:Nat):Int),s.used.set T (nth s.used T+1)⟩:=by
  refine ⟨by grind [StR],h.ix,⟨_,rfl,hor⟩,fun j hj=> ?_⟩;simp only;rw [Ci Za]
  split
  ·have:=h.used T hT;omega
  ·exact h.used j hj
 grind [Lq,aR,rC,CP,W9]
def Yz (x:Inst) (s:St) (c:Col):Bool:=DW x s c.typ.toNat s.cov.toNat c.set.toNat
def Vp (n:Nat) (m:Int) (s:St) (c:Col):St:=CP n m s c.typ.toNat s.cov.toNat c.set.toNat
def YY (n:Nat) (m:Int) (x:Inst) (fst:List (List Col)) (sk:List Int):Nat->St->Int
 | 0,_=>0
 | d+1,s=>if (n:Int)<=s.ix then 0 else
  let o:=(nth fst s.ix.toNat).foldl (fun o c=>if Yz x s c=true then YK o c.price (YY n m x fst sk d (Vp n m s c)) else o) (-1)
  if 0<=nth sk s.ix.toNat then YK o (nth sk s.ix.toNat) (YY n m x fst sk d (De n m s)) else o
structure ChOk (n:Nat) (x:Inst) (fst:List (List Col)) (sk:List Int):Prop where
 col: ∀i,i<n-> ∀c∈nth fst i,(0<=c.typ/\c.typ<x.types.length)/\(∃S:Nat,c.set=S/\S<1024)/\sHas c.set i=true/\0<=c.price/\c.price<=18014398509481984
 typ:x.types.length<=6/\ ∀t,t<6->(nth x.types t).count<=1048576
 skp: ∀i,i<n-> -1<=nth sk i/\nth sk i<=18014398509481984
theorem EA {n:Nat} {m:Int} {x:Inst} {fst:List (List Col)} {sk:List Int} (hc:ChOk n x fst sk) {s:St} (h:StV n s) (hi:s.ix<n) {c:Col} (hm:c∈nth fst s.ix.toNat) (hy:Yz x s c=true):StV n (Vp n m s c)/\s.ix<(Vp n m s c).ix:=by
 obtain ⟨⟨t0,t1⟩,⟨S,hS,hS2⟩,hb,_⟩:=hc.col _ (by have:=h.ix;omega) c hm;obtain ⟨C,hC,hC2⟩:=h.cov;have ht:=hc.typ.1;have hcnt:=hc.typ.2 c.typ.toNat Za;simp only [Yz,DW,Zw,Zs] at hy;have hi0:=h.ix;rw [show ((s.ix.toNat:Nat):Int)=s.ix by omega] at hb;exact sI h hi Za Za (by grind) Za Za
theorem JA {α β:Type} {f g:β->α->β} : ∀ {l:List α} {b:β},(∀a∈l,∀b,f b a=g b a)->l.foldl f b=l.foldl g b
 | [],_,_=>rfl
 | a::l,b,h=>by
  rw [XG,XG,h a Zb b];exact JA fun a ha=>h a (X9 _ ha)
theorem Jc {n:Nat} {m:Int} {x:Inst} {fst:List (List Col)} {sk:List Int} (hc:ChOk n x fst sk): ∀(d d':Nat) (s:St),StV n s->(n:Int)-s.ix<d->(n:Int)-s.ix<d'->YY n m x fst sk d s=YY n m x fst sk d' s
 | 0,_,s,h,h1,_=>by have:=h.ix;omega
 | _,0,s,h,_,h1=>by have:=h.ix;omega
 | d+1,d'+1,s,h,h1,h2=>by
  rw [YY,YY]
  split
  ·rfl
  ·rename_i hi
   have e1:(nth fst s.ix.toNat).foldl (fun o c=>if Yz x s c=true then YK o c.price (YY n m x fst sk d (Vp n m s c)) else o) (-1)=(nth fst s.ix.toNat).foldl (fun o c=>if Yz x s c=true then YK o c.price (YY n m x fst sk d' (Vp n m s c)) else o) (-1):=JA fun c hm o=>by
    by_cases hy:Yz x s c=true
    ·obtain ⟨v1,v2⟩:=EA (m:=m) hc h Za hm hy;rw [if_pos hy,if_pos hy,Jc hc d d' _ v1 Za Za]
    grind
   obtain ⟨v1,v2⟩:=IY (m:=m) h Za;rw [Jc hc d d' _ v1 Za Za];simp only [e1]
theorem L6 {o p r B:Int} (h1: -1<=o/\o<=B) (h2:0<=p) (h3:p+r<=B): -1<=YK o p r/\YK o p r<=B:=by
 grind [YK]
theorem G9 {α β:Type} {f:β->α->β} {R:β->Prop} : ∀ {l:List α} {b:β},R b->(∀a∈l,∀b,R b->R (f b a))->R (l.foldl f b)
 | [],_,h,_=>h
 | a::l,b,h,hf=>by
  rw [XG];exact G9 (hf a Zb b h) fun a ha=>hf a (X9 _ ha)
theorem VW {n:Nat} {m:Int} {x:Inst} {fst:List (List Col)} {sk:List Int} (hc:ChOk n x fst sk): ∀(d:Nat) (s:St),StV n s-> -1<=YY n m x fst sk d s/\YY n m x fst sk d s<=(d:Int)*18014398509481984
 | 0,s,h=>by simp [YY]
 | d+1,s,h=>by
  rw [YY]
  split
  ·omega
  ·rename_i hi;have i0:=h.ix
   have e1: -1<=(nth fst s.ix.toNat).foldl (fun o c=>if Yz x s c=true then YK o c.price (YY n m x fst sk d (Vp n m s c)) else o) (-1)/\(nth fst s.ix.toNat).foldl (fun o c=>if Yz x s c=true then YK o c.price (YY n m x fst sk d (Vp n m s c)) else o) (-1)<=((d+1:Nat):Int)*18014398509481984:=by
    refine G9 (R:=fun o:Int=> -1<=o/\o<=((d+1:Nat):Int)*18014398509481984) Za fun c hm o ho=> ?_
    split
    ·rename_i hy;obtain ⟨v1,v2⟩:=EA (m:=m) hc h Za hm hy;have:=VW (m:=m) hc d _ v1;have:=(hc.col _ Za c hm).2.2.2;exact L6 ho Za Za
    ·exact ho
   have hs:=hc.skp s.ix.toNat Za;obtain ⟨v1,v2⟩:=IY (m:=m) h Za;have:=VW (m:=m) hc d _ v1;simp only
   split
   ·exact L6 e1 Za Za
   ·exact e1
def Y7 (l:List Col):PV:= .list false (l.map Xj)
@[go_sem] theorem ZgM (l:List Col):Y7 l= .list false (l.map Xj):=Zm rfl rfl
def Iv (c:Col):AM.Obj:= .cells [.p (.int .i64 c.typ),.p (.int .i64 c.set),.p (.int .i64 c.price),.p (.int .i64 c.route.typ),.p (.int .i64 c.route.start),.p (.list c.route.rests_c (c.route.rests.map eB)),.p (.list c.route.visits_c (c.route.visits.map Z3))]
def uN (n:Nat) (m:Int) (x:Inst) (fst:List (List Col)) (sk:List Int) (l:List (St×Int)):Prop:= ∀p∈l,StV n p.1/\p.2=YY n m x fst sk 20 p.1
theorem F8 {P Q:Prop} (h:Q) (e:Q->P:=by intro h;simp (disch:=omega) only [YL,Vr,Bi,Zq,Zj,ZL,ZD,go_sem,seval];exact h):P:=e h
theorem D8 (x:Inst) (fst:List (List Col)) (sk:List Int) (fc sc:Bool) (m:Int) (hn:x.orders.length<=10) (hf:fst.length=x.orders.length) (hs:sk.length=x.orders.length) (hc:ChOk x.orders.length x fst sk) (hcl: ∀r∈fst,r.length<=1048576) :
  ∀(d:Nat) (s:St) (l:List (St×Int)),d<=20->StV x.orders.length s->(x.orders.length:Int)-s.ix<d->uN x.orders.length m x fst sk l ->
   ACalls Tryz.prog 107 [.ptr 1 0,.p (AI s)] (YL x (.list fc (fst.map Y7)) (.list sc (sk.map eI)) m l) fun y H'=> ∃l',uN x.orders.length m x fst sk l'/\y= .p (.int .i64 (YY x.orders.length m x fst sk 20 s))/\H'=YL x (.list fc (fst.map Y7)) (.list sc (sk.map eI)) m l'
 | 0,s,l,_,hv,hd,_=>by have:=hv.ix;omega
 | d+1,s,l,hd0,hv,hd,hl=>by
  have ih:=D8 x fst sk fc sc m hn hf hs hc hcl d;have hlR: ∀p∈l,StR p.1:=fun p hp=>(hl p hp).1.len;obtain ⟨i,v,a0,a1,a2,a3,a4,a5,rfl⟩:=YF hv.len;have hi:=hv.ix;simp only at hi hd;obtain ⟨i,rfl⟩: ∃k:Nat,i=k:=⟨i.toNat,Za⟩;obtain ⟨T,hT⟩: ∃T,T=YY x.orders.length m x fst sk 20 ⟨i,v,[a0,a1,a2,a3,a4,a5]⟩:=⟨_,rfl⟩;rw [<- hT];refine Ze [] Tryz.func107 rfl xR ?_;simp (disch:=omega) only [Tryz.f107,YL,Vr,Zq,Zj,go_sem,seval];refine Xd ?_;refine Zd ?_;refine cD ?_ ?_<;>intro h1<;>simp (disch:=omega) only [Sh.out h1,go_sem,seval]
  ·rw [YY,if_pos Za] at hT;subst hT;exact ⟨_,_,wk,l,hl,rfl,rfl⟩
  ·refine Xd (Zd ?_);refine fE (GM (k:=(⟨i,v,[a0,a1,a2,a3,a4,a5]⟩:St)) OY hlR hv.len (by rfl)) (Zd ?_)
   cases hq:mq l (⟨i,v,[a0,a1,a2,a3,a4,a5]⟩:St) with
   | some w =>
    obtain ⟨_,hw⟩:=hl _ (ZbN hq);simp only at hw;rw [<- hw] at hT;subst hT;simp (disch:=omega) only [JU,JK,go_sem,seval];exact ⟨_,_,wk,l,hl,rfl,rfl⟩
   | none =>
    have hi2:i<fst.length:=Za
    have hi3:i<sk.length:=Za
    have hrl:=hcl _ (ZX hi2);simp (disch:=omega) only [K9,Option.getD_none,go_sem,seval];refine Xd (Zd ?_)
    let F:Int->Col->Int:=fun o c=>if Yz x ⟨i,v,[a0,a1,a2,a3,a4,a5]⟩ c=true then YK o c.price (YY x.orders.length m x fst sk 19 (Vp x.orders.length m ⟨i,v,[a0,a1,a2,a3,a4,a5]⟩ c)) else o
    refine Zl [0,3,7,8,42,43] (fun q:Nat×List (St×Int)=> [(44,.p (.int .i64 q.1))]) (fun q=>YL x (.list fc (fst.map Y7)) (.list sc (sk.map eI)) m q.2++ [Bi ⟨i,v,[a0,a1,a2,a3,a4,a5]⟩,.cells [.p (.int .i64 (((nth fst i).take q.1).foldl F (-1)))]]) (fun q=>q.1<=(nth fst i).length/\uN x.orders.length m x fst sk q.2) (fun q=>(nth fst i).length-q.1) (0,l) ⟨Zb,hl⟩ (Weak.mk ?_) ?_
    ·simp (disch:=omega) only [YL,Vr,Bi,Zq,Zj,ZL,ZD,QS,Um,go_sem,seval,↓reduceIte]
    ·rintro ⟨k,l1⟩ ⟨hk,hl1⟩;simp only at hk hl1;have hl1R: ∀p∈l1,StR p.1:=fun p hp=>(hl1 p hp).1.len;generalize hacc:((nth fst i).take k).foldl F (-1)=acc;refine F8 ?_;refine cD ?_ ?_<;>intro h2<;>simp (disch:=omega) only [Sh.out h2,go_sem,seval,↓reduceIte]
     ·have hk2:k<(nth fst i).length:=Za
      have hm:=ZX hk2
      have hs1:((nth fst i).take (k+1)).foldl F (-1)=F acc (nth (nth fst i) k):=by
       grind [Xm,Zk]
      obtain ⟨⟨t0,t1⟩,⟨S,hS,hS2⟩,hb,hp0,hp1⟩:=hc.col i Za _ hm;obtain ⟨C,hC,hC2⟩:=hv.cov;simp only at hC;have h6:=hc.typ.1;obtain ⟨tt,htt⟩: ∃tt:Nat,(nth (nth fst i) k).typ=tt:=⟨(nth (nth fst i) k).typ.toNat,Za⟩;have cw:=lU x (.list fc (fst.map Y7)) (.list sc (sk.map eI)) m l1 ⟨i,v,[a0,a1,a2,a3,a4,a5]⟩ (nth (nth fst i) k) hv.len Zb hn (by grind) C S tt hC hS htt hC2 hS2 Za h6 hv.used
      have hmay:Yz x ⟨i,v,[a0,a1,a2,a3,a4,a5]⟩ (nth (nth fst i) k)=DW x ⟨i,v,[a0,a1,a2,a3,a4,a5]⟩ tt C S:=by grind [Yz,XS]
      have hwc:Vp x.orders.length m ⟨i,v,[a0,a1,a2,a3,a4,a5]⟩ (nth (nth fst i) k)=CP x.orders.length m ⟨i,v,[a0,a1,a2,a3,a4,a5]⟩ tt C S:=by grind [Vp]
      by_cases hy:DW x ⟨i,v,[a0,a1,a2,a3,a4,a5]⟩ tt C S=true
      ·obtain ⟨v1,v2⟩:=EA (m:=m) hc hv (by grind) (by simpa using hm) (by grind);rw [hwc] at v1 v2;obtain ⟨j,w,b0,b1,b2,b3,b4,b5,hw⟩:=YF v1.len;rw [if_pos hy,hw] at cw;refine cw.useP (L:= [_,_,_]) (by rfl) ?_ (by rfl) (by rfl);refine Bj ?_;refine AY [5] [1,2] [4] 6 mixed Zg Zg Zg Zg Zb (Zd ?_);refine ⟨fun q hq p hp=> ?_,?_⟩
       ·simp only [Z5,W0,Wa] at hq;rcases hq with rfl | rfl
        ·obtain rfl:10=p:=VE hp;exact VB (by decide)
        ·obtain rfl:57=p:=VE hp;exact VB (by decide)
       ·have c3:=((ih ⟨j,w,[b0,b1,b2,b3,b4,b5]⟩ l1 Za (hw ▸ v1) (by grind) hl1).mono (fun y H' hq=>(⟨hq,by obtain ⟨l',_,_,rfl⟩:=hq;rfl⟩:_/\H'.length=(YL x (.list fc (fst.map Y7)) (.list sc (sk.map eI)) m l1).length))).front (by rfl) (by rfl) [Bi ⟨i,v,[a0,a1,a2,a3,a4,a5]⟩,.cells [.p (.int .i64 acc)],Iv (nth (nth fst i) k),Bi ⟨j,w,[b0,b1,b2,b3,b4,b5]⟩];refine Hh 5 _ Zg (by refine Zd ?_;exact c3) ?_;rintro y H' ⟨H1,⟨l2,hl2,rfl,rfl⟩,rfl⟩;refine ⟨fun k hk=>by simp at hk;subst hk;rfl,IS ?_⟩;simp (disch:=omega) only [YL,Vr,Bi,Iv,Zq,Zj,ZL,ZD,go_sem,seval]
        have hrg:=VW (m:=m) hc 20 _ v1;rw [hw] at hrg;have c4:=(((L7 acc (nth (nth fst i) k).price (YY x.orders.length m x fst sk 20 ⟨j,w,[b0,b1,b2,b3,b4,b5]⟩) Za Za).back [.map (l2.map (Mk AI)),Vr x (.list fc (fst.map Y7)) (.list sc (sk.map eI)) m,Bi ⟨i,v,[a0,a1,a2,a3,a4,a5]⟩] (by rfl)).mono (fun y H' hq=>(⟨hq,by grind⟩:_/\H'.length=4))).front (by rfl) (by rfl) [Iv (nth (nth fst i) k),Bi ⟨j,w,[b0,b1,b2,b3,b4,b5]⟩];refine ACalls.mono c4 ?_;rintro y H' ⟨H1,⟨y1,H2,⟨rfl,rfl⟩,rfl,rfl⟩,rfl⟩;simp (disch:=omega) only [Vr,Bi,Iv,Zq,Zj,ZL,ZD,shO,shVs,shV,go_sem,seval]
        have hF:F acc (nth (nth fst i) k)=YK acc (nth (nth fst i) k).price (YY x.orders.length m x fst sk 20 ⟨j,w,[b0,b1,b2,b3,b4,b5]⟩):=by
         show (if _ then _ else _)=_
         rw [if_pos (by grind),hwc,Jc hc 19 20 _ v1 (by grind) (by grind),hw]
        exact ⟨(k+1,l2),⟨Za,hl2⟩,Za,Weak.mk (by simp (disch:=omega) only [hs1,hF,go_sem,seval])⟩
      ·rw [if_neg hy] at cw;refine cw.useP (L:= [_,_,_]) (by rfl) ?_ (by rfl) (by rfl);refine Bj ?_;have hF:F acc (nth (nth fst i) k)=acc:=if_neg (by grind);exact ⟨(k+1,l1),⟨Za,hl1⟩,Za,Weak.mk (by simp (disch:=omega) only [hs1,hF,go_sem,seval])⟩
     ·have hkl:k=(nth fst i).length:=Za
      subst hkl;rw [X3] at hacc
      have hTe:T=if 0<=nth sk i then YK acc (nth sk i) (YY x.orders.length m x fst sk 19 (De x.orders.length m ⟨i,v,[a0,a1,a2,a3,a4,a5]⟩)) else acc:=by
       rw [hT,show (20:Nat)=19+1 from rfl,YY,if_neg Za,<- hacc]
       rfl
      refine Xd (Zd ?_);refine cD ?_ ?_<;>intro h3<;>simp (disch:=omega) only [Sh.out h3,go_sem,seval,↓reduceIte]
      ·have cn:=HT x (.list fc (fst.map Y7)) (.list sc (sk.map eI)) m l1 ⟨i,v,[a0,a1,a2,a3,a4,a5]⟩ hv.len Zb hn (by grind);obtain ⟨v1,v2⟩:=IY (m:=m) hv (by grind);obtain ⟨j,w,b0,b1,b2,b3,b4,b5,hw⟩:=YF v1.len;have hsk:=hc.skp i Za;have hrg:=VW (m:=m) hc 20 _ v1;rw [hw] at cn v1 v2 hrg;simp only at v2;refine cn.useP (L:= [_,_]) (by rfl) ?_ (by rfl) (by rfl);refine Bj ?_;have c3:=((ih ⟨j,w,[b0,b1,b2,b3,b4,b5]⟩ l1 Za v1 (by grind) hl1).mono (fun y H' hq=>(⟨hq,by obtain ⟨l',_,_,rfl⟩:=hq;rfl⟩:_/\H'.length=(YL x (.list fc (fst.map Y7)) (.list sc (sk.map eI)) m l1).length))).front (by rfl) (by rfl) [Bi ⟨i,v,[a0,a1,a2,a3,a4,a5]⟩,.cells [.p (.int .i64 acc)]]
       refine ACalls.mono c3 ?_;rintro y H' ⟨H1,⟨l2,hl2,rfl,rfl⟩,rfl⟩;refine F8 ?_;refine ACalls.mono ((L7 acc (nth sk i) (YY x.orders.length m x fst sk 20 ⟨j,w,[b0,b1,b2,b3,b4,b5]⟩) Za Za).back [.map (l2.map (Mk AI)),Vr x (.list fc (fst.map Y7)) (.list sc (sk.map eI)) m,Bi ⟨i,v,[a0,a1,a2,a3,a4,a5]⟩] (by rfl)) ?_;rintro y H' ⟨y1,H2,⟨rfl,rfl⟩,rfl,rfl⟩;simp (disch:=omega) only [Vr,Bi,Zq,Zj,ZL,ZD,shO,shVs,shV,go_sem,seval];refine ZB 6 mixed Zg Zg ?_
       refine Zd ?_;refine Lb (l:=l2) (k:=(⟨i,v,[a0,a1,a2,a3,a4,a5]⟩:St)) OY (fun p hp=>(hl2 p hp).1.len) hv.len (by rfl) fun l3 _ hl3=> ?_;simp (disch:=omega) only [ZY,go_sem,seval];rw [if_pos h3,Jc hc 19 20 _ (by grind) (by grind) (by grind),hw] at hTe;rw [<- hTe];exact ⟨.p (.int .i64 T),_,wk,l3,fun p hp=>(hl3 p hp).elim (hl2 p) (fun e=>by grind),rfl,rfl⟩
      ·refine ZB 6 mixed Zg Zg (Zd ?_);refine Lb (l:=l1) (k:=(⟨i,v,[a0,a1,a2,a3,a4,a5]⟩:St)) OY hl1R hv.len (by rfl) fun l3 _ hl3=> ?_;simp (disch:=omega) only [ZY,go_sem,seval];rw [if_neg h3] at hTe;rw [<- hTe];exact ⟨.p (.int .i64 T),_,wk,l3,fun p hp=>(hl3 p hp).elim (hl1 p) (fun e=>by grind),rfl,rfl⟩
def Lp (n:Nat) (m:Int) (x:Inst) (fst:List (List Col)) (sk:List Int) (s:St) (c:Col):Bool :=
 Yz x s c&&(decide (0<=YY n m x fst sk 20 (Vp n m s c))&&decide (c.price+YY n m x fst sk 20 (Vp n m s c)=YY n m x fst sk 20 s))
def Ym (n:Nat) (m:Int) (x:Inst) (fst:List (List Col)) (sk:List Int):Nat->St->List Col×List Int
 | 0,_=>([],[])
 | d+1,s=>if (n:Int)<=s.ix then ([],[]) else match (nth fst s.ix.toNat).find? (Lp n m x fst sk s) with
  | some c=>(c::(Ym n m x fst sk d (Vp n m s c)).1,(Ym n m x fst sk d (Vp n m s c)).2)
  | none=>((Ym n m x fst sk d (De n m s)).1,s.ix::(Ym n m x fst sk d (De n m s)).2)
theorem Mt {α:Type} [Inhabited α] {p:α->Bool} : ∀ {l:List α} {k:Nat},k<l.length->(∀j,j<k->p (nth l j)=false)->p (nth l k)=true->l.find? p=some (nth l k)
 | [],_,h,_,_=>by simp at h
 | a::l,0,_,_,h=>by
  grind [nth]
 | a::l,k+1,hk,h0,h=>by
  rw [List.find?_cons_of_neg (by rw [show p a=false from h0 0 Za];simp)];exact Mt (l:=l) (k:=k) (by simpa using hk) (fun j hj=>h0 (j+1) Za) h
theorem oS {α:Type} [Inhabited α] {p:α->Bool} {l:List α} (h: ∀j,j<l.length->p (nth l j)=false):l.find? p=none:=by
 rw [JF];intro a ha;obtain ⟨j,hj,rfl⟩:=ZN.1 ha
 grind [Zk]
theorem Zb0 (X:AM.Obj) (hX: ∀H n,EC H n X X) (hX2: ∀o xs,Rt o xs X=X) (x:Inst) (fst:List (List Col)) (sk:List Int) (fc sc:Bool) (m:Int) (hn:x.orders.length<=10) (hf:fst.length=x.orders.length) (hs:sk.length=x.orders.length) (hc:ChOk x.orders.length x fst sk) (hcl: ∀r∈fst,r.length<=1048576)
  (s:St) (l:List (St×Int)) (hv:StV x.orders.length s) (hl:uN x.orders.length m x fst sk l) :
  ACalls Tryz.prog 108 [.ptr 1 0,.p (AI s)] (YL x (.list fc (fst.map Y7)) (.list sc (sk.map eI)) m l++ [X]) fun y H'=> ∃l' A B,uN x.orders.length m x fst sk l'/\(A,B)=Ym x.orders.length m x fst sk 20 s /\
   y= .tup [.sl 4 0 A.length A.length,.p (.list false (B.map eI))]/\H'=YL x (.list fc (fst.map Y7)) (.list sc (sk.map eI)) m l'++ [X,.cells (List.replicate 8 .junk),.elems 7 (A.map Xj)]:=by
 obtain ⟨i,v,a0,a1,a2,a3,a4,a5,rfl⟩:=YF hv.len;obtain ⟨D,hD⟩: ∃D,D=20:=⟨20,rfl⟩;obtain ⟨R,hR⟩: ∃R,R=Ym x.orders.length m x fst sk D ⟨i,v,[a0,a1,a2,a3,a4,a5]⟩:=⟨_,rfl⟩;rw [<- hD,<- hR];have hi0:=hv.ix;simp only at hi0;refine Ze [20] Tryz.func108 rfl xS ?_;simp (disch:=omega) only [Tryz.f108,ZL,ZD,YL,Vr,Zq,Zj,go_sem,seval]
 refine ZV [20] [0,3] (fun q:Nat×St×List (St×Int)×List Col×List Int=> [(6,.sl 4 0 q.2.2.2.1.length q.2.2.2.1.length),(7,.sl 5 0 q.2.2.2.2.length q.2.2.2.2.length)])
  (fun q=>YL x (.list fc (fst.map Y7)) (.list sc (sk.map eI)) m q.2.2.1++ [X,Bi q.2.1,.elems 7 (q.2.2.2.1.map Xj),.elems 1 (q.2.2.2.2.map eI)])
  (fun q=>q.1<=D/\StV x.orders.length q.2.1/\(x.orders.length:Int)-q.2.1.ix<q.1/\uN x.orders.length m x fst sk q.2.2.1/\(q.2.2.2.1.length:Int)<=q.2.1.ix/\(q.2.2.2.2.length:Int)<=q.2.1.ix/\R=(q.2.2.2.1++(Ym x.orders.length m x fst sk q.1 q.2.1).1,q.2.2.2.2++(Ym x.orders.length m x fst sk q.1 q.2.1).2))
  (fun q=>q.1) (D,⟨i,v,[a0,a1,a2,a3,a4,a5]⟩,l,[],[]) ⟨Zb,hv,by grind,hl,by grind,by grind,by rw [hR];rfl⟩
  (Weak.ofNil 6 7 (by simp (disch:=omega) only [go_sem,seval]) Zb (Weak.ofNil 7 1 (by simp (disch:=omega) only [go_sem,seval]) Zb (Weak.mk ?_))) ?_
 ·simp (disch:=omega) only [hX,YL,Vr,Bi,Zq,Zj,ZL,ZD,ZF,go_sem,seval,↓reduceIte]
 ·rintro ⟨d,s,l1,A,B⟩ ⟨hd1,hsv,hd,hl1,hA,hB,hq⟩;simp only at hd1 hsv hd hl1 hA hB hq;clear hv hR hi0;obtain ⟨i,v,a0,a1,a2,a3,a4,a5,rfl⟩:=YF hsv.len;have hi0:=hsv.ix;simp only at hi0 hd hA hB hq;obtain ⟨i,rfl⟩: ∃k:Nat,i=k:=⟨i.toNat,Za⟩;obtain ⟨d,rfl⟩: ∃k,d=k+1:=⟨d-1,Za⟩;refine F8 ?_;refine Xd ?_;refine Zd ?_;refine cD ?_ ?_<;>intro h1<;>simp (disch:=omega) only [Sh.out h1,go_sem,seval,↓reduceIte]
  ·have hi2:i<fst.length:=Za
   have hrl:=hcl _ (ZX hi2);have c3:=((D8 x fst sk fc sc m hn hf hs hc hcl 20 ⟨i,v,[a0,a1,a2,a3,a4,a5]⟩ l1 Za hsv (by grind) hl1).mono (fun y H' hq=>(⟨hq,by obtain ⟨l',_,_,rfl⟩:=hq;rfl⟩:_/\H'.length=(YL x (.list fc (fst.map Y7)) (.list sc (sk.map eI)) m l1).length))).front (by rfl) (by rfl) [X,Bi ⟨i,v,[a0,a1,a2,a3,a4,a5]⟩,.elems 7 (A.map Xj),.elems 1 (B.map eI)];refine ACalls.mono c3 ?_;rintro y H' ⟨H1,⟨l2,hl2,rfl,rfl⟩,rfl⟩;clear hl1 c3;obtain ⟨W,hW⟩: ∃W,W=YY x.orders.length m x fst sk 20 ⟨i,v,[a0,a1,a2,a3,a4,a5]⟩:=⟨_,rfl⟩
   rw [<- hW]
   have hWr: -1<=W/\W<=20*18014398509481984:=by rw [hW];exact VW hc 20 _ hsv
   refine F8 ?_;refine Xd (Zd ?_);refine Zl [0,3,7,8,34,35] (fun q:Nat×List (St×Int)=> [(6,.sl 4 0 A.length A.length),(9,.p (.bool false)),(36,.p (.int .i64 q.1))]) (fun q=>YL x (.list fc (fst.map Y7)) (.list sc (sk.map eI)) m q.2++ [X,Bi ⟨i,v,[a0,a1,a2,a3,a4,a5]⟩,.elems 7 (A.map Xj),.elems 1 (B.map eI)]) (fun q=>q.1<=(nth fst i).length/\uN x.orders.length m x fst sk q.2/\ ∀j,j<q.1->Lp x.orders.length m x fst sk ⟨i,v,[a0,a1,a2,a3,a4,a5]⟩ (nth (nth fst i) j)=false) (fun q=>(nth fst i).length-q.1) (0,l2) ⟨Zb,hl2,fun j hj=>by simp at hj⟩ (Weak.mk ?_) ?_
   ·simp (disch:=omega) only [hX,YL,Vr,Bi,Zq,Zj,ZL,ZD,go_sem,seval,↓reduceIte]
   ·rintro ⟨k,l1⟩ ⟨hk,hl1,hno⟩;simp only at hk hl1 hno;refine F8 ?_;refine cD ?_ ?_<;>intro h2<;>simp (disch:=omega) only [Sh.out h2,go_sem,seval,↓reduceIte]
    ·have hk2:k<(nth fst i).length:=Za
     have hm:=ZX hk2;obtain ⟨⟨t0,t1⟩,⟨S,hS,hS2⟩,hb,hp0,hp1⟩:=hc.col i Za _ hm;obtain ⟨C,hC,hC2⟩:=hsv.cov;simp only at hC;have h6:=hc.typ.1;obtain ⟨tt,htt⟩: ∃tt:Nat,(nth (nth fst i) k).typ=tt:=⟨(nth (nth fst i) k).typ.toNat,Za⟩;have cw:=lU x (.list fc (fst.map Y7)) (.list sc (sk.map eI)) m l1 ⟨i,v,[a0,a1,a2,a3,a4,a5]⟩ (nth (nth fst i) k) hsv.len Zb hn (by grind) C S tt hC hS htt hC2 hS2 Za h6 hsv.used
     have hmay:Yz x ⟨i,v,[a0,a1,a2,a3,a4,a5]⟩ (nth (nth fst i) k)=DW x ⟨i,v,[a0,a1,a2,a3,a4,a5]⟩ tt C S:=by grind [Yz]
     have hwc:Vp x.orders.length m ⟨i,v,[a0,a1,a2,a3,a4,a5]⟩ (nth (nth fst i) k)=CP x.orders.length m ⟨i,v,[a0,a1,a2,a3,a4,a5]⟩ tt C S:=by grind [Vp]
     have more:Lp x.orders.length m x fst sk ⟨i,v,[a0,a1,a2,a3,a4,a5]⟩ (nth (nth fst i) k)=false-> ∀j,j<k+1->Lp x.orders.length m x fst sk ⟨i,v,[a0,a1,a2,a3,a4,a5]⟩ (nth (nth fst i) j)=false:=fun h j hj=>by
      grind
     by_cases hy:DW x ⟨i,v,[a0,a1,a2,a3,a4,a5]⟩ tt C S=true
     ·obtain ⟨v1,v2⟩:=EA (m:=m) hc hsv Za (by simpa using hm) (by grind);rw [hwc] at v1 v2;obtain ⟨j,w,b0,b1,b2,b3,b4,b5,hw⟩:=YF v1.len;rw [if_pos hy,hw] at cw;refine cw.useP (L:= [_,_,_,_,_]) (by rfl) ?_ (by rfl) (by rfl);refine Bj ?_;have c3:=((D8 x fst sk fc sc m hn hf hs hc hcl 20 ⟨j,w,[b0,b1,b2,b3,b4,b5]⟩ l1 Za (hw ▸ v1) (by grind) hl1).mono (fun y H' hq=>(⟨hq,by obtain ⟨l',_,_,rfl⟩:=hq;rfl⟩:_/\H'.length=(YL x (.list fc (fst.map Y7)) (.list sc (sk.map eI)) m l1).length))).front (by rfl) (by rfl) [X,Bi ⟨i,v,[a0,a1,a2,a3,a4,a5]⟩,.elems 7 (A.map Xj),.elems 1 (B.map eI),Iv (nth (nth fst i) k),Bi ⟨j,w,[b0,b1,b2,b3,b4,b5]⟩]
      refine ACalls.mono c3 ?_;rintro y H' ⟨H1,⟨l3,hl3,rfl,rfl⟩,rfl⟩;have hTr:=VW (m:=m) hc 20 _ v1
      have hsel:Lp x.orders.length m x fst sk ⟨i,v,[a0,a1,a2,a3,a4,a5]⟩ (nth (nth fst i) k)=(decide (0<=YY x.orders.length m x fst sk 20 ⟨j,w,[b0,b1,b2,b3,b4,b5]⟩)&&decide ((nth (nth fst i) k).price+YY x.orders.length m x fst sk 20 ⟨j,w,[b0,b1,b2,b3,b4,b5]⟩=W)):=by
       rw [Lp,hmay,hy,hwc,hw,hW,Vl]
      rw [hw] at hTr;generalize YY x.orders.length m x fst sk 20 ⟨j,w,[b0,b1,b2,b3,b4,b5]⟩=T at hTr hsel;simp (disch:=omega) only [YL,Vr,Bi,Iv,Zq,Zj,ZL,ZD,go_sem,seval];refine gT ?_ ?_<;>intro h3<;>simp (disch:=omega) only [Sh.out h3,go_sem,seval,↓reduceIte]
      ·refine cD ?_ ?_<;>intro h4<;>simp (disch:=omega) only [Sh.out h4,go_sem,seval,↓reduceIte]
       ·rw [Un h3,Un h4,Vl] at hsel
        have hp:Ym x.orders.length m x fst sk (d+1) ⟨i,v,[a0,a1,a2,a3,a4,a5]⟩=(nth (nth fst i) k::(Ym x.orders.length m x fst sk d ⟨j,w,[b0,b1,b2,b3,b4,b5]⟩).1,(Ym x.orders.length m x fst sk d ⟨j,w,[b0,b1,b2,b3,b4,b5]⟩).2):=by
         rw [Ym,if_neg (by grind)];simp only [XS,Mt hk2 hno hsel,hwc,hw]
        rw [hw] at v1 v2;simp only at v2;rw [hp] at hq;exact ⟨(d,⟨j,w,[b0,b1,b2,b3,b4,b5]⟩,l3,A++ [nth (nth fst i) k],B),⟨Za,v1,by grind,hl3,by grind,by grind,by grind⟩,Za,Weak.mk (by simp (disch:=omega) only [hX,Zq,Zj,Xn,Zz,ZA,ZF,Xh,go_sem,seval])⟩
       ·rw [U1 h4,Bool.and_false] at hsel;exact ⟨(k+1,l3),⟨Za,hl3,more hsel⟩,Za,Weak.mk (by simp (disch:=omega) only [hX,go_sem,seval])⟩
      ·rw [U1 h3,Qp] at hsel;exact ⟨(k+1,l3),⟨Za,hl3,more hsel⟩,Za,Weak.mk (by simp (disch:=omega) only [hX,go_sem,seval])⟩
     ·rw [if_neg hy] at cw;refine cw.useP (L:= [_,_,_,_,_]) (by rfl) ?_ (by rfl) (by rfl);refine Bj ?_;exact ⟨(k+1,l1),⟨Za,hl1,more (by rw [Lp,hmay,Bool.eq_false_iff.2 hy,Qp])⟩,Za,Weak.mk (by simp (disch:=omega) only [hX,go_sem,seval])⟩
    ·have hkl:k=(nth fst i).length:=Za
     subst hkl
     have hp:Ym x.orders.length m x fst sk (d+1) ⟨i,v,[a0,a1,a2,a3,a4,a5]⟩=((Ym x.orders.length m x fst sk d (De x.orders.length m ⟨i,v,[a0,a1,a2,a3,a4,a5]⟩)).1,(i:Int)::(Ym x.orders.length m x fst sk d (De x.orders.length m ⟨i,v,[a0,a1,a2,a3,a4,a5]⟩)).2):=by
      simp_all [Ym,oS]
     rw [hp] at hq;have cn:=HT x (.list fc (fst.map Y7)) (.list sc (sk.map eI)) m l1 ⟨i,v,[a0,a1,a2,a3,a4,a5]⟩ hsv.len Zb hn (by grind);obtain ⟨v1,v2⟩:=IY (m:=m) hsv Za;obtain ⟨j,w,b0,b1,b2,b3,b4,b5,hw⟩:=YF v1.len;rw [hw] at cn v1 v2 hq;simp only at v2;refine cn.useP (L:= [_,_,_,_,_]) (by rfl) ?_ (by rfl) (by rfl);refine Bj ?_;exact ⟨(d,⟨j,w,[b0,b1,b2,b3,b4,b5]⟩,l1,A,B++ [(i:Int)]),⟨Za,v1,by grind,hl1,by grind,by grind,by grind⟩,Za,Weak.mk (by simp (disch:=omega) only [hX,Zq,Zj,Xn,Zz,ZA,ZF,Xh,go_sem,seval])⟩
  ·rw [Ym,if_pos (by grind)] at hq;simp only [Yt] at hq;subst hq;refine Zo (Weak.fz (o:=5) (by rfl)) (Zh [] _ _ _ _ (Jl ?_));exact ⟨.tup [.sl 4 0 A.length A.length,.p (.list false (B.map eI))],_,Weak.mk (by simp (disch:=omega) only [hX,hX2,go_sem,seval]),l1,A,B,hl1,rfl,rfl,rfl⟩
def IB (a:List Int) (i:Nat):Nat->Bool
 | 0=>true
 | k+1=>IB a i k&&decide (nth a k≠nth a i)
theorem MA {a:List Int} {i:Nat} : ∀k,IB a i k=true↔ ∀t,t<k->nth a t≠nth a i
 | 0=>by simp [IB]
 | k+1=>by
  rw [IB,Zw,MA k,Zs]
  grind
def Tm (a:List Int) (i:Nat):Bool:=IB a i i
theorem Fc {a:List Int} {i:Nat} :Tm a i=true↔ ∀t,t<i->nth a t≠nth a i:=MA i
def CM (l:List Col) (a:List Int) (T:Int) (i:Nat):Bool:=decide (0<=nth a i)&&(decide ((nth l (nth a i).toNat).typ=T)&&Tm a i)
def usdI (l:List Col) (a:List Int) (T:Int):Nat->Nat
 | 0=>0
 | i+1=>usdI l a T i+(if CM l a T i=true then 1 else 0)
def Qc (S:Nat) (a:List Int) (j:Int):List Int:=(List.range a.length).map fun i=>if S.testBit i=true then j else nth a i
theorem Jh {S:Nat} {a:List Int} {j:Int} :(Qc S a j).length=a.length:=by simp [Qc]
theorem XK {S:Nat} {a:List Int} {j:Int} {i:Nat} (h:i<a.length):nth (Qc S a j) i=if S.testBit i=true then j else nth a i:=by
 grind [Qc,Zk]
def pV (S:Nat) (a:List Int) (k:Nat):Bool:=(List.range a.length).all fun i=> !S.testBit i||(decide (nth a i<0)&&decide (k<=i))
theorem An {S:Nat} {a:List Int} {k:Nat} :pV S a k=true↔ ∀i,i<a.length->S.testBit i=true->nth a i<0/\k<=i:=by
 simp only [pV,ZC,ZR,W1,XN,Zw,Zs]
 grind
def DQ (x:Inst) (l:List Col) (a:List Int) (j k:Nat):Bool :=
 (nth l j).set.toNat.testBit k&&(decide ((usdI l a (nth l j).typ a.length:Int)<(nth x.types (nth l j).typ.toNat).count)&&pV (nth l j).set.toNat a k)
def skR (x:Inst) (k:Nat):Int:=(YW (unsF x k).1).1
def B9 (x:Inst) (l:List Col):Nat->List Int->Int->List (List Int×Int)
 | 0,a,p=> [(a,p)]
 | d+1,a,p=>if (nth x.orders (x.orders.length-(d+1))).off=true\/0<=nth a (x.orders.length-(d+1)) then B9 x l d a p else
  ((List.range l.length).flatMap fun j=>if DQ x l a j (x.orders.length-(d+1))=true then B9 x l d (Qc (nth l j).set.toNat a j) (p+(nth l j).price) else []) ++
   (if 0<=(nth x.orders (x.orders.length-(d+1))).penalty then B9 x l d a (p+skR x (x.orders.length-(d+1))) else [])
theorem Ik (n:Nat) (hn:n<=60):PC 86 [.p (.int .i64 n)] (.int .i64 (pw n:Nat)):=by
 refine Zc Tryz.func86 rfl Zh8 ?_;simp (disch:=omega) only [Tryz.f86,go_sem,seval];refine Zl [0] (fun k:Nat=> [(3,.p (.int .i64 (pw k:Nat))),(4,.p (.int .i64 k))]) (fun _=> []) (fun k=>k<=n) (fun k=>n-k) 0 Zb (Weak.mk ?_) ?_
 ·refine Zd ?_;simp [pw]
 ·intro k hk;have h62:pw k<=pw 62:=Kc Za;have h63:k<n->pw (k+1)<=pw 62:=fun h=>Kc Za;have h64:=Ex k;have h65:=FJ;refine Zd ?_;refine cD ?_ ?_<;>intro h<;>simp (disch:=omega) only [Sh.out h,go_sem,seval,↓reduceIte]
  ·exact ⟨k+1,Za,Za,Weak.mk (by refine Zd ?_;simp [h64])⟩
  grind
theorem IG (s:Nat) (i:Nat) (hs:s<9223372036854775808) (hi:i<=64):PC 151 [.p (.int .i64 s),.p (.int .i64 i)] (.bool (s.testBit i)):=by
 refine Zc Tryz.func151 rfl yS ?_;simp (disch:=omega) only [Tryz.f151,go_sem,seval];refine Zl [1] (fun k:Nat=> [(0,.p (.int .i64 (hv s k:Nat))),(5,.p (.int .i64 k))]) (fun _=> []) (fun k=>k<=i) (fun k=>i-k) 0 Zb (Weak.mk ?_) ?_
 ·simp (disch:=omega) only [Rz,go_sem,seval]
 ·intro k hk;have e1:=Ry s k;have h1:=tN s k;refine Zd ?_;refine ZU ?_ ?_<;>intro h
  ·exact ⟨k+1,Za,Za,Weak.mk (by refine Zd ?_;grind)⟩
  ·have:k=i:=Za
   subst this;rw [gG]
   have:((hv s k:Nat):Int)%2=1↔hv s k%2=1:=Za
   grind
structure Chc where
 found:Bool
 places:List Int
 price:Int
 deriving Inhabited
def Uv (x:Inst) (lc:Bool) (l:List Col) (b:Chc):AM.Obj:= .cells [.p (.list x.net.places_c (x.net.places.map eS)),.p (.list x.net.arcs_c (x.net.arcs.map Vs)),.p (.list x.types_c (x.types.map XU)),.p (.list x.orders_c (x.orders.map eOrd)),.p (.list x.apart_c (x.apart.map eP)),.p (.list x.before_c (x.before.map eP)),.p (.list lc (l.map Xj)),.p (.bool b.found),.p (.list (!b.found) (b.places.map eI)),.p (.int .i64 b.price)]
theorem Sn {l:List Col} {a:List Int} {T:Int} : ∀m,usdI l a T m<=m
 | 0=>ZI _
 | m+1=>by
  have:=Sn (l:=l) (a:=a) (T:=T) m;rw [usdI];split<;>omega
theorem CJ {P Q:Prop} (h:Q) (e:Q->P:=by intro h;simp (disch:=omega) only [Uv,go_sem,seval];exact h):P:=e h
theorem lL (x:Inst) (lc:Bool) (l:List Col) (b:Chc) (a:List Int) (T:Int) (ha:a.length<=1048576) (hr: ∀i,i<a.length-> -1<=nth a i/\nth a i<l.length) (hl:l.length<=1048576) :
  ACalls Tryz.prog 153 [.ptr 0 0,.p (.list false (a.map eI)),.p (.int .i64 T)] [Uv x lc l b] fun y H'=>y= .p (.int .i64 (usdI l a T a.length:Nat))/\H'= [Uv x lc l b]:=by
 refine Ze [] Tryz.func153 rfl yU ?_;simp (disch:=omega) only [Tryz.f153,Uv,go_sem,seval];refine Zl [0,1,2] (fun k:Nat=> [(7,.p (.int .i64 (usdI l a T k:Nat))),(8,.p (.int .i64 k))]) (fun _=> [Uv x lc l b]) (fun k=>k<=a.length) (fun k=>a.length-k) 0 Zb (Weak.mk ?_) ?_
 ·have h00:((usdI l a T 0:Nat):Int)=0:=rfl;simp (disch:=omega) only [h00,Uv,go_sem,seval,↓reduceIte]
 ·intro k hk;have hu:=Sn (l:=l) (a:=a) (T:=T) k;refine CJ ?_;refine cD ?_ ?_<;>intro h1<;>simp (disch:=omega) only [Sh.out h1,go_sem,seval,↓reduceIte]
  ·have hk2:k<a.length:=Za
   have hrk:=hr k hk2;refine Xd (Zd ?_);refine gF ?_ ?_<;>intro h2<;>simp (disch:=omega) only [Sh.out h2,go_sem,seval,↓reduceIte]
   ·have e:usdI l a T (k+1)=usdI l a T k:=by grind [usdI,CM]
    exact ⟨k+1,Za,Za,Weak.mk (by simp (disch:=omega) only [e,go_sem,seval])⟩
   ·refine cD ?_ ?_<;>intro h3<;>simp (disch:=omega) only [Sh.out h3,go_sem,seval,↓reduceIte]
    ·have e:usdI l a T (k+1)=usdI l a T k:=by grind [usdI,CM]
     exact ⟨k+1,Za,Za,Weak.mk (by simp (disch:=omega) only [e,go_sem,seval])⟩
    ·have h3':(nth l (nth a k).toNat).typ=T:=Z4.1 h3;refine Zl [0,1,2,7,8] (fun q:Nat=> [(9,.p (.bool (IB a k q))),(10,.p (.int .i64 q))]) (fun _=> [Uv x lc l b]) (fun q=>q<=k) (fun q=>k-q) 0 Zb (Weak.mk ?_) ?_
     ·simp (disch:=omega) only [Uv,IB,go_sem,seval,↓reduceIte]
     ·intro q hq;refine CJ ?_;refine cD ?_ ?_<;>intro h4<;>simp (disch:=omega) only [Sh.out h4,go_sem,seval,↓reduceIte]
      ·refine ZB 12 mixed Zg Zg (Zd ?_);refine gT ?_ ?_<;>intro h5<;>simp (disch:=omega) only [Sh.out h5,go_sem,seval,↓reduceIte]
       ·exact ⟨q+1,Za,Za,Weak.mk (by simp (disch:=omega) only [IB,h5,Vl,go_sem,seval])⟩
       ·exact ⟨q+1,Za,Za,Weak.mk (by simp (disch:=omega) only [IB,h5,Qp,go_sem,seval])⟩
      ·have hqk:q=k:=Za
       subst hqk;refine cD ?_ ?_<;>intro h5<;>simp (disch:=omega) only [Sh.out h5,go_sem,seval,↓reduceIte]
       ·have e:usdI l a T (q+1)=usdI l a T q+1:=by grind [usdI,CM,Tm]
        exact ⟨q+1,Za,Za,Weak.mk (by simp (disch:=omega) only [e,go_sem,seval])⟩
       ·have e:usdI l a T (q+1)=usdI l a T q:=by grind [usdI,CM,Tm]
        exact ⟨q+1,Za,Za,Weak.mk (by simp (disch:=omega) only [e,go_sem,seval])⟩
  ·have hka:k=a.length:=Za
   subst hka;exact we
def KN (S:Nat) (a:List Int) (j:Int) (k:Nat):List Int:=(List.range a.length).map fun t=>if t<k/\S.testBit t=true then j else nth a t
theorem V6 {S:Nat} {a:List Int} {j:Int} {k:Nat} :(KN S a j k).length=a.length:=by simp [KN]
theorem KO {S:Nat} {a:List Int} {j:Int} {k i:Nat} (h:i<a.length):nth (KN S a j k) i=if i<k/\S.testBit i=true then j else nth a i:=by
 grind [KN,Zk]
theorem aS {S:Nat} {a:List Int} {j:Int} :KN S a j 0=a :=
 U2 V6 fun i hi=>by simp_all [V6,KO]
theorem kU {S:Nat} {a:List Int} {j:Int} :KN S a j a.length=Qc S a j :=
 U2 (by rw [V6,Jh]) fun i hi=>by grind [V6,KO,XK]
theorem kV {S:Nat} {a:List Int} {j:Int} {k:Nat} (hk:k<a.length) (hb:S.testBit k=true):(KN S a j k).set k j=KN S a j (k+1) :=
 U2 (by simp [V6]) fun i hi=>by
  rw [Vk,V6] at hi;rw [Ci (by rw [V6];exact hk),KO hi,KO hi]
  grind
theorem rH {S:Nat} {a:List Int} {j:Int} {k:Nat} (hb:S.testBit k=false):KN S a j (k+1)=KN S a j k:=by
 refine Vi fun i _=> ?_
 grind
theorem lS (x:Inst) (lc:Bool) (l:List Col) (b:Chc) (a:List Int) (j k:Nat) (ha:0<a.length/\a.length<=60) (hl:l.length<=1048576) (hj:j<l.length) (S:Nat) (hS:(nth l j).set=S) (hS2:S<9223372036854775808) :
  ACalls Tryz.prog 154 [.ptr 0 0,.p (.list false (a.map eI)),.p (.int .i64 j),.p (.int .i64 k)] [Uv x lc l b] fun y H'=>y=(if pV S a k=true then .tup [.p (.list false ((Qc S a j).map eI)),.p (.bool true)] else .tup [.p (.list true []),.p (.bool false)])/\H'= [Uv x lc l b]:=by
 refine Ze [10] Tryz.func154 rfl yV ?_;simp (disch:=omega) only [Tryz.f154,Uv,go_sem,seval];rw [if_pos ⟨Za,Za⟩];refine Zd ?_;refine ZV [10] [0,2,3,10] (fun q:Nat=> [(11,.p (.int .i64 q))]) (fun q=> [Uv x lc l b,.elems 1 ((KN S a j q).map eI)]) (fun q=>q<=a.length/\ ∀t,t<q->S.testBit t=true->nth a t<0/\k<=t) (fun q=>a.length-q) 0 ⟨Zb,fun t ht=>Za⟩ (Weak.mk ?_) ?_
 ·simp (disch:=omega) only [aS,Uv,go_sem,seval,↓reduceIte]
 ·rintro q ⟨hq,hok⟩;have hul:(KN S a j q).length=a.length:=V6;refine CJ ?_;rw [if_pos hul];refine Zd ?_;refine cD ?_ ?_<;>intro h1<;>simp (disch:=omega) only [Sh.out h1,go_sem,seval,↓reduceIte]
  ·have hq2:q<a.length:=Za
   rw [hS];refine (IG S q hS2 Za).use (Zd ?_);have hn:=KO (S:=S) (j:=(j:Int)) (k:=q) hq2;rw [if_neg Za] at hn;refine cD ?_ ?_<;>intro h2<;>simp (disch:=omega) only [Sh.out h2,go_sem,seval,↓reduceIte]
   ·have hq3:q<(KN S a j q).length:=Za
    simp (disch:=first | omega | (simp only [ZA,ZF,Zz,Zy,Z6,Xt]<;>omega)) only [Ve hq3,hn,hq2,hul,eq_self,go_sem,seval,↓reduceIte];refine gF ?_ ?_<;>intro h3<;>simp (disch:=omega) only [Sh.out h3,go_sem,seval,↓reduceIte]
    ·have hno:pV S a k=false:=by
      grind [An]
     exact ⟨.tup [.p (.list true []),.p (.bool false)],_,wk,by rw [hno];rfl,rfl⟩
    ·refine cD ?_ ?_<;>intro h4<;>simp (disch:=omega) only [Sh.out h4,go_sem,seval]
     ·have hno:pV S a k=false:=by
       grind [An]
      exact ⟨.tup [.p (.list true []),.p (.bool false)],_,wk,by rw [hno];rfl,rfl⟩
     ·have ZJ:((KN S a j q).map eI).set q (.int .i64 j)=(KN S a j (q+1)).map eI:=by rw [<- kV hq2 h2,Up];rfl
      simp (disch:=first | omega | (simp only [ZA,ZF,Zz,Zy,Z6,Xt]<;>omega)) only [ZJ,hn,eq_self,go_sem,seval,↓reduceIte]
      exact ⟨q+1,⟨Za,fun t ht hb=>by
       grind⟩,Za,wk⟩
   ·have hu:KN S a j (q+1)=KN S a j q:=rH h2
    exact ⟨q+1,⟨Za,fun t ht hb=>by
     grind⟩,Za,Weak.mk (by simp (disch:=omega) only [hu,go_sem,seval])⟩
  ·have hqa:q=a.length:=Za
   subst hqa;have hyes:pV S a k=true:=An.2 hok;rw [hyes,if_pos rfl,kU];have hal:(Qc S a j).length=a.length:=Jh;refine Zo (Weak.fz (o:=1) (by rfl)) ?_;refine Zh [] _ _ _ _ ?_;simp (disch:=omega) only [Zq,Zj,ZK,ZY,hal,eq_self,go_sem,seval];exact ⟨.tup [.p (.list false ((Qc S a j).map eI)),.p (.bool true)],_,wk,rfl,rfl⟩
def Kf (l:List Col):List Int->List Int->Option Bool
 | x::a,y::b=>if x=y then Kf l a b else if x<0\/y<0 then some (decide (0<=x)) else if (nth l x.toNat).typ≠(nth l y.toNat).typ then some (decide ((nth l x.toNat).typ<(nth l y.toNat).typ)) else
   if (nth l x.toNat).set≠(nth l y.toNat).set then some (decide ((nth l x.toNat).set<(nth l y.toNat).set)) else Kf l a b
 | _,_=>none
def DO : List Int->List Int->Bool
 | x::a,y::b=>if x=y then DO a b else decide (x<y)
 | _,_=>false
def ES (l:List Col) (a b:List Int):Bool:=match Kf l a b with
 | some r=>r
 | none=>DO a b
theorem L4 {l:List Col} :Kf l [] []=none:=by simp [Kf]
theorem dH : DO [] []=false:=by simp [DO]
theorem Rk {α:Type} [Inhabited α] {l:List α} {k:Nat} (h:k<l.length):l.drop k=nth l k::l.drop (k+1):=by
 grind [Zk,VD]
theorem Q1 {l:List Col} {a b:List Int} {r:Bool} (h:Kf l a b=some r):ES l a b=r:=by rw [ES,h]
theorem GP {l:List Col} {a b:List Int} (h:Kf l a b=none):ES l a b=DO a b:=by rw [ES,h]
def cO (c:Col):AM.Obj:= .cells ((Xj c).cells.map .p)
theorem Ot (x:Inst) (lc:Bool) (l:List Col) (b:Chc) (a d:List Int) (dc:Bool) (ha:a.length<=1048576) (hd:d.length=a.length) (hr: ∀i,i<a.length-> -1<=nth a i/\nth a i<l.length) (hq: ∀i,i<a.length-> -1<=nth d i/\nth d i<l.length) (hl:l.length<=1048576) :
  ACalls Tryz.prog 152 [.ptr 0 0,.p (.list false (a.map eI)),.p (.list dc (d.map eI))] [Uv x lc l b] fun y H'=>y= .p (.bool (ES l a d))/\H'= [Uv x lc l b]:=by
 obtain ⟨B,hB⟩: ∃B,B=ES l a d:=⟨_,rfl⟩;rw [<- hB];refine Ze [] Tryz.func152 rfl yT ?_;simp (disch:=omega) only [Tryz.f152,Uv,go_sem,seval];refine Zl [0,1,2] (fun k:Nat=> [(7,.p (.int .i64 k))]) (fun _=> [Uv x lc l b]) (fun k=>k<=a.length/\Kf l (a.drop k) (d.drop k)=Kf l a d) (fun k=>a.length-k) 0 Zb (Weak.mk ?_) ?_
 ·simp (disch:=omega) only [Uv,go_sem,seval,↓reduceIte]
 ·rintro k ⟨hk,hb⟩;refine CJ ?_;refine cD ?_ ?_<;>intro h1<;>simp (disch:=omega) only [Sh.out h1,go_sem,seval,↓reduceIte]
  ·have hk2:k<a.length:=Za
   have hk3:k<d.length:=Za
   have hrk:=hr k hk2;have hqk:=hq k hk2;rw [Rk hk2,Rk hk3,Kf] at hb;refine Xd (Zd ?_);refine cD ?_ ?_<;>intro h2<;>simp (disch:=omega) only [Sh.out h2,go_sem,seval,↓reduceIte]
   ·rw [if_pos h2] at hb;exact ⟨k+1,⟨Za,hb⟩,Za,wk⟩
   ·rw [if_neg h2] at hb;refine gF ?_ ?_<;>intro h3<;>simp (disch:=omega) only [Sh.out h3,go_sem,seval,↓reduceIte]
    ·rw [if_pos (.inl h3)] at hb;have e:=Q1 hb.symm;exact ⟨.p (.bool B),_,Weak.mk (by simp (disch:=omega) only [hB,e,go_sem,seval]),rfl,rfl⟩
    ·refine cD ?_ ?_<;>intro h4<;>simp (disch:=omega) only [Sh.out h4,go_sem,seval,↓reduceIte]
     ·rw [if_pos (.inr h4)] at hb;have e:=Q1 hb.symm;exact ⟨.p (.bool B),_,Weak.mk (by simp (disch:=omega) only [hB,e,go_sem,seval]),rfl,rfl⟩
     ·rw [if_neg Za] at hb;refine XR [10] 11 mixed Zg Zg Zg Zb (Zd ?_);refine Xl 10 _ _ Zg (by refine Zd ?_;exact ⟨rfl,rfl⟩) (Y9 ?_);refine Zd ?_;refine XR [10] 11 mixed Zg Zg Zg Zb (Zd ?_);refine Xl 10 _ _ Zg (by refine Zd ?_;exact ⟨rfl,rfl⟩) (Y9 ?_);refine Zd ?_;refine cD ?_ ?_<;>intro h5<;>simp (disch:=omega) only [Sh.out h5,go_sem,seval,↓reduceIte]
      ·rw [if_pos h5] at hb;have e:=Q1 hb.symm;exact ⟨.p (.bool B),_,Weak.mk (by simp (disch:=omega) only [hB,e,go_sem,seval]),rfl,rfl⟩
      ·rw [if_neg h5] at hb;refine cD ?_ ?_<;>intro h6<;>simp (disch:=omega) only [Sh.out h6,go_sem,seval,↓reduceIte]
       ·rw [if_pos h6] at hb;have e:=Q1 hb.symm;exact ⟨.p (.bool B),_,Weak.mk (by simp (disch:=omega) only [hB,e,go_sem,seval]),rfl,rfl⟩
       ·rw [if_neg h6] at hb;exact ⟨k+1,⟨Za,hb⟩,Za,wk⟩
  ·have hka:k=a.length:=Za
   subst hka;rw [Uk,<- hd,Uk,L4] at hb;have e:=GP hb.symm;refine Zl [1,2] (fun k:Nat=> [(10,.p (.int .i64 k))]) (fun _=> [Uv x lc l b]) (fun k=>k<=a.length/\DO (a.drop k) (d.drop k)=DO a d) (fun k=>a.length-k) 0 Zb (Weak.mk ?_) ?_
   ·simp (disch:=omega) only [Uv,go_sem,seval]
   ·rintro k ⟨hk,hb⟩;refine CJ ?_;refine cD ?_ ?_<;>intro h2<;>simp (disch:=omega) only [Sh.out h2,go_sem,seval,↓reduceIte]
    ·have hk2:k<a.length:=Za
     have hk3:k<d.length:=Za
     rw [Rk hk2,Rk hk3,DO] at hb;refine Xd (Zd ?_);refine ZU ?_ ?_<;>intro h3
     ·rw [if_neg h3] at hb;refine ZB 9 mixed Zg Zg (Zd ?_);exact ⟨.p (.bool B),_,Weak.mk (by simp (disch:=omega) only [hB,e,<- hb,go_sem,seval]),rfl,rfl⟩
     ·rw [if_pos (Z4.1 h3)] at hb;exact ⟨k+1,⟨Za,hb⟩,Za,wk⟩
    ·have hka:k=a.length:=Za
     subst hka;rw [Uk,<- hd,Uk,dH] at hb;exact ⟨.p (.bool B),_,Weak.mk (by simp (disch:=omega) only [hB,e,<- hb,go_sem,seval]),rfl,rfl⟩
def YE (l:List Col) (b:Chc) (q:List Int×Int):Chc:=if b.found=false\/q.2<b.price\/(q.2=b.price/\ES l q.1 b.places=true) then ⟨true,q.1,q.2⟩ else b
def RngA (x:Inst) (l:List Col) (a:List Int):Prop:=a.length=x.orders.length/\ ∀i,i<x.orders.length-> -1<=nth a i/\nth a i<l.length
def ChB (x:Inst) (l:List Col) (b:Chc):Prop:=b.found=true->RngA x l b.places
theorem F1 {x:Inst} {l:List Col} {a:List Int} {S j:Nat} (h:RngA x l a) (hj:j<l.length):RngA x l (Qc S a j) :=
 ⟨by rw [Jh];exact h.1,fun i hi=>by
  rw [XK (by rw [h.1];exact hi)]
  split
  ·omega
  ·exact h.2 i hi⟩
theorem Aj {x:Inst} {l:List Col} : ∀(d:Nat) {a:List Int} {p:Int},RngA x l a-> ∀q∈B9 x l d a p,RngA x l q.1
 | 0,a,p,h,q,hq=>by
  simp_all [B9]
 | d+1,a,p,h,q,hq=>by
  rw [B9] at hq
  split at hq
  ·exact Aj d h q hq
  ·rw [Xg,X2] at hq;rcases hq with ⟨j,hj,hq⟩ | hq
   ·split at hq
    ·exact Aj d (F1 h (ZR.1 hj)) q hq
    ·simp at hq
   ·split at hq
    ·exact Aj d h q hq
    ·simp at hq
theorem LB {x:Inst} {l:List Col} : ∀ {L:List (List Int×Int)} {b:Chc},ChB x l b->(∀q∈L,RngA x l q.1)->ChB x l (L.foldl (YE l) b)
 | [],_,h,_=>h
 | q::L,b,h,hL=>by
  rw [XG];refine LB (L:=L) ?_ fun q hq=>hL q (X9 _ hq);unfold YE
  split
  ·exact fun _=>hL q Zb
  ·exact h
structure ColsR (x:Inst) (l:List Col):Prop where
 n4:x.orders.length<=4
 t6:x.types.length<=6
 len:l.length<=1048576
 col: ∀c∈l,(0<=c.typ/\c.typ<x.types.length)/\(0<=c.price/\c.price<=18014398509481984)/\ ∃S:Nat,c.set=S/\S<16
 sk: ∀k,k<x.orders.length->(nth x.orders k).off=false->0<=(nth x.orders k).penalty->0<=skR x k/\skR x k<=18014398509481984
 us: ∀i,scoR 1152921504606846976 (unsF x i).1
theorem oP {P:Program} {f:FuncId} {az:List V} {z:PV} {O:AM.Obj} {L:List AM.Obj} {B:V->Prop} {t} (h:ACalls P f az [O] fun y H'=>y= .p z/\H'= [O]) (k:B (.p z)) (ha:Xi 1 az=true:=by rfl) (hf:refH 1 [O]=true:=by rfl) :
  Tf (fun y=>ACalls P f az (O::L) (Zt (Zt (fun x H'=>x=y/\H'=O::L) ⟨⟩) ⟨⟩)) (Zt B t) :=
 ⟨.p z,h.useP (L:=L) rfl ⟨rfl,rfl⟩ ha hf,k⟩
theorem ZjM {P:Program} {f:FuncId} {az:List V} {v:V} {O:AM.Obj} {L:List AM.Obj} {K:V->List AM.Obj->Prop} (h:ACalls P f az [O] fun y H'=>y=v/\H'= [O]) (k:K v (O::L)) (ha:Xi 1 az=true:=by rfl) (hf:refH 1 [O]=true:=by rfl):ACalls P f az (O::L) K :=
 h.useP (L:=L) rfl k ha hf
def mM (x:Inst) (lc:Bool) (l:List Col) (d:Nat):Prop:= ∀(a:List Int) (p:Int) (b:Chc),d<=x.orders.length->RngA x l a->0<=p->p+(d:Int)*18014398509481984<=90071992547409920->ChB x l b ->
  ACalls Tryz.prog 116 [.ptr 0 0,.p (.list false (a.map eI)),.p (.int .i64 ((x.orders.length-d:Nat):Int)),.p (.int .i64 p)] [Uv x lc l b] fun y H'=>y= .tup []/\H'= [Uv x lc l ((B9 x l d a p).foldl (YE l) b)]
theorem rW (x:Inst) (lc:Bool) (l:List Col) (hC:ColsR x l):mM x lc l 0:=by
 intro a p b hd ha hp0 hp1 hb;have h4:=hC.n4;have hl:=hC.len;obtain ⟨R,hR⟩: ∃R,R=Uv x lc l ((B9 x l 0 a p).foldl (YE l) b):=⟨_,rfl⟩;rw [<- hR,Nat.sub_zero];simp only [B9,XG,Um] at hR;refine Ze [] Tryz.func116 rfl gM ?_;obtain ⟨f,bp,bc⟩:=b
 cases f with
 | false =>
  rw [YE,if_pos (.inl rfl)] at hR;simp (disch:=omega) only [Tryz.f116,Uv,WE,go_sem,seval];exact ⟨_,[R],Weak.mk (by simp (disch:=omega) only [hR,Uv,Yu,go_sem,seval]),rfl,rfl⟩
 | true =>
  simp (disch:=omega) only [Tryz.f116,Uv,Yu,go_sem,seval];refine gF ?_ ?_<;>intro h1<;>simp (disch:=omega) only [Sh.out h1,go_sem,seval,↓reduceIte]
  ·rw [YE,if_pos (.inr (.inl h1))] at hR;exact ⟨_,[R],Weak.mk (by simp (disch:=omega) only [hR,Uv,Yu,go_sem,seval]),rfl,rfl⟩
  ·refine gT ?_ ?_<;>intro h2<;>simp (disch:=omega) only [Sh.out h2,go_sem,seval,↓reduceIte]
   ·have hq:=hb rfl;refine ACalls.mono (Ot x lc l ⟨true,bp,bc⟩ a bp (!true) (by rw [ha.1];omega) (by rw [ha.1];exact hq.1) (fun i hi=>ha.2 i (by rw [<- ha.1];exact hi)) (fun i hi=>hq.2 i (by rw [<- ha.1];exact hi)) hl) ?_;rintro y H' ⟨rfl,rfl⟩;simp (disch:=omega) only [Uv,Yu,go_sem,seval];refine cD ?_ ?_<;>intro h3<;>simp (disch:=omega) only [Sh.out h3,go_sem,seval,↓reduceIte]
    ·rw [YE,if_pos (.inr (.inr ⟨h2,h3⟩))] at hR;exact ⟨_,[R],Weak.mk (by simp (disch:=omega) only [hR,Uv,Yu,go_sem,seval]),rfl,rfl⟩
    ·rw [YE,if_neg (fun h=>h.elim (fun h=>by cases h) fun h=>h.elim (fun h=>h1 h) fun h=>by grind)] at hR;exact ⟨_,[R],Weak.mk (by simp (disch:=omega) only [hR,Uv,Yu,go_sem,seval]),rfl,rfl⟩
   ·rw [YE,if_neg (fun h=>h.elim (fun h=>by cases h) fun h=>h.elim (fun h=>h1 h) fun h=>h2 h.1)] at hR;exact ⟨_,[R],Weak.mk (by simp (disch:=omega) only [hR,Uv,Yu,go_sem,seval]),rfl,rfl⟩
theorem rX (x:Inst) (lc:Bool) (l:List Col) (hC:ColsR x l) (d:Nat) (ih:mM x lc l d):mM x lc l (d+1):=by
 intro a p b hd ha hp0 hp1 hb;have h4:=hC.n4;have h6:=hC.t6;have hl:=hC.len;obtain ⟨k,hk⟩: ∃k,k=x.orders.length-(d+1):=⟨_,rfl⟩
 have hk1:k<x.orders.length:=Za
 have hkd:x.orders.length-d=k+1:=Za
 obtain ⟨R,hR⟩: ∃R,R=Uv x lc l ((B9 x l (d+1) a p).foldl (YE l) b):=⟨_,rfl⟩;rw [<- hR,<- hk];rw [B9,<- hk] at hR;have hla:a.length=x.orders.length:=ha.1
 have hka:k<a.length:=Za
 refine Ze [] Tryz.func116 rfl gM ?_;simp (disch:=omega) only [Tryz.f116,Uv,go_sem,seval]
 have nxt: ∀(a':List Int) (p':Int) (b':Chc) (L:List AM.Obj) (K:V->List AM.Obj->Prop),RngA x l a'->0<=p'->p'+(d:Int)*18014398509481984<=90071992547409920->ChB x l b'->K (.tup []) (Uv x lc l ((B9 x l d a' p').foldl (YE l) b')::L) ->
   ACalls Tryz.prog 116 [.ptr 0 0,.p (.list false (a'.map eI)),.p (.int .i64 ((k:Int)+1)),.p (.int .i64 p')] (Uv x lc l b'::L) K:=fun a' p' b' L K h1 h2 h3 h5 hK=>by
  have hi:=ih a' p' b' Za h1 h2 h3 h5;rw [hkd] at hi;refine ((hi.mono fun y H' hq=>(⟨hq,by grind⟩:_/\H'.length= [Uv x lc l b'].length)).front (by rfl) (by rfl) L).mono ?_
  grind
 refine cD ?_ ?_<;>intro h0<;>simp (disch:=omega) only [Sh.out h0,go_sem,seval,↓reduceIte]
 ·omega
 ·cases ho:(nth x.orders k).off with
  | true =>
   rw [if_pos (.inl ho)] at hR;refine Zd ?_;refine nxt a p b [_] _ ha hp0 Za hb (CJ ?_);exact ⟨_,[R],Weak.mk (by simp (disch:=omega) only [hR,Uv,go_sem,seval]),rfl,rfl⟩
  | false =>
   refine Zd ?_;refine cD ?_ ?_<;>intro h1<;>simp (disch:=omega) only [Sh.out h1,go_sem,seval]
   ·rw [if_pos (.inr h1)] at hR;refine nxt a p b [_] _ ha hp0 Za hb (CJ ?_);exact ⟨_,[R],Weak.mk (by simp (disch:=omega) only [hR,Uv,go_sem,seval]),rfl,rfl⟩
   ·rw [if_neg (by grind)] at hR;obtain ⟨G,hG⟩: ∃G:Nat->List (List Int×Int),G=fun j=>if DQ x l a j k=true then B9 x l d (Qc (nth l j).set.toNat a j) (p+(nth l j).price) else []:=⟨_,rfl⟩;rw [<- hG,List.foldl_append] at hR
    have hGr: ∀q:Nat,q<=l.length-> ∀e∈(List.range q).flatMap G,RngA x l e.1:=fun q hq e he=>by
     obtain ⟨j,hj,he⟩:=X2.1 he;rw [hG] at he;simp only at he
     split at he
     ·exact Aj d (F1 ha (by grind)) e he
     ·simp at he
    have hGs: ∀q:Nat,((List.range (q+1)).flatMap G).foldl (YE l) b=(G q).foldl (YE l) (((List.range q).flatMap G).foldl (YE l) b):=fun q=>by
     grind [X4]
    obtain ⟨B,hB⟩: ∃B:Nat->Chc,B=fun q=>((List.range q).flatMap G).foldl (YE l) b:=⟨_,rfl⟩
    have hBs: ∀q,B (q+1)=(G q).foldl (YE l) (B q):=fun q=>by grind
    have hB0:B 0=b:=by rw [hB];simp
    have hBc: ∀q,q<=l.length->ChB x l (B q):=fun q hq=>by rw [hB];exact LB hb (hGr q hq)
    have hRB:R=Uv x lc l ((if 0<=(nth x.orders k).penalty then B9 x l d a (p+skR x k) else []).foldl (YE l) (B l.length)):=by rw [hR,hB]
    clear hR hGs hGr hB;refine Zl [0,1,2,3,9] (fun q:Nat=> [(10,.p (.int .i64 q))]) (fun q=> [Uv x lc l (B q),YA (nth x.orders k)]) (fun q=>q<=l.length) (fun q=>l.length-q) 0 Zb (Weak.mk ?_) ?_
    ·simp (disch:=omega) only [Uv,YA,hB0,ho,go_sem,seval,↓reduceIte]
    ·intro q hq;simp (disch:=omega) only [Uv,YA,ho,go_sem,seval];refine cD ?_ ?_<;>intro h2<;>simp (disch:=omega) only [Sh.out h2,go_sem,seval,↓reduceIte]
     ·have hq2:q<l.length:=Za
      obtain ⟨⟨t0,t1⟩,⟨c0,c1⟩,S,hS,hS2⟩:=hC.col _ (Zu hq2);refine Xd (Zd ?_)
      have hST:(nth l q).set.toNat=S:=Za
      have hGq:DQ x l a q k=(S.testBit k&&(decide ((usdI l a (nth l q).typ a.length:Int)<(nth x.types (nth l q).typ.toNat).count)&&pV S a k)):=by rw [DQ,hST]
      have hnx: ∀c:Bool,DQ x l a q k=c->B (q+1)=(if c=true then (B9 x l d (Qc S a q) (p+(nth l q).price)).foldl (YE l) (B q) else B q):=fun c hc=>by
       rw [hBs,hG];simp only [hST,hc]
       cases c<;>simp
      rw [hS];refine Zn (IG S k Za Za) (Zd ?_);refine gT ?_ ?_<;>intro h3<;>simp (disch:=omega) only [Sh.out h3,go_sem,seval,↓reduceIte]
      ·refine oP (lL x lc l (B q) a (nth l q).typ Za (fun i hi=>ha.2 i Za) hl) (Zd ?_);refine cD ?_ ?_<;>intro h4<;>simp (disch:=omega) only [Sh.out h4,go_sem,seval,↓reduceIte]
       ·have hw:=lS x lc l (B q) a q k ⟨Za,Za⟩ hl hq2 S hS Za
        cases hok:pV S a k with
        | true =>
         rw [hok,if_pos rfl] at hw;refine ZjM hw (Zd ?_);have e:=hnx true (by grind);rw [if_pos rfl] at e;refine nxt (Qc S a q) (p+(nth l q).price) (B q) [_] _ (F1 ha hq2) Za Za (hBc q Za) (CJ ?_);exact ⟨q+1,Za,Za,Weak.mk (by simp (disch:=omega) only [e,ho,go_sem,seval])⟩
        | false =>
         rw [hok,if_neg Zb] at hw;refine ZjM hw (Zd ?_);have e:=hnx false (by grind);rw [if_neg Zb] at e;exact ⟨q+1,Za,Za,Weak.mk (by simp (disch:=omega) only [e,ho,go_sem,seval])⟩
       ·have e:=hnx false (by grind);rw [if_neg Zb] at e;exact ⟨q+1,Za,Za,Weak.mk (by simp (disch:=omega) only [e,ho,go_sem,seval])⟩
      ·have e:=hnx false (by grind);rw [if_neg Zb] at e;exact ⟨q+1,Za,Za,Weak.mk (by simp (disch:=omega) only [e,ho,go_sem,seval])⟩
     ·have hql:q=l.length:=Za
      subst hql;refine cD ?_ ?_<;>intro h3<;>simp (disch:=omega) only [Sh.out h3,go_sem,seval,↓reduceIte]
      ·rw [if_pos h3] at hRB;have hsk:=hC.sk k hk1 ho h3;refine Y5 (LA x k Za) (Zd ?_);refine Y5 (Gf (unsF x k).1 (hC.us k)) (Zd ?_);have e1:(YW (unsF x k).1).1=skR x k:=rfl;rw [e1];refine Zd ?_;refine nxt a (p+skR x k) (B l.length) [_,_] _ ha Za Za (hBc _ (ZI _)) (CJ ?_);exact ⟨_,[R],Weak.mk (by simp (disch:=omega) only [hRB,Uv,go_sem,seval]),rfl,rfl⟩
      ·rw [if_neg h3] at hRB;exact ⟨_,[R],Weak.mk (by simp (disch:=omega) only [hRB,Uv,Um,go_sem,seval]),rfl,rfl⟩
theorem Sm (x:Inst) (lc:Bool) (l:List Col) (hC:ColsR x l): ∀d,mM x lc l d
 | 0=>rW x lc l hC
 | d+1=>rX x lc l hC d (Sm x lc l hC d)
def E2 (s:Sr):PV:= .agg [.int .i64 s.rdy,.int .i64 s.drv]
@[go_sem] theorem Zmd (s:Sr):E2 s= .agg [.int .i64 s.rdy,.int .i64 s.drv]:=Zm rfl rfl
theorem Zi7 {a b:Sr} :a=b↔a.rdy=b.rdy/\a.drv=b.drv:=by cases a;cases b;simp
theorem pD (l:List Sr) (c:Bool) (s:Sr) (hl:l.length<=1048576):ACalls Tryz.prog 223 [.p (.list c (l.map E2)),.p (E2 s)] [] fun y H'=> ∃i:Int,(0<=i↔s∈l)/\y= .p (.int .i64 i)/\H'= []:=by
 refine Ze [] Tryz.func223 rfl Zas ?_;simp (disch:=omega) only [Tryz.f223,go_sem,seval];refine Zl [0,3,7] (fun k:Nat=> [(8,.p (.int .i64 k))]) (fun _=> [.cells [.p (.int .i64 s.rdy),.p (.int .i64 s.drv)]]) (fun k=>k<=l.length/\ ∀j,j<k->nth l j≠s) (fun k=>l.length-k) 0 ⟨Zb,fun j hj=>Za⟩ (Weak.mk ?_) ?_
 ·simp (disch:=omega) only [go_sem,seval,↓reduceIte]
 ·rintro k ⟨hk,hno⟩;refine Zd ?_;refine cD ?_ ?_<;>intro h1<;>simp (disch:=omega) only [Sh.out h1,go_sem,seval,↓reduceIte]
  ·have hk2:k<l.length:=Za
   refine Xd (Zd ?_);refine cD ?_ ?_<;>intro h2<;>simp (disch:=omega) only [Sh.out h2,go_sem,seval,↓reduceIte]
   ·exact ⟨.p (.int .i64 k),[],wk,k,⟨fun _=>(Zi7.2 h2) ▸ ZX hk2,fun _=>Za⟩,rfl,rfl⟩
   ·exact ⟨k+1,⟨Za,fun j hj=>by
     grind⟩,Za,wk⟩
  ·exact ⟨.p (.int .i64 (-1)),[],wk,-1,⟨fun h=>Za,fun h=>by
    obtain ⟨j,hj,rfl⟩:=ZN.1 h
    grind [Zk]⟩,rfl,rfl⟩
theorem Rw (l:List Sr) (c:Bool) (s:Sr) (hl:l.length<=1048576):PC 200 [.p (.list c (l.map E2)),.p (E2 s)] (.bool (decide (s∈l))):=by
 refine Ze [] Tryz.func200 rfl zZ ?_;simp (disch:=omega) only [Tryz.f200,go_sem,seval];refine ((pD l c s hl).behind (by rfl) _).mono ?_;rintro y H' ⟨y1,H1,⟨i,hi,rfl,rfl⟩,rfl,rfl⟩
 have e:decide (0<=i)=decide (s∈l):=by grind
 simp (disch:=omega) only [shV,Zj,e,go_sem,seval];exact ⟨.p (.bool (decide (s∈l))),[],wk,rfl,rfl⟩
theorem Ty {l:List Sr} {s:Sr} :(Uu l s).length<=l.length+1:=by grind [Uu]
theorem OV (l:List Sr) (s:Sr) (hl:l.length<=1048576):ACalls Tryz.prog 171 [.sl 0 0 l.length l.length,.p (E2 s)] [.elems 2 (l.map E2)] fun y H'=>y= .sl 0 0 (Uu l s).length (Uu l s).length/\H'= [.elems 2 ((Uu l s).map E2)]:=by
 obtain ⟨M,hM⟩: ∃M,M=Uu l s:=⟨_,rfl⟩;rw [<- hM];refine Ze [] Tryz.func171 rfl gS ?_;simp (disch:=omega) only [Tryz.f171,go_sem,seval];refine ACalls.view (Rw l false s hl) (by simp [vws,vw,oat,Lw]<;>rfl) (by rfl) ?_;refine Zd ?_;refine cD ?_ ?_<;>intro h<;>simp (disch:=omega) only [Sh.out h,go_sem,seval,↓reduceIte]
 ·have e:M=l:=by simp_all [Uu]
  exact ⟨.sl 0 0 M.length M.length,[.elems 2 (M.map E2)],Weak.mk (by simp (disch:=omega) only [e,go_sem,seval]),rfl,rfl⟩
 ·have e:M=l++ [s]:=by simp_all [Uu]
  exact ⟨.sl 0 0 M.length M.length,[.elems 2 (M.map E2)],Weak.mk (by simp (disch:=omega) only [e,Xn,Zq,Zj,Zz,ZA,ZF,Xh,go_sem,seval]),rfl,rfl⟩
theorem pI (s:Sr):ACalls Tryz.prog 171 [.p (.list true []),.p (E2 s)] [] fun y H'=>y= .sl 0 0 1 1/\H'= [.elems 2 [E2 s]]:=by
 refine Uw (fn:=Tryz.f171) (by rfl) Tryz.func171 rfl gS ?_;simp (disch:=omega) only [Tryz.f171,go_sem,seval];refine (Rw [] true s Zb).use ?_;simp (disch:=omega) only [W0,JN,go_sem,seval];exact ⟨2,rfl,rfl⟩
def Yo (x:Inst) (k:Int) (S tot:Nat) (b:Col×Bool):AM.Obj:= .cells [.p (.list x.net.places_c (x.net.places.map eS)),.p (.list x.net.arcs_c (x.net.arcs.map Vs)),.p (.list x.types_c (x.types.map XU)),.p (.list x.orders_c (x.orders.map eOrd)),.p (.list x.apart_c (x.apart.map eP)),.p (.list x.before_c (x.before.map eP)),.p (.int .i64 k),.p (.int .i64 S),.p (.int .i64 tot),.p (.int .i64 b.1.typ),.p (.int .i64 b.1.set),.p (.int .i64 b.1.price),.p (.int .i64 b.1.route.typ),.p (.int .i64 b.1.route.start),.p (.list b.1.route.rests_c (b.1.route.rests.map eB)),.p (.list b.1.route.visits_c (b.1.route.visits.map Z3)),.p (.bool b.2)]
theorem Ba {t:Typ} {l:List Sr} {d v:Int} :(Vo t l d v).length<=l.length+2:=by
 grind [Vo,Uu]
theorem qV (x:Inst) (k:Int) (S tot:Nat) (b:Col×Bool) (stop:Stp) (l:List Sr) (d v:Int) (hk:0<=k/\k<x.types.length) (ht:x.types.length<=1048576) (hl:l.length<=1000000) (hd:0<=d/\d<=1048576) (hr:0<=(nth x.types k.toNat).rest/\(nth x.types k.toNat).rest<=1048576) :
  ACalls Tryz.prog 134 [.ptr 0 0,.sl 3 0 l.length l.length,.p (.int .i64 d),.p (.int .i64 v)] [Yo x k S tot b,.cells ((AG stop).map .p),.cells ((Ko (nth x.types k.toNat)).map .p),.elems 2 (l.map E2)] fun y H'=>y= .sl 3 0 (Vo (nth x.types k.toNat) l d v).length (Vo (nth x.types k.toNat) l d v).length/\H'= [Yo x k S tot b,.cells ((AG stop).map .p),.cells ((Ko (nth x.types k.toNat)).map .p),.elems 2 ((Vo (nth x.types k.toNat) l d v).map E2)]:=by
 obtain ⟨L1,h1⟩: ∃L1,L1=Uu l ⟨d,v⟩:=⟨_,rfl⟩;obtain ⟨L2,h2⟩: ∃L2,L2=Vo (nth x.types k.toNat) l d v:=⟨_,rfl⟩
 have h12:Uu L1 ⟨d+(nth x.types k.toNat).rest,0⟩=L2:=by rw [h1,h2];rfl
 have hl1:L1.length<=l.length+1:=by rw [h1];exact Ty
 rw [<- h2];have c1:=OV l ⟨d,v⟩ Za;have c2:=OV L1 ⟨d+(nth x.types k.toNat).rest,0⟩ Za;rw [<- h1] at c1;rw [h12] at c2;obtain ⟨O,hO⟩: ∃O,O=Yo x k S tot b:=⟨_,rfl⟩;refine Ze [] Tryz.func134 rfl gP ?_;simp (disch:=omega) only [Tryz.f134,AG,Ko,Zq,Zj,go_sem,seval];refine ACalls.mono (c1.back [Yo x k S tot b,.cells ((AG stop).map .p),.cells ((Ko (nth x.types k.toNat)).map .p)] (by rfl)) ?_;rintro y H' ⟨y1,H1,⟨rfl,rfl⟩,rfl,rfl⟩;simp (disch:=omega) only [shV,shO,Yo,AG,Ko,Zq,Zj,ZL,ZD,go_sem,seval]
 refine ZB 16 mixed Zg Zg (Zd ?_);refine ACalls.mono (c2.back [Yo x k S tot b,.cells ((AG stop).map .p),.cells ((Ko (nth x.types k.toNat)).map .p)] (by rfl)) ?_;rintro y H' ⟨y1,H1,⟨rfl,rfl⟩,rfl,rfl⟩;simp (disch:=omega) only [shV,shO,Yo,AG,Ko,Zq,Zj,ZL,ZD,go_sem,seval];exact ⟨.sl 3 0 L2.length L2.length,[Yo x k S tot b,.cells ((AG stop).map .p),.cells ((Ko (nth x.types k.toNat)).map .p),.elems 2 (L2.map E2)],Weak.mk (by simp (disch:=omega) only [Yo,AG,Ko,Zq,Zj,go_sem,seval]),rfl,rfl⟩
def Gz (s:Stp) (a:Int):Int×Int:=if s.cls<max a s.opn then (0,14) else (max a s.opn+s.serv,0)
theorem eV (s:Stp) (a:Int) (ha: -1099511627776<=a/\a<=1099511627776) (hs:0<=s.serv/\s.serv<=1048576) (ho: -1099511627776<=s.opn/\s.opn<=1099511627776):PT 199 [.p (E3 s),.p (.int .i64 a)] [.p (.int .i64 (Gz s a).1),.p (.int .i64 (Gz s a).2)]:=by
 refine Ze [] Tryz.func199 rfl zY ?_;simp (disch:=omega) only [Tryz.f199,go_sem,seval];refine Y5 (P6 s a) ?_
 have hm: -1099511627776<=max a s.opn/\max a s.opn<=1099511627776:=Za
 by_cases h:s.cls<max a s.opn
 ·have e:ET s a=(0,14):=by simp_all [ET]
  have e2:Gz s a=(0,14):=by rw [Gz,if_pos h]
  rw [e,e2];refine Zd ?_;exact we
 ·have e:ET s a=(max a s.opn,0):=by simp_all [ET]
  have e2:Gz s a=(max a s.opn+s.serv,0):=by rw [Gz,if_neg h]
  rw [e,e2];refine Zd ?_;exact we
def Gm (m:Int) (st:List Sr):Prop:= ∀a∈st,(0<=a.rdy/\a.rdy<=16384)/\(-m<=a.drv/\a.drv<=4096)
theorem sF (x:Inst) (k:Int) (S tot:Nat) (b:Col×Bool) (p:Int) (st:List Sr) (c:Bool) (stop:Stp) (m:Int) (hm:0<=m/\m<=1048576) (hk:0<=k/\k<x.types.length) (ht:x.types.length<=1048576) (hT:TrpOk x (nth x.types k.toNat) [stop]) (hl:st.length<=1000) (hst:Gm m st) :
  ACalls Tryz.prog 169 [.ptr 0 0,.p (.int .i64 p),.p (.list c (st.map E2)),.p (E3 stop)] [Yo x k S tot b] fun y H'=>y= .p (.list false ((Dv x (nth x.types k.toNat) p st stop).map E2))/\H'= [Yo x k S tot b]:=by
 obtain ⟨W,hV⟩: ∃W:Nat->List Sr,W=fun q=>(st.take q).foldl (Jp x (nth x.types k.toNat) p stop) []:=⟨_,rfl⟩
 have hV0:W 0= []:=by rw [hV];rfl
 have hVn:Dv x (nth x.types k.toNat) p st stop=W st.length:=by grind [Dv]
 have hVs: ∀q,q<st.length->W (q+1)=Jp x (nth x.types k.toNat) p stop (W q) (nth st q):=fun q hq=>by
  grind [Xm,Zk]
 have hVl: ∀q,q<=st.length->(W q).length<=2*q:=fun q=>by
  induction q with
  | zero=>grind
  | succ q ih =>
   intro hq;rw [hVs q Za];have:=ih Za;unfold Jp
   split
   ·omega
   ·split
    ·omega
    grind [Ba]
 rw [hVn];clear hV hVn;refine Ze [12] Tryz.func169 rfl zF ?_;simp (disch:=omega) only [Tryz.f169,Yo,go_sem,seval];refine XR [11] 12 mixed Zg Zg Zg Zb (Zd ?_);refine Xl 11 _ _ Zg (by refine Zd ?_;exact ⟨rfl,rfl⟩) (Y9 ?_);refine Zd ?_;refine ZV [12] [0,1,7,9,28,29] (fun q:Nat=> [(10,.sl 3 0 (W q).length (W q).length),(30,.p (.int .i64 q))]) (fun q=> [Yo x k S tot b,.cells ((AG stop).map .p),.cells ((Ko (nth x.types k.toNat)).map .p),.elems 2 ((W q).map E2)]) (fun q=>q<=st.length) (fun q=>st.length-q) 0 Zb (Weak.ofNil 10 2 (by simp (disch:=omega) only [go_sem,seval]) Zb (Weak.mk ?_)) ?_
 ·simp (disch:=omega) only [hV0,Yo,AG,Ko,Zq,Zj,ZF,go_sem,seval,↓reduceIte]
 ·intro q hq;have hql:=hVl q hq;simp (disch:=omega) only [Yo,AG,Ko,Zq,Zj,go_sem,seval];refine cD ?_ ?_<;>intro h1<;>simp (disch:=omega) only [Sh.out h1,go_sem,seval,↓reduceIte]
  ·have hq2:q<st.length:=Za
   obtain ⟨a1,a2⟩:=hst _ (ZX hq2);have hsn:=hVs q hq2;have hg:=(ID (n:=x.net) (pr:=(nth x.types k.toNat).prof) (f:=p) (t:=stop.place) (τ:=(nth st q).rdy) hT.net hT.mil Za).1;refine Xd (Zd ?_);refine E5 (tY x.net (nth x.types k.toNat).prof p stop.place (nth st q).rdy hT.net Za) (Zd ?_);refine gF ?_ ?_<;>intro h2<;>simp (disch:=omega) only [Sh.out h2,go_sem,seval,↓reduceIte]
   ·have e:W (q+1)=W q:=by simp_all [Jp]
    exact ⟨q+1,Za,Za,Weak.mk (by simp (disch:=omega) only [e,go_sem,seval])⟩
   ·refine cD ?_ ?_<;>intro h3<;>simp (disch:=omega) only [Sh.out h3,go_sem,seval,↓reduceIte]
    ·have e:W (q+1)=W q:=by simp_all [Jp]
     exact ⟨q+1,Za,Za,Weak.mk (by simp (disch:=omega) only [e,go_sem,seval])⟩
    ·obtain ⟨z1,z2,z3,z4,z5⟩:=hT.stp stop Zb;obtain ⟨r1,r2⟩:=hT.rst;refine Y5 (eV stop (WM x.net (nth x.types k.toNat).prof p stop.place (nth st q).rdy).1 Za Za Za) ?_
     by_cases hc:stop.cls<max (WM x.net (nth x.types k.toNat).prof p stop.place (nth st q).rdy).1 stop.opn
     ·have e2:Gz stop (WM x.net (nth x.types k.toNat).prof p stop.place (nth st q).rdy).1=(0,14):=by rw [Gz,if_pos hc]
      rw [e2];refine Zd ?_
      have e:W (q+1)=W q:=by simp_all [Jp]
      exact ⟨q+1,Za,Za,Weak.mk (by simp (disch:=omega) only [e,go_sem,seval])⟩
     ·have e2:Gz stop (WM x.net (nth x.types k.toNat).prof p stop.place (nth st q).rdy).1=(max (WM x.net (nth x.types k.toNat).prof p stop.place (nth st q).rdy).1 stop.opn+stop.serv,0):=by rw [Gz,if_neg hc]
      rw [e2];refine Zd ?_
      have e:W (q+1)=Vo (nth x.types k.toNat) (W q) (max (WM x.net (nth x.types k.toNat).prof p stop.place (nth st q).rdy).1 stop.opn+stop.serv) ((nth st q).drv+(WM x.net (nth x.types k.toNat).prof p stop.place (nth st q).rdy).1-(nth st q).rdy):=by simp_all [Jp,if_neg]
      have cr:=qV x k S tot b stop (W q) (max (WM x.net (nth x.types k.toNat).prof p stop.place (nth st q).rdy).1 stop.opn+stop.serv) ((nth st q).drv+(WM x.net (nth x.types k.toNat).prof p stop.place (nth st q).rdy).1-(nth st q).rdy) hk ht Za Za Za;rw [<- e] at cr;refine cr.useP (L:= [_]) (by rfl) ?_ (by rfl) (by rfl);simp (disch:=omega) only [Yo,AG,Ko,Zq,Zj,ZL,ZD,go_sem,seval];exact ⟨q+1,Za,Za,wk⟩
  ·have hqs:q=st.length:=Za
   subst hqs;refine Zo (Weak.fz (o:=3) (by rfl)) ?_;refine Zh [] _ _ _ _ ?_;simp (disch:=omega) only [Zq,Zj,ZK,ZY,eq_self,go_sem,seval];exact ⟨.p (.list false ((W st.length).map E2)),[Yo x k S tot b],Weak.mk (by simp (disch:=omega) only [Yo,go_sem,seval]),rfl,rfl⟩
theorem Oy (a b:Col) (ha:a.route.visits.length<=1048576) (hb:b.route.visits.length<=1048576):PC 166 [.p (Xj a),.p (Xj b)] (.bool (Wu a b)):=by
 refine Zc Tryz.func166 rfl zB ?_;simp (disch:=omega) only [Tryz.f166,go_sem,seval];refine cD ?_ ?_<;>intro h<;>simp (disch:=omega) only [Sh.out h,go_sem,seval,↓reduceIte]
 ·rw [Wu,if_pos h]
 ·refine (aP a.route.visits b.route.visits a.route.visits_c b.route.visits_c ha hb).use (Zd ?_);rw [Wu,if_neg h]
theorem oT (a b:Col) (f:Bool) (ha:a.route.visits.length<=1048576) (hb:b.route.visits.length<=1048576):PC 165 [.p (Xj a),.p (.bool f),.p (Xj b),.fn (.func 166) [] []] (Xj (if f=false\/Wu b a=true then b else a)):=by
 refine Zc Tryz.func165 rfl zA ?_
 cases f with
 | false =>
  simp (disch:=omega) only [Tryz.f165,WE,go_sem,seval,↓reduceIte]
 | true =>
  simp (disch:=omega) only [Tryz.f165,Yu,go_sem,seval];refine (Oy b a hb ha).use (Zd ?_)
  cases h:Wu b a with
  | true=>simp (disch:=omega) only [go_sem,seval]
  | false=>simp (disch:=omega) only [go_sem,seval]
theorem Ziy {x:Inst} (hx:InstOk x) {S:Nat} {l:List Vis} {v:Vis} (hv:v∈CR x S l) {k:Int} (hk:0<=k/\k<x.types.length):MJ x v=true/\0<=(XL x v).place/\TrpOk x (nth x.types k.toNat) [XL x v]:=by
 obtain ⟨i,hi,_,_,h4,_⟩:=VX.1 hv;have ho:=Yq h4
 have hpl:0<=(XL x v).place:=by
  unfold ZW at h4;unfold XL;rw [ho,XS]
  grind
 obtain ⟨t1,t2,t3,_⟩:=V8 hx (show k.toNat<x.types.length by omega);obtain ⟨n1,n2⟩:=RZ hx.net;refine ⟨by simp [MJ,ho,hi],hpl,n1,n2,t1,t2,t3,fun s hs=> ?_,Zb⟩
 obtain rfl:s=XL x v:=by grind
 have hor:=hx.orders.2 i hi;have hp:=hor.pstp;have hd:=hor.dstp;simp only [stpOk,Zs] at hp hd;unfold XL at hpl ⊢;rw [ho,XS] at hpl ⊢
 split
 ·omega
 omega
theorem sE {x:Inst} {t:Typ} {p:Int} {stop:Stp} (hT:TrpOk x t [stop]) {m:Int} {out:List Sr} {a:Sr} (hm:0<=m) (ho:Gm (m+16384) out) (ha:(0<=a.rdy/\a.rdy<=16384)/\(-m<=a.drv/\a.drv<=4096)):Gm (m+16384) (Jp x t p stop out a)/\(Jp x t p stop out a).length<=out.length+2:=by
 have hg:=(ID (n:=x.net) (pr:=t.prof) (f:=p) (t:=stop.place) (τ:=a.rdy) hT.net hT.mil Za).1;obtain ⟨z1,z2,z3,z4,z5⟩:=hT.stp stop Zb;obtain ⟨r1,r2⟩:=hT.rst;have hd:=hT.drv;unfold Jp
 split
 ·grind
 ·rename_i c1
  split
  ·grind
  ·rename_i c2;refine ⟨fun b hb=> ?_,Ba⟩;have c3: ¬t.drive<a.drv+(WM x.net t.prof p stop.place a.rdy).1-a.rdy:=fun h=>c1 (.inr h);rcases W2.1 hb with h | rfl | rfl
   ·exact ho b h
   ·grind
   grind
theorem HS {x:Inst} {t:Typ} {p:Int} {stop:Stp} (hT:TrpOk x t [stop]) {m:Int} (hm:0<=m): ∀(st out:List Sr),Gm (m+16384) out->Gm m st->Gm (m+16384) (st.foldl (Jp x t p stop) out)/\(st.foldl (Jp x t p stop) out).length<=out.length+2*st.length
 | [],out,ho,_=>⟨ho,Zb⟩
 | a::st,out,ho,hs=>by
  obtain ⟨g1,g2⟩:=sE hT (p:=p) hm ho (hs a Zb);obtain ⟨k1,k2⟩:=HS hT (p:=p) hm st _ g1 fun b hb=>hs b (X9 _ hb);rw [XG];exact ⟨k1,by simp only [ZA];omega⟩
def PQ (x:Inst) (k:Int) (S tot f:Nat):Prop:= ∀(l:List Vis) (c:Bool) (p:Int) (st:List Sr) (b:Col×Bool),l.length+f=tot->(c=true->0<f)->Gm (16384*(l.length:Int)) st->st.length<=2^(l.length+1)->b.1.route.visits.length<=1048576 ->
  ACalls Tryz.prog 133 [.ptr 0 0,.p (.list c (l.map Z3)),.p (.int .i64 p),.p (.list false (st.map E2))] [Yo x k S tot b] fun y H'=>y= .tup []/\H'= [Yo x k S tot ((RL x k S f l (p,st)).foldl (XW (I6 x k) (YM x k S) Wu) b)]
theorem Zcy (x:Inst) (hx:InstOk x) (k:Int) (S tot:Nat) (ht:tot<=8) (hk:0<=k/\k<x.types.length) (htl:x.types.length<=1048576):PQ x k S tot 0:=by
 intro l c p st b hlf hc hs1 hs2 hb
 have hc:c=false:=by grind
 subst hc
 have hll:l.length=tot:=Za
 obtain ⟨R,hR⟩: ∃R,R=Yo x k S tot ((RL x k S 0 l (p,st)).foldl (XW (I6 x k) (YM x k S) Wu) b):=⟨_,rfl⟩;rw [<- hR];simp only [RL,lvW,XG,Um] at hR;obtain ⟨⟨bt,bs,bp,br⟩,bf⟩:=b;have hpr:=Nl x (Be k l);refine Ze [] Tryz.func133 rfl gN ?_;simp (disch:=omega) only [Tryz.f133,Yo,go_sem,seval];refine cD ?_ ?_<;>intro h1<;>simp (disch:=omega) only [Sh.out h1,go_sem,seval,↓reduceIte]
 ·refine Xd (Zd ?_);refine K1 (aM x (Be k l) hx ⟨by grind [Be],by simp [Be]⟩) (Zd ?_);refine cD ?_ ?_<;>intro h2<;>simp (disch:=omega) only [Sh.out h2,go_sem,seval]
  ·have hok:I6 x k l=true:=Un h2;have hcol:(⟨k,(S:Int),(QV x (Be k l)).1,⟨k,0,true,[],false,l⟩⟩:Col)=YM x k S l:=rfl;refine XR [11] 12 mixed Zg Zg Zg Zb (Zd ?_);refine Xl 11 _ _ Zg (by refine Zd ?_;exact ⟨rfl,rfl⟩) (Y9 ?_);refine Zd ?_;refine ZB 11 mixed Zg Zg (Zd ?_);refine Zn (oT ⟨bt,bs,bp,br⟩ (YM x k S l) bf hb (by grind)) ?_
   have hR2:R=Yo x k S tot (if bf=false\/Wu (YM x k S l) ⟨bt,bs,bp,br⟩=true then YM x k S l else ⟨bt,bs,bp,br⟩,true):=by
    rw [hR,XW]
    grind
   generalize (if bf=false\/Wu (YM x k S l) ⟨bt,bs,bp,br⟩=true then YM x k S l else ⟨bt,bs,bp,br⟩)=C at hR2 ⊢;refine Zd ?_;exact ⟨.tup [],[R],Weak.mk (by simp (disch:=omega) only [hR2,Yo,go_sem,seval]),rfl,rfl⟩
  ·have hok:I6 x k l=false:=U1 h2;rw [XW,if_neg (fun h=>by grind)] at hR;exact ⟨.tup [],[R],Weak.mk (by simp (disch:=omega) only [hR,Yo,go_sem,seval]),rfl,rfl⟩
 ·omega
theorem IV {x:Inst} {k:Int} {S:Nat} : ∀(f:Nat) (l:List Vis) (s:Int×List Sr),∀m∈RL x k S f l s,m.length=l.length+f
 | 0,l,s,m,hm=>by
  simp_all [RL,lvW]
 | f+1,l,s,m,hm=>by
  simp only [RL,lvW,X2] at hm;obtain ⟨v,_,hm⟩:=hm
  split at hm
  ·simp at hm
  ·have:=IV f (l++ [v]) _ m hm;simp at this;omega
theorem NU {x:Inst} {k:Int} {S N:Nat} : ∀(L:List (List Vis)) (b:Col×Bool),b.1.route.visits.length<=N->(∀m∈L,m.length<=N)->(L.foldl (XW (I6 x k) (YM x k S) Wu) b).1.route.visits.length<=N
 | [],b,h,_=>h
 | m::L,b,h,hL=>by
  rw [XG];refine NU L _ ?_ fun q hq=>hL q (X9 _ hq);unfold XW
  split
  ·exact hL m Zb
  ·exact h
theorem Zcz (x:Inst) (hx:InstOk x) (k:Int) (S tot f:Nat) (ht:tot<=8) (hk:0<=k/\k<x.types.length) (htl:x.types.length<=1048576) (hbl:x.before.length<=1048576) (hS:S<9223372036854775808) (ih:PQ x k S tot f):PQ x k S tot (f+1):=by
 intro l c p st b hlf hc hs1 hs2 hb;have hf:=X0 hx
 have hn:x.orders.length<=60:=by have:=hf.len;omega
 obtain ⟨R,hR⟩: ∃R,R=Yo x k S tot ((RL x k S (f+1) l (p,st)).foldl (XW (I6 x k) (YM x k S) Wu) b):=⟨_,rfl⟩;rw [<- hR];have hpw:2^(l.length+1)<=2^8:=Yi Za Za
 have hpw2:2^(l.length+1+1)=2*2^(l.length+1):=Za
 have hnl:=Je x S l x.orders.length;have hokv: ∀v∈nextU x S l x.orders.length,MJ x v=true/\0<=(XL x v).place/\TrpOk x (nth x.types k.toNat) [XL x v]:=fun v hv=>Ziy hx hv hk;obtain ⟨G,hG⟩: ∃G:Vis->List (List Vis),G=fun v=>if (goS x (nth x.types k.toNat) (p,st) v).2.isEmpty=true then [] else RL x k S f (l++ [v]) (goS x (nth x.types k.toNat) (p,st) v):=⟨_,rfl⟩
 have hlv:RL x k S (f+1) l (p,st)=(nextU x S l x.orders.length).flatMap G:=by rw [hG];rfl
 rw [hlv] at hR;have hsn:=aQ x S l c hS Za hn hbl (fun q hq=>by have:=(hf.val q hq);omega);generalize hnx:nextU x S l x.orders.length=nx at hnl hokv hR hsn;clear hnx hlv;obtain ⟨B,hB⟩: ∃B:Nat->Col×Bool,B=fun q=>((nx.take q).flatMap G).foldl (XW (I6 x k) (YM x k S) Wu) b:=⟨_,rfl⟩
 have hB0:B 0=b:=by rw [hB];rfl
 have hBn:R=Yo x k S tot (B nx.length):=by grind
 have hBs: ∀q,q<nx.length->B (q+1)=(G (nth nx q)).foldl (XW (I6 x k) (YM x k S) Wu) (B q):=fun q hq=>by
  rw [hB];simp only;rw [Xm hq,List.flatMap_append,List.foldl_append,<- Zk hq];simp
 have hBl: ∀q,(B q).1.route.visits.length<=1048576:=fun q=>by
  rw [hB];refine NU _ _ hb fun m hm=> ?_;obtain ⟨v,_,hm⟩:=X2.1 hm;rw [hG] at hm;simp only at hm
  split at hm
  ·simp at hm
  ·have:=IV _ _ _ m hm;simp at this;omega
 clear hR hB;refine Ze [] Tryz.func133 rfl gN ?_;simp (disch:=omega) only [Tryz.f133,Yo,go_sem,seval];refine cD ?_ ?_<;>intro h1<;>simp (disch:=omega) only [Sh.out h1,go_sem,seval,↓reduceIte]
 ·omega
 ·refine Xd (Zd ?_);refine Zn (hsn) (Zd ?_);refine Zl [0,1,2,3,77,78] (fun q:Nat=> [(79,.p (.int .i64 q))]) (fun q=> [Yo x k S tot (B q)]) (fun q=>q<=nx.length) (fun q=>nx.length-q) 0 Zb (Weak.mk ?_) ?_
  ·simp (disch:=omega) only [Yo,hB0,go_sem,seval,↓reduceIte]
  ·intro q hq;simp (disch:=omega) only [Yo,go_sem,seval];refine cD ?_ ?_<;>intro h2<;>simp (disch:=omega) only [Sh.out h2,go_sem,seval,↓reduceIte]
   ·have hq2:q<nx.length:=Za
    obtain ⟨v1,v2,v3⟩:=hokv _ (ZX hq2);have hBq:=hBs q hq2;refine XR [10,11] 12 mixed Zg Zg Zg Zb (Zd ?_);refine K1 (R3 x (nth nx q) Za v1 v2) (Zd ?_);refine Xl 10 _ _ Zg (by refine Zd ?_;exact ⟨rfl,rfl⟩) ?_;refine Zd ?_;refine Xl 11 _ _ Zg (by refine Zd ?_;exact ⟨rfl,rfl⟩) (Y9 ?_);refine Zd ?_
    have hSr0:Gm (16384*(l.length:Int)+16384) []:=fun a ha=>by simp at ha
    obtain ⟨w1,w2⟩:=HS v3 (p:=p) (m:=16384*(l.length:Int)) Za st [] hSr0 hs1;obtain ⟨N,hN⟩: ∃N,N=Dv x (nth x.types k.toNat) p st (XL x (nth nx q)):=⟨_,rfl⟩;have cv:=sF x k S tot (B q) p st false (XL x (nth nx q)) (16384*(l.length:Int)) Za hk htl v3 Za hs1
    have hGq:G (nth nx q)=if N.isEmpty=true then [] else RL x k S f (l++ [nth nx q]) ((XL x (nth nx q)).place,N):=by rw [hG,hN];rfl
    rw [<- hN] at cv
    have w1':Gm (16384*(l.length:Int)+16384) N:=by rw [hN];exact w1
    have w2':N.length<=2*st.length:=by grind [Dv]
    refine cv.useP (L:= [_,_]) (by rfl) ?_ (by rfl) (by rfl);simp (disch:=omega) only [Yo,ZL,ZD,go_sem,seval];refine cD ?_ ?_<;>intro h3<;>simp (disch:=omega) only [Sh.out h3,go_sem,seval,↓reduceIte]
    ·have hne: ¬N.isEmpty=true:=fun h=>by grind
     rw [hGq,if_neg hne] at hBq
     have ihc:=ih (l++ [nth nx q]) false (XL x (nth nx q)).place N (B q) (by simp;omega) Zb (by
      have e:16384*(((l++ [nth nx q]).length:Nat):Int)=16384*(l.length:Int)+16384:=by simp;omega
      grind) (by grind) (hBl q)
     rw [<- hBq,Xn] at ihc;refine ZB 9 mixed Zg Zg (Zd ?_);refine Zn (wR l c Za) (Zd ?_);refine ihc.useP (L:= [_,_]) (by rfl) ?_ (by rfl) (by rfl);simp (disch:=omega) only [Yo,ZL,ZD,go_sem,seval];exact ⟨q+1,Za,Za,wk⟩
    ·have he:N.isEmpty=true:=by simp_all
     rw [hGq,if_pos he] at hBq;have hBq':B (q+1)=B q:=hBq;exact ⟨q+1,Za,Za,Weak.mk (by simp (disch:=omega) only [hBq',go_sem,seval])⟩
   ·have hql:q=nx.length:=Za
    subst hql;exact ⟨.tup [],[R],Weak.mk (by simp (disch:=omega) only [hBn,Yo,go_sem,seval]),rfl,rfl⟩
theorem DB (x:Inst) (hx:InstOk x) (k:Int) (S tot:Nat) (ht:tot<=8) (hk:0<=k/\k<x.types.length) (htl:x.types.length<=1048576) (hbl:x.before.length<=1048576) (hS:S<9223372036854775808): ∀f,PQ x k S tot f
 | 0=>Zcy x hx k S tot ht hk htl
 | f+1=>Zcz x hx k S tot f ht hk htl hbl hS (DB x hx k S tot ht hk htl hbl hS f)
theorem kG (x:Inst) (k:Int) (S tot:Nat) (b:Col×Bool) (d v:Int) (hk:0<=k/\k<x.types.length) (ht:x.types.length<=1048576) (hd:0<=d/\d<=1048576) (hr:0<=(nth x.types k.toNat).rest/\(nth x.types k.toNat).rest<=1048576) :
  ACalls Tryz.prog 134 [.ptr 0 0,.p (.list true []),.p (.int .i64 d),.p (.int .i64 v)] [Yo x k S tot b] fun y H'=>y= .p (.list false ((Vo (nth x.types k.toNat) [] d v).map E2))/\H'= [Yo x k S tot b]:=by
 obtain ⟨L2,h2⟩: ∃L2,L2=Vo (nth x.types k.toNat) [] d v:=⟨_,rfl⟩
 have h12:Uu [⟨d,v⟩] ⟨d+(nth x.types k.toNat).rest,0⟩=L2:=by rw [h2];rfl
 rw [<- h2];have c2:=OV [⟨d,v⟩] ⟨d+(nth x.types k.toNat).rest,0⟩ Zb;rw [h12] at c2;refine Ze [] Tryz.func134 rfl gP ?_;simp (disch:=omega) only [Tryz.f134,go_sem,seval];refine (pI ⟨d,v⟩).useF (Zd ?_);simp (disch:=omega) only [Yo,go_sem,seval];refine ZB 16 mixed Zg Zg (Zd ?_);refine ACalls.mono (c2.back [Yo x k S tot b] (by rfl)) ?_;rintro y H' ⟨y1,H1,⟨rfl,rfl⟩,rfl,rfl⟩;simp (disch:=omega) only [AM.shV,AM.shO,Yo,Zq,Zj,ZL,ZD,go_sem,seval];exact ⟨.p (.list false (L2.map E2)),[Yo x k S tot b],(Weak.fz (o:=1) (by rfl)).trans (Weak.mk (by simp (disch:=omega) only [Yo,eq_self,Zq,Zj,ZK,ZY,go_sem,seval,↓reduceIte])),rfl,rfl⟩
theorem MW (x:Inst) (S:Nat): ∀k,k<=63->((XT (S:Int) k).map fun i=>(ZW x.orders i.toNat).length).sum=AK x S k
 | 0,_=>by rfl
 | k+1,h=>by
  have ih:=MW x S k Za;rw [AA]
  cases hb:sHas (S:Int) (k:Int) with
  | true =>
   rw [MX hb,Xn,List.sum_append,ih];rw [Wo _ _ Za] at hb;rw [if_pos hb];simp
  | false =>
   rw [RR hb,ih];rw [Wo _ _ Za] at hb;rw [hb];simp
theorem NR (x:Inst) (S n:Nat) (h: ∀i,S.testBit i=true->i<n): ∀d,AK x S (n+d)=AK x S n
 | 0=>rfl
 | d+1=>by
  rw [show n+(d+1)=n+d+1 by omega,AA,NR x S n h d,if_neg (fun e=>by have:=h _ e;omega)];rfl
def WH : Col:=⟨0,0,0,⟨0,0,true,[],true,[]⟩⟩
noncomputable def UB (x:Inst) (k:Int) (S:Nat):Col×Int:=if Wt x.orders x.apart x.before (S:Int)=0/\(Ip x k S (WH,false)).2=true then ((Ip x k S (WH,false)).1,0) else (WH,24)
def DT : AM.Obj:= .cells ((Gu WH).map .p)
theorem I8 (x:Inst) (hx:InstOk x) (k:Int) (S:Nat) (hk:0<=k/\k<x.types.length) (h4:x.orders.length<=4) (htl:x.types.length<=1048576) (hbl:x.before.length<=1048576) (hal:x.apart.length<=1048576) (hS0:0<S) (hS1:S<2^x.orders.length) :
  PT 104 [.p (Zr x),.p (.int .i64 k),.p (.int .i64 S)] [.p (Xj (UB x k S).1),.p (.int .i64 (UB x k S).2)]:=by
 have hf:=X0 hx;have h16:S<16:=Uh hS1 (Yi (n:=2) Za h4);have hdiv:S / pw x.orders.length=0:=JJ hS1
 have hbit: ∀i,S.testBit i=true->i<x.orders.length:=fun i hi=>by
  rcases Wm i x.orders.length with h | h
  ·exact h
  ·have:2^x.orders.length<=2^i:=Yi Za h
   grind [K7]
 obtain ⟨Z,hZ⟩: ∃Z,Z=UB x k S:=⟨_,rfl⟩;rw [<- hZ];have hal2:=SE x.net x.types_c x.types x.orders_c x.apart_c x.before_c x.orders x.apart x.before (S:Nat) Za hal hbl hf.val;refine Ze [] Tryz.func104 rfl xO ?_;simp (disch:=omega) only [Tryz.f104,go_sem,seval];refine gF ?_ ?_<;>intro h1<;>simp (disch:=omega) only [Sh.out h1,go_sem,seval,↓reduceIte]
 ·omega
 ·refine gF ?_ ?_<;>intro h2<;>simp (disch:=omega) only [Sh.out h2,go_sem,seval,↓reduceIte]
  ·omega
  ·refine gF ?_ ?_<;>intro h3<;>simp (disch:=omega) only [Sh.out h3,go_sem,seval,↓reduceIte]
   ·omega
   ·refine cD ?_ ?_<;>intro h5<;>simp (disch:=omega) only [Sh.out h5,go_sem,seval,↓reduceIte]
    ·omega
    ·refine (hal2).use (Zd ?_);refine cD ?_ ?_<;>intro h6<;>simp (disch:=omega) only [Sh.out h6,go_sem,seval,↓reduceIte]
     ·have e:Z=(WH,24):=by simp_all [UB]
      exact ⟨.tup [.p (Xj Z.1),.p (.int .i64 Z.2)],[],Weak.mk (by simp (disch:=omega) only [e,WH,Zj,go_sem,seval]),rfl,rfl⟩
     ·have h60:Wt x.orders x.apart x.before (S:Int)=0:=Z4.1 h6;obtain ⟨T,hT⟩: ∃T:Nat->Nat,T=fun q=>(((XT (S:Int) 63).take q).map fun i=>(ZW x.orders i.toNat).length).sum:=⟨_,rfl⟩
      have hT0:T 0=0:=by rw [hT];rfl
      have hTn:T (XT (S:Int) 63).length=W3 x S:=by
       rw [hT];simp only [X3];rw [MW x S 63 Za,show 63=x.orders.length+(63-x.orders.length) by omega,NR x S _ hbit];rfl
      have hTs: ∀q,q<(XT (S:Int) 63).length->T (q+1)=T q+(ZW x.orders (nth (XT (S:Int) 63) q).toNat).length:=fun q hq=>by
       grind [Xm,Zk]
      have hTl: ∀q,T q<=2*q:=fun q=>by
       induction q with
       | zero=>omega
       | succ q ih =>
        rcases Wm q (XT (S:Int) 63).length with h | h
        ·grind [Wq]
        grind [B0]
      have hml:=Cc (S:Int) 63
      have hmi: ∀q,q<(XT (S:Int) 63).length-> ∃i:Nat,nth (XT (S:Int) 63) q=(i:Int)/\i<x.orders.length:=fun q hq=>by
       obtain ⟨i,e,_,hb⟩:=Jd.1 (ZX hq)
       grind
      refine ((C9 (S:Int)).frozen Zb).use (Zd ?_);generalize XT (S:Int) 63=M at hTn hTs hml hmi ⊢;clear hT;refine Zl [1,3,6,8,45,46] (fun q:Nat=> [(47,.p (.int .i64 q))]) (fun q=> [Zf x,DT,Yo x k S (T q) (WH,false)]) (fun q=>q<=M.length) (fun q=>M.length-q) 0 Zb (Weak.mk ?_) ?_
      ·simp (disch:=omega) only [Zf,DT,Gu,WH,Yo,hT0,Zj,Zq,go_sem,seval]
      ·intro q hq;have hq1:=hTl q;simp (disch:=omega) only [Zf,DT,Gu,WH,Yo,Zj,Zq,go_sem,seval];refine cD ?_ ?_<;>intro h7<;>simp (disch:=omega) only [Sh.out h7,go_sem,seval,↓reduceIte]
       ·have hq2:q<M.length:=Za
        obtain ⟨i,hi,hin⟩:=hmi q hq2;have hts:=hTs q hq2;rw [hi,XS] at hts;have hvl:=Wq x.orders i;refine ZB 10 mixed Zg Zg (Zd ?_);rw [hi];refine Zn (visits_c x.orders x.orders_c i hin Za) (Zd ?_)
        have hts2:((T (q+1):Nat):Int)=((T q:Nat):Int)+((ZW x.orders i).length:Int):=Za
        exact ⟨q+1,Za,Za,Weak.mk (by simp (disch:=omega) only [hts2,go_sem,seval])⟩
       ·have hqm:q=M.length:=Za
        subst hqm;rw [hTn] at hq1 ⊢
        have ht8:W3 x S<=8:=by
         grind [CK,W3]
        have htp:0<W3 x S:=Sk hf.vne hdiv Za;obtain ⟨t1,t2,t3,_⟩:=V8 hx (show k.toNat<x.types.length by omega);obtain ⟨N,hN⟩: ∃N,N=Vo (nth x.types k.toNat) [] (nth x.types k.toNat).opn 0:=⟨_,rfl⟩
        have hNl:N.length<=2:=by
         grind [Ba]
        have hNo:Gm 0 N:=fun a ha=>by
         rw [hN] at ha;rcases W2.1 ha with h | rfl | rfl
         ·simp at h
         ·grind
         ·exact ⟨by simp only;omega,Zb⟩
        have cf:=kG x k S (W3 x S) (WH,false) (nth x.types k.toNat).opn 0 hk htl Za Za;rw [<- hN] at cf;have cw:=DB x hx k S (W3 x S) ht8 hk htl hbl Za (W3 x S) [] true (nth x.types k.toNat).src N (WH,false) Zb (fun _=>htp) (by grind) Za (by simp [WH])
        have hB:(RL x k S (W3 x S) [] ((nth x.types k.toNat).src,N)).foldl (XW (I6 x k) (YM x k S) Wu) (WH,false)=Ip x k S (WH,false):=by rw [Ip,st0,<- hN]
        rw [hB] at cw
        have hZ2:Z=if (Ip x k S (WH,false)).2=true then ((Ip x k S (WH,false)).1,0) else (WH,24):=by
         rw [hZ,UB]
         simp_all
        generalize Ip x k S (WH,false)=B at cw hZ2;refine ZB 7 mixed Zg Zg (Zd ?_);refine ⟨.p (.list false (N.map E2)),?_,?_⟩
        ·refine ACalls.mono (((cf.mono fun y H' hq=>(⟨hq,by rw [hq.2]⟩:_/\H'.length= [Yo x k S (W3 x S) (WH,false)].length)).front (by rfl) (by rfl) [.cells ((Ko (nth x.types k.toNat)).map .p)]).back [Zf x,DT] (by rfl)) ?_;rintro y H' ⟨y1,H1,⟨H2,⟨rfl,rfl⟩,rfl⟩,rfl,rfl⟩;exact ⟨rfl,rfl⟩
        ·refine Zd ?_;refine ACalls.mono (((cw.mono fun y H' hq=>(⟨hq,by grind⟩:_/\H'.length= [Yo x k S (W3 x S) (WH,false)].length)).front (by rfl) (by rfl) [.cells ((Ko (nth x.types k.toNat)).map .p)]).back [Zf x,DT] (by rfl)) ?_;rintro y H' ⟨y1,H1,⟨H2,⟨rfl,rfl⟩,rfl⟩,rfl,rfl⟩;simp (disch:=omega) only [AM.shV,AM.shVs,AM.shO,Zf,DT,Gu,WH,Yo,Ko,Zq,Zj,ZL,ZD,go_sem,seval];obtain ⟨C,f⟩:=B
         cases f with
         | false =>
          rw [if_neg Zb] at hZ2;refine F9 ?_;exact ⟨.tup [.p (Xj Z.1),.p (.int .i64 Z.2)],[],Weak.mk (by simp (disch:=omega) only [hZ2,WH,Zj,go_sem,seval]),rfl,rfl⟩
         | true =>
          rw [if_pos rfl] at hZ2;refine Ga ?_;exact ⟨.tup [.p (Xj Z.1),.p (.int .i64 Z.2)],[],Weak.mk (by simp (disch:=omega) only [hZ2,go_sem,seval]),rfl,rfl⟩
theorem Ox (a b:Col) (ha:a.route.visits.length<=1048576) (hb:b.route.visits.length<=1048576):PC 150 [.p (Xj a),.p (Xj b)] (.bool (Wu a b)):=by
 refine Zc Tryz.func150 rfl yR ?_;simp (disch:=omega) only [Tryz.f150,go_sem,seval];refine cD ?_ ?_<;>intro h<;>simp (disch:=omega) only [Sh.out h,go_sem,seval,↓reduceIte]
 ·rw [Wu,if_pos h]
 ·refine (qZ a.route.visits b.route.visits a.route.visits_c b.route.visits_c ha hb).use (Zd ?_);rw [Wu,if_neg h]
theorem OL (x:Inst) (S:Nat) (h4:x.orders.length<=60) (hS0:0<S) (hS:S<9223372036854775808):PC 113 [.p (Zr x),.p (.int .i64 S)] (.bool (decide (S / pw x.orders.length=0))):=by
 refine Zc Tryz.func113 rfl xV ?_;simp (disch:=omega) only [Tryz.f113,go_sem,seval];refine Zl [1,2] (fun k:Nat=> [(5,.p (.int .i64 (hv S k:Nat))),(6,.p (.int .i64 k))]) (fun _=> [Zf x]) (fun k=>k<=x.orders.length) (fun k=>x.orders.length-k) 0 Zb (Weak.mk ?_) ?_
 ·simp (disch:=omega) only [Rz,Zf,go_sem,seval]
 ·intro k hk;have e1:=Ry S k;have h1:=tN S k;refine YD ?_;refine gT ?_ ?_<;>intro h2<;>simp (disch:=omega) only [Sh.out h2,go_sem,seval,↓reduceIte]
  ·refine ZU ?_ ?_<;>intro h3
   ·have e2:((hv S (k+1):Nat):Int)=((hv S k:Nat):Int) / 2:=Za
    exact ⟨k+1,Za,Za,Weak.mk (by simp (disch:=omega) only [e2,go_sem,seval])⟩
   ·omega
  ·have hkn:k=x.orders.length:=Za
   subst hkn;refine gT ?_ ?_<;>intro h3<;>simp (disch:=omega) only [Sh.out h3,go_sem,seval,↓reduceIte]
   ·have e:decide (((hv S x.orders.length:Nat):Int)=0)=decide (S / pw x.orders.length=0):=by
     rw [decide_eq_decide];unfold hv;omega
    simp (disch:=omega) only [e,go_sem,seval]
   ·omega
def PO (x:Inst) (k:Int) (S f:Nat):Prop:= ∀(l:List Vis) (c:Bool) (b:Col) (fd:Bool),Gr x S l->l.length+f=W3 x S->(c=true->l= [])->b.typ=k->b.set=S->b.route.visits.length<=1048576 ->
  PT 114 [.p (Zr x),.p (Xj b),.p (.bool fd),.p (.list c (l.map Z3))] [.p (Xj ((CQ (CR x S) f l).foldl (XW (DY x k S) (YM x k S) Wu) (b,fd)).1),.p (.bool ((CQ (CR x S) f l).foldl (XW (DY x k S) (YM x k S) Wu) (b,fd)).2)]
theorem HG (x:Inst) (hx:InstOk x) (k:Int) (S:Nat) (hS0:0<S) (hS:S<9223372036854775808) (ho:x.orders.length<=60) (htl:x.types.length<=1048576) (hbl:x.before.length<=1048576) (l:List Vis) (c:Bool) (b:Col) (fd:Bool) (hnx:CR x S l= []) (hll:l.length<=1048576) (hc:c=true->l= []) (hb1:b.typ=k) (hb2:b.set=S) (hb3:b.route.visits.length<=1048576) :
  PT 114 [.p (Zr x),.p (Xj b),.p (.bool fd),.p (.list c (l.map Z3))] [.p (Xj (XW (DY x k S) (YM x k S) Wu (b,fd) l).1),.p (.bool (XW (DY x k S) (YM x k S) Wu (b,fd) l).2)]:=by
 have hf:=X0 hx;obtain ⟨Z,hZ⟩: ∃Z,Z=XW (DY x k S) (YM x k S) Wu (b,fd) l:=⟨_,rfl⟩;rw [<- hZ];have hnx':nextU x S l x.orders.length= []:=hnx;obtain ⟨bt,bs,bp,br⟩:=b;simp only at hb1 hb2 hb3;have hb1:=hb1.symm;subst hb1;subst hb2;have hnc:=R6 x S l c hS hll ho hbl hf.plc (fun q hq=>by have:=(hf.val q hq);omega);rw [hnx'] at hnc;refine Ze [] Tryz.func114 rfl gK ?_;simp (disch:=omega) only [Tryz.f114,go_sem,seval];refine (hnc).use (Zd ?_);refine Y5 (HC ⟨k,0,true,[],c,l⟩ hll) (Zd ?_);refine gF ?_ ?_<;>intro h1<;>simp (disch:=omega) only [Sh.out h1,go_sem,seval,↓reduceIte]
 ·have hok:DY x k S l=false:=by
   grind [DY]
  have e:Z=(⟨k,S,bp,br⟩,fd):=by simp_all [XW]
  exact ⟨.tup [.p (Xj Z.1),.p (.bool Z.2)],[],Weak.mk (by simp (disch:=omega) only [e,go_sem,seval]),rfl,rfl⟩
 ·have h1':(QU l).1=(S:Int):=Z4.1 h1
  have hcf:c=false:=by
   cases c with
   | false=>rfl
   | true =>
    exfalso;rw [hc rfl] at h1';have:(QU ([]:List Vis)).1=0:=rfl;omega
  subst hcf;refine (bF x (Be k l) hx hll (by simp [Be])).use (Zd ?_);refine cD ?_ ?_<;>intro h2<;>simp (disch:=omega) only [Sh.out h2,go_sem,seval,↓reduceIte]
  ·have hok:DY x k S l=false:=by
    grind [DY]
   have e:Z=(⟨k,S,bp,br⟩,fd):=by simp_all [XW]
   exact ⟨.tup [.p (Xj Z.1),.p (.bool Z.2)],[],Weak.mk (by simp (disch:=omega) only [e,go_sem,seval]),rfl,rfl⟩
  ·have h2':XD x (Be k l)=0:=Z4.1 h2;refine Y5 (Nq x (Be k l) hx ⟨hll,by simp [Be]⟩) (Zd ?_);have hcol:YM x k S l=⟨k,S,(QV x (Be k l)).1,Be k l⟩:=rfl;refine gF ?_ ?_<;>intro h3<;>simp (disch:=omega) only [Sh.out h3,go_sem,seval,↓reduceIte]
   ·have hok:DY x k S l=false:=by
     grind [DY,I6]
    have e:Z=(⟨k,S,bp,br⟩,fd):=by simp_all [XW]
    exact ⟨.tup [.p (Xj Z.1),.p (.bool Z.2)],[],Weak.mk (by simp (disch:=omega) only [e,go_sem,seval]),rfl,rfl⟩
   ·have hok:DY x k S l=true:=by
     simp_all [DY,I6]
    cases fd with
    | false =>
     have e:Z=(YM x k S l,true):=by rw [hZ,XW,if_pos ⟨hok,.inl rfl⟩]
     refine Zd ?_;exact ⟨.tup [.p (Xj Z.1),.p (.bool Z.2)],[],Weak.mk (by simp (disch:=omega) only [e,hcol,Be,Zj,go_sem,seval]),rfl,rfl⟩
    | true =>
     refine Zd ?_;refine (Ox (YM x k S l) ⟨k,S,bp,br⟩ hll hb3).use (Zd ?_)
     cases hbt:Wu (YM x k S l) ⟨k,S,bp,br⟩ with
     | true =>
      have e:Z=(YM x k S l,true):=by simp_all [XW]
      refine Ga ?_;exact ⟨.tup [.p (Xj Z.1),.p (.bool Z.2)],[],Weak.mk (by simp (disch:=omega) only [e,hcol,Be,Zj,go_sem,seval]),rfl,rfl⟩
     | false =>
      have e:Z=(⟨k,S,bp,br⟩,true):=by simp_all [XW]
      refine F9 ?_;exact ⟨.tup [.p (Xj Z.1),.p (.bool Z.2)],[],Weak.mk (by simp (disch:=omega) only [e,go_sem,seval]),rfl,rfl⟩
theorem Zcj (x:Inst) (hx:InstOk x) (k:Int) (S:Nat) (hS0:0<S) (hS:S<9223372036854775808) (ho:x.orders.length<=60) (htl:x.types.length<=1048576) (hbl:x.before.length<=1048576):PO x k S 0:=by
 intro l c b fd hg hl hc hb1 hb2 hb3;have:=CK x S x.orders.length
 have hl':l.length=AK x S x.orders.length:=by grind [W3]
 simp only [CQ,XG,Um];exact HG x hx k S hS0 hS ho htl hbl l c b fd (pS hg Za) Za hc hb1 hb2 hb3
theorem NT {x:Inst} {k:Int} {S N:Nat} : ∀(L:List (List Vis)) (b:Col×Bool),b.1.typ=k/\b.1.set=S/\b.1.route.visits.length<=N->(∀m∈L,m.length<=N)->(L.foldl (XW (DY x k S) (YM x k S) Wu) b).1.typ=k/\(L.foldl (XW (DY x k S) (YM x k S) Wu) b).1.set=S/\(L.foldl (XW (DY x k S) (YM x k S) Wu) b).1.route.visits.length<=N
 | [],b,h,_=>h
 | m::L,b,h,hL=>by
  rw [XG];refine NT L _ ?_ fun q hq=>hL q (X9 _ hq);unfold XW
  split
  ·exact ⟨rfl,rfl,hL m Zb⟩
  ·exact h
theorem RM {x:Inst} {S:Nat} : ∀(f:Nat) (l:List Vis),∀m∈CQ (CR x S) f l,m.length<=l.length+f
 | 0,l,m,hm=>by
  simp_all [CQ]
 | f+1,l,m,hm=>by
  rw [CQ] at hm
  split at hm
  ·grind
  ·obtain ⟨v,_,hm⟩:=X2.1 hm;have:=RM f _ m hm
   grind
theorem Zcv {g:FuncId} {args:List V} {a b:PV} {H:List AM.Obj} {K:V->List AM.Obj->Prop} (h:ACalls Tryz.prog g args [] fun x H'=>x= .tup [.p a,.p b]/\H'= []) (k:K (.tup [.p a,.p b]) H) (ha:Xi 0 args=true:=by rfl):ACalls Tryz.prog g args H K:=Y5 h k ha
theorem Zck (x:Inst) (hx:InstOk x) (k:Int) (S f:Nat) (hS0:0<S) (hS:S<9223372036854775808) (ho:x.orders.length<=60) (htl:x.types.length<=1048576) (hbl:x.before.length<=1048576) (ih:PO x k S f):PO x k S (f+1):=by
 intro l c b fd hg hl hc hb1 hb2 hb3;have hf:=X0 hx;have htu:=CK x S x.orders.length
 have hll:l.length<=120:=by grind [W3]
 by_cases hnx:CR x S l= []
 ·rw [show CQ (CR x S) (f+1) l= [l] by rw [CQ,if_pos hnx]];simp only [XG,Um];exact HG x hx k S hS0 hS ho htl hbl l c b fd hnx Za hc hb1 hb2 hb3
 ·rw [show CQ (CR x S) (f+1) l=(CR x S l).flatMap fun v=>CQ (CR x S) f (l++ [v]) by rw [CQ,if_neg hnx]];have hnc:=R6 x S l c hS Za ho hbl hf.plc (fun q hq=>by have:=(hf.val q hq);omega);have hnl:=Je x S l x.orders.length;have hgv: ∀v∈CR x S l,Gr x S (l++ [v]):=fun v hv=> .snoc hg hv;have hnv:nextU x S l x.orders.length=CR x S l:=rfl;rw [hnv] at hnc hnl;generalize CR x S l=nx at hnx hnc hnl hgv ⊢;obtain ⟨B,hB⟩: ∃B:Nat->Col×Bool,B=fun q=>((nx.take q).flatMap fun v=>CQ (CR x S) f (l++ [v])).foldl (XW (DY x k S) (YM x k S) Wu) (b,fd):=⟨_,rfl⟩
  have hB0:B 0=(b,fd):=by rw [hB];rfl
  have hBn:(nx.flatMap fun v=>CQ (CR x S) f (l++ [v])).foldl (XW (DY x k S) (YM x k S) Wu) (b,fd)=B nx.length:=by rw [hB];simp
  have hBs: ∀q,q<nx.length->B (q+1)=(CQ (CR x S) f (l++ [nth nx q])).foldl (XW (DY x k S) (YM x k S) Wu) (B q):=fun q hq=>by
   rw [hB];simp only;rw [Xm hq,List.flatMap_append,List.foldl_append,<- Zk hq];simp
  have hBi: ∀q,(B q).1.typ=k/\(B q).1.set=S/\(B q).1.route.visits.length<=1048576:=fun q=>by
   rw [hB];refine NT _ _ ⟨hb1,hb2,hb3⟩ fun m hm=> ?_;obtain ⟨v,_,hm⟩:=X2.1 hm;have:=RM _ _ m hm
   grind [W3]
  rw [hBn];clear hB hBn;have hne: ¬nx.length=0:=fun h=>hnx (Ys h);refine Ze [] Tryz.func114 rfl gK ?_;simp (disch:=omega) only [Tryz.f114,go_sem,seval];rw [<- hb2] at hnc;refine (hnc).use (Zd ?_);refine cD ?_ ?_<;>intro h1<;>simp (disch:=omega) only [Sh.out h1,go_sem,seval,↓reduceIte]
  ·omega
  ·refine ZV [17] [3,4,5,8,10] (fun q:Nat=> [(2,.p (.bool (B q).2)),(16,.p (.int .i64 q))]) (fun q=> [Zf x,.cells ((Gu (B q).1).map .p),DT]) (fun q=>q<=nx.length) (fun q=>nx.length-q) 0 Zb (Weak.mk ?_) ?_
   ·simp (disch:=omega) only [Zf,DT,WH,Gu,hB0,Zq,Zj,go_sem,seval]
   ·intro q hq;simp (disch:=omega) only [Zf,DT,WH,Gu,Zq,Zj,go_sem,seval];refine cD ?_ ?_<;>intro h2<;>simp (disch:=omega) only [Sh.out h2,go_sem,seval,↓reduceIte]
    ·have hq2:q<nx.length:=Za
     have hBq:=hBs q hq2;obtain ⟨i1,i2,i3⟩:=hBi q;have hmem:=ZX hq2;have ihc:=ih (l++ [nth nx q]) false (B q).1 (B q).2 (hgv _ hmem) (by simp;omega) Zb i1 i2 i3;rw [show ((B q).1,(B q).2)=B q from rfl,<- hBq,Xn] at ihc;refine ZH [2,3,4,5,8,10,16] (fun _:Unit=> [(17,.p (.list false ((l++ [nth nx q]).map Z3)))]) (fun _=> [Zf x,.cells ((Gu (B q).1).map .p),DT,.dead]) (fun _=>True) ?_ ?_
     ·simp (disch:=omega) only [ZF,Xh,go_sem,seval];exact ⟨(),(Weak.fz (o:=3) (by rfl)).trans (Weak.mk (by simp (disch:=omega) only [Zf,DT,WH,Gu,Zq,Zj,Zz,ZA,ZF,Zy,Xh,eq_self,ZK,ZY,go_sem,seval]))⟩
     ·intro _ _;refine Zh [] _ _ _ _ ?_;simp (disch:=omega) only [Zf,DT,WH,Gu,Zq,Zj,go_sem,seval];refine Zcv ihc ?_;simp (disch:=omega) only [Zq,Zj,go_sem,seval];exact ⟨q+1,Za,Za,wk⟩
    ·have hql:q=nx.length:=Za
     subst hql;exact ⟨.tup [.p (Xj (B nx.length).1),.p (.bool (B nx.length).2)],[],wk,rfl,rfl⟩
theorem FZ (x:Inst) (hx:InstOk x) (k:Int) (S:Nat) (hS0:0<S) (hS:S<9223372036854775808) (ho:x.orders.length<=60) (htl:x.types.length<=1048576) (hbl:x.before.length<=1048576): ∀f,PO x k S f
 | 0=>Zcj x hx k S hS0 hS ho htl hbl
 | f+1=>Zck x hx k S f hS0 hS ho htl hbl (FZ x hx k S hS0 hS ho htl hbl f)
def Bc (one:Nat->List Col):Nat->List Col
 | 0=> []
 | q+1=>Bc one q++one (q+1)
def VR (one:Nat->Nat->List Col) (N:Nat):Nat->List Col
 | 0=> []
 | k+1=>VR one N k++Bc (one k) N
theorem Cx {one:Nat->List Col} (h: ∀q,(one q).length<=1): ∀q,(Bc one q).length<=q
 | 0=>ZI _
 | q+1=>by
  have:=Cx h q;have:=h (q+1);rw [Bc,Zz];omega
theorem Bs {one:Nat->Nat->List Col} {N:Nat} (h: ∀k q,(one k q).length<=1): ∀k,(VR one N k).length<=k*N
 | 0=>by simp [VR]
 | k+1=>by
  have h1:=Bs (N:=N) h k;have h2:=Cx (h k) N;rw [VR,Zz,Xx];omega
noncomputable def Vm (x:Inst) (k S:Nat):List Col:=if (UB x (k:Int) S).2=0 then [(UB x (k:Int) S).1] else []
theorem KF {x:Inst} (k S:Nat):(Vm x k S).length<=1:=by grind [Vm]
theorem Ni (x:Inst) (hx:InstOk x) (h4:x.orders.length<=4) (h6:x.types.length<=6) (hbl:x.before.length<=1048576) (hal:x.apart.length<=1048576) :
  PT 77 [.p (Zr x)] [.p (.list false ((VR (Vm x) (2^x.orders.length-1) x.types.length).map Xj)),.p (.int .i64 0)]:=by
 have hp:pw x.orders.length=2^x.orders.length:=rfl;have hp1:1<=2^x.orders.length:=Nat.one_le_two_pow;have hp2:2^x.orders.length<=2^4:=Yi Za h4;obtain ⟨N,hN⟩: ∃N,N=2^x.orders.length-1:=⟨_,rfl⟩;rw [<- hN];refine Ze [12] Tryz.func77 rfl ZhZ ?_;simp (disch:=omega) only [Tryz.f77,go_sem,seval];refine ZV [12] [1,11] (fun k:Nat=> [(4,.sl 1 0 (VR (Vm x) N k).length (VR (Vm x) N k).length),(12,.p (.int .i64 k))]) (fun k=> [Zf x,.elems 7 ((VR (Vm x) N k).map Xj)]) (fun k=>k<=x.types.length) (fun k=>x.types.length-k) 0 Zb (Weak.ofNil 4 7 (by simp (disch:=omega) only [go_sem,seval]) Zb (Weak.mk ?_)) ?_
 ·simp (disch:=omega) only [Zf,VR,Zj,ZF,go_sem,seval]
 ·intro k hk;obtain ⟨R,hR⟩: ∃R,R=VR (Vm x) N k:=⟨_,rfl⟩;have hRl:=Bs (N:=N) (KF (x:=x)) k
  have hRs:VR (Vm x) N (k+1)=R++Bc (Vm x k) N:=by rw [hR];rfl
  rw [<- hR] at hRl ⊢;have hkN:k*N<=6*16:=Ad Za Za;refine YD ?_;refine cD ?_ ?_<;>intro h1<;>simp (disch:=omega) only [Sh.out h1,go_sem,seval,↓reduceIte]
  ·obtain ⟨W,hW⟩: ∃W:Nat->List Col,W=fun q=>R++Bc (Vm x k) (q-1):=⟨_,rfl⟩
   have hW0:W 1=R:=by grind [Bc]
   have hWn:VR (Vm x) N (k+1)=W (N+1):=by grind
   have hWl: ∀q,(W q).length<=R.length+q:=fun q=>by
    grind [Cx,KF]
   have hWs: ∀q,1<=q->W (q+1)=W q++Vm x k q:=fun q h=>by
    obtain ⟨p,rfl⟩: ∃p,q=p+1:=⟨q-1,Za⟩
    grind [Bc]
   clear hW hRs;refine Zl [1,5,11,12] (fun q:Nat=> [(4,.sl 1 0 (W q).length (W q).length),(6,.p (.int .i64 q))]) (fun q=> [Zf x,.elems 7 ((W q).map Xj)]) (fun q=>1<=q/\q<=N+1) (fun q=>N+1-q) 1 Za (Weak.mk ?_) ?_
   ·have e0:((1:Nat):Int)=1:=rfl;simp (disch:=omega) only [Zf,hW0,e0,go_sem,seval]
   ·rintro q ⟨hq0,hq⟩;have hql:=hWl q;have hqs:=hWs q hq0;refine YD ?_;refine ZU ?_ ?_<;>intro h2
    ·have hq2:q<2^x.orders.length:=by
      have h2':q / pw x.orders.length=0:=Za
      simp_all
     refine Y5 (I8 x hx k q Za h4 Za hbl hal Za hq2) ?_;have hone:Vm x k q=if (UB x (k:Int) q).2=0 then [(UB x (k:Int) q).1] else []:=rfl;rw [hone] at hqs;generalize UB x (k:Int) q=Z at hqs ⊢;refine Zd ?_;refine ZU ?_ ?_<;>intro h3
     ·rw [if_pos h3] at hqs;exact ⟨q+1,Za,Za,Weak.mk (by simp (disch:=omega) only [hqs,Xn,Zq,Zj,Zz,ZA,ZF,Xh,go_sem,seval])⟩
     ·rw [if_neg h3,Yt] at hqs;exact ⟨q+1,Za,Za,Weak.mk (by simp (disch:=omega) only [hqs,go_sem,seval])⟩
    ·have hqn:q=N+1:=by
      have h2': ¬q / pw x.orders.length=0:=Za
      rw [hp] at h2';have: ¬q<2^x.orders.length:=fun h=>h2' (JJ h);omega
     subst hqn;exact ⟨k+1,Za,Za,Weak.mk (by simp (disch:=omega) only [hWn,go_sem,seval])⟩
  ·have hkt:k=x.types.length:=Za
   subst hkt;refine Zo (Weak.fz (o:=1) (by rfl)) ?_;refine Zh [] _ _ _ _ ?_;simp (disch:=omega) only [Zq,Zj,ZK,ZY,eq_self,go_sem,seval];exact ⟨.tup [.p (.list false (R.map Xj)),.p (.int .i64 0)],[],wk,by rw [hR],rfl⟩
def AO (k:Int) (S:Nat):Col:=⟨k,S,0,⟨0,0,true,[],true,[]⟩⟩
theorem dP {x:Inst} (hx:InstOk x) {k:Int} (hk:0<=k/\k<x.types.length) {S:Nat} (hS0:0<S) (hS1:S<2^x.orders.length):UB x k S=if (DP x k S (AO k S,false)).2=true then ((DP x k S (AO k S,false)).1,0) else (WH,24):=by
 have hf:=X0 hx;have hdiv:S / pw x.orders.length=0:=JJ hS1
 have hn:x.orders.length<=60:=by have:=hf.len;omega
 obtain ⟨t1,_⟩:=V8 hx (show k.toNat<x.types.length by omega);have hi:=Dy hn hdiv hf.val;rw [UB]
 by_cases ha:Alw x S
 ·have e:=wG hx Za hdiv ha t1.1 (k:=k) (WH,false);have f:=Gb (ok:=DY x k S) (col:=YM x k S) (better:=Wu) (CQ (CR x S) (W3 x S) []) WH (AO k S);have f1:(DP x k S (WH,false)).2=(DP x k S (AO k S,false)).2:=f.1;have f2:(DP x k S (WH,false)).2=true->(DP x k S (WH,false)).1=(DP x k S (AO k S,false)).1:=f.2
  grind
 simp_all [nY]
theorem dL (x:Inst) (hx:InstOk x) (k:Int) (S:Nat) (hk:0<=k/\k<x.types.length) (h4:x.orders.length<=4) (htl:x.types.length<=1048576) (hbl:x.before.length<=1048576) (hS0:0<S) (hS1:S<2^x.orders.length) :
  PT 84 [.p (Zr x),.p (.int .i64 k),.p (.int .i64 S)] [.p (Xj (UB x k S).1),.p (.int .i64 (UB x k S).2)]:=by
 have h16:S<16:=Uh hS1 (Yi (n:=2) Za h4);have hdiv:S / pw x.orders.length=0:=JJ hS1;obtain ⟨Z,hZ⟩: ∃Z,Z=UB x k S:=⟨_,rfl⟩;rw [<- hZ];rw [dP hx hk hS0 hS1] at hZ;have cs:=FZ x hx k S hS0 Za Za htl hbl (W3 x S) [] true (AO k S) false .nil Zb (fun _=>rfl) rfl rfl (by simp [AO]);rw [show (CQ (CR x S) (W3 x S) []).foldl (XW (DY x k S) (YM x k S) Wu) (AO k S,false)=DP x k S (AO k S,false) from rfl] at cs;generalize DP x k S (AO k S,false)=B at cs hZ
 refine Ze [] Tryz.func84 rfl Zh6 ?_;simp (disch:=omega) only [Tryz.f84,go_sem,seval];refine gF ?_ ?_<;>intro h1<;>simp (disch:=omega) only [Sh.out h1,go_sem,seval,↓reduceIte]
 ·omega
 ·refine gF ?_ ?_<;>intro h2<;>simp (disch:=omega) only [Sh.out h2,go_sem,seval,↓reduceIte]
  ·omega
  ·refine (OL x S Za hS0 Za).use (Zd ?_);simp (disch:=omega) only [hdiv,eq_self,WU,go_sem,seval];refine Y5 cs (Zd ?_);obtain ⟨C,f⟩:=B
   cases f with
   | false =>
    rw [if_neg Zb] at hZ;refine F9 ?_;exact ⟨.tup [.p (Xj Z.1),.p (.int .i64 Z.2)],[],Weak.mk (by simp (disch:=omega) only [hZ,WH,Zj,go_sem,seval]),rfl,rfl⟩
   | true =>
    rw [if_pos rfl] at hZ;refine Ga ?_;exact ⟨.tup [.p (Xj Z.1),.p (.int .i64 Z.2)],[],Weak.mk (by simp (disch:=omega) only [hZ,go_sem,seval]),rfl,rfl⟩
theorem mO (x:Inst) (hx:InstOk x) (h4:x.orders.length<=4) (h6:x.types.length<=6) (hbl:x.before.length<=1048576) :
  PT 54 [.p (Zr x)] [.p (.list false ((VR (Vm x) (2^x.orders.length-1) x.types.length).map Xj)),.p (.int .i64 0)]:=by
 have hp1:1<=2^x.orders.length:=Nat.one_le_two_pow;have hp2:2^x.orders.length<=2^4:=Yi Za h4;obtain ⟨N,hN⟩: ∃N,N=2^x.orders.length-1:=⟨_,rfl⟩
 have hpN:pw x.orders.length=N+1:=by unfold pw;omega
 rw [<- hN];refine Ze [16] Tryz.func54 rfl ZhF ?_;simp (disch:=omega) only [Tryz.f54,go_sem,seval];refine ZV [16] [1] (fun k:Nat=> [(4,.p (.int .i64 (pw k:Nat))),(5,.p (.int .i64 k))]) (fun _=> [Zf x]) (fun k=>k<=x.orders.length) (fun k=>x.orders.length-k) 0 Zb (Weak.mk ?_) ?_
 ·have e0:((pw 0:Nat):Int)=1:=rfl;simp (disch:=omega) only [Zf,e0,go_sem,seval]
 ·intro k hk;have hpk:pw k<=pw 4:=Kc Za;have hp4:pw 4=16:=rfl;have hps:=Ex k
  have e2:((pw (k+1):Nat):Int)=((pw k:Nat):Int)*2:=Za
  refine YD ?_;refine gT ?_ ?_<;>intro h0<;>simp (disch:=omega) only [Sh.out h0,go_sem,seval,↓reduceIte]
  ·refine ZU ?_ ?_<;>intro h1
   ·exact ⟨k+1,Za,Za,Weak.mk (by simp (disch:=omega) only [e2,go_sem,seval])⟩
   ·omega
  ·have hkn:k=x.orders.length:=Za
   subst hkn;rw [hpN];refine ZV [16] [1,4] (fun k:Nat=> [(6,.sl 1 0 (VR (Vm x) N k).length (VR (Vm x) N k).length),(7,.p (.int .i64 k))]) (fun k=> [Zf x,.elems 7 ((VR (Vm x) N k).map Xj)]) (fun k=>k<=x.types.length) (fun k=>x.types.length-k) 0 Zb (Weak.ofNil 6 7 (by simp (disch:=omega) only [go_sem,seval]) Zb (Weak.mk ?_)) ?_
   ·simp (disch:=omega) only [Zf,VR,Zj,ZF,go_sem,seval]
   ·intro k hk;obtain ⟨R,hR⟩: ∃R,R=VR (Vm x) N k:=⟨_,rfl⟩;have hRl:=Bs (N:=N) (KF (x:=x)) k
    have hRs:VR (Vm x) N (k+1)=R++Bc (Vm x k) N:=by rw [hR];rfl
    rw [<- hR] at hRl ⊢;have hkN:k*N<=6*16:=Ad Za Za;refine YD ?_;refine cD ?_ ?_<;>intro h1<;>simp (disch:=omega) only [Sh.out h1,go_sem,seval,↓reduceIte]
    ·obtain ⟨W,hW⟩: ∃W:Nat->List Col,W=fun q=>R++Bc (Vm x k) q:=⟨_,rfl⟩
     have hW0:W 0=R:=by grind [Bc]
     have hWn:VR (Vm x) N (k+1)=W N:=by rw [hRs,hW]
     have hWl: ∀q,(W q).length<=R.length+q:=fun q=>by
      grind [Cx,KF]
     have hWs: ∀q,W (q+1)=W q++Vm x k (q+1):=fun q=>by grind [Bc]
     clear hW hRs;refine Zl [1,4,7] (fun q:Nat=> [(6,.sl 1 0 (W q).length (W q).length),(8,.p (.int .i64 ((q+1:Nat):Int)))]) (fun q=> [Zf x,.elems 7 ((W q).map Xj)]) (fun q=>q<=N) (fun q=>N-q) 0 Zb (Weak.mk ?_) ?_
     ·have e0:((0+1:Nat):Int)=1:=rfl;simp (disch:=omega) only [Zf,hW0,e0,go_sem,seval]
     ·intro q hq;have hql:=hWl q;have hqs:=hWs q
      have e1:((q+1+1:Nat):Int)=((q+1:Nat):Int)+1:=Za
      refine YD ?_;refine ZU ?_ ?_<;>intro h2
      ·refine Y5 (dL x hx k (q+1) Za h4 Za hbl Za Za) ?_;have hone:Vm x k (q+1)=if (UB x (k:Int) (q+1)).2=0 then [(UB x (k:Int) (q+1)).1] else []:=rfl;rw [hone] at hqs;generalize UB x (k:Int) (q+1)=Z at hqs ⊢;refine Zd ?_;refine ZU ?_ ?_<;>intro h3
       ·rw [if_pos h3] at hqs;exact ⟨q+1,Za,Za,Weak.mk (by simp (disch:=omega) only [hqs,Xn,Zq,Zj,Zz,ZA,ZF,Xh,go_sem,seval])⟩
       ·rw [if_neg h3,Yt] at hqs;exact ⟨q+1,Za,Za,Weak.mk (by simp (disch:=omega) only [hqs,go_sem,seval])⟩
      ·have hqn:q=N:=Za
       subst hqn;exact ⟨k+1,Za,Za,Weak.mk (by simp (disch:=omega) only [hWn,go_sem,seval])⟩
    ·have hkt:k=x.types.length:=Za
     subst hkt;refine Zo (Weak.fz (o:=1) (by rfl)) ?_;refine Zh [] _ _ _ _ ?_;simp (disch:=omega) only [Zq,Zj,ZK,ZY,eq_self,go_sem,seval];exact ⟨.tup [.p (.list false (R.map Xj)),.p (.int .i64 0)],[],wk,by rw [hR],rfl⟩
end Go.Proofs.YtjkkdmeebhjaiaaGreatDoor.K
