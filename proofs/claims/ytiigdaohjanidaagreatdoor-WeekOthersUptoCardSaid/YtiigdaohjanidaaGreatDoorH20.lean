/- Declarations that the closing texts need, part 20: joined by tools/slim.py. -/
import Derived.Test.YtiigdaohjanidaaGreatDoorH19
set_option linter.unusedVariables false
set_option linter.unusedSimpArgs false
namespace Go.Proofs.YtiigdaohjanidaaGreatDoor.K
open Go Go.AM Go.Proofs
set_option maxRecDepth 8000
theorem iT {x:Inst} {t:Typ} {p:Int} {stop:Stp} {out:List Sr} {a b:Sr} (h:b∈out):b∈QT x t p stop out a:=by
 grind [QT,WO]
theorem Li {x:Inst} {t:Typ} {p:Int} {stop:Stp} : ∀(st:List Sr) (out:List Sr) (b:Sr),(b∈out->b∈st.foldl (QT x t p stop) out)/\ ∀a∈st,(∀o,b∈QT x t p stop o a)->b∈st.foldl (QT x t p stop) out
 | [],out,b=>⟨id,fun a h=>by simp at h⟩
 | c::st,out,b=>by
  rw [Yt];obtain ⟨g1,g2⟩:=Li st (QT x t p stop out c) b;refine ⟨fun h=>g1 (iT h),fun a ha hb=> ?_⟩
  grind
inductive Rch (x:Inst) (t:Typ) (sp:List Stp):Nat->Lab->Prop where
 | zero:Rch x t sp 0 (labF t 0)
 | succ {k:Nat} {L:Lab} (b:Bool) (h:Rch x t sp k L) (hk:k<sp.length) (e:(nxtF x t sp k L b).2=0):Rch x t sp (k+1) (nxtF x t sp k L b).1
theorem PG {x:Inst} {t:Typ} {sp:List Stp} : ∀(bs:List Bool) (k:Nat) (L:Lab),Rch x t sp k L->k+bs.length=sp.length+1->(Xu x t sp k L bs).2=0-> ∀j,k<=j->j<=sp.length-> ∃L',Rch x t sp j L'
 | [],k,L,h,hl,_,j,h1,h2=>by grind
 | b::bs,k,L,h,hl,hr,j,h1,h2=>by
  by_cases e:k=j
  ·grind
  ·rw [Xu] at hr
   split at hr
   ·rename_i he;exact PG bs (k+1) _ (.succ b h Za he) (by grind) hr j Za h2
   omega
def TB (x:Inst) (t:Typ) (l:List Vis) (s:Int×List Sr):Prop:=s.1=V6 t (Z8 x l) l.length/\ ∀r L,Rch x t (Z8 x (l++r)) l.length L-> ∀b,(⟨ZO t L b,Wo L b⟩:Sr)∈s.2
def goS (x:Inst) (t:Typ) (s:Int×List Sr) (v:Vis):Int×List Sr:=((XI x v).place,CQ x t s.1 s.2 (XI x v))
def st0 (t:Typ):Int×List Sr:=(t.src,Vc t [] t.opn 0)
theorem bI {x:Inst} {t:Typ} (h:0<=t.opn):TB x t [] (st0 t):=by
 refine ⟨rfl,fun r L hL b=> ?_⟩
 have:L=labF t 0:=by
  generalize hk:([]:List Vis).length=k at hL
  cases hL with
  | zero=>rfl
  | succ=>simp at hk
 subst this
 have hm:max t.opn 0=t.opn:=Za
 cases b
 ·exact WO.2 (.inr (.inl (by simp [ZO,Wo,labF,hm])))
 ·exact WO.2 (.inr (.inr (by simp [ZO,Wo,labF,hm])))
theorem GJ {x:Inst} {l r:List Vis} {v:Vis} :nth (Z8 x (l++(v::r))) l.length=XI x v:=by
 grind [Ze,Z8]
theorem gC {x:Inst} {t:Typ} {l r:List Vis} :V6 t (Z8 x (l++r)) l.length=V6 t (Z8 x l) l.length:=by
 grind [V6,Z8,Ze]
theorem bH {x:Inst} {t:Typ} {l:List Vis} {s:Int×List Sr} {v:Vis} (h:TB x t l s):TB x t (l++ [v]) (goS x t s v):=by
 obtain ⟨h1,h2⟩:=h;refine ⟨?_,fun r L' hL b=> ?_⟩
 ·have e:=GJ (x:=x) (l:=l) (r:= []) (v:=v);rw [V6,if_neg Zb,show (l++ [v]).length-1=l.length by simp,e];rfl
 ·rw [Uz,ZY,Xh] at hL;generalize hsp:Z8 x (l++(v::r))=sp at hL
  have hlen:l.length<sp.length:=by grind [Z8]
  have hat:nth sp l.length=XI x v:=by grind [GJ]
  have hpl:V6 t sp l.length=s.1:=by grind [gC]
  generalize hk:(l++ [v]).length=k at hL
  cases hL with
  | zero=>simp at hk
  | succ b' hp hk' he =>
   rename_i k L
   have hkl:k=l.length:=by grind
   subst hkl;have hmem:=h2 (v::r) L (by grind) b'
   generalize hd:ZO t L b'=d at *
   generalize hs:Wo L b'=w at *
   have hg:Y8 x t sp l.length d=WB x.net t.prof s.1 (XI x v).place d:=by
    rw [Y8,hpl,Tg,if_neg Za,hat]
   unfold nxtF at he ⊢;rw [hd,hs,hg] at he ⊢
   generalize hgn:WB x.net t.prof s.1 (XI x v).place d=g at *
   unfold Wt at he ⊢
   split at he
   ·simp at he
   ·rename_i c1;rw [if_neg c1];rw [if_neg Za] at he ⊢;rw [hat] at he ⊢
    split at he
    ·simp at he
    ·rename_i c2;rw [if_neg c2]
     split at he
     ·simp at he
     ·rename_i c3;rw [if_neg c3];refine (Li s.2 [] _).2 ⟨d,w⟩ hmem fun o=> ?_;have c4: ¬(¬g.2.2=0\/t.drive<w+g.1-d):=fun hh=>hh.elim (fun e=>c1 e) (fun e=>c3 e);simp only [QT,hgn];rw [if_neg c4,if_neg c2]
      cases b
      ·exact WO.2 (.inr (.inl rfl))
      ·exact WO.2 (.inr (.inr rfl))
theorem RQ {x:Inst} {k:Int} {l:List Vis} {s:Int×List Sr} (h:TB x (nth x.types k.toNat) l s) (he:s.2= []) (r:List Vis) (c d:Bool): ¬(V7 x ⟨k,0,c,[],d,l++r⟩).2=0:=fun hp=>by
 have h1:Z4 x ⟨k,0,c,[],d,l++r⟩=0:=by
  grind [V7]
 have h2:(Xp x ⟨k,0,c,[],d,l++r⟩).2=0:=by
  grind [Z4]
 obtain ⟨bs,hl,hrun,_⟩:=FW Zb h2;obtain ⟨L,hL⟩:=PG bs 0 _ .zero Za hrun l.length Za (by simp [Z8]);have:=h.2 r L hL false
 grind
def EW (k:Int) (l:List Vis):Rte:=⟨k,0,true,[],false,l⟩
def HS (x:Inst) (k:Int) (l:List Vis):Bool:=decide ((V7 x (EW k l)).2=0)
def okR (x:Inst) (k:Int) (S:Nat) (l:List Vis):Bool:=decide ((Ju l).1=(S:Int))&&(decide (Z4 x (EW k l)=0)&&HS x k l)
def VZ (x:Inst) (k:Int) (S:Nat) (l:List Vis):Col:=⟨k,S,(V7 x (EW k l)).1,EW k l⟩
def JU (a b:Col):Bool:=if a.price≠b.price then decide (a.price<b.price) else decide (Lv a.route.visits b.route.visits<0)
def sE (x:Inst) (S:Nat) (l:List Vis):List Vis:=nextU x S l x.orders.length
def UL (x:Inst) (S:Nat):Nat:=AS x S x.orders.length
def Pi (x:Inst) (k:Int) (S f:Nat) (l:List Vis) (s:Int×List Sr):List (List Vis):=lvW (sE x S) (goS x (nth x.types k.toNat)) (fun s=>s.2.isEmpty) f l s
def Hm (x:Inst) (k:Int) (S:Nat) (z:Col×Bool):Col×Bool:=(Pi x k S (UL x S) [] (st0 (nth x.types k.toNat))).foldl (Ub (HS x k) (VZ x k S) JU) z
def uS (x:Inst) (k:Int) (S:Nat) (z:Col×Bool):Col×Bool:=(Tz (sE x S) (UL x S) []).foldl (Ub (okR x k S) (VZ x k S) JU) z
theorem GO {ok ok':List Vis->Bool} {col:List Vis->Col} {better:Col->Col->Bool} : ∀ {L:List (List Vis)} {b:Col×Bool},(∀l∈L,ok l=ok' l)->L.foldl (Ub ok col better) b=L.foldl (Ub ok' col better) b
 | [],_,_=>rfl
 | l::L,b,h=>by
  rw [Yt,Yt,Ub,Ub,h l Zb];exact GO fun m hm=>h m (Ym _ hm)
theorem eC {x:Inst} {S:Nat} (hN: ∀l,Gr x S l->l.length<UL x S->sE x S l≠ []): ∀(f:Nat) (l m:List Vis),Gr x S l->l.length+f=UL x S->m∈Tz (sE x S) f l->Gr x S m/\m.length=UL x S
 | 0,l,m,h,ht,hm=>by
  simp_all [Tz]
 | f+1,l,m,h,ht,hm=>by
  rw [Tz,if_neg (hN l h Za)] at hm;obtain ⟨v,hv,hm⟩:=We.1 hm;exact eC hN f _ m (.snoc h hv) (by simp;omega) hm
theorem WT {x:Inst} {r:Rte} (h:Z4 x r=0):RightV x r.visits:=by
 rw [<- SQ]
 have h1:Yg x r=0:=by
  grind [Z4]
 unfold Yg at h1;omega
theorem Kc {x:Inst} {k:Int} {l:List Vis} (h:HS x k l=true):Z4 x (EW k l)=0:=by
 have h:=KS h
 grind [V7]
theorem Sn {x:Inst} (hx:InstOk x) {S:Nat} (ha:Alw x S) (l:List Vis) (h:Gr x S l) (hl:l.length<UL x S):sE x S l≠ []:=fun e=>by
 have hf:=YV hx
 have hn:x.orders.length<=60:=by have:=hf.len;omega
 have:=(h.next_nil ha hn hf.val).1 e
 grind [UL]
theorem uT {x:Inst} (hx:InstOk x) {k:Int} {S:Nat} (h0:S≠0) (hS:S / pw x.orders.length=0) (ha:Alw x S) (ht:0<=(nth x.types k.toNat).opn) (z:Col×Bool):Hm x k S z=uS x k S z:=by
 have hN:=Sn hx ha
 have h1:uS x k S z=(Tz (sE x S) (UL x S) []).foldl (Ub (HS x k) (VZ x k S) JU) z:=GO fun l hl=>by
  obtain ⟨hg,hlen⟩:=eC hN _ _ _ .nil Zb hl;obtain ⟨hr,ho⟩:=hg.right (YV hx) ha h0 hS hlen;unfold okR
  cases hv:HS x k l with
  | false=>simp
  | true =>
   rw [Kc hv,hr.ord (YV hx),ho];simp
 rw [h1,Hm,Pi,Qa,Qa (Tz _ _ _)]
 rw [<- sD (nx:=sE x S) (go:=goS x (nth x.types k.toNat)) (emp:=fun s=>s.2.isEmpty) (ok:=HS x k) (G:=Gr x S) (R:=TB x (nth x.types k.toNat)) (tot:=UL x S) (fun l v hl hv=> .snoc hl hv) (fun l s v _ hs _=>bH hs)
  (fun l s _ hs he r=>YZ (RQ hs (List.isEmpty_iff.1 he) r true false)) hN (UL x S) [] (st0 (nth x.types k.toNat)) .nil (bI ht) Zb]
def WX (s:Sco):Prop:=0<=s.cost/\0<=s.moved/\0<=s.other/\0<=s.work
theorem Ki {a b:Sco} (ha:WX a) (hb:WX b):WX (XV a b):=by
 obtain ⟨a1,a2,a3,a4⟩:=ha;obtain ⟨b1,b2,b3,b4⟩:=hb;exact ⟨by show 0<=a.cost+b.cost;omega,by show 0<=a.moved+b.moved;omega,by show 0<=a.other+b.other;omega,by show 0<=a.work+b.work;omega⟩
theorem QU {s:Sco} (hs:WX s):(XW s).2=0↔s.cost<=1073741824/\s.moved<16/\s.other<16/\s.work<65536:=by
 obtain ⟨a1,a2,a3,a4⟩:=hs;unfold XW
 grind
theorem ME {s:Sco} (hs:WX s) (h:(XW s).2=0):(XW s).1=((s.cost*16+s.moved)*16+s.other)*65536+s.work:=by
 have h:=(QU hs).1 h;obtain ⟨a1,a2,a3,a4⟩:=hs
 simp_all [XW,if_neg]
theorem pJ {a b:Sco} (ha:WX a) (hb:WX b) (h:(XW (XV a b)).2=0):(XW a).2=0/\(XW b).2=0/\(XW (XV a b)).1=(XW a).1+(XW b).1:=by
 have h1:=(QU (Ki ha hb)).1 h;have hv:=ME (Ki ha hb) h;have hA:(XW a).2=0:=(QU ha).2 (by simp only [XV] at h1;obtain ⟨b1,b2,b3,b4⟩:=hb;omega)
 grind [XW,QU,XV]
theorem Zdt {α:Type} {f:α->Sco} : ∀(l:List α) (s:Sco),(∀a∈l,WX (f a))->WX s->(XW (l.foldl (fun s a=>XV s (f a)) s)).2=0 ->
  (XW s).2=0/\(∀a∈l,(XW (f a)).2=0)/\(XW (l.foldl (fun s a=>XV s (f a)) s)).1=(XW s).1+(l.map fun a=>(XW (f a)).1).sum
 | [],s,_,_,h=>⟨h,Zb,Zb⟩
 | a::l,s,hf,hs,h=>by
  rw [Yt] at h ⊢;have ha:=hf a Zb;obtain ⟨g1,g2,g3⟩:=Zdt l (XV s (f a)) (fun b hb=>hf b (Ym _ hb)) (Ki hs ha) h;obtain ⟨k1,k2,k3⟩:=pJ hs ha g1
  grind
set_option maxHeartbeats 8000000
def Ur (rs:List Rte) (i:Nat):Int:=(rs.countP fun r=>hasO r.visits (i:Int):Nat)
def Wc (us:List Int) (i:Nat):Int:=(us.countP fun u=>decide (u=(i:Int)):Nat)
def A5 (rs:List Rte) (i:Nat):Int:=(rs.countP fun r=>decide (r.typ=(i:Int)):Nat)
theorem RJ {rs:List Rte} {k:Nat} (h:k<rs.length) (i:Nat):Ur (rs.take (k+1)) i=if hasO (nth rs k).visits (i:Int)=true then Ur (rs.take k) i+1 else Ur (rs.take k) i:=by
 grind [Ur,Xm,Ze]
theorem RL {us:List Int} {k:Nat} (h:k<us.length) (i:Nat):Wc (us.take (k+1)) i=if nth us k=(i:Int) then Wc (us.take k) i+1 else Wc (us.take k) i:=by
 grind [Wc,Xm,Ze]
theorem RK {rs:List Rte} {k:Nat} (h:k<rs.length) (i:Nat):A5 (rs.take (k+1)) i=if (nth rs k).typ=(i:Int) then A5 (rs.take k) i+1 else A5 (rs.take k) i:=by
 grind [A5,Xm,Ze]
theorem IV {rs:List Rte} {k:Nat} (i:Nat):0<=Ur (rs.take k) i/\Ur (rs.take k) i<=rs.length:=by
 grind [ZE,Ur]
theorem IW {us:List Int} {k:Nat} (i:Nat):0<=Wc (us.take k) i/\Wc (us.take k) i<=us.length:=by
 grind [ZE,Wc]
theorem bE {rs:List Rte} {k:Nat} (i:Nat):0<=A5 (rs.take k) i/\A5 (rs.take k) i<=rs.length:=by
 grind [ZE,A5]
def CM (x:Inst) (us:List Int):Bool:=us.all fun u=>decide (0<=u)&&decide (u<(x.orders.length:Int))
def Ag (x:Inst):List Rte->Int
 | []=>0
 | r::l=>if Z4 x r=0 then Ag x l else Z4 x r
theorem OU {x:Inst} : ∀ {l:List Rte} {k:Nat},k<l.length->(∀j,j<k->Z4 x (nth l j)=0)-> ¬Z4 x (nth l k)=0->Ag x l=Z4 x (nth l k)
 | r::l,0,_,_,h=>by rw [Ag,if_neg (show ¬Z4 x r=0 from h)];rfl
 | r::l,k+1,hk,h0,h=>by
  rw [Ag,if_pos (show Z4 x r=0 from h0 0 Za)];exact OU (l:=l) (k:=k) (by grind) (fun j hj=>h0 (j+1) Za) h
theorem OV {x:Inst} : ∀ {l:List Rte},(∀j,j<l.length->Z4 x (nth l j)=0)->Ag x l=0
 | [],_=>rfl
 | r::l,h=>by
  rw [Ag,if_pos (show Z4 x r=0 from h 0 Zb)];exact OV fun j hj=>h (j+1) (by grind)
def FD (p:Pln) (i:Nat):Int:=Ur p.routes i+Wc p.unserved i
def AU (x:Inst) (p:Pln):Bool:=(List.range x.orders.length).any fun i=>decide (1<FD p i)
def AB (x:Inst) (p:Pln):Bool:=(List.range x.types.length).any fun t=>decide ((nth x.types t).count<A5 p.routes t)
def Ku (x:Inst) (p:Pln):Bool:=(List.range x.orders.length).any fun i=>(nth x.orders i).off&&decide (0<Wc p.unserved i)
def C2 (x:Inst) (p:Pln):Bool:=(List.range x.orders.length).any fun i=> !(nth x.orders i).off&&(decide (FD p i=0)||(decide (0<Wc p.unserved i)&&decide ((nth x.orders i).penalty= -1)))
def Wu (x:Inst) (p:Pln):Int :=
 if ¬Ag x p.routes=0 then Ag x p.routes
 else if CM x p.unserved=false then 2
 else if AU x p=true then 6
 else if AB x p=true then 22
 else if Ku x p=true then 9
 else if C2 x p=true then 23
 else 0
theorem bD {rs:List Rte} (i:Nat):0<=Ur rs i/\Ur rs i<=rs.length:=by
 have:=IV (rs:=rs) (k:=rs.length) i
 grind
theorem bF {us:List Int} (i:Nat):0<=Wc us i/\Wc us i<=us.length:=by
 have:=IW (us:=us) (k:=us.length) i
 grind
theorem sG {x:Inst} (hx:InstOk x):x.orders.length<=10:=by have:=hx.orders.1;omega
theorem Znh {x:Inst} (hx:InstOk x):x.types.length<=6:=by have:=hx.types.1;simp only [rng,Zl] at this;omega
theorem I4 {x:Inst} {l:List Rte} :Ag x l=0↔ ∀r∈l,Z4 x r=0:=by
 induction l with
 | nil=>simp [Ag]
 | cons r l ih =>
  rw [Ag]
  grind
def Y2 (x:Inst) (l:List Rte):Sco:=l.foldl (fun s r=>XV s (Xt x r)) zSco
def QP (x:Inst) (s:Sco) (l:List Int):Sco:=l.foldl (fun s i=>XV s (Xk x i).1) s
theorem CK {x:Inst} {l:List Rte} {k:Nat} (h:k<l.length):Y2 x (l.take (k+1))=XV (Y2 x (l.take k)) (Xt x (nth l k)):=by
 grind [Y2,Xm,Ze]
theorem GL {x:Inst} {s:Sco} {l:List Int} {k:Nat} (h:k<l.length):QP x s (l.take (k+1))=XV (QP x s (l.take k)) (Xk x (nth l k)).1:=by
 grind [QP,Xm,Ze]
theorem Mu {x:Inst} {l:List Rte} (hx:InstOk x) (hb: ∀r∈l,L6 r) (h: ∀r∈l,Z4 x r=0): ∀k:Nat,k<=l.length->UV (1073741824*k) (Y2 x (l.take k))
 | 0,_=>by simp [Y2,UV,zSco]
 | k+1,hk=>by
  rw [CK Za];have hm:=ZD (l:=l) (show k<l.length by omega);exact YW Za (E1 (Mu hx hb h k Za) (Cg hx (hb _ hm).1 (h _ hm)))
theorem Mv {x:Inst} {s:Sco} {l:List Int} {B:Int} (hx:InstOk x) (hs:UV B s): ∀k:Nat,k<=l.length->UV (B+1073741824*k) (QP x s (l.take k))
 | 0,_=>by grind [QP]
 | k+1,hk=>by
  rw [GL Za];exact YW Za (E1 (Mv hx hs k Za) (Fb hx _))
def Jx (x:Inst) (p:Pln):Sco:=if Wu x p=0 then QP x (Y2 x p.routes) p.unserved else zSco
theorem Vn {x:Inst} {p:Pln} (h:Wu x p=0):(∀r∈p.routes,Z4 x r=0)/\ ∀i∈p.unserved,(Xk x i).2=0:=by
 unfold Wu at h
 split at h
 ·omega
 ·rename_i c0;have her:Ag x p.routes=0:=Xy.1 c0
  split at h
  ·simp at h
  ·rename_i c1
   split at h
   ·simp at h
   ·split at h
    ·simp at h
    ·split at h
     ·simp at h
     ·rename_i c4
      split at h
      ·simp at h
      ·rename_i c5;refine ⟨I4.1 her,fun u hu=> ?_⟩
       have hub:CM x p.unserved=true:=by grind
       rw [CM,Zy] at hub;have h1:=hub u hu;simp only [Zt,Zl] at h1
       have hui:u.toNat<x.orders.length:=Za
       have hcu:0<Wc p.unserved u.toNat:=by
        unfold Wc;have:0<p.unserved.countP fun v=>decide (v=(u.toNat:Int)):=Qo.2 ⟨u,hu,by grind⟩;omega
       have h4:Ku x p=false:=by grind
       have h5:C2 x p=false:=by grind
       have h4:=XS.1 h4 _ (ZL.2 hui);have h5:=XS.1 h5 _ (ZL.2 hui)
       simp_all [Xk,if_neg]
theorem aQ {x:Inst} {p:Pln} (h:Wu x p=0):Ag x p.routes=0/\CM x p.unserved=true/\AU x p=false/\AB x p=false/\Ku x p=false/\C2 x p=false:=by
 unfold Wu at h
 by_cases c0:Ag x p.routes=0
 ·grind
 omega
theorem KG {x:Inst} {p:Pln} (h:Wu x p=0) :
  (∀u∈p.unserved,0<=u/\u<(x.orders.length:Int)) /\
  (∀i:Nat,i<x.orders.length->p.routes.countP (fun r=>hasO r.visits (i:Int))+p.unserved.countP (fun u=>decide (u=(i:Int)))<=1) /\
  (∀i:Nat,i<x.orders.length->(i:Int)∈p.unserved->(nth x.orders i).off=false/\(nth x.orders i).penalty≠ -1) /\
  (∀i:Nat,i<x.orders.length->(nth x.orders i).off=false->1<=p.routes.countP (fun r=>hasO r.visits (i:Int))+p.unserved.countP (fun u=>decide (u=(i:Int)))) /\
  (∀t:Nat,t<x.types.length->((p.routes.countP fun r=>decide (r.typ=(t:Int)):Nat):Int)<=(nth x.types t).count):=by
 obtain ⟨_,h1,h2,h3,h4,h5⟩:=aQ h
 have hcu: ∀i:Nat,(i:Int)∈p.unserved->0<Wc p.unserved i:=fun i hi=>by
  grind [Wc,Qo]
 have g2:=XS.1 h2;have g3:=XS.1 h3;have g4:=XS.1 h4;have g5:=XS.1 h5;refine ⟨fun u hu=> ?_,fun i hi=> ?_,fun i hi hu=> ?_,fun i hi ho=> ?_,fun t ht=> ?_⟩
 ·grind [CM]
 ·exact Nat.le_of_not_lt fun hlt=>g2 i (ZL.2 hi) (YJ (by grind [FD,Ur,Wc]))
 ·grind
 ·grind [FD,Ur,Wc]
 grind [A5]
theorem fA (p:Pln) (i:Nat) (hr:p.routes.length<=1048576) (hu:p.unserved.length<=1048576) (hv: ∀r∈p.routes,r.visits.length<=1048576) :
  PT 47 [.p (UR p),.p (.int .i64 (i:Nat))] [.p (.int .i64 (Ur p.routes i)),.p (.int .i64 (Wc p.unserved i))]:=by
 refine Zf [] Tryz.func47 rfl ZgP ?_;simp (disch:=omega) only [Tryz.f47,go_sem,seval];refine Zk [1,2,7] (fun k:Nat=> [(6,.p (.int .i64 (Ur (p.routes.take k) i))),(8,.p (.int .i64 k))]) (fun _=> [Yf p]) (fun k=>k<=p.routes.length) (fun k=>p.routes.length-k) 0 Zb (Weak.mk ?_) ?_
 ·simp (disch:=omega) only [Yf,Ur,WN,List.countP_nil,go_sem,seval]
 ·intro k hk;refine Zba ?_;refine cD ?_ ?_<;>intro h1<;>simp (disch:=omega) only [Sh.out h1,go_sem,seval,↓reduceIte]
  ·have hk2:k<p.routes.length:=Za
   have hvl:=hv _ (ZD hk2);have hsu:=RJ hk2 i;have hg:=IV (rs:=p.routes) (k:=k) i;refine Zk [1,2,7,8] (fun j:Nat=> [(6,.p (.int .i64 (Ur (p.routes.take k) i))),(9,.p (.int .i64 j))]) (fun _=> [Yf p]) (fun j=>j<=(nth p.routes k).visits.length/\ ∀q,q<j->(nth (nth p.routes k).visits q).order≠(i:Int)) (fun j=>(nth p.routes k).visits.length-j) 0 Zb (Weak.mk ?_) ?_
   ·simp (disch:=omega) only [Yf,go_sem,seval]
   ·rintro j ⟨hj,hno⟩;refine Zba ?_;refine ZP ?_ ?_<;>intro h2
    ·have hj2:j<(nth p.routes k).visits.length:=Za
     refine ZP ?_ ?_<;>intro h3
     ·have hh:hasO (nth p.routes k).visits (i:Int)=true:=XL.2 ⟨_,ZD hj2,h3⟩;rw [if_pos hh] at hsu;exact ⟨k+1,Za,Za,Weak.mk (by simp (disch:=omega) only [hsu,go_sem,seval])⟩
     ·exact ⟨j+1,⟨Za,Zm.2 ⟨hno,h3⟩⟩,Za,wk⟩
    ·have hh: ¬hasO (nth p.routes k).visits (i:Int)=true:=fun e=>by
      obtain ⟨v,hv,e⟩:=XL.1 e;obtain ⟨q,hq,rfl⟩:=ZN.1 hv
      grind [Ze]
     rw [if_neg hh] at hsu;exact ⟨k+1,Za,Za,Weak.mk (by simp (disch:=omega) only [hsu,go_sem,seval])⟩
  ·have hkl:k=p.routes.length:=Za
   subst hkl;rw [Yb];refine Zk [1,2,6] (fun k:Nat=> [(7,.p (.int .i64 (Wc (p.unserved.take k) i))),(10,.p (.int .i64 k))]) (fun _=> [Yf p]) (fun k=>k<=p.unserved.length) (fun k=>p.unserved.length-k) 0 Zb (Weak.mk ?_) ?_
   ·simp (disch:=omega) only [Yf,Wc,WN,List.countP_nil,go_sem,seval]
   ·intro k hk;refine Zba ?_;refine cD ?_ ?_<;>intro h2<;>simp (disch:=omega) only [Sh.out h2,go_sem,seval,↓reduceIte]
    ·have hk2:k<p.unserved.length:=Za
     have hsu:=RL hk2 i;have hg:=IW (us:=p.unserved) (k:=k) i;refine ZP ?_ ?_<;>intro h3
     ·rw [if_pos h3] at hsu;exact ⟨k+1,Za,Za,Weak.mk (by simp (disch:=omega) only [hsu,go_sem,seval])⟩
     ·rw [if_neg h3] at hsu;exact ⟨k+1,Za,Za,Weak.mk (by simp (disch:=omega) only [hsu,go_sem,seval])⟩
    ·have hkl:k=p.unserved.length:=Za
     subst hkl;rw [Yb];exact we
theorem G7 {n:Nat} {f:Nat->Bool} {k:Nat} (hk:k<n) (h:f k=true):(List.range n).any f=true:=UC.2 ⟨k,ZL.2 hk,h⟩
theorem Ox {n:Nat} {f:Nat->Bool} (h: ∀j,j<n->f j=false):(List.range n).any f=false:=by
 grind
def eJ (x:Inst) (p:Pln) (i:Nat):Bool:= !(nth x.orders i).off&&(decide (FD p i=0)||(decide (0<Wc p.unserved i)&&decide ((nth x.orders i).penalty= -1)))
theorem E9 {P Q:Prop} (h:Q) (e:Q->P:=by intro h;simp (disch:=omega) only [Zj,Yf,go_sem,seval];exact h):P:=e h
theorem lI (x:Inst) (p:Pln) (hx:InstOk x) (hr:p.routes.length<=1048576) (hu:p.unserved.length<=1048576) (hb: ∀r∈p.routes,L6 r) :
  PC 16 [.p (ZF x),.p (UR p)] (.int .i64 (Wu x p)):=by
 have hn:=sG hx;have ht:=Znh hx;have hvl: ∀r∈p.routes,r.visits.length<=1048576:=fun r hr=>(hb r hr).1
 have cR: ∀i,0<=Ur p.routes i/\Ur p.routes i<=1048576:=fun i=>by have:=bD (rs:=p.routes) i;omega
 have cU: ∀i,0<=Wc p.unserved i/\Wc p.unserved i<=1048576:=fun i=>by have:=bF (us:=p.unserved) i;omega
 refine Zf [] Tryz.func16 rfl ZgH ?_;simp (disch:=omega) only [Tryz.f16,go_sem,seval];refine Zk [2,3] (fun k:Nat=> [(5,.p (.int .i64 k))]) (fun _=> [Zj x,Yf p]) (fun k=>k<=p.routes.length/\ ∀j,j<k->Z4 x (nth p.routes j)=0) (fun k=>p.routes.length-k) 0 Zb (Weak.mk ?_) ?_
 ·simp (disch:=omega) only [Zj,Yf,go_sem,seval]
 ·rintro k ⟨hk,h0⟩;refine E9 ?_;refine cD ?_ ?_<;>intro h1<;>simp (disch:=omega) only [Sh.out h1,go_sem,seval,↓reduceIte]
  ·have hk2:k<p.routes.length:=Za
   obtain ⟨b1,b2⟩:=hb _ (ZD hk2);refine Z6 7 mixed Zd Zd (Wp ?_);refine Zp (Ti x (nth p.routes k) hx b1 b2) (Wp ?_);refine ZP ?_ ?_<;>intro h2
   ·have he:Wu x p=Z4 x (nth p.routes k):=by
     have e:=OU hk2 h0 h2
     simp_all [Wu]
    rw [he];exact we
   ·exact ⟨k+1,⟨Za,Zm.2 ⟨h0,Za⟩⟩,Za,wk⟩
  ·have hkl:k=p.routes.length:=Za
   subst hkl;have her:=OV h0;have c0: ¬ ¬Ag x p.routes=0:=fun e=>e her;refine Zk [2,3] (fun k:Nat=> [(7,.p (.int .i64 k))]) (fun _=> [Zj x,Yf p]) (fun k=>k<=p.unserved.length/\ ∀j,j<k->0<=nth p.unserved j/\nth p.unserved j<(x.orders.length:Int)) (fun k=>p.unserved.length-k) 0 Zb (Weak.mk ?_) ?_
   ·simp (disch:=omega) only [Zj,Yf,go_sem,seval]
   ·rintro k ⟨hk,hno⟩;refine E9 ?_
    have hbad:k<p.unserved.length->(decide (0<=nth p.unserved k)&&decide (nth p.unserved k<(x.orders.length:Int)))=false->Wu x p=2:=fun h1 h2=>by
     have:CM x p.unserved=false:=by
      grind [CM,ZD]
     simp_all [Wu]
    refine cD ?_ ?_<;>intro h2<;>simp (disch:=omega) only [Sh.out h2,go_sem,seval,↓reduceIte]
    ·have hk2:k<p.unserved.length:=Za
     refine XH (Wp ?_);refine gF ?_ ?_<;>intro h3<;>simp (disch:=omega) only [Sh.out h3,go_sem,seval,↓reduceIte]
     ·rw [hbad hk2 (by simp;omega)];exact we
     ·refine ZP ?_ ?_<;>intro h4
      ·rw [hbad hk2 (by simp;omega)];exact we
      ·exact ⟨k+1,⟨Za,Zm.2 ⟨hno,Za⟩⟩,Za,wk⟩
    ·have hkl:k=p.unserved.length:=Za
     subst hkl
     have hall:CM x p.unserved=true:=by
      rw [CM,Zy];intro u hu;obtain ⟨j,hj,rfl⟩:=ZN.1 hu
      grind [Ze]
     have c1: ¬CM x p.unserved=false:=by grind
     refine Zk [2,3] (fun k:Nat=> [(8,.p (.int .i64 k))]) (fun _=> [Zj x,Yf p]) (fun k=>k<=x.orders.length/\ ∀j,j<k->decide (1<FD p j)=false) (fun k=>x.orders.length-k) 0 Zb (Weak.mk ?_) ?_
     ·simp (disch:=omega) only [Zj,Yf,go_sem,seval]
     ·rintro k ⟨hk,hno2⟩;refine E9 ?_;refine cD ?_ ?_<;>intro h3<;>simp (disch:=omega) only [Sh.out h3,go_sem,seval,↓reduceIte]
      ·have hk2:k<x.orders.length:=Za
       have a1:=cR k;have a2:=cU k;refine CP (fA p k hr hu hvl) (Wp ?_);refine ZP ?_ ?_<;>intro h4
       ·have hv:Wu x p=6:=by rw [Wu,if_neg c0,if_neg c1,if_pos (show AU x p=true from G7 hk2 (YJ h4))]
        rw [hv];exact we
       ·exact ⟨k+1,⟨Za,Zm.2 ⟨hno2,YZ h4⟩⟩,Za,wk⟩
      ·have c2: ¬AU x p=true:=by grind [AU]
       have hkl:k=x.orders.length:=Za
       subst hkl;refine Zk [2,3] (fun k:Nat=> [(11,.p (.int .i64 k))]) (fun _=> [Zj x,Yf p]) (fun k=>k<=x.types.length/\ ∀j,j<k->decide ((nth x.types j).count<A5 p.routes j)=false) (fun k=>x.types.length-k) 0 Zb (Weak.mk ?_) ?_
       ·simp (disch:=omega) only [Zj,Yf,go_sem,seval]
       ·rintro t ⟨hk,hno3⟩;refine E9 ?_;refine cD ?_ ?_<;>intro h4<;>simp (disch:=omega) only [Sh.out h4,go_sem,seval,↓reduceIte]
        ·have hk2:t<x.types.length:=Za
         refine Zk [2,3,11] (fun k:Nat=> [(12,.p (.int .i64 (A5 (p.routes.take k) t))),(13,.p (.int .i64 k))]) (fun _=> [Zj x,Yf p]) (fun k=>k<=p.routes.length) (fun k=>p.routes.length-k) 0 Zb (Weak.mk ?_) ?_
         ·simp (disch:=omega) only [Zj,Yf,A5,WN,List.countP_nil,go_sem,seval]
         ·intro k hk;have hg:=bE (rs:=p.routes) (k:=k) t;refine E9 ?_;refine cD ?_ ?_<;>intro h5<;>simp (disch:=omega) only [Sh.out h5,go_sem,seval,↓reduceIte]
          ·have hk3:k<p.routes.length:=Za
           have hsu:=RK hk3 t;refine ZP ?_ ?_<;>intro h6
           ·rw [if_pos h6] at hsu;exact ⟨k+1,Za,Za,Weak.mk (by simp (disch:=omega) only [hsu,go_sem,seval])⟩
           ·rw [if_neg h6] at hsu;exact ⟨k+1,Za,Za,Weak.mk (by simp (disch:=omega) only [hsu,go_sem,seval])⟩
          ·have hkl:k=p.routes.length:=Za
           subst hkl
           rw [Yb] at *
           refine ZP ?_ ?_<;>intro h6
           ·have hv:Wu x p=22:=by rw [Wu,if_neg c0,if_neg c1,if_neg c2,if_pos (show AB x p=true from G7 hk2 (YJ h6))]
            rw [hv];exact we
           ·exact ⟨t+1,⟨Za,Zm.2 ⟨hno3,YZ h6⟩⟩,Za,wk⟩
        ·have c3: ¬AB x p=true:=by grind [AB]
         have hlast:=hno;refine Zk [2,3] (fun k:Nat=> [(14,.p (.int .i64 k))]) (fun _=> [Zj x,Yf p]) (fun k=>k<=p.unserved.length/\ ∀j,j<k->(nth x.orders (nth p.unserved j).toNat).off=false) (fun k=>p.unserved.length-k) 0 Zb (Weak.mk ?_) ?_
         ·simp (disch:=omega) only [Zj,Yf,go_sem,seval]
         ·rintro k ⟨hk,hno4⟩;refine E9 ?_;refine cD ?_ ?_<;>intro h5<;>simp (disch:=omega) only [Sh.out h5,go_sem,seval,↓reduceIte]
          ·have hk2:k<p.unserved.length:=Za
           have hrg:=hno k hk2
           have hui:(nth p.unserved k).toNat<x.orders.length:=Za
           refine XH (Wp ?_);refine ZP ?_ ?_<;>intro h6
           ·have hcu:0<Wc p.unserved (nth p.unserved k).toNat:=by
             unfold Wc;have:0<p.unserved.countP fun v=>decide (v=((nth p.unserved k).toNat:Int)):=Qo.2 ⟨_,ZD hk2,by grind⟩;omega
            have hst:Ku x p=true:=G7 hui (by grind)
            have hv:Wu x p=9:=by simp_all [Wu]
            rw [hv];exact we
           ·exact ⟨k+1,⟨Za,Zm.2 ⟨hno4,Za⟩⟩,Za,wk⟩
          ·have hkl:k=p.unserved.length:=Za
           subst hkl
           have hoff: ∀i,i<x.orders.length->0<Wc p.unserved i->(nth x.orders i).off=false:=fun i hi hc=>by
            unfold Wc at hc
            have hc2:0<p.unserved.countP fun v=>decide (v=(i:Int)):=Za
            obtain ⟨u,hu,e⟩:=Qo.1 hc2;obtain ⟨j,hj,rfl⟩:=ZN.1 hu;have h:=hno4 j hj
            simp_all [Ze]
           have c4: ¬Ku x p=true:=by
            rw [Ku,Ox fun j hj=> ?_]
            ·simp
            grind
           refine Zk [2,3] (fun k:Nat=> [(15,.p (.int .i64 k))]) (fun _=> [Zj x,Yf p]) (fun k=>k<=x.orders.length/\ ∀j,j<k->eJ x p j=false) (fun k=>x.orders.length-k) 0 Zb (Weak.mk ?_) ?_
           ·simp (disch:=omega) only [Zj,Yf,go_sem,seval]
           ·rintro k ⟨hk,hno5⟩;refine E9 ?_;refine cD ?_ ?_<;>intro h6<;>simp (disch:=omega) only [Sh.out h6,go_sem,seval,↓reduceIte]
            ·have hk2:k<x.orders.length:=Za
             have a1:=cR k;have a2:=cU k;have ho:=hoff k hk2
             have miss:(!(nth x.orders k).off&&(decide (FD p k=0)||(decide (0<Wc p.unserved k)&&decide ((nth x.orders k).penalty= -1))))=true->Wu x p=23:=fun h=>by
              rw [Wu,if_neg c0,if_neg c1,if_neg c2,if_neg c3,if_neg c4,if_pos (show C2 x p=true from G7 hk2 h)]
             have nxt:(!(nth x.orders k).off&&(decide (Ur p.routes k+Wc p.unserved k=0)||(decide (0<Wc p.unserved k)&&decide ((nth x.orders k).penalty= -1))))=false-> ∀j,j<k+1->eJ x p j=false:=fun h=>Zm.2 ⟨hno5,h⟩;have hoc:FD p k=Ur p.routes k+Wc p.unserved k:=rfl;rw [hoc] at miss;refine CP (fA p k hr hu hvl) ?_
             generalize Ur p.routes k=ca at *
             generalize Wc p.unserved k=cb at *
             refine Wp ?_
             cases hof:(nth x.orders k).off with
             | false =>
              refine gT ?_ ?_<;>intro h7<;>simp (disch:=omega) only [Sh.out h7,hof,V4,go_sem,seval,↓reduceIte]
              ·rw [miss (by grind)];exact we
              ·refine gT ?_ ?_<;>intro h8<;>simp (disch:=omega) only [Sh.out h8,hof,go_sem,seval]
               ·refine ZP ?_ ?_<;>intro h9
                ·rw [miss (by grind)];exact we
                ·exact ⟨k+1,⟨Za,nxt (by grind)⟩,Za,wk⟩
               ·exact ⟨k+1,⟨Za,nxt (by grind)⟩,Za,wk⟩
             | true =>
              have hcb: ¬ 0<cb:=fun e=>by grind
              have hn: ∀j,j<k+1->eJ x p j=false:=nxt (by simp [hof]);refine gT ?_ ?_<;>intro h7<;>simp (disch:=omega) only [Sh.out h7,hof,Vw,go_sem,seval,↓reduceIte]
              ·refine QB ?_ ?_<;>intro h8
               ·omega
               ·exact ⟨k+1,⟨Za,hn⟩,Za,wk⟩
              ·refine QB ?_ ?_<;>intro h8
               ·omega
               ·exact ⟨k+1,⟨Za,hn⟩,Za,wk⟩
            ·have c5: ¬C2 x p=true:=by rw [show C2 x p=false from Ox fun j hj=>hno5 j Za];simp
             have hv:Wu x p=0:=by simp_all [Wu]
             rw [hv];exact we
theorem S1 (x:Inst) (p:Pln) (hx:InstOk x) (hr:p.routes.length<=1048576) (hu:p.unserved.length<=1048576) (hb: ∀r∈p.routes,L6 r) :
  PT 17 [.p (ZF x),.p (UR p)] [.p (Bb (Jx x p)),.p (.int .i64 (Wu x p))]:=by
 have hn:=sG hx;refine Zf [8] Tryz.func17 rfl ZgI ?_;simp (disch:=omega) only [Tryz.f17,go_sem,seval];refine (lI x p hx hr hu hb).use (Wp ?_);refine cD ?_ ?_<;>intro h0<;>simp (disch:=omega) only [Sh.out h0,go_sem,seval,↓reduceIte]
 ·have e:Jx x p=zSco:=by rw [Jx,if_neg h0]
  rw [e];exact we (by simp (disch:=omega) only [zSco,go_sem,seval])
 ·have h0':Wu x p=0:=Za
  obtain ⟨z1,z2⟩:=Vn h0';have r1:=Mu (l:=p.routes) hx hb z1;refine Xc [8] [2,3,4,7] (fun k:Nat=> [(8,.p (.int .i64 k))]) (fun k=> [Zj x,Yf p,V8 0 0 0 0,A1 (Y2 x (p.routes.take k))]) (fun k=>k<=p.routes.length) (fun k=>p.routes.length-k) 0 Zb (Weak.mk ?_) ?_
  ·simp (disch:=omega) only [Zj,Yf,V8,A1,Y2,zSco,WN,Qr,go_sem,seval]
  ·intro k hk;simp (disch:=omega) only [Zj,Yf,V8,A1,go_sem,seval];refine cD ?_ ?_<;>intro h1<;>simp (disch:=omega) only [Sh.out h1,go_sem,seval,↓reduceIte]
   ·have hk2:k<p.routes.length:=Za
    have hm:=ZD hk2;obtain ⟨b1,b2⟩:=hb _ hm;have ce:=Bd x (nth p.routes k) hx b1 b2;unfold Bc at ce;rw [z1 _ hm] at ce;have q1:=r1 k Za;have q2:=Cg hx b1 (z1 _ hm);have hsu:=CK (x:=x) hk2;refine ZI [2,3,4,7,8] (fun _:Unit=> []) (fun _=> [Zj x,Yf p,V8 0 0 0 0,A1 (Y2 x (p.routes.take (k+1)))]) (fun _=>True) ?_ ?_
    ·refine Wp ?_;refine Xe [11,12,13,14] 15 mixed Zd Zd Zd Zb (Wp ?_);refine AE ce (Wp ?_);refine Gk 11 12 _ _ _ _ Zd (by refine Wp ?_;exact ⟨rfl,rfl⟩) (by refine Wp ?_;exact ⟨rfl,rfl⟩) ?_ ?_
     ·refine ZJ 12 _ _ Zd (by refine Wp ?_;exact ⟨rfl,rfl⟩) (ZJ 13 _ _ Zd (by refine Wp ?_;exact ⟨rfl,rfl⟩) (ZJ 14 _ _ Zd (by refine Wp ?_;exact ⟨rfl,rfl⟩) (Yk ?_)));refine Wp ?_;refine (GZ (Y2 x (p.routes.take k)) (Xt x (nth p.routes k)) (YW Za q1) (YW Za q2)).use (Wp ?_);exact ⟨(),Weak.mk (by simp (disch:=omega) only [Zj,Yf,V8,A1,hsu,go_sem,seval])⟩
     ·refine ZJ 11 _ _ Zd (by refine Wp ?_;exact ⟨rfl,rfl⟩) (ZJ 13 _ _ Zd (by refine Wp ?_;exact ⟨rfl,rfl⟩) (ZJ 14 _ _ Zd (by refine Wp ?_;exact ⟨rfl,rfl⟩) (Yk ?_)));refine Wp ?_;refine (GZ (Y2 x (p.routes.take k)) (Xt x (nth p.routes k)) (YW Za q1) (YW Za q2)).use (Wp ?_);exact ⟨(),Weak.mk (by simp (disch:=omega) only [Zj,Yf,V8,A1,hsu,go_sem,seval])⟩
    ·intro _ _;refine Zg [8] _ _ _ _ ?_;simp (disch:=omega) only [Zj,Yf,V8,A1,go_sem,seval];exact ⟨k+1,Za,Za,wk⟩
   ·have hkl:k=p.routes.length:=Za
    subst hkl;have rr:=r1 _ (Xg _)
    rw [Yb] at *
    have r2:=Mv (l:=p.unserved) hx rr
    have ee:Jx x p=QP x (Y2 x p.routes) p.unserved:=by rw [Jx,if_pos h0']
    rw [ee];refine Xc [8] [2,3,4,7] (fun k:Nat=> [(12,.p (.int .i64 k))]) (fun k=> [Zj x,Yf p,V8 0 0 0 0,A1 (QP x (Y2 x p.routes) (p.unserved.take k))]) (fun k=>k<=p.unserved.length) (fun k=>p.unserved.length-k) 0 Zb (Weak.mk ?_) ?_
    ·simp (disch:=omega) only [Zj,Yf,V8,A1,QP,WN,Qr,go_sem,seval]
    ·intro k hk;simp (disch:=omega) only [Zj,Yf,V8,A1,go_sem,seval];refine cD ?_ ?_<;>intro h2<;>simp (disch:=omega) only [Sh.out h2,go_sem,seval,↓reduceIte]
     ·have hk2:k<p.unserved.length:=Za
      have hm:=ZD hk2;have ce:=Im x (nth p.unserved k) Za;rw [z2 _ hm] at ce;refine Xe [10,11] 12 mixed Zd Zd Zd Zb (Wp ?_);refine YT ce (Wp ?_);refine ZJ 10 _ _ Zd (by refine Wp ?_;exact ⟨rfl,rfl⟩) (ZJ 11 _ _ Zd (by refine Wp ?_;exact ⟨rfl,rfl⟩) (Yk ?_));refine Wp ?_;have q1:=r2 k Za;have q2:=Fb hx (nth p.unserved k);have hsu:=GL (x:=x) (s:=Y2 x p.routes) hk2;refine (GZ (QP x (Y2 x p.routes) (p.unserved.take k)) (Xk x (nth p.unserved k)).1 (YW Za q1) (YW Za q2)).use ?_
      refine Wp ?_;exact ⟨k+1,Za,Za,Weak.mk (by simp (disch:=omega) only [hsu,go_sem,seval])⟩
     ·have hkl:k=p.unserved.length:=Za
      subst hkl;rw [Yb];exact we (by simp (disch:=omega) only [h0',go_sem,seval])
set_option maxRecDepth 60000
theorem gS (n:Nat) (h:n<=4):ACalls Tryz.prog 91 [.p (.list false [.int .i64 (-1)]),.p (.int .i64 n)] [] fun y H'=>y= .sl 0 0 n n/\H'= [.elems 1 ((YG (fun _=> -1) n).map eI)]:=by
 match n,h with
 | 0,_=>exact X4 { kp:= [91] } 20 mixed Zd
 | 1,_=>exact X4 { kp:= [91] } 20 mixed Zd
 | 2,_=>exact X4 { kp:= [91] } 20 mixed Zd
 | 3,_=>exact X4 { kp:= [91] } 20 mixed Zd
 | 4,_=>exact X4 { kp:= [91] } 20 mixed Zd
theorem Lf : ∀(l:List Int),CY (l.map eI)=true
 | []=>rfl
 | a::l=>by simp [CY,Le,eI,Lf l]
def Et (x:Inst) (p:Pln):V:=if V2 x p=0 then .tup [.p (.list false ((US x p).map eI)),.p (.int .i64 0)] else .tup [.p (.list true []),.p (.int .i64 (V2 x p))]
theorem Gu (x:Inst) (p:Pln) (hn:x.orders.length<=4) (ht:x.types.length<=1048576) (hr:p.routes.length<=1048576) (hv: ∀r∈p.routes,r.visits.length<=1048576) :
  ACalls Tryz.prog 53 [.p (ZF x),.p (UR p)] [] fun y H'=>y=Et x p/\H'= []:=by
 have hrp:=gS x.orders.length hn;have hgl: ∀f,(YG f x.orders.length).length=x.orders.length:=fun f=>BT;have h0:YG (fun _=> -1) x.orders.length=YG (ZZ p.routes 0) x.orders.length:=rfl;refine Zf [2] Tryz.func53 rfl ZgU ?_;simp (disch:=omega) only [Tryz.f53,go_sem,seval];refine ACalls.viewF hrp (by rfl) (Lf _) (Wp ?_);refine Zg [26] _ _ _ _ (Wp ?_);refine Xc [26] [2,3,6,21,22] (fun k:Nat=> [(7,.p (.bool (Mz p.routes k))),(23,.p (.int .i64 k))]) (fun k=> [Zj x,Yf p,.elems 1 [.int .i64 (-1)],.elems 1 ((YG (ZZ p.routes k) x.orders.length).map eI)]) (fun k=>k<=p.routes.length/\ ∀j,j<k->Ah x (nth p.routes j)=false) (fun k=>p.routes.length-k) 0 Zb (Weak.mk ?_) ?_
 ·simp (disch:=omega) only [Zj,Yf,h0,Mz,go_sem,seval]
 ·rintro k ⟨hk,hno⟩;refine E9 ?_;refine cD ?_ ?_<;>intro h1<;>simp (disch:=omega) only [Sh.out h1,go_sem,seval,↓reduceIte]
  ·have hk2:k<p.routes.length:=Za
   have hvl:=hv _ (Zq hk2);have hbt:(nth p.routes k).typ<0\/(x.types.length:Int)<=(nth p.routes k).typ->V2 x p=2:=fun h=>Ls hk2 (by simp_all [Ah]);have hbv: ∀q,q<(nth p.routes k).visits.length->Od x.orders.length (nth (nth p.routes k).visits q)=true->V2 x p=2:=fun q hq h=>Ls hk2 (by rw [Ah,Wf];grind [Zq]);refine gF ?_ ?_<;>intro h2<;>simp (disch:=omega) only [Sh.out h2,go_sem,seval,↓reduceIte]
   ·rw [Et,hbt (.inl h2)];exact we (by simp (disch:=omega) only [go_sem,seval,↓reduceIte])
   ·refine cD ?_ ?_<;>intro h3<;>simp (disch:=omega) only [Sh.out h3,go_sem,seval,↓reduceIte]
    ·rw [Et,hbt (.inr h3)];exact we (by simp (disch:=omega) only [go_sem,seval,↓reduceIte])
    ·obtain ⟨vs,hvs⟩: ∃vs,vs=(nth p.routes k).visits:=⟨_,rfl⟩;rw [<- hvs] at hvl hbv
     have hm0:ZZ p.routes k=Qs p.routes k (vs.take 0):=by rfl
     have ht0:Mz p.routes k=(Mz p.routes k||PW p.routes k (vs.take 0)):=by simp [PW]
     refine Zk [2,3,6,8,21,22,23,40,41] (fun q:Nat=> [(7,.p (.bool (Mz p.routes k||PW p.routes k (vs.take q)))),(42,.p (.int .i64 q))]) (fun q=> [Zj x,Yf p,.elems 1 [.int .i64 (-1)],.elems 1 ((YG (Qs p.routes k (vs.take q)) x.orders.length).map eI),Xb (nth p.routes k)]) (fun q=>q<=vs.length/\ ∀j,j<q->0<=(nth vs j).order/\(nth vs j).order<(x.orders.length:Int)) (fun q=>vs.length-q) 0 Zb (Weak.mk ?_) ?_
     ·simp (disch:=omega) only [Zj,Yf,Xb,<- hvs,go_sem,seval]
      grind
     ·rintro q ⟨hq,hin⟩;simp (disch:=omega) only [Zj,Yf,Xb,<- hvs,go_sem,seval];refine ZP ?_ ?_<;>intro h4
      ·have hq2:q<vs.length:=Za
       have htk:vs.take (q+1)=vs.take q++ [nth vs q]:=by rw [Xm hq2,Ze hq2]
       refine gF ?_ ?_<;>intro h5<;>simp (disch:=omega) only [Sh.out h5,go_sem,seval,↓reduceIte]
       ·rw [Et,hbv q hq2 (by simp [Od,h5])];exact we (by simp (disch:=omega) only [go_sem,seval,↓reduceIte])
       ·refine cD ?_ ?_<;>intro h6<;>simp (disch:=omega) only [Sh.out h6,go_sem,seval]
        ·rw [Et,hbv q hq2 (by simp [Od,h6])];exact we (by simp (disch:=omega) only [go_sem,seval,↓reduceIte])
        ·have hvo:0<=(nth vs q).order/\(nth vs q).order<(x.orders.length:Int):=⟨Za,Za⟩
         have hvn:(nth vs q).order.toNat<x.orders.length:=Za
         have htw:=iQ (rs:=p.routes) (k:=k) (l:=vs.take q) (v:=nth vs q) hvo.1 (b:=Mz p.routes k);rw [<- htk] at htw;have hms:=Sj (rs:=p.routes) (k:=k) (l:=vs.take q) (v:=nth vs q) hvo;rw [<- htk] at hms
         have ZH:((YG (Qs p.routes k (vs.take q)) x.orders.length).map eI).set (nth vs q).order.toNat (.int .i64 k)=(YG (Qs p.routes k (vs.take (q+1))) x.orders.length).map eI:=by rw [<- hms,UE];rfl
         have he:Qw ((YG (Qs p.routes k (vs.take q)) x.orders.length).map eI) (nth vs q).order.toNat= .int .i64 (Qs p.routes k (vs.take q) (nth vs q).order.toNat):=by rw [Wn (by grind),Ko hvn];rfl
         have hrl:=hgl (Qs p.routes k (vs.take q));have hrg:=eG (rs:=p.routes) (k:=k) (l:=vs.take q) (o:=(nth vs q).order.toNat);generalize Qs p.routes k (vs.take q) (nth vs q).order.toNat=M at he htw hrg;have hnx: ∀j,j<q+1->0<=(nth vs j).order/\(nth vs j).order<(x.orders.length:Int):=Zm.2 ⟨hin,hvo⟩;generalize (Mz p.routes k||PW p.routes k (vs.take q))=B at htw ⊢
         cases B with
         | true =>
          rw [Bool.true_or] at htw;simp (disch:=first | omega | (simp only [Zz,ZQ,Zw,Zv,ZE,ZK]<;>omega)) only [eq_self,go_sem,seval];exact ⟨q+1,⟨Za,hnx⟩,Za,Weak.mk (by simp (disch:=omega) only [ZH,<- htw,<- hvs,go_sem,seval])⟩
         | false =>
          rw [Bool.false_or] at htw;simp (disch:=first | omega | (simp only [Zz,ZQ,Zw,Zv,ZE,ZK]<;>omega)) only [he,hrl,hvn,eq_self,go_sem,seval,↓reduceIte];refine gT ?_ ?_<;>intro h7<;>simp (disch:=omega) only [Sh.out h7,go_sem,seval,↓reduceIte]
          ·rw [YJ h7,W9] at htw;simp (disch:=first | omega | (simp only [Zz,ZQ,Zw,Zv,ZE,ZK]<;>omega)) only [he,hrl,hvn,eq_self,go_sem,seval];exact ⟨q+1,⟨Za,hnx⟩,Za,Weak.mk (by simp (disch:=omega) only [ZH,<- htw,<- hvs,go_sem,seval])⟩
          ·rw [YZ h7,U2] at htw;simp (disch:=first | omega | (simp only [Zz,ZQ,Zw,Zv,ZE,ZK]<;>omega)) only [eq_self,go_sem,seval];exact ⟨q+1,⟨Za,hnx⟩,Za,Weak.mk (by simp (disch:=omega) only [ZH,<- htw,<- hvs,go_sem,seval])⟩
      ·have hql:q=vs.length:=Za
       subst hql
       have hgood:Ah x (nth p.routes k)=false:=by
        rw [Ah,Ds];refine ⟨by simp [h2,h3],?_⟩;rw [<- hvs,XS];intro v hm;obtain ⟨j,hj,rfl⟩:=ZN.1 hm
        grind [Ze,Od]
       rw [Yb]
       have e1:Qs p.routes k vs=ZZ p.routes (k+1):=by grind [eE]
       have e2:(Mz p.routes k||PW p.routes k vs)=Mz p.routes (k+1):=by rw [hvs];rfl
       exact ⟨k+1,⟨Za,Zm.2 ⟨hno,hgood⟩⟩,Za,Weak.mk (by simp (disch:=omega) only [e1,e2,go_sem,seval])⟩
  ·have hkl:k=p.routes.length:=Za
   subst hkl;have hz:=HF hno
   cases htw:Mz p.routes p.routes.length with
   | true =>
    rw [if_pos htw] at hz;rw [Et,hz];refine Wp ?_;exact we
   | false =>
    rw [if_neg (by grind)] at hz;rw [Et,if_pos hz];simp (disch:=first | omega | (simp only [Zz,ZQ,Zw,Zv,ZE,ZK]<;>omega)) only [hgl,eq_self,go_sem,seval,↓reduceIte];refine Xc [26] [3,12,84,85] (fun j:Nat=> [(86,.p (.int .i64 j))]) (fun j=> [Zj x,Yf p,.elems 1 [.int .i64 (-1)],.elems 1 ((YG (fun o=>if o<j then UT p.routes (ZZ p.routes p.routes.length o) else ZZ p.routes p.routes.length o) x.orders.length).map eI)]) (fun j=>j<=x.orders.length) (fun j=>x.orders.length-j) 0 Zb (Weak.mk ?_) ?_
    ·refine E9 ?_;simp
    ·intro j hj;have hrl:=hgl (fun o=>if o<j then UT p.routes (ZZ p.routes p.routes.length o) else ZZ p.routes p.routes.length o);refine E9 ?_;refine cD ?_ ?_<;>intro h2<;>simp (disch:=omega) only [Sh.out h2,go_sem,seval,↓reduceIte]
     ·have hj2:j<x.orders.length:=Za
      have hrg:=Uf (rs:=p.routes) (o:=j) p.routes.length
      have he:Qw ((YG (fun o=>if o<j then UT p.routes (ZZ p.routes p.routes.length o) else ZZ p.routes p.routes.length o) x.orders.length).map eI) j= .int .i64 (ZZ p.routes p.routes.length j):=by rw [Wn Za,Ko hj2,if_neg Za];rfl
      have ZH:((YG (fun o=>if o<j then UT p.routes (ZZ p.routes p.routes.length o) else ZZ p.routes p.routes.length o) x.orders.length).map eI).set j (.int .i64 (UT p.routes (ZZ p.routes p.routes.length j)))=(YG (fun o=>if o<j+1 then UT p.routes (ZZ p.routes p.routes.length o) else ZZ p.routes p.routes.length o) x.orders.length).map eI:=by
       rw [show PV.int .i64 (UT p.routes (ZZ p.routes p.routes.length j))=eI (UT p.routes (ZZ p.routes p.routes.length j)) from rfl,<- UE,LZ]
       grind
      have hsame:ZZ p.routes p.routes.length j<0->(YG (fun o=>if o<j+1 then UT p.routes (ZZ p.routes p.routes.length o) else ZZ p.routes p.routes.length o) x.orders.length)=(YG (fun o=>if o<j then UT p.routes (ZZ p.routes p.routes.length o) else ZZ p.routes p.routes.length o) x.orders.length):=fun h=>by
       refine H6 fun o _=> ?_
       by_cases c:o=j
       ·subst c;rw [if_pos Za,if_neg Za,UT,if_neg Za];omega
       omega
      simp (disch:=first | omega | (simp only [Zz,ZQ,Zw,Zv,ZE,ZK]<;>omega)) only [he,hrl,hj2,eq_self,go_sem,seval,↓reduceIte];generalize hL:ZZ p.routes p.routes.length j=L at he ZH hsame hrg ⊢;refine ZP ?_ ?_<;>intro h3
      ·have hty:UT p.routes L=(nth p.routes L.toNat).typ:=by rw [UT,if_pos h3]
       have hlt:L<(p.routes.length:Int):=hrg.2;rw [hty] at ZH;simp (disch:=first | omega | (simp only [Zz,ZQ,Zw,Zv,ZE,ZK]<;>omega)) only [eq_self,go_sem,seval];exact ⟨j+1,Za,Za,Weak.mk (by simp (disch:=omega) only [ZH,go_sem,seval])⟩
      ·exact ⟨j+1,Za,Za,Weak.mk (by simp (disch:=omega) only [hsame Za,go_sem,seval])⟩
     ·have hjl:j=x.orders.length:=Za
      have hfin:YG (fun o=>if o<j then UT p.routes (ZZ p.routes p.routes.length o) else ZZ p.routes p.routes.length o) x.orders.length=US x p:=H6 fun o ho=>Za
      rw [hfin];have hkl:=Bn (x:=x) (p:=p);refine Zr (Weak.fz (o:=3) (by rfl)) (Zg [] _ _ _ _ (Aq ?_));rw [if_pos hkl];exact we
theorem R7 {x:Inst} {p:Pln} (hno: ∀j,j<p.routes.length->Ah x (nth p.routes j)=false) (h: ∀o:Nat,o<x.orders.length->nW p.routes (o:Int) p.routes.length<=1):V2 x p=0:=by
 rw [HF hno,if_neg];intro h2;obtain ⟨o,h3,j,hj,h4⟩:=(Il fun j hj v hv=>((Kk (hno j hj)).2 v hv).1).1 h2;obtain ⟨v,hv,e⟩:=XL.1 h4;have:=(Kk (hno j hj)).2 v hv
 grind
theorem bK {x b:Inst} {p:Pln} (h:x.wf 1048576) (h0:V2 b p=0) (hb:b.types.length<=1048576):(Fw x b p).wf 1048576:=by
 obtain ⟨h1,h2,h3,h4,h5,h6,h7,h8,h9⟩:=h;refine ⟨h1,h2,h3,by show (Qu _ _).length<=_;rw [YS];exact h4,fun o ho=> ?_,h6,h7,h8,h9⟩;obtain ⟨j,hj,rfl⟩:=ZN.1 ho
 have hj2:j<x.orders.length:=by grind [Fw,Qu]
 have e:(Fw x b p).orders[j]=JX x b p j:=by rw [<- Ze hj];exact UJ hj2
 rw [e];obtain ⟨v,e2,hv⟩:=Hr (x:=x) (b:=b) (p:=p) (j:=j);rw [e2];obtain ⟨a1,a2,a3,a4,a5,a6,a7,a8,a9,a10⟩:=h5 _ (Zq hj2);refine ⟨a1,a2,a3,a4,a5,a6,a7,a8,?_,⟨Zb,Zb⟩⟩;rcases hv with rfl | hv
 ·exact a9
 grind
def mN (x:Inst):Inst:= { x with orders_c:=false,orders:=Qu (Ej x) x.orders.length }
def noI (x:Inst):Inst:= { x with orders:= [] }
def noP : Pln:=⟨true,[],true,[]⟩
theorem cQ {x:Inst} :mN x=Fw x (noI x) noP:=by
 rfl
theorem noE {x:Inst} :V2 (noI x) noP=0:=R7 (fun j hj=>by simp [noP] at hj) fun o ho=>by simp [noI] at ho
theorem vR {x:Inst} (hx:InstOk x):InstOk (mN x):=by
 rw [cQ];exact bJ hx (by rw [Tu,if_pos (show x.types.length=(noI x).types.length from rfl)];exact noE)
theorem vS {x:Inst} (h:x.wf 1048576) (ht:x.types.length<=1048576):(mN x).wf 1048576:=by
 rw [cQ];exact bK h noE ht
def D9 (s:Sr):PV:= .agg [.int .i64 s.rdy,.int .i64 s.drv]
@[go_sem] theorem Zlp (s:Sr):D9 s= .agg [.int .i64 s.rdy,.int .i64 s.drv]:=Zh rfl rfl
theorem ZhW {a b:Sr} :a=b↔a.rdy=b.rdy/\a.drv=b.drv:=by cases a;cases b;simp
theorem mQ (l:List Sr) (c:Bool) (s:Sr) (hl:l.length<=1048576):ACalls Tryz.prog 305 [.p (.list c (l.map D9)),.p (D9 s)] [] fun y H'=> ∃i:Int,(0<=i↔s∈l)/\y= .p (.int .i64 i)/\H'= []:=by
 refine Zf [] Tryz.func305 rfl ZaB ?_;simp (disch:=omega) only [Tryz.f305,go_sem,seval];refine Zk [0,3,7] (fun k:Nat=> [(8,.p (.int .i64 k))]) (fun _=> [.cells [.p (.int .i64 s.rdy),.p (.int .i64 s.drv)]]) (fun k=>k<=l.length/\ ∀j,j<k->nth l j≠s) (fun k=>l.length-k) 0 ⟨Zb,fun j hj=>Za⟩ (Weak.mk ?_) ?_
 ·simp (disch:=omega) only [go_sem,seval,↓reduceIte]
 ·rintro k ⟨hk,hno⟩;refine Wp ?_;refine cD ?_ ?_<;>intro h1<;>simp (disch:=omega) only [Sh.out h1,go_sem,seval,↓reduceIte]
  ·have hk2:k<l.length:=Za
   refine XH (Wp ?_);refine cD ?_ ?_<;>intro h2<;>simp (disch:=omega) only [Sh.out h2,go_sem,seval,↓reduceIte]
   ·exact ⟨.p (.int .i64 k),[],wk,k,⟨fun _=>(ZhW.2 h2) ▸ ZD hk2,fun _=>Za⟩,rfl,rfl⟩
   ·exact ⟨k+1,⟨Za,fun j hj=>by
     grind⟩,Za,wk⟩
  ·exact ⟨.p (.int .i64 (-1)),[],wk,-1,⟨fun h=>Za,fun h=>by
    obtain ⟨j,hj,rfl⟩:=ZN.1 h
    grind [Ze]⟩,rfl,rfl⟩
theorem O4 (l:List Sr) (c:Bool) (s:Sr) (hl:l.length<=1048576):PC 280 [.p (.list c (l.map D9)),.p (D9 s)] (.bool (decide (s∈l))):=by
 refine Zf [] Tryz.func280 rfl Zaf ?_;simp (disch:=omega) only [Tryz.f280,go_sem,seval];refine ((mQ l c s hl).behind (by rfl) _).mono ?_;rintro y H' ⟨y1,H1,⟨i,hi,rfl,rfl⟩,rfl,rfl⟩
 have e:decide (0<=i)=decide (s∈l):=by grind
 simp (disch:=omega) only [shV,Zo,e,go_sem,seval];exact ⟨.p (.bool (decide (s∈l))),[],wk,rfl,rfl⟩
theorem R9 {l:List Sr} {s:Sr} :(VV l s).length<=l.length+1:=by grind [VV]
theorem Ny (l:List Sr) (s:Sr) (hl:l.length<=1048576):ACalls Tryz.prog 244 [.sl 0 0 l.length l.length,.p (D9 s)] [.elems 2 (l.map D9)] fun y H'=>y= .sl 0 0 (VV l s).length (VV l s).length/\H'= [.elems 2 ((VV l s).map D9)]:=by
 obtain ⟨M,hM⟩: ∃M,M=VV l s:=⟨_,rfl⟩;rw [<- hM];refine Zf [] Tryz.func244 rfl dK ?_;simp (disch:=omega) only [Tryz.f244,go_sem,seval];refine ACalls.view (O4 l false s hl) (by simp [vws,vw,oat,Ii]<;>rfl) (by rfl) ?_;refine Wp ?_;refine cD ?_ ?_<;>intro h<;>simp (disch:=omega) only [Sh.out h,go_sem,seval,↓reduceIte]
 ·have e:M=l:=by simp_all [VV]
  exact ⟨.sl 0 0 M.length M.length,[.elems 2 (M.map D9)],Weak.mk (by simp (disch:=omega) only [e,go_sem,seval]),rfl,rfl⟩
 ·have e:M=l++ [s]:=by simp_all [VV]
  exact ⟨.sl 0 0 M.length M.length,[.elems 2 (M.map D9)],Weak.mk (by simp (disch:=omega) only [e,XY,ZG,Zo,Zw,Zz,ZQ,XE,go_sem,seval]),rfl,rfl⟩
theorem mS (s:Sr):ACalls Tryz.prog 244 [.p (.list true []),.p (D9 s)] [] fun y H'=>y= .sl 0 0 1 1/\H'= [.elems 2 [D9 s]]:=by
 refine VX (fn:=Tryz.f244) (by rfl) Tryz.func244 rfl dK ?_;simp (disch:=omega) only [Tryz.f244,go_sem,seval];refine (O4 [] true s Zb).use ?_;simp (disch:=omega) only [Jd,Jh,go_sem,seval];exact ⟨2,rfl,rfl⟩
def Yh (x:Inst) (k:Int) (S tot:Nat) (b:Col×Bool):AM.Obj:= .cells [.p (.list x.net.places_c (x.net.places.map eS)),.p (.list x.net.arcs_c (x.net.arcs.map V0)),.p (.list x.types_c (x.types.map V1)),.p (.list x.orders_c (x.orders.map eOrd)),.p (.list x.apart_c (x.apart.map eP)),.p (.list x.before_c (x.before.map eP)),.p (.int .i64 k),.p (.int .i64 S),.p (.int .i64 tot),.p (.int .i64 b.1.typ),.p (.int .i64 b.1.set),.p (.int .i64 b.1.price),.p (.int .i64 b.1.route.typ),.p (.int .i64 b.1.route.start),.p (.list b.1.route.rests_c (b.1.route.rests.map eB)),.p (.list b.1.route.visits_c (b.1.route.visits.map Xf)),.p (.bool b.2)]
theorem AO {t:Typ} {l:List Sr} {d v:Int} :(Vc t l d v).length<=l.length+2:=by
 grind [Vc,VV]
theorem oF (x:Inst) (k:Int) (S tot:Nat) (b:Col×Bool) (stop:Stp) (l:List Sr) (d v:Int) (hk:0<=k/\k<x.types.length) (ht:x.types.length<=1048576) (hl:l.length<=1000000) (hd:0<=d/\d<=1048576) (hr:0<=(nth x.types k.toNat).rest/\(nth x.types k.toNat).rest<=1048576) :
  ACalls Tryz.prog 180 [.ptr 0 0,.sl 3 0 l.length l.length,.p (.int .i64 d),.p (.int .i64 v)] [Yh x k S tot b,.cells ((Ad stop).map .p),.cells ((JW (nth x.types k.toNat)).map .p),.elems 2 (l.map D9)] fun y H'=>y= .sl 3 0 (Vc (nth x.types k.toNat) l d v).length (Vc (nth x.types k.toNat) l d v).length/\H'= [Yh x k S tot b,.cells ((Ad stop).map .p),.cells ((JW (nth x.types k.toNat)).map .p),.elems 2 ((Vc (nth x.types k.toNat) l d v).map D9)]:=by
 obtain ⟨L1,h1⟩: ∃L1,L1=VV l ⟨d,v⟩:=⟨_,rfl⟩;obtain ⟨L2,h2⟩: ∃L2,L2=Vc (nth x.types k.toNat) l d v:=⟨_,rfl⟩
 have h12:VV L1 ⟨d+(nth x.types k.toNat).rest,0⟩=L2:=by rw [h1,h2];rfl
 have hl1:L1.length<=l.length+1:=by rw [h1];exact R9
 rw [<- h2];have c1:=Ny l ⟨d,v⟩ Za;have c2:=Ny L1 ⟨d+(nth x.types k.toNat).rest,0⟩ Za;rw [<- h1] at c1;rw [h12] at c2;obtain ⟨O,hO⟩: ∃O,O=Yh x k S tot b:=⟨_,rfl⟩;refine Zf [] Tryz.func180 rfl dI ?_;simp (disch:=omega) only [Tryz.f180,Ad,JW,ZG,Zo,go_sem,seval];refine ACalls.mono (c1.back [Yh x k S tot b,.cells ((Ad stop).map .p),.cells ((JW (nth x.types k.toNat)).map .p)] (by rfl)) ?_;rintro y H' ⟨y1,H1,⟨rfl,rfl⟩,rfl,rfl⟩;simp (disch:=omega) only [shV,shO,Yh,Ad,JW,ZG,Zo,ZY,Xh,go_sem,seval]
 refine Z6 16 mixed Zd Zd (Wp ?_);refine ACalls.mono (c2.back [Yh x k S tot b,.cells ((Ad stop).map .p),.cells ((JW (nth x.types k.toNat)).map .p)] (by rfl)) ?_;rintro y H' ⟨y1,H1,⟨rfl,rfl⟩,rfl,rfl⟩;simp (disch:=omega) only [shV,shO,Yh,Ad,JW,ZG,Zo,ZY,Xh,go_sem,seval];exact ⟨.sl 3 0 L2.length L2.length,[Yh x k S tot b,.cells ((Ad stop).map .p),.cells ((JW (nth x.types k.toNat)).map .p),.elems 2 (L2.map D9)],Weak.mk (by simp (disch:=omega) only [Yh,Ad,JW,ZG,Zo,go_sem,seval]),rfl,rfl⟩
def Fx (s:Stp) (a:Int):Int×Int:=if s.cls<max a s.opn then (0,14) else (max a s.opn+s.serv,0)
theorem bP (s:Stp) (a:Int) (ha: -1099511627776<=a/\a<=1099511627776) (hs:0<=s.serv/\s.serv<=1048576) (ho: -1099511627776<=s.opn/\s.opn<=1099511627776):PT 279 [.p (Ea s),.p (.int .i64 a)] [.p (.int .i64 (Fx s a).1),.p (.int .i64 (Fx s a).2)]:=by
 refine Zf [] Tryz.func279 rfl Zae ?_;simp (disch:=omega) only [Tryz.f279,go_sem,seval];refine CP (OG s a) ?_
 have hm: -1099511627776<=max a s.opn/\max a s.opn<=1099511627776:=Za
 by_cases h:s.cls<max a s.opn
 ·have e:DZ s a=(0,14):=by simp_all [DZ]
  have e2:Fx s a=(0,14):=by rw [Fx,if_pos h]
  rw [e,e2];refine Wp ?_;exact we
 ·have e:DZ s a=(max a s.opn,0):=by simp_all [DZ]
  have e2:Fx s a=(max a s.opn+s.serv,0):=by rw [Fx,if_neg h]
  rw [e,e2];refine Wp ?_;exact we
def Fp (m:Int) (st:List Sr):Prop:= ∀a∈st,(0<=a.rdy/\a.rdy<=16384)/\(-m<=a.drv/\a.drv<=4096)
theorem pG (x:Inst) (k:Int) (S tot:Nat) (b:Col×Bool) (p:Int) (st:List Sr) (c:Bool) (stop:Stp) (m:Int) (hm:0<=m/\m<=1048576) (hk:0<=k/\k<x.types.length) (ht:x.types.length<=1048576) (hT:TrpOk x (nth x.types k.toNat) [stop]) (hl:st.length<=1000) (hst:Fp m st) :
  ACalls Tryz.prog 242 [.ptr 0 0,.p (.int .i64 p),.p (.list c (st.map D9)),.p (Ea stop)] [Yh x k S tot b] fun y H'=>y= .p (.list false ((CQ x (nth x.types k.toNat) p st stop).map D9))/\H'= [Yh x k S tot b]:=by
 obtain ⟨W,hV⟩: ∃W:Nat->List Sr,W=fun q=>(st.take q).foldl (QT x (nth x.types k.toNat) p stop) []:=⟨_,rfl⟩
 have hV0:W 0= []:=by rw [hV];rfl
 have hVn:CQ x (nth x.types k.toNat) p st stop=W st.length:=by grind [CQ]
 have hVs: ∀q,q<st.length->W (q+1)=QT x (nth x.types k.toNat) p stop (W q) (nth st q):=fun q hq=>by
  grind [Xm,Ze]
 have hVl: ∀q,q<=st.length->(W q).length<=2*q:=fun q=>by
  induction q with
  | zero=>grind
  | succ q ih =>
   intro hq;rw [hVs q Za];have:=ih Za;unfold QT
   split
   ·omega
   ·split
    ·omega
    grind [AO]
 rw [hVn];clear hV hVn;refine Zf [12] Tryz.func242 rfl zC ?_;simp (disch:=omega) only [Tryz.f242,Yh,go_sem,seval];refine Xe [11] 12 mixed Zd Zd Zd Zb (Wp ?_);refine ZJ 11 _ _ Zd (by refine Wp ?_;exact ⟨rfl,rfl⟩) (Yk ?_);refine Wp ?_;refine Xc [12] [0,1,7,9,28,29] (fun q:Nat=> [(10,.sl 3 0 (W q).length (W q).length),(30,.p (.int .i64 q))]) (fun q=> [Yh x k S tot b,.cells ((Ad stop).map .p),.cells ((JW (nth x.types k.toNat)).map .p),.elems 2 ((W q).map D9)]) (fun q=>q<=st.length) (fun q=>st.length-q) 0 Zb (Weak.ofNil 10 2 (by simp (disch:=omega) only [go_sem,seval]) Zb (Weak.mk ?_)) ?_
 ·simp (disch:=omega) only [hV0,Yh,Ad,JW,ZG,Zo,ZQ,go_sem,seval,↓reduceIte]
 ·intro q hq;have hql:=hVl q hq;simp (disch:=omega) only [Yh,Ad,JW,ZG,Zo,go_sem,seval];refine cD ?_ ?_<;>intro h1<;>simp (disch:=omega) only [Sh.out h1,go_sem,seval,↓reduceIte]
  ·have hq2:q<st.length:=Za
   obtain ⟨a1,a2⟩:=hst _ (ZD hq2);have hsn:=hVs q hq2;have hg:=(HB (n:=x.net) (pr:=(nth x.types k.toNat).prof) (f:=p) (t:=stop.place) (τ:=(nth st q).rdy) hT.net hT.mil Za).1;refine XH (Wp ?_);refine AE (sH x.net (nth x.types k.toNat).prof p stop.place (nth st q).rdy hT.net Za) (Wp ?_);refine gF ?_ ?_<;>intro h2<;>simp (disch:=omega) only [Sh.out h2,go_sem,seval,↓reduceIte]
   ·have e:W (q+1)=W q:=by simp_all [QT]
    exact ⟨q+1,Za,Za,Weak.mk (by simp (disch:=omega) only [e,go_sem,seval])⟩
   ·refine cD ?_ ?_<;>intro h3<;>simp (disch:=omega) only [Sh.out h3,go_sem,seval,↓reduceIte]
    ·have e:W (q+1)=W q:=by simp_all [QT]
     exact ⟨q+1,Za,Za,Weak.mk (by simp (disch:=omega) only [e,go_sem,seval])⟩
    ·obtain ⟨z1,z2,z3,z4,z5⟩:=hT.stp stop Zb;obtain ⟨r1,r2⟩:=hT.rst;refine CP (bP stop (WB x.net (nth x.types k.toNat).prof p stop.place (nth st q).rdy).1 Za Za Za) ?_
     by_cases hc:stop.cls<max (WB x.net (nth x.types k.toNat).prof p stop.place (nth st q).rdy).1 stop.opn
     ·have e2:Fx stop (WB x.net (nth x.types k.toNat).prof p stop.place (nth st q).rdy).1=(0,14):=by rw [Fx,if_pos hc]
      rw [e2];refine Wp ?_
      have e:W (q+1)=W q:=by simp_all [QT]
      exact ⟨q+1,Za,Za,Weak.mk (by simp (disch:=omega) only [e,go_sem,seval])⟩
     ·have e2:Fx stop (WB x.net (nth x.types k.toNat).prof p stop.place (nth st q).rdy).1=(max (WB x.net (nth x.types k.toNat).prof p stop.place (nth st q).rdy).1 stop.opn+stop.serv,0):=by rw [Fx,if_neg hc]
      rw [e2];refine Wp ?_
      have e:W (q+1)=Vc (nth x.types k.toNat) (W q) (max (WB x.net (nth x.types k.toNat).prof p stop.place (nth st q).rdy).1 stop.opn+stop.serv) ((nth st q).drv+(WB x.net (nth x.types k.toNat).prof p stop.place (nth st q).rdy).1-(nth st q).rdy):=by simp_all [QT,if_neg]
      have cr:=oF x k S tot b stop (W q) (max (WB x.net (nth x.types k.toNat).prof p stop.place (nth st q).rdy).1 stop.opn+stop.serv) ((nth st q).drv+(WB x.net (nth x.types k.toNat).prof p stop.place (nth st q).rdy).1-(nth st q).rdy) hk ht Za Za Za;rw [<- e] at cr;refine cr.useP (L:= [_]) (by rfl) ?_ (by rfl) (by rfl);simp (disch:=omega) only [Yh,Ad,JW,ZG,Zo,ZY,Xh,go_sem,seval];exact ⟨q+1,Za,Za,wk⟩
  ·have hqs:q=st.length:=Za
   subst hqs;refine Zr (Weak.fz (o:=3) (by rfl)) ?_;refine Zg [] _ _ _ _ ?_;simp (disch:=omega) only [ZG,Zo,Xo,ZC,eq_self,go_sem,seval];exact ⟨.p (.list false ((W st.length).map D9)),[Yh x k S tot b],Weak.mk (by simp (disch:=omega) only [Yh,go_sem,seval]),rfl,rfl⟩
theorem Nb (a b:Col) (ha:a.route.visits.length<=1048576) (hb:b.route.visits.length<=1048576):PC 239 [.p (Yl a),.p (Yl b)] (.bool (JU a b)):=by
 refine Zc Tryz.func239 rfl yZ ?_;simp (disch:=omega) only [Tryz.f239,go_sem,seval];refine cD ?_ ?_<;>intro h<;>simp (disch:=omega) only [Sh.out h,go_sem,seval,↓reduceIte]
 ·rw [JU,if_pos h]
 ·refine (S4 a.route.visits b.route.visits a.route.visits_c b.route.visits_c ha hb).use (Wp ?_);rw [JU,if_neg h]
theorem mB (a b:Col) (f:Bool) (ha:a.route.visits.length<=1048576) (hb:b.route.visits.length<=1048576):PC 238 [.p (Yl a),.p (.bool f),.p (Yl b),.fn (.func 239) [] []] (Yl (if f=false\/JU b a=true then b else a)):=by
 refine Zc Tryz.func238 rfl yY ?_
 cases f with
 | false =>
  simp (disch:=omega) only [Tryz.f238,V4,go_sem,seval,↓reduceIte]
 | true =>
  simp (disch:=omega) only [Tryz.f238,Vw,go_sem,seval];refine (Nb b a hb ha).use (Wp ?_)
  cases h:JU b a with
  | true=>simp (disch:=omega) only [go_sem,seval]
  | false=>simp (disch:=omega) only [go_sem,seval]
theorem Zht {x:Inst} (hx:InstOk x) {S:Nat} {l:List Vis} {v:Vis} (hv:v∈sE x S l) {k:Int} (hk:0<=k/\k<x.types.length):Lp x v=true/\0<=(XI x v).place/\TrpOk x (nth x.types k.toNat) [XI x v]:=by
 obtain ⟨i,hi,_,_,h4,_⟩:=UF.1 hv;have ho:=YM h4
 have hpl:0<=(XI x v).place:=by
  unfold Z0 at h4;unfold XI;rw [ho,X3]
  grind
 obtain ⟨t1,t2,t3,_⟩:=VK hx (show k.toNat<x.types.length by omega);obtain ⟨n1,n2⟩:=Pn hx.net;refine ⟨by simp [Lp,ho,hi],hpl,n1,n2,t1,t2,t3,fun s hs=> ?_,Zb⟩
 obtain rfl:s=XI x v:=by grind
 have hor:=hx.orders.2 i hi;have hp:=hor.pstp;have hd:=hor.dstp;simp only [stpOk,Zl] at hp hd;unfold XI at hpl ⊢;rw [ho,X3] at hpl ⊢
 split
 ·omega
 omega
theorem pE {x:Inst} {t:Typ} {p:Int} {stop:Stp} (hT:TrpOk x t [stop]) {m:Int} {out:List Sr} {a:Sr} (hm:0<=m) (ho:Fp (m+16384) out) (ha:(0<=a.rdy/\a.rdy<=16384)/\(-m<=a.drv/\a.drv<=4096)):Fp (m+16384) (QT x t p stop out a)/\(QT x t p stop out a).length<=out.length+2:=by
 have hg:=(HB (n:=x.net) (pr:=t.prof) (f:=p) (t:=stop.place) (τ:=a.rdy) hT.net hT.mil Za).1;obtain ⟨z1,z2,z3,z4,z5⟩:=hT.stp stop Zb;obtain ⟨r1,r2⟩:=hT.rst;have hd:=hT.drv;unfold QT
 split
 ·grind
 ·rename_i c1
  split
  ·grind
  ·rename_i c2;refine ⟨fun b hb=> ?_,AO⟩;have c3: ¬t.drive<a.drv+(WB x.net t.prof p stop.place a.rdy).1-a.rdy:=fun h=>c1 (.inr h);rcases WO.1 hb with h | rfl | rfl
   ·exact ho b h
   ·grind
   grind
theorem GQ {x:Inst} {t:Typ} {p:Int} {stop:Stp} (hT:TrpOk x t [stop]) {m:Int} (hm:0<=m): ∀(st out:List Sr),Fp (m+16384) out->Fp m st->Fp (m+16384) (st.foldl (QT x t p stop) out)/\(st.foldl (QT x t p stop) out).length<=out.length+2*st.length
 | [],out,ho,_=>⟨ho,Zb⟩
 | a::st,out,ho,hs=>by
  obtain ⟨g1,g2⟩:=pE hT (p:=p) hm ho (hs a Zb);obtain ⟨k1,k2⟩:=GQ hT (p:=p) hm st _ g1 fun b hb=>hs b (Ym _ hb);rw [Yt];exact ⟨k1,by simp only [Zz];omega⟩
def Oo (x:Inst) (k:Int) (S tot f:Nat):Prop:= ∀(l:List Vis) (c:Bool) (p:Int) (st:List Sr) (b:Col×Bool),l.length+f=tot->(c=true->0<f)->Fp (16384*(l.length:Int)) st->st.length<=2^(l.length+1)->b.1.route.visits.length<=1048576 ->
  ACalls Tryz.prog 179 [.ptr 0 0,.p (.list c (l.map Xf)),.p (.int .i64 p),.p (.list false (st.map D9))] [Yh x k S tot b] fun y H'=>y= .tup []/\H'= [Yh x k S tot ((Pi x k S f l (p,st)).foldl (Ub (HS x k) (VZ x k S) JU) b)]
theorem ZbT (x:Inst) (hx:InstOk x) (k:Int) (S tot:Nat) (ht:tot<=8) (hk:0<=k/\k<x.types.length) (htl:x.types.length<=1048576):Oo x k S tot 0:=by
 intro l c p st b hlf hc hs1 hs2 hb
 have hc:c=false:=by grind
 subst hc
 have hll:l.length=tot:=Za
 obtain ⟨R,hR⟩: ∃R,R=Yh x k S tot ((Pi x k S 0 l (p,st)).foldl (Ub (HS x k) (VZ x k S) JU) b):=⟨_,rfl⟩;rw [<- hR];simp only [Pi,lvW,Yt,Qr] at hR;obtain ⟨⟨bt,bs,bp,br⟩,bf⟩:=b;have hpr:=LV x (EW k l);refine Zf [] Tryz.func179 rfl dH ?_;simp (disch:=omega) only [Tryz.f179,Yh,go_sem,seval];refine cD ?_ ?_<;>intro h1<;>simp (disch:=omega) only [Sh.out h1,go_sem,seval,↓reduceIte]
 ·refine XH (Wp ?_);refine YT (SX x (EW k l) hx ⟨by grind [EW],by simp [EW]⟩) (Wp ?_);refine cD ?_ ?_<;>intro h2<;>simp (disch:=omega) only [Sh.out h2,go_sem,seval]
  ·have hok:HS x k l=true:=YJ h2;have hcol:(⟨k,(S:Int),(V7 x (EW k l)).1,⟨k,0,true,[],false,l⟩⟩:Col)=VZ x k S l:=rfl;refine Xe [11] 12 mixed Zd Zd Zd Zb (Wp ?_);refine ZJ 11 _ _ Zd (by refine Wp ?_;exact ⟨rfl,rfl⟩) (Yk ?_);refine Wp ?_;refine Z6 11 mixed Zd Zd (Wp ?_);refine Zp (mB ⟨bt,bs,bp,br⟩ (VZ x k S l) bf hb (by grind)) ?_
   have hR2:R=Yh x k S tot (if bf=false\/JU (VZ x k S l) ⟨bt,bs,bp,br⟩=true then VZ x k S l else ⟨bt,bs,bp,br⟩,true):=by
    rw [hR,Ub]
    grind
   generalize (if bf=false\/JU (VZ x k S l) ⟨bt,bs,bp,br⟩=true then VZ x k S l else ⟨bt,bs,bp,br⟩)=C at hR2 ⊢;refine Wp ?_;exact ⟨.tup [],[R],Weak.mk (by simp (disch:=omega) only [hR2,Yh,go_sem,seval]),rfl,rfl⟩
  ·have hok:HS x k l=false:=YZ h2;rw [Ub,if_neg (fun h=>by grind)] at hR;exact ⟨.tup [],[R],Weak.mk (by simp (disch:=omega) only [hR,Yh,go_sem,seval]),rfl,rfl⟩
 ·omega
theorem HL {x:Inst} {k:Int} {S:Nat} : ∀(f:Nat) (l:List Vis) (s:Int×List Sr),∀m∈Pi x k S f l s,m.length=l.length+f
 | 0,l,s,m,hm=>by
  simp_all [Pi,lvW]
 | f+1,l,s,m,hm=>by
  simp only [Pi,lvW,We] at hm;obtain ⟨v,_,hm⟩:=hm
  split at hm
  ·simp at hm
  ·have:=HL f (l++ [v]) _ m hm;simp at this;omega
theorem MB {x:Inst} {k:Int} {S N:Nat} : ∀(L:List (List Vis)) (b:Col×Bool),b.1.route.visits.length<=N->(∀m∈L,m.length<=N)->(L.foldl (Ub (HS x k) (VZ x k S) JU) b).1.route.visits.length<=N
 | [],b,h,_=>h
 | m::L,b,h,hL=>by
  rw [Yt];refine MB L _ ?_ fun q hq=>hL q (Ym _ hq);unfold Ub
  split
  ·exact hL m Zb
  ·exact h
theorem ZbU (x:Inst) (hx:InstOk x) (k:Int) (S tot f:Nat) (ht:tot<=8) (hk:0<=k/\k<x.types.length) (htl:x.types.length<=1048576) (hbl:x.before.length<=1048576) (hS:S<9223372036854775808) (ih:Oo x k S tot f):Oo x k S tot (f+1):=by
 intro l c p st b hlf hc hs1 hs2 hb;have hf:=YV hx
 have hn:x.orders.length<=60:=by have:=hf.len;omega
 obtain ⟨R,hR⟩: ∃R,R=Yh x k S tot ((Pi x k S (f+1) l (p,st)).foldl (Ub (HS x k) (VZ x k S) JU) b):=⟨_,rfl⟩;rw [<- hR];have hpw:2^(l.length+1)<=2^8:=Ys Za Za
 have hpw2:2^(l.length+1+1)=2*2^(l.length+1):=Za
 have hnl:=Cv x S l x.orders.length;have hokv: ∀v∈nextU x S l x.orders.length,Lp x v=true/\0<=(XI x v).place/\TrpOk x (nth x.types k.toNat) [XI x v]:=fun v hv=>Zht hx hv hk;obtain ⟨G,hG⟩: ∃G:Vis->List (List Vis),G=fun v=>if (goS x (nth x.types k.toNat) (p,st) v).2.isEmpty=true then [] else Pi x k S f (l++ [v]) (goS x (nth x.types k.toNat) (p,st) v):=⟨_,rfl⟩
 have hlv:Pi x k S (f+1) l (p,st)=(nextU x S l x.orders.length).flatMap G:=by rw [hG];rfl
 rw [hlv] at hR;have hsn:=S5 x S l c hS Za hn hbl (fun q hq=>by have:=(hf.val q hq);omega);generalize hnx:nextU x S l x.orders.length=nx at hnl hokv hR hsn;clear hnx hlv;obtain ⟨B,hB⟩: ∃B:Nat->Col×Bool,B=fun q=>((nx.take q).flatMap G).foldl (Ub (HS x k) (VZ x k S) JU) b:=⟨_,rfl⟩
 have hB0:B 0=b:=by rw [hB];rfl
 have hBn:R=Yh x k S tot (B nx.length):=by grind
 have hBs: ∀q,q<nx.length->B (q+1)=(G (nth nx q)).foldl (Ub (HS x k) (VZ x k S) JU) (B q):=fun q hq=>by
  rw [hB];simp only;rw [Xm hq,List.flatMap_append,List.foldl_append,<- Ze hq];simp
 have hBl: ∀q,(B q).1.route.visits.length<=1048576:=fun q=>by
  rw [hB];refine MB _ _ hb fun m hm=> ?_;obtain ⟨v,_,hm⟩:=We.1 hm;rw [hG] at hm;simp only at hm
  split at hm
  ·simp at hm
  ·have:=HL _ _ _ m hm;simp at this;omega
 clear hR hB;refine Zf [] Tryz.func179 rfl dH ?_;simp (disch:=omega) only [Tryz.f179,Yh,go_sem,seval];refine cD ?_ ?_<;>intro h1<;>simp (disch:=omega) only [Sh.out h1,go_sem,seval,↓reduceIte]
 ·omega
 ·refine XH (Wp ?_);refine Zp (hsn) (Wp ?_);refine Zk [0,1,2,3,77,78] (fun q:Nat=> [(79,.p (.int .i64 q))]) (fun q=> [Yh x k S tot (B q)]) (fun q=>q<=nx.length) (fun q=>nx.length-q) 0 Zb (Weak.mk ?_) ?_
  ·simp (disch:=omega) only [Yh,hB0,go_sem,seval,↓reduceIte]
  ·intro q hq;simp (disch:=omega) only [Yh,go_sem,seval];refine cD ?_ ?_<;>intro h2<;>simp (disch:=omega) only [Sh.out h2,go_sem,seval,↓reduceIte]
   ·have hq2:q<nx.length:=Za
    obtain ⟨v1,v2,v3⟩:=hokv _ (ZD hq2);have hBq:=hBs q hq2;refine Xe [10,11] 12 mixed Zd Zd Zd Zb (Wp ?_);refine YT (Px x (nth nx q) Za v1 v2) (Wp ?_);refine ZJ 10 _ _ Zd (by refine Wp ?_;exact ⟨rfl,rfl⟩) ?_;refine Wp ?_;refine ZJ 11 _ _ Zd (by refine Wp ?_;exact ⟨rfl,rfl⟩) (Yk ?_);refine Wp ?_
    have hSr0:Fp (16384*(l.length:Int)+16384) []:=fun a ha=>by simp at ha
    obtain ⟨w1,w2⟩:=GQ v3 (p:=p) (m:=16384*(l.length:Int)) Za st [] hSr0 hs1;obtain ⟨N,hN⟩: ∃N,N=CQ x (nth x.types k.toNat) p st (XI x (nth nx q)):=⟨_,rfl⟩;have cv:=pG x k S tot (B q) p st false (XI x (nth nx q)) (16384*(l.length:Int)) Za hk htl v3 Za hs1
    have hGq:G (nth nx q)=if N.isEmpty=true then [] else Pi x k S f (l++ [nth nx q]) ((XI x (nth nx q)).place,N):=by rw [hG,hN];rfl
    rw [<- hN] at cv
    have w1':Fp (16384*(l.length:Int)+16384) N:=by rw [hN];exact w1
    have w2':N.length<=2*st.length:=by grind [CQ]
    refine cv.useP (L:= [_,_]) (by rfl) ?_ (by rfl) (by rfl);simp (disch:=omega) only [Yh,ZY,Xh,go_sem,seval];refine cD ?_ ?_<;>intro h3<;>simp (disch:=omega) only [Sh.out h3,go_sem,seval,↓reduceIte]
    ·have hne: ¬N.isEmpty=true:=fun h=>by grind
     rw [hGq,if_neg hne] at hBq
     have ihc:=ih (l++ [nth nx q]) false (XI x (nth nx q)).place N (B q) (by simp;omega) Zb (by
      have e:16384*(((l++ [nth nx q]).length:Nat):Int)=16384*(l.length:Int)+16384:=by simp;omega
      grind) (by grind) (hBl q)
     rw [<- hBq,XY] at ihc;refine Z6 9 mixed Zd Zd (Wp ?_);refine Zp (vH l c Za) (Wp ?_);refine ihc.useP (L:= [_,_]) (by rfl) ?_ (by rfl) (by rfl);simp (disch:=omega) only [Yh,ZY,Xh,go_sem,seval];exact ⟨q+1,Za,Za,wk⟩
    ·have he:N.isEmpty=true:=by simp_all
     rw [hGq,if_pos he] at hBq;have hBq':B (q+1)=B q:=hBq;exact ⟨q+1,Za,Za,Weak.mk (by simp (disch:=omega) only [hBq',go_sem,seval])⟩
   ·have hql:q=nx.length:=Za
    subst hql;exact ⟨.tup [],[R],Weak.mk (by simp (disch:=omega) only [hBn,Yh,go_sem,seval]),rfl,rfl⟩
theorem CX (x:Inst) (hx:InstOk x) (k:Int) (S tot:Nat) (ht:tot<=8) (hk:0<=k/\k<x.types.length) (htl:x.types.length<=1048576) (hbl:x.before.length<=1048576) (hS:S<9223372036854775808): ∀f,Oo x k S tot f
 | 0=>ZbT x hx k S tot ht hk htl
 | f+1=>ZbU x hx k S tot f ht hk htl hbl hS (CX x hx k S tot ht hk htl hbl hS f)
theorem gO (x:Inst) (k:Int) (S tot:Nat) (b:Col×Bool) (d v:Int) (hk:0<=k/\k<x.types.length) (ht:x.types.length<=1048576) (hd:0<=d/\d<=1048576) (hr:0<=(nth x.types k.toNat).rest/\(nth x.types k.toNat).rest<=1048576) :
  ACalls Tryz.prog 180 [.ptr 0 0,.p (.list true []),.p (.int .i64 d),.p (.int .i64 v)] [Yh x k S tot b] fun y H'=>y= .p (.list false ((Vc (nth x.types k.toNat) [] d v).map D9))/\H'= [Yh x k S tot b]:=by
 obtain ⟨L2,h2⟩: ∃L2,L2=Vc (nth x.types k.toNat) [] d v:=⟨_,rfl⟩
 have h12:VV [⟨d,v⟩] ⟨d+(nth x.types k.toNat).rest,0⟩=L2:=by rw [h2];rfl
 rw [<- h2];have c2:=Ny [⟨d,v⟩] ⟨d+(nth x.types k.toNat).rest,0⟩ Zb;rw [h12] at c2;refine Zf [] Tryz.func180 rfl dI ?_;simp (disch:=omega) only [Tryz.f180,go_sem,seval];refine (mS ⟨d,v⟩).useF (Wp ?_);simp (disch:=omega) only [Yh,go_sem,seval];refine Z6 16 mixed Zd Zd (Wp ?_);refine ACalls.mono (c2.back [Yh x k S tot b] (by rfl)) ?_;rintro y H' ⟨y1,H1,⟨rfl,rfl⟩,rfl,rfl⟩;simp (disch:=omega) only [AM.shV,AM.shO,Yh,ZG,Zo,ZY,Xh,go_sem,seval];exact ⟨.p (.list false (L2.map D9)),[Yh x k S tot b],(Weak.fz (o:=1) (by rfl)).trans (Weak.mk (by simp (disch:=omega) only [Yh,eq_self,ZG,Zo,Xo,ZC,go_sem,seval,↓reduceIte])),rfl,rfl⟩
theorem Zgl (x:Inst) (S:Nat): ∀k,k<=63->((XO (S:Int) k).map fun i=>(Z0 x.orders i.toNat).length).sum=AS x S k
 | 0,_=>by rfl
 | k+1,h=>by
  have ih:=Zgl x S k Za;rw [Ab]
  cases hb:sHas (S:Int) (k:Int) with
  | true =>
   rw [LF hb,XY,List.sum_append,ih];rw [Wh _ _ Za] at hb;rw [if_pos hb];simp
  | false =>
   rw [Pl hb,ih];rw [Wh _ _ Za] at hb;rw [hb];simp
theorem My (x:Inst) (S n:Nat) (h: ∀i,S.testBit i=true->i<n): ∀d,AS x S (n+d)=AS x S n
 | 0=>rfl
 | d+1=>by
  rw [show n+(d+1)=n+d+1 by omega,Ab,My x S n h d,if_neg (fun e=>by have:=h _ e;omega)];rfl
def UO : Col:=⟨0,0,0,⟨0,0,true,[],true,[]⟩⟩
noncomputable def JV (x:Inst) (k:Int) (S:Nat):Col×Int:=if Wk x.orders x.apart x.before (S:Int)=0/\(Hm x k S (UO,false)).2=true then ((Hm x k S (UO,false)).1,0) else (UO,24)
def RN : AM.Obj:= .cells ((lC UO).map .p)
theorem HV (x:Inst) (hx:InstOk x) (k:Int) (S:Nat) (hk:0<=k/\k<x.types.length) (h4:x.orders.length<=4) (htl:x.types.length<=1048576) (hbl:x.before.length<=1048576) (hal:x.apart.length<=1048576) (hS0:0<S) (hS1:S<2^x.orders.length) :
  PT 131 [.p (ZF x),.p (.int .i64 k),.p (.int .i64 S)] [.p (Yl (JV x k S).1),.p (.int .i64 (JV x k S).2)]:=by
 have hf:=YV hx;have h16:S<16:=Uy hS1 (Ys (n:=2) Za h4);have hdiv:S / pw x.orders.length=0:=Je hS1
 have hbit: ∀i,S.testBit i=true->i<x.orders.length:=fun i hi=>by
  rcases Wy i x.orders.length with h | h
  ·exact h
  ·have:2^x.orders.length<=2^i:=Ys Za h
   grind [Cq]
 obtain ⟨Z,hZ⟩: ∃Z,Z=JV x k S:=⟨_,rfl⟩;rw [<- hZ];have hal2:=Rf x.net x.types_c x.types x.orders_c x.apart_c x.before_c x.orders x.apart x.before (S:Nat) Za hal hbl hf.val;refine Zf [] Tryz.func131 rfl wQ ?_;simp (disch:=omega) only [Tryz.f131,go_sem,seval];refine gF ?_ ?_<;>intro h1<;>simp (disch:=omega) only [Sh.out h1,go_sem,seval,↓reduceIte]
 ·omega
 ·refine gF ?_ ?_<;>intro h2<;>simp (disch:=omega) only [Sh.out h2,go_sem,seval,↓reduceIte]
  ·omega
  ·refine gF ?_ ?_<;>intro h3<;>simp (disch:=omega) only [Sh.out h3,go_sem,seval,↓reduceIte]
   ·omega
   ·refine cD ?_ ?_<;>intro h5<;>simp (disch:=omega) only [Sh.out h5,go_sem,seval,↓reduceIte]
    ·omega
    ·refine (hal2).use (Wp ?_);refine cD ?_ ?_<;>intro h6<;>simp (disch:=omega) only [Sh.out h6,go_sem,seval,↓reduceIte]
     ·have e:Z=(UO,24):=by simp_all [JV]
      exact ⟨.tup [.p (Yl Z.1),.p (.int .i64 Z.2)],[],Weak.mk (by simp (disch:=omega) only [e,UO,Zo,go_sem,seval]),rfl,rfl⟩
     ·have h60:Wk x.orders x.apart x.before (S:Int)=0:=Xy.1 h6;obtain ⟨T,hT⟩: ∃T:Nat->Nat,T=fun q=>(((XO (S:Int) 63).take q).map fun i=>(Z0 x.orders i.toNat).length).sum:=⟨_,rfl⟩
      have hT0:T 0=0:=by rw [hT];rfl
      have hTn:T (XO (S:Int) 63).length=UL x S:=by
       rw [hT];simp only [Yb];rw [Zgl x S 63 Za,show 63=x.orders.length+(63-x.orders.length) by omega,My x S _ hbit];rfl
      have hTs: ∀q,q<(XO (S:Int) 63).length->T (q+1)=T q+(Z0 x.orders (nth (XO (S:Int) 63) q).toNat).length:=fun q hq=>by
       grind [Xm,Ze]
      have hTl: ∀q,T q<=2*q:=fun q=>by
       induction q with
       | zero=>omega
       | succ q ih =>
        rcases Wy q (XO (S:Int) 63).length with h | h
        ·grind [Vf]
        grind [Cp]
      have hml:=BD (S:Int) 63
      have hmi: ∀q,q<(XO (S:Int) 63).length-> ∃i:Nat,nth (XO (S:Int) 63) q=(i:Int)/\i<x.orders.length:=fun q hq=>by
       obtain ⟨i,e,_,hb⟩:=QK.1 (ZD hq)
       grind
      refine ((Cr (S:Int)).frozen Zb).use (Wp ?_);generalize XO (S:Int) 63=M at hTn hTs hml hmi ⊢;clear hT;refine Zk [1,3,6,8,45,46] (fun q:Nat=> [(47,.p (.int .i64 q))]) (fun q=> [Zj x,RN,Yh x k S (T q) (UO,false)]) (fun q=>q<=M.length) (fun q=>M.length-q) 0 Zb (Weak.mk ?_) ?_
      ·simp (disch:=omega) only [Zj,RN,lC,UO,Yh,hT0,Zo,ZG,go_sem,seval]
      ·intro q hq;have hq1:=hTl q;simp (disch:=omega) only [Zj,RN,lC,UO,Yh,Zo,ZG,go_sem,seval];refine cD ?_ ?_<;>intro h7<;>simp (disch:=omega) only [Sh.out h7,go_sem,seval,↓reduceIte]
       ·have hq2:q<M.length:=Za
        obtain ⟨i,hi,hin⟩:=hmi q hq2;have hts:=hTs q hq2;rw [hi,X3] at hts;have hvl:=Vf x.orders i;refine Z6 10 mixed Zd Zd (Wp ?_);rw [hi];refine Zp (visits_c x.orders x.orders_c i hin Za) (Wp ?_)
        have hts2:((T (q+1):Nat):Int)=((T q:Nat):Int)+((Z0 x.orders i).length:Int):=Za
        exact ⟨q+1,Za,Za,Weak.mk (by simp (disch:=omega) only [hts2,go_sem,seval])⟩
       ·have hqm:q=M.length:=Za
        subst hqm;rw [hTn] at hq1 ⊢
        have ht8:UL x S<=8:=by
         grind [Ik,UL]
        have htp:0<UL x S:=PS hf.vne hdiv Za;obtain ⟨t1,t2,t3,_⟩:=VK hx (show k.toNat<x.types.length by omega);obtain ⟨N,hN⟩: ∃N,N=Vc (nth x.types k.toNat) [] (nth x.types k.toNat).opn 0:=⟨_,rfl⟩
        have hNl:N.length<=2:=by
         grind [AO]
        have hNo:Fp 0 N:=fun a ha=>by
         rw [hN] at ha;rcases WO.1 ha with h | rfl | rfl
         ·simp at h
         ·grind
         ·exact ⟨by simp only;omega,Zb⟩
        have cf:=gO x k S (UL x S) (UO,false) (nth x.types k.toNat).opn 0 hk htl Za Za;rw [<- hN] at cf;have cw:=CX x hx k S (UL x S) ht8 hk htl hbl Za (UL x S) [] true (nth x.types k.toNat).src N (UO,false) Zb (fun _=>htp) (by grind) Za (by simp [UO])
        have hB:(Pi x k S (UL x S) [] ((nth x.types k.toNat).src,N)).foldl (Ub (HS x k) (VZ x k S) JU) (UO,false)=Hm x k S (UO,false):=by rw [Hm,st0,<- hN]
        rw [hB] at cw
        have hZ2:Z=if (Hm x k S (UO,false)).2=true then ((Hm x k S (UO,false)).1,0) else (UO,24):=by
         rw [hZ,JV]
         simp_all
        generalize Hm x k S (UO,false)=B at cw hZ2;refine Z6 7 mixed Zd Zd (Wp ?_);refine ⟨.p (.list false (N.map D9)),?_,?_⟩
        ·refine ACalls.mono (((cf.mono fun y H' hq=>(⟨hq,by rw [hq.2]⟩:_/\H'.length= [Yh x k S (UL x S) (UO,false)].length)).front (by rfl) (by rfl) [.cells ((JW (nth x.types k.toNat)).map .p)]).back [Zj x,RN] (by rfl)) ?_;rintro y H' ⟨y1,H1,⟨H2,⟨rfl,rfl⟩,rfl⟩,rfl,rfl⟩;exact ⟨rfl,rfl⟩
        ·refine Wp ?_;refine ACalls.mono (((cw.mono fun y H' hq=>(⟨hq,by grind⟩:_/\H'.length= [Yh x k S (UL x S) (UO,false)].length)).front (by rfl) (by rfl) [.cells ((JW (nth x.types k.toNat)).map .p)]).back [Zj x,RN] (by rfl)) ?_;rintro y H' ⟨y1,H1,⟨H2,⟨rfl,rfl⟩,rfl⟩,rfl,rfl⟩;simp (disch:=omega) only [AM.shV,AM.shVs,AM.shO,Zj,RN,lC,UO,Yh,JW,ZG,Zo,ZY,Xh,go_sem,seval];obtain ⟨C,f⟩:=B
         cases f with
         | false =>
          rw [if_neg Zb] at hZ2;simp (disch:=omega) only [V4,go_sem,seval];exact ⟨.tup [.p (Yl Z.1),.p (.int .i64 Z.2)],[],Weak.mk (by simp (disch:=omega) only [hZ2,UO,Zo,go_sem,seval]),rfl,rfl⟩
         | true =>
          rw [if_pos rfl] at hZ2;simp (disch:=omega) only [Vw,go_sem,seval];exact ⟨.tup [.p (Yl Z.1),.p (.int .i64 Z.2)],[],Weak.mk (by simp (disch:=omega) only [hZ2,go_sem,seval]),rfl,rfl⟩
def ES (one:Nat->List Col):Nat->List Col
 | 0=> []
 | q+1=>ES one q++one (q+1)
def JQ (one:Nat->Nat->List Col) (N:Nat):Nat->List Col
 | 0=> []
 | k+1=>JQ one N k++ES (one k) N
theorem ET {one:Nat->List Col} (h: ∀q,(one q).length<=1): ∀q,(ES one q).length<=q
 | 0=>Xg _
 | q+1=>by
  have:=ET h q;have:=h (q+1);rw [ES,Zw];omega
theorem DP {one:Nat->Nat->List Col} {N:Nat} (h: ∀k q,(one k q).length<=1): ∀k,(JQ one N k).length<=k*N
 | 0=>by simp [JQ]
 | k+1=>by
  have h1:=DP (N:=N) h k;have h2:=ET (h k) N;rw [JQ,Zw,XN];omega
noncomputable def Ke (x:Inst) (k S:Nat):List Col:=if (JV x (k:Int) S).2=0 then [(JV x (k:Int) S).1] else []
theorem EJ {x:Inst} (k S:Nat):(Ke x k S).length<=1:=by grind [Ke]
theorem LS (x:Inst) (hx:InstOk x) (h4:x.orders.length<=4) (h6:x.types.length<=6) (hbl:x.before.length<=1048576) (hal:x.apart.length<=1048576) :
  PT 80 [.p (ZF x)] [.p (.list false ((JQ (Ke x) (2^x.orders.length-1) x.types.length).map Yl)),.p (.int .i64 0)]:=by
 have hp:pw x.orders.length=2^x.orders.length:=rfl;have hp1:1<=2^x.orders.length:=Nat.one_le_two_pow;have hp2:2^x.orders.length<=2^4:=Ys Za h4;obtain ⟨N,hN⟩: ∃N,N=2^x.orders.length-1:=⟨_,rfl⟩;rw [<- hN];refine Zf [12] Tryz.func80 rfl Zg2 ?_;simp (disch:=omega) only [Tryz.f80,go_sem,seval];refine Xc [12] [1,11] (fun k:Nat=> [(4,.sl 1 0 (JQ (Ke x) N k).length (JQ (Ke x) N k).length),(12,.p (.int .i64 k))]) (fun k=> [Zj x,.elems 7 ((JQ (Ke x) N k).map Yl)]) (fun k=>k<=x.types.length) (fun k=>x.types.length-k) 0 Zb (Weak.ofNil 4 7 (by simp (disch:=omega) only [go_sem,seval]) Zb (Weak.mk ?_)) ?_
 ·simp (disch:=omega) only [Zj,JQ,Zo,ZQ,go_sem,seval]
 ·intro k hk;obtain ⟨R,hR⟩: ∃R,R=JQ (Ke x) N k:=⟨_,rfl⟩;have hRl:=DP (N:=N) (EJ (x:=x)) k
  have hRs:JQ (Ke x) N (k+1)=R++ES (Ke x k) N:=by rw [hR];rfl
  rw [<- hR] at hRl ⊢;have hkN:k*N<=6*16:=Nat.mul_le_mul Za Za;refine Wj ?_;refine cD ?_ ?_<;>intro h1<;>simp (disch:=omega) only [Sh.out h1,go_sem,seval,↓reduceIte]
  ·obtain ⟨W,hW⟩: ∃W:Nat->List Col,W=fun q=>R++ES (Ke x k) (q-1):=⟨_,rfl⟩
   have hW0:W 1=R:=by grind [ES]
   have hWn:JQ (Ke x) N (k+1)=W (N+1):=by grind
   have hWl: ∀q,(W q).length<=R.length+q:=fun q=>by
    grind [ET,EJ]
   have hWs: ∀q,1<=q->W (q+1)=W q++Ke x k q:=fun q h=>by
    obtain ⟨p,rfl⟩: ∃p,q=p+1:=⟨q-1,Za⟩
    grind [ES]
   clear hW hRs;refine Zk [1,5,11,12] (fun q:Nat=> [(4,.sl 1 0 (W q).length (W q).length),(6,.p (.int .i64 q))]) (fun q=> [Zj x,.elems 7 ((W q).map Yl)]) (fun q=>1<=q/\q<=N+1) (fun q=>N+1-q) 1 Za (Weak.mk ?_) ?_
   ·have e0:((1:Nat):Int)=1:=rfl;simp (disch:=omega) only [Zj,hW0,e0,go_sem,seval]
   ·rintro q ⟨hq0,hq⟩;have hql:=hWl q;have hqs:=hWs q hq0;refine Wj ?_;refine ZP ?_ ?_<;>intro h2
    ·have hq2:q<2^x.orders.length:=by
      have h2':q / pw x.orders.length=0:=Za
      simp_all
     refine CP (HV x hx k q Za h4 Za hbl hal Za hq2) ?_;have hone:Ke x k q=if (JV x (k:Int) q).2=0 then [(JV x (k:Int) q).1] else []:=rfl;rw [hone] at hqs;generalize JV x (k:Int) q=Z at hqs ⊢;refine Wp ?_;refine ZP ?_ ?_<;>intro h3
     ·rw [if_pos h3] at hqs;exact ⟨q+1,Za,Za,Weak.mk (by simp (disch:=omega) only [hqs,XY,ZG,Zo,Zw,Zz,ZQ,XE,go_sem,seval])⟩
     ·rw [if_neg h3,Qq] at hqs;exact ⟨q+1,Za,Za,Weak.mk (by simp (disch:=omega) only [hqs,go_sem,seval])⟩
    ·have hqn:q=N+1:=by
      have h2': ¬q / pw x.orders.length=0:=Za
      rw [hp] at h2';have: ¬q<2^x.orders.length:=fun h=>h2' (Je h);omega
     subst hqn;exact ⟨k+1,Za,Za,Weak.mk (by simp (disch:=omega) only [hWn,go_sem,seval])⟩
  ·have hkt:k=x.types.length:=Za
   subst hkt;refine Zr (Weak.fz (o:=1) (by rfl)) ?_;refine Zg [] _ _ _ _ ?_;simp (disch:=omega) only [ZG,Zo,Xo,ZC,eq_self,go_sem,seval];exact ⟨.tup [.p (.list false (R.map Yl)),.p (.int .i64 0)],[],wk,by rw [hR],rfl⟩
structure St where
 ix:Int
 cov:Int
 used:List Int
 deriving Inhabited,DecidableEq
def Af (s:St):PV:= .agg (.int .i64 s.ix:: .int .i64 s.cov::s.used.map eI)
@[go_sem] theorem Zlq (s:St):Af s= .agg (.int .i64 s.ix:: .int .i64 s.cov::s.used.map eI):=Zh rfl rfl
def StR (s:St):Prop:=s.used.length=6
theorem six {l:List Int} (h:l.length=6): ∃a b c d e f,l= [a,b,c,d,e,f]:=by
 match l,h with
 | [a,b,c,d,e,f],_=>simp
theorem Yx {s:St} (h:StR s): ∃i v a b c d e f,s=⟨i,v,[a,b,c,d,e,f]⟩:=by
 obtain ⟨i,v,u⟩:=s;obtain ⟨a,b,c,d,e,f,rfl⟩:=six h;simp
theorem NA : KeyE Tryz.prog 204 Af StR:=by
 refine ⟨⟨151,3,Zd,Zd,fun s hs=> ?_,fun s t hs ht=> ?_⟩,fun s t hs ht=> ?_⟩
 ·obtain ⟨i,v,a,b,c,d,e,f,rfl⟩:=Yx hs
  kernel_rfl
 ·obtain ⟨i,v,a,b,c,d,e,f,rfl⟩:=Yx hs;obtain ⟨i',v',a',b',c',d',e',f',rfl⟩:=Yx ht
  have h1:Vl Tryz.prog 9 151 (Af ⟨i,v,[a,b,c,d,e,f]⟩) (Af ⟨i',v',[a',b',c',d',e',f']⟩)=some (decide (i=i')&&(decide (v=v')&&((decide (a=a')&&(decide (b=b')&&(decide (c=c')&&(decide (d=d')&&(decide (e=e')&&(decide (f=f')&&true))))))&&true))):=Zd
  have h2:keq (Af ⟨i,v,[a,b,c,d,e,f]⟩) (Af ⟨i',v',[a',b',c',d',e',f']⟩)=(decide (i=i')&&(decide (v=v')&&((decide (a=a')&&(decide (b=b')&&(decide (c=c')&&(decide (d=d')&&(decide (e=e')&&(decide (f=f')&&true))))))&&true))):=by
   simp_all [keq,Af,QL,eI]
  show (Vl Tryz.prog 9 151 (Af ⟨i,v,[a,b,c,d,e,f]⟩) (Af ⟨i',v',[a',b',c',d',e',f']⟩)==some (keq (Af ⟨i,v,[a,b,c,d,e,f]⟩) (Af ⟨i',v',[a',b',c',d',e',f']⟩)))=true
  simp_all
 ·obtain ⟨i,v,a,b,c,d,e,f,rfl⟩:=Yx hs;obtain ⟨i',v',a',b',c',d',e',f',rfl⟩:=Yx ht
  simp_all [keq,Af,QL,eI]
structure Kd where
 typ:Int
 set:Int
 deriving Inhabited,DecidableEq
def Tv (k:Kd):PV:= .agg [.int .i64 k.typ,.int .i64 k.set]
theorem dR : KeyE Tryz.prog 265 Tv fun _=>True:=by
 refine ⟨⟨267,3,Zd,Zd,fun s _=> ?_,fun s t _ _=> ?_⟩,fun s t _ _=> ?_⟩
 ·kernel_rfl
 ·obtain ⟨a,b⟩:=s;obtain ⟨c,d⟩:=t
  have h1:Vl Tryz.prog 9 267 (Tv ⟨a,b⟩) (Tv ⟨c,d⟩)=some (decide (a=c)&&(decide (b=d)&&true)):=Zd
  have h2:keq (Tv ⟨a,b⟩) (Tv ⟨c,d⟩)=(decide (a=c)&&(decide (b=d)&&true)):=by
   grind [keq,Tv,QL]
  show (Vl Tryz.prog 9 267 (Tv ⟨a,b⟩) (Tv ⟨c,d⟩)==some (keq (Tv ⟨a,b⟩) (Tv ⟨c,d⟩)))=true
  simp_all
 ·obtain ⟨a,b⟩:=s;obtain ⟨c,d⟩:=t;simp [keq,Tv,QL]
def AQ (n:Nat) (m cov:Int):Nat->Nat->Nat
 | 0,k=>k
 | f+1,k=>if k<n/\(sHas m k=false\/sHas cov k=true) then AQ n m cov f (k+1) else k
theorem CI {n:Nat} {m cov:Int} {k:Nat} (h: ¬(k<n/\(sHas m k=false\/sHas cov k=true))) (f:Nat):AQ n m cov f k=k:=by
 cases f with
 | zero=>rfl
 | succ f=>rw [AQ,if_neg h]
theorem DC {n:Nat} {m cov:Int} {k:Nat} (h:k<n) (hc:sHas m k=false\/sHas cov k=true):AQ n m cov (n-k) k=AQ n m cov (n-(k+1)) (k+1):=by
 rw [show n-k=(n-(k+1))+1 by omega,AQ,if_pos ⟨h,hc⟩]
def WY (n:Nat) (m:Int) (s:St):St:= { s with ix:=(AQ n m s.cov (n-s.ix.toNat) s.ix.toNat:Nat) }
def YP (x:Inst) (f g:PV) (m:Int):AM.Obj:= .cells [.p (.list x.net.places_c (x.net.places.map eS)),.p (.list x.net.arcs_c (x.net.arcs.map V0)),.p (.list x.types_c (x.types.map V1)),.p (.list x.orders_c (x.orders.map eOrd)),.p (.list x.apart_c (x.apart.map eP)),.p (.list x.before_c (x.before.map eP)),.p f,.p g,.mp 0,.p (.int .i64 m)]
def X0 (x:Inst) (f g:PV) (m:Int) (l:List (St×Int)):List AM.Obj:= [.map (l.map (I2 Af)),YP x f g m]
def Kt (s:St):AM.Obj:= .cells (.p (.int .i64 s.ix):: .p (.int .i64 s.cov)::(s.used.map eI).map .p)
theorem E3 (x:Inst) (f g:PV) (m:Int) (l:List (St×Int)) (s:St) (hs:StR s) (h0:0<=s.ix) (hn:x.orders.length<=10) (h1:s.ix<=10) :
  ACalls Tryz.prog 100 [.ptr 1 0,.p (Af s)] (X0 x f g m l) fun y H'=>y= .p (Af (WY x.orders.length m s))/\H'=X0 x f g m l:=by
 obtain ⟨i,v,a,b,c,d,e,u,rfl⟩:=Yx hs;obtain ⟨i,rfl⟩: ∃k:Nat,i=k:=⟨i.toNat,by grind⟩;simp only at h0 h1;generalize hT:Af (WY x.orders.length m ⟨i,v,[a,b,c,d,e,u]⟩)=T;refine Zf [] Tryz.func100 rfl wD ?_;simp (disch:=omega) only [Tryz.f100,X0,YP,ZG,Zo,go_sem,seval];refine Zk [0,3,4] (fun k:Nat=> []) (fun k=>X0 x f g m l++ [Kt ⟨k,v,[a,b,c,d,e,u]⟩,.cells (List.replicate 8 (.p (.int .i64 0)))]) (fun k=>k<=10/\AQ x.orders.length m v (x.orders.length-k) k=AQ x.orders.length m v (x.orders.length-i) i) (fun k=>x.orders.length-k) i ⟨Za,rfl⟩ (Weak.mk ?_) ?_
 ·simp (disch:=omega) only [X0,YP,Kt,ZG,Zo,List.replicate,go_sem,seval,↓reduceIte]
 ·rintro k ⟨hk,hq⟩
  have fin: ∀q:Nat,q=AQ x.orders.length m v (x.orders.length-i) i->Af ⟨q,v,[a,b,c,d,e,u]⟩=T:=fun q hq=>by grind [WY]
  simp (disch:=omega) only [X0,YP,Kt,ZG,Zo,List.replicate,go_sem,seval];refine XH (Wp ?_);refine gT ?_ ?_<;>intro h5<;>simp (disch:=omega) only [Sh.out h5,go_sem,seval,↓reduceIte]
  ·have hk2:k<x.orders.length:=Za
   refine Zp (CZ m k) (Wp ?_)
   cases hm:sHas m k with
   | false =>
    simp (disch:=omega) only [V4,go_sem,seval];exact ⟨k+1,⟨Za,by grind [DC]⟩,Za,wk⟩
   | true =>
    simp (disch:=omega) only [Vw,go_sem,seval];refine Zp (CZ v k) (Wp ?_)
    cases hv:sHas v k with
    | true =>
     refine Wp ?_;exact ⟨k+1,⟨Za,by grind [DC]⟩,Za,wk⟩
    | false =>
     refine Wp ?_;exact ⟨.p (Af ⟨k,v,[a,b,c,d,e,u]⟩),_,Weak.mk (by simp (disch:=omega) only [ZG,Zo,go_sem,seval]),by grind [CI],rfl⟩
  ·exact ⟨.p (Af ⟨k,v,[a,b,c,d,e,u]⟩),_,Weak.mk (by simp (disch:=omega) only [ZG,Zo,go_sem,seval]),by grind [CI],rfl⟩
def Cw (n:Nat) (m:Int) (s:St):St:=WY n m { s with ix:=s.ix+1 }
theorem ZbS {P Q:Prop} (h:Q) (e:Q->P:=by intro h;simp (disch:=omega) only [X0,YP,ZG,Zo,ZY,Xh,go_sem,seval];exact h):P:=e h
theorem GR (x:Inst) (f g:PV) (m:Int) (l:List (St×Int)) (s:St) (hs:StR s) (h0:0<=s.ix) (hn:x.orders.length<=10) (h1:s.ix<=9) :
  ACalls Tryz.prog 155 [.ptr 1 0,.p (Af s)] (X0 x f g m l) fun y H'=>y= .p (Af (Cw x.orders.length m s))/\H'=X0 x f g m l:=by
 have hc:=E3 x f g m l { s with ix:=s.ix+1 } hs (by grind) hn (by grind);obtain ⟨i,v,a,b,c,d,e,u,rfl⟩:=Yx hs;obtain ⟨q,hq⟩: ∃q:Int,Cw x.orders.length m ⟨i,v,[a,b,c,d,e,u]⟩=⟨q,v,[a,b,c,d,e,u]⟩:=⟨_,rfl⟩;have hq':WY x.orders.length m ⟨i+1,v,[a,b,c,d,e,u]⟩=⟨q,v,[a,b,c,d,e,u]⟩:=hq;rw [hq];simp only at h0 h1 hc;rw [hq'] at hc;refine Zf [] Tryz.func155 rfl xJ ?_;simp (disch:=omega) only [Tryz.f155,X0,YP,ZG,Zo,go_sem,seval];refine hc.useP (L:= [_,_]) (by rfl) ?_ (by rfl) (by rfl);refine ZbS ?_
 exact we
def B3 (n:Nat) (m:Int) (s:St) (T:Nat) (C S:Nat):St:=WY n m ⟨s.ix,((C|||S:Nat):Int),s.used.set T (nth s.used T+1)⟩
def Df (x:Inst) (s:St) (T:Nat) (C S:Nat):Bool:=decide (C&&&S=0)&&decide (nth s.used T<(nth x.types T).count)
theorem iW (x:Inst) (f g:PV) (m:Int) (l:List (St×Int)) (s:St) (c:Col) (hs:StR s) (h0:0<=s.ix) (hn:x.orders.length<=10) (h1:s.ix<=10) (C S T:Nat) (hC:s.cov=C) (hS:c.set=S) (hT:c.typ=T) (hC2:C<1024) (hS2:S<1024) (hT2:T<x.types.length) (h6:x.types.length<=6)
  (hu: ∀j,j<6->0<=nth s.used j/\nth s.used j<=1048576) :
  ACalls Tryz.prog 154 [.ptr 1 0,.p (Af s),.p (Yl c)] (X0 x f g m l) fun y H'=>y=(if Df x s T C S=true then .tup [.p (Af (B3 x.orders.length m s T C S)),.p (.bool true)] else .tup [.p (Af s),.p (.bool false)])/\H'=X0 x f g m l:=by
 have hor:C|||S<1024:=Qp (n:=10) hC2 hS2;have hc:=E3 x f g m l ⟨s.ix,((C|||S:Nat):Int),s.used.set T (nth s.used T+1)⟩ (by grind [StR]) h0 hn h1;obtain ⟨i,v,a0,a1,a2,a3,a4,a5,rfl⟩:=Yx hs
 have hT3:T=0\/T=1\/T=2\/T=3\/T=4\/T=5:=Za
 have u0:=hu 0 Za;have u1:=hu 1 Za;have u2:=hu 2 Za;have u3:=hu 3 Za;have u4:=hu 4 Za;have u5:=hu 5 Za;simp only [nth,List.getD_cons_zero,List.getD_cons_succ] at u0 u1 u2 u3 u4 u5;simp only at hC h0 h1;obtain ⟨ct,cs,cp,cr⟩:=c;simp only at hS hT;subst hC;subst hS;subst hT;obtain ⟨R,hR⟩: ∃R:V,R=(if Df x ⟨i,(C:Nat),[a0,a1,a2,a3,a4,a5]⟩ T C S=true then .tup [.p (Af (B3 x.orders.length m ⟨i,(C:Nat),[a0,a1,a2,a3,a4,a5]⟩ T C S)),.p (.bool true)] else .tup [.p (Af ⟨i,(C:Nat),[a0,a1,a2,a3,a4,a5]⟩),.p (.bool false)]):=⟨_,rfl⟩
 rw [<- hR];obtain ⟨q,hq⟩: ∃q:Int,WY x.orders.length m ⟨i,((C|||S:Nat):Int),[a0,a1,a2,a3,a4,a5].set T (nth [a0,a1,a2,a3,a4,a5] T+1)⟩=⟨q,((C|||S:Nat):Int),[a0,a1,a2,a3,a4,a5].set T (nth [a0,a1,a2,a3,a4,a5] T+1)⟩:=⟨_,rfl⟩;simp only at hc;rw [hq] at hc;have hw:B3 x.orders.length m ⟨i,(C:Nat),[a0,a1,a2,a3,a4,a5]⟩ T C S=⟨q,((C|||S:Nat):Int),[a0,a1,a2,a3,a4,a5].set T (nth [a0,a1,a2,a3,a4,a5] T+1)⟩:=hq;rw [hw] at hR;refine Zf [] Tryz.func154 rfl xI ?_;rcases hT3 with rfl | rfl | rfl | rfl | rfl | rfl
 all_goals
  simp (disch:=omega) only [Tryz.f154,X0,YP,ZG,Zo,go_sem,seval,↓reduceIte];refine XH ?_;simp (disch:=omega) only [go_sem,seval,↓reduceIte];refine gF ?_ ?_<;>intro h5<;>simp (disch:=omega) only [Sh.out h5,go_sem,seval,↓reduceIte]
  ·have hno:(decide (C&&&S=0))=false:=YZ Za;exact ⟨.tup [.p (Af ⟨i,(C:Nat),[a0,a1,a2,a3,a4,a5]⟩),.p (.bool false)],_,Weak.mk (by simp (disch:=omega) only [ZG,Zo,go_sem,seval]),by rw [hR,if_neg (by rw [Df,hno];simp)],rfl⟩
  ·have hcs:C&&&S=0:=Za
   refine cD ?_ ?_<;>intro h7<;>simp (disch:=omega) only [Sh.out h7,go_sem,seval,↓reduceIte]
   ·exact ⟨.tup [.p (Af ⟨i,(C:Nat),[a0,a1,a2,a3,a4,a5]⟩),.p (.bool false)],_,Weak.mk (by simp (disch:=omega) only [ZG,Zo,go_sem,seval]),by rw [hR,if_neg (by rw [Df,YJ hcs,W9];exact fun h=>Int.not_lt.2 h7 (KS h))],rfl⟩
   ·rw [if_pos (by rw [Df,YJ hcs,W9];exact YJ (Ji.1 h7))] at hR;refine hc.useP (L:= [_,_,_]) (by rfl) ?_ (by rfl) (by rfl);simp (disch:=omega) only [X0,YP,ZG,Zo,ZY,Xh,ZC,Xo,go_sem,seval,↓reduceIte];exact ⟨R,_,Weak.mk (by rw [hR];simp (disch:=omega) only [nth,List.getD_cons_zero,List.getD_cons_succ,ZC,Xo,ZG,Zo,go_sem,seval]),rfl,rfl⟩
def YF (o p r:Int):Int:=if 0<=r/\(o<0\/p+r<o) then p+r else o
theorem IP (o p r:Int) (hp: -4611686018427387904<=p/\p<=4611686018427387904) (hr: -4611686018427387904<r/\r<4611686018427387904) :
  ACalls Tryz.prog 153 [.p (.int .i64 p),.p (.int .i64 r),.ptr 0 0] [.cells [.p (.int .i64 o)]] fun y H'=>y= .tup []/\H'= [.cells [.p (.int .i64 (YF o p r))]]:=by
 obtain ⟨T,hT⟩: ∃T,T=YF o p r:=⟨_,rfl⟩;rw [<- hT];unfold YF at hT;refine Zf [] Tryz.func153 rfl xH ?_;simp (disch:=omega) only [Tryz.f153,go_sem,seval];refine gT ?_ ?_<;>intro h1<;>simp (disch:=omega) only [Sh.out h1,go_sem,seval,↓reduceIte]
 ·refine gF ?_ ?_<;>intro h2<;>simp (disch:=omega) only [Sh.out h2,go_sem,seval,↓reduceIte]
  ·rw [if_pos ⟨h1,.inl h2⟩] at hT;subst hT;exact we
  ·refine cD ?_ ?_<;>intro h3<;>simp (disch:=omega) only [Sh.out h3,go_sem,seval,↓reduceIte]
   ·rw [if_pos ⟨h1,.inr h3⟩] at hT;subst hT;exact we
   ·rw [if_neg Za] at hT;subst hT;exact we
 ·rw [if_neg Za] at hT;subst hT;exact we
theorem BZ {n:Nat} {m cov:Int} : ∀(f k:Nat),k<=AQ n m cov f k
 | 0,k=>Xg _
 | f+1,k=>by
  rw [AQ]
  split
  ·have:=BZ (n:=n) (m:=m) (cov:=cov) f (k+1);omega
  ·omega
theorem PI {n:Nat} {m cov:Int} : ∀(f k:Nat),k<=n->AQ n m cov f k<=n
 | 0,k,h=>h
 | f+1,k,h=>by
  rw [AQ]
  split
  ·rename_i hc;exact PI f (k+1) Za
  ·exact h
theorem S6 {n:Nat} {m cov:Int} {k:Nat} (h:k<n) (hb:sHas cov k=true):k+1<=AQ n m cov (n-k) k:=by
 grind [DC,BZ]
theorem EE {l:List Int} {i j:Nat} {a:Int} (h:i<l.length):nth (l.set i a) j=if i=j then a else nth l j:=by
 grind [nth]
structure StV (n:Nat) (s:St):Prop where
 len:StR s
 ix:0<=s.ix/\s.ix<=n
 cov: ∃C:Nat,s.cov=C/\C<1024
 used: ∀j,j<6->0<=nth s.used j/\nth s.used j<=1048576
theorem If {n:Nat} {m:Int} {s:St} (h:StV n s):StV n (WY n m s)/\s.ix<=(WY n m s).ix:=by
 obtain ⟨h1,h2,h3,h4⟩:=h;have a:=BZ (n:=n) (m:=m) (cov:=s.cov) (n-s.ix.toNat) s.ix.toNat;have b:=PI (n:=n) (m:=m) (cov:=s.cov) (n-s.ix.toNat) s.ix.toNat Za;exact ⟨⟨h1,by grind [WY],h3,h4⟩,by grind [WY]⟩
theorem HO {n:Nat} {m:Int} {s:St} (h:StV n s) (hi:s.ix<n):StV n (Cw n m s)/\s.ix<(Cw n m s).ix:=by
 have h':StV n { s with ix:=s.ix+1 } :=⟨h.len,by have:=h.ix;grind,h.cov,h.used⟩
 grind [If,Cw]
theorem oJ {C S k:Nat} (h:sHas (S:Int) k=true):sHas ((C|||S:Nat):Int) k=true:=by
 have key: ∀N:Nat,sHas (N:Int) k=true↔k<=62/\N.testBit k=true:=fun N=>by
  simp only [sHas,Zt,Zl,X3]
  grind
 grind
theorem pK {n:Nat} {m:Int} {s:St} {T C S:Nat} (h:StV n s) (hi:s.ix<n) (hC:C<1024) (hS:S<1024) (hb:sHas (S:Int) s.ix=true) (hT:T<6) (hu:nth s.used T<1048576):StV n (B3 n m s T C S)/\s.ix<(B3 n m s T C S).ix:=by
 have hor:C|||S<1024:=Qp (n:=10) hC hS;have hl:s.used.length=6:=h.len
 have h':StV n ⟨s.ix,((C|||S:Nat):Int),s.used.set T (nth s.used T+1)⟩:=by
  refine ⟨by grind [StR],h.ix,⟨_,rfl,hor⟩,fun j hj=> ?_⟩;simp only;rw [EE Za]
  split
  ·have:=h.used T hT;omega
  ·exact h.used j hj
 grind [If,S6,oJ,B3,WY]
def Yp (x:Inst) (s:St) (c:Col):Bool:=Df x s c.typ.toNat s.cov.toNat c.set.toNat
def Vg (n:Nat) (m:Int) (s:St) (c:Col):St:=B3 n m s c.typ.toNat s.cov.toNat c.set.toNat
def YQ (n:Nat) (m:Int) (x:Inst) (fst:List (List Col)) (sk:List Int):Nat->St->Int
 | 0,_=>0
 | d+1,s=>if (n:Int)<=s.ix then 0 else
  let o:=(nth fst s.ix.toNat).foldl (fun o c=>if Yp x s c=true then YF o c.price (YQ n m x fst sk d (Vg n m s c)) else o) (-1)
  if 0<=nth sk s.ix.toNat then YF o (nth sk s.ix.toNat) (YQ n m x fst sk d (Cw n m s)) else o
structure ChOk (n:Nat) (x:Inst) (fst:List (List Col)) (sk:List Int):Prop where
 col: ∀i,i<n-> ∀c∈nth fst i,(0<=c.typ/\c.typ<x.types.length)/\(∃S:Nat,c.set=S/\S<1024)/\sHas c.set i=true/\0<=c.price/\c.price<=18014398509481984
 typ:x.types.length<=6/\ ∀t,t<6->(nth x.types t).count<=1048576
 skp: ∀i,i<n-> -1<=nth sk i/\nth sk i<=18014398509481984
theorem DG {n:Nat} {m:Int} {x:Inst} {fst:List (List Col)} {sk:List Int} (hc:ChOk n x fst sk) {s:St} (h:StV n s) (hi:s.ix<n) {c:Col} (hm:c∈nth fst s.ix.toNat) (hy:Yp x s c=true):StV n (Vg n m s c)/\s.ix<(Vg n m s c).ix:=by
 obtain ⟨⟨t0,t1⟩,⟨S,hS,hS2⟩,hb,_⟩:=hc.col _ (by have:=h.ix;omega) c hm;obtain ⟨C,hC,hC2⟩:=h.cov;have ht:=hc.typ.1;have hcnt:=hc.typ.2 c.typ.toNat Za;simp only [Yp,Df,Zt,Zl] at hy;have hi0:=h.ix;rw [show ((s.ix.toNat:Nat):Int)=s.ix by omega] at hb;exact pK h hi Za Za (by grind) Za Za
theorem Q8 {α β:Type} {f g:β->α->β} : ∀ {l:List α} {b:β},(∀a∈l,∀b,f b a=g b a)->l.foldl f b=l.foldl g b
 | [],_,_=>rfl
 | a::l,b,h=>by
  rw [Yt,Yt,h a Zb b];exact Q8 fun a ha=>h a (Ym _ ha)
theorem QJ {n:Nat} {m:Int} {x:Inst} {fst:List (List Col)} {sk:List Int} (hc:ChOk n x fst sk): ∀(d d':Nat) (s:St),StV n s->(n:Int)-s.ix<d->(n:Int)-s.ix<d'->YQ n m x fst sk d s=YQ n m x fst sk d' s
 | 0,_,s,h,h1,_=>by have:=h.ix;omega
 | _,0,s,h,_,h1=>by have:=h.ix;omega
 | d+1,d'+1,s,h,h1,h2=>by
  rw [YQ,YQ]
  split
  ·rfl
  ·rename_i hi
   have e1:(nth fst s.ix.toNat).foldl (fun o c=>if Yp x s c=true then YF o c.price (YQ n m x fst sk d (Vg n m s c)) else o) (-1)=(nth fst s.ix.toNat).foldl (fun o c=>if Yp x s c=true then YF o c.price (YQ n m x fst sk d' (Vg n m s c)) else o) (-1):=Q8 fun c hm o=>by
    by_cases hy:Yp x s c=true
    ·obtain ⟨v1,v2⟩:=DG (m:=m) hc h Za hm hy;rw [if_pos hy,if_pos hy,QJ hc d d' _ v1 Za Za]
    grind
   obtain ⟨v1,v2⟩:=HO (m:=m) h Za;rw [QJ hc d d' _ v1 Za Za];simp only [e1]
theorem Zf5 {o p r B:Int} (h1: -1<=o/\o<=B) (h2:0<=p) (h3:p+r<=B): -1<=YF o p r/\YF o p r<=B:=by
 grind [YF]
theorem Gc {α β:Type} {f:β->α->β} {R:β->Prop} : ∀ {l:List α} {b:β},R b->(∀a∈l,∀b,R b->R (f b a))->R (l.foldl f b)
 | [],_,h,_=>h
 | a::l,b,h,hf=>by
  rw [Yt];exact Gc (hf a Zb b h) fun a ha=>hf a (Ym _ ha)
theorem VE {n:Nat} {m:Int} {x:Inst} {fst:List (List Col)} {sk:List Int} (hc:ChOk n x fst sk): ∀(d:Nat) (s:St),StV n s-> -1<=YQ n m x fst sk d s/\YQ n m x fst sk d s<=(d:Int)*18014398509481984
 | 0,s,h=>by simp [YQ]
 | d+1,s,h=>by
  rw [YQ]
  split
  ·omega
  ·rename_i hi;have i0:=h.ix
   have e1: -1<=(nth fst s.ix.toNat).foldl (fun o c=>if Yp x s c=true then YF o c.price (YQ n m x fst sk d (Vg n m s c)) else o) (-1)/\(nth fst s.ix.toNat).foldl (fun o c=>if Yp x s c=true then YF o c.price (YQ n m x fst sk d (Vg n m s c)) else o) (-1)<=((d+1:Nat):Int)*18014398509481984:=by
    refine Gc (R:=fun o:Int=> -1<=o/\o<=((d+1:Nat):Int)*18014398509481984) Za fun c hm o ho=> ?_
    split
    ·rename_i hy;obtain ⟨v1,v2⟩:=DG (m:=m) hc h Za hm hy;have:=VE (m:=m) hc d _ v1;have:=(hc.col _ Za c hm).2.2.2;exact Zf5 ho Za Za
    ·exact ho
   have hs:=hc.skp s.ix.toNat Za;obtain ⟨v1,v2⟩:=HO (m:=m) h Za;have:=VE (m:=m) hc d _ v1;simp only
   split
   ·exact Zf5 e1 Za Za
   ·exact e1
def Y4 (l:List Col):PV:= .list false (l.map Yl)
@[go_sem] theorem Zgm (l:List Col):Y4 l= .list false (l.map Yl):=Zh rfl rfl
def RM (c:Col):AM.Obj:= .cells [.p (.int .i64 c.typ),.p (.int .i64 c.set),.p (.int .i64 c.price),.p (.int .i64 c.route.typ),.p (.int .i64 c.route.start),.p (.list c.route.rests_c (c.route.rests.map eB)),.p (.list c.route.visits_c (c.route.visits.map Xf))]
def sX (n:Nat) (m:Int) (x:Inst) (fst:List (List Col)) (sk:List Int) (l:List (St×Int)):Prop:= ∀p∈l,StV n p.1/\p.2=YQ n m x fst sk 20 p.1
theorem Za6 {P Q:Prop} (h:Q) (e:Q->P:=by intro h;simp (disch:=omega) only [X0,YP,Kt,ZG,Zo,ZY,Xh,go_sem,seval];exact h):P:=e h
theorem Dk (x:Inst) (fst:List (List Col)) (sk:List Int) (fc sc:Bool) (m:Int) (hn:x.orders.length<=10) (hf:fst.length=x.orders.length) (hs:sk.length=x.orders.length) (hc:ChOk x.orders.length x fst sk) (hcl: ∀r∈fst,r.length<=1048576) :
  ∀(d:Nat) (s:St) (l:List (St×Int)),d<=20->StV x.orders.length s->(x.orders.length:Int)-s.ix<d->sX x.orders.length m x fst sk l ->
   ACalls Tryz.prog 101 [.ptr 1 0,.p (Af s)] (X0 x (.list fc (fst.map Y4)) (.list sc (sk.map eI)) m l) fun y H'=> ∃l',sX x.orders.length m x fst sk l'/\y= .p (.int .i64 (YQ x.orders.length m x fst sk 20 s))/\H'=X0 x (.list fc (fst.map Y4)) (.list sc (sk.map eI)) m l'
 | 0,s,l,_,hv,hd,_=>by have:=hv.ix;omega
 | d+1,s,l,hd0,hv,hd,hl=>by
  have ih:=Dk x fst sk fc sc m hn hf hs hc hcl d;have hlR: ∀p∈l,StR p.1:=fun p hp=>(hl p hp).1.len;obtain ⟨i,v,a0,a1,a2,a3,a4,a5,rfl⟩:=Yx hv.len;have hi:=hv.ix;simp only at hi hd;obtain ⟨i,rfl⟩: ∃k:Nat,i=k:=⟨i.toNat,Za⟩;obtain ⟨T,hT⟩: ∃T,T=YQ x.orders.length m x fst sk 20 ⟨i,v,[a0,a1,a2,a3,a4,a5]⟩:=⟨_,rfl⟩;rw [<- hT];refine Zf [] Tryz.func101 rfl wE ?_;simp (disch:=omega) only [Tryz.f101,X0,YP,ZG,Zo,go_sem,seval];refine XH ?_;refine Wp ?_;refine cD ?_ ?_<;>intro h1<;>simp (disch:=omega) only [Sh.out h1,go_sem,seval]
  ·rw [YQ,if_pos Za] at hT;subst hT;exact ⟨_,_,wk,l,hl,rfl,rfl⟩
  ·refine XH (Wp ?_);refine bY (FQ (k:=(⟨i,v,[a0,a1,a2,a3,a4,a5]⟩:St)) NA hlR hv.len (by rfl)) (Wp ?_)
   cases hq:mq l (⟨i,v,[a0,a1,a2,a3,a4,a5]⟩:St) with
   | some w =>
    obtain ⟨_,hw⟩:=hl _ (Zbb hq);simp only at hw;rw [<- hw] at hT;subst hT;simp (disch:=omega) only [Jo,Jf,go_sem,seval];exact ⟨_,_,wk,l,hl,rfl,rfl⟩
   | none =>
    have hi2:i<fst.length:=Za
    have hi3:i<sk.length:=Za
    have hrl:=hcl _ (ZD hi2);simp (disch:=omega) only [KR,Option.getD_none,go_sem,seval];refine XH (Wp ?_)
    let F:Int->Col->Int:=fun o c=>if Yp x ⟨i,v,[a0,a1,a2,a3,a4,a5]⟩ c=true then YF o c.price (YQ x.orders.length m x fst sk 19 (Vg x.orders.length m ⟨i,v,[a0,a1,a2,a3,a4,a5]⟩ c)) else o
    refine Zk [0,3,7,8,42,43] (fun q:Nat×List (St×Int)=> [(44,.p (.int .i64 q.1))]) (fun q=>X0 x (.list fc (fst.map Y4)) (.list sc (sk.map eI)) m q.2++ [Kt ⟨i,v,[a0,a1,a2,a3,a4,a5]⟩,.cells [.p (.int .i64 (((nth fst i).take q.1).foldl F (-1)))]]) (fun q=>q.1<=(nth fst i).length/\sX x.orders.length m x fst sk q.2) (fun q=>(nth fst i).length-q.1) (0,l) ⟨Zb,hl⟩ (Weak.mk ?_) ?_
    ·simp (disch:=omega) only [X0,YP,Kt,ZG,Zo,ZY,Xh,WN,Qr,go_sem,seval,↓reduceIte]
    ·rintro ⟨k,l1⟩ ⟨hk,hl1⟩;simp only at hk hl1;have hl1R: ∀p∈l1,StR p.1:=fun p hp=>(hl1 p hp).1.len;generalize hacc:((nth fst i).take k).foldl F (-1)=acc;refine Za6 ?_;refine cD ?_ ?_<;>intro h2<;>simp (disch:=omega) only [Sh.out h2,go_sem,seval,↓reduceIte]
     ·have hk2:k<(nth fst i).length:=Za
      have hm:=ZD hk2
      have hs1:((nth fst i).take (k+1)).foldl F (-1)=F acc (nth (nth fst i) k):=by
       grind [Xm,Ze]
      obtain ⟨⟨t0,t1⟩,⟨S,hS,hS2⟩,hb,hp0,hp1⟩:=hc.col i Za _ hm;obtain ⟨C,hC,hC2⟩:=hv.cov;simp only at hC;have h6:=hc.typ.1;obtain ⟨tt,htt⟩: ∃tt:Nat,(nth (nth fst i) k).typ=tt:=⟨(nth (nth fst i) k).typ.toNat,Za⟩;have cw:=iW x (.list fc (fst.map Y4)) (.list sc (sk.map eI)) m l1 ⟨i,v,[a0,a1,a2,a3,a4,a5]⟩ (nth (nth fst i) k) hv.len Zb hn (by grind) C S tt hC hS htt hC2 hS2 Za h6 hv.used
      have hmay:Yp x ⟨i,v,[a0,a1,a2,a3,a4,a5]⟩ (nth (nth fst i) k)=Df x ⟨i,v,[a0,a1,a2,a3,a4,a5]⟩ tt C S:=by grind [Yp,X3]
      have hwc:Vg x.orders.length m ⟨i,v,[a0,a1,a2,a3,a4,a5]⟩ (nth (nth fst i) k)=B3 x.orders.length m ⟨i,v,[a0,a1,a2,a3,a4,a5]⟩ tt C S:=by grind [Vg]
      by_cases hy:Df x ⟨i,v,[a0,a1,a2,a3,a4,a5]⟩ tt C S=true
      ·obtain ⟨v1,v2⟩:=DG (m:=m) hc hv (by grind) (by simpa using hm) (by grind);rw [hwc] at v1 v2;obtain ⟨j,w,b0,b1,b2,b3,b4,b5,hw⟩:=Yx v1.len;rw [if_pos hy,hw] at cw;refine cw.useP (L:= [_,_,_]) (by rfl) ?_ (by rfl) (by rfl);refine ZbS ?_;refine Ax [5] [1,2] [4] 6 mixed Zd Zd Zd Zd Zb (Wp ?_);refine ⟨fun q hq p hp=> ?_,?_⟩
       ·simp only [Xs,Jd,or_false] at hq;rcases hq with rfl | rfl
        ·obtain rfl:10=p:=UD hp;exact Ue (by decide)
        ·obtain rfl:57=p:=UD hp;exact Ue (by decide)
       ·have c3:=((ih ⟨j,w,[b0,b1,b2,b3,b4,b5]⟩ l1 Za (hw ▸ v1) (by grind) hl1).mono (fun y H' hq=>(⟨hq,by obtain ⟨l',_,_,rfl⟩:=hq;rfl⟩:_/\H'.length=(X0 x (.list fc (fst.map Y4)) (.list sc (sk.map eI)) m l1).length))).front (by rfl) (by rfl) [Kt ⟨i,v,[a0,a1,a2,a3,a4,a5]⟩,.cells [.p (.int .i64 acc)],RM (nth (nth fst i) k),Kt ⟨j,w,[b0,b1,b2,b3,b4,b5]⟩];refine Gj 5 _ Zd (by refine Wp ?_;exact c3) ?_;rintro y H' ⟨H1,⟨l2,hl2,rfl,rfl⟩,rfl⟩;refine ⟨fun k hk=>by simp at hk;subst hk;rfl,Pg ?_⟩;simp (disch:=omega) only [X0,YP,Kt,RM,ZG,Zo,ZY,Xh,go_sem,seval]
        have hrg:=VE (m:=m) hc 20 _ v1;rw [hw] at hrg;have c4:=(((IP acc (nth (nth fst i) k).price (YQ x.orders.length m x fst sk 20 ⟨j,w,[b0,b1,b2,b3,b4,b5]⟩) Za Za).back [.map (l2.map (I2 Af)),YP x (.list fc (fst.map Y4)) (.list sc (sk.map eI)) m,Kt ⟨i,v,[a0,a1,a2,a3,a4,a5]⟩] (by rfl)).mono (fun y H' hq=>(⟨hq,by grind⟩:_/\H'.length=4))).front (by rfl) (by rfl) [RM (nth (nth fst i) k),Kt ⟨j,w,[b0,b1,b2,b3,b4,b5]⟩];refine ACalls.mono c4 ?_;rintro y H' ⟨H1,⟨y1,H2,⟨rfl,rfl⟩,rfl,rfl⟩,rfl⟩;simp (disch:=omega) only [YP,Kt,RM,ZG,Zo,ZY,Xh,shO,shVs,shV,go_sem,seval]
        have hF:F acc (nth (nth fst i) k)=YF acc (nth (nth fst i) k).price (YQ x.orders.length m x fst sk 20 ⟨j,w,[b0,b1,b2,b3,b4,b5]⟩):=by
         show (if _ then _ else _)=_
         rw [if_pos (by grind),hwc,QJ hc 19 20 _ v1 (by grind) (by grind),hw]
        exact ⟨(k+1,l2),⟨Za,hl2⟩,Za,Weak.mk (by simp (disch:=omega) only [hs1,hF,go_sem,seval])⟩
      ·rw [if_neg hy] at cw;refine cw.useP (L:= [_,_,_]) (by rfl) ?_ (by rfl) (by rfl);refine ZbS ?_;have hF:F acc (nth (nth fst i) k)=acc:=if_neg (by grind);exact ⟨(k+1,l1),⟨Za,hl1⟩,Za,Weak.mk (by simp (disch:=omega) only [hs1,hF,go_sem,seval])⟩
     ·have hkl:k=(nth fst i).length:=Za
      subst hkl;rw [Yb] at hacc
      have hTe:T=if 0<=nth sk i then YF acc (nth sk i) (YQ x.orders.length m x fst sk 19 (Cw x.orders.length m ⟨i,v,[a0,a1,a2,a3,a4,a5]⟩)) else acc:=by
       rw [hT,show (20:Nat)=19+1 from rfl,YQ,if_neg Za,<- hacc]
       rfl
      refine XH (Wp ?_);refine cD ?_ ?_<;>intro h3<;>simp (disch:=omega) only [Sh.out h3,go_sem,seval,↓reduceIte]
      ·have cn:=GR x (.list fc (fst.map Y4)) (.list sc (sk.map eI)) m l1 ⟨i,v,[a0,a1,a2,a3,a4,a5]⟩ hv.len Zb hn (by grind);obtain ⟨v1,v2⟩:=HO (m:=m) hv (by grind);obtain ⟨j,w,b0,b1,b2,b3,b4,b5,hw⟩:=Yx v1.len;have hsk:=hc.skp i Za;have hrg:=VE (m:=m) hc 20 _ v1;rw [hw] at cn v1 v2 hrg;simp only at v2;refine cn.useP (L:= [_,_]) (by rfl) ?_ (by rfl) (by rfl);refine ZbS ?_;have c3:=((ih ⟨j,w,[b0,b1,b2,b3,b4,b5]⟩ l1 Za v1 (by grind) hl1).mono (fun y H' hq=>(⟨hq,by obtain ⟨l',_,_,rfl⟩:=hq;rfl⟩:_/\H'.length=(X0 x (.list fc (fst.map Y4)) (.list sc (sk.map eI)) m l1).length))).front (by rfl) (by rfl) [Kt ⟨i,v,[a0,a1,a2,a3,a4,a5]⟩,.cells [.p (.int .i64 acc)]]
       refine ACalls.mono c3 ?_;rintro y H' ⟨H1,⟨l2,hl2,rfl,rfl⟩,rfl⟩;refine Za6 ?_;refine ACalls.mono ((IP acc (nth sk i) (YQ x.orders.length m x fst sk 20 ⟨j,w,[b0,b1,b2,b3,b4,b5]⟩) Za Za).back [.map (l2.map (I2 Af)),YP x (.list fc (fst.map Y4)) (.list sc (sk.map eI)) m,Kt ⟨i,v,[a0,a1,a2,a3,a4,a5]⟩] (by rfl)) ?_;rintro y H' ⟨y1,H2,⟨rfl,rfl⟩,rfl,rfl⟩;simp (disch:=omega) only [YP,Kt,ZG,Zo,ZY,Xh,shO,shVs,shV,go_sem,seval];refine Z6 6 mixed Zd Zd ?_
       refine Wp ?_;refine H4 (l:=l2) (k:=(⟨i,v,[a0,a1,a2,a3,a4,a5]⟩:St)) NA (fun p hp=>(hl2 p hp).1.len) hv.len (by rfl) fun l3 _ hl3=> ?_;simp (disch:=omega) only [ZC,go_sem,seval];rw [if_pos h3,QJ hc 19 20 _ (by grind) (by grind) (by grind),hw] at hTe;rw [<- hTe];exact ⟨.p (.int .i64 T),_,wk,l3,fun p hp=>(hl3 p hp).elim (hl2 p) (fun e=>by grind),rfl,rfl⟩
      ·refine Z6 6 mixed Zd Zd (Wp ?_);refine H4 (l:=l1) (k:=(⟨i,v,[a0,a1,a2,a3,a4,a5]⟩:St)) NA hl1R hv.len (by rfl) fun l3 _ hl3=> ?_;simp (disch:=omega) only [ZC,go_sem,seval];rw [if_neg h3] at hTe;rw [<- hTe];exact ⟨.p (.int .i64 T),_,wk,l3,fun p hp=>(hl3 p hp).elim (hl1 p) (fun e=>by grind),rfl,rfl⟩
def Ie (n:Nat) (m:Int) (x:Inst) (fst:List (List Col)) (sk:List Int) (s:St) (c:Col):Bool :=
 Yp x s c&&(decide (0<=YQ n m x fst sk 20 (Vg n m s c))&&decide (c.price+YQ n m x fst sk 20 (Vg n m s c)=YQ n m x fst sk 20 s))
def Ye (n:Nat) (m:Int) (x:Inst) (fst:List (List Col)) (sk:List Int):Nat->St->List Col×List Int
 | 0,_=>([],[])
 | d+1,s=>if (n:Int)<=s.ix then ([],[]) else match (nth fst s.ix.toNat).find? (Ie n m x fst sk s) with
  | some c=>(c::(Ye n m x fst sk d (Vg n m s c)).1,(Ye n m x fst sk d (Vg n m s c)).2)
  | none=>((Ye n m x fst sk d (Cw n m s)).1,s.ix::(Ye n m x fst sk d (Cw n m s)).2)
theorem La {α:Type} [Inhabited α] {p:α->Bool} : ∀ {l:List α} {k:Nat},k<l.length->(∀j,j<k->p (nth l j)=false)->p (nth l k)=true->l.find? p=some (nth l k)
 | [],_,h,_,_=>by simp at h
 | a::l,0,_,_,h=>by
  grind [nth]
 | a::l,k+1,hk,h0,h=>by
  rw [List.find?_cons_of_neg (by rw [show p a=false from h0 0 Za];simp)];exact La (l:=l) (k:=k) (by simpa using hk) (fun j hj=>h0 (j+1) Za) h
theorem mA {α:Type} [Inhabited α] {p:α->Bool} {l:List α} (h: ∀j,j<l.length->p (nth l j)=false):l.find? p=none:=by
 rw [KQ];intro a ha;obtain ⟨j,hj,rfl⟩:=ZN.1 ha
 grind [Ze]
theorem Zbq (X:AM.Obj) (hX: ∀H n,DH H n X X) (hX2: ∀o xs,O3 o xs X=X) (x:Inst) (fst:List (List Col)) (sk:List Int) (fc sc:Bool) (m:Int) (hn:x.orders.length<=10) (hf:fst.length=x.orders.length) (hs:sk.length=x.orders.length) (hc:ChOk x.orders.length x fst sk) (hcl: ∀r∈fst,r.length<=1048576)
  (s:St) (l:List (St×Int)) (hv:StV x.orders.length s) (hl:sX x.orders.length m x fst sk l) :
  ACalls Tryz.prog 102 [.ptr 1 0,.p (Af s)] (X0 x (.list fc (fst.map Y4)) (.list sc (sk.map eI)) m l++ [X]) fun y H'=> ∃l' A B,sX x.orders.length m x fst sk l'/\(A,B)=Ye x.orders.length m x fst sk 20 s /\
   y= .tup [.sl 4 0 A.length A.length,.p (.list false (B.map eI))]/\H'=X0 x (.list fc (fst.map Y4)) (.list sc (sk.map eI)) m l'++ [X,.cells (List.replicate 8 .junk),.elems 7 (A.map Yl)]:=by
 obtain ⟨i,v,a0,a1,a2,a3,a4,a5,rfl⟩:=Yx hv.len;obtain ⟨D,hD⟩: ∃D,D=20:=⟨20,rfl⟩;obtain ⟨R,hR⟩: ∃R,R=Ye x.orders.length m x fst sk D ⟨i,v,[a0,a1,a2,a3,a4,a5]⟩:=⟨_,rfl⟩;rw [<- hD,<- hR];have hi0:=hv.ix;simp only at hi0;refine Zf [20] Tryz.func102 rfl wF ?_;simp (disch:=omega) only [Tryz.f102,ZY,Xh,X0,YP,ZG,Zo,go_sem,seval]
 refine Xc [20] [0,3] (fun q:Nat×St×List (St×Int)×List Col×List Int=> [(6,.sl 4 0 q.2.2.2.1.length q.2.2.2.1.length),(7,.sl 5 0 q.2.2.2.2.length q.2.2.2.2.length)])
  (fun q=>X0 x (.list fc (fst.map Y4)) (.list sc (sk.map eI)) m q.2.2.1++ [X,Kt q.2.1,.elems 7 (q.2.2.2.1.map Yl),.elems 1 (q.2.2.2.2.map eI)])
  (fun q=>q.1<=D/\StV x.orders.length q.2.1/\(x.orders.length:Int)-q.2.1.ix<q.1/\sX x.orders.length m x fst sk q.2.2.1/\(q.2.2.2.1.length:Int)<=q.2.1.ix/\(q.2.2.2.2.length:Int)<=q.2.1.ix/\R=(q.2.2.2.1++(Ye x.orders.length m x fst sk q.1 q.2.1).1,q.2.2.2.2++(Ye x.orders.length m x fst sk q.1 q.2.1).2))
  (fun q=>q.1) (D,⟨i,v,[a0,a1,a2,a3,a4,a5]⟩,l,[],[]) ⟨Zb,hv,by grind,hl,by grind,by grind,by rw [hR];rfl⟩
  (Weak.ofNil 6 7 (by simp (disch:=omega) only [go_sem,seval]) Zb (Weak.ofNil 7 1 (by simp (disch:=omega) only [go_sem,seval]) Zb (Weak.mk ?_))) ?_
 ·simp (disch:=omega) only [hX,X0,YP,Kt,ZG,Zo,ZY,Xh,ZQ,go_sem,seval,↓reduceIte]
 ·rintro ⟨d,s,l1,A,B⟩ ⟨hd1,hsv,hd,hl1,hA,hB,hq⟩;simp only at hd1 hsv hd hl1 hA hB hq;clear hv hR hi0;obtain ⟨i,v,a0,a1,a2,a3,a4,a5,rfl⟩:=Yx hsv.len;have hi0:=hsv.ix;simp only at hi0 hd hA hB hq;obtain ⟨i,rfl⟩: ∃k:Nat,i=k:=⟨i.toNat,Za⟩;obtain ⟨d,rfl⟩: ∃k,d=k+1:=⟨d-1,Za⟩;refine Za6 ?_;refine XH ?_;refine Wp ?_;refine cD ?_ ?_<;>intro h1<;>simp (disch:=omega) only [Sh.out h1,go_sem,seval,↓reduceIte]
  ·have hi2:i<fst.length:=Za
   have hrl:=hcl _ (ZD hi2);have c3:=((Dk x fst sk fc sc m hn hf hs hc hcl 20 ⟨i,v,[a0,a1,a2,a3,a4,a5]⟩ l1 Za hsv (by grind) hl1).mono (fun y H' hq=>(⟨hq,by obtain ⟨l',_,_,rfl⟩:=hq;rfl⟩:_/\H'.length=(X0 x (.list fc (fst.map Y4)) (.list sc (sk.map eI)) m l1).length))).front (by rfl) (by rfl) [X,Kt ⟨i,v,[a0,a1,a2,a3,a4,a5]⟩,.elems 7 (A.map Yl),.elems 1 (B.map eI)];refine ACalls.mono c3 ?_;rintro y H' ⟨H1,⟨l2,hl2,rfl,rfl⟩,rfl⟩;clear hl1 c3;obtain ⟨W,hW⟩: ∃W,W=YQ x.orders.length m x fst sk 20 ⟨i,v,[a0,a1,a2,a3,a4,a5]⟩:=⟨_,rfl⟩
   rw [<- hW]
   have hWr: -1<=W/\W<=20*18014398509481984:=by rw [hW];exact VE hc 20 _ hsv
   refine Za6 ?_;refine XH (Wp ?_);refine Zk [0,3,7,8,34,35] (fun q:Nat×List (St×Int)=> [(6,.sl 4 0 A.length A.length),(9,.p (.bool false)),(36,.p (.int .i64 q.1))]) (fun q=>X0 x (.list fc (fst.map Y4)) (.list sc (sk.map eI)) m q.2++ [X,Kt ⟨i,v,[a0,a1,a2,a3,a4,a5]⟩,.elems 7 (A.map Yl),.elems 1 (B.map eI)]) (fun q=>q.1<=(nth fst i).length/\sX x.orders.length m x fst sk q.2/\ ∀j,j<q.1->Ie x.orders.length m x fst sk ⟨i,v,[a0,a1,a2,a3,a4,a5]⟩ (nth (nth fst i) j)=false) (fun q=>(nth fst i).length-q.1) (0,l2) ⟨Zb,hl2,fun j hj=>by simp at hj⟩ (Weak.mk ?_) ?_
   ·simp (disch:=omega) only [hX,X0,YP,Kt,ZG,Zo,ZY,Xh,go_sem,seval,↓reduceIte]
   ·rintro ⟨k,l1⟩ ⟨hk,hl1,hno⟩;simp only at hk hl1 hno;refine Za6 ?_;refine cD ?_ ?_<;>intro h2<;>simp (disch:=omega) only [Sh.out h2,go_sem,seval,↓reduceIte]
    ·have hk2:k<(nth fst i).length:=Za
     have hm:=ZD hk2;obtain ⟨⟨t0,t1⟩,⟨S,hS,hS2⟩,hb,hp0,hp1⟩:=hc.col i Za _ hm;obtain ⟨C,hC,hC2⟩:=hsv.cov;simp only at hC;have h6:=hc.typ.1;obtain ⟨tt,htt⟩: ∃tt:Nat,(nth (nth fst i) k).typ=tt:=⟨(nth (nth fst i) k).typ.toNat,Za⟩;have cw:=iW x (.list fc (fst.map Y4)) (.list sc (sk.map eI)) m l1 ⟨i,v,[a0,a1,a2,a3,a4,a5]⟩ (nth (nth fst i) k) hsv.len Zb hn (by grind) C S tt hC hS htt hC2 hS2 Za h6 hsv.used
     have hmay:Yp x ⟨i,v,[a0,a1,a2,a3,a4,a5]⟩ (nth (nth fst i) k)=Df x ⟨i,v,[a0,a1,a2,a3,a4,a5]⟩ tt C S:=by grind [Yp]
     have hwc:Vg x.orders.length m ⟨i,v,[a0,a1,a2,a3,a4,a5]⟩ (nth (nth fst i) k)=B3 x.orders.length m ⟨i,v,[a0,a1,a2,a3,a4,a5]⟩ tt C S:=by grind [Vg]
     have more:Ie x.orders.length m x fst sk ⟨i,v,[a0,a1,a2,a3,a4,a5]⟩ (nth (nth fst i) k)=false-> ∀j,j<k+1->Ie x.orders.length m x fst sk ⟨i,v,[a0,a1,a2,a3,a4,a5]⟩ (nth (nth fst i) j)=false:=fun h j hj=>by
      grind
     by_cases hy:Df x ⟨i,v,[a0,a1,a2,a3,a4,a5]⟩ tt C S=true
     ·obtain ⟨v1,v2⟩:=DG (m:=m) hc hsv Za (by simpa using hm) (by grind);rw [hwc] at v1 v2;obtain ⟨j,w,b0,b1,b2,b3,b4,b5,hw⟩:=Yx v1.len;rw [if_pos hy,hw] at cw;refine cw.useP (L:= [_,_,_,_,_]) (by rfl) ?_ (by rfl) (by rfl);refine ZbS ?_;have c3:=((Dk x fst sk fc sc m hn hf hs hc hcl 20 ⟨j,w,[b0,b1,b2,b3,b4,b5]⟩ l1 Za (hw ▸ v1) (by grind) hl1).mono (fun y H' hq=>(⟨hq,by obtain ⟨l',_,_,rfl⟩:=hq;rfl⟩:_/\H'.length=(X0 x (.list fc (fst.map Y4)) (.list sc (sk.map eI)) m l1).length))).front (by rfl) (by rfl) [X,Kt ⟨i,v,[a0,a1,a2,a3,a4,a5]⟩,.elems 7 (A.map Yl),.elems 1 (B.map eI),RM (nth (nth fst i) k),Kt ⟨j,w,[b0,b1,b2,b3,b4,b5]⟩]
      refine ACalls.mono c3 ?_;rintro y H' ⟨H1,⟨l3,hl3,rfl,rfl⟩,rfl⟩;have hTr:=VE (m:=m) hc 20 _ v1
      have hsel:Ie x.orders.length m x fst sk ⟨i,v,[a0,a1,a2,a3,a4,a5]⟩ (nth (nth fst i) k)=(decide (0<=YQ x.orders.length m x fst sk 20 ⟨j,w,[b0,b1,b2,b3,b4,b5]⟩)&&decide ((nth (nth fst i) k).price+YQ x.orders.length m x fst sk 20 ⟨j,w,[b0,b1,b2,b3,b4,b5]⟩=W)):=by
       rw [Ie,hmay,hy,hwc,hw,hW,W9]
      rw [hw] at hTr;generalize YQ x.orders.length m x fst sk 20 ⟨j,w,[b0,b1,b2,b3,b4,b5]⟩=T at hTr hsel;simp (disch:=omega) only [X0,YP,Kt,RM,ZG,Zo,ZY,Xh,go_sem,seval];refine gT ?_ ?_<;>intro h3<;>simp (disch:=omega) only [Sh.out h3,go_sem,seval,↓reduceIte]
      ·refine cD ?_ ?_<;>intro h4<;>simp (disch:=omega) only [Sh.out h4,go_sem,seval,↓reduceIte]
       ·rw [YJ h3,YJ h4,W9] at hsel
        have hp:Ye x.orders.length m x fst sk (d+1) ⟨i,v,[a0,a1,a2,a3,a4,a5]⟩=(nth (nth fst i) k::(Ye x.orders.length m x fst sk d ⟨j,w,[b0,b1,b2,b3,b4,b5]⟩).1,(Ye x.orders.length m x fst sk d ⟨j,w,[b0,b1,b2,b3,b4,b5]⟩).2):=by
         rw [Ye,if_neg (by grind)];simp only [X3,La hk2 hno hsel,hwc,hw]
        rw [hw] at v1 v2;simp only at v2;rw [hp] at hq;exact ⟨(d,⟨j,w,[b0,b1,b2,b3,b4,b5]⟩,l3,A++ [nth (nth fst i) k],B),⟨Za,v1,by grind,hl3,by grind,by grind,by grind⟩,Za,Weak.mk (by simp (disch:=omega) only [hX,ZG,Zo,XY,Zw,Zz,ZQ,XE,go_sem,seval])⟩
       ·rw [YZ h4,Bool.and_false] at hsel;exact ⟨(k+1,l3),⟨Za,hl3,more hsel⟩,Za,Weak.mk (by simp (disch:=omega) only [hX,go_sem,seval])⟩
      ·rw [YZ h3,U2] at hsel;exact ⟨(k+1,l3),⟨Za,hl3,more hsel⟩,Za,Weak.mk (by simp (disch:=omega) only [hX,go_sem,seval])⟩
     ·rw [if_neg hy] at cw;refine cw.useP (L:= [_,_,_,_,_]) (by rfl) ?_ (by rfl) (by rfl);refine ZbS ?_;exact ⟨(k+1,l1),⟨Za,hl1,more (by rw [Ie,hmay,Bool.eq_false_iff.2 hy,U2])⟩,Za,Weak.mk (by simp (disch:=omega) only [hX,go_sem,seval])⟩
    ·have hkl:k=(nth fst i).length:=Za
     subst hkl
     have hp:Ye x.orders.length m x fst sk (d+1) ⟨i,v,[a0,a1,a2,a3,a4,a5]⟩=((Ye x.orders.length m x fst sk d (Cw x.orders.length m ⟨i,v,[a0,a1,a2,a3,a4,a5]⟩)).1,(i:Int)::(Ye x.orders.length m x fst sk d (Cw x.orders.length m ⟨i,v,[a0,a1,a2,a3,a4,a5]⟩)).2):=by
      simp_all [Ye,mA]
     rw [hp] at hq;have cn:=GR x (.list fc (fst.map Y4)) (.list sc (sk.map eI)) m l1 ⟨i,v,[a0,a1,a2,a3,a4,a5]⟩ hsv.len Zb hn (by grind);obtain ⟨v1,v2⟩:=HO (m:=m) hsv Za;obtain ⟨j,w,b0,b1,b2,b3,b4,b5,hw⟩:=Yx v1.len;rw [hw] at cn v1 v2 hq;simp only at v2;refine cn.useP (L:= [_,_,_,_,_]) (by rfl) ?_ (by rfl) (by rfl);refine ZbS ?_;exact ⟨(d,⟨j,w,[b0,b1,b2,b3,b4,b5]⟩,l1,A,B++ [(i:Int)]),⟨Za,v1,by grind,hl1,by grind,by grind,by grind⟩,Za,Weak.mk (by simp (disch:=omega) only [hX,ZG,Zo,XY,Zw,Zz,ZQ,XE,go_sem,seval])⟩
  ·rw [Ye,if_pos (by grind)] at hq;simp only [Qq] at hq;subst hq;refine Zr (Weak.fz (o:=5) (by rfl)) (Zg [] _ _ _ _ (Aq ?_));exact ⟨.tup [.sl 4 0 A.length A.length,.p (.list false (B.map eI))],_,Weak.mk (by simp (disch:=omega) only [hX,hX2,go_sem,seval]),l1,A,B,hl1,rfl,rfl,rfl⟩
def cT (a:List Int) (i:Nat):Nat->Bool
 | 0=>true
 | k+1=>cT a i k&&decide (nth a k≠nth a i)
theorem Lk {a:List Int} {i:Nat} : ∀k,cT a i k=true↔ ∀t,t<k->nth a t≠nth a i
 | 0=>by simp [cT]
 | k+1=>by
  rw [cT,Zt,Lk k,Zl]
  grind
def Nt (a:List Int) (i:Nat):Bool:=cT a i i
theorem Bi {a:List Int} {i:Nat} :Nt a i=true↔ ∀t,t<i->nth a t≠nth a i:=Lk i
def Fc (l:List Col) (a:List Int) (T:Int) (i:Nat):Bool:=decide (0<=nth a i)&&(decide ((nth l (nth a i).toNat).typ=T)&&Nt a i)
def usdI (l:List Col) (a:List Int) (T:Int):Nat->Nat
 | 0=>0
 | i+1=>usdI l a T i+(if Fc l a T i=true then 1 else 0)
def Ai (S:Nat) (a:List Int) (j:Int):List Int:=(List.range a.length).map fun i=>if S.testBit i=true then j else nth a i
theorem Kr {S:Nat} {a:List Int} {j:Int} :(Ai S a j).length=a.length:=by simp [Ai]
theorem XF {S:Nat} {a:List Int} {j:Int} {i:Nat} (h:i<a.length):nth (Ai S a j) i=if S.testBit i=true then j else nth a i:=by
 grind [Ai,Ze]
def okA (S:Nat) (a:List Int) (k:Nat):Bool:=(List.range a.length).all fun i=> !S.testBit i||(decide (nth a i<0)&&decide (k<=i))
theorem Dy {S:Nat} {a:List Int} {k:Nat} :okA S a k=true↔ ∀i,i<a.length->S.testBit i=true->nth a i<0/\k<=i:=by
 simp only [okA,Zy,ZL,Wf,Yr,Zt,Zl]
 grind
def Hp (x:Inst) (l:List Col) (a:List Int) (j k:Nat):Bool :=
 (nth l j).set.toNat.testBit k&&(decide ((usdI l a (nth l j).typ a.length:Int)<(nth x.types (nth l j).typ.toNat).count)&&okA (nth l j).set.toNat a k)
def skR (x:Inst) (k:Nat):Int:=(XW (Xk x k).1).1
def Fl (x:Inst) (l:List Col):Nat->List Int->Int->List (List Int×Int)
 | 0,a,p=> [(a,p)]
 | d+1,a,p=>if (nth x.orders (x.orders.length-(d+1))).off=true\/0<=nth a (x.orders.length-(d+1)) then Fl x l d a p else
  ((List.range l.length).flatMap fun j=>if Hp x l a j (x.orders.length-(d+1))=true then Fl x l d (Ai (nth l j).set.toNat a j) (p+(nth l j).price) else []) ++
   (if 0<=(nth x.orders (x.orders.length-(d+1))).penalty then Fl x l d a (p+skR x (x.orders.length-(d+1))) else [])
structure Chc where
 found:Bool
 places:List Int
 price:Int
 deriving Inhabited
def Az (l:List Col):List Int->List Int->Option Bool
 | x::a,y::b=>if x=y then Az l a b else if x<0\/y<0 then some (decide (0<=x)) else if (nth l x.toNat).typ≠(nth l y.toNat).typ then some (decide ((nth l x.toNat).typ<(nth l y.toNat).typ)) else
   if (nth l x.toNat).set≠(nth l y.toNat).set then some (decide ((nth l x.toNat).set<(nth l y.toNat).set)) else Az l a b
 | _,_=>none
def M7 : List Int->List Int->Bool
 | x::a,y::b=>if x=y then M7 a b else decide (x<y)
 | _,_=>false
def Hg (l:List Col) (a b:List Int):Bool:=match Az l a b with
 | some r=>r
 | none=>M7 a b
theorem T9 {l:List Col} :Az l [] []=none:=by simp [Az]
theorem Rt {l:List Col} {a b:List Int} {r:Bool} (h:Az l a b=some r):Hg l a b=r:=by rw [Hg,h]
theorem Rs {l:List Col} {a b:List Int} (h:Az l a b=none):Hg l a b=M7 a b:=by rw [Hg,h]
def MA (l:List Col) (b:Chc) (q:List Int×Int):Chc:=if b.found=false\/q.2<b.price\/(q.2=b.price/\Hg l q.1 b.places=true) then ⟨true,q.1,q.2⟩ else b
def RngA (x:Inst) (l:List Col) (a:List Int):Prop:=a.length=x.orders.length/\ ∀i,i<x.orders.length-> -1<=nth a i/\nth a i<l.length
theorem iC {x:Inst} {l:List Col} {a:List Int} {S j:Nat} (h:RngA x l a) (hj:j<l.length):RngA x l (Ai S a j) :=
 ⟨by rw [Kr];exact h.1,fun i hi=>by
  rw [XF (by rw [h.1];exact hi)]
  split
  ·omega
  ·exact h.2 i hi⟩
theorem Du {x:Inst} {l:List Col} : ∀(d:Nat) {a:List Int} {p:Int},RngA x l a-> ∀q∈Fl x l d a p,RngA x l q.1
 | 0,a,p,h,q,hq=>by
  simp_all [Fl]
 | d+1,a,p,h,q,hq=>by
  rw [Fl] at hq
  split at hq
  ·exact Du d h q hq
  ·rw [Xr,We] at hq;rcases hq with ⟨j,hj,hq⟩ | hq
   ·split at hq
    ·exact Du d (iC h (ZL.1 hj)) q hq
    ·simp at hq
   ·split at hq
    ·exact Du d h q hq
    ·simp at hq
def OM (x b:Inst) (p:Pln) (k:Nat):List Ord:=Qu (fun j=>if j<k then JX x b p j else Ej x j) x.orders.length
section
variable {x b : Inst} {p : Pln} {k : Nat}
theorem ON : (OM x b p k).length=x.orders.length:=YS
theorem bM : OM x b p 0=Qu (Ej x) x.orders.length:=Jw fun j _=>by rfl
theorem lQ : OM x b p x.orders.length=Qu (JX x b p) x.orders.length:=Jw fun j hj=>by grind
theorem lR (h:k<x.orders.length):nth (OM x b p k) k=Ej x k:=by simp_all [OM,UJ]
theorem lS : (OM x b p k).set k (JX x b p k)=OM x b p (k+1):=by
 rw [OM,L4];refine Jw fun i _=> ?_
 grind
theorem bL (hk:k<x.orders.length) (h:JX x b p k=Ej x k):OM x b p (k+1)=OM x b p k:=Jw fun i _=>by
 grind
end
theorem lD (x b:Inst) (p:Pln) (hxo:x.orders.length<=1048576) (hxt:x.types.length<=1048576) (hbo:b.orders.length<=4) (hbt:b.types.length<=1048576) (hr:p.routes.length<=1048576) (hv: ∀r∈p.routes,r.visits.length<=1048576) :
  ACalls Tryz.prog 36 [.p (ZF x),.p (ZF b),.p (UR p)] [] fun y H'=>y=crT x b p/\H'= []:=by
 have zI:ZF sU= .agg [.list true [],.list true [],.list true [],.list true [],.list true [],.list true []]:=rfl;have ck:=Gu b p hbo hbt hr hv;refine Zf [14] Tryz.func36 rfl ZgM ?_;simp (disch:=omega) only [Tryz.f36,go_sem,seval];refine cD ?_ ?_<;>intro h1<;>simp (disch:=omega) only [Sh.out h1,go_sem,seval,↓reduceIte]
 ·have hE:Tu x b p=2:=by rw [Tu,if_neg Za]
  rw [crT,hE,if_neg Za,zI];exact we
 ·have hE:Tu x b p=V2 b p:=by rw [Tu,if_pos Za]
  by_cases h0:V2 b p=0
  ·rw [Et,if_pos h0] at ck;rw [crT,hE,if_pos h0,h0];refine CP ck (Wp ?_);refine ACalls.mono ((O2 x hxo).behind (by rfl) [Zj x,Zj b,Yf p,.cells (List.replicate 6 (.p (.list true [])))]) ?_;rintro y H' ⟨y1,H1,⟨rfl,rfl⟩,rfl,rfl⟩;rw [<- bM (x:=x) (b:=b) (p:=p)];have hl0:=ON (x:=x) (b:=b) (p:=p) (k:=0);simp (disch:=first | omega | (simp only [Zz,ZQ,Zw,Zv,ZE,ZK]<;>omega)) only [shV,shVs,shO,FA,Zj,Yf,List.replicate,ZG,Zo,ZY,Xh,hl0,eq_self,W8,go_sem,seval,↓reduceIte]
   refine Xc [14] [4,6,8,10,35,36] (fun k:Nat=> [(37,.p (.int .i64 k))]) (fun k=> [Zj x,Zj b,Yf p,.cells (List.replicate 6 (.p (.list true []))),.cells (FA x 6 x.orders.length),.cells (FA x 6 x.orders.length),.elems 16 ((OM x b p k).map eOrd),.cells (FA x 6 x.orders.length)]) (fun k=>k<=x.orders.length) (fun k=>x.orders.length-k) 0 Zb (Weak.mk ?_) ?_
   ·simp (disch:=omega) only [Zj,Yf,List.replicate,FA,go_sem,seval]
   ·intro k hk;have hrl:=ON (x:=x) (b:=b) (p:=p) (k:=k);simp (disch:=first | omega | (simp only [Zz,ZQ,Zw,Zv,ZE,ZK]<;>omega)) only [Zj,Yf,List.replicate,FA,eq_self,go_sem,seval];refine cD ?_ ?_<;>intro h2<;>simp (disch:=omega) only [Sh.out h2,go_sem,seval,↓reduceIte]
    ·have hk2:k<x.orders.length:=Za
     have hnk:=lR (b:=b) (p:=p) hk2
     have he:Qw ((OM x b p k).map eOrd) k=eOrd (Ej x k):=by grind [Wn]
     have ZH:((OM x b p k).map eOrd).set k (eOrd (JX x b p k))=(OM x b p (k+1)).map eOrd:=by rw [<- UE,lS]
     have hsame:=bL (b:=b) (p:=p) hk2;have hnm:(Ej x k).name=(nth x.orders k).name:=rfl;have hrg:=Eg (l:=b.orders) (s:=(nth x.orders k).name);have hkl:=Bn (x:=b) (p:=p);have cf:=P0 b (nth x.orders k).name Za;simp (disch:=first | omega | (simp only [Zz,ZQ,Zw,Zv,ZE,ZK]<;>omega)) only [he,hrl,hk2,eq_self,go_sem,seval,↓reduceIte];refine (cf).use (Wp ?_);generalize hF:J1 b.orders (nth x.orders k).name=F at hrg
     have hcar:JX x b p k=if 0<=F/\0<=nth (US b p) F.toNat then { Ej x k with last:=nth (US b p) F.toNat } else Ej x k:=by rw [JX,hF]
     refine QB ?_ ?_<;>intro h3
     ·refine ZP ?_ ?_<;>intro h4
      ·rw [if_pos ⟨h3,h4⟩] at hcar;rw [hcar] at ZH;simp only [Hw,Ej] at ZH;refine Z6 9 mixed Zd Zd (Wp ?_);simp (disch:=first | omega | (simp only [Zz,ZQ,Zw,Zv,ZE,ZK]<;>omega)) only [hrl,hnk,eq_self,W8,go_sem,seval];exact ⟨k+1,Za,Za,Weak.mk (by simp (disch:=omega) only [Ej,ZH,go_sem,seval])⟩
      ·rw [if_neg (fun h=>h4 h.2)] at hcar;exact ⟨k+1,Za,Za,Weak.mk (by simp (disch:=omega) only [hsame hcar,go_sem,seval])⟩
     ·rw [if_neg (fun h=>h3 h.1)] at hcar;exact ⟨k+1,Za,Za,Weak.mk (by simp (disch:=omega) only [hsame hcar,go_sem,seval])⟩
    ·have hkl:k=x.orders.length:=Za
     subst hkl;rw [lQ];have hrt:=YS (f:=JX x b p) (n:=x.orders.length);refine Zr (Weak.fz (o:=6) (by rfl)) ?_;refine Zg [] _ _ _ _ ?_;simp (disch:=omega) only [ZG,Zo,Xo,ZC,hrt,eq_self,go_sem,seval];exact we (by simp (disch:=omega) only [Fw,go_sem,seval])
  ·rw [Et,if_neg h0] at ck;rw [crT,hE,if_neg h0,zI];refine CP ck (Wp ?_);refine cD ?_ ?_<;>intro h2<;>simp (disch:=omega) only [Sh.out h2,go_sem,seval,↓reduceIte]
   ·exact we
   ·omega
def rS (b:Inst) (now last:List Int) (o:Ord) (i:Nat):Prop:=0<=J1 b.orders o.name/\0<=nth now i/\0<=nth last (J1 b.orders o.name).toNat/\nth now i≠nth last (J1 b.orders o.name).toNat
instance {b now last o i} : Decidable (rS b now last o i) := by unfold rS; infer_instance
def Is (x b:Inst) (now last:List Int):Nat->Nat
 | 0=>0
 | k+1=>Is x b now last k+if rS b now last (nth x.orders k) k then 1 else 0
theorem aJ {x b:Inst} {now last:List Int} : ∀k,Is x b now last k<=k
 | 0=>by simp [Is]
 | k+1=>by have:=aJ (x:=x) (b:=b) (now:=now) (last:=last) k;rw [Is];split<;>omega
theorem RF (x b:Inst) (now last:List Int) (c1 c2:Bool) (hx:x.orders.length<=1048576) (hb:b.orders.length<=1048576) (hn:now.length=x.orders.length) (hl:last.length=b.orders.length) :
  PC 54 [.p (ZF x),.p (ZF b),.p (.list c1 (now.map eI)),.p (.list c2 (last.map eI))] (.int .i64 (Is x b now last x.orders.length)):=by
 refine Zc Tryz.func54 rfl ZgV ?_;simp (disch:=omega) only [Tryz.f54,go_sem,seval];refine Zk [2,3,5,14,15] (fun k:Nat=> [(9,.p (.int .i64 (Is x b now last k))),(16,.p (.int .i64 k))]) (fun _=> [Zj x,Zj b]) (fun k=>k<=x.orders.length) (fun k=>x.orders.length-k) 0 Zb (Weak.mk ?_) ?_
 ·simp (disch:=omega) only [Zj,Is,go_sem,seval]
 ·intro k hk;have hcl:=aJ (x:=x) (b:=b) (now:=now) (last:=last) k;refine Wj ?_;refine cD ?_ ?_<;>intro h<;>simp (disch:=omega) only [Sh.out h,go_sem,seval,↓reduceIte]
  ·have hk2:k<x.orders.length:=Za
   have hrg:=Eg (l:=b.orders) (s:=(nth x.orders k).name);refine (P0 b (nth x.orders k).name hb).use (Wp ?_)
   have hs1:rS b now last (nth x.orders k) k->Is x b now last (k+1)=Is x b now last k+1:=fun h=>by rw [Is,if_pos h]
   have hs0: ¬rS b now last (nth x.orders k) k->Is x b now last (k+1)=Is x b now last k:=fun h=>by simp_all [Is]
   unfold rS at hs1 hs0;generalize J1 b.orders (nth x.orders k).name=F at hrg hs1 hs0;refine XH (Wp ?_);refine QB ?_ ?_<;>intro h3
   ·refine QB ?_ ?_<;>intro h4
    ·refine QB ?_ ?_<;>intro h5
     ·refine ZP ?_ ?_<;>intro h6
      ·exact ⟨k+1,Za,Za,Weak.mk (by simp (disch:=omega) only [hs1 ⟨h3,h4,h5,h6⟩,go_sem,seval])⟩
      ·exact ⟨k+1,Za,Za,Weak.mk (by simp (disch:=omega) only [hs0 (fun h=>h6 h.2.2.2),go_sem,seval])⟩
     ·exact ⟨k+1,Za,Za,Weak.mk (by simp (disch:=omega) only [hs0 (fun h=>h5 h.2.2.1),go_sem,seval])⟩
    ·exact ⟨k+1,Za,Za,Weak.mk (by simp (disch:=omega) only [hs0 (fun h=>h4 h.2.1),go_sem,seval])⟩
   ·exact ⟨k+1,Za,Za,Weak.mk (by simp (disch:=omega) only [hs0 (fun h=>h3 h.1),go_sem,seval])⟩
  grind
def Tw (ds:List Inst) (ps:List Pln):Int:=if 64<ds.length then 4 else if ds.length≠ps.length then 2 else 0
theorem vP (ds:List Inst) (ps:List Pln) (c1 c2:Bool) (h1:ds.length<=1048576) (h2:ps.length<=1048576):PC 52 [.p (.list c1 (ds.map ZF)),.p (.list c2 (ps.map UR))] (.int .i64 (Tw ds ps)):=by
 refine Zc Tryz.func52 rfl ZgT ?_;simp (disch:=omega) only [Tryz.f52,go_sem,seval];refine cD ?_ ?_<;>intro h<;>simp (disch:=omega) only [Sh.out h,go_sem,seval]
 ·rw [Tw,if_pos Za]
 ·refine cD ?_ ?_<;>intro h3<;>simp (disch:=omega) only [Sh.out h3,go_sem,seval]
  ·rw [Tw,if_neg Za,if_pos Za]
  ·rw [Tw,if_neg Za,if_neg Za]
def Be (ds:List Inst) (ps:List Pln):Nat->Int
 | 0=>0
 | k+1=>if Be ds ps k≠0 then Be ds ps k else V2 (nth ds k) (nth ps k)
theorem F5 {ds:List Inst} {ps:List Pln} {k:Nat} (h:Be ds ps k≠0): ∀n,k<=n->Be ds ps n=Be ds ps k
 | 0,hn=>by grind
 | n+1,hn=>by
  by_cases c:k=n+1
  ·rw [c]
  ·have ih:=F5 h n Za
   simp_all [Be]
def AJ (ds:List Inst) (ps:List Pln) (i:Nat):Int:=if i=0 then 0 else (Is (nth ds i) (nth ds (i-1)) (US (nth ds i) (nth ps i)) (US (nth ds (i-1)) (nth ps (i-1))) (nth ds i).orders.length:Nat)
def LQ (ds:List Inst) (ps:List Pln):Int:=if Tw ds ps≠0 then Tw ds ps else Be ds ps ds.length
def nM (ds:List Inst) (ps:List Pln):V:=if LQ ds ps=0 then .tup [.p (.list false ((YG (AJ ds ps) ds.length).map eI)),.p (.int .i64 0)] else .tup [.p (.list true []),.p (.int .i64 (LQ ds ps))]
def eA (ds:List Inst) (ps:List Pln) (k:Nat):V:=if k=0 then .p (.list true []) else .p (.list false ((US (nth ds (k-1)) (nth ps (k-1))).map eI))
theorem SU {f:Nat->Int} {n:Nat} :YG f (n+1)=YG f n++ [f n]:=by simp [YG,Yu]
theorem bW {ds:List Inst} {ps:List Pln} (h:Tw ds ps=0):ds.length<=64/\ds.length=ps.length:=by
 grind [Tw]
theorem fL (ds:List Inst) (ps:List Pln) (c1 c2:Bool) (h1:ds.length<=1048576) (h2:ps.length<=1048576) (hD: ∀x∈ds,x.orders.length<=4/\x.types.length<=1048576) (hP: ∀p∈ps,p.routes.length<=1048576/\ ∀r∈p.routes,r.visits.length<=1048576) :
  ACalls Tryz.prog 19 [.p (.list c1 (ds.map ZF)),.p (.list c2 (ps.map UR))] [] fun y H'=>y=nM ds ps/\H'= []:=by
 have ce:=vP ds ps c1 c2 h1 h2;refine Zf [5] Tryz.func19 rfl ZgJ ?_;simp (disch:=omega) only [Tryz.f19,go_sem,seval];refine (ce).use (Wp ?_)
 by_cases h0:Tw ds ps=0
 ·obtain ⟨e1,e2⟩:=bW h0
  have hE:LQ ds ps=Be ds ps ds.length:=by simp_all [LQ]
  rw [nM,hE,h0];refine Wp ?_;refine Zr (Weak.ofNil 7 1 (by simp (disch:=omega) only [go_sem,seval]) Zb (Weak.refl _ _ _)) ?_;refine Zg [17] _ _ _ _ (Wp ?_);refine Xc [17] [0,1,20,21] (fun k:Nat=> [(7,.sl 0 0 k k),(8,eA ds ps k),(22,.p (.int .i64 k))]) (fun k=> [.elems 1 ((YG (AJ ds ps) k).map eI)]) (fun k=>k<=ds.length/\Be ds ps k=0) (fun k=>ds.length-k) 0 ⟨Zb,rfl⟩ (Weak.mk ?_) ?_
  ·simp (disch:=omega) only [eA,YG,List.range_zero,Zo,go_sem,seval,↓reduceIte]
  ·rintro k ⟨hk,hf⟩;have hrl:(YG (AJ ds ps) k).length=k:=BT;refine Wp ?_;refine cD ?_ ?_<;>intro h<;>simp (disch:=omega) only [Sh.out h,go_sem,seval,↓reduceIte]
   ·have hk2:k<ds.length:=Za
    obtain ⟨a1,a2⟩:=hD _ (Zq hk2);obtain ⟨b1,b2⟩:=hP _ (Zq (show k<ps.length by omega));have ck:=Gu (nth ds k) (nth ps k) a1 a2 b1 b2
    have hfs:Be ds ps (k+1)=V2 (nth ds k) (nth ps k):=by rw [Be,hf];simp
    by_cases hz:V2 (nth ds k) (nth ps k)=0
    ·rw [Et,if_pos hz] at ck;rw [hz] at hfs;refine XH (Wp ?_);refine YT ck (Wp ?_);have hsn:=SU (f:=AJ ds ps) (n:=k)
     have hc1:(k+1)*8<=140737488355328:=Za
     have hc2:k<=140737488355327:=Za
     have hl1:eA ds ps (k+1)= .p (.list false ((US (nth ds k) (nth ps k)).map eI)):=by rfl
     refine cD ?_ ?_<;>intro h4<;>simp (disch:=omega) only [Sh.out h4,go_sem,seval,↓reduceIte]
     ·have hk0:k≠0:=Za
      have hlv:eA ds ps k= .p (.list false ((US (nth ds (k-1)) (nth ps (k-1))).map eI)):=by rw [eA,if_neg hk0]
      have hon:AJ ds ps k=(Is (nth ds k) (nth ds (k-1)) (US (nth ds k) (nth ps k)) (US (nth ds (k-1)) (nth ps (k-1))) (nth ds k).orders.length:Nat):=by rw [AJ,if_neg hk0]
      obtain ⟨d1,d2⟩:=hD _ (Zq (show k-1<ds.length by omega));have cc:=RF (nth ds k) (nth ds (k-1)) (US (nth ds k) (nth ps k)) (US (nth ds (k-1)) (nth ps (k-1))) false false Za Za Bn Bn
      have hix:((k:Int)-1).toNat=k-1:=Za
      refine XH ?_;simp (disch:=omega) only [hlv,hix,go_sem,seval];refine Zp (cc) (Wp ?_);rw [<- hon];simp (disch:=first | omega | (simp only [Zz,ZQ,Zw,Zv,ZE,ZK]<;>omega)) only [hrl,eq_self,hc1,hc2,and_self,go_sem,seval,↓reduceIte];exact ⟨k+1,⟨Za,hfs⟩,Za,Weak.mk (by simp (disch:=first | omega | (simp only [Zz,ZQ,Zw,Zv,ZE,ZK]<;>omega)) only [hsn,hl1,XY,ZG,Zo,go_sem,seval])⟩
     ·have hk0:k=0:=Za
      have hon:AJ ds ps k=0:=by rw [AJ,if_pos hk0]
      simp (disch:=first | omega | (simp only [Zz,ZQ,Zw,Zv,ZE,ZK]<;>omega)) only [hrl,eq_self,hc1,hc2,and_self,go_sem,seval,↓reduceIte];exact ⟨k+1,⟨Za,hfs⟩,Za,Weak.mk (by simp (disch:=first | omega | (simp only [Zz,ZQ,Zw,Zv,ZE,ZK]<;>omega)) only [hsn,hl1,hon,XY,ZG,Zo,go_sem,seval])⟩
    ·rw [Et,if_neg hz] at ck
     have hfe:Be ds ps ds.length=V2 (nth ds k) (nth ps k):=by grind [F5]
     rw [hfe,if_neg hz];refine XH (Wp ?_);refine YT ck (Wp ?_);refine cD ?_ ?_<;>intro h4<;>simp (disch:=omega) only [Sh.out h4,go_sem,seval]
     ·exact we
     ·omega
   ·have hkl:k=ds.length:=Za
    subst hkl;rw [if_pos hf];refine Zr (Weak.fz (o:=0) (by rfl)) ?_;refine Zg [] _ _ _ _ ?_;simp (disch:=omega) only [ZG,Zo,ZC,hrl,eq_self,go_sem,seval];exact we
 ·have hE:LQ ds ps=Tw ds ps:=by rw [LQ,if_pos h0]
  rw [nM,hE,if_neg h0];refine cD ?_ ?_<;>intro h3<;>simp (disch:=omega) only [Sh.out h3,go_sem,seval]
  ·exact we
  ·omega
end Go.Proofs.YtiigdaohjanidaaGreatDoor.K
