/- Declarations that the closing texts need, part 13: joined by tools/slim.py. -/
import Derived.Test.YtjkkdmeebhjaiaaGreatDoorH12
set_option linter.unusedVariables false
set_option linter.unusedSimpArgs false
namespace Go.Proofs.YtjkkdmeebhjaiaaGreatDoor.K
open Go Go.AM Go.Proofs
def EJ (x:Inst) (l:List Vis) (n i:Nat):Bool:=(l.take n).foldl (fun on v=>if v.order=(i:Int) then !v.drp else on) (decide ((nth x.orders i).pick.place<0))
theorem mT {x:Inst} {l:List Vis} {i:Nat} :EJ x l 0 i=decide ((nth x.orders i).pick.place<0):=by simp [EJ]
theorem Gw {x:Inst} {l:List Vis} {n i:Nat} (h:n<l.length):EJ x l (n+1) i=if (nth l n).order=(i:Int) then !(nth l n).drp else EJ x l n i:=by
 grind [EJ,X3,Zi]
structure SqOk (x:Inst) (l:List Vis):Prop where
 ne:l≠ []
 inr:Inr x l
 nd:l.Nodup
 pair: ∀v∈l,pairB x.orders l v=true
theorem VW {x:Inst} {l:List Vis} (h:Xf x l=0):SqOk x l:=by
 unfold Xf at h
 split at h
 ·simp at h
 ·rename_i h1
  split at h
  ·simp at h
  ·split at h
   ·simp at h
   ·rename_i h3
    split at h
    ·simp at h
    ·rename_i h4;refine ⟨fun e=>h1 (.inl (by simp [e])),fun v hv=> ?_,BY.1 (by grind),fun v hv=> ?_⟩
     ·grind [WJ]
     grind
structure OwnV (x:Inst) (l:List Vis) (i:Nat):Prop where
 pick:0<=(nth x.orders i).pick.place->(⟨i,false⟩:Vis)∈l
 drp:0<=(nth x.orders i).drp.place->(⟨i,true⟩:Vis)∈l
 both:0<=(nth x.orders i).pick.place->0<=(nth x.orders i).drp.place->vIx l ⟨i,false⟩<vIx l ⟨i,true⟩
 isP:(⟨i,false⟩:Vis)∈l->0<=(nth x.orders i).pick.place
 isD:(⟨i,true⟩:Vis)∈l->0<=(nth x.orders i).drp.place
theorem SqOk.own {x:Inst} {l:List Vis} (h:SqOk x l) {i:Nat} (hi: ∃v∈l,v.order=(i:Int)):OwnV x l i:=by
 obtain ⟨v0,hv0,ho⟩:=hi
 have key: ∀v∈l,v.order=(i:Int)->v∈ZV x.orders i/\Q7 l (-1) (ZV x.orders i)=true:=fun v hv hvo=>by
  have:=h.pair v hv;simp only [pairB,hvo,XD,Zv,Zq] at this;exact ⟨WH.1 this.1,this.2⟩
 obtain ⟨_,hasc⟩:=key v0 hv0 ho;have mem: ∀b:Bool,(⟨i,b⟩:Vis)∈l->(⟨i,b⟩:Vis)∈ZV x.orders i:=fun b hb=>(key _ hb rfl).1
 have hp:(⟨i,false⟩:Vis)∈ZV x.orders i->0<=(nth x.orders i).pick.place:=fun hm=>by
  unfold ZV at hm
  grind
 have hd:(⟨i,true⟩:Vis)∈ZV x.orders i->0<=(nth x.orders i).drp.place:=fun hm=>by
  unfold ZV at hm
  grind
 have m1: ∀v,-1<vIx l v->v∈l:=fun v hv=>WH.1 Za;unfold ZV at hasc
 by_cases c1:0<=(nth x.orders i).pick.place<;>by_cases c2:0<=(nth x.orders i).drp.place
 ·simp only [c1,c2,if_true,ZR,ZH,Q7,QR,Zv,Zq] at hasc;exact ⟨fun _=>m1 _ hasc.1,fun _=>m1 _ Za,fun _ _=>hasc.2,fun _=>c1,fun _=>c2⟩
 ·simp only [c1,c2,if_true,Yb,Yp,Q7,QR,Zq] at hasc;exact ⟨fun _=>m1 _ hasc,fun h=>absurd h c2,fun _ h=>absurd h c2,fun _=>c1,fun hm=>hd (mem _ hm)⟩
 ·simp only [c1,c2,if_true,Yb,ZH,Q7,QR,Zq] at hasc;exact ⟨fun h=>absurd h c1,fun _=>m1 _ hasc,fun h=>absurd h c1,fun hm=>hp (mem _ hm),fun _=>c2⟩
 ·exact ⟨fun h=>absurd h c1,fun h=>absurd h c2,fun h=>absurd h c1,fun hm=>hp (mem _ hm),fun hm=>hd (mem _ hm)⟩
theorem JR {l:List Vis} (hn:l.Nodup) {v:Vis} {n:Nat} :v∈l.take n↔0<=vIx l v/\vIx l v<(n:Int):=by
 constructor
 ·intro h;obtain ⟨j,h1,h2,rfl⟩:=QC h
  grind [Jo]
 ·intro ⟨h1,h2⟩;obtain ⟨h3,h4⟩:=Fp h1
  grind [K0]
theorem mR {x:Inst} {l:List Vis} (h:SqOk x l) (i:Nat): ∀n,n<=l.length->EJ x l n i=if (⟨i,true⟩:Vis)∈l.take n then false else if (⟨i,false⟩:Vis)∈l.take n then true else decide ((nth x.orders i).pick.place<0)
 | 0,_=>by simp [EJ]
 | n+1,hn=>by
  have hk:n<l.length:=Za
  have hat:=Jo h.nd hk;rw [Gw hk,mR h i n Za]
  by_cases c:(nth l n).order=(i:Int)
  ·rw [if_pos c];have ho:=h.own (i:=i) ⟨nth l n,Zu hk,c⟩
   cases hd:(nth l n).drp with
   | true =>
    have hv:nth l n=⟨i,true⟩:=by rw [<- c,<- hd]
    rw [hv] at hat;have:(⟨i,true⟩:Vis)∈l.take (n+1):=(JR h.nd).2 Za;rw [if_pos this];rfl
   | false =>
    have hv:nth l n=⟨i,false⟩:=by rw [<- c,<- hd]
    rw [hv] at hat;have h1:(⟨i,false⟩:Vis)∈l.take (n+1):=(JR h.nd).2 Za
    have h2: ¬(⟨i,true⟩:Vis)∈l.take (n+1):=fun hm=>by
     have h3:=Km hm;have h4:=(JR h.nd).1 hm;have h5:=ho.both (ho.isP (Km h1)) (ho.isD h3);omega
    rw [if_neg h2,if_pos h1];rfl
  ·rw [if_neg c]
   have e: ∀b:Bool,((⟨i,b⟩:Vis)∈l.take (n+1))=((⟨i,b⟩:Vis)∈l.take n):=fun b=>by
    rw [X3 hk,Xe,<- Zi hk];refine propext ⟨fun hm=>hm.resolve_right fun hm=> ?_,.inl⟩;simp at hm;exact c (by rw [<- hm])
   simp only [e]
theorem ZdH {x:Inst} {l:List Vis} (h:SqOk x l) {k i:Nat} (hk:k<l.length) (hi:(nth l k).order=(i:Int)):EJ x l k i=(nth l k).drp:=by
 have hat:=Jo h.nd hk;have ho:=h.own (i:=i) ⟨nth l k,Zu hk,hi⟩;have hm:=Zu hk;rw [mR h i k Za]
 cases hd:(nth l k).drp with
 | true =>
  have hv:nth l k=⟨i,true⟩:=by rw [<- hi,<- hd]
  rw [hv] at hat hm
  have h1: ¬(⟨i,true⟩:Vis)∈l.take k:=fun hm=>by have:=(JR h.nd).1 hm;omega
  rw [if_neg h1]
  by_cases c:0<=(nth x.orders i).pick.place
  ·have h2:=ho.both c (ho.isD hm);have h3:(⟨i,false⟩:Vis)∈l.take k:=(JR h.nd).2 ⟨WH.2 (ho.pick c),Za⟩
   grind
  grind
 | false =>
  have hv:nth l k=⟨i,false⟩:=by rw [<- hi,<- hd]
  rw [hv] at hat hm;have hp:=ho.isP hm
  have h1: ¬(⟨i,false⟩:Vis)∈l.take k:=fun hm=>by have:=(JR h.nd).1 hm;omega
  grind
theorem wB {f g:Nat->Int} {i:Nat} (h: ∀q,q≠i->f q=g q): ∀n,i<n->((List.range n).map f).sum=((List.range n).map g).sum+(f i-g i):=by
 have same: ∀n,n<=i->((List.range n).map f).sum=((List.range n).map g).sum:=fun n hn=>by
  grind [Wk]
 intro n
 induction n with
 | zero=>omega
 | succ n ih =>
  intro hi;simp only [Yh,Xy,Zt,Zk,List.sum_append,List.sum_cons,List.sum_nil]
  grind
theorem TH {f:Nat->Int} {b:Int} (hb:0<=b) (h: ∀q,0<=f q/\f q<=b): ∀n:Nat,0<=((List.range n).map f).sum/\((List.range n).map f).sum<=b*n
 | 0=>Zb
 | n+1=>by
  have ih:=TH hb h n
  grind [Yh]
theorem Ku {p:Nat->Bool} {f:Nat->Int} : ∀l:List Nat,((l.filter p).map f).sum=(l.map fun i=>if p i=true then f i else 0).sum
 | []=>rfl
 | a::l=>by
  rw [E5,Zt,List.sum_cons]
  by_cases h:p a=true
  ·rw [if_pos h,Zt,List.sum_cons,Ku l,if_pos h]
  ·rw [if_neg h,Ku l,if_neg h];omega
def Dn (x:Inst) (l:List Vis) (n j:Nat):Int:=((List.range x.orders.length).map fun i=>if (EJ x l n i&&hasO l i)=true then nth (nth x.orders i).load j else 0).sum
theorem IK {x:Inst} {l:List Vis} (h:SqOk x l) {k j:Nat} (hk:k<l.length):Dn x l (k+1) j=if (nth l k).drp=true then Dn x l k j-nth (nth x.orders (nth l k).order.toNat).load j else Dn x l k j+nth (nth x.orders (nth l k).order.toNat).load j:=by
 obtain ⟨v1,v2⟩:=h.inr _ (Zu hk);obtain ⟨i,hi⟩: ∃i:Nat,(nth l k).order=(i:Int):=⟨(nth l k).order.toNat,Za⟩;have hh:hasO l (i:Int)=true:=Vf.2 ⟨_,Zu hk,hi⟩;have h1:=ZdH h hk hi
 have h2:EJ x l (k+1) i= !(nth l k).drp:=by simp_all [Gw]
 unfold Dn
 rw [wB (f:=fun i=>if (EJ x l (k+1) i&&hasO l i)=true then nth (nth x.orders i).load j else 0) (g:=fun i=>if (EJ x l k i&&hasO l i)=true then nth (nth x.orders i).load j else 0) (i:=i) (fun q hq=>by
  have:EJ x l (k+1) q=EJ x l k q:=by rw [Gw hk,if_neg Za]
  grind) x.orders.length Za]
 grind
def Y2 (x:Inst) (l:List Vis) (n:Nat):List Int:=(List.range (dimsOf x.types).toNat).map fun j=>Dn x l n j
def Fx (a b:List Int):List Int:=(List.range a.length).map fun j=>nth a j+nth b j
def vY (a b:List Int):List Int:=(List.range a.length).map fun j=>nth a j-nth b j
theorem Fy {x:Inst} {l:List Vis} {n:Nat} :(Y2 x l n).length=(dimsOf x.types).toNat:=by simp [Y2]
theorem K4 {f:Nat->Int} {n j:Nat} (h:j<n):nth ((List.range n).map f) j=f j:=by
 grind [Zi]
theorem TY {x:Inst} {l:List Vis} (h:SqOk x l) {k:Nat} (hk:k<l.length):Y2 x l (k+1)=if (nth l k).drp=true then vY (Y2 x l k) (nth x.orders (nth l k).order.toNat).load else Fx (Y2 x l k) (nth x.orders (nth l k).order.toNat).load:=by
 have key: ∀g:Nat->Int,(∀j,j<(dimsOf x.types).toNat->Dn x l (k+1) j=g j)->Y2 x l (k+1)=(List.range (dimsOf x.types).toNat).map g:=fun g hg =>
  Wk fun j hj=>hg j (ZO.1 hj)
 split
 ·simp_all [vY,IK,Y2,K4]
 simp_all [Fx,IK,Y2,K4]
set_option maxRecDepth 8000
section
variable {σ : Type}
def Bo (nx:List Vis->List Vis):Nat->List Vis->List (List Vis)
 | 0,l=> [l]
 | f+1,l=>if nx l= [] then [l] else (nx l).flatMap fun v=>Bo nx f (l++ [v])
def lvW (nx:List Vis->List Vis) (go:σ->Vis->σ) (emp:σ->Bool):Nat->List Vis->σ->List (List Vis)
 | 0,l,_=> [l]
 | f+1,l,s=>(nx l).flatMap fun v=>if emp (go s v)=true then [] else lvW nx go emp f (l++ [v]) (go s v)
theorem S4 {nx:List Vis->List Vis} : ∀(f:Nat) (l m:List Vis),m∈Bo nx f l-> ∃r,m=l++r
 | 0,l,m,h=>by simp_all [Bo]
 | f+1,l,m,h=>by
  rw [Bo] at h
  split at h
  ·simp_all
  ·obtain ⟨v,_,h⟩:=X0.1 h;obtain ⟨r,rfl⟩:=S4 f _ m h;simp
theorem UI {α β:Type} {p:β->Bool} {g:α->List β} : ∀l:List α,(l.flatMap g).filter p=l.flatMap fun a=>(g a).filter p
 | []=>rfl
 | a::l=>by rw [UM,UM,List.filter_append,UI l]
theorem Cp {α β:Type} {g h:α->List β} : ∀ {l:List α},(∀a∈l,g a=h a)->l.flatMap g=l.flatMap h
 | [],_=>rfl
 | a::l,e=>by rw [UM,UM,e a Zb,Cp fun b hb=>e b (Yo _ hb)]
theorem yE {nx:List Vis->List Vis} {go:σ->Vis->σ} {emp:σ->Bool} {ok:List Vis->Bool} {G:List Vis->Prop} {R:List Vis->σ->Prop} {tot:Nat}
  (hG: ∀l v,G l->v∈nx l->G (l++ [v])) (hR: ∀l s v,G l->R l s->v∈nx l->R (l++ [v]) (go s v)) (hE: ∀l s,G l->R l s->emp s=true-> ∀r,ok (l++r)=false)
  (hN: ∀l,G l->l.length<tot->nx l≠ []): ∀(f:Nat) (l:List Vis) (s:σ),G l->R l s->l.length+f=tot->(Bo nx f l).filter ok=(lvW nx go emp f l s).filter ok
 | 0,l,s,_,_,_=>rfl
 | f+1,l,s,hl,hs,ht=>by
  rw [Bo,lvW,if_neg (hN l hl Za),UI,UI];refine Cp fun v hv=> ?_;have h1:=hG l v hl hv;have h2:=hR l s v hl hs hv
  split
  ·rename_i he;rw [List.filter_nil,List.filter_eq_nil_iff];intro m hm;obtain ⟨r,rfl⟩:=S4 f _ m hm
   grind
  ·exact yE hG hR hE hN f _ _ h1 h2 (by simp;omega)
def XJ (ok:List Vis->Bool) (col:List Vis->Col) (better:Col->Col->Bool) (b:Col×Bool) (l:List Vis):Col×Bool:=if ok l=true/\(b.2=false\/better (col l) b.1=true) then (col l,true) else b
theorem Q0 {ok:List Vis->Bool} {col:List Vis->Col} {better:Col->Col->Bool} : ∀(L:List (List Vis)) (b:Col×Bool),L.foldl (XJ ok col better) b=(L.filter ok).foldl (XJ ok col better) b
 | [],b=>rfl
 | l::L,b=>by
  rw [XS,E5]
  split
  ·rw [XS];exact Q0 L _
  ·rename_i h;rw [XJ,if_neg (fun g=>h g.1)];exact Q0 L b
theorem G5 {ok:List Vis->Bool} {col:List Vis->Col} {better:Col->Col->Bool} : ∀(L:List (List Vis)) (c c':Col),(L.foldl (XJ ok col better) (c,false)).2=(L.foldl (XJ ok col better) (c',false)).2/\((L.foldl (XJ ok col better) (c,false)).2=true->(L.foldl (XJ ok col better) (c,false)).1=(L.foldl (XJ ok col better) (c',false)).1)
 | [],c,c'=>⟨rfl,fun h=>by cases h⟩
 | l::L,c,c'=>by
  rw [XS,XS]
  by_cases h:ok l=true
  ·rw [XJ,if_pos ⟨h,.inl rfl⟩,XJ,if_pos ⟨h,.inl rfl⟩];simp
  ·rw [XJ,if_neg (fun g=>h g.1),XJ,if_neg (fun g=>h g.1)];exact G5 L c c'
end
set_option maxRecDepth 60000
set_option maxHeartbeats 8000000
def Fu (x:Inst) (n:Int):Prop:=x.orders.length<=n/\x.types.length<=2/\x.net.places.length<=6/\x.net.arcs.length<=40/\x.apart.length<=4/\x.before.length<=4/\InstOk x
theorem HT (x:Inst) (hw:x.wf 1048576) (n:Int) (b:Bool) (hb:b=true↔Fu x n):PC 18 [.p (Zs x),.p (.int .i64 n)] (.bool b):=by
 have w1:=hw.1.1;have w2:=hw.1.2.2.1;have w3:=hw.2.1;have w4:=hw.2.2.2.1;have w5:=hw.2.2.2.2.2.1;have w6:=hw.2.2.2.2.2.2.2.1
 suffices hh:ACalls Tryz.prog 18 [.p (Zs x),.p (.int .i64 n)] [] fun y H'=> ∃b:Bool,(b=true↔Fu x n)/\y= .p (.bool b)/\H'= [] by
  grind
 refine ACalls.pureE (Y1 Tryz.func18 rfl Zi8 (Zh [] _ _ _ _ ?_));simp (disch:=omega) only [Tryz.f18,go_sem,seval];refine gT ?_ ?_<;>intro h1<;>simp (disch:=omega) only [Sh.out h1,go_sem,seval,↓reduceIte]
 ·refine gT ?_ ?_<;>intro h2<;>simp (disch:=omega) only [Sh.out h2,go_sem,seval,↓reduceIte]
  ·refine gT ?_ ?_<;>intro h3<;>simp (disch:=omega) only [Sh.out h3,go_sem,seval,↓reduceIte]
   ·refine gT ?_ ?_<;>intro h4<;>simp (disch:=omega) only [Sh.out h4,go_sem,seval,↓reduceIte]
    ·refine gT ?_ ?_<;>intro h5<;>simp (disch:=omega) only [Sh.out h5,go_sem,seval,↓reduceIte]
     ·refine gT ?_ ?_<;>intro h6<;>simp (disch:=omega) only [Sh.out h6,go_sem,seval,↓reduceIte]
      ·refine ((ZaB x hw).frozenE).useV fun m hm=> ?_;refine Zd ?_;refine ⟨decide (m.length=0),?_,Zb⟩;have:=hm.emp;rw [Zq,E0,this];exact ⟨fun h=>⟨Za,Za,Za,Za,Za,Za,h⟩,fun h=>h.2.2.2.2.2.2⟩
      ·exact ⟨false,by simp [Fu];omega,rfl⟩
     ·exact ⟨false,by simp [Fu];omega,rfl⟩
    ·exact ⟨false,by simp [Fu];omega,rfl⟩
   ·exact ⟨false,by simp [Fu];omega,rfl⟩
  ·exact ⟨false,by simp [Fu];omega,rfl⟩
 ·exact ⟨false,by simp [Fu];omega,rfl⟩
def Jn (l:List Pt) (t:Int) (i:Nat):Bool:=decide ((nth l i).t<=t)&&decide (t<(nth l (i+1)).t)
def HA (p q:Pt) (t:Int):Int:=p.a+((t-p.t)*(q.a-p.a)+q.t-p.t-1) / (q.t-p.t)
def JX (l:List Pt) (t:Int):Int:=match (List.range (l.length-1)).find? (Jn l t) with
 | some i=>HA (nth l i) (nth l (i+1)) t
 | none=>if (nth l 0).t<t then t+(nth l (l.length-1)).a-(nth l (l.length-1)).t else t+(nth l 0).a-(nth l 0).t
theorem Lb {l:List Pt} {t:Int} {i:Nat} (hi:i+1<l.length) (hno: ∀j,j<i->Jn l t j=false) (h:Jn l t i=true):JX l t=HA (nth l i) (nth l (i+1)) t:=by
 have:(List.range (l.length-1)).find? (Jn l t)=some i:=by
  grind [EV]
 rw [JX,this]
theorem EO {l:List Pt} {t:Int} (hno: ∀j,j+1<l.length->Jn l t j=false):JX l t=if (nth l 0).t<t then t+(nth l (l.length-1)).a-(nth l (l.length-1)).t else t+(nth l 0).a-(nth l 0).t:=by
 grind [JX]
theorem GU {p q:Pt} {t:Int} (h1:p.t<=t) (h2:t<q.t) (hp:0<=p.t) (hq:q.t<=4096) (ha:p.a<=q.a) (hpa:0<=p.a) (hqa:q.a<=8192):0<=(t-p.t)*(q.a-p.a)/\(t-p.t)*(q.a-p.a)<=33554432:=by
 refine ⟨UP Za Za,?_⟩;have:(t-p.t)*(q.a-p.a)<=4096*8192:=VP Za Za Za Za;omega
theorem Pn (l:List Pt) (c:Bool) (t:Int) (hl:Vh l) (ht:0<=t/\t<=1073741824):PC 297 [.p (.list c (l.map HO)),.p (.int .i64 t)] (.int .i64 (JX l t)):=by
 obtain ⟨⟨hl1,hl2⟩,hpt⟩:=hl;refine Zc Tryz.func297 rfl Zds ?_;simp (disch:=omega) only [Tryz.f297,go_sem,seval];refine ((iV l c Za).frozenE).useV fun m hm=>Zd ?_
 have hm0:m.length=0:=by rw [hm.emp.2 ⟨⟨hl1,hl2⟩,hpt⟩];rfl
 have e1: ¬t<0:=Za
 have e2: ¬ 1073741824<t:=Za
 simp (disch:=omega) only [hm0,e1,e2,go_sem,seval];refine Zl [0,1] (fun k:Nat=> [(5,.p (.int .i64 k))]) (fun _=> []) (fun k=>k<l.length/\ ∀j,j<k->Jn l t j=false) (fun k=>l.length-k) 0 (by simp;omega) (Weak.mk ?_) ?_
 ·simp (disch:=omega) only [go_sem,seval,↓reduceIte]
 ·rintro k ⟨hk,hno⟩;refine Zd ?_;refine cD ?_ ?_<;>intro h<;>simp (disch:=omega) only [Sh.out h,go_sem,seval,↓reduceIte]
  ·have hk2:k+1<l.length:=Za
   obtain ⟨⟨p1,p2,p3,p4⟩,_⟩:=hpt k hk;obtain ⟨⟨q1,q2,q3,q4⟩,q5⟩:=hpt (k+1) hk2;obtain ⟨r1,r2⟩:=q5 Za;rw [Nat.add_sub_cancel] at r1 r2;refine gT ?_ ?_<;>intro h2<;>simp (disch:=omega) only [Sh.out h2,go_sem,seval,↓reduceIte]
   ·refine cD ?_ ?_<;>intro h3<;>simp (disch:=omega) only [Sh.out h3,go_sem,seval,↓reduceIte]
    ·have hsg:Jn l t k=true:=by simp [Jn,h2,h3]
     rw [Lb hk2 hno hsg];obtain ⟨s1,s2⟩:=GU h2 h3 p1 q2 r2 Za Za;have d1:0<=((t-(nth l k).t)*((nth l (k+1)).a-(nth l k).a)+(nth l (k+1)).t-(nth l k).t-1) / ((nth l (k+1)).t-(nth l k).t):=Int.ediv_nonneg Za Za;have d2:((t-(nth l k).t)*((nth l (k+1)).a-(nth l k).a)+(nth l (k+1)).t-(nth l k).t-1) / ((nth l (k+1)).t-(nth l k).t)<=33558528:=AS (Int.ediv_le_self _ Za) Za
     have d3: ¬(nth l (k+1)).t-(nth l k).t=0:=Za
     simp only [HA];refine Xj ?_;simp (disch:=omega) only [go_sem,seval,↓reduceIte]
    ·have hsg:Jn l t k=false:=by simp [Jn,h3]
     exact ⟨k+1,⟨Za,Zr.2 ⟨hno,hsg⟩⟩,Za,wk⟩
   ·have hsg:Jn l t k=false:=by simp [Jn,h2]
    exact ⟨k+1,⟨Za,Zr.2 ⟨hno,hsg⟩⟩,Za,wk⟩
  ·have hkl:k+1=l.length:=Za
   rw [EO (fun j hj=>hno j Za)];obtain ⟨⟨p1,p2,p3,p4⟩,_⟩:=hpt 0 Za;obtain ⟨⟨q1,q2,q3,q4⟩,_⟩:=hpt (l.length-1) Za
   have i1:((l.length:Int)-1).toNat=l.length-1:=Za
   refine cD ?_ ?_<;>intro h2<;>simp (disch:=omega) only [Sh.out h2,go_sem,seval,↓reduceIte]
theorem Z2 {α:Type} [Inhabited α] {l:List α} {i:Nat} (h:i<l.length):nth l i∈l:=by grind [Zi]
def rA (a:Arc):Prop:=Vh a.travel/\a.slow.length<=16/\ ∀p∈a.slow,0<=p.t/\p.t<=4096/\0<=p.a/\p.a<=4096
def KF (l:List Pt) (t:Int) (k:Nat):Int:=(l.take k).foldl (fun s p=>if p.t<=t then s+p.a else s) 0
def La (a:Arc) (t:Int):Int:=JX a.travel t+KF a.slow t a.slow.length
theorem BU {l:List Pt} {t:Int} {k:Nat} (h:k<l.length):KF l t (k+1)=if (nth l k).t<=t then KF l t k+(nth l k).a else KF l t k:=by
 grind [KF,X3,Zi]
theorem JN {l:List Pt} {t:Int} (hl: ∀p∈l,0<=p.a/\p.a<=4096): ∀k,k<=l.length->0<=KF l t k/\KF l t k<=4096*k
 | 0,_=>by simp [KF]
 | k+1,h=>by
  have ih:=JN (t:=t) hl k Za
  grind [Z2,BU]
theorem FE {l:List Pt} {t:Int} (hl:Vh l) (ht:0<=t/\t<=1073741824):0<=JX l t/\JX l t<=1107304448:=by
 obtain ⟨⟨hl1,hl2⟩,hpt⟩:=hl;unfold JX
 split
 ·rename_i i hi;have hm:=Jf hi;have hs:=Kg hi;simp at hm;simp only [Jn,Zv,Zq] at hs;obtain ⟨⟨p1,p2,p3,p4⟩,_⟩:=hpt i Za;obtain ⟨⟨q1,q2,q3,q4⟩,q5⟩:=hpt (i+1) Za;obtain ⟨r1,r2⟩:=q5 Za;rw [Nat.add_sub_cancel] at r1 r2;obtain ⟨s1,s2⟩:=GU hs.1 hs.2 p1 q2 r2 Za Za;have d1:0<=((t-(nth l i).t)*((nth l (i+1)).a-(nth l i).a)+(nth l (i+1)).t-(nth l i).t-1) / ((nth l (i+1)).t-(nth l i).t):=Int.ediv_nonneg Za Za;have d2:((t-(nth l i).t)*((nth l (i+1)).a-(nth l i).a)+(nth l (i+1)).t-(nth l i).t-1) / ((nth l (i+1)).t-(nth l i).t)<=33558528:=AS (Int.ediv_le_self _ Za) Za
  unfold HA;omega
 ·obtain ⟨⟨p1,p2,p3,p4⟩,_⟩:=hpt 0 Za;obtain ⟨⟨q1,q2,q3,q4⟩,_⟩:=hpt (l.length-1) Za;omega
theorem Po (a:Arc) (t:Int) (ha:rA a) (ht:0<=t/\t<=1073741824):PC 295 [.p (V1 a),.p (.int .i64 t)] (.int .i64 (La a t)):=by
 obtain ⟨h1,h2,h3⟩:=ha;have hr:=FE h1 ht;have hs:=JN (t:=t) (fun p hp=>(h3 p hp).2.2);refine Zc Tryz.func295 rfl Zdq ?_;simp (disch:=omega) only [Tryz.f295,go_sem,seval];refine (Pn a.travel a.travel_c t h1 ht).use (Zd ?_);refine Zl [1,2] (fun k:Nat=> [(5,.p (.int .i64 (JX a.travel t+KF a.slow t k))),(6,.p (.int .i64 k))]) (fun _=> [Vm a]) (fun k=>k<=a.slow.length) (fun k=>a.slow.length-k) 0 Zb (Weak.mk ?_) ?_
 ·simp (disch:=omega) only [Vm,KF,UQ,go_sem,seval];simp
 ·intro k hk;have hsk:=hs k hk;simp (disch:=omega) only [Vm,go_sem,seval];refine cD ?_ ?_<;>intro h<;>simp (disch:=omega) only [Sh.out h,go_sem,seval,↓reduceIte]
  ·have hk2:k<a.slow.length:=Za
   have hp:=h3 _ (Z2 hk2);have hsn:=BU (t:=t) hk2;refine Z0 ?_ ?_<;>intro h4
   ·rw [if_pos h4] at hsn;exact ⟨k+1,Za,Za,Weak.mk (by simp (disch:=omega) only [hsn,Int.add_assoc,go_sem,seval])⟩
   ·rw [if_neg h4] at hsn;exact ⟨k+1,Za,Za,Weak.mk (by simp (disch:=omega) only [hsn,go_sem,seval])⟩
  grind [La]
theorem OY {g:FuncId} {args:List V} {a b c:PV} {H:List AM.Obj} {K:V->List AM.Obj->Prop} (h:ACalls Tryz.prog g args [] fun x H'=>x= .tup [.p a,.p b,.p c]/\H'= []) (k:K (.tup [.p a,.p b,.p c]) H) (ha:Xu 0 args=true:=by rfl):ACalls Tryz.prog g args H K :=
 (h.behind ha H).mono fun x H' hq=>by
  obtain ⟨y,H1,⟨rfl,rfl⟩,rfl,rfl⟩:=hq
  grind [shV,shVs]
theorem Yn {g:FuncId} {args:List V} {a b:PV} {H:List AM.Obj} {K:V->List AM.Obj->Prop} (h:ACalls Tryz.prog g args [] fun x H'=>x= .tup [.p a,.p b]/\H'= []) (k:K (.tup [.p a,.p b]) H) (ha:Xu 0 args=true:=by rfl):ACalls Tryz.prog g args H K :=
 (h.behind ha H).mono fun x H' hq=>by
  obtain ⟨y,H1,⟨rfl,rfl⟩,rfl,rfl⟩:=hq
  grind [shV,shVs]
def K8 (n:Net) (p:Int):Bool:=decide (0<=p)&&decide (p<(n.places.length:Int))
theorem Iw (n:Net) (p:Int) (hn:n.places.length<=1048576):PC 293 [.p (Cj n),.p (.int .i64 p)] (.bool (K8 n p)):=by
 refine Zc Tryz.func293 rfl Zdo ?_;simp (disch:=omega) only [Tryz.f293,go_sem,seval];refine gT ?_ ?_<;>intro h<;>simp (disch:=omega) only [Sh.out h,go_sem,seval,↓reduceIte]
 ·simp [K8,h]
 ·simp [K8,h]
def VH (pr f t:Int) (a:Arc):Bool:=decide (a.src=f)&&decide (a.dst=t)&&decide (a.prof=pr)
def Um : Arc:=⟨0,0,0,0,true,[],true,[]⟩
def W7 (n:Net) (pr f t:Int):Arc×Bool:=match n.arcs.find? (VH pr f t) with | some a=>(a,true) | none=>(Um,false)
theorem Np {n:Net} {pr f t:Int} {k:Nat} (hk:k<n.arcs.length) (hno: ∀j,j<k->VH pr f t (nth n.arcs j)=false) (h:VH pr f t (nth n.arcs k)=true):W7 n pr f t=(nth n.arcs k,true):=by
 have:n.arcs.find? (VH pr f t)=some (nth n.arcs k):=by
  grind [EV,Zi]
 rw [W7,this]
theorem Nq {n:Net} {pr f t:Int} (hno: ∀j,j<n.arcs.length->VH pr f t (nth n.arcs j)=false):W7 n pr f t=(Um,false):=by
 have:n.arcs.find? (VH pr f t)=none:=by
  rw [Kb];intro a ha;obtain ⟨j,hj,rfl⟩:=ZU.1 ha
  grind [Zi]
 rw [W7,this]
theorem jT (n:Net) (pr f t:Int) (hn:n.arcs.length<=1048576):PT 294 [.p (Cj n),.p (.int .i64 pr),.p (.int .i64 f),.p (.int .i64 t)] [.p (V1 (W7 n pr f t).1),.p (.bool (W7 n pr f t).2)]:=by
 refine Ze [] Tryz.func294 rfl Zdp ?_;simp (disch:=omega) only [Tryz.f294,go_sem,seval];refine Zl [1,2,3,4,8] (fun k:Nat=> [(10,.p (.int .i64 k))]) (fun _=>Z8 n++ [Vm Um]) (fun k=>k<=n.arcs.length/\ ∀j,j<k->VH pr f t (nth n.arcs j)=false) (fun k=>n.arcs.length-k) 0 Zb (Weak.mk ?_) ?_
 ·simp (disch:=omega) only [Z8,Vm,Um,Zk,ZR,ZH,go_sem,seval]
 ·rintro k ⟨hk,hno⟩;simp (disch:=omega) only [Z8,Vm,Um,Zk,ZR,ZH,go_sem,seval];refine cD ?_ ?_<;>intro h<;>simp (disch:=omega) only [Sh.out h,go_sem,seval,↓reduceIte]
  ·have hk2:k<n.arcs.length:=Za
   have nx:VH pr f t (nth n.arcs k)=false-> ∀j,j<k+1->VH pr f t (nth n.arcs j)=false:=fun h=>Zr.2 ⟨hno,h⟩;refine Jv ?_ ?_<;>intro h1
   ·refine Jv ?_ ?_<;>intro h2
    ·refine Z0 ?_ ?_<;>intro h3
     ·have e:=Np hk2 hno (by grind [VH]);rw [e];exact we
     ·exact ⟨k+1,⟨Za,nx (by simp [VH,h3])⟩,Za,wk⟩
    ·exact ⟨k+1,⟨Za,nx (by simp [VH,h2])⟩,Za,wk⟩
   ·exact ⟨k+1,⟨Za,nx (by simp [VH,h1])⟩,Za,wk⟩
  ·have hkn:k=n.arcs.length:=Za
   subst hkn;rw [Nq hno];exact we (by simp (disch:=omega) only [Um,Zk,go_sem,seval])
def W8 (n:Net) (pr f t τ:Int):Int×Int×Int :=
 if (K8 n f&&K8 n t)=false then (0,0,11) else if f=t then (τ,0,0) else if (W7 n pr f t).2=true then (La (W7 n pr f t).1 τ,(W7 n pr f t).1.miles,0) else (0,0,12)
def netR (n:Net):Prop:=n.places.length<=1048576/\n.arcs.length<=1048576/\ ∀a∈n.arcs,rA a
theorem Ax {n:Net} {pr f t:Int} (h:(W7 n pr f t).2=true):(W7 n pr f t).1∈n.arcs:=by
 grind [W7]
theorem ZaQ (n:Net) (pr f t τ:Int) (hn:netR n) (hτ:0<=τ/\τ<=1073741824):PT 291 [.p (Cj n),.p (.int .i64 pr),.p (.int .i64 f),.p (.int .i64 t),.p (.int .i64 τ)] [.p (.int .i64 (W8 n pr f t τ).1),.p (.int .i64 (W8 n pr f t τ).2.1),.p (.int .i64 (W8 n pr f t τ).2.2)]:=by
 refine Ze [] Tryz.func291 rfl Zdm ?_;simp (disch:=omega) only [Tryz.f291,go_sem,seval];refine (Iw n f hn.1).use (Zd ?_);refine gF ?_ ?_<;>intro h1<;>simp (disch:=omega) only [Sh.out h1,go_sem,seval,↓reduceIte]
 ·have e:W8 n pr f t τ=(0,0,11):=by grind [W8]
  rw [e];exact we
 ·simp only [XR] at h1;refine (Iw n t hn.1).use (Zd ?_);refine cD ?_ ?_<;>intro h2<;>simp (disch:=omega) only [Sh.out h2,go_sem,seval]
  ·have e:W8 n pr f t τ=(0,0,11):=by grind [W8]
   rw [e];exact we
  ·simp only [XR] at h2;refine cD ?_ ?_<;>intro h3<;>simp (disch:=omega) only [Sh.out h3,go_sem,seval,↓reduceIte]
   ·have e:W8 n pr f t τ=(τ,0,0):=by grind [W8]
    rw [e];exact we
   ·have cf:=jT n pr f t hn.2.1;have hm:= @Ax n pr f t
    have e0:W8 n pr f t τ=if (W7 n pr f t).2=true then (La (W7 n pr f t).1 τ,(W7 n pr f t).1.miles,0) else (0,0,12):=by grind [W8]
    rw [e0];generalize W7 n pr f t=A at cf hm ⊢;obtain ⟨a,b⟩:=A;simp only at cf hm ⊢;refine Yn cf (Zd ?_);refine cD ?_ ?_<;>intro h4<;>simp (disch:=omega) only [Sh.out h4,go_sem,seval]
    ·have hb:b=false:=by grind
     subst hb;exact we (by simp (disch:=omega) only [go_sem,seval,↓reduceIte])
    ·have hb:b=true:=by grind
     subst hb;refine Xj (Zd ?_);refine Zo (Po a τ (hn.2.2 a (hm rfl)) hτ) (Zd ?_);exact we
theorem wN (x:Inst) (pr f t τ:Int) (hn:netR x.net) (hτ:0<=τ/\τ<=1073741824):PT 289 [.p (Zs x),.p (.int .i64 pr),.p (.int .i64 f),.p (.int .i64 t),.p (.int .i64 τ)] [.p (.int .i64 (W8 x.net pr f t τ).1),.p (.int .i64 (W8 x.net pr f t τ).2.1),.p (.bool (decide ((W8 x.net pr f t τ).2.2=0)))]:=by
 refine Ze [] Tryz.func289 rfl Zdk ?_;simp (disch:=omega) only [Tryz.f289,go_sem,seval];refine OY (ZaQ x.net pr f t τ hn hτ) (Zd ?_);exact we
structure StD where
 place:Int
 time:Int
 driven:Int
 miles:Int
def jL (s:StD):PV:= .agg [.int .i64 s.place,.int .i64 s.time,.int .i64 s.driven,.int .i64 s.miles]
@[go_sem] theorem Zmo (s:StD):jL s= .agg [.int .i64 s.place,.int .i64 s.time,.int .i64 s.driven,.int .i64 s.miles]:=Zm rfl rfl
def GK (t:Typ) (s:StD) (b:Bool):StD:=if b=true then { s with time:=s.time+t.rest,driven:=0 } else s
theorem Oj (t:Typ) (s:StD) (b:Bool) (hb: -1099511627776<=s.time/\s.time<=1099511627776/\ -1099511627776<=t.rest/\t.rest<=1099511627776):PC 277 [.p (X7 t),.p (jL s),.p (.bool b)] (jL (GK t s b)):=by
 refine Zc Tryz.func277 rfl Zc8 ?_
 cases b with
 | true=>simp (disch:=omega) only [Tryz.f277,GK,go_sem,seval,↓reduceIte]
 | false=>simp (disch:=omega) only [Tryz.f277,GK,Y6,go_sem,seval,↓reduceIte]
def JP (x:Inst) (t:Typ) (s:StD) (to cl late:Int):StD×Int :=
 if ¬(W8 x.net t.prof s.place to s.time).2.2=0 then (s,12)
 else if cl<(W8 x.net t.prof s.place to s.time).1 then (s,late)
 else if t.drive<s.driven+(W8 x.net t.prof s.place to s.time).1-s.time then (s,16)
 else (⟨to,(W8 x.net t.prof s.place to s.time).1,s.driven+(W8 x.net t.prof s.place to s.time).1-s.time,s.miles+(W8 x.net t.prof s.place to s.time).2.1⟩,0)
def fR (n:Int):Prop:= -1099511627776<=n/\n<=1099511627776
theorem OO (x:Inst) (t:Typ) (s:StD) (to cl late:Int) (hn:netR x.net) (hs:0<=s.time/\s.time<=1073741824) (hd:fR s.driven) (hm:fR s.miles) (hg:fR (W8 x.net t.prof s.place to s.time).1/\fR (W8 x.net t.prof s.place to s.time).2.1) :
  PT 278 [.p (Zs x),.p (X7 t),.p (jL s),.p (.int .i64 to),.p (.int .i64 cl),.p (.int .i64 late)] [.p (jL (JP x t s to cl late).1),.p (.int .i64 (JP x t s to cl late).2)]:=by
 have cw:=wN x t.prof s.place to s.time hn hs;unfold JP;generalize W8 x.net t.prof s.place to s.time=g at cw hg ⊢;obtain ⟨a,m,e⟩:=g;unfold fR at hd hm hg;simp only at cw hg ⊢;refine Ze [] Tryz.func278 rfl Zc9 ?_;simp (disch:=omega) only [Tryz.f278,go_sem,seval];refine OY cw (Zd ?_);refine cD ?_ ?_<;>intro h1<;>simp (disch:=omega) only [Sh.out h1,go_sem,seval,↓reduceIte]
 ·exact we
 ·rw [if_neg h1];refine cD ?_ ?_<;>intro h2<;>simp (disch:=omega) only [Sh.out h2,go_sem,seval,↓reduceIte]
  ·exact we
  ·rw [if_neg h2];refine cD ?_ ?_<;>intro h3<;>simp (disch:=omega) only [Sh.out h3,go_sem,seval,↓reduceIte]
   ·exact we
   ·exact we
structure Lab where
 ready:Int
 since:Int
 she:She
 deriving Inhabited
def zShe : She:=⟨false,0,true,[],0,0⟩
def W6 : Lab:=⟨0,0,zShe⟩
def ZN (t:Typ) (L:Lab) (b:Bool):Int:=if b=true then L.ready+t.rest else L.ready
def W4 (L:Lab) (b:Bool):Int:=if b=true then 0 else L.since
def S6 (l:List Tim) (k:Nat) (d:Int) (b:Bool):List Tim:=l.set k { nth l k with dep:=d,rest:=b }
def X4 (k:Nat) (d:Int) (b:Bool) (s:She):She:=if k=0 then { s with rest:=b,dep:=d } else { s with times:=S6 s.times (k-1) d b }
def Ug (t:Typ) (sp:List Stp) (k:Nat):Int:=if k=0 then t.src else (nth sp (k-1)).place
def Pa (t:Typ) (sp:List Stp) (k:Nat):Int:=if k=sp.length then t.dst else (nth sp k).place
def Y9 (x:Inst) (t:Typ) (sp:List Stp) (k:Nat) (d:Int):Int×Int×Int:=W8 x.net t.prof (Ug t sp k) (Pa t sp k) d
def WL (t:Typ) (sp:List Stp) (k:Nat) (g:Int×Int×Int) (d s:Int) (h:She):Lab×Int :=
 if ¬g.2.2=0 then (W6,12)
 else if k=sp.length then
  if t.cls<g.1 then (W6,15) else if t.drive<s+g.1-d then (W6,16)
  else (⟨g.1,s+g.1-d,{ h with fin:=g.1,miles:=h.miles+g.2.1 }⟩,0)
 else if (nth sp k).cls<max g.1 (nth sp k).opn then (W6,14)
 else if t.drive<s+g.1-d then (W6,16)
 else (⟨max g.1 (nth sp k).opn+(nth sp k).serv,s+g.1-d,{ h with times_c:=false,times:=h.times++ [⟨g.1,max g.1 (nth sp k).opn,0,false⟩],miles:=h.miles+g.2.1 }⟩,0)
def nxtF (x:Inst) (t:Typ) (sp:List Stp) (k:Nat) (L:Lab) (b:Bool):Lab×Int :=
 WL t sp k (Y9 x t sp k (ZN t L b)) (ZN t L b) (W4 L b) (X4 k (ZN t L b) b L.she)
def Xt (x:Inst) (t:Typ) (sp:List Stp) (k:Nat) (L:Lab) (b:Bool):Option Lab:=if (nxtF x t sp k L b).2=0 then some (nxtF x t sp k L b).1 else none
def Xb (x:Inst) (t:Typ) (sp:List Stp):Nat->Lab->List Bool->Lab×Int
 | _,L,[]=>(L,0)
 | k,L,b::bs=>if (nxtF x t sp k L b).2=0 then Xb x t sp (k+1) (nxtF x t sp k L b).1 bs else (W6,(nxtF x t sp k L b).2)
def labF (t:Typ) (st:Int):Lab:=⟨max t.opn st,0,zShe⟩
theorem YB {x:Inst} {t:Typ} {sp:List Stp} : ∀(bs:List Bool) (k:Nat) (L:Lab),Wd (Xt x t sp) k L bs=if (Xb x t sp k L bs).2=0 then some (Xb x t sp k L bs).1 else none
 | [],k,L=>by rfl
 | b::bs,k,L=>by
  rw [Wd,Xb,Xt]
  by_cases h:(nxtF x t sp k L b).2=0
  ·simp only [h,if_true];exact YB bs (k+1) _
  ·simp [h]
structure TrpOk (x:Inst) (t:Typ) (sp:List Stp):Prop where
 net:netR x.net
 mil: ∀a∈x.net.arcs,0<=a.miles/\a.miles<=10000
 opn:0<=t.opn/\t.opn<=t.cls/\t.cls<=4096
 drv:1<=t.drive/\t.drive<=4096
 rst:0<=t.rest/\t.rest<=4096
 stp: ∀s∈sp,0<=s.opn/\s.opn<=s.cls/\s.cls<=4096/\0<=s.serv/\s.serv<=4096
 len:sp.length<=20
structure LabR (k:Nat) (L:Lab):Prop where
 rdy:0<=L.ready/\L.ready<=8192
 snc: -(12288*(k:Int))<=L.since/\L.since<=4096
 mil:0<=L.she.miles/\L.she.miles<=10000*(k:Int)
theorem LC {n:Net} {pr f t τ:Int} (hn:netR n) (hm: ∀a∈n.arcs,0<=a.miles/\a.miles<=10000) (hτ:0<=τ/\τ<=1073741824):(0<=(W8 n pr f t τ).1/\(W8 n pr f t τ).1<=1107369984)/\(0<=(W8 n pr f t τ).2.1/\(W8 n pr f t τ).2.1<=10000):=by
 unfold W8
 split
 ·simp
 ·split
  ·grind
  ·split
   ·rename_i h;have hA:=Ax h;have h1:=FE (hn.2.2 _ hA).1 hτ;have h2:=JN (t:=τ) (fun p hp=>((hn.2.2 _ hA).2.2 p hp).2.2) _ (Zy _);have h3:=(hn.2.2 _ hA).2.1
    grind [La]
   ·simp
theorem KR {x t sp k L} (h:TrpOk x t sp) (hl:LabR k L) (b:Bool):0<=ZN t L b/\ZN t L b<=12288:=by
 have:=h.rst;have:=hl.rdy
 grind [ZN]
theorem GZ {k L} (hl:LabR k L) (b:Bool): -(12288*(k:Int))<=W4 L b/\W4 L b<=4096:=by
 have:=hl.snc
 grind [W4]
theorem LB {x t sp k L} (h:TrpOk x t sp) (hl:LabR k L) (b:Bool):(0<=(Y9 x t sp k (ZN t L b)).1/\(Y9 x t sp k (ZN t L b)).1<=1107369984)/\(0<=(Y9 x t sp k (ZN t L b)).2.1/\(Y9 x t sp k (ZN t L b)).2.1<=10000):=by
 have:=KR h hl b;exact LC h.net h.mil Za
theorem KZ {k d b s} :(X4 k d b s).miles=s.miles:=by grind [X4]
theorem Ij {k d b s} :(X4 k d b s).fin=s.fin:=by grind [X4]
theorem AW {k d b s} :(X4 k d b s).times.length=s.times.length:=by grind [X4,S6]
theorem L5 {x t sp k L b} (h:TrpOk x t sp) (hk:k<=sp.length) (hl:LabR k L) (he:(nxtF x t sp k L b).2=0):LabR (k+1) (nxtF x t sp k L b).1:=by
 have h1:=KR h hl b;have h2:=GZ hl b;obtain ⟨h3,h4⟩:=LB h hl b;have h5:=hl.mil;have h6:=h.opn;have h7:=h.drv;have hm:(X4 k (ZN t L b) b L.she).miles=L.she.miles:=KZ;unfold nxtF at he ⊢
 generalize Y9 x t sp k (ZN t L b)=g at *
 generalize ZN t L b=d at *
 generalize W4 L b=s at *
 generalize X4 k d b L.she=m at *
 unfold WL at he ⊢
 split at he
 ·simp at he
 ·rename_i c1;rw [if_neg c1]
  split at he
  ·rename_i c2;rw [if_pos c2]
   split at he
   ·simp at he
   ·rename_i c3;rw [if_neg c3]
    split at he
    ·simp at he
    ·rename_i c4;rw [if_neg c4];exact ⟨by grind,by grind,by grind⟩
  ·rename_i c2;rw [if_neg c2];have h8:=h.stp _ (Z2 (show k<sp.length by omega))
   split at he
   ·simp at he
   ·rename_i c3;rw [if_neg c3]
    split at he
    ·simp at he
    ·rename_i c4;rw [if_neg c4];exact ⟨by grind,by grind,by grind⟩
theorem Gt {x t sp k L b} (hl:L.she.times.length=k) (he:(nxtF x t sp k L b).2=0) (hk:k<sp.length):(nxtF x t sp k L b).1.she.times.length=k+1:=by
 have hm:(X4 k (ZN t L b) b L.she).times.length=L.she.times.length:=AW;unfold nxtF at he ⊢
 generalize Y9 x t sp k (ZN t L b)=g at *
 generalize ZN t L b=d at *
 generalize W4 L b=s at *
 generalize X4 k d b L.she=m at *
 have hk2: ¬k=sp.length:=Za
 unfold WL at he ⊢
 grind
def Xi (m x:Lab):Bool:=decide (m.ready=x.ready)&&decide (m.since<=x.since)
theorem Ps {x t sp k} {m y z:Lab} {b:Bool} (hb:Xi m y=true) (hn:Xt x t sp k y b=some z): ∃u,Xt x t sp k m b=some u/\Xi u z=true:=by
 simp only [Xi,Zv,Zq] at hb;obtain ⟨hb1,hb2⟩:=hb
 have hd:ZN t m b=ZN t y b:=by simp [ZN,hb1]
 have hs:W4 m b<=W4 y b:=by grind [W4]
 unfold Xt at hn ⊢;unfold nxtF at hn ⊢;rw [hd]
 generalize Y9 x t sp k (ZN t y b)=g at *
 generalize ZN t y b=d at *
 generalize W4 y b=s at *
 generalize W4 m b=s2 at *
 generalize X4 k d b y.she=h1 at *
 generalize X4 k d b m.she=h2 at *
 unfold WL at hn ⊢
 by_cases c1:g.2.2=0
 ·by_cases c2:k=sp.length
  ·simp only [c1,c2,not_true,if_true,Yb] at hn ⊢
   by_cases c3:t.cls<g.1
   ·grind
   ·by_cases c4:t.drive<s+g.1-d
    ·grind
    ·have c5: ¬t.drive<s2+g.1-d:=Za
     simp only [c3,c4,Yb,if_true,Qq] at hn;subst hn;refine ⟨_,by simp only [c3,c5,Yb,if_true];rfl,?_⟩;simp [Xi];omega
  ·simp only [c1,c2,not_true,Yb] at hn ⊢
   by_cases c3:(nth sp k).cls<max g.1 (nth sp k).opn
   ·grind
   ·by_cases c4:t.drive<s+g.1-d
    ·grind
    ·have c5: ¬t.drive<s2+g.1-d:=Za
     simp only [c3,c4,Yb,if_true,Qq] at hn;subst hn;refine ⟨_,by simp only [c3,c5,Yb,if_true];rfl,?_⟩;simp [Xi];omega
 grind
def Wq (L:Lab):Int:=L.she.fin
theorem N2 {x t sp} {y z:Lab} {b:Bool} (hn:Xt x t sp sp.length y b=some z):z.she.fin=z.ready:=by
 unfold Xt nxtF WL at hn
 grind
theorem Ic {x t sp} (ch:Nat->List Bool) (L:Lab):Va Wq none (Kz Xi (Xt x t sp) ch (sp.length+1) 0 [L])=Va Wq none (VT (Xt x t sp) ch (sp.length+1) 0 L):=by
 have h:=SV Wq Xi (Xt x t sp) ch (n:=sp.length+1) (Inv:=fun k y=>k=sp.length+1->y.she.fin=y.ready)
  (fun k y b z _ hn hk=>by
   grind [N2]) (fun k m y b z _ _ hb hn=>Ps hb hn)
  (fun m y h1 h2 hb=>by
   simp only [Xi,Zv,Zq] at hb
   rw [Wq,Wq,h1 rfl,h2 rfl];omega) (sp.length+1) 0 [L] Za (fun y _ hk=>Za)
 rw [h];simp
def UU (r:List Bool) (k:Nat):List Bool:=match r[k]? with | some b=> [b] | none=> [false,true]
theorem SC (r:List Bool) (n:Nat) (hn:r.length<=n): ∀(j k:Nat),k+j=r.length->Lv (UU r) (n-k) k=(Y4 (List.replicate (n-r.length) false)).map (r.drop k++ ·)
 | 0,k,h=>by
  have hk:k=r.length:=Za
  subst hk;rw [Nm (n:=n) _ _ _ (fun q hq=>by grind [UU])];simp
 | j+1,k,h=>by
  have e:n-k=(n-(k+1))+1:=Za
  have hlt:k<r.length:=Za
  rw [e,Lv,SC r n hn j (k+1) Za]
  have:UU r k= [r[k]]:=by simp [UU,hlt]
  rw [this,UM,List.flatMap_nil,Yp,List.map_map,Ua hlt]
  rfl
theorem HQ (r:List Bool) (n:Nat) (hn:r.length<=n):Lv (UU r) n 0=(Y4 (List.replicate (n-r.length) false)).map (r++ ·):=by
 have:=SC r n hn r.length 0 Za
 grind
def XE (r:List Bool) (n:Nat):List (List Bool):=(Y4 (List.replicate (n-r.length) false)).map (r++ ·)
def YY (r:List Bool) (n:Nat):List Bool:=r++List.replicate (n-r.length) false
def Yf (x:Inst) (t:Typ) (sp:List Stp) (st:Int) (r:List Bool):She×Int :=
 match Va Wq none ((XE r (sp.length+1)).filterMap (Wd (Xt x t sp) 0 (labF t st))) with
 | some L=>(L.she,0)
 | none=>(zShe,(Xb x t sp 0 (labF t st) (YY r (sp.length+1))).2)
theorem Lh {x t sp} {st:Int} {r:List Bool} (hr:r.length<=sp.length+1):Yf x t sp st r=match Va Wq none (Kz Xi (Xt x t sp) (UU r) (sp.length+1) 0 [labF t st]) with
 | some L=>(L.she,0)
 | none=>(zShe,(Xb x t sp 0 (labF t st) (YY r (sp.length+1))).2):=by
 rw [Ic,VT,HQ r _ hr];rfl
theorem Ov {x t sp} : ∀(bs:List Bool) (k:Nat) (L:Lab),L.she.times.length=k->k+bs.length=sp.length+1->0<bs.length->(Xb x t sp k L bs).2=0->(Xb x t sp k L bs).1.she.times.length=sp.length
 | [],k,L,h1,h2,h3,h=>by simp at h3
 | b::bs,k,L,h1,h2,_,h=>by
  rw [Xb] at h ⊢
  by_cases h4:(nxtF x t sp k L b).2=0
  ·simp only [h4,if_true] at h ⊢
   cases bs with
   | nil =>
    simp at h2;subst h2;rw [Xb];unfold nxtF at h4 ⊢;unfold WL at h4 ⊢
    split at h4
    ·simp at h4
    ·rename_i c1;rw [if_neg c1];simp only [if_true] at h4 ⊢
     split at h4
     ·simp at h4
     ·rename_i c2;rw [if_neg c2]
      split at h4
      ·simp at h4
      simp_all [if_neg,AW]
   | cons b2 bs =>
    simp at h2;exact Ov (b2::bs) (k+1) _ (Gt h1 h4 Za) (by simp;omega) Zb h
  grind
theorem bestF_len {x t sp} {st:Int} {r:List Bool} (hr:r.length<=sp.length+1) (h:(Yf x t sp st r).2=0):(Yf x t sp st r).1.times.length=sp.length:=by
 unfold Yf at h ⊢
 cases hf:Va Wq none ((XE r (sp.length+1)).filterMap (Wd (Xt x t sp) 0 (labF t st))) with
 | none =>
  rw [hf] at h;simp only at h ⊢;exfalso
  have hm:YY r (sp.length+1)∈XE r (sp.length+1):=by
   grind [XE,YY,fromB_next]
  have h2:Wd (Xt x t sp) 0 (labF t st) (YY r (sp.length+1))=some (Xb x t sp 0 (labF t st) (YY r (sp.length+1))).1:=by rw [YB,if_pos h]
  have h3:(Xb x t sp 0 (labF t st) (YY r (sp.length+1))).1∈(XE r (sp.length+1)).filterMap (Wd (Xt x t sp) 0 (labF t st)):=Qp.2 ⟨_,hm,h2⟩;generalize (XE r (sp.length+1)).filterMap (Wd (Xt x t sp) 0 (labF t st))=l at hf h3
  cases l with
  | nil=>simp at h3
  | cons a l =>
   rw [Va] at hf;obtain ⟨z,e,_⟩:=VK Wq l a
   grind
 | some L =>
  simp only;have hm:=fmL_mem _ _ hf;obtain ⟨bs,hbs,hrun⟩:=Qp.1 hm;rw [YB] at hrun
  split at hrun
  ·rename_i h5;simp at hrun;subst hrun;obtain ⟨q,hq,rfl⟩:=XH.1 hbs;have hql:=fromB_len _ _ hq;simp at hql;exact Ov _ 0 _ rfl (by grind) (by grind) h5
  ·cases hrun
where
 fmL_mem: ∀(l:List Lab) (L:Lab),Va Wq none l=some L->L∈l
 | [],L,h=>by simp [Va] at h
 | a::l,L,h=>by
  rw [Va] at h;exact fmL_mem2 l a L h
 fmL_mem2: ∀(l:List Lab) (a L:Lab),Va Wq (some a) l=some L->L∈a::l
 | [],a,L,h=>by grind [Va]
 | y::l,a,L,h=>by
  rw [Va] at h
  split at h
  ·have:=fmL_mem2 l y L h;grind
  ·have:=fmL_mem2 l a L h;grind
 fromB_len: ∀(l q:List Bool),q∈Y4 l->q.length=l.length
 | [],q,h=>by grind [Y4]
 | b::bs,q,h=>by
  rw [Y4] at h
  split at h
  ·obtain ⟨q',hq,rfl⟩:=XH.1 h;simp [fromB_len bs q' hq]
  ·rcases Xe.1 h with h | h
   ·obtain ⟨q',hq,rfl⟩:=XH.1 h;simp [fromB_len bs q' hq]
   ·obtain ⟨q',hq,rfl⟩:=XH.1 h;simp [fromB_len (List.replicate bs.length false) q' hq]
 termination_by l=>l.length
 decreasing_by all_goals simp
def Xo (x:Inst) (v:Vis):Stp:=if v.drp=true then (nth x.orders v.order.toNat).drp else (nth x.orders v.order.toNat).pick
def ZK (x:Inst) (l:List Vis):List Stp:=l.map (Xo x)
def YK (t:Typ) (s:Int):Bool:=decide (0<=t.skills)&&decide (0<=s)&&(List.range 63).all fun i=> !s.toNat.testBit i||t.skills.toNat.testBit i
def V2 (a c:List Int):Bool:=decide (a.length=c.length)&&(List.range a.length).all fun i=>decide (nth a i<=nth c i)
def Vz (x:Inst) (c:List Int) (l:List Vis):Bool:=(List.range (l.length+1)).all fun n=>V2 (Y2 x l n) c
def Zx (x:Inst) (r:Rte):Typ:=nth x.types r.typ.toNat
def UJ (l:List Vis) (i:Nat):Bool:= !((l.take i).any fun v=>decide (v.order=(nth l i).order))
def Xw (k t:Int):Bool:=decide (k≠ -1)&&decide (k≠t)
def chgF (x:Inst) (l:List Vis) (t:Int):Nat->Int×Int
 | 0=>(0,0)
 | n+1=>if UJ l n=true then ((chgF x l t n).1+(if Xw (nth x.orders (nth l n).order.toNat).now t=true then 1 else 0),(chgF x l t n).2+(if Xw (nth x.orders (nth l n).order.toNat).last t=true then 1 else 0)) else chgF x l t n
def De (x:Inst) (r:Rte) (s:She):Sco :=
 ⟨(Zx x r).fixed+(Zx x r).perMile*s.miles+(Zx x r).perTick*(s.fin-(Zx x r).opn),(chgF x r.visits r.typ r.visits.length).1,(chgF x r.visits r.typ r.visits.length).2,(s.fin-(Zx x r).opn).tdiv 64*(s.fin-(Zx x r).opn).tdiv 64⟩
def XU (x:Inst) (r:Rte):Int :=
 if ¬(0<=r.typ/\r.typ<(x.types.length:Int)) then 2
 else if ¬Xf x r.visits=0 then Xf x r.visits
 else if (r.visits.any fun v=> !YK (Zx x r) (nth x.orders v.order.toNat).skills)=true then 18
 else if Vz x (Zx x r).cap r.visits=false then 17
 else if ¬(0<=r.start/\r.start<=4096/\r.rests.length<=r.visits.length+1) then 2
 else 0
def Xp (x:Inst) (r:Rte):She×Int:=Yf x (Zx x r) (ZK x r.visits) r.start r.rests
def Xq (x:Inst) (r:Rte):Int:=if XU x r=0 then (Xp x r).2 else XU x r
def X9 (x:Inst) (r:Rte):She:=if Xq x r=0 then (Xp x r).1 else zShe
def We (x:Inst) (r:Rte):Sco:=if Xq x r=0 then De x r (Xp x r).1 else zSco
def Zeu : Stp:=⟨0,0,0,0⟩
def NF (x:Inst) (v:Vis):Bool:=decide (0<=v.order)&&decide (v.order<(x.orders.length:Int))
def Ao (x:Inst) (v:Vis):Bool:=NF x v&&decide (0<=(Xo x v).place)
def Dk (x:Inst) (v:Vis):Stp:=if NF x v=true then Xo x v else Zeu
theorem OP (x:Inst) (v:Vis) (ho:x.orders.length<=1048576):PT 256 [.p (Zs x),.p (Xa v)] [.p (FV (Dk x v)),.p (.bool (Ao x v))]:=by
 refine Ze [] Tryz.func256 rfl ZcN ?_;simp (disch:=omega) only [Tryz.f256,go_sem,seval];refine gF ?_ ?_<;>intro h1<;>simp (disch:=omega) only [Sh.out h1,go_sem,seval,↓reduceIte]
 ·have e:NF x v=false:=by
   grind [NF]
  simp only [Dk,Ao,e,QQ,Y6,Yb,Zeu];exact we
 ·refine cD ?_ ?_<;>intro h2<;>simp (disch:=omega) only [Sh.out h2,go_sem,seval,↓reduceIte]
  ·have e:NF x v=false:=by
    grind [NF]
   simp only [Dk,Ao,e,QQ,Y6,Yb,Zeu];exact we
  ·have e:NF x v=true:=by simp [NF];omega
   have hi:v.order.toNat<x.orders.length:=Za
   refine cD ?_ ?_<;>intro hd<;>simp (disch:=omega) only [Sh.out hd,go_sem,seval,↓reduceIte]
   ·have hG:Dk x v=(nth x.orders v.order.toNat).drp:=by simp [Dk,e,Xo,hd]
    have hV:Ao x v=decide (0<=(nth x.orders v.order.toNat).drp.place):=by simp [Ao,e,Xo,hd]
    rw [hG,hV];refine FI (.cons 0 (.cons 1 (.cons 2 (.cons 3 (.cons 4 (.cons 5 .nil .nil) .nil) (.cons 4 (.cons 3 (.cons 5 .nil .nil) .nil) .nil)) (.cons 4 (.cons 2 (.cons 3 (.cons 5 .nil .nil) .nil) .nil) .nil)) (.cons 4 (.cons 1 (.cons 2 (.cons 3 (.cons 5 .nil .nil) .nil) .nil) .nil) .nil)) (.cons 1 (.cons 0 (.cons 2 (.cons 3 (.cons 4 (.cons 5 .nil .nil) .nil) (.cons 4 (.cons 3 (.cons 5 .nil .nil) .nil) .nil)) (.cons 4 (.cons 2 (.cons 3 (.cons 5 .nil .nil) .nil) .nil) .nil)) (.cons 2 (.cons 0 (.cons 3 (.cons 4 (.cons 5 .nil .nil) .nil) (.cons 4 (.cons 3 (.cons 5 .nil .nil) .nil) .nil)) (.cons 3 (.cons 0 (.cons 4 (.cons 5 .nil .nil) .nil) .nil) .nil)) .nil)) .nil)) mixed Zg ?_
    refine Zd ?_
    repeat' first
     | refine Dv ?_ ?_
     | exact we
     | simp (disch:=omega) only [go_sem,seval,↓reduceIte]
   ·have hG:Dk x v=(nth x.orders v.order.toNat).pick:=by simp [Dk,e,Xo,hd]
    have hV:Ao x v=decide (0<=(nth x.orders v.order.toNat).pick.place):=by simp [Ao,e,Xo,hd]
    rw [hG,hV];refine FI (.cons 0 (.cons 1 (.cons 2 (.cons 3 (.cons 4 (.cons 5 .nil .nil) .nil) (.cons 4 (.cons 3 (.cons 5 .nil .nil) .nil) .nil)) (.cons 4 (.cons 2 (.cons 3 (.cons 5 .nil .nil) .nil) .nil) .nil)) (.cons 4 (.cons 1 (.cons 2 (.cons 3 (.cons 5 .nil .nil) .nil) .nil) .nil) .nil)) (.cons 1 (.cons 0 (.cons 2 (.cons 3 (.cons 4 (.cons 5 .nil .nil) .nil) (.cons 4 (.cons 3 (.cons 5 .nil .nil) .nil) .nil)) (.cons 4 (.cons 2 (.cons 3 (.cons 5 .nil .nil) .nil) .nil) .nil)) (.cons 2 (.cons 0 (.cons 3 (.cons 4 (.cons 5 .nil .nil) .nil) (.cons 4 (.cons 3 (.cons 5 .nil .nil) .nil) .nil)) (.cons 3 (.cons 0 (.cons 4 (.cons 5 .nil .nil) .nil) .nil) .nil)) .nil)) .nil)) mixed Zg ?_
    refine Zd ?_
    repeat' first
     | refine Dv ?_ ?_
     | exact we
     | simp (disch:=omega) only [go_sem,seval,↓reduceIte]
def Uz (x:Inst) (r:Rte):Bool:=(decide (0<=r.typ)&&decide (r.typ<(x.types.length:Int))&&decide (0<=r.start)&&decide (r.start<=4096)&&decide (r.visits.length<=20))&&r.visits.all (Ao x)
theorem GB (x:Inst) (r:Rte) (ho:x.orders.length<=1048576) (ht:x.types.length<=1048576) (hl:r.visits.length<=1048576):PC 230 [.p (Zs x),.p (WM r)] (.bool (Uz x r)):=by
 refine Zc Tryz.func230 rfl Zco ?_;simp (disch:=omega) only [Tryz.f230,go_sem,seval];refine gF ?_ ?_<;>intro h1<;>simp (disch:=omega) only [Sh.out h1,go_sem,seval,↓reduceIte]
 ·simp [Uz];omega
 ·refine gF ?_ ?_<;>intro h2<;>simp (disch:=omega) only [Sh.out h2,go_sem,seval,↓reduceIte]
  ·simp [Uz];omega
  ·refine gF ?_ ?_<;>intro h3<;>simp (disch:=omega) only [Sh.out h3,go_sem,seval,↓reduceIte]
   ·simp [Uz];omega
   ·refine gF ?_ ?_<;>intro h4<;>simp (disch:=omega) only [Sh.out h4,go_sem,seval,↓reduceIte]
    ·simp [Uz];omega
    ·refine cD ?_ ?_<;>intro h5<;>simp (disch:=omega) only [Sh.out h5,go_sem,seval]
     ·simp [Uz];omega
     ·refine Zl [2,3] (fun k:Nat=> [(5,.p (.int .i64 k))]) (fun _=> [Zf x,XA r]) (fun k=>k<=r.visits.length/\ ∀j,j<k->Ao x (nth r.visits j)=true) (fun k=>r.visits.length-k) 0 Zb (Weak.mk ?_) ?_
      ·simp (disch:=omega) only [Zf,XA,go_sem,seval]
      ·rintro k ⟨hk,hno⟩;refine Ai ?_;refine cD ?_ ?_<;>intro h<;>simp (disch:=omega) only [Sh.out h,go_sem,seval,↓reduceIte]
       ·have hk2:k<r.visits.length:=Za
        refine X5 [10,11] 12 mixed Zg Zg Zg Zb (Zd ?_);refine Qd (OP x (nth r.visits k) ho) (Zd ?_);refine Xx 10 _ _ Zg (by refine Zd ?_;exact ⟨rfl,rfl⟩) ?_;refine Zd ?_;refine Xx 11 _ _ Zg (by refine Zd ?_;exact ⟨rfl,rfl⟩) (WE ?_);refine Zd ?_;refine Z0 ?_ ?_<;>intro h6
        ·grind [Zu,Uz]
        ·exact ⟨k+1,⟨Za,Zr.2 ⟨hno,by grind⟩⟩,Za,wk⟩
       ·have hkl:k=r.visits.length:=Za
        subst hkl
        have:r.visits.all (Ao x)=true:=by
         rw [ZD];intro v hv;obtain ⟨j,hj,rfl⟩:=ZU.1 hv
         grind [Zi]
        grind [Uz]
@[go_sem high] theorem Zl7 {k k':IntKind} {a b:Int} :I6 false [.p (.int k a),.p (.int k' b)]=some (.int k (max a b)):=by
 grind [I6]
theorem P7 {l:List Tim} {m:Tim} {d:Int} {b:Bool} :S6 (l++ [m]) l.length d b=l++ [{ m with dep:=d,rest:=b }]:=by
 grind [Zi,S6]
theorem eQ {x:Inst} {t:Typ} {sp:List Stp} {k:Nat} {d s m:Int} {h:She} (hk:k<sp.length) (ho:(nth sp k).opn<=(nth sp k).cls) (hm:h.miles=m) :
  (JP x t ⟨Ug t sp k,d,s,m⟩ (nth sp k).place (nth sp k).cls 14).2=(WL t sp k (Y9 x t sp k d) d s h).2 /\
  ((WL t sp k (Y9 x t sp k d) d s h).2=0->(JP x t ⟨Ug t sp k,d,s,m⟩ (nth sp k).place (nth sp k).cls 14).1=⟨(nth sp k).place,(Y9 x t sp k d).1,s+(Y9 x t sp k d).1-d,m+(Y9 x t sp k d).2.1⟩ /\
   (WL t sp k (Y9 x t sp k d) d s h).1=⟨max (Y9 x t sp k d).1 (nth sp k).opn+(nth sp k).serv,s+(Y9 x t sp k d).1-d,{ h with times_c:=false,times:=h.times++ [⟨(Y9 x t sp k d).1,max (Y9 x t sp k d).1 (nth sp k).opn,0,false⟩],miles:=m+(Y9 x t sp k d).2.1 }⟩):=by
 have hne: ¬k=sp.length:=Za
 have e:W8 x.net t.prof (Ug t sp k) (nth sp k).place d=Y9 x t sp k d:=by simp [Y9,Pa,hne]
 unfold JP WL
 grind
theorem eU {x:Inst} {t:Typ} {sp:List Stp} {d s m:Int} {h:She} (hm:h.miles=m) :
  (JP x t ⟨Ug t sp sp.length,d,s,m⟩ t.dst t.cls 15).2=(WL t sp sp.length (Y9 x t sp sp.length d) d s h).2 /\
  ((WL t sp sp.length (Y9 x t sp sp.length d) d s h).2=0->(JP x t ⟨Ug t sp sp.length,d,s,m⟩ t.dst t.cls 15).1=⟨t.dst,(Y9 x t sp sp.length d).1,s+(Y9 x t sp sp.length d).1-d,m+(Y9 x t sp sp.length d).2.1⟩ /\
   (WL t sp sp.length (Y9 x t sp sp.length d) d s h).1=⟨(Y9 x t sp sp.length d).1,s+(Y9 x t sp sp.length d).1-d,{ h with fin:=(Y9 x t sp sp.length d).1,miles:=m+(Y9 x t sp sp.length d).2.1 }⟩):=by
 have e:W8 x.net t.prof (Ug t sp sp.length) t.dst d=Y9 x t sp sp.length d:=by simp [Y9,Pa]
 unfold JP WL
 grind
def Zec (s:StD):AM.Obj:= .cells [.p (.int .i64 s.place),.p (.int .i64 s.time),.p (.int .i64 s.driven),.p (.int .i64 s.miles)]
def Jx (t:Typ) (sp:List Stp) (k:Nat) (L:Lab) (b:Bool):StD:=⟨Ug t sp k,ZN t L b,W4 L b,L.she.miles⟩
theorem ZlG {g:FuncId} {args:List V} {a c:PV} {H:List AM.Obj} {K:V->List AM.Obj->Prop} (h:ACalls Tryz.prog g args [] fun x H'=> ∃b:PV,x= .tup [.p a,.p b,.p c]/\H'= []) (k: ∀b:PV,K (.tup [.p a,.p b,.p c]) H) (ha:Xu 0 args=true:=by rfl):ACalls Tryz.prog g args H K :=
 (h.behind ha H).mono fun x H' hq=>by
  obtain ⟨y,H1,⟨b,rfl,rfl⟩,rfl,rfl⟩:=hq
  grind [shV,shVs]
theorem Yi {x:Inst} {l:List Vis} :(ZK x l).length=l.length:=by simp [ZK]
theorem G1 {x:Inst} {l:List Vis} {k:Nat} (h:k<l.length):nth (ZK x l) k=Xo x (nth l k):=by
 grind [Zi,ZK]
theorem JQ {P Q:Prop} (h:Q) (e:Q->P:=by intro h;simp (disch:=omega) only [Zt,Zk,ZQ,ZG,go_sem,seval];exact h):P:=e h
theorem vK (x:Inst) (r:Rte) (rests:List Bool) (c:Bool) (hok:TrpOk x (Zx x r) (ZK x r.visits)) (ho:x.orders.length<=1048576) (ht:x.types.length<=1048576) (hne:0<r.visits.length) (hp:Uz x r=true) (hl:rests.length=r.visits.length+1) :
  ACalls Tryz.prog 257 [.p (Zs x),.p (WM r),.p (.list c (rests.map eB))] [] fun y H'=> ∃d:PV,y= .tup [.p (FT (Xb x (Zx x r) (ZK x r.visits) 0 (labF (Zx x r) r.start) rests).1.she),.p d,.p (.int .i64 (Xb x (Zx x r) (ZK x r.visits) 0 (labF (Zx x r) r.start) rests).2)]/\H'= []:=by
 have hp2:=hp;simp only [Uz,Zv,Zq] at hp2;obtain ⟨⟨⟨⟨⟨p1,p2⟩,p3⟩,p4⟩,p5⟩,p6⟩:=hp2;have hvis: ∀k,k<r.visits.length->Ao x (nth r.visits k)=true:=fun k hk=>ZD.1 p6 _ (Zu hk)
 have hstop: ∀k,k<r.visits.length->Dk x (nth r.visits k)=nth (ZK x r.visits) k:=fun k hk=>by
  simp_all [Ao,Dk,G1]
 have hti:r.typ.toNat<x.types.length:=Za
 have hopn:=hok.opn;have hrst:=hok.rst;have htd:Zx x r=nth x.types r.typ.toNat:=rfl
 generalize hT:Zx x r=t at *
 have hsl:(ZK x r.visits).length=r.visits.length:=Yi
 generalize hS:ZK x r.visits=sp at *
 refine Ze [26] Tryz.func257 rfl ZcO ?_;simp (disch:=omega) only [Tryz.f257,go_sem,seval];refine (GB x r ho ht Za).use (Zd ?_);rw [hp];refine Zd ?_;refine cD ?_ ?_<;>intro h0<;>simp (disch:=omega) only [Sh.out h0,<- htd,go_sem,seval,↓reduceIte]
 ·omega
 ·refine X5 [13] 14 mixed Zg Zg Zg Zb (Zd ?_);refine Zo (Oj t ⟨t.src,max t.opn r.start,0,0⟩ (nth rests 0) (by grind)) (Zd ?_);refine Xx 13 _ _ Zg (by refine Zd ?_;exact ⟨rfl,rfl⟩) (WE ?_);refine Zd ?_;refine X5 [6] 7 mixed Zg Zg Zg Zb (Zd ?_);refine Xx 6 _ _ Zg (by refine Zd ?_;exact ⟨rfl,rfl⟩) (WE ?_);refine Zd ?_;have hL0:LabR 0 (labF t r.start):=⟨by grind [labF],by simp [labF],by simp [labF,zShe]⟩
  have hS0:GK t ⟨t.src,max t.opn r.start,0,0⟩ (nth rests 0)=Jx t sp 0 (labF t r.start) (nth rests 0):=by
   simp only [GK,Jx,Ug,ZN,W4,labF,zShe,if_true]
   split<;>rfl
  simp (disch:=omega) only [hS0,go_sem,seval]
  refine Z3 [26] [2,3,4,6,9,10,11] (fun q:Nat×Lab×List Int=> [(12,.sl 7 0 q.2.2.length q.2.2.length),(13,.p (.int .i64 q.1))])
   (fun q=> [Zf x,XA r,.cells [.p (.bool false),.p (.int .i64 0),.p (.list true []),.p (.int .i64 0),.p (.int .i64 0)],Yj t,Zec (Jx t sp q.1 q.2.1 (nth rests q.1)),
    .cells [.p (.bool (X4 q.1 (ZN t q.2.1 (nth rests q.1)) (nth rests q.1) q.2.1.she).rest),.p (.int .i64 (X4 q.1 (ZN t q.2.1 (nth rests q.1)) (nth rests q.1) q.2.1.she).dep),.sl 6 0 (X4 q.1 (ZN t q.2.1 (nth rests q.1)) (nth rests q.1) q.2.1.she).times.length (X4 q.1 (ZN t q.2.1 (nth rests q.1)) (nth rests q.1) q.2.1.she).times.length,.p (.int .i64 0),.p (.int .i64 0)],
    .elems 4 ((X4 q.1 (ZN t q.2.1 (nth rests q.1)) (nth rests q.1) q.2.1.she).times.map eTim),.elems 1 (q.2.2.map eI)])
   (fun q=>q.1<=r.visits.length/\Xb x t sp 0 (labF t r.start) rests=Xb x t sp q.1 q.2.1 (rests.drop q.1)/\LabR q.1 q.2.1/\q.2.1.she.times.length=q.1/\q.2.1.she.fin=0/\(0<q.1->q.2.1.she.times_c=false)/\q.2.2.length=q.1) (fun q=>r.visits.length-q.1) (0,labF t r.start,[])
   ⟨Zb,Zb,hL0,by rfl,by rfl,Zb,Zb⟩ ((Weak.nilC (o:=5) (j:=2) 4 rfl rfl Zb).trans (Weak.ofNil 12 1 rfl Zb (Weak.mk ?_))) ?_
  ·simp (disch:=omega) only [Zf,XA,Yj,Zec,Jx,Ug,X4,labF,zShe,Zk,ZJ,ZQ,ZG,ZR,ZH,go_sem,seval]
  ·rintro ⟨k,L,ds⟩ ⟨hk,hrun,hL,hlen,hfin,hclip,hds⟩;simp only at hk hrun hL hlen hfin hclip hds
   have hmlen:(X4 k (ZN t L (nth rests k)) (nth rests k) L.she).times.length=k:=by grind [AW]
   have hd:=KR hok hL (nth rests k);have hs:=GZ hL (nth rests k);have hg:=LB hok hL (nth rests k);have hmi:=hL.mil
   generalize hm:X4 k (ZN t L (nth rests k)) (nth rests k) L.she=m at *
   have hmm:m.miles=L.she.miles:=by rw [<- hm,KZ]
   have hmf:m.fin=0:=by grind [Ij]
   have hdrop:rests.drop k=nth rests k::rests.drop (k+1):=by grind [Ua,Zi]
   have hnx:nxtF x t sp k L (nth rests k)=WL t sp k (Y9 x t sp k (ZN t L (nth rests k))) (ZN t L (nth rests k)) (W4 L (nth rests k)) m:=by rw [nxtF,hm]
   rw [hdrop,Xb] at hrun;simp (disch:=omega) only [Zf,XA,Yj,Zec,go_sem,seval];refine cD ?_ ?_<;>intro h<;>simp (disch:=omega) only [Sh.out h,go_sem,seval,↓reduceIte]
   ·have hk2:k<r.visits.length:=Za
    have hsp:=hok.stp _ (Z2 (show k<sp.length by omega));refine X5 [10,11] 12 mixed Zg Zg Zg Zb (Zd ?_);refine Qd (OP x (nth r.visits k) ho) (Zd ?_);refine Xx 10 _ _ Zg (by refine Zd ?_;exact ⟨rfl,rfl⟩) ?_;refine Zd ?_;refine Xx 11 _ _ Zg (by refine Zd ?_;exact ⟨rfl,rfl⟩) (WE ?_);simp (disch:=omega) only [hstop k hk2,go_sem,seval];obtain ⟨f1,f2⟩:=eQ (x:=x) (t:=t) (d:=ZN t L (nth rests k)) (s:=W4 L (nth rests k)) (h:=m) (show k<sp.length by omega) hsp.2.1 hmm
    have he2:W8 x.net t.prof (Ug t sp k) (nth sp k).place (ZN t L (nth rests k))=Y9 x t sp k (ZN t L (nth rests k)):=by
     grind [Y9,Pa]
    refine Yn (OO x t (Jx t sp k L (nth rests k)) (nth sp k).place (nth sp k).cls 14 hok.net ?_ ?_ ?_ ?_) ?_
    ·grind [Jx]
    ·grind [Jx,fR]
    ·grind [Jx,fR]
    ·grind [Jx,fR]
    have f1':(JP x t (Jx t sp k L (nth rests k)) (nth sp k).place (nth sp k).cls 14).2=(nxtF x t sp k L (nth rests k)).2:=by rw [hnx,<- f1];rfl
    refine Zd ?_;rw [f1'];refine cD ?_ ?_<;>intro h3<;>simp (disch:=omega) only [Sh.out h3,go_sem,seval,↓reduceIte]
    ·rw [if_neg h3] at hrun;rw [hrun];simp only [W6,zShe];exact ⟨_,_,Weak.mk (by simp (disch:=omega) only [Zk,go_sem,seval]),.list true [],rfl,rfl⟩
    ·have h3':(nxtF x t sp k L (nth rests k)).2=0:=Z1.1 h3;rw [if_pos h3'] at hrun;have hL':=L5 hok Za hL h3';rw [hnx] at h3';obtain ⟨f3,f4⟩:=f2 h3';have f3':(JP x t (Jx t sp k L (nth rests k)) (nth sp k).place (nth sp k).cls 14).1=⟨(nth sp k).place,(Y9 x t sp k (ZN t L (nth rests k))).1,W4 L (nth rests k)+(Y9 x t sp k (ZN t L (nth rests k))).1-ZN t L (nth rests k),L.she.miles+(Y9 x t sp k (ZN t L (nth rests k))).2.1⟩:=f3
     have hL2:(nxtF x t sp k L (nth rests k)).1=⟨max (Y9 x t sp k (ZN t L (nth rests k))).1 (nth sp k).opn+(nth sp k).serv,W4 L (nth rests k)+(Y9 x t sp k (ZN t L (nth rests k))).1-ZN t L (nth rests k),{ m with times_c:=false,times:=m.times++ [⟨(Y9 x t sp k (ZN t L (nth rests k))).1,max (Y9 x t sp k (ZN t L (nth rests k))).1 (nth sp k).opn,0,false⟩],miles:=L.she.miles+(Y9 x t sp k (ZN t L (nth rests k))).2.1 }⟩:=by grind
     simp (disch:=omega) only [f3',go_sem,seval];refine X5 [13] 14 mixed Zg Zg Zg Zb (Zd ?_);refine Xx 13 _ _ Zg (by refine Zd ?_;exact ⟨rfl,rfl⟩) (WE ?_);refine Zd ?_
     generalize (nxtF x t sp k L (nth rests k)).1=L2 at *
     have hS1:GK t ⟨(nth sp k).place,max (Y9 x t sp k (ZN t L (nth rests k))).1 (nth sp k).opn+(nth sp k).serv,W4 L (nth rests k)+(Y9 x t sp k (ZN t L (nth rests k))).1-ZN t L (nth rests k),L.she.miles+(Y9 x t sp k (ZN t L (nth rests k))).2.1⟩ (nth rests (k+1))=Jx t sp (k+1) L2 (nth rests (k+1)):=by
      rw [hL2];simp only [GK,Jx,Ug,ZN,W4,Nat.add_sub_cancel,if_neg (show ¬k+1=0 by omega)]
      split<;>rfl
     have hM:X4 (k+1) (ZN t L2 (nth rests (k+1))) (nth rests (k+1)) L2.she= { m with times_c:=false,times:=m.times++ [⟨(Y9 x t sp k (ZN t L (nth rests k))).1,max (Y9 x t sp k (ZN t L (nth rests k))).1 (nth sp k).opn,ZN t L2 (nth rests (k+1)),nth rests (k+1)⟩],miles:=L.she.miles+(Y9 x t sp k (ZN t L (nth rests k))).2.1 } :=by
      have he:L2.she= { m with times_c:=false,times:=m.times++ [⟨(Y9 x t sp k (ZN t L (nth rests k))).1,max (Y9 x t sp k (ZN t L (nth rests k))).1 (nth sp k).opn,0,false⟩],miles:=L.she.miles+(Y9 x t sp k (ZN t L (nth rests k))).2.1 } :=by rw [hL2]
      rw [he,X4,if_neg Za,Nat.add_sub_cancel]
      grind [P7]
     have hd2:=KR hok hL' (nth rests (k+1));refine ZF 8 mixed Zg Zg (Zd ?_);refine Zo (Oj t ⟨(nth sp k).place,max (Y9 x t sp k (ZN t L (nth rests k))).1 (nth sp k).opn+(nth sp k).serv,W4 L (nth rests k)+(Y9 x t sp k (ZN t L (nth rests k))).1-ZN t L (nth rests k),L.she.miles+(Y9 x t sp k (ZN t L (nth rests k))).2.1⟩ (nth rests (k+1)) (by grind)) (Zd ?_);simp (disch:=omega) only [hS1,go_sem,seval];refine ⟨(k+1,L2,ds++ [L2.since]),⟨Za,hrun,hL',by grind,by grind,by grind,by simp [hds]⟩,Za,Weak.mk ?_⟩
     simp (disch:=omega) only [hM,hmlen,ZA,ZE,ZJ,Xy,Zt,Zk,go_sem,seval];exact ⟨rfl,by grind⟩
   ·have hkl:k=sp.length:=Za
    subst hkl;obtain ⟨f1,f2⟩:=eU (x:=x) (t:=t) (sp:=sp) (d:=ZN t L (nth rests sp.length)) (s:=W4 L (nth rests sp.length)) (h:=m) hmm
    have he2:W8 x.net t.prof (Ug t sp sp.length) t.dst (ZN t L (nth rests sp.length))=Y9 x t sp sp.length (ZN t L (nth rests sp.length)):=by simp [Y9,Pa]
    refine Yn (OO x t (Jx t sp sp.length L (nth rests sp.length)) t.dst t.cls 15 hok.net ?_ ?_ ?_ ?_) ?_
    ·grind [Jx]
    ·grind [Jx,fR]
    ·grind [Jx,fR]
    ·grind [Jx,fR]
    have f1':(JP x t (Jx t sp sp.length L (nth rests sp.length)) t.dst t.cls 15).2=(nxtF x t sp sp.length L (nth rests sp.length)).2:=by rw [hnx,<- f1];rfl
    refine Zd ?_;rw [f1'];have hdl:rests.drop (sp.length+1)= []:=CE Za;rw [hdl,Xb] at hrun;refine cD ?_ ?_<;>intro h3<;>simp (disch:=omega) only [Sh.out h3,go_sem,seval,↓reduceIte]
    ·rw [if_neg h3] at hrun;rw [hrun];simp only [W6,zShe];exact ⟨_,_,Weak.mk (by simp (disch:=omega) only [Zk,go_sem,seval]),.list true [],rfl,rfl⟩
    ·have h3':(nxtF x t sp sp.length L (nth rests sp.length)).2=0:=Z1.1 h3;rw [if_pos h3'] at hrun;rw [hnx] at h3';obtain ⟨f3,f4⟩:=f2 h3';have f3':(JP x t (Jx t sp sp.length L (nth rests sp.length)) t.dst t.cls 15).1=⟨t.dst,(Y9 x t sp sp.length (ZN t L (nth rests sp.length))).1,W4 L (nth rests sp.length)+(Y9 x t sp sp.length (ZN t L (nth rests sp.length))).1-ZN t L (nth rests sp.length),L.she.miles+(Y9 x t sp sp.length (ZN t L (nth rests sp.length))).2.1⟩:=f3;rw [hrun,hnx,f4];simp (disch:=omega) only [f3',go_sem,seval];refine Zp (Weak.fz (o:=6) (by rfl)) ?_
     refine Zp (Weak.fz (o:=7) (by rfl)) (Zh [] _ _ _ _ (JQ ?_))
     have hmc:m.times_c=false:=by
      grind [X4]
     exact ⟨_,_,Weak.mk (by simp (disch:=omega) only [hmc,go_sem,seval]),.list false (ds.map eI++ [.int .i64 (W4 L (nth rests sp.length)+(Y9 x t sp sp.length (ZN t L (nth rests sp.length))).1-ZN t L (nth rests sp.length))]),rfl,rfl⟩
theorem qP (x:Inst) (r:Rte) (rests:List Bool) (c:Bool) (hok:TrpOk x (Zx x r) (ZK x r.visits)) (ho:x.orders.length<=1048576) (ht:x.types.length<=1048576) (hne:0<r.visits.length) (hp:Uz x r=true) (hl:rests.length=r.visits.length+1) :
  PT 231 [.p (Zs x),.p (WM r),.p (.list c (rests.map eB))] [.p (FT (Xb x (Zx x r) (ZK x r.visits) 0 (labF (Zx x r) r.start) rests).1.she),.p (.int .i64 (Xb x (Zx x r) (ZK x r.visits) 0 (labF (Zx x r) r.start) rests).2)]:=by
 have cr:=vK x r rests c hok ho ht hne hp hl;generalize (Xb x (Zx x r) (ZK x r.visits) 0 (labF (Zx x r) r.start) rests)=q at cr ⊢;obtain ⟨L,e⟩:=q;refine Ze [] Tryz.func231 rfl Zcp ?_;simp (disch:=omega) only [Tryz.f231,go_sem,seval];refine ZlG cr fun d=>Zd ?_;exact we
def Et (l:List Bool) (n:Nat):Option (List Bool):=(Yz (l.drop n)).map (l.take n++ ·)
def Rg : Option (List Bool)->PV
 | some l=> .list false (l.map eB)
 | none=> .list true []
theorem K2 : ∀m:Nat,Yz (List.replicate m true)=none
 | 0=>rfl
 | m+1=>by rw [KY,Yz,K2 m];rfl
theorem Iq : ∀(a b r:List Bool),Yz b=some r->Yz (a++b)=some (a++r)
 | [],b,r,h=>h
 | x::a,b,r,h=>by rw [ZR,Yz,Iq a b r h];rfl
theorem mN (a:List Bool) (m:Nat):Yz (a++false::List.replicate m true)=some (a++true::List.replicate m false):=by
 grind [Iq,Yz,K2]
theorem OH {o:List Bool} {i:Nat} {b:Bool} :(o.map eB).set i (.bool b)=(o.set i b).map eB:=by rw [Vk];rfl
theorem mM (l:List Bool) (c:Bool) (n:Nat) (hn:n<=l.length) (h0:0<l.length) (hl:l.length<=1048576):PT 232 [.p (.list c (l.map eB)),.p (.int .i64 (n:Nat))] [.p (Rg (Et l n)),.p (.bool (Et l n).isSome)]:=by
 refine Ze [8] Tryz.func232 rfl Zcq ?_;simp (disch:=omega) only [Tryz.f232,go_sem,seval];rw [if_pos ⟨Za,Za⟩];refine Zd ?_;refine Z3 [8] [1] (fun q:Nat×List Bool=> [(6,.sl 0 0 q.2.length q.2.length),(7,.p (.int .i64 ((q.1:Int)-1)))]) (fun q=> [.elems 1 (q.2.map eB)]) (fun q=>n<=q.1/\q.1<=l.length/\q.2=l.take q.1++List.replicate (l.length-q.1) false/\l.drop q.1=List.replicate (l.length-q.1) true) (fun q=>q.1) (l.length,l) (by simp;omega) (Weak.mk ?_) ?_
 ·simp (disch:=omega) only [go_sem,seval]
 ·rintro ⟨j,o⟩ ⟨hj1,hj2,ho,hjt⟩;simp only at hj1 hj2 ho hjt
  have hol:o.length=l.length:=by grind
  refine Zd ?_;refine cD ?_ ?_<;>intro h<;>simp (disch:=omega) only [Sh.out h,go_sem,seval,↓reduceIte]
  ·obtain ⟨i,rfl⟩: ∃i,j=i+1:=⟨j-1,Za⟩
   have hij:(((i+1:Nat):Int)-1)=(i:Int):=Za
   have hat:nth o i=nth l i:=by
    grind [Zi]
   have Ht:l.drop i=nth l i::List.replicate (l.length-(i+1)) true:=by
    grind [Ua,Zi]
   have hio:i<o.length:=Za
   simp (disch:=first | omega | (simp only [ZE,ZJ,ZA,ZB,Xd,XG]<;>omega)) only [Int.add_sub_cancel,VJ,hat,hio,go_sem,seval,↓reduceIte];refine cD ?_ ?_<;>intro h2<;>simp (disch:=omega) only [Sh.out h2,go_sem,seval]
   ·have hf:nth l i=false:=by grind
    have hres:Et l n=some (o.set i true):=by
     rw [hf] at Ht
     have e:l.drop n=(l.drop n).take (i-n)++false::List.replicate (l.length-(i+1)) true:=by
      rw [<- Ht,show l.drop i=(l.drop n).drop (i-n) by simp_all,List.take_append_drop]
     rw [Et,e,mN,ho];simp only [AN,Qq]
     have e2:l.take (i+1)=l.take n++(l.drop n).take (i-n)++ [nth l i]:=by
      rw [X3 Za,Zi Za]
      congr 1
      have:l.take i=l.take (n+(i-n)):=by congr 1;omega
      grind
     rw [e2,hf]
     have el:(l.take n++(l.drop n).take (i-n)).length=i:=by simp;omega
     rw [Vq (l.take n++(l.drop n).take (i-n)),E3 _ _ Za,el];simp
    rw [hres];simp (disch:=first | omega | (simp only [ZE,ZJ,ZA,ZB,Xd,XG]<;>omega)) only [OH,go_sem,seval,↓reduceIte];refine Zp (Weak.fz (o:=0) (by rfl)) ?_;refine Zh [] _ _ _ _ ?_;simp (disch:=omega) only [Zt,Zk,ZG,go_sem,seval];simp only [VO,if_true];exact we (by simp (disch:=omega) only [Rg,Kn,go_sem,seval])
   ·have hf:nth l i=true:=by grind
    simp (disch:=first | omega | (simp only [ZE,ZJ,ZA,ZB,Xd,XG]<;>omega)) only [OH,go_sem,seval];refine ⟨(i,o.set i false),⟨Za,Za,?_,?_⟩,Za,Weak.mk (by simp (disch:=first | omega | (simp only [ZE,ZJ,ZA,ZB,Xd,XG]<;>omega)) only [VO,go_sem,seval])⟩
    ·grind
    grind
  ·have hjn:j=n:=Za
   have hres:Et l n=none:=by grind [Et,K2]
   rw [hres];exact we (by simp (disch:=omega) only [Rg,AI,go_sem,seval])
theorem cK {r q:List Bool} :Et (r++q) r.length=(Yz q).map (r++ ·):=by simp [Et]
theorem cY {l:List Bool} :Rg (some l)= .list false (l.map eB):=rfl
theorem cX : Rg none= .list true []:=rfl
def HB (b:Option Lab):She:=match b with | some L=>L.she | none=>zShe
def Hy (r:List Bool) (cur:Option (List Bool)):List (List Bool):=match cur with | some q=>(Y4 q).map (r++ ·) | none=> []
theorem D3 {r s:List Bool} :Hy r (some s)=(r++s)::Hy r (Yz s):=by
 grind [Hy,fromB_next]
theorem Ou {x:Inst} {t:Typ} {sp:List Stp} : ∀(bs:List Bool) (k:Nat) (L:Lab),¬(Xb x t sp k L bs).2=0->(Xb x t sp k L bs).1=W6
 | [],k,L,h=>by simp [Xb] at h
 | b::bs,k,L,h=>by
  rw [Xb] at h ⊢
  split
  ·rename_i c;rw [if_pos c] at h;exact Ou bs _ _ h
  ·rfl
theorem iF (x:Inst) (r:Rte) (hok:TrpOk x (Zx x r) (ZK x r.visits)) (ho:x.orders.length<=1048576) (ht:x.types.length<=1048576) (hne:0<r.visits.length) (hp:Uz x r=true) (hl:r.rests.length<=r.visits.length+1) :
  PT 208 [.p (Zs x),.p (WM r)] [.p (FT (Xp x r).1),.p (.int .i64 (Xp x r).2)]:=by
 have hsl:(ZK x r.visits).length=r.visits.length:=Yi;have hp2:=hp;simp only [Uz,Zv,Zq] at hp2;have hv20:=hp2.1.2;have hrun:=fun rests (c:Bool) (h:rests.length=r.visits.length+1)=>qP x r rests c hok ho ht hne hp h;have hopt:=fun bs=>YB (x:=x) (t:=Zx x r) (sp:=ZK x r.visits) bs 0 (labF (Zx x r) r.start);unfold Xp Yf
 generalize hS:ZK x r.visits=sp at *
 generalize Zx x r=t at *
 generalize labF t r.start=L0 at *
 refine Ze [5,6] Tryz.func208 rfl lF ?_;simp (disch:=omega) only [Tryz.f208,go_sem,seval];refine (GB x r ho ht Za).use (Zd ?_);rw [hp];refine Zd ?_;refine cD ?_ ?_<;>intro h0<;>simp (disch:=omega) only [Sh.out h0,go_sem,seval,↓reduceIte]
 ·omega
 ·refine Wf (EP 3 rfl rfl (Zd ?_));refine ⟨_,_,N6 (e:=4) rfl Tryz.underlying31 Zg rfl rfl rfl ?_ ?_ ?_,?_⟩
  ·simp
  ·simp;omega
  ·intro q hq;obtain ⟨b,_,rfl⟩:=XH.1 hq
   rfl
  ·have hpl:(YY r.rests (sp.length+1)).length=r.visits.length+1:=by simp [YY];omega
   have hpad:r.rests.map eB++(PV.bool false::List.replicate r.visits.length (PV.bool false)).drop (r.rests.map eB).length=(YY r.rests (sp.length+1)).map eB:=by
    rw [YY,Xy,<- KY,List.drop_replicate,AH,hsl,ZB];rfl
   simp only [ZQ,ZG];rw [hpad];have h0r:=hopt (YY r.rests (sp.length+1))
   have cn: ∀s:List Bool,(r.rests++s).length=r.visits.length+1->PT 232 [.p (.list false ((r.rests++s).map eB)),.p (.int .i64 (r.rests.length:Nat))] [.p (Rg ((Yz s).map (r.rests++ ·))),.p (.bool ((Yz s).map (r.rests++ ·)).isSome)]:=fun s hs=>by
    grind [mM,cK]
   have e1:(Xb x t sp 0 L0 (YY r.rests (sp.length+1))).1.she=HB (Wd (Xt x t sp) 0 L0 (YY r.rests (sp.length+1))):=by
    rw [h0r]
    split
    ·rfl
    ·rename_i c;rw [Ou _ _ _ c];rfl
   have e2:decide ((Xb x t sp 0 L0 (YY r.rests (sp.length+1))).2=0)=(Wd (Xt x t sp) 0 L0 (YY r.rests (sp.length+1))).isSome:=by
    grind
   have hrp:=hrun (YY r.rests (sp.length+1)) false hpl;have hall:XE r.rests (sp.length+1)=Hy r.rests (some (List.replicate (sp.length+1-r.rests.length) false)):=rfl;refine Zp (Weak.fz (o:=3) (by rfl)) (Zh [] _ _ _ _ (JQ ?_));rw [if_pos hpl];refine Yn hrp (Zd ?_);refine Yn (cn (List.replicate (sp.length+1-r.rests.length) false) hpl) ?_;simp (disch:=omega) only [e1,e2,go_sem,seval]
   have hfm:Va Wq none ((XE r.rests (sp.length+1)).filterMap (Wd (Xt x t sp) 0 L0))=Va Wq (Wd (Xt x t sp) 0 L0 (YY r.rests (sp.length+1))) ((Hy r.rests (Yz (List.replicate (sp.length+1-r.rests.length) false))).filterMap (Wd (Xt x t sp) 0 L0)):=by
    rw [hall,D3,List.filterMap_cons];rw [show r.rests++List.replicate (sp.length+1-r.rests.length) false=YY r.rests (sp.length+1) from rfl]
    cases Wd (Xt x t sp) 0 L0 (YY r.rests (sp.length+1)) with
    | none=>rfl
    | some L=>rfl
   clear hall;generalize Va Wq none ((XE r.rests (sp.length+1)).filterMap (Wd (Xt x t sp) 0 L0))=res at hfm ⊢;generalize (Xb x t sp 0 L0 (YY r.rests (sp.length+1))).2=err0
   refine Zl [2,3,4,8,9] (fun q:Option (List Bool)×Option Lab=> [(7,.p (Rg (q.1.map (r.rests++ ·)))),(10,.p (.bool q.2.isSome)),(11,.p (.bool (q.1.map (r.rests++ ·)).isSome))])
    (fun q=> [Zf x,XA r,.cells [.p (.bool false),.p (.int .i64 0),.p (.list true []),.p (.int .i64 0),.p (.int .i64 0)],.dead,.cells [.p (.bool (HB q.2).rest),.p (.int .i64 (HB q.2).dep),.p (.list (HB q.2).times_c ((HB q.2).times.map eTim)),.p (.int .i64 (HB q.2).fin),.p (.int .i64 (HB q.2).miles)]])
    (fun q=>res=Va Wq q.2 ((Hy r.rests q.1).filterMap (Wd (Xt x t sp) 0 L0))/\ ∀s,q.1=some s->s.length=sp.length+1-r.rests.length) (fun q=>(Hy r.rests q.1).length)
    (Yz (List.replicate (sp.length+1-r.rests.length) false),Wd (Xt x t sp) 0 L0 (YY r.rests (sp.length+1))) ⟨hfm,fun s hs=>by have:=fromB_next.nlen _ _ hs;grind⟩ (Weak.mk ?_) ?_
   ·simp (disch:=omega) only [Zf,XA,go_sem,seval]
   ·rintro ⟨cur,b⟩ ⟨hR,hcl⟩;simp only at hR hcl
    cases cur with
    | none =>
     simp only [Hy,List.filterMap_nil] at hR;simp (disch:=omega) only [Option.map_none,AI,cX,Zf,XA,go_sem,seval]
     cases b with
     | none =>
      rw [Va] at hR;subst hR;simp (disch:=omega) only [AI,WS,go_sem,seval];exact we (by simp (disch:=omega) only [zShe,Zk,go_sem,seval])
     | some m =>
      rw [Va] at hR;subst hR;simp (disch:=omega) only [Kn,Yx,HB,go_sem,seval];exact we
    | some s =>
     have hsl2:=hcl s rfl;rw [D3,List.filterMap_cons,hopt] at hR
     have hmu:(Hy r.rests (Yz s)).length<(Hy r.rests (some s)).length:=by rw [D3];simp
     have hnl: ∀s',Yz s=some s'->s'.length=sp.length+1-r.rests.length:=fun s' hs'=>by grind [fromB_next.nlen]
     have hlen:(r.rests++s).length=r.visits.length+1:=by simp;omega
     have hr1:=hrun (r.rests++s) false hlen;have cn1:=cn s hlen;rw [Xy] at hr1 cn1;simp (disch:=omega) only [AN,Kn,cY,Zf,XA,go_sem,seval];generalize Xb x t sp 0 L0 (r.rests++s)=g at hR hr1;obtain ⟨Lg,eg⟩:=g;simp only at hR hr1;refine Yn hr1 (Zd ?_);refine gT ?_ ?_<;>intro h1<;>simp (disch:=omega) only [Sh.out h1,go_sem,seval,↓reduceIte]
     ·subst h1
      cases b with
      | none =>
       simp (disch:=omega) only [AI,WS,go_sem,seval];refine Yn cn1 (Zd ?_);exact ⟨(Yz s,some Lg),⟨hR,hnl⟩,hmu,Weak.mk (by simp (disch:=omega) only [HB,Kn,go_sem,seval])⟩
      | some m =>
       simp (disch:=omega) only [Kn,Yx,HB,go_sem,seval];refine cD ?_ ?_<;>intro h2<;>simp (disch:=omega) only [Sh.out h2,go_sem,seval,↓reduceIte]
       ·refine Yn cn1 ?_;refine Zd ?_;exact ⟨(Yz s,some Lg),⟨by rw [hR];simp only [if_true,Va,Wq,h2],hnl⟩,hmu,Weak.mk (by simp (disch:=omega) only [Kn,go_sem,seval])⟩
       ·refine Yn cn1 ?_;refine Zd ?_;exact ⟨(Yz s,some m),⟨by rw [hR];simp only [if_true,Va,Wq,h2,Yb],hnl⟩,hmu,Weak.mk (by simp (disch:=omega) only [Kn,go_sem,seval])⟩
     ·rw [if_neg h1] at hR;refine Yn cn1 (Zd ?_);exact ⟨(Yz s,b),⟨hR,hnl⟩,hmu,wk⟩
def eR (p:Bool×List Int):PV:= .list p.1 (p.2.map eI)
@[go_sem] theorem ZqA (p:Bool×List Int):eR p= .list p.1 (p.2.map eI):=Zm rfl rfl
theorem jP (L:List (Bool×List Int)) (c:Bool) (d:Nat) (hd:d<=3) (hL:L.length<=1048576) (h: ∀p∈L,p.2.length=d):PC 288 [.p (.list c (L.map eR)),.p (.int .i64 (d:Nat))] (.bool true):=by
 refine Zc Tryz.func288 rfl Zdj ?_
 have e1: ¬(d:Int)<0:=Za
 have e2: ¬(3:Int)<d:=Za
 simp (disch:=omega) only [Tryz.f288,e1,e2,go_sem,seval];refine Zl [0,1] (fun k:Nat=> [(5,.p (.int .i64 k))]) (fun _=> []) (fun k=>k<=L.length) (fun k=>L.length-k) 0 Zb (Weak.mk ?_) ?_
 ·simp (disch:=omega) only [go_sem,seval,↓reduceIte]
 ·intro k hk;refine Zd ?_;refine cD ?_ ?_<;>intro h1<;>simp (disch:=omega) only [Sh.out h1,go_sem,seval,↓reduceIte]
  ·have hk2:k<L.length:=Za
   have hp:=h _ (Zu hk2);simp (disch:=omega) only [hp,go_sem,seval];exact ⟨k+1,Za,Za,wk⟩
def ED (L:List (Bool×List Int)) (k j:Nat):Int:=((L.take k).map fun p=>nth p.2 j).sum
theorem HM {L:List (Bool×List Int)} {k j:Nat} (h:k<L.length):ED L (k+1) j=ED L k j+nth (nth L k).2 j:=by
 grind [ED,X3,Zi]
theorem Nb {L:List (Bool×List Int)} {d j:Nat} (h: ∀p∈L,p.2.length=d/\ ∀n∈p.2,0<=n/\n<=1000) (hj:j<d): ∀k,k<=L.length->0<=ED L k j/\ED L k j<=1000*(k:Int)
 | 0,_=>by simp [ED]
 | k+1,hk=>by
  have ih:=Nb h hj k Za;obtain ⟨h1,h2⟩:=h _ (Zu (show k<L.length by omega));have:=h2 _ (Zu (show j<(nth L k).2.length by omega))
  grind [HM]
def wA (L:List (Bool×List Int)) (d:Nat):List Int:=(List.range d).map fun j=>ED L L.length j
theorem vZ (L:List (Bool×List Int)) (c:Bool) (d:Nat) (hd:1<=d/\d<=3) (hL:L.length<=1048576) (h: ∀p∈L,p.2.length=d/\ ∀n∈p.2,0<=n/\n<=1000) :
  PT 275 [.p (.list c (L.map eR)),.p (.int .i64 (d:Nat))] [.p (.list false ((wA L d).map eI)),.p (.int .i64 0)]:=by
 refine Ze [13] Tryz.func275 rfl Zc6 ?_;simp (disch:=omega) only [Tryz.f275,go_sem,seval];refine (jP L c d hd.2 hL fun p hp=>(h p hp).1).use (Zd ?_);refine Z3 [13] [0,1] (fun q:Nat×List Int=> [(6,.sl 0 0 q.2.length q.2.length),(7,.p (.int .i64 q.1))]) (fun q=> [.elems 1 (q.2.map eI)]) (fun q=>q.1<=d/\q.2=(List.range q.1).map fun j=>ED L L.length j) (fun q=>d-q.1) (0,[]) Zb (Weak.ofNil 6 1 rfl Zb (Weak.mk ?_)) ?_
 ·simp (disch:=omega) only [Zk,ZJ,go_sem,seval,↓reduceIte]
 ·rintro ⟨j,o⟩ ⟨hj,ho⟩;simp only at hj ho
  have hol:o.length=j:=by rw [ho];simp
  refine Zd ?_;refine cD ?_ ?_<;>intro h1<;>simp (disch:=omega) only [Sh.out h1,go_sem,seval,↓reduceIte]
  ·have hj2:j<d:=Za
   refine Zl [0,1,6,7] (fun k:Nat=> [(8,.p (.int .i64 (ED L k j))),(9,.p (.int .i64 k))]) (fun _=> [.elems 1 (o.map eI)]) (fun k=>k<=L.length) (fun k=>L.length-k) 0 Zb (Weak.mk ?_) ?_
   ·simp (disch:=omega) only [ED,Jj,Zk,List.sum_nil,go_sem,seval,↓reduceIte]
   ·intro k hk;refine Zd ?_;refine cD ?_ ?_<;>intro h2<;>simp (disch:=omega) only [Sh.out h2,go_sem,seval,↓reduceIte]
    ·have hk2:k<L.length:=Za
     obtain ⟨g1,g2⟩:=h _ (Zu hk2);have g3:=g2 _ (Zu (show j<(nth L k).2.length by omega));have g4:=Nb h hj2 k hk;have g5:=HM (j:=j) hk2
     have g6:j<(nth L k).2.length:=Za
     refine Zd ?_;exact ⟨k+1,Za,Za,Weak.mk (by simp (disch:=omega) only [g5,go_sem,seval])⟩
    ·have hkl:k=L.length:=Za
     subst hkl;refine ⟨(j+1,o++ [ED L L.length j]),⟨Za,by grind [Yh]⟩,Za,Weak.mk (by simp (disch:=omega) only [ZA,ZE,ZJ,Xy,Zt,Zk,go_sem,seval])⟩
  ·have hjd:j=d:=Za
   subst hjd;refine Zp (Weak.fz (o:=0) (by rfl)) ?_;refine Zh [] _ _ _ _ ?_;simp (disch:=omega) only [Zt,Zk,ZG,go_sem,seval];rw [wA,<- ho];exact we
theorem jX (a b:List Int) (c d:Bool) (ha:a.length<=1048576) (hb:b.length<=1048576):PC 229 [.p (.list c (a.map eI)),.p (.list d (b.map eI))] (.bool (V2 a b)):=by
 refine Zc Tryz.func229 rfl Zcn ?_;simp (disch:=omega) only [Tryz.f229,go_sem,seval];refine cD ?_ ?_<;>intro h1<;>simp (disch:=omega) only [Sh.out h1,go_sem,seval]
 ·grind [V2]
 ·have h1':a.length=b.length:=Za
  refine Zl [0,1] (fun k:Nat=> [(5,.p (.int .i64 k))]) (fun _=> []) (fun k=>k<=a.length/\ ∀j,j<k->nth a j<=nth b j) (fun k=>a.length-k) 0 Zb (Weak.mk ?_) ?_
  ·simp (disch:=omega) only [go_sem,seval,↓reduceIte]
  ·rintro k ⟨hk,hno⟩;refine Zd ?_;refine cD ?_ ?_<;>intro h2<;>simp (disch:=omega) only [Sh.out h2,go_sem,seval,↓reduceIte]
   ·have hk2:k<a.length:=Za
    refine Xj (Zd ?_);refine cD ?_ ?_<;>intro h3<;>simp (disch:=omega) only [Sh.out h3,go_sem,seval,↓reduceIte]
    ·grind [V2]
    ·exact ⟨k+1,⟨Za,Zr.2 ⟨hno,Za⟩⟩,Za,wk⟩
   ·have hkl:k=a.length:=Za
    simp_all [V2]
theorem jJ (x:Inst) (ht:x.types.length<=1048576):PC 276 [.p (Zs x)] (.int .i64 (dimsOf x.types)):=by
 refine Zc Tryz.func276 rfl Zc7 ?_;simp (disch:=omega) only [Tryz.f276,go_sem,seval];refine cD ?_ ?_<;>intro h1<;>simp (disch:=omega) only [Sh.out h1,go_sem,seval,↓reduceIte]
 ·grind [dimsOf]
 simp_all [dimsOf]
structure LdOk (x:Inst):Prop where
 ord:x.orders.length<=10
 typ:x.types.length<=1048576
 dim:1<=dimsOf x.types/\dimsOf x.types<=3
 load: ∀o∈x.orders,(o.load.length:Int)=dimsOf x.types/\ ∀n∈o.load,0<=n/\n<=1000
theorem QO {x:Inst} (h:InstOk x):LdOk x:=by
 have ht:=h.types.1;simp only [rng,Zq] at ht;have ho:=h.orders
 have h0:0<x.types.length:=Za
 have hcap:=h.types.2 0 h0;unfold UE at hcap;obtain ⟨⟨⟨⟨⟨⟨⟨⟨_,_⟩,_⟩,_⟩,hcap⟩,_⟩,_⟩,_⟩,_⟩:=hcap;simp only [VI,Zv,Zq,rng] at hcap;refine ⟨ho.1,Za,Za,fun o hm=> ?_⟩;obtain ⟨i,hi,rfl⟩:=ZU.1 hm;have:=(ho.2 i hi).load;rw [Zi hi] at this
 simp_all [loadOk,rng]
def Hk (x:Inst) (l:List Vis) (n k:Nat):List (Bool×List Int):=((List.range k).filter fun i=>EJ x l n i&&hasO l i).map fun i=>((nth x.orders i).load_c,(nth x.orders i).load)
theorem aM {x:Inst} {l:List Vis} {n k:Nat} :Hk x l n (k+1)=Hk x l n k++if (EJ x l n k&&hasO l k)=true then [((nth x.orders k).load_c,(nth x.orders k).load)] else []:=by
 grind [Hk,Yh]
theorem iJ {x:Inst} {l:List Vis} {n:Nat} : ∀k,(Hk x l n k).length<=k:=fun k=>by
 grind [Hk]
theorem sC {x:Inst} {l:List Vis} {n k:Nat} (h:LdOk x) (hk:k<=x.orders.length): ∀p∈Hk x l n k,p.2.length=(dimsOf x.types).toNat/\ ∀m∈p.2,0<=m/\m<=1000:=fun p hp=>by
 obtain ⟨i,hi,rfl⟩:=XH.1 hp;have hi2:=ZO.1 (Jk.1 hi).1;have:=h.load _ (Zu (show i<x.orders.length by omega))
 grind
theorem iK {x:Inst} {l:List Vis} {n:Nat} :wA (Hk x l n x.orders.length) (dimsOf x.types).toNat=Y2 x l n:=by
 unfold wA Y2
 grind [ED,Hk,Dn,Ku]
def yF (x:Inst) (l:List Vis) (n i k:Nat):Bool:=(l.take (min k n)).foldl (fun on v=>if v.order=(i:Int) then !v.drp else on) (decide ((nth x.orders i).pick.place<0))
def P0 (l:List Vis) (i k:Nat):Bool:=(l.take k).any fun v=>decide (v.order=(i:Int))
theorem mU {x:Inst} {l:List Vis} {n i k:Nat} (h:k<l.length):yF x l n i (k+1)=if (nth l k).order=(i:Int) then (if k<n then !(nth l k).drp else yF x l n i k) else yF x l n i k:=by
 grind [yF,X3,Zi]
theorem bL {l:List Vis} {i k:Nat} (h:k<l.length):P0 l i (k+1)=if (nth l k).order=(i:Int) then true else P0 l i k:=by
 grind [P0,X3,Zi]
theorem uC {x:Inst} {l:List Vis} {n i:Nat} (h:n<=l.length):yF x l n i l.length=EJ x l n i:=by
 grind [yF,EJ]
theorem kT {l:List Vis} {i:Nat} :P0 l i l.length=hasO l i:=by grind [P0,hasO]
theorem T0 (x:Inst) (l:List Vis) (c:Bool) (n:Nat) (hx:LdOk x) (hl:l.length<=1048576) (hn:n<=l.length) :
  PT 255 [.p (Zs x),.p (.list c (l.map Xa)),.p (.int .i64 (n:Nat))] [.p (.list false ((Y2 x l n).map eI)),.p (.int .i64 0)]:=by
 have ho:=hx.ord;refine Ze [15] Tryz.func255 rfl ZcM ?_;simp (disch:=omega) only [Tryz.f255,go_sem,seval];refine Z3 [15] [1,2,3] (fun q:Nat×List (Bool×List Int)=> [(8,.sl 1 0 q.2.length q.2.length),(9,.p (.int .i64 q.1))]) (fun q=> [Zf x,.elems 1 (q.2.map eR)]) (fun q=>q.1<=x.orders.length/\q.2=Hk x l n q.1) (fun q=>x.orders.length-q.1) (0,[]) (by simp [Hk]) (Weak.ofNil 8 1 rfl Zb (Weak.mk ?_)) ?_
 ·simp (disch:=omega) only [Zf,Zk,ZJ,ZR,ZH,go_sem,seval]
 ·rintro ⟨i,o⟩ ⟨hi,hob⟩;simp only at hi hob
  have hol:o.length<=i:=by grind [iJ]
  refine YV ?_;refine cD ?_ ?_<;>intro h1<;>simp (disch:=omega) only [Sh.out h1,go_sem,seval,↓reduceIte]
  ·have hi2:i<x.orders.length:=Za
   refine Zl [1,2,3,8,9] (fun k:Nat=> [(10,.p (.bool (yF x l n i k))),(11,.p (.bool (P0 l i k))),(12,.p (.int .i64 k))]) (fun _=> [Zf x,.elems 1 (o.map eR)]) (fun k=>k<=l.length) (fun k=>l.length-k) 0 Zb (Weak.mk ?_) ?_
   ·simp (disch:=omega) only [Zf,yF,P0,Nat.zero_min,Jj,UQ,List.any_nil,go_sem,seval]
   ·intro k hk;refine YV ?_;refine cD ?_ ?_<;>intro h2<;>simp (disch:=omega) only [Sh.out h2,go_sem,seval,↓reduceIte]
    ·have hk2:k<l.length:=Za
     have s1:=mU (x:=x) (n:=n) (i:=i) hk2;have s2:=bL (i:=i) hk2;refine Z0 ?_ ?_<;>intro h3
     ·rw [if_neg h3] at s1 s2;exact ⟨k+1,Za,Za,Weak.mk (by simp (disch:=omega) only [s1,s2,go_sem,seval])⟩
     ·have h3':=Z1.1 h3;rw [if_pos h3'] at s1 s2;refine Z0 ?_ ?_<;>intro h4
      ·rw [if_pos Za] at s1;exact ⟨k+1,Za,Za,Weak.mk (by simp (disch:=omega) only [s1,s2,go_sem,seval])⟩
      ·rw [if_neg Za] at s1;exact ⟨k+1,Za,Za,Weak.mk (by simp (disch:=omega) only [s1,s2,go_sem,seval])⟩
    ·have hkl:k=l.length:=Za
     subst hkl;have s3:=aM (x:=x) (l:=l) (n:=n) (k:=i);rw [uC hn,kT];refine Jv ?_ ?_<;>intro h5
     ·refine Z0 ?_ ?_<;>intro h6
      ·rw [h5,h6,Bool.and_self,if_pos rfl] at s3;exact ⟨(i+1,o++ [((nth x.orders i).load_c,(nth x.orders i).load)]),⟨Za,by grind⟩,Za,Weak.mk (by simp (disch:=omega) only [ZA,ZE,ZJ,Xy,Zt,Zk,go_sem,seval])⟩
      ·rw [h5,h6,Bool.and_false,if_neg Zb,Yp] at s3;exact ⟨(i+1,o),⟨Za,by grind⟩,Za,wk⟩
     ·have h5':EJ x l n i=false:=Za
      rw [h5',QQ,if_neg Zb,Yp] at s3;exact ⟨(i+1,o),⟨Za,by grind⟩,Za,wk⟩
  ·have hik:i=x.orders.length:=Za
   subst hik
   have hD:dimsOf x.types=((dimsOf x.types).toNat:Int):=by have:=hx.dim;omega
   have hok:=sC (l:=l) (n:=n) hx (Zy _);rw [<- hob] at hok;have hs:=iK (x:=x) (l:=l) (n:=n);rw [<- hob] at hs;refine Zp (Weak.fz (o:=1) (by rfl)) (Zh [] _ _ _ _ (JQ ?_));refine (jJ x hx.typ).use (Zd ?_);rw [hD];refine Yn (vZ o false (dimsOf x.types).toNat (by have:=hx.dim;omega) Za hok) (Zd ?_);rw [<- hs];exact we
def qI (l:List Int):PV:= .list false (l.map eI)
@[go_sem] theorem ZaI (l:List Int):qI l= .list false (l.map eI):=Zm rfl rfl
def QT (x:Inst) (l:List Vis):List (List Int):=(List.range (l.length+1)).map (Y2 x l)
theorem cE (x:Inst) (r:Rte) (hx:InstOk x) (hl:r.visits.length<=1048576) (h0:Xf x r.visits=0) (hchk:PC 205 [.p (Zs x),.p (WM r)] (.int .i64 (Xf x r.visits))) :
  PT 228 [.p (Zs x),.p (WM r)] [.p (.list false ((QT x r.visits).map qI)),.p (.int .i64 0)]:=by
 have hd:=QO hx;refine Ze [12] Tryz.func228 rfl Zcm ?_;simp (disch:=omega) only [Tryz.f228,go_sem,seval];refine (hchk).use (Zd ?_);simp (disch:=omega) only [h0,go_sem,seval];refine Z3 [12] [2,3] (fun q:Nat×List (List Int)=> [(7,.sl 2 0 q.2.length q.2.length),(8,.p (.int .i64 q.1))]) (fun q=> [Zf x,XA r,.elems 1 (q.2.map qI)]) (fun q=>q.1<=r.visits.length+1/\q.2=(List.range q.1).map (Y2 x r.visits)) (fun q=>r.visits.length+1-q.1) (0,[]) Zb (Weak.ofNil 7 1 rfl Zb (Weak.mk ?_)) ?_
 ·simp (disch:=omega) only [Zf,XA,Zk,ZJ,ZR,ZH,go_sem,seval]
 ·rintro ⟨k,o⟩ ⟨hk,ho⟩;simp only at hk ho
  have hol:o.length=k:=by rw [ho];simp
  refine Ai ?_;refine cD ?_ ?_<;>intro h1<;>simp (disch:=omega) only [Sh.out h1,go_sem,seval,↓reduceIte]
  ·refine Yn (T0 x r.visits r.visits_c k hd hl Za) (Zd ?_);exact ⟨(k+1,o++ [Y2 x r.visits k]),⟨Za,by grind [Yh]⟩,Za,Weak.mk (by simp (disch:=omega) only [ZA,ZE,ZJ,Xy,Zt,Zk,go_sem,seval])⟩
  ·have hkl:k=r.visits.length+1:=Za
   subst hkl;refine Zp (Weak.fz (o:=2) (by rfl)) (Zh [] _ _ _ _ (JQ ?_));rw [QT,<- ho];exact we
theorem jY (x:Inst) (r:Rte) (hx:InstOk x) (hl:r.visits.length<=1048576) (hty:0<=r.typ/\r.typ<(x.types.length:Int)) (h0:Xf x r.visits=0) (hchk:PC 205 [.p (Zs x),.p (WM r)] (.int .i64 (Xf x r.visits))) :
  PC 207 [.p (Zs x),.p (WM r)] (.int .i64 (if Vz x (Zx x r).cap r.visits=true then 0 else 17)):=by
 have hd:=QO hx;have htl:=hd.typ
 have hti:r.typ.toNat<x.types.length:=Za
 have hcp:(nth x.types r.typ.toNat).cap.length<=3:=by
  have hcap:=hx.types.2 _ hti;unfold UE at hcap;obtain ⟨⟨⟨⟨⟨⟨⟨⟨_,_⟩,_⟩,_⟩,hcap⟩,_⟩,_⟩,_⟩,_⟩:=hcap;simp only [VI,Zv,Zq,rng] at hcap;omega
 have hll:(QT x r.visits).length=r.visits.length+1:=by simp [QT]
 have hln: ∀k,k<r.visits.length+1->nth (QT x r.visits) k=Y2 x r.visits k:=fun k hk=>by
  grind [Zi,QT]
 have hal: ∀k,(Y2 x r.visits k).length<=3:=fun k=>by rw [Fy];have:=hd.dim;omega
 have cl:=cE x r hx hl h0 hchk;unfold Zx
 generalize hL:QT x r.visits=L at *
 refine Zc Tryz.func207 rfl Zb3 ?_
 have e1: ¬r.typ<0:=Za
 have e2: ¬(x.types.length:Int)<=r.typ:=Za
 simp (disch:=omega) only [Tryz.f207,e1,e2,go_sem,seval];refine Yn cl (Zd ?_);refine Zl [2,3,5] (fun k:Nat=> [(7,.p (.int .i64 k))]) (fun _=> [Zf x,XA r]) (fun k=>k<=r.visits.length+1/\ ∀j,j<k->V2 (Y2 x r.visits j) (nth x.types r.typ.toNat).cap=true) (fun k=>r.visits.length+1-k) 0 Zb (Weak.mk ?_) ?_
 ·simp (disch:=omega) only [Zf,XA,go_sem,seval]
 ·rintro k ⟨hk,hno⟩;simp (disch:=omega) only [Zf,XA,hll,go_sem,seval];refine cD ?_ ?_<;>intro h1<;>simp (disch:=omega) only [Sh.out h1,go_sem,seval,↓reduceIte]
  ·have hk2:k<r.visits.length+1:=Za
   have hk3:k<L.length:=Za
   have hk4:=hal k;refine Xj ?_;simp (disch:=omega) only [hln k hk2,go_sem,seval];refine Zo (jX (Y2 x r.visits k) (nth x.types r.typ.toNat).cap false (nth x.types r.typ.toNat).cap_c Za Za) (Zd ?_);refine Z0 ?_ ?_<;>intro h2
   ·have h2':V2 (Y2 x r.visits k) (nth x.types r.typ.toNat).cap=false:=by grind
    have: ¬Vz x (nth x.types r.typ.toNat).cap r.visits=true:=fun h=>by
     grind [Vz]
    grind
   ·exact ⟨k+1,⟨Za,Zr.2 ⟨hno,by grind⟩⟩,Za,wk⟩
  ·have:Vz x (nth x.types r.typ.toNat).cap r.visits=true:=by
    grind [Vz]
   grind
def M1 (j:Nat):Int:=if j=63 then-9223372036854775808 else ((pw j:Nat):Int)
theorem Sg {j:Nat} (h:j<63):M1 j=((pw j:Nat):Int):=by rw [M1,if_neg Za]
theorem ZdV {j:Nat} (h:j<=62):pw j<=4611686018427387904:=by have:=KD h;rwa [GD] at this
theorem M3 {j:Nat} (h:j<=63):0<M1 j↔j<63:=by
 grind [M1,GE]
theorem yT {S q:Nat} (hS:S<9223372036854775808) (h:q<=S):IntKind.i64.wrap (q:Int)=(q:Int):=by rw [IntKind.wrap_i64];omega
theorem ZdX {P:Program} {t:TypeId} {S j:Nat} (hS:S<9223372036854775808):Yr P .quo t (.p (.int .i64 (S:Int))) (.p (.int .i64 ((pw j:Nat):Int)))=some (.int .i64 ((S / pw j:Nat):Int)):=by
 have hp:=GE j;rw [fW Za]
 have e:(S:Int).tdiv ((pw j:Nat):Int)=((S / pw j:Nat):Int):=by
  rfl
 have hle:=Nat.div_le_self S (pw j);rw [e,yT hS hle]
theorem vH {P:Program} {t:TypeId} {S:Nat} :Yr P .rem t (.p (.int .i64 (S:Int))) (.p (.int .i64 2))=some (.int .i64 ((S%2:Nat):Int)):=by
 rfl
theorem ZkN {S j:Nat} (hS:S<9223372036854775808):(IntKind.i64.wrap ((S:Int) / ((pw j:Nat):Int))).tmod 2=((S / pw j%2:Nat):Int):=by
 have hle:=Nat.div_le_self S (pw j)
 grind [yT]
theorem mJ {P:Program} {t:TypeId} {j:Nat} (h:j<63):Yr P .mul t (.p (.int .i64 ((pw j:Nat):Int))) (.p (.int .i64 2))=some (.int .i64 (M1 (j+1))):=by
 grind [fU,M1,ZdV,pw,IntKind.wrap_i64]
theorem fZ (t:Typ) (s:Int) (h1:t.skills<9223372036854775808) (h2:s<9223372036854775808):PC 206 [.p (X7 t),.p (.int .i64 s)] (.bool (YK t s)):=by
 refine Zc Tryz.func206 rfl Zb2 ?_;simp (disch:=omega) only [Tryz.f206,go_sem,seval];refine gF ?_ ?_<;>intro c1<;>simp (disch:=omega) only [Sh.out c1,go_sem,seval,↓reduceIte]
 ·grind [YK]
 ·refine cD ?_ ?_<;>intro c2<;>simp (disch:=omega) only [Sh.out c2,go_sem,seval]
  ·grind [YK]
  ·obtain ⟨M,hM⟩: ∃M:Nat,t.skills=(M:Int):=⟨t.skills.toNat,Za⟩;obtain ⟨S,rfl⟩: ∃S:Nat,s=(S:Int):=⟨s.toNat,Za⟩
   have hMl:M<9223372036854775808:=Za
   have hSl:S<9223372036854775808:=Za
   have hab: ∀b:Bool,((List.range 63).all fun i=> !S.testBit i||M.testBit i)=b->YK t (S:Int)=b:=fun b hb=>by
    simp_all [YK]
   refine Zl [1,2] (fun j:Nat=> [(5,.p (.int .i64 (M1 j)))]) (fun _=> [Yj t]) (fun j=>j<=63/\ ∀i,i<j->(!S.testBit i||M.testBit i)=true) (fun j=>63-j) 0 Zb (Weak.mk ?_) ?_
   ·simp (disch:=omega) only [Yj,hM,show M1 0=1 from rfl,go_sem,seval]
   ·rintro j ⟨hj,hno⟩;simp (disch:=omega) only [Yj,hM,go_sem,seval];refine cD ?_ ?_<;>intro c3<;>simp (disch:=omega) only [Sh.out c3,go_sem,seval,↓reduceIte]
    ·have hj2:j<63:=(M3 hj).1 c3;simp (disch:=omega) only [Sg hj2,ZkN hSl,Lk,go_sem,seval];refine gT ?_ ?_<;>intro c4<;>simp (disch:=omega) only [Sh.out c4,Sg hj2,ZdX hMl,ZkN hSl,vH,mJ hj2,Lk,Lj,go_sem,seval]
     ·refine cD ?_ ?_<;>intro c5<;>simp (disch:=omega) only [Sh.out c5,mJ hj2,go_sem,seval]
      ·grind
      ·exact ⟨j+1,⟨Za,Zr.2 ⟨hno,by grind⟩⟩,Za,Weak.mk (by simp (disch:=omega) only [hM,go_sem,seval])⟩
     ·exact ⟨j+1,⟨Za,Zr.2 ⟨hno,by grind⟩⟩,Za,Weak.mk (by simp (disch:=omega) only [hM,go_sem,seval])⟩
    ·have hj63:j=63:=by
      rcases Wm j 63 with h | h
      ·simp_all [M3]
      ·omega
     simp_all
theorem Pw (l:List Vis) (c:Bool) (n:Nat) (hn:n<l.length) (hl:l.length<=1048576):PC 233 [.p (.list c (l.map Xa)),.p (.int .i64 (n:Nat))] (.bool (UJ l n)):=by
 refine Zc Tryz.func233 rfl Zcr ?_;simp (disch:=omega) only [Tryz.f233,go_sem,seval];refine Zl [0,1] (fun k:Nat=> [(5,.p (.int .i64 k))]) (fun _=> []) (fun k=>k<=n/\ ∀j,j<k->(nth l j).order≠(nth l n).order) (fun k=>n-k) 0 Zb (Weak.mk ?_) ?_
 ·simp (disch:=omega) only [go_sem,seval,↓reduceIte]
 ·rintro k ⟨hk,hno⟩;refine Zd ?_;refine cD ?_ ?_<;>intro h1<;>simp (disch:=omega) only [Sh.out h1,go_sem,seval,↓reduceIte]
  ·have hk2:k<n:=Za
   have hk3:k<l.length:=Za
   refine Xj (Zd ?_);refine cD ?_ ?_<;>intro h2<;>simp (disch:=omega) only [Sh.out h2,go_sem,seval,↓reduceIte]
   ·grind [UJ,K0]
   ·exact ⟨k+1,⟨Za,Zr.2 ⟨hno,h2⟩⟩,Za,wk⟩
  ·have hkn:k=n:=Za
   subst hkn
   have:UJ l k=true:=by
    unfold UJ;rw [XN,Vc];intro v hv;obtain ⟨j,j1,j2,rfl⟩:=QC hv
    grind
   rw [this]
def Df (c m o w:Int):AM.Obj:= .cells [.p (.int .i64 c),.p (.int .i64 m),.p (.int .i64 o),.p (.int .i64 w)]
theorem Ce {x:Inst} {l:List Vis} {t:Int} : ∀n:Nat,(0<=(chgF x l t n).1/\(chgF x l t n).1<=n)/\(0<=(chgF x l t n).2/\(chgF x l t n).2<=n)
 | 0=>by simp [chgF]
 | n+1=>by
  have ih:=Ce (x:=x) (l:=l) (t:=t) n
  grind [chgF]
theorem dT (x:Inst) (r:Rte) (s:She) (hty:0<=r.typ/\r.typ<(x.types.length:Int)) (ho:x.orders.length<=1048576) (ht:x.types.length<=1048576) (hl:r.visits.length<=1048576) (hv:Inr x r.visits)
  (hc:0<=(Zx x r).fixed/\(Zx x r).fixed<=100000/\0<=(Zx x r).perMile/\(Zx x r).perMile<=100/\0<=(Zx x r).perTick/\(Zx x r).perTick<=100) (ho2:0<=(Zx x r).opn/\(Zx x r).opn<=4096)
  (hf: -4096<=s.fin/\s.fin<=8192) (hm:0<=s.miles/\s.miles<=1000000) :
  PC 209 [.p (Zs x),.p (WM r),.p (FT s)] (EG (De x r s)):=by
 have hti:r.typ.toNat<x.types.length:=Za
 unfold De;have htd:nth x.types r.typ.toNat=Zx x r:=rfl
 generalize Zx x r=t at *
 have e1: ¬r.typ<0:=Za
 have e2: ¬(x.types.length:Int)<=r.typ:=Za
 have p1:0<=t.perMile*s.miles/\t.perMile*s.miles<=100*1000000:=⟨UP Za Za,VP Za Za Za Za⟩
 have hW: -8192<=s.fin-t.opn/\s.fin-t.opn<=8192:=Za
 have p2: -819200<=t.perTick*(s.fin-t.opn)/\t.perTick*(s.fin-t.opn)<=819200:=by
  generalize s.fin-t.opn=w at hW;have a1:=BG hW.2 (show 0<=t.perTick by omega);have a2:=BG hW.1 (show 0<=t.perTick by omega);omega
 have p3: -128<=(s.fin-t.opn).tdiv 64/\(s.fin-t.opn).tdiv 64<=128:=by
  grind
 have p4:0<=(s.fin-t.opn).tdiv 64*(s.fin-t.opn).tdiv 64/\(s.fin-t.opn).tdiv 64*(s.fin-t.opn).tdiv 64<=16384:=by
  generalize (s.fin-t.opn).tdiv 64=q at p3;refine ⟨?_,?_⟩
  ·rcases AR 0 q with h | h
   ·exact UP h h
   ·exact Int.mul_nonneg_of_nonpos_of_nonpos h h
  ·rcases AR 0 q with h | h
   ·have:=VP p3.2 p3.2 h Za;omega
   ·have h2:0<= -q:=Za
    have:=VP (show-q<=128 by omega) (show-q<=128 by omega) h2 Za
    grind
 refine Zc Tryz.func209 rfl Zb4 ?_;simp (disch:=omega) only [Tryz.f209,e1,e2,htd,go_sem,seval];refine Zl [3,4,6,9] (fun k:Nat=> [(10,.p (.int .i64 k))]) (fun k=> [Zf x,XA r,.cells [.p (.bool s.rest),.p (.int .i64 s.dep),.p (.list s.times_c (s.times.map eTim)),.p (.int .i64 s.fin),.p (.int .i64 s.miles)],Df 0 0 0 0,Yj t,Df (t.fixed+t.perMile*s.miles+t.perTick*(s.fin-t.opn)) (chgF x r.visits r.typ k).1 (chgF x r.visits r.typ k).2 ((s.fin-t.opn).tdiv 64*(s.fin-t.opn).tdiv 64)]) (fun k=>k<=r.visits.length) (fun k=>r.visits.length-k) 0 Zb (Weak.mk ?_) ?_
 ·simp (disch:=omega) only [Zf,XA,Yj,Df,chgF,go_sem,seval]
 ·intro k hk;have hch:=Ce (x:=x) (l:=r.visits) (t:=r.typ) k;simp (disch:=omega) only [Zf,XA,Yj,Df,go_sem,seval];refine cD ?_ ?_<;>intro h1<;>simp (disch:=omega) only [Sh.out h1,go_sem,seval,↓reduceIte]
  ·have hk2:k<r.visits.length:=Za
   obtain ⟨v1,v2⟩:=hv _ (Zu hk2)
   have e3: ¬(nth r.visits k).order<0:=Za
   have e4: ¬(x.orders.length:Int)<=(nth r.visits k).order:=Za
   have v3:(nth r.visits k).order.toNat<x.orders.length:=Za
   simp (disch:=omega) only [e3,e4,go_sem,seval];refine (Pw r.visits r.visits_c k hk2 hl).use (Zd ?_);have hcs:chgF x r.visits r.typ (k+1)=_:=chgF.eq_2 x r.visits r.typ k;refine Z0 ?_ ?_<;>intro h2
   ·have h2': ¬UJ r.visits k=true:=by grind
    exact ⟨k+1,Za,Za,Weak.mk (by simp (disch:=omega) only [hcs,if_neg h2',go_sem,seval])⟩
   ·have h2':UJ r.visits k=true:=by grind
    refine Xj (Zd ?_);refine gT ?_ ?_<;>intro h3<;>simp (disch:=omega) only [Sh.out h3,go_sem,seval,↓reduceIte]
    ·refine cD ?_ ?_<;>intro h4<;>simp (disch:=omega) only [Sh.out h4,go_sem,seval,↓reduceIte]
     ·have hn:Xw (nth x.orders (nth r.visits k).order.toNat).now r.typ=true:=by simp [Xw,h3,h4]
      refine Xj (Zd ?_);refine Jv ?_ ?_<;>intro h5
      ·refine Z0 ?_ ?_<;>intro h6
       ·have hl2:Xw (nth x.orders (nth r.visits k).order.toNat).last r.typ=true:=by simp [Xw,h5,h6]
        exact ⟨k+1,Za,Za,Weak.mk (by simp (disch:=omega) only [hcs,if_pos h2',hn,hl2,go_sem,seval,↓reduceIte])⟩
       ·have hl2:Xw (nth x.orders (nth r.visits k).order.toNat).last r.typ=false:=by simp_all [Xw]
        exact ⟨k+1,Za,Za,Weak.mk (by simp (disch:=omega) only [hcs,if_pos h2',hn,hl2,Vj,Y6,go_sem,seval,↓reduceIte])⟩
      ·have hl2:Xw (nth x.orders (nth r.visits k).order.toNat).last r.typ=false:=by simp_all [Xw]
       exact ⟨k+1,Za,Za,Weak.mk (by simp (disch:=omega) only [hcs,if_pos h2',hn,hl2,Vj,Y6,go_sem,seval,↓reduceIte])⟩
     ·have hn:Xw (nth x.orders (nth r.visits k).order.toNat).now r.typ=false:=by simp_all [Xw]
      refine Xj (Zd ?_);refine Jv ?_ ?_<;>intro h5
      ·refine Z0 ?_ ?_<;>intro h6
       ·have hl2:Xw (nth x.orders (nth r.visits k).order.toNat).last r.typ=true:=by simp [Xw,h5,h6]
        exact ⟨k+1,Za,Za,Weak.mk (by simp (disch:=omega) only [hcs,if_pos h2',hn,hl2,Vj,Y6,go_sem,seval,↓reduceIte])⟩
       ·have hl2:Xw (nth x.orders (nth r.visits k).order.toNat).last r.typ=false:=by grind
        exact ⟨k+1,Za,Za,Weak.mk (by simp (disch:=omega) only [hcs,if_pos h2',hn,hl2,Vj,Y6,go_sem,seval,↓reduceIte])⟩
      ·have hl2:Xw (nth x.orders (nth r.visits k).order.toNat).last r.typ=false:=by simp_all [Xw]
       exact ⟨k+1,Za,Za,Weak.mk (by simp (disch:=omega) only [hcs,if_pos h2',hn,hl2,Vj,Y6,go_sem,seval,↓reduceIte])⟩
    ·have hn:Xw (nth x.orders (nth r.visits k).order.toNat).now r.typ=false:=by simp_all [Xw]
     refine Xj (Zd ?_);refine Jv ?_ ?_<;>intro h5
     ·refine Z0 ?_ ?_<;>intro h6
      ·have hl2:Xw (nth x.orders (nth r.visits k).order.toNat).last r.typ=true:=by simp [Xw,h5,h6]
       exact ⟨k+1,Za,Za,Weak.mk (by simp (disch:=omega) only [hcs,if_pos h2',hn,hl2,Vj,Y6,go_sem,seval,↓reduceIte])⟩
      ·have hl2:Xw (nth x.orders (nth r.visits k).order.toNat).last r.typ=false:=by simp_all [Xw]
       exact ⟨k+1,Za,Za,Weak.mk (by simp (disch:=omega) only [hcs,if_pos h2',hn,hl2,Vj,Y6,go_sem,seval,↓reduceIte])⟩
     ·have hl2:Xw (nth x.orders (nth r.visits k).order.toNat).last r.typ=false:=by grind
      exact ⟨k+1,Za,Za,Weak.mk (by simp (disch:=omega) only [hcs,if_pos h2',hn,hl2,Vj,Y6,go_sem,seval,↓reduceIte])⟩
  grind
theorem SqOk.len {x:Inst} {l:List Vis} (h:SqOk x l) (hn:x.orders.length<=10):l.length<=20:=by
 have h1:=List.Nodup.length_le_of_subset (l₁ :=l) (l₂ :=(List.range 10).flatMap fun i:Nat=> [(⟨(i:Int),false⟩:Vis),⟨(i:Int),true⟩]) h.nd (fun v hv=>by
  obtain ⟨v1,v2⟩:=h.inr v hv;rw [X0];refine ⟨v.order.toNat,ZO.2 Za,?_⟩;obtain ⟨o,d⟩:=v
  have e:((o.toNat:Nat):Int)=o:=by grind
  simp_all)
 have h2:((List.range 10).flatMap fun i:Nat=> [(⟨(i:Int),false⟩:Vis),⟨(i:Int),true⟩]).length=20:=rfl;omega
theorem SqOk.vis {x:Inst} {l:List Vis} (h:SqOk x l) {v:Vis} (hv:v∈l):Ao x v=true:=by
 obtain ⟨v1,v2⟩:=h.inr v hv;obtain ⟨i,hi⟩: ∃i:Nat,v.order=(i:Int):=⟨v.order.toNat,Za⟩;have ho:=h.own (i:=i) ⟨v,hv,hi⟩
 have hpl:0<=(Xo x v).place:=by
  unfold Xo;rw [hi,XD]
  cases hd:v.drp with
  | true=>exact ho.isD (by rw [<- hi,<- hd];exact hv)
  | false=>exact ho.isP (by rw [<- hi,<- hd];exact hv)
 simp [Ao,NF,v1,v2,hpl]
theorem uZ {x:Inst} {r:Rte} (h:SqOk x r.visits) (hn:x.orders.length<=10) (ht:0<=r.typ/\r.typ<(x.types.length:Int)):Uz x r=(decide (0<=r.start)&&decide (r.start<=4096)):=by
 have h1:r.visits.all (Ao x)=true:=ZD.2 fun v hv=>h.vis hv;have h2:=h.len hn
 grind [Uz]
theorem Te {n:Net} (h:netOk n):netR n/\ ∀a∈n.arcs,0<=a.miles/\a.miles<=10000:=by
 obtain ⟨⟨⟨h1,_⟩,h2⟩,h3⟩:=h
 have ha: ∀a∈n.arcs,rA a/\0<=a.miles/\a.miles<=10000:=fun a hm=>by
  obtain ⟨i,hi,rfl⟩:=ZU.1 hm;have:=h3 i hi;unfold MR at this;rw [Zi hi] at this;obtain ⟨⟨⟨⟨⟨_,g1⟩,_⟩,g2⟩,g3⟩,g4⟩:=this;refine ⟨⟨g2,g3,fun p hp=> ?_⟩,g1.2.2.1,g1.2.2.2.1⟩;obtain ⟨j,hj,rfl⟩:=ZU.1 hp
  simp_all [Ah,Zi,Mx,rng]
 exact ⟨⟨Za,Za,fun a hm=>(ha a hm).1⟩,fun a hm=>(ha a hm).2⟩
theorem WX {x:Inst} (hx:InstOk x) {i:Nat} (hi:i<x.types.length):(0<=(nth x.types i).opn/\(nth x.types i).opn<=(nth x.types i).cls/\(nth x.types i).cls<=4096)/\(1<=(nth x.types i).drive/\(nth x.types i).drive<=4096)/\(0<=(nth x.types i).rest/\(nth x.types i).rest<=4096) /\
  (0<=(nth x.types i).fixed/\(nth x.types i).fixed<=100000/\0<=(nth x.types i).perMile/\(nth x.types i).perMile<=100/\0<=(nth x.types i).perTick/\(nth x.types i).perTick<=100)/\(0<=(nth x.types i).skills/\(nth x.types i).skills<=1073741823):=by
 have ht:=hx.types.2 i hi
 simp_all [UE,rng]
theorem Al {x:Inst} {r:Rte} (hx:InstOk x) (ht:0<=r.typ/\r.typ<(x.types.length:Int)) (h:SqOk x r.visits):TrpOk x (Zx x r) (ZK x r.visits):=by
 have hti:r.typ.toNat<x.types.length:=Za
 obtain ⟨t1,t2,t3,_⟩:=WX hx hti;obtain ⟨n1,n2⟩:=Te hx.net;refine ⟨n1,n2,t1,t2,t3,fun s hs=> ?_,by rw [Yi];exact h.len hx.orders.1⟩;obtain ⟨v,hv,rfl⟩:=XH.1 hs;obtain ⟨v1,v2⟩:=h.inr v hv
 have hi:v.order.toNat<x.orders.length:=Za
 have ho:=hx.orders.2 _ hi;have hvis:=h.vis hv;have hp:=ho.pstp;have hd:=ho.dstp;simp only [stpOk,Zq] at hp hd;simp only [Ao,Zv,Zq] at hvis;have h3:=hvis.2;unfold Xo at h3 ⊢
 grind
theorem Ow {x t sp} (h:TrpOk x t sp): ∀(bs:List Bool) (k:Nat) (L:Lab),k+bs.length=sp.length+1->LabR k L->(Xb x t sp k L bs).2=0->LabR (sp.length+1) (Xb x t sp k L bs).1/\(bs≠ []->(Xb x t sp k L bs).1.she.fin=(Xb x t sp k L bs).1.ready)
 | [],k,L,hk,hl,h0=>by
  simp at hk;subst hk;exact ⟨hl,fun h=>absurd rfl h⟩
 | b::bs,k,L,hk,hl,h0=>by
  simp at hk;rw [Xb] at h0 ⊢
  split at h0
  ·rename_i c;rw [if_pos c];obtain ⟨h1,h2⟩:=Ow h bs (k+1) _ Za (L5 h Za hl c) h0;refine ⟨h1,fun _=> ?_⟩
   cases bs with
   | nil =>
    simp at hk;subst hk;exact N2 (x:=x) (t:=t) (sp:=sp) (y:=L) (b:=b) (by rw [Xt,if_pos c];rfl)
   | cons b2 bs=>grind
  omega
theorem FL {x t sp} {st:Int} {r:List Bool} (h:TrpOk x t sp) (hs:0<=st/\st<=4096) (hr:r.length<=sp.length+1) (h0:(Yf x t sp st r).2=0):(0<=(Yf x t sp st r).1.fin/\(Yf x t sp st r).1.fin<=8192)/\(0<=(Yf x t sp st r).1.miles/\(Yf x t sp st r).1.miles<=210000):=by
 have hL0:LabR 0 (labF t st):=⟨by have:=h.opn;grind [labF],by simp [labF],by simp [labF,zShe]⟩;have hl:=h.len
 have key: ∀bs∈XE r (sp.length+1),(Xb x t sp 0 (labF t st) bs).2=0->(0<=(Xb x t sp 0 (labF t st) bs).1.she.fin/\(Xb x t sp 0 (labF t st) bs).1.she.fin<=8192)/\(0<=(Xb x t sp 0 (labF t st) bs).1.she.miles/\(Xb x t sp 0 (labF t st) bs).1.she.miles<=210000):=fun bs hbs he=>by
  obtain ⟨q,hq,rfl⟩:=XH.1 hbs;have hql:=bestF_len.fromB_len _ _ hq;simp at hql
  have hne:r++q≠ []:=fun e=>by
   simp_all
  obtain ⟨g1,g2⟩:=Ow h (r++q) 0 _ (by simp;omega) hL0 he;rw [g2 hne];have:=g1.rdy;have:=g1.mil;omega
 unfold Yf at h0 ⊢
 cases hf:Va Wq none ((XE r (sp.length+1)).filterMap (Wd (Xt x t sp) 0 (labF t st))) with
 | some L =>
  simp only;have:=bestF_len.fmL_mem _ _ hf
  grind [YB]
 | none =>
  grind [zShe]
theorem aH (x:Inst) (r:Rte) (ho:x.orders.length<=1048576) (ht:x.types.length<=1048576) (hl:r.visits.length<=1048576) (hbad:Uz x r=false\/r.visits.length+1<r.rests.length) :
  PT 208 [.p (Zs x),.p (WM r)] [.p (FT zShe),.p (.int .i64 2)]:=by
 refine Ze [] Tryz.func208 rfl lF ?_;simp (disch:=omega) only [Tryz.f208,go_sem,seval];refine (GB x r ho ht hl).use (Zd ?_);refine gF ?_ ?_<;>intro h1<;>simp (disch:=omega) only [Sh.out h1,go_sem,seval,↓reduceIte]
 ·exact we (by simp (disch:=omega) only [zShe,Zk,go_sem,seval])
 ·have h2:r.visits.length+1<r.rests.length:=hbad.resolve_left (by grind);refine cD ?_ ?_<;>intro h3<;>simp (disch:=omega) only [Sh.out h3,go_sem,seval,↓reduceIte]
  ·exact we (by simp (disch:=omega) only [zShe,Zk,go_sem,seval])
  ·omega
theorem sI (x:Inst) (r:Rte) (hx:InstOk x) (hl:r.visits.length<=1048576):PC 205 [.p (Zs x),.p (WM r)] (.int .i64 (Xf x r.visits)):=by
 have hf:=XP hx;have hr:=hx.rules;obtain ⟨h1,h2⟩:=Ub.1 hr
 have ha:x.apart.length<=1048576:=by
  have h3:=(Ub.1 h1).1
  grind [Ht]
 have hb:x.before.length<=1048576:=by
  have h3:=(Ub.1 h2).1
  grind [Ht]
 have:=Rx x r (by have:=hf.len;omega) hl ha hb hf.plc
 grind [vE]
def Cl (x:Inst) (r:Rte):V:= .tup [.p (FT (X9 x r)),.p (EG (We x r)),.p (.int .i64 (Xq x r))]
theorem YG {x:Inst} {r:Rte} {e:Int} (h:Xq x r=e) (h0:e≠0):Cl x r= .tup [.p (FT zShe),.p (EG zSco),.p (.int .i64 e)]:=by
 simp_all [Cl,X9,We]
theorem Cn (x:Inst) (r:Rte) (hx:InstOk x) (hl:r.visits.length<=1048576) (hrl:r.rests.length<=1048576):ACalls Tryz.prog 191 [.p (Zs x),.p (WM r)] [] fun y H'=>y=Cl x r/\H'= []:=by
 have hld:=QO hx;have htl:=hld.typ;have hol:=hld.ord;have chk:=sI x r hx hl
 have htb:x.types.length<=6:=by have:=hx.types.1;simp only [rng,Zq] at this;omega
 refine Ze [] Tryz.func191 rfl ZbR ?_;simp (disch:=omega) only [Tryz.f191,go_sem,seval];refine gF ?_ ?_<;>intro h1<;>simp (disch:=omega) only [Sh.out h1,go_sem,seval,↓reduceIte]
 ·have e:XU x r=2:=by rw [XU,if_pos Za]
  rw [YG (e:=2) (by rw [Xq,e];rfl) Za];exact we (by simp (disch:=omega) only [zShe,zSco,Zk,go_sem,seval])
 ·refine cD ?_ ?_<;>intro h2<;>simp (disch:=omega) only [Sh.out h2,go_sem,seval,↓reduceIte]
  ·have e:XU x r=2:=by simp_all [XU]
   rw [YG (e:=2) (by rw [Xq,e];rfl) Za];exact we (by simp (disch:=omega) only [zShe,zSco,Zk,go_sem,seval])
  ·have hty:0<=r.typ/\r.typ<(x.types.length:Int):=Za
   have hti:r.typ.toNat<x.types.length:=Za
   refine (chk).use (Zd ?_);refine cD ?_ ?_<;>intro h3<;>simp (disch:=omega) only [Sh.out h3,go_sem,seval,↓reduceIte]
   ·have e:XU x r=Xf x r.visits:=by simp_all [XU]
    rw [YG (e:=Xf x r.visits) (by simp_all [Xq]) h3];exact we (by simp (disch:=omega) only [zShe,zSco,Zk,go_sem,seval])
   ·have h3':=Z1.1 h3;have hsq:=VW h3'
    have hvn:0<r.visits.length:=by
     have:=hsq.ne
     grind
    have hok:=Al hx hty hsq;have hnum:=WX hx hti
    have hr0:XU x r=if (r.visits.any fun v=> !YK (Zx x r) (nth x.orders v.order.toNat).skills)=true then 18 else if Vz x (Zx x r).cap r.visits=false then 17 else if ¬(0<=r.start/\r.start<=4096/\r.rests.length<=r.visits.length+1) then 2 else 0:=by
     rw [XU,if_neg (fun h=>h hty),if_neg h3]
    have htyp:nth x.types r.typ.toNat=Zx x r:=rfl;rw [htyp] at hnum;have hf17:=jY x r hx hl hty h3' chk;have hposs:=uZ hsq hol hty
    have hsk: ∀k,k<r.visits.length->(nth r.visits k).order.toNat<x.orders.length/\0<=(nth x.orders (nth r.visits k).order.toNat).skills/\(nth x.orders (nth r.visits k).order.toNat).skills<=1073741823:=fun k hk=>by
     obtain ⟨v1,v2⟩:=hsq.inr _ (Zu hk)
     have hi:(nth r.visits k).order.toNat<x.orders.length:=Za
     exact ⟨hi,(hx.orders.2 _ hi).skills⟩
    refine Zl [2,3,4,5] (fun k:Nat=> [(8,.p (.int .i64 k))]) (fun _=> [Zf x,XA r,.cells [.p (.bool false),.p (.int .i64 0),.p (.list true []),.p (.int .i64 0),.p (.int .i64 0)],Df 0 0 0 0])
     (fun k=>k<=r.visits.length/\ ∀j,j<k->YK (Zx x r) (nth x.orders (nth r.visits j).order.toNat).skills=true) (fun k=>r.visits.length-k) 0 Zb (Weak.mk ?_) ?_
    ·simp (disch:=omega) only [Zf,XA,Df,go_sem,seval]
    ·rintro k ⟨hk,hno⟩;simp (disch:=omega) only [Zf,XA,Df,go_sem,seval];refine cD ?_ ?_<;>intro h4<;>simp (disch:=omega) only [Sh.out h4,go_sem,seval,↓reduceIte]
     ·have hk2:k<r.visits.length:=Za
      obtain ⟨s1,s2,s3⟩:=hsk k hk2;obtain ⟨v1,v2⟩:=hsq.inr _ (Zu hk2);refine Xj ?_;simp (disch:=omega) only [htyp,go_sem,seval];refine Zo (fZ (Zx x r) (nth x.orders (nth r.visits k).order.toNat).skills Za Za) (Zd ?_);refine Z0 ?_ ?_<;>intro h5
      ·have e:XU x r=18:=by
        rw [hr0,if_pos]
        grind [Zu]
       rw [YG (e:=18) (by rw [Xq,e];rfl) Za];exact we (by simp (disch:=omega) only [zShe,zSco,Zk,go_sem,seval])
      ·exact ⟨k+1,⟨Za,Zr.2 ⟨hno,by grind⟩⟩,Za,wk⟩
     ·have hkl:k=r.visits.length:=Za
      subst hkl
      have hall: ¬(r.visits.any fun v=> !YK (Zx x r) (nth x.orders v.order.toNat).skills)=true:=fun h=>by
       obtain ⟨v,hv,hb⟩:=Wl.1 h;obtain ⟨j,hj,rfl⟩:=ZU.1 hv
       grind [Zi]
      rw [if_neg hall] at hr0;refine (hf17).use (Zd ?_)
      cases hlb:Vz x (Zx x r).cap r.visits with
      | false =>
       have e:XU x r=17:=by grind
       simp only [Y6,Yb];refine Zd ?_;rw [YG (e:=17) (by rw [Xq,e];rfl) Za];exact we (by simp (disch:=omega) only [zShe,zSco,Zk,go_sem,seval])
      | true =>
       rw [hlb,if_neg Zb] at hr0;simp only [if_true];refine Zd ?_
       by_cases h6:0<=r.start/\r.start<=4096/\r.rests.length<=r.visits.length+1
       ·have e:XU x r=0:=Za
        have hp:Uz x r=true:=by grind
        have ee:Xq x r=(Xp x r).2:=by rw [Xq,if_pos e]
        have cb:=iF x r hok Za htl hvn hp h6.2.2;have hbr:=FL hok ⟨h6.1,h6.2.1⟩ (by rw [Yi];exact h6.2.2);have hbr:(Xp x r).2=0->_:=hbr
        change (Xp x r).2=0->(0<=(Xp x r).1.fin/\(Xp x r).1.fin<=8192)/\(0<=(Xp x r).1.miles/\(Xp x r).1.miles<=210000) at hbr
        have es:X9 x r=if (Xp x r).2=0 then (Xp x r).1 else zShe:=by rw [X9,ee]
        have ep:We x r=if (Xp x r).2=0 then De x r (Xp x r).1 else zSco:=by rw [We,ee]
        unfold Cl;rw [ee,es,ep];clear ee es ep
        generalize Xp x r=q at *
        obtain ⟨sh,eb⟩:=q;simp only at cb hbr ⊢;refine Yn cb (Zd ?_);refine cD ?_ ?_<;>intro h7<;>simp (disch:=omega) only [Sh.out h7,go_sem,seval,↓reduceIte]
        ·exact we (by simp (disch:=omega) only [zShe,zSco,Zk,go_sem,seval])
        ·have h7':=Z1.1 h7
         try rw [if_pos h7',if_pos h7']
         subst h7';obtain ⟨g1,g2⟩:=hbr rfl;refine ZF 5 mixed Zg Zg (Zd ?_);refine Zo (dT x r sh hty Za htl hl hsq.inr hnum.2.2.2.1 Za Za Za) (Zd ?_);exact we
       ·have e:XU x r=2:=Za
        rw [YG (e:=2) (by rw [Xq,e];rfl) Za];refine Yn (aH x r Za htl hl ?_) ?_
        ·grind
        ·refine Zd ?_;exact we (by simp (disch:=omega) only [zShe,zSco,Zk,go_sem,seval])
theorem eZ (x:Inst) (r:Rte) (hx:InstOk x) (hl:r.visits.length<=1048576) (hrl:r.rests.length<=1048576):PC 148 [.p (Zs x),.p (WM r)] (.int .i64 (Xq x r)):=by
 have ce:=Cn x r hx hl hrl;refine Zc Tryz.func148 rfl Zbr ?_;simp (disch:=omega) only [Tryz.f148,go_sem,seval];unfold Cl at ce;refine OY ce ?_;simp (disch:=omega) only [go_sem,seval,↓reduceIte]
theorem Zd5 {p q:Pt} {t:Int} (h1:p.t<=t) (h2:t<q.t) (hp:p.t<=p.a) (hq:q.t<=q.a):t<=HA p q t:=by
 unfold HA
 have hw:0<q.t-p.t:=Za
 have key:(t-p.a)*(q.t-p.t)<=(t-p.t)*(q.a-p.a)+q.t-p.t-1:=by
  have e:(t-p.t)*(q.a-p.a)-(t-p.a)*(q.t-p.t)=(t-p.t)*(q.a-q.t)+(p.a-p.t)*(q.t-t):=by
   grind
  have h3:0<=(t-p.t)*(q.a-q.t):=UP Za Za;have h4:0<=(p.a-p.t)*(q.t-t):=UP Za Za;omega
 have:=Int.le_ediv_of_mul_le hw key;omega
theorem rD {l:List Pt} {t:Int} (hl:Vh l):t<=JX l t:=by
 obtain ⟨⟨hl1,hl2⟩,hpt⟩:=hl;unfold JX
 split
 ·rename_i i hi;have hm:=Jf hi;have hs:=Kg hi;simp at hm;simp only [Jn,Zv,Zq] at hs;obtain ⟨⟨p1,p2,p3,p4⟩,_⟩:=hpt i Za;obtain ⟨⟨q1,q2,q3,q4⟩,q5⟩:=hpt (i+1) Za
  simp_all [Zd5]
 ·obtain ⟨⟨p1,p2,p3,p4⟩,_⟩:=hpt 0 Za;obtain ⟨⟨q1,q2,q3,q4⟩,_⟩:=hpt (l.length-1) Za;omega
theorem kO {n:Net} {pr f t τ:Int} (hn:netR n) (h:(W8 n pr f t τ).2.2=0):τ<=(W8 n pr f t τ).1:=by
 unfold W8 at h ⊢
 split at h
 ·simp at h
 ·rename_i c1;rw [if_neg c1]
  split at h
  ·grind
  ·rename_i c2;rw [if_neg c2]
   split at h
   ·rename_i c3;rw [if_pos c3];have hA:=Ax c3;have h1:=rD (t:=τ) (hn.2.2 _ hA).1;have h2:=JN (t:=τ) (fun p hp=>((hn.2.2 _ hA).2.2 p hp).2.2) _ (Zy _)
    grind [La]
   ·simp at h
theorem HI {x t sp} {st:Int} {r:List Bool} (hr:r.length<=sp.length+1) (h:(Yf x t sp st r).2=0): ∃bs:List Bool,bs.length=sp.length+1/\(Xb x t sp 0 (labF t st) bs).2=0/\(Yf x t sp st r).1=(Xb x t sp 0 (labF t st) bs).1.she:=by
 unfold Yf at h ⊢
 cases hf:Va Wq none ((XE r (sp.length+1)).filterMap (Wd (Xt x t sp) 0 (labF t st))) with
 | none =>
  rw [hf] at h;simp only at h ⊢;exfalso
  have hm:YY r (sp.length+1)∈XE r (sp.length+1):=by
   grind [XE,YY,fromB_next]
  have h2:Wd (Xt x t sp) 0 (labF t st) (YY r (sp.length+1))=some (Xb x t sp 0 (labF t st) (YY r (sp.length+1))).1:=by rw [YB,if_pos h]
  have h3:(Xb x t sp 0 (labF t st) (YY r (sp.length+1))).1∈(XE r (sp.length+1)).filterMap (Wd (Xt x t sp) 0 (labF t st)):=Qp.2 ⟨_,hm,h2⟩;generalize (XE r (sp.length+1)).filterMap (Wd (Xt x t sp) 0 (labF t st))=l at hf h3
  cases l with
  | nil=>simp at h3
  | cons a l =>
   rw [Va] at hf;obtain ⟨z,e,_⟩:=VK Wq l a
   grind
 | some L =>
  simp only;have hm:=bestF_len.fmL_mem _ _ hf;obtain ⟨bs,hbs,hrun⟩:=Qp.1 hm;rw [YB] at hrun
  split at hrun
  ·rename_i h5;simp at hrun;subst hrun;obtain ⟨q,hq,rfl⟩:=XH.1 hbs;have hql:=bestF_len.fromB_len _ _ hq
   grind
  ·cases hrun
structure Sr where
 rdy:Int
 drv:Int
 deriving Inhabited,DecidableEq
def UV (l:List Sr) (s:Sr):List Sr:=if s∈l then l else l++ [s]
def VU (t:Typ) (l:List Sr) (d v:Int):List Sr:=UV (UV l ⟨d,v⟩) ⟨d+t.rest,0⟩
def JS (x:Inst) (t:Typ) (from':Int) (stop:Stp) (out:List Sr) (a:Sr):List Sr :=
 if ¬(W8 x.net t.prof from' stop.place a.rdy).2.2=0\/t.drive<a.drv+(W8 x.net t.prof from' stop.place a.rdy).1-a.rdy then out
 else if stop.cls<max (W8 x.net t.prof from' stop.place a.rdy).1 stop.opn then out
 else VU t out (max (W8 x.net t.prof from' stop.place a.rdy).1 stop.opn+stop.serv) (a.drv+(W8 x.net t.prof from' stop.place a.rdy).1-a.rdy)
def Eg (x:Inst) (t:Typ) (from':Int) (st:List Sr) (stop:Stp):List Sr:=st.foldl (JS x t from' stop) []
theorem bU {l:List Sr} {s a:Sr} :a∈UV l s↔a∈l\/a=s:=by
 grind [UV]
theorem Vu {t:Typ} {l:List Sr} {d v:Int} {a:Sr} :a∈VU t l d v↔a∈l\/a=⟨d,v⟩\/a=⟨d+t.rest,0⟩:=by
 simp [VU,bU,or_assoc]
theorem Su {n:Nat} (h:n<10):dec n= [UInt8.ofNat (48+n)]:=by rw [dec,dif_pos h]
theorem sO {n:Nat} (h:10<=n) (h2:n<100):dec n= [UInt8.ofNat (48+n / 10),UInt8.ofNat (48+n%10)]:=by
 rw [dec,dif_neg Za,Su Za];rfl
theorem MT {s:List UInt8} {k k':IntKind} {a b:Int} (h:0<=a/\a<=b/\b<=(s.length:Int)):Lc (some .string) s (.p (.int k a)) (.p (.int k' b))=some (.p (.str ((s.take b.toNat).drop a.toNat))):=by
 simp_all [Lc]
def digT : List UInt8:=(List.range 36).map fun i=>UInt8.ofNat (if i<10 then 48+i else 87+i)
def smalT : List UInt8:=(List.range 100).flatMap fun i=> [UInt8.ofNat (48+i / 10),UInt8.ofNat (48+i%10)]
theorem sP : ∀n,n<10->(digT.take (n+1)).drop n= [UInt8.ofNat (48+n)]:=by decide
theorem oY : ∀n,n<100->(smalT.take (2*n+2)).drop (2*n)= [UInt8.ofNat (48+n / 10),UInt8.ofNat (48+n%10)]:=by decide+kernel
theorem vS (n:Nat) (hn:n<100):PC 298 [.p (.int .i64 (n:Int))] (.str (dec n)):=by
 refine Zc Tryz.func298 rfl Zdt ?_;simp (disch:=omega) only [Tryz.f298,go_sem,seval];refine cD ?_ ?_<;>intro h<;>simp (disch:=omega) only [Sh.out h,go_sem,seval]
 ·rw [Su Za,MT (by simp;omega)]
  have e1:((n:Int)+1).toNat=n+1:=Za
  have e2:((n:Int)).toNat=n:=Za
  rw [e1,e2];refine (ZS (fun z=>BN (some (V.p (PV.str z))) _) (sP n Za)).mpr ?_;simp (disch:=omega) only [go_sem,seval]
 ·rw [sO Za hn,MT (by simp;omega)]
  have e1:((n:Int)*2+2).toNat=2*n+2:=Za
  have e2:((n:Int)*2).toNat=2*n:=Za
  rw [e1,e2];refine (ZS (fun z=>BN (some (V.p (PV.str z))) _) (oY n Za)).mpr ?_;simp (disch:=omega) only [go_sem,seval]
theorem kH (n:Nat) (hn:n<100):PC 296 [.p (.int .i64 (n:Int)),.p (.int .i64 10)] (.str (dec n)):=by
 refine Zc Tryz.func296 rfl Zdr ?_
 have h0:(0:Int)<=(n:Int):=Za
 have h1:(n:Int)<100:=Za
 simp (disch:=omega) only [Tryz.f296,h0,h1,go_sem,seval];refine (vS n hn).use ?_;simp (disch:=omega) only [go_sem,seval]
theorem tM (n:Nat) (hn:n<100):PC 292 [.p (.int .i64 (n:Int))] (.str (dec n)):=by
 refine Zc Tryz.func292 rfl Zdn ?_;simp (disch:=omega) only [Tryz.f292,go_sem,seval];refine (kH n hn).use ?_;simp (disch:=omega) only [go_sem,seval]
theorem Zdu (n:Nat) (hn:n<100):PC 290 [.p (.int .i64 (n:Int))] (.str (dec n)):=by
 refine Zc Tryz.func290 rfl Zdl ?_;simp (disch:=omega) only [Tryz.f290,go_sem,seval];refine (tM n hn).use ?_;simp (disch:=omega) only [go_sem,seval]
theorem O3 (n a b:Int):PC 272 [.p (.int .i64 n),.p (.int .i64 a),.p (.int .i64 b)] (.bool (decide (a<=n)&&decide (n<=b))):=by
 refine Zc Tryz.func272 rfl Zc3 ?_;simp (disch:=omega) only [Tryz.f272,go_sem,seval]
 repeat' (first | (refine gT ?_ ?_<;>intro hq<;>simp (disch:=omega) only [Sh.out hq,go_sem,seval,↓reduceIte]) | (refine Qi (fun hq=> ?_) (fun hq=> ?_)<;>(try simp only [Zq,Ya,Z1] at hq)<;>simp (disch:=omega) only [Sh.out hq,go_sem,seval]) | (refine QK (fun hq=> ?_) (fun hq=> ?_)<;>(try simp only [Zq,Ya,Z1] at hq)<;>simp (disch:=omega) only [Sh.out hq,go_sem,seval]))
 all_goals (simp;first | done | omega)
theorem nC (l:List Pt) (c:Bool) (hl:Vh l):PC 285 [.p (.list c (l.map HO))] (.list true []):=by
 obtain ⟨⟨hl1,hl2⟩,hpt⟩:=hl;refine Zc Tryz.func285 rfl Zdg ?_
 have e1: ¬(l.length:Int)=0:=Za
 have e2: ¬(16:Int)<(l.length:Int):=Za
 simp (disch:=omega) only [Tryz.f285,e1,e2,go_sem,seval];refine Zl [0,19,20] (fun k:Nat=> [(3,.p (.list true [])),(21,.p (.int .i64 k))]) (fun _=> []) (fun k=>k<=l.length) (fun k=>l.length-k) 0 Zb (Weak.mk ?_) ?_
 ·simp (disch:=omega) only [go_sem,seval,↓reduceIte]
 ·intro k hk;refine Zd ?_;refine cD ?_ ?_<;>intro h<;>simp (disch:=omega) only [Sh.out h,go_sem,seval,↓reduceIte]
  ·have hk2:k<l.length:=Za
   obtain ⟨⟨p1,p2,p3,p4⟩,q⟩:=hpt k hk2;refine (Zdu k Za).use (Zd ?_);refine (O3 (nth l k).t 0 4096).use (Zd ?_);simp (disch:=omega) only [p1,p2,go_sem,seval];refine gF ?_ ?_<;>intro h3<;>simp (disch:=omega) only [Sh.out h3,go_sem,seval,↓reduceIte]
   ·omega
   ·refine cD ?_ ?_<;>intro h4<;>simp (disch:=omega) only [Sh.out h4,go_sem,seval,↓reduceIte]
    ·omega
    ·refine Xj (Zd ?_);refine gT ?_ ?_<;>intro h5<;>simp (disch:=omega) only [Sh.out h5,go_sem,seval,↓reduceIte]
     ·obtain ⟨r1,r2⟩:=q Za;refine gF ?_ ?_<;>intro h6<;>simp (disch:=omega) only [Sh.out h6,go_sem,seval,↓reduceIte]
      ·omega
      ·refine cD ?_ ?_<;>intro h7<;>simp (disch:=omega) only [Sh.out h7,go_sem,seval,↓reduceIte]
       ·omega
       ·exact ⟨k+1,Za,Za,wk⟩
     ·exact ⟨k+1,Za,Za,wk⟩
theorem Sn (p:Pt) (t:Int) (h:0<=p.t/\p.t<=4096) (ht:0<=t/\t<=1073741824):PC 287 [.p (HO p),.p (.int .i64 t)] (.int .i64 (p.t-t)):=by
 refine Zc Tryz.func287 rfl Zdi ?_;simp (disch:=omega) only [Tryz.f287,go_sem,seval,↓reduceIte]
theorem vI (l:List Pt) (c:Bool) (hl:Vh l):PC 273 [.p (.list c (l.map HO))] (.bool true):=by
 refine Zc Tryz.func273 rfl Zc4 ?_;simp (disch:=omega) only [Tryz.f273,go_sem,seval];refine (nC l c hl).use ?_;simp (disch:=omega) only [go_sem,seval]
structure PosT (l:List Pt) (t:Int) (i:Nat):Prop where
 le:i<=l.length
 lo: ∀j,j<i->(nth l j).t<t
 hi: ∀j,i<=j->j<l.length->t<=(nth l j).t
theorem Zit (l:List Pt) (c:Bool) (t:Int) (i:Nat) (hl:Vh l) (ht:0<=t/\t<=1073741824) (hi:PosT l t i):PT 286 [.p (.list c (l.map HO)),.p (.int .i64 t),.fn (.func 287) [] []] [.p (.int .i64 (i:Int)),.p (.bool (decide (i<l.length)&&decide ((nth l i).t=t)))]:=by
 obtain ⟨⟨hl1,hl2⟩,hpt⟩:=hl;obtain ⟨hi1,hi2,hi3⟩:=hi;refine Ze [] Tryz.func286 rfl Zdh ?_;simp (disch:=omega) only [Tryz.f286,go_sem,seval];refine Zl [0,1,2,8] (fun q:Nat×Nat=> [(9,.p (.int .i64 q.1)),(10,.p (.int .i64 q.2))]) (fun _=> []) (fun q=>q.1<=i/\i<=q.2/\q.2<=l.length) (fun q=>q.2-q.1) (0,l.length) (by simp;omega) (Weak.mk ?_) ?_
 ·simp (disch:=omega) only [go_sem,seval,↓reduceIte]
 ·rintro ⟨a,b⟩ ⟨h1,h2,h3⟩;simp only at h1 h2 h3;refine Zd ?_;refine cD ?_ ?_<;>intro h<;>simp (disch:=omega) only [Sh.out h,go_sem,seval,↓reduceIte]
  ·have hm:(a+b) / 2<l.length:=Za
   obtain ⟨⟨p1,p2,p3,p4⟩,q⟩:=hpt _ hm
   have hs:((a:Int)+(b:Int)).fdiv (2^min 1 64)=(((a+b) / 2:Nat):Int):=by
    grind
   have em:((((a+b) / 2:Nat)):Int).toNat=(a+b) / 2:=Za
   have hnb:((a+b) / 2<i)↔(nth l ((a+b) / 2)).t-t<0:=by
    grind
   rw [hs];refine Zd ?_;refine (Sn (nth l ((a+b) / 2)) t ⟨p1,p2⟩ ht).use (Zd ?_);refine cD ?_ ?_<;>intro h4<;>simp (disch:=omega) only [Sh.out h4,go_sem,seval,↓reduceIte]
   ·exact ⟨((a+b) / 2+1,b),⟨Za,h2,h3⟩,Za,wk⟩
   ·exact ⟨(a,(a+b) / 2),⟨h1,Za,Za⟩,Za,wk⟩
  ·have:a=i:=Za
   subst this;refine gT ?_ ?_<;>intro h4<;>simp (disch:=omega) only [Sh.out h4,go_sem,seval,↓reduceIte]
   ·have hm:a<l.length:=Za
    obtain ⟨⟨p1,p2,p3,p4⟩,q⟩:=hpt _ hm;refine (Sn (nth l a) t ⟨p1,p2⟩ ht).use (Zd ?_);have e5:((nth l a).t-t=0)=((nth l a).t=t):=propext Za;exact we (by simp (disch:=omega) only [e5,hm,go_sem,seval])
   ·have hm: ¬a<l.length:=Za
    exact we (by simp (disch:=omega) only [hm,go_sem,seval])
theorem C6 {l:List Pt} (hl:Vh l) {k:Nat} (hk:k<l.length): ∀j,j<k->(nth l j).t<(nth l k).t:=by
 obtain ⟨_,hpt⟩:=hl
 induction k with
 | zero=>omega
 | succ k ih =>
  intro j hj;obtain ⟨_,q⟩:=hpt (k+1) hk
  grind
theorem uY {l:List Pt} (hl:Vh l) (t:Int): ∃i,PosT l t i:=by
 have: ∀n,n<=l.length-> ∃i,i<=n/\(∀j,j<i->(nth l j).t<t)/\(i<n->t<=(nth l i).t):=by
  intro n
  induction n with
  | zero=>simp
  | succ n ih =>
   grind
 obtain ⟨i,h1,h2,h3⟩:=this l.length (Zy _);refine ⟨i,h1,h2,fun j hj hjl=> ?_⟩;rcases Nat.lt_or_eq_of_le hj with h | h
 ·have:=C6 hl hjl i h;omega
 grind
theorem rC {l:List Pt} {t:Int} {i:Nat} (hl:Vh l) (h:PosT l t i) (hi:i<l.length) (e:(nth l i).t=t):JX l t=(nth l i).a:=by
 by_cases g:i+1<l.length
 ·have m:=C6 hl g i Za;rw [Lb g (fun j hj=> ?_) (by grind [Jn]),HA]
  ·rw [e,Int.sub_self,Int.zero_mul,Int.zero_add];rw [Int.ediv_eq_zero_of_lt Za Za];omega
  ·have:(nth l (j+1)).t<=t:=by
    rcases Nat.lt_or_eq_of_le (show j+1<=i by omega) with h1 | h1
    ·have:=h.lo _ h1;omega
    grind
   simp [Jn];omega
 ·have hi1:i=l.length-1:=Za
  rw [EO (fun j hj=> ?_)]
  ·split
   ·grind
   ·have:i=0:=by
     by_cases g2:i=0
     ·exact g2
     ·have:=h.lo 0 Za;omega
    grind
  ·have:(nth l (j+1)).t<=t:=by
    rcases Nat.lt_or_eq_of_le (show j+1<=i by omega) with h1 | h1
    ·have:=h.lo _ h1;omega
    grind
   simp [Jn];omega
theorem rF {l:List Pt} {t:Int} (hl:Vh l) (h:PosT l t 0) (e: ¬(nth l 0).t=t):JX l t=t+(nth l 0).a-(nth l 0).t:=by
 have h0:=h.hi 0 (Zy _) hl.1.1;rw [EO (fun j hj=> ?_),if_neg Za]
 have:t<(nth l j).t:=by
  by_cases g:j=0
  ·grind
  ·have:=C6 hl (show j<l.length by omega) 0 Za;omega
 simp [Jn];omega
theorem rE {l:List Pt} {t:Int} (h:PosT l t l.length) (hl:0<l.length):JX l t=t+(nth l (l.length-1)).a-(nth l (l.length-1)).t:=by
 rw [EO (fun j hj=> ?_),if_pos (h.lo 0 hl)];have:=h.lo (j+1) hj;simp [Jn];omega
theorem gV {l:List Pt} {t:Int} {i:Nat} (h:PosT l t i) (h0:0<i) (hi:i<l.length) (e: ¬(nth l i).t=t):JX l t=HA (nth l (i-1)) (nth l i) t:=by
 have e1:i-1+1=i:=Za
 have h1:=h.lo (i-1) Za;have h2:=h.hi i (Zy _) hi;have:=Lb (l:=l) (t:=t) (i:=i-1) Za (fun j hj=>by have:=h.lo (j+1) Za;simp [Jn];omega) (by grind [Jn]);rw [this,e1]
theorem IF {p q:Pt} {t:Int} (h1:p.t<=t) (h2:t<q.t) (hp:0<=p.t) (hq:q.t<=4096) (ha:p.a<=q.a) (hpa:0<=p.a) (hqa:q.a<=8192) :
  IntKind.i64.wrap (p.a+IntKind.i64.wrap ((IntKind.i64.wrap (IntKind.i64.wrap (IntKind.i64.wrap ((t-p.t)*(q.a-p.a))+(q.t-p.t))-1)).tdiv (q.t-p.t)))=HA p q t:=by
 have hm:=GU h1 h2 hp hq ha hpa hqa;unfold HA;generalize hM:(t-p.t)*(q.a-p.a)=m at hm
 have hd:0<=(m+(q.t-p.t)-1) / (q.t-p.t)/\(m+(q.t-p.t)-1) / (q.t-p.t)<=m+(q.t-p.t)-1:=by
  refine ⟨Int.ediv_nonneg Za Za,Int.ediv_le_self _ Za⟩
 rw [IntWalk.i64_in m Za,IntWalk.i64_in (m+(q.t-p.t)) Za,IntWalk.i64_in (m+(q.t-p.t)-1) Za,EW Za,IntWalk.i64_in ((m+(q.t-p.t)-1) / (q.t-p.t)) Za,IntWalk.i64_in _ Za]
 congr 2
 omega
theorem Rj (l:List Pt) (c:Bool) (t:Int) (hl:Vh l) (ht:0<=t/\t<=1073741824):PC 274 [.p (.list c (l.map HO)),.p (.int .i64 t)] (.int .i64 (JX l t)):=by
 obtain ⟨i,hi⟩:=uY hl t;have hl':=hl;obtain ⟨⟨hl1,hl2⟩,hpt⟩:=hl';refine Zc Tryz.func274 rfl Zc5 ?_;simp (disch:=omega) only [Tryz.f274,go_sem,seval];refine Yn (Zit l c t i hl ht hi) (Zd ?_);obtain ⟨i1,i2,i3⟩:=id hi;refine cD ?_ ?_<;>intro h<;>simp (disch:=omega) only [Sh.out h,go_sem,seval,↓reduceIte]
 ·grind [rC]
 ·refine cD ?_ ?_<;>intro h0<;>simp (disch:=omega) only [Sh.out h0,go_sem,seval]
  ·have:i=0:=Za
   subst this;obtain ⟨p1,p2⟩:=hpt 0 Za;rw [rF hl hi (fun g=>h ⟨Za,g⟩)];refine Xj ?_;simp (disch:=omega) only [go_sem,seval,↓reduceIte]
  ·refine cD ?_ ?_<;>intro h1<;>simp (disch:=omega) only [Sh.out h1,go_sem,seval]
   ·have:i=l.length:=Za
    subst this;obtain ⟨p1,p2⟩:=hpt (l.length-1) Za;rw [rE hi Za]
    have e1:((l.length:Int)-1).toNat=l.length-1:=Za
    refine Xj ?_;simp (disch:=omega) only [go_sem,seval,↓reduceIte]
   ·have g1:i<l.length:=Za
    rw [gV hi Za g1 (fun g=>h ⟨g1,g⟩)];have g2:=C6 hl g1 (i-1) Za;obtain ⟨p1,p2⟩:=hpt i g1;obtain ⟨p3,p4⟩:=hpt (i-1) Za
    have e1:((i:Int)-1).toNat=i-1:=Za
    have q1:=i2 (i-1) Za;have q2:=i3 i (Zy _) g1;have q3: ¬(nth l i).t=t:=fun g=>h ⟨g1,g⟩;have q4:=p2 Za;refine X5 [9,10,11] 12 mixed Zg Zg Zg Zb ?_;simp (disch:=omega) only [e1,go_sem,seval];refine cC 9 10 _ _ _ _ Zg (by refine Zd ?_;exact ⟨rfl,rfl⟩) (by refine Zd ?_;exact ⟨rfl,rfl⟩) ?_ ?_
    ·refine Xx 10 _ _ Zg (by refine Zd ?_;exact ⟨rfl,rfl⟩) (Xx 11 _ _ Zg (by refine Zd ?_;exact ⟨rfl,rfl⟩) (WE ?_));refine Zd ?_;refine Xj (Zd ?_);exact ZS (fun z=>V.p (PV.int IntKind.i64 z)) (IF Za Za Za Za Za Za Za)
    ·refine Xx 9 _ _ Zg (by refine Zd ?_;exact ⟨rfl,rfl⟩) (Xx 11 _ _ Zg (by refine Zd ?_;exact ⟨rfl,rfl⟩) (WE ?_));refine Zd ?_;refine Xj (Zd ?_);exact ZS (fun z=>V.p (PV.int IntKind.i64 z)) (IF Za Za Za Za Za Za Za)
theorem dA (l:List Pt) (c:Bool) (t:Int) (hl:Vh l) (ht:0<=t/\t<=1073741824):PC 254 [.p (.list c (l.map HO)),.p (.int .i64 t)] (.int .i64 (JX l t)):=by
 refine Zc Tryz.func254 rfl ZcL ?_;simp (disch:=omega) only [Tryz.f254,go_sem,seval];refine (O3 t 0 1073741824).use (Zd ?_);simp (disch:=omega) only [ht,go_sem,seval];refine (vI l c hl).use (Zd ?_);refine (Rj l c t hl ht).use ?_;simp (disch:=omega) only [go_sem,seval]
theorem Oe (n:Net) (p:Int) (hn:n.places.length<=1048576):PC 219 [.p (Cj n),.p (.int .i64 p)] (.bool (K8 n p)):=by
 refine Zc Tryz.func219 rfl Zce ?_;simp (disch:=omega) only [Tryz.f219,go_sem,seval];refine gT ?_ ?_<;>intro h<;>simp (disch:=omega) only [Sh.out h,go_sem,seval,↓reduceIte]
 ·simp [K8,h]
 ·simp [K8,h]
theorem wO (a:Arc):PC 253 [.p (V1 a)] (.agg [.int .i64 a.src,.int .i64 a.dst,.int .i64 a.prof]):=by
 refine Zc Tryz.func253 rfl ZcK ?_;simp (disch:=omega) only [Tryz.f253,go_sem,seval,↓reduceIte]
theorem uM (a:Arc) (t:Int) (ha:rA a) (ht:0<=t/\t<=1073741824):PC 221 [.p (V1 a),.p (.int .i64 t)] (.int .i64 (La a t)):=by
 obtain ⟨h1,h2,h3⟩:=ha;have hr:=FE h1 ht;have hs:=JN (t:=t) (fun p hp=>(h3 p hp).2.2);refine Zc Tryz.func221 rfl Zcg ?_;simp (disch:=omega) only [Tryz.f221,go_sem,seval];refine (dA a.travel a.travel_c t h1 ht).use (Zd ?_);refine Zl [1,13,14] (fun k:Nat=> [(5,.p (.int .i64 (JX a.travel t+KF a.slow t k))),(15,.p (.int .i64 k))]) (fun _=> [Vm a]) (fun k=>k<=a.slow.length) (fun k=>a.slow.length-k) 0 Zb (Weak.mk ?_) ?_
 ·simp (disch:=omega) only [Vm,KF,UQ,go_sem,seval];simp
 ·intro k hk;have hsk:=hs k hk;simp (disch:=omega) only [Vm,go_sem,seval];refine cD ?_ ?_<;>intro h<;>simp (disch:=omega) only [Sh.out h,go_sem,seval,↓reduceIte]
  ·have hk2:k<a.slow.length:=Za
   have hp:=h3 _ (Z2 hk2);have hsn:=BU (t:=t) hk2;refine Z0 ?_ ?_<;>intro h4
   ·rw [if_pos h4] at hsn;exact ⟨k+1,Za,Za,Weak.mk (by simp (disch:=omega) only [hsn,Int.add_assoc,go_sem,seval])⟩
   ·rw [if_neg h4] at hsn;exact ⟨k+1,Za,Za,Weak.mk (by simp (disch:=omega) only [hsn,go_sem,seval])⟩
  grind [La]
theorem uP (n:Net) (pr f t:Int) (hn:n.arcs.length<=1048576):PT 220 [.p (Cj n),.p (.int .i64 pr),.p (.int .i64 f),.p (.int .i64 t)] [.p (V1 (W7 n pr f t).1),.p (.bool (W7 n pr f t).2)]:=by
 refine Ze [] Tryz.func220 rfl Zcf ?_;simp (disch:=omega) only [Tryz.f220,go_sem,seval];refine Zl [8,10,18,19] (fun k:Nat=> [(20,.p (.int .i64 k))]) (fun _=>Z8 n++ [Vm Um,.cells [.p (.int .i64 f),.p (.int .i64 t),.p (.int .i64 pr)]]) (fun k=>k<=n.arcs.length/\ ∀j,j<k->VH pr f t (nth n.arcs j)=false) (fun k=>n.arcs.length-k) 0 Zb (Weak.mk ?_) ?_
 ·simp (disch:=omega) only [Z8,Vm,Um,Zk,ZR,ZH,go_sem,seval]
 ·rintro k ⟨hk,hno⟩;simp (disch:=omega) only [Z8,Vm,Um,Zk,ZR,ZH,go_sem,seval];refine cD ?_ ?_<;>intro h<;>simp (disch:=omega) only [Sh.out h,go_sem,seval,↓reduceIte]
  ·have hk2:k<n.arcs.length:=Za
   have nx:VH pr f t (nth n.arcs k)=false-> ∀j,j<k+1->VH pr f t (nth n.arcs j)=false:=fun h=>Zr.2 ⟨hno,h⟩;refine Xj (Zd ?_);refine Zo (wO (nth n.arcs k)) (Zd ?_);refine Z0 ?_ ?_<;>intro h1
   ·have e:=Np hk2 hno (by simp [VH,h1]);obtain ⟨rfl,rfl,rfl⟩:=h1;rw [e];exact we
   ·have e2:VH pr f t (nth n.arcs k)=false:=by
     simp_all [VH]
    exact ⟨k+1,⟨Za,nx e2⟩,Za,wk⟩
  ·have hkn:k=n.arcs.length:=Za
   subst hkn;rw [Nq hno];exact we (by simp (disch:=omega) only [Um,Zk,go_sem,seval])
theorem yG (n:Net) (pr f t τ:Int) (hn:netR n) (hτ:0<=τ/\τ<=1073741824):PT 198 [.p (Cj n),.p (.int .i64 pr),.p (.int .i64 f),.p (.int .i64 t),.p (.int .i64 τ)] [.p (.int .i64 (W8 n pr f t τ).1),.p (.int .i64 (W8 n pr f t τ).2.1),.p (.int .i64 (W8 n pr f t τ).2.2)]:=by
 refine Ze [] Tryz.func198 rfl ZbX ?_;simp (disch:=omega) only [Tryz.f198,go_sem,seval];refine (Oe n f hn.1).use (Zd ?_);refine gF ?_ ?_<;>intro h1<;>simp (disch:=omega) only [Sh.out h1,go_sem,seval,↓reduceIte]
 ·have e:W8 n pr f t τ=(0,0,11):=by grind [W8]
  rw [e];exact we
 ·simp only [XR] at h1;refine (Oe n t hn.1).use (Zd ?_);refine cD ?_ ?_<;>intro h2<;>simp (disch:=omega) only [Sh.out h2,go_sem,seval]
  ·have e:W8 n pr f t τ=(0,0,11):=by grind [W8]
   rw [e];exact we
  ·simp only [XR] at h2;refine cD ?_ ?_<;>intro h3<;>simp (disch:=omega) only [Sh.out h3,go_sem,seval,↓reduceIte]
   ·have e:W8 n pr f t τ=(τ,0,0):=by grind [W8]
    rw [e];exact we
   ·have cf:=uP n pr f t hn.2.1;have hm:= @Ax n pr f t
    have e0:W8 n pr f t τ=if (W7 n pr f t).2=true then (La (W7 n pr f t).1 τ,(W7 n pr f t).1.miles,0) else (0,0,12):=by grind [W8]
    rw [e0];generalize W7 n pr f t=A at cf hm ⊢;obtain ⟨a,b⟩:=A;simp only at cf hm ⊢;refine Yn cf (Zd ?_);refine cD ?_ ?_<;>intro h4<;>simp (disch:=omega) only [Sh.out h4,go_sem,seval]
    ·have hb:b=false:=by grind
     subst hb;exact we (by simp (disch:=omega) only [go_sem,seval,↓reduceIte])
    ·have hb:b=true:=by grind
     subst hb;refine Xj (Zd ?_);refine Zo (uM a τ (hn.2.2 a (hm rfl)) hτ) (Zd ?_);exact we
def FK (s:Stp) (a:Int):Int×Int:=if max a s.opn>s.cls then (0,14) else (max a s.opn,0)
theorem Se (s:Stp) (a:Int):PT 222 [.p (FV s),.p (.int .i64 a)] [.p (.int .i64 (FK s a).1),.p (.int .i64 (FK s a).2)]:=by
 refine Ze [] Tryz.func222 rfl Zch ?_;simp (disch:=omega) only [Tryz.f222,go_sem,seval];refine cD ?_ ?_<;>intro h<;>simp (disch:=omega) only [Sh.out h,go_sem,seval]
 ·have e:FK s a=(0,14):=by simp_all [FK]
  rw [e];exact we
 ·have e:FK s a=(max a s.opn,0):=by simp_all [FK]
  rw [e];exact we
theorem nI (l:List Ord) (c:Bool) (p:Int) (hl:l.length<=1048576):PC 163 [.p (.list c (l.map eOrd)),.p (.int .i64 p)] (.bool (decide (0<=p)&&decide (p<(l.length:Int)))):=by
 refine Zc Tryz.func163 rfl lD ?_;simp (disch:=omega) only [Tryz.f163,go_sem,seval];refine gT ?_ ?_<;>intro h<;>simp (disch:=omega) only [Sh.out h,go_sem,seval,↓reduceIte]
 all_goals simp [h]
theorem Tj (x:Inst) (v:Vis) (ho:x.orders.length<=1048576) (hv:NF x v=true) (hp:0<=(Xo x v).place):PT 168 [.p (.list x.orders_c (x.orders.map eOrd)),.p (Xa v)] [.p (FV (Xo x v)),.p (.int .i64 0)]:=by
 refine Ze [] Tryz.func168 rfl ZbF ?_;simp (disch:=omega) only [Tryz.f168,go_sem,seval];have hv':=hv;rw [NF] at hv';have ct:=nI x.orders x.orders_c v.order ho;rw [hv'] at ct;refine ct.use ?_;simp only [Zv,Zq] at hv';obtain ⟨h1,h2⟩:=hv'
 have hi:v.order.toNat<x.orders.length:=Za
 refine Zd ?_;refine cD ?_ ?_<;>intro hd<;>simp (disch:=omega) only [Sh.out hd,go_sem,seval,↓reduceIte]
 ·have e:Xo x v=(nth x.orders v.order.toNat).drp:=by simp [Xo,hd]
  rw [e] at hp ⊢
  have e3: ¬(nth x.orders v.order.toNat).drp.place<0:=Za
  simp (disch:=omega) only [e3,go_sem,seval];exact we
 ·have e:Xo x v=(nth x.orders v.order.toNat).pick:=by simp [Xo,hd]
  rw [e] at hp ⊢
  have e3: ¬(nth x.orders v.order.toNat).pick.place<0:=Za
  simp (disch:=omega) only [e3,go_sem,seval];exact we
theorem uO (l:List Typ) (c:Bool) (ht:l.length<=1048576):PC 264 [.p (.list c (l.map X7))] (.int .i64 (dimsOf l)):=by
 refine Zc Tryz.func264 rfl ZcV ?_;simp (disch:=omega) only [Tryz.f264,go_sem,seval];refine cD ?_ ?_<;>intro h1<;>simp (disch:=omega) only [Sh.out h1,go_sem,seval,↓reduceIte]
 ·grind [dimsOf]
 simp_all [dimsOf]
theorem uQ (a b:List Int) (c d:Bool) (ha:a.length<=1048576) (hb:b.length<=1048576):PC 245 [.p (.list c (a.map eI)),.p (.list d (b.map eI))] (.bool (V2 a b)):=by
 refine Zc Tryz.func245 rfl ZcD ?_;simp (disch:=omega) only [Tryz.f245,go_sem,seval];refine cD ?_ ?_<;>intro h1<;>simp (disch:=omega) only [Sh.out h1,go_sem,seval]
 ·grind [V2]
 ·have h1':a.length=b.length:=Za
  refine Zl [1,12,13] (fun k:Nat=> [(14,.p (.int .i64 k))]) (fun _=> []) (fun k=>k<=a.length/\ ∀j,j<k->nth a j<=nth b j) (fun k=>a.length-k) 0 Zb (Weak.mk ?_) ?_
  ·simp (disch:=omega) only [go_sem,seval]
  ·rintro k ⟨hk,hno⟩;refine Zd ?_;refine cD ?_ ?_<;>intro h2<;>simp (disch:=omega) only [Sh.out h2,go_sem,seval,↓reduceIte]
   ·have hk2:k<a.length:=Za
    refine Z0 ?_ ?_<;>intro h3
    ·grind [V2]
    ·exact ⟨k+1,⟨Za,Zr.2 ⟨hno,Za⟩⟩,Za,wk⟩
   ·have hkl:k=a.length:=Za
    simp_all [V2]
theorem uL (t:Typ) (s:Int) (h1:t.skills<9223372036854775808) (h2:s<9223372036854775808):PC 241 [.p (X7 t),.p (.int .i64 s)] (.bool (YK t s)):=by
 refine Zc Tryz.func241 rfl Zcz ?_;simp (disch:=omega) only [Tryz.f241,go_sem,seval];refine gT ?_ ?_<;>intro c1<;>simp (disch:=omega) only [Sh.out c1,go_sem,seval,↓reduceIte]
 ·refine gT ?_ ?_<;>intro c2<;>simp (disch:=omega) only [Sh.out c2,go_sem,seval,↓reduceIte]
  ·obtain ⟨M,hM⟩: ∃M:Nat,t.skills=(M:Int):=⟨t.skills.toNat,Za⟩;obtain ⟨S,rfl⟩: ∃S:Nat,s=(S:Int):=⟨s.toNat,Za⟩;have hb:=El (S:=S) (M:=M) Za
   have e:YK t (S:Int)=(List.range 63).all fun i=> !S.testBit i||M.testBit i:=by
    simp_all [YK]
   have hd:decide (IntKind.i64.wrap ((BitVec.ofInt 64 (S:Int)&&& ~~~BitVec.ofInt 64 (M:Int)).toNat:Int)=0)=((List.range 63).all fun i=> !S.testBit i||M.testBit i):=by
    grind
   rw [e,hM];exact ZS (fun b=>V.p (PV.bool b)) hd
  grind [YK]
 grind [YK]
theorem ZdT (a b:Int) (h: -1073741824<=a/\a<=1073741824/\ -1073741824<=b/\b<=1073741824):PC 280 [.p (.int .i64 a),.p (.int .i64 b)] (.int .i64 (a+b)):=by
 refine Zc Tryz.func280 rfl Zdb ?_;simp (disch:=omega) only [Tryz.f280,go_sem,seval]
theorem tT (a b:Int) (h: -1073741824<=a/\a<=1073741824/\ -1073741824<=b/\b<=1073741824):PC 281 [.p (.int .i64 a),.p (.int .i64 b)] (.int .i64 (a-b)):=by
 refine Zc Tryz.func281 rfl Zdc ?_;simp (disch:=omega) only [Tryz.f281,go_sem,seval]
def fK (f:Nat->Int) (n k:Nat):List Int:=(List.range n).map fun j=>if j<k then f j else 0
theorem tU {f:Nat->Int} {n k:Nat} :(fK f n k).length=n:=by simp [fK]
theorem mB {f:Nat->Int} {n:Nat} :fK f n 0=List.replicate n 0:=by
 apply Uc (by simp [fK]);grind [fK]
theorem mA {f:Nat->Int} {n:Nat} :fK f n n=(List.range n).map f:=by
 simp_all [fK]
theorem tV {f:Nat->Int} {n k:Nat} (h:k<n):(fK f n k).set k (f k)=fK f n (k+1):=by
 apply Uc (by simp [fK]);grind [fK]
theorem HN (a b:List Int) (c d:Bool) (g:FuncId) (f:Int->Int->Int) (hl:a.length=b.length) (ha:a.length<=1048576)
  (hf: ∀j,j<a.length->ACalls Tryz.prog g [.p (.int .i64 (nth a j)),.p (.int .i64 (nth b j))] [] fun x H'=>x= .p (.int .i64 (f (nth a j) (nth b j)))/\H'= []) :
  PT 279 [.p (.list c (a.map eI)),.p (.list d (b.map eI)),.fn (.func g) [] []] [.p (.list false (((List.range a.length).map fun j=>f (nth a j) (nth b j)).map eI)),.p (.int .i64 0)]:=by
 refine Ze [9] Tryz.func279 rfl Zda ?_;simp (disch:=omega) only [Tryz.f279,go_sem,seval];refine cD ?_ ?_<;>intro h0<;>simp (disch:=omega) only [Sh.out h0,go_sem,seval]
 ·omega
 ·have hz:=mB (f:=fun j=>f (nth a j) (nth b j)) (n:=a.length);have hml:=fun k=>tU (f:=fun j=>f (nth a j) (nth b j)) (n:=a.length) (k:=k);refine Z3 [9] [0,1,2,8,19] (fun k:Nat=> [(20,.p (.int .i64 k))]) (fun k=> [.elems 1 ((fK (fun j=>f (nth a j) (nth b j)) a.length k).map eI)]) (fun k=>k<=a.length) (fun k=>a.length-k) 0 Zb (Weak.mk ?_) ?_
  ·simp (disch:=omega) only [hz,go_sem,seval];rw [AH];rfl
  ·intro k hk;refine Zd ?_;refine cD ?_ ?_<;>intro h1<;>simp (disch:=omega) only [Sh.out h1,go_sem,seval,↓reduceIte]
   ·have hk2:k<a.length:=Za
    have hs:=tV (f:=fun j=>f (nth a j) (nth b j)) (n:=a.length) hk2;have hk3:=hml k;refine ZF 12 mixed Zg Zg ?_;refine Zd ?_;refine Zo (hf k hk2) ?_;refine Zd ?_;simp (disch:=first | omega | (simp only [ZE,ZJ,ZA,ZB,Xd,XG]<;>omega)) only [go_sem,seval,↓reduceIte];refine ⟨k+1,Za,Za,Weak.mk ?_⟩;simp (disch:=omega) only [<- hs,go_sem,seval];rw [Vk];rfl
   ·have hkl:k=a.length:=Za
    subst hkl;rw [<- mA];have hk3:=hml a.length;refine Zp (Weak.fz (o:=0) (by rfl)) ?_;refine Zh [] _ _ _ _ ?_;simp (disch:=omega) only [Zt,Zk,ZG,go_sem,seval];rw [if_pos hk3];exact we
theorem nA (a b:List Int) (c d:Bool) (hl:a.length=b.length) (ha:a.length<=1048576) (h: ∀j,j<a.length-> -1073741824<=nth a j/\nth a j<=1073741824/\ -1073741824<=nth b j/\nth b j<=1073741824):PT 265 [.p (.list c (a.map eI)),.p (.list d (b.map eI))] [.p (.list false ((Fx a b).map eI)),.p (.int .i64 0)]:=by
 refine Ze [] Tryz.func265 rfl ZcW ?_;simp (disch:=omega) only [Tryz.f265,go_sem,seval];refine Yn (HN a b c d 280 (fun m n=>m+n) hl ha fun j hj=>ZdT _ _ (h j hj)) ?_;simp (disch:=omega) only [Fx,go_sem,seval];exact we
theorem ZdN (a b:List Int) (c d:Bool) (hl:a.length=b.length) (ha:a.length<=1048576) (h: ∀j,j<a.length-> -1073741824<=nth a j/\nth a j<=1073741824/\ -1073741824<=nth b j/\nth b j<=1073741824):PT 266 [.p (.list c (a.map eI)),.p (.list d (b.map eI))] [.p (.list false ((vY a b).map eI)),.p (.int .i64 0)]:=by
 refine Ze [] Tryz.func266 rfl ZcX ?_;simp (disch:=omega) only [Tryz.f266,go_sem,seval];refine Yn (HN a b c d 281 (fun m n=>m-n) hl ha fun j hj=>tT _ _ (h j hj)) ?_;simp (disch:=omega) only [vY,go_sem,seval];exact we
theorem nE (x:Inst) (r:Rte) (ht:0<=r.typ/\r.typ<(x.types.length:Int)) (hv: ∀v∈r.visits,NF x v=true) (hl:r.visits.length<=1048576) (hxl:x.types.length<=1048576) (hol:x.orders.length<=1048576)
  (hs:(Zx x r).skills<9223372036854775808) (ho: ∀o∈x.orders,o.skills<9223372036854775808) :
  PC 212 [.p (Zs x),.p (WM r)] (.int .i64 (if (r.visits.any fun v=> !YK (Zx x r) (nth x.orders v.order.toNat).skills)=true then 18 else 0)):=by
 refine Zc Tryz.func212 rfl Zb7 ?_;simp (disch:=omega) only [Tryz.f212,go_sem,seval];refine Zl [2,3,8,9] (fun k:Nat=> [(10,.p (.int .i64 k))]) (fun _=> [Zf x,.cells [.p (.int .i64 r.typ),.p (.int .i64 r.start),.p (.list r.rests_c (r.rests.map eB)),.p (.list r.visits_c (r.visits.map Xa))]]) (fun k=>k<=r.visits.length/\ ∀j,j<k->YK (Zx x r) (nth x.orders (nth r.visits j).order.toNat).skills=true) (fun k=>r.visits.length-k) 0 Zb (Weak.mk ?_) ?_
 ·simp (disch:=omega) only [Zf,go_sem,seval]
 ·rintro k ⟨hk,hno⟩;refine YV ?_;refine cD ?_ ?_<;>intro h1<;>simp (disch:=omega) only [Sh.out h1,go_sem,seval,↓reduceIte]
  ·have hk2:k<r.visits.length:=Za
   have hin:=hv _ (Z2 hk2);simp only [NF,Zv,Zq] at hin;obtain ⟨i1,i2⟩:=hin
   have hi:(nth r.visits k).order.toNat<x.orders.length:=Za
   have ho':=ho _ (Z2 hi);refine Xj (Zd ?_);refine Zo (uL (Zx x r) (nth x.orders (nth r.visits k).order.toNat).skills Za Za) (Zd ?_);refine Z0 ?_ ?_<;>intro h2
   ·have:(r.visits.any fun v=> !YK (Zx x r) (nth x.orders v.order.toNat).skills)=true:=by
     grind [Z2]
    grind
   ·exact ⟨k+1,⟨Za,Zr.2 ⟨hno,by grind⟩⟩,Za,wk⟩
  ·have: ¬(r.visits.any fun v=> !YK (Zx x r) (nth x.orders v.order.toNat).skills)=true:=by
    rw [Wl];rintro ⟨v,hv,e⟩;obtain ⟨j,hj,rfl⟩:=ZU.1 hv
    grind [Zi]
   grind
def TF (x:Inst) (d:Nat) (ms:List Int) (k:Nat):List Int:=(ms.take k).foldl (fun s i=>if (nth x.orders i.toNat).pick.place<0 then Fx s (nth x.orders i.toNat).load else s) (List.replicate d 0)
theorem ON {x:Inst} {d:Nat} {ms:List Int} {k:Nat} (h:k<ms.length):TF x d ms (k+1)=if (nth x.orders (nth ms k).toNat).pick.place<0 then Fx (TF x d ms k) (nth x.orders (nth ms k).toNat).load else TF x d ms k:=by
 grind [TF,X3,Zi]
theorem TG {x:Inst} {d:Nat} {ms:List Int} (hms: ∀i∈ms,∀j,j<d->0<=nth (nth x.orders i.toNat).load j/\nth (nth x.orders i.toNat).load j<=1000): ∀k,k<=ms.length->(TF x d ms k).length=d/\ ∀j,j<d->0<=nth (TF x d ms k) j/\nth (TF x d ms k) j<=1000*k
 | 0,_=>by
  grind [TF,Zi]
 | k+1,h=>by
  obtain ⟨h1,h2⟩:=TG hms k Za;rw [ON Za]
  split
  ·refine ⟨by simp [Fx,h1],fun j hj=> ?_⟩;have a1:=h2 j hj;have a2:=hms _ (Z2 (show k<ms.length by omega)) j hj;rw [Fx,K4 Za];omega
  ·exact ⟨h1,fun j hj=>by have:=h2 j hj;omega⟩
theorem vW (x:Inst) (S:Int) (d:Nat) (hd:d<=3) (hol:x.orders.length<=1048576) (hms: ∀i∈X6 S 63,0<=i/\i<(x.orders.length:Int)) (hml:(X6 S 63).length<=63)
  (hld: ∀o∈x.orders,o.load.length=d/\ ∀n∈o.load,0<=n/\n<=1000) :
  PC 263 [.p (Zs x),.p (.int .i64 S),.p (.int .i64 (d:Int))] (.list false ((TF x d (X6 S 63) (X6 S 63).length).map eI)):=by
 have hmo: ∀i∈X6 S 63,i.toNat<x.orders.length:=fun i hi=>by grind
 have hrg:=TG (x:=x) (d:=d) (ms:=X6 S 63) fun i hi j hj=>by
  grind [Z2]
 refine Zc Tryz.func263 rfl ZcU ?_;simp (disch:=omega) only [Tryz.f263,go_sem,seval];refine (DP S).useF (Zd ?_);refine Zp ((Weak.fz (o:=1) (by rfl)).trans (Weak.fz (o:=2) (by rfl))) ?_;simp (disch:=omega) only [Zt,Zk,ZQ,ZG,AF,eq_self,go_sem,seval]
 have hz:List.replicate d (PV.int .i64 0)=(TF x d (X6 S 63) 0).map eI:=by
  show _=(List.replicate d 0).map eI
  rw [AH];rfl
 refine Zl [3,13,14] (fun k:Nat=> [(7,.p (.list false ((TF x d (X6 S 63) k).map eI))),(15,.p (.int .i64 k))]) (fun _=> [Zf x,.dead,.dead]) (fun k=>k<=(X6 S 63).length) (fun k=>(X6 S 63).length-k) 0 Zb (Weak.mk ?_) ?_
 ·simp (disch:=omega) only [Zf,hz,go_sem,seval]
 ·intro k hk;have hk1:=hrg k hk;have hsn:=fun h=>ON (x:=x) (d:=d) (ms:=X6 S 63) (k:=k) h;refine YV ?_;refine cD ?_ ?_<;>intro h1<;>simp (disch:=omega) only [Sh.out h1,go_sem,seval,↓reduceIte]
  ·have hk2:k<(X6 S 63).length:=Za
   have hm:=hms _ (Z2 hk2);have hi:=hmo _ (Z2 hk2);have hlo:=hld _ (Z2 hi);have hsn:=hsn hk2;refine Zd ?_;refine Z0 ?_ ?_<;>intro h2
   ·rw [if_pos h2] at hsn;refine Yn (nA (TF x d (X6 S 63) k) (nth x.orders (nth (X6 S 63) k).toNat).load false (nth x.orders (nth (X6 S 63) k).toNat).load_c Za Za fun j hj=> ?_) ?_
    ·have b1:=hk1.2 j Za;have b2:=hlo.2 _ (Z2 (show j<(nth x.orders (nth (X6 S 63) k).toNat).load.length by omega));omega
    ·refine Zd ?_;exact ⟨k+1,Za,Za,Weak.mk (by simp (disch:=omega) only [hsn,go_sem,seval])⟩
   ·rw [if_neg h2] at hsn;exact ⟨k+1,Za,Za,Weak.mk (by simp (disch:=omega) only [hsn,go_sem,seval])⟩
  grind
theorem PW {p:Nat->Bool} {n:Nat} (h: ∀i,n<=i->p i=false): ∀k,n<=k->(List.range k).filter p=(List.range n).filter p:=by
 intro k hk
 induction k with
 | zero=>grind
 | succ k ih =>
  grind [Yh]
theorem Zkn {x:Inst} {l:List Vis} (hi:Inr x l) (hn:x.orders.length<=10):X6 ((Xz l:Nat):Int) 63=((List.range x.orders.length).filter fun (i:Nat)=>hasO l (i:Int)).map fun (i:Nat)=>(i:Int):=by
 have key: ∀i:Nat,i<=62->sHas ((Xz l:Nat):Int) (i:Int)=hasO l (i:Int):=fun i h=>by
  rw [WV _ _ h,Wz,CX,Vf]
  constructor
  ·rintro ⟨v,hv,e⟩;exact ⟨v,hv,by have:=hi v hv;omega⟩
  grind
 unfold X6;rw [AJ (q:=fun (i:Nat)=>hasO l (i:Int)) (fun i hm=>key i (by grind)),PW (n:=x.orders.length) (fun i h=> ?_) 63 Za]
 cases hh:hasO l (i:Int) with
 | false=>rfl
 | true =>
  obtain ⟨v,hv,e⟩:=Vf.1 hh;have:=hi v hv;omega
theorem kI {x:Inst} {d:Nat} : ∀(L:List Nat) (g:Nat->Int),(L.map fun (i:Nat)=>(i:Int)).foldl (fun s (i:Int)=>if (nth x.orders i.toNat).pick.place<0 then Fx s (nth x.orders i.toNat).load else s) ((List.range d).map g)=(List.range d).map fun j=>g j+(L.map fun i=>if (nth x.orders i).pick.place<0 then nth (nth x.orders i).load j else 0).sum
 | [],g=>Zb
 | i::L,g=>by
  rw [Zt,XS,XD]
  by_cases h:(nth x.orders i).pick.place<0
  ·have e:Fx ((List.range d).map g) (nth x.orders i).load=(List.range d).map fun j=>g j+nth (nth x.orders i).load j:=by
    grind [Fx,Wk,K4]
   rw [if_pos h,e,kI L]
   grind
  ·rw [if_neg h,kI L]
   grind
theorem eM {x:Inst} {l:List Vis} (hi:Inr x l) (hn:x.orders.length<=10):TF x (dimsOf x.types).toNat (X6 ((Xz l:Nat):Int) 63) (X6 ((Xz l:Nat):Int) 63).length=Y2 x l 0:=by
 rw [TF,X1,Zkn hi hn];have:=kI (x:=x) (d:=(dimsOf x.types).toNat) ((List.range x.orders.length).filter fun (i:Nat)=>hasO l (i:Int)) fun _=>0
 have e:(List.range (dimsOf x.types).toNat).map (fun _=>(0:Int))=List.replicate (dimsOf x.types).toNat 0:=by
  simp_all [List.map_const']
 rw [e] at this;rw [this,Y2];refine Wk fun j _=> ?_;rw [Int.zero_add,Ku,Dn]
 congr 1
 refine Wk fun i _=> ?_
 grind [mT]
theorem pL {x:Inst} {l:List Vis} {n j:Nat} {d:Nat} (hj:j<d) (hld: ∀o∈x.orders,o.load.length=d/\ ∀n∈o.load,0<=n/\n<=1000) (hn:x.orders.length<=10):0<=Dn x l n j/\Dn x l n j<=10000:=by
 have key:=TH (f:=fun i=>if i<x.orders.length then (if (EJ x l n i&&hasO l i)=true then nth (nth x.orders i).load j else 0) else 0) (b:=1000) Za (fun q=>by
  grind [Z2]) x.orders.length
 have e:Dn x l n j=((List.range x.orders.length).map fun i=>if i<x.orders.length then (if (EJ x l n i&&hasO l i)=true then nth (nth x.orders i).load j else 0) else 0).sum:=by
  simp_all [Dn,Wk]
 omega
theorem gE {x:Inst} {l:List Vis} {n j:Nat} (hj:j<(dimsOf x.types).toNat) (hd:LdOk x):0<=nth (Y2 x l n) j/\nth (Y2 x l n) j<=10000:=by
 rw [Y2,K4 hj];exact pL hj (fun o ho=>by obtain ⟨h1,h2⟩:=hd.load o ho;grind) hd.ord
def xU {α:Type} (f:α->Bool) (l:List α):Int:=match l.findIdx? f with | some i=>(i:Int) | none=> -1
theorem kK {α:Type} [Inhabited α] {f:α->Bool} {l:List α} {k:Nat} (hk:k<l.length) (h:f (nth l k)=true) (hno: ∀j,j<k->f (nth l j)=false):xU f l=(k:Int):=by
 have:l.findIdx? f=some k:=by
  grind [V9,Zi]
 simp [xU,this]
theorem kM {α:Type} [Inhabited α] {f:α->Bool} {l:List α} (hno: ∀j,j<l.length->f (nth l j)=false):xU f l= -1:=by
 have:l.findIdx? f=none:=by
  rw [EY];intro x hx;obtain ⟨j,hj,rfl⟩:=ZU.1 hx
  grind [Zi]
 simp [xU,this]
theorem kL {α:Type} {f:α->Bool} {l:List α} :decide (0<=xU f l)=l.any f:=by
 grind [xU]
theorem bO (l:List (List Int)) (c:Bool) (g:FuncId) (caps:List V) (H:List AM.Obj) (f:List Int->Bool) (hl:l.length<=1048576) (hW:O4 H H.length H H) (hc:Xu H.length caps=true)
  (hg: ∀v∈l,ACalls Tryz.prog g (.p (qI v)::caps) H fun x H'=>x= .p (.bool (f v))/\H'=H) :
  ACalls Tryz.prog 267 [.p (.list c (l.map qI)),.fn (.func g) [] caps] H fun x H'=>x= .p (.int .i64 (xU f l))/\H'=H:=by
 refine Y1 Tryz.func267 rfl ZcY (Zh [] _ _ _ _ ?_);simp (disch:=omega) only [Tryz.f267,go_sem,seval];refine Zl [0,1,7] (fun k:Nat=> [(8,.p (.int .i64 k))]) (fun _=>H) (fun k=>k<=l.length/\ ∀j,j<k->f (nth l j)=false) (fun k=>l.length-k) 0 Zb (Weak.mk ?_) ?_
 ·simp (disch:=omega) only [hW,hc,go_sem,seval];simp
 ·rintro k ⟨hk,hno⟩;refine Zd ?_;refine cD ?_ ?_<;>intro h<;>simp (disch:=omega) only [Sh.out h,go_sem,seval,↓reduceIte]
  ·have hk2:k<l.length:=Za
   have hgk:=hg (nth l k) (Zu hk2);simp (disch:=omega) only [ZaI,go_sem,seval] at hgk;refine hgk.useH (Zd ?_);refine cD ?_ ?_<;>intro h2<;>simp (disch:=omega) only [Sh.out h2,go_sem,seval,↓reduceIte]
   ·grind [kK]
   ·have h3:f (nth l k)=false:=Za
    refine ⟨k+1,⟨Za,Zr.2 ⟨hno,h3⟩⟩,Za,Weak.mk ?_⟩;simp (disch:=omega) only [hW,hc,go_sem,seval];simp
  grind [kM]
theorem Lu (l:List (List Int)) (c:Bool) (g:FuncId) (caps:List V) (H:List AM.Obj) (f:List Int->Bool) (hl:l.length<=1048576) (hW:O4 H H.length H H) (hc:Xu H.length caps=true)
  (hg: ∀v∈l,ACalls Tryz.prog g (.p (qI v)::caps) H fun x H'=>x= .p (.bool (f v))/\H'=H) :
  ACalls Tryz.prog 243 [.p (.list c (l.map qI)),.fn (.func g) [] caps] H fun x H'=>x= .p (.bool (l.any f))/\H'=H:=by
 refine Y1 Tryz.func243 rfl ZcB (Zh [] _ _ _ _ ?_);simp (disch:=omega) only [Tryz.f243,go_sem,seval];refine (bO l c g caps H f hl hW hc hg).useH (Zd ?_);rw [kL]
theorem nG (x:Inst) (r:Rte) (hx:InstOk x) (hl:r.visits.length<=1048576):PC 211 [.p (Zs x),.p (WM r)] (.int .i64 (Xf x r.visits)):=by
 have hf:=XP hx;obtain ⟨h1,h2⟩:=Ub.1 hx.rules
 have ha:x.apart.length<=1048576:=by
  have h3:=(Ub.1 h1).1
  grind [Ht]
 have hb:x.before.length<=1048576:=by
  have h3:=(Ub.1 h2).1
  grind [Ht]
 exact RK x r (by have:=hf.len;omega) hl ha hb
theorem uK {x:Inst} {l:List Vis} (hi:Inr x l) (hn:x.orders.length<=10):Jl l=(((Xz l:Nat):Int),0):=by
 rw [Jl,if_pos];rw [ZD];intro v hv;have:=hi v hv;simp [Hu];omega
theorem ZqH {α:Type} (f:Nat->α) (n:Nat):(List.range n).map f++ [f n]=(List.range (n+1)).map f:=by grind [Yh]
theorem nD (x:Inst) (r:Rte) (hx:InstOk x) (hl:r.visits.length<=1048576) (h0:Xf x r.visits=0) :
  PT 242 [.p (Zs x),.p (WM r)] [.p (.list false ((QT x r.visits).map qI)),.p (.int .i64 0)]:=by
 have hd:=QO hx;have hsq:=VW h0;have hol:=hd.ord;have hso:=OF r hl;rw [uK hsq.inr hol] at hso
 have hD:dimsOf x.types=((dimsOf x.types).toNat:Int):=by have:=hd.dim;omega
 have cd:=uO x.types x.types_c hd.typ;rw [hD] at cd;have hst:=eM hsq.inr hol
 have hmem: ∀i∈X6 ((Xz r.visits:Nat):Int) 63,0<=i/\i<(x.orders.length:Int):=fun i hi=>by
  rw [Zkn hsq.inr hol] at hi
  grind
 have cs:=vW x ((Xz r.visits:Nat):Int) (dimsOf x.types).toNat (by have:=hd.dim;omega) Za hmem (CO _ _) (fun o ho=>by have:=hd.load o ho;grind);rw [hst] at cs;refine Ze [20] Tryz.func242 rfl ZcA ?_;simp (disch:=omega) only [Tryz.f242,go_sem,seval];refine (nG x r hx hl).use (Zd ?_);simp (disch:=omega) only [h0,go_sem,seval];refine Yn hso (Zd ?_);refine Xj (Zd ?_);refine Zo (cd) (Zd ?_);refine Zo (cs) (Zd ?_);refine Z3 [20] [2,37,38] (fun q:Nat×List (List Int)=> [(9,.p (.list false ((Y2 x r.visits q.1).map eI))),(10,.sl 2 0 q.2.length q.2.length),(39,.p (.int .i64 q.1))]) (fun q=> [Zf x,XA r,.elems 1 (q.2.map qI)]) (fun q=>q.1<=r.visits.length/\q.2=(List.range (q.1+1)).map (Y2 x r.visits)) (fun q=>r.visits.length-q.1) (0,[Y2 x r.visits 0]) Zb (Weak.mk ?_) ?_
 ·simp (disch:=omega) only [Zf,XA,Zk,Zt,ZJ,ZE,go_sem,seval]
 ·rintro ⟨k,o⟩ ⟨hk,ho⟩;simp only at hk ho
  have hol2:o.length=k+1:=by rw [ho];simp
  refine Ai ?_;refine cD ?_ ?_<;>intro h1<;>simp (disch:=omega) only [Sh.out h1,go_sem,seval,↓reduceIte]
  ·have hk2:k<r.visits.length:=Za
   obtain ⟨v1,v2⟩:=hsq.inr _ (Zu hk2)
   have hi:(nth r.visits k).order.toNat<x.orders.length:=Za
   obtain ⟨l1,l2⟩:=hd.load _ (Z2 hi);have hsu:=TY hsq hk2;have hal:=Fy (x:=x) (l:=r.visits) (n:=k);have hdm:=hd.dim
   have hrg: ∀j,j<(Y2 x r.visits k).length-> -1073741824<=nth (Y2 x r.visits k) j/\nth (Y2 x r.visits k) j<=1073741824/\ -1073741824<=nth (nth x.orders (nth r.visits k).order.toNat).load j/\nth (nth x.orders (nth r.visits k).order.toNat).load j<=1073741824:=fun j hj=>by
    have b1:=gE (x:=x) (l:=r.visits) (n:=k) (j:=j) Za hd
    grind [Z2]
   refine cD ?_ ?_<;>intro h2<;>simp (disch:=omega) only [Sh.out h2,go_sem,seval,↓reduceIte]
   ·rw [if_pos h2] at hsu;refine Yn (ZdN (Y2 x r.visits k) (nth x.orders (nth r.visits k).order.toNat).load false (nth x.orders (nth r.visits k).order.toNat).load_c Za Za hrg) (Zd ?_);exact ⟨(k+1,o++ [Y2 x r.visits (k+1)]),⟨Za,by grind⟩,Za,Weak.mk (by simp (disch:=omega) only [hsu,ZA,ZE,ZJ,Xy,Zt,Zk,go_sem,seval])⟩
   ·rw [if_neg (by rw [h2];simp)] at hsu;refine Yn (nA (Y2 x r.visits k) (nth x.orders (nth r.visits k).order.toNat).load false (nth x.orders (nth r.visits k).order.toNat).load_c Za Za hrg) (Zd ?_);exact ⟨(k+1,o++ [Y2 x r.visits (k+1)]),⟨Za,by grind⟩,Za,Weak.mk (by simp (disch:=omega) only [hsu,ZA,ZE,ZJ,Xy,Zt,Zk,go_sem,seval])⟩
  ·have hkl:k=r.visits.length:=Za
   subst hkl;refine Zp (Weak.fz (o:=2) (by rfl)) (Zh [] _ _ _ _ (JQ ?_));rw [QT,<- ho];exact we
theorem tD (x:Inst) (r:Rte) (a:List Int) (htl:x.types.length<=1048576) (hty:0<=r.typ/\r.typ<(x.types.length:Int)) (ha:a.length<=1048576) (hc:(Zx x r).cap.length<=1048576) :
  ACalls Tryz.prog 244 [.p (qI a),.ptr 0 0,.ptr 1 0] [Zf x,XA r] fun y H'=>y= .p (.bool (!V2 a (Zx x r).cap))/\H'= [Zf x,XA r]:=by
 have hti:r.typ.toNat<x.types.length:=Za
 refine Ze [] Tryz.func244 rfl ZcC ?_;simp (disch:=omega) only [Tryz.f244,Zf,XA,go_sem,seval];refine (uQ a (Zx x r).cap false (Zx x r).cap_c ha hc).use (Zd ?_);exact we
theorem nB (x:Inst) (r:Rte) (hx:InstOk x) (hl:r.visits.length<=1048576) (hty:0<=r.typ/\r.typ<(x.types.length:Int)) (h0:Xf x r.visits=0) :
  PC 213 [.p (Zs x),.p (WM r)] (.int .i64 (if Vz x (Zx x r).cap r.visits=true then 0 else 17)):=by
 have hd:=QO hx;have htl:=hd.typ
 have hti:r.typ.toNat<x.types.length:=Za
 have hcp:(Zx x r).cap.length<=1048576:=by
  have hcap:=hx.types.2 _ hti;unfold UE at hcap;obtain ⟨⟨⟨⟨⟨⟨⟨⟨_,_⟩,_⟩,_⟩,hcap⟩,_⟩,_⟩,_⟩,_⟩:=hcap;simp only [VI,Zv,Zq,rng] at hcap;unfold Zx;omega
 have hll:(QT x r.visits).length=r.visits.length+1:=by simp [QT]
 have hvl:=(VW h0).len hd.ord
 have hall:(QT x r.visits).any (fun a=> !V2 a (Zx x r).cap)= !Vz x (Zx x r).cap r.visits:=by
  grind [Vz,QT]
 have e1: ¬r.typ<0:=Za
 have e2: ¬(x.types.length:Int)<=r.typ:=Za
 refine Zc Tryz.func213 rfl Zb8 ?_;simp (disch:=omega) only [Tryz.f213,e1,e2,go_sem,seval];refine Yn (nD x r hx hl h0) (Zd ?_);refine (Lu (QT x r.visits) false 244 [.ptr 0 0,.ptr 1 0] [Zf x,XA r] (fun a=> !V2 a (Zx x r).cap) Za (by simp (disch:=omega) only [Zf,XA,go_sem,seval]) (by rfl) (fun a ha=>tD x r a htl hty ?_ hcp)).useH ?_
 ·obtain ⟨j,_,rfl⟩:=XH.1 ha;rw [Fy];have:=hd.dim;omega
 ·refine Ai ?_;rw [hall];refine cD ?_ ?_<;>intro h1<;>simp (disch:=omega) only [Sh.out h1,go_sem,seval]
  ·grind
  grind
theorem Hn (l:List Int) (c:Bool) (hl:l.length<=1048576):ACalls Tryz.prog 94 [.p (.list c (l.map eI))] [] fun y H'=>y= .sl 0 0 l.length l.length/\H'= [.elems 1 (l.map eI)]:=by
 refine Ze [1] Tryz.func94 rfl Zj9 ?_;simp (disch:=omega) only [Tryz.f94,go_sem,seval];refine Wf (FH (e:=3) (cl:=c) (xs:=l.map eI) Tryz.underlying55 (by rfl) Zb fun b hb=> ?_);refine Zh [] _ _ _ _ ?_;simp (disch:=omega) only [go_sem,seval];refine cD ?_ ?_<;>intro h<;>simp (disch:=omega) only [Sh.out h,go_sem,seval]
 ·have:l= []:=by simpa using hb h
  subst this;exact ⟨_,_,Weak.nil 0 1 rfl Zb,rfl,rfl⟩
 ·refine Zh [] _ _ _ _ ?_;simp (disch:=omega) only [go_sem,seval];exact we
theorem As {P:Program} {e:TypeId} {k:Nat} {cs:List PV} {kk:IntKind} {n:Int} {x:PV} (h0:0<=n) (h1:n<k) (hx:apart P e cs n.toNat=some x) (ht:Wa P e=some 1):ML P (some (.array k e)) (.p (.agg cs)) (.p (.int kk n))=some (.p x):=by
 simp_all [ML]
def Zii (s:Sco):PV:= .agg [.int .i64 s.cost,.int .i64 s.moved,.int .i64 s.other,.int .i64 s.work]
@[go_sem] theorem Zl9 (s:Sco):Zii s= .agg [.int .i64 s.cost,.int .i64 s.moved,.int .i64 s.other,.int .i64 s.work]:=Zm rfl rfl
theorem nH (s:Sco):PC 176 [.p (EG s)] (Zii s):=by
 refine Ze [] Tryz.func176 rfl ZbM ?_;simp (disch:=omega) only [Tryz.f176,go_sem,seval];exact we
def scoR (B:Int) (s:Sco):Prop:=(-B<=s.cost/\s.cost<=B)/\(-B<=s.moved/\s.moved<=B)/\(-B<=s.other/\s.other<=B)/\(-B<=s.work/\s.work<=B)
def rB (s:Sco):AM.Obj:= .cells [.p (.int .i64 s.cost),.p (.int .i64 s.moved),.p (.int .i64 s.other),.p (.int .i64 s.work)]
def YP (s:Sco):Int×Int:=if s.cost<0\/s.moved<0\/s.other<0\/s.work<0 then (0,2) else if 1073741824<s.cost\/16<=s.moved\/16<=s.other\/65536<=s.work then (0,4) else (((s.cost*16+s.moved)*16+s.other)*65536+s.work,0)
theorem It (s:Sco) (hs:scoR 1152921504606846976 s):PT 139 [.p (EG s)] [.p (.int .i64 (YP s).1),.p (.int .i64 (YP s).2)]:=by
 obtain ⟨a1,a2,a3,a4⟩:=hs;refine Ze [] Tryz.func139 rfl Zbj ?_;simp (disch:=omega) only [Tryz.f139,go_sem,seval];refine (nH s).use (Zd ?_);refine Zl [1,9] (fun k:Nat=> [(10,.p (.int .i64 k))]) (fun _=> [rB s,rB s]) (fun k=>k<=4/\(0<k->0<=s.cost)/\(1<k->0<=s.moved)/\(2<k->0<=s.other)/\(3<k->0<=s.work)) (fun k=>4-k) 0 ⟨Za,Za,Za,Za,Za⟩ (Weak.mk ?_) ?_
 ·simp (disch:=omega) only [rB,go_sem,seval]
 ·rintro k ⟨hk,k1,k2,k3,k4⟩;simp (disch:=omega) only [rB,go_sem,seval];refine cD ?_ ?_<;>intro h1<;>simp (disch:=omega) only [Sh.out h1,go_sem,seval,↓reduceIte]
  ·have:k=0\/k=1\/k=2\/k=3:=Za
   rcases this with rfl | rfl | rfl | rfl
   ·rw [As (x:= .int .i64 s.cost) Za Za (by rfl) Zg];refine Zd ?_;refine Z0 ?_ ?_<;>intro h2
    ·have e:YP s=(0,2):=by simp_all [YP]
     rw [e];exact we
    ·exact ⟨1,⟨Za,fun _=>Za,Za,Za,Za⟩,Za,wk⟩
   ·rw [As (x:= .int .i64 s.moved) Za Za (by rfl) Zg];refine Zd ?_;refine Z0 ?_ ?_<;>intro h2
    ·have e:YP s=(0,2):=by simp_all [YP]
     rw [e];exact we
    ·exact ⟨2,⟨Za,fun _=>k1 Za,fun _=>Za,Za,Za⟩,Za,wk⟩
   ·rw [As (x:= .int .i64 s.other) Za Za (by rfl) Zg];refine Zd ?_;refine Z0 ?_ ?_<;>intro h2
    ·have e:YP s=(0,2):=by simp_all [YP]
     rw [e];exact we
    ·exact ⟨3,⟨Za,fun _=>k1 Za,fun _=>k2 Za,fun _=>Za,Za⟩,Za,wk⟩
   ·rw [As (x:= .int .i64 s.work) Za Za (by rfl) Zg];refine Zd ?_;refine Z0 ?_ ?_<;>intro h2
    ·have e:YP s=(0,2):=by simp_all [YP]
     rw [e];exact we
    ·exact ⟨4,⟨Za,fun _=>k1 Za,fun _=>k2 Za,fun _=>k3 Za,fun _=>Za⟩,Za,wk⟩
  ·have hk4:k=4:=Za
   subst hk4;have g1:=k1 Za;have g2:=k2 Za;have g3:=k3 Za;have g4:=k4 Za
   have n1: ¬(s.cost<0\/s.moved<0\/s.other<0\/s.work<0):=Za
   have bad:(1073741824<s.cost\/16<=s.moved\/16<=s.other\/65536<=s.work)->YP s=(0,4):=fun h=>by simp_all [YP]
   refine gF ?_ ?_<;>intro h2<;>simp (disch:=omega) only [Sh.out h2,go_sem,seval,↓reduceIte]
   ·rw [bad Za];exact we
   ·refine gF ?_ ?_<;>intro h3<;>simp (disch:=omega) only [Sh.out h3,go_sem,seval,↓reduceIte]
    ·rw [bad Za];exact we
    ·refine gF ?_ ?_<;>intro h4<;>simp (disch:=omega) only [Sh.out h4,go_sem,seval,↓reduceIte]
     ·rw [bad Za];exact we
     ·refine cD ?_ ?_<;>intro h5<;>simp (disch:=omega) only [Sh.out h5,go_sem,seval,↓reduceIte]
      ·rw [bad Za];exact we
      ·have e:YP s=(((s.cost*16+s.moved)*16+s.other)*65536+s.work,0):=by simp_all [YP,if_neg]
       rw [e];exact we
def unsF (x:Inst) (i:Int):Sco×Int :=
 if i<0\/(x.orders.length:Int)<=i then (zSco,2)
 else if (nth x.orders i.toNat).off=true then (zSco,9)
 else if (nth x.orders i.toNat).penalty= -1 then (zSco,23)
 else (⟨(nth x.orders i.toNat).penalty,if (nth x.orders i.toNat).now= -1 then 0 else 1,0,0⟩,0)
theorem Of (x:Inst) (i:Int) (ho:x.orders.length<=1048576):PT 138 [.p (Zs x),.p (.int .i64 i)] [.p (EG (unsF x i).1),.p (.int .i64 (unsF x i).2)]:=by
 refine Ze [] Tryz.func138 rfl Zbi ?_;simp (disch:=omega) only [Tryz.f138,go_sem,seval];refine gF ?_ ?_<;>intro h1<;>simp (disch:=omega) only [Sh.out h1,go_sem,seval,↓reduceIte]
 ·have e:unsF x i=(zSco,2):=by simp_all [unsF]
  rw [e];exact we (by simp (disch:=omega) only [zSco,go_sem,seval])
 ·refine cD ?_ ?_<;>intro h2<;>simp (disch:=omega) only [Sh.out h2,go_sem,seval,↓reduceIte]
  ·have e:unsF x i=(zSco,2):=by simp_all [unsF]
   rw [e];exact we (by simp (disch:=omega) only [zSco,go_sem,seval])
  ·have hi:i.toNat<x.orders.length:=Za
   have n1: ¬(i<0\/(x.orders.length:Int)<=i):=Za
   refine cD ?_ ?_<;>intro h3<;>simp (disch:=omega) only [Sh.out h3,go_sem,seval,↓reduceIte]
   ·have e:unsF x i=(zSco,9):=by simp_all [unsF]
    rw [e];exact we (by simp (disch:=omega) only [zSco,go_sem,seval])
   ·have h3': ¬(nth x.orders i.toNat).off=true:=by rw [h3];simp
    refine cD ?_ ?_<;>intro h4<;>simp (disch:=omega) only [Sh.out h4,go_sem,seval,↓reduceIte]
    ·have e:unsF x i=(zSco,23):=by simp_all [unsF]
     rw [e];exact we (by simp (disch:=omega) only [zSco,go_sem,seval])
    ·refine cD ?_ ?_<;>intro h5<;>simp (disch:=omega) only [Sh.out h5,go_sem,seval,↓reduceIte]
     ·have e:unsF x i=(⟨(nth x.orders i.toNat).penalty,1,0,0⟩,0):=by simp_all [unsF]
      rw [e];exact we
     ·have h5':(nth x.orders i.toNat).now= -1:=Za
      have e:unsF x i=(⟨(nth x.orders i.toNat).penalty,0,0,0⟩,0):=by simp_all [unsF]
      rw [e];exact we
theorem Mz (x:Inst) (i:Int) (ho:x.orders.length<=1048576):PT 155 [.p (Zs x),.p (.int .i64 i)] [.p (EG (unsF x i).1),.p (.int .i64 (unsF x i).2)]:=by
 refine Ze [] Tryz.func155 rfl Zby ?_;simp (disch:=omega) only [Tryz.f155,go_sem,seval];refine gF ?_ ?_<;>intro h1<;>simp (disch:=omega) only [Sh.out h1,go_sem,seval,↓reduceIte]
 ·have e:unsF x i=(zSco,2):=by simp_all [unsF]
  rw [e];exact we (by simp (disch:=omega) only [zSco,go_sem,seval])
 ·refine cD ?_ ?_<;>intro h2<;>simp (disch:=omega) only [Sh.out h2,go_sem,seval,↓reduceIte]
  ·have e:unsF x i=(zSco,2):=by simp_all [unsF]
   rw [e];exact we (by simp (disch:=omega) only [zSco,go_sem,seval])
  ·have hi:i.toNat<x.orders.length:=Za
   have n1: ¬(i<0\/(x.orders.length:Int)<=i):=Za
   refine cD ?_ ?_<;>intro h3<;>simp (disch:=omega) only [Sh.out h3,go_sem,seval,↓reduceIte]
   ·have e:unsF x i=(zSco,9):=by simp_all [unsF]
    rw [e];exact we (by simp (disch:=omega) only [zSco,go_sem,seval])
   ·have h3': ¬(nth x.orders i.toNat).off=true:=by rw [h3];simp
    refine cD ?_ ?_<;>intro h4<;>simp (disch:=omega) only [Sh.out h4,go_sem,seval,↓reduceIte]
    ·have e:unsF x i=(zSco,23):=by simp_all [unsF]
     rw [e];exact we (by simp (disch:=omega) only [zSco,go_sem,seval])
    ·refine cD ?_ ?_<;>intro h5<;>simp (disch:=omega) only [Sh.out h5,go_sem,seval,↓reduceIte]
     ·have e:unsF x i=(⟨(nth x.orders i.toNat).penalty,1,0,0⟩,0):=by simp_all [unsF]
      rw [e];exact we
     ·have h5':(nth x.orders i.toNat).now= -1:=Za
      have e:unsF x i=(⟨(nth x.orders i.toNat).penalty,0,0,0⟩,0):=by simp_all [unsF]
      rw [e];exact we
def Uh (s:Sco):Bool:=decide (0<=s.cost)&&decide (s.cost<=1073741824)&&decide (0<=s.moved)&&decide (s.moved<=15)&&decide (0<=s.other)&&decide (s.other<=15)&&decide (0<=s.work)&&decide (s.work<=65535)
theorem dO (s:Sco):PC 193 [.p (EG s)] (.bool (Uh s)):=by
 refine Zc Tryz.func193 rfl ZbT ?_;simp (disch:=omega) only [Tryz.f193,go_sem,seval];refine gT ?_ ?_<;>intro h1<;>simp (disch:=omega) only [Sh.out h1,go_sem,seval,↓reduceIte]
 ·refine gT ?_ ?_<;>intro h2<;>simp (disch:=omega) only [Sh.out h2,go_sem,seval,↓reduceIte]
  ·refine gT ?_ ?_<;>intro h3<;>simp (disch:=omega) only [Sh.out h3,go_sem,seval,↓reduceIte]
   ·refine gT ?_ ?_<;>intro h4<;>simp (disch:=omega) only [Sh.out h4,go_sem,seval,↓reduceIte]
    ·refine gT ?_ ?_<;>intro h5<;>simp (disch:=omega) only [Sh.out h5,go_sem,seval,↓reduceIte]
     ·refine gT ?_ ?_<;>intro h6<;>simp (disch:=omega) only [Sh.out h6,go_sem,seval,↓reduceIte]
      ·refine gT ?_ ?_<;>intro h7<;>simp (disch:=omega) only [Sh.out h7,go_sem,seval,↓reduceIte]
       ·grind [Uh]
       grind [Uh]
      grind [Uh]
     grind [Uh]
    grind [Uh]
   grind [Uh]
  grind [Uh]
 ·simp [Uh,h1]
theorem Ha (s:Sco) (hs:scoR 1152921504606846976 s):PT 156 [.p (EG s)] [.p (.int .i64 (YP s).1),.p (.int .i64 (YP s).2)]:=by
 obtain ⟨a1,a2,a3,a4⟩:=hs
 have bad:(s.cost<0\/s.moved<0\/s.other<0\/s.work<0)->YP s=(0,2):=fun h=>by rw [YP,if_pos h]
 refine Ze [] Tryz.func156 rfl Zbz ?_;simp (disch:=omega) only [Tryz.f156,go_sem,seval];refine gF ?_ ?_<;>intro h1<;>simp (disch:=omega) only [Sh.out h1,go_sem,seval,↓reduceIte]
 ·rw [bad Za];exact we
 ·refine gF ?_ ?_<;>intro h2<;>simp (disch:=omega) only [Sh.out h2,go_sem,seval,↓reduceIte]
  ·rw [bad Za];exact we
  ·refine gF ?_ ?_<;>intro h3<;>simp (disch:=omega) only [Sh.out h3,go_sem,seval,↓reduceIte]
   ·rw [bad Za];exact we
   ·refine cD ?_ ?_<;>intro h4<;>simp (disch:=omega) only [Sh.out h4,go_sem,seval,↓reduceIte]
    ·rw [bad Za];exact we
    ·have n1: ¬(s.cost<0\/s.moved<0\/s.other<0\/s.work<0):=Za
     refine (dO s).use (Zd ?_);refine cD ?_ ?_<;>intro h5<;>simp (disch:=omega) only [Sh.out h5,go_sem,seval,↓reduceIte]
     ·have e:YP s=(0,4):=by
       have h6: ¬Uh s=true:=by grind
       rw [YP,if_neg n1,if_pos];refine Je fun h7=>h6 ?_;simp [Uh];omega
      rw [e];exact we
     ·have h6:Uh s=true:=by grind
      simp [Uh] at h6
      have e:YP s=(((s.cost*16+s.moved)*16+s.other)*65536+s.work,0):=by rw [YP,if_neg n1,if_neg Za]
      rw [e];refine Zd ?_;exact we
def nU (s:Sco):Prop:=0<=s.cost/\0<=s.moved/\0<=s.other/\0<=s.work
theorem O0 {s:Sco} (hs:nU s):(YP s).2=0↔s.cost<=1073741824/\s.moved<16/\s.other<16/\s.work<65536:=by
 obtain ⟨a1,a2,a3,a4⟩:=hs;unfold YP
 grind
theorem pU {s:Sco} (hs:nU s) (h:(YP s).2=0):(YP s).1=((s.cost*16+s.moved)*16+s.other)*65536+s.work:=by
 have h:=(O0 hs).1 h;obtain ⟨a1,a2,a3,a4⟩:=hs
 simp_all [YP,if_neg]
theorem OU {x:Inst} (hx:InstOk x) (i:Int):scoR 1073741824 (unsF x i).1:=by
 unfold unsF
 split
 ·simp [scoR,zSco]
 ·split
  ·simp [scoR,zSco]
  ·split
   ·simp [scoR,zSco]
   ·have ha:=(hx.orders.2 i.toNat Za).arg;simp only [argOk,rng,Zv,Zq] at ha
    grind [scoR]
theorem A7 {a:Sco} {B C:Int} (h:B<=C) (ha:scoR B a):scoR C a:=by
 grind [scoR]
def Nk (x:Inst) (t:Typ) (r:Rte) (c:Bool) (sp:List Stp):PV:= .agg [.list x.net.places_c (x.net.places.map eS),.list x.net.arcs_c (x.net.arcs.map V1),.list x.types_c (x.types.map X7),.list x.orders_c (x.orders.map eOrd),.list x.apart_c (x.apart.map eP),.list x.before_c (x.before.map eP),.str t.name,.int .i64 t.count,.int .i64 t.src,.int .i64 t.dst,.list t.cap_c (t.cap.map eI),.int .i64 t.skills,.int .i64 t.prof,.int .i64 t.opn,.int .i64 t.cls,.int .i64 t.drive,.int .i64 t.rest,.int .i64 t.fixed,.int .i64 t.perMile,.int .i64 t.perTick,.int .i64 r.typ,.int .i64 r.start,.list r.rests_c (r.rests.map eB),.list r.visits_c (r.visits.map Xa),.list c (sp.map FV)]
@[go_sem] theorem Zmr (x:Inst) (t:Typ) (r:Rte) (c:Bool) (sp:List Stp):Nk x t r c sp= .agg [.list x.net.places_c (x.net.places.map eS),.list x.net.arcs_c (x.net.arcs.map V1),.list x.types_c (x.types.map X7),.list x.orders_c (x.orders.map eOrd),.list x.apart_c (x.apart.map eP),.list x.before_c (x.before.map eP),.str t.name,.int .i64 t.count,.int .i64 t.src,.int .i64 t.dst,.list t.cap_c (t.cap.map eI),.int .i64 t.skills,.int .i64 t.prof,.int .i64 t.opn,.int .i64 t.cls,.int .i64 t.drive,.int .i64 t.rest,.int .i64 t.fixed,.int .i64 t.perMile,.int .i64 t.perTick,.int .i64 r.typ,.int .i64 r.start,.list r.rests_c (r.rests.map eB),.list r.visits_c (r.visits.map Xa),.list c (sp.map FV)]:=Zm rfl rfl
def Zei (x:Inst) (t:Typ) (r:Rte):List V:= [.p (.list x.net.places_c (x.net.places.map eS)),.p (.list x.net.arcs_c (x.net.arcs.map V1)),.p (.list x.types_c (x.types.map X7)),.p (.list x.orders_c (x.orders.map eOrd)),.p (.list x.apart_c (x.apart.map eP)),.p (.list x.before_c (x.before.map eP)),.p (.str t.name),.p (.int .i64 t.count),.p (.int .i64 t.src),.p (.int .i64 t.dst),.p (.list t.cap_c (t.cap.map eI)),.p (.int .i64 t.skills),.p (.int .i64 t.prof),.p (.int .i64 t.opn),.p (.int .i64 t.cls),.p (.int .i64 t.drive),.p (.int .i64 t.rest),.p (.int .i64 t.fixed),.p (.int .i64 t.perMile),.p (.int .i64 t.perTick),.p (.int .i64 r.typ),.p (.int .i64 r.start),.p (.list r.rests_c (r.rests.map eB)),.p (.list r.visits_c (r.visits.map Xa))]
def Wo (x:Inst) (t:Typ) (r:Rte) (c:Bool) (sp:List Stp):AM.Obj:= .cells [.p (.list x.net.places_c (x.net.places.map eS)),.p (.list x.net.arcs_c (x.net.arcs.map V1)),.p (.list x.types_c (x.types.map X7)),.p (.list x.orders_c (x.orders.map eOrd)),.p (.list x.apart_c (x.apart.map eP)),.p (.list x.before_c (x.before.map eP)),.p (.str t.name),.p (.int .i64 t.count),.p (.int .i64 t.src),.p (.int .i64 t.dst),.p (.list t.cap_c (t.cap.map eI)),.p (.int .i64 t.skills),.p (.int .i64 t.prof),.p (.int .i64 t.opn),.p (.int .i64 t.cls),.p (.int .i64 t.drive),.p (.int .i64 t.rest),.p (.int .i64 t.fixed),.p (.int .i64 t.perMile),.p (.int .i64 t.perTick),.p (.int .i64 r.typ),.p (.int .i64 r.start),.p (.list r.rests_c (r.rests.map eB)),.p (.list r.visits_c (r.visits.map Xa)),.p (.list c (sp.map FV))]
def Zev : AM.Obj:= .cells [.p (.list true []),.p (.list true []),.p (.list true []),.p (.list true []),.p (.list true []),.p (.list true []),.p (.str []),.p (.int .i64 0),.p (.int .i64 0),.p (.int .i64 0),.p (.list true []),.p (.int .i64 0),.p (.int .i64 0),.p (.int .i64 0),.p (.int .i64 0),.p (.int .i64 0),.p (.int .i64 0),.p (.int .i64 0),.p (.int .i64 0),.p (.int .i64 0),.p (.int .i64 0),.p (.int .i64 0),.p (.list true []),.p (.list true []),.p (.list true [])]
def J2 (L:Lab):PV:= .agg [.int .i64 L.ready,.int .i64 L.since,.bool L.she.rest,.int .i64 L.she.dep,.list L.she.times_c (L.she.times.map eTim),.int .i64 L.she.fin,.int .i64 L.she.miles]
@[go_sem] theorem Zmi (L:Lab):J2 L= .agg [.int .i64 L.ready,.int .i64 L.since,.bool L.she.rest,.int .i64 L.she.dep,.list L.she.times_c (L.she.times.map eTim),.int .i64 L.she.fin,.int .i64 L.she.miles]:=Zm rfl rfl
@[go_sem] theorem Ze0 (l:List Lab):B6 7 (l.map J2)=true:=B7 (f:=J2) (S:=7) (fun _=>rfl) l
def Vb (L:Lab):AM.Obj:= .cells [.p (.int .i64 L.ready),.p (.int .i64 L.since),.p (.bool L.she.rest),.p (.int .i64 L.she.dep),.p (.list L.she.times_c (L.she.times.map eTim)),.p (.int .i64 L.she.fin),.p (.int .i64 L.she.miles)]
theorem iZ (l:List Tim) (c:Bool) (hl:l.length<=1048576):ACalls Tryz.prog 282 [.p (.list c (l.map eTim))] [] fun x H'=>x= .sl 0 0 l.length l.length/\H'= [.elems 4 (l.map eTim)]:=by
 suffices hh:ACalls Tryz.prog 282 [.p (.list c (l.map eTim))] [] fun x H'=> ∃m:List Tim,m=l/\x= .sl 0 0 m.length m.length/\H'= [.elems 4 (m.map eTim)] by
  grind
 refine Ze [1] Tryz.func282 rfl Zdd ?_;simp (disch:=omega) only [Tryz.f282,go_sem,seval];refine Wf (Wf (rW 1 rfl rfl ?_));refine ⟨_,uF (e:=335) rfl Tryz.underlying247 rfl (fun _=>rfl),?_⟩;rintro _ ⟨b,rfl,hb⟩;refine Zd ?_;refine Zh [] _ _ _ _ ?_
 cases b with
 | true =>
  have hn:l= []:=by simp_all
  subst hn;refine Zd ?_;exact ⟨_,_,Weak.ofNil 0 4 rfl Zb (wk),[],rfl,rfl,rfl⟩
 | false =>
  refine Zd ?_;refine Zh [] _ _ _ _ (Zd ?_);exact ⟨.sl 0 0 l.length l.length,[.elems 4 (l.map eTim)],wk,l,rfl,rfl,rfl⟩
theorem HH (x:Inst) (t:Typ) (r:Rte) (c:Bool) (sp:List Stp):PC 247 [.p (Nk x t r c sp)] (J2 (labF t r.start)):=by
 refine Ze [] Tryz.func247 rfl ZcE ?_;simp (disch:=omega) only [Tryz.f247,go_sem,seval];exact we (by simp (disch:=omega) only [labF,zShe,Zk,go_sem,seval])
theorem nV (x:Inst) (t:Typ) (r:Rte) (c:Bool) (sp:List Stp) (k:Nat) (hk:k<=sp.length) (hl:sp.length<=1048576):PC 283 [.p (Nk x t r c sp),.p (.int .i64 (k:Nat))] (.int .i64 (Ug t sp k)):=by
 refine Zc Tryz.func283 rfl Zde ?_;simp (disch:=omega) only [Tryz.f283,go_sem,seval];refine cD ?_ ?_<;>intro h<;>simp (disch:=omega) only [Sh.out h,go_sem,seval,↓reduceIte]
 ·simp_all [Ug]
 simp_all [Ug]
theorem ZdS (x:Inst) (r:Rte) (hx:InstOk x) (hty:0<=r.typ/\r.typ<(x.types.length:Int)) (h0:Xf x r.visits=0) (hs:0<=r.start/\r.start<=4096) :
  PT 246 [.p (Zs x),.p (WM r)] [.p (Nk x (Zx x r) r false (ZK x r.visits)),.p (.bool true)]:=by
 have hd:=QO hx;have hsq:=VW h0;have hol:=hd.ord;have htl:=hd.typ;have hvl:=hsq.len hol
 have e1: ¬r.typ<0:=Za
 have e2: ¬(x.types.length:Int)<=r.typ:=Za
 have e3: ¬r.start<0:=Za
 have e4: ¬ 4096<r.start:=Za
 have e5: ¬ 20<(r.visits.length:Int):=Za
 refine Ze [12] Tryz.func246 rfl lG ?_;simp (disch:=omega) only [Tryz.f246,e1,e2,e3,e4,e5,go_sem,seval];refine X5 [9] 10 mixed Zg Zg Zg Zb (Zd ?_);refine Xx 9 _ _ Zg (by refine Zd ?_;exact ⟨rfl,rfl⟩) (WE ?_);refine Zd ?_
 refine Z3 [12] [2,4,6,49,50] (fun q:Nat×List Stp=> [(51,.p (.int .i64 q.1))])
  (fun q=> [Zf x,XA r,Zev,.cells (Zei x (Zx x r) r++ [.sl 4 0 q.2.length q.2.length]),.elems 4 (q.2.map FV)])
  (fun q=>q.1<=r.visits.length/\q.2=(ZK x r.visits).take q.1) (fun q=>r.visits.length-q.1) (0,[]) Zb ((Weak.nilC (o:=3) (j:=24) 4 rfl rfl Zb).trans (Weak.mk ?_)) ?_
 ·simp (disch:=omega) only [Zf,XA,Zev,Zei,Zx,Zk,ZJ,ZQ,ZG,ZR,ZH,go_sem,seval]
 ·rintro ⟨k,o⟩ ⟨hk,ho⟩;simp only at hk ho
  have hol2:o.length=k:=by grind [Yi]
  simp (disch:=omega) only [Zf,XA,Zev,Zei,go_sem,seval];refine cD ?_ ?_<;>intro h1<;>simp (disch:=omega) only [Sh.out h1,go_sem,seval,↓reduceIte]
  ·have hk2:k<r.visits.length:=Za
   have hvis:=hsq.vis (Zu hk2);simp only [Ao,Zv,Zq] at hvis
   have hsn:o++ [Xo x (nth r.visits k)]=(ZK x r.visits).take (k+1):=by
    rw [ho,X3 (by grind [Yi]),<- Zi,G1 hk2]
   have hnp: ¬(Xo x (nth r.visits k)).place<0:=Za
   refine Yn (Tj x (nth r.visits k) Za hvis.1 hvis.2) ?_;simp (disch:=omega) only [hnp,go_sem,seval];exact ⟨(k+1,o++ [Xo x (nth r.visits k)]),⟨Za,hsn⟩,Za,Weak.mk (by simp (disch:=omega) only [ZA,ZE,ZJ,Xy,Zt,Zk,go_sem,seval])⟩
  ·have hkl:k=r.visits.length:=Za
   subst hkl
   have hso:o=ZK x r.visits:=by grind [Yi]
   subst hso;refine Zp (Weak.fz (o:=4) (by rfl)) (Zh [] _ _ _ _ (JQ ?_));exact we
def OI (rd sn:Int) (m:She):AM.Obj:= .cells [.p (.int .i64 rd),.p (.int .i64 sn),.p (.bool m.rest),.p (.int .i64 m.dep),.sl 4 0 m.times.length m.times.length,.p (.int .i64 m.fin),.p (.int .i64 m.miles)]
theorem FZ {P:Program} {H:List AM.Obj} {f ars} {a b d:PV} {B:V->Prop} {t} (h:ACalls P f ars [] fun x H'=>x= .tup [.p a,.p b,.p d]/\H'= []) (k:B (.tup [.p a,.p b,.p d])) (ha:Xu 0 ars=true:=by rfl) :
  bC (fun y=>ACalls P f ars H (Zw (Zw (fun x H'=>x=y/\H'=H) ⟨⟩) ⟨⟩)) (Zw B t) :=
 ⟨.tup [.p a,.p b,.p d],(h.behind ha H).mono fun x H' hq=>by
  obtain ⟨y,H1,⟨rfl,rfl⟩,rfl,rfl⟩:=hq
  simp [shV,shVs,Zw],k⟩
theorem ZdD (x:Inst) (t:Typ) (r:Rte) (c:Bool) (sp:List Stp) (hok:TrpOk x t sp) (k:Nat) (hk:k<=sp.length) (hs1:0<sp.length) (L:Lab) (hL:LabR k L) (hlen:L.she.times.length=k) (hclip:0<k->L.she.times_c=false) (b:Bool) :
  PT 268 [.p (Nk x t r c sp),.p (J2 L),.p (.int .i64 (k:Nat)),.p (.bool b)] [.p (J2 (nxtF x t sp k L b).1),.p (.int .i64 (nxtF x t sp k L b).2)]:=by
 have hd:=KR hok hL b;have hsn:=GZ hL b;have hg:=LB hok hL b;have hmi:=hL.mil;have hrd:=hL.rdy;have hsnL:=hL.snc;have hsl:=hok.len;have hrst:=hok.rst;unfold nxtF;have hmm:= @KZ k (ZN t L b) b L.she;have hmf:= @Ij k (ZN t L b) b L.she;have hml:= @AW k (ZN t L b) b L.she;refine Ze [2,7,14,31] Tryz.func268 rfl ZcZ ?_;simp (disch:=omega) only [Tryz.f268,go_sem,seval];refine Xj (Zd ?_);refine ZM [2,3,4,5,8] (fun _:Unit=> [(10,.p (.int .i64 (ZN t L b))),(11,.p (.int .i64 (W4 L b)))]) (fun _=> [Wo x t r c sp,Vb L,Vb W6]) (fun _=>True) ?_ ?_
 ·refine Zd ?_;refine Z0 ?_ ?_<;>intro h
  ·subst h;exact ⟨(),Weak.mk (by simp (disch:=omega) only [Wo,Vb,W6,zShe,ZN,W4,Zk,go_sem,seval,↓reduceIte])⟩
  ·subst h;exact ⟨(),Weak.mk (by simp (disch:=omega) only [Wo,Vb,W6,zShe,ZN,W4,Zk,go_sem,seval,↓reduceIte])⟩
 ·intro _ _;refine Zh [7,14,31] _ _ _ _ ?_;simp (disch:=omega) only [Wo,Vb,W6,zShe,Zk,go_sem,seval];refine (iZ L.she.times L.she.times_c Za).useF (Zd ?_)
  generalize hM:X4 k (ZN t L b) b L.she=M at *
  refine ZM [2,4,8,10,11,12] (fun _:Unit=> []) (fun _=> [Wo x t r c sp,Vb L,Vb W6,OI 0 0 M,.elems 4 (M.times.map eTim)]) (fun _=>True) ?_ ?_
  ·refine Zd ?_;refine Z0 ?_ ?_<;>intro h
   ·have hk0:k=0:=Za
    subst hk0
    have e:M= { L.she with rest:=b,dep:=ZN t L b } :=by rw [<- hM,X4,if_pos rfl]
    rw [e];exact ⟨(),Weak.mk (by simp (disch:=omega) only [Wo,Vb,W6,zShe,OI,Zk,go_sem,seval])⟩
   ·have e1:((k:Int)-1).toNat=k-1:=Za
    have hk1:k-1<L.she.times.length:=Za
    have SL:(L.she.times.map eTim).set (k-1) (PV.agg [.int .i64 (nth L.she.times (k-1)).arr,.int .i64 (nth L.she.times (k-1)).beg,.int .i64 (nth L.she.times (k-1)).dep,.bool b])=(L.she.times.set (k-1) { nth L.she.times (k-1) with rest:=b }).map eTim:=by
     rw [Vk];rfl
    have hn1:nth (L.she.times.set (k-1) { nth L.she.times (k-1) with rest:=b }) (k-1)= { nth L.she.times (k-1) with rest:=b } :=by
     grind [Zi]
    have hl1:(L.she.times.set (k-1) { nth L.she.times (k-1) with rest:=b }).length=L.she.times.length:=Zb
    have hMt:M.times=(L.she.times.set (k-1) { nth L.she.times (k-1) with rest:=b }).set (k-1) { nth (L.she.times.set (k-1) { nth L.she.times (k-1) with rest:=b }) (k-1) with dep:=ZN t L b } :=by
     rw [hn1,List.set_set,<- hM,X4,if_neg Za];rfl
    have hM2:M.rest=L.she.rest/\M.dep=L.she.dep:=by rw [<- hM,X4,if_neg Za];simp
    simp (disch:=first | omega | (simp only [ZE,ZJ,ZA,ZB,Xd,XG]<;>omega)) only [e1,go_sem,seval,↓reduceIte];rw [SL]
    generalize L.she.times.set (k-1) { nth L.she.times (k-1) with rest:=b } =l1 at *
    simp (disch:=first | omega | (simp only [ZE,ZJ,ZA,ZB,Xd,XG]<;>omega)) only [e1,hl1,eq_self,W2,go_sem,seval];refine ⟨(),Weak.mk ?_⟩;simp (disch:=omega) only [Wo,Vb,W6,zShe,OI,Zk,hM2.1,hM2.2,hmm,hmf,hml,go_sem,seval];rw [hMt,Vk]
    rfl
  ·intro _ _;refine Zh [14,31] _ _ _ _ ?_;simp (disch:=omega) only [Wo,Vb,W6,zShe,OI,Zk,go_sem,seval];refine ZM [2,4,8,10,11,12,13] (fun _:Unit=> [(14,.p (.int .i64 (Pa t sp k)))]) (fun _=> [Wo x t r c sp,Vb L,Vb W6,OI 0 0 M,.elems 4 (M.times.map eTim)]) (fun _=>True) ?_ ?_
   ·refine Zd ?_;refine Z0 ?_ ?_<;>intro h
    ·have e:Pa t sp k=(nth sp k).place:=by rw [Pa,if_neg Za]
     exact ⟨(),Weak.mk (by simp (disch:=omega) only [Wo,Vb,W6,zShe,OI,Zk,e,go_sem,seval])⟩
    ·have e:Pa t sp k=t.dst:=by rw [Pa,if_pos Za]
     exact ⟨(),Weak.mk (by simp (disch:=omega) only [Wo,Vb,W6,zShe,OI,Zk,e,go_sem,seval])⟩
   ·intro _ _;refine Zh [31] _ _ _ _ ?_;simp (disch:=omega) only [Wo,Vb,W6,zShe,OI,Zk,go_sem,seval];refine Xj (Zd ?_);refine Zo (nV x t r c sp k hk Za) (Zd ?_);refine FZ (yG x.net t.prof (Ug t sp k) (Pa t sp k) (ZN t L b) hok.net Za) (Zd ?_);have hG:W8 x.net t.prof (Ug t sp k) (Pa t sp k) (ZN t L b)=Y9 x t sp k (ZN t L b):=rfl;rw [hG];clear hG
    generalize Y9 x t sp k (ZN t L b)=g at *
    generalize ZN t L b=d at *
    generalize W4 L b=s at *
    refine cD ?_ ?_<;>intro h1<;>simp (disch:=omega) only [Sh.out h1,go_sem,seval,↓reduceIte]
    ·have e:WL t sp k g d s M=(W6,12):=by rw [WL,if_pos h1]
     rw [e];exact we (by simp (disch:=omega) only [W6,zShe,Zk,go_sem,seval])
    ·refine cD ?_ ?_<;>intro h2<;>simp (disch:=omega) only [Sh.out h2,go_sem,seval,↓reduceIte]
     ·refine cD ?_ ?_<;>intro h3<;>simp (disch:=omega) only [Sh.out h3,go_sem,seval,↓reduceIte]
      ·have e:WL t sp k g d s M=(W6,15):=by rw [WL,if_neg h1,if_pos Za,if_pos h3]
       rw [e];exact we (by simp (disch:=omega) only [W6,zShe,Zk,go_sem,seval])
      ·refine Zp (Weak.fz (o:=4) (by rfl)) (Zh [] _ _ _ _ (JQ ?_));refine cD ?_ ?_<;>intro h4<;>simp (disch:=omega) only [Sh.out h4,go_sem,seval,↓reduceIte]
       ·have e:WL t sp k g d s M=(W6,16):=by rw [WL,if_neg h1,if_pos Za,if_neg h3,if_pos h4]
        rw [e];exact we (by simp (disch:=omega) only [W6,zShe,Zk,go_sem,seval])
       ·have e:WL t sp k g d s M=(⟨g.1,s+g.1-d,{ M with fin:=g.1,miles:=M.miles+g.2.1 }⟩,0):=by rw [WL,if_neg h1,if_pos Za,if_neg h3,if_neg h4]
        have hMc:M.times_c=false:=by
         rw [<- hM,X4,if_neg Za]
         grind
        rw [e];exact we (by simp (disch:=omega) only [hMc,go_sem,seval])
     ·have h2': ¬k=sp.length:=Za
      have hkl:k<sp.length:=Za
      have hstp:=hok.stp _ (Z2 hkl);refine Yn (Se (nth sp k) g.1) ?_;unfold FK
      by_cases h3:(nth sp k).cls<max g.1 (nth sp k).opn
      ·have e:WL t sp k g d s M=(W6,14):=by simp_all [WL]
       rw [e,if_pos h3];refine Zd ?_;exact we (by simp (disch:=omega) only [W6,zShe,Zk,go_sem,seval])
      ·rw [if_neg h3];refine Zd ?_;refine Zp (Weak.fz (o:=4) (by rfl)) (Zh [] _ _ _ _ (JQ ?_));refine cD ?_ ?_<;>intro h4<;>simp (disch:=omega) only [Sh.out h4,go_sem,seval,↓reduceIte]
       ·have e:WL t sp k g d s M=(W6,16):=by simp_all [WL]
        rw [e];exact we (by simp (disch:=omega) only [W6,zShe,Zk,go_sem,seval])
       ·have e:WL t sp k g d s M=(⟨max g.1 (nth sp k).opn+(nth sp k).serv,s+g.1-d,{ M with times_c:=false,times:=M.times++ [⟨g.1,max g.1 (nth sp k).opn,0,false⟩],miles:=M.miles+g.2.1 }⟩,0):=by simp_all [WL,if_neg]
        rw [e];exact we
theorem cN {x t sp k L b} (hs:0<sp.length) (hc:0<k->L.she.times_c=false) (he:(nxtF x t sp k L b).2=0):(nxtF x t sp k L b).1.she.times_c=false:=by
 have hm:0<k->(X4 k (ZN t L b) b L.she).times_c=false:=fun h=>by rw [X4,if_neg Za];exact hc h
 unfold nxtF at he ⊢
 generalize Y9 x t sp k (ZN t L b)=g at *
 generalize ZN t L b=d at *
 generalize W4 L b=s at *
 generalize X4 k d b L.she=m at *
 unfold WL at he ⊢
 grind
structure LabO (n k:Nat) (L:Lab):Prop where
 rng:LabR k L
 len:k<=n->L.she.times.length=k
 clip:0<k->L.she.times_c=false
theorem Ia {x t sp k L b} (hok:TrpOk x t sp) (hs:0<sp.length) (hk:k<=sp.length) (h:LabO sp.length k L) (he:(nxtF x t sp k L b).2=0):LabO sp.length (k+1) (nxtF x t sp k L b).1 :=
 ⟨L5 hok hk h.rng he,fun hk2=>Gt (h.len hk) he Za,fun _=>cN hs h.clip he⟩
theorem Ib {x t sp} (hok:TrpOk x t sp) {st:Int} (hst:0<=st/\st<=4096):LabO sp.length 0 (labF t st) :=
 ⟨⟨by have:=hok.opn;grind [labF],by simp [labF],by simp [labF,zShe]⟩,fun _=>rfl,fun h=>Za⟩
theorem Tf (x:Inst) (t:Typ) (r:Rte) (c:Bool) (sp:List Stp) (hok:TrpOk x t sp) (k:Nat) (hk:k<=sp.length) (hs1:0<sp.length) (L:Lab) (hL:LabO sp.length k L) (b:Bool) :
  PT 268 [.p (Nk x t r c sp),.p (J2 L),.p (.int .i64 (k:Nat)),.p (.bool b)] [.p (J2 (nxtF x t sp k L b).1),.p (.int .i64 (nxtF x t sp k L b).2)] :=
 ZdD x t r c sp hok k hk hs1 L hL.rng (hL.len hk) hL.clip b
theorem ZkQ (x:Inst) (t:Typ) (r:Rte) (c:Bool) (sp:List Stp) (hok:TrpOk x t sp) (hs1:0<sp.length) (hst:0<=r.start/\r.start<=4096) (bs:List Bool) (d:Bool) (hb:bs.length=sp.length+1) :
  PT 249 [.p (Nk x t r c sp),.p (.list d (bs.map eB))] [.p (FT (Xb x t sp 0 (labF t r.start) bs).1.she),.p (.int .i64 (Xb x t sp 0 (labF t r.start) bs).2)]:=by
 have hsl:=hok.len;refine Ze [] Tryz.func249 rfl ZcG ?_;simp (disch:=omega) only [Tryz.f249,go_sem,seval];refine (HH x t r c sp).use (Zd ?_)
 refine Zl [2,4,6,13,14] (fun q:Nat×Lab=> [(15,.p (.int .i64 q.1))]) (fun q=> [Wo x t r c sp,.cells [.p (.bool false),.p (.int .i64 0),.p (.list true []),.p (.int .i64 0),.p (.int .i64 0)],Vb q.2])
  (fun q=>q.1<=bs.length/\Xb x t sp 0 (labF t r.start) bs=Xb x t sp q.1 q.2 (bs.drop q.1)/\LabO sp.length q.1 q.2) (fun q=>bs.length-q.1) (0,labF t r.start) ⟨Zb,Zb,Ib hok hst⟩ (Weak.mk ?_) ?_
 ·simp (disch:=omega) only [Wo,Vb,go_sem,seval]
 ·rintro ⟨k,L⟩ ⟨hk,hrun,hL⟩;simp only at hk hrun hL;simp (disch:=omega) only [Wo,Vb,go_sem,seval];refine cD ?_ ?_<;>intro h1<;>simp (disch:=omega) only [Sh.out h1,go_sem,seval,↓reduceIte]
  ·have hk2:k<bs.length:=Za
   have hdrop:bs.drop k=nth bs k::bs.drop (k+1):=by rw [Ua hk2,Zi hk2]
   rw [hdrop,Xb] at hrun;have cn:=Tf x t r c sp hok k Za hs1 L hL (nth bs k);have hL2:=Ia (x:=x) (t:=t) (b:=nth bs k) hok hs1 Za hL
   generalize nxtF x t sp k L (nth bs k)=N at *
   refine Yn cn (Zd ?_);refine Z0 ?_ ?_<;>intro h2
   ·rw [hrun,if_neg h2];exact we (by simp (disch:=omega) only [W6,zShe,Zk,go_sem,seval])
   ·rw [if_pos Za] at hrun;exact ⟨(k+1,N.1),⟨Za,hrun,hL2 Za⟩,Za,wk⟩
  ·have hkl:k=bs.length:=Za
   subst hkl;rw [UO,Xb] at hrun;rw [hrun];exact we
theorem rZ (l m:Lab):PC 271 [.p (J2 l),.p (J2 m)] (.bool (Xi l m)):=by
 refine Zc Tryz.func271 rfl Zc2 ?_;simp (disch:=omega) only [Tryz.f271,go_sem,seval];refine gT ?_ ?_<;>intro h<;>simp (disch:=omega) only [Sh.out h,go_sem,seval,↓reduceIte]
 ·simp [Xi,h]
 ·simp [Xi,h]
def gH (x:Inst) (t:Typ) (r:Rte) (c:Bool) (sp:List Stp) (o:List Lab) (f z:Lab):List AM.Obj:= [Wo x t r c sp,.dead,.elems 7 (o.map J2),Vb f,Vb z]
theorem tI (x:Inst) (t:Typ) (r:Rte) (c:Bool) (sp:List Stp) (o:List Lab) (f z m:Lab):ACalls Tryz.prog 270 [.p (J2 m),.ptr 4 0] (gH x t r c sp o f z) fun y H'=>y= .p (.bool (Xi m z))/\H'=gH x t r c sp o f z:=by
 refine Ze [] Tryz.func270 rfl Zc1 ?_;simp (disch:=omega) only [Tryz.f270,gH,Wo,Vb,go_sem,seval];refine (rZ m z).use (Zd ?_);exact we
theorem P1 (x:Inst) (t:Typ) (r:Rte) (c:Bool) (sp:List Stp) (o:List Lab) (f z:Lab) (hl:o.length<=2097152) :
  ACalls Tryz.prog 284 [.sl 2 0 o.length o.length,.fn (.func 270) [] [.ptr 4 0]] (gH x t r c sp o f z) fun y H'=>y= .p (.int .i64 (xU (fun m=>Xi m z) o))/\H'=gH x t r c sp o f z:=by
 refine Ze [] Tryz.func284 rfl Zdf ?_;simp (disch:=omega) only [Tryz.f284,gH,Wo,Vb,go_sem,seval];refine Zl [0,1,7] (fun k:Nat=> [(8,.p (.int .i64 k))]) (fun _=>gH x t r c sp o f z) (fun k=>k<=o.length/\ ∀j,j<k->Xi (nth o j) z=false) (fun k=>o.length-k) 0 Zb (Weak.mk ?_) ?_
 ·simp (disch:=omega) only [gH,Wo,Vb,go_sem,seval,↓reduceIte]
 ·rintro k ⟨hk,hno⟩;simp (disch:=omega) only [gH,Wo,Vb,go_sem,seval];refine cD ?_ ?_<;>intro h<;>simp (disch:=omega) only [Sh.out h,go_sem,seval,↓reduceIte]
  ·have hk2:k<o.length:=Za
   have hg:=tI x t r c sp o f z (nth o k);simp (disch:=first | omega | (simp only [ZE,ZJ,ZA,ZB,Xd,XG]<;>omega)) only [VJ hk2,hk2,go_sem,seval,↓reduceIte];simp (disch:=omega) only [gH,Wo,Vb,go_sem,seval] at hg;refine hg.useH (Zd ?_);refine cD ?_ ?_<;>intro h2<;>simp (disch:=omega) only [Sh.out h2,go_sem,seval,↓reduceIte]
   ·rw [kK (f:=fun m=>Xi m z) hk2 h2 hno];exact we
   ·exact ⟨k+1,⟨Za,Zr.2 ⟨hno,Za⟩⟩,Za,wk⟩
  ·have hkl:k=o.length:=Za
   subst hkl;rw [kM hno];exact we
theorem Hq (x:Inst) (t:Typ) (r:Rte) (c:Bool) (sp:List Stp) (o:List Lab) (f z:Lab) (hl:o.length<=2097152) :
  ACalls Tryz.prog 269 [.sl 2 0 o.length o.length,.fn (.func 270) [] [.ptr 4 0]] (gH x t r c sp o f z) fun y H'=>y= .p (.bool (o.any fun m=>Xi m z))/\H'=gH x t r c sp o f z:=by
 refine Ze [] Tryz.func269 rfl Zc0 ?_;simp (disch:=omega) only [Tryz.f269,go_sem,seval];refine (P1 x t r c sp o f z hl).useH (Zd ?_);rw [kL];exact we (by simp (disch:=omega) only [gH,Wo,Vb,go_sem,seval])
def aT (x:Inst) (t:Typ) (sp:List Stp) (r:List Bool) (k:Nat) (f:Lab) (bs:List Bool) (l:List Lab):List Lab:=bs.filterMap (Xt x t sp k f)++Vx (Xt x t sp) (UU r) k l
theorem ZaR (x:Inst) (t:Typ) (r:Rte) (c:Bool) (sp:List Stp) (hok:TrpOk x t sp) (hs1:0<sp.length) (k:Nat) (hk:k<=sp.length) (hrl:r.rests.length<=1048576) (l:List Lab) (d:Bool) (hl:l.length<=1048576) (hL: ∀L∈l,LabO sp.length k L) :
  PC 248 [.p (Nk x t r c sp),.p (.list d (l.map J2)),.p (.int .i64 (k:Nat))] (.list false ((Yc Xi [] (Vx (Xt x t sp) (UU r.rests) k l)).map J2)):=by
 have hsl:=hok.len;refine Ze [2,16] Tryz.func248 rfl ZcF ?_;simp (disch:=omega) only [Tryz.f248,go_sem,seval];refine Zp (Weak.fz (o:=1) (by rfl)) (JQ ?_);refine ZM [1,2,3] (fun cb:Bool=> [(7,.p (.list cb ((UU r.rests k).map eB)))]) (fun _=> [Wo x t r c sp,.dead]) (fun _=>True) ?_ ?_
 ·refine Zd ?_;refine Z0 ?_ ?_<;>intro h
  ·have hk2:k<r.rests.length:=Za
   have e:UU r.rests k=(r.rests.take (k+1)).drop k:=by
    grind [UU,X3]
   exact ⟨r.rests_c&&decide ((k:Int)+1=(r.rests.length:Int)),Weak.mk (by simp (disch:=omega) only [Wo,e,go_sem,seval])⟩
  ·have e:UU r.rests k= [false,true]:=by grind [UU]
   exact ⟨false,Weak.mk (by simp (disch:=omega) only [Wo,e,Zt,Zk,go_sem,seval])⟩
 ·intro cb _
  have hch:(UU r.rests k).length<=2:=by grind [UU]
  refine Zh [16] _ _ _ _ ?_;simp (disch:=omega) only [Wo,go_sem,seval]
  refine Z3 [16] [2,3,7,29,30] (fun q:Nat×List Lab=> [(8,.sl 2 0 q.2.length q.2.length),(31,.p (.int .i64 q.1))]) (fun q=> [Wo x t r c sp,.dead,.elems 7 (q.2.map J2)])
   (fun q=>q.1<=l.length/\Yc Xi [] (Vx (Xt x t sp) (UU r.rests) k l)=Yc Xi q.2 (Vx (Xt x t sp) (UU r.rests) k (l.drop q.1))/\q.2.length<=2*q.1) (fun q=>l.length-q.1) (0,[]) Zb (Weak.ofNil 8 7 rfl Zb (Weak.mk ?_)) ?_
  ·simp (disch:=omega) only [Wo,Zk,ZJ,go_sem,seval]
  ·rintro ⟨i,o⟩ ⟨hi,hpr,hol⟩;simp only at hi hpr hol;simp (disch:=omega) only [Wo,go_sem,seval];refine cD ?_ ?_<;>intro h1<;>simp (disch:=omega) only [Sh.out h1,go_sem,seval,↓reduceIte]
   ·have hi2:i<l.length:=Za
    have hLi:=hL _ (Z2 hi2)
    have hdrop:l.drop i=nth l i::l.drop (i+1):=by rw [Ua hi2,Zi hi2]
    rw [hdrop] at hpr;have hpr:Yc Xi [] (Vx (Xt x t sp) (UU r.rests) k l)=Yc Xi o (aT x t sp r.rests k (nth l i) ((UU r.rests k).drop 0) (l.drop (i+1))):=hpr
    refine Zl [2,3,7,10,29,30,31,35,36] (fun q:Nat×List Lab=> [(8,.sl 2 0 q.2.length q.2.length),(37,.p (.int .i64 q.1))]) (fun q=> [Wo x t r c sp,.dead,.elems 7 (q.2.map J2),Vb (nth l i)])
     (fun q=>q.1<=(UU r.rests k).length/\Yc Xi [] (Vx (Xt x t sp) (UU r.rests) k l)=Yc Xi q.2 (aT x t sp r.rests k (nth l i) ((UU r.rests k).drop q.1) (l.drop (i+1)))/\q.2.length<=2*i+q.1) (fun q=>(UU r.rests k).length-q.1) (0,o) ⟨Zb,hpr,hol⟩ (Weak.mk ?_) ?_
    ·simp (disch:=omega) only [Wo,Vb,go_sem,seval]
    ·clear hpr hol;rintro ⟨j,o⟩ ⟨hj,hpr,hol⟩;simp only at hj hpr hol;simp (disch:=omega) only [Wo,Vb,go_sem,seval];refine Z0 ?_ ?_<;>intro h2
     ·have hj2:j<(UU r.rests k).length:=Za
      have hd2:(UU r.rests k).drop j=nth (UU r.rests k) j::(UU r.rests k).drop (j+1):=by rw [Ua hj2,Zi hj2]
      have cn:=Tf x t r c sp hok k hk hs1 (nth l i) hLi (nth (UU r.rests k) j);have ho2:Xt x t sp k (nth l i) (nth (UU r.rests k) j)=if (nxtF x t sp k (nth l i) (nth (UU r.rests k) j)).2=0 then some (nxtF x t sp k (nth l i) (nth (UU r.rests k) j)).1 else none:=rfl;rw [hd2,aT,List.filterMap_cons,ho2] at hpr
      generalize nxtF x t sp k (nth l i) (nth (UU r.rests k) j)=N at *
      refine Yn cn (Zd ?_);refine Jv ?_ ?_<;>intro h3
      ·have hcl:=Hq x t r c sp o (nth l i) N.1 Za;simp (disch:=omega) only [gH,Wo,Vb,go_sem,seval] at hcl;refine hcl.useH (Zd ?_);rw [if_pos h3] at hpr;have hpr:Yc Xi [] (Vx (Xt x t sp) (UU r.rests) k l)=if (o.any fun m=>Xi m N.1)=true then Yc Xi o (aT x t sp r.rests k (nth l i) ((UU r.rests k).drop (j+1)) (l.drop (i+1))) else Yc Xi (o++ [N.1]) (aT x t sp r.rests k (nth l i) ((UU r.rests k).drop (j+1)) (l.drop (i+1))):=hpr;refine Z0 ?_ ?_<;>intro h4
       ·rw [if_neg (by grind)] at hpr;exact ⟨(j+1,o++ [N.1]),⟨Za,hpr,by simp;omega⟩,Za,Weak.mk (by simp (disch:=omega) only [ZA,ZE,ZJ,Xy,Zt,Zk,go_sem,seval])⟩
       ·rw [if_pos (by grind)] at hpr;exact ⟨(j+1,o),⟨Za,hpr,by grind⟩,Za,wk⟩
      ·rw [if_neg h3] at hpr;exact ⟨(j+1,o),⟨Za,hpr,by grind⟩,Za,wk⟩
     ·have hjl:j=(UU r.rests k).length:=Za
      subst hjl;rw [UO,aT,List.filterMap_nil,ZH] at hpr;exact ⟨(i+1,o),⟨Za,hpr,by grind⟩,Za,wk⟩
   ·have hil:i=l.length:=Za
    subst hil;have e:Vx (Xt x t sp) (UU r.rests) k []= []:=rfl;rw [UO,e,Yc] at hpr;rw [hpr];refine Zp (Weak.fz (o:=2) (by rfl)) (Zh [] _ _ _ _ (JQ ?_));exact we
def sR : PV:= .agg [.list true [],.list true [],.list true [],.list true [],.list true [],.list true [],.str [],.int .i64 0,.int .i64 0,.int .i64 0,.list true [],.int .i64 0,.int .i64 0,.int .i64 0,.int .i64 0,.int .i64 0,.int .i64 0,.int .i64 0,.int .i64 0,.int .i64 0,.int .i64 0,.int .i64 0,.list true [],.list true [],.list true []]
theorem uX (x:Inst) (r:Rte) (hty:0<=r.typ/\r.typ<(x.types.length:Int)) (htl:x.types.length<=1048576) (hvl:r.visits.length<=20) (hs: ¬(0<=r.start/\r.start<=4096)) :
  PT 246 [.p (Zs x),.p (WM r)] [.p sR,.p (.bool false)]:=by
 have e1: ¬r.typ<0:=Za
 have e2: ¬(x.types.length:Int)<=r.typ:=Za
 refine Ze [] Tryz.func246 rfl lG ?_;simp (disch:=omega) only [Tryz.f246,e1,e2,go_sem,seval];refine gF ?_ ?_<;>intro h1<;>simp (disch:=omega) only [Sh.out h1,go_sem,seval,↓reduceIte]
 ·exact we (by simp (disch:=omega) only [sR,go_sem,seval])
 ·refine gF ?_ ?_<;>intro h2<;>simp (disch:=omega) only [Sh.out h2,go_sem,seval,↓reduceIte]
  ·exact we (by simp (disch:=omega) only [sR,go_sem,seval])
  ·omega
theorem Ot {x t sp} : ∀(bs:List Bool) (k:Nat) (L:Lab),¬(Xb x t sp k L bs).2=0->(Xb x t sp k L bs).1=W6
 | [],k,L,h=>by simp [Xb] at h
 | b::bs,k,L,h=>by
  rw [Xb] at h ⊢
  split
  ·rename_i c;rw [if_pos c] at h;exact Ot bs (k+1) _ h
  ·rfl
theorem bH (n:Nat):List.replicate n false∈Y4 (List.replicate n false):=by
 rw [fromB_next];simp
theorem kE {l:List Lab} (h:Va Wq none l=none):l= []:=by
 cases l with
 | nil=>rfl
 | cons a l =>
  obtain ⟨z,hz,_⟩:=VK (fin:=Wq) l a;have:Va Wq none (a::l)=Va Wq (some a) l:=rfl
  grind
theorem aI {x t sp} {st:Int} {r:List Bool} (h:Va Wq none ((XE r (sp.length+1)).filterMap (Wd (Xt x t sp) 0 (labF t st)))=none): ¬(Xb x t sp 0 (labF t st) (YY r (sp.length+1))).2=0:=fun h0=>by
 have h1:=kE h;have h2:YY r (sp.length+1)∈XE r (sp.length+1):=XH.2 ⟨_,bH _,rfl⟩
 simp_all [YB]
theorem PA {x t sp} {st:Int} {r:List Bool} (hr:r.length<=sp.length+1) (h:Va Wq none (Kz Xi (Xt x t sp) (UU r) (sp.length+1) 0 [labF t st])=none): ¬(Xb x t sp 0 (labF t st) (YY r (sp.length+1))).2=0 :=
 aI (by rw [Ic,VT,HQ r _ hr] at h;exact h)
def Ju (x:Inst) (r:Rte):She×Int:=if 0<=r.start/\r.start<=4096/\r.rests.length<=r.visits.length+1 then Xp x r else (zShe,2)
theorem iM {x t sp} {ch:Nat->List Bool} {k:Nat} {l:List Lab} (hok:TrpOk x t sp) (hs:0<sp.length) (hk:k<=sp.length) (h: ∀L∈l,LabO sp.length k L): ∀L∈Yc Xi [] (Vx (Xt x t sp) ch k l),LabO sp.length (k+1) L:=fun L hL=>by
 have h1:=A4 Xi _ _ L hL;rw [ZH] at h1;obtain ⟨a,ha,hb⟩:=X0.1 h1
 grind [Xt,Ia]
theorem DZ : ∀(c out:List Lab),(Yc Xi out c).length<=out.length+c.length
 | [],out=>by simp [Yc]
 | x::c,out=>by
  rw [Yc]
  split
  ·have:=DZ c out;simp;omega
  ·have:=DZ c (out++ [x]);simp at this ⊢;omega
theorem HJ {x t sp} {r:List Bool} {k:Nat} : ∀l:List Lab,(Vx (Xt x t sp) (UU r) k l).length<=2*l.length
 | []=>by simp [Vx]
 | a::l=>by
  have ih:=HJ (x:=x) (t:=t) (sp:=sp) (r:=r) (k:=k) l;have h1:(Vx (Xt x t sp) (UU r) k (a::l))=(UU r k).filterMap (Xt x t sp k a)++Vx (Xt x t sp) (UU r) k l:=rfl
  grind [UU]
theorem uN (x:Inst) (r:Rte) (hx:InstOk x) (hl:r.visits.length<=1048576) (hrl:r.rests.length<=1048576) (hty:0<=r.typ/\r.typ<(x.types.length:Int)) (h0:Xf x r.visits=0) :
  PT 214 [.p (Zs x),.p (WM r)] [.p (FT (Ju x r).1),.p (.int .i64 (Ju x r).2)]:=by
 have hd:=QO hx;have hsq:=VW h0;have hol:=hd.ord;have htl:=hd.typ;have hvl:=hsq.len hol;have hok:=Al hx hty hsq;have hsl:(ZK x r.visits).length=r.visits.length:=Yi
 have hs1:0<(ZK x r.visits).length:=by
  rw [hsl];have:=hsq.ne
  grind
 refine Ze [6,13,14] Tryz.func214 rfl Zb9 ?_;simp (disch:=omega) only [Tryz.f214,go_sem,seval]
 by_cases hs:0<=r.start/\r.start<=4096
 ·refine Yn (ZdS x r hx hty h0 hs) (Zd ?_);refine cD ?_ ?_<;>intro h1<;>simp (disch:=omega) only [Sh.out h1,go_sem,seval,↓reduceIte]
  ·have e:Ju x r=(zShe,2):=by rw [Ju,if_neg Za]
   rw [e];exact we (by simp (disch:=omega) only [zShe,Zk,go_sem,seval])
  ·have hrs:r.rests.length<=r.visits.length+1:=Za
   have e:Ju x r=Xp x r:=by simp_all [Ju]
   have hbn:= @PA x (Zx x r) (ZK x r.visits) r.start r.rests Za;rw [e,Xp,Lh Za];refine (HH x (Zx x r) r false (ZK x r.visits)).use (Zd ?_)
   generalize hT:Zx x r=t at *
   generalize hS:ZK x r.visits=sp at *
   refine Zp (Weak.fz (o:=4) (by rfl)) ?_;refine Zh [13,14] _ _ _ _ (Zd ?_)
   refine Z3 [13,14] [3,4,6,8,38] (fun q:Nat×List Lab=> [(9,.p (.list false (q.2.map J2))),(39,.p (.int .i64 q.1))]) (fun _=> [Zf x,XA r,.cells [.p (.bool false),.p (.int .i64 0),.p (.list true []),.p (.int .i64 0),.p (.int .i64 0)],Wo x t r false sp,.dead])
    (fun q=>q.1<=sp.length+1/\Kz Xi (Xt x t sp) (UU r.rests) (sp.length+1) 0 [labF t r.start]=Kz Xi (Xt x t sp) (UU r.rests) (sp.length+1-q.1) q.1 q.2/\(∀L∈q.2,LabO sp.length q.1 L)/\q.2.length<=2^q.1) (fun q=>sp.length+1-q.1) (0,[labF t r.start]) ⟨Zb,Zb,fun L hL=>by grind [Ib],Zb⟩ (Weak.mk ?_) ?_
   ·simp (disch:=omega) only [Zf,XA,Wo,Zt,Zk,ZQ,ZG,go_sem,seval]
   ·rintro ⟨k,l⟩ ⟨hk,hit,hlo,hll⟩;simp only at hk hit hlo hll;simp (disch:=omega) only [Zf,XA,Wo,go_sem,seval];refine cD ?_ ?_<;>intro h2<;>simp (disch:=omega) only [Sh.out h2,go_sem,seval,↓reduceIte]
    ·have hk2:k<=sp.length:=Za
     have hp20:2^k<=2^20:=Yw Za Za;refine (ZaR x t r false sp hok hs1 k hk2 hrl l false Za hlo).use (Zd ?_)
     have hn:Kz Xi (Xt x t sp) (UU r.rests) (sp.length+1-k) k l=Kz Xi (Xt x t sp) (UU r.rests) (sp.length+1-(k+1)) (k+1) (Yc Xi [] (Vx (Xt x t sp) (UU r.rests) k l)):=by
      have e:sp.length+1-k=(sp.length+1-(k+1))+1:=Za
      rw [e,Kz]
     have hln:=DZ (Vx (Xt x t sp) (UU r.rests) k l) [];have hln2:=HJ (x:=x) (t:=t) (sp:=sp) (r:=r.rests) (k:=k) l;exact ⟨(k+1,Yc Xi [] (Vx (Xt x t sp) (UU r.rests) k l)),⟨Za,hit.trans hn,iM hok hs1 hk2 hlo,by grind⟩,Za,Weak.mk (by simp (disch:=omega) only [ZQ,ZG,go_sem,seval])⟩
    ·have hkn:k=sp.length+1:=Za
     subst hkn;rw [AU,Kz] at hit;rw [hit] at hbn ⊢;clear hit;refine cD ?_ ?_<;>intro h3<;>simp (disch:=omega) only [Sh.out h3,go_sem,seval,↓reduceIte]
     ·have hl0:l= []:=YE Za;subst hl0;have hbn:=hbn rfl;refine Wf (EP 3 rfl rfl (Zd ?_));refine ⟨_,_,N6 (e:=4) rfl Tryz.underlying31 Zg rfl rfl rfl ?_ ?_ ?_,?_⟩
      ·simp
      ·simp;omega
      ·intro q hq;obtain ⟨b,_,rfl⟩:=XH.1 hq
       rfl
      ·have hpl:(YY r.rests (sp.length+1)).length=sp.length+1:=by simp [YY];omega
       have hpad:r.rests.map eB++(PV.bool false::List.replicate r.visits.length (PV.bool false)).drop (r.rests.map eB).length=(YY r.rests (sp.length+1)).map eB:=by
        rw [YY,Xy,<- KY,List.drop_replicate,AH,hsl,ZB];rfl
       have hcr:=ZkQ x t r false sp hok hs1 hs (YY r.rests (sp.length+1)) false hpl;have hbad:=Ot _ _ _ hbn;rw [hbad] at hcr;simp only [ZQ,ZG];rw [hpad]
       generalize hRP:YY r.rests (sp.length+1)=rp at *
       refine Zp (Weak.fz (o:=5) (by rfl)) (Zh [] _ _ _ _ (JQ ?_));rw [if_pos Za];refine Yn hcr (Zd ?_);have hfm0:Va Wq none ([]:List Lab)=none:=rfl;rw [hfm0];exact we (by simp (disch:=omega) only [W6,zShe,Zk,go_sem,seval])
     ·cases l with
      | nil=>simp at h3
      | cons l0 l =>
       have e0:KH ((l0::l).map J2) 0=J2 l0:=rfl;have hn0:nth (l0::l) 0=l0:=rfl;simp (disch:=first | omega | (simp only [ZE,ZJ,ZA,ZB,Xd,XG]<;>omega)) only [hn0,X1,go_sem,seval];have hfm:Va Wq none (l0::l)=Va Wq (some l0) l:=rfl;rw [hfm]
       have hlen:l.length<=2097152:=by
        have hp20:2^(sp.length+1)<=2^21:=Yw Za Za
        grind
       refine Zl [4,12,65,66] (fun q:Nat×Lab=> [(67,.p (.int .i64 q.1))]) (fun q=> [Zf x,XA r,.cells [.p (.bool false),.p (.int .i64 0),.p (.list true []),.p (.int .i64 0),.p (.int .i64 0)],Wo x t r false sp,.dead,Vb q.2])
        (fun q=>q.1<=l.length/\Va Wq (some l0) l=Va Wq (some q.2) (l.drop q.1)) (fun q=>l.length-q.1) (0,l0) Zb (Weak.mk ?_) ?_
       ·simp (disch:=omega) only [Zf,XA,Wo,Vb,go_sem,seval]
       ·rintro ⟨i,m⟩ ⟨hi,hm⟩;simp only at hi hm;simp (disch:=omega) only [Zf,XA,Wo,Vb,go_sem,seval];refine cD ?_ ?_<;>intro h4<;>simp (disch:=omega) only [Sh.out h4,go_sem,seval,↓reduceIte]
        ·have hi2:i<l.length:=Za
         have hdrop:l.drop i=nth l i::l.drop (i+1):=by rw [Ua hi2,Zi hi2]
         rw [hdrop,Va] at hm;refine Z0 ?_ ?_<;>intro h5
         ·rw [if_pos (show Wq (nth l i)<Wq m from h5)] at hm;exact ⟨(i+1,nth l i),⟨Za,hm⟩,Za,wk⟩
         ·rw [if_neg (show ¬Wq (nth l i)<Wq m from h5)] at hm;exact ⟨(i+1,m),⟨Za,hm⟩,Za,wk⟩
        ·have hil:i=l.length:=Za
         subst hil;rw [UO,Va] at hm;rw [hm];exact we
 ·have e:Ju x r=(zShe,2):=by rw [Ju,if_neg (fun h=>hs ⟨h.1,h.2.1⟩)]
  rw [e];refine Yn (uX x r hty htl hvl hs) ?_;simp (disch:=omega) only [sR,go_sem,seval];exact we (by simp (disch:=omega) only [zShe,Zk,go_sem,seval])
end Go.Proofs.YtjkkdmeebhjaiaaGreatDoor.K
namespace Go.AM
open Go.RowKit
theorem mF (k v:Int) (l:List (Int×Int)): ∃l',mE (.int .i64 k) (.int .i64 v) (l.map eII)=l'.map eII/\(∀q,K1 l' q=if q=k then v else K1 l q)/\l'.length<=l.length+1:=by
 unfold mE;rw [DQ]
 cases hm:Io l k with
 | none =>
  refine ⟨l++ [(k,v)],by simp [eII],fun q=> ?_,Zb⟩
  have e1:Io (l++ [(k,v)]) k=some l.length:=by
   grind [Io]
  by_cases hq:q=k
  ·grind [K1]
  ·rw [if_neg hq];unfold K1
   have e3:Io (l++ [(k,v)]) q=Io l q:=by
    grind [Io]
   rw [e3]
   cases hc:Io l q with
   | none=>rfl
   | some i =>
    unfold Io at hc
    grind [V9]
 | some i =>
  refine ⟨l.set i (k,v),by simp_all [eII],?_,Zb⟩;have hH:oat [.map (l.map eII)] 0= .map (l.map eII):=rfl;have:=Ra (H:= [.map (l.map eII)]) (o:=0) (l:=l) (k:=k) (i:=i) (v:=v) (K:=fun _ _=> ∀q,K1 (l.set i (k,v)) q=if q=k then v else K1 l q) hH hm fun h=>h;unfold Au at this;obtain ⟨u,q1,_⟩:=Gl hm
  simp_all [Bq]
theorem mG {P:Program} {H:List Obj} {t:TypeId} {o:Nat} {l:List (Int×Int)} {k v:Int} {K:V->List Obj->Prop} (hT:lY P t=some (.int .i64,some (.int .i64 0))) (hH:oat H o= .map (l.map eII))
  (h: ∀l':List (Int×Int),(∀q,K1 l' q=if q=k then v else K1 l q)->K .junk (H.set o (.map (l'.map eII)))):Bq (Ek P H t (.mp o) (.p (.int .i64 k)) (.p (.int .i64 v))) K:=by
 obtain ⟨kt,et,h1,h2,h3⟩:=NR hT;obtain ⟨l',e,hg,_⟩:=mF k v l
 grind [Ek,If,Bq]
end Go.AM
namespace Go.Proofs.YtjkkdmeebhjaiaaGreatDoor.K
open Go Go.AM Go.Proofs
set_option maxRecDepth 8000
set_option maxHeartbeats 8000000
def FS (l:List Vis) (k:Nat) (q:Int):Int:=((l.take k).countP fun v=>decide (v.order=q):Nat)
theorem aU {l:List Vis} {k:Nat} (h:k<l.length) (q:Int):FS l (k+1) q=if q=(nth l k).order then FS l k q+1 else FS l k q:=by
 unfold FS;rw [X3 h,List.countP_append,Zi h]
 grind
theorem jD {l:List Vis} {k:Nat} (h:k<=l.length) (q:Int):0<=FS l k q/\FS l k q<=k:=by
 grind [FS,Xd]
theorem PK {l:List Vis} {k:Nat} :UJ l k=decide (FS l k (nth l k).order=0):=by
 unfold UJ FS;rw [Wz];simp
theorem BL (a b:Int):PC 250 [.p (.int .i64 a),.p (.int .i64 b)] (.bool (Xw a b)):=by
 refine Zc Tryz.func250 rfl ZcH ?_;simp (disch:=omega) only [Tryz.f250,go_sem,seval];refine gT ?_ ?_<;>intro h<;>simp (disch:=omega) only [Sh.out h,go_sem,seval,↓reduceIte]
 ·simp [Xw,h]
 simp_all [Xw]
theorem nF (x:Inst) (r:Rte) (s:She) (hty:0<=r.typ/\r.typ<(x.types.length:Int)) (ho:x.orders.length<=1048576) (ht:x.types.length<=1048576) (hl:r.visits.length<=1048576) (hv:Inr x r.visits)
  (hc:0<=(Zx x r).fixed/\(Zx x r).fixed<=100000/\0<=(Zx x r).perMile/\(Zx x r).perMile<=100/\0<=(Zx x r).perTick/\(Zx x r).perTick<=100) (ho2:0<=(Zx x r).opn/\(Zx x r).opn<=4096)
  (hf: -4096<=s.fin/\s.fin<=8192) (hm:0<=s.miles/\s.miles<=1000000) :
  PC 215 [.p (Zs x),.p (WM r),.p (FT s)] (EG (De x r s)):=by
 have hti:r.typ.toNat<x.types.length:=Za
 have hT:lY Tryz.prog 306=some (.int .i64,some (.int .i64 0)):=Zg
 unfold De;have htd:nth x.types r.typ.toNat=Zx x r:=rfl
 generalize Zx x r=t at *
 have e1: ¬r.typ<0:=Za
 have e2: ¬(x.types.length:Int)<=r.typ:=Za
 have p1:0<=t.perMile*s.miles/\t.perMile*s.miles<=100*1000000:=⟨UP Za Za,VP Za Za Za Za⟩
 have hW: -8192<=s.fin-t.opn/\s.fin-t.opn<=8192:=Za
 have p2: -819200<=t.perTick*(s.fin-t.opn)/\t.perTick*(s.fin-t.opn)<=819200:=by
  generalize s.fin-t.opn=w at hW;have a1:=BG hW.2 (show 0<=t.perTick by omega);have a2:=BG hW.1 (show 0<=t.perTick by omega);omega
 have p3: -128<=(s.fin-t.opn).tdiv 64/\(s.fin-t.opn).tdiv 64<=128:=by
  grind
 have p4:0<=(s.fin-t.opn).tdiv 64*(s.fin-t.opn).tdiv 64/\(s.fin-t.opn).tdiv 64*(s.fin-t.opn).tdiv 64<=16384:=by
  generalize (s.fin-t.opn).tdiv 64=q at p3;refine ⟨?_,?_⟩
  ·rcases AR 0 q with h | h
   ·exact UP h h
   ·exact Int.mul_nonneg_of_nonpos_of_nonpos h h
  ·rcases AR 0 q with h | h
   ·have:=VP p3.2 p3.2 h Za;omega
   ·have h2:0<= -q:=Za
    have:=VP (show-q<=128 by omega) (show-q<=128 by omega) h2 Za
    grind
 refine Zc Tryz.func215 rfl Zca ?_;simp (disch:=omega) only [Tryz.f215,e1,e2,htd,go_sem,seval]
 refine Zl [3,4,6,10,11,59,60] (fun q:Nat×List (Int×Int)=> [(61,.p (.int .i64 q.1))]) (fun q=> [Zf x,XA r,.cells [.p (.bool s.rest),.p (.int .i64 s.dep),.p (.list s.times_c (s.times.map eTim)),.p (.int .i64 s.fin),.p (.int .i64 s.miles)],Df 0 0 0 0,Yj t,Df (t.fixed+t.perMile*s.miles+t.perTick*(s.fin-t.opn)) (chgF x r.visits r.typ q.1).1 (chgF x r.visits r.typ q.1).2 ((s.fin-t.opn).tdiv 64*(s.fin-t.opn).tdiv 64),.map (q.2.map eII)])
  (fun q=>q.1<=r.visits.length/\ ∀n,K1 q.2 n=FS r.visits q.1 n) (fun q=>r.visits.length-q.1) (0,[]) ⟨Zb,fun n=>rfl⟩ (Weak.mk ?_) ?_
 ·simp (disch:=omega) only [Zf,XA,Yj,Df,chgF,go_sem,seval]
 ·rintro ⟨k,m⟩ ⟨hk,hmg⟩;simp only at hk hmg;have hch:=Ce (x:=x) (l:=r.visits) (t:=r.typ) k;simp (disch:=omega) only [Zf,XA,Yj,Df,go_sem,seval];refine cD ?_ ?_<;>intro h1<;>simp (disch:=omega) only [Sh.out h1,go_sem,seval,↓reduceIte]
  ·have hk2:k<r.visits.length:=Za
   obtain ⟨v1,v2⟩:=hv _ (Zu hk2)
   have e3: ¬(nth r.visits k).order<0:=Za
   have e4: ¬(x.orders.length:Int)<=(nth r.visits k).order:=Za
   have v3:(nth r.visits k).order.toNat<x.orders.length:=Za
   have hcs:=aU hk2;have hcr:=jD hk (nth r.visits k).order;have hfi:=PK (l:=r.visits) (k:=k);have hch2:chgF x r.visits r.typ (k+1)=_:=chgF.eq_2 x r.visits r.typ k;refine NP hT rfl ?_;rw [hmg];refine Zd ?_;refine mG hT rfl fun m' hm'=> ?_
   have hmg': ∀n,K1 m' n=FS r.visits (k+1) n:=fun n=>by grind
   simp (disch:=omega) only [e3,e4,ZQ,ZG,go_sem,seval];refine NP hT rfl ?_;rw [hm',if_pos rfl];refine Zd ?_;refine Z0 ?_ ?_<;>intro h2
   ·have h3: ¬UJ r.visits k=true:=by grind
    rw [if_neg h3] at hch2;exact ⟨(k+1,m'),⟨Za,hmg'⟩,Za,Weak.mk (by simp (disch:=omega) only [hch2,go_sem,seval])⟩
   ·have h3:UJ r.visits k=true:=by grind
    rw [if_pos h3] at hch2;refine (BL (nth x.orders (nth r.visits k).order.toNat).now r.typ).use (Zd ?_);refine cD ?_ ?_<;>intro h4<;>simp (disch:=omega) only [Sh.out h4,go_sem,seval,↓reduceIte]
    ·rw [if_pos h4] at hch2;refine (BL (nth x.orders (nth r.visits k).order.toNat).last r.typ).use (Zd ?_);refine Z0 ?_ ?_<;>intro h5
     ·rw [if_pos h5] at hch2;exact ⟨(k+1,m'),⟨Za,hmg'⟩,Za,Weak.mk (by simp (disch:=omega) only [hch2,go_sem,seval])⟩
     ·rw [if_neg (by rw [h5];simp)] at hch2;exact ⟨(k+1,m'),⟨Za,hmg'⟩,Za,Weak.mk (by simp (disch:=omega) only [hch2,Vj,go_sem,seval])⟩
    ·rw [if_neg (by rw [h4];simp)] at hch2;refine (BL (nth x.orders (nth r.visits k).order.toNat).last r.typ).use (Zd ?_);refine Z0 ?_ ?_<;>intro h5
     ·rw [if_pos h5] at hch2;exact ⟨(k+1,m'),⟨Za,hmg'⟩,Za,Weak.mk (by simp (disch:=omega) only [hch2,Vj,go_sem,seval])⟩
     ·rw [if_neg (by rw [h5];simp)] at hch2;exact ⟨(k+1,m'),⟨Za,hmg'⟩,Za,Weak.mk (by simp (disch:=omega) only [hch2,Vj,go_sem,seval])⟩
  grind
end Go.Proofs.YtjkkdmeebhjaiaaGreatDoor.K
namespace Go.Proofs.YtjkkdmeebhjaiaaGreatDoor.K
open Go Go.AM Go.Proofs
set_option maxRecDepth 8000
set_option maxHeartbeats 8000000
@[go_sem] theorem Zft {f:FuncId} :(PV.fn f).cells= [.fn f]:=Zm rfl rfl
def Zd7 : AM.Obj:= .cells [.p (.bool false),.p (.int .i64 0),.p (.list true []),.p (.int .i64 0),.p (.int .i64 0)]
theorem PN (x:Inst) (r:Rte) (hx:InstOk x) (hl:r.visits.length<=1048576) (hrl:r.rests.length<=1048576):ACalls Tryz.prog 195 [.p (Zs x),.p (WM r)] [] fun y H'=>y=Cl x r/\H'= []:=by
 have hld:=QO hx;have htl:=hld.typ;have hol:=hld.ord;have chk:=nG x r hx hl
 have htb:x.types.length<=6:=by have:=hx.types.1;simp only [rng,Zq] at this;omega
 refine Ze [] Tryz.func195 rfl ZbU ?_;simp (disch:=omega) only [Tryz.f195,go_sem,seval];refine gF ?_ ?_<;>intro h1<;>simp (disch:=omega) only [Sh.out h1,go_sem,seval,↓reduceIte]
 ·have e:XU x r=2:=by rw [XU,if_pos Za]
  rw [YG (e:=2) (by rw [Xq,e];rfl) Za];exact we (by simp (disch:=omega) only [zShe,zSco,Zk,go_sem,seval])
 ·refine cD ?_ ?_<;>intro h2<;>simp (disch:=omega) only [Sh.out h2,go_sem,seval,↓reduceIte]
  ·have e:XU x r=2:=by simp_all [XU]
   rw [YG (e:=2) (by rw [Xq,e];rfl) Za];exact we (by simp (disch:=omega) only [zShe,zSco,Zk,go_sem,seval])
  ·have hty:0<=r.typ/\r.typ<(x.types.length:Int):=Za
   have hti:r.typ.toNat<x.types.length:=Za
   have hnum:=WX hx hti;have htyp:nth x.types r.typ.toNat=Zx x r:=rfl;rw [htyp] at hnum
   have hsk: ∀o∈x.orders,o.skills<9223372036854775808:=fun o hm=>by
    obtain ⟨i,hi,rfl⟩:=ZU.1 hm;have:=(hx.orders.2 i hi).skills
    grind [Zi]
   refine Zl [2,3,4,5,25,26] (fun k:Nat=> [(27,.p (.int .i64 k))]) (fun _=> [Zf x,XA r,Zd7,Df 0 0 0 0,.elems 1 [.fn 211,.fn 212,.fn 213]])
    (fun k=>k<=3/\(0<k->Xf x r.visits=0)/\(1<k-> ¬(r.visits.any fun v=> !YK (Zx x r) (nth x.orders v.order.toNat).skills)=true)/\(2<k->Vz x (Zx x r).cap r.visits=true)) (fun k=>3-k) 0 ⟨Za,Za,Za,Za⟩ (Weak.mk ?_) ?_
   ·simp (disch:=omega) only [Zf,XA,Df,Zd7,go_sem,seval]
   ·rintro k ⟨hk,k1,k2,k3⟩;simp (disch:=omega) only [Zf,XA,Df,Zd7,go_sem,seval];refine cD ?_ ?_<;>intro h3<;>simp (disch:=omega) only [Sh.out h3,go_sem,seval,↓reduceIte]
    ·by_cases hk0:k=0
     ·subst hk0;have he:KH [PV.fn 211,PV.fn 212,PV.fn 213] 0=PV.fn 211:=rfl;simp (disch:=first | omega | (simp only [ZE,ZJ,ZA,ZB,Xd,XG]<;>omega)) only [he,go_sem,seval,↓reduceIte];refine (chk).use (Zd ?_);refine Z0 ?_ ?_<;>intro h4
      ·have e:XU x r=Xf x r.visits:=by simp_all [XU]
       rw [YG (e:=Xf x r.visits) (by simp_all [Xq]) h4];exact we (by simp (disch:=omega) only [zShe,zSco,Zk,go_sem,seval])
      ·exact ⟨1,⟨Za,fun _=>Za,Za,Za⟩,Za,wk⟩
     ·have h0:=k1 Za;have hsq:=VW h0
      have hr0:XU x r=if (r.visits.any fun v=> !YK (Zx x r) (nth x.orders v.order.toNat).skills)=true then 18 else if Vz x (Zx x r).cap r.visits=false then 17 else if ¬(0<=r.start/\r.start<=4096/\r.rests.length<=r.visits.length+1) then 2 else 0:=by
       rw [XU,if_neg (fun h=>h hty),if_neg Za]
      by_cases hk1:k=1
      ·subst hk1;have he:KH [PV.fn 211,PV.fn 212,PV.fn 213] 1=PV.fn 212:=rfl;simp (disch:=first | omega | (simp only [ZE,ZJ,ZA,ZB,Xd,XG]<;>omega)) only [he,go_sem,seval,↓reduceIte];refine (nE x r hty (fun v hv=>by have:=hsq.inr v hv;grind [NF]) hl htl Za Za hsk).use (Zd ?_)
       by_cases h5:(r.visits.any fun v=> !YK (Zx x r) (nth x.orders v.order.toNat).skills)=true
       ·rw [if_pos h5] at hr0 ⊢;rw [YG (e:=18) (by rw [Xq,hr0];rfl) Za];refine Zd ?_;exact we (by simp (disch:=omega) only [zShe,zSco,Zk,go_sem,seval])
       ·rw [if_neg h5];refine Zd ?_;exact ⟨2,⟨Za,fun _=>h0,fun _=>h5,Za⟩,Za,wk⟩
      ·have hk2:k=2:=Za
       subst hk2;have he:KH [PV.fn 211,PV.fn 212,PV.fn 213] 2=PV.fn 213:=rfl;simp (disch:=first | omega | (simp only [ZE,ZJ,ZA,ZB,Xd,XG]<;>omega)) only [he,go_sem,seval,↓reduceIte];refine (nB x r hx hl hty h0).use (Zd ?_);rw [if_neg (k2 Za)] at hr0
       cases h5:Vz x (Zx x r).cap r.visits with
       | false =>
        rw [if_pos h5] at hr0;rw [YG (e:=17) (by rw [Xq,hr0];rfl) Za];simp only [Y6,Yb];refine Zd ?_;exact we (by simp (disch:=omega) only [zShe,zSco,Zk,go_sem,seval])
       | true =>
        simp only [if_true];refine Zd ?_;exact ⟨3,⟨Za,fun _=>h0,fun _=>k2 Za,fun _=>Zb⟩,Za,wk⟩
    ·have hk3:k=3:=Za
     subst hk3;have h0:=k1 Za;have hsq:=VW h0
     have hr0:XU x r=if ¬(0<=r.start/\r.start<=4096/\r.rests.length<=r.visits.length+1) then 2 else 0:=by
      rw [XU,if_neg (fun h=>h hty),if_neg Za,if_neg (k2 Za),if_neg (by grind)]
     have cb:=uN x r hx hl hrl hty h0;have hok:=Al hx hty hsq
     have hbr:Ju x r=Xp x r->(Xp x r).2=0->(0<=r.start/\r.start<=4096/\r.rests.length<=r.visits.length+1)->(0<=(Xp x r).1.fin/\(Xp x r).1.fin<=8192)/\(0<=(Xp x r).1.miles/\(Xp x r).1.miles<=210000):=fun _ hz hs =>
      FL hok ⟨hs.1,hs.2.1⟩ (by grind [Yi]) hz
     by_cases h6:0<=r.start/\r.start<=4096/\r.rests.length<=r.visits.length+1
     ·have e:XU x r=0:=Za
      have ee:Xq x r=(Xp x r).2:=by rw [Xq,if_pos e]
      have eb:Ju x r=Xp x r:=by rw [Ju,if_pos h6]
      have hbr:=fun hz=>hbr eb hz h6;rw [eb] at cb
      have es:X9 x r=if (Xp x r).2=0 then (Xp x r).1 else zShe:=by rw [X9,ee]
      have ep:We x r=if (Xp x r).2=0 then De x r (Xp x r).1 else zSco:=by rw [We,ee]
      unfold Cl;rw [ee,es,ep];clear ee es ep eb
      generalize Xp x r=q at *
      obtain ⟨sh,eb⟩:=q;simp only at cb hbr ⊢;refine Yn cb (Zd ?_);refine cD ?_ ?_<;>intro h7<;>simp (disch:=omega) only [Sh.out h7,go_sem,seval,↓reduceIte]
      ·exact we (by simp (disch:=omega) only [zShe,zSco,Zk,go_sem,seval])
      ·have h7':eb=0:=Za
       try rw [if_pos h7',if_pos h7']
       subst h7';obtain ⟨g1,g2⟩:=hbr rfl;refine ZF 5 mixed Zg Zg (Zd ?_);refine Zo (nF x r sh hty Za htl hl hsq.inr hnum.2.2.2.1 Za Za Za) (Zd ?_);exact we
     ·have e:XU x r=2:=Za
      have eb:Ju x r=(zShe,2):=by rw [Ju,if_neg h6]
      rw [YG (e:=2) (by rw [Xq,e];rfl) Za];rw [eb] at cb;refine Yn cb (Zd ?_);exact we (by simp (disch:=omega) only [zShe,zSco,Zk,go_sem,seval])
theorem Qm {x:Inst} {r:Rte} (h:Xq x r=0):XU x r=0:=by
 grind [Xq]
theorem Qg {x:Inst} {r:Rte} (h:XU x r=0):(0<=r.typ/\r.typ<(x.types.length:Int))/\Xf x r.visits=0/\(0<=r.start/\r.start<=4096/\r.rests.length<=r.visits.length+1):=by
 unfold XU at h;omega
theorem Nl {x:Inst} {r:Rte} (hx:InstOk x) (h:Xq x r=0):(0<=(X9 x r).fin/\(X9 x r).fin<=8192)/\(0<=(X9 x r).miles/\(X9 x r).miles<=210000):=by
 obtain ⟨hty,h0,hs⟩:=Qg (Qm h)
 have e:X9 x r=(Xp x r).1:=by rw [X9,if_pos h]
 have ee:(Xp x r).2=0:=by rw [Xq,if_pos (Qm h)] at h;exact h
 rw [e];exact FL (Al hx hty (VW h0)) ⟨hs.1,hs.2.1⟩ (by grind [Yi]) ee
theorem HP {x:Inst} {r:Rte} (hx:InstOk x) (hl:r.visits.length<=1048576) (h:Xq x r=0):scoR 1073741824 (We x r):=by
 have hg:=Nl hx h;obtain ⟨hty,_,_⟩:=Qg (Qm h);have hnum:=WX hx (show r.typ.toNat<x.types.length by omega);have htyp:nth x.types r.typ.toNat=Zx x r:=rfl;rw [htyp] at hnum
 have e:(Xp x r).1=X9 x r:=by rw [X9,if_pos h]
 have hch:=Ce (x:=x) (l:=r.visits) (t:=r.typ) r.visits.length;rw [We,if_pos h,e];unfold De scoR
 generalize X9 x r=s at *
 generalize Zx x r=t at *
 have p1:0<=t.perMile*s.miles/\t.perMile*s.miles<=100*210000:=⟨UP Za Za,VP Za Za Za Za⟩
 have hW: -8192<=s.fin-t.opn/\s.fin-t.opn<=8192:=Za
 have p2: -819200<=t.perTick*(s.fin-t.opn)/\t.perTick*(s.fin-t.opn)<=819200:=by
  generalize s.fin-t.opn=w at hW;have a1:=BG hW.2 (show 0<=t.perTick by omega);have a2:=BG hW.1 (show 0<=t.perTick by omega);omega
 have p3: -128<=(s.fin-t.opn).tdiv 64/\(s.fin-t.opn).tdiv 64<=128:=by
  grind
 have p4:0<=(s.fin-t.opn).tdiv 64*(s.fin-t.opn).tdiv 64/\(s.fin-t.opn).tdiv 64*(s.fin-t.opn).tdiv 64<=16384:=by
  generalize (s.fin-t.opn).tdiv 64=q at p3;refine ⟨?_,?_⟩
  ·rcases AR 0 q with h | h
   ·exact UP h h
   ·exact Int.mul_nonneg_of_nonpos_of_nonpos h h
  ·rcases AR 0 q with h | h
   ·have:=VP p3.2 p3.2 h Za;omega
   ·have h2:0<= -q:=Za
    have:=VP (show-q<=128 by omega) (show-q<=128 by omega) h2 Za
    grind
 grind
def YT (x:Inst) (r:Rte):Int×Int:=if Xq x r=0 then YP (We x r) else (0,Xq x r)
theorem pT (s:Sco):0<=(YP s).1/\(YP s).1<=36028797018963968:=by
 grind [YP]
theorem Oh (x:Inst) (r:Rte):0<=(YT x r).1/\(YT x r).1<=36028797018963968:=by
 unfold YT
 split
 ·exact pT _
 ·simp
theorem dW (x:Inst) (r:Rte) (hx:InstOk x) (hb:Zd2 r):PT 164 [.p (Zs x),.p (WM r)] [.p (.int .i64 (YT x r).1),.p (.int .i64 (YT x r).2)]:=by
 have ce:=PN x r hx hb.1 hb.2;refine Ze [] Tryz.func164 rfl ZbB ?_;simp (disch:=omega) only [Tryz.f164,go_sem,seval];unfold Cl at ce;refine OY ce (Zd ?_);refine cD ?_ ?_<;>intro h1<;>simp (disch:=omega) only [Sh.out h1,go_sem,seval,↓reduceIte]
 ·rw [YT,if_neg h1];exact we
 ·have h0:Xq x r=0:=Za
  rw [YT,if_pos h0];refine YU (It (We x r) (A7 Za (HP hx hb.1 h0))) (Zd ?_);exact we
theorem Oo (x:Inst) (r:Rte) (hx:InstOk x) (hb:Zd2 r):PT 149 [.p (Zs x),.p (WM r)] [.p (.int .i64 (YT x r).1),.p (.int .i64 (YT x r).2)]:=by
 have ce:=Cn x r hx hb.1 hb.2;refine Ze [] Tryz.func149 rfl Zbs ?_;simp (disch:=omega) only [Tryz.f149,go_sem,seval];unfold Cl at ce;refine OY ce (Zd ?_);refine cD ?_ ?_<;>intro h1<;>simp (disch:=omega) only [Sh.out h1,go_sem,seval,↓reduceIte]
 ·rw [YT,if_neg h1];exact we
 ·have h0:Xq x r=0:=Za
  rw [YT,if_pos h0];refine YU (Ha (We x r) (A7 Za (HP hx hb.1 h0))) (Zd ?_);exact we
end Go.Proofs.YtjkkdmeebhjaiaaGreatDoor.K
