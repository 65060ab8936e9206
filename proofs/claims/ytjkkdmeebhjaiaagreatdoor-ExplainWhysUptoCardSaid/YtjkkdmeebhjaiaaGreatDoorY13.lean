/- Declarations that the closing texts need, part 13: joined by tools/slim.py. -/
import Derived.Test.YtjkkdmeebhjaiaaGreatDoorY12
set_option linter.unusedVariables false
set_option linter.unusedSimpArgs false
namespace Go.Proofs.YtjkkdmeebhjaiaaGreatDoor.K
open Go Go.AM Go.Proofs
def GD (x:Inst) (l:List Vis) (n i:Nat):Bool:=(l.take n).foldl (fun on v=>if v.order=(i:Int) then !v.drp else on) (decide ((nth x.orders i).pick.place<0))
theorem jC {x:Inst} {l:List Vis} {i:Nat} :GD x l 0 i=decide ((nth x.orders i).pick.place<0):=by simp [GD]
theorem FB {x:Inst} {l:List Vis} {n i:Nat} (h:n<l.length):GD x l (n+1) i=if (nth l n).order=(i:Int) then !(nth l n).drp else GD x l n i:=by
 grind [GD,Xm,Zk]
structure SqOk (x:Inst) (l:List Vis):Prop where
 ne:l≠ []
 inr:Inr x l
 nd:l.Nodup
 pair: ∀v∈l,pairB x.orders l v=true
theorem UN {x:Inst} {l:List Vis} (h:Xr x l=0):SqOk x l:=by
 unfold Xr at h
 split at h
 ·simp at h
 ·rename_i h1
  split at h
  ·simp at h
  ·split at h
   ·simp at h
   ·rename_i h3
    split at h
    ·simp at h
    ·rename_i h4;refine ⟨fun e=>h1 (.inl (by simp [e])),fun v hv=> ?_,Bl.1 (by grind),fun v hv=> ?_⟩
     ·grind [V1]
     grind
structure OwnV (x:Inst) (l:List Vis) (i:Nat):Prop where
 pick:0<=(nth x.orders i).pick.place->(⟨i,false⟩:Vis)∈l
 drp:0<=(nth x.orders i).drp.place->(⟨i,true⟩:Vis)∈l
 both:0<=(nth x.orders i).pick.place->0<=(nth x.orders i).drp.place->vIx l ⟨i,false⟩<vIx l ⟨i,true⟩
 isP:(⟨i,false⟩:Vis)∈l->0<=(nth x.orders i).pick.place
 isD:(⟨i,true⟩:Vis)∈l->0<=(nth x.orders i).drp.place
theorem SqOk.own {x:Inst} {l:List Vis} (h:SqOk x l) {i:Nat} (hi: ∃v∈l,v.order=(i:Int)):OwnV x l i:=by
 obtain ⟨v0,hv0,ho⟩:=hi
 have key: ∀v∈l,v.order=(i:Int)->v∈ZW x.orders i/\QG l (-1) (ZW x.orders i)=true:=fun v hv hvo=>by
  have:=h.pair v hv;simp only [pairB,hvo,XS,Zw,Zs] at this;exact ⟨WV.1 this.1,this.2⟩
 obtain ⟨_,hasc⟩:=key v0 hv0 ho;have mem: ∀b:Bool,(⟨i,b⟩:Vis)∈l->(⟨i,b⟩:Vis)∈ZW x.orders i:=fun b hb=>(key _ hb rfl).1
 have hp:(⟨i,false⟩:Vis)∈ZW x.orders i->0<=(nth x.orders i).pick.place:=fun hm=>by
  unfold ZW at hm
  grind
 have hd:(⟨i,true⟩:Vis)∈ZW x.orders i->0<=(nth x.orders i).drp.place:=fun hm=>by
  unfold ZW at hm
  grind
 have m1: ∀v,-1<vIx l v->v∈l:=fun v hv=>WV.1 Za;unfold ZW at hasc
 by_cases c1:0<=(nth x.orders i).pick.place<;>by_cases c2:0<=(nth x.orders i).drp.place
 ·simp only [c1,c2,if_true,ZL,ZD,QG,Qq,Zw,Zs] at hasc;exact ⟨fun _=>m1 _ hasc.1,fun _=>m1 _ Za,fun _ _=>hasc.2,fun _=>c1,fun _=>c2⟩
 ·simp only [c1,c2,if_true,Yj,Yt,QG,Qq,Zs] at hasc;exact ⟨fun _=>m1 _ hasc,fun h=>absurd h c2,fun _ h=>absurd h c2,fun _=>c1,fun hm=>hd (mem _ hm)⟩
 ·simp only [c1,c2,if_true,Yj,ZD,QG,Qq,Zs] at hasc;exact ⟨fun h=>absurd h c1,fun _=>m1 _ hasc,fun h=>absurd h c1,fun hm=>hp (mem _ hm),fun _=>c2⟩
 ·exact ⟨fun h=>absurd h c1,fun h=>absurd h c2,fun h=>absurd h c1,fun hm=>hp (mem _ hm),fun hm=>hd (mem _ hm)⟩
theorem Jm {l:List Vis} (hn:l.Nodup) {v:Vis} {n:Nat} :v∈l.take n↔0<=vIx l v/\vIx l v<(n:Int):=by
 constructor
 ·intro h;obtain ⟨j,h1,h2,rfl⟩:=Jn h
  grind [Bm]
 ·intro ⟨h1,h2⟩;obtain ⟨h3,h4⟩:=Sp h1
  grind [Fq]
theorem jB {x:Inst} {l:List Vis} (h:SqOk x l) (i:Nat): ∀n,n<=l.length->GD x l n i=if (⟨i,true⟩:Vis)∈l.take n then false else if (⟨i,false⟩:Vis)∈l.take n then true else decide ((nth x.orders i).pick.place<0)
 | 0,_=>by simp [GD]
 | n+1,hn=>by
  have hk:n<l.length:=Za
  have hat:=Bm h.nd hk;rw [FB hk,jB h i n Za]
  by_cases c:(nth l n).order=(i:Int)
  ·rw [if_pos c];have ho:=h.own (i:=i) ⟨nth l n,Zu hk,c⟩
   cases hd:(nth l n).drp with
   | true =>
    have hv:nth l n=⟨i,true⟩:=by rw [<- c,<- hd]
    rw [hv] at hat;have:(⟨i,true⟩:Vis)∈l.take (n+1):=(Jm h.nd).2 Za;rw [if_pos this];rfl
   | false =>
    have hv:nth l n=⟨i,false⟩:=by rw [<- c,<- hd]
    rw [hv] at hat;have h1:(⟨i,false⟩:Vis)∈l.take (n+1):=(Jm h.nd).2 Za
    have h2: ¬(⟨i,true⟩:Vis)∈l.take (n+1):=fun hm=>by
     have h3:=JT hm;have h4:=(Jm h.nd).1 hm;have h5:=ho.both (ho.isP (JT h1)) (ho.isD h3);omega
    rw [if_neg h2,if_pos h1];rfl
  ·rw [if_neg c]
   have e: ∀b:Bool,((⟨i,b⟩:Vis)∈l.take (n+1))=((⟨i,b⟩:Vis)∈l.take n):=fun b=>by
    rw [Xm hk,Xg,<- Zk hk];refine propext ⟨fun hm=>hm.resolve_right fun hm=> ?_,.inl⟩;simp at hm;exact c (by rw [<- hm])
   simp only [e]
theorem ZbT {x:Inst} {l:List Vis} (h:SqOk x l) {k i:Nat} (hk:k<l.length) (hi:(nth l k).order=(i:Int)):GD x l k i=(nth l k).drp:=by
 have hat:=Bm h.nd hk;have ho:=h.own (i:=i) ⟨nth l k,Zu hk,hi⟩;have hm:=Zu hk;rw [jB h i k Za]
 cases hd:(nth l k).drp with
 | true =>
  have hv:nth l k=⟨i,true⟩:=by rw [<- hi,<- hd]
  rw [hv] at hat hm
  have h1: ¬(⟨i,true⟩:Vis)∈l.take k:=fun hm=>by have:=(Jm h.nd).1 hm;omega
  rw [if_neg h1]
  by_cases c:0<=(nth x.orders i).pick.place
  ·have h2:=ho.both c (ho.isD hm);have h3:(⟨i,false⟩:Vis)∈l.take k:=(Jm h.nd).2 ⟨WV.2 (ho.pick c),Za⟩
   grind
  grind
 | false =>
  have hv:nth l k=⟨i,false⟩:=by rw [<- hi,<- hd]
  rw [hv] at hat hm;have hp:=ho.isP hm
  have h1: ¬(⟨i,false⟩:Vis)∈l.take k:=fun hm=>by have:=(Jm h.nd).1 hm;omega
  grind
theorem rT {f g:Nat->Int} {i:Nat} (h: ∀q,q≠i->f q=g q): ∀n,i<n->((List.range n).map f).sum=((List.range n).map g).sum+(f i-g i):=by
 have same: ∀n,n<=i->((List.range n).map f).sum=((List.range n).map g).sum:=fun n hn=>by
  grind [Vi]
 intro n
 induction n with
 | zero=>omega
 | succ n ih =>
  intro hi;simp only [X4,Xn,Zq,Zj,List.sum_append,List.sum_cons,List.sum_nil]
  grind
theorem Si {f:Nat->Int} {b:Int} (hb:0<=b) (h: ∀q,0<=f q/\f q<=b): ∀n:Nat,0<=((List.range n).map f).sum/\((List.range n).map f).sum<=b*n
 | 0=>Zb
 | n+1=>by
  have ih:=Si hb h n
  grind [X4]
theorem J4 {p:Nat->Bool} {f:Nat->Int} : ∀l:List Nat,((l.filter p).map f).sum=(l.map fun i=>if p i=true then f i else 0).sum
 | []=>rfl
 | a::l=>by
  rw [El,Zq,List.sum_cons]
  by_cases h:p a=true
  ·rw [if_pos h,Zq,List.sum_cons,J4 l,if_pos h]
  ·rw [if_neg h,J4 l,if_neg h];omega
def D0 (x:Inst) (l:List Vis) (n j:Nat):Int:=((List.range x.orders.length).map fun i=>if (GD x l n i&&hasO l i)=true then nth (nth x.orders i).load j else 0).sum
theorem HJ {x:Inst} {l:List Vis} (h:SqOk x l) {k j:Nat} (hk:k<l.length):D0 x l (k+1) j=if (nth l k).drp=true then D0 x l k j-nth (nth x.orders (nth l k).order.toNat).load j else D0 x l k j+nth (nth x.orders (nth l k).order.toNat).load j:=by
 obtain ⟨v1,v2⟩:=h.inr _ (Zu hk);obtain ⟨i,hi⟩: ∃i:Nat,(nth l k).order=(i:Int):=⟨(nth l k).order.toNat,Za⟩;have hh:hasO l (i:Int)=true:=WN.2 ⟨_,Zu hk,hi⟩;have h1:=ZbT h hk hi
 have h2:GD x l (k+1) i= !(nth l k).drp:=by simp_all [FB]
 unfold D0
 rw [rT (f:=fun i=>if (GD x l (k+1) i&&hasO l i)=true then nth (nth x.orders i).load j else 0) (g:=fun i=>if (GD x l k i&&hasO l i)=true then nth (nth x.orders i).load j else 0) (i:=i) (fun q hq=>by
  have:GD x l (k+1) q=GD x l k q:=by rw [FB hk,if_neg Za]
  grind) x.orders.length Za]
 grind
def Wf (x:Inst) (l:List Vis) (n:Nat):List Int:=(List.range (dimsOf x.types).toNat).map fun j=>D0 x l n j
def EF (a b:List Int):List Int:=(List.range a.length).map fun j=>nth a j+nth b j
def rQ (a b:List Int):List Int:=(List.range a.length).map fun j=>nth a j-nth b j
theorem EG {x:Inst} {l:List Vis} {n:Nat} :(Wf x l n).length=(dimsOf x.types).toNat:=by simp [Wf]
theorem KC {f:Nat->Int} {n j:Nat} (h:j<n):nth ((List.range n).map f) j=f j:=by
 grind [Zk]
theorem SB {x:Inst} {l:List Vis} (h:SqOk x l) {k:Nat} (hk:k<l.length):Wf x l (k+1)=if (nth l k).drp=true then rQ (Wf x l k) (nth x.orders (nth l k).order.toNat).load else EF (Wf x l k) (nth x.orders (nth l k).order.toNat).load:=by
 have key: ∀g:Nat->Int,(∀j,j<(dimsOf x.types).toNat->D0 x l (k+1) j=g j)->Wf x l (k+1)=(List.range (dimsOf x.types).toNat).map g:=fun g hg =>
  Vi fun j hj=>hg j (ZR.1 hj)
 split
 ·simp_all [rQ,HJ,Wf,KC]
 simp_all [EF,HJ,Wf,KC]
set_option maxRecDepth 8000
section
variable {σ : Type}
def CQ (nx:List Vis->List Vis):Nat->List Vis->List (List Vis)
 | 0,l=> [l]
 | f+1,l=>if nx l= [] then [l] else (nx l).flatMap fun v=>CQ nx f (l++ [v])
def lvW (nx:List Vis->List Vis) (go:σ->Vis->σ) (emp:σ->Bool):Nat->List Vis->σ->List (List Vis)
 | 0,l,_=> [l]
 | f+1,l,s=>(nx l).flatMap fun v=>if emp (go s v)=true then [] else lvW nx go emp f (l++ [v]) (go s v)
theorem RN {nx:List Vis->List Vis} : ∀(f:Nat) (l m:List Vis),m∈CQ nx f l-> ∃r,m=l++r
 | 0,l,m,h=>by simp_all [CQ]
 | f+1,l,m,h=>by
  rw [CQ] at h
  split at h
  ·simp_all
  ·obtain ⟨v,_,h⟩:=X2.1 h;obtain ⟨r,rfl⟩:=RN f _ m h;simp
theorem Ud {α β:Type} {p:β->Bool} {g:α->List β} : ∀l:List α,(l.flatMap g).filter p=l.flatMap fun a=>(g a).filter p
 | []=>rfl
 | a::l=>by rw [Ui,Ui,List.filter_append,Ud l]
theorem BL {α β:Type} {g h:α->List β} : ∀ {l:List α},(∀a∈l,g a=h a)->l.flatMap g=l.flatMap h
 | [],_=>rfl
 | a::l,e=>by rw [Ui,Ui,e a Zb,BL fun b hb=>e b (X9 _ hb)]
theorem tW {nx:List Vis->List Vis} {go:σ->Vis->σ} {emp:σ->Bool} {ok:List Vis->Bool} {G:List Vis->Prop} {R:List Vis->σ->Prop} {tot:Nat}
  (hG: ∀l v,G l->v∈nx l->G (l++ [v])) (hR: ∀l s v,G l->R l s->v∈nx l->R (l++ [v]) (go s v)) (hE: ∀l s,G l->R l s->emp s=true-> ∀r,ok (l++r)=false)
  (hN: ∀l,G l->l.length<tot->nx l≠ []): ∀(f:Nat) (l:List Vis) (s:σ),G l->R l s->l.length+f=tot->(CQ nx f l).filter ok=(lvW nx go emp f l s).filter ok
 | 0,l,s,_,_,_=>rfl
 | f+1,l,s,hl,hs,ht=>by
  rw [CQ,lvW,if_neg (hN l hl Za),Ud,Ud];refine BL fun v hv=> ?_;have h1:=hG l v hl hv;have h2:=hR l s v hl hs hv
  split
  ·rename_i he;rw [List.filter_nil,List.filter_eq_nil_iff];intro m hm;obtain ⟨r,rfl⟩:=RN f _ m hm
   grind
  ·exact tW hG hR hE hN f _ _ h1 h2 (by simp;omega)
def XW (ok:List Vis->Bool) (col:List Vis->Col) (better:Col->Col->Bool) (b:Col×Bool) (l:List Vis):Col×Bool:=if ok l=true/\(b.2=false\/better (col l) b.1=true) then (col l,true) else b
theorem Qz {ok:List Vis->Bool} {col:List Vis->Col} {better:Col->Col->Bool} : ∀(L:List (List Vis)) (b:Col×Bool),L.foldl (XW ok col better) b=(L.filter ok).foldl (XW ok col better) b
 | [],b=>rfl
 | l::L,b=>by
  rw [XG,El]
  split
  ·rw [XG];exact Qz L _
  ·rename_i h;rw [XW,if_neg (fun g=>h g.1)];exact Qz L b
theorem Gb {ok:List Vis->Bool} {col:List Vis->Col} {better:Col->Col->Bool} : ∀(L:List (List Vis)) (c c':Col),(L.foldl (XW ok col better) (c,false)).2=(L.foldl (XW ok col better) (c',false)).2/\((L.foldl (XW ok col better) (c,false)).2=true->(L.foldl (XW ok col better) (c,false)).1=(L.foldl (XW ok col better) (c',false)).1)
 | [],c,c'=>⟨rfl,fun h=>by cases h⟩
 | l::L,c,c'=>by
  rw [XG,XG]
  by_cases h:ok l=true
  ·rw [XW,if_pos ⟨h,.inl rfl⟩,XW,if_pos ⟨h,.inl rfl⟩];simp
  ·rw [XW,if_neg (fun g=>h g.1),XW,if_neg (fun g=>h g.1)];exact Gb L c c'
end
set_option maxRecDepth 60000
set_option maxHeartbeats 8000000
def Gl (x:Inst) (n:Int):Prop:=x.orders.length<=n/\x.types.length<=2/\x.net.places.length<=6/\x.net.arcs.length<=40/\x.apart.length<=4/\x.before.length<=4/\InstOk x
theorem Tg (x:Inst) (hw:x.wf 1048576) (n:Int) (b:Bool) (hb:b=true↔Gl x n):PC 18 [.p (Zr x),.p (.int .i64 n)] (.bool b):=by
 have w1:=hw.1.1;have w2:=hw.1.2.2.1;have w3:=hw.2.1;have w4:=hw.2.2.2.1;have w5:=hw.2.2.2.2.2.1;have w6:=hw.2.2.2.2.2.2.2.1
 suffices hh:ACalls Tryz.prog 18 [.p (Zr x),.p (.int .i64 n)] [] fun y H'=> ∃b:Bool,(b=true↔Gl x n)/\y= .p (.bool b)/\H'= [] by
  grind
 refine ACalls.pureE (YG Tryz.func18 rfl Zhc (Zh [] _ _ _ _ ?_));simp (disch:=omega) only [Tryz.f18,go_sem,seval];refine gT ?_ ?_<;>intro h1<;>simp (disch:=omega) only [Sh.out h1,go_sem,seval,↓reduceIte]
 ·refine gT ?_ ?_<;>intro h2<;>simp (disch:=omega) only [Sh.out h2,go_sem,seval,↓reduceIte]
  ·refine gT ?_ ?_<;>intro h3<;>simp (disch:=omega) only [Sh.out h3,go_sem,seval,↓reduceIte]
   ·refine gT ?_ ?_<;>intro h4<;>simp (disch:=omega) only [Sh.out h4,go_sem,seval,↓reduceIte]
    ·refine gT ?_ ?_<;>intro h5<;>simp (disch:=omega) only [Sh.out h5,go_sem,seval,↓reduceIte]
     ·refine gT ?_ ?_<;>intro h6<;>simp (disch:=omega) only [Sh.out h6,go_sem,seval,↓reduceIte]
      ·refine ((wQ x hw).frozenE).useV fun m hm=> ?_;refine Zd ?_;refine ⟨decide (m.length=0),?_,Zb⟩;have:=hm.emp;rw [Zs,List.length_eq_zero_iff,this];exact ⟨fun h=>⟨Za,Za,Za,Za,Za,Za,h⟩,fun h=>h.2.2.2.2.2.2⟩
      ·exact ⟨false,by simp [Gl];omega,rfl⟩
     ·exact ⟨false,by simp [Gl];omega,rfl⟩
    ·exact ⟨false,by simp [Gl];omega,rfl⟩
   ·exact ⟨false,by simp [Gl];omega,rfl⟩
  ·exact ⟨false,by simp [Gl];omega,rfl⟩
 ·exact ⟨false,by simp [Gl];omega,rfl⟩
def QX (l:List Pt) (t:Int) (i:Nat):Bool:=decide ((nth l i).t<=t)&&decide (t<(nth l (i+1)).t)
def GI (p q:Pt) (t:Int):Int:=p.a+((t-p.t)*(q.a-p.a)+q.t-p.t-1) / (q.t-p.t)
def Jt (l:List Pt) (t:Int):Int:=match (List.range (l.length-1)).find? (QX l t) with
 | some i=>GI (nth l i) (nth l (i+1)) t
 | none=>if (nth l 0).t<t then t+(nth l (l.length-1)).a-(nth l (l.length-1)).t else t+(nth l 0).a-(nth l 0).t
theorem Ie {l:List Pt} {t:Int} {i:Nat} (hi:i+1<l.length) (hno: ∀j,j<i->QX l t j=false) (h:QX l t i=true):Jt l t=GI (nth l i) (nth l (i+1)) t:=by
 have:(List.range (l.length-1)).find? (QX l t)=some i:=by
  grind [Eb]
 rw [Jt,this]
theorem D5 {l:List Pt} {t:Int} (hno: ∀j,j+1<l.length->QX l t j=false):Jt l t=if (nth l 0).t<t then t+(nth l (l.length-1)).a-(nth l (l.length-1)).t else t+(nth l 0).a-(nth l 0).t:=by
 grind [Jt]
theorem F0 {p q:Pt} {t:Int} (h1:p.t<=t) (h2:t<q.t) (hp:0<=p.t) (hq:q.t<=4096) (ha:p.a<=q.a) (hpa:0<=p.a) (hqa:q.a<=8192):0<=(t-p.t)*(q.a-p.a)/\(t-p.t)*(q.a-p.a)<=33554432:=by
 refine ⟨Ul Za Za,?_⟩;have:(t-p.t)*(q.a-p.a)<=4096*8192:=VF Za Za Za Za;omega
theorem Oj (l:List Pt) (c:Bool) (t:Int) (hl:WS l) (ht:0<=t/\t<=1073741824):PC 297 [.p (.list c (l.map GZ)),.p (.int .i64 t)] (.int .i64 (Jt l t)):=by
 obtain ⟨⟨hl1,hl2⟩,hpt⟩:=hl;refine Zc Tryz.func297 rfl ZbC ?_;simp (disch:=omega) only [Tryz.f297,go_sem,seval];refine ((dZ l c Za).frozenE).useV fun m hm=>Zd ?_
 have hm0:m.length=0:=by rw [hm.emp.2 ⟨⟨hl1,hl2⟩,hpt⟩];rfl
 have e1: ¬t<0:=Za
 have e2: ¬ 1073741824<t:=Za
 simp (disch:=omega) only [hm0,e1,e2,go_sem,seval];refine Zl [0,1] (fun k:Nat=> [(5,.p (.int .i64 k))]) (fun _=> []) (fun k=>k<l.length/\ ∀j,j<k->QX l t j=false) (fun k=>l.length-k) 0 (by simp;omega) (Weak.mk ?_) ?_
 ·simp (disch:=omega) only [go_sem,seval,↓reduceIte]
 ·rintro k ⟨hk,hno⟩;refine Zd ?_;refine cD ?_ ?_<;>intro h<;>simp (disch:=omega) only [Sh.out h,go_sem,seval,↓reduceIte]
  ·have hk2:k+1<l.length:=Za
   obtain ⟨⟨p1,p2,p3,p4⟩,_⟩:=hpt k hk;obtain ⟨⟨q1,q2,q3,q4⟩,q5⟩:=hpt (k+1) hk2;obtain ⟨r1,r2⟩:=q5 Za;rw [Nat.add_sub_cancel] at r1 r2;refine gT ?_ ?_<;>intro h2<;>simp (disch:=omega) only [Sh.out h2,go_sem,seval,↓reduceIte]
   ·refine cD ?_ ?_<;>intro h3<;>simp (disch:=omega) only [Sh.out h3,go_sem,seval,↓reduceIte]
    ·have hsg:QX l t k=true:=by simp [QX,h2,h3]
     rw [Ie hk2 hno hsg];obtain ⟨s1,s2⟩:=F0 h2 h3 p1 q2 r2 Za Za;have d1:0<=((t-(nth l k).t)*((nth l (k+1)).a-(nth l k).a)+(nth l (k+1)).t-(nth l k).t-1) / ((nth l (k+1)).t-(nth l k).t):=Int.ediv_nonneg Za Za;have d2:((t-(nth l k).t)*((nth l (k+1)).a-(nth l k).a)+(nth l (k+1)).t-(nth l k).t-1) / ((nth l (k+1)).t-(nth l k).t)<=33558528:=Int.le_trans (Int.ediv_le_self _ Za) Za
     have d3: ¬(nth l (k+1)).t-(nth l k).t=0:=Za
     simp only [GI];refine Xd ?_;simp (disch:=omega) only [go_sem,seval,↓reduceIte]
    ·have hsg:QX l t k=false:=by simp [QX,h3]
     exact ⟨k+1,⟨Za,Zp.2 ⟨hno,hsg⟩⟩,Za,wk⟩
   ·have hsg:QX l t k=false:=by simp [QX,h2]
    exact ⟨k+1,⟨Za,Zp.2 ⟨hno,hsg⟩⟩,Za,wk⟩
  ·have hkl:k+1=l.length:=Za
   rw [D5 (fun j hj=>hno j Za)];obtain ⟨⟨p1,p2,p3,p4⟩,_⟩:=hpt 0 Za;obtain ⟨⟨q1,q2,q3,q4⟩,_⟩:=hpt (l.length-1) Za
   have i1:((l.length:Int)-1).toNat=l.length-1:=Za
   refine cD ?_ ?_<;>intro h2<;>simp (disch:=omega) only [Sh.out h2,go_sem,seval,↓reduceIte]
theorem ZX {α:Type} [Inhabited α] {l:List α} {i:Nat} (h:i<l.length):nth l i∈l:=by grind [Zk]
def mW (a:Arc):Prop:=WS a.travel/\a.slow.length<=16/\ ∀p∈a.slow,0<=p.t/\p.t<=4096/\0<=p.a/\p.a<=4096
def Ke (l:List Pt) (t:Int) (k:Nat):Int:=(l.take k).foldl (fun s p=>if p.t<=t then s+p.a else s) 0
def Ic (a:Arc) (t:Int):Int:=Jt a.travel t+Ke a.slow t a.slow.length
theorem Bh {l:List Pt} {t:Int} {k:Nat} (h:k<l.length):Ke l t (k+1)=if (nth l k).t<=t then Ke l t k+(nth l k).a else Ke l t k:=by
 grind [Ke,Xm,Zk]
theorem Jj {l:List Pt} {t:Int} (hl: ∀p∈l,0<=p.a/\p.a<=4096): ∀k,k<=l.length->0<=Ke l t k/\Ke l t k<=4096*k
 | 0,_=>by simp [Ke]
 | k+1,h=>by
  have ih:=Jj (t:=t) hl k Za
  grind [ZX,Bh]
theorem EN {l:List Pt} {t:Int} (hl:WS l) (ht:0<=t/\t<=1073741824):0<=Jt l t/\Jt l t<=1107304448:=by
 obtain ⟨⟨hl1,hl2⟩,hpt⟩:=hl;unfold Jt
 split
 ·rename_i i hi;have hm:=QN hi;have hs:=JL hi;simp at hm;simp only [QX,Zw,Zs] at hs;obtain ⟨⟨p1,p2,p3,p4⟩,_⟩:=hpt i Za;obtain ⟨⟨q1,q2,q3,q4⟩,q5⟩:=hpt (i+1) Za;obtain ⟨r1,r2⟩:=q5 Za;rw [Nat.add_sub_cancel] at r1 r2;obtain ⟨s1,s2⟩:=F0 hs.1 hs.2 p1 q2 r2 Za Za;have d1:0<=((t-(nth l i).t)*((nth l (i+1)).a-(nth l i).a)+(nth l (i+1)).t-(nth l i).t-1) / ((nth l (i+1)).t-(nth l i).t):=Int.ediv_nonneg Za Za;have d2:((t-(nth l i).t)*((nth l (i+1)).a-(nth l i).a)+(nth l (i+1)).t-(nth l i).t-1) / ((nth l (i+1)).t-(nth l i).t)<=33558528:=Int.le_trans (Int.ediv_le_self _ Za) Za
  unfold GI;omega
 ·obtain ⟨⟨p1,p2,p3,p4⟩,_⟩:=hpt 0 Za;obtain ⟨⟨q1,q2,q3,q4⟩,_⟩:=hpt (l.length-1) Za;omega
theorem Ol (a:Arc) (t:Int) (ha:mW a) (ht:0<=t/\t<=1073741824):PC 295 [.p (Vs a),.p (.int .i64 t)] (.int .i64 (Ic a t)):=by
 obtain ⟨h1,h2,h3⟩:=ha;have hr:=EN h1 ht;have hs:=Jj (t:=t) (fun p hp=>(h3 p hp).2.2);refine Zc Tryz.func295 rfl ZbA ?_;simp (disch:=omega) only [Tryz.f295,go_sem,seval];refine (Oj a.travel a.travel_c t h1 ht).use (Zd ?_);refine Zl [1,2] (fun k:Nat=> [(5,.p (.int .i64 (Jt a.travel t+Ke a.slow t k))),(6,.p (.int .i64 k))]) (fun _=> [WW a]) (fun k=>k<=a.slow.length) (fun k=>a.slow.length-k) 0 Zb (Weak.mk ?_) ?_
 ·simp (disch:=omega) only [WW,Ke,Um,go_sem,seval];simp
 ·intro k hk;have hsk:=hs k hk;simp (disch:=omega) only [WW,go_sem,seval];refine cD ?_ ?_<;>intro h<;>simp (disch:=omega) only [Sh.out h,go_sem,seval,↓reduceIte]
  ·have hk2:k<a.slow.length:=Za
   have hp:=h3 _ (ZX hk2);have hsn:=Bh (t:=t) hk2;refine ZU ?_ ?_<;>intro h4
   ·rw [if_pos h4] at hsn;exact ⟨k+1,Za,Za,Weak.mk (by simp (disch:=omega) only [hsn,Int.add_assoc,go_sem,seval])⟩
   ·rw [if_neg h4] at hsn;exact ⟨k+1,Za,Za,Weak.mk (by simp (disch:=omega) only [hsn,go_sem,seval])⟩
  grind [Ic]
theorem NW {g:FuncId} {args:List V} {a b c:PV} {H:List AM.Obj} {K:V->List AM.Obj->Prop} (h:ACalls Tryz.prog g args [] fun x H'=>x= .tup [.p a,.p b,.p c]/\H'= []) (k:K (.tup [.p a,.p b,.p c]) H) (ha:Xi 0 args=true:=by rfl):ACalls Tryz.prog g args H K :=
 (h.behind ha H).mono fun x H' hq=>by
  obtain ⟨y,H1,⟨rfl,rfl⟩,rfl,rfl⟩:=hq
  grind [shV,shVs]
theorem X8 {g:FuncId} {args:List V} {a b:PV} {H:List AM.Obj} {K:V->List AM.Obj->Prop} (h:ACalls Tryz.prog g args [] fun x H'=>x= .tup [.p a,.p b]/\H'= []) (k:K (.tup [.p a,.p b]) H) (ha:Xi 0 args=true:=by rfl):ACalls Tryz.prog g args H K :=
 (h.behind ha H).mono fun x H' hq=>by
  obtain ⟨y,H1,⟨rfl,rfl⟩,rfl,rfl⟩:=hq
  grind [shV,shVs]
def KG (n:Net) (p:Int):Bool:=decide (0<=p)&&decide (p<(n.places.length:Int))
theorem Hv (n:Net) (p:Int) (hn:n.places.length<=1048576):PC 293 [.p (BG n),.p (.int .i64 p)] (.bool (KG n p)):=by
 refine Zc Tryz.func293 rfl Zby ?_;simp (disch:=omega) only [Tryz.f293,go_sem,seval];refine gT ?_ ?_<;>intro h<;>simp (disch:=omega) only [Sh.out h,go_sem,seval,↓reduceIte]
 ·simp [KG,h]
 ·simp [KG,h]
def Vc (pr f t:Int) (a:Arc):Bool:=decide (a.src=f)&&decide (a.dst=t)&&decide (a.prof=pr)
def VP : Arc:=⟨0,0,0,0,true,[],true,[]⟩
def Wz (n:Net) (pr f t:Int):Arc×Bool:=match n.arcs.find? (Vc pr f t) with | some a=>(a,true) | none=>(VP,false)
theorem Mr {n:Net} {pr f t:Int} {k:Nat} (hk:k<n.arcs.length) (hno: ∀j,j<k->Vc pr f t (nth n.arcs j)=false) (h:Vc pr f t (nth n.arcs k)=true):Wz n pr f t=(nth n.arcs k,true):=by
 have:n.arcs.find? (Vc pr f t)=some (nth n.arcs k):=by
  grind [Eb,Zk]
 rw [Wz,this]
theorem Ms {n:Net} {pr f t:Int} (hno: ∀j,j<n.arcs.length->Vc pr f t (nth n.arcs j)=false):Wz n pr f t=(VP,false):=by
 have:n.arcs.find? (Vc pr f t)=none:=by
  rw [JF];intro a ha;obtain ⟨j,hj,rfl⟩:=ZN.1 ha
  grind [Zk]
 rw [Wz,this]
theorem fG (n:Net) (pr f t:Int) (hn:n.arcs.length<=1048576):PT 294 [.p (BG n),.p (.int .i64 pr),.p (.int .i64 f),.p (.int .i64 t)] [.p (Vs (Wz n pr f t).1),.p (.bool (Wz n pr f t).2)]:=by
 refine Ze [] Tryz.func294 rfl Zbz ?_;simp (disch:=omega) only [Tryz.f294,go_sem,seval];refine Zl [1,2,3,4,8] (fun k:Nat=> [(10,.p (.int .i64 k))]) (fun _=>Z2 n++ [WW VP]) (fun k=>k<=n.arcs.length/\ ∀j,j<k->Vc pr f t (nth n.arcs j)=false) (fun k=>n.arcs.length-k) 0 Zb (Weak.mk ?_) ?_
 ·simp (disch:=omega) only [Z2,WW,VP,Zj,ZL,ZD,go_sem,seval]
 ·rintro k ⟨hk,hno⟩;simp (disch:=omega) only [Z2,WW,VP,Zj,ZL,ZD,go_sem,seval];refine cD ?_ ?_<;>intro h<;>simp (disch:=omega) only [Sh.out h,go_sem,seval,↓reduceIte]
  ·have hk2:k<n.arcs.length:=Za
   have nx:Vc pr f t (nth n.arcs k)=false-> ∀j,j<k+1->Vc pr f t (nth n.arcs j)=false:=fun h=>Zp.2 ⟨hno,h⟩;refine Q3 ?_ ?_<;>intro h1
   ·refine Q3 ?_ ?_<;>intro h2
    ·refine ZU ?_ ?_<;>intro h3
     ·have e:=Mr hk2 hno (by grind [Vc]);rw [e];exact we
     ·exact ⟨k+1,⟨Za,nx (by simp [Vc,h3])⟩,Za,wk⟩
    ·exact ⟨k+1,⟨Za,nx (by simp [Vc,h2])⟩,Za,wk⟩
   ·exact ⟨k+1,⟨Za,nx (by simp [Vc,h1])⟩,Za,wk⟩
  ·have hkn:k=n.arcs.length:=Za
   subst hkn;rw [Ms hno];exact we (by simp (disch:=omega) only [VP,Zj,go_sem,seval])
def WM (n:Net) (pr f t τ:Int):Int×Int×Int :=
 if (KG n f&&KG n t)=false then (0,0,11) else if f=t then (τ,0,0) else if (Wz n pr f t).2=true then (Ic (Wz n pr f t).1 τ,(Wz n pr f t).1.miles,0) else (0,0,12)
def netR (n:Net):Prop:=n.places.length<=1048576/\n.arcs.length<=1048576/\ ∀a∈n.arcs,mW a
theorem K2 {n:Net} {pr f t:Int} (h:(Wz n pr f t).2=true):(Wz n pr f t).1∈n.arcs:=by
 grind [Wz]
theorem xE (n:Net) (pr f t τ:Int) (hn:netR n) (hτ:0<=τ/\τ<=1073741824):PT 291 [.p (BG n),.p (.int .i64 pr),.p (.int .i64 f),.p (.int .i64 t),.p (.int .i64 τ)] [.p (.int .i64 (WM n pr f t τ).1),.p (.int .i64 (WM n pr f t τ).2.1),.p (.int .i64 (WM n pr f t τ).2.2)]:=by
 refine Ze [] Tryz.func291 rfl Zbw ?_;simp (disch:=omega) only [Tryz.f291,go_sem,seval];refine (Hv n f hn.1).use (Zd ?_);refine gF ?_ ?_<;>intro h1<;>simp (disch:=omega) only [Sh.out h1,go_sem,seval,↓reduceIte]
 ·have e:WM n pr f t τ=(0,0,11):=by grind [WM]
  rw [e];exact we
 ·simp only [XB] at h1;refine (Hv n t hn.1).use (Zd ?_);refine cD ?_ ?_<;>intro h2<;>simp (disch:=omega) only [Sh.out h2,go_sem,seval]
  ·have e:WM n pr f t τ=(0,0,11):=by grind [WM]
   rw [e];exact we
  ·simp only [XB] at h2;refine cD ?_ ?_<;>intro h3<;>simp (disch:=omega) only [Sh.out h3,go_sem,seval,↓reduceIte]
   ·have e:WM n pr f t τ=(τ,0,0):=by grind [WM]
    rw [e];exact we
   ·have cf:=fG n pr f t hn.2.1;have hm:= @K2 n pr f t
    have e0:WM n pr f t τ=if (Wz n pr f t).2=true then (Ic (Wz n pr f t).1 τ,(Wz n pr f t).1.miles,0) else (0,0,12):=by grind [WM]
    rw [e0];generalize Wz n pr f t=A at cf hm ⊢;obtain ⟨a,b⟩:=A;simp only at cf hm ⊢;refine X8 cf (Zd ?_);refine cD ?_ ?_<;>intro h4<;>simp (disch:=omega) only [Sh.out h4,go_sem,seval]
    ·have hb:b=false:=by grind
     subst hb;exact we (by simp (disch:=omega) only [go_sem,seval,↓reduceIte])
    ·have hb:b=true:=by grind
     subst hb;refine Xd (Zd ?_);refine Zn (Ol a τ (hn.2.2 a (hm rfl)) hτ) (Zd ?_);exact we
theorem sG (x:Inst) (pr f t τ:Int) (hn:netR x.net) (hτ:0<=τ/\τ<=1073741824):PT 289 [.p (Zr x),.p (.int .i64 pr),.p (.int .i64 f),.p (.int .i64 t),.p (.int .i64 τ)] [.p (.int .i64 (WM x.net pr f t τ).1),.p (.int .i64 (WM x.net pr f t τ).2.1),.p (.bool (decide ((WM x.net pr f t τ).2.2=0)))]:=by
 refine Ze [] Tryz.func289 rfl Zbu ?_;simp (disch:=omega) only [Tryz.f289,go_sem,seval];refine NW (xE x.net pr f t τ hn hτ) (Zd ?_);exact we
structure StD where
 place:Int
 time:Int
 driven:Int
 miles:Int
def eY (s:StD):PV:= .agg [.int .i64 s.place,.int .i64 s.time,.int .i64 s.driven,.int .i64 s.miles]
@[go_sem] theorem Zkw (s:StD):eY s= .agg [.int .i64 s.place,.int .i64 s.time,.int .i64 s.driven,.int .i64 s.miles]:=Zm rfl rfl
def FQ (t:Typ) (s:StD) (b:Bool):StD:=if b=true then { s with time:=s.time+t.rest,driven:=0 } else s
theorem Nn (t:Typ) (s:StD) (b:Bool) (hb: -1099511627776<=s.time/\s.time<=1099511627776/\ -1099511627776<=t.rest/\t.rest<=1099511627776):PC 277 [.p (XU t),.p (eY s),.p (.bool b)] (eY (FQ t s b)):=by
 refine Zc Tryz.func277 rfl Zbi ?_
 cases b with
 | true=>simp (disch:=omega) only [Tryz.f277,FQ,go_sem,seval,↓reduceIte]
 | false=>simp (disch:=omega) only [Tryz.f277,FQ,YT,go_sem,seval,↓reduceIte]
def Jk (x:Inst) (t:Typ) (s:StD) (to cl late:Int):StD×Int :=
 if ¬(WM x.net t.prof s.place to s.time).2.2=0 then (s,12)
 else if cl<(WM x.net t.prof s.place to s.time).1 then (s,late)
 else if t.drive<s.driven+(WM x.net t.prof s.place to s.time).1-s.time then (s,16)
 else (⟨to,(WM x.net t.prof s.place to s.time).1,s.driven+(WM x.net t.prof s.place to s.time).1-s.time,s.miles+(WM x.net t.prof s.place to s.time).2.1⟩,0)
def bX (n:Int):Prop:= -1099511627776<=n/\n<=1099511627776
theorem NM (x:Inst) (t:Typ) (s:StD) (to cl late:Int) (hn:netR x.net) (hs:0<=s.time/\s.time<=1073741824) (hd:bX s.driven) (hm:bX s.miles) (hg:bX (WM x.net t.prof s.place to s.time).1/\bX (WM x.net t.prof s.place to s.time).2.1) :
  PT 278 [.p (Zr x),.p (XU t),.p (eY s),.p (.int .i64 to),.p (.int .i64 cl),.p (.int .i64 late)] [.p (eY (Jk x t s to cl late).1),.p (.int .i64 (Jk x t s to cl late).2)]:=by
 have cw:=sG x t.prof s.place to s.time hn hs;unfold Jk;generalize WM x.net t.prof s.place to s.time=g at cw hg ⊢;obtain ⟨a,m,e⟩:=g;unfold bX at hd hm hg;simp only at cw hg ⊢;refine Ze [] Tryz.func278 rfl Zbj ?_;simp (disch:=omega) only [Tryz.f278,go_sem,seval];refine NW cw (Zd ?_);refine cD ?_ ?_<;>intro h1<;>simp (disch:=omega) only [Sh.out h1,go_sem,seval,↓reduceIte]
 ·exact we
 ·rw [if_neg h1];refine cD ?_ ?_<;>intro h2<;>simp (disch:=omega) only [Sh.out h2,go_sem,seval,↓reduceIte]
  ·exact we
  ·rw [if_neg h2];refine cD ?_ ?_<;>intro h3<;>simp (disch:=omega) only [Sh.out h3,go_sem,seval,↓reduceIte]
   ·exact we
   ·exact we
structure Lab where
 ready:Int
 since:Int
 she:She
 deriving Inhabited
def zShe : She:=⟨false,0,true,[],0,0⟩
def Wx : Lab:=⟨0,0,zShe⟩
def ZP (t:Typ) (L:Lab) (b:Bool):Int:=if b=true then L.ready+t.rest else L.ready
def Ww (L:Lab) (b:Bool):Int:=if b=true then 0 else L.since
def RQ (l:List Tim) (k:Nat) (d:Int) (b:Bool):List Tim:=l.set k { nth l k with dep:=d,rest:=b }
def X1 (k:Nat) (d:Int) (b:Bool) (s:She):She:=if k=0 then { s with rest:=b,dep:=d } else { s with times:=RQ s.times (k-1) d b }
def UL (t:Typ) (sp:List Stp) (k:Nat):Int:=if k=0 then t.src else (nth sp (k-1)).place
def bC (t:Typ) (sp:List Stp) (k:Nat):Int:=if k=sp.length then t.dst else (nth sp k).place
def Wd (x:Inst) (t:Typ) (sp:List Stp) (k:Nat) (d:Int):Int×Int×Int:=WM x.net t.prof (UL t sp k) (bC t sp k) d
def WB (t:Typ) (sp:List Stp) (k:Nat) (g:Int×Int×Int) (d s:Int) (h:She):Lab×Int :=
 if ¬g.2.2=0 then (Wx,12)
 else if k=sp.length then
  if t.cls<g.1 then (Wx,15) else if t.drive<s+g.1-d then (Wx,16)
  else (⟨g.1,s+g.1-d,{ h with fin:=g.1,miles:=h.miles+g.2.1 }⟩,0)
 else if (nth sp k).cls<max g.1 (nth sp k).opn then (Wx,14)
 else if t.drive<s+g.1-d then (Wx,16)
 else (⟨max g.1 (nth sp k).opn+(nth sp k).serv,s+g.1-d,{ h with times_c:=false,times:=h.times++ [⟨g.1,max g.1 (nth sp k).opn,0,false⟩],miles:=h.miles+g.2.1 }⟩,0)
def nxtF (x:Inst) (t:Typ) (sp:List Stp) (k:Nat) (L:Lab) (b:Bool):Lab×Int :=
 WB t sp k (Wd x t sp k (ZP t L b)) (ZP t L b) (Ww L b) (X1 k (ZP t L b) b L.she)
def XQ (x:Inst) (t:Typ) (sp:List Stp) (k:Nat) (L:Lab) (b:Bool):Option Lab:=if (nxtF x t sp k L b).2=0 then some (nxtF x t sp k L b).1 else none
def Xz (x:Inst) (t:Typ) (sp:List Stp):Nat->Lab->List Bool->Lab×Int
 | _,L,[]=>(L,0)
 | k,L,b::bs=>if (nxtF x t sp k L b).2=0 then Xz x t sp (k+1) (nxtF x t sp k L b).1 bs else (Wx,(nxtF x t sp k L b).2)
def labF (t:Typ) (st:Int):Lab:=⟨max t.opn st,0,zShe⟩
theorem V5 {x:Inst} {t:Typ} {sp:List Stp} : ∀(bs:List Bool) (k:Nat) (L:Lab),Vu (XQ x t sp) k L bs=if (Xz x t sp k L bs).2=0 then some (Xz x t sp k L bs).1 else none
 | [],k,L=>by rfl
 | b::bs,k,L=>by
  rw [Vu,Xz,XQ]
  by_cases h:(nxtF x t sp k L b).2=0
  ·simp only [h,if_true];exact V5 bs (k+1) _
  ·simp [h]
structure TrpOk (x:Inst) (t:Typ) (sp:List Stp):Prop where
 net:netR x.net
 mil: ∀a∈x.net.arcs,0<=a.miles/\a.miles<=10000
 opn:0<=t.opn/\t.opn<=t.cls/\t.cls<=4096
 drv:1<=t.drive/\t.drive<=4096
 rst:0<=t.rest/\t.rest<=4096
 stp: ∀s∈sp,0<=s.opn/\s.opn<=s.cls/\s.cls<=4096/\0<=s.serv/\s.serv<=4096
 len:sp.length<=20
structure LabR (k:Nat) (L:Lab):Prop where
 rdy:0<=L.ready/\L.ready<=8192
 snc: -(12288*(k:Int))<=L.since/\L.since<=4096
 mil:0<=L.she.miles/\L.she.miles<=10000*(k:Int)
theorem ID {n:Net} {pr f t τ:Int} (hn:netR n) (hm: ∀a∈n.arcs,0<=a.miles/\a.miles<=10000) (hτ:0<=τ/\τ<=1073741824):(0<=(WM n pr f t τ).1/\(WM n pr f t τ).1<=1107369984)/\(0<=(WM n pr f t τ).2.1/\(WM n pr f t τ).2.1<=10000):=by
 unfold WM
 split
 ·simp
 ·split
  ·grind
  ·split
   ·rename_i h;have hA:=K2 h;have h1:=EN (hn.2.2 _ hA).1 hτ;have h2:=Jj (t:=τ) (fun p hp=>((hn.2.2 _ hA).2.2 p hp).2.2) _ (ZI _);have h3:=(hn.2.2 _ hA).2.1
    grind [Ic]
   ·simp
theorem Kp {x t sp k L} (h:TrpOk x t sp) (hl:LabR k L) (b:Bool):0<=ZP t L b/\ZP t L b<=12288:=by
 have:=h.rst;have:=hl.rdy
 grind [ZP]
theorem F5 {k L} (hl:LabR k L) (b:Bool): -(12288*(k:Int))<=Ww L b/\Ww L b<=4096:=by
 have:=hl.snc
 grind [Ww]
theorem IC {x t sp k L} (h:TrpOk x t sp) (hl:LabR k L) (b:Bool):(0<=(Wd x t sp k (ZP t L b)).1/\(Wd x t sp k (ZP t L b)).1<=1107369984)/\(0<=(Wd x t sp k (ZP t L b)).2.1/\(Wd x t sp k (ZP t L b)).2.1<=10000):=by
 have:=Kp h hl b;exact ID h.net h.mil Za
theorem Kw {k d b s} :(X1 k d b s).miles=s.miles:=by grind [X1]
theorem Hm {k d b s} :(X1 k d b s).fin=s.fin:=by grind [X1]
theorem Ak {k d b s} :(X1 k d b s).times.length=s.times.length:=by grind [X1,RQ]
theorem I2 {x t sp k L b} (h:TrpOk x t sp) (hk:k<=sp.length) (hl:LabR k L) (he:(nxtF x t sp k L b).2=0):LabR (k+1) (nxtF x t sp k L b).1:=by
 have h1:=Kp h hl b;have h2:=F5 hl b;obtain ⟨h3,h4⟩:=IC h hl b;have h5:=hl.mil;have h6:=h.opn;have h7:=h.drv;have hm:(X1 k (ZP t L b) b L.she).miles=L.she.miles:=Kw;unfold nxtF at he ⊢
 generalize Wd x t sp k (ZP t L b)=g at *
 generalize ZP t L b=d at *
 generalize Ww L b=s at *
 generalize X1 k d b L.she=m at *
 unfold WB at he ⊢
 split at he
 ·simp at he
 ·rename_i c1;rw [if_neg c1]
  split at he
  ·rename_i c2;rw [if_pos c2]
   split at he
   ·simp at he
   ·rename_i c3;rw [if_neg c3]
    split at he
    ·simp at he
    ·rename_i c4;rw [if_neg c4];exact ⟨by grind,by grind,by grind⟩
  ·rename_i c2;rw [if_neg c2];have h8:=h.stp _ (ZX (show k<sp.length by omega))
   split at he
   ·simp at he
   ·rename_i c3;rw [if_neg c3]
    split at he
    ·simp at he
    ·rename_i c4;rw [if_neg c4];exact ⟨by grind,by grind,by grind⟩
theorem Fz {x t sp k L b} (hl:L.she.times.length=k) (he:(nxtF x t sp k L b).2=0) (hk:k<sp.length):(nxtF x t sp k L b).1.she.times.length=k+1:=by
 have hm:(X1 k (ZP t L b) b L.she).times.length=L.she.times.length:=Ak;unfold nxtF at he ⊢
 generalize Wd x t sp k (ZP t L b)=g at *
 generalize ZP t L b=d at *
 generalize Ww L b=s at *
 generalize X1 k d b L.she=m at *
 have hk2: ¬k=sp.length:=Za
 unfold WB at he ⊢
 grind
def Xa (m x:Lab):Bool:=decide (m.ready=x.ready)&&decide (m.since<=x.since)
theorem Oq {x t sp k} {m y z:Lab} {b:Bool} (hb:Xa m y=true) (hn:XQ x t sp k y b=some z): ∃u,XQ x t sp k m b=some u/\Xa u z=true:=by
 simp only [Xa,Zw,Zs] at hb;obtain ⟨hb1,hb2⟩:=hb
 have hd:ZP t m b=ZP t y b:=by simp [ZP,hb1]
 have hs:Ww m b<=Ww y b:=by grind [Ww]
 unfold XQ at hn ⊢;unfold nxtF at hn ⊢;rw [hd]
 generalize Wd x t sp k (ZP t y b)=g at *
 generalize ZP t y b=d at *
 generalize Ww y b=s at *
 generalize Ww m b=s2 at *
 generalize X1 k d b y.she=h1 at *
 generalize X1 k d b m.she=h2 at *
 unfold WB at hn ⊢
 by_cases c1:g.2.2=0
 ·by_cases c2:k=sp.length
  ·simp only [c1,c2,not_true,if_true,Yj] at hn ⊢
   by_cases c3:t.cls<g.1
   ·grind
   ·by_cases c4:t.drive<s+g.1-d
    ·grind
    ·have c5: ¬t.drive<s2+g.1-d:=Za
     simp only [c3,c4,Yj,if_true,U0] at hn;subst hn;refine ⟨_,by simp only [c3,c5,Yj,if_true];rfl,?_⟩;simp [Xa];omega
  ·simp only [c1,c2,not_true,Yj] at hn ⊢
   by_cases c3:(nth sp k).cls<max g.1 (nth sp k).opn
   ·grind
   ·by_cases c4:t.drive<s+g.1-d
    ·grind
    ·have c5: ¬t.drive<s2+g.1-d:=Za
     simp only [c3,c4,Yj,if_true,U0] at hn;subst hn;refine ⟨_,by simp only [c3,c5,Yj,if_true];rfl,?_⟩;simp [Xa];omega
 grind
def Wi (L:Lab):Int:=L.she.fin
theorem M4 {x t sp} {y z:Lab} {b:Bool} (hn:XQ x t sp sp.length y b=some z):z.she.fin=z.ready:=by
 unfold XQ nxtF WB at hn
 grind
theorem Hg {x t sp} (ch:Nat->List Bool) (L:Lab):Vw Wi none (J9 Xa (XQ x t sp) ch (sp.length+1) 0 [L])=Vw Wi none (Vn (XQ x t sp) ch (sp.length+1) 0 L):=by
 have h:=RH Wi Xa (XQ x t sp) ch (n:=sp.length+1) (Inv:=fun k y=>k=sp.length+1->y.she.fin=y.ready)
  (fun k y b z _ hn hk=>by
   grind [M4]) (fun k m y b z _ _ hb hn=>Oq hb hn)
  (fun m y h1 h2 hb=>by
   simp only [Xa,Zw,Zs] at hb
   rw [Wi,Wi,h1 rfl,h2 rfl];omega) (sp.length+1) 0 [L] Za (fun y _ hk=>Za)
 rw [h];simp
def Ut (r:List Bool) (k:Nat):List Bool:=match r[k]? with | some b=> [b] | none=> [false,true]
theorem Rp (r:List Bool) (n:Nat) (hn:r.length<=n): ∀(j k:Nat),k+j=r.length->Iy (Ut r) (n-k) k=(Y8 (List.replicate (n-r.length) false)).map (r.drop k++ ·)
 | 0,k,h=>by
  have hk:k=r.length:=Za
  subst hk;rw [Mo (n:=n) _ _ _ (fun q hq=>by grind [Ut])];simp
 | j+1,k,h=>by
  have e:n-k=(n-(k+1))+1:=Za
  have hlt:k<r.length:=Za
  rw [e,Iy,Rp r n hn j (k+1) Za]
  have:Ut r k= [r[k]]:=by simp [Ut,hlt]
  rw [this,Ui,List.flatMap_nil,Yt,List.map_map,VD hlt]
  rfl
theorem G1 (r:List Bool) (n:Nat) (hn:r.length<=n):Iy (Ut r) n 0=(Y8 (List.replicate (n-r.length) false)).map (r++ ·):=by
 have:=Rp r n hn r.length 0 Za
 grind
def Y4 (r:List Bool) (n:Nat):List (List Bool):=(Y8 (List.replicate (n-r.length) false)).map (r++ ·)
def We (r:List Bool) (n:Nat):List Bool:=r++List.replicate (n-r.length) false
def UW (x:Inst) (t:Typ) (sp:List Stp) (st:Int) (r:List Bool):She×Int :=
 match Vw Wi none ((Y4 r (sp.length+1)).filterMap (Vu (XQ x t sp) 0 (labF t st))) with
 | some L=>(L.she,0)
 | none=>(zShe,(Xz x t sp 0 (labF t st) (We r (sp.length+1))).2)
theorem Ij {x t sp} {st:Int} {r:List Bool} (hr:r.length<=sp.length+1):UW x t sp st r=match Vw Wi none (J9 Xa (XQ x t sp) (Ut r) (sp.length+1) 0 [labF t st]) with
 | some L=>(L.she,0)
 | none=>(zShe,(Xz x t sp 0 (labF t st) (We r (sp.length+1))).2):=by
 rw [Hg,Vn,G1 r _ hr];rfl
theorem Nu {x t sp} : ∀(bs:List Bool) (k:Nat) (L:Lab),L.she.times.length=k->k+bs.length=sp.length+1->0<bs.length->(Xz x t sp k L bs).2=0->(Xz x t sp k L bs).1.she.times.length=sp.length
 | [],k,L,h1,h2,h3,h=>by simp at h3
 | b::bs,k,L,h1,h2,_,h=>by
  rw [Xz] at h ⊢
  by_cases h4:(nxtF x t sp k L b).2=0
  ·simp only [h4,if_true] at h ⊢
   cases bs with
   | nil =>
    simp at h2;subst h2;rw [Xz];unfold nxtF at h4 ⊢;unfold WB at h4 ⊢
    split at h4
    ·simp at h4
    ·rename_i c1;rw [if_neg c1];simp only [if_true] at h4 ⊢
     split at h4
     ·simp at h4
     ·rename_i c2;rw [if_neg c2]
      split at h4
      ·simp at h4
      simp_all [if_neg,Ak]
   | cons b2 bs =>
    simp at h2;exact Nu (b2::bs) (k+1) _ (Fz h1 h4 Za) (by simp;omega) Zb h
  grind
theorem bestF_len {x t sp} {st:Int} {r:List Bool} (hr:r.length<=sp.length+1) (h:(UW x t sp st r).2=0):(UW x t sp st r).1.times.length=sp.length:=by
 unfold UW at h ⊢
 cases hf:Vw Wi none ((Y4 r (sp.length+1)).filterMap (Vu (XQ x t sp) 0 (labF t st))) with
 | none =>
  rw [hf] at h;simp only at h ⊢;exfalso
  have hm:We r (sp.length+1)∈Y4 r (sp.length+1):=by
   grind [Y4,We,fromB_next]
  have h2:Vu (XQ x t sp) 0 (labF t st) (We r (sp.length+1))=some (Xz x t sp 0 (labF t st) (We r (sp.length+1))).1:=by rw [V5,if_pos h]
  have h3:(Xz x t sp 0 (labF t st) (We r (sp.length+1))).1∈(Y4 r (sp.length+1)).filterMap (Vu (XQ x t sp) 0 (labF t st)):=B5.2 ⟨_,hm,h2⟩;generalize (Y4 r (sp.length+1)).filterMap (Vu (XQ x t sp) 0 (labF t st))=l at hf h3
  cases l with
  | nil=>simp at h3
  | cons a l =>
   rw [Vw] at hf;obtain ⟨z,e,_⟩:=Q9 Wi l a
   grind
 | some L =>
  simp only;have hm:=fmL_mem _ _ hf;obtain ⟨bs,hbs,hrun⟩:=B5.1 hm;rw [V5] at hrun
  split at hrun
  ·rename_i h5;simp at hrun;subst hrun;obtain ⟨q,hq,rfl⟩:=XO.1 hbs;have hql:=fromB_len _ _ hq;simp at hql;exact Nu _ 0 _ rfl (by grind) (by grind) h5
  ·cases hrun
where
 fmL_mem: ∀(l:List Lab) (L:Lab),Vw Wi none l=some L->L∈l
 | [],L,h=>by simp [Vw] at h
 | a::l,L,h=>by
  rw [Vw] at h;exact fmL_mem2 l a L h
 fmL_mem2: ∀(l:List Lab) (a L:Lab),Vw Wi (some a) l=some L->L∈a::l
 | [],a,L,h=>by grind [Vw]
 | y::l,a,L,h=>by
  rw [Vw] at h
  split at h
  ·have:=fmL_mem2 l y L h;grind
  ·have:=fmL_mem2 l a L h;grind
 fromB_len: ∀(l q:List Bool),q∈Y8 l->q.length=l.length
 | [],q,h=>by grind [Y8]
 | b::bs,q,h=>by
  rw [Y8] at h
  split at h
  ·obtain ⟨q',hq,rfl⟩:=XO.1 h;simp [fromB_len bs q' hq]
  ·rcases Xg.1 h with h | h
   ·obtain ⟨q',hq,rfl⟩:=XO.1 h;simp [fromB_len bs q' hq]
   ·obtain ⟨q',hq,rfl⟩:=XO.1 h;simp [fromB_len (List.replicate bs.length false) q' hq]
 termination_by l=>l.length
 decreasing_by all_goals simp
def XL (x:Inst) (v:Vis):Stp:=if v.drp=true then (nth x.orders v.order.toNat).drp else (nth x.orders v.order.toNat).pick
def Z9 (x:Inst) (l:List Vis):List Stp:=l.map (XL x)
def WI (t:Typ) (s:Int):Bool:=decide (0<=t.skills)&&decide (0<=s)&&(List.range 63).all fun i=> !s.toNat.testBit i||t.skills.toNat.testBit i
def Qm (a c:List Int):Bool:=decide (a.length=c.length)&&(List.range a.length).all fun i=>decide (nth a i<=nth c i)
def Qr (x:Inst) (c:List Int) (l:List Vis):Bool:=(List.range (l.length+1)).all fun n=>Qm (Wf x l n) c
def Z0 (x:Inst) (r:Rte):Typ:=nth x.types r.typ.toNat
def Ue (l:List Vis) (i:Nat):Bool:= !((l.take i).any fun v=>decide (v.order=(nth l i).order))
def Xk (k t:Int):Bool:=decide (k≠ -1)&&decide (k≠t)
def chgF (x:Inst) (l:List Vis) (t:Int):Nat->Int×Int
 | 0=>(0,0)
 | n+1=>if Ue l n=true then ((chgF x l t n).1+(if Xk (nth x.orders (nth l n).order.toNat).now t=true then 1 else 0),(chgF x l t n).2+(if Xk (nth x.orders (nth l n).order.toNat).last t=true then 1 else 0)) else chgF x l t n
def Lo (x:Inst) (r:Rte) (s:She):Sco :=
 ⟨(Z0 x r).fixed+(Z0 x r).perMile*s.miles+(Z0 x r).perTick*(s.fin-(Z0 x r).opn),(chgF x r.visits r.typ r.visits.length).1,(chgF x r.visits r.typ r.visits.length).2,(s.fin-(Z0 x r).opn).tdiv 64*(s.fin-(Z0 x r).opn).tdiv 64⟩
def Yn (x:Inst) (r:Rte):Int :=
 if ¬(0<=r.typ/\r.typ<(x.types.length:Int)) then 2
 else if ¬Xr x r.visits=0 then Xr x r.visits
 else if (r.visits.any fun v=> !WI (Z0 x r) (nth x.orders v.order.toNat).skills)=true then 18
 else if Qr x (Z0 x r).cap r.visits=false then 17
 else if ¬(0<=r.start/\r.start<=4096/\r.rests.length<=r.visits.length+1) then 2
 else 0
def Xu (x:Inst) (r:Rte):She×Int:=UW x (Z0 x r) (Z9 x r.visits) r.start r.rests
def XD (x:Inst) (r:Rte):Int:=if Yn x r=0 then (Xu x r).2 else Yn x r
def Wy (x:Inst) (r:Rte):She:=if XD x r=0 then (Xu x r).1 else zShe
def WL (x:Inst) (r:Rte):Sco:=if XD x r=0 then Lo x r (Xu x r).1 else zSco
def ZcC : Stp:=⟨0,0,0,0⟩
def MJ (x:Inst) (v:Vis):Bool:=decide (0<=v.order)&&decide (v.order<(x.orders.length:Int))
def KU (x:Inst) (v:Vis):Bool:=MJ x v&&decide (0<=(XL x v).place)
def CH (x:Inst) (v:Vis):Stp:=if MJ x v=true then XL x v else ZcC
theorem NN (x:Inst) (v:Vis) (ho:x.orders.length<=1048576):PT 256 [.p (Zr x),.p (Z3 v)] [.p (E3 (CH x v)),.p (.bool (KU x v))]:=by
 refine Ze [] Tryz.func256 rfl ZaX ?_;simp (disch:=omega) only [Tryz.f256,go_sem,seval];refine gF ?_ ?_<;>intro h1<;>simp (disch:=omega) only [Sh.out h1,go_sem,seval,↓reduceIte]
 ·have e:MJ x v=false:=by
   grind [MJ]
  simp only [CH,KU,e,Qp,YT,Yj,ZcC];exact we
 ·refine cD ?_ ?_<;>intro h2<;>simp (disch:=omega) only [Sh.out h2,go_sem,seval,↓reduceIte]
  ·have e:MJ x v=false:=by
    grind [MJ]
   simp only [CH,KU,e,Qp,YT,Yj,ZcC];exact we
  ·have e:MJ x v=true:=by simp [MJ];omega
   have hi:v.order.toNat<x.orders.length:=Za
   refine cD ?_ ?_<;>intro hd<;>simp (disch:=omega) only [Sh.out hd,go_sem,seval,↓reduceIte]
   ·have hG:CH x v=(nth x.orders v.order.toNat).drp:=by simp [CH,e,XL,hd]
    have hV:KU x v=decide (0<=(nth x.orders v.order.toNat).drp.place):=by simp [KU,e,XL,hd]
    rw [hG,hV];refine ER (.cons 0 (.cons 1 (.cons 2 (.cons 3 (.cons 4 (.cons 5 .nil .nil) .nil) (.cons 4 (.cons 3 (.cons 5 .nil .nil) .nil) .nil)) (.cons 4 (.cons 2 (.cons 3 (.cons 5 .nil .nil) .nil) .nil) .nil)) (.cons 4 (.cons 1 (.cons 2 (.cons 3 (.cons 5 .nil .nil) .nil) .nil) .nil) .nil)) (.cons 1 (.cons 0 (.cons 2 (.cons 3 (.cons 4 (.cons 5 .nil .nil) .nil) (.cons 4 (.cons 3 (.cons 5 .nil .nil) .nil) .nil)) (.cons 4 (.cons 2 (.cons 3 (.cons 5 .nil .nil) .nil) .nil) .nil)) (.cons 2 (.cons 0 (.cons 3 (.cons 4 (.cons 5 .nil .nil) .nil) (.cons 4 (.cons 3 (.cons 5 .nil .nil) .nil) .nil)) (.cons 3 (.cons 0 (.cons 4 (.cons 5 .nil .nil) .nil) .nil) .nil)) .nil)) .nil)) mixed Zg ?_
    refine Zd ?_
    repeat' first
     | refine CT ?_ ?_
     | exact we
     | simp (disch:=omega) only [go_sem,seval,↓reduceIte]
   ·have hG:CH x v=(nth x.orders v.order.toNat).pick:=by simp [CH,e,XL,hd]
    have hV:KU x v=decide (0<=(nth x.orders v.order.toNat).pick.place):=by simp [KU,e,XL,hd]
    rw [hG,hV];refine ER (.cons 0 (.cons 1 (.cons 2 (.cons 3 (.cons 4 (.cons 5 .nil .nil) .nil) (.cons 4 (.cons 3 (.cons 5 .nil .nil) .nil) .nil)) (.cons 4 (.cons 2 (.cons 3 (.cons 5 .nil .nil) .nil) .nil) .nil)) (.cons 4 (.cons 1 (.cons 2 (.cons 3 (.cons 5 .nil .nil) .nil) .nil) .nil) .nil)) (.cons 1 (.cons 0 (.cons 2 (.cons 3 (.cons 4 (.cons 5 .nil .nil) .nil) (.cons 4 (.cons 3 (.cons 5 .nil .nil) .nil) .nil)) (.cons 4 (.cons 2 (.cons 3 (.cons 5 .nil .nil) .nil) .nil) .nil)) (.cons 2 (.cons 0 (.cons 3 (.cons 4 (.cons 5 .nil .nil) .nil) (.cons 4 (.cons 3 (.cons 5 .nil .nil) .nil) .nil)) (.cons 3 (.cons 0 (.cons 4 (.cons 5 .nil .nil) .nil) .nil) .nil)) .nil)) .nil)) mixed Zg ?_
    refine Zd ?_
    repeat' first
     | refine CT ?_ ?_
     | exact we
     | simp (disch:=omega) only [go_sem,seval,↓reduceIte]
def V3 (x:Inst) (r:Rte):Bool:=(decide (0<=r.typ)&&decide (r.typ<(x.types.length:Int))&&decide (0<=r.start)&&decide (r.start<=4096)&&decide (r.visits.length<=20))&&r.visits.all (KU x)
theorem FH (x:Inst) (r:Rte) (ho:x.orders.length<=1048576) (ht:x.types.length<=1048576) (hl:r.visits.length<=1048576):PC 230 [.p (Zr x),.p (Wg r)] (.bool (V3 x r)):=by
 refine Zc Tryz.func230 rfl Zay ?_;simp (disch:=omega) only [Tryz.f230,go_sem,seval];refine gF ?_ ?_<;>intro h1<;>simp (disch:=omega) only [Sh.out h1,go_sem,seval,↓reduceIte]
 ·simp [V3];omega
 ·refine gF ?_ ?_<;>intro h2<;>simp (disch:=omega) only [Sh.out h2,go_sem,seval,↓reduceIte]
  ·simp [V3];omega
  ·refine gF ?_ ?_<;>intro h3<;>simp (disch:=omega) only [Sh.out h3,go_sem,seval,↓reduceIte]
   ·simp [V3];omega
   ·refine gF ?_ ?_<;>intro h4<;>simp (disch:=omega) only [Sh.out h4,go_sem,seval,↓reduceIte]
    ·simp [V3];omega
    ·refine cD ?_ ?_<;>intro h5<;>simp (disch:=omega) only [Sh.out h5,go_sem,seval]
     ·simp [V3];omega
     ·refine Zl [2,3] (fun k:Nat=> [(5,.p (.int .i64 k))]) (fun _=> [Zf x,Xo r]) (fun k=>k<=r.visits.length/\ ∀j,j<k->KU x (nth r.visits j)=true) (fun k=>r.visits.length-k) 0 Zb (Weak.mk ?_) ?_
      ·simp (disch:=omega) only [Zf,Xo,go_sem,seval]
      ·rintro k ⟨hk,hno⟩;refine KQ ?_;refine cD ?_ ?_<;>intro h<;>simp (disch:=omega) only [Sh.out h,go_sem,seval,↓reduceIte]
       ·have hk2:k<r.visits.length:=Za
        refine XR [10,11] 12 mixed Zg Zg Zg Zb (Zd ?_);refine K1 (NN x (nth r.visits k) ho) (Zd ?_);refine Xl 10 _ _ Zg (by refine Zd ?_;exact ⟨rfl,rfl⟩) ?_;refine Zd ?_;refine Xl 11 _ _ Zg (by refine Zd ?_;exact ⟨rfl,rfl⟩) (Y9 ?_);refine Zd ?_;refine ZU ?_ ?_<;>intro h6
        ·grind [Zu,V3]
        ·exact ⟨k+1,⟨Za,Zp.2 ⟨hno,by grind⟩⟩,Za,wk⟩
       ·have hkl:k=r.visits.length:=Za
        subst hkl
        have:r.visits.all (KU x)=true:=by
         rw [ZC];intro v hv;obtain ⟨j,hj,rfl⟩:=ZN.1 hv
         grind [Zk]
        grind [V3]
@[go_sem high] theorem Zkf {k k':IntKind} {a b:Int} :H8 false [.p (.int k a),.p (.int k' b)]=some (.int k (max a b)):=by
 grind [H8]
theorem O0 {l:List Tim} {m:Tim} {d:Int} {b:Bool} :RQ (l++ [m]) l.length d b=l++ [{ m with dep:=d,rest:=b }]:=by
 grind [Zk,RQ]
theorem aY {x:Inst} {t:Typ} {sp:List Stp} {k:Nat} {d s m:Int} {h:She} (hk:k<sp.length) (ho:(nth sp k).opn<=(nth sp k).cls) (hm:h.miles=m) :
  (Jk x t ⟨UL t sp k,d,s,m⟩ (nth sp k).place (nth sp k).cls 14).2=(WB t sp k (Wd x t sp k d) d s h).2 /\
  ((WB t sp k (Wd x t sp k d) d s h).2=0->(Jk x t ⟨UL t sp k,d,s,m⟩ (nth sp k).place (nth sp k).cls 14).1=⟨(nth sp k).place,(Wd x t sp k d).1,s+(Wd x t sp k d).1-d,m+(Wd x t sp k d).2.1⟩ /\
   (WB t sp k (Wd x t sp k d) d s h).1=⟨max (Wd x t sp k d).1 (nth sp k).opn+(nth sp k).serv,s+(Wd x t sp k d).1-d,{ h with times_c:=false,times:=h.times++ [⟨(Wd x t sp k d).1,max (Wd x t sp k d).1 (nth sp k).opn,0,false⟩],miles:=m+(Wd x t sp k d).2.1 }⟩):=by
 have hne: ¬k=sp.length:=Za
 have e:WM x.net t.prof (UL t sp k) (nth sp k).place d=Wd x t sp k d:=by simp [Wd,bC,hne]
 unfold Jk WB
 grind
theorem aZ {x:Inst} {t:Typ} {sp:List Stp} {d s m:Int} {h:She} (hm:h.miles=m) :
  (Jk x t ⟨UL t sp sp.length,d,s,m⟩ t.dst t.cls 15).2=(WB t sp sp.length (Wd x t sp sp.length d) d s h).2 /\
  ((WB t sp sp.length (Wd x t sp sp.length d) d s h).2=0->(Jk x t ⟨UL t sp sp.length,d,s,m⟩ t.dst t.cls 15).1=⟨t.dst,(Wd x t sp sp.length d).1,s+(Wd x t sp sp.length d).1-d,m+(Wd x t sp sp.length d).2.1⟩ /\
   (WB t sp sp.length (Wd x t sp sp.length d) d s h).1=⟨(Wd x t sp sp.length d).1,s+(Wd x t sp sp.length d).1-d,{ h with fin:=(Wd x t sp sp.length d).1,miles:=m+(Wd x t sp sp.length d).2.1 }⟩):=by
 have e:WM x.net t.prof (UL t sp sp.length) t.dst d=Wd x t sp sp.length d:=by simp [Wd,bC]
 unfold Jk WB
 grind
def Zcl (s:StD):AM.Obj:= .cells [.p (.int .i64 s.place),.p (.int .i64 s.time),.p (.int .i64 s.driven),.p (.int .i64 s.miles)]
def Q5 (t:Typ) (sp:List Stp) (k:Nat) (L:Lab) (b:Bool):StD:=⟨UL t sp k,ZP t L b,Ww L b,L.she.miles⟩
theorem ZjN {g:FuncId} {args:List V} {a c:PV} {H:List AM.Obj} {K:V->List AM.Obj->Prop} (h:ACalls Tryz.prog g args [] fun x H'=> ∃b:PV,x= .tup [.p a,.p b,.p c]/\H'= []) (k: ∀b:PV,K (.tup [.p a,.p b,.p c]) H) (ha:Xi 0 args=true:=by rfl):ACalls Tryz.prog g args H K :=
 (h.behind ha H).mono fun x H' hq=>by
  obtain ⟨y,H1,⟨b,rfl,rfl⟩,rfl,rfl⟩:=hq
  grind [shV,shVs]
theorem Yp {x:Inst} {l:List Vis} :(Z9 x l).length=l.length:=by simp [Z9]
theorem F7 {x:Inst} {l:List Vis} {k:Nat} (h:k<l.length):nth (Z9 x l) k=XL x (nth l k):=by
 grind [Zk,Z9]
theorem Jl {P Q:Prop} (h:Q) (e:Q->P:=by intro h;simp (disch:=omega) only [Zq,Zj,ZK,ZY,go_sem,seval];exact h):P:=e h
theorem rB (x:Inst) (r:Rte) (rests:List Bool) (c:Bool) (hok:TrpOk x (Z0 x r) (Z9 x r.visits)) (ho:x.orders.length<=1048576) (ht:x.types.length<=1048576) (hne:0<r.visits.length) (hp:V3 x r=true) (hl:rests.length=r.visits.length+1) :
  ACalls Tryz.prog 257 [.p (Zr x),.p (Wg r),.p (.list c (rests.map eB))] [] fun y H'=> ∃d:PV,y= .tup [.p (E1 (Xz x (Z0 x r) (Z9 x r.visits) 0 (labF (Z0 x r) r.start) rests).1.she),.p d,.p (.int .i64 (Xz x (Z0 x r) (Z9 x r.visits) 0 (labF (Z0 x r) r.start) rests).2)]/\H'= []:=by
 have hp2:=hp;simp only [V3,Zw,Zs] at hp2;obtain ⟨⟨⟨⟨⟨p1,p2⟩,p3⟩,p4⟩,p5⟩,p6⟩:=hp2;have hvis: ∀k,k<r.visits.length->KU x (nth r.visits k)=true:=fun k hk=>ZC.1 p6 _ (Zu hk)
 have hstop: ∀k,k<r.visits.length->CH x (nth r.visits k)=nth (Z9 x r.visits) k:=fun k hk=>by
  simp_all [KU,CH,F7]
 have hti:r.typ.toNat<x.types.length:=Za
 have hopn:=hok.opn;have hrst:=hok.rst;have htd:Z0 x r=nth x.types r.typ.toNat:=rfl
 generalize hT:Z0 x r=t at *
 have hsl:(Z9 x r.visits).length=r.visits.length:=Yp
 generalize hS:Z9 x r.visits=sp at *
 refine Ze [26] Tryz.func257 rfl ZaY ?_;simp (disch:=omega) only [Tryz.f257,go_sem,seval];refine (FH x r ho ht Za).use (Zd ?_);rw [hp];refine Zd ?_;refine cD ?_ ?_<;>intro h0<;>simp (disch:=omega) only [Sh.out h0,<- htd,go_sem,seval,↓reduceIte]
 ·omega
 ·refine XR [13] 14 mixed Zg Zg Zg Zb (Zd ?_);refine Zn (Nn t ⟨t.src,max t.opn r.start,0,0⟩ (nth rests 0) (by grind)) (Zd ?_);refine Xl 13 _ _ Zg (by refine Zd ?_;exact ⟨rfl,rfl⟩) (Y9 ?_);refine Zd ?_;refine XR [6] 7 mixed Zg Zg Zg Zb (Zd ?_);refine Xl 6 _ _ Zg (by refine Zd ?_;exact ⟨rfl,rfl⟩) (Y9 ?_);refine Zd ?_;have hL0:LabR 0 (labF t r.start):=⟨by grind [labF],by simp [labF],by simp [labF,zShe]⟩
  have hS0:FQ t ⟨t.src,max t.opn r.start,0,0⟩ (nth rests 0)=Q5 t sp 0 (labF t r.start) (nth rests 0):=by
   simp only [FQ,Q5,UL,ZP,Ww,labF,zShe,if_true]
   split<;>rfl
  simp (disch:=omega) only [hS0,go_sem,seval]
  refine ZV [26] [2,3,4,6,9,10,11] (fun q:Nat×Lab×List Int=> [(12,.sl 7 0 q.2.2.length q.2.2.length),(13,.p (.int .i64 q.1))])
   (fun q=> [Zf x,Xo r,.cells [.p (.bool false),.p (.int .i64 0),.p (.list true []),.p (.int .i64 0),.p (.int .i64 0)],X5 t,Zcl (Q5 t sp q.1 q.2.1 (nth rests q.1)),
    .cells [.p (.bool (X1 q.1 (ZP t q.2.1 (nth rests q.1)) (nth rests q.1) q.2.1.she).rest),.p (.int .i64 (X1 q.1 (ZP t q.2.1 (nth rests q.1)) (nth rests q.1) q.2.1.she).dep),.sl 6 0 (X1 q.1 (ZP t q.2.1 (nth rests q.1)) (nth rests q.1) q.2.1.she).times.length (X1 q.1 (ZP t q.2.1 (nth rests q.1)) (nth rests q.1) q.2.1.she).times.length,.p (.int .i64 0),.p (.int .i64 0)],
    .elems 4 ((X1 q.1 (ZP t q.2.1 (nth rests q.1)) (nth rests q.1) q.2.1.she).times.map eTim),.elems 1 (q.2.2.map eI)])
   (fun q=>q.1<=r.visits.length/\Xz x t sp 0 (labF t r.start) rests=Xz x t sp q.1 q.2.1 (rests.drop q.1)/\LabR q.1 q.2.1/\q.2.1.she.times.length=q.1/\q.2.1.she.fin=0/\(0<q.1->q.2.1.she.times_c=false)/\q.2.2.length=q.1) (fun q=>r.visits.length-q.1) (0,labF t r.start,[])
   ⟨Zb,Zb,hL0,by rfl,by rfl,Zb,Zb⟩ ((Weak.nilC (o:=5) (j:=2) 4 rfl rfl Zb).trans (Weak.ofNil 12 1 rfl Zb (Weak.mk ?_))) ?_
  ·simp (disch:=omega) only [Zf,Xo,X5,Zcl,Q5,UL,X1,labF,zShe,Zj,ZF,ZK,ZY,ZL,ZD,go_sem,seval]
  ·rintro ⟨k,L,ds⟩ ⟨hk,hrun,hL,hlen,hfin,hclip,hds⟩;simp only at hk hrun hL hlen hfin hclip hds
   have hmlen:(X1 k (ZP t L (nth rests k)) (nth rests k) L.she).times.length=k:=by grind [Ak]
   have hd:=Kp hok hL (nth rests k);have hs:=F5 hL (nth rests k);have hg:=IC hok hL (nth rests k);have hmi:=hL.mil
   generalize hm:X1 k (ZP t L (nth rests k)) (nth rests k) L.she=m at *
   have hmm:m.miles=L.she.miles:=by rw [<- hm,Kw]
   have hmf:m.fin=0:=by grind [Hm]
   have hdrop:rests.drop k=nth rests k::rests.drop (k+1):=by grind [VD,Zk]
   have hnx:nxtF x t sp k L (nth rests k)=WB t sp k (Wd x t sp k (ZP t L (nth rests k))) (ZP t L (nth rests k)) (Ww L (nth rests k)) m:=by rw [nxtF,hm]
   rw [hdrop,Xz] at hrun;simp (disch:=omega) only [Zf,Xo,X5,Zcl,go_sem,seval];refine cD ?_ ?_<;>intro h<;>simp (disch:=omega) only [Sh.out h,go_sem,seval,↓reduceIte]
   ·have hk2:k<r.visits.length:=Za
    have hsp:=hok.stp _ (ZX (show k<sp.length by omega));refine XR [10,11] 12 mixed Zg Zg Zg Zb (Zd ?_);refine K1 (NN x (nth r.visits k) ho) (Zd ?_);refine Xl 10 _ _ Zg (by refine Zd ?_;exact ⟨rfl,rfl⟩) ?_;refine Zd ?_;refine Xl 11 _ _ Zg (by refine Zd ?_;exact ⟨rfl,rfl⟩) (Y9 ?_);simp (disch:=omega) only [hstop k hk2,go_sem,seval];obtain ⟨f1,f2⟩:=aY (x:=x) (t:=t) (d:=ZP t L (nth rests k)) (s:=Ww L (nth rests k)) (h:=m) (show k<sp.length by omega) hsp.2.1 hmm
    have he2:WM x.net t.prof (UL t sp k) (nth sp k).place (ZP t L (nth rests k))=Wd x t sp k (ZP t L (nth rests k)):=by
     grind [Wd,bC]
    refine X8 (NM x t (Q5 t sp k L (nth rests k)) (nth sp k).place (nth sp k).cls 14 hok.net ?_ ?_ ?_ ?_) ?_
    ·grind [Q5]
    ·grind [Q5,bX]
    ·grind [Q5,bX]
    ·grind [Q5,bX]
    have f1':(Jk x t (Q5 t sp k L (nth rests k)) (nth sp k).place (nth sp k).cls 14).2=(nxtF x t sp k L (nth rests k)).2:=by rw [hnx,<- f1];rfl
    refine Zd ?_;rw [f1'];refine cD ?_ ?_<;>intro h3<;>simp (disch:=omega) only [Sh.out h3,go_sem,seval,↓reduceIte]
    ·rw [if_neg h3] at hrun;rw [hrun];simp only [Wx,zShe];exact ⟨_,_,Weak.mk (by simp (disch:=omega) only [Zj,go_sem,seval]),.list true [],rfl,rfl⟩
    ·have h3':(nxtF x t sp k L (nth rests k)).2=0:=Z4.1 h3;rw [if_pos h3'] at hrun;have hL':=I2 hok Za hL h3';rw [hnx] at h3';obtain ⟨f3,f4⟩:=f2 h3';have f3':(Jk x t (Q5 t sp k L (nth rests k)) (nth sp k).place (nth sp k).cls 14).1=⟨(nth sp k).place,(Wd x t sp k (ZP t L (nth rests k))).1,Ww L (nth rests k)+(Wd x t sp k (ZP t L (nth rests k))).1-ZP t L (nth rests k),L.she.miles+(Wd x t sp k (ZP t L (nth rests k))).2.1⟩:=f3
     have hL2:(nxtF x t sp k L (nth rests k)).1=⟨max (Wd x t sp k (ZP t L (nth rests k))).1 (nth sp k).opn+(nth sp k).serv,Ww L (nth rests k)+(Wd x t sp k (ZP t L (nth rests k))).1-ZP t L (nth rests k),{ m with times_c:=false,times:=m.times++ [⟨(Wd x t sp k (ZP t L (nth rests k))).1,max (Wd x t sp k (ZP t L (nth rests k))).1 (nth sp k).opn,0,false⟩],miles:=L.she.miles+(Wd x t sp k (ZP t L (nth rests k))).2.1 }⟩:=by grind
     simp (disch:=omega) only [f3',go_sem,seval];refine XR [13] 14 mixed Zg Zg Zg Zb (Zd ?_);refine Xl 13 _ _ Zg (by refine Zd ?_;exact ⟨rfl,rfl⟩) (Y9 ?_);refine Zd ?_
     generalize (nxtF x t sp k L (nth rests k)).1=L2 at *
     have hS1:FQ t ⟨(nth sp k).place,max (Wd x t sp k (ZP t L (nth rests k))).1 (nth sp k).opn+(nth sp k).serv,Ww L (nth rests k)+(Wd x t sp k (ZP t L (nth rests k))).1-ZP t L (nth rests k),L.she.miles+(Wd x t sp k (ZP t L (nth rests k))).2.1⟩ (nth rests (k+1))=Q5 t sp (k+1) L2 (nth rests (k+1)):=by
      rw [hL2];simp only [FQ,Q5,UL,ZP,Ww,Nat.add_sub_cancel,if_neg (show ¬k+1=0 by omega)]
      split<;>rfl
     have hM:X1 (k+1) (ZP t L2 (nth rests (k+1))) (nth rests (k+1)) L2.she= { m with times_c:=false,times:=m.times++ [⟨(Wd x t sp k (ZP t L (nth rests k))).1,max (Wd x t sp k (ZP t L (nth rests k))).1 (nth sp k).opn,ZP t L2 (nth rests (k+1)),nth rests (k+1)⟩],miles:=L.she.miles+(Wd x t sp k (ZP t L (nth rests k))).2.1 } :=by
      have he:L2.she= { m with times_c:=false,times:=m.times++ [⟨(Wd x t sp k (ZP t L (nth rests k))).1,max (Wd x t sp k (ZP t L (nth rests k))).1 (nth sp k).opn,0,false⟩],miles:=L.she.miles+(Wd x t sp k (ZP t L (nth rests k))).2.1 } :=by rw [hL2]
      rw [he,X1,if_neg Za,Nat.add_sub_cancel]
      grind [O0]
     have hd2:=Kp hok hL' (nth rests (k+1));refine ZB 8 mixed Zg Zg (Zd ?_);refine Zn (Nn t ⟨(nth sp k).place,max (Wd x t sp k (ZP t L (nth rests k))).1 (nth sp k).opn+(nth sp k).serv,Ww L (nth rests k)+(Wd x t sp k (ZP t L (nth rests k))).1-ZP t L (nth rests k),L.she.miles+(Wd x t sp k (ZP t L (nth rests k))).2.1⟩ (nth rests (k+1)) (by grind)) (Zd ?_);simp (disch:=omega) only [hS1,go_sem,seval];refine ⟨(k+1,L2,ds++ [L2.since]),⟨Za,hrun,hL',by grind,by grind,by grind,by simp [hds]⟩,Za,Weak.mk ?_⟩
     simp (disch:=omega) only [hM,hmlen,Zz,ZA,ZF,Xn,Zq,Zj,go_sem,seval];exact ⟨rfl,by grind⟩
   ·have hkl:k=sp.length:=Za
    subst hkl;obtain ⟨f1,f2⟩:=aZ (x:=x) (t:=t) (sp:=sp) (d:=ZP t L (nth rests sp.length)) (s:=Ww L (nth rests sp.length)) (h:=m) hmm
    have he2:WM x.net t.prof (UL t sp sp.length) t.dst (ZP t L (nth rests sp.length))=Wd x t sp sp.length (ZP t L (nth rests sp.length)):=by simp [Wd,bC]
    refine X8 (NM x t (Q5 t sp sp.length L (nth rests sp.length)) t.dst t.cls 15 hok.net ?_ ?_ ?_ ?_) ?_
    ·grind [Q5]
    ·grind [Q5,bX]
    ·grind [Q5,bX]
    ·grind [Q5,bX]
    have f1':(Jk x t (Q5 t sp sp.length L (nth rests sp.length)) t.dst t.cls 15).2=(nxtF x t sp sp.length L (nth rests sp.length)).2:=by rw [hnx,<- f1];rfl
    refine Zd ?_;rw [f1'];have hdl:rests.drop (sp.length+1)= []:=BZ Za;rw [hdl,Xz] at hrun;refine cD ?_ ?_<;>intro h3<;>simp (disch:=omega) only [Sh.out h3,go_sem,seval,↓reduceIte]
    ·rw [if_neg h3] at hrun;rw [hrun];simp only [Wx,zShe];exact ⟨_,_,Weak.mk (by simp (disch:=omega) only [Zj,go_sem,seval]),.list true [],rfl,rfl⟩
    ·have h3':(nxtF x t sp sp.length L (nth rests sp.length)).2=0:=Z4.1 h3;rw [if_pos h3'] at hrun;rw [hnx] at h3';obtain ⟨f3,f4⟩:=f2 h3';have f3':(Jk x t (Q5 t sp sp.length L (nth rests sp.length)) t.dst t.cls 15).1=⟨t.dst,(Wd x t sp sp.length (ZP t L (nth rests sp.length))).1,Ww L (nth rests sp.length)+(Wd x t sp sp.length (ZP t L (nth rests sp.length))).1-ZP t L (nth rests sp.length),L.she.miles+(Wd x t sp sp.length (ZP t L (nth rests sp.length))).2.1⟩:=f3;rw [hrun,hnx,f4];simp (disch:=omega) only [f3',go_sem,seval];refine Zo (Weak.fz (o:=6) (by rfl)) ?_
     refine Zo (Weak.fz (o:=7) (by rfl)) (Zh [] _ _ _ _ (Jl ?_))
     have hmc:m.times_c=false:=by
      grind [X1]
     exact ⟨_,_,Weak.mk (by simp (disch:=omega) only [hmc,go_sem,seval]),.list false (ds.map eI++ [.int .i64 (Ww L (nth rests sp.length)+(Wd x t sp sp.length (ZP t L (nth rests sp.length))).1-ZP t L (nth rests sp.length))]),rfl,rfl⟩
theorem mL (x:Inst) (r:Rte) (rests:List Bool) (c:Bool) (hok:TrpOk x (Z0 x r) (Z9 x r.visits)) (ho:x.orders.length<=1048576) (ht:x.types.length<=1048576) (hne:0<r.visits.length) (hp:V3 x r=true) (hl:rests.length=r.visits.length+1) :
  PT 231 [.p (Zr x),.p (Wg r),.p (.list c (rests.map eB))] [.p (E1 (Xz x (Z0 x r) (Z9 x r.visits) 0 (labF (Z0 x r) r.start) rests).1.she),.p (.int .i64 (Xz x (Z0 x r) (Z9 x r.visits) 0 (labF (Z0 x r) r.start) rests).2)]:=by
 have cr:=rB x r rests c hok ho ht hne hp hl;generalize (Xz x (Z0 x r) (Z9 x r.visits) 0 (labF (Z0 x r) r.start) rests)=q at cr ⊢;obtain ⟨L,e⟩:=q;refine Ze [] Tryz.func231 rfl Zaz ?_;simp (disch:=omega) only [Tryz.f231,go_sem,seval];refine ZjN cr fun d=>Zd ?_;exact we
def DI (l:List Bool) (n:Nat):Option (List Bool):=(Yl (l.drop n)).map (l.take n++ ·)
def O8 : Option (List Bool)->PV
 | some l=> .list false (l.map eB)
 | none=> .list true []
theorem KA : ∀m:Nat,Yl (List.replicate m true)=none
 | 0=>rfl
 | m+1=>by rw [A4,Yl,KA m];rfl
theorem Hr : ∀(a b r:List Bool),Yl b=some r->Yl (a++b)=some (a++r)
 | [],b,r,h=>h
 | x::a,b,r,h=>by rw [ZL,Yl,Hr a b r h];rfl
theorem iY (a:List Bool) (m:Nat):Yl (a++false::List.replicate m true)=some (a++true::List.replicate m false):=by
 grind [Hr,Yl,KA]
theorem NF {o:List Bool} {i:Nat} {b:Bool} :(o.map eB).set i (.bool b)=(o.set i b).map eB:=by rw [Up];rfl
theorem iX (l:List Bool) (c:Bool) (n:Nat) (hn:n<=l.length) (h0:0<l.length) (hl:l.length<=1048576):PT 232 [.p (.list c (l.map eB)),.p (.int .i64 (n:Nat))] [.p (O8 (DI l n)),.p (.bool (DI l n).isSome)]:=by
 refine Ze [8] Tryz.func232 rfl ZaA ?_;simp (disch:=omega) only [Tryz.f232,go_sem,seval];rw [if_pos ⟨Za,Za⟩];refine Zd ?_;refine ZV [8] [1] (fun q:Nat×List Bool=> [(6,.sl 0 0 q.2.length q.2.length),(7,.p (.int .i64 ((q.1:Int)-1)))]) (fun q=> [.elems 1 (q.2.map eB)]) (fun q=>n<=q.1/\q.1<=l.length/\q.2=l.take q.1++List.replicate (l.length-q.1) false/\l.drop q.1=List.replicate (l.length-q.1) true) (fun q=>q.1) (l.length,l) (by simp;omega) (Weak.mk ?_) ?_
 ·simp (disch:=omega) only [go_sem,seval]
 ·rintro ⟨j,o⟩ ⟨hj1,hj2,ho,hjt⟩;simp only at hj1 hj2 ho hjt
  have hol:o.length=l.length:=by grind
  refine Zd ?_;refine cD ?_ ?_<;>intro h<;>simp (disch:=omega) only [Sh.out h,go_sem,seval,↓reduceIte]
  ·obtain ⟨i,rfl⟩: ∃i,j=i+1:=⟨j-1,Za⟩
   have hij:(((i+1:Nat):Int)-1)=(i:Int):=Za
   have hat:nth o i=nth l i:=by
    grind [Zk]
   have MF:l.drop i=nth l i::List.replicate (l.length-(i+1)) true:=by
    grind [VD,Zk]
   have hio:i<o.length:=Za
   simp (disch:=first | omega | (simp only [ZA,ZF,Zz,Zy,Z6,Xt]<;>omega)) only [Int.add_sub_cancel,Ve,hat,hio,go_sem,seval,↓reduceIte];refine cD ?_ ?_<;>intro h2<;>simp (disch:=omega) only [Sh.out h2,go_sem,seval]
   ·have hf:nth l i=false:=by grind
    have hres:DI l n=some (o.set i true):=by
     rw [hf] at MF
     have e:l.drop n=(l.drop n).take (i-n)++false::List.replicate (l.length-(i+1)) true:=by
      rw [<- MF,show l.drop i=(l.drop n).drop (i-n) by simp_all,List.take_append_drop]
     rw [DI,e,iY,ho];simp only [Ac,U0]
     have e2:l.take (i+1)=l.take n++(l.drop n).take (i-n)++ [nth l i]:=by
      rw [Xm Za,Zk Za]
      congr 1
      have:l.take i=l.take (n+(i-n)):=by congr 1;omega
      grind
     rw [e2,hf]
     have el:(l.take n++(l.drop n).take (i-n)).length=i:=by simp;omega
     rw [Vj (l.take n++(l.drop n).take (i-n)),Ej _ _ Za,el];simp
    rw [hres];simp (disch:=first | omega | (simp only [ZA,ZF,Zz,Zy,Z6,Xt]<;>omega)) only [NF,go_sem,seval,↓reduceIte];refine Zo (Weak.fz (o:=0) (by rfl)) ?_;refine Zh [] _ _ _ _ ?_;simp (disch:=omega) only [Zq,Zj,ZY,go_sem,seval];simp only [Vk,if_true];exact we (by simp (disch:=omega) only [O8,JU,go_sem,seval])
   ·have hf:nth l i=true:=by grind
    simp (disch:=first | omega | (simp only [ZA,ZF,Zz,Zy,Z6,Xt]<;>omega)) only [NF,go_sem,seval];refine ⟨(i,o.set i false),⟨Za,Za,?_,?_⟩,Za,Weak.mk (by simp (disch:=first | omega | (simp only [ZA,ZF,Zz,Zy,Z6,Xt]<;>omega)) only [Vk,go_sem,seval])⟩
    ·grind
    grind
  ·have hjn:j=n:=Za
   have hres:DI l n=none:=by grind [DI,KA]
   rw [hres];exact we (by simp (disch:=omega) only [O8,K9,go_sem,seval])
theorem TL {r q:List Bool} :DI (r++q) r.length=(Yl q).map (r++ ·):=by simp [DI]
theorem TW {l:List Bool} :O8 (some l)= .list false (l.map eB):=rfl
theorem TV : O8 none= .list true []:=rfl
def GJ (b:Option Lab):She:=match b with | some L=>L.she | none=>zShe
def GG (r:List Bool) (cur:Option (List Bool)):List (List Bool):=match cur with | some q=>(Y8 q).map (r++ ·) | none=> []
theorem Dn {r s:List Bool} :GG r (some s)=(r++s)::GG r (Yl s):=by
 grind [GG,fromB_next]
theorem Nt {x:Inst} {t:Typ} {sp:List Stp} : ∀(bs:List Bool) (k:Nat) (L:Lab),¬(Xz x t sp k L bs).2=0->(Xz x t sp k L bs).1=Wx
 | [],k,L,h=>by simp [Xz] at h
 | b::bs,k,L,h=>by
  rw [Xz] at h ⊢
  split
  ·rename_i c;rw [if_pos c] at h;exact Nt bs _ _ h
  ·rfl
theorem dK (x:Inst) (r:Rte) (hok:TrpOk x (Z0 x r) (Z9 x r.visits)) (ho:x.orders.length<=1048576) (ht:x.types.length<=1048576) (hne:0<r.visits.length) (hp:V3 x r=true) (hl:r.rests.length<=r.visits.length+1) :
  PT 208 [.p (Zr x),.p (Wg r)] [.p (E1 (Xu x r).1),.p (.int .i64 (Xu x r).2)]:=by
 have hsl:(Z9 x r.visits).length=r.visits.length:=Yp;have hp2:=hp;simp only [V3,Zw,Zs] at hp2;have hv20:=hp2.1.2;have hrun:=fun rests (c:Bool) (h:rests.length=r.visits.length+1)=>mL x r rests c hok ho ht hne hp h;have hopt:=fun bs=>V5 (x:=x) (t:=Z0 x r) (sp:=Z9 x r.visits) bs 0 (labF (Z0 x r) r.start);unfold Xu UW
 generalize hS:Z9 x r.visits=sp at *
 generalize Z0 x r=t at *
 generalize labF t r.start=L0 at *
 refine Ze [5,6] Tryz.func208 rfl gU ?_;simp (disch:=omega) only [Tryz.f208,go_sem,seval];refine (FH x r ho ht Za).use (Zd ?_);rw [hp];refine Zd ?_;refine cD ?_ ?_<;>intro h0<;>simp (disch:=omega) only [Sh.out h0,go_sem,seval,↓reduceIte]
 ·omega
 ·refine YP (D6 3 rfl rfl (Zd ?_));refine ⟨_,_,M9 (e:=4) rfl Tryz.underlying31 Zg rfl rfl rfl ?_ ?_ ?_,?_⟩
  ·simp
  ·simp;omega
  ·intro q hq;obtain ⟨b,_,rfl⟩:=XO.1 hq
   rfl
  ·have hpl:(We r.rests (sp.length+1)).length=r.visits.length+1:=by simp [We];omega
   have hpad:r.rests.map eB++(PV.bool false::List.replicate r.visits.length (PV.bool false)).drop (r.rests.map eB).length=(We r.rests (sp.length+1)).map eB:=by
    rw [We,Xn,<- A4,List.drop_replicate,B4,hsl,Zy];rfl
   simp only [ZK,ZY];rw [hpad];have h0r:=hopt (We r.rests (sp.length+1))
   have cn: ∀s:List Bool,(r.rests++s).length=r.visits.length+1->PT 232 [.p (.list false ((r.rests++s).map eB)),.p (.int .i64 (r.rests.length:Nat))] [.p (O8 ((Yl s).map (r.rests++ ·))),.p (.bool ((Yl s).map (r.rests++ ·)).isSome)]:=fun s hs=>by
    grind [iX,TL]
   have e1:(Xz x t sp 0 L0 (We r.rests (sp.length+1))).1.she=GJ (Vu (XQ x t sp) 0 L0 (We r.rests (sp.length+1))):=by
    rw [h0r]
    split
    ·rfl
    ·rename_i c;rw [Nt _ _ _ c];rfl
   have e2:decide ((Xz x t sp 0 L0 (We r.rests (sp.length+1))).2=0)=(Vu (XQ x t sp) 0 L0 (We r.rests (sp.length+1))).isSome:=by
    grind
   have hrp:=hrun (We r.rests (sp.length+1)) false hpl;have hall:Y4 r.rests (sp.length+1)=GG r.rests (some (List.replicate (sp.length+1-r.rests.length) false)):=rfl;refine Zo (Weak.fz (o:=3) (by rfl)) (Zh [] _ _ _ _ (Jl ?_));rw [if_pos hpl];refine X8 hrp (Zd ?_);refine X8 (cn (List.replicate (sp.length+1-r.rests.length) false) hpl) ?_;simp (disch:=omega) only [e1,e2,go_sem,seval]
   have hfm:Vw Wi none ((Y4 r.rests (sp.length+1)).filterMap (Vu (XQ x t sp) 0 L0))=Vw Wi (Vu (XQ x t sp) 0 L0 (We r.rests (sp.length+1))) ((GG r.rests (Yl (List.replicate (sp.length+1-r.rests.length) false))).filterMap (Vu (XQ x t sp) 0 L0)):=by
    rw [hall,Dn,List.filterMap_cons];rw [show r.rests++List.replicate (sp.length+1-r.rests.length) false=We r.rests (sp.length+1) from rfl]
    cases Vu (XQ x t sp) 0 L0 (We r.rests (sp.length+1)) with
    | none=>rfl
    | some L=>rfl
   clear hall;generalize Vw Wi none ((Y4 r.rests (sp.length+1)).filterMap (Vu (XQ x t sp) 0 L0))=res at hfm ⊢;generalize (Xz x t sp 0 L0 (We r.rests (sp.length+1))).2=err0
   refine Zl [2,3,4,8,9] (fun q:Option (List Bool)×Option Lab=> [(7,.p (O8 (q.1.map (r.rests++ ·)))),(10,.p (.bool q.2.isSome)),(11,.p (.bool (q.1.map (r.rests++ ·)).isSome))])
    (fun q=> [Zf x,Xo r,.cells [.p (.bool false),.p (.int .i64 0),.p (.list true []),.p (.int .i64 0),.p (.int .i64 0)],.dead,.cells [.p (.bool (GJ q.2).rest),.p (.int .i64 (GJ q.2).dep),.p (.list (GJ q.2).times_c ((GJ q.2).times.map eTim)),.p (.int .i64 (GJ q.2).fin),.p (.int .i64 (GJ q.2).miles)]])
    (fun q=>res=Vw Wi q.2 ((GG r.rests q.1).filterMap (Vu (XQ x t sp) 0 L0))/\ ∀s,q.1=some s->s.length=sp.length+1-r.rests.length) (fun q=>(GG r.rests q.1).length)
    (Yl (List.replicate (sp.length+1-r.rests.length) false),Vu (XQ x t sp) 0 L0 (We r.rests (sp.length+1))) ⟨hfm,fun s hs=>by have:=fromB_next.nlen _ _ hs;grind⟩ (Weak.mk ?_) ?_
   ·simp (disch:=omega) only [Zf,Xo,go_sem,seval]
   ·rintro ⟨cur,b⟩ ⟨hR,hcl⟩;simp only at hR hcl
    cases cur with
    | none =>
     simp only [GG,List.filterMap_nil] at hR;simp (disch:=omega) only [Option.map_none,K9,TV,Zf,Xo,go_sem,seval]
     cases b with
     | none =>
      rw [Vw] at hR;subst hR;simp (disch:=omega) only [K9,WE,go_sem,seval];exact we (by simp (disch:=omega) only [zShe,Zj,go_sem,seval])
     | some m =>
      rw [Vw] at hR;subst hR;simp (disch:=omega) only [JU,Yu,GJ,go_sem,seval];exact we
    | some s =>
     have hsl2:=hcl s rfl;rw [Dn,List.filterMap_cons,hopt] at hR
     have hmu:(GG r.rests (Yl s)).length<(GG r.rests (some s)).length:=by rw [Dn];simp
     have hnl: ∀s',Yl s=some s'->s'.length=sp.length+1-r.rests.length:=fun s' hs'=>by grind [fromB_next.nlen]
     have hlen:(r.rests++s).length=r.visits.length+1:=by simp;omega
     have hr1:=hrun (r.rests++s) false hlen;have cn1:=cn s hlen;rw [Xn] at hr1 cn1;simp (disch:=omega) only [Ac,JU,TW,Zf,Xo,go_sem,seval];generalize Xz x t sp 0 L0 (r.rests++s)=g at hR hr1;obtain ⟨Lg,eg⟩:=g;simp only at hR hr1;refine X8 hr1 (Zd ?_);refine gT ?_ ?_<;>intro h1<;>simp (disch:=omega) only [Sh.out h1,go_sem,seval,↓reduceIte]
     ·subst h1
      cases b with
      | none =>
       simp (disch:=omega) only [K9,WE,go_sem,seval];refine X8 cn1 (Zd ?_);exact ⟨(Yl s,some Lg),⟨hR,hnl⟩,hmu,Weak.mk (by simp (disch:=omega) only [GJ,JU,go_sem,seval])⟩
      | some m =>
       simp (disch:=omega) only [JU,Yu,GJ,go_sem,seval];refine cD ?_ ?_<;>intro h2<;>simp (disch:=omega) only [Sh.out h2,go_sem,seval,↓reduceIte]
       ·refine X8 cn1 ?_;refine Zd ?_;exact ⟨(Yl s,some Lg),⟨by rw [hR];simp only [if_true,Vw,Wi,h2],hnl⟩,hmu,Weak.mk (by simp (disch:=omega) only [JU,go_sem,seval])⟩
       ·refine X8 cn1 ?_;refine Zd ?_;exact ⟨(Yl s,some m),⟨by rw [hR];simp only [if_true,Vw,Wi,h2,Yj],hnl⟩,hmu,Weak.mk (by simp (disch:=omega) only [JU,go_sem,seval])⟩
     ·rw [if_neg h1] at hR;refine X8 cn1 (Zd ?_);exact ⟨(Yl s,b),⟨hR,hnl⟩,hmu,wk⟩
def eR (p:Bool×List Int):PV:= .list p.1 (p.2.map eI)
@[go_sem] theorem ZoH (p:Bool×List Int):eR p= .list p.1 (p.2.map eI):=Zm rfl rfl
theorem fC (L:List (Bool×List Int)) (c:Bool) (d:Nat) (hd:d<=3) (hL:L.length<=1048576) (h: ∀p∈L,p.2.length=d):PC 288 [.p (.list c (L.map eR)),.p (.int .i64 (d:Nat))] (.bool true):=by
 refine Zc Tryz.func288 rfl Zbt ?_
 have e1: ¬(d:Int)<0:=Za
 have e2: ¬(3:Int)<d:=Za
 simp (disch:=omega) only [Tryz.f288,e1,e2,go_sem,seval];refine Zl [0,1] (fun k:Nat=> [(5,.p (.int .i64 k))]) (fun _=> []) (fun k=>k<=L.length) (fun k=>L.length-k) 0 Zb (Weak.mk ?_) ?_
 ·simp (disch:=omega) only [go_sem,seval,↓reduceIte]
 ·intro k hk;refine Zd ?_;refine cD ?_ ?_<;>intro h1<;>simp (disch:=omega) only [Sh.out h1,go_sem,seval,↓reduceIte]
  ·have hk2:k<L.length:=Za
   have hp:=h _ (Zu hk2);simp (disch:=omega) only [hp,go_sem,seval];exact ⟨k+1,Za,Za,wk⟩
def DS (L:List (Bool×List Int)) (k j:Nat):Int:=((L.take k).map fun p=>nth p.2 j).sum
theorem GX {L:List (Bool×List Int)} {k j:Nat} (h:k<L.length):DS L (k+1) j=DS L k j+nth (nth L k).2 j:=by
 grind [DS,Xm,Zk]
theorem Me {L:List (Bool×List Int)} {d j:Nat} (h: ∀p∈L,p.2.length=d/\ ∀n∈p.2,0<=n/\n<=1000) (hj:j<d): ∀k,k<=L.length->0<=DS L k j/\DS L k j<=1000*(k:Int)
 | 0,_=>by simp [DS]
 | k+1,hk=>by
  have ih:=Me h hj k Za;obtain ⟨h1,h2⟩:=h _ (Zu (show k<L.length by omega));have:=h2 _ (Zu (show j<(nth L k).2.length by omega))
  grind [GX]
def rS (L:List (Bool×List Int)) (d:Nat):List Int:=(List.range d).map fun j=>DS L L.length j
theorem rR (L:List (Bool×List Int)) (c:Bool) (d:Nat) (hd:1<=d/\d<=3) (hL:L.length<=1048576) (h: ∀p∈L,p.2.length=d/\ ∀n∈p.2,0<=n/\n<=1000) :
  PT 275 [.p (.list c (L.map eR)),.p (.int .i64 (d:Nat))] [.p (.list false ((rS L d).map eI)),.p (.int .i64 0)]:=by
 refine Ze [13] Tryz.func275 rfl Zbg ?_;simp (disch:=omega) only [Tryz.f275,go_sem,seval];refine (fC L c d hd.2 hL fun p hp=>(h p hp).1).use (Zd ?_);refine ZV [13] [0,1] (fun q:Nat×List Int=> [(6,.sl 0 0 q.2.length q.2.length),(7,.p (.int .i64 q.1))]) (fun q=> [.elems 1 (q.2.map eI)]) (fun q=>q.1<=d/\q.2=(List.range q.1).map fun j=>DS L L.length j) (fun q=>d-q.1) (0,[]) Zb (Weak.ofNil 6 1 rfl Zb (Weak.mk ?_)) ?_
 ·simp (disch:=omega) only [Zj,ZF,go_sem,seval,↓reduceIte]
 ·rintro ⟨j,o⟩ ⟨hj,ho⟩;simp only at hj ho
  have hol:o.length=j:=by rw [ho];simp
  refine Zd ?_;refine cD ?_ ?_<;>intro h1<;>simp (disch:=omega) only [Sh.out h1,go_sem,seval,↓reduceIte]
  ·have hj2:j<d:=Za
   refine Zl [0,1,6,7] (fun k:Nat=> [(8,.p (.int .i64 (DS L k j))),(9,.p (.int .i64 k))]) (fun _=> [.elems 1 (o.map eI)]) (fun k=>k<=L.length) (fun k=>L.length-k) 0 Zb (Weak.mk ?_) ?_
   ·simp (disch:=omega) only [DS,QS,Zj,List.sum_nil,go_sem,seval,↓reduceIte]
   ·intro k hk;refine Zd ?_;refine cD ?_ ?_<;>intro h2<;>simp (disch:=omega) only [Sh.out h2,go_sem,seval,↓reduceIte]
    ·have hk2:k<L.length:=Za
     obtain ⟨g1,g2⟩:=h _ (Zu hk2);have g3:=g2 _ (Zu (show j<(nth L k).2.length by omega));have g4:=Me h hj2 k hk;have g5:=GX (j:=j) hk2
     have g6:j<(nth L k).2.length:=Za
     refine Zd ?_;exact ⟨k+1,Za,Za,Weak.mk (by simp (disch:=omega) only [g5,go_sem,seval])⟩
    ·have hkl:k=L.length:=Za
     subst hkl;refine ⟨(j+1,o++ [DS L L.length j]),⟨Za,by grind [X4]⟩,Za,Weak.mk (by simp (disch:=omega) only [Zz,ZA,ZF,Xn,Zq,Zj,go_sem,seval])⟩
  ·have hjd:j=d:=Za
   subst hjd;refine Zo (Weak.fz (o:=0) (by rfl)) ?_;refine Zh [] _ _ _ _ ?_;simp (disch:=omega) only [Zq,Zj,ZY,go_sem,seval];rw [rS,<- ho];exact we
theorem fK (a b:List Int) (c d:Bool) (ha:a.length<=1048576) (hb:b.length<=1048576):PC 229 [.p (.list c (a.map eI)),.p (.list d (b.map eI))] (.bool (Qm a b)):=by
 refine Zc Tryz.func229 rfl Zax ?_;simp (disch:=omega) only [Tryz.f229,go_sem,seval];refine cD ?_ ?_<;>intro h1<;>simp (disch:=omega) only [Sh.out h1,go_sem,seval]
 ·grind [Qm]
 ·have h1':a.length=b.length:=Za
  refine Zl [0,1] (fun k:Nat=> [(5,.p (.int .i64 k))]) (fun _=> []) (fun k=>k<=a.length/\ ∀j,j<k->nth a j<=nth b j) (fun k=>a.length-k) 0 Zb (Weak.mk ?_) ?_
  ·simp (disch:=omega) only [go_sem,seval,↓reduceIte]
  ·rintro k ⟨hk,hno⟩;refine Zd ?_;refine cD ?_ ?_<;>intro h2<;>simp (disch:=omega) only [Sh.out h2,go_sem,seval,↓reduceIte]
   ·have hk2:k<a.length:=Za
    refine Xd (Zd ?_);refine cD ?_ ?_<;>intro h3<;>simp (disch:=omega) only [Sh.out h3,go_sem,seval,↓reduceIte]
    ·grind [Qm]
    ·exact ⟨k+1,⟨Za,Zp.2 ⟨hno,Za⟩⟩,Za,wk⟩
   ·have hkl:k=a.length:=Za
    simp_all [Qm]
theorem eW (x:Inst) (ht:x.types.length<=1048576):PC 276 [.p (Zr x)] (.int .i64 (dimsOf x.types)):=by
 refine Zc Tryz.func276 rfl Zbh ?_;simp (disch:=omega) only [Tryz.f276,go_sem,seval];refine cD ?_ ?_<;>intro h1<;>simp (disch:=omega) only [Sh.out h1,go_sem,seval,↓reduceIte]
 ·grind [dimsOf]
 simp_all [dimsOf]
structure LdOk (x:Inst):Prop where
 ord:x.orders.length<=10
 typ:x.types.length<=1048576
 dim:1<=dimsOf x.types/\dimsOf x.types<=3
 load: ∀o∈x.orders,(o.load.length:Int)=dimsOf x.types/\ ∀n∈o.load,0<=n/\n<=1000
theorem Qo {x:Inst} (h:InstOk x):LdOk x:=by
 have ht:=h.types.1;simp only [rng,Zs] at ht;have ho:=h.orders
 have h0:0<x.types.length:=Za
 have hcap:=h.types.2 0 h0;unfold Jo at hcap;obtain ⟨⟨⟨⟨⟨⟨⟨⟨_,_⟩,_⟩,_⟩,hcap⟩,_⟩,_⟩,_⟩,_⟩:=hcap;simp only [Vd,Zw,Zs,rng] at hcap;refine ⟨ho.1,Za,Za,fun o hm=> ?_⟩;obtain ⟨i,hi,rfl⟩:=ZN.1 hm;have:=(ho.2 i hi).load;rw [Zk hi] at this
 simp_all [loadOk,rng]
def Gs (x:Inst) (l:List Vis) (n k:Nat):List (Bool×List Int):=((List.range k).filter fun i=>GD x l n i&&hasO l i).map fun i=>((nth x.orders i).load_c,(nth x.orders i).load)
theorem SY {x:Inst} {l:List Vis} {n k:Nat} :Gs x l n (k+1)=Gs x l n k++if (GD x l n k&&hasO l k)=true then [((nth x.orders k).load_c,(nth x.orders k).load)] else []:=by
 grind [Gs,X4]
theorem dN {x:Inst} {l:List Vis} {n:Nat} : ∀k,(Gs x l n k).length<=k:=fun k=>by
 grind [Gs]
theorem nX {x:Inst} {l:List Vis} {n k:Nat} (h:LdOk x) (hk:k<=x.orders.length): ∀p∈Gs x l n k,p.2.length=(dimsOf x.types).toNat/\ ∀m∈p.2,0<=m/\m<=1000:=fun p hp=>by
 obtain ⟨i,hi,rfl⟩:=XO.1 hp;have hi2:=ZR.1 (JV.1 hi).1;have:=h.load _ (Zu (show i<x.orders.length by omega))
 grind
theorem dO {x:Inst} {l:List Vis} {n:Nat} :rS (Gs x l n x.orders.length) (dimsOf x.types).toNat=Wf x l n:=by
 unfold rS Wf
 grind [DS,Gs,D0,J4]
def tX (x:Inst) (l:List Vis) (n i k:Nat):Bool:=(l.take (min k n)).foldl (fun on v=>if v.order=(i:Int) then !v.drp else on) (decide ((nth x.orders i).pick.place<0))
def OT (l:List Vis) (i k:Nat):Bool:=(l.take k).any fun v=>decide (v.order=(i:Int))
theorem jD {x:Inst} {l:List Vis} {n i k:Nat} (h:k<l.length):tX x l n i (k+1)=if (nth l k).order=(i:Int) then (if k<n then !(nth l k).drp else tX x l n i k) else tX x l n i k:=by
 grind [tX,Xm,Zk]
theorem To {l:List Vis} {i k:Nat} (h:k<l.length):OT l i (k+1)=if (nth l k).order=(i:Int) then true else OT l i k:=by
 grind [OT,Xm,Zk]
theorem pW {x:Inst} {l:List Vis} {n i:Nat} (h:n<=l.length):tX x l n i l.length=GD x l n i:=by
 grind [tX,GD]
theorem gC {l:List Vis} {i:Nat} :OT l i l.length=hasO l i:=by grind [OT,hasO]
theorem SC (x:Inst) (l:List Vis) (c:Bool) (n:Nat) (hx:LdOk x) (hl:l.length<=1048576) (hn:n<=l.length) :
  PT 255 [.p (Zr x),.p (.list c (l.map Z3)),.p (.int .i64 (n:Nat))] [.p (.list false ((Wf x l n).map eI)),.p (.int .i64 0)]:=by
 have ho:=hx.ord;refine Ze [15] Tryz.func255 rfl ZaW ?_;simp (disch:=omega) only [Tryz.f255,go_sem,seval];refine ZV [15] [1,2,3] (fun q:Nat×List (Bool×List Int)=> [(8,.sl 1 0 q.2.length q.2.length),(9,.p (.int .i64 q.1))]) (fun q=> [Zf x,.elems 1 (q.2.map eR)]) (fun q=>q.1<=x.orders.length/\q.2=Gs x l n q.1) (fun q=>x.orders.length-q.1) (0,[]) (by simp [Gs]) (Weak.ofNil 8 1 rfl Zb (Weak.mk ?_)) ?_
 ·simp (disch:=omega) only [Zf,Zj,ZF,ZL,ZD,go_sem,seval]
 ·rintro ⟨i,o⟩ ⟨hi,hob⟩;simp only at hi hob
  have hol:o.length<=i:=by grind [dN]
  refine YD ?_;refine cD ?_ ?_<;>intro h1<;>simp (disch:=omega) only [Sh.out h1,go_sem,seval,↓reduceIte]
  ·have hi2:i<x.orders.length:=Za
   refine Zl [1,2,3,8,9] (fun k:Nat=> [(10,.p (.bool (tX x l n i k))),(11,.p (.bool (OT l i k))),(12,.p (.int .i64 k))]) (fun _=> [Zf x,.elems 1 (o.map eR)]) (fun k=>k<=l.length) (fun k=>l.length-k) 0 Zb (Weak.mk ?_) ?_
   ·simp (disch:=omega) only [Zf,tX,OT,Nat.zero_min,QS,Um,List.any_nil,go_sem,seval]
   ·intro k hk;refine YD ?_;refine cD ?_ ?_<;>intro h2<;>simp (disch:=omega) only [Sh.out h2,go_sem,seval,↓reduceIte]
    ·have hk2:k<l.length:=Za
     have s1:=jD (x:=x) (n:=n) (i:=i) hk2;have s2:=To (i:=i) hk2;refine ZU ?_ ?_<;>intro h3
     ·rw [if_neg h3] at s1 s2;exact ⟨k+1,Za,Za,Weak.mk (by simp (disch:=omega) only [s1,s2,go_sem,seval])⟩
     ·have h3':=Z4.1 h3;rw [if_pos h3'] at s1 s2;refine ZU ?_ ?_<;>intro h4
      ·rw [if_pos Za] at s1;exact ⟨k+1,Za,Za,Weak.mk (by simp (disch:=omega) only [s1,s2,go_sem,seval])⟩
      ·rw [if_neg Za] at s1;exact ⟨k+1,Za,Za,Weak.mk (by simp (disch:=omega) only [s1,s2,go_sem,seval])⟩
    ·have hkl:k=l.length:=Za
     subst hkl;have s3:=SY (x:=x) (l:=l) (n:=n) (k:=i);rw [pW hn,gC];refine Q3 ?_ ?_<;>intro h5
     ·refine ZU ?_ ?_<;>intro h6
      ·rw [h5,h6,Bool.and_self,if_pos rfl] at s3;exact ⟨(i+1,o++ [((nth x.orders i).load_c,(nth x.orders i).load)]),⟨Za,by grind⟩,Za,Weak.mk (by simp (disch:=omega) only [Zz,ZA,ZF,Xn,Zq,Zj,go_sem,seval])⟩
      ·rw [h5,h6,Bool.and_false,if_neg Zb,Yt] at s3;exact ⟨(i+1,o),⟨Za,by grind⟩,Za,wk⟩
     ·have h5':GD x l n i=false:=Za
      rw [h5',Qp,if_neg Zb,Yt] at s3;exact ⟨(i+1,o),⟨Za,by grind⟩,Za,wk⟩
  ·have hik:i=x.orders.length:=Za
   subst hik
   have hD:dimsOf x.types=((dimsOf x.types).toNat:Int):=by have:=hx.dim;omega
   have hok:=nX (l:=l) (n:=n) hx (ZI _);rw [<- hob] at hok;have hs:=dO (x:=x) (l:=l) (n:=n);rw [<- hob] at hs;refine Zo (Weak.fz (o:=1) (by rfl)) (Zh [] _ _ _ _ (Jl ?_));refine (eW x hx.typ).use (Zd ?_);rw [hD];refine X8 (rR o false (dimsOf x.types).toNat (by have:=hx.dim;omega) Za hok) (Zd ?_);rw [<- hs];exact we
def mE (l:List Int):PV:= .list false (l.map eI)
@[go_sem] theorem wW (l:List Int):mE l= .list false (l.map eI):=Zm rfl rfl
def Qs (x:Inst) (l:List Vis):List (List Int):=(List.range (l.length+1)).map (Wf x l)
theorem TF (x:Inst) (r:Rte) (hx:InstOk x) (hl:r.visits.length<=1048576) (h0:Xr x r.visits=0) (hchk:PC 205 [.p (Zr x),.p (Wg r)] (.int .i64 (Xr x r.visits))) :
  PT 228 [.p (Zr x),.p (Wg r)] [.p (.list false ((Qs x r.visits).map mE)),.p (.int .i64 0)]:=by
 have hd:=Qo hx;refine Ze [12] Tryz.func228 rfl Zaw ?_;simp (disch:=omega) only [Tryz.f228,go_sem,seval];refine (hchk).use (Zd ?_);simp (disch:=omega) only [h0,go_sem,seval];refine ZV [12] [2,3] (fun q:Nat×List (List Int)=> [(7,.sl 2 0 q.2.length q.2.length),(8,.p (.int .i64 q.1))]) (fun q=> [Zf x,Xo r,.elems 1 (q.2.map mE)]) (fun q=>q.1<=r.visits.length+1/\q.2=(List.range q.1).map (Wf x r.visits)) (fun q=>r.visits.length+1-q.1) (0,[]) Zb (Weak.ofNil 7 1 rfl Zb (Weak.mk ?_)) ?_
 ·simp (disch:=omega) only [Zf,Xo,Zj,ZF,ZL,ZD,go_sem,seval]
 ·rintro ⟨k,o⟩ ⟨hk,ho⟩;simp only at hk ho
  have hol:o.length=k:=by rw [ho];simp
  refine KQ ?_;refine cD ?_ ?_<;>intro h1<;>simp (disch:=omega) only [Sh.out h1,go_sem,seval,↓reduceIte]
  ·refine X8 (SC x r.visits r.visits_c k hd hl Za) (Zd ?_);exact ⟨(k+1,o++ [Wf x r.visits k]),⟨Za,by grind [X4]⟩,Za,Weak.mk (by simp (disch:=omega) only [Zz,ZA,ZF,Xn,Zq,Zj,go_sem,seval])⟩
  ·have hkl:k=r.visits.length+1:=Za
   subst hkl;refine Zo (Weak.fz (o:=2) (by rfl)) (Zh [] _ _ _ _ (Jl ?_));rw [Qs,<- ho];exact we
theorem fL (x:Inst) (r:Rte) (hx:InstOk x) (hl:r.visits.length<=1048576) (hty:0<=r.typ/\r.typ<(x.types.length:Int)) (h0:Xr x r.visits=0) (hchk:PC 205 [.p (Zr x),.p (Wg r)] (.int .i64 (Xr x r.visits))) :
  PC 207 [.p (Zr x),.p (Wg r)] (.int .i64 (if Qr x (Z0 x r).cap r.visits=true then 0 else 17)):=by
 have hd:=Qo hx;have htl:=hd.typ
 have hti:r.typ.toNat<x.types.length:=Za
 have hcp:(nth x.types r.typ.toNat).cap.length<=3:=by
  have hcap:=hx.types.2 _ hti;unfold Jo at hcap;obtain ⟨⟨⟨⟨⟨⟨⟨⟨_,_⟩,_⟩,_⟩,hcap⟩,_⟩,_⟩,_⟩,_⟩:=hcap;simp only [Vd,Zw,Zs,rng] at hcap;omega
 have hll:(Qs x r.visits).length=r.visits.length+1:=by simp [Qs]
 have hln: ∀k,k<r.visits.length+1->nth (Qs x r.visits) k=Wf x r.visits k:=fun k hk=>by
  grind [Zk,Qs]
 have hal: ∀k,(Wf x r.visits k).length<=3:=fun k=>by rw [EG];have:=hd.dim;omega
 have cl:=TF x r hx hl h0 hchk;unfold Z0
 generalize hL:Qs x r.visits=L at *
 refine Zc Tryz.func207 rfl Zad ?_
 have e1: ¬r.typ<0:=Za
 have e2: ¬(x.types.length:Int)<=r.typ:=Za
 simp (disch:=omega) only [Tryz.f207,e1,e2,go_sem,seval];refine X8 cl (Zd ?_);refine Zl [2,3,5] (fun k:Nat=> [(7,.p (.int .i64 k))]) (fun _=> [Zf x,Xo r]) (fun k=>k<=r.visits.length+1/\ ∀j,j<k->Qm (Wf x r.visits j) (nth x.types r.typ.toNat).cap=true) (fun k=>r.visits.length+1-k) 0 Zb (Weak.mk ?_) ?_
 ·simp (disch:=omega) only [Zf,Xo,go_sem,seval]
 ·rintro k ⟨hk,hno⟩;simp (disch:=omega) only [Zf,Xo,hll,go_sem,seval];refine cD ?_ ?_<;>intro h1<;>simp (disch:=omega) only [Sh.out h1,go_sem,seval,↓reduceIte]
  ·have hk2:k<r.visits.length+1:=Za
   have hk3:k<L.length:=Za
   have hk4:=hal k;refine Xd ?_;simp (disch:=omega) only [hln k hk2,go_sem,seval];refine Zn (fK (Wf x r.visits k) (nth x.types r.typ.toNat).cap false (nth x.types r.typ.toNat).cap_c Za Za) (Zd ?_);refine ZU ?_ ?_<;>intro h2
   ·have h2':Qm (Wf x r.visits k) (nth x.types r.typ.toNat).cap=false:=by grind
    have: ¬Qr x (nth x.types r.typ.toNat).cap r.visits=true:=fun h=>by
     grind [Qr]
    grind
   ·exact ⟨k+1,⟨Za,Zp.2 ⟨hno,by grind⟩⟩,Za,wk⟩
  ·have:Qr x (nth x.types r.typ.toNat).cap r.visits=true:=by
    grind [Qr]
   grind
def L8 (j:Nat):Int:=if j=63 then-9223372036854775808 else ((pw j:Nat):Int)
theorem P8 {j:Nat} (h:j<63):L8 j=((pw j:Nat):Int):=by rw [L8,if_neg Za]
theorem Zb4 {j:Nat} (h:j<=62):pw j<=4611686018427387904:=by have:=Kc h;rwa [FJ] at this
theorem L9 {j:Nat} (h:j<=63):0<L8 j↔j<63:=by
 grind [L8,FK]
theorem uJ {S q:Nat} (hS:S<9223372036854775808) (h:q<=S):IntKind.i64.wrap (q:Int)=(q:Int):=by rw [IntKind.wrap_i64];omega
theorem Zb6 {P:Program} {t:TypeId} {S j:Nat} (hS:S<9223372036854775808):Yb P .quo t (.p (.int .i64 (S:Int))) (.p (.int .i64 ((pw j:Nat):Int)))=some (.int .i64 ((S / pw j:Nat):Int)):=by
 have hp:=FK j;rw [cF Za]
 have e:(S:Int).tdiv ((pw j:Nat):Int)=((S / pw j:Nat):Int):=by
  rfl
 have hle:=Nat.div_le_self S (pw j);rw [e,uJ hS hle]
theorem qX {P:Program} {t:TypeId} {S:Nat} :Yb P .rem t (.p (.int .i64 (S:Int))) (.p (.int .i64 2))=some (.int .i64 ((S%2:Nat):Int)):=by
 rfl
theorem ZiT {S j:Nat} (hS:S<9223372036854775808):(IntKind.i64.wrap ((S:Int) / ((pw j:Nat):Int))).tmod 2=((S / pw j%2:Nat):Int):=by
 have hle:=Nat.div_le_self S (pw j)
 grind [uJ]
theorem iU {P:Program} {t:TypeId} {j:Nat} (h:j<63):Yb P .mul t (.p (.int .i64 ((pw j:Nat):Int))) (.p (.int .i64 2))=some (.int .i64 (L8 (j+1))):=by
 grind [cC,L8,Zb4,pw,IntKind.wrap_i64]
theorem cI (t:Typ) (s:Int) (h1:t.skills<9223372036854775808) (h2:s<9223372036854775808):PC 206 [.p (XU t),.p (.int .i64 s)] (.bool (WI t s)):=by
 refine Zc Tryz.func206 rfl Zac ?_;simp (disch:=omega) only [Tryz.f206,go_sem,seval];refine gF ?_ ?_<;>intro c1<;>simp (disch:=omega) only [Sh.out c1,go_sem,seval,↓reduceIte]
 ·grind [WI]
 ·refine cD ?_ ?_<;>intro c2<;>simp (disch:=omega) only [Sh.out c2,go_sem,seval]
  ·grind [WI]
  ·obtain ⟨M,hM⟩: ∃M:Nat,t.skills=(M:Int):=⟨t.skills.toNat,Za⟩;obtain ⟨S,rfl⟩: ∃S:Nat,s=(S:Int):=⟨s.toNat,Za⟩
   have hMl:M<9223372036854775808:=Za
   have hSl:S<9223372036854775808:=Za
   have hab: ∀b:Bool,((List.range 63).all fun i=> !S.testBit i||M.testBit i)=b->WI t (S:Int)=b:=fun b hb=>by
    simp_all [WI]
   refine Zl [1,2] (fun j:Nat=> [(5,.p (.int .i64 (L8 j)))]) (fun _=> [X5 t]) (fun j=>j<=63/\ ∀i,i<j->(!S.testBit i||M.testBit i)=true) (fun j=>63-j) 0 Zb (Weak.mk ?_) ?_
   ·simp (disch:=omega) only [X5,hM,show L8 0=1 from rfl,go_sem,seval]
   ·rintro j ⟨hj,hno⟩;simp (disch:=omega) only [X5,hM,go_sem,seval];refine cD ?_ ?_<;>intro c3<;>simp (disch:=omega) only [Sh.out c3,go_sem,seval,↓reduceIte]
    ·have hj2:j<63:=(L9 hj).1 c3;simp (disch:=omega) only [P8 hj2,ZiT hSl,Im,go_sem,seval];refine gT ?_ ?_<;>intro c4<;>simp (disch:=omega) only [Sh.out c4,P8 hj2,Zb6 hMl,ZiT hSl,qX,iU hj2,Im,Il,go_sem,seval]
     ·refine cD ?_ ?_<;>intro c5<;>simp (disch:=omega) only [Sh.out c5,iU hj2,go_sem,seval]
      ·grind
      ·exact ⟨j+1,⟨Za,Zp.2 ⟨hno,by grind⟩⟩,Za,Weak.mk (by simp (disch:=omega) only [hM,go_sem,seval])⟩
     ·exact ⟨j+1,⟨Za,Zp.2 ⟨hno,by grind⟩⟩,Za,Weak.mk (by simp (disch:=omega) only [hM,go_sem,seval])⟩
    ·have hj63:j=63:=by
      rcases Wm j 63 with h | h
      ·simp_all [L9]
      ·omega
     simp_all
theorem Ov (l:List Vis) (c:Bool) (n:Nat) (hn:n<l.length) (hl:l.length<=1048576):PC 233 [.p (.list c (l.map Z3)),.p (.int .i64 (n:Nat))] (.bool (Ue l n)):=by
 refine Zc Tryz.func233 rfl ZaB ?_;simp (disch:=omega) only [Tryz.f233,go_sem,seval];refine Zl [0,1] (fun k:Nat=> [(5,.p (.int .i64 k))]) (fun _=> []) (fun k=>k<=n/\ ∀j,j<k->(nth l j).order≠(nth l n).order) (fun k=>n-k) 0 Zb (Weak.mk ?_) ?_
 ·simp (disch:=omega) only [go_sem,seval,↓reduceIte]
 ·rintro k ⟨hk,hno⟩;refine Zd ?_;refine cD ?_ ?_<;>intro h1<;>simp (disch:=omega) only [Sh.out h1,go_sem,seval,↓reduceIte]
  ·have hk2:k<n:=Za
   have hk3:k<l.length:=Za
   refine Xd (Zd ?_);refine cD ?_ ?_<;>intro h2<;>simp (disch:=omega) only [Sh.out h2,go_sem,seval,↓reduceIte]
   ·grind [Ue,Fq]
   ·exact ⟨k+1,⟨Za,Zp.2 ⟨hno,h2⟩⟩,Za,wk⟩
  ·have hkn:k=n:=Za
   subst hkn
   have:Ue l k=true:=by
    unfold Ue;rw [XN,WD];intro v hv;obtain ⟨j,j1,j2,rfl⟩:=Jn hv
    grind
   rw [this]
def CC (c m o w:Int):AM.Obj:= .cells [.p (.int .i64 c),.p (.int .i64 m),.p (.int .i64 o),.p (.int .i64 w)]
theorem BB {x:Inst} {l:List Vis} {t:Int} : ∀n:Nat,(0<=(chgF x l t n).1/\(chgF x l t n).1<=n)/\(0<=(chgF x l t n).2/\(chgF x l t n).2<=n)
 | 0=>by simp [chgF]
 | n+1=>by
  have ih:=BB (x:=x) (l:=l) (t:=t) n
  grind [chgF]
theorem aJ (x:Inst) (r:Rte) (s:She) (hty:0<=r.typ/\r.typ<(x.types.length:Int)) (ho:x.orders.length<=1048576) (ht:x.types.length<=1048576) (hl:r.visits.length<=1048576) (hv:Inr x r.visits)
  (hc:0<=(Z0 x r).fixed/\(Z0 x r).fixed<=100000/\0<=(Z0 x r).perMile/\(Z0 x r).perMile<=100/\0<=(Z0 x r).perTick/\(Z0 x r).perTick<=100) (ho2:0<=(Z0 x r).opn/\(Z0 x r).opn<=4096)
  (hf: -4096<=s.fin/\s.fin<=8192) (hm:0<=s.miles/\s.miles<=1000000) :
  PC 209 [.p (Zr x),.p (Wg r),.p (E1 s)] (DV (Lo x r s)):=by
 have hti:r.typ.toNat<x.types.length:=Za
 unfold Lo;have htd:nth x.types r.typ.toNat=Z0 x r:=rfl
 generalize Z0 x r=t at *
 have e1: ¬r.typ<0:=Za
 have e2: ¬(x.types.length:Int)<=r.typ:=Za
 have p1:0<=t.perMile*s.miles/\t.perMile*s.miles<=100*1000000:=⟨Ul Za Za,VF Za Za Za Za⟩
 have hW: -8192<=s.fin-t.opn/\s.fin-t.opn<=8192:=Za
 have p2: -819200<=t.perTick*(s.fin-t.opn)/\t.perTick*(s.fin-t.opn)<=819200:=by
  generalize s.fin-t.opn=w at hW;have a1:=C7 hW.2 (show 0<=t.perTick by omega);have a2:=C7 hW.1 (show 0<=t.perTick by omega);omega
 have p3: -128<=(s.fin-t.opn).tdiv 64/\(s.fin-t.opn).tdiv 64<=128:=by
  grind
 have p4:0<=(s.fin-t.opn).tdiv 64*(s.fin-t.opn).tdiv 64/\(s.fin-t.opn).tdiv 64*(s.fin-t.opn).tdiv 64<=16384:=by
  generalize (s.fin-t.opn).tdiv 64=q at p3;refine ⟨?_,?_⟩
  ·rcases Ag 0 q with h | h
   ·exact Ul h h
   ·exact Int.mul_nonneg_of_nonpos_of_nonpos h h
  ·rcases Ag 0 q with h | h
   ·have:=VF p3.2 p3.2 h Za;omega
   ·have h2:0<= -q:=Za
    have:=VF (show-q<=128 by omega) (show-q<=128 by omega) h2 Za
    grind
 refine Zc Tryz.func209 rfl Zae ?_;simp (disch:=omega) only [Tryz.f209,e1,e2,htd,go_sem,seval];refine Zl [3,4,6,9] (fun k:Nat=> [(10,.p (.int .i64 k))]) (fun k=> [Zf x,Xo r,.cells [.p (.bool s.rest),.p (.int .i64 s.dep),.p (.list s.times_c (s.times.map eTim)),.p (.int .i64 s.fin),.p (.int .i64 s.miles)],CC 0 0 0 0,X5 t,CC (t.fixed+t.perMile*s.miles+t.perTick*(s.fin-t.opn)) (chgF x r.visits r.typ k).1 (chgF x r.visits r.typ k).2 ((s.fin-t.opn).tdiv 64*(s.fin-t.opn).tdiv 64)]) (fun k=>k<=r.visits.length) (fun k=>r.visits.length-k) 0 Zb (Weak.mk ?_) ?_
 ·simp (disch:=omega) only [Zf,Xo,X5,CC,chgF,go_sem,seval]
 ·intro k hk;have hch:=BB (x:=x) (l:=r.visits) (t:=r.typ) k;simp (disch:=omega) only [Zf,Xo,X5,CC,go_sem,seval];refine cD ?_ ?_<;>intro h1<;>simp (disch:=omega) only [Sh.out h1,go_sem,seval,↓reduceIte]
  ·have hk2:k<r.visits.length:=Za
   obtain ⟨v1,v2⟩:=hv _ (Zu hk2)
   have e3: ¬(nth r.visits k).order<0:=Za
   have e4: ¬(x.orders.length:Int)<=(nth r.visits k).order:=Za
   have v3:(nth r.visits k).order.toNat<x.orders.length:=Za
   simp (disch:=omega) only [e3,e4,go_sem,seval];refine (Ov r.visits r.visits_c k hk2 hl).use (Zd ?_);have hcs:chgF x r.visits r.typ (k+1)=_:=chgF.eq_2 x r.visits r.typ k;refine ZU ?_ ?_<;>intro h2
   ·have h2': ¬Ue r.visits k=true:=by grind
    exact ⟨k+1,Za,Za,Weak.mk (by simp (disch:=omega) only [hcs,if_neg h2',go_sem,seval])⟩
   ·have h2':Ue r.visits k=true:=by grind
    refine Xd (Zd ?_);refine gT ?_ ?_<;>intro h3<;>simp (disch:=omega) only [Sh.out h3,go_sem,seval,↓reduceIte]
    ·refine cD ?_ ?_<;>intro h4<;>simp (disch:=omega) only [Sh.out h4,go_sem,seval,↓reduceIte]
     ·have hn:Xk (nth x.orders (nth r.visits k).order.toNat).now r.typ=true:=by simp [Xk,h3,h4]
      refine Xd (Zd ?_);refine Q3 ?_ ?_<;>intro h5
      ·refine ZU ?_ ?_<;>intro h6
       ·have hl2:Xk (nth x.orders (nth r.visits k).order.toNat).last r.typ=true:=by simp [Xk,h5,h6]
        exact ⟨k+1,Za,Za,Weak.mk (by simp (disch:=omega) only [hcs,if_pos h2',hn,hl2,go_sem,seval,↓reduceIte])⟩
       ·have hl2:Xk (nth x.orders (nth r.visits k).order.toNat).last r.typ=false:=by simp_all [Xk]
        exact ⟨k+1,Za,Za,Weak.mk (by simp (disch:=omega) only [hcs,if_pos h2',hn,hl2,Uo,YT,go_sem,seval,↓reduceIte])⟩
      ·have hl2:Xk (nth x.orders (nth r.visits k).order.toNat).last r.typ=false:=by simp_all [Xk]
       exact ⟨k+1,Za,Za,Weak.mk (by simp (disch:=omega) only [hcs,if_pos h2',hn,hl2,Uo,YT,go_sem,seval,↓reduceIte])⟩
     ·have hn:Xk (nth x.orders (nth r.visits k).order.toNat).now r.typ=false:=by simp_all [Xk]
      refine Xd (Zd ?_);refine Q3 ?_ ?_<;>intro h5
      ·refine ZU ?_ ?_<;>intro h6
       ·have hl2:Xk (nth x.orders (nth r.visits k).order.toNat).last r.typ=true:=by simp [Xk,h5,h6]
        exact ⟨k+1,Za,Za,Weak.mk (by simp (disch:=omega) only [hcs,if_pos h2',hn,hl2,Uo,YT,go_sem,seval,↓reduceIte])⟩
       ·have hl2:Xk (nth x.orders (nth r.visits k).order.toNat).last r.typ=false:=by grind
        exact ⟨k+1,Za,Za,Weak.mk (by simp (disch:=omega) only [hcs,if_pos h2',hn,hl2,Uo,YT,go_sem,seval,↓reduceIte])⟩
      ·have hl2:Xk (nth x.orders (nth r.visits k).order.toNat).last r.typ=false:=by simp_all [Xk]
       exact ⟨k+1,Za,Za,Weak.mk (by simp (disch:=omega) only [hcs,if_pos h2',hn,hl2,Uo,YT,go_sem,seval,↓reduceIte])⟩
    ·have hn:Xk (nth x.orders (nth r.visits k).order.toNat).now r.typ=false:=by simp_all [Xk]
     refine Xd (Zd ?_);refine Q3 ?_ ?_<;>intro h5
     ·refine ZU ?_ ?_<;>intro h6
      ·have hl2:Xk (nth x.orders (nth r.visits k).order.toNat).last r.typ=true:=by simp [Xk,h5,h6]
       exact ⟨k+1,Za,Za,Weak.mk (by simp (disch:=omega) only [hcs,if_pos h2',hn,hl2,Uo,YT,go_sem,seval,↓reduceIte])⟩
      ·have hl2:Xk (nth x.orders (nth r.visits k).order.toNat).last r.typ=false:=by simp_all [Xk]
       exact ⟨k+1,Za,Za,Weak.mk (by simp (disch:=omega) only [hcs,if_pos h2',hn,hl2,Uo,YT,go_sem,seval,↓reduceIte])⟩
     ·have hl2:Xk (nth x.orders (nth r.visits k).order.toNat).last r.typ=false:=by grind
      exact ⟨k+1,Za,Za,Weak.mk (by simp (disch:=omega) only [hcs,if_pos h2',hn,hl2,Uo,YT,go_sem,seval,↓reduceIte])⟩
  grind
theorem SqOk.len {x:Inst} {l:List Vis} (h:SqOk x l) (hn:x.orders.length<=10):l.length<=20:=by
 have h1:=List.Nodup.length_le_of_subset (l₁ :=l) (l₂ :=(List.range 10).flatMap fun i:Nat=> [(⟨(i:Int),false⟩:Vis),⟨(i:Int),true⟩]) h.nd (fun v hv=>by
  obtain ⟨v1,v2⟩:=h.inr v hv;rw [X2];refine ⟨v.order.toNat,ZR.2 Za,?_⟩;obtain ⟨o,d⟩:=v
  have e:((o.toNat:Nat):Int)=o:=by grind
  simp_all)
 have h2:((List.range 10).flatMap fun i:Nat=> [(⟨(i:Int),false⟩:Vis),⟨(i:Int),true⟩]).length=20:=rfl;omega
theorem SqOk.vis {x:Inst} {l:List Vis} (h:SqOk x l) {v:Vis} (hv:v∈l):KU x v=true:=by
 obtain ⟨v1,v2⟩:=h.inr v hv;obtain ⟨i,hi⟩: ∃i:Nat,v.order=(i:Int):=⟨v.order.toNat,Za⟩;have ho:=h.own (i:=i) ⟨v,hv,hi⟩
 have hpl:0<=(XL x v).place:=by
  unfold XL;rw [hi,XS]
  cases hd:v.drp with
  | true=>exact ho.isD (by rw [<- hi,<- hd];exact hv)
  | false=>exact ho.isP (by rw [<- hi,<- hd];exact hv)
 simp [KU,MJ,v1,v2,hpl]
theorem qP {x:Inst} {r:Rte} (h:SqOk x r.visits) (hn:x.orders.length<=10) (ht:0<=r.typ/\r.typ<(x.types.length:Int)):V3 x r=(decide (0<=r.start)&&decide (r.start<=4096)):=by
 have h1:r.visits.all (KU x)=true:=ZC.2 fun v hv=>h.vis hv;have h2:=h.len hn
 grind [V3]
theorem RZ {n:Net} (h:netOk n):netR n/\ ∀a∈n.arcs,0<=a.miles/\a.miles<=10000:=by
 obtain ⟨⟨⟨h1,_⟩,h2⟩,h3⟩:=h
 have ha: ∀a∈n.arcs,mW a/\0<=a.miles/\a.miles<=10000:=fun a hm=>by
  obtain ⟨i,hi,rfl⟩:=ZN.1 hm;have:=h3 i hi;unfold LV at this;rw [Zk hi] at this;obtain ⟨⟨⟨⟨⟨_,g1⟩,_⟩,g2⟩,g3⟩,g4⟩:=this;refine ⟨⟨g2,g3,fun p hp=> ?_⟩,g1.2.2.1,g1.2.2.2.1⟩;obtain ⟨j,hj,rfl⟩:=ZN.1 hp
  simp_all [KP,Zk,Ly,rng]
 exact ⟨⟨Za,Za,fun a hm=>(ha a hm).1⟩,fun a hm=>(ha a hm).2⟩
theorem V8 {x:Inst} (hx:InstOk x) {i:Nat} (hi:i<x.types.length):(0<=(nth x.types i).opn/\(nth x.types i).opn<=(nth x.types i).cls/\(nth x.types i).cls<=4096)/\(1<=(nth x.types i).drive/\(nth x.types i).drive<=4096)/\(0<=(nth x.types i).rest/\(nth x.types i).rest<=4096) /\
  (0<=(nth x.types i).fixed/\(nth x.types i).fixed<=100000/\0<=(nth x.types i).perMile/\(nth x.types i).perMile<=100/\0<=(nth x.types i).perTick/\(nth x.types i).perTick<=100)/\(0<=(nth x.types i).skills/\(nth x.types i).skills<=1073741823):=by
 have ht:=hx.types.2 i hi
 simp_all [Jo,rng]
theorem KS {x:Inst} {r:Rte} (hx:InstOk x) (ht:0<=r.typ/\r.typ<(x.types.length:Int)) (h:SqOk x r.visits):TrpOk x (Z0 x r) (Z9 x r.visits):=by
 have hti:r.typ.toNat<x.types.length:=Za
 obtain ⟨t1,t2,t3,_⟩:=V8 hx hti;obtain ⟨n1,n2⟩:=RZ hx.net;refine ⟨n1,n2,t1,t2,t3,fun s hs=> ?_,by rw [Yp];exact h.len hx.orders.1⟩;obtain ⟨v,hv,rfl⟩:=XO.1 hs;obtain ⟨v1,v2⟩:=h.inr v hv
 have hi:v.order.toNat<x.orders.length:=Za
 have ho:=hx.orders.2 _ hi;have hvis:=h.vis hv;have hp:=ho.pstp;have hd:=ho.dstp;simp only [stpOk,Zs] at hp hd;simp only [KU,Zw,Zs] at hvis;have h3:=hvis.2;unfold XL at h3 ⊢
 grind
theorem Nv {x t sp} (h:TrpOk x t sp): ∀(bs:List Bool) (k:Nat) (L:Lab),k+bs.length=sp.length+1->LabR k L->(Xz x t sp k L bs).2=0->LabR (sp.length+1) (Xz x t sp k L bs).1/\(bs≠ []->(Xz x t sp k L bs).1.she.fin=(Xz x t sp k L bs).1.ready)
 | [],k,L,hk,hl,h0=>by
  simp at hk;subst hk;exact ⟨hl,fun h=>absurd rfl h⟩
 | b::bs,k,L,hk,hl,h0=>by
  simp at hk;rw [Xz] at h0 ⊢
  split at h0
  ·rename_i c;rw [if_pos c];obtain ⟨h1,h2⟩:=Nv h bs (k+1) _ Za (I2 h Za hl c) h0;refine ⟨h1,fun _=> ?_⟩
   cases bs with
   | nil =>
    simp at hk;subst hk;exact M4 (x:=x) (t:=t) (sp:=sp) (y:=L) (b:=b) (by rw [XQ,if_pos c];rfl)
   | cons b2 bs=>grind
  omega
theorem EU {x t sp} {st:Int} {r:List Bool} (h:TrpOk x t sp) (hs:0<=st/\st<=4096) (hr:r.length<=sp.length+1) (h0:(UW x t sp st r).2=0):(0<=(UW x t sp st r).1.fin/\(UW x t sp st r).1.fin<=8192)/\(0<=(UW x t sp st r).1.miles/\(UW x t sp st r).1.miles<=210000):=by
 have hL0:LabR 0 (labF t st):=⟨by have:=h.opn;grind [labF],by simp [labF],by simp [labF,zShe]⟩;have hl:=h.len
 have key: ∀bs∈Y4 r (sp.length+1),(Xz x t sp 0 (labF t st) bs).2=0->(0<=(Xz x t sp 0 (labF t st) bs).1.she.fin/\(Xz x t sp 0 (labF t st) bs).1.she.fin<=8192)/\(0<=(Xz x t sp 0 (labF t st) bs).1.she.miles/\(Xz x t sp 0 (labF t st) bs).1.she.miles<=210000):=fun bs hbs he=>by
  obtain ⟨q,hq,rfl⟩:=XO.1 hbs;have hql:=bestF_len.fromB_len _ _ hq;simp at hql
  have hne:r++q≠ []:=fun e=>by
   simp_all
  obtain ⟨g1,g2⟩:=Nv h (r++q) 0 _ (by simp;omega) hL0 he;rw [g2 hne];have:=g1.rdy;have:=g1.mil;omega
 unfold UW at h0 ⊢
 cases hf:Vw Wi none ((Y4 r (sp.length+1)).filterMap (Vu (XQ x t sp) 0 (labF t st))) with
 | some L =>
  simp only;have:=bestF_len.fmL_mem _ _ hf
  grind [V5]
 | none =>
  grind [zShe]
theorem SS (x:Inst) (r:Rte) (ho:x.orders.length<=1048576) (ht:x.types.length<=1048576) (hl:r.visits.length<=1048576) (hbad:V3 x r=false\/r.visits.length+1<r.rests.length) :
  PT 208 [.p (Zr x),.p (Wg r)] [.p (E1 zShe),.p (.int .i64 2)]:=by
 refine Ze [] Tryz.func208 rfl gU ?_;simp (disch:=omega) only [Tryz.f208,go_sem,seval];refine (FH x r ho ht hl).use (Zd ?_);refine gF ?_ ?_<;>intro h1<;>simp (disch:=omega) only [Sh.out h1,go_sem,seval,↓reduceIte]
 ·exact we (by simp (disch:=omega) only [zShe,Zj,go_sem,seval])
 ·have h2:r.visits.length+1<r.rests.length:=hbad.resolve_left (by grind);refine cD ?_ ?_<;>intro h3<;>simp (disch:=omega) only [Sh.out h3,go_sem,seval,↓reduceIte]
  ·exact we (by simp (disch:=omega) only [zShe,Zj,go_sem,seval])
  ·omega
theorem oD (x:Inst) (r:Rte) (hx:InstOk x) (hl:r.visits.length<=1048576):PC 205 [.p (Zr x),.p (Wg r)] (.int .i64 (Xr x r.visits)):=by
 have hf:=X0 hx;have hr:=hx.rules;obtain ⟨h1,h2⟩:=Ug.1 hr
 have ha:x.apart.length<=1048576:=by
  have h3:=(Ug.1 h1).1
  grind [MF]
 have hb:x.before.length<=1048576:=by
  have h3:=(Ug.1 h2).1
  grind [MF]
 have:=Po x r (by have:=hf.len;omega) hl ha hb hf.plc
 grind [qU]
def BI (x:Inst) (r:Rte):V:= .tup [.p (E1 (Wy x r)),.p (DV (WL x r)),.p (.int .i64 (XD x r))]
theorem Yv {x:Inst} {r:Rte} {e:Int} (h:XD x r=e) (h0:e≠0):BI x r= .tup [.p (E1 zShe),.p (DV zSco),.p (.int .i64 e)]:=by
 simp_all [BI,Wy,WL]
theorem BJ (x:Inst) (r:Rte) (hx:InstOk x) (hl:r.visits.length<=1048576) (hrl:r.rests.length<=1048576):ACalls Tryz.prog 191 [.p (Zr x),.p (Wg r)] [] fun y H'=>y=BI x r/\H'= []:=by
 have hld:=Qo hx;have htl:=hld.typ;have hol:=hld.ord;have chk:=oD x r hx hl
 have htb:x.types.length<=6:=by have:=hx.types.1;simp only [rng,Zs] at this;omega
 refine Ze [] Tryz.func191 rfl zR ?_;simp (disch:=omega) only [Tryz.f191,go_sem,seval];refine gF ?_ ?_<;>intro h1<;>simp (disch:=omega) only [Sh.out h1,go_sem,seval,↓reduceIte]
 ·have e:Yn x r=2:=by rw [Yn,if_pos Za]
  rw [Yv (e:=2) (by rw [XD,e];rfl) Za];exact we (by simp (disch:=omega) only [zShe,zSco,Zj,go_sem,seval])
 ·refine cD ?_ ?_<;>intro h2<;>simp (disch:=omega) only [Sh.out h2,go_sem,seval,↓reduceIte]
  ·have e:Yn x r=2:=by simp_all [Yn]
   rw [Yv (e:=2) (by rw [XD,e];rfl) Za];exact we (by simp (disch:=omega) only [zShe,zSco,Zj,go_sem,seval])
  ·have hty:0<=r.typ/\r.typ<(x.types.length:Int):=Za
   have hti:r.typ.toNat<x.types.length:=Za
   refine (chk).use (Zd ?_);refine cD ?_ ?_<;>intro h3<;>simp (disch:=omega) only [Sh.out h3,go_sem,seval,↓reduceIte]
   ·have e:Yn x r=Xr x r.visits:=by simp_all [Yn]
    rw [Yv (e:=Xr x r.visits) (by simp_all [XD]) h3];exact we (by simp (disch:=omega) only [zShe,zSco,Zj,go_sem,seval])
   ·have h3':=Z4.1 h3;have hsq:=UN h3'
    have hvn:0<r.visits.length:=by
     have:=hsq.ne
     grind
    have hok:=KS hx hty hsq;have hnum:=V8 hx hti
    have hr0:Yn x r=if (r.visits.any fun v=> !WI (Z0 x r) (nth x.orders v.order.toNat).skills)=true then 18 else if Qr x (Z0 x r).cap r.visits=false then 17 else if ¬(0<=r.start/\r.start<=4096/\r.rests.length<=r.visits.length+1) then 2 else 0:=by
     rw [Yn,if_neg (fun h=>h hty),if_neg h3]
    have htyp:nth x.types r.typ.toNat=Z0 x r:=rfl;rw [htyp] at hnum;have hf17:=fL x r hx hl hty h3' chk;have hposs:=qP hsq hol hty
    have hsk: ∀k,k<r.visits.length->(nth r.visits k).order.toNat<x.orders.length/\0<=(nth x.orders (nth r.visits k).order.toNat).skills/\(nth x.orders (nth r.visits k).order.toNat).skills<=1073741823:=fun k hk=>by
     obtain ⟨v1,v2⟩:=hsq.inr _ (Zu hk)
     have hi:(nth r.visits k).order.toNat<x.orders.length:=Za
     exact ⟨hi,(hx.orders.2 _ hi).skills⟩
    refine Zl [2,3,4,5] (fun k:Nat=> [(8,.p (.int .i64 k))]) (fun _=> [Zf x,Xo r,.cells [.p (.bool false),.p (.int .i64 0),.p (.list true []),.p (.int .i64 0),.p (.int .i64 0)],CC 0 0 0 0])
     (fun k=>k<=r.visits.length/\ ∀j,j<k->WI (Z0 x r) (nth x.orders (nth r.visits j).order.toNat).skills=true) (fun k=>r.visits.length-k) 0 Zb (Weak.mk ?_) ?_
    ·simp (disch:=omega) only [Zf,Xo,CC,go_sem,seval]
    ·rintro k ⟨hk,hno⟩;simp (disch:=omega) only [Zf,Xo,CC,go_sem,seval];refine cD ?_ ?_<;>intro h4<;>simp (disch:=omega) only [Sh.out h4,go_sem,seval,↓reduceIte]
     ·have hk2:k<r.visits.length:=Za
      obtain ⟨s1,s2,s3⟩:=hsk k hk2;obtain ⟨v1,v2⟩:=hsq.inr _ (Zu hk2);refine Xd ?_;simp (disch:=omega) only [htyp,go_sem,seval];refine Zn (cI (Z0 x r) (nth x.orders (nth r.visits k).order.toNat).skills Za Za) (Zd ?_);refine ZU ?_ ?_<;>intro h5
      ·have e:Yn x r=18:=by
        rw [hr0,if_pos]
        grind [Zu]
       rw [Yv (e:=18) (by rw [XD,e];rfl) Za];exact we (by simp (disch:=omega) only [zShe,zSco,Zj,go_sem,seval])
      ·exact ⟨k+1,⟨Za,Zp.2 ⟨hno,by grind⟩⟩,Za,wk⟩
     ·have hkl:k=r.visits.length:=Za
      subst hkl
      have hall: ¬(r.visits.any fun v=> !WI (Z0 x r) (nth x.orders v.order.toNat).skills)=true:=fun h=>by
       obtain ⟨v,hv,hb⟩:=JH.1 h;obtain ⟨j,hj,rfl⟩:=ZN.1 hv
       grind [Zk]
      rw [if_neg hall] at hr0;refine (hf17).use (Zd ?_)
      cases hlb:Qr x (Z0 x r).cap r.visits with
      | false =>
       have e:Yn x r=17:=by grind
       simp only [YT,Yj];refine Zd ?_;rw [Yv (e:=17) (by rw [XD,e];rfl) Za];exact we (by simp (disch:=omega) only [zShe,zSco,Zj,go_sem,seval])
      | true =>
       rw [hlb,if_neg Zb] at hr0;simp only [if_true];refine Zd ?_
       by_cases h6:0<=r.start/\r.start<=4096/\r.rests.length<=r.visits.length+1
       ·have e:Yn x r=0:=Za
        have hp:V3 x r=true:=by grind
        have ee:XD x r=(Xu x r).2:=by rw [XD,if_pos e]
        have cb:=dK x r hok Za htl hvn hp h6.2.2;have hbr:=EU hok ⟨h6.1,h6.2.1⟩ (by rw [Yp];exact h6.2.2);have hbr:(Xu x r).2=0->_:=hbr
        change (Xu x r).2=0->(0<=(Xu x r).1.fin/\(Xu x r).1.fin<=8192)/\(0<=(Xu x r).1.miles/\(Xu x r).1.miles<=210000) at hbr
        have es:Wy x r=if (Xu x r).2=0 then (Xu x r).1 else zShe:=by rw [Wy,ee]
        have ep:WL x r=if (Xu x r).2=0 then Lo x r (Xu x r).1 else zSco:=by rw [WL,ee]
        unfold BI;rw [ee,es,ep];clear ee es ep
        generalize Xu x r=q at *
        obtain ⟨sh,eb⟩:=q;simp only at cb hbr ⊢;refine X8 cb (Zd ?_);refine cD ?_ ?_<;>intro h7<;>simp (disch:=omega) only [Sh.out h7,go_sem,seval,↓reduceIte]
        ·exact we (by simp (disch:=omega) only [zShe,zSco,Zj,go_sem,seval])
        ·have h7':=Z4.1 h7
         try rw [if_pos h7',if_pos h7']
         subst h7';obtain ⟨g1,g2⟩:=hbr rfl;refine ZB 5 mixed Zg Zg (Zd ?_);refine Zn (aJ x r sh hty Za htl hl hsq.inr hnum.2.2.2.1 Za Za Za) (Zd ?_);exact we
       ·have e:Yn x r=2:=Za
        rw [Yv (e:=2) (by rw [XD,e];rfl) Za];refine X8 (SS x r Za htl hl ?_) ?_
        ·grind
        ·refine Zd ?_;exact we (by simp (disch:=omega) only [zShe,zSco,Zj,go_sem,seval])
theorem bF (x:Inst) (r:Rte) (hx:InstOk x) (hl:r.visits.length<=1048576) (hrl:r.rests.length<=1048576):PC 148 [.p (Zr x),.p (Wg r)] (.int .i64 (XD x r)):=by
 have ce:=BJ x r hx hl hrl;refine Zc Tryz.func148 rfl yP ?_;simp (disch:=omega) only [Tryz.f148,go_sem,seval];unfold BI at ce;refine NW ce ?_;simp (disch:=omega) only [go_sem,seval,↓reduceIte]
theorem Zce {p q:Pt} {t:Int} (h1:p.t<=t) (h2:t<q.t) (hp:p.t<=p.a) (hq:q.t<=q.a):t<=GI p q t:=by
 unfold GI
 have hw:0<q.t-p.t:=Za
 have key:(t-p.a)*(q.t-p.t)<=(t-p.t)*(q.a-p.a)+q.t-p.t-1:=by
  have e:(t-p.t)*(q.a-p.a)-(t-p.a)*(q.t-p.t)=(t-p.t)*(q.a-q.t)+(p.a-p.t)*(q.t-t):=by
   grind
  have h3:0<=(t-p.t)*(q.a-q.t):=Ul Za Za;have h4:0<=(p.a-p.t)*(q.t-t):=Ul Za Za;omega
 have:=Int.le_ediv_of_mul_le hw key;omega
theorem mZ {l:List Pt} {t:Int} (hl:WS l):t<=Jt l t:=by
 obtain ⟨⟨hl1,hl2⟩,hpt⟩:=hl;unfold Jt
 split
 ·rename_i i hi;have hm:=QN hi;have hs:=JL hi;simp at hm;simp only [QX,Zw,Zs] at hs;obtain ⟨⟨p1,p2,p3,p4⟩,_⟩:=hpt i Za;obtain ⟨⟨q1,q2,q3,q4⟩,q5⟩:=hpt (i+1) Za
  simp_all [Zce]
 ·obtain ⟨⟨p1,p2,p3,p4⟩,_⟩:=hpt 0 Za;obtain ⟨⟨q1,q2,q3,q4⟩,_⟩:=hpt (l.length-1) Za;omega
theorem fZ {n:Net} {pr f t τ:Int} (hn:netR n) (h:(WM n pr f t τ).2.2=0):τ<=(WM n pr f t τ).1:=by
 unfold WM at h ⊢
 split at h
 ·simp at h
 ·rename_i c1;rw [if_neg c1]
  split at h
  ·grind
  ·rename_i c2;rw [if_neg c2]
   split at h
   ·rename_i c3;rw [if_pos c3];have hA:=K2 c3;have h1:=mZ (t:=τ) (hn.2.2 _ hA).1;have h2:=Jj (t:=τ) (fun p hp=>((hn.2.2 _ hA).2.2 p hp).2.2) _ (ZI _)
    grind [Ic]
   ·simp at h
theorem GR {x t sp} {st:Int} {r:List Bool} (hr:r.length<=sp.length+1) (h:(UW x t sp st r).2=0): ∃bs:List Bool,bs.length=sp.length+1/\(Xz x t sp 0 (labF t st) bs).2=0/\(UW x t sp st r).1=(Xz x t sp 0 (labF t st) bs).1.she:=by
 unfold UW at h ⊢
 cases hf:Vw Wi none ((Y4 r (sp.length+1)).filterMap (Vu (XQ x t sp) 0 (labF t st))) with
 | none =>
  rw [hf] at h;simp only at h ⊢;exfalso
  have hm:We r (sp.length+1)∈Y4 r (sp.length+1):=by
   grind [Y4,We,fromB_next]
  have h2:Vu (XQ x t sp) 0 (labF t st) (We r (sp.length+1))=some (Xz x t sp 0 (labF t st) (We r (sp.length+1))).1:=by rw [V5,if_pos h]
  have h3:(Xz x t sp 0 (labF t st) (We r (sp.length+1))).1∈(Y4 r (sp.length+1)).filterMap (Vu (XQ x t sp) 0 (labF t st)):=B5.2 ⟨_,hm,h2⟩;generalize (Y4 r (sp.length+1)).filterMap (Vu (XQ x t sp) 0 (labF t st))=l at hf h3
  cases l with
  | nil=>simp at h3
  | cons a l =>
   rw [Vw] at hf;obtain ⟨z,e,_⟩:=Q9 Wi l a
   grind
 | some L =>
  simp only;have hm:=bestF_len.fmL_mem _ _ hf;obtain ⟨bs,hbs,hrun⟩:=B5.1 hm;rw [V5] at hrun
  split at hrun
  ·rename_i h5;simp at hrun;subst hrun;obtain ⟨q,hq,rfl⟩:=XO.1 hbs;have hql:=bestF_len.fromB_len _ _ hq
   grind
  ·cases hrun
structure Sr where
 rdy:Int
 drv:Int
 deriving Inhabited,DecidableEq
def Uu (l:List Sr) (s:Sr):List Sr:=if s∈l then l else l++ [s]
def Vo (t:Typ) (l:List Sr) (d v:Int):List Sr:=Uu (Uu l ⟨d,v⟩) ⟨d+t.rest,0⟩
def Jp (x:Inst) (t:Typ) (from':Int) (stop:Stp) (out:List Sr) (a:Sr):List Sr :=
 if ¬(WM x.net t.prof from' stop.place a.rdy).2.2=0\/t.drive<a.drv+(WM x.net t.prof from' stop.place a.rdy).1-a.rdy then out
 else if stop.cls<max (WM x.net t.prof from' stop.place a.rdy).1 stop.opn then out
 else Vo t out (max (WM x.net t.prof from' stop.place a.rdy).1 stop.opn+stop.serv) (a.drv+(WM x.net t.prof from' stop.place a.rdy).1-a.rdy)
def Dv (x:Inst) (t:Typ) (from':Int) (st:List Sr) (stop:Stp):List Sr:=st.foldl (Jp x t from' stop) []
theorem Tz {l:List Sr} {s a:Sr} :a∈Uu l s↔a∈l\/a=s:=by
 grind [Uu]
theorem W2 {t:Typ} {l:List Sr} {d v:Int} {a:Sr} :a∈Vo t l d v↔a∈l\/a=⟨d,v⟩\/a=⟨d+t.rest,0⟩:=by
 simp [Vo,Tz,or_assoc]
theorem Ri {n:Nat} (h:n<10):dec n= [UInt8.ofNat (48+n)]:=by rw [dec,dif_pos h]
theorem oK {n:Nat} (h:10<=n) (h2:n<100):dec n= [UInt8.ofNat (48+n / 10),UInt8.ofNat (48+n%10)]:=by
 rw [dec,dif_neg Za,Ri Za];rfl
theorem LX {s:List UInt8} {k k':IntKind} {a b:Int} (h:0<=a/\a<=b/\b<=(s.length:Int)):If (some .string) s (.p (.int k a)) (.p (.int k' b))=some (.p (.str ((s.take b.toNat).drop a.toNat))):=by
 simp_all [If]
def digT : List UInt8:=(List.range 36).map fun i=>UInt8.ofNat (if i<10 then 48+i else 87+i)
def smalT : List UInt8:=(List.range 100).flatMap fun i=> [UInt8.ofNat (48+i / 10),UInt8.ofNat (48+i%10)]
theorem oL : ∀n,n<10->(digT.take (n+1)).drop n= [UInt8.ofNat (48+n)]:=by decide
theorem kY : ∀n,n<100->(smalT.take (2*n+2)).drop (2*n)= [UInt8.ofNat (48+n / 10),UInt8.ofNat (48+n%10)]:=by decide+kernel
theorem rJ (n:Nat) (hn:n<100):PC 298 [.p (.int .i64 (n:Int))] (.str (dec n)):=by
 refine Zc Tryz.func298 rfl ZbD ?_;simp (disch:=omega) only [Tryz.f298,go_sem,seval];refine cD ?_ ?_<;>intro h<;>simp (disch:=omega) only [Sh.out h,go_sem,seval]
 ·rw [Ri Za,LX (by simp;omega)]
  have e1:((n:Int)+1).toNat=n+1:=Za
  have e2:((n:Int)).toNat=n:=Za
  rw [e1,e2];refine (ZT (fun z=>A9 (some (V.p (PV.str z))) _) (oL n Za)).mpr ?_;simp (disch:=omega) only [go_sem,seval]
 ·rw [oK Za hn,LX (by simp;omega)]
  have e1:((n:Int)*2+2).toNat=2*n+2:=Za
  have e2:((n:Int)*2).toNat=2*n:=Za
  rw [e1,e2];refine (ZT (fun z=>A9 (some (V.p (PV.str z))) _) (kY n Za)).mpr ?_;simp (disch:=omega) only [go_sem,seval]
theorem fS (n:Nat) (hn:n<100):PC 296 [.p (.int .i64 (n:Int)),.p (.int .i64 10)] (.str (dec n)):=by
 refine Zc Tryz.func296 rfl ZbB ?_
 have h0:(0:Int)<=(n:Int):=Za
 have h1:(n:Int)<100:=Za
 simp (disch:=omega) only [Tryz.f296,h0,h1,go_sem,seval];refine (rJ n hn).use ?_;simp (disch:=omega) only [go_sem,seval]
theorem pH (n:Nat) (hn:n<100):PC 292 [.p (.int .i64 (n:Int))] (.str (dec n)):=by
 refine Zc Tryz.func292 rfl Zbx ?_;simp (disch:=omega) only [Tryz.f292,go_sem,seval];refine (fS n hn).use ?_;simp (disch:=omega) only [go_sem,seval]
theorem ZbE (n:Nat) (hn:n<100):PC 290 [.p (.int .i64 (n:Int))] (.str (dec n)):=by
 refine Zc Tryz.func290 rfl Zbv ?_;simp (disch:=omega) only [Tryz.f290,go_sem,seval];refine (pH n hn).use ?_;simp (disch:=omega) only [go_sem,seval]
theorem N0 (n a b:Int):PC 272 [.p (.int .i64 n),.p (.int .i64 a),.p (.int .i64 b)] (.bool (decide (a<=n)&&decide (n<=b))):=by
 refine Zc Tryz.func272 rfl Zbd ?_;simp (disch:=omega) only [Tryz.f272,go_sem,seval]
 repeat' (first | (refine gT ?_ ?_<;>intro hq<;>simp (disch:=omega) only [Sh.out hq,go_sem,seval,↓reduceIte]) | (refine UU (fun hq=> ?_) (fun hq=> ?_)<;>(try simp only [Zs,XX,Z4] at hq)<;>simp (disch:=omega) only [Sh.out hq,go_sem,seval]) | (refine Qj (fun hq=> ?_) (fun hq=> ?_)<;>(try simp only [Zs,XX,Z4] at hq)<;>simp (disch:=omega) only [Sh.out hq,go_sem,seval]))
 all_goals (simp;first | done | omega)
theorem jL (l:List Pt) (c:Bool) (hl:WS l):PC 285 [.p (.list c (l.map GZ))] (.list true []):=by
 obtain ⟨⟨hl1,hl2⟩,hpt⟩:=hl;refine Zc Tryz.func285 rfl Zbq ?_
 have e1: ¬(l.length:Int)=0:=Za
 have e2: ¬(16:Int)<(l.length:Int):=Za
 simp (disch:=omega) only [Tryz.f285,e1,e2,go_sem,seval];refine Zl [0,19,20] (fun k:Nat=> [(3,.p (.list true [])),(21,.p (.int .i64 k))]) (fun _=> []) (fun k=>k<=l.length) (fun k=>l.length-k) 0 Zb (Weak.mk ?_) ?_
 ·simp (disch:=omega) only [go_sem,seval,↓reduceIte]
 ·intro k hk;refine Zd ?_;refine cD ?_ ?_<;>intro h<;>simp (disch:=omega) only [Sh.out h,go_sem,seval,↓reduceIte]
  ·have hk2:k<l.length:=Za
   obtain ⟨⟨p1,p2,p3,p4⟩,q⟩:=hpt k hk2;refine (ZbE k Za).use (Zd ?_);refine (N0 (nth l k).t 0 4096).use (Zd ?_);simp (disch:=omega) only [p1,p2,go_sem,seval];refine gF ?_ ?_<;>intro h3<;>simp (disch:=omega) only [Sh.out h3,go_sem,seval,↓reduceIte]
   ·omega
   ·refine cD ?_ ?_<;>intro h4<;>simp (disch:=omega) only [Sh.out h4,go_sem,seval,↓reduceIte]
    ·omega
    ·refine Xd (Zd ?_);refine gT ?_ ?_<;>intro h5<;>simp (disch:=omega) only [Sh.out h5,go_sem,seval,↓reduceIte]
     ·obtain ⟨r1,r2⟩:=q Za;refine gF ?_ ?_<;>intro h6<;>simp (disch:=omega) only [Sh.out h6,go_sem,seval,↓reduceIte]
      ·omega
      ·refine cD ?_ ?_<;>intro h7<;>simp (disch:=omega) only [Sh.out h7,go_sem,seval,↓reduceIte]
       ·omega
       ·exact ⟨k+1,Za,Za,wk⟩
     ·exact ⟨k+1,Za,Za,wk⟩
theorem Re (p:Pt) (t:Int) (h:0<=p.t/\p.t<=4096) (ht:0<=t/\t<=1073741824):PC 287 [.p (GZ p),.p (.int .i64 t)] (.int .i64 (p.t-t)):=by
 refine Zc Tryz.func287 rfl Zbs ?_;simp (disch:=omega) only [Tryz.f287,go_sem,seval,↓reduceIte]
theorem qY (l:List Pt) (c:Bool) (hl:WS l):PC 273 [.p (.list c (l.map GZ))] (.bool true):=by
 refine Zc Tryz.func273 rfl Zbe ?_;simp (disch:=omega) only [Tryz.f273,go_sem,seval];refine (jL l c hl).use ?_;simp (disch:=omega) only [go_sem,seval]
structure PosT (l:List Pt) (t:Int) (i:Nat):Prop where
 le:i<=l.length
 lo: ∀j,j<i->(nth l j).t<t
 hi: ∀j,i<=j->j<l.length->t<=(nth l j).t
theorem Zgy (l:List Pt) (c:Bool) (t:Int) (i:Nat) (hl:WS l) (ht:0<=t/\t<=1073741824) (hi:PosT l t i):PT 286 [.p (.list c (l.map GZ)),.p (.int .i64 t),.fn (.func 287) [] []] [.p (.int .i64 (i:Int)),.p (.bool (decide (i<l.length)&&decide ((nth l i).t=t)))]:=by
 obtain ⟨⟨hl1,hl2⟩,hpt⟩:=hl;obtain ⟨hi1,hi2,hi3⟩:=hi;refine Ze [] Tryz.func286 rfl Zbr ?_;simp (disch:=omega) only [Tryz.f286,go_sem,seval];refine Zl [0,1,2,8] (fun q:Nat×Nat=> [(9,.p (.int .i64 q.1)),(10,.p (.int .i64 q.2))]) (fun _=> []) (fun q=>q.1<=i/\i<=q.2/\q.2<=l.length) (fun q=>q.2-q.1) (0,l.length) (by simp;omega) (Weak.mk ?_) ?_
 ·simp (disch:=omega) only [go_sem,seval,↓reduceIte]
 ·rintro ⟨a,b⟩ ⟨h1,h2,h3⟩;simp only at h1 h2 h3;refine Zd ?_;refine cD ?_ ?_<;>intro h<;>simp (disch:=omega) only [Sh.out h,go_sem,seval,↓reduceIte]
  ·have hm:(a+b) / 2<l.length:=Za
   obtain ⟨⟨p1,p2,p3,p4⟩,q⟩:=hpt _ hm
   have hs:((a:Int)+(b:Int)).fdiv (2^min 1 64)=(((a+b) / 2:Nat):Int):=by
    grind
   have em:((((a+b) / 2:Nat)):Int).toNat=(a+b) / 2:=Za
   have hnb:((a+b) / 2<i)↔(nth l ((a+b) / 2)).t-t<0:=by
    grind
   rw [hs];refine Zd ?_;refine (Re (nth l ((a+b) / 2)) t ⟨p1,p2⟩ ht).use (Zd ?_);refine cD ?_ ?_<;>intro h4<;>simp (disch:=omega) only [Sh.out h4,go_sem,seval,↓reduceIte]
   ·exact ⟨((a+b) / 2+1,b),⟨Za,h2,h3⟩,Za,wk⟩
   ·exact ⟨(a,(a+b) / 2),⟨h1,Za,Za⟩,Za,wk⟩
  ·have:a=i:=Za
   subst this;refine gT ?_ ?_<;>intro h4<;>simp (disch:=omega) only [Sh.out h4,go_sem,seval,↓reduceIte]
   ·have hm:a<l.length:=Za
    obtain ⟨⟨p1,p2,p3,p4⟩,q⟩:=hpt _ hm;refine (Re (nth l a) t ⟨p1,p2⟩ ht).use (Zd ?_);have e5:((nth l a).t-t=0)=((nth l a).t=t):=propext Za;exact we (by simp (disch:=omega) only [e5,hm,go_sem,seval])
   ·have hm: ¬a<l.length:=Za
    exact we (by simp (disch:=omega) only [hm,go_sem,seval])
theorem Cu {l:List Pt} (hl:WS l) {k:Nat} (hk:k<l.length): ∀j,j<k->(nth l j).t<(nth l k).t:=by
 obtain ⟨_,hpt⟩:=hl
 induction k with
 | zero=>omega
 | succ k ih =>
  intro j hj;obtain ⟨_,q⟩:=hpt (k+1) hk
  grind
theorem qO {l:List Pt} (hl:WS l) (t:Int): ∃i,PosT l t i:=by
 have: ∀n,n<=l.length-> ∃i,i<=n/\(∀j,j<i->(nth l j).t<t)/\(i<n->t<=(nth l i).t):=by
  intro n
  induction n with
  | zero=>simp
  | succ n ih =>
   grind
 obtain ⟨i,h1,h2,h3⟩:=this l.length (ZI _);refine ⟨i,h1,h2,fun j hj hjl=> ?_⟩;rcases Nat.lt_or_eq_of_le hj with h | h
 ·have:=Cu hl hjl i h;omega
 grind
theorem mY {l:List Pt} {t:Int} {i:Nat} (hl:WS l) (h:PosT l t i) (hi:i<l.length) (e:(nth l i).t=t):Jt l t=(nth l i).a:=by
 by_cases g:i+1<l.length
 ·have m:=Cu hl g i Za;rw [Ie g (fun j hj=> ?_) (by grind [QX]),GI]
  ·rw [e,Int.sub_self,Int.zero_mul,Int.zero_add];rw [Int.ediv_eq_zero_of_lt Za Za];omega
  ·have:(nth l (j+1)).t<=t:=by
    rcases Nat.lt_or_eq_of_le (show j+1<=i by omega) with h1 | h1
    ·have:=h.lo _ h1;omega
    grind
   simp [QX];omega
 ·have hi1:i=l.length-1:=Za
  rw [D5 (fun j hj=> ?_)]
  ·split
   ·grind
   ·have:i=0:=by
     by_cases g2:i=0
     ·exact g2
     ·have:=h.lo 0 Za;omega
    grind
  ·have:(nth l (j+1)).t<=t:=by
    rcases Nat.lt_or_eq_of_le (show j+1<=i by omega) with h1 | h1
    ·have:=h.lo _ h1;omega
    grind
   simp [QX];omega
theorem nB {l:List Pt} {t:Int} (hl:WS l) (h:PosT l t 0) (e: ¬(nth l 0).t=t):Jt l t=t+(nth l 0).a-(nth l 0).t:=by
 have h0:=h.hi 0 (ZI _) hl.1.1;rw [D5 (fun j hj=> ?_),if_neg Za]
 have:t<(nth l j).t:=by
  by_cases g:j=0
  ·grind
  ·have:=Cu hl (show j<l.length by omega) 0 Za;omega
 simp [QX];omega
theorem nA {l:List Pt} {t:Int} (h:PosT l t l.length) (hl:0<l.length):Jt l t=t+(nth l (l.length-1)).a-(nth l (l.length-1)).t:=by
 rw [D5 (fun j hj=> ?_),if_pos (h.lo 0 hl)];have:=h.lo (j+1) hj;simp [QX];omega
theorem cZ {l:List Pt} {t:Int} {i:Nat} (h:PosT l t i) (h0:0<i) (hi:i<l.length) (e: ¬(nth l i).t=t):Jt l t=GI (nth l (i-1)) (nth l i) t:=by
 have e1:i-1+1=i:=Za
 have h1:=h.lo (i-1) Za;have h2:=h.hi i (ZI _) hi;have:=Ie (l:=l) (t:=t) (i:=i-1) Za (fun j hj=>by have:=h.lo (j+1) Za;simp [QX];omega) (by grind [QX]);rw [this,e1]
theorem HF {p q:Pt} {t:Int} (h1:p.t<=t) (h2:t<q.t) (hp:0<=p.t) (hq:q.t<=4096) (ha:p.a<=q.a) (hpa:0<=p.a) (hqa:q.a<=8192) :
  IntKind.i64.wrap (p.a+IntKind.i64.wrap ((IntKind.i64.wrap (IntKind.i64.wrap (IntKind.i64.wrap ((t-p.t)*(q.a-p.a))+(q.t-p.t))-1)).tdiv (q.t-p.t)))=GI p q t:=by
 have hm:=F0 h1 h2 hp hq ha hpa hqa;unfold GI;generalize hM:(t-p.t)*(q.a-p.a)=m at hm
 have hd:0<=(m+(q.t-p.t)-1) / (q.t-p.t)/\(m+(q.t-p.t)-1) / (q.t-p.t)<=m+(q.t-p.t)-1:=by
  refine ⟨Int.ediv_nonneg Za Za,Int.ediv_le_self _ Za⟩
 rw [IntWalk.i64_in m Za,IntWalk.i64_in (m+(q.t-p.t)) Za,IntWalk.i64_in (m+(q.t-p.t)-1) Za,Int.tdiv_eq_ediv_of_nonneg Za,IntWalk.i64_in ((m+(q.t-p.t)-1) / (q.t-p.t)) Za,IntWalk.i64_in _ Za]
 congr 2
 omega
theorem Pb (l:List Pt) (c:Bool) (t:Int) (hl:WS l) (ht:0<=t/\t<=1073741824):PC 274 [.p (.list c (l.map GZ)),.p (.int .i64 t)] (.int .i64 (Jt l t)):=by
 obtain ⟨i,hi⟩:=qO hl t;have hl':=hl;obtain ⟨⟨hl1,hl2⟩,hpt⟩:=hl';refine Zc Tryz.func274 rfl Zbf ?_;simp (disch:=omega) only [Tryz.f274,go_sem,seval];refine X8 (Zgy l c t i hl ht hi) (Zd ?_);obtain ⟨i1,i2,i3⟩:=id hi;refine cD ?_ ?_<;>intro h<;>simp (disch:=omega) only [Sh.out h,go_sem,seval,↓reduceIte]
 ·grind [mY]
 ·refine cD ?_ ?_<;>intro h0<;>simp (disch:=omega) only [Sh.out h0,go_sem,seval]
  ·have:i=0:=Za
   subst this;obtain ⟨p1,p2⟩:=hpt 0 Za;rw [nB hl hi (fun g=>h ⟨Za,g⟩)];refine Xd ?_;simp (disch:=omega) only [go_sem,seval,↓reduceIte]
  ·refine cD ?_ ?_<;>intro h1<;>simp (disch:=omega) only [Sh.out h1,go_sem,seval]
   ·have:i=l.length:=Za
    subst this;obtain ⟨p1,p2⟩:=hpt (l.length-1) Za;rw [nA hi Za]
    have e1:((l.length:Int)-1).toNat=l.length-1:=Za
    refine Xd ?_;simp (disch:=omega) only [go_sem,seval,↓reduceIte]
   ·have g1:i<l.length:=Za
    rw [cZ hi Za g1 (fun g=>h ⟨g1,g⟩)];have g2:=Cu hl g1 (i-1) Za;obtain ⟨p1,p2⟩:=hpt i g1;obtain ⟨p3,p4⟩:=hpt (i-1) Za
    have e1:((i:Int)-1).toNat=i-1:=Za
    have q1:=i2 (i-1) Za;have q2:=i3 i (ZI _) g1;have q3: ¬(nth l i).t=t:=fun g=>h ⟨g1,g⟩;have q4:=p2 Za;refine XR [9,10,11] 12 mixed Zg Zg Zg Zb ?_;simp (disch:=omega) only [e1,go_sem,seval];refine TD 9 10 _ _ _ _ Zg (by refine Zd ?_;exact ⟨rfl,rfl⟩) (by refine Zd ?_;exact ⟨rfl,rfl⟩) ?_ ?_
    ·refine Xl 10 _ _ Zg (by refine Zd ?_;exact ⟨rfl,rfl⟩) (Xl 11 _ _ Zg (by refine Zd ?_;exact ⟨rfl,rfl⟩) (Y9 ?_));refine Zd ?_;refine Xd (Zd ?_);exact ZT (fun z=>V.p (PV.int IntKind.i64 z)) (HF Za Za Za Za Za Za Za)
    ·refine Xl 9 _ _ Zg (by refine Zd ?_;exact ⟨rfl,rfl⟩) (Xl 11 _ _ Zg (by refine Zd ?_;exact ⟨rfl,rfl⟩) (Y9 ?_));refine Zd ?_;refine Xd (Zd ?_);exact ZT (fun z=>V.p (PV.int IntKind.i64 z)) (HF Za Za Za Za Za Za Za)
theorem TZ (l:List Pt) (c:Bool) (t:Int) (hl:WS l) (ht:0<=t/\t<=1073741824):PC 254 [.p (.list c (l.map GZ)),.p (.int .i64 t)] (.int .i64 (Jt l t)):=by
 refine Zc Tryz.func254 rfl ZaV ?_;simp (disch:=omega) only [Tryz.f254,go_sem,seval];refine (N0 t 0 1073741824).use (Zd ?_);simp (disch:=omega) only [ht,go_sem,seval];refine (qY l c hl).use (Zd ?_);refine (Pb l c t hl ht).use ?_;simp (disch:=omega) only [go_sem,seval]
theorem Nj (n:Net) (p:Int) (hn:n.places.length<=1048576):PC 219 [.p (BG n),.p (.int .i64 p)] (.bool (KG n p)):=by
 refine Zc Tryz.func219 rfl Zao ?_;simp (disch:=omega) only [Tryz.f219,go_sem,seval];refine gT ?_ ?_<;>intro h<;>simp (disch:=omega) only [Sh.out h,go_sem,seval,↓reduceIte]
 ·simp [KG,h]
 ·simp [KG,h]
theorem sH (a:Arc):PC 253 [.p (Vs a)] (.agg [.int .i64 a.src,.int .i64 a.dst,.int .i64 a.prof]):=by
 refine Zc Tryz.func253 rfl ZaU ?_;simp (disch:=omega) only [Tryz.f253,go_sem,seval,↓reduceIte]
theorem qG (a:Arc) (t:Int) (ha:mW a) (ht:0<=t/\t<=1073741824):PC 221 [.p (Vs a),.p (.int .i64 t)] (.int .i64 (Ic a t)):=by
 obtain ⟨h1,h2,h3⟩:=ha;have hr:=EN h1 ht;have hs:=Jj (t:=t) (fun p hp=>(h3 p hp).2.2);refine Zc Tryz.func221 rfl Zaq ?_;simp (disch:=omega) only [Tryz.f221,go_sem,seval];refine (TZ a.travel a.travel_c t h1 ht).use (Zd ?_);refine Zl [1,13,14] (fun k:Nat=> [(5,.p (.int .i64 (Jt a.travel t+Ke a.slow t k))),(15,.p (.int .i64 k))]) (fun _=> [WW a]) (fun k=>k<=a.slow.length) (fun k=>a.slow.length-k) 0 Zb (Weak.mk ?_) ?_
 ·simp (disch:=omega) only [WW,Ke,Um,go_sem,seval];simp
 ·intro k hk;have hsk:=hs k hk;simp (disch:=omega) only [WW,go_sem,seval];refine cD ?_ ?_<;>intro h<;>simp (disch:=omega) only [Sh.out h,go_sem,seval,↓reduceIte]
  ·have hk2:k<a.slow.length:=Za
   have hp:=h3 _ (ZX hk2);have hsn:=Bh (t:=t) hk2;refine ZU ?_ ?_<;>intro h4
   ·rw [if_pos h4] at hsn;exact ⟨k+1,Za,Za,Weak.mk (by simp (disch:=omega) only [hsn,Int.add_assoc,go_sem,seval])⟩
   ·rw [if_neg h4] at hsn;exact ⟨k+1,Za,Za,Weak.mk (by simp (disch:=omega) only [hsn,go_sem,seval])⟩
  grind [Ic]
theorem qJ (n:Net) (pr f t:Int) (hn:n.arcs.length<=1048576):PT 220 [.p (BG n),.p (.int .i64 pr),.p (.int .i64 f),.p (.int .i64 t)] [.p (Vs (Wz n pr f t).1),.p (.bool (Wz n pr f t).2)]:=by
 refine Ze [] Tryz.func220 rfl Zap ?_;simp (disch:=omega) only [Tryz.f220,go_sem,seval];refine Zl [8,10,18,19] (fun k:Nat=> [(20,.p (.int .i64 k))]) (fun _=>Z2 n++ [WW VP,.cells [.p (.int .i64 f),.p (.int .i64 t),.p (.int .i64 pr)]]) (fun k=>k<=n.arcs.length/\ ∀j,j<k->Vc pr f t (nth n.arcs j)=false) (fun k=>n.arcs.length-k) 0 Zb (Weak.mk ?_) ?_
 ·simp (disch:=omega) only [Z2,WW,VP,Zj,ZL,ZD,go_sem,seval]
 ·rintro k ⟨hk,hno⟩;simp (disch:=omega) only [Z2,WW,VP,Zj,ZL,ZD,go_sem,seval];refine cD ?_ ?_<;>intro h<;>simp (disch:=omega) only [Sh.out h,go_sem,seval,↓reduceIte]
  ·have hk2:k<n.arcs.length:=Za
   have nx:Vc pr f t (nth n.arcs k)=false-> ∀j,j<k+1->Vc pr f t (nth n.arcs j)=false:=fun h=>Zp.2 ⟨hno,h⟩;refine Xd (Zd ?_);refine Zn (sH (nth n.arcs k)) (Zd ?_);refine ZU ?_ ?_<;>intro h1
   ·have e:=Mr hk2 hno (by simp [Vc,h1]);obtain ⟨rfl,rfl,rfl⟩:=h1;rw [e];exact we
   ·have e2:Vc pr f t (nth n.arcs k)=false:=by
     simp_all [Vc]
    exact ⟨k+1,⟨Za,nx e2⟩,Za,wk⟩
  ·have hkn:k=n.arcs.length:=Za
   subst hkn;rw [Ms hno];exact we (by simp (disch:=omega) only [VP,Zj,go_sem,seval])
theorem tY (n:Net) (pr f t τ:Int) (hn:netR n) (hτ:0<=τ/\τ<=1073741824):PT 198 [.p (BG n),.p (.int .i64 pr),.p (.int .i64 f),.p (.int .i64 t),.p (.int .i64 τ)] [.p (.int .i64 (WM n pr f t τ).1),.p (.int .i64 (WM n pr f t τ).2.1),.p (.int .i64 (WM n pr f t τ).2.2)]:=by
 refine Ze [] Tryz.func198 rfl zX ?_;simp (disch:=omega) only [Tryz.f198,go_sem,seval];refine (Nj n f hn.1).use (Zd ?_);refine gF ?_ ?_<;>intro h1<;>simp (disch:=omega) only [Sh.out h1,go_sem,seval,↓reduceIte]
 ·have e:WM n pr f t τ=(0,0,11):=by grind [WM]
  rw [e];exact we
 ·simp only [XB] at h1;refine (Nj n t hn.1).use (Zd ?_);refine cD ?_ ?_<;>intro h2<;>simp (disch:=omega) only [Sh.out h2,go_sem,seval]
  ·have e:WM n pr f t τ=(0,0,11):=by grind [WM]
   rw [e];exact we
  ·simp only [XB] at h2;refine cD ?_ ?_<;>intro h3<;>simp (disch:=omega) only [Sh.out h3,go_sem,seval,↓reduceIte]
   ·have e:WM n pr f t τ=(τ,0,0):=by grind [WM]
    rw [e];exact we
   ·have cf:=qJ n pr f t hn.2.1;have hm:= @K2 n pr f t
    have e0:WM n pr f t τ=if (Wz n pr f t).2=true then (Ic (Wz n pr f t).1 τ,(Wz n pr f t).1.miles,0) else (0,0,12):=by grind [WM]
    rw [e0];generalize Wz n pr f t=A at cf hm ⊢;obtain ⟨a,b⟩:=A;simp only at cf hm ⊢;refine X8 cf (Zd ?_);refine cD ?_ ?_<;>intro h4<;>simp (disch:=omega) only [Sh.out h4,go_sem,seval]
    ·have hb:b=false:=by grind
     subst hb;exact we (by simp (disch:=omega) only [go_sem,seval,↓reduceIte])
    ·have hb:b=true:=by grind
     subst hb;refine Xd (Zd ?_);refine Zn (qG a τ (hn.2.2 a (hm rfl)) hτ) (Zd ?_);exact we
def ET (s:Stp) (a:Int):Int×Int:=if max a s.opn>s.cls then (0,14) else (max a s.opn,0)
theorem P6 (s:Stp) (a:Int):PT 222 [.p (E3 s),.p (.int .i64 a)] [.p (.int .i64 (ET s a).1),.p (.int .i64 (ET s a).2)]:=by
 refine Ze [] Tryz.func222 rfl Zar ?_;simp (disch:=omega) only [Tryz.f222,go_sem,seval];refine cD ?_ ?_<;>intro h<;>simp (disch:=omega) only [Sh.out h,go_sem,seval]
 ·have e:ET s a=(0,14):=by simp_all [ET]
  rw [e];exact we
 ·have e:ET s a=(max a s.opn,0):=by simp_all [ET]
  rw [e];exact we
theorem jR (l:List Ord) (c:Bool) (p:Int) (hl:l.length<=1048576):PC 163 [.p (.list c (l.map eOrd)),.p (.int .i64 p)] (.bool (decide (0<=p)&&decide (p<(l.length:Int)))):=by
 refine Zc Tryz.func163 rfl gQ ?_;simp (disch:=omega) only [Tryz.f163,go_sem,seval];refine gT ?_ ?_<;>intro h<;>simp (disch:=omega) only [Sh.out h,go_sem,seval,↓reduceIte]
 all_goals simp [h]
theorem R3 (x:Inst) (v:Vis) (ho:x.orders.length<=1048576) (hv:MJ x v=true) (hp:0<=(XL x v).place):PT 168 [.p (.list x.orders_c (x.orders.map eOrd)),.p (Z3 v)] [.p (E3 (XL x v)),.p (.int .i64 0)]:=by
 refine Ze [] Tryz.func168 rfl zD ?_;simp (disch:=omega) only [Tryz.f168,go_sem,seval];have hv':=hv;rw [MJ] at hv';have ct:=jR x.orders x.orders_c v.order ho;rw [hv'] at ct;refine ct.use ?_;simp only [Zw,Zs] at hv';obtain ⟨h1,h2⟩:=hv'
 have hi:v.order.toNat<x.orders.length:=Za
 refine Zd ?_;refine cD ?_ ?_<;>intro hd<;>simp (disch:=omega) only [Sh.out hd,go_sem,seval,↓reduceIte]
 ·have e:XL x v=(nth x.orders v.order.toNat).drp:=by simp [XL,hd]
  rw [e] at hp ⊢
  have e3: ¬(nth x.orders v.order.toNat).drp.place<0:=Za
  simp (disch:=omega) only [e3,go_sem,seval];exact we
 ·have e:XL x v=(nth x.orders v.order.toNat).pick:=by simp [XL,hd]
  rw [e] at hp ⊢
  have e3: ¬(nth x.orders v.order.toNat).pick.place<0:=Za
  simp (disch:=omega) only [e3,go_sem,seval];exact we
theorem qI (l:List Typ) (c:Bool) (ht:l.length<=1048576):PC 264 [.p (.list c (l.map XU))] (.int .i64 (dimsOf l)):=by
 refine Zc Tryz.func264 rfl Za5 ?_;simp (disch:=omega) only [Tryz.f264,go_sem,seval];refine cD ?_ ?_<;>intro h1<;>simp (disch:=omega) only [Sh.out h1,go_sem,seval,↓reduceIte]
 ·grind [dimsOf]
 simp_all [dimsOf]
theorem qK (a b:List Int) (c d:Bool) (ha:a.length<=1048576) (hb:b.length<=1048576):PC 245 [.p (.list c (a.map eI)),.p (.list d (b.map eI))] (.bool (Qm a b)):=by
 refine Zc Tryz.func245 rfl ZaN ?_;simp (disch:=omega) only [Tryz.f245,go_sem,seval];refine cD ?_ ?_<;>intro h1<;>simp (disch:=omega) only [Sh.out h1,go_sem,seval]
 ·grind [Qm]
 ·have h1':a.length=b.length:=Za
  refine Zl [1,12,13] (fun k:Nat=> [(14,.p (.int .i64 k))]) (fun _=> []) (fun k=>k<=a.length/\ ∀j,j<k->nth a j<=nth b j) (fun k=>a.length-k) 0 Zb (Weak.mk ?_) ?_
  ·simp (disch:=omega) only [go_sem,seval]
  ·rintro k ⟨hk,hno⟩;refine Zd ?_;refine cD ?_ ?_<;>intro h2<;>simp (disch:=omega) only [Sh.out h2,go_sem,seval,↓reduceIte]
   ·have hk2:k<a.length:=Za
    refine ZU ?_ ?_<;>intro h3
    ·grind [Qm]
    ·exact ⟨k+1,⟨Za,Zp.2 ⟨hno,Za⟩⟩,Za,wk⟩
   ·have hkl:k=a.length:=Za
    simp_all [Qm]
theorem qF (t:Typ) (s:Int) (h1:t.skills<9223372036854775808) (h2:s<9223372036854775808):PC 241 [.p (XU t),.p (.int .i64 s)] (.bool (WI t s)):=by
 refine Zc Tryz.func241 rfl ZaJ ?_;simp (disch:=omega) only [Tryz.f241,go_sem,seval];refine gT ?_ ?_<;>intro c1<;>simp (disch:=omega) only [Sh.out c1,go_sem,seval,↓reduceIte]
 ·refine gT ?_ ?_<;>intro c2<;>simp (disch:=omega) only [Sh.out c2,go_sem,seval,↓reduceIte]
  ·obtain ⟨M,hM⟩: ∃M:Nat,t.skills=(M:Int):=⟨t.skills.toNat,Za⟩;obtain ⟨S,rfl⟩: ∃S:Nat,s=(S:Int):=⟨s.toNat,Za⟩;have hb:=DA (S:=S) (M:=M) Za
   have e:WI t (S:Int)=(List.range 63).all fun i=> !S.testBit i||M.testBit i:=by
    simp_all [WI]
   have hd:decide (IntKind.i64.wrap ((BitVec.ofInt 64 (S:Int)&&& ~~~BitVec.ofInt 64 (M:Int)).toNat:Int)=0)=((List.range 63).all fun i=> !S.testBit i||M.testBit i):=by
    grind
   rw [e,hM];exact ZT (fun b=>V.p (PV.bool b)) hd
  grind [WI]
 grind [WI]
theorem Zb2 (a b:Int) (h: -1073741824<=a/\a<=1073741824/\ -1073741824<=b/\b<=1073741824):PC 280 [.p (.int .i64 a),.p (.int .i64 b)] (.int .i64 (a+b)):=by
 refine Zc Tryz.func280 rfl Zbl ?_;simp (disch:=omega) only [Tryz.f280,go_sem,seval]
theorem pO (a b:Int) (h: -1073741824<=a/\a<=1073741824/\ -1073741824<=b/\b<=1073741824):PC 281 [.p (.int .i64 a),.p (.int .i64 b)] (.int .i64 (a-b)):=by
 refine Zc Tryz.func281 rfl Zbm ?_;simp (disch:=omega) only [Tryz.f281,go_sem,seval]
def bQ (f:Nat->Int) (n k:Nat):List Int:=(List.range n).map fun j=>if j<k then f j else 0
theorem pP {f:Nat->Int} {n k:Nat} :(bQ f n k).length=n:=by simp [bQ]
theorem iO {f:Nat->Int} {n:Nat} :bQ f n 0=List.replicate n 0:=by
 apply QR (by simp [bQ]);grind [bQ]
theorem iN {f:Nat->Int} {n:Nat} :bQ f n n=(List.range n).map f:=by
 simp_all [bQ]
theorem pQ {f:Nat->Int} {n k:Nat} (h:k<n):(bQ f n k).set k (f k)=bQ f n (k+1):=by
 apply QR (by simp [bQ]);grind [bQ]
theorem GY (a b:List Int) (c d:Bool) (g:FuncId) (f:Int->Int->Int) (hl:a.length=b.length) (ha:a.length<=1048576)
  (hf: ∀j,j<a.length->ACalls Tryz.prog g [.p (.int .i64 (nth a j)),.p (.int .i64 (nth b j))] [] fun x H'=>x= .p (.int .i64 (f (nth a j) (nth b j)))/\H'= []) :
  PT 279 [.p (.list c (a.map eI)),.p (.list d (b.map eI)),.fn (.func g) [] []] [.p (.list false (((List.range a.length).map fun j=>f (nth a j) (nth b j)).map eI)),.p (.int .i64 0)]:=by
 refine Ze [9] Tryz.func279 rfl Zbk ?_;simp (disch:=omega) only [Tryz.f279,go_sem,seval];refine cD ?_ ?_<;>intro h0<;>simp (disch:=omega) only [Sh.out h0,go_sem,seval]
 ·omega
 ·have hz:=iO (f:=fun j=>f (nth a j) (nth b j)) (n:=a.length);have hml:=fun k=>pP (f:=fun j=>f (nth a j) (nth b j)) (n:=a.length) (k:=k);refine ZV [9] [0,1,2,8,19] (fun k:Nat=> [(20,.p (.int .i64 k))]) (fun k=> [.elems 1 ((bQ (fun j=>f (nth a j) (nth b j)) a.length k).map eI)]) (fun k=>k<=a.length) (fun k=>a.length-k) 0 Zb (Weak.mk ?_) ?_
  ·simp (disch:=omega) only [hz,go_sem,seval];rw [B4];rfl
  ·intro k hk;refine Zd ?_;refine cD ?_ ?_<;>intro h1<;>simp (disch:=omega) only [Sh.out h1,go_sem,seval,↓reduceIte]
   ·have hk2:k<a.length:=Za
    have hs:=pQ (f:=fun j=>f (nth a j) (nth b j)) (n:=a.length) hk2;have hk3:=hml k;refine ZB 12 mixed Zg Zg ?_;refine Zd ?_;refine Zn (hf k hk2) ?_;refine Zd ?_;simp (disch:=first | omega | (simp only [ZA,ZF,Zz,Zy,Z6,Xt]<;>omega)) only [go_sem,seval,↓reduceIte];refine ⟨k+1,Za,Za,Weak.mk ?_⟩;simp (disch:=omega) only [<- hs,go_sem,seval];rw [Up];rfl
   ·have hkl:k=a.length:=Za
    subst hkl;rw [<- iN];have hk3:=hml a.length;refine Zo (Weak.fz (o:=0) (by rfl)) ?_;refine Zh [] _ _ _ _ ?_;simp (disch:=omega) only [Zq,Zj,ZY,go_sem,seval];rw [if_pos hk3];exact we
theorem jJ (a b:List Int) (c d:Bool) (hl:a.length=b.length) (ha:a.length<=1048576) (h: ∀j,j<a.length-> -1073741824<=nth a j/\nth a j<=1073741824/\ -1073741824<=nth b j/\nth b j<=1073741824):PT 265 [.p (.list c (a.map eI)),.p (.list d (b.map eI))] [.p (.list false ((EF a b).map eI)),.p (.int .i64 0)]:=by
 refine Ze [] Tryz.func265 rfl Za6 ?_;simp (disch:=omega) only [Tryz.f265,go_sem,seval];refine X8 (GY a b c d 280 (fun m n=>m+n) hl ha fun j hj=>Zb2 _ _ (h j hj)) ?_;simp (disch:=omega) only [EF,go_sem,seval];exact we
theorem ZbZ (a b:List Int) (c d:Bool) (hl:a.length=b.length) (ha:a.length<=1048576) (h: ∀j,j<a.length-> -1073741824<=nth a j/\nth a j<=1073741824/\ -1073741824<=nth b j/\nth b j<=1073741824):PT 266 [.p (.list c (a.map eI)),.p (.list d (b.map eI))] [.p (.list false ((rQ a b).map eI)),.p (.int .i64 0)]:=by
 refine Ze [] Tryz.func266 rfl Za7 ?_;simp (disch:=omega) only [Tryz.f266,go_sem,seval];refine X8 (GY a b c d 281 (fun m n=>m-n) hl ha fun j hj=>pO _ _ (h j hj)) ?_;simp (disch:=omega) only [rQ,go_sem,seval];exact we
theorem jN (x:Inst) (r:Rte) (ht:0<=r.typ/\r.typ<(x.types.length:Int)) (hv: ∀v∈r.visits,MJ x v=true) (hl:r.visits.length<=1048576) (hxl:x.types.length<=1048576) (hol:x.orders.length<=1048576)
  (hs:(Z0 x r).skills<9223372036854775808) (ho: ∀o∈x.orders,o.skills<9223372036854775808) :
  PC 212 [.p (Zr x),.p (Wg r)] (.int .i64 (if (r.visits.any fun v=> !WI (Z0 x r) (nth x.orders v.order.toNat).skills)=true then 18 else 0)):=by
 refine Zc Tryz.func212 rfl Zah ?_;simp (disch:=omega) only [Tryz.f212,go_sem,seval];refine Zl [2,3,8,9] (fun k:Nat=> [(10,.p (.int .i64 k))]) (fun _=> [Zf x,.cells [.p (.int .i64 r.typ),.p (.int .i64 r.start),.p (.list r.rests_c (r.rests.map eB)),.p (.list r.visits_c (r.visits.map Z3))]]) (fun k=>k<=r.visits.length/\ ∀j,j<k->WI (Z0 x r) (nth x.orders (nth r.visits j).order.toNat).skills=true) (fun k=>r.visits.length-k) 0 Zb (Weak.mk ?_) ?_
 ·simp (disch:=omega) only [Zf,go_sem,seval]
 ·rintro k ⟨hk,hno⟩;refine YD ?_;refine cD ?_ ?_<;>intro h1<;>simp (disch:=omega) only [Sh.out h1,go_sem,seval,↓reduceIte]
  ·have hk2:k<r.visits.length:=Za
   have hin:=hv _ (ZX hk2);simp only [MJ,Zw,Zs] at hin;obtain ⟨i1,i2⟩:=hin
   have hi:(nth r.visits k).order.toNat<x.orders.length:=Za
   have ho':=ho _ (ZX hi);refine Xd (Zd ?_);refine Zn (qF (Z0 x r) (nth x.orders (nth r.visits k).order.toNat).skills Za Za) (Zd ?_);refine ZU ?_ ?_<;>intro h2
   ·have:(r.visits.any fun v=> !WI (Z0 x r) (nth x.orders v.order.toNat).skills)=true:=by
     grind [ZX]
    grind
   ·exact ⟨k+1,⟨Za,Zp.2 ⟨hno,by grind⟩⟩,Za,wk⟩
  ·have: ¬(r.visits.any fun v=> !WI (Z0 x r) (nth x.orders v.order.toNat).skills)=true:=by
    rw [JH];rintro ⟨v,hv,e⟩;obtain ⟨j,hj,rfl⟩:=ZN.1 hv
    grind [Zk]
   grind
def Sf (x:Inst) (d:Nat) (ms:List Int) (k:Nat):List Int:=(ms.take k).foldl (fun s i=>if (nth x.orders i.toNat).pick.place<0 then EF s (nth x.orders i.toNat).load else s) (List.replicate d 0)
theorem NL {x:Inst} {d:Nat} {ms:List Int} {k:Nat} (h:k<ms.length):Sf x d ms (k+1)=if (nth x.orders (nth ms k).toNat).pick.place<0 then EF (Sf x d ms k) (nth x.orders (nth ms k).toNat).load else Sf x d ms k:=by
 grind [Sf,Xm,Zk]
theorem Sg {x:Inst} {d:Nat} {ms:List Int} (hms: ∀i∈ms,∀j,j<d->0<=nth (nth x.orders i.toNat).load j/\nth (nth x.orders i.toNat).load j<=1000): ∀k,k<=ms.length->(Sf x d ms k).length=d/\ ∀j,j<d->0<=nth (Sf x d ms k) j/\nth (Sf x d ms k) j<=1000*k
 | 0,_=>by
  grind [Sf,Zk]
 | k+1,h=>by
  obtain ⟨h1,h2⟩:=Sg hms k Za;rw [NL Za]
  split
  ·refine ⟨by simp [EF,h1],fun j hj=> ?_⟩;have a1:=h2 j hj;have a2:=hms _ (ZX (show k<ms.length by omega)) j hj;rw [EF,KC Za];omega
  ·exact ⟨h1,fun j hj=>by have:=h2 j hj;omega⟩
theorem rO (x:Inst) (S:Int) (d:Nat) (hd:d<=3) (hol:x.orders.length<=1048576) (hms: ∀i∈XT S 63,0<=i/\i<(x.orders.length:Int)) (hml:(XT S 63).length<=63)
  (hld: ∀o∈x.orders,o.load.length=d/\ ∀n∈o.load,0<=n/\n<=1000) :
  PC 263 [.p (Zr x),.p (.int .i64 S),.p (.int .i64 (d:Int))] (.list false ((Sf x d (XT S 63) (XT S 63).length).map eI)):=by
 have hmo: ∀i∈XT S 63,i.toNat<x.orders.length:=fun i hi=>by grind
 have hrg:=Sg (x:=x) (d:=d) (ms:=XT S 63) fun i hi j hj=>by
  grind [ZX]
 refine Zc Tryz.func263 rfl Za4 ?_;simp (disch:=omega) only [Tryz.f263,go_sem,seval];refine (C9 S).useF (Zd ?_);refine Zo ((Weak.fz (o:=1) (by rfl)).trans (Weak.fz (o:=2) (by rfl))) ?_;simp (disch:=omega) only [Zq,Zj,ZK,ZY,Ei,eq_self,go_sem,seval]
 have hz:List.replicate d (PV.int .i64 0)=(Sf x d (XT S 63) 0).map eI:=by
  show _=(List.replicate d 0).map eI
  rw [B4];rfl
 refine Zl [3,13,14] (fun k:Nat=> [(7,.p (.list false ((Sf x d (XT S 63) k).map eI))),(15,.p (.int .i64 k))]) (fun _=> [Zf x,.dead,.dead]) (fun k=>k<=(XT S 63).length) (fun k=>(XT S 63).length-k) 0 Zb (Weak.mk ?_) ?_
 ·simp (disch:=omega) only [Zf,hz,go_sem,seval]
 ·intro k hk;have hk1:=hrg k hk;have hsn:=fun h=>NL (x:=x) (d:=d) (ms:=XT S 63) (k:=k) h;refine YD ?_;refine cD ?_ ?_<;>intro h1<;>simp (disch:=omega) only [Sh.out h1,go_sem,seval,↓reduceIte]
  ·have hk2:k<(XT S 63).length:=Za
   have hm:=hms _ (ZX hk2);have hi:=hmo _ (ZX hk2);have hlo:=hld _ (ZX hi);have hsn:=hsn hk2;refine Zd ?_;refine ZU ?_ ?_<;>intro h2
   ·rw [if_pos h2] at hsn;refine X8 (jJ (Sf x d (XT S 63) k) (nth x.orders (nth (XT S 63) k).toNat).load false (nth x.orders (nth (XT S 63) k).toNat).load_c Za Za fun j hj=> ?_) ?_
    ·have b1:=hk1.2 j Za;have b2:=hlo.2 _ (ZX (show j<(nth x.orders (nth (XT S 63) k).toNat).load.length by omega));omega
    ·refine Zd ?_;exact ⟨k+1,Za,Za,Weak.mk (by simp (disch:=omega) only [hsn,go_sem,seval])⟩
   ·rw [if_neg h2] at hsn;exact ⟨k+1,Za,Za,Weak.mk (by simp (disch:=omega) only [hsn,go_sem,seval])⟩
  grind
theorem OP {p:Nat->Bool} {n:Nat} (h: ∀i,n<=i->p i=false): ∀k,n<=k->(List.range k).filter p=(List.range n).filter p:=by
 intro k hk
 induction k with
 | zero=>grind
 | succ k ih =>
  grind [X4]
theorem Zis {x:Inst} {l:List Vis} (hi:Inr x l) (hn:x.orders.length<=10):XT ((X7 l:Nat):Int) 63=((List.range x.orders.length).filter fun (i:Nat)=>hasO l (i:Int)).map fun (i:Nat)=>(i:Int):=by
 have key: ∀i:Nat,i<=62->sHas ((X7 l:Nat):Int) (i:Int)=hasO l (i:Int):=fun i h=>by
  rw [Wo _ _ h,Wl,Cl,WN]
  constructor
  ·rintro ⟨v,hv,e⟩;exact ⟨v,hv,by have:=hi v hv;omega⟩
  grind
 unfold XT;rw [Aa (q:=fun (i:Nat)=>hasO l (i:Int)) (fun i hm=>key i (by grind)),OP (n:=x.orders.length) (fun i h=> ?_) 63 Za]
 cases hh:hasO l (i:Int) with
 | false=>rfl
 | true =>
  obtain ⟨v,hv,e⟩:=WN.1 hh;have:=hi v hv;omega
theorem fT {x:Inst} {d:Nat} : ∀(L:List Nat) (g:Nat->Int),(L.map fun (i:Nat)=>(i:Int)).foldl (fun s (i:Int)=>if (nth x.orders i.toNat).pick.place<0 then EF s (nth x.orders i.toNat).load else s) ((List.range d).map g)=(List.range d).map fun j=>g j+(L.map fun i=>if (nth x.orders i).pick.place<0 then nth (nth x.orders i).load j else 0).sum
 | [],g=>Zb
 | i::L,g=>by
  rw [Zq,XG,XS]
  by_cases h:(nth x.orders i).pick.place<0
  ·have e:EF ((List.range d).map g) (nth x.orders i).load=(List.range d).map fun j=>g j+nth (nth x.orders i).load j:=by
    grind [EF,Vi,KC]
   rw [if_pos h,e,fT L]
   grind
  ·rw [if_neg h,fT L]
   grind
theorem aX {x:Inst} {l:List Vis} (hi:Inr x l) (hn:x.orders.length<=10):Sf x (dimsOf x.types).toNat (XT ((X7 l:Nat):Int) 63) (XT ((X7 l:Nat):Int) 63).length=Wf x l 0:=by
 rw [Sf,X3,Zis hi hn];have:=fT (x:=x) (d:=(dimsOf x.types).toNat) ((List.range x.orders.length).filter fun (i:Nat)=>hasO l (i:Int)) fun _=>0
 have e:(List.range (dimsOf x.types).toNat).map (fun _=>(0:Int))=List.replicate (dimsOf x.types).toNat 0:=by
  simp_all [List.map_const']
 rw [e] at this;rw [this,Wf];refine Vi fun j _=> ?_;rw [Int.zero_add,J4,D0]
 congr 1
 refine Vi fun i _=> ?_
 grind [jC]
theorem lG {x:Inst} {l:List Vis} {n j:Nat} {d:Nat} (hj:j<d) (hld: ∀o∈x.orders,o.load.length=d/\ ∀n∈o.load,0<=n/\n<=1000) (hn:x.orders.length<=10):0<=D0 x l n j/\D0 x l n j<=10000:=by
 have key:=Si (f:=fun i=>if i<x.orders.length then (if (GD x l n i&&hasO l i)=true then nth (nth x.orders i).load j else 0) else 0) (b:=1000) Za (fun q=>by
  grind [ZX]) x.orders.length
 have e:D0 x l n j=((List.range x.orders.length).map fun i=>if i<x.orders.length then (if (GD x l n i&&hasO l i)=true then nth (nth x.orders i).load j else 0) else 0).sum:=by
  simp_all [D0,Vi]
 omega
theorem cN {x:Inst} {l:List Vis} {n j:Nat} (hj:j<(dimsOf x.types).toNat) (hd:LdOk x):0<=nth (Wf x l n) j/\nth (Wf x l n) j<=10000:=by
 rw [Wf,KC hj];exact lG hj (fun o ho=>by obtain ⟨h1,h2⟩:=hd.load o ho;grind) hd.ord
def tM {α:Type} (f:α->Bool) (l:List α):Int:=match l.findIdx? f with | some i=>(i:Int) | none=> -1
theorem fV {α:Type} [Inhabited α] {f:α->Bool} {l:List α} {k:Nat} (hk:k<l.length) (h:f (nth l k)=true) (hno: ∀j,j<k->f (nth l j)=false):tM f l=(k:Int):=by
 have:l.findIdx? f=some k:=by
  grind [VC,Zk]
 simp [tM,this]
theorem fX {α:Type} [Inhabited α] {f:α->Bool} {l:List α} (hno: ∀j,j<l.length->f (nth l j)=false):tM f l= -1:=by
 have:l.findIdx? f=none:=by
  rw [Ee];intro x hx;obtain ⟨j,hj,rfl⟩:=ZN.1 hx
  grind [Zk]
 simp [tM,this]
theorem fW {α:Type} {f:α->Bool} {l:List α} :decide (0<=tM f l)=l.any f:=by
 grind [tM]
theorem Tt (l:List (List Int)) (c:Bool) (g:FuncId) (caps:List V) (H:List AM.Obj) (f:List Int->Bool) (hl:l.length<=1048576) (hW:N3 H H.length H H) (hc:Xi H.length caps=true)
  (hg: ∀v∈l,ACalls Tryz.prog g (.p (mE v)::caps) H fun x H'=>x= .p (.bool (f v))/\H'=H) :
  ACalls Tryz.prog 267 [.p (.list c (l.map mE)),.fn (.func g) [] caps] H fun x H'=>x= .p (.int .i64 (tM f l))/\H'=H:=by
 refine YG Tryz.func267 rfl Za8 (Zh [] _ _ _ _ ?_);simp (disch:=omega) only [Tryz.f267,go_sem,seval];refine Zl [0,1,7] (fun k:Nat=> [(8,.p (.int .i64 k))]) (fun _=>H) (fun k=>k<=l.length/\ ∀j,j<k->f (nth l j)=false) (fun k=>l.length-k) 0 Zb (Weak.mk ?_) ?_
 ·simp (disch:=omega) only [hW,hc,go_sem,seval];simp
 ·rintro k ⟨hk,hno⟩;refine Zd ?_;refine cD ?_ ?_<;>intro h<;>simp (disch:=omega) only [Sh.out h,go_sem,seval,↓reduceIte]
  ·have hk2:k<l.length:=Za
   have hgk:=hg (nth l k) (Zu hk2);simp (disch:=omega) only [wW,go_sem,seval] at hgk;refine hgk.useH (Zd ?_);refine cD ?_ ?_<;>intro h2<;>simp (disch:=omega) only [Sh.out h2,go_sem,seval,↓reduceIte]
   ·grind [fV]
   ·have h3:f (nth l k)=false:=Za
    refine ⟨k+1,⟨Za,Zp.2 ⟨hno,h3⟩⟩,Za,Weak.mk ?_⟩;simp (disch:=omega) only [hW,hc,go_sem,seval];simp
  grind [fX]
theorem Ix (l:List (List Int)) (c:Bool) (g:FuncId) (caps:List V) (H:List AM.Obj) (f:List Int->Bool) (hl:l.length<=1048576) (hW:N3 H H.length H H) (hc:Xi H.length caps=true)
  (hg: ∀v∈l,ACalls Tryz.prog g (.p (mE v)::caps) H fun x H'=>x= .p (.bool (f v))/\H'=H) :
  ACalls Tryz.prog 243 [.p (.list c (l.map mE)),.fn (.func g) [] caps] H fun x H'=>x= .p (.bool (l.any f))/\H'=H:=by
 refine YG Tryz.func243 rfl ZaL (Zh [] _ _ _ _ ?_);simp (disch:=omega) only [Tryz.f243,go_sem,seval];refine (Tt l c g caps H f hl hW hc hg).useH (Zd ?_);rw [fW]
theorem jP (x:Inst) (r:Rte) (hx:InstOk x) (hl:r.visits.length<=1048576):PC 211 [.p (Zr x),.p (Wg r)] (.int .i64 (Xr x r.visits)):=by
 have hf:=X0 hx;obtain ⟨h1,h2⟩:=Ug.1 hx.rules
 have ha:x.apart.length<=1048576:=by
  have h3:=(Ug.1 h1).1
  grind [MF]
 have hb:x.before.length<=1048576:=by
  have h3:=(Ug.1 h2).1
  grind [MF]
 exact Pz x r (by have:=hf.len;omega) hl ha hb
theorem qE {x:Inst} {l:List Vis} (hi:Inr x l) (hn:x.orders.length<=10):QU l=(((X7 l:Nat):Int),0):=by
 rw [QU,if_pos];rw [ZC];intro v hv;have:=hi v hv;simp [GB];omega
theorem ZoO {α:Type} (f:Nat->α) (n:Nat):(List.range n).map f++ [f n]=(List.range (n+1)).map f:=by grind [X4]
theorem jM (x:Inst) (r:Rte) (hx:InstOk x) (hl:r.visits.length<=1048576) (h0:Xr x r.visits=0) :
  PT 242 [.p (Zr x),.p (Wg r)] [.p (.list false ((Qs x r.visits).map mE)),.p (.int .i64 0)]:=by
 have hd:=Qo hx;have hsq:=UN h0;have hol:=hd.ord;have hso:=ND r hl;rw [qE hsq.inr hol] at hso
 have hD:dimsOf x.types=((dimsOf x.types).toNat:Int):=by have:=hd.dim;omega
 have cd:=qI x.types x.types_c hd.typ;rw [hD] at cd;have hst:=aX hsq.inr hol
 have hmem: ∀i∈XT ((X7 r.visits:Nat):Int) 63,0<=i/\i<(x.orders.length:Int):=fun i hi=>by
  rw [Zis hsq.inr hol] at hi
  grind
 have cs:=rO x ((X7 r.visits:Nat):Int) (dimsOf x.types).toNat (by have:=hd.dim;omega) Za hmem (Cc _ _) (fun o ho=>by have:=hd.load o ho;grind);rw [hst] at cs;refine Ze [20] Tryz.func242 rfl ZaK ?_;simp (disch:=omega) only [Tryz.f242,go_sem,seval];refine (jP x r hx hl).use (Zd ?_);simp (disch:=omega) only [h0,go_sem,seval];refine X8 hso (Zd ?_);refine Xd (Zd ?_);refine Zn (cd) (Zd ?_);refine Zn (cs) (Zd ?_);refine ZV [20] [2,37,38] (fun q:Nat×List (List Int)=> [(9,.p (.list false ((Wf x r.visits q.1).map eI))),(10,.sl 2 0 q.2.length q.2.length),(39,.p (.int .i64 q.1))]) (fun q=> [Zf x,Xo r,.elems 1 (q.2.map mE)]) (fun q=>q.1<=r.visits.length/\q.2=(List.range (q.1+1)).map (Wf x r.visits)) (fun q=>r.visits.length-q.1) (0,[Wf x r.visits 0]) Zb (Weak.mk ?_) ?_
 ·simp (disch:=omega) only [Zf,Xo,Zj,Zq,ZF,ZA,go_sem,seval]
 ·rintro ⟨k,o⟩ ⟨hk,ho⟩;simp only at hk ho
  have hol2:o.length=k+1:=by rw [ho];simp
  refine KQ ?_;refine cD ?_ ?_<;>intro h1<;>simp (disch:=omega) only [Sh.out h1,go_sem,seval,↓reduceIte]
  ·have hk2:k<r.visits.length:=Za
   obtain ⟨v1,v2⟩:=hsq.inr _ (Zu hk2)
   have hi:(nth r.visits k).order.toNat<x.orders.length:=Za
   obtain ⟨l1,l2⟩:=hd.load _ (ZX hi);have hsu:=SB hsq hk2;have hal:=EG (x:=x) (l:=r.visits) (n:=k);have hdm:=hd.dim
   have hrg: ∀j,j<(Wf x r.visits k).length-> -1073741824<=nth (Wf x r.visits k) j/\nth (Wf x r.visits k) j<=1073741824/\ -1073741824<=nth (nth x.orders (nth r.visits k).order.toNat).load j/\nth (nth x.orders (nth r.visits k).order.toNat).load j<=1073741824:=fun j hj=>by
    have b1:=cN (x:=x) (l:=r.visits) (n:=k) (j:=j) Za hd
    grind [ZX]
   refine cD ?_ ?_<;>intro h2<;>simp (disch:=omega) only [Sh.out h2,go_sem,seval,↓reduceIte]
   ·rw [if_pos h2] at hsu;refine X8 (ZbZ (Wf x r.visits k) (nth x.orders (nth r.visits k).order.toNat).load false (nth x.orders (nth r.visits k).order.toNat).load_c Za Za hrg) (Zd ?_);exact ⟨(k+1,o++ [Wf x r.visits (k+1)]),⟨Za,by grind⟩,Za,Weak.mk (by simp (disch:=omega) only [hsu,Zz,ZA,ZF,Xn,Zq,Zj,go_sem,seval])⟩
   ·rw [if_neg (by rw [h2];simp)] at hsu;refine X8 (jJ (Wf x r.visits k) (nth x.orders (nth r.visits k).order.toNat).load false (nth x.orders (nth r.visits k).order.toNat).load_c Za Za hrg) (Zd ?_);exact ⟨(k+1,o++ [Wf x r.visits (k+1)]),⟨Za,by grind⟩,Za,Weak.mk (by simp (disch:=omega) only [hsu,Zz,ZA,ZF,Xn,Zq,Zj,go_sem,seval])⟩
  ·have hkl:k=r.visits.length:=Za
   subst hkl;refine Zo (Weak.fz (o:=2) (by rfl)) (Zh [] _ _ _ _ (Jl ?_));rw [Qs,<- ho];exact we
theorem oY (x:Inst) (r:Rte) (a:List Int) (htl:x.types.length<=1048576) (hty:0<=r.typ/\r.typ<(x.types.length:Int)) (ha:a.length<=1048576) (hc:(Z0 x r).cap.length<=1048576) :
  ACalls Tryz.prog 244 [.p (mE a),.ptr 0 0,.ptr 1 0] [Zf x,Xo r] fun y H'=>y= .p (.bool (!Qm a (Z0 x r).cap))/\H'= [Zf x,Xo r]:=by
 have hti:r.typ.toNat<x.types.length:=Za
 refine Ze [] Tryz.func244 rfl ZaM ?_;simp (disch:=omega) only [Tryz.f244,Zf,Xo,go_sem,seval];refine (qK a (Z0 x r).cap false (Z0 x r).cap_c ha hc).use (Zd ?_);exact we
theorem jK (x:Inst) (r:Rte) (hx:InstOk x) (hl:r.visits.length<=1048576) (hty:0<=r.typ/\r.typ<(x.types.length:Int)) (h0:Xr x r.visits=0) :
  PC 213 [.p (Zr x),.p (Wg r)] (.int .i64 (if Qr x (Z0 x r).cap r.visits=true then 0 else 17)):=by
 have hd:=Qo hx;have htl:=hd.typ
 have hti:r.typ.toNat<x.types.length:=Za
 have hcp:(Z0 x r).cap.length<=1048576:=by
  have hcap:=hx.types.2 _ hti;unfold Jo at hcap;obtain ⟨⟨⟨⟨⟨⟨⟨⟨_,_⟩,_⟩,_⟩,hcap⟩,_⟩,_⟩,_⟩,_⟩:=hcap;simp only [Vd,Zw,Zs,rng] at hcap;unfold Z0;omega
 have hll:(Qs x r.visits).length=r.visits.length+1:=by simp [Qs]
 have hvl:=(UN h0).len hd.ord
 have hall:(Qs x r.visits).any (fun a=> !Qm a (Z0 x r).cap)= !Qr x (Z0 x r).cap r.visits:=by
  grind [Qr,Qs]
 have e1: ¬r.typ<0:=Za
 have e2: ¬(x.types.length:Int)<=r.typ:=Za
 refine Zc Tryz.func213 rfl Zai ?_;simp (disch:=omega) only [Tryz.f213,e1,e2,go_sem,seval];refine X8 (jM x r hx hl h0) (Zd ?_);refine (Ix (Qs x r.visits) false 244 [.ptr 0 0,.ptr 1 0] [Zf x,Xo r] (fun a=> !Qm a (Z0 x r).cap) Za (by simp (disch:=omega) only [Zf,Xo,go_sem,seval]) (by rfl) (fun a ha=>oY x r a htl hty ?_ hcp)).useH ?_
 ·obtain ⟨j,_,rfl⟩:=XO.1 ha;rw [EG];have:=hd.dim;omega
 ·refine KQ ?_;rw [hall];refine cD ?_ ?_<;>intro h1<;>simp (disch:=omega) only [Sh.out h1,go_sem,seval]
  ·grind
  grind
theorem Gv (l:List Int) (c:Bool) (hl:l.length<=1048576):ACalls Tryz.prog 94 [.p (.list c (l.map eI))] [] fun y H'=>y= .sl 0 0 l.length l.length/\H'= [.elems 1 (l.map eI)]:=by
 refine Ze [1] Tryz.func94 rfl Zid ?_;simp (disch:=omega) only [Tryz.f94,go_sem,seval];refine YP (EQ (e:=3) (cl:=c) (xs:=l.map eI) Tryz.underlying55 (by rfl) Zb fun b hb=> ?_);refine Zh [] _ _ _ _ ?_;simp (disch:=omega) only [go_sem,seval];refine cD ?_ ?_<;>intro h<;>simp (disch:=omega) only [Sh.out h,go_sem,seval]
 ·have:l= []:=by simpa using hb h
  subst this;exact ⟨_,_,Weak.nil 0 1 rfl Zb,rfl,rfl⟩
 ·refine Zh [] _ _ _ _ ?_;simp (disch:=omega) only [go_sem,seval];exact we
theorem KX {P:Program} {e:TypeId} {k:Nat} {cs:List PV} {kk:IntKind} {n:Int} {x:PV} (h0:0<=n) (h1:n<k) (hx:apart P e cs n.toNat=some x) (ht:YJ P e=some 1):LN P (some (.array k e)) (.p (.agg cs)) (.p (.int kk n))=some (.p x):=by
 simp_all [LN]
def Zgo (s:Sco):PV:= .agg [.int .i64 s.cost,.int .i64 s.moved,.int .i64 s.other,.int .i64 s.work]
@[go_sem] theorem Zkh (s:Sco):Zgo s= .agg [.int .i64 s.cost,.int .i64 s.moved,.int .i64 s.other,.int .i64 s.work]:=Zm rfl rfl
theorem jQ (s:Sco):PC 176 [.p (DV s)] (Zgo s):=by
 refine Ze [] Tryz.func176 rfl zM ?_;simp (disch:=omega) only [Tryz.f176,go_sem,seval];exact we
def scoR (B:Int) (s:Sco):Prop:=(-B<=s.cost/\s.cost<=B)/\(-B<=s.moved/\s.moved<=B)/\(-B<=s.other/\s.other<=B)/\(-B<=s.work/\s.work<=B)
def mX (s:Sco):AM.Obj:= .cells [.p (.int .i64 s.cost),.p (.int .i64 s.moved),.p (.int .i64 s.other),.p (.int .i64 s.work)]
def YW (s:Sco):Int×Int:=if s.cost<0\/s.moved<0\/s.other<0\/s.work<0 then (0,2) else if 1073741824<s.cost\/16<=s.moved\/16<=s.other\/65536<=s.work then (0,4) else (((s.cost*16+s.moved)*16+s.other)*65536+s.work,0)
theorem Ht (s:Sco) (hs:scoR 1152921504606846976 s):PT 139 [.p (DV s)] [.p (.int .i64 (YW s).1),.p (.int .i64 (YW s).2)]:=by
 obtain ⟨a1,a2,a3,a4⟩:=hs;refine Ze [] Tryz.func139 rfl yH ?_;simp (disch:=omega) only [Tryz.f139,go_sem,seval];refine (jQ s).use (Zd ?_);refine Zl [1,9] (fun k:Nat=> [(10,.p (.int .i64 k))]) (fun _=> [mX s,mX s]) (fun k=>k<=4/\(0<k->0<=s.cost)/\(1<k->0<=s.moved)/\(2<k->0<=s.other)/\(3<k->0<=s.work)) (fun k=>4-k) 0 ⟨Za,Za,Za,Za,Za⟩ (Weak.mk ?_) ?_
 ·simp (disch:=omega) only [mX,go_sem,seval]
 ·rintro k ⟨hk,k1,k2,k3,k4⟩;simp (disch:=omega) only [mX,go_sem,seval];refine cD ?_ ?_<;>intro h1<;>simp (disch:=omega) only [Sh.out h1,go_sem,seval,↓reduceIte]
  ·have:k=0\/k=1\/k=2\/k=3:=Za
   rcases this with rfl | rfl | rfl | rfl
   ·rw [KX (x:= .int .i64 s.cost) Za Za (by rfl) Zg];refine Zd ?_;refine ZU ?_ ?_<;>intro h2
    ·have e:YW s=(0,2):=by simp_all [YW]
     rw [e];exact we
    ·exact ⟨1,⟨Za,fun _=>Za,Za,Za,Za⟩,Za,wk⟩
   ·rw [KX (x:= .int .i64 s.moved) Za Za (by rfl) Zg];refine Zd ?_;refine ZU ?_ ?_<;>intro h2
    ·have e:YW s=(0,2):=by simp_all [YW]
     rw [e];exact we
    ·exact ⟨2,⟨Za,fun _=>k1 Za,fun _=>Za,Za,Za⟩,Za,wk⟩
   ·rw [KX (x:= .int .i64 s.other) Za Za (by rfl) Zg];refine Zd ?_;refine ZU ?_ ?_<;>intro h2
    ·have e:YW s=(0,2):=by simp_all [YW]
     rw [e];exact we
    ·exact ⟨3,⟨Za,fun _=>k1 Za,fun _=>k2 Za,fun _=>Za,Za⟩,Za,wk⟩
   ·rw [KX (x:= .int .i64 s.work) Za Za (by rfl) Zg];refine Zd ?_;refine ZU ?_ ?_<;>intro h2
    ·have e:YW s=(0,2):=by simp_all [YW]
     rw [e];exact we
    ·exact ⟨4,⟨Za,fun _=>k1 Za,fun _=>k2 Za,fun _=>k3 Za,fun _=>Za⟩,Za,wk⟩
  ·have hk4:k=4:=Za
   subst hk4;have g1:=k1 Za;have g2:=k2 Za;have g3:=k3 Za;have g4:=k4 Za
   have n1: ¬(s.cost<0\/s.moved<0\/s.other<0\/s.work<0):=Za
   have bad:(1073741824<s.cost\/16<=s.moved\/16<=s.other\/65536<=s.work)->YW s=(0,4):=fun h=>by simp_all [YW]
   refine gF ?_ ?_<;>intro h2<;>simp (disch:=omega) only [Sh.out h2,go_sem,seval,↓reduceIte]
   ·rw [bad Za];exact we
   ·refine gF ?_ ?_<;>intro h3<;>simp (disch:=omega) only [Sh.out h3,go_sem,seval,↓reduceIte]
    ·rw [bad Za];exact we
    ·refine gF ?_ ?_<;>intro h4<;>simp (disch:=omega) only [Sh.out h4,go_sem,seval,↓reduceIte]
     ·rw [bad Za];exact we
     ·refine cD ?_ ?_<;>intro h5<;>simp (disch:=omega) only [Sh.out h5,go_sem,seval,↓reduceIte]
      ·rw [bad Za];exact we
      ·have e:YW s=(((s.cost*16+s.moved)*16+s.other)*65536+s.work,0):=by simp_all [YW,if_neg]
       rw [e];exact we
def unsF (x:Inst) (i:Int):Sco×Int :=
 if i<0\/(x.orders.length:Int)<=i then (zSco,2)
 else if (nth x.orders i.toNat).off=true then (zSco,9)
 else if (nth x.orders i.toNat).penalty= -1 then (zSco,23)
 else (⟨(nth x.orders i.toNat).penalty,if (nth x.orders i.toNat).now= -1 then 0 else 1,0,0⟩,0)
theorem Nk (x:Inst) (i:Int) (ho:x.orders.length<=1048576):PT 138 [.p (Zr x),.p (.int .i64 i)] [.p (DV (unsF x i).1),.p (.int .i64 (unsF x i).2)]:=by
 refine Ze [] Tryz.func138 rfl yG ?_;simp (disch:=omega) only [Tryz.f138,go_sem,seval];refine gF ?_ ?_<;>intro h1<;>simp (disch:=omega) only [Sh.out h1,go_sem,seval,↓reduceIte]
 ·have e:unsF x i=(zSco,2):=by simp_all [unsF]
  rw [e];exact we (by simp (disch:=omega) only [zSco,go_sem,seval])
 ·refine cD ?_ ?_<;>intro h2<;>simp (disch:=omega) only [Sh.out h2,go_sem,seval,↓reduceIte]
  ·have e:unsF x i=(zSco,2):=by simp_all [unsF]
   rw [e];exact we (by simp (disch:=omega) only [zSco,go_sem,seval])
  ·have hi:i.toNat<x.orders.length:=Za
   have n1: ¬(i<0\/(x.orders.length:Int)<=i):=Za
   refine cD ?_ ?_<;>intro h3<;>simp (disch:=omega) only [Sh.out h3,go_sem,seval,↓reduceIte]
   ·have e:unsF x i=(zSco,9):=by simp_all [unsF]
    rw [e];exact we (by simp (disch:=omega) only [zSco,go_sem,seval])
   ·have h3': ¬(nth x.orders i.toNat).off=true:=by rw [h3];simp
    refine cD ?_ ?_<;>intro h4<;>simp (disch:=omega) only [Sh.out h4,go_sem,seval,↓reduceIte]
    ·have e:unsF x i=(zSco,23):=by simp_all [unsF]
     rw [e];exact we (by simp (disch:=omega) only [zSco,go_sem,seval])
    ·refine cD ?_ ?_<;>intro h5<;>simp (disch:=omega) only [Sh.out h5,go_sem,seval,↓reduceIte]
     ·have e:unsF x i=(⟨(nth x.orders i.toNat).penalty,1,0,0⟩,0):=by simp_all [unsF]
      rw [e];exact we
     ·have h5':(nth x.orders i.toNat).now= -1:=Za
      have e:unsF x i=(⟨(nth x.orders i.toNat).penalty,0,0,0⟩,0):=by simp_all [unsF]
      rw [e];exact we
theorem LA (x:Inst) (i:Int) (ho:x.orders.length<=1048576):PT 155 [.p (Zr x),.p (.int .i64 i)] [.p (DV (unsF x i).1),.p (.int .i64 (unsF x i).2)]:=by
 refine Ze [] Tryz.func155 rfl yW ?_;simp (disch:=omega) only [Tryz.f155,go_sem,seval];refine gF ?_ ?_<;>intro h1<;>simp (disch:=omega) only [Sh.out h1,go_sem,seval,↓reduceIte]
 ·have e:unsF x i=(zSco,2):=by simp_all [unsF]
  rw [e];exact we (by simp (disch:=omega) only [zSco,go_sem,seval])
 ·refine cD ?_ ?_<;>intro h2<;>simp (disch:=omega) only [Sh.out h2,go_sem,seval,↓reduceIte]
  ·have e:unsF x i=(zSco,2):=by simp_all [unsF]
   rw [e];exact we (by simp (disch:=omega) only [zSco,go_sem,seval])
  ·have hi:i.toNat<x.orders.length:=Za
   have n1: ¬(i<0\/(x.orders.length:Int)<=i):=Za
   refine cD ?_ ?_<;>intro h3<;>simp (disch:=omega) only [Sh.out h3,go_sem,seval,↓reduceIte]
   ·have e:unsF x i=(zSco,9):=by simp_all [unsF]
    rw [e];exact we (by simp (disch:=omega) only [zSco,go_sem,seval])
   ·have h3': ¬(nth x.orders i.toNat).off=true:=by rw [h3];simp
    refine cD ?_ ?_<;>intro h4<;>simp (disch:=omega) only [Sh.out h4,go_sem,seval,↓reduceIte]
    ·have e:unsF x i=(zSco,23):=by simp_all [unsF]
     rw [e];exact we (by simp (disch:=omega) only [zSco,go_sem,seval])
    ·refine cD ?_ ?_<;>intro h5<;>simp (disch:=omega) only [Sh.out h5,go_sem,seval,↓reduceIte]
     ·have e:unsF x i=(⟨(nth x.orders i.toNat).penalty,1,0,0⟩,0):=by simp_all [unsF]
      rw [e];exact we
     ·have h5':(nth x.orders i.toNat).now= -1:=Za
      have e:unsF x i=(⟨(nth x.orders i.toNat).penalty,0,0,0⟩,0):=by simp_all [unsF]
      rw [e];exact we
def VK (s:Sco):Bool:=decide (0<=s.cost)&&decide (s.cost<=1073741824)&&decide (0<=s.moved)&&decide (s.moved<=15)&&decide (0<=s.other)&&decide (s.other<=15)&&decide (0<=s.work)&&decide (s.work<=65535)
theorem aD (s:Sco):PC 193 [.p (DV s)] (.bool (VK s)):=by
 refine Zc Tryz.func193 rfl zT ?_;simp (disch:=omega) only [Tryz.f193,go_sem,seval];refine gT ?_ ?_<;>intro h1<;>simp (disch:=omega) only [Sh.out h1,go_sem,seval,↓reduceIte]
 ·refine gT ?_ ?_<;>intro h2<;>simp (disch:=omega) only [Sh.out h2,go_sem,seval,↓reduceIte]
  ·refine gT ?_ ?_<;>intro h3<;>simp (disch:=omega) only [Sh.out h3,go_sem,seval,↓reduceIte]
   ·refine gT ?_ ?_<;>intro h4<;>simp (disch:=omega) only [Sh.out h4,go_sem,seval,↓reduceIte]
    ·refine gT ?_ ?_<;>intro h5<;>simp (disch:=omega) only [Sh.out h5,go_sem,seval,↓reduceIte]
     ·refine gT ?_ ?_<;>intro h6<;>simp (disch:=omega) only [Sh.out h6,go_sem,seval,↓reduceIte]
      ·refine gT ?_ ?_<;>intro h7<;>simp (disch:=omega) only [Sh.out h7,go_sem,seval,↓reduceIte]
       ·grind [VK]
       grind [VK]
      grind [VK]
     grind [VK]
    grind [VK]
   grind [VK]
  grind [VK]
 ·simp [VK,h1]
theorem Gf (s:Sco) (hs:scoR 1152921504606846976 s):PT 156 [.p (DV s)] [.p (.int .i64 (YW s).1),.p (.int .i64 (YW s).2)]:=by
 obtain ⟨a1,a2,a3,a4⟩:=hs
 have bad:(s.cost<0\/s.moved<0\/s.other<0\/s.work<0)->YW s=(0,2):=fun h=>by rw [YW,if_pos h]
 refine Ze [] Tryz.func156 rfl yX ?_;simp (disch:=omega) only [Tryz.f156,go_sem,seval];refine gF ?_ ?_<;>intro h1<;>simp (disch:=omega) only [Sh.out h1,go_sem,seval,↓reduceIte]
 ·rw [bad Za];exact we
 ·refine gF ?_ ?_<;>intro h2<;>simp (disch:=omega) only [Sh.out h2,go_sem,seval,↓reduceIte]
  ·rw [bad Za];exact we
  ·refine gF ?_ ?_<;>intro h3<;>simp (disch:=omega) only [Sh.out h3,go_sem,seval,↓reduceIte]
   ·rw [bad Za];exact we
   ·refine cD ?_ ?_<;>intro h4<;>simp (disch:=omega) only [Sh.out h4,go_sem,seval,↓reduceIte]
    ·rw [bad Za];exact we
    ·have n1: ¬(s.cost<0\/s.moved<0\/s.other<0\/s.work<0):=Za
     refine (aD s).use (Zd ?_);refine cD ?_ ?_<;>intro h5<;>simp (disch:=omega) only [Sh.out h5,go_sem,seval,↓reduceIte]
     ·have e:YW s=(0,4):=by
       have h6: ¬VK s=true:=by grind
       rw [YW,if_neg n1,if_pos];refine JQ fun h7=>h6 ?_;simp [VK];omega
      rw [e];exact we
     ·have h6:VK s=true:=by grind
      simp [VK] at h6
      have e:YW s=(((s.cost*16+s.moved)*16+s.other)*65536+s.work,0):=by rw [YW,if_neg n1,if_neg Za]
      rw [e];refine Zd ?_;exact we
def qN (s:Sco):Prop:=0<=s.cost/\0<=s.moved/\0<=s.other/\0<=s.work
theorem NY {s:Sco} (hs:qN s):(YW s).2=0↔s.cost<=1073741824/\s.moved<16/\s.other<16/\s.work<65536:=by
 obtain ⟨a1,a2,a3,a4⟩:=hs;unfold YW
 grind
theorem lQ {s:Sco} (hs:qN s) (h:(YW s).2=0):(YW s).1=((s.cost*16+s.moved)*16+s.other)*65536+s.work:=by
 have h:=(NY hs).1 h;obtain ⟨a1,a2,a3,a4⟩:=hs
 simp_all [YW,if_neg]
theorem NS {x:Inst} (hx:InstOk x) (i:Int):scoR 1073741824 (unsF x i).1:=by
 unfold unsF
 split
 ·simp [scoR,zSco]
 ·split
  ·simp [scoR,zSco]
  ·split
   ·simp [scoR,zSco]
   ·have ha:=(hx.orders.2 i.toNat Za).arg;simp only [argOk,rng,Zw,Zs] at ha
    grind [scoR]
theorem Ax {a:Sco} {B C:Int} (h:B<=C) (ha:scoR B a):scoR C a:=by
 grind [scoR]
def Ml (x:Inst) (t:Typ) (r:Rte) (c:Bool) (sp:List Stp):PV:= .agg [.list x.net.places_c (x.net.places.map eS),.list x.net.arcs_c (x.net.arcs.map Vs),.list x.types_c (x.types.map XU),.list x.orders_c (x.orders.map eOrd),.list x.apart_c (x.apart.map eP),.list x.before_c (x.before.map eP),.str t.name,.int .i64 t.count,.int .i64 t.src,.int .i64 t.dst,.list t.cap_c (t.cap.map eI),.int .i64 t.skills,.int .i64 t.prof,.int .i64 t.opn,.int .i64 t.cls,.int .i64 t.drive,.int .i64 t.rest,.int .i64 t.fixed,.int .i64 t.perMile,.int .i64 t.perTick,.int .i64 r.typ,.int .i64 r.start,.list r.rests_c (r.rests.map eB),.list r.visits_c (r.visits.map Z3),.list c (sp.map E3)]
@[go_sem] theorem Zkz (x:Inst) (t:Typ) (r:Rte) (c:Bool) (sp:List Stp):Ml x t r c sp= .agg [.list x.net.places_c (x.net.places.map eS),.list x.net.arcs_c (x.net.arcs.map Vs),.list x.types_c (x.types.map XU),.list x.orders_c (x.orders.map eOrd),.list x.apart_c (x.apart.map eP),.list x.before_c (x.before.map eP),.str t.name,.int .i64 t.count,.int .i64 t.src,.int .i64 t.dst,.list t.cap_c (t.cap.map eI),.int .i64 t.skills,.int .i64 t.prof,.int .i64 t.opn,.int .i64 t.cls,.int .i64 t.drive,.int .i64 t.rest,.int .i64 t.fixed,.int .i64 t.perMile,.int .i64 t.perTick,.int .i64 r.typ,.int .i64 r.start,.list r.rests_c (r.rests.map eB),.list r.visits_c (r.visits.map Z3),.list c (sp.map E3)]:=Zm rfl rfl
def Zcr (x:Inst) (t:Typ) (r:Rte):List V:= [.p (.list x.net.places_c (x.net.places.map eS)),.p (.list x.net.arcs_c (x.net.arcs.map Vs)),.p (.list x.types_c (x.types.map XU)),.p (.list x.orders_c (x.orders.map eOrd)),.p (.list x.apart_c (x.apart.map eP)),.p (.list x.before_c (x.before.map eP)),.p (.str t.name),.p (.int .i64 t.count),.p (.int .i64 t.src),.p (.int .i64 t.dst),.p (.list t.cap_c (t.cap.map eI)),.p (.int .i64 t.skills),.p (.int .i64 t.prof),.p (.int .i64 t.opn),.p (.int .i64 t.cls),.p (.int .i64 t.drive),.p (.int .i64 t.rest),.p (.int .i64 t.fixed),.p (.int .i64 t.perMile),.p (.int .i64 t.perTick),.p (.int .i64 r.typ),.p (.int .i64 r.start),.p (.list r.rests_c (r.rests.map eB)),.p (.list r.visits_c (r.visits.map Z3))]
def YV (x:Inst) (t:Typ) (r:Rte) (c:Bool) (sp:List Stp):AM.Obj:= .cells [.p (.list x.net.places_c (x.net.places.map eS)),.p (.list x.net.arcs_c (x.net.arcs.map Vs)),.p (.list x.types_c (x.types.map XU)),.p (.list x.orders_c (x.orders.map eOrd)),.p (.list x.apart_c (x.apart.map eP)),.p (.list x.before_c (x.before.map eP)),.p (.str t.name),.p (.int .i64 t.count),.p (.int .i64 t.src),.p (.int .i64 t.dst),.p (.list t.cap_c (t.cap.map eI)),.p (.int .i64 t.skills),.p (.int .i64 t.prof),.p (.int .i64 t.opn),.p (.int .i64 t.cls),.p (.int .i64 t.drive),.p (.int .i64 t.rest),.p (.int .i64 t.fixed),.p (.int .i64 t.perMile),.p (.int .i64 t.perTick),.p (.int .i64 r.typ),.p (.int .i64 r.start),.p (.list r.rests_c (r.rests.map eB)),.p (.list r.visits_c (r.visits.map Z3)),.p (.list c (sp.map E3))]
def ZcD : AM.Obj:= .cells [.p (.list true []),.p (.list true []),.p (.list true []),.p (.list true []),.p (.list true []),.p (.list true []),.p (.str []),.p (.int .i64 0),.p (.int .i64 0),.p (.int .i64 0),.p (.list true []),.p (.int .i64 0),.p (.int .i64 0),.p (.int .i64 0),.p (.int .i64 0),.p (.int .i64 0),.p (.int .i64 0),.p (.int .i64 0),.p (.int .i64 0),.p (.int .i64 0),.p (.int .i64 0),.p (.int .i64 0),.p (.list true []),.p (.list true []),.p (.list true [])]
def Jx (L:Lab):PV:= .agg [.int .i64 L.ready,.int .i64 L.since,.bool L.she.rest,.int .i64 L.she.dep,.list L.she.times_c (L.she.times.map eTim),.int .i64 L.she.fin,.int .i64 L.she.miles]
@[go_sem] theorem Zkq (L:Lab):Jx L= .agg [.int .i64 L.ready,.int .i64 L.since,.bool L.she.rest,.int .i64 L.she.dep,.list L.she.times_c (L.she.times.map eTim),.int .i64 L.she.fin,.int .i64 L.she.miles]:=Zm rfl rfl
@[go_sem] theorem Zc8 (l:List Lab):Bt 7 (l.map Jx)=true:=Bu (f:=Jx) (S:=7) (fun _=>rfl) l
def WC (L:Lab):AM.Obj:= .cells [.p (.int .i64 L.ready),.p (.int .i64 L.since),.p (.bool L.she.rest),.p (.int .i64 L.she.dep),.p (.list L.she.times_c (L.she.times.map eTim)),.p (.int .i64 L.she.fin),.p (.int .i64 L.she.miles)]
theorem eE (l:List Tim) (c:Bool) (hl:l.length<=1048576):ACalls Tryz.prog 282 [.p (.list c (l.map eTim))] [] fun x H'=>x= .sl 0 0 l.length l.length/\H'= [.elems 4 (l.map eTim)]:=by
 suffices hh:ACalls Tryz.prog 282 [.p (.list c (l.map eTim))] [] fun x H'=> ∃m:List Tim,m=l/\x= .sl 0 0 m.length m.length/\H'= [.elems 4 (m.map eTim)] by
  grind
 refine Ze [1] Tryz.func282 rfl Zbn ?_;simp (disch:=omega) only [Tryz.f282,go_sem,seval];refine YP (YP (nS 1 rfl rfl ?_));refine ⟨_,pZ (e:=335) rfl Tryz.underlying247 rfl (fun _=>rfl),?_⟩;rintro _ ⟨b,rfl,hb⟩;refine Zd ?_;refine Zh [] _ _ _ _ ?_
 cases b with
 | true =>
  have hn:l= []:=by simp_all
  subst hn;refine Zd ?_;exact ⟨_,_,Weak.ofNil 0 4 rfl Zb (wk),[],rfl,rfl,rfl⟩
 | false =>
  refine Zd ?_;refine Zh [] _ _ _ _ (Zd ?_);exact ⟨.sl 0 0 l.length l.length,[.elems 4 (l.map eTim)],wk,l,rfl,rfl,rfl⟩
theorem GQ (x:Inst) (t:Typ) (r:Rte) (c:Bool) (sp:List Stp):PC 247 [.p (Ml x t r c sp)] (Jx (labF t r.start)):=by
 refine Ze [] Tryz.func247 rfl ZaO ?_;simp (disch:=omega) only [Tryz.f247,go_sem,seval];exact we (by simp (disch:=omega) only [labF,zShe,Zj,go_sem,seval])
theorem jX (x:Inst) (t:Typ) (r:Rte) (c:Bool) (sp:List Stp) (k:Nat) (hk:k<=sp.length) (hl:sp.length<=1048576):PC 283 [.p (Ml x t r c sp),.p (.int .i64 (k:Nat))] (.int .i64 (UL t sp k)):=by
 refine Zc Tryz.func283 rfl Zbo ?_;simp (disch:=omega) only [Tryz.f283,go_sem,seval];refine cD ?_ ?_<;>intro h<;>simp (disch:=omega) only [Sh.out h,go_sem,seval,↓reduceIte]
 ·simp_all [UL]
 simp_all [UL]
theorem Zb1 (x:Inst) (r:Rte) (hx:InstOk x) (hty:0<=r.typ/\r.typ<(x.types.length:Int)) (h0:Xr x r.visits=0) (hs:0<=r.start/\r.start<=4096) :
  PT 246 [.p (Zr x),.p (Wg r)] [.p (Ml x (Z0 x r) r false (Z9 x r.visits)),.p (.bool true)]:=by
 have hd:=Qo hx;have hsq:=UN h0;have hol:=hd.ord;have htl:=hd.typ;have hvl:=hsq.len hol
 have e1: ¬r.typ<0:=Za
 have e2: ¬(x.types.length:Int)<=r.typ:=Za
 have e3: ¬r.start<0:=Za
 have e4: ¬ 4096<r.start:=Za
 have e5: ¬ 20<(r.visits.length:Int):=Za
 refine Ze [12] Tryz.func246 rfl gV ?_;simp (disch:=omega) only [Tryz.f246,e1,e2,e3,e4,e5,go_sem,seval];refine XR [9] 10 mixed Zg Zg Zg Zb (Zd ?_);refine Xl 9 _ _ Zg (by refine Zd ?_;exact ⟨rfl,rfl⟩) (Y9 ?_);refine Zd ?_
 refine ZV [12] [2,4,6,49,50] (fun q:Nat×List Stp=> [(51,.p (.int .i64 q.1))])
  (fun q=> [Zf x,Xo r,ZcD,.cells (Zcr x (Z0 x r) r++ [.sl 4 0 q.2.length q.2.length]),.elems 4 (q.2.map E3)])
  (fun q=>q.1<=r.visits.length/\q.2=(Z9 x r.visits).take q.1) (fun q=>r.visits.length-q.1) (0,[]) Zb ((Weak.nilC (o:=3) (j:=24) 4 rfl rfl Zb).trans (Weak.mk ?_)) ?_
 ·simp (disch:=omega) only [Zf,Xo,ZcD,Zcr,Z0,Zj,ZF,ZK,ZY,ZL,ZD,go_sem,seval]
 ·rintro ⟨k,o⟩ ⟨hk,ho⟩;simp only at hk ho
  have hol2:o.length=k:=by grind [Yp]
  simp (disch:=omega) only [Zf,Xo,ZcD,Zcr,go_sem,seval];refine cD ?_ ?_<;>intro h1<;>simp (disch:=omega) only [Sh.out h1,go_sem,seval,↓reduceIte]
  ·have hk2:k<r.visits.length:=Za
   have hvis:=hsq.vis (Zu hk2);simp only [KU,Zw,Zs] at hvis
   have hsn:o++ [XL x (nth r.visits k)]=(Z9 x r.visits).take (k+1):=by
    rw [ho,Xm (by grind [Yp]),<- Zk,F7 hk2]
   have hnp: ¬(XL x (nth r.visits k)).place<0:=Za
   refine X8 (R3 x (nth r.visits k) Za hvis.1 hvis.2) ?_;simp (disch:=omega) only [hnp,go_sem,seval];exact ⟨(k+1,o++ [XL x (nth r.visits k)]),⟨Za,hsn⟩,Za,Weak.mk (by simp (disch:=omega) only [Zz,ZA,ZF,Xn,Zq,Zj,go_sem,seval])⟩
  ·have hkl:k=r.visits.length:=Za
   subst hkl
   have hso:o=Z9 x r.visits:=by grind [Yp]
   subst hso;refine Zo (Weak.fz (o:=4) (by rfl)) (Zh [] _ _ _ _ (Jl ?_));exact we
def NG (rd sn:Int) (m:She):AM.Obj:= .cells [.p (.int .i64 rd),.p (.int .i64 sn),.p (.bool m.rest),.p (.int .i64 m.dep),.sl 4 0 m.times.length m.times.length,.p (.int .i64 m.fin),.p (.int .i64 m.miles)]
theorem E5 {P:Program} {H:List AM.Obj} {f ars} {a b d:PV} {B:V->Prop} {t} (h:ACalls P f ars [] fun x H'=>x= .tup [.p a,.p b,.p d]/\H'= []) (k:B (.tup [.p a,.p b,.p d])) (ha:Xi 0 ars=true:=by rfl) :
  Tf (fun y=>ACalls P f ars H (Zt (Zt (fun x H'=>x=y/\H'=H) ⟨⟩) ⟨⟩)) (Zt B t) :=
 ⟨.tup [.p a,.p b,.p d],(h.behind ha H).mono fun x H' hq=>by
  obtain ⟨y,H1,⟨rfl,rfl⟩,rfl,rfl⟩:=hq
  simp [shV,shVs,Zt],k⟩
theorem ZbO (x:Inst) (t:Typ) (r:Rte) (c:Bool) (sp:List Stp) (hok:TrpOk x t sp) (k:Nat) (hk:k<=sp.length) (hs1:0<sp.length) (L:Lab) (hL:LabR k L) (hlen:L.she.times.length=k) (hclip:0<k->L.she.times_c=false) (b:Bool) :
  PT 268 [.p (Ml x t r c sp),.p (Jx L),.p (.int .i64 (k:Nat)),.p (.bool b)] [.p (Jx (nxtF x t sp k L b).1),.p (.int .i64 (nxtF x t sp k L b).2)]:=by
 have hd:=Kp hok hL b;have hsn:=F5 hL b;have hg:=IC hok hL b;have hmi:=hL.mil;have hrd:=hL.rdy;have hsnL:=hL.snc;have hsl:=hok.len;have hrst:=hok.rst;unfold nxtF;have hmm:= @Kw k (ZP t L b) b L.she;have hmf:= @Hm k (ZP t L b) b L.she;have hml:= @Ak k (ZP t L b) b L.she;refine Ze [2,7,14,31] Tryz.func268 rfl Za9 ?_;simp (disch:=omega) only [Tryz.f268,go_sem,seval];refine Xd (Zd ?_);refine ZH [2,3,4,5,8] (fun _:Unit=> [(10,.p (.int .i64 (ZP t L b))),(11,.p (.int .i64 (Ww L b)))]) (fun _=> [YV x t r c sp,WC L,WC Wx]) (fun _=>True) ?_ ?_
 ·refine Zd ?_;refine ZU ?_ ?_<;>intro h
  ·subst h;exact ⟨(),Weak.mk (by simp (disch:=omega) only [YV,WC,Wx,zShe,ZP,Ww,Zj,go_sem,seval,↓reduceIte])⟩
  ·subst h;exact ⟨(),Weak.mk (by simp (disch:=omega) only [YV,WC,Wx,zShe,ZP,Ww,Zj,go_sem,seval,↓reduceIte])⟩
 ·intro _ _;refine Zh [7,14,31] _ _ _ _ ?_;simp (disch:=omega) only [YV,WC,Wx,zShe,Zj,go_sem,seval];refine (eE L.she.times L.she.times_c Za).useF (Zd ?_)
  generalize hM:X1 k (ZP t L b) b L.she=M at *
  refine ZH [2,4,8,10,11,12] (fun _:Unit=> []) (fun _=> [YV x t r c sp,WC L,WC Wx,NG 0 0 M,.elems 4 (M.times.map eTim)]) (fun _=>True) ?_ ?_
  ·refine Zd ?_;refine ZU ?_ ?_<;>intro h
   ·have hk0:k=0:=Za
    subst hk0
    have e:M= { L.she with rest:=b,dep:=ZP t L b } :=by rw [<- hM,X1,if_pos rfl]
    rw [e];exact ⟨(),Weak.mk (by simp (disch:=omega) only [YV,WC,Wx,zShe,NG,Zj,go_sem,seval])⟩
   ·have e1:((k:Int)-1).toNat=k-1:=Za
    have hk1:k-1<L.she.times.length:=Za
    have Rx:(L.she.times.map eTim).set (k-1) (PV.agg [.int .i64 (nth L.she.times (k-1)).arr,.int .i64 (nth L.she.times (k-1)).beg,.int .i64 (nth L.she.times (k-1)).dep,.bool b])=(L.she.times.set (k-1) { nth L.she.times (k-1) with rest:=b }).map eTim:=by
     rw [Up];rfl
    have hn1:nth (L.she.times.set (k-1) { nth L.she.times (k-1) with rest:=b }) (k-1)= { nth L.she.times (k-1) with rest:=b } :=by
     grind [Zk]
    have hl1:(L.she.times.set (k-1) { nth L.she.times (k-1) with rest:=b }).length=L.she.times.length:=Zb
    have hMt:M.times=(L.she.times.set (k-1) { nth L.she.times (k-1) with rest:=b }).set (k-1) { nth (L.she.times.set (k-1) { nth L.she.times (k-1) with rest:=b }) (k-1) with dep:=ZP t L b } :=by
     rw [hn1,List.set_set,<- hM,X1,if_neg Za];rfl
    have hM2:M.rest=L.she.rest/\M.dep=L.she.dep:=by rw [<- hM,X1,if_neg Za];simp
    simp (disch:=first | omega | (simp only [ZA,ZF,Zz,Zy,Z6,Xt]<;>omega)) only [e1,go_sem,seval,↓reduceIte];rw [Rx]
    generalize L.she.times.set (k-1) { nth L.she.times (k-1) with rest:=b } =l1 at *
    simp (disch:=first | omega | (simp only [ZA,ZF,Zz,Zy,Z6,Xt]<;>omega)) only [e1,hl1,eq_self,WU,go_sem,seval];refine ⟨(),Weak.mk ?_⟩;simp (disch:=omega) only [YV,WC,Wx,zShe,NG,Zj,hM2.1,hM2.2,hmm,hmf,hml,go_sem,seval];rw [hMt,Up]
    rfl
  ·intro _ _;refine Zh [14,31] _ _ _ _ ?_;simp (disch:=omega) only [YV,WC,Wx,zShe,NG,Zj,go_sem,seval];refine ZH [2,4,8,10,11,12,13] (fun _:Unit=> [(14,.p (.int .i64 (bC t sp k)))]) (fun _=> [YV x t r c sp,WC L,WC Wx,NG 0 0 M,.elems 4 (M.times.map eTim)]) (fun _=>True) ?_ ?_
   ·refine Zd ?_;refine ZU ?_ ?_<;>intro h
    ·have e:bC t sp k=(nth sp k).place:=by rw [bC,if_neg Za]
     exact ⟨(),Weak.mk (by simp (disch:=omega) only [YV,WC,Wx,zShe,NG,Zj,e,go_sem,seval])⟩
    ·have e:bC t sp k=t.dst:=by rw [bC,if_pos Za]
     exact ⟨(),Weak.mk (by simp (disch:=omega) only [YV,WC,Wx,zShe,NG,Zj,e,go_sem,seval])⟩
   ·intro _ _;refine Zh [31] _ _ _ _ ?_;simp (disch:=omega) only [YV,WC,Wx,zShe,NG,Zj,go_sem,seval];refine Xd (Zd ?_);refine Zn (jX x t r c sp k hk Za) (Zd ?_);refine E5 (tY x.net t.prof (UL t sp k) (bC t sp k) (ZP t L b) hok.net Za) (Zd ?_);have hG:WM x.net t.prof (UL t sp k) (bC t sp k) (ZP t L b)=Wd x t sp k (ZP t L b):=rfl;rw [hG];clear hG
    generalize Wd x t sp k (ZP t L b)=g at *
    generalize ZP t L b=d at *
    generalize Ww L b=s at *
    refine cD ?_ ?_<;>intro h1<;>simp (disch:=omega) only [Sh.out h1,go_sem,seval,↓reduceIte]
    ·have e:WB t sp k g d s M=(Wx,12):=by rw [WB,if_pos h1]
     rw [e];exact we (by simp (disch:=omega) only [Wx,zShe,Zj,go_sem,seval])
    ·refine cD ?_ ?_<;>intro h2<;>simp (disch:=omega) only [Sh.out h2,go_sem,seval,↓reduceIte]
     ·refine cD ?_ ?_<;>intro h3<;>simp (disch:=omega) only [Sh.out h3,go_sem,seval,↓reduceIte]
      ·have e:WB t sp k g d s M=(Wx,15):=by rw [WB,if_neg h1,if_pos Za,if_pos h3]
       rw [e];exact we (by simp (disch:=omega) only [Wx,zShe,Zj,go_sem,seval])
      ·refine Zo (Weak.fz (o:=4) (by rfl)) (Zh [] _ _ _ _ (Jl ?_));refine cD ?_ ?_<;>intro h4<;>simp (disch:=omega) only [Sh.out h4,go_sem,seval,↓reduceIte]
       ·have e:WB t sp k g d s M=(Wx,16):=by rw [WB,if_neg h1,if_pos Za,if_neg h3,if_pos h4]
        rw [e];exact we (by simp (disch:=omega) only [Wx,zShe,Zj,go_sem,seval])
       ·have e:WB t sp k g d s M=(⟨g.1,s+g.1-d,{ M with fin:=g.1,miles:=M.miles+g.2.1 }⟩,0):=by rw [WB,if_neg h1,if_pos Za,if_neg h3,if_neg h4]
        have hMc:M.times_c=false:=by
         rw [<- hM,X1,if_neg Za]
         grind
        rw [e];exact we (by simp (disch:=omega) only [hMc,go_sem,seval])
     ·have h2': ¬k=sp.length:=Za
      have hkl:k<sp.length:=Za
      have hstp:=hok.stp _ (ZX hkl);refine X8 (P6 (nth sp k) g.1) ?_;unfold ET
      by_cases h3:(nth sp k).cls<max g.1 (nth sp k).opn
      ·have e:WB t sp k g d s M=(Wx,14):=by simp_all [WB]
       rw [e,if_pos h3];refine Zd ?_;exact we (by simp (disch:=omega) only [Wx,zShe,Zj,go_sem,seval])
      ·rw [if_neg h3];refine Zd ?_;refine Zo (Weak.fz (o:=4) (by rfl)) (Zh [] _ _ _ _ (Jl ?_));refine cD ?_ ?_<;>intro h4<;>simp (disch:=omega) only [Sh.out h4,go_sem,seval,↓reduceIte]
       ·have e:WB t sp k g d s M=(Wx,16):=by simp_all [WB]
        rw [e];exact we (by simp (disch:=omega) only [Wx,zShe,Zj,go_sem,seval])
       ·have e:WB t sp k g d s M=(⟨max g.1 (nth sp k).opn+(nth sp k).serv,s+g.1-d,{ M with times_c:=false,times:=M.times++ [⟨g.1,max g.1 (nth sp k).opn,0,false⟩],miles:=M.miles+g.2.1 }⟩,0):=by simp_all [WB,if_neg]
        rw [e];exact we
theorem TO {x t sp k L b} (hs:0<sp.length) (hc:0<k->L.she.times_c=false) (he:(nxtF x t sp k L b).2=0):(nxtF x t sp k L b).1.she.times_c=false:=by
 have hm:0<k->(X1 k (ZP t L b) b L.she).times_c=false:=fun h=>by rw [X1,if_neg Za];exact hc h
 unfold nxtF at he ⊢
 generalize Wd x t sp k (ZP t L b)=g at *
 generalize ZP t L b=d at *
 generalize Ww L b=s at *
 generalize X1 k d b L.she=m at *
 unfold WB at he ⊢
 grind
structure LabO (n k:Nat) (L:Lab):Prop where
 rng:LabR k L
 len:k<=n->L.she.times.length=k
 clip:0<k->L.she.times_c=false
theorem He {x t sp k L b} (hok:TrpOk x t sp) (hs:0<sp.length) (hk:k<=sp.length) (h:LabO sp.length k L) (he:(nxtF x t sp k L b).2=0):LabO sp.length (k+1) (nxtF x t sp k L b).1 :=
 ⟨I2 hok hk h.rng he,fun hk2=>Fz (h.len hk) he Za,fun _=>TO hs h.clip he⟩
theorem Hf {x t sp} (hok:TrpOk x t sp) {st:Int} (hst:0<=st/\st<=4096):LabO sp.length 0 (labF t st) :=
 ⟨⟨by have:=hok.opn;grind [labF],by simp [labF],by simp [labF,zShe]⟩,fun _=>rfl,fun h=>Za⟩
theorem R0 (x:Inst) (t:Typ) (r:Rte) (c:Bool) (sp:List Stp) (hok:TrpOk x t sp) (k:Nat) (hk:k<=sp.length) (hs1:0<sp.length) (L:Lab) (hL:LabO sp.length k L) (b:Bool) :
  PT 268 [.p (Ml x t r c sp),.p (Jx L),.p (.int .i64 (k:Nat)),.p (.bool b)] [.p (Jx (nxtF x t sp k L b).1),.p (.int .i64 (nxtF x t sp k L b).2)] :=
 ZbO x t r c sp hok k hk hs1 L hL.rng (hL.len hk) hL.clip b
theorem ZiW (x:Inst) (t:Typ) (r:Rte) (c:Bool) (sp:List Stp) (hok:TrpOk x t sp) (hs1:0<sp.length) (hst:0<=r.start/\r.start<=4096) (bs:List Bool) (d:Bool) (hb:bs.length=sp.length+1) :
  PT 249 [.p (Ml x t r c sp),.p (.list d (bs.map eB))] [.p (E1 (Xz x t sp 0 (labF t r.start) bs).1.she),.p (.int .i64 (Xz x t sp 0 (labF t r.start) bs).2)]:=by
 have hsl:=hok.len;refine Ze [] Tryz.func249 rfl ZaQ ?_;simp (disch:=omega) only [Tryz.f249,go_sem,seval];refine (GQ x t r c sp).use (Zd ?_)
 refine Zl [2,4,6,13,14] (fun q:Nat×Lab=> [(15,.p (.int .i64 q.1))]) (fun q=> [YV x t r c sp,.cells [.p (.bool false),.p (.int .i64 0),.p (.list true []),.p (.int .i64 0),.p (.int .i64 0)],WC q.2])
  (fun q=>q.1<=bs.length/\Xz x t sp 0 (labF t r.start) bs=Xz x t sp q.1 q.2 (bs.drop q.1)/\LabO sp.length q.1 q.2) (fun q=>bs.length-q.1) (0,labF t r.start) ⟨Zb,Zb,Hf hok hst⟩ (Weak.mk ?_) ?_
 ·simp (disch:=omega) only [YV,WC,go_sem,seval]
 ·rintro ⟨k,L⟩ ⟨hk,hrun,hL⟩;simp only at hk hrun hL;simp (disch:=omega) only [YV,WC,go_sem,seval];refine cD ?_ ?_<;>intro h1<;>simp (disch:=omega) only [Sh.out h1,go_sem,seval,↓reduceIte]
  ·have hk2:k<bs.length:=Za
   have hdrop:bs.drop k=nth bs k::bs.drop (k+1):=by rw [VD hk2,Zk hk2]
   rw [hdrop,Xz] at hrun;have cn:=R0 x t r c sp hok k Za hs1 L hL (nth bs k);have hL2:=He (x:=x) (t:=t) (b:=nth bs k) hok hs1 Za hL
   generalize nxtF x t sp k L (nth bs k)=N at *
   refine X8 cn (Zd ?_);refine ZU ?_ ?_<;>intro h2
   ·rw [hrun,if_neg h2];exact we (by simp (disch:=omega) only [Wx,zShe,Zj,go_sem,seval])
   ·rw [if_pos Za] at hrun;exact ⟨(k+1,N.1),⟨Za,hrun,hL2 Za⟩,Za,wk⟩
  ·have hkl:k=bs.length:=Za
   subst hkl;rw [Uk,Xz] at hrun;rw [hrun];exact we
theorem nV (l m:Lab):PC 271 [.p (Jx l),.p (Jx m)] (.bool (Xa l m)):=by
 refine Zc Tryz.func271 rfl Zbc ?_;simp (disch:=omega) only [Tryz.f271,go_sem,seval];refine gT ?_ ?_<;>intro h<;>simp (disch:=omega) only [Sh.out h,go_sem,seval,↓reduceIte]
 ·simp [Xa,h]
 ·simp [Xa,h]
def gH (x:Inst) (t:Typ) (r:Rte) (c:Bool) (sp:List Stp) (o:List Lab) (f z:Lab):List AM.Obj:= [YV x t r c sp,.dead,.elems 7 (o.map Jx),WC f,WC z]
theorem pC (x:Inst) (t:Typ) (r:Rte) (c:Bool) (sp:List Stp) (o:List Lab) (f z m:Lab):ACalls Tryz.prog 270 [.p (Jx m),.ptr 4 0] (gH x t r c sp o f z) fun y H'=>y= .p (.bool (Xa m z))/\H'=gH x t r c sp o f z:=by
 refine Ze [] Tryz.func270 rfl Zbb ?_;simp (disch:=omega) only [Tryz.f270,gH,YV,WC,go_sem,seval];refine (nV m z).use (Zd ?_);exact we
theorem OU (x:Inst) (t:Typ) (r:Rte) (c:Bool) (sp:List Stp) (o:List Lab) (f z:Lab) (hl:o.length<=2097152) :
  ACalls Tryz.prog 284 [.sl 2 0 o.length o.length,.fn (.func 270) [] [.ptr 4 0]] (gH x t r c sp o f z) fun y H'=>y= .p (.int .i64 (tM (fun m=>Xa m z) o))/\H'=gH x t r c sp o f z:=by
 refine Ze [] Tryz.func284 rfl Zbp ?_;simp (disch:=omega) only [Tryz.f284,gH,YV,WC,go_sem,seval];refine Zl [0,1,7] (fun k:Nat=> [(8,.p (.int .i64 k))]) (fun _=>gH x t r c sp o f z) (fun k=>k<=o.length/\ ∀j,j<k->Xa (nth o j) z=false) (fun k=>o.length-k) 0 Zb (Weak.mk ?_) ?_
 ·simp (disch:=omega) only [gH,YV,WC,go_sem,seval,↓reduceIte]
 ·rintro k ⟨hk,hno⟩;simp (disch:=omega) only [gH,YV,WC,go_sem,seval];refine cD ?_ ?_<;>intro h<;>simp (disch:=omega) only [Sh.out h,go_sem,seval,↓reduceIte]
  ·have hk2:k<o.length:=Za
   have hg:=pC x t r c sp o f z (nth o k);simp (disch:=first | omega | (simp only [ZA,ZF,Zz,Zy,Z6,Xt]<;>omega)) only [Ve hk2,hk2,go_sem,seval,↓reduceIte];simp (disch:=omega) only [gH,YV,WC,go_sem,seval] at hg;refine hg.useH (Zd ?_);refine cD ?_ ?_<;>intro h2<;>simp (disch:=omega) only [Sh.out h2,go_sem,seval,↓reduceIte]
   ·rw [fV (f:=fun m=>Xa m z) hk2 h2 hno];exact we
   ·exact ⟨k+1,⟨Za,Zp.2 ⟨hno,Za⟩⟩,Za,wk⟩
  ·have hkl:k=o.length:=Za
   subst hkl;rw [fX hno];exact we
theorem Gy (x:Inst) (t:Typ) (r:Rte) (c:Bool) (sp:List Stp) (o:List Lab) (f z:Lab) (hl:o.length<=2097152) :
  ACalls Tryz.prog 269 [.sl 2 0 o.length o.length,.fn (.func 270) [] [.ptr 4 0]] (gH x t r c sp o f z) fun y H'=>y= .p (.bool (o.any fun m=>Xa m z))/\H'=gH x t r c sp o f z:=by
 refine Ze [] Tryz.func269 rfl Zba ?_;simp (disch:=omega) only [Tryz.f269,go_sem,seval];refine (OU x t r c sp o f z hl).useH (Zd ?_);rw [fW];exact we (by simp (disch:=omega) only [gH,YV,WC,go_sem,seval])
def S7 (x:Inst) (t:Typ) (sp:List Stp) (r:List Bool) (k:Nat) (f:Lab) (bs:List Bool) (l:List Lab):List Lab:=bs.filterMap (XQ x t sp k f)++W6 (XQ x t sp) (Ut r) k l
theorem xF (x:Inst) (t:Typ) (r:Rte) (c:Bool) (sp:List Stp) (hok:TrpOk x t sp) (hs1:0<sp.length) (k:Nat) (hk:k<=sp.length) (hrl:r.rests.length<=1048576) (l:List Lab) (d:Bool) (hl:l.length<=1048576) (hL: ∀L∈l,LabO sp.length k L) :
  PC 248 [.p (Ml x t r c sp),.p (.list d (l.map Jx)),.p (.int .i64 (k:Nat))] (.list false ((XY Xa [] (W6 (XQ x t sp) (Ut r.rests) k l)).map Jx)):=by
 have hsl:=hok.len;refine Ze [2,16] Tryz.func248 rfl ZaP ?_;simp (disch:=omega) only [Tryz.f248,go_sem,seval];refine Zo (Weak.fz (o:=1) (by rfl)) (Jl ?_);refine ZH [1,2,3] (fun cb:Bool=> [(7,.p (.list cb ((Ut r.rests k).map eB)))]) (fun _=> [YV x t r c sp,.dead]) (fun _=>True) ?_ ?_
 ·refine Zd ?_;refine ZU ?_ ?_<;>intro h
  ·have hk2:k<r.rests.length:=Za
   have e:Ut r.rests k=(r.rests.take (k+1)).drop k:=by
    grind [Ut,Xm]
   exact ⟨r.rests_c&&decide ((k:Int)+1=(r.rests.length:Int)),Weak.mk (by simp (disch:=omega) only [YV,e,go_sem,seval])⟩
  ·have e:Ut r.rests k= [false,true]:=by grind [Ut]
   exact ⟨false,Weak.mk (by simp (disch:=omega) only [YV,e,Zq,Zj,go_sem,seval])⟩
 ·intro cb _
  have hch:(Ut r.rests k).length<=2:=by grind [Ut]
  refine Zh [16] _ _ _ _ ?_;simp (disch:=omega) only [YV,go_sem,seval]
  refine ZV [16] [2,3,7,29,30] (fun q:Nat×List Lab=> [(8,.sl 2 0 q.2.length q.2.length),(31,.p (.int .i64 q.1))]) (fun q=> [YV x t r c sp,.dead,.elems 7 (q.2.map Jx)])
   (fun q=>q.1<=l.length/\XY Xa [] (W6 (XQ x t sp) (Ut r.rests) k l)=XY Xa q.2 (W6 (XQ x t sp) (Ut r.rests) k (l.drop q.1))/\q.2.length<=2*q.1) (fun q=>l.length-q.1) (0,[]) Zb (Weak.ofNil 8 7 rfl Zb (Weak.mk ?_)) ?_
  ·simp (disch:=omega) only [YV,Zj,ZF,go_sem,seval]
  ·rintro ⟨i,o⟩ ⟨hi,hpr,hol⟩;simp only at hi hpr hol;simp (disch:=omega) only [YV,go_sem,seval];refine cD ?_ ?_<;>intro h1<;>simp (disch:=omega) only [Sh.out h1,go_sem,seval,↓reduceIte]
   ·have hi2:i<l.length:=Za
    have hLi:=hL _ (ZX hi2)
    have hdrop:l.drop i=nth l i::l.drop (i+1):=by rw [VD hi2,Zk hi2]
    rw [hdrop] at hpr;have hpr:XY Xa [] (W6 (XQ x t sp) (Ut r.rests) k l)=XY Xa o (S7 x t sp r.rests k (nth l i) ((Ut r.rests k).drop 0) (l.drop (i+1))):=hpr
    refine Zl [2,3,7,10,29,30,31,35,36] (fun q:Nat×List Lab=> [(8,.sl 2 0 q.2.length q.2.length),(37,.p (.int .i64 q.1))]) (fun q=> [YV x t r c sp,.dead,.elems 7 (q.2.map Jx),WC (nth l i)])
     (fun q=>q.1<=(Ut r.rests k).length/\XY Xa [] (W6 (XQ x t sp) (Ut r.rests) k l)=XY Xa q.2 (S7 x t sp r.rests k (nth l i) ((Ut r.rests k).drop q.1) (l.drop (i+1)))/\q.2.length<=2*i+q.1) (fun q=>(Ut r.rests k).length-q.1) (0,o) ⟨Zb,hpr,hol⟩ (Weak.mk ?_) ?_
    ·simp (disch:=omega) only [YV,WC,go_sem,seval]
    ·clear hpr hol;rintro ⟨j,o⟩ ⟨hj,hpr,hol⟩;simp only at hj hpr hol;simp (disch:=omega) only [YV,WC,go_sem,seval];refine ZU ?_ ?_<;>intro h2
     ·have hj2:j<(Ut r.rests k).length:=Za
      have hd2:(Ut r.rests k).drop j=nth (Ut r.rests k) j::(Ut r.rests k).drop (j+1):=by rw [VD hj2,Zk hj2]
      have cn:=R0 x t r c sp hok k hk hs1 (nth l i) hLi (nth (Ut r.rests k) j);have ho2:XQ x t sp k (nth l i) (nth (Ut r.rests k) j)=if (nxtF x t sp k (nth l i) (nth (Ut r.rests k) j)).2=0 then some (nxtF x t sp k (nth l i) (nth (Ut r.rests k) j)).1 else none:=rfl;rw [hd2,S7,List.filterMap_cons,ho2] at hpr
      generalize nxtF x t sp k (nth l i) (nth (Ut r.rests k) j)=N at *
      refine X8 cn (Zd ?_);refine Q3 ?_ ?_<;>intro h3
      ·have hcl:=Gy x t r c sp o (nth l i) N.1 Za;simp (disch:=omega) only [gH,YV,WC,go_sem,seval] at hcl;refine hcl.useH (Zd ?_);rw [if_pos h3] at hpr;have hpr:XY Xa [] (W6 (XQ x t sp) (Ut r.rests) k l)=if (o.any fun m=>Xa m N.1)=true then XY Xa o (S7 x t sp r.rests k (nth l i) ((Ut r.rests k).drop (j+1)) (l.drop (i+1))) else XY Xa (o++ [N.1]) (S7 x t sp r.rests k (nth l i) ((Ut r.rests k).drop (j+1)) (l.drop (i+1))):=hpr;refine ZU ?_ ?_<;>intro h4
       ·rw [if_neg (by grind)] at hpr;exact ⟨(j+1,o++ [N.1]),⟨Za,hpr,by simp;omega⟩,Za,Weak.mk (by simp (disch:=omega) only [Zz,ZA,ZF,Xn,Zq,Zj,go_sem,seval])⟩
       ·rw [if_pos (by grind)] at hpr;exact ⟨(j+1,o),⟨Za,hpr,by grind⟩,Za,wk⟩
      ·rw [if_neg h3] at hpr;exact ⟨(j+1,o),⟨Za,hpr,by grind⟩,Za,wk⟩
     ·have hjl:j=(Ut r.rests k).length:=Za
      subst hjl;rw [Uk,S7,List.filterMap_nil,ZD] at hpr;exact ⟨(i+1,o),⟨Za,hpr,by grind⟩,Za,wk⟩
   ·have hil:i=l.length:=Za
    subst hil;have e:W6 (XQ x t sp) (Ut r.rests) k []= []:=rfl;rw [Uk,e,XY] at hpr;rw [hpr];refine Zo (Weak.fz (o:=2) (by rfl)) (Zh [] _ _ _ _ (Jl ?_));exact we
def oN : PV:= .agg [.list true [],.list true [],.list true [],.list true [],.list true [],.list true [],.str [],.int .i64 0,.int .i64 0,.int .i64 0,.list true [],.int .i64 0,.int .i64 0,.int .i64 0,.int .i64 0,.int .i64 0,.int .i64 0,.int .i64 0,.int .i64 0,.int .i64 0,.int .i64 0,.int .i64 0,.list true [],.list true [],.list true []]
theorem qM (x:Inst) (r:Rte) (hty:0<=r.typ/\r.typ<(x.types.length:Int)) (htl:x.types.length<=1048576) (hvl:r.visits.length<=20) (hs: ¬(0<=r.start/\r.start<=4096)) :
  PT 246 [.p (Zr x),.p (Wg r)] [.p oN,.p (.bool false)]:=by
 have e1: ¬r.typ<0:=Za
 have e2: ¬(x.types.length:Int)<=r.typ:=Za
 refine Ze [] Tryz.func246 rfl gV ?_;simp (disch:=omega) only [Tryz.f246,e1,e2,go_sem,seval];refine gF ?_ ?_<;>intro h1<;>simp (disch:=omega) only [Sh.out h1,go_sem,seval,↓reduceIte]
 ·exact we (by simp (disch:=omega) only [oN,go_sem,seval])
 ·refine gF ?_ ?_<;>intro h2<;>simp (disch:=omega) only [Sh.out h2,go_sem,seval,↓reduceIte]
  ·exact we (by simp (disch:=omega) only [oN,go_sem,seval])
  ·omega
theorem Ns {x t sp} : ∀(bs:List Bool) (k:Nat) (L:Lab),¬(Xz x t sp k L bs).2=0->(Xz x t sp k L bs).1=Wx
 | [],k,L,h=>by simp [Xz] at h
 | b::bs,k,L,h=>by
  rw [Xz] at h ⊢
  split
  ·rename_i c;rw [if_pos c] at h;exact Ns bs (k+1) _ h
  ·rfl
theorem Tl (n:Nat):List.replicate n false∈Y8 (List.replicate n false):=by
 rw [fromB_next];simp
theorem fR {l:List Lab} (h:Vw Wi none l=none):l= []:=by
 cases l with
 | nil=>rfl
 | cons a l =>
  obtain ⟨z,hz,_⟩:=Q9 (fin:=Wi) l a;have:Vw Wi none (a::l)=Vw Wi (some a) l:=rfl
  grind
theorem SU {x t sp} {st:Int} {r:List Bool} (h:Vw Wi none ((Y4 r (sp.length+1)).filterMap (Vu (XQ x t sp) 0 (labF t st)))=none): ¬(Xz x t sp 0 (labF t st) (We r (sp.length+1))).2=0:=fun h0=>by
 have h1:=fR h;have h2:We r (sp.length+1)∈Y4 r (sp.length+1):=XO.2 ⟨_,Tl _,rfl⟩
 simp_all [V5]
theorem Ow {x t sp} {st:Int} {r:List Bool} (hr:r.length<=sp.length+1) (h:Vw Wi none (J9 Xa (XQ x t sp) (Ut r) (sp.length+1) 0 [labF t st])=none): ¬(Xz x t sp 0 (labF t st) (We r (sp.length+1))).2=0 :=
 SU (by rw [Hg,Vn,G1 r _ hr] at h;exact h)
def Q2 (x:Inst) (r:Rte):She×Int:=if 0<=r.start/\r.start<=4096/\r.rests.length<=r.visits.length+1 then Xu x r else (zShe,2)
theorem dQ {x t sp} {ch:Nat->List Bool} {k:Nat} {l:List Lab} (hok:TrpOk x t sp) (hs:0<sp.length) (hk:k<=sp.length) (h: ∀L∈l,LabO sp.length k L): ∀L∈XY Xa [] (W6 (XQ x t sp) ch k l),LabO sp.length (k+1) L:=fun L hL=>by
 have h1:=As Xa _ _ L hL;rw [ZD] at h1;obtain ⟨a,ha,hb⟩:=X2.1 h1
 grind [XQ,He]
theorem Dk : ∀(c out:List Lab),(XY Xa out c).length<=out.length+c.length
 | [],out=>by simp [XY]
 | x::c,out=>by
  rw [XY]
  split
  ·have:=Dk c out;simp;omega
  ·have:=Dk c (out++ [x]);simp at this ⊢;omega
theorem GT {x t sp} {r:List Bool} {k:Nat} : ∀l:List Lab,(W6 (XQ x t sp) (Ut r) k l).length<=2*l.length
 | []=>by simp [W6]
 | a::l=>by
  have ih:=GT (x:=x) (t:=t) (sp:=sp) (r:=r) (k:=k) l;have h1:(W6 (XQ x t sp) (Ut r) k (a::l))=(Ut r k).filterMap (XQ x t sp k a)++W6 (XQ x t sp) (Ut r) k l:=rfl
  grind [Ut]
theorem qH (x:Inst) (r:Rte) (hx:InstOk x) (hl:r.visits.length<=1048576) (hrl:r.rests.length<=1048576) (hty:0<=r.typ/\r.typ<(x.types.length:Int)) (h0:Xr x r.visits=0) :
  PT 214 [.p (Zr x),.p (Wg r)] [.p (E1 (Q2 x r).1),.p (.int .i64 (Q2 x r).2)]:=by
 have hd:=Qo hx;have hsq:=UN h0;have hol:=hd.ord;have htl:=hd.typ;have hvl:=hsq.len hol;have hok:=KS hx hty hsq;have hsl:(Z9 x r.visits).length=r.visits.length:=Yp
 have hs1:0<(Z9 x r.visits).length:=by
  rw [hsl];have:=hsq.ne
  grind
 refine Ze [6,13,14] Tryz.func214 rfl Zaj ?_;simp (disch:=omega) only [Tryz.f214,go_sem,seval]
 by_cases hs:0<=r.start/\r.start<=4096
 ·refine X8 (Zb1 x r hx hty h0 hs) (Zd ?_);refine cD ?_ ?_<;>intro h1<;>simp (disch:=omega) only [Sh.out h1,go_sem,seval,↓reduceIte]
  ·have e:Q2 x r=(zShe,2):=by rw [Q2,if_neg Za]
   rw [e];exact we (by simp (disch:=omega) only [zShe,Zj,go_sem,seval])
  ·have hrs:r.rests.length<=r.visits.length+1:=Za
   have e:Q2 x r=Xu x r:=by simp_all [Q2]
   have hbn:= @Ow x (Z0 x r) (Z9 x r.visits) r.start r.rests Za;rw [e,Xu,Ij Za];refine (GQ x (Z0 x r) r false (Z9 x r.visits)).use (Zd ?_)
   generalize hT:Z0 x r=t at *
   generalize hS:Z9 x r.visits=sp at *
   refine Zo (Weak.fz (o:=4) (by rfl)) ?_;refine Zh [13,14] _ _ _ _ (Zd ?_)
   refine ZV [13,14] [3,4,6,8,38] (fun q:Nat×List Lab=> [(9,.p (.list false (q.2.map Jx))),(39,.p (.int .i64 q.1))]) (fun _=> [Zf x,Xo r,.cells [.p (.bool false),.p (.int .i64 0),.p (.list true []),.p (.int .i64 0),.p (.int .i64 0)],YV x t r false sp,.dead])
    (fun q=>q.1<=sp.length+1/\J9 Xa (XQ x t sp) (Ut r.rests) (sp.length+1) 0 [labF t r.start]=J9 Xa (XQ x t sp) (Ut r.rests) (sp.length+1-q.1) q.1 q.2/\(∀L∈q.2,LabO sp.length q.1 L)/\q.2.length<=2^q.1) (fun q=>sp.length+1-q.1) (0,[labF t r.start]) ⟨Zb,Zb,fun L hL=>by grind [Hf],Zb⟩ (Weak.mk ?_) ?_
   ·simp (disch:=omega) only [Zf,Xo,YV,Zq,Zj,ZK,ZY,go_sem,seval]
   ·rintro ⟨k,l⟩ ⟨hk,hit,hlo,hll⟩;simp only at hk hit hlo hll;simp (disch:=omega) only [Zf,Xo,YV,go_sem,seval];refine cD ?_ ?_<;>intro h2<;>simp (disch:=omega) only [Sh.out h2,go_sem,seval,↓reduceIte]
    ·have hk2:k<=sp.length:=Za
     have hp20:2^k<=2^20:=Yi Za Za;refine (xF x t r false sp hok hs1 k hk2 hrl l false Za hlo).use (Zd ?_)
     have hn:J9 Xa (XQ x t sp) (Ut r.rests) (sp.length+1-k) k l=J9 Xa (XQ x t sp) (Ut r.rests) (sp.length+1-(k+1)) (k+1) (XY Xa [] (W6 (XQ x t sp) (Ut r.rests) k l)):=by
      have e:sp.length+1-k=(sp.length+1-(k+1))+1:=Za
      rw [e,J9]
     have hln:=Dk (W6 (XQ x t sp) (Ut r.rests) k l) [];have hln2:=GT (x:=x) (t:=t) (sp:=sp) (r:=r.rests) (k:=k) l;exact ⟨(k+1,XY Xa [] (W6 (XQ x t sp) (Ut r.rests) k l)),⟨Za,hit.trans hn,dQ hok hs1 hk2 hlo,by grind⟩,Za,Weak.mk (by simp (disch:=omega) only [ZK,ZY,go_sem,seval])⟩
    ·have hkn:k=sp.length+1:=Za
     subst hkn;rw [Ai,J9] at hit;rw [hit] at hbn ⊢;clear hit;refine cD ?_ ?_<;>intro h3<;>simp (disch:=omega) only [Sh.out h3,go_sem,seval,↓reduceIte]
     ·have hl0:l= []:=Ys Za;subst hl0;have hbn:=hbn rfl;refine YP (D6 3 rfl rfl (Zd ?_));refine ⟨_,_,M9 (e:=4) rfl Tryz.underlying31 Zg rfl rfl rfl ?_ ?_ ?_,?_⟩
      ·simp
      ·simp;omega
      ·intro q hq;obtain ⟨b,_,rfl⟩:=XO.1 hq
       rfl
      ·have hpl:(We r.rests (sp.length+1)).length=sp.length+1:=by simp [We];omega
       have hpad:r.rests.map eB++(PV.bool false::List.replicate r.visits.length (PV.bool false)).drop (r.rests.map eB).length=(We r.rests (sp.length+1)).map eB:=by
        rw [We,Xn,<- A4,List.drop_replicate,B4,hsl,Zy];rfl
       have hcr:=ZiW x t r false sp hok hs1 hs (We r.rests (sp.length+1)) false hpl;have hbad:=Ns _ _ _ hbn;rw [hbad] at hcr;simp only [ZK,ZY];rw [hpad]
       generalize hRP:We r.rests (sp.length+1)=rp at *
       refine Zo (Weak.fz (o:=5) (by rfl)) (Zh [] _ _ _ _ (Jl ?_));rw [if_pos Za];refine X8 hcr (Zd ?_);have hfm0:Vw Wi none ([]:List Lab)=none:=rfl;rw [hfm0];exact we (by simp (disch:=omega) only [Wx,zShe,Zj,go_sem,seval])
     ·cases l with
      | nil=>simp at h3
      | cons l0 l =>
       have e0:Kg ((l0::l).map Jx) 0=Jx l0:=rfl;have hn0:nth (l0::l) 0=l0:=rfl;simp (disch:=first | omega | (simp only [ZA,ZF,Zz,Zy,Z6,Xt]<;>omega)) only [hn0,X3,go_sem,seval];have hfm:Vw Wi none (l0::l)=Vw Wi (some l0) l:=rfl;rw [hfm]
       have hlen:l.length<=2097152:=by
        have hp20:2^(sp.length+1)<=2^21:=Yi Za Za
        grind
       refine Zl [4,12,65,66] (fun q:Nat×Lab=> [(67,.p (.int .i64 q.1))]) (fun q=> [Zf x,Xo r,.cells [.p (.bool false),.p (.int .i64 0),.p (.list true []),.p (.int .i64 0),.p (.int .i64 0)],YV x t r false sp,.dead,WC q.2])
        (fun q=>q.1<=l.length/\Vw Wi (some l0) l=Vw Wi (some q.2) (l.drop q.1)) (fun q=>l.length-q.1) (0,l0) Zb (Weak.mk ?_) ?_
       ·simp (disch:=omega) only [Zf,Xo,YV,WC,go_sem,seval]
       ·rintro ⟨i,m⟩ ⟨hi,hm⟩;simp only at hi hm;simp (disch:=omega) only [Zf,Xo,YV,WC,go_sem,seval];refine cD ?_ ?_<;>intro h4<;>simp (disch:=omega) only [Sh.out h4,go_sem,seval,↓reduceIte]
        ·have hi2:i<l.length:=Za
         have hdrop:l.drop i=nth l i::l.drop (i+1):=by rw [VD hi2,Zk hi2]
         rw [hdrop,Vw] at hm;refine ZU ?_ ?_<;>intro h5
         ·rw [if_pos (show Wi (nth l i)<Wi m from h5)] at hm;exact ⟨(i+1,nth l i),⟨Za,hm⟩,Za,wk⟩
         ·rw [if_neg (show ¬Wi (nth l i)<Wi m from h5)] at hm;exact ⟨(i+1,m),⟨Za,hm⟩,Za,wk⟩
        ·have hil:i=l.length:=Za
         subst hil;rw [Uk,Vw] at hm;rw [hm];exact we
 ·have e:Q2 x r=(zShe,2):=by rw [Q2,if_neg (fun h=>hs ⟨h.1,h.2.1⟩)]
  rw [e];refine X8 (qM x r hty htl hvl hs) ?_;simp (disch:=omega) only [oN,go_sem,seval];exact we (by simp (disch:=omega) only [zShe,Zj,go_sem,seval])
end Go.Proofs.YtjkkdmeebhjaiaaGreatDoor.K
namespace Go.AM
open Go.RowKit
theorem iR (k v:Int) (l:List (Int×Int)): ∃l',iQ (.int .i64 k) (.int .i64 v) (l.map eII)=l'.map eII/\(∀q,Kx l' q=if q=k then v else Kx l q)/\l'.length<=l.length+1:=by
 unfold iQ;rw [Da]
 cases hm:Hq l k with
 | none =>
  refine ⟨l++ [(k,v)],by simp [eII],fun q=> ?_,Zb⟩
  have e1:Hq (l++ [(k,v)]) k=some l.length:=by
   grind [Hq]
  by_cases hq:q=k
  ·grind [Kx]
  ·rw [if_neg hq];unfold Kx
   have e3:Hq (l++ [(k,v)]) q=Hq l q:=by
    grind [Hq]
   rw [e3]
   cases hc:Hq l q with
   | none=>rfl
   | some i =>
    unfold Hq at hc
    grind [VC]
 | some i =>
  refine ⟨l.set i (k,v),by simp_all [eII],?_,Zb⟩;have hH:oat [.map (l.map eII)] 0= .map (l.map eII):=rfl;have:=O3 (H:= [.map (l.map eII)]) (o:=0) (l:=l) (k:=k) (i:=i) (v:=v) (K:=fun _ _=> ∀q,Kx (l.set i (k,v)) q=if q=k then v else Kx l q) hH hm fun h=>h;unfold KY at this;obtain ⟨u,q1,_⟩:=Ft hm
  simp_all [AR]
theorem iS {P:Program} {H:List Obj} {t:TypeId} {o:Nat} {l:List (Int×Int)} {k v:Int} {K:V->List Obj->Prop} (hT:iJ P t=some (.int .i64,some (.int .i64 0))) (hH:oat H o= .map (l.map eII))
  (h: ∀l':List (Int×Int),(∀q,Kx l' q=if q=k then v else Kx l q)->K .junk (H.set o (.map (l'.map eII)))):AR (Dz P H t (.mp o) (.p (.int .i64 k)) (.p (.int .i64 v))) K:=by
 obtain ⟨kt,et,h1,h2,h3⟩:=MU hT;obtain ⟨l',e,hg,_⟩:=iR k v l
 grind [Dz,Hi,AR]
end Go.AM
namespace Go.Proofs.YtjkkdmeebhjaiaaGreatDoor.K
open Go Go.AM Go.Proofs
set_option maxRecDepth 8000
set_option maxHeartbeats 8000000
def E0 (l:List Vis) (k:Nat) (q:Int):Int:=((l.take k).countP fun v=>decide (v.order=q):Nat)
theorem S8 {l:List Vis} {k:Nat} (h:k<l.length) (q:Int):E0 l (k+1) q=if q=(nth l k).order then E0 l k q+1 else E0 l k q:=by
 unfold E0;rw [Xm h,List.countP_append,Zk h]
 grind
theorem eL {l:List Vis} {k:Nat} (h:k<=l.length) (q:Int):0<=E0 l k q/\E0 l k q<=k:=by
 grind [E0,Z6]
theorem OF {l:List Vis} {k:Nat} :Ue l k=decide (E0 l k (nth l k).order=0):=by
 unfold Ue E0;rw [Wl];simp
theorem A7 (a b:Int):PC 250 [.p (.int .i64 a),.p (.int .i64 b)] (.bool (Xk a b)):=by
 refine Zc Tryz.func250 rfl ZaR ?_;simp (disch:=omega) only [Tryz.f250,go_sem,seval];refine gT ?_ ?_<;>intro h<;>simp (disch:=omega) only [Sh.out h,go_sem,seval,↓reduceIte]
 ·simp [Xk,h]
 simp_all [Xk]
theorem jO (x:Inst) (r:Rte) (s:She) (hty:0<=r.typ/\r.typ<(x.types.length:Int)) (ho:x.orders.length<=1048576) (ht:x.types.length<=1048576) (hl:r.visits.length<=1048576) (hv:Inr x r.visits)
  (hc:0<=(Z0 x r).fixed/\(Z0 x r).fixed<=100000/\0<=(Z0 x r).perMile/\(Z0 x r).perMile<=100/\0<=(Z0 x r).perTick/\(Z0 x r).perTick<=100) (ho2:0<=(Z0 x r).opn/\(Z0 x r).opn<=4096)
  (hf: -4096<=s.fin/\s.fin<=8192) (hm:0<=s.miles/\s.miles<=1000000) :
  PC 215 [.p (Zr x),.p (Wg r),.p (E1 s)] (DV (Lo x r s)):=by
 have hti:r.typ.toNat<x.types.length:=Za
 have hT:iJ Tryz.prog 306=some (.int .i64,some (.int .i64 0)):=Zg
 unfold Lo;have htd:nth x.types r.typ.toNat=Z0 x r:=rfl
 generalize Z0 x r=t at *
 have e1: ¬r.typ<0:=Za
 have e2: ¬(x.types.length:Int)<=r.typ:=Za
 have p1:0<=t.perMile*s.miles/\t.perMile*s.miles<=100*1000000:=⟨Ul Za Za,VF Za Za Za Za⟩
 have hW: -8192<=s.fin-t.opn/\s.fin-t.opn<=8192:=Za
 have p2: -819200<=t.perTick*(s.fin-t.opn)/\t.perTick*(s.fin-t.opn)<=819200:=by
  generalize s.fin-t.opn=w at hW;have a1:=C7 hW.2 (show 0<=t.perTick by omega);have a2:=C7 hW.1 (show 0<=t.perTick by omega);omega
 have p3: -128<=(s.fin-t.opn).tdiv 64/\(s.fin-t.opn).tdiv 64<=128:=by
  grind
 have p4:0<=(s.fin-t.opn).tdiv 64*(s.fin-t.opn).tdiv 64/\(s.fin-t.opn).tdiv 64*(s.fin-t.opn).tdiv 64<=16384:=by
  generalize (s.fin-t.opn).tdiv 64=q at p3;refine ⟨?_,?_⟩
  ·rcases Ag 0 q with h | h
   ·exact Ul h h
   ·exact Int.mul_nonneg_of_nonpos_of_nonpos h h
  ·rcases Ag 0 q with h | h
   ·have:=VF p3.2 p3.2 h Za;omega
   ·have h2:0<= -q:=Za
    have:=VF (show-q<=128 by omega) (show-q<=128 by omega) h2 Za
    grind
 refine Zc Tryz.func215 rfl Zak ?_;simp (disch:=omega) only [Tryz.f215,e1,e2,htd,go_sem,seval]
 refine Zl [3,4,6,10,11,59,60] (fun q:Nat×List (Int×Int)=> [(61,.p (.int .i64 q.1))]) (fun q=> [Zf x,Xo r,.cells [.p (.bool s.rest),.p (.int .i64 s.dep),.p (.list s.times_c (s.times.map eTim)),.p (.int .i64 s.fin),.p (.int .i64 s.miles)],CC 0 0 0 0,X5 t,CC (t.fixed+t.perMile*s.miles+t.perTick*(s.fin-t.opn)) (chgF x r.visits r.typ q.1).1 (chgF x r.visits r.typ q.1).2 ((s.fin-t.opn).tdiv 64*(s.fin-t.opn).tdiv 64),.map (q.2.map eII)])
  (fun q=>q.1<=r.visits.length/\ ∀n,Kx q.2 n=E0 r.visits q.1 n) (fun q=>r.visits.length-q.1) (0,[]) ⟨Zb,fun n=>rfl⟩ (Weak.mk ?_) ?_
 ·simp (disch:=omega) only [Zf,Xo,X5,CC,chgF,go_sem,seval]
 ·rintro ⟨k,m⟩ ⟨hk,hmg⟩;simp only at hk hmg;have hch:=BB (x:=x) (l:=r.visits) (t:=r.typ) k;simp (disch:=omega) only [Zf,Xo,X5,CC,go_sem,seval];refine cD ?_ ?_<;>intro h1<;>simp (disch:=omega) only [Sh.out h1,go_sem,seval,↓reduceIte]
  ·have hk2:k<r.visits.length:=Za
   obtain ⟨v1,v2⟩:=hv _ (Zu hk2)
   have e3: ¬(nth r.visits k).order<0:=Za
   have e4: ¬(x.orders.length:Int)<=(nth r.visits k).order:=Za
   have v3:(nth r.visits k).order.toNat<x.orders.length:=Za
   have hcs:=S8 hk2;have hcr:=eL hk (nth r.visits k).order;have hfi:=OF (l:=r.visits) (k:=k);have hch2:chgF x r.visits r.typ (k+1)=_:=chgF.eq_2 x r.visits r.typ k;refine MS hT rfl ?_;rw [hmg];refine Zd ?_;refine iS hT rfl fun m' hm'=> ?_
   have hmg': ∀n,Kx m' n=E0 r.visits (k+1) n:=fun n=>by grind
   simp (disch:=omega) only [e3,e4,ZK,ZY,go_sem,seval];refine MS hT rfl ?_;rw [hm',if_pos rfl];refine Zd ?_;refine ZU ?_ ?_<;>intro h2
   ·have h3: ¬Ue r.visits k=true:=by grind
    rw [if_neg h3] at hch2;exact ⟨(k+1,m'),⟨Za,hmg'⟩,Za,Weak.mk (by simp (disch:=omega) only [hch2,go_sem,seval])⟩
   ·have h3:Ue r.visits k=true:=by grind
    rw [if_pos h3] at hch2;refine (A7 (nth x.orders (nth r.visits k).order.toNat).now r.typ).use (Zd ?_);refine cD ?_ ?_<;>intro h4<;>simp (disch:=omega) only [Sh.out h4,go_sem,seval,↓reduceIte]
    ·rw [if_pos h4] at hch2;refine (A7 (nth x.orders (nth r.visits k).order.toNat).last r.typ).use (Zd ?_);refine ZU ?_ ?_<;>intro h5
     ·rw [if_pos h5] at hch2;exact ⟨(k+1,m'),⟨Za,hmg'⟩,Za,Weak.mk (by simp (disch:=omega) only [hch2,go_sem,seval])⟩
     ·rw [if_neg (by rw [h5];simp)] at hch2;exact ⟨(k+1,m'),⟨Za,hmg'⟩,Za,Weak.mk (by simp (disch:=omega) only [hch2,Uo,go_sem,seval])⟩
    ·rw [if_neg (by rw [h4];simp)] at hch2;refine (A7 (nth x.orders (nth r.visits k).order.toNat).last r.typ).use (Zd ?_);refine ZU ?_ ?_<;>intro h5
     ·rw [if_pos h5] at hch2;exact ⟨(k+1,m'),⟨Za,hmg'⟩,Za,Weak.mk (by simp (disch:=omega) only [hch2,Uo,go_sem,seval])⟩
     ·rw [if_neg (by rw [h5];simp)] at hch2;exact ⟨(k+1,m'),⟨Za,hmg'⟩,Za,Weak.mk (by simp (disch:=omega) only [hch2,Uo,go_sem,seval])⟩
  grind
end Go.Proofs.YtjkkdmeebhjaiaaGreatDoor.K
namespace Go.Proofs.YtjkkdmeebhjaiaaGreatDoor.K
open Go Go.AM Go.Proofs
set_option maxRecDepth 8000
set_option maxHeartbeats 8000000
@[go_sem] theorem ZdB {f:FuncId} :(PV.fn f).cells= [.fn f]:=Zm rfl rfl
def Zcg : AM.Obj:= .cells [.p (.bool false),.p (.int .i64 0),.p (.list true []),.p (.int .i64 0),.p (.int .i64 0)]
theorem OJ (x:Inst) (r:Rte) (hx:InstOk x) (hl:r.visits.length<=1048576) (hrl:r.rests.length<=1048576):ACalls Tryz.prog 195 [.p (Zr x),.p (Wg r)] [] fun y H'=>y=BI x r/\H'= []:=by
 have hld:=Qo hx;have htl:=hld.typ;have hol:=hld.ord;have chk:=jP x r hx hl
 have htb:x.types.length<=6:=by have:=hx.types.1;simp only [rng,Zs] at this;omega
 refine Ze [] Tryz.func195 rfl zU ?_;simp (disch:=omega) only [Tryz.f195,go_sem,seval];refine gF ?_ ?_<;>intro h1<;>simp (disch:=omega) only [Sh.out h1,go_sem,seval,↓reduceIte]
 ·have e:Yn x r=2:=by rw [Yn,if_pos Za]
  rw [Yv (e:=2) (by rw [XD,e];rfl) Za];exact we (by simp (disch:=omega) only [zShe,zSco,Zj,go_sem,seval])
 ·refine cD ?_ ?_<;>intro h2<;>simp (disch:=omega) only [Sh.out h2,go_sem,seval,↓reduceIte]
  ·have e:Yn x r=2:=by simp_all [Yn]
   rw [Yv (e:=2) (by rw [XD,e];rfl) Za];exact we (by simp (disch:=omega) only [zShe,zSco,Zj,go_sem,seval])
  ·have hty:0<=r.typ/\r.typ<(x.types.length:Int):=Za
   have hti:r.typ.toNat<x.types.length:=Za
   have hnum:=V8 hx hti;have htyp:nth x.types r.typ.toNat=Z0 x r:=rfl;rw [htyp] at hnum
   have hsk: ∀o∈x.orders,o.skills<9223372036854775808:=fun o hm=>by
    obtain ⟨i,hi,rfl⟩:=ZN.1 hm;have:=(hx.orders.2 i hi).skills
    grind [Zk]
   refine Zl [2,3,4,5,25,26] (fun k:Nat=> [(27,.p (.int .i64 k))]) (fun _=> [Zf x,Xo r,Zcg,CC 0 0 0 0,.elems 1 [.fn 211,.fn 212,.fn 213]])
    (fun k=>k<=3/\(0<k->Xr x r.visits=0)/\(1<k-> ¬(r.visits.any fun v=> !WI (Z0 x r) (nth x.orders v.order.toNat).skills)=true)/\(2<k->Qr x (Z0 x r).cap r.visits=true)) (fun k=>3-k) 0 ⟨Za,Za,Za,Za⟩ (Weak.mk ?_) ?_
   ·simp (disch:=omega) only [Zf,Xo,CC,Zcg,go_sem,seval]
   ·rintro k ⟨hk,k1,k2,k3⟩;simp (disch:=omega) only [Zf,Xo,CC,Zcg,go_sem,seval];refine cD ?_ ?_<;>intro h3<;>simp (disch:=omega) only [Sh.out h3,go_sem,seval,↓reduceIte]
    ·by_cases hk0:k=0
     ·subst hk0;have he:Kg [PV.fn 211,PV.fn 212,PV.fn 213] 0=PV.fn 211:=rfl;simp (disch:=first | omega | (simp only [ZA,ZF,Zz,Zy,Z6,Xt]<;>omega)) only [he,go_sem,seval,↓reduceIte];refine (chk).use (Zd ?_);refine ZU ?_ ?_<;>intro h4
      ·have e:Yn x r=Xr x r.visits:=by simp_all [Yn]
       rw [Yv (e:=Xr x r.visits) (by simp_all [XD]) h4];exact we (by simp (disch:=omega) only [zShe,zSco,Zj,go_sem,seval])
      ·exact ⟨1,⟨Za,fun _=>Za,Za,Za⟩,Za,wk⟩
     ·have h0:=k1 Za;have hsq:=UN h0
      have hr0:Yn x r=if (r.visits.any fun v=> !WI (Z0 x r) (nth x.orders v.order.toNat).skills)=true then 18 else if Qr x (Z0 x r).cap r.visits=false then 17 else if ¬(0<=r.start/\r.start<=4096/\r.rests.length<=r.visits.length+1) then 2 else 0:=by
       rw [Yn,if_neg (fun h=>h hty),if_neg Za]
      by_cases hk1:k=1
      ·subst hk1;have he:Kg [PV.fn 211,PV.fn 212,PV.fn 213] 1=PV.fn 212:=rfl;simp (disch:=first | omega | (simp only [ZA,ZF,Zz,Zy,Z6,Xt]<;>omega)) only [he,go_sem,seval,↓reduceIte];refine (jN x r hty (fun v hv=>by have:=hsq.inr v hv;grind [MJ]) hl htl Za Za hsk).use (Zd ?_)
       by_cases h5:(r.visits.any fun v=> !WI (Z0 x r) (nth x.orders v.order.toNat).skills)=true
       ·rw [if_pos h5] at hr0 ⊢;rw [Yv (e:=18) (by rw [XD,hr0];rfl) Za];refine Zd ?_;exact we (by simp (disch:=omega) only [zShe,zSco,Zj,go_sem,seval])
       ·rw [if_neg h5];refine Zd ?_;exact ⟨2,⟨Za,fun _=>h0,fun _=>h5,Za⟩,Za,wk⟩
      ·have hk2:k=2:=Za
       subst hk2;have he:Kg [PV.fn 211,PV.fn 212,PV.fn 213] 2=PV.fn 213:=rfl;simp (disch:=first | omega | (simp only [ZA,ZF,Zz,Zy,Z6,Xt]<;>omega)) only [he,go_sem,seval,↓reduceIte];refine (jK x r hx hl hty h0).use (Zd ?_);rw [if_neg (k2 Za)] at hr0
       cases h5:Qr x (Z0 x r).cap r.visits with
       | false =>
        rw [if_pos h5] at hr0;rw [Yv (e:=17) (by rw [XD,hr0];rfl) Za];simp only [YT,Yj];refine Zd ?_;exact we (by simp (disch:=omega) only [zShe,zSco,Zj,go_sem,seval])
       | true =>
        simp only [if_true];refine Zd ?_;exact ⟨3,⟨Za,fun _=>h0,fun _=>k2 Za,fun _=>Zb⟩,Za,wk⟩
    ·have hk3:k=3:=Za
     subst hk3;have h0:=k1 Za;have hsq:=UN h0
     have hr0:Yn x r=if ¬(0<=r.start/\r.start<=4096/\r.rests.length<=r.visits.length+1) then 2 else 0:=by
      rw [Yn,if_neg (fun h=>h hty),if_neg Za,if_neg (k2 Za),if_neg (by grind)]
     have cb:=qH x r hx hl hrl hty h0;have hok:=KS hx hty hsq
     have hbr:Q2 x r=Xu x r->(Xu x r).2=0->(0<=r.start/\r.start<=4096/\r.rests.length<=r.visits.length+1)->(0<=(Xu x r).1.fin/\(Xu x r).1.fin<=8192)/\(0<=(Xu x r).1.miles/\(Xu x r).1.miles<=210000):=fun _ hz hs =>
      EU hok ⟨hs.1,hs.2.1⟩ (by grind [Yp]) hz
     by_cases h6:0<=r.start/\r.start<=4096/\r.rests.length<=r.visits.length+1
     ·have e:Yn x r=0:=Za
      have ee:XD x r=(Xu x r).2:=by rw [XD,if_pos e]
      have eb:Q2 x r=Xu x r:=by rw [Q2,if_pos h6]
      have hbr:=fun hz=>hbr eb hz h6;rw [eb] at cb
      have es:Wy x r=if (Xu x r).2=0 then (Xu x r).1 else zShe:=by rw [Wy,ee]
      have ep:WL x r=if (Xu x r).2=0 then Lo x r (Xu x r).1 else zSco:=by rw [WL,ee]
      unfold BI;rw [ee,es,ep];clear ee es ep eb
      generalize Xu x r=q at *
      obtain ⟨sh,eb⟩:=q;simp only at cb hbr ⊢;refine X8 cb (Zd ?_);refine cD ?_ ?_<;>intro h7<;>simp (disch:=omega) only [Sh.out h7,go_sem,seval,↓reduceIte]
      ·exact we (by simp (disch:=omega) only [zShe,zSco,Zj,go_sem,seval])
      ·have h7':eb=0:=Za
       try rw [if_pos h7',if_pos h7']
       subst h7';obtain ⟨g1,g2⟩:=hbr rfl;refine ZB 5 mixed Zg Zg (Zd ?_);refine Zn (jO x r sh hty Za htl hl hsq.inr hnum.2.2.2.1 Za Za Za) (Zd ?_);exact we
     ·have e:Yn x r=2:=Za
      have eb:Q2 x r=(zShe,2):=by rw [Q2,if_neg h6]
      rw [Yv (e:=2) (by rw [XD,e];rfl) Za];rw [eb] at cb;refine X8 cb (Zd ?_);exact we (by simp (disch:=omega) only [zShe,zSco,Zj,go_sem,seval])
theorem Q7 {x:Inst} {r:Rte} (h:XD x r=0):Yn x r=0:=by
 grind [XD]
theorem Aw {x:Inst} {r:Rte} (h:Yn x r=0):(0<=r.typ/\r.typ<(x.types.length:Int))/\Xr x r.visits=0/\(0<=r.start/\r.start<=4096/\r.rests.length<=r.visits.length+1):=by
 unfold Yn at h;omega
theorem Mn {x:Inst} {r:Rte} (hx:InstOk x) (h:XD x r=0):(0<=(Wy x r).fin/\(Wy x r).fin<=8192)/\(0<=(Wy x r).miles/\(Wy x r).miles<=210000):=by
 obtain ⟨hty,h0,hs⟩:=Aw (Q7 h)
 have e:Wy x r=(Xu x r).1:=by rw [Wy,if_pos h]
 have ee:(Xu x r).2=0:=by rw [XD,if_pos (Q7 h)] at h;exact h
 rw [e];exact EU (KS hx hty (UN h0)) ⟨hs.1,hs.2.1⟩ (by grind [Yp]) ee
theorem G0 {x:Inst} {r:Rte} (hx:InstOk x) (hl:r.visits.length<=1048576) (h:XD x r=0):scoR 1073741824 (WL x r):=by
 have hg:=Mn hx h;obtain ⟨hty,_,_⟩:=Aw (Q7 h);have hnum:=V8 hx (show r.typ.toNat<x.types.length by omega);have htyp:nth x.types r.typ.toNat=Z0 x r:=rfl;rw [htyp] at hnum
 have e:(Xu x r).1=Wy x r:=by rw [Wy,if_pos h]
 have hch:=BB (x:=x) (l:=r.visits) (t:=r.typ) r.visits.length;rw [WL,if_pos h,e];unfold Lo scoR
 generalize Wy x r=s at *
 generalize Z0 x r=t at *
 have p1:0<=t.perMile*s.miles/\t.perMile*s.miles<=100*210000:=⟨Ul Za Za,VF Za Za Za Za⟩
 have hW: -8192<=s.fin-t.opn/\s.fin-t.opn<=8192:=Za
 have p2: -819200<=t.perTick*(s.fin-t.opn)/\t.perTick*(s.fin-t.opn)<=819200:=by
  generalize s.fin-t.opn=w at hW;have a1:=C7 hW.2 (show 0<=t.perTick by omega);have a2:=C7 hW.1 (show 0<=t.perTick by omega);omega
 have p3: -128<=(s.fin-t.opn).tdiv 64/\(s.fin-t.opn).tdiv 64<=128:=by
  grind
 have p4:0<=(s.fin-t.opn).tdiv 64*(s.fin-t.opn).tdiv 64/\(s.fin-t.opn).tdiv 64*(s.fin-t.opn).tdiv 64<=16384:=by
  generalize (s.fin-t.opn).tdiv 64=q at p3;refine ⟨?_,?_⟩
  ·rcases Ag 0 q with h | h
   ·exact Ul h h
   ·exact Int.mul_nonneg_of_nonpos_of_nonpos h h
  ·rcases Ag 0 q with h | h
   ·have:=VF p3.2 p3.2 h Za;omega
   ·have h2:0<= -q:=Za
    have:=VF (show-q<=128 by omega) (show-q<=128 by omega) h2 Za
    grind
 grind
def QV (x:Inst) (r:Rte):Int×Int:=if XD x r=0 then YW (WL x r) else (0,XD x r)
theorem lP (s:Sco):0<=(YW s).1/\(YW s).1<=36028797018963968:=by
 grind [YW]
theorem Nl (x:Inst) (r:Rte):0<=(QV x r).1/\(QV x r).1<=36028797018963968:=by
 unfold QV
 split
 ·exact lP _
 ·simp
theorem aM (x:Inst) (r:Rte) (hx:InstOk x) (hb:Zcb r):PT 164 [.p (Zr x),.p (Wg r)] [.p (.int .i64 (QV x r).1),.p (.int .i64 (QV x r).2)]:=by
 have ce:=OJ x r hx hb.1 hb.2;refine Ze [] Tryz.func164 rfl yZ ?_;simp (disch:=omega) only [Tryz.f164,go_sem,seval];unfold BI at ce;refine NW ce (Zd ?_);refine cD ?_ ?_<;>intro h1<;>simp (disch:=omega) only [Sh.out h1,go_sem,seval,↓reduceIte]
 ·rw [QV,if_neg h1];exact we
 ·have h0:XD x r=0:=Za
  rw [QV,if_pos h0];refine Y5 (Ht (WL x r) (Ax Za (G0 hx hb.1 h0))) (Zd ?_);exact we
theorem Nq (x:Inst) (r:Rte) (hx:InstOk x) (hb:Zcb r):PT 149 [.p (Zr x),.p (Wg r)] [.p (.int .i64 (QV x r).1),.p (.int .i64 (QV x r).2)]:=by
 have ce:=BJ x r hx hb.1 hb.2;refine Ze [] Tryz.func149 rfl yQ ?_;simp (disch:=omega) only [Tryz.f149,go_sem,seval];unfold BI at ce;refine NW ce (Zd ?_);refine cD ?_ ?_<;>intro h1<;>simp (disch:=omega) only [Sh.out h1,go_sem,seval,↓reduceIte]
 ·rw [QV,if_neg h1];exact we
 ·have h0:XD x r=0:=Za
  rw [QV,if_pos h0];refine Y5 (Gf (WL x r) (Ax Za (G0 hx hb.1 h0))) (Zd ?_);exact we
end Go.Proofs.YtjkkdmeebhjaiaaGreatDoor.K
