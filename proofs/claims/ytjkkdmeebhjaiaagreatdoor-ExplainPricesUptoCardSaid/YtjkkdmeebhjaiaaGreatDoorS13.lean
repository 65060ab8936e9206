/- Declarations that the closing texts need, part 13: joined by tools/slim.py. -/
import Derived.Test.YtjkkdmeebhjaiaaGreatDoorS12
set_option linter.unusedVariables false
set_option linter.unusedSimpArgs false
namespace Go.Proofs.YtjkkdmeebhjaiaaGreatDoor.K
open Go Go.AM Go.Proofs
def GK (x:Inst) (l:List Vis) (n i:Nat):Bool:=(l.take n).foldl (fun on v=>if v.order=(i:Int) then !v.drp else on) (decide ((nth x.orders i).pick.place<0))
theorem kH {x:Inst} {l:List Vis} {i:Nat} :GK x l 0 i=decide ((nth x.orders i).pick.place<0):=by simp [GK]
theorem F1 {x:Inst} {l:List Vis} {n i:Nat} (h:n<l.length):GK x l (n+1) i=if (nth l n).order=(i:Int) then !(nth l n).drp else GK x l n i:=by
 grind [GK,XZ,Zj]
structure SqOk (x:Inst) (l:List Vis):Prop where
 ne:l≠ []
 inr:Inr x l
 nd:l.Nodup
 pair: ∀v∈l,pairB x.orders l v=true
theorem UY {x:Inst} {l:List Vis} (h:Xf x l=0):SqOk x l:=by
 unfold Xf at h
 split at h
 ·simp at h
 ·rename_i h1
  split at h
  ·simp at h
  ·split at h
   ·simp at h
   ·rename_i h3
    split at h
    ·simp at h
    ·rename_i h4;refine ⟨fun e=>h1 (.inl (by simp [e])),fun v hv=> ?_,BG.1 (by grind),fun v hv=> ?_⟩
     ·grind [Vw]
     grind
structure OwnV (x:Inst) (l:List Vis) (i:Nat):Prop where
 pick:0<=(nth x.orders i).pick.place->(⟨i,false⟩:Vis)∈l
 drp:0<=(nth x.orders i).drp.place->(⟨i,true⟩:Vis)∈l
 both:0<=(nth x.orders i).pick.place->0<=(nth x.orders i).drp.place->vIx l ⟨i,false⟩<vIx l ⟨i,true⟩
 isP:(⟨i,false⟩:Vis)∈l->0<=(nth x.orders i).pick.place
 isD:(⟨i,true⟩:Vis)∈l->0<=(nth x.orders i).drp.place
theorem SqOk.own {x:Inst} {l:List Vis} (h:SqOk x l) {i:Nat} (hi: ∃v∈l,v.order=(i:Int)):OwnV x l i:=by
 obtain ⟨v0,hv0,ho⟩:=hi
 have key: ∀v∈l,v.order=(i:Int)->v∈ZU x.orders i/\QR l (-1) (ZU x.orders i)=true:=fun v hv hvo=>by
  have:=h.pair v hv;simp only [pairB,hvo,XS,Zv,Zr] at this;exact ⟨Wk.1 this.1,this.2⟩
 obtain ⟨_,hasc⟩:=key v0 hv0 ho;have mem: ∀b:Bool,(⟨i,b⟩:Vis)∈l->(⟨i,b⟩:Vis)∈ZU x.orders i:=fun b hb=>(key _ hb rfl).1
 have hp:(⟨i,false⟩:Vis)∈ZU x.orders i->0<=(nth x.orders i).pick.place:=fun hm=>by
  unfold ZU at hm
  grind
 have hd:(⟨i,true⟩:Vis)∈ZU x.orders i->0<=(nth x.orders i).drp.place:=fun hm=>by
  unfold ZU at hm
  grind
 have m1: ∀v,-1<vIx l v->v∈l:=fun v hv=>Wk.1 Za;unfold ZU at hasc
 by_cases c1:0<=(nth x.orders i).pick.place<;>by_cases c2:0<=(nth x.orders i).drp.place
 ·simp only [c1,c2,if_true,ZM,ZE,QR,QC,Zv,Zr] at hasc;exact ⟨fun _=>m1 _ hasc.1,fun _=>m1 _ Za,fun _ _=>hasc.2,fun _=>c1,fun _=>c2⟩
 ·simp only [c1,c2,if_true,Yo,Yw,QR,QC,Zr] at hasc;exact ⟨fun _=>m1 _ hasc,fun h=>absurd h c2,fun _ h=>absurd h c2,fun _=>c1,fun hm=>hd (mem _ hm)⟩
 ·simp only [c1,c2,if_true,Yo,ZE,QR,QC,Zr] at hasc;exact ⟨fun h=>absurd h c1,fun _=>m1 _ hasc,fun h=>absurd h c1,fun hm=>hp (mem _ hm),fun _=>c2⟩
 ·exact ⟨fun h=>absurd h c1,fun h=>absurd h c2,fun h=>absurd h c1,fun hm=>hp (mem _ hm),fun hm=>hd (mem _ hm)⟩
theorem Jy {l:List Vis} (hn:l.Nodup) {v:Vis} {n:Nat} :v∈l.take n↔0<=vIx l v/\vIx l v<(n:Int):=by
 constructor
 ·intro h;obtain ⟨j,h1,h2,rfl⟩:=Qp h
  grind [Q7]
 ·intro ⟨h1,h2⟩;obtain ⟨h3,h4⟩:=E0 h1
  grind [KN]
theorem kG {x:Inst} {l:List Vis} (h:SqOk x l) (i:Nat): ∀n,n<=l.length->GK x l n i=if (⟨i,true⟩:Vis)∈l.take n then false else if (⟨i,false⟩:Vis)∈l.take n then true else decide ((nth x.orders i).pick.place<0)
 | 0,_=>by simp [GK]
 | n+1,hn=>by
  have hk:n<l.length:=Za
  have hat:=Q7 h.nd hk;rw [F1 hk,kG h i n Za]
  by_cases c:(nth l n).order=(i:Int)
  ·rw [if_pos c];have ho:=h.own (i:=i) ⟨nth l n,Zt hk,c⟩
   cases hd:(nth l n).drp with
   | true =>
    have hv:nth l n=⟨i,true⟩:=by rw [<- c,<- hd]
    rw [hv] at hat;have:(⟨i,true⟩:Vis)∈l.take (n+1):=(Jy h.nd).2 Za;rw [if_pos this];rfl
   | false =>
    have hv:nth l n=⟨i,false⟩:=by rw [<- c,<- hd]
    rw [hv] at hat;have h1:(⟨i,false⟩:Vis)∈l.take (n+1):=(Jy h.nd).2 Za
    have h2: ¬(⟨i,true⟩:Vis)∈l.take (n+1):=fun hm=>by
     have h3:=J6 hm;have h4:=(Jy h.nd).1 hm;have h5:=ho.both (ho.isP (J6 h1)) (ho.isD h3);omega
    rw [if_neg h2,if_pos h1];rfl
  ·rw [if_neg c]
   have e: ∀b:Bool,((⟨i,b⟩:Vis)∈l.take (n+1))=((⟨i,b⟩:Vis)∈l.take n):=fun b=>by
    rw [XZ hk,Xe,<- Zj hk];refine propext ⟨fun hm=>hm.resolve_right fun hm=> ?_,.inl⟩;simp at hm;exact c (by rw [<- hm])
   simp only [e]
theorem ZcD {x:Inst} {l:List Vis} (h:SqOk x l) {k i:Nat} (hk:k<l.length) (hi:(nth l k).order=(i:Int)):GK x l k i=(nth l k).drp:=by
 have hat:=Q7 h.nd hk;have ho:=h.own (i:=i) ⟨nth l k,Zt hk,hi⟩;have hm:=Zt hk;rw [kG h i k Za]
 cases hd:(nth l k).drp with
 | true =>
  have hv:nth l k=⟨i,true⟩:=by rw [<- hi,<- hd]
  rw [hv] at hat hm
  have h1: ¬(⟨i,true⟩:Vis)∈l.take k:=fun hm=>by have:=(Jy h.nd).1 hm;omega
  rw [if_neg h1]
  by_cases c:0<=(nth x.orders i).pick.place
  ·have h2:=ho.both c (ho.isD hm);have h3:(⟨i,false⟩:Vis)∈l.take k:=(Jy h.nd).2 ⟨Wk.2 (ho.pick c),Za⟩
   grind
  grind
 | false =>
  have hv:nth l k=⟨i,false⟩:=by rw [<- hi,<- hd]
  rw [hv] at hat hm;have hp:=ho.isP hm
  have h1: ¬(⟨i,false⟩:Vis)∈l.take k:=fun hm=>by have:=(Jy h.nd).1 hm;omega
  grind
theorem tM {f g:Nat->Int} {i:Nat} (h: ∀q,q≠i->f q=g q): ∀n,i<n->((List.range n).map f).sum=((List.range n).map g).sum+(f i-g i):=by
 have same: ∀n,n<=i->((List.range n).map f).sum=((List.range n).map g).sum:=fun n hn=>by
  grind [Wu]
 intro n
 induction n with
 | zero=>omega
 | succ n ih =>
  intro hi;simp only [X8,Xn,Zs,Zk,List.sum_append,List.sum_cons,List.sum_nil]
  grind
theorem SS {f:Nat->Int} {b:Int} (hb:0<=b) (h: ∀q,0<=f q/\f q<=b): ∀n:Nat,0<=((List.range n).map f).sum/\((List.range n).map f).sum<=b*n
 | 0=>Zb
 | n+1=>by
  have ih:=SS hb h n
  grind [X8]
theorem Kj {p:Nat->Bool} {f:Nat->Int} : ∀l:List Nat,((l.filter p).map f).sum=(l.map fun i=>if p i=true then f i else 0).sum
 | []=>rfl
 | a::l=>by
  rw [EH,Zs,List.sum_cons]
  by_cases h:p a=true
  ·rw [if_pos h,Zs,List.sum_cons,Kj l,if_pos h]
  ·rw [if_neg h,Kj l,if_neg h];omega
def DO (x:Inst) (l:List Vis) (n j:Nat):Int:=((List.range x.orders.length).map fun i=>if (GK x l n i&&hasO l i)=true then nth (nth x.orders i).load j else 0).sum
theorem Ii {x:Inst} {l:List Vis} (h:SqOk x l) {k j:Nat} (hk:k<l.length):DO x l (k+1) j=if (nth l k).drp=true then DO x l k j-nth (nth x.orders (nth l k).order.toNat).load j else DO x l k j+nth (nth x.orders (nth l k).order.toNat).load j:=by
 obtain ⟨v1,v2⟩:=h.inr _ (Zt hk);obtain ⟨i,hi⟩: ∃i:Nat,(nth l k).order=(i:Int):=⟨(nth l k).order.toNat,Za⟩;have hh:hasO l (i:Int)=true:=WX.2 ⟨_,Zt hk,hi⟩;have h1:=ZcD h hk hi
 have h2:GK x l (k+1) i= !(nth l k).drp:=by simp_all [F1]
 unfold DO
 rw [tM (f:=fun i=>if (GK x l (k+1) i&&hasO l i)=true then nth (nth x.orders i).load j else 0) (g:=fun i=>if (GK x l k i&&hasO l i)=true then nth (nth x.orders i).load j else 0) (i:=i) (fun q hq=>by
  have:GK x l (k+1) q=GK x l k q:=by rw [F1 hk,if_neg Za]
  grind) x.orders.length Za]
 grind
def Y3 (x:Inst) (l:List Vis) (n:Nat):List Int:=(List.range (dimsOf x.types).toNat).map fun j=>DO x l n j
def E6 (a b:List Int):List Int:=(List.range a.length).map fun j=>nth a j+nth b j
def tJ (a b:List Int):List Int:=(List.range a.length).map fun j=>nth a j-nth b j
theorem E7 {x:Inst} {l:List Vis} {n:Nat} :(Y3 x l n).length=(dimsOf x.types).toNat:=by simp [Y3]
theorem KS {f:Nat->Int} {n j:Nat} (h:j<n):nth ((List.range n).map f) j=f j:=by
 grind [Zj]
theorem Tc {x:Inst} {l:List Vis} (h:SqOk x l) {k:Nat} (hk:k<l.length):Y3 x l (k+1)=if (nth l k).drp=true then tJ (Y3 x l k) (nth x.orders (nth l k).order.toNat).load else E6 (Y3 x l k) (nth x.orders (nth l k).order.toNat).load:=by
 have key: ∀g:Nat->Int,(∀j,j<(dimsOf x.types).toNat->DO x l (k+1) j=g j)->Y3 x l (k+1)=(List.range (dimsOf x.types).toNat).map g:=fun g hg =>
  Wu fun j hj=>hg j (ZP.1 hj)
 split
 ·simp_all [tJ,Ii,Y3,KS]
 simp_all [E6,Ii,Y3,KS]
set_option maxRecDepth 8000
section
variable {σ : Type}
def A7 (nx:List Vis->List Vis):Nat->List Vis->List (List Vis)
 | 0,l=> [l]
 | f+1,l=>if nx l= [] then [l] else (nx l).flatMap fun v=>A7 nx f (l++ [v])
def lvW (nx:List Vis->List Vis) (go:σ->Vis->σ) (emp:σ->Bool):Nat->List Vis->σ->List (List Vis)
 | 0,l,_=> [l]
 | f+1,l,s=>(nx l).flatMap fun v=>if emp (go s v)=true then [] else lvW nx go emp f (l++ [v]) (go s v)
theorem Sl {nx:List Vis->List Vis} : ∀(f:Nat) (l m:List Vis),m∈A7 nx f l-> ∃r,m=l++r
 | 0,l,m,h=>by simp_all [A7]
 | f+1,l,m,h=>by
  rw [A7] at h
  split at h
  ·simp_all
  ·obtain ⟨v,_,h⟩:=XK.1 h;obtain ⟨r,rfl⟩:=Sl f _ m h;simp
theorem Ur {α β:Type} {p:β->Bool} {g:α->List β} : ∀l:List α,(l.flatMap g).filter p=l.flatMap fun a=>(g a).filter p
 | []=>rfl
 | a::l=>by rw [Uv,Uv,List.filter_append,Ur l]
theorem B6 {α β:Type} {g h:α->List β} : ∀ {l:List α},(∀a∈l,g a=h a)->l.flatMap g=l.flatMap h
 | [],_=>rfl
 | a::l,e=>by rw [Uv,Uv,e a Zb,B6 fun b hb=>e b (Ye _ hb)]
theorem vQ {nx:List Vis->List Vis} {go:σ->Vis->σ} {emp:σ->Bool} {ok:List Vis->Bool} {G:List Vis->Prop} {R:List Vis->σ->Prop} {tot:Nat}
  (hG: ∀l v,G l->v∈nx l->G (l++ [v])) (hR: ∀l s v,G l->R l s->v∈nx l->R (l++ [v]) (go s v)) (hE: ∀l s,G l->R l s->emp s=true-> ∀r,ok (l++r)=false)
  (hN: ∀l,G l->l.length<tot->nx l≠ []): ∀(f:Nat) (l:List Vis) (s:σ),G l->R l s->l.length+f=tot->(A7 nx f l).filter ok=(lvW nx go emp f l s).filter ok
 | 0,l,s,_,_,_=>rfl
 | f+1,l,s,hl,hs,ht=>by
  rw [A7,lvW,if_neg (hN l hl Za),Ur,Ur];refine B6 fun v hv=> ?_;have h1:=hG l v hl hv;have h2:=hR l s v hl hs hv
  split
  ·rename_i he;rw [List.filter_nil,List.filter_eq_nil_iff];intro m hm;obtain ⟨r,rfl⟩:=Sl f _ m hm
   grind
  ·exact vQ hG hR hE hN f _ _ h1 h2 (by simp;omega)
def Xy (ok:List Vis->Bool) (col:List Vis->Col) (better:Col->Col->Bool) (b:Col×Bool) (l:List Vis):Col×Bool:=if ok l=true/\(b.2=false\/better (col l) b.1=true) then (col l,true) else b
theorem QK {ok:List Vis->Bool} {col:List Vis->Col} {better:Col->Col->Bool} : ∀(L:List (List Vis)) (b:Col×Bool),L.foldl (Xy ok col better) b=(L.filter ok).foldl (Xy ok col better) b
 | [],b=>rfl
 | l::L,b=>by
  rw [XG,EH]
  split
  ·rw [XG];exact QK L _
  ·rename_i h;rw [Xy,if_neg (fun g=>h g.1)];exact QK L b
theorem GC {ok:List Vis->Bool} {col:List Vis->Col} {better:Col->Col->Bool} : ∀(L:List (List Vis)) (c c':Col),(L.foldl (Xy ok col better) (c,false)).2=(L.foldl (Xy ok col better) (c',false)).2/\((L.foldl (Xy ok col better) (c,false)).2=true->(L.foldl (Xy ok col better) (c,false)).1=(L.foldl (Xy ok col better) (c',false)).1)
 | [],c,c'=>⟨rfl,fun h=>by cases h⟩
 | l::L,c,c'=>by
  rw [XG,XG]
  by_cases h:ok l=true
  ·rw [Xy,if_pos ⟨h,.inl rfl⟩,Xy,if_pos ⟨h,.inl rfl⟩];simp
  ·rw [Xy,if_neg (fun g=>h g.1),Xy,if_neg (fun g=>h g.1)];exact GC L c c'
end
set_option maxRecDepth 60000
set_option maxHeartbeats 8000000
def GN (x:Inst) (n:Int):Prop:=x.orders.length<=n/\x.types.length<=2/\x.net.places.length<=6/\x.net.arcs.length<=40/\x.apart.length<=4/\x.before.length<=4/\InstOk x
theorem Hu (x:Inst) (hw:x.wf 1048576) (n:Int) (b:Bool) (hb:b=true↔GN x n):PC 18 [.p (Zq x),.p (.int .i64 n)] (.bool b):=by
 have w1:=hw.1.1;have w2:=hw.1.2.2.1;have w3:=hw.2.1;have w4:=hw.2.2.2.1;have w5:=hw.2.2.2.2.2.1;have w6:=hw.2.2.2.2.2.2.2.1
 suffices hh:ACalls Tryz.prog 18 [.p (Zq x),.p (.int .i64 n)] [] fun y H'=> ∃b:Bool,(b=true↔GN x n)/\y= .p (.bool b)/\H'= [] by
  grind
 refine ACalls.pureE (YL Tryz.func18 rfl Zh3 (Zh [] _ _ _ _ ?_));simp (disch:=omega) only [Tryz.f18,go_sem,seval];refine gT ?_ ?_<;>intro h1<;>simp (disch:=omega) only [Sh.out h1,go_sem,seval,↓reduceIte]
 ·refine gT ?_ ?_<;>intro h2<;>simp (disch:=omega) only [Sh.out h2,go_sem,seval,↓reduceIte]
  ·refine gT ?_ ?_<;>intro h3<;>simp (disch:=omega) only [Sh.out h3,go_sem,seval,↓reduceIte]
   ·refine gT ?_ ?_<;>intro h4<;>simp (disch:=omega) only [Sh.out h4,go_sem,seval,↓reduceIte]
    ·refine gT ?_ ?_<;>intro h5<;>simp (disch:=omega) only [Sh.out h5,go_sem,seval,↓reduceIte]
     ·refine gT ?_ ?_<;>intro h6<;>simp (disch:=omega) only [Sh.out h6,go_sem,seval,↓reduceIte]
      ·refine ((yK x hw).frozenE).useV fun m hm=> ?_;refine Zd ?_;refine ⟨decide (m.length=0),?_,Zb⟩;have:=hm.emp;rw [Zr,List.length_eq_zero_iff,this];exact ⟨fun h=>⟨Za,Za,Za,Za,Za,Za,h⟩,fun h=>h.2.2.2.2.2.2⟩
      ·exact ⟨false,by simp [GN];omega,rfl⟩
     ·exact ⟨false,by simp [GN];omega,rfl⟩
    ·exact ⟨false,by simp [GN];omega,rfl⟩
   ·exact ⟨false,by simp [GN];omega,rfl⟩
  ·exact ⟨false,by simp [GN];omega,rfl⟩
 ·exact ⟨false,by simp [GN];omega,rfl⟩
def Q6 (l:List Pt) (t:Int) (i:Nat):Bool:=decide ((nth l i).t<=t)&&decide (t<(nth l (i+1)).t)
def Ha (p q:Pt) (t:Int):Int:=p.a+((t-p.t)*(q.a-p.a)+q.t-p.t-1) / (q.t-p.t)
def JF (l:List Pt) (t:Int):Int:=match (List.range (l.length-1)).find? (Q6 l t) with
 | some i=>Ha (nth l i) (nth l (i+1)) t
 | none=>if (nth l 0).t<t then t+(nth l (l.length-1)).a-(nth l (l.length-1)).t else t+(nth l 0).a-(nth l 0).t
theorem II {l:List Pt} {t:Int} {i:Nat} (hi:i+1<l.length) (hno: ∀j,j<i->Q6 l t j=false) (h:Q6 l t i=true):JF l t=Ha (nth l i) (nth l (i+1)) t:=by
 have:(List.range (l.length-1)).find? (Q6 l t)=some i:=by
  grind [Ey]
 rw [JF,this]
theorem Er {l:List Pt} {t:Int} (hno: ∀j,j+1<l.length->Q6 l t j=false):JF l t=if (nth l 0).t<t then t+(nth l (l.length-1)).a-(nth l (l.length-1)).t else t+(nth l 0).a-(nth l 0).t:=by
 grind [JF]
theorem Gq {p q:Pt} {t:Int} (h1:p.t<=t) (h2:t<q.t) (hp:0<=p.t) (hq:q.t<=4096) (ha:p.a<=q.a) (hpa:0<=p.a) (hqa:q.a<=8192):0<=(t-p.t)*(q.a-p.a)/\(t-p.t)*(q.a-p.a)<=33554432:=by
 refine ⟨Uy Za Za,?_⟩;have:(t-p.t)*(q.a-p.a)<=4096*8192:=VS Za Za Za Za;omega
theorem ON (l:List Pt) (c:Bool) (t:Int) (hl:WZ l) (ht:0<=t/\t<=1073741824):PC 297 [.p (.list c (l.map Hp)),.p (.int .i64 t)] (.int .i64 (JF l t)):=by
 obtain ⟨⟨hl1,hl2⟩,hpt⟩:=hl;refine Zc Tryz.func297 rfl Zcn ?_;simp (disch:=omega) only [Tryz.f297,go_sem,seval];refine ((fO l c Za).frozenE).useV fun m hm=>Zd ?_
 have hm0:m.length=0:=by rw [hm.emp.2 ⟨⟨hl1,hl2⟩,hpt⟩];rfl
 have e1: ¬t<0:=Za
 have e2: ¬ 1073741824<t:=Za
 simp (disch:=omega) only [hm0,e1,e2,go_sem,seval];refine Zl [0,1] (fun k:Nat=> [(5,.p (.int .i64 k))]) (fun _=> []) (fun k=>k<l.length/\ ∀j,j<k->Q6 l t j=false) (fun k=>l.length-k) 0 (by simp;omega) (Weak.mk ?_) ?_
 ·simp (disch:=omega) only [go_sem,seval,↓reduceIte]
 ·rintro k ⟨hk,hno⟩;refine Zd ?_;refine cD ?_ ?_<;>intro h<;>simp (disch:=omega) only [Sh.out h,go_sem,seval,↓reduceIte]
  ·have hk2:k+1<l.length:=Za
   obtain ⟨⟨p1,p2,p3,p4⟩,_⟩:=hpt k hk;obtain ⟨⟨q1,q2,q3,q4⟩,q5⟩:=hpt (k+1) hk2;obtain ⟨r1,r2⟩:=q5 Za;rw [Nat.add_sub_cancel] at r1 r2;refine gT ?_ ?_<;>intro h2<;>simp (disch:=omega) only [Sh.out h2,go_sem,seval,↓reduceIte]
   ·refine cD ?_ ?_<;>intro h3<;>simp (disch:=omega) only [Sh.out h3,go_sem,seval,↓reduceIte]
    ·have hsg:Q6 l t k=true:=by simp [Q6,h2,h3]
     rw [II hk2 hno hsg];obtain ⟨s1,s2⟩:=Gq h2 h3 p1 q2 r2 Za Za;have d1:0<=((t-(nth l k).t)*((nth l (k+1)).a-(nth l k).a)+(nth l (k+1)).t-(nth l k).t-1) / ((nth l (k+1)).t-(nth l k).t):=Int.ediv_nonneg Za Za;have d2:((t-(nth l k).t)*((nth l (k+1)).a-(nth l k).a)+(nth l (k+1)).t-(nth l k).t-1) / ((nth l (k+1)).t-(nth l k).t)<=33558528:=Az (Int.ediv_le_self _ Za) Za
     have d3: ¬(nth l (k+1)).t-(nth l k).t=0:=Za
     simp only [Ha];refine Xd ?_;simp (disch:=omega) only [go_sem,seval,↓reduceIte]
    ·have hsg:Q6 l t k=false:=by simp [Q6,h3]
     exact ⟨k+1,⟨Za,Zp.2 ⟨hno,hsg⟩⟩,Za,wk⟩
   ·have hsg:Q6 l t k=false:=by simp [Q6,h2]
    exact ⟨k+1,⟨Za,Zp.2 ⟨hno,hsg⟩⟩,Za,wk⟩
  ·have hkl:k+1=l.length:=Za
   rw [Er (fun j hj=>hno j Za)];obtain ⟨⟨p1,p2,p3,p4⟩,_⟩:=hpt 0 Za;obtain ⟨⟨q1,q2,q3,q4⟩,_⟩:=hpt (l.length-1) Za
   have i1:((l.length:Int)-1).toNat=l.length-1:=Za
   refine cD ?_ ?_<;>intro h2<;>simp (disch:=omega) only [Sh.out h2,go_sem,seval,↓reduceIte]
theorem ZZ {α:Type} [Inhabited α] {l:List α} {i:Nat} (h:i<l.length):nth l i∈l:=by grind [Zj]
def oE (a:Arc):Prop:=WZ a.travel/\a.slow.length<=16/\ ∀p∈a.slow,0<=p.t/\p.t<=4096/\0<=p.a/\p.a<=4096
def Kt (l:List Pt) (t:Int) (k:Nat):Int:=(l.take k).foldl (fun s p=>if p.t<=t then s+p.a else s) 0
def IG (a:Arc) (t:Int):Int:=JF a.travel t+Kt a.slow t a.slow.length
theorem BC {l:List Pt} {t:Int} {k:Nat} (h:k<l.length):Kt l t (k+1)=if (nth l k).t<=t then Kt l t k+(nth l k).a else Kt l t k:=by
 grind [Kt,XZ,Zj]
theorem Jv {l:List Pt} {t:Int} (hl: ∀p∈l,0<=p.a/\p.a<=4096): ∀k,k<=l.length->0<=Kt l t k/\Kt l t k<=4096*k
 | 0,_=>by simp [Kt]
 | k+1,h=>by
  have ih:=Jv (t:=t) hl k Za
  grind [ZZ,BC]
theorem Fe {l:List Pt} {t:Int} (hl:WZ l) (ht:0<=t/\t<=1073741824):0<=JF l t/\JF l t<=1107304448:=by
 obtain ⟨⟨hl1,hl2⟩,hpt⟩:=hl;unfold JF
 split
 ·rename_i i hi;have hm:=QY hi;have hs:=JY hi;simp at hm;simp only [Q6,Zv,Zr] at hs;obtain ⟨⟨p1,p2,p3,p4⟩,_⟩:=hpt i Za;obtain ⟨⟨q1,q2,q3,q4⟩,q5⟩:=hpt (i+1) Za;obtain ⟨r1,r2⟩:=q5 Za;rw [Nat.add_sub_cancel] at r1 r2;obtain ⟨s1,s2⟩:=Gq hs.1 hs.2 p1 q2 r2 Za Za;have d1:0<=((t-(nth l i).t)*((nth l (i+1)).a-(nth l i).a)+(nth l (i+1)).t-(nth l i).t-1) / ((nth l (i+1)).t-(nth l i).t):=Int.ediv_nonneg Za Za;have d2:((t-(nth l i).t)*((nth l (i+1)).a-(nth l i).a)+(nth l (i+1)).t-(nth l i).t-1) / ((nth l (i+1)).t-(nth l i).t)<=33558528:=Az (Int.ediv_le_self _ Za) Za
  unfold Ha;omega
 ·obtain ⟨⟨p1,p2,p3,p4⟩,_⟩:=hpt 0 Za;obtain ⟨⟨q1,q2,q3,q4⟩,_⟩:=hpt (l.length-1) Za;omega
theorem OO (a:Arc) (t:Int) (ha:oE a) (ht:0<=t/\t<=1073741824):PC 295 [.p (VE a),.p (.int .i64 t)] (.int .i64 (IG a t)):=by
 obtain ⟨h1,h2,h3⟩:=ha;have hr:=Fe h1 ht;have hs:=Jv (t:=t) (fun p hp=>(h3 p hp).2.2);refine Zc Tryz.func295 rfl Zcl ?_;simp (disch:=omega) only [Tryz.f295,go_sem,seval];refine (ON a.travel a.travel_c t h1 ht).use (Zd ?_);refine Zl [1,2] (fun k:Nat=> [(5,.p (.int .i64 (JF a.travel t+Kt a.slow t k))),(6,.p (.int .i64 k))]) (fun _=> [W4 a]) (fun k=>k<=a.slow.length) (fun k=>a.slow.length-k) 0 Zb (Weak.mk ?_) ?_
 ·simp (disch:=omega) only [W4,Kt,Uz,go_sem,seval];simp
 ·intro k hk;have hsk:=hs k hk;simp (disch:=omega) only [W4,go_sem,seval];refine cD ?_ ?_<;>intro h<;>simp (disch:=omega) only [Sh.out h,go_sem,seval,↓reduceIte]
  ·have hk2:k<a.slow.length:=Za
   have hp:=h3 _ (ZZ hk2);have hsn:=BC (t:=t) hk2;refine ZX ?_ ?_<;>intro h4
   ·rw [if_pos h4] at hsn;exact ⟨k+1,Za,Za,Weak.mk (by simp (disch:=omega) only [hsn,Int.add_assoc,go_sem,seval])⟩
   ·rw [if_neg h4] at hsn;exact ⟨k+1,Za,Za,Weak.mk (by simp (disch:=omega) only [hsn,go_sem,seval])⟩
  grind [IG]
theorem Om {g:FuncId} {args:List V} {a b c:PV} {H:List AM.Obj} {K:V->List AM.Obj->Prop} (h:ACalls Tryz.prog g args [] fun x H'=>x= .tup [.p a,.p b,.p c]/\H'= []) (k:K (.tup [.p a,.p b,.p c]) H) (ha:Xj 0 args=true:=by rfl):ACalls Tryz.prog g args H K :=
 (h.behind ha H).mono fun x H' hq=>by
  obtain ⟨y,H1,⟨rfl,rfl⟩,rfl,rfl⟩:=hq
  grind [shV,shVs]
theorem Yc {g:FuncId} {args:List V} {a b:PV} {H:List AM.Obj} {K:V->List AM.Obj->Prop} (h:ACalls Tryz.prog g args [] fun x H'=>x= .tup [.p a,.p b]/\H'= []) (k:K (.tup [.p a,.p b]) H) (ha:Xj 0 args=true:=by rfl):ACalls Tryz.prog g args H K :=
 (h.behind ha H).mono fun x H' hq=>by
  obtain ⟨y,H1,⟨rfl,rfl⟩,rfl,rfl⟩:=hq
  grind [shV,shVs]
def KV (n:Net) (p:Int):Bool:=decide (0<=p)&&decide (p<(n.places.length:Int))
theorem HY (n:Net) (p:Int) (hn:n.places.length<=1048576):PC 293 [.p (B1 n),.p (.int .i64 p)] (.bool (KV n p)):=by
 refine Zc Tryz.func293 rfl Zcj ?_;simp (disch:=omega) only [Tryz.f293,go_sem,seval];refine gT ?_ ?_<;>intro h<;>simp (disch:=omega) only [Sh.out h,go_sem,seval,↓reduceIte]
 ·simp [KV,h]
 ·simp [KV,h]
def Vk (pr f t:Int) (a:Arc):Bool:=decide (a.src=f)&&decide (a.dst=t)&&decide (a.prof=pr)
def V1 : Arc:=⟨0,0,0,0,true,[],true,[]⟩
def WN (n:Net) (pr f t:Int):Arc×Bool:=match n.arcs.find? (Vk pr f t) with | some a=>(a,true) | none=>(V1,false)
theorem MO {n:Net} {pr f t:Int} {k:Nat} (hk:k<n.arcs.length) (hno: ∀j,j<k->Vk pr f t (nth n.arcs j)=false) (h:Vk pr f t (nth n.arcs k)=true):WN n pr f t=(nth n.arcs k,true):=by
 have:n.arcs.find? (Vk pr f t)=some (nth n.arcs k):=by
  grind [Ey,Zj]
 rw [WN,this]
theorem MP {n:Net} {pr f t:Int} (hno: ∀j,j<n.arcs.length->Vk pr f t (nth n.arcs j)=false):WN n pr f t=(V1,false):=by
 have:n.arcs.find? (Vk pr f t)=none:=by
  rw [JT];intro a ha;obtain ⟨j,hj,rfl⟩:=ZO.1 ha
  grind [Zj]
 rw [WN,this]
theorem gP (n:Net) (pr f t:Int) (hn:n.arcs.length<=1048576):PT 294 [.p (B1 n),.p (.int .i64 pr),.p (.int .i64 f),.p (.int .i64 t)] [.p (VE (WN n pr f t).1),.p (.bool (WN n pr f t).2)]:=by
 refine Ze [] Tryz.func294 rfl Zck ?_;simp (disch:=omega) only [Tryz.f294,go_sem,seval];refine Zl [1,2,3,4,8] (fun k:Nat=> [(10,.p (.int .i64 k))]) (fun _=>Z4 n++ [W4 V1]) (fun k=>k<=n.arcs.length/\ ∀j,j<k->Vk pr f t (nth n.arcs j)=false) (fun k=>n.arcs.length-k) 0 Zb (Weak.mk ?_) ?_
 ·simp (disch:=omega) only [Z4,W4,V1,Zk,ZM,ZE,go_sem,seval]
 ·rintro k ⟨hk,hno⟩;simp (disch:=omega) only [Z4,W4,V1,Zk,ZM,ZE,go_sem,seval];refine cD ?_ ?_<;>intro h<;>simp (disch:=omega) only [Sh.out h,go_sem,seval,↓reduceIte]
  ·have hk2:k<n.arcs.length:=Za
   have nx:Vk pr f t (nth n.arcs k)=false-> ∀j,j<k+1->Vk pr f t (nth n.arcs j)=false:=fun h=>Zp.2 ⟨hno,h⟩;refine Je ?_ ?_<;>intro h1
   ·refine Je ?_ ?_<;>intro h2
    ·refine ZX ?_ ?_<;>intro h3
     ·have e:=MO hk2 hno (by grind [Vk]);rw [e];exact we
     ·exact ⟨k+1,⟨Za,nx (by simp [Vk,h3])⟩,Za,wk⟩
    ·exact ⟨k+1,⟨Za,nx (by simp [Vk,h2])⟩,Za,wk⟩
   ·exact ⟨k+1,⟨Za,nx (by simp [Vk,h1])⟩,Za,wk⟩
  ·have hkn:k=n.arcs.length:=Za
   subst hkn;rw [MP hno];exact we (by simp (disch:=omega) only [V1,Zk,go_sem,seval])
def WW (n:Net) (pr f t τ:Int):Int×Int×Int :=
 if (KV n f&&KV n t)=false then (0,0,11) else if f=t then (τ,0,0) else if (WN n pr f t).2=true then (IG (WN n pr f t).1 τ,(WN n pr f t).1.miles,0) else (0,0,12)
def netR (n:Net):Prop:=n.places.length<=1048576/\n.arcs.length<=1048576/\ ∀a∈n.arcs,oE a
theorem Ai {n:Net} {pr f t:Int} (h:(WN n pr f t).2=true):(WN n pr f t).1∈n.arcs:=by
 grind [WN]
theorem yZ (n:Net) (pr f t τ:Int) (hn:netR n) (hτ:0<=τ/\τ<=1073741824):PT 291 [.p (B1 n),.p (.int .i64 pr),.p (.int .i64 f),.p (.int .i64 t),.p (.int .i64 τ)] [.p (.int .i64 (WW n pr f t τ).1),.p (.int .i64 (WW n pr f t τ).2.1),.p (.int .i64 (WW n pr f t τ).2.2)]:=by
 refine Ze [] Tryz.func291 rfl Zch ?_;simp (disch:=omega) only [Tryz.f291,go_sem,seval];refine (HY n f hn.1).use (Zd ?_);refine gF ?_ ?_<;>intro h1<;>simp (disch:=omega) only [Sh.out h1,go_sem,seval,↓reduceIte]
 ·have e:WW n pr f t τ=(0,0,11):=by grind [WW]
  rw [e];exact we
 ·simp only [XF] at h1;refine (HY n t hn.1).use (Zd ?_);refine cD ?_ ?_<;>intro h2<;>simp (disch:=omega) only [Sh.out h2,go_sem,seval]
  ·have e:WW n pr f t τ=(0,0,11):=by grind [WW]
   rw [e];exact we
  ·simp only [XF] at h2;refine cD ?_ ?_<;>intro h3<;>simp (disch:=omega) only [Sh.out h3,go_sem,seval,↓reduceIte]
   ·have e:WW n pr f t τ=(τ,0,0):=by grind [WW]
    rw [e];exact we
   ·have cf:=gP n pr f t hn.2.1;have hm:= @Ai n pr f t
    have e0:WW n pr f t τ=if (WN n pr f t).2=true then (IG (WN n pr f t).1 τ,(WN n pr f t).1.miles,0) else (0,0,12):=by grind [WW]
    rw [e0];generalize WN n pr f t=A at cf hm ⊢;obtain ⟨a,b⟩:=A;simp only at cf hm ⊢;refine Yc cf (Zd ?_);refine cD ?_ ?_<;>intro h4<;>simp (disch:=omega) only [Sh.out h4,go_sem,seval]
    ·have hb:b=false:=by grind
     subst hb;exact we (by simp (disch:=omega) only [go_sem,seval,↓reduceIte])
    ·have hb:b=true:=by grind
     subst hb;refine Xd (Zd ?_);refine Zn (OO a τ (hn.2.2 a (hm rfl)) hτ) (Zd ?_);exact we
theorem tZ (x:Inst) (pr f t τ:Int) (hn:netR x.net) (hτ:0<=τ/\τ<=1073741824):PT 289 [.p (Zq x),.p (.int .i64 pr),.p (.int .i64 f),.p (.int .i64 t),.p (.int .i64 τ)] [.p (.int .i64 (WW x.net pr f t τ).1),.p (.int .i64 (WW x.net pr f t τ).2.1),.p (.bool (decide ((WW x.net pr f t τ).2.2=0)))]:=by
 refine Ze [] Tryz.func289 rfl Zcf ?_;simp (disch:=omega) only [Tryz.f289,go_sem,seval];refine Om (yZ x.net pr f t τ hn hτ) (Zd ?_);exact we
structure StD where
 place:Int
 time:Int
 driven:Int
 miles:Int
def gD (s:StD):PV:= .agg [.int .i64 s.place,.int .i64 s.time,.int .i64 s.driven,.int .i64 s.miles]
@[go_sem] theorem Zll (s:StD):gD s= .agg [.int .i64 s.place,.int .i64 s.time,.int .i64 s.driven,.int .i64 s.miles]:=Zm rfl rfl
def Gg (t:Typ) (s:StD) (b:Bool):StD:=if b=true then { s with time:=s.time+t.rest,driven:=0 } else s
theorem NL (t:Typ) (s:StD) (b:Bool) (hb: -1099511627776<=s.time/\s.time<=1099511627776/\ -1099511627776<=t.rest/\t.rest<=1099511627776):PC 277 [.p (X0 t),.p (gD s),.p (.bool b)] (gD (Gg t s b)):=by
 refine Zc Tryz.func277 rfl Zb3 ?_
 cases b with
 | true=>simp (disch:=omega) only [Tryz.f277,Gg,go_sem,seval,↓reduceIte]
 | false=>simp (disch:=omega) only [Tryz.f277,Gg,YY,go_sem,seval,↓reduceIte]
def Jw (x:Inst) (t:Typ) (s:StD) (to cl late:Int):StD×Int :=
 if ¬(WW x.net t.prof s.place to s.time).2.2=0 then (s,12)
 else if cl<(WW x.net t.prof s.place to s.time).1 then (s,late)
 else if t.drive<s.driven+(WW x.net t.prof s.place to s.time).1-s.time then (s,16)
 else (⟨to,(WW x.net t.prof s.place to s.time).1,s.driven+(WW x.net t.prof s.place to s.time).1-s.time,s.miles+(WW x.net t.prof s.place to s.time).2.1⟩,0)
def dG (n:Int):Prop:= -1099511627776<=n/\n<=1099511627776
theorem Ob (x:Inst) (t:Typ) (s:StD) (to cl late:Int) (hn:netR x.net) (hs:0<=s.time/\s.time<=1073741824) (hd:dG s.driven) (hm:dG s.miles) (hg:dG (WW x.net t.prof s.place to s.time).1/\dG (WW x.net t.prof s.place to s.time).2.1) :
  PT 278 [.p (Zq x),.p (X0 t),.p (gD s),.p (.int .i64 to),.p (.int .i64 cl),.p (.int .i64 late)] [.p (gD (Jw x t s to cl late).1),.p (.int .i64 (Jw x t s to cl late).2)]:=by
 have cw:=tZ x t.prof s.place to s.time hn hs;unfold Jw;generalize WW x.net t.prof s.place to s.time=g at cw hg ⊢;obtain ⟨a,m,e⟩:=g;unfold dG at hd hm hg;simp only at cw hg ⊢;refine Ze [] Tryz.func278 rfl Zb4 ?_;simp (disch:=omega) only [Tryz.f278,go_sem,seval];refine Om cw (Zd ?_);refine cD ?_ ?_<;>intro h1<;>simp (disch:=omega) only [Sh.out h1,go_sem,seval,↓reduceIte]
 ·exact we
 ·rw [if_neg h1];refine cD ?_ ?_<;>intro h2<;>simp (disch:=omega) only [Sh.out h2,go_sem,seval,↓reduceIte]
  ·exact we
  ·rw [if_neg h2];refine cD ?_ ?_<;>intro h3<;>simp (disch:=omega) only [Sh.out h3,go_sem,seval,↓reduceIte]
   ·exact we
   ·exact we
structure Lab where
 ready:Int
 since:Int
 she:She
 deriving Inhabited
def zShe : She:=⟨false,0,true,[],0,0⟩
def WL : Lab:=⟨0,0,zShe⟩
def ZR (t:Typ) (L:Lab) (b:Bool):Int:=if b=true then L.ready+t.rest else L.ready
def WJ (L:Lab) (b:Bool):Int:=if b=true then 0 else L.since
def Sn (l:List Tim) (k:Nat) (d:Int) (b:Bool):List Tim:=l.set k { nth l k with dep:=d,rest:=b }
def X6 (k:Nat) (d:Int) (b:Bool) (s:She):She:=if k=0 then { s with rest:=b,dep:=d } else { s with times:=Sn s.times (k-1) d b }
def UW (t:Typ) (sp:List Stp) (k:Nat):Int:=if k=0 then t.src else (nth sp (k-1)).place
def cJ (t:Typ) (sp:List Stp) (k:Nat):Int:=if k=sp.length then t.dst else (nth sp k).place
def Wh (x:Inst) (t:Typ) (sp:List Stp) (k:Nat) (d:Int):Int×Int×Int:=WW x.net t.prof (UW t sp k) (cJ t sp k) d
def WQ (t:Typ) (sp:List Stp) (k:Nat) (g:Int×Int×Int) (d s:Int) (h:She):Lab×Int :=
 if ¬g.2.2=0 then (WL,12)
 else if k=sp.length then
  if t.cls<g.1 then (WL,15) else if t.drive<s+g.1-d then (WL,16)
  else (⟨g.1,s+g.1-d,{ h with fin:=g.1,miles:=h.miles+g.2.1 }⟩,0)
 else if (nth sp k).cls<max g.1 (nth sp k).opn then (WL,14)
 else if t.drive<s+g.1-d then (WL,16)
 else (⟨max g.1 (nth sp k).opn+(nth sp k).serv,s+g.1-d,{ h with times_c:=false,times:=h.times++ [⟨g.1,max g.1 (nth sp k).opn,0,false⟩],miles:=h.miles+g.2.1 }⟩,0)
def nxtF (x:Inst) (t:Typ) (sp:List Stp) (k:Nat) (L:Lab) (b:Bool):Lab×Int :=
 WQ t sp k (Wh x t sp k (ZR t L b)) (ZR t L b) (WJ L b) (X6 k (ZR t L b) b L.she)
def XL (x:Inst) (t:Typ) (sp:List Stp) (k:Nat) (L:Lab) (b:Bool):Option Lab:=if (nxtF x t sp k L b).2=0 then some (nxtF x t sp k L b).1 else none
def Xs (x:Inst) (t:Typ) (sp:List Stp):Nat->Lab->List Bool->Lab×Int
 | _,L,[]=>(L,0)
 | k,L,b::bs=>if (nxtF x t sp k L b).2=0 then Xs x t sp (k+1) (nxtF x t sp k L b).1 bs else (WL,(nxtF x t sp k L b).2)
def labF (t:Typ) (st:Int):Lab:=⟨max t.opn st,0,zShe⟩
theorem Uj {x:Inst} {t:Typ} {sp:List Stp} : ∀(bs:List Bool) (k:Nat) (L:Lab),VF (XL x t sp) k L bs=if (Xs x t sp k L bs).2=0 then some (Xs x t sp k L bs).1 else none
 | [],k,L=>by rfl
 | b::bs,k,L=>by
  rw [VF,Xs,XL]
  by_cases h:(nxtF x t sp k L b).2=0
  ·simp only [h,if_true];exact Uj bs (k+1) _
  ·simp [h]
structure TrpOk (x:Inst) (t:Typ) (sp:List Stp):Prop where
 net:netR x.net
 mil: ∀a∈x.net.arcs,0<=a.miles/\a.miles<=10000
 opn:0<=t.opn/\t.opn<=t.cls/\t.cls<=4096
 drv:1<=t.drive/\t.drive<=4096
 rst:0<=t.rest/\t.rest<=4096
 stp: ∀s∈sp,0<=s.opn/\s.opn<=s.cls/\s.cls<=4096/\0<=s.serv/\s.serv<=4096
 len:sp.length<=20
structure LabR (k:Nat) (L:Lab):Prop where
 rdy:0<=L.ready/\L.ready<=8192
 snc: -(12288*(k:Int))<=L.since/\L.since<=4096
 mil:0<=L.she.miles/\L.she.miles<=10000*(k:Int)
theorem I6 {n:Net} {pr f t τ:Int} (hn:netR n) (hm: ∀a∈n.arcs,0<=a.miles/\a.miles<=10000) (hτ:0<=τ/\τ<=1073741824):(0<=(WW n pr f t τ).1/\(WW n pr f t τ).1<=1107369984)/\(0<=(WW n pr f t τ).2.1/\(WW n pr f t τ).2.1<=10000):=by
 unfold WW
 split
 ·simp
 ·split
  ·grind
  ·split
   ·rename_i h;have hA:=Ai h;have h1:=Fe (hn.2.2 _ hA).1 hτ;have h2:=Jv (t:=τ) (fun p hp=>((hn.2.2 _ hA).2.2 p hp).2.2) _ (ZF _);have h3:=(hn.2.2 _ hA).2.1
    grind [IG]
   ·simp
theorem KD {x t sp k L} (h:TrpOk x t sp) (hl:LabR k L) (b:Bool):0<=ZR t L b/\ZR t L b<=12288:=by
 have:=h.rst;have:=hl.rdy
 grind [ZR]
theorem Gw {k L} (hl:LabR k L) (b:Bool): -(12288*(k:Int))<=WJ L b/\WJ L b<=4096:=by
 have:=hl.snc
 grind [WJ]
theorem I5 {x t sp k L} (h:TrpOk x t sp) (hl:LabR k L) (b:Bool):(0<=(Wh x t sp k (ZR t L b)).1/\(Wh x t sp k (ZR t L b)).1<=1107369984)/\(0<=(Wh x t sp k (ZR t L b)).2.1/\(Wh x t sp k (ZR t L b)).2.1<=10000):=by
 have:=KD h hl b;exact I6 h.net h.mil Za
theorem KM {k d b s} :(X6 k d b s).miles=s.miles:=by grind [X6]
theorem HN {k d b s} :(X6 k d b s).fin=s.fin:=by grind [X6]
theorem AD {k d b s} :(X6 k d b s).times.length=s.times.length:=by grind [X6,Sn]
theorem Lu {x t sp k L b} (h:TrpOk x t sp) (hk:k<=sp.length) (hl:LabR k L) (he:(nxtF x t sp k L b).2=0):LabR (k+1) (nxtF x t sp k L b).1:=by
 have h1:=KD h hl b;have h2:=Gw hl b;obtain ⟨h3,h4⟩:=I5 h hl b;have h5:=hl.mil;have h6:=h.opn;have h7:=h.drv;have hm:(X6 k (ZR t L b) b L.she).miles=L.she.miles:=KM;unfold nxtF at he ⊢
 generalize Wh x t sp k (ZR t L b)=g at *
 generalize ZR t L b=d at *
 generalize WJ L b=s at *
 generalize X6 k d b L.she=m at *
 unfold WQ at he ⊢
 split at he
 ·simp at he
 ·rename_i c1;rw [if_neg c1]
  split at he
  ·rename_i c2;rw [if_pos c2]
   split at he
   ·simp at he
   ·rename_i c3;rw [if_neg c3]
    split at he
    ·simp at he
    ·rename_i c4;rw [if_neg c4];exact ⟨by grind,by grind,by grind⟩
  ·rename_i c2;rw [if_neg c2];have h8:=h.stp _ (ZZ (show k<sp.length by omega))
   split at he
   ·simp at he
   ·rename_i c3;rw [if_neg c3]
    split at he
    ·simp at he
    ·rename_i c4;rw [if_neg c4];exact ⟨by grind,by grind,by grind⟩
theorem FY {x t sp k L b} (hl:L.she.times.length=k) (he:(nxtF x t sp k L b).2=0) (hk:k<sp.length):(nxtF x t sp k L b).1.she.times.length=k+1:=by
 have hm:(X6 k (ZR t L b) b L.she).times.length=L.she.times.length:=AD;unfold nxtF at he ⊢
 generalize Wh x t sp k (ZR t L b)=g at *
 generalize ZR t L b=d at *
 generalize WJ L b=s at *
 generalize X6 k d b L.she=m at *
 have hk2: ¬k=sp.length:=Za
 unfold WQ at he ⊢
 grind
def Xa (m x:Lab):Bool:=decide (m.ready=x.ready)&&decide (m.since<=x.since)
theorem OS {x t sp k} {m y z:Lab} {b:Bool} (hb:Xa m y=true) (hn:XL x t sp k y b=some z): ∃u,XL x t sp k m b=some u/\Xa u z=true:=by
 simp only [Xa,Zv,Zr] at hb;obtain ⟨hb1,hb2⟩:=hb
 have hd:ZR t m b=ZR t y b:=by simp [ZR,hb1]
 have hs:WJ m b<=WJ y b:=by grind [WJ]
 unfold XL at hn ⊢;unfold nxtF at hn ⊢;rw [hd]
 generalize Wh x t sp k (ZR t y b)=g at *
 generalize ZR t y b=d at *
 generalize WJ y b=s at *
 generalize WJ m b=s2 at *
 generalize X6 k d b y.she=h1 at *
 generalize X6 k d b m.she=h2 at *
 unfold WQ at hn ⊢
 by_cases c1:g.2.2=0
 ·by_cases c2:k=sp.length
  ·simp only [c1,c2,not_true,if_true,Yo] at hn ⊢
   by_cases c3:t.cls<g.1
   ·grind
   ·by_cases c4:t.drive<s+g.1-d
    ·grind
    ·have c5: ¬t.drive<s2+g.1-d:=Za
     simp only [c3,c4,Yo,if_true,Qb] at hn;subst hn;refine ⟨_,by simp only [c3,c5,Yo,if_true];rfl,?_⟩;simp [Xa];omega
  ·simp only [c1,c2,not_true,Yo] at hn ⊢
   by_cases c3:(nth sp k).cls<max g.1 (nth sp k).opn
   ·grind
   ·by_cases c4:t.drive<s+g.1-d
    ·grind
    ·have c5: ¬t.drive<s2+g.1-d:=Za
     simp only [c3,c4,Yo,if_true,Qb] at hn;subst hn;refine ⟨_,by simp only [c3,c5,Yo,if_true];rfl,?_⟩;simp [Xa];omega
 grind
def Wr (L:Lab):Int:=L.she.fin
theorem Nt {x t sp} {y z:Lab} {b:Bool} (hn:XL x t sp sp.length y b=some z):z.she.fin=z.ready:=by
 unfold XL nxtF WQ at hn
 grind
theorem HH {x t sp} (ch:Nat->List Bool) (L:Lab):VI Wr none (Kp Xa (XL x t sp) ch (sp.length+1) 0 [L])=VI Wr none (Vx (XL x t sp) ch (sp.length+1) 0 L):=by
 have h:=Se Wr Xa (XL x t sp) ch (n:=sp.length+1) (Inv:=fun k y=>k=sp.length+1->y.she.fin=y.ready)
  (fun k y b z _ hn hk=>by
   grind [Nt]) (fun k m y b z _ _ hb hn=>OS hb hn)
  (fun m y h1 h2 hb=>by
   simp only [Xa,Zv,Zr] at hb
   rw [Wr,Wr,h1 rfl,h2 rfl];omega) (sp.length+1) 0 [L] Za (fun y _ hk=>Za)
 rw [h];simp
def UH (r:List Bool) (k:Nat):List Bool:=match r[k]? with | some b=> [b] | none=> [false,true]
theorem RX (r:List Bool) (n:Nat) (hn:r.length<=n): ∀(j k:Nat),k+j=r.length->I1 (UH r) (n-k) k=(Wg (List.replicate (n-r.length) false)).map (r.drop k++ ·)
 | 0,k,h=>by
  have hk:k=r.length:=Za
  subst hk;rw [ML (n:=n) _ _ _ (fun q hq=>by grind [UH])];simp
 | j+1,k,h=>by
  have e:n-k=(n-(k+1))+1:=Za
  have hlt:k<r.length:=Za
  rw [e,I1,RX r n hn j (k+1) Za]
  have:UH r k= [r[k]]:=by simp [UH,hlt]
  rw [this,Uv,List.flatMap_nil,Yw,List.map_map,VP hlt]
  rfl
theorem Hr (r:List Bool) (n:Nat) (hn:r.length<=n):I1 (UH r) n 0=(Wg (List.replicate (n-r.length) false)).map (r++ ·):=by
 have:=RX r n hn r.length 0 Za
 grind
def Wb (r:List Bool) (n:Nat):List (List Bool):=(Wg (List.replicate (n-r.length) false)).map (r++ ·)
def Wm (r:List Bool) (n:Nat):List Bool:=r++List.replicate (n-r.length) false
def VG (x:Inst) (t:Typ) (sp:List Stp) (st:Int) (r:List Bool):She×Int :=
 match VI Wr none ((Wb r (sp.length+1)).filterMap (VF (XL x t sp) 0 (labF t st))) with
 | some L=>(L.she,0)
 | none=>(zShe,(Xs x t sp 0 (labF t st) (Wm r (sp.length+1))).2)
theorem IN {x t sp} {st:Int} {r:List Bool} (hr:r.length<=sp.length+1):VG x t sp st r=match VI Wr none (Kp Xa (XL x t sp) (UH r) (sp.length+1) 0 [labF t st]) with
 | some L=>(L.she,0)
 | none=>(zShe,(Xs x t sp 0 (labF t st) (Wm r (sp.length+1))).2):=by
 rw [HH,Vx,Hr r _ hr];rfl
theorem NS {x t sp} : ∀(bs:List Bool) (k:Nat) (L:Lab),L.she.times.length=k->k+bs.length=sp.length+1->0<bs.length->(Xs x t sp k L bs).2=0->(Xs x t sp k L bs).1.she.times.length=sp.length
 | [],k,L,h1,h2,h3,h=>by simp at h3
 | b::bs,k,L,h1,h2,_,h=>by
  rw [Xs] at h ⊢
  by_cases h4:(nxtF x t sp k L b).2=0
  ·simp only [h4,if_true] at h ⊢
   cases bs with
   | nil =>
    simp at h2;subst h2;rw [Xs];unfold nxtF at h4 ⊢;unfold WQ at h4 ⊢
    split at h4
    ·simp at h4
    ·rename_i c1;rw [if_neg c1];simp only [if_true] at h4 ⊢
     split at h4
     ·simp at h4
     ·rename_i c2;rw [if_neg c2]
      split at h4
      ·simp at h4
      simp_all [if_neg,AD]
   | cons b2 bs =>
    simp at h2;exact NS (b2::bs) (k+1) _ (FY h1 h4 Za) (by simp;omega) Zb h
  grind
theorem bestF_len {x t sp} {st:Int} {r:List Bool} (hr:r.length<=sp.length+1) (h:(VG x t sp st r).2=0):(VG x t sp st r).1.times.length=sp.length:=by
 unfold VG at h ⊢
 cases hf:VI Wr none ((Wb r (sp.length+1)).filterMap (VF (XL x t sp) 0 (labF t st))) with
 | none =>
  rw [hf] at h;simp only at h ⊢;exfalso
  have hm:Wm r (sp.length+1)∈Wb r (sp.length+1):=by
   grind [Wb,Wm,fromB_next]
  have h2:VF (XL x t sp) 0 (labF t st) (Wm r (sp.length+1))=some (Xs x t sp 0 (labF t st) (Wm r (sp.length+1))).1:=by rw [Uj,if_pos h]
  have h3:(Xs x t sp 0 (labF t st) (Wm r (sp.length+1))).1∈(Wb r (sp.length+1)).filterMap (VF (XL x t sp) 0 (labF t st)):=Cs.2 ⟨_,hm,h2⟩;generalize (Wb r (sp.length+1)).filterMap (VF (XL x t sp) 0 (labF t st))=l at hf h3
  cases l with
  | nil=>simp at h3
  | cons a l =>
   rw [VI] at hf;obtain ⟨z,e,_⟩:=Jk Wr l a
   grind
 | some L =>
  simp only;have hm:=fmL_mem _ _ hf;obtain ⟨bs,hbs,hrun⟩:=Cs.1 hm;rw [Uj] at hrun
  split at hrun
  ·rename_i h5;simp at hrun;subst hrun;obtain ⟨q,hq,rfl⟩:=XT.1 hbs;have hql:=fromB_len _ _ hq;simp at hql;exact NS _ 0 _ rfl (by grind) (by grind) h5
  ·cases hrun
where
 fmL_mem: ∀(l:List Lab) (L:Lab),VI Wr none l=some L->L∈l
 | [],L,h=>by simp [VI] at h
 | a::l,L,h=>by
  rw [VI] at h;exact fmL_mem2 l a L h
 fmL_mem2: ∀(l:List Lab) (a L:Lab),VI Wr (some a) l=some L->L∈a::l
 | [],a,L,h=>by grind [VI]
 | y::l,a,L,h=>by
  rw [VI] at h
  split at h
  ·have:=fmL_mem2 l y L h;grind
  ·have:=fmL_mem2 l a L h;grind
 fromB_len: ∀(l q:List Bool),q∈Wg l->q.length=l.length
 | [],q,h=>by grind [Wg]
 | b::bs,q,h=>by
  rw [Wg] at h
  split at h
  ·obtain ⟨q',hq,rfl⟩:=XT.1 h;simp [fromB_len bs q' hq]
  ·rcases Xe.1 h with h | h
   ·obtain ⟨q',hq,rfl⟩:=XT.1 h;simp [fromB_len bs q' hq]
   ·obtain ⟨q',hq,rfl⟩:=XT.1 h;simp [fromB_len (List.replicate bs.length false) q' hq]
 termination_by l=>l.length
 decreasing_by all_goals simp
def XP (x:Inst) (v:Vis):Stp:=if v.drp=true then (nth x.orders v.order.toNat).drp else (nth x.orders v.order.toNat).pick
def Z6 (x:Inst) (l:List Vis):List Stp:=l.map (XP x)
def Wo (t:Typ) (s:Int):Bool:=decide (0<=t.skills)&&decide (0<=s)&&(List.range 63).all fun i=> !s.toNat.testBit i||t.skills.toNat.testBit i
def Qx (a c:List Int):Bool:=decide (a.length=c.length)&&(List.range a.length).all fun i=>decide (nth a i<=nth c i)
def Ua (x:Inst) (c:List Int) (l:List Vis):Bool:=(List.range (l.length+1)).all fun n=>Qx (Y3 x l n) c
def ZT (x:Inst) (r:Rte):Typ:=nth x.types r.typ.toNat
def Us (l:List Vis) (i:Nat):Bool:= !((l.take i).any fun v=>decide (v.order=(nth l i).order))
def Xl (k t:Int):Bool:=decide (k≠ -1)&&decide (k≠t)
def chgF (x:Inst) (l:List Vis) (t:Int):Nat->Int×Int
 | 0=>(0,0)
 | n+1=>if Us l n=true then ((chgF x l t n).1+(if Xl (nth x.orders (nth l n).order.toNat).now t=true then 1 else 0),(chgF x l t n).2+(if Xl (nth x.orders (nth l n).order.toNat).last t=true then 1 else 0)) else chgF x l t n
def G9 (x:Inst) (r:Rte) (s:She):Sco :=
 ⟨(ZT x r).fixed+(ZT x r).perMile*s.miles+(ZT x r).perTick*(s.fin-(ZT x r).opn),(chgF x r.visits r.typ r.visits.length).1,(chgF x r.visits r.typ r.visits.length).2,(s.fin-(ZT x r).opn).tdiv 64*(s.fin-(ZT x r).opn).tdiv 64⟩
def X7 (x:Inst) (r:Rte):Int :=
 if ¬(0<=r.typ/\r.typ<(x.types.length:Int)) then 2
 else if ¬Xf x r.visits=0 then Xf x r.visits
 else if (r.visits.any fun v=> !Wo (ZT x r) (nth x.orders v.order.toNat).skills)=true then 18
 else if Ua x (ZT x r).cap r.visits=false then 17
 else if ¬(0<=r.start/\r.start<=4096/\r.rests.length<=r.visits.length+1) then 2
 else 0
def Xq (x:Inst) (r:Rte):She×Int:=VG x (ZT x r) (Z6 x r.visits) r.start r.rests
def Xv (x:Inst) (r:Rte):Int:=if X7 x r=0 then (Xq x r).2 else X7 x r
def WM (x:Inst) (r:Rte):She:=if Xv x r=0 then (Xq x r).1 else zShe
def Wf (x:Inst) (r:Rte):Sco:=if Xv x r=0 then G9 x r (Xq x r).1 else zSco
def Zdq : Stp:=⟨0,0,0,0⟩
def M7 (x:Inst) (v:Vis):Bool:=decide (0<=v.order)&&decide (v.order<(x.orders.length:Int))
def Aa (x:Inst) (v:Vis):Bool:=M7 x v&&decide (0<=(XP x v).place)
def C4 (x:Inst) (v:Vis):Stp:=if M7 x v=true then XP x v else Zdq
theorem Oc (x:Inst) (v:Vis) (ho:x.orders.length<=1048576):PT 256 [.p (Zq x),.p (Z5 v)] [.p (Fw (C4 x v)),.p (.bool (Aa x v))]:=by
 refine Ze [] Tryz.func256 rfl ZbI ?_;simp (disch:=omega) only [Tryz.f256,go_sem,seval];refine gF ?_ ?_<;>intro h1<;>simp (disch:=omega) only [Sh.out h1,go_sem,seval,↓reduceIte]
 ·have e:M7 x v=false:=by
   grind [M7]
  simp only [C4,Aa,e,QB,YY,Yo,Zdq];exact we
 ·refine cD ?_ ?_<;>intro h2<;>simp (disch:=omega) only [Sh.out h2,go_sem,seval,↓reduceIte]
  ·have e:M7 x v=false:=by
    grind [M7]
   simp only [C4,Aa,e,QB,YY,Yo,Zdq];exact we
  ·have e:M7 x v=true:=by simp [M7];omega
   have hi:v.order.toNat<x.orders.length:=Za
   refine cD ?_ ?_<;>intro hd<;>simp (disch:=omega) only [Sh.out hd,go_sem,seval,↓reduceIte]
   ·have hG:C4 x v=(nth x.orders v.order.toNat).drp:=by simp [C4,e,XP,hd]
    have hV:Aa x v=decide (0<=(nth x.orders v.order.toNat).drp.place):=by simp [Aa,e,XP,hd]
    rw [hG,hV];refine Fi (.cons 0 (.cons 1 (.cons 2 (.cons 3 (.cons 4 (.cons 5 .nil .nil) .nil) (.cons 4 (.cons 3 (.cons 5 .nil .nil) .nil) .nil)) (.cons 4 (.cons 2 (.cons 3 (.cons 5 .nil .nil) .nil) .nil) .nil)) (.cons 4 (.cons 1 (.cons 2 (.cons 3 (.cons 5 .nil .nil) .nil) .nil) .nil) .nil)) (.cons 1 (.cons 0 (.cons 2 (.cons 3 (.cons 4 (.cons 5 .nil .nil) .nil) (.cons 4 (.cons 3 (.cons 5 .nil .nil) .nil) .nil)) (.cons 4 (.cons 2 (.cons 3 (.cons 5 .nil .nil) .nil) .nil) .nil)) (.cons 2 (.cons 0 (.cons 3 (.cons 4 (.cons 5 .nil .nil) .nil) (.cons 4 (.cons 3 (.cons 5 .nil .nil) .nil) .nil)) (.cons 3 (.cons 0 (.cons 4 (.cons 5 .nil .nil) .nil) .nil) .nil)) .nil)) .nil)) mixed Zg ?_
    refine Zd ?_
    repeat' first
     | refine Df ?_ ?_
     | exact we
     | simp (disch:=omega) only [go_sem,seval,↓reduceIte]
   ·have hG:C4 x v=(nth x.orders v.order.toNat).pick:=by simp [C4,e,XP,hd]
    have hV:Aa x v=decide (0<=(nth x.orders v.order.toNat).pick.place):=by simp [Aa,e,XP,hd]
    rw [hG,hV];refine Fi (.cons 0 (.cons 1 (.cons 2 (.cons 3 (.cons 4 (.cons 5 .nil .nil) .nil) (.cons 4 (.cons 3 (.cons 5 .nil .nil) .nil) .nil)) (.cons 4 (.cons 2 (.cons 3 (.cons 5 .nil .nil) .nil) .nil) .nil)) (.cons 4 (.cons 1 (.cons 2 (.cons 3 (.cons 5 .nil .nil) .nil) .nil) .nil) .nil)) (.cons 1 (.cons 0 (.cons 2 (.cons 3 (.cons 4 (.cons 5 .nil .nil) .nil) (.cons 4 (.cons 3 (.cons 5 .nil .nil) .nil) .nil)) (.cons 4 (.cons 2 (.cons 3 (.cons 5 .nil .nil) .nil) .nil) .nil)) (.cons 2 (.cons 0 (.cons 3 (.cons 4 (.cons 5 .nil .nil) .nil) (.cons 4 (.cons 3 (.cons 5 .nil .nil) .nil) .nil)) (.cons 3 (.cons 0 (.cons 4 (.cons 5 .nil .nil) .nil) .nil) .nil)) .nil)) .nil)) mixed Zg ?_
    refine Zd ?_
    repeat' first
     | refine Df ?_ ?_
     | exact we
     | simp (disch:=omega) only [go_sem,seval,↓reduceIte]
def Uh (x:Inst) (r:Rte):Bool:=(decide (0<=r.typ)&&decide (r.typ<(x.types.length:Int))&&decide (0<=r.start)&&decide (r.start<=4096)&&decide (r.visits.length<=20))&&r.visits.all (Aa x)
theorem F7 (x:Inst) (r:Rte) (ho:x.orders.length<=1048576) (ht:x.types.length<=1048576) (hl:r.visits.length<=1048576):PC 230 [.p (Zq x),.p (Wp r)] (.bool (Uh x r)):=by
 refine Zc Tryz.func230 rfl Zbj ?_;simp (disch:=omega) only [Tryz.f230,go_sem,seval];refine gF ?_ ?_<;>intro h1<;>simp (disch:=omega) only [Sh.out h1,go_sem,seval,↓reduceIte]
 ·simp [Uh];omega
 ·refine gF ?_ ?_<;>intro h2<;>simp (disch:=omega) only [Sh.out h2,go_sem,seval,↓reduceIte]
  ·simp [Uh];omega
  ·refine gF ?_ ?_<;>intro h3<;>simp (disch:=omega) only [Sh.out h3,go_sem,seval,↓reduceIte]
   ·simp [Uh];omega
   ·refine gF ?_ ?_<;>intro h4<;>simp (disch:=omega) only [Sh.out h4,go_sem,seval,↓reduceIte]
    ·simp [Uh];omega
    ·refine cD ?_ ?_<;>intro h5<;>simp (disch:=omega) only [Sh.out h5,go_sem,seval]
     ·simp [Uh];omega
     ·refine Zl [2,3] (fun k:Nat=> [(5,.p (.int .i64 k))]) (fun _=> [Zf x,Xp r]) (fun k=>k<=r.visits.length/\ ∀j,j<k->Aa x (nth r.visits j)=true) (fun k=>r.visits.length-k) 0 Zb (Weak.mk ?_) ?_
      ·simp (disch:=omega) only [Zf,Xp,go_sem,seval]
      ·rintro k ⟨hk,hno⟩;refine K4 ?_;refine cD ?_ ?_<;>intro h<;>simp (disch:=omega) only [Sh.out h,go_sem,seval,↓reduceIte]
       ·have hk2:k<r.visits.length:=Za
        refine XW [10,11] 12 mixed Zg Zg Zg Zb (Zd ?_);refine Ah (Oc x (nth r.visits k) ho) (Zd ?_);refine Xm 10 _ _ Zg (by refine Zd ?_;exact ⟨rfl,rfl⟩) ?_;refine Zd ?_;refine Xm 11 _ _ Zg (by refine Zd ?_;exact ⟨rfl,rfl⟩) (Wi ?_);refine Zd ?_;refine ZX ?_ ?_<;>intro h6
        ·grind [Zt,Uh]
        ·exact ⟨k+1,⟨Za,Zp.2 ⟨hno,by grind⟩⟩,Za,wk⟩
       ·have hkl:k=r.visits.length:=Za
        subst hkl
        have:r.visits.all (Aa x)=true:=by
         rw [ZD];intro v hv;obtain ⟨j,hj,rfl⟩:=ZO.1 hv
         grind [Zj]
        grind [Uh]
@[go_sem high] theorem Zk4 {k k':IntKind} {a b:Int} :IC false [.p (.int k a),.p (.int k' b)]=some (.int k (max a b)):=by
 grind [IC]
theorem Pr {l:List Tim} {m:Tim} {d:Int} {b:Bool} :Sn (l++ [m]) l.length d b=l++ [{ m with dep:=d,rest:=b }]:=by
 grind [Zj,Sn]
theorem cF {x:Inst} {t:Typ} {sp:List Stp} {k:Nat} {d s m:Int} {h:She} (hk:k<sp.length) (ho:(nth sp k).opn<=(nth sp k).cls) (hm:h.miles=m) :
  (Jw x t ⟨UW t sp k,d,s,m⟩ (nth sp k).place (nth sp k).cls 14).2=(WQ t sp k (Wh x t sp k d) d s h).2 /\
  ((WQ t sp k (Wh x t sp k d) d s h).2=0->(Jw x t ⟨UW t sp k,d,s,m⟩ (nth sp k).place (nth sp k).cls 14).1=⟨(nth sp k).place,(Wh x t sp k d).1,s+(Wh x t sp k d).1-d,m+(Wh x t sp k d).2.1⟩ /\
   (WQ t sp k (Wh x t sp k d) d s h).1=⟨max (Wh x t sp k d).1 (nth sp k).opn+(nth sp k).serv,s+(Wh x t sp k d).1-d,{ h with times_c:=false,times:=h.times++ [⟨(Wh x t sp k d).1,max (Wh x t sp k d).1 (nth sp k).opn,0,false⟩],miles:=m+(Wh x t sp k d).2.1 }⟩):=by
 have hne: ¬k=sp.length:=Za
 have e:WW x.net t.prof (UW t sp k) (nth sp k).place d=Wh x t sp k d:=by simp [Wh,cJ,hne]
 unfold Jw WQ
 grind
theorem cG {x:Inst} {t:Typ} {sp:List Stp} {d s m:Int} {h:She} (hm:h.miles=m) :
  (Jw x t ⟨UW t sp sp.length,d,s,m⟩ t.dst t.cls 15).2=(WQ t sp sp.length (Wh x t sp sp.length d) d s h).2 /\
  ((WQ t sp sp.length (Wh x t sp sp.length d) d s h).2=0->(Jw x t ⟨UW t sp sp.length,d,s,m⟩ t.dst t.cls 15).1=⟨t.dst,(Wh x t sp sp.length d).1,s+(Wh x t sp sp.length d).1-d,m+(Wh x t sp sp.length d).2.1⟩ /\
   (WQ t sp sp.length (Wh x t sp sp.length d) d s h).1=⟨(Wh x t sp sp.length d).1,s+(Wh x t sp sp.length d).1-d,{ h with fin:=(Wh x t sp sp.length d).1,miles:=m+(Wh x t sp sp.length d).2.1 }⟩):=by
 have e:WW x.net t.prof (UW t sp sp.length) t.dst d=Wh x t sp sp.length d:=by simp [Wh,cJ]
 unfold Jw WQ
 grind
def Zc9 (s:StD):AM.Obj:= .cells [.p (.int .i64 s.place),.p (.int .i64 s.time),.p (.int .i64 s.driven),.p (.int .i64 s.miles)]
def Jg (t:Typ) (sp:List Stp) (k:Nat) (L:Lab) (b:Bool):StD:=⟨UW t sp k,ZR t L b,WJ L b,L.she.miles⟩
theorem ZkD {g:FuncId} {args:List V} {a c:PV} {H:List AM.Obj} {K:V->List AM.Obj->Prop} (h:ACalls Tryz.prog g args [] fun x H'=> ∃b:PV,x= .tup [.p a,.p b,.p c]/\H'= []) (k: ∀b:PV,K (.tup [.p a,.p b,.p c]) H) (ha:Xj 0 args=true:=by rfl):ACalls Tryz.prog g args H K :=
 (h.behind ha H).mono fun x H' hq=>by
  obtain ⟨y,H1,⟨b,rfl,rfl⟩,rfl,rfl⟩:=hq
  grind [shV,shVs]
theorem Yt {x:Inst} {l:List Vis} :(Z6 x l).length=l.length:=by simp [Z6]
theorem Gy {x:Inst} {l:List Vis} {k:Nat} (h:k<l.length):nth (Z6 x l) k=XP x (nth l k):=by
 grind [Zj,Z6]
theorem Jx {P Q:Prop} (h:Q) (e:Q->P:=by intro h;simp (disch:=omega) only [Zs,Zk,ZL,ZC,go_sem,seval];exact h):P:=e h
theorem sT (x:Inst) (r:Rte) (rests:List Bool) (c:Bool) (hok:TrpOk x (ZT x r) (Z6 x r.visits)) (ho:x.orders.length<=1048576) (ht:x.types.length<=1048576) (hne:0<r.visits.length) (hp:Uh x r=true) (hl:rests.length=r.visits.length+1) :
  ACalls Tryz.prog 257 [.p (Zq x),.p (Wp r),.p (.list c (rests.map eB))] [] fun y H'=> ∃d:PV,y= .tup [.p (Fu (Xs x (ZT x r) (Z6 x r.visits) 0 (labF (ZT x r) r.start) rests).1.she),.p d,.p (.int .i64 (Xs x (ZT x r) (Z6 x r.visits) 0 (labF (ZT x r) r.start) rests).2)]/\H'= []:=by
 have hp2:=hp;simp only [Uh,Zv,Zr] at hp2;obtain ⟨⟨⟨⟨⟨p1,p2⟩,p3⟩,p4⟩,p5⟩,p6⟩:=hp2;have hvis: ∀k,k<r.visits.length->Aa x (nth r.visits k)=true:=fun k hk=>ZD.1 p6 _ (Zt hk)
 have hstop: ∀k,k<r.visits.length->C4 x (nth r.visits k)=nth (Z6 x r.visits) k:=fun k hk=>by
  simp_all [Aa,C4,Gy]
 have hti:r.typ.toNat<x.types.length:=Za
 have hopn:=hok.opn;have hrst:=hok.rst;have htd:ZT x r=nth x.types r.typ.toNat:=rfl
 generalize hT:ZT x r=t at *
 have hsl:(Z6 x r.visits).length=r.visits.length:=Yt
 generalize hS:Z6 x r.visits=sp at *
 refine Ze [26] Tryz.func257 rfl ZbJ ?_;simp (disch:=omega) only [Tryz.f257,go_sem,seval];refine (F7 x r ho ht Za).use (Zd ?_);rw [hp];refine Zd ?_;refine cD ?_ ?_<;>intro h0<;>simp (disch:=omega) only [Sh.out h0,<- htd,go_sem,seval,↓reduceIte]
 ·omega
 ·refine XW [13] 14 mixed Zg Zg Zg Zb (Zd ?_);refine Zn (NL t ⟨t.src,max t.opn r.start,0,0⟩ (nth rests 0) (by grind)) (Zd ?_);refine Xm 13 _ _ Zg (by refine Zd ?_;exact ⟨rfl,rfl⟩) (Wi ?_);refine Zd ?_;refine XW [6] 7 mixed Zg Zg Zg Zb (Zd ?_);refine Xm 6 _ _ Zg (by refine Zd ?_;exact ⟨rfl,rfl⟩) (Wi ?_);refine Zd ?_;have hL0:LabR 0 (labF t r.start):=⟨by grind [labF],by simp [labF],by simp [labF,zShe]⟩
  have hS0:Gg t ⟨t.src,max t.opn r.start,0,0⟩ (nth rests 0)=Jg t sp 0 (labF t r.start) (nth rests 0):=by
   simp only [Gg,Jg,UW,ZR,WJ,labF,zShe,if_true]
   split<;>rfl
  simp (disch:=omega) only [hS0,go_sem,seval]
  refine ZY [26] [2,3,4,6,9,10,11] (fun q:Nat×Lab×List Int=> [(12,.sl 7 0 q.2.2.length q.2.2.length),(13,.p (.int .i64 q.1))])
   (fun q=> [Zf x,Xp r,.cells [.p (.bool false),.p (.int .i64 0),.p (.list true []),.p (.int .i64 0),.p (.int .i64 0)],X9 t,Zc9 (Jg t sp q.1 q.2.1 (nth rests q.1)),
    .cells [.p (.bool (X6 q.1 (ZR t q.2.1 (nth rests q.1)) (nth rests q.1) q.2.1.she).rest),.p (.int .i64 (X6 q.1 (ZR t q.2.1 (nth rests q.1)) (nth rests q.1) q.2.1.she).dep),.sl 6 0 (X6 q.1 (ZR t q.2.1 (nth rests q.1)) (nth rests q.1) q.2.1.she).times.length (X6 q.1 (ZR t q.2.1 (nth rests q.1)) (nth rests q.1) q.2.1.she).times.length,.p (.int .i64 0),.p (.int .i64 0)],
    .elems 4 ((X6 q.1 (ZR t q.2.1 (nth rests q.1)) (nth rests q.1) q.2.1.she).times.map eTim),.elems 1 (q.2.2.map eI)])
   (fun q=>q.1<=r.visits.length/\Xs x t sp 0 (labF t r.start) rests=Xs x t sp q.1 q.2.1 (rests.drop q.1)/\LabR q.1 q.2.1/\q.2.1.she.times.length=q.1/\q.2.1.she.fin=0/\(0<q.1->q.2.1.she.times_c=false)/\q.2.2.length=q.1) (fun q=>r.visits.length-q.1) (0,labF t r.start,[])
   ⟨Zb,Zb,hL0,by rfl,by rfl,Zb,Zb⟩ ((Weak.nilC (o:=5) (j:=2) 4 rfl rfl Zb).trans (Weak.ofNil 12 1 rfl Zb (Weak.mk ?_))) ?_
  ·simp (disch:=omega) only [Zf,Xp,X9,Zc9,Jg,UW,X6,labF,zShe,Zk,ZH,ZL,ZC,ZM,ZE,go_sem,seval]
  ·rintro ⟨k,L,ds⟩ ⟨hk,hrun,hL,hlen,hfin,hclip,hds⟩;simp only at hk hrun hL hlen hfin hclip hds
   have hmlen:(X6 k (ZR t L (nth rests k)) (nth rests k) L.she).times.length=k:=by grind [AD]
   have hd:=KD hok hL (nth rests k);have hs:=Gw hL (nth rests k);have hg:=I5 hok hL (nth rests k);have hmi:=hL.mil
   generalize hm:X6 k (ZR t L (nth rests k)) (nth rests k) L.she=m at *
   have hmm:m.miles=L.she.miles:=by rw [<- hm,KM]
   have hmf:m.fin=0:=by grind [HN]
   have hdrop:rests.drop k=nth rests k::rests.drop (k+1):=by grind [VP,Zj]
   have hnx:nxtF x t sp k L (nth rests k)=WQ t sp k (Wh x t sp k (ZR t L (nth rests k))) (ZR t L (nth rests k)) (WJ L (nth rests k)) m:=by rw [nxtF,hm]
   rw [hdrop,Xs] at hrun;simp (disch:=omega) only [Zf,Xp,X9,Zc9,go_sem,seval];refine cD ?_ ?_<;>intro h<;>simp (disch:=omega) only [Sh.out h,go_sem,seval,↓reduceIte]
   ·have hk2:k<r.visits.length:=Za
    have hsp:=hok.stp _ (ZZ (show k<sp.length by omega));refine XW [10,11] 12 mixed Zg Zg Zg Zb (Zd ?_);refine Ah (Oc x (nth r.visits k) ho) (Zd ?_);refine Xm 10 _ _ Zg (by refine Zd ?_;exact ⟨rfl,rfl⟩) ?_;refine Zd ?_;refine Xm 11 _ _ Zg (by refine Zd ?_;exact ⟨rfl,rfl⟩) (Wi ?_);simp (disch:=omega) only [hstop k hk2,go_sem,seval];obtain ⟨f1,f2⟩:=cF (x:=x) (t:=t) (d:=ZR t L (nth rests k)) (s:=WJ L (nth rests k)) (h:=m) (show k<sp.length by omega) hsp.2.1 hmm
    have he2:WW x.net t.prof (UW t sp k) (nth sp k).place (ZR t L (nth rests k))=Wh x t sp k (ZR t L (nth rests k)):=by
     grind [Wh,cJ]
    refine Yc (Ob x t (Jg t sp k L (nth rests k)) (nth sp k).place (nth sp k).cls 14 hok.net ?_ ?_ ?_ ?_) ?_
    ·grind [Jg]
    ·grind [Jg,dG]
    ·grind [Jg,dG]
    ·grind [Jg,dG]
    have f1':(Jw x t (Jg t sp k L (nth rests k)) (nth sp k).place (nth sp k).cls 14).2=(nxtF x t sp k L (nth rests k)).2:=by rw [hnx,<- f1];rfl
    refine Zd ?_;rw [f1'];refine cD ?_ ?_<;>intro h3<;>simp (disch:=omega) only [Sh.out h3,go_sem,seval,↓reduceIte]
    ·rw [if_neg h3] at hrun;rw [hrun];simp only [WL,zShe];exact ⟨_,_,Weak.mk (by simp (disch:=omega) only [Zk,go_sem,seval]),.list true [],rfl,rfl⟩
    ·have h3':(nxtF x t sp k L (nth rests k)).2=0:=Z2.1 h3;rw [if_pos h3'] at hrun;have hL':=Lu hok Za hL h3';rw [hnx] at h3';obtain ⟨f3,f4⟩:=f2 h3';have f3':(Jw x t (Jg t sp k L (nth rests k)) (nth sp k).place (nth sp k).cls 14).1=⟨(nth sp k).place,(Wh x t sp k (ZR t L (nth rests k))).1,WJ L (nth rests k)+(Wh x t sp k (ZR t L (nth rests k))).1-ZR t L (nth rests k),L.she.miles+(Wh x t sp k (ZR t L (nth rests k))).2.1⟩:=f3
     have hL2:(nxtF x t sp k L (nth rests k)).1=⟨max (Wh x t sp k (ZR t L (nth rests k))).1 (nth sp k).opn+(nth sp k).serv,WJ L (nth rests k)+(Wh x t sp k (ZR t L (nth rests k))).1-ZR t L (nth rests k),{ m with times_c:=false,times:=m.times++ [⟨(Wh x t sp k (ZR t L (nth rests k))).1,max (Wh x t sp k (ZR t L (nth rests k))).1 (nth sp k).opn,0,false⟩],miles:=L.she.miles+(Wh x t sp k (ZR t L (nth rests k))).2.1 }⟩:=by grind
     simp (disch:=omega) only [f3',go_sem,seval];refine XW [13] 14 mixed Zg Zg Zg Zb (Zd ?_);refine Xm 13 _ _ Zg (by refine Zd ?_;exact ⟨rfl,rfl⟩) (Wi ?_);refine Zd ?_
     generalize (nxtF x t sp k L (nth rests k)).1=L2 at *
     have hS1:Gg t ⟨(nth sp k).place,max (Wh x t sp k (ZR t L (nth rests k))).1 (nth sp k).opn+(nth sp k).serv,WJ L (nth rests k)+(Wh x t sp k (ZR t L (nth rests k))).1-ZR t L (nth rests k),L.she.miles+(Wh x t sp k (ZR t L (nth rests k))).2.1⟩ (nth rests (k+1))=Jg t sp (k+1) L2 (nth rests (k+1)):=by
      rw [hL2];simp only [Gg,Jg,UW,ZR,WJ,Nat.add_sub_cancel,if_neg (show ¬k+1=0 by omega)]
      split<;>rfl
     have hM:X6 (k+1) (ZR t L2 (nth rests (k+1))) (nth rests (k+1)) L2.she= { m with times_c:=false,times:=m.times++ [⟨(Wh x t sp k (ZR t L (nth rests k))).1,max (Wh x t sp k (ZR t L (nth rests k))).1 (nth sp k).opn,ZR t L2 (nth rests (k+1)),nth rests (k+1)⟩],miles:=L.she.miles+(Wh x t sp k (ZR t L (nth rests k))).2.1 } :=by
      have he:L2.she= { m with times_c:=false,times:=m.times++ [⟨(Wh x t sp k (ZR t L (nth rests k))).1,max (Wh x t sp k (ZR t L (nth rests k))).1 (nth sp k).opn,0,false⟩],miles:=L.she.miles+(Wh x t sp k (ZR t L (nth rests k))).2.1 } :=by rw [hL2]
      rw [he,X6,if_neg Za,Nat.add_sub_cancel]
      grind [Pr]
     have hd2:=KD hok hL' (nth rests (k+1));refine ZB 8 mixed Zg Zg (Zd ?_);refine Zn (NL t ⟨(nth sp k).place,max (Wh x t sp k (ZR t L (nth rests k))).1 (nth sp k).opn+(nth sp k).serv,WJ L (nth rests k)+(Wh x t sp k (ZR t L (nth rests k))).1-ZR t L (nth rests k),L.she.miles+(Wh x t sp k (ZR t L (nth rests k))).2.1⟩ (nth rests (k+1)) (by grind)) (Zd ?_);simp (disch:=omega) only [hS1,go_sem,seval];refine ⟨(k+1,L2,ds++ [L2.since]),⟨Za,hrun,hL',by grind,by grind,by grind,by simp [hds]⟩,Za,Weak.mk ?_⟩
     simp (disch:=omega) only [hM,hmlen,Zz,ZA,ZH,Xn,Zs,Zk,go_sem,seval];exact ⟨rfl,by grind⟩
   ·have hkl:k=sp.length:=Za
    subst hkl;obtain ⟨f1,f2⟩:=cG (x:=x) (t:=t) (sp:=sp) (d:=ZR t L (nth rests sp.length)) (s:=WJ L (nth rests sp.length)) (h:=m) hmm
    have he2:WW x.net t.prof (UW t sp sp.length) t.dst (ZR t L (nth rests sp.length))=Wh x t sp sp.length (ZR t L (nth rests sp.length)):=by simp [Wh,cJ]
    refine Yc (Ob x t (Jg t sp sp.length L (nth rests sp.length)) t.dst t.cls 15 hok.net ?_ ?_ ?_ ?_) ?_
    ·grind [Jg]
    ·grind [Jg,dG]
    ·grind [Jg,dG]
    ·grind [Jg,dG]
    have f1':(Jw x t (Jg t sp sp.length L (nth rests sp.length)) t.dst t.cls 15).2=(nxtF x t sp sp.length L (nth rests sp.length)).2:=by rw [hnx,<- f1];rfl
    refine Zd ?_;rw [f1'];have hdl:rests.drop (sp.length+1)= []:=Cn Za;rw [hdl,Xs] at hrun;refine cD ?_ ?_<;>intro h3<;>simp (disch:=omega) only [Sh.out h3,go_sem,seval,↓reduceIte]
    ·rw [if_neg h3] at hrun;rw [hrun];simp only [WL,zShe];exact ⟨_,_,Weak.mk (by simp (disch:=omega) only [Zk,go_sem,seval]),.list true [],rfl,rfl⟩
    ·have h3':(nxtF x t sp sp.length L (nth rests sp.length)).2=0:=Z2.1 h3;rw [if_pos h3'] at hrun;rw [hnx] at h3';obtain ⟨f3,f4⟩:=f2 h3';have f3':(Jw x t (Jg t sp sp.length L (nth rests sp.length)) t.dst t.cls 15).1=⟨t.dst,(Wh x t sp sp.length (ZR t L (nth rests sp.length))).1,WJ L (nth rests sp.length)+(Wh x t sp sp.length (ZR t L (nth rests sp.length))).1-ZR t L (nth rests sp.length),L.she.miles+(Wh x t sp sp.length (ZR t L (nth rests sp.length))).2.1⟩:=f3;rw [hrun,hnx,f4];simp (disch:=omega) only [f3',go_sem,seval];refine Zo (Weak.fz (o:=6) (by rfl)) ?_
     refine Zo (Weak.fz (o:=7) (by rfl)) (Zh [] _ _ _ _ (Jx ?_))
     have hmc:m.times_c=false:=by
      grind [X6]
     exact ⟨_,_,Weak.mk (by simp (disch:=omega) only [hmc,go_sem,seval]),.list false (ds.map eI++ [.int .i64 (WJ L (nth rests sp.length)+(Wh x t sp sp.length (ZR t L (nth rests sp.length))).1-ZR t L (nth rests sp.length))]),rfl,rfl⟩
theorem nT (x:Inst) (r:Rte) (rests:List Bool) (c:Bool) (hok:TrpOk x (ZT x r) (Z6 x r.visits)) (ho:x.orders.length<=1048576) (ht:x.types.length<=1048576) (hne:0<r.visits.length) (hp:Uh x r=true) (hl:rests.length=r.visits.length+1) :
  PT 231 [.p (Zq x),.p (Wp r),.p (.list c (rests.map eB))] [.p (Fu (Xs x (ZT x r) (Z6 x r.visits) 0 (labF (ZT x r) r.start) rests).1.she),.p (.int .i64 (Xs x (ZT x r) (Z6 x r.visits) 0 (labF (ZT x r) r.start) rests).2)]:=by
 have cr:=sT x r rests c hok ho ht hne hp hl;generalize (Xs x (ZT x r) (Z6 x r.visits) 0 (labF (ZT x r) r.start) rests)=q at cr ⊢;obtain ⟨L,e⟩:=q;refine Ze [] Tryz.func231 rfl Zbk ?_;simp (disch:=omega) only [Tryz.f231,go_sem,seval];refine ZkD cr fun d=>Zd ?_;exact we
def D4 (l:List Bool) (n:Nat):Option (List Bool):=(Yq (l.drop n)).map (l.take n++ ·)
def PD : Option (List Bool)->PV
 | some l=> .list false (l.map eB)
 | none=> .list true []
theorem KQ : ∀m:Nat,Yq (List.replicate m true)=none
 | 0=>rfl
 | m+1=>by rw [JS,Yq,KQ m];rfl
theorem HS : ∀(a b r:List Bool),Yq b=some r->Yq (a++b)=some (a++r)
 | [],b,r,h=>h
 | x::a,b,r,h=>by rw [ZM,Yq,HS a b r h];rfl
theorem kC (a:List Bool) (m:Nat):Yq (a++false::List.replicate m true)=some (a++true::List.replicate m false):=by
 grind [HS,Yq,KQ]
theorem N3 {o:List Bool} {i:Nat} {b:Bool} :(o.map eB).set i (.bool b)=(o.set i b).map eB:=by rw [UD];rfl
theorem kB (l:List Bool) (c:Bool) (n:Nat) (hn:n<=l.length) (h0:0<l.length) (hl:l.length<=1048576):PT 232 [.p (.list c (l.map eB)),.p (.int .i64 (n:Nat))] [.p (PD (D4 l n)),.p (.bool (D4 l n).isSome)]:=by
 refine Ze [8] Tryz.func232 rfl Zbl ?_;simp (disch:=omega) only [Tryz.f232,go_sem,seval];rw [if_pos ⟨Za,Za⟩];refine Zd ?_;refine ZY [8] [1] (fun q:Nat×List Bool=> [(6,.sl 0 0 q.2.length q.2.length),(7,.p (.int .i64 ((q.1:Int)-1)))]) (fun q=> [.elems 1 (q.2.map eB)]) (fun q=>n<=q.1/\q.1<=l.length/\q.2=l.take q.1++List.replicate (l.length-q.1) false/\l.drop q.1=List.replicate (l.length-q.1) true) (fun q=>q.1) (l.length,l) (by simp;omega) (Weak.mk ?_) ?_
 ·simp (disch:=omega) only [go_sem,seval]
 ·rintro ⟨j,o⟩ ⟨hj1,hj2,ho,hjt⟩;simp only at hj1 hj2 ho hjt
  have hol:o.length=l.length:=by grind
  refine Zd ?_;refine cD ?_ ?_<;>intro h<;>simp (disch:=omega) only [Sh.out h,go_sem,seval,↓reduceIte]
  ·obtain ⟨i,rfl⟩: ∃i,j=i+1:=⟨j-1,Za⟩
   have hij:(((i+1:Nat):Int)-1)=(i:Int):=Za
   have hat:nth o i=nth l i:=by
    grind [Zj]
   have M3:l.drop i=nth l i::List.replicate (l.length-(i+1)) true:=by
    grind [VP,Zj]
   have hio:i<o.length:=Za
   simp (disch:=first | omega | (simp only [ZA,ZH,Zz,Zx,Z7,Xx]<;>omega)) only [Int.add_sub_cancel,Vm,hat,hio,go_sem,seval,↓reduceIte];refine cD ?_ ?_<;>intro h2<;>simp (disch:=omega) only [Sh.out h2,go_sem,seval]
   ·have hf:nth l i=false:=by grind
    have hres:D4 l n=some (o.set i true):=by
     rw [hf] at M3
     have e:l.drop n=(l.drop n).take (i-n)++false::List.replicate (l.length-(i+1)) true:=by
      rw [<- M3,show l.drop i=(l.drop n).drop (i-n) by simp_all,List.take_append_drop]
     rw [D4,e,kC,ho];simp only [Au,Qb]
     have e2:l.take (i+1)=l.take n++(l.drop n).take (i-n)++ [nth l i]:=by
      rw [XZ Za,Zj Za]
      congr 1
      have:l.take i=l.take (n+(i-n)):=by congr 1;omega
      grind
     rw [e2,hf]
     have el:(l.take n++(l.drop n).take (i-n)).length=i:=by simp;omega
     rw [Vr (l.take n++(l.drop n).take (i-n)),EF _ _ Za,el];simp
    rw [hres];simp (disch:=first | omega | (simp only [ZA,ZH,Zz,Zx,Z7,Xx]<;>omega)) only [N3,go_sem,seval,↓reduceIte];refine Zo (Weak.fz (o:=0) (by rfl)) ?_;refine Zh [] _ _ _ _ ?_;simp (disch:=omega) only [Zs,Zk,ZC,go_sem,seval];simp only [Vs,if_true];exact we (by simp (disch:=omega) only [PD,J7,go_sem,seval])
   ·have hf:nth l i=true:=by grind
    simp (disch:=first | omega | (simp only [ZA,ZH,Zz,Zx,Z7,Xx]<;>omega)) only [N3,go_sem,seval];refine ⟨(i,o.set i false),⟨Za,Za,?_,?_⟩,Za,Weak.mk (by simp (disch:=first | omega | (simp only [ZA,ZH,Zz,Zx,Z7,Xx]<;>omega)) only [Vs,go_sem,seval])⟩
    ·grind
    grind
  ·have hjn:j=n:=Za
   have hres:D4 l n=none:=by grind [D4,KQ]
   rw [hres];exact we (by simp (disch:=omega) only [PD,Aq,go_sem,seval])
theorem aI {r q:List Bool} :D4 (r++q) r.length=(Yq q).map (r++ ·):=by simp [D4]
theorem aT {l:List Bool} :PD (some l)= .list false (l.map eB):=rfl
theorem aS : PD none= .list true []:=rfl
def Hb (b:Option Lab):She:=match b with | some L=>L.she | none=>zShe
def G7 (r:List Bool) (cur:Option (List Bool)):List (List Bool):=match cur with | some q=>(Wg q).map (r++ ·) | none=> []
theorem DI {r s:List Bool} :G7 r (some s)=(r++s)::G7 r (Yq s):=by
 grind [G7,fromB_next]
theorem NR {x:Inst} {t:Typ} {sp:List Stp} : ∀(bs:List Bool) (k:Nat) (L:Lab),¬(Xs x t sp k L bs).2=0->(Xs x t sp k L bs).1=WL
 | [],k,L,h=>by simp [Xs] at h
 | b::bs,k,L,h=>by
  rw [Xs] at h ⊢
  split
  ·rename_i c;rw [if_pos c] at h;exact NR bs _ _ h
  ·rfl
theorem eZ (x:Inst) (r:Rte) (hok:TrpOk x (ZT x r) (Z6 x r.visits)) (ho:x.orders.length<=1048576) (ht:x.types.length<=1048576) (hne:0<r.visits.length) (hp:Uh x r=true) (hl:r.rests.length<=r.visits.length+1) :
  PT 208 [.p (Zq x),.p (Wp r)] [.p (Fu (Xq x r).1),.p (.int .i64 (Xq x r).2)]:=by
 have hsl:(Z6 x r.visits).length=r.visits.length:=Yt;have hp2:=hp;simp only [Uh,Zv,Zr] at hp2;have hv20:=hp2.1.2;have hrun:=fun rests (c:Bool) (h:rests.length=r.visits.length+1)=>nT x r rests c hok ho ht hne hp h;have hopt:=fun bs=>Uj (x:=x) (t:=ZT x r) (sp:=Z6 x r.visits) bs 0 (labF (ZT x r) r.start);unfold Xq VG
 generalize hS:Z6 x r.visits=sp at *
 generalize ZT x r=t at *
 generalize labF t r.start=L0 at *
 refine Ze [5,6] Tryz.func208 rfl iZ ?_;simp (disch:=omega) only [Tryz.f208,go_sem,seval];refine (F7 x r ho ht Za).use (Zd ?_);rw [hp];refine Zd ?_;refine cD ?_ ?_<;>intro h0<;>simp (disch:=omega) only [Sh.out h0,go_sem,seval,↓reduceIte]
 ·omega
 ·refine YU (Es 3 rfl rfl (Zd ?_));refine ⟨_,_,Nx (e:=4) rfl Tryz.underlying31 Zg rfl rfl rfl ?_ ?_ ?_,?_⟩
  ·simp
  ·simp;omega
  ·intro q hq;obtain ⟨b,_,rfl⟩:=XT.1 hq
   rfl
  ·have hpl:(Wm r.rests (sp.length+1)).length=r.visits.length+1:=by simp [Wm];omega
   have hpad:r.rests.map eB++(PV.bool false::List.replicate r.visits.length (PV.bool false)).drop (r.rests.map eB).length=(Wm r.rests (sp.length+1)).map eB:=by
    rw [Wm,Xn,<- JS,List.drop_replicate,Ap,hsl,Zx];rfl
   simp only [ZL,ZC];rw [hpad];have h0r:=hopt (Wm r.rests (sp.length+1))
   have cn: ∀s:List Bool,(r.rests++s).length=r.visits.length+1->PT 232 [.p (.list false ((r.rests++s).map eB)),.p (.int .i64 (r.rests.length:Nat))] [.p (PD ((Yq s).map (r.rests++ ·))),.p (.bool ((Yq s).map (r.rests++ ·)).isSome)]:=fun s hs=>by
    grind [kB,aI]
   have e1:(Xs x t sp 0 L0 (Wm r.rests (sp.length+1))).1.she=Hb (VF (XL x t sp) 0 L0 (Wm r.rests (sp.length+1))):=by
    rw [h0r]
    split
    ·rfl
    ·rename_i c;rw [NR _ _ _ c];rfl
   have e2:decide ((Xs x t sp 0 L0 (Wm r.rests (sp.length+1))).2=0)=(VF (XL x t sp) 0 L0 (Wm r.rests (sp.length+1))).isSome:=by
    grind
   have hrp:=hrun (Wm r.rests (sp.length+1)) false hpl;have hall:Wb r.rests (sp.length+1)=G7 r.rests (some (List.replicate (sp.length+1-r.rests.length) false)):=rfl;refine Zo (Weak.fz (o:=3) (by rfl)) (Zh [] _ _ _ _ (Jx ?_));rw [if_pos hpl];refine Yc hrp (Zd ?_);refine Yc (cn (List.replicate (sp.length+1-r.rests.length) false) hpl) ?_;simp (disch:=omega) only [e1,e2,go_sem,seval]
   have hfm:VI Wr none ((Wb r.rests (sp.length+1)).filterMap (VF (XL x t sp) 0 L0))=VI Wr (VF (XL x t sp) 0 L0 (Wm r.rests (sp.length+1))) ((G7 r.rests (Yq (List.replicate (sp.length+1-r.rests.length) false))).filterMap (VF (XL x t sp) 0 L0)):=by
    rw [hall,DI,List.filterMap_cons];rw [show r.rests++List.replicate (sp.length+1-r.rests.length) false=Wm r.rests (sp.length+1) from rfl]
    cases VF (XL x t sp) 0 L0 (Wm r.rests (sp.length+1)) with
    | none=>rfl
    | some L=>rfl
   clear hall;generalize VI Wr none ((Wb r.rests (sp.length+1)).filterMap (VF (XL x t sp) 0 L0))=res at hfm ⊢;generalize (Xs x t sp 0 L0 (Wm r.rests (sp.length+1))).2=err0
   refine Zl [2,3,4,8,9] (fun q:Option (List Bool)×Option Lab=> [(7,.p (PD (q.1.map (r.rests++ ·)))),(10,.p (.bool q.2.isSome)),(11,.p (.bool (q.1.map (r.rests++ ·)).isSome))])
    (fun q=> [Zf x,Xp r,.cells [.p (.bool false),.p (.int .i64 0),.p (.list true []),.p (.int .i64 0),.p (.int .i64 0)],.dead,.cells [.p (.bool (Hb q.2).rest),.p (.int .i64 (Hb q.2).dep),.p (.list (Hb q.2).times_c ((Hb q.2).times.map eTim)),.p (.int .i64 (Hb q.2).fin),.p (.int .i64 (Hb q.2).miles)]])
    (fun q=>res=VI Wr q.2 ((G7 r.rests q.1).filterMap (VF (XL x t sp) 0 L0))/\ ∀s,q.1=some s->s.length=sp.length+1-r.rests.length) (fun q=>(G7 r.rests q.1).length)
    (Yq (List.replicate (sp.length+1-r.rests.length) false),VF (XL x t sp) 0 L0 (Wm r.rests (sp.length+1))) ⟨hfm,fun s hs=>by have:=fromB_next.nlen _ _ hs;grind⟩ (Weak.mk ?_) ?_
   ·simp (disch:=omega) only [Zf,Xp,go_sem,seval]
   ·rintro ⟨cur,b⟩ ⟨hR,hcl⟩;simp only at hR hcl
    cases cur with
    | none =>
     simp only [G7,List.filterMap_nil] at hR;simp (disch:=omega) only [Option.map_none,Aq,aS,Zf,Xp,go_sem,seval]
     cases b with
     | none =>
      rw [VI] at hR;subst hR;simp (disch:=omega) only [Aq,Wx,go_sem,seval];exact we (by simp (disch:=omega) only [zShe,Zk,go_sem,seval])
     | some m =>
      rw [VI] at hR;subst hR;simp (disch:=omega) only [J7,Yn,Hb,go_sem,seval];exact we
    | some s =>
     have hsl2:=hcl s rfl;rw [DI,List.filterMap_cons,hopt] at hR
     have hmu:(G7 r.rests (Yq s)).length<(G7 r.rests (some s)).length:=by rw [DI];simp
     have hnl: ∀s',Yq s=some s'->s'.length=sp.length+1-r.rests.length:=fun s' hs'=>by grind [fromB_next.nlen]
     have hlen:(r.rests++s).length=r.visits.length+1:=by simp;omega
     have hr1:=hrun (r.rests++s) false hlen;have cn1:=cn s hlen;rw [Xn] at hr1 cn1;simp (disch:=omega) only [Au,J7,aT,Zf,Xp,go_sem,seval];generalize Xs x t sp 0 L0 (r.rests++s)=g at hR hr1;obtain ⟨Lg,eg⟩:=g;simp only at hR hr1;refine Yc hr1 (Zd ?_);refine gT ?_ ?_<;>intro h1<;>simp (disch:=omega) only [Sh.out h1,go_sem,seval,↓reduceIte]
     ·subst h1
      cases b with
      | none =>
       simp (disch:=omega) only [Aq,Wx,go_sem,seval];refine Yc cn1 (Zd ?_);exact ⟨(Yq s,some Lg),⟨hR,hnl⟩,hmu,Weak.mk (by simp (disch:=omega) only [Hb,J7,go_sem,seval])⟩
      | some m =>
       simp (disch:=omega) only [J7,Yn,Hb,go_sem,seval];refine cD ?_ ?_<;>intro h2<;>simp (disch:=omega) only [Sh.out h2,go_sem,seval,↓reduceIte]
       ·refine Yc cn1 ?_;refine Zd ?_;exact ⟨(Yq s,some Lg),⟨by rw [hR];simp only [if_true,VI,Wr,h2],hnl⟩,hmu,Weak.mk (by simp (disch:=omega) only [J7,go_sem,seval])⟩
       ·refine Yc cn1 ?_;refine Zd ?_;exact ⟨(Yq s,some m),⟨by rw [hR];simp only [if_true,VI,Wr,h2,Yo],hnl⟩,hmu,Weak.mk (by simp (disch:=omega) only [J7,go_sem,seval])⟩
     ·rw [if_neg h1] at hR;refine Yc cn1 (Zd ?_);exact ⟨(Yq s,b),⟨hR,hnl⟩,hmu,wk⟩
def eR (p:Bool×List Int):PV:= .list p.1 (p.2.map eI)
@[go_sem] theorem Zpx (p:Bool×List Int):eR p= .list p.1 (p.2.map eI):=Zm rfl rfl
theorem gJ (L:List (Bool×List Int)) (c:Bool) (d:Nat) (hd:d<=3) (hL:L.length<=1048576) (h: ∀p∈L,p.2.length=d):PC 288 [.p (.list c (L.map eR)),.p (.int .i64 (d:Nat))] (.bool true):=by
 refine Zc Tryz.func288 rfl Zce ?_
 have e1: ¬(d:Int)<0:=Za
 have e2: ¬(3:Int)<d:=Za
 simp (disch:=omega) only [Tryz.f288,e1,e2,go_sem,seval];refine Zl [0,1] (fun k:Nat=> [(5,.p (.int .i64 k))]) (fun _=> []) (fun k=>k<=L.length) (fun k=>L.length-k) 0 Zb (Weak.mk ?_) ?_
 ·simp (disch:=omega) only [go_sem,seval,↓reduceIte]
 ·intro k hk;refine Zd ?_;refine cD ?_ ?_<;>intro h1<;>simp (disch:=omega) only [Sh.out h1,go_sem,seval,↓reduceIte]
  ·have hk2:k<L.length:=Za
   have hp:=h _ (Zt hk2);simp (disch:=omega) only [hp,go_sem,seval];exact ⟨k+1,Za,Za,wk⟩
def Ef (L:List (Bool×List Int)) (k j:Nat):Int:=((L.take k).map fun p=>nth p.2 j).sum
theorem Hn {L:List (Bool×List Int)} {k j:Nat} (h:k<L.length):Ef L (k+1) j=Ef L k j+nth (nth L k).2 j:=by
 grind [Ef,XZ,Zj]
theorem MB {L:List (Bool×List Int)} {d j:Nat} (h: ∀p∈L,p.2.length=d/\ ∀n∈p.2,0<=n/\n<=1000) (hj:j<d): ∀k,k<=L.length->0<=Ef L k j/\Ef L k j<=1000*(k:Int)
 | 0,_=>by simp [Ef]
 | k+1,hk=>by
  have ih:=MB h hj k Za;obtain ⟨h1,h2⟩:=h _ (Zt (show k<L.length by omega));have:=h2 _ (Zt (show j<(nth L k).2.length by omega))
  grind [Hn]
def tL (L:List (Bool×List Int)) (d:Nat):List Int:=(List.range d).map fun j=>Ef L L.length j
theorem tK (L:List (Bool×List Int)) (c:Bool) (d:Nat) (hd:1<=d/\d<=3) (hL:L.length<=1048576) (h: ∀p∈L,p.2.length=d/\ ∀n∈p.2,0<=n/\n<=1000) :
  PT 275 [.p (.list c (L.map eR)),.p (.int .i64 (d:Nat))] [.p (.list false ((tL L d).map eI)),.p (.int .i64 0)]:=by
 refine Ze [13] Tryz.func275 rfl Zb1 ?_;simp (disch:=omega) only [Tryz.f275,go_sem,seval];refine (gJ L c d hd.2 hL fun p hp=>(h p hp).1).use (Zd ?_);refine ZY [13] [0,1] (fun q:Nat×List Int=> [(6,.sl 0 0 q.2.length q.2.length),(7,.p (.int .i64 q.1))]) (fun q=> [.elems 1 (q.2.map eI)]) (fun q=>q.1<=d/\q.2=(List.range q.1).map fun j=>Ef L L.length j) (fun q=>d-q.1) (0,[]) Zb (Weak.ofNil 6 1 rfl Zb (Weak.mk ?_)) ?_
 ·simp (disch:=omega) only [Zk,ZH,go_sem,seval,↓reduceIte]
 ·rintro ⟨j,o⟩ ⟨hj,ho⟩;simp only at hj ho
  have hol:o.length=j:=by rw [ho];simp
  refine Zd ?_;refine cD ?_ ?_<;>intro h1<;>simp (disch:=omega) only [Sh.out h1,go_sem,seval,↓reduceIte]
  ·have hj2:j<d:=Za
   refine Zl [0,1,6,7] (fun k:Nat=> [(8,.p (.int .i64 (Ef L k j))),(9,.p (.int .i64 k))]) (fun _=> [.elems 1 (o.map eI)]) (fun k=>k<=L.length) (fun k=>L.length-k) 0 Zb (Weak.mk ?_) ?_
   ·simp (disch:=omega) only [Ef,Q2,Zk,List.sum_nil,go_sem,seval,↓reduceIte]
   ·intro k hk;refine Zd ?_;refine cD ?_ ?_<;>intro h2<;>simp (disch:=omega) only [Sh.out h2,go_sem,seval,↓reduceIte]
    ·have hk2:k<L.length:=Za
     obtain ⟨g1,g2⟩:=h _ (Zt hk2);have g3:=g2 _ (Zt (show j<(nth L k).2.length by omega));have g4:=MB h hj2 k hk;have g5:=Hn (j:=j) hk2
     have g6:j<(nth L k).2.length:=Za
     refine Zd ?_;exact ⟨k+1,Za,Za,Weak.mk (by simp (disch:=omega) only [g5,go_sem,seval])⟩
    ·have hkl:k=L.length:=Za
     subst hkl;refine ⟨(j+1,o++ [Ef L L.length j]),⟨Za,by grind [X8]⟩,Za,Weak.mk (by simp (disch:=omega) only [Zz,ZA,ZH,Xn,Zs,Zk,go_sem,seval])⟩
  ·have hjd:j=d:=Za
   subst hjd;refine Zo (Weak.fz (o:=0) (by rfl)) ?_;refine Zh [] _ _ _ _ ?_;simp (disch:=omega) only [Zs,Zk,ZC,go_sem,seval];rw [tL,<- ho];exact we
theorem gV (a b:List Int) (c d:Bool) (ha:a.length<=1048576) (hb:b.length<=1048576):PC 229 [.p (.list c (a.map eI)),.p (.list d (b.map eI))] (.bool (Qx a b)):=by
 refine Zc Tryz.func229 rfl Zbi ?_;simp (disch:=omega) only [Tryz.f229,go_sem,seval];refine cD ?_ ?_<;>intro h1<;>simp (disch:=omega) only [Sh.out h1,go_sem,seval]
 ·grind [Qx]
 ·have h1':a.length=b.length:=Za
  refine Zl [0,1] (fun k:Nat=> [(5,.p (.int .i64 k))]) (fun _=> []) (fun k=>k<=a.length/\ ∀j,j<k->nth a j<=nth b j) (fun k=>a.length-k) 0 Zb (Weak.mk ?_) ?_
  ·simp (disch:=omega) only [go_sem,seval,↓reduceIte]
  ·rintro k ⟨hk,hno⟩;refine Zd ?_;refine cD ?_ ?_<;>intro h2<;>simp (disch:=omega) only [Sh.out h2,go_sem,seval,↓reduceIte]
   ·have hk2:k<a.length:=Za
    refine Xd (Zd ?_);refine cD ?_ ?_<;>intro h3<;>simp (disch:=omega) only [Sh.out h3,go_sem,seval,↓reduceIte]
    ·grind [Qx]
    ·exact ⟨k+1,⟨Za,Zp.2 ⟨hno,Za⟩⟩,Za,wk⟩
   ·have hkl:k=a.length:=Za
    simp_all [Qx]
theorem gB (x:Inst) (ht:x.types.length<=1048576):PC 276 [.p (Zq x)] (.int .i64 (dimsOf x.types)):=by
 refine Zc Tryz.func276 rfl Zb2 ?_;simp (disch:=omega) only [Tryz.f276,go_sem,seval];refine cD ?_ ?_<;>intro h1<;>simp (disch:=omega) only [Sh.out h1,go_sem,seval,↓reduceIte]
 ·grind [dimsOf]
 simp_all [dimsOf]
structure LdOk (x:Inst):Prop where
 ord:x.orders.length<=10
 typ:x.types.length<=1048576
 dim:1<=dimsOf x.types/\dimsOf x.types<=3
 load: ∀o∈x.orders,(o.load.length:Int)=dimsOf x.types/\ ∀n∈o.load,0<=n/\n<=1000
theorem Qz {x:Inst} (h:InstOk x):LdOk x:=by
 have ht:=h.types.1;simp only [rng,Zr] at ht;have ho:=h.orders
 have h0:0<x.types.length:=Za
 have hcap:=h.types.2 0 h0;unfold Jz at hcap;obtain ⟨⟨⟨⟨⟨⟨⟨⟨_,_⟩,_⟩,_⟩,hcap⟩,_⟩,_⟩,_⟩,_⟩:=hcap;simp only [Vl,Zv,Zr,rng] at hcap;refine ⟨ho.1,Za,Za,fun o hm=> ?_⟩;obtain ⟨i,hi,rfl⟩:=ZO.1 hm;have:=(ho.2 i hi).load;rw [Zj hi] at this
 simp_all [loadOk,rng]
def GS (x:Inst) (l:List Vis) (n k:Nat):List (Bool×List Int):=((List.range k).filter fun i=>GK x l n i&&hasO l i).map fun i=>((nth x.orders i).load_c,(nth x.orders i).load)
theorem TA {x:Inst} {l:List Vis} {n k:Nat} :GS x l n (k+1)=GS x l n k++if (GK x l n k&&hasO l k)=true then [((nth x.orders k).load_c,(nth x.orders k).load)] else []:=by
 grind [GS,X8]
theorem fC {x:Inst} {l:List Vis} {n:Nat} : ∀k,(GS x l n k).length<=k:=fun k=>by
 grind [GS]
theorem pI {x:Inst} {l:List Vis} {n k:Nat} (h:LdOk x) (hk:k<=x.orders.length): ∀p∈GS x l n k,p.2.length=(dimsOf x.types).toNat/\ ∀m∈p.2,0<=m/\m<=1000:=fun p hp=>by
 obtain ⟨i,hi,rfl⟩:=XT.1 hp;have hi2:=ZP.1 (J8.1 hi).1;have:=h.load _ (Zt (show i<x.orders.length by omega))
 grind
theorem fD {x:Inst} {l:List Vis} {n:Nat} :tL (GS x l n x.orders.length) (dimsOf x.types).toNat=Y3 x l n:=by
 unfold tL Y3
 grind [Ef,GS,DO,Kj]
def vR (x:Inst) (l:List Vis) (n i k:Nat):Bool:=(l.take (min k n)).foldl (fun on v=>if v.order=(i:Int) then !v.drp else on) (decide ((nth x.orders i).pick.place<0))
def Pk (l:List Vis) (i k:Nat):Bool:=(l.take k).any fun v=>decide (v.order=(i:Int))
theorem kI {x:Inst} {l:List Vis} {n i k:Nat} (h:k<l.length):vR x l n i (k+1)=if (nth l k).order=(i:Int) then (if k<n then !(nth l k).drp else vR x l n i k) else vR x l n i k:=by
 grind [vR,XZ,Zj]
theorem TX {l:List Vis} {i k:Nat} (h:k<l.length):Pk l i (k+1)=if (nth l k).order=(i:Int) then true else Pk l i k:=by
 grind [Pk,XZ,Zj]
theorem rK {x:Inst} {l:List Vis} {n i:Nat} (h:n<=l.length):vR x l n i l.length=GK x l n i:=by
 grind [vR,GK]
theorem iN {l:List Vis} {i:Nat} :Pk l i l.length=hasO l i:=by grind [Pk,hasO]
theorem Td (x:Inst) (l:List Vis) (c:Bool) (n:Nat) (hx:LdOk x) (hl:l.length<=1048576) (hn:n<=l.length) :
  PT 255 [.p (Zq x),.p (.list c (l.map Z5)),.p (.int .i64 (n:Nat))] [.p (.list false ((Y3 x l n).map eI)),.p (.int .i64 0)]:=by
 have ho:=hx.ord;refine Ze [15] Tryz.func255 rfl ZbH ?_;simp (disch:=omega) only [Tryz.f255,go_sem,seval];refine ZY [15] [1,2,3] (fun q:Nat×List (Bool×List Int)=> [(8,.sl 1 0 q.2.length q.2.length),(9,.p (.int .i64 q.1))]) (fun q=> [Zf x,.elems 1 (q.2.map eR)]) (fun q=>q.1<=x.orders.length/\q.2=GS x l n q.1) (fun q=>x.orders.length-q.1) (0,[]) (by simp [GS]) (Weak.ofNil 8 1 rfl Zb (Weak.mk ?_)) ?_
 ·simp (disch:=omega) only [Zf,Zk,ZH,ZM,ZE,go_sem,seval]
 ·rintro ⟨i,o⟩ ⟨hi,hob⟩;simp only at hi hob
  have hol:o.length<=i:=by grind [fC]
  refine YH ?_;refine cD ?_ ?_<;>intro h1<;>simp (disch:=omega) only [Sh.out h1,go_sem,seval,↓reduceIte]
  ·have hi2:i<x.orders.length:=Za
   refine Zl [1,2,3,8,9] (fun k:Nat=> [(10,.p (.bool (vR x l n i k))),(11,.p (.bool (Pk l i k))),(12,.p (.int .i64 k))]) (fun _=> [Zf x,.elems 1 (o.map eR)]) (fun k=>k<=l.length) (fun k=>l.length-k) 0 Zb (Weak.mk ?_) ?_
   ·simp (disch:=omega) only [Zf,vR,Pk,Nat.zero_min,Q2,Uz,List.any_nil,go_sem,seval]
   ·intro k hk;refine YH ?_;refine cD ?_ ?_<;>intro h2<;>simp (disch:=omega) only [Sh.out h2,go_sem,seval,↓reduceIte]
    ·have hk2:k<l.length:=Za
     have s1:=kI (x:=x) (n:=n) (i:=i) hk2;have s2:=TX (i:=i) hk2;refine ZX ?_ ?_<;>intro h3
     ·rw [if_neg h3] at s1 s2;exact ⟨k+1,Za,Za,Weak.mk (by simp (disch:=omega) only [s1,s2,go_sem,seval])⟩
     ·have h3':=Z2.1 h3;rw [if_pos h3'] at s1 s2;refine ZX ?_ ?_<;>intro h4
      ·rw [if_pos Za] at s1;exact ⟨k+1,Za,Za,Weak.mk (by simp (disch:=omega) only [s1,s2,go_sem,seval])⟩
      ·rw [if_neg Za] at s1;exact ⟨k+1,Za,Za,Weak.mk (by simp (disch:=omega) only [s1,s2,go_sem,seval])⟩
    ·have hkl:k=l.length:=Za
     subst hkl;have s3:=TA (x:=x) (l:=l) (n:=n) (k:=i);rw [rK hn,iN];refine Je ?_ ?_<;>intro h5
     ·refine ZX ?_ ?_<;>intro h6
      ·rw [h5,h6,Bool.and_self,if_pos rfl] at s3;exact ⟨(i+1,o++ [((nth x.orders i).load_c,(nth x.orders i).load)]),⟨Za,by grind⟩,Za,Weak.mk (by simp (disch:=omega) only [Zz,ZA,ZH,Xn,Zs,Zk,go_sem,seval])⟩
      ·rw [h5,h6,Bool.and_false,if_neg Zb,Yw] at s3;exact ⟨(i+1,o),⟨Za,by grind⟩,Za,wk⟩
     ·have h5':GK x l n i=false:=Za
      rw [h5',QB,if_neg Zb,Yw] at s3;exact ⟨(i+1,o),⟨Za,by grind⟩,Za,wk⟩
  ·have hik:i=x.orders.length:=Za
   subst hik
   have hD:dimsOf x.types=((dimsOf x.types).toNat:Int):=by have:=hx.dim;omega
   have hok:=pI (l:=l) (n:=n) hx (ZF _);rw [<- hob] at hok;have hs:=fD (x:=x) (l:=l) (n:=n);rw [<- hob] at hs;refine Zo (Weak.fz (o:=1) (by rfl)) (Zh [] _ _ _ _ (Jx ?_));refine (gB x hx.typ).use (Zd ?_);rw [hD];refine Yc (tK o false (dimsOf x.types).toNat (by have:=hx.dim;omega) Za hok) (Zd ?_);rw [<- hs];exact we
def nN (l:List Int):PV:= .list false (l.map eI)
@[go_sem] theorem yR (l:List Int):nN l= .list false (l.map eI):=Zm rfl rfl
def QD (x:Inst) (l:List Vis):List (List Int):=(List.range (l.length+1)).map (Y3 x l)
theorem aB (x:Inst) (r:Rte) (hx:InstOk x) (hl:r.visits.length<=1048576) (h0:Xf x r.visits=0) (hchk:PC 205 [.p (Zq x),.p (Wp r)] (.int .i64 (Xf x r.visits))) :
  PT 228 [.p (Zq x),.p (Wp r)] [.p (.list false ((QD x r.visits).map nN)),.p (.int .i64 0)]:=by
 have hd:=Qz hx;refine Ze [12] Tryz.func228 rfl Zbh ?_;simp (disch:=omega) only [Tryz.f228,go_sem,seval];refine (hchk).use (Zd ?_);simp (disch:=omega) only [h0,go_sem,seval];refine ZY [12] [2,3] (fun q:Nat×List (List Int)=> [(7,.sl 2 0 q.2.length q.2.length),(8,.p (.int .i64 q.1))]) (fun q=> [Zf x,Xp r,.elems 1 (q.2.map nN)]) (fun q=>q.1<=r.visits.length+1/\q.2=(List.range q.1).map (Y3 x r.visits)) (fun q=>r.visits.length+1-q.1) (0,[]) Zb (Weak.ofNil 7 1 rfl Zb (Weak.mk ?_)) ?_
 ·simp (disch:=omega) only [Zf,Xp,Zk,ZH,ZM,ZE,go_sem,seval]
 ·rintro ⟨k,o⟩ ⟨hk,ho⟩;simp only at hk ho
  have hol:o.length=k:=by rw [ho];simp
  refine K4 ?_;refine cD ?_ ?_<;>intro h1<;>simp (disch:=omega) only [Sh.out h1,go_sem,seval,↓reduceIte]
  ·refine Yc (Td x r.visits r.visits_c k hd hl Za) (Zd ?_);exact ⟨(k+1,o++ [Y3 x r.visits k]),⟨Za,by grind [X8]⟩,Za,Weak.mk (by simp (disch:=omega) only [Zz,ZA,ZH,Xn,Zs,Zk,go_sem,seval])⟩
  ·have hkl:k=r.visits.length+1:=Za
   subst hkl;refine Zo (Weak.fz (o:=2) (by rfl)) (Zh [] _ _ _ _ (Jx ?_));rw [QD,<- ho];exact we
theorem gW (x:Inst) (r:Rte) (hx:InstOk x) (hl:r.visits.length<=1048576) (hty:0<=r.typ/\r.typ<(x.types.length:Int)) (h0:Xf x r.visits=0) (hchk:PC 205 [.p (Zq x),.p (Wp r)] (.int .i64 (Xf x r.visits))) :
  PC 207 [.p (Zq x),.p (Wp r)] (.int .i64 (if Ua x (ZT x r).cap r.visits=true then 0 else 17)):=by
 have hd:=Qz hx;have htl:=hd.typ
 have hti:r.typ.toNat<x.types.length:=Za
 have hcp:(nth x.types r.typ.toNat).cap.length<=3:=by
  have hcap:=hx.types.2 _ hti;unfold Jz at hcap;obtain ⟨⟨⟨⟨⟨⟨⟨⟨_,_⟩,_⟩,_⟩,hcap⟩,_⟩,_⟩,_⟩,_⟩:=hcap;simp only [Vl,Zv,Zr,rng] at hcap;omega
 have hll:(QD x r.visits).length=r.visits.length+1:=by simp [QD]
 have hln: ∀k,k<r.visits.length+1->nth (QD x r.visits) k=Y3 x r.visits k:=fun k hk=>by
  grind [Zj,QD]
 have hal: ∀k,(Y3 x r.visits k).length<=3:=fun k=>by rw [E7];have:=hd.dim;omega
 have cl:=aB x r hx hl h0 hchk;unfold ZT
 generalize hL:QD x r.visits=L at *
 refine Zc Tryz.func207 rfl ZaY ?_
 have e1: ¬r.typ<0:=Za
 have e2: ¬(x.types.length:Int)<=r.typ:=Za
 simp (disch:=omega) only [Tryz.f207,e1,e2,go_sem,seval];refine Yc cl (Zd ?_);refine Zl [2,3,5] (fun k:Nat=> [(7,.p (.int .i64 k))]) (fun _=> [Zf x,Xp r]) (fun k=>k<=r.visits.length+1/\ ∀j,j<k->Qx (Y3 x r.visits j) (nth x.types r.typ.toNat).cap=true) (fun k=>r.visits.length+1-k) 0 Zb (Weak.mk ?_) ?_
 ·simp (disch:=omega) only [Zf,Xp,go_sem,seval]
 ·rintro k ⟨hk,hno⟩;simp (disch:=omega) only [Zf,Xp,hll,go_sem,seval];refine cD ?_ ?_<;>intro h1<;>simp (disch:=omega) only [Sh.out h1,go_sem,seval,↓reduceIte]
  ·have hk2:k<r.visits.length+1:=Za
   have hk3:k<L.length:=Za
   have hk4:=hal k;refine Xd ?_;simp (disch:=omega) only [hln k hk2,go_sem,seval];refine Zn (gV (Y3 x r.visits k) (nth x.types r.typ.toNat).cap false (nth x.types r.typ.toNat).cap_c Za Za) (Zd ?_);refine ZX ?_ ?_<;>intro h2
   ·have h2':Qx (Y3 x r.visits k) (nth x.types r.typ.toNat).cap=false:=by grind
    have: ¬Ua x (nth x.types r.typ.toNat).cap r.visits=true:=fun h=>by
     grind [Ua]
    grind
   ·exact ⟨k+1,⟨Za,Zp.2 ⟨hno,by grind⟩⟩,Za,wk⟩
  ·have:Ua x (nth x.types r.typ.toNat).cap r.visits=true:=by
    grind [Ua]
   grind
def Mu (j:Nat):Int:=if j=63 then-9223372036854775808 else ((pw j:Nat):Int)
theorem RE {j:Nat} (h:j<63):Mu j=((pw j:Nat):Int):=by rw [Mu,if_neg Za]
theorem ZcS {j:Nat} (h:j<=62):pw j<=4611686018427387904:=by have:=Ks h;rwa [F9] at this
theorem Mv {j:Nat} (h:j<=63):0<Mu j↔j<63:=by
 grind [Mu,Ga]
theorem wE {S q:Nat} (hS:S<9223372036854775808) (h:q<=S):IntKind.i64.wrap (q:Int)=(q:Int):=by rw [IntKind.wrap_i64];omega
theorem ZcU {P:Program} {t:TypeId} {S j:Nat} (hS:S<9223372036854775808):Yd P .quo t (.p (.int .i64 (S:Int))) (.p (.int .i64 ((pw j:Nat):Int)))=some (.int .i64 ((S / pw j:Nat):Int)):=by
 have hp:=Ga j;rw [dL Za]
 have e:(S:Int).tdiv ((pw j:Nat):Int)=((S / pw j:Nat):Int):=by
  rfl
 have hle:=Nat.div_le_self S (pw j);rw [e,wE hS hle]
theorem sQ {P:Program} {t:TypeId} {S:Nat} :Yd P .rem t (.p (.int .i64 (S:Int))) (.p (.int .i64 2))=some (.int .i64 ((S%2:Nat):Int)):=by
 rfl
theorem ZjL {S j:Nat} (hS:S<9223372036854775808):(IntKind.i64.wrap ((S:Int) / ((pw j:Nat):Int))).tmod 2=((S / pw j%2:Nat):Int):=by
 have hle:=Nat.div_le_self S (pw j)
 grind [wE]
theorem jZ {P:Program} {t:TypeId} {j:Nat} (h:j<63):Yd P .mul t (.p (.int .i64 ((pw j:Nat):Int))) (.p (.int .i64 2))=some (.int .i64 (Mu (j+1))):=by
 grind [dJ,Mu,ZcS,pw,IntKind.wrap_i64]
theorem dO (t:Typ) (s:Int) (h1:t.skills<9223372036854775808) (h2:s<9223372036854775808):PC 206 [.p (X0 t),.p (.int .i64 s)] (.bool (Wo t s)):=by
 refine Zc Tryz.func206 rfl ZaX ?_;simp (disch:=omega) only [Tryz.f206,go_sem,seval];refine gF ?_ ?_<;>intro c1<;>simp (disch:=omega) only [Sh.out c1,go_sem,seval,↓reduceIte]
 ·grind [Wo]
 ·refine cD ?_ ?_<;>intro c2<;>simp (disch:=omega) only [Sh.out c2,go_sem,seval]
  ·grind [Wo]
  ·obtain ⟨M,hM⟩: ∃M:Nat,t.skills=(M:Int):=⟨t.skills.toNat,Za⟩;obtain ⟨S,rfl⟩: ∃S:Nat,s=(S:Int):=⟨s.toNat,Za⟩
   have hMl:M<9223372036854775808:=Za
   have hSl:S<9223372036854775808:=Za
   have hab: ∀b:Bool,((List.range 63).all fun i=> !S.testBit i||M.testBit i)=b->Wo t (S:Int)=b:=fun b hb=>by
    simp_all [Wo]
   refine Zl [1,2] (fun j:Nat=> [(5,.p (.int .i64 (Mu j)))]) (fun _=> [X9 t]) (fun j=>j<=63/\ ∀i,i<j->(!S.testBit i||M.testBit i)=true) (fun j=>63-j) 0 Zb (Weak.mk ?_) ?_
   ·simp (disch:=omega) only [X9,hM,show Mu 0=1 from rfl,go_sem,seval]
   ·rintro j ⟨hj,hno⟩;simp (disch:=omega) only [X9,hM,go_sem,seval];refine cD ?_ ?_<;>intro c3<;>simp (disch:=omega) only [Sh.out c3,go_sem,seval,↓reduceIte]
    ·have hj2:j<63:=(Mv hj).1 c3;simp (disch:=omega) only [RE hj2,ZjL hSl,IR,go_sem,seval];refine gT ?_ ?_<;>intro c4<;>simp (disch:=omega) only [Sh.out c4,RE hj2,ZcU hMl,ZjL hSl,sQ,jZ hj2,IR,IQ,go_sem,seval]
     ·refine cD ?_ ?_<;>intro c5<;>simp (disch:=omega) only [Sh.out c5,jZ hj2,go_sem,seval]
      ·grind
      ·exact ⟨j+1,⟨Za,Zp.2 ⟨hno,by grind⟩⟩,Za,Weak.mk (by simp (disch:=omega) only [hM,go_sem,seval])⟩
     ·exact ⟨j+1,⟨Za,Zp.2 ⟨hno,by grind⟩⟩,Za,Weak.mk (by simp (disch:=omega) only [hM,go_sem,seval])⟩
    ·have hj63:j=63:=by
      rcases Wy j 63 with h | h
      ·simp_all [Mv]
      ·omega
     simp_all
theorem OV (l:List Vis) (c:Bool) (n:Nat) (hn:n<l.length) (hl:l.length<=1048576):PC 233 [.p (.list c (l.map Z5)),.p (.int .i64 (n:Nat))] (.bool (Us l n)):=by
 refine Zc Tryz.func233 rfl Zbm ?_;simp (disch:=omega) only [Tryz.f233,go_sem,seval];refine Zl [0,1] (fun k:Nat=> [(5,.p (.int .i64 k))]) (fun _=> []) (fun k=>k<=n/\ ∀j,j<k->(nth l j).order≠(nth l n).order) (fun k=>n-k) 0 Zb (Weak.mk ?_) ?_
 ·simp (disch:=omega) only [go_sem,seval,↓reduceIte]
 ·rintro k ⟨hk,hno⟩;refine Zd ?_;refine cD ?_ ?_<;>intro h1<;>simp (disch:=omega) only [Sh.out h1,go_sem,seval,↓reduceIte]
  ·have hk2:k<n:=Za
   have hk3:k<l.length:=Za
   refine Xd (Zd ?_);refine cD ?_ ?_<;>intro h2<;>simp (disch:=omega) only [Sh.out h2,go_sem,seval,↓reduceIte]
   ·grind [Us,KN]
   ·exact ⟨k+1,⟨Za,Zp.2 ⟨hno,h2⟩⟩,Za,wk⟩
  ·have hkn:k=n:=Za
   subst hkn
   have:Us l k=true:=by
    unfold Us;rw [XR,WS];intro v hv;obtain ⟨j,j1,j2,rfl⟩:=Qp hv
    grind
   rw [this]
def CZ (c m o w:Int):AM.Obj:= .cells [.p (.int .i64 c),.p (.int .i64 m),.p (.int .i64 o),.p (.int .i64 w)]
theorem BW {x:Inst} {l:List Vis} {t:Int} : ∀n:Nat,(0<=(chgF x l t n).1/\(chgF x l t n).1<=n)/\(0<=(chgF x l t n).2/\(chgF x l t n).2<=n)
 | 0=>by simp [chgF]
 | n+1=>by
  have ih:=BW (x:=x) (l:=l) (t:=t) n
  grind [chgF]
theorem bN (x:Inst) (r:Rte) (s:She) (hty:0<=r.typ/\r.typ<(x.types.length:Int)) (ho:x.orders.length<=1048576) (ht:x.types.length<=1048576) (hl:r.visits.length<=1048576) (hv:Inr x r.visits)
  (hc:0<=(ZT x r).fixed/\(ZT x r).fixed<=100000/\0<=(ZT x r).perMile/\(ZT x r).perMile<=100/\0<=(ZT x r).perTick/\(ZT x r).perTick<=100) (ho2:0<=(ZT x r).opn/\(ZT x r).opn<=4096)
  (hf: -4096<=s.fin/\s.fin<=8192) (hm:0<=s.miles/\s.miles<=1000000) :
  PC 209 [.p (Zq x),.p (Wp r),.p (Fu s)] (Ei (G9 x r s)):=by
 have hti:r.typ.toNat<x.types.length:=Za
 unfold G9;have htd:nth x.types r.typ.toNat=ZT x r:=rfl
 generalize ZT x r=t at *
 have e1: ¬r.typ<0:=Za
 have e2: ¬(x.types.length:Int)<=r.typ:=Za
 have p1:0<=t.perMile*s.miles/\t.perMile*s.miles<=100*1000000:=⟨Uy Za Za,VS Za Za Za Za⟩
 have hW: -8192<=s.fin-t.opn/\s.fin-t.opn<=8192:=Za
 have p2: -819200<=t.perTick*(s.fin-t.opn)/\t.perTick*(s.fin-t.opn)<=819200:=by
  generalize s.fin-t.opn=w at hW;have a1:=Du hW.2 (show 0<=t.perTick by omega);have a2:=Du hW.1 (show 0<=t.perTick by omega);omega
 have p3: -128<=(s.fin-t.opn).tdiv 64/\(s.fin-t.opn).tdiv 64<=128:=by
  grind
 have p4:0<=(s.fin-t.opn).tdiv 64*(s.fin-t.opn).tdiv 64/\(s.fin-t.opn).tdiv 64*(s.fin-t.opn).tdiv 64<=16384:=by
  generalize (s.fin-t.opn).tdiv 64=q at p3;refine ⟨?_,?_⟩
  ·rcases Ay 0 q with h | h
   ·exact Uy h h
   ·exact Int.mul_nonneg_of_nonpos_of_nonpos h h
  ·rcases Ay 0 q with h | h
   ·have:=VS p3.2 p3.2 h Za;omega
   ·have h2:0<= -q:=Za
    have:=VS (show-q<=128 by omega) (show-q<=128 by omega) h2 Za
    grind
 refine Zc Tryz.func209 rfl ZaZ ?_;simp (disch:=omega) only [Tryz.f209,e1,e2,htd,go_sem,seval];refine Zl [3,4,6,9] (fun k:Nat=> [(10,.p (.int .i64 k))]) (fun k=> [Zf x,Xp r,.cells [.p (.bool s.rest),.p (.int .i64 s.dep),.p (.list s.times_c (s.times.map eTim)),.p (.int .i64 s.fin),.p (.int .i64 s.miles)],CZ 0 0 0 0,X9 t,CZ (t.fixed+t.perMile*s.miles+t.perTick*(s.fin-t.opn)) (chgF x r.visits r.typ k).1 (chgF x r.visits r.typ k).2 ((s.fin-t.opn).tdiv 64*(s.fin-t.opn).tdiv 64)]) (fun k=>k<=r.visits.length) (fun k=>r.visits.length-k) 0 Zb (Weak.mk ?_) ?_
 ·simp (disch:=omega) only [Zf,Xp,X9,CZ,chgF,go_sem,seval]
 ·intro k hk;have hch:=BW (x:=x) (l:=r.visits) (t:=r.typ) k;simp (disch:=omega) only [Zf,Xp,X9,CZ,go_sem,seval];refine cD ?_ ?_<;>intro h1<;>simp (disch:=omega) only [Sh.out h1,go_sem,seval,↓reduceIte]
  ·have hk2:k<r.visits.length:=Za
   obtain ⟨v1,v2⟩:=hv _ (Zt hk2)
   have e3: ¬(nth r.visits k).order<0:=Za
   have e4: ¬(x.orders.length:Int)<=(nth r.visits k).order:=Za
   have v3:(nth r.visits k).order.toNat<x.orders.length:=Za
   simp (disch:=omega) only [e3,e4,go_sem,seval];refine (OV r.visits r.visits_c k hk2 hl).use (Zd ?_);have hcs:chgF x r.visits r.typ (k+1)=_:=chgF.eq_2 x r.visits r.typ k;refine ZX ?_ ?_<;>intro h2
   ·have h2': ¬Us r.visits k=true:=by grind
    exact ⟨k+1,Za,Za,Weak.mk (by simp (disch:=omega) only [hcs,if_neg h2',go_sem,seval])⟩
   ·have h2':Us r.visits k=true:=by grind
    refine Xd (Zd ?_);refine gT ?_ ?_<;>intro h3<;>simp (disch:=omega) only [Sh.out h3,go_sem,seval,↓reduceIte]
    ·refine cD ?_ ?_<;>intro h4<;>simp (disch:=omega) only [Sh.out h4,go_sem,seval,↓reduceIte]
     ·have hn:Xl (nth x.orders (nth r.visits k).order.toNat).now r.typ=true:=by simp [Xl,h3,h4]
      refine Xd (Zd ?_);refine Je ?_ ?_<;>intro h5
      ·refine ZX ?_ ?_<;>intro h6
       ·have hl2:Xl (nth x.orders (nth r.visits k).order.toNat).last r.typ=true:=by simp [Xl,h5,h6]
        exact ⟨k+1,Za,Za,Weak.mk (by simp (disch:=omega) only [hcs,if_pos h2',hn,hl2,go_sem,seval,↓reduceIte])⟩
       ·have hl2:Xl (nth x.orders (nth r.visits k).order.toNat).last r.typ=false:=by simp_all [Xl]
        exact ⟨k+1,Za,Za,Weak.mk (by simp (disch:=omega) only [hcs,if_pos h2',hn,hl2,UC,YY,go_sem,seval,↓reduceIte])⟩
      ·have hl2:Xl (nth x.orders (nth r.visits k).order.toNat).last r.typ=false:=by simp_all [Xl]
       exact ⟨k+1,Za,Za,Weak.mk (by simp (disch:=omega) only [hcs,if_pos h2',hn,hl2,UC,YY,go_sem,seval,↓reduceIte])⟩
     ·have hn:Xl (nth x.orders (nth r.visits k).order.toNat).now r.typ=false:=by simp_all [Xl]
      refine Xd (Zd ?_);refine Je ?_ ?_<;>intro h5
      ·refine ZX ?_ ?_<;>intro h6
       ·have hl2:Xl (nth x.orders (nth r.visits k).order.toNat).last r.typ=true:=by simp [Xl,h5,h6]
        exact ⟨k+1,Za,Za,Weak.mk (by simp (disch:=omega) only [hcs,if_pos h2',hn,hl2,UC,YY,go_sem,seval,↓reduceIte])⟩
       ·have hl2:Xl (nth x.orders (nth r.visits k).order.toNat).last r.typ=false:=by grind
        exact ⟨k+1,Za,Za,Weak.mk (by simp (disch:=omega) only [hcs,if_pos h2',hn,hl2,UC,YY,go_sem,seval,↓reduceIte])⟩
      ·have hl2:Xl (nth x.orders (nth r.visits k).order.toNat).last r.typ=false:=by simp_all [Xl]
       exact ⟨k+1,Za,Za,Weak.mk (by simp (disch:=omega) only [hcs,if_pos h2',hn,hl2,UC,YY,go_sem,seval,↓reduceIte])⟩
    ·have hn:Xl (nth x.orders (nth r.visits k).order.toNat).now r.typ=false:=by simp_all [Xl]
     refine Xd (Zd ?_);refine Je ?_ ?_<;>intro h5
     ·refine ZX ?_ ?_<;>intro h6
      ·have hl2:Xl (nth x.orders (nth r.visits k).order.toNat).last r.typ=true:=by simp [Xl,h5,h6]
       exact ⟨k+1,Za,Za,Weak.mk (by simp (disch:=omega) only [hcs,if_pos h2',hn,hl2,UC,YY,go_sem,seval,↓reduceIte])⟩
      ·have hl2:Xl (nth x.orders (nth r.visits k).order.toNat).last r.typ=false:=by simp_all [Xl]
       exact ⟨k+1,Za,Za,Weak.mk (by simp (disch:=omega) only [hcs,if_pos h2',hn,hl2,UC,YY,go_sem,seval,↓reduceIte])⟩
     ·have hl2:Xl (nth x.orders (nth r.visits k).order.toNat).last r.typ=false:=by grind
      exact ⟨k+1,Za,Za,Weak.mk (by simp (disch:=omega) only [hcs,if_pos h2',hn,hl2,UC,YY,go_sem,seval,↓reduceIte])⟩
  grind
theorem SqOk.len {x:Inst} {l:List Vis} (h:SqOk x l) (hn:x.orders.length<=10):l.length<=20:=by
 have h1:=List.Nodup.length_le_of_subset (l₁ :=l) (l₂ :=(List.range 10).flatMap fun i:Nat=> [(⟨(i:Int),false⟩:Vis),⟨(i:Int),true⟩]) h.nd (fun v hv=>by
  obtain ⟨v1,v2⟩:=h.inr v hv;rw [XK];refine ⟨v.order.toNat,ZP.2 Za,?_⟩;obtain ⟨o,d⟩:=v
  have e:((o.toNat:Nat):Int)=o:=by grind
  simp_all)
 have h2:((List.range 10).flatMap fun i:Nat=> [(⟨(i:Int),false⟩:Vis),⟨(i:Int),true⟩]).length=20:=rfl;omega
theorem SqOk.vis {x:Inst} {l:List Vis} (h:SqOk x l) {v:Vis} (hv:v∈l):Aa x v=true:=by
 obtain ⟨v1,v2⟩:=h.inr v hv;obtain ⟨i,hi⟩: ∃i:Nat,v.order=(i:Int):=⟨v.order.toNat,Za⟩;have ho:=h.own (i:=i) ⟨v,hv,hi⟩
 have hpl:0<=(XP x v).place:=by
  unfold XP;rw [hi,XS]
  cases hd:v.drp with
  | true=>exact ho.isD (by rw [<- hi,<- hd];exact hv)
  | false=>exact ho.isP (by rw [<- hi,<- hd];exact hv)
 simp [Aa,M7,v1,v2,hpl]
theorem sI {x:Inst} {r:Rte} (h:SqOk x r.visits) (hn:x.orders.length<=10) (ht:0<=r.typ/\r.typ<(x.types.length:Int)):Uh x r=(decide (0<=r.start)&&decide (r.start<=4096)):=by
 have h1:r.visits.all (Aa x)=true:=ZD.2 fun v hv=>h.vis hv;have h2:=h.len hn
 grind [Uh]
theorem Sw {n:Net} (h:netOk n):netR n/\ ∀a∈n.arcs,0<=a.miles/\a.miles<=10000:=by
 obtain ⟨⟨⟨h1,_⟩,h2⟩,h3⟩:=h
 have ha: ∀a∈n.arcs,oE a/\0<=a.miles/\a.miles<=10000:=fun a hm=>by
  obtain ⟨i,hi,rfl⟩:=ZO.1 hm;have:=h3 i hi;unfold Mk at this;rw [Zj hi] at this;obtain ⟨⟨⟨⟨⟨_,g1⟩,_⟩,g2⟩,g3⟩,g4⟩:=this;refine ⟨⟨g2,g3,fun p hp=> ?_⟩,g1.2.2.1,g1.2.2.2.1⟩;obtain ⟨j,hj,rfl⟩:=ZO.1 hp
  simp_all [K3,Zj,LY,rng]
 exact ⟨⟨Za,Za,fun a hm=>(ha a hm).1⟩,fun a hm=>(ha a hm).2⟩
theorem W0 {x:Inst} (hx:InstOk x) {i:Nat} (hi:i<x.types.length):(0<=(nth x.types i).opn/\(nth x.types i).opn<=(nth x.types i).cls/\(nth x.types i).cls<=4096)/\(1<=(nth x.types i).drive/\(nth x.types i).drive<=4096)/\(0<=(nth x.types i).rest/\(nth x.types i).rest<=4096) /\
  (0<=(nth x.types i).fixed/\(nth x.types i).fixed<=100000/\0<=(nth x.types i).perMile/\(nth x.types i).perMile<=100/\0<=(nth x.types i).perTick/\(nth x.types i).perTick<=100)/\(0<=(nth x.types i).skills/\(nth x.types i).skills<=1073741823):=by
 have ht:=hx.types.2 i hi
 simp_all [Jz,rng]
theorem K7 {x:Inst} {r:Rte} (hx:InstOk x) (ht:0<=r.typ/\r.typ<(x.types.length:Int)) (h:SqOk x r.visits):TrpOk x (ZT x r) (Z6 x r.visits):=by
 have hti:r.typ.toNat<x.types.length:=Za
 obtain ⟨t1,t2,t3,_⟩:=W0 hx hti;obtain ⟨n1,n2⟩:=Sw hx.net;refine ⟨n1,n2,t1,t2,t3,fun s hs=> ?_,by rw [Yt];exact h.len hx.orders.1⟩;obtain ⟨v,hv,rfl⟩:=XT.1 hs;obtain ⟨v1,v2⟩:=h.inr v hv
 have hi:v.order.toNat<x.orders.length:=Za
 have ho:=hx.orders.2 _ hi;have hvis:=h.vis hv;have hp:=ho.pstp;have hd:=ho.dstp;simp only [stpOk,Zr] at hp hd;simp only [Aa,Zv,Zr] at hvis;have h3:=hvis.2;unfold XP at h3 ⊢
 grind
theorem NT {x t sp} (h:TrpOk x t sp): ∀(bs:List Bool) (k:Nat) (L:Lab),k+bs.length=sp.length+1->LabR k L->(Xs x t sp k L bs).2=0->LabR (sp.length+1) (Xs x t sp k L bs).1/\(bs≠ []->(Xs x t sp k L bs).1.she.fin=(Xs x t sp k L bs).1.ready)
 | [],k,L,hk,hl,h0=>by
  simp at hk;subst hk;exact ⟨hl,fun h=>absurd rfl h⟩
 | b::bs,k,L,hk,hl,h0=>by
  simp at hk;rw [Xs] at h0 ⊢
  split at h0
  ·rename_i c;rw [if_pos c];obtain ⟨h1,h2⟩:=NT h bs (k+1) _ Za (Lu h Za hl c) h0;refine ⟨h1,fun _=> ?_⟩
   cases bs with
   | nil =>
    simp at hk;subst hk;exact Nt (x:=x) (t:=t) (sp:=sp) (y:=L) (b:=b) (by rw [XL,if_pos c];rfl)
   | cons b2 bs=>grind
  omega
theorem Fl {x t sp} {st:Int} {r:List Bool} (h:TrpOk x t sp) (hs:0<=st/\st<=4096) (hr:r.length<=sp.length+1) (h0:(VG x t sp st r).2=0):(0<=(VG x t sp st r).1.fin/\(VG x t sp st r).1.fin<=8192)/\(0<=(VG x t sp st r).1.miles/\(VG x t sp st r).1.miles<=210000):=by
 have hL0:LabR 0 (labF t st):=⟨by have:=h.opn;grind [labF],by simp [labF],by simp [labF,zShe]⟩;have hl:=h.len
 have key: ∀bs∈Wb r (sp.length+1),(Xs x t sp 0 (labF t st) bs).2=0->(0<=(Xs x t sp 0 (labF t st) bs).1.she.fin/\(Xs x t sp 0 (labF t st) bs).1.she.fin<=8192)/\(0<=(Xs x t sp 0 (labF t st) bs).1.she.miles/\(Xs x t sp 0 (labF t st) bs).1.she.miles<=210000):=fun bs hbs he=>by
  obtain ⟨q,hq,rfl⟩:=XT.1 hbs;have hql:=bestF_len.fromB_len _ _ hq;simp at hql
  have hne:r++q≠ []:=fun e=>by
   simp_all
  obtain ⟨g1,g2⟩:=NT h (r++q) 0 _ (by simp;omega) hL0 he;rw [g2 hne];have:=g1.rdy;have:=g1.mil;omega
 unfold VG at h0 ⊢
 cases hf:VI Wr none ((Wb r (sp.length+1)).filterMap (VF (XL x t sp) 0 (labF t st))) with
 | some L =>
  simp only;have:=bestF_len.fmL_mem _ _ hf
  grind [Uj]
 | none =>
  grind [zShe]
theorem Tw (x:Inst) (r:Rte) (ho:x.orders.length<=1048576) (ht:x.types.length<=1048576) (hl:r.visits.length<=1048576) (hbad:Uh x r=false\/r.visits.length+1<r.rests.length) :
  PT 208 [.p (Zq x),.p (Wp r)] [.p (Fu zShe),.p (.int .i64 2)]:=by
 refine Ze [] Tryz.func208 rfl iZ ?_;simp (disch:=omega) only [Tryz.f208,go_sem,seval];refine (F7 x r ho ht hl).use (Zd ?_);refine gF ?_ ?_<;>intro h1<;>simp (disch:=omega) only [Sh.out h1,go_sem,seval,↓reduceIte]
 ·exact we (by simp (disch:=omega) only [zShe,Zk,go_sem,seval])
 ·have h2:r.visits.length+1<r.rests.length:=hbad.resolve_left (by grind);refine cD ?_ ?_<;>intro h3<;>simp (disch:=omega) only [Sh.out h3,go_sem,seval,↓reduceIte]
  ·exact we (by simp (disch:=omega) only [zShe,Zk,go_sem,seval])
  ·omega
theorem pO (x:Inst) (r:Rte) (hx:InstOk x) (hl:r.visits.length<=1048576):PC 205 [.p (Zq x),.p (Wp r)] (.int .i64 (Xf x r.visits)):=by
 have hf:=XC hx;have hr:=hx.rules;obtain ⟨h1,h2⟩:=VQ.1 hr
 have ha:x.apart.length<=1048576:=by
  have h3:=(VQ.1 h1).1
  grind [M3]
 have hb:x.before.length<=1048576:=by
  have h3:=(VQ.1 h2).1
  grind [M3]
 have:=PX x r (by have:=hf.len;omega) hl ha hb hf.plc
 grind [sN]
def B3 (x:Inst) (r:Rte):V:= .tup [.p (Fu (WM x r)),.p (Ei (Wf x r)),.p (.int .i64 (Xv x r))]
theorem Yy {x:Inst} {r:Rte} {e:Int} (h:Xv x r=e) (h0:e≠0):B3 x r= .tup [.p (Fu zShe),.p (Ei zSco),.p (.int .i64 e)]:=by
 simp_all [B3,WM,Wf]
theorem B4 (x:Inst) (r:Rte) (hx:InstOk x) (hl:r.visits.length<=1048576) (hrl:r.rests.length<=1048576):ACalls Tryz.prog 191 [.p (Zq x),.p (Wp r)] [] fun y H'=>y=B3 x r/\H'= []:=by
 have hld:=Qz hx;have htl:=hld.typ;have hol:=hld.ord;have chk:=pO x r hx hl
 have htb:x.types.length<=6:=by have:=hx.types.1;simp only [rng,Zr] at this;omega
 refine Ze [] Tryz.func191 rfl ZaM ?_;simp (disch:=omega) only [Tryz.f191,go_sem,seval];refine gF ?_ ?_<;>intro h1<;>simp (disch:=omega) only [Sh.out h1,go_sem,seval,↓reduceIte]
 ·have e:X7 x r=2:=by rw [X7,if_pos Za]
  rw [Yy (e:=2) (by rw [Xv,e];rfl) Za];exact we (by simp (disch:=omega) only [zShe,zSco,Zk,go_sem,seval])
 ·refine cD ?_ ?_<;>intro h2<;>simp (disch:=omega) only [Sh.out h2,go_sem,seval,↓reduceIte]
  ·have e:X7 x r=2:=by simp_all [X7]
   rw [Yy (e:=2) (by rw [Xv,e];rfl) Za];exact we (by simp (disch:=omega) only [zShe,zSco,Zk,go_sem,seval])
  ·have hty:0<=r.typ/\r.typ<(x.types.length:Int):=Za
   have hti:r.typ.toNat<x.types.length:=Za
   refine (chk).use (Zd ?_);refine cD ?_ ?_<;>intro h3<;>simp (disch:=omega) only [Sh.out h3,go_sem,seval,↓reduceIte]
   ·have e:X7 x r=Xf x r.visits:=by simp_all [X7]
    rw [Yy (e:=Xf x r.visits) (by simp_all [Xv]) h3];exact we (by simp (disch:=omega) only [zShe,zSco,Zk,go_sem,seval])
   ·have h3':=Z2.1 h3;have hsq:=UY h3'
    have hvn:0<r.visits.length:=by
     have:=hsq.ne
     grind
    have hok:=K7 hx hty hsq;have hnum:=W0 hx hti
    have hr0:X7 x r=if (r.visits.any fun v=> !Wo (ZT x r) (nth x.orders v.order.toNat).skills)=true then 18 else if Ua x (ZT x r).cap r.visits=false then 17 else if ¬(0<=r.start/\r.start<=4096/\r.rests.length<=r.visits.length+1) then 2 else 0:=by
     rw [X7,if_neg (fun h=>h hty),if_neg h3]
    have htyp:nth x.types r.typ.toNat=ZT x r:=rfl;rw [htyp] at hnum;have hf17:=gW x r hx hl hty h3' chk;have hposs:=sI hsq hol hty
    have hsk: ∀k,k<r.visits.length->(nth r.visits k).order.toNat<x.orders.length/\0<=(nth x.orders (nth r.visits k).order.toNat).skills/\(nth x.orders (nth r.visits k).order.toNat).skills<=1073741823:=fun k hk=>by
     obtain ⟨v1,v2⟩:=hsq.inr _ (Zt hk)
     have hi:(nth r.visits k).order.toNat<x.orders.length:=Za
     exact ⟨hi,(hx.orders.2 _ hi).skills⟩
    refine Zl [2,3,4,5] (fun k:Nat=> [(8,.p (.int .i64 k))]) (fun _=> [Zf x,Xp r,.cells [.p (.bool false),.p (.int .i64 0),.p (.list true []),.p (.int .i64 0),.p (.int .i64 0)],CZ 0 0 0 0])
     (fun k=>k<=r.visits.length/\ ∀j,j<k->Wo (ZT x r) (nth x.orders (nth r.visits j).order.toNat).skills=true) (fun k=>r.visits.length-k) 0 Zb (Weak.mk ?_) ?_
    ·simp (disch:=omega) only [Zf,Xp,CZ,go_sem,seval]
    ·rintro k ⟨hk,hno⟩;simp (disch:=omega) only [Zf,Xp,CZ,go_sem,seval];refine cD ?_ ?_<;>intro h4<;>simp (disch:=omega) only [Sh.out h4,go_sem,seval,↓reduceIte]
     ·have hk2:k<r.visits.length:=Za
      obtain ⟨s1,s2,s3⟩:=hsk k hk2;obtain ⟨v1,v2⟩:=hsq.inr _ (Zt hk2);refine Xd ?_;simp (disch:=omega) only [htyp,go_sem,seval];refine Zn (dO (ZT x r) (nth x.orders (nth r.visits k).order.toNat).skills Za Za) (Zd ?_);refine ZX ?_ ?_<;>intro h5
      ·have e:X7 x r=18:=by
        rw [hr0,if_pos]
        grind [Zt]
       rw [Yy (e:=18) (by rw [Xv,e];rfl) Za];exact we (by simp (disch:=omega) only [zShe,zSco,Zk,go_sem,seval])
      ·exact ⟨k+1,⟨Za,Zp.2 ⟨hno,by grind⟩⟩,Za,wk⟩
     ·have hkl:k=r.visits.length:=Za
      subst hkl
      have hall: ¬(r.visits.any fun v=> !Wo (ZT x r) (nth x.orders v.order.toNat).skills)=true:=fun h=>by
       obtain ⟨v,hv,hb⟩:=JV.1 h;obtain ⟨j,hj,rfl⟩:=ZO.1 hv
       grind [Zj]
      rw [if_neg hall] at hr0;refine (hf17).use (Zd ?_)
      cases hlb:Ua x (ZT x r).cap r.visits with
      | false =>
       have e:X7 x r=17:=by grind
       simp only [YY,Yo];refine Zd ?_;rw [Yy (e:=17) (by rw [Xv,e];rfl) Za];exact we (by simp (disch:=omega) only [zShe,zSco,Zk,go_sem,seval])
      | true =>
       rw [hlb,if_neg Zb] at hr0;simp only [if_true];refine Zd ?_
       by_cases h6:0<=r.start/\r.start<=4096/\r.rests.length<=r.visits.length+1
       ·have e:X7 x r=0:=Za
        have hp:Uh x r=true:=by grind
        have ee:Xv x r=(Xq x r).2:=by rw [Xv,if_pos e]
        have cb:=eZ x r hok Za htl hvn hp h6.2.2;have hbr:=Fl hok ⟨h6.1,h6.2.1⟩ (by rw [Yt];exact h6.2.2);have hbr:(Xq x r).2=0->_:=hbr
        change (Xq x r).2=0->(0<=(Xq x r).1.fin/\(Xq x r).1.fin<=8192)/\(0<=(Xq x r).1.miles/\(Xq x r).1.miles<=210000) at hbr
        have es:WM x r=if (Xq x r).2=0 then (Xq x r).1 else zShe:=by rw [WM,ee]
        have ep:Wf x r=if (Xq x r).2=0 then G9 x r (Xq x r).1 else zSco:=by rw [Wf,ee]
        unfold B3;rw [ee,es,ep];clear ee es ep
        generalize Xq x r=q at *
        obtain ⟨sh,eb⟩:=q;simp only at cb hbr ⊢;refine Yc cb (Zd ?_);refine cD ?_ ?_<;>intro h7<;>simp (disch:=omega) only [Sh.out h7,go_sem,seval,↓reduceIte]
        ·exact we (by simp (disch:=omega) only [zShe,zSco,Zk,go_sem,seval])
        ·have h7':=Z2.1 h7
         try rw [if_pos h7',if_pos h7']
         subst h7';obtain ⟨g1,g2⟩:=hbr rfl;refine ZB 5 mixed Zg Zg (Zd ?_);refine Zn (bN x r sh hty Za htl hl hsq.inr hnum.2.2.2.1 Za Za Za) (Zd ?_);exact we
       ·have e:X7 x r=2:=Za
        rw [Yy (e:=2) (by rw [Xv,e];rfl) Za];refine Yc (Tw x r Za htl hl ?_) ?_
        ·grind
        ·refine Zd ?_;exact we (by simp (disch:=omega) only [zShe,zSco,Zk,go_sem,seval])
theorem cM (x:Inst) (r:Rte) (hx:InstOk x) (hl:r.visits.length<=1048576) (hrl:r.rests.length<=1048576):PC 148 [.p (Zq x),.p (Wp r)] (.int .i64 (Xv x r)):=by
 have ce:=B4 x r hx hl hrl;refine Zc Tryz.func148 rfl Zam ?_;simp (disch:=omega) only [Tryz.f148,go_sem,seval];unfold B3 at ce;refine Om ce ?_;simp (disch:=omega) only [go_sem,seval,↓reduceIte]
theorem Zc2 {p q:Pt} {t:Int} (h1:p.t<=t) (h2:t<q.t) (hp:p.t<=p.a) (hq:q.t<=q.a):t<=Ha p q t:=by
 unfold Ha
 have hw:0<q.t-p.t:=Za
 have key:(t-p.a)*(q.t-p.t)<=(t-p.t)*(q.a-p.a)+q.t-p.t-1:=by
  have e:(t-p.t)*(q.a-p.a)-(t-p.a)*(q.t-p.t)=(t-p.t)*(q.a-q.t)+(p.a-p.t)*(q.t-t):=by
   grind
  have h3:0<=(t-p.t)*(q.a-q.t):=Uy Za Za;have h4:0<=(p.a-p.t)*(q.t-t):=Uy Za Za;omega
 have:=Int.le_ediv_of_mul_le hw key;omega
theorem oH {l:List Pt} {t:Int} (hl:WZ l):t<=JF l t:=by
 obtain ⟨⟨hl1,hl2⟩,hpt⟩:=hl;unfold JF
 split
 ·rename_i i hi;have hm:=QY hi;have hs:=JY hi;simp at hm;simp only [Q6,Zv,Zr] at hs;obtain ⟨⟨p1,p2,p3,p4⟩,_⟩:=hpt i Za;obtain ⟨⟨q1,q2,q3,q4⟩,q5⟩:=hpt (i+1) Za
  simp_all [Zc2]
 ·obtain ⟨⟨p1,p2,p3,p4⟩,_⟩:=hpt 0 Za;obtain ⟨⟨q1,q2,q3,q4⟩,_⟩:=hpt (l.length-1) Za;omega
theorem iJ {n:Net} {pr f t τ:Int} (hn:netR n) (h:(WW n pr f t τ).2.2=0):τ<=(WW n pr f t τ).1:=by
 unfold WW at h ⊢
 split at h
 ·simp at h
 ·rename_i c1;rw [if_neg c1]
  split at h
  ·grind
  ·rename_i c2;rw [if_neg c2]
   split at h
   ·rename_i c3;rw [if_pos c3];have hA:=Ai c3;have h1:=oH (t:=τ) (hn.2.2 _ hA).1;have h2:=Jv (t:=τ) (fun p hp=>((hn.2.2 _ hA).2.2 p hp).2.2) _ (ZF _)
    grind [IG]
   ·simp at h
theorem Hi {x t sp} {st:Int} {r:List Bool} (hr:r.length<=sp.length+1) (h:(VG x t sp st r).2=0): ∃bs:List Bool,bs.length=sp.length+1/\(Xs x t sp 0 (labF t st) bs).2=0/\(VG x t sp st r).1=(Xs x t sp 0 (labF t st) bs).1.she:=by
 unfold VG at h ⊢
 cases hf:VI Wr none ((Wb r (sp.length+1)).filterMap (VF (XL x t sp) 0 (labF t st))) with
 | none =>
  rw [hf] at h;simp only at h ⊢;exfalso
  have hm:Wm r (sp.length+1)∈Wb r (sp.length+1):=by
   grind [Wb,Wm,fromB_next]
  have h2:VF (XL x t sp) 0 (labF t st) (Wm r (sp.length+1))=some (Xs x t sp 0 (labF t st) (Wm r (sp.length+1))).1:=by rw [Uj,if_pos h]
  have h3:(Xs x t sp 0 (labF t st) (Wm r (sp.length+1))).1∈(Wb r (sp.length+1)).filterMap (VF (XL x t sp) 0 (labF t st)):=Cs.2 ⟨_,hm,h2⟩;generalize (Wb r (sp.length+1)).filterMap (VF (XL x t sp) 0 (labF t st))=l at hf h3
  cases l with
  | nil=>simp at h3
  | cons a l =>
   rw [VI] at hf;obtain ⟨z,e,_⟩:=Jk Wr l a
   grind
 | some L =>
  simp only;have hm:=bestF_len.fmL_mem _ _ hf;obtain ⟨bs,hbs,hrun⟩:=Cs.1 hm;rw [Uj] at hrun
  split at hrun
  ·rename_i h5;simp at hrun;subst hrun;obtain ⟨q,hq,rfl⟩:=XT.1 hbs;have hql:=bestF_len.fromB_len _ _ hq
   grind
  ·cases hrun
structure Sr where
 rdy:Int
 drv:Int
 deriving Inhabited,DecidableEq
def UI (l:List Sr) (s:Sr):List Sr:=if s∈l then l else l++ [s]
def Vy (t:Typ) (l:List Sr) (d v:Int):List Sr:=UI (UI l ⟨d,v⟩) ⟨d+t.rest,0⟩
def JA (x:Inst) (t:Typ) (from':Int) (stop:Stp) (out:List Sr) (a:Sr):List Sr :=
 if ¬(WW x.net t.prof from' stop.place a.rdy).2.2=0\/t.drive<a.drv+(WW x.net t.prof from' stop.place a.rdy).1-a.rdy then out
 else if stop.cls<max (WW x.net t.prof from' stop.place a.rdy).1 stop.opn then out
 else Vy t out (max (WW x.net t.prof from' stop.place a.rdy).1 stop.opn+stop.serv) (a.drv+(WW x.net t.prof from' stop.place a.rdy).1-a.rdy)
def DT (x:Inst) (t:Typ) (from':Int) (st:List Sr) (stop:Stp):List Sr:=st.foldl (JA x t from' stop) []
theorem T6 {l:List Sr} {s a:Sr} :a∈UI l s↔a∈l\/a=s:=by
 grind [UI]
theorem Va {t:Typ} {l:List Sr} {d v:Int} {a:Sr} :a∈Vy t l d v↔a∈l\/a=⟨d,v⟩\/a=⟨d+t.rest,0⟩:=by
 simp [Vy,T6,or_assoc]
theorem RN {n:Nat} (h:n<10):dec n= [UInt8.ofNat (48+n)]:=by rw [dec,dif_pos h]
theorem pW {n:Nat} (h:10<=n) (h2:n<100):dec n= [UInt8.ofNat (48+n / 10),UInt8.ofNat (48+n%10)]:=by
 rw [dec,dif_neg Za,RN Za];rfl
theorem Mm {s:List UInt8} {k k':IntKind} {a b:Int} (h:0<=a/\a<=b/\b<=(s.length:Int)):IJ (some .string) s (.p (.int k a)) (.p (.int k' b))=some (.p (.str ((s.take b.toNat).drop a.toNat))):=by
 simp_all [IJ]
def digT : List UInt8:=(List.range 36).map fun i=>UInt8.ofNat (if i<10 then 48+i else 87+i)
def smalT : List UInt8:=(List.range 100).flatMap fun i=> [UInt8.ofNat (48+i / 10),UInt8.ofNat (48+i%10)]
theorem pX : ∀n,n<10->(digT.take (n+1)).drop n= [UInt8.ofNat (48+n)]:=by decide
theorem mJ : ∀n,n<100->(smalT.take (2*n+2)).drop (2*n)= [UInt8.ofNat (48+n / 10),UInt8.ofNat (48+n%10)]:=by decide+kernel
theorem tC (n:Nat) (hn:n<100):PC 298 [.p (.int .i64 (n:Int))] (.str (dec n)):=by
 refine Zc Tryz.func298 rfl Zco ?_;simp (disch:=omega) only [Tryz.f298,go_sem,seval];refine cD ?_ ?_<;>intro h<;>simp (disch:=omega) only [Sh.out h,go_sem,seval]
 ·rw [RN Za,Mm (by simp;omega)]
  have e1:((n:Int)+1).toNat=n+1:=Za
  have e2:((n:Int)).toNat=n:=Za
  rw [e1,e2];refine (ZW (fun z=>Bv (some (V.p (PV.str z))) _) (pX n Za)).mpr ?_;simp (disch:=omega) only [go_sem,seval]
 ·rw [pW Za hn,Mm (by simp;omega)]
  have e1:((n:Int)*2+2).toNat=2*n+2:=Za
  have e2:((n:Int)*2).toNat=2*n:=Za
  rw [e1,e2];refine (ZW (fun z=>Bv (some (V.p (PV.str z))) _) (mJ n Za)).mpr ?_;simp (disch:=omega) only [go_sem,seval]
theorem iC (n:Nat) (hn:n<100):PC 296 [.p (.int .i64 (n:Int)),.p (.int .i64 10)] (.str (dec n)):=by
 refine Zc Tryz.func296 rfl Zcm ?_
 have h0:(0:Int)<=(n:Int):=Za
 have h1:(n:Int)<100:=Za
 simp (disch:=omega) only [Tryz.f296,h0,h1,go_sem,seval];refine (tC n hn).use ?_;simp (disch:=omega) only [go_sem,seval]
theorem qT (n:Nat) (hn:n<100):PC 292 [.p (.int .i64 (n:Int))] (.str (dec n)):=by
 refine Zc Tryz.func292 rfl Zci ?_;simp (disch:=omega) only [Tryz.f292,go_sem,seval];refine (iC n hn).use ?_;simp (disch:=omega) only [go_sem,seval]
theorem Zcp (n:Nat) (hn:n<100):PC 290 [.p (.int .i64 (n:Int))] (.str (dec n)):=by
 refine Zc Tryz.func290 rfl Zcg ?_;simp (disch:=omega) only [Tryz.f290,go_sem,seval];refine (qT n hn).use ?_;simp (disch:=omega) only [go_sem,seval]
theorem Ou (n a b:Int):PC 272 [.p (.int .i64 n),.p (.int .i64 a),.p (.int .i64 b)] (.bool (decide (a<=n)&&decide (n<=b))):=by
 refine Zc Tryz.func272 rfl ZbY ?_;simp (disch:=omega) only [Tryz.f272,go_sem,seval]
 repeat' (first | (refine gT ?_ ?_<;>intro hq<;>simp (disch:=omega) only [Sh.out hq,go_sem,seval,↓reduceIte]) | (refine U6 (fun hq=> ?_) (fun hq=> ?_)<;>(try simp only [Zr,X3,Z2] at hq)<;>simp (disch:=omega) only [Sh.out hq,go_sem,seval]) | (refine Qu (fun hq=> ?_) (fun hq=> ?_)<;>(try simp only [Zr,X3,Z2] at hq)<;>simp (disch:=omega) only [Sh.out hq,go_sem,seval]))
 all_goals (simp;first | done | omega)
theorem kQ (l:List Pt) (c:Bool) (hl:WZ l):PC 285 [.p (.list c (l.map Hp))] (.list true []):=by
 obtain ⟨⟨hl1,hl2⟩,hpt⟩:=hl;refine Zc Tryz.func285 rfl Zcb ?_
 have e1: ¬(l.length:Int)=0:=Za
 have e2: ¬(16:Int)<(l.length:Int):=Za
 simp (disch:=omega) only [Tryz.f285,e1,e2,go_sem,seval];refine Zl [0,19,20] (fun k:Nat=> [(3,.p (.list true [])),(21,.p (.int .i64 k))]) (fun _=> []) (fun k=>k<=l.length) (fun k=>l.length-k) 0 Zb (Weak.mk ?_) ?_
 ·simp (disch:=omega) only [go_sem,seval,↓reduceIte]
 ·intro k hk;refine Zd ?_;refine cD ?_ ?_<;>intro h<;>simp (disch:=omega) only [Sh.out h,go_sem,seval,↓reduceIte]
  ·have hk2:k<l.length:=Za
   obtain ⟨⟨p1,p2,p3,p4⟩,q⟩:=hpt k hk2;refine (Zcp k Za).use (Zd ?_);refine (Ou (nth l k).t 0 4096).use (Zd ?_);simp (disch:=omega) only [p1,p2,go_sem,seval];refine gF ?_ ?_<;>intro h3<;>simp (disch:=omega) only [Sh.out h3,go_sem,seval,↓reduceIte]
   ·omega
   ·refine cD ?_ ?_<;>intro h4<;>simp (disch:=omega) only [Sh.out h4,go_sem,seval,↓reduceIte]
    ·omega
    ·refine Xd (Zd ?_);refine gT ?_ ?_<;>intro h5<;>simp (disch:=omega) only [Sh.out h5,go_sem,seval,↓reduceIte]
     ·obtain ⟨r1,r2⟩:=q Za;refine gF ?_ ?_<;>intro h6<;>simp (disch:=omega) only [Sh.out h6,go_sem,seval,↓reduceIte]
      ·omega
      ·refine cD ?_ ?_<;>intro h7<;>simp (disch:=omega) only [Sh.out h7,go_sem,seval,↓reduceIte]
       ·omega
       ·exact ⟨k+1,Za,Za,wk⟩
     ·exact ⟨k+1,Za,Za,wk⟩
theorem RJ (p:Pt) (t:Int) (h:0<=p.t/\p.t<=4096) (ht:0<=t/\t<=1073741824):PC 287 [.p (Hp p),.p (.int .i64 t)] (.int .i64 (p.t-t)):=by
 refine Zc Tryz.func287 rfl Zcd ?_;simp (disch:=omega) only [Tryz.f287,go_sem,seval,↓reduceIte]
theorem sR (l:List Pt) (c:Bool) (hl:WZ l):PC 273 [.p (.list c (l.map Hp))] (.bool true):=by
 refine Zc Tryz.func273 rfl ZbZ ?_;simp (disch:=omega) only [Tryz.f273,go_sem,seval];refine (kQ l c hl).use ?_;simp (disch:=omega) only [go_sem,seval]
structure PosT (l:List Pt) (t:Int) (i:Nat):Prop where
 le:i<=l.length
 lo: ∀j,j<i->(nth l j).t<t
 hi: ∀j,i<=j->j<l.length->t<=(nth l j).t
theorem Zhq (l:List Pt) (c:Bool) (t:Int) (i:Nat) (hl:WZ l) (ht:0<=t/\t<=1073741824) (hi:PosT l t i):PT 286 [.p (.list c (l.map Hp)),.p (.int .i64 t),.fn (.func 287) [] []] [.p (.int .i64 (i:Int)),.p (.bool (decide (i<l.length)&&decide ((nth l i).t=t)))]:=by
 obtain ⟨⟨hl1,hl2⟩,hpt⟩:=hl;obtain ⟨hi1,hi2,hi3⟩:=hi;refine Ze [] Tryz.func286 rfl Zcc ?_;simp (disch:=omega) only [Tryz.f286,go_sem,seval];refine Zl [0,1,2,8] (fun q:Nat×Nat=> [(9,.p (.int .i64 q.1)),(10,.p (.int .i64 q.2))]) (fun _=> []) (fun q=>q.1<=i/\i<=q.2/\q.2<=l.length) (fun q=>q.2-q.1) (0,l.length) (by simp;omega) (Weak.mk ?_) ?_
 ·simp (disch:=omega) only [go_sem,seval,↓reduceIte]
 ·rintro ⟨a,b⟩ ⟨h1,h2,h3⟩;simp only at h1 h2 h3;refine Zd ?_;refine cD ?_ ?_<;>intro h<;>simp (disch:=omega) only [Sh.out h,go_sem,seval,↓reduceIte]
  ·have hm:(a+b) / 2<l.length:=Za
   obtain ⟨⟨p1,p2,p3,p4⟩,q⟩:=hpt _ hm
   have hs:((a:Int)+(b:Int)).fdiv (2^min 1 64)=(((a+b) / 2:Nat):Int):=by
    grind
   have em:((((a+b) / 2:Nat)):Int).toNat=(a+b) / 2:=Za
   have hnb:((a+b) / 2<i)↔(nth l ((a+b) / 2)).t-t<0:=by
    grind
   rw [hs];refine Zd ?_;refine (RJ (nth l ((a+b) / 2)) t ⟨p1,p2⟩ ht).use (Zd ?_);refine cD ?_ ?_<;>intro h4<;>simp (disch:=omega) only [Sh.out h4,go_sem,seval,↓reduceIte]
   ·exact ⟨((a+b) / 2+1,b),⟨Za,h2,h3⟩,Za,wk⟩
   ·exact ⟨(a,(a+b) / 2),⟨h1,Za,Za⟩,Za,wk⟩
  ·have:a=i:=Za
   subst this;refine gT ?_ ?_<;>intro h4<;>simp (disch:=omega) only [Sh.out h4,go_sem,seval,↓reduceIte]
   ·have hm:a<l.length:=Za
    obtain ⟨⟨p1,p2,p3,p4⟩,q⟩:=hpt _ hm;refine (RJ (nth l a) t ⟨p1,p2⟩ ht).use (Zd ?_);have e5:((nth l a).t-t=0)=((nth l a).t=t):=propext Za;exact we (by simp (disch:=omega) only [e5,hm,go_sem,seval])
   ·have hm: ¬a<l.length:=Za
    exact we (by simp (disch:=omega) only [hm,go_sem,seval])
theorem CR {l:List Pt} (hl:WZ l) {k:Nat} (hk:k<l.length): ∀j,j<k->(nth l j).t<(nth l k).t:=by
 obtain ⟨_,hpt⟩:=hl
 induction k with
 | zero=>omega
 | succ k ih =>
  intro j hj;obtain ⟨_,q⟩:=hpt (k+1) hk
  grind
theorem sH {l:List Pt} (hl:WZ l) (t:Int): ∃i,PosT l t i:=by
 have: ∀n,n<=l.length-> ∃i,i<=n/\(∀j,j<i->(nth l j).t<t)/\(i<n->t<=(nth l i).t):=by
  intro n
  induction n with
  | zero=>simp
  | succ n ih =>
   grind
 obtain ⟨i,h1,h2,h3⟩:=this l.length (ZF _);refine ⟨i,h1,h2,fun j hj hjl=> ?_⟩;rcases Nat.lt_or_eq_of_le hj with h | h
 ·have:=CR hl hjl i h;omega
 grind
theorem oG {l:List Pt} {t:Int} {i:Nat} (hl:WZ l) (h:PosT l t i) (hi:i<l.length) (e:(nth l i).t=t):JF l t=(nth l i).a:=by
 by_cases g:i+1<l.length
 ·have m:=CR hl g i Za;rw [II g (fun j hj=> ?_) (by grind [Q6]),Ha]
  ·rw [e,Int.sub_self,Int.zero_mul,Int.zero_add];rw [Int.ediv_eq_zero_of_lt Za Za];omega
  ·have:(nth l (j+1)).t<=t:=by
    rcases Nat.lt_or_eq_of_le (show j+1<=i by omega) with h1 | h1
    ·have:=h.lo _ h1;omega
    grind
   simp [Q6];omega
 ·have hi1:i=l.length-1:=Za
  rw [Er (fun j hj=> ?_)]
  ·split
   ·grind
   ·have:i=0:=by
     by_cases g2:i=0
     ·exact g2
     ·have:=h.lo 0 Za;omega
    grind
  ·have:(nth l (j+1)).t<=t:=by
    rcases Nat.lt_or_eq_of_le (show j+1<=i by omega) with h1 | h1
    ·have:=h.lo _ h1;omega
    grind
   simp [Q6];omega
theorem oJ {l:List Pt} {t:Int} (hl:WZ l) (h:PosT l t 0) (e: ¬(nth l 0).t=t):JF l t=t+(nth l 0).a-(nth l 0).t:=by
 have h0:=h.hi 0 (ZF _) hl.1.1;rw [Er (fun j hj=> ?_),if_neg Za]
 have:t<(nth l j).t:=by
  by_cases g:j=0
  ·grind
  ·have:=CR hl (show j<l.length by omega) 0 Za;omega
 simp [Q6];omega
theorem oI {l:List Pt} {t:Int} (h:PosT l t l.length) (hl:0<l.length):JF l t=t+(nth l (l.length-1)).a-(nth l (l.length-1)).t:=by
 rw [Er (fun j hj=> ?_),if_pos (h.lo 0 hl)];have:=h.lo (j+1) hj;simp [Q6];omega
theorem eG {l:List Pt} {t:Int} {i:Nat} (h:PosT l t i) (h0:0<i) (hi:i<l.length) (e: ¬(nth l i).t=t):JF l t=Ha (nth l (i-1)) (nth l i) t:=by
 have e1:i-1+1=i:=Za
 have h1:=h.lo (i-1) Za;have h2:=h.hi i (ZF _) hi;have:=II (l:=l) (t:=t) (i:=i-1) Za (fun j hj=>by have:=h.lo (j+1) Za;simp [Q6];omega) (by grind [Q6]);rw [this,e1]
theorem Ie {p q:Pt} {t:Int} (h1:p.t<=t) (h2:t<q.t) (hp:0<=p.t) (hq:q.t<=4096) (ha:p.a<=q.a) (hpa:0<=p.a) (hqa:q.a<=8192) :
  IntKind.i64.wrap (p.a+IntKind.i64.wrap ((IntKind.i64.wrap (IntKind.i64.wrap (IntKind.i64.wrap ((t-p.t)*(q.a-p.a))+(q.t-p.t))-1)).tdiv (q.t-p.t)))=Ha p q t:=by
 have hm:=Gq h1 h2 hp hq ha hpa hqa;unfold Ha;generalize hM:(t-p.t)*(q.a-p.a)=m at hm
 have hd:0<=(m+(q.t-p.t)-1) / (q.t-p.t)/\(m+(q.t-p.t)-1) / (q.t-p.t)<=m+(q.t-p.t)-1:=by
  refine ⟨Int.ediv_nonneg Za Za,Int.ediv_le_self _ Za⟩
 rw [IntWalk.i64_in m Za,IntWalk.i64_in (m+(q.t-p.t)) Za,IntWalk.i64_in (m+(q.t-p.t)-1) Za,Int.tdiv_eq_ediv_of_nonneg Za,IntWalk.i64_in ((m+(q.t-p.t)-1) / (q.t-p.t)) Za,IntWalk.i64_in _ Za]
 congr 2
 omega
theorem PG (l:List Pt) (c:Bool) (t:Int) (hl:WZ l) (ht:0<=t/\t<=1073741824):PC 274 [.p (.list c (l.map Hp)),.p (.int .i64 t)] (.int .i64 (JF l t)):=by
 obtain ⟨i,hi⟩:=sH hl t;have hl':=hl;obtain ⟨⟨hl1,hl2⟩,hpt⟩:=hl';refine Zc Tryz.func274 rfl Zb0 ?_;simp (disch:=omega) only [Tryz.f274,go_sem,seval];refine Yc (Zhq l c t i hl ht hi) (Zd ?_);obtain ⟨i1,i2,i3⟩:=id hi;refine cD ?_ ?_<;>intro h<;>simp (disch:=omega) only [Sh.out h,go_sem,seval,↓reduceIte]
 ·grind [oG]
 ·refine cD ?_ ?_<;>intro h0<;>simp (disch:=omega) only [Sh.out h0,go_sem,seval]
  ·have:i=0:=Za
   subst this;obtain ⟨p1,p2⟩:=hpt 0 Za;rw [oJ hl hi (fun g=>h ⟨Za,g⟩)];refine Xd ?_;simp (disch:=omega) only [go_sem,seval,↓reduceIte]
  ·refine cD ?_ ?_<;>intro h1<;>simp (disch:=omega) only [Sh.out h1,go_sem,seval]
   ·have:i=l.length:=Za
    subst this;obtain ⟨p1,p2⟩:=hpt (l.length-1) Za;rw [oI hi Za]
    have e1:((l.length:Int)-1).toNat=l.length-1:=Za
    refine Xd ?_;simp (disch:=omega) only [go_sem,seval,↓reduceIte]
   ·have g1:i<l.length:=Za
    rw [eG hi Za g1 (fun g=>h ⟨g1,g⟩)];have g2:=CR hl g1 (i-1) Za;obtain ⟨p1,p2⟩:=hpt i g1;obtain ⟨p3,p4⟩:=hpt (i-1) Za
    have e1:((i:Int)-1).toNat=i-1:=Za
    have q1:=i2 (i-1) Za;have q2:=i3 i (ZF _) g1;have q3: ¬(nth l i).t=t:=fun g=>h ⟨g1,g⟩;have q4:=p2 Za;refine XW [9,10,11] 12 mixed Zg Zg Zg Zb ?_;simp (disch:=omega) only [e1,go_sem,seval];refine aA 9 10 _ _ _ _ Zg (by refine Zd ?_;exact ⟨rfl,rfl⟩) (by refine Zd ?_;exact ⟨rfl,rfl⟩) ?_ ?_
    ·refine Xm 10 _ _ Zg (by refine Zd ?_;exact ⟨rfl,rfl⟩) (Xm 11 _ _ Zg (by refine Zd ?_;exact ⟨rfl,rfl⟩) (Wi ?_));refine Zd ?_;refine Xd (Zd ?_);exact ZW (fun z=>V.p (PV.int IntKind.i64 z)) (Ie Za Za Za Za Za Za Za)
    ·refine Xm 9 _ _ Zg (by refine Zd ?_;exact ⟨rfl,rfl⟩) (Xm 11 _ _ Zg (by refine Zd ?_;exact ⟨rfl,rfl⟩) (Wi ?_));refine Zd ?_;refine Xd (Zd ?_);exact ZW (fun z=>V.p (PV.int IntKind.i64 z)) (Ie Za Za Za Za Za Za Za)
theorem aW (l:List Pt) (c:Bool) (t:Int) (hl:WZ l) (ht:0<=t/\t<=1073741824):PC 254 [.p (.list c (l.map Hp)),.p (.int .i64 t)] (.int .i64 (JF l t)):=by
 refine Zc Tryz.func254 rfl ZbG ?_;simp (disch:=omega) only [Tryz.f254,go_sem,seval];refine (Ou t 0 1073741824).use (Zd ?_);simp (disch:=omega) only [ht,go_sem,seval];refine (sR l c hl).use (Zd ?_);refine (PG l c t hl ht).use ?_;simp (disch:=omega) only [go_sem,seval]
theorem NG (n:Net) (p:Int) (hn:n.places.length<=1048576):PC 219 [.p (B1 n),.p (.int .i64 p)] (.bool (KV n p)):=by
 refine Zc Tryz.func219 rfl Za9 ?_;simp (disch:=omega) only [Tryz.f219,go_sem,seval];refine gT ?_ ?_<;>intro h<;>simp (disch:=omega) only [Sh.out h,go_sem,seval,↓reduceIte]
 ·simp [KV,h]
 ·simp [KV,h]
theorem uA (a:Arc):PC 253 [.p (VE a)] (.agg [.int .i64 a.src,.int .i64 a.dst,.int .i64 a.prof]):=by
 refine Zc Tryz.func253 rfl ZbF ?_;simp (disch:=omega) only [Tryz.f253,go_sem,seval,↓reduceIte]
theorem rU (a:Arc) (t:Int) (ha:oE a) (ht:0<=t/\t<=1073741824):PC 221 [.p (VE a),.p (.int .i64 t)] (.int .i64 (IG a t)):=by
 obtain ⟨h1,h2,h3⟩:=ha;have hr:=Fe h1 ht;have hs:=Jv (t:=t) (fun p hp=>(h3 p hp).2.2);refine Zc Tryz.func221 rfl Zbb ?_;simp (disch:=omega) only [Tryz.f221,go_sem,seval];refine (aW a.travel a.travel_c t h1 ht).use (Zd ?_);refine Zl [1,13,14] (fun k:Nat=> [(5,.p (.int .i64 (JF a.travel t+Kt a.slow t k))),(15,.p (.int .i64 k))]) (fun _=> [W4 a]) (fun k=>k<=a.slow.length) (fun k=>a.slow.length-k) 0 Zb (Weak.mk ?_) ?_
 ·simp (disch:=omega) only [W4,Kt,Uz,go_sem,seval];simp
 ·intro k hk;have hsk:=hs k hk;simp (disch:=omega) only [W4,go_sem,seval];refine cD ?_ ?_<;>intro h<;>simp (disch:=omega) only [Sh.out h,go_sem,seval,↓reduceIte]
  ·have hk2:k<a.slow.length:=Za
   have hp:=h3 _ (ZZ hk2);have hsn:=BC (t:=t) hk2;refine ZX ?_ ?_<;>intro h4
   ·rw [if_pos h4] at hsn;exact ⟨k+1,Za,Za,Weak.mk (by simp (disch:=omega) only [hsn,Int.add_assoc,go_sem,seval])⟩
   ·rw [if_neg h4] at hsn;exact ⟨k+1,Za,Za,Weak.mk (by simp (disch:=omega) only [hsn,go_sem,seval])⟩
  grind [IG]
theorem rX (n:Net) (pr f t:Int) (hn:n.arcs.length<=1048576):PT 220 [.p (B1 n),.p (.int .i64 pr),.p (.int .i64 f),.p (.int .i64 t)] [.p (VE (WN n pr f t).1),.p (.bool (WN n pr f t).2)]:=by
 refine Ze [] Tryz.func220 rfl Zba ?_;simp (disch:=omega) only [Tryz.f220,go_sem,seval];refine Zl [8,10,18,19] (fun k:Nat=> [(20,.p (.int .i64 k))]) (fun _=>Z4 n++ [W4 V1,.cells [.p (.int .i64 f),.p (.int .i64 t),.p (.int .i64 pr)]]) (fun k=>k<=n.arcs.length/\ ∀j,j<k->Vk pr f t (nth n.arcs j)=false) (fun k=>n.arcs.length-k) 0 Zb (Weak.mk ?_) ?_
 ·simp (disch:=omega) only [Z4,W4,V1,Zk,ZM,ZE,go_sem,seval]
 ·rintro k ⟨hk,hno⟩;simp (disch:=omega) only [Z4,W4,V1,Zk,ZM,ZE,go_sem,seval];refine cD ?_ ?_<;>intro h<;>simp (disch:=omega) only [Sh.out h,go_sem,seval,↓reduceIte]
  ·have hk2:k<n.arcs.length:=Za
   have nx:Vk pr f t (nth n.arcs k)=false-> ∀j,j<k+1->Vk pr f t (nth n.arcs j)=false:=fun h=>Zp.2 ⟨hno,h⟩;refine Xd (Zd ?_);refine Zn (uA (nth n.arcs k)) (Zd ?_);refine ZX ?_ ?_<;>intro h1
   ·have e:=MO hk2 hno (by simp [Vk,h1]);obtain ⟨rfl,rfl,rfl⟩:=h1;rw [e];exact we
   ·have e2:Vk pr f t (nth n.arcs k)=false:=by
     simp_all [Vk]
    exact ⟨k+1,⟨Za,nx e2⟩,Za,wk⟩
  ·have hkn:k=n.arcs.length:=Za
   subst hkn;rw [MP hno];exact we (by simp (disch:=omega) only [V1,Zk,go_sem,seval])
theorem vS (n:Net) (pr f t τ:Int) (hn:netR n) (hτ:0<=τ/\τ<=1073741824):PT 198 [.p (B1 n),.p (.int .i64 pr),.p (.int .i64 f),.p (.int .i64 t),.p (.int .i64 τ)] [.p (.int .i64 (WW n pr f t τ).1),.p (.int .i64 (WW n pr f t τ).2.1),.p (.int .i64 (WW n pr f t τ).2.2)]:=by
 refine Ze [] Tryz.func198 rfl ZaS ?_;simp (disch:=omega) only [Tryz.f198,go_sem,seval];refine (NG n f hn.1).use (Zd ?_);refine gF ?_ ?_<;>intro h1<;>simp (disch:=omega) only [Sh.out h1,go_sem,seval,↓reduceIte]
 ·have e:WW n pr f t τ=(0,0,11):=by grind [WW]
  rw [e];exact we
 ·simp only [XF] at h1;refine (NG n t hn.1).use (Zd ?_);refine cD ?_ ?_<;>intro h2<;>simp (disch:=omega) only [Sh.out h2,go_sem,seval]
  ·have e:WW n pr f t τ=(0,0,11):=by grind [WW]
   rw [e];exact we
  ·simp only [XF] at h2;refine cD ?_ ?_<;>intro h3<;>simp (disch:=omega) only [Sh.out h3,go_sem,seval,↓reduceIte]
   ·have e:WW n pr f t τ=(τ,0,0):=by grind [WW]
    rw [e];exact we
   ·have cf:=rX n pr f t hn.2.1;have hm:= @Ai n pr f t
    have e0:WW n pr f t τ=if (WN n pr f t).2=true then (IG (WN n pr f t).1 τ,(WN n pr f t).1.miles,0) else (0,0,12):=by grind [WW]
    rw [e0];generalize WN n pr f t=A at cf hm ⊢;obtain ⟨a,b⟩:=A;simp only at cf hm ⊢;refine Yc cf (Zd ?_);refine cD ?_ ?_<;>intro h4<;>simp (disch:=omega) only [Sh.out h4,go_sem,seval]
    ·have hb:b=false:=by grind
     subst hb;exact we (by simp (disch:=omega) only [go_sem,seval,↓reduceIte])
    ·have hb:b=true:=by grind
     subst hb;refine Xd (Zd ?_);refine Zn (rU a τ (hn.2.2 a (hm rfl)) hτ) (Zd ?_);exact we
def Fk (s:Stp) (a:Int):Int×Int:=if max a s.opn>s.cls then (0,14) else (max a s.opn,0)
theorem RC (s:Stp) (a:Int):PT 222 [.p (Fw s),.p (.int .i64 a)] [.p (.int .i64 (Fk s a).1),.p (.int .i64 (Fk s a).2)]:=by
 refine Ze [] Tryz.func222 rfl Zbc ?_;simp (disch:=omega) only [Tryz.f222,go_sem,seval];refine cD ?_ ?_<;>intro h<;>simp (disch:=omega) only [Sh.out h,go_sem,seval]
 ·have e:Fk s a=(0,14):=by simp_all [Fk]
  rw [e];exact we
 ·have e:Fk s a=(max a s.opn,0):=by simp_all [Fk]
  rw [e];exact we
theorem kW (l:List Ord) (c:Bool) (p:Int) (hl:l.length<=1048576):PC 163 [.p (.list c (l.map eOrd)),.p (.int .i64 p)] (.bool (decide (0<=p)&&decide (p<(l.length:Int)))):=by
 refine Zc Tryz.func163 rfl iX ?_;simp (disch:=omega) only [Tryz.f163,go_sem,seval];refine gT ?_ ?_<;>intro h<;>simp (disch:=omega) only [Sh.out h,go_sem,seval,↓reduceIte]
 all_goals simp [h]
theorem SA (x:Inst) (v:Vis) (ho:x.orders.length<=1048576) (hv:M7 x v=true) (hp:0<=(XP x v).place):PT 168 [.p (.list x.orders_c (x.orders.map eOrd)),.p (Z5 v)] [.p (Fw (XP x v)),.p (.int .i64 0)]:=by
 refine Ze [] Tryz.func168 rfl ZaA ?_;simp (disch:=omega) only [Tryz.f168,go_sem,seval];have hv':=hv;rw [M7] at hv';have ct:=kW x.orders x.orders_c v.order ho;rw [hv'] at ct;refine ct.use ?_;simp only [Zv,Zr] at hv';obtain ⟨h1,h2⟩:=hv'
 have hi:v.order.toNat<x.orders.length:=Za
 refine Zd ?_;refine cD ?_ ?_<;>intro hd<;>simp (disch:=omega) only [Sh.out hd,go_sem,seval,↓reduceIte]
 ·have e:XP x v=(nth x.orders v.order.toNat).drp:=by simp [XP,hd]
  rw [e] at hp ⊢
  have e3: ¬(nth x.orders v.order.toNat).drp.place<0:=Za
  simp (disch:=omega) only [e3,go_sem,seval];exact we
 ·have e:XP x v=(nth x.orders v.order.toNat).pick:=by simp [XP,hd]
  rw [e] at hp ⊢
  have e3: ¬(nth x.orders v.order.toNat).pick.place<0:=Za
  simp (disch:=omega) only [e3,go_sem,seval];exact we
theorem rW (l:List Typ) (c:Bool) (ht:l.length<=1048576):PC 264 [.p (.list c (l.map X0))] (.int .i64 (dimsOf l)):=by
 refine Zc Tryz.func264 rfl ZbQ ?_;simp (disch:=omega) only [Tryz.f264,go_sem,seval];refine cD ?_ ?_<;>intro h1<;>simp (disch:=omega) only [Sh.out h1,go_sem,seval,↓reduceIte]
 ·grind [dimsOf]
 simp_all [dimsOf]
theorem rY (a b:List Int) (c d:Bool) (ha:a.length<=1048576) (hb:b.length<=1048576):PC 245 [.p (.list c (a.map eI)),.p (.list d (b.map eI))] (.bool (Qx a b)):=by
 refine Zc Tryz.func245 rfl Zby ?_;simp (disch:=omega) only [Tryz.f245,go_sem,seval];refine cD ?_ ?_<;>intro h1<;>simp (disch:=omega) only [Sh.out h1,go_sem,seval]
 ·grind [Qx]
 ·have h1':a.length=b.length:=Za
  refine Zl [1,12,13] (fun k:Nat=> [(14,.p (.int .i64 k))]) (fun _=> []) (fun k=>k<=a.length/\ ∀j,j<k->nth a j<=nth b j) (fun k=>a.length-k) 0 Zb (Weak.mk ?_) ?_
  ·simp (disch:=omega) only [go_sem,seval]
  ·rintro k ⟨hk,hno⟩;refine Zd ?_;refine cD ?_ ?_<;>intro h2<;>simp (disch:=omega) only [Sh.out h2,go_sem,seval,↓reduceIte]
   ·have hk2:k<a.length:=Za
    refine ZX ?_ ?_<;>intro h3
    ·grind [Qx]
    ·exact ⟨k+1,⟨Za,Zp.2 ⟨hno,Za⟩⟩,Za,wk⟩
   ·have hkl:k=a.length:=Za
    simp_all [Qx]
theorem rT (t:Typ) (s:Int) (h1:t.skills<9223372036854775808) (h2:s<9223372036854775808):PC 241 [.p (X0 t),.p (.int .i64 s)] (.bool (Wo t s)):=by
 refine Zc Tryz.func241 rfl Zbu ?_;simp (disch:=omega) only [Tryz.f241,go_sem,seval];refine gT ?_ ?_<;>intro c1<;>simp (disch:=omega) only [Sh.out c1,go_sem,seval,↓reduceIte]
 ·refine gT ?_ ?_<;>intro c2<;>simp (disch:=omega) only [Sh.out c2,go_sem,seval,↓reduceIte]
  ·obtain ⟨M,hM⟩: ∃M:Nat,t.skills=(M:Int):=⟨t.skills.toNat,Za⟩;obtain ⟨S,rfl⟩: ∃S:Nat,s=(S:Int):=⟨s.toNat,Za⟩;have hb:=DX (S:=S) (M:=M) Za
   have e:Wo t (S:Int)=(List.range 63).all fun i=> !S.testBit i||M.testBit i:=by
    simp_all [Wo]
   have hd:decide (IntKind.i64.wrap ((BitVec.ofInt 64 (S:Int)&&& ~~~BitVec.ofInt 64 (M:Int)).toNat:Int)=0)=((List.range 63).all fun i=> !S.testBit i||M.testBit i):=by
    grind
   rw [e,hM];exact ZW (fun b=>V.p (PV.bool b)) hd
  grind [Wo]
 grind [Wo]
theorem ZcQ (a b:Int) (h: -1073741824<=a/\a<=1073741824/\ -1073741824<=b/\b<=1073741824):PC 280 [.p (.int .i64 a),.p (.int .i64 b)] (.int .i64 (a+b)):=by
 refine Zc Tryz.func280 rfl Zb6 ?_;simp (disch:=omega) only [Tryz.f280,go_sem,seval]
theorem rA (a b:Int) (h: -1073741824<=a/\a<=1073741824/\ -1073741824<=b/\b<=1073741824):PC 281 [.p (.int .i64 a),.p (.int .i64 b)] (.int .i64 (a-b)):=by
 refine Zc Tryz.func281 rfl Zb7 ?_;simp (disch:=omega) only [Tryz.f281,go_sem,seval]
def cZ (f:Nat->Int) (n k:Nat):List Int:=(List.range n).map fun j=>if j<k then f j else 0
theorem rB {f:Nat->Int} {n k:Nat} :(cZ f n k).length=n:=by simp [cZ]
theorem jU {f:Nat->Int} {n:Nat} :cZ f n 0=List.replicate n 0:=by
 apply Qc (by simp [cZ]);grind [cZ]
theorem jT {f:Nat->Int} {n:Nat} :cZ f n n=(List.range n).map f:=by
 simp_all [cZ]
theorem rC {f:Nat->Int} {n k:Nat} (h:k<n):(cZ f n k).set k (f k)=cZ f n (k+1):=by
 apply Qc (by simp [cZ]);grind [cZ]
theorem Ho (a b:List Int) (c d:Bool) (g:FuncId) (f:Int->Int->Int) (hl:a.length=b.length) (ha:a.length<=1048576)
  (hf: ∀j,j<a.length->ACalls Tryz.prog g [.p (.int .i64 (nth a j)),.p (.int .i64 (nth b j))] [] fun x H'=>x= .p (.int .i64 (f (nth a j) (nth b j)))/\H'= []) :
  PT 279 [.p (.list c (a.map eI)),.p (.list d (b.map eI)),.fn (.func g) [] []] [.p (.list false (((List.range a.length).map fun j=>f (nth a j) (nth b j)).map eI)),.p (.int .i64 0)]:=by
 refine Ze [9] Tryz.func279 rfl Zb5 ?_;simp (disch:=omega) only [Tryz.f279,go_sem,seval];refine cD ?_ ?_<;>intro h0<;>simp (disch:=omega) only [Sh.out h0,go_sem,seval]
 ·omega
 ·have hz:=jU (f:=fun j=>f (nth a j) (nth b j)) (n:=a.length);have hml:=fun k=>rB (f:=fun j=>f (nth a j) (nth b j)) (n:=a.length) (k:=k);refine ZY [9] [0,1,2,8,19] (fun k:Nat=> [(20,.p (.int .i64 k))]) (fun k=> [.elems 1 ((cZ (fun j=>f (nth a j) (nth b j)) a.length k).map eI)]) (fun k=>k<=a.length) (fun k=>a.length-k) 0 Zb (Weak.mk ?_) ?_
  ·simp (disch:=omega) only [hz,go_sem,seval];rw [Ap];rfl
  ·intro k hk;refine Zd ?_;refine cD ?_ ?_<;>intro h1<;>simp (disch:=omega) only [Sh.out h1,go_sem,seval,↓reduceIte]
   ·have hk2:k<a.length:=Za
    have hs:=rC (f:=fun j=>f (nth a j) (nth b j)) (n:=a.length) hk2;have hk3:=hml k;refine ZB 12 mixed Zg Zg ?_;refine Zd ?_;refine Zn (hf k hk2) ?_;refine Zd ?_;simp (disch:=first | omega | (simp only [ZA,ZH,Zz,Zx,Z7,Xx]<;>omega)) only [go_sem,seval,↓reduceIte];refine ⟨k+1,Za,Za,Weak.mk ?_⟩;simp (disch:=omega) only [<- hs,go_sem,seval];rw [UD];rfl
   ·have hkl:k=a.length:=Za
    subst hkl;rw [<- jT];have hk3:=hml a.length;refine Zo (Weak.fz (o:=0) (by rfl)) ?_;refine Zh [] _ _ _ _ ?_;simp (disch:=omega) only [Zs,Zk,ZC,go_sem,seval];rw [if_pos hk3];exact we
theorem kO (a b:List Int) (c d:Bool) (hl:a.length=b.length) (ha:a.length<=1048576) (h: ∀j,j<a.length-> -1073741824<=nth a j/\nth a j<=1073741824/\ -1073741824<=nth b j/\nth b j<=1073741824):PT 265 [.p (.list c (a.map eI)),.p (.list d (b.map eI))] [.p (.list false ((E6 a b).map eI)),.p (.int .i64 0)]:=by
 refine Ze [] Tryz.func265 rfl ZbR ?_;simp (disch:=omega) only [Tryz.f265,go_sem,seval];refine Yc (Ho a b c d 280 (fun m n=>m+n) hl ha fun j hj=>ZcQ _ _ (h j hj)) ?_;simp (disch:=omega) only [E6,go_sem,seval];exact we
theorem ZcJ (a b:List Int) (c d:Bool) (hl:a.length=b.length) (ha:a.length<=1048576) (h: ∀j,j<a.length-> -1073741824<=nth a j/\nth a j<=1073741824/\ -1073741824<=nth b j/\nth b j<=1073741824):PT 266 [.p (.list c (a.map eI)),.p (.list d (b.map eI))] [.p (.list false ((tJ a b).map eI)),.p (.int .i64 0)]:=by
 refine Ze [] Tryz.func266 rfl ZbS ?_;simp (disch:=omega) only [Tryz.f266,go_sem,seval];refine Yc (Ho a b c d 281 (fun m n=>m-n) hl ha fun j hj=>rA _ _ (h j hj)) ?_;simp (disch:=omega) only [tJ,go_sem,seval];exact we
theorem kS (x:Inst) (r:Rte) (ht:0<=r.typ/\r.typ<(x.types.length:Int)) (hv: ∀v∈r.visits,M7 x v=true) (hl:r.visits.length<=1048576) (hxl:x.types.length<=1048576) (hol:x.orders.length<=1048576)
  (hs:(ZT x r).skills<9223372036854775808) (ho: ∀o∈x.orders,o.skills<9223372036854775808) :
  PC 212 [.p (Zq x),.p (Wp r)] (.int .i64 (if (r.visits.any fun v=> !Wo (ZT x r) (nth x.orders v.order.toNat).skills)=true then 18 else 0)):=by
 refine Zc Tryz.func212 rfl Za2 ?_;simp (disch:=omega) only [Tryz.f212,go_sem,seval];refine Zl [2,3,8,9] (fun k:Nat=> [(10,.p (.int .i64 k))]) (fun _=> [Zf x,.cells [.p (.int .i64 r.typ),.p (.int .i64 r.start),.p (.list r.rests_c (r.rests.map eB)),.p (.list r.visits_c (r.visits.map Z5))]]) (fun k=>k<=r.visits.length/\ ∀j,j<k->Wo (ZT x r) (nth x.orders (nth r.visits j).order.toNat).skills=true) (fun k=>r.visits.length-k) 0 Zb (Weak.mk ?_) ?_
 ·simp (disch:=omega) only [Zf,go_sem,seval]
 ·rintro k ⟨hk,hno⟩;refine YH ?_;refine cD ?_ ?_<;>intro h1<;>simp (disch:=omega) only [Sh.out h1,go_sem,seval,↓reduceIte]
  ·have hk2:k<r.visits.length:=Za
   have hin:=hv _ (ZZ hk2);simp only [M7,Zv,Zr] at hin;obtain ⟨i1,i2⟩:=hin
   have hi:(nth r.visits k).order.toNat<x.orders.length:=Za
   have ho':=ho _ (ZZ hi);refine Xd (Zd ?_);refine Zn (rT (ZT x r) (nth x.orders (nth r.visits k).order.toNat).skills Za Za) (Zd ?_);refine ZX ?_ ?_<;>intro h2
   ·have:(r.visits.any fun v=> !Wo (ZT x r) (nth x.orders v.order.toNat).skills)=true:=by
     grind [ZZ]
    grind
   ·exact ⟨k+1,⟨Za,Zp.2 ⟨hno,by grind⟩⟩,Za,wk⟩
  ·have: ¬(r.visits.any fun v=> !Wo (ZT x r) (nth x.orders v.order.toNat).skills)=true:=by
    rw [JV];rintro ⟨v,hv,e⟩;obtain ⟨j,hj,rfl⟩:=ZO.1 hv
    grind [Zj]
   grind
def SQ (x:Inst) (d:Nat) (ms:List Int) (k:Nat):List Int:=(ms.take k).foldl (fun s i=>if (nth x.orders i.toNat).pick.place<0 then E6 s (nth x.orders i.toNat).load else s) (List.replicate d 0)
theorem Oa {x:Inst} {d:Nat} {ms:List Int} {k:Nat} (h:k<ms.length):SQ x d ms (k+1)=if (nth x.orders (nth ms k).toNat).pick.place<0 then E6 (SQ x d ms k) (nth x.orders (nth ms k).toNat).load else SQ x d ms k:=by
 grind [SQ,XZ,Zj]
theorem SR {x:Inst} {d:Nat} {ms:List Int} (hms: ∀i∈ms,∀j,j<d->0<=nth (nth x.orders i.toNat).load j/\nth (nth x.orders i.toNat).load j<=1000): ∀k,k<=ms.length->(SQ x d ms k).length=d/\ ∀j,j<d->0<=nth (SQ x d ms k) j/\nth (SQ x d ms k) j<=1000*k
 | 0,_=>by
  grind [SQ,Zj]
 | k+1,h=>by
  obtain ⟨h1,h2⟩:=SR hms k Za;rw [Oa Za]
  split
  ·refine ⟨by simp [E6,h1],fun j hj=> ?_⟩;have a1:=h2 j hj;have a2:=hms _ (ZZ (show k<ms.length by omega)) j hj;rw [E6,KS Za];omega
  ·exact ⟨h1,fun j hj=>by have:=h2 j hj;omega⟩
theorem tH (x:Inst) (S:Int) (d:Nat) (hd:d<=3) (hol:x.orders.length<=1048576) (hms: ∀i∈XY S 63,0<=i/\i<(x.orders.length:Int)) (hml:(XY S 63).length<=63)
  (hld: ∀o∈x.orders,o.load.length=d/\ ∀n∈o.load,0<=n/\n<=1000) :
  PC 263 [.p (Zq x),.p (.int .i64 S),.p (.int .i64 (d:Int))] (.list false ((SQ x d (XY S 63) (XY S 63).length).map eI)):=by
 have hmo: ∀i∈XY S 63,i.toNat<x.orders.length:=fun i hi=>by grind
 have hrg:=SR (x:=x) (d:=d) (ms:=XY S 63) fun i hi j hj=>by
  grind [ZZ]
 refine Zc Tryz.func263 rfl ZbP ?_;simp (disch:=omega) only [Tryz.f263,go_sem,seval];refine (Dw S).useF (Zd ?_);refine Zo ((Weak.fz (o:=1) (by rfl)).trans (Weak.fz (o:=2) (by rfl))) ?_;simp (disch:=omega) only [Zs,Zk,ZL,ZC,EE,eq_self,go_sem,seval]
 have hz:List.replicate d (PV.int .i64 0)=(SQ x d (XY S 63) 0).map eI:=by
  show _=(List.replicate d 0).map eI
  rw [Ap];rfl
 refine Zl [3,13,14] (fun k:Nat=> [(7,.p (.list false ((SQ x d (XY S 63) k).map eI))),(15,.p (.int .i64 k))]) (fun _=> [Zf x,.dead,.dead]) (fun k=>k<=(XY S 63).length) (fun k=>(XY S 63).length-k) 0 Zb (Weak.mk ?_) ?_
 ·simp (disch:=omega) only [Zf,hz,go_sem,seval]
 ·intro k hk;have hk1:=hrg k hk;have hsn:=fun h=>Oa (x:=x) (d:=d) (ms:=XY S 63) (k:=k) h;refine YH ?_;refine cD ?_ ?_<;>intro h1<;>simp (disch:=omega) only [Sh.out h1,go_sem,seval,↓reduceIte]
  ·have hk2:k<(XY S 63).length:=Za
   have hm:=hms _ (ZZ hk2);have hi:=hmo _ (ZZ hk2);have hlo:=hld _ (ZZ hi);have hsn:=hsn hk2;refine Zd ?_;refine ZX ?_ ?_<;>intro h2
   ·rw [if_pos h2] at hsn;refine Yc (kO (SQ x d (XY S 63) k) (nth x.orders (nth (XY S 63) k).toNat).load false (nth x.orders (nth (XY S 63) k).toNat).load_c Za Za fun j hj=> ?_) ?_
    ·have b1:=hk1.2 j Za;have b2:=hlo.2 _ (ZZ (show j<(nth x.orders (nth (XY S 63) k).toNat).load.length by omega));omega
    ·refine Zd ?_;exact ⟨k+1,Za,Za,Weak.mk (by simp (disch:=omega) only [hsn,go_sem,seval])⟩
   ·rw [if_neg h2] at hsn;exact ⟨k+1,Za,Za,Weak.mk (by simp (disch:=omega) only [hsn,go_sem,seval])⟩
  grind
theorem Pg {p:Nat->Bool} {n:Nat} (h: ∀i,n<=i->p i=false): ∀k,n<=k->(List.range k).filter p=(List.range n).filter p:=by
 intro k hk
 induction k with
 | zero=>grind
 | succ k ih =>
  grind [X8]
theorem Zjl {x:Inst} {l:List Vis} (hi:Inr x l) (hn:x.orders.length<=10):XY ((Xo l:Nat):Int) 63=((List.range x.orders.length).filter fun (i:Nat)=>hasO l (i:Int)).map fun (i:Nat)=>(i:Int):=by
 have key: ∀i:Nat,i<=62->sHas ((Xo l:Nat):Int) (i:Int)=hasO l (i:Int):=fun i h=>by
  rw [WB _ _ h,Ww,CJ,WX]
  constructor
  ·rintro ⟨v,hv,e⟩;exact ⟨v,hv,by have:=hi v hv;omega⟩
  grind
 unfold XY;rw [Ar (q:=fun (i:Nat)=>hasO l (i:Int)) (fun i hm=>key i (by grind)),Pg (n:=x.orders.length) (fun i h=> ?_) 63 Za]
 cases hh:hasO l (i:Int) with
 | false=>rfl
 | true =>
  obtain ⟨v,hv,e⟩:=WX.1 hh;have:=hi v hv;omega
theorem iD {x:Inst} {d:Nat} : ∀(L:List Nat) (g:Nat->Int),(L.map fun (i:Nat)=>(i:Int)).foldl (fun s (i:Int)=>if (nth x.orders i.toNat).pick.place<0 then E6 s (nth x.orders i.toNat).load else s) ((List.range d).map g)=(List.range d).map fun j=>g j+(L.map fun i=>if (nth x.orders i).pick.place<0 then nth (nth x.orders i).load j else 0).sum
 | [],g=>Zb
 | i::L,g=>by
  rw [Zs,XG,XS]
  by_cases h:(nth x.orders i).pick.place<0
  ·have e:E6 ((List.range d).map g) (nth x.orders i).load=(List.range d).map fun j=>g j+nth (nth x.orders i).load j:=by
    grind [E6,Wu,KS]
   rw [if_pos h,e,iD L]
   grind
  ·rw [if_neg h,iD L]
   grind
theorem cE {x:Inst} {l:List Vis} (hi:Inr x l) (hn:x.orders.length<=10):SQ x (dimsOf x.types).toNat (XY ((Xo l:Nat):Int) 63) (XY ((Xo l:Nat):Int) 63).length=Y3 x l 0:=by
 rw [SQ,XX,Zjl hi hn];have:=iD (x:=x) (d:=(dimsOf x.types).toNat) ((List.range x.orders.length).filter fun (i:Nat)=>hasO l (i:Int)) fun _=>0
 have e:(List.range (dimsOf x.types).toNat).map (fun _=>(0:Int))=List.replicate (dimsOf x.types).toNat 0:=by
  simp_all [List.map_const']
 rw [e] at this;rw [this,Y3];refine Wu fun j _=> ?_;rw [Int.zero_add,Kj,DO]
 congr 1
 refine Wu fun i _=> ?_
 grind [kH]
theorem mS {x:Inst} {l:List Vis} {n j:Nat} {d:Nat} (hj:j<d) (hld: ∀o∈x.orders,o.load.length=d/\ ∀n∈o.load,0<=n/\n<=1000) (hn:x.orders.length<=10):0<=DO x l n j/\DO x l n j<=10000:=by
 have key:=SS (f:=fun i=>if i<x.orders.length then (if (GK x l n i&&hasO l i)=true then nth (nth x.orders i).load j else 0) else 0) (b:=1000) Za (fun q=>by
  grind [ZZ]) x.orders.length
 have e:DO x l n j=((List.range x.orders.length).map fun i=>if i<x.orders.length then (if (GK x l n i&&hasO l i)=true then nth (nth x.orders i).load j else 0) else 0).sum:=by
  simp_all [DO,Wu]
 omega
theorem dT {x:Inst} {l:List Vis} {n j:Nat} (hj:j<(dimsOf x.types).toNat) (hd:LdOk x):0<=nth (Y3 x l n) j/\nth (Y3 x l n) j<=10000:=by
 rw [Y3,KS hj];exact mS hj (fun o ho=>by obtain ⟨h1,h2⟩:=hd.load o ho;grind) hd.ord
def vG {α:Type} (f:α->Bool) (l:List α):Int:=match l.findIdx? f with | some i=>(i:Int) | none=> -1
theorem iF {α:Type} [Inhabited α] {f:α->Bool} {l:List α} {k:Nat} (hk:k<l.length) (h:f (nth l k)=true) (hno: ∀j,j<k->f (nth l j)=false):vG f l=(k:Int):=by
 have:l.findIdx? f=some k:=by
  grind [VO,Zj]
 simp [vG,this]
theorem iH {α:Type} [Inhabited α] {f:α->Bool} {l:List α} (hno: ∀j,j<l.length->f (nth l j)=false):vG f l= -1:=by
 have:l.findIdx? f=none:=by
  rw [EA];intro x hx;obtain ⟨j,hj,rfl⟩:=ZO.1 hx
  grind [Zj]
 simp [vG,this]
theorem iG {α:Type} {f:α->Bool} {l:List α} :decide (0<=vG f l)=l.any f:=by
 grind [vG]
theorem T0 (l:List (List Int)) (c:Bool) (g:FuncId) (caps:List V) (H:List AM.Obj) (f:List Int->Bool) (hl:l.length<=1048576) (hW:Ox H H.length H H) (hc:Xj H.length caps=true)
  (hg: ∀v∈l,ACalls Tryz.prog g (.p (nN v)::caps) H fun x H'=>x= .p (.bool (f v))/\H'=H) :
  ACalls Tryz.prog 267 [.p (.list c (l.map nN)),.fn (.func g) [] caps] H fun x H'=>x= .p (.int .i64 (vG f l))/\H'=H:=by
 refine YL Tryz.func267 rfl ZbT (Zh [] _ _ _ _ ?_);simp (disch:=omega) only [Tryz.f267,go_sem,seval];refine Zl [0,1,7] (fun k:Nat=> [(8,.p (.int .i64 k))]) (fun _=>H) (fun k=>k<=l.length/\ ∀j,j<k->f (nth l j)=false) (fun k=>l.length-k) 0 Zb (Weak.mk ?_) ?_
 ·simp (disch:=omega) only [hW,hc,go_sem,seval];simp
 ·rintro k ⟨hk,hno⟩;refine Zd ?_;refine cD ?_ ?_<;>intro h<;>simp (disch:=omega) only [Sh.out h,go_sem,seval,↓reduceIte]
  ·have hk2:k<l.length:=Za
   have hgk:=hg (nth l k) (Zt hk2);simp (disch:=omega) only [yR,go_sem,seval] at hgk;refine hgk.useH (Zd ?_);refine cD ?_ ?_<;>intro h2<;>simp (disch:=omega) only [Sh.out h2,go_sem,seval,↓reduceIte]
   ·grind [iF]
   ·have h3:f (nth l k)=false:=Za
    refine ⟨k+1,⟨Za,Zp.2 ⟨hno,h3⟩⟩,Za,Weak.mk ?_⟩;simp (disch:=omega) only [hW,hc,go_sem,seval];simp
  grind [iH]
theorem I0 (l:List (List Int)) (c:Bool) (g:FuncId) (caps:List V) (H:List AM.Obj) (f:List Int->Bool) (hl:l.length<=1048576) (hW:Ox H H.length H H) (hc:Xj H.length caps=true)
  (hg: ∀v∈l,ACalls Tryz.prog g (.p (nN v)::caps) H fun x H'=>x= .p (.bool (f v))/\H'=H) :
  ACalls Tryz.prog 243 [.p (.list c (l.map nN)),.fn (.func g) [] caps] H fun x H'=>x= .p (.bool (l.any f))/\H'=H:=by
 refine YL Tryz.func243 rfl Zbw (Zh [] _ _ _ _ ?_);simp (disch:=omega) only [Tryz.f243,go_sem,seval];refine (T0 l c g caps H f hl hW hc hg).useH (Zd ?_);rw [iG]
theorem kU (x:Inst) (r:Rte) (hx:InstOk x) (hl:r.visits.length<=1048576):PC 211 [.p (Zq x),.p (Wp r)] (.int .i64 (Xf x r.visits)):=by
 have hf:=XC hx;obtain ⟨h1,h2⟩:=VQ.1 hx.rules
 have ha:x.apart.length<=1048576:=by
  have h3:=(VQ.1 h1).1
  grind [M3]
 have hb:x.before.length<=1048576:=by
  have h3:=(VQ.1 h2).1
  grind [M3]
 exact P7 x r (by have:=hf.len;omega) hl ha hb
theorem rS {x:Inst} {l:List Vis} (hi:Inr x l) (hn:x.orders.length<=10):Q4 l=(((Xo l:Nat):Int),0):=by
 rw [Q4,if_pos];rw [ZD];intro v hv;have:=hi v hv;simp [G1];omega
theorem ZpE {α:Type} (f:Nat->α) (n:Nat):(List.range n).map f++ [f n]=(List.range (n+1)).map f:=by grind [X8]
theorem kR (x:Inst) (r:Rte) (hx:InstOk x) (hl:r.visits.length<=1048576) (h0:Xf x r.visits=0) :
  PT 242 [.p (Zq x),.p (Wp r)] [.p (.list false ((QD x r.visits).map nN)),.p (.int .i64 0)]:=by
 have hd:=Qz hx;have hsq:=UY h0;have hol:=hd.ord;have hso:=N1 r hl;rw [rS hsq.inr hol] at hso
 have hD:dimsOf x.types=((dimsOf x.types).toNat:Int):=by have:=hd.dim;omega
 have cd:=rW x.types x.types_c hd.typ;rw [hD] at cd;have hst:=cE hsq.inr hol
 have hmem: ∀i∈XY ((Xo r.visits:Nat):Int) 63,0<=i/\i<(x.orders.length:Int):=fun i hi=>by
  rw [Zjl hsq.inr hol] at hi
  grind
 have cs:=tH x ((Xo r.visits:Nat):Int) (dimsOf x.types).toNat (by have:=hd.dim;omega) Za hmem (Cz _ _) (fun o ho=>by have:=hd.load o ho;grind);rw [hst] at cs;refine Ze [20] Tryz.func242 rfl Zbv ?_;simp (disch:=omega) only [Tryz.f242,go_sem,seval];refine (kU x r hx hl).use (Zd ?_);simp (disch:=omega) only [h0,go_sem,seval];refine Yc hso (Zd ?_);refine Xd (Zd ?_);refine Zn (cd) (Zd ?_);refine Zn (cs) (Zd ?_);refine ZY [20] [2,37,38] (fun q:Nat×List (List Int)=> [(9,.p (.list false ((Y3 x r.visits q.1).map eI))),(10,.sl 2 0 q.2.length q.2.length),(39,.p (.int .i64 q.1))]) (fun q=> [Zf x,Xp r,.elems 1 (q.2.map nN)]) (fun q=>q.1<=r.visits.length/\q.2=(List.range (q.1+1)).map (Y3 x r.visits)) (fun q=>r.visits.length-q.1) (0,[Y3 x r.visits 0]) Zb (Weak.mk ?_) ?_
 ·simp (disch:=omega) only [Zf,Xp,Zk,Zs,ZH,ZA,go_sem,seval]
 ·rintro ⟨k,o⟩ ⟨hk,ho⟩;simp only at hk ho
  have hol2:o.length=k+1:=by rw [ho];simp
  refine K4 ?_;refine cD ?_ ?_<;>intro h1<;>simp (disch:=omega) only [Sh.out h1,go_sem,seval,↓reduceIte]
  ·have hk2:k<r.visits.length:=Za
   obtain ⟨v1,v2⟩:=hsq.inr _ (Zt hk2)
   have hi:(nth r.visits k).order.toNat<x.orders.length:=Za
   obtain ⟨l1,l2⟩:=hd.load _ (ZZ hi);have hsu:=Tc hsq hk2;have hal:=E7 (x:=x) (l:=r.visits) (n:=k);have hdm:=hd.dim
   have hrg: ∀j,j<(Y3 x r.visits k).length-> -1073741824<=nth (Y3 x r.visits k) j/\nth (Y3 x r.visits k) j<=1073741824/\ -1073741824<=nth (nth x.orders (nth r.visits k).order.toNat).load j/\nth (nth x.orders (nth r.visits k).order.toNat).load j<=1073741824:=fun j hj=>by
    have b1:=dT (x:=x) (l:=r.visits) (n:=k) (j:=j) Za hd
    grind [ZZ]
   refine cD ?_ ?_<;>intro h2<;>simp (disch:=omega) only [Sh.out h2,go_sem,seval,↓reduceIte]
   ·rw [if_pos h2] at hsu;refine Yc (ZcJ (Y3 x r.visits k) (nth x.orders (nth r.visits k).order.toNat).load false (nth x.orders (nth r.visits k).order.toNat).load_c Za Za hrg) (Zd ?_);exact ⟨(k+1,o++ [Y3 x r.visits (k+1)]),⟨Za,by grind⟩,Za,Weak.mk (by simp (disch:=omega) only [hsu,Zz,ZA,ZH,Xn,Zs,Zk,go_sem,seval])⟩
   ·rw [if_neg (by rw [h2];simp)] at hsu;refine Yc (kO (Y3 x r.visits k) (nth x.orders (nth r.visits k).order.toNat).load false (nth x.orders (nth r.visits k).order.toNat).load_c Za Za hrg) (Zd ?_);exact ⟨(k+1,o++ [Y3 x r.visits (k+1)]),⟨Za,by grind⟩,Za,Weak.mk (by simp (disch:=omega) only [hsu,Zz,ZA,ZH,Xn,Zs,Zk,go_sem,seval])⟩
  ·have hkl:k=r.visits.length:=Za
   subst hkl;refine Zo (Weak.fz (o:=2) (by rfl)) (Zh [] _ _ _ _ (Jx ?_));rw [QD,<- ho];exact we
theorem qL (x:Inst) (r:Rte) (a:List Int) (htl:x.types.length<=1048576) (hty:0<=r.typ/\r.typ<(x.types.length:Int)) (ha:a.length<=1048576) (hc:(ZT x r).cap.length<=1048576) :
  ACalls Tryz.prog 244 [.p (nN a),.ptr 0 0,.ptr 1 0] [Zf x,Xp r] fun y H'=>y= .p (.bool (!Qx a (ZT x r).cap))/\H'= [Zf x,Xp r]:=by
 have hti:r.typ.toNat<x.types.length:=Za
 refine Ze [] Tryz.func244 rfl Zbx ?_;simp (disch:=omega) only [Tryz.f244,Zf,Xp,go_sem,seval];refine (rY a (ZT x r).cap false (ZT x r).cap_c ha hc).use (Zd ?_);exact we
theorem kP (x:Inst) (r:Rte) (hx:InstOk x) (hl:r.visits.length<=1048576) (hty:0<=r.typ/\r.typ<(x.types.length:Int)) (h0:Xf x r.visits=0) :
  PC 213 [.p (Zq x),.p (Wp r)] (.int .i64 (if Ua x (ZT x r).cap r.visits=true then 0 else 17)):=by
 have hd:=Qz hx;have htl:=hd.typ
 have hti:r.typ.toNat<x.types.length:=Za
 have hcp:(ZT x r).cap.length<=1048576:=by
  have hcap:=hx.types.2 _ hti;unfold Jz at hcap;obtain ⟨⟨⟨⟨⟨⟨⟨⟨_,_⟩,_⟩,_⟩,hcap⟩,_⟩,_⟩,_⟩,_⟩:=hcap;simp only [Vl,Zv,Zr,rng] at hcap;unfold ZT;omega
 have hll:(QD x r.visits).length=r.visits.length+1:=by simp [QD]
 have hvl:=(UY h0).len hd.ord
 have hall:(QD x r.visits).any (fun a=> !Qx a (ZT x r).cap)= !Ua x (ZT x r).cap r.visits:=by
  grind [Ua,QD]
 have e1: ¬r.typ<0:=Za
 have e2: ¬(x.types.length:Int)<=r.typ:=Za
 refine Zc Tryz.func213 rfl Za3 ?_;simp (disch:=omega) only [Tryz.f213,e1,e2,go_sem,seval];refine Yc (kR x r hx hl h0) (Zd ?_);refine (I0 (QD x r.visits) false 244 [.ptr 0 0,.ptr 1 0] [Zf x,Xp r] (fun a=> !Qx a (ZT x r).cap) Za (by simp (disch:=omega) only [Zf,Xp,go_sem,seval]) (by rfl) (fun a ha=>qL x r a htl hty ?_ hcp)).useH ?_
 ·obtain ⟨j,_,rfl⟩:=XT.1 ha;rw [E7];have:=hd.dim;omega
 ·refine K4 ?_;rw [hall];refine cD ?_ ?_<;>intro h1<;>simp (disch:=omega) only [Sh.out h1,go_sem,seval]
  ·grind
  grind
theorem GV (l:List Int) (c:Bool) (hl:l.length<=1048576):ACalls Tryz.prog 94 [.p (.list c (l.map eI))] [] fun y H'=>y= .sl 0 0 l.length l.length/\H'= [.elems 1 (l.map eI)]:=by
 refine Ze [1] Tryz.func94 rfl Zi7 ?_;simp (disch:=omega) only [Tryz.f94,go_sem,seval];refine YU (Fh (e:=3) (cl:=c) (xs:=l.map eI) Tryz.underlying55 (by rfl) Zb fun b hb=> ?_);refine Zh [] _ _ _ _ ?_;simp (disch:=omega) only [go_sem,seval];refine cD ?_ ?_<;>intro h<;>simp (disch:=omega) only [Sh.out h,go_sem,seval]
 ·have:l= []:=by simpa using hb h
  subst this;exact ⟨_,_,Weak.nil 0 1 rfl Zb,rfl,rfl⟩
 ·refine Zh [] _ _ _ _ ?_;simp (disch:=omega) only [go_sem,seval];exact we
theorem Ad {P:Program} {e:TypeId} {k:Nat} {cs:List PV} {kk:IntKind} {n:Int} {x:PV} (h0:0<=n) (h1:n<k) (hx:apart P e cs n.toNat=some x) (ht:YP P e=some 1):Me P (some (.array k e)) (.p (.agg cs)) (.p (.int kk n))=some (.p x):=by
 simp_all [Me]
def Zhe (s:Sco):PV:= .agg [.int .i64 s.cost,.int .i64 s.moved,.int .i64 s.other,.int .i64 s.work]
@[go_sem] theorem Zk6 (s:Sco):Zhe s= .agg [.int .i64 s.cost,.int .i64 s.moved,.int .i64 s.other,.int .i64 s.work]:=Zm rfl rfl
theorem kV (s:Sco):PC 176 [.p (Ei s)] (Zhe s):=by
 refine Ze [] Tryz.func176 rfl ZaH ?_;simp (disch:=omega) only [Tryz.f176,go_sem,seval];exact we
def scoR (B:Int) (s:Sco):Prop:=(-B<=s.cost/\s.cost<=B)/\(-B<=s.moved/\s.moved<=B)/\(-B<=s.other/\s.other<=B)/\(-B<=s.work/\s.work<=B)
def oF (s:Sco):AM.Obj:= .cells [.p (.int .i64 s.cost),.p (.int .i64 s.moved),.p (.int .i64 s.other),.p (.int .i64 s.work)]
def Y1 (s:Sco):Int×Int:=if s.cost<0\/s.moved<0\/s.other<0\/s.work<0 then (0,2) else if 1073741824<s.cost\/16<=s.moved\/16<=s.other\/65536<=s.work then (0,4) else (((s.cost*16+s.moved)*16+s.other)*65536+s.work,0)
theorem HU (s:Sco) (hs:scoR 1152921504606846976 s):PT 139 [.p (Ei s)] [.p (.int .i64 (Y1 s).1),.p (.int .i64 (Y1 s).2)]:=by
 obtain ⟨a1,a2,a3,a4⟩:=hs;refine Ze [] Tryz.func139 rfl Zae ?_;simp (disch:=omega) only [Tryz.f139,go_sem,seval];refine (kV s).use (Zd ?_);refine Zl [1,9] (fun k:Nat=> [(10,.p (.int .i64 k))]) (fun _=> [oF s,oF s]) (fun k=>k<=4/\(0<k->0<=s.cost)/\(1<k->0<=s.moved)/\(2<k->0<=s.other)/\(3<k->0<=s.work)) (fun k=>4-k) 0 ⟨Za,Za,Za,Za,Za⟩ (Weak.mk ?_) ?_
 ·simp (disch:=omega) only [oF,go_sem,seval]
 ·rintro k ⟨hk,k1,k2,k3,k4⟩;simp (disch:=omega) only [oF,go_sem,seval];refine cD ?_ ?_<;>intro h1<;>simp (disch:=omega) only [Sh.out h1,go_sem,seval,↓reduceIte]
  ·have:k=0\/k=1\/k=2\/k=3:=Za
   rcases this with rfl | rfl | rfl | rfl
   ·rw [Ad (x:= .int .i64 s.cost) Za Za (by rfl) Zg];refine Zd ?_;refine ZX ?_ ?_<;>intro h2
    ·have e:Y1 s=(0,2):=by simp_all [Y1]
     rw [e];exact we
    ·exact ⟨1,⟨Za,fun _=>Za,Za,Za,Za⟩,Za,wk⟩
   ·rw [Ad (x:= .int .i64 s.moved) Za Za (by rfl) Zg];refine Zd ?_;refine ZX ?_ ?_<;>intro h2
    ·have e:Y1 s=(0,2):=by simp_all [Y1]
     rw [e];exact we
    ·exact ⟨2,⟨Za,fun _=>k1 Za,fun _=>Za,Za,Za⟩,Za,wk⟩
   ·rw [Ad (x:= .int .i64 s.other) Za Za (by rfl) Zg];refine Zd ?_;refine ZX ?_ ?_<;>intro h2
    ·have e:Y1 s=(0,2):=by simp_all [Y1]
     rw [e];exact we
    ·exact ⟨3,⟨Za,fun _=>k1 Za,fun _=>k2 Za,fun _=>Za,Za⟩,Za,wk⟩
   ·rw [Ad (x:= .int .i64 s.work) Za Za (by rfl) Zg];refine Zd ?_;refine ZX ?_ ?_<;>intro h2
    ·have e:Y1 s=(0,2):=by simp_all [Y1]
     rw [e];exact we
    ·exact ⟨4,⟨Za,fun _=>k1 Za,fun _=>k2 Za,fun _=>k3 Za,fun _=>Za⟩,Za,wk⟩
  ·have hk4:k=4:=Za
   subst hk4;have g1:=k1 Za;have g2:=k2 Za;have g3:=k3 Za;have g4:=k4 Za
   have n1: ¬(s.cost<0\/s.moved<0\/s.other<0\/s.work<0):=Za
   have bad:(1073741824<s.cost\/16<=s.moved\/16<=s.other\/65536<=s.work)->Y1 s=(0,4):=fun h=>by simp_all [Y1]
   refine gF ?_ ?_<;>intro h2<;>simp (disch:=omega) only [Sh.out h2,go_sem,seval,↓reduceIte]
   ·rw [bad Za];exact we
   ·refine gF ?_ ?_<;>intro h3<;>simp (disch:=omega) only [Sh.out h3,go_sem,seval,↓reduceIte]
    ·rw [bad Za];exact we
    ·refine gF ?_ ?_<;>intro h4<;>simp (disch:=omega) only [Sh.out h4,go_sem,seval,↓reduceIte]
     ·rw [bad Za];exact we
     ·refine cD ?_ ?_<;>intro h5<;>simp (disch:=omega) only [Sh.out h5,go_sem,seval,↓reduceIte]
      ·rw [bad Za];exact we
      ·have e:Y1 s=(((s.cost*16+s.moved)*16+s.other)*65536+s.work,0):=by simp_all [Y1,if_neg]
       rw [e];exact we
def unsF (x:Inst) (i:Int):Sco×Int :=
 if i<0\/(x.orders.length:Int)<=i then (zSco,2)
 else if (nth x.orders i.toNat).off=true then (zSco,9)
 else if (nth x.orders i.toNat).penalty= -1 then (zSco,23)
 else (⟨(nth x.orders i.toNat).penalty,if (nth x.orders i.toNat).now= -1 then 0 else 1,0,0⟩,0)
theorem NH (x:Inst) (i:Int) (ho:x.orders.length<=1048576):PT 138 [.p (Zq x),.p (.int .i64 i)] [.p (Ei (unsF x i).1),.p (.int .i64 (unsF x i).2)]:=by
 refine Ze [] Tryz.func138 rfl Zad ?_;simp (disch:=omega) only [Tryz.f138,go_sem,seval];refine gF ?_ ?_<;>intro h1<;>simp (disch:=omega) only [Sh.out h1,go_sem,seval,↓reduceIte]
 ·have e:unsF x i=(zSco,2):=by simp_all [unsF]
  rw [e];exact we (by simp (disch:=omega) only [zSco,go_sem,seval])
 ·refine cD ?_ ?_<;>intro h2<;>simp (disch:=omega) only [Sh.out h2,go_sem,seval,↓reduceIte]
  ·have e:unsF x i=(zSco,2):=by simp_all [unsF]
   rw [e];exact we (by simp (disch:=omega) only [zSco,go_sem,seval])
  ·have hi:i.toNat<x.orders.length:=Za
   have n1: ¬(i<0\/(x.orders.length:Int)<=i):=Za
   refine cD ?_ ?_<;>intro h3<;>simp (disch:=omega) only [Sh.out h3,go_sem,seval,↓reduceIte]
   ·have e:unsF x i=(zSco,9):=by simp_all [unsF]
    rw [e];exact we (by simp (disch:=omega) only [zSco,go_sem,seval])
   ·have h3': ¬(nth x.orders i.toNat).off=true:=by rw [h3];simp
    refine cD ?_ ?_<;>intro h4<;>simp (disch:=omega) only [Sh.out h4,go_sem,seval,↓reduceIte]
    ·have e:unsF x i=(zSco,23):=by simp_all [unsF]
     rw [e];exact we (by simp (disch:=omega) only [zSco,go_sem,seval])
    ·refine cD ?_ ?_<;>intro h5<;>simp (disch:=omega) only [Sh.out h5,go_sem,seval,↓reduceIte]
     ·have e:unsF x i=(⟨(nth x.orders i.toNat).penalty,1,0,0⟩,0):=by simp_all [unsF]
      rw [e];exact we
     ·have h5':(nth x.orders i.toNat).now= -1:=Za
      have e:unsF x i=(⟨(nth x.orders i.toNat).penalty,0,0,0⟩,0):=by simp_all [unsF]
      rw [e];exact we
theorem L3 (x:Inst) (i:Int) (ho:x.orders.length<=1048576):PT 155 [.p (Zq x),.p (.int .i64 i)] [.p (Ei (unsF x i).1),.p (.int .i64 (unsF x i).2)]:=by
 refine Ze [] Tryz.func155 rfl Zat ?_;simp (disch:=omega) only [Tryz.f155,go_sem,seval];refine gF ?_ ?_<;>intro h1<;>simp (disch:=omega) only [Sh.out h1,go_sem,seval,↓reduceIte]
 ·have e:unsF x i=(zSco,2):=by simp_all [unsF]
  rw [e];exact we (by simp (disch:=omega) only [zSco,go_sem,seval])
 ·refine cD ?_ ?_<;>intro h2<;>simp (disch:=omega) only [Sh.out h2,go_sem,seval,↓reduceIte]
  ·have e:unsF x i=(zSco,2):=by simp_all [unsF]
   rw [e];exact we (by simp (disch:=omega) only [zSco,go_sem,seval])
  ·have hi:i.toNat<x.orders.length:=Za
   have n1: ¬(i<0\/(x.orders.length:Int)<=i):=Za
   refine cD ?_ ?_<;>intro h3<;>simp (disch:=omega) only [Sh.out h3,go_sem,seval,↓reduceIte]
   ·have e:unsF x i=(zSco,9):=by simp_all [unsF]
    rw [e];exact we (by simp (disch:=omega) only [zSco,go_sem,seval])
   ·have h3': ¬(nth x.orders i.toNat).off=true:=by rw [h3];simp
    refine cD ?_ ?_<;>intro h4<;>simp (disch:=omega) only [Sh.out h4,go_sem,seval,↓reduceIte]
    ·have e:unsF x i=(zSco,23):=by simp_all [unsF]
     rw [e];exact we (by simp (disch:=omega) only [zSco,go_sem,seval])
    ·refine cD ?_ ?_<;>intro h5<;>simp (disch:=omega) only [Sh.out h5,go_sem,seval,↓reduceIte]
     ·have e:unsF x i=(⟨(nth x.orders i.toNat).penalty,1,0,0⟩,0):=by simp_all [unsF]
      rw [e];exact we
     ·have h5':(nth x.orders i.toNat).now= -1:=Za
      have e:unsF x i=(⟨(nth x.orders i.toNat).penalty,0,0,0⟩,0):=by simp_all [unsF]
      rw [e];exact we
def VW (s:Sco):Bool:=decide (0<=s.cost)&&decide (s.cost<=1073741824)&&decide (0<=s.moved)&&decide (s.moved<=15)&&decide (0<=s.other)&&decide (s.other<=15)&&decide (0<=s.work)&&decide (s.work<=65535)
theorem bJ (s:Sco):PC 193 [.p (Ei s)] (.bool (VW s)):=by
 refine Zc Tryz.func193 rfl ZaO ?_;simp (disch:=omega) only [Tryz.f193,go_sem,seval];refine gT ?_ ?_<;>intro h1<;>simp (disch:=omega) only [Sh.out h1,go_sem,seval,↓reduceIte]
 ·refine gT ?_ ?_<;>intro h2<;>simp (disch:=omega) only [Sh.out h2,go_sem,seval,↓reduceIte]
  ·refine gT ?_ ?_<;>intro h3<;>simp (disch:=omega) only [Sh.out h3,go_sem,seval,↓reduceIte]
   ·refine gT ?_ ?_<;>intro h4<;>simp (disch:=omega) only [Sh.out h4,go_sem,seval,↓reduceIte]
    ·refine gT ?_ ?_<;>intro h5<;>simp (disch:=omega) only [Sh.out h5,go_sem,seval,↓reduceIte]
     ·refine gT ?_ ?_<;>intro h6<;>simp (disch:=omega) only [Sh.out h6,go_sem,seval,↓reduceIte]
      ·refine gT ?_ ?_<;>intro h7<;>simp (disch:=omega) only [Sh.out h7,go_sem,seval,↓reduceIte]
       ·grind [VW]
       grind [VW]
      grind [VW]
     grind [VW]
    grind [VW]
   grind [VW]
  grind [VW]
 ·simp [VW,h1]
theorem GG (s:Sco) (hs:scoR 1152921504606846976 s):PT 156 [.p (Ei s)] [.p (.int .i64 (Y1 s).1),.p (.int .i64 (Y1 s).2)]:=by
 obtain ⟨a1,a2,a3,a4⟩:=hs
 have bad:(s.cost<0\/s.moved<0\/s.other<0\/s.work<0)->Y1 s=(0,2):=fun h=>by rw [Y1,if_pos h]
 refine Ze [] Tryz.func156 rfl Zau ?_;simp (disch:=omega) only [Tryz.f156,go_sem,seval];refine gF ?_ ?_<;>intro h1<;>simp (disch:=omega) only [Sh.out h1,go_sem,seval,↓reduceIte]
 ·rw [bad Za];exact we
 ·refine gF ?_ ?_<;>intro h2<;>simp (disch:=omega) only [Sh.out h2,go_sem,seval,↓reduceIte]
  ·rw [bad Za];exact we
  ·refine gF ?_ ?_<;>intro h3<;>simp (disch:=omega) only [Sh.out h3,go_sem,seval,↓reduceIte]
   ·rw [bad Za];exact we
   ·refine cD ?_ ?_<;>intro h4<;>simp (disch:=omega) only [Sh.out h4,go_sem,seval,↓reduceIte]
    ·rw [bad Za];exact we
    ·have n1: ¬(s.cost<0\/s.moved<0\/s.other<0\/s.work<0):=Za
     refine (bJ s).use (Zd ?_);refine cD ?_ ?_<;>intro h5<;>simp (disch:=omega) only [Sh.out h5,go_sem,seval,↓reduceIte]
     ·have e:Y1 s=(0,4):=by
       have h6: ¬VW s=true:=by grind
       rw [Y1,if_neg n1,if_pos];refine J3 fun h7=>h6 ?_;simp [VW];omega
      rw [e];exact we
     ·have h6:VW s=true:=by grind
      simp [VW] at h6
      have e:Y1 s=(((s.cost*16+s.moved)*16+s.other)*65536+s.work,0):=by rw [Y1,if_neg n1,if_neg Za]
      rw [e];refine Zd ?_;exact we
def sG (s:Sco):Prop:=0<=s.cost/\0<=s.moved/\0<=s.other/\0<=s.work
theorem Oo {s:Sco} (hs:sG s):(Y1 s).2=0↔s.cost<=1073741824/\s.moved<16/\s.other<16/\s.work<65536:=by
 obtain ⟨a1,a2,a3,a4⟩:=hs;unfold Y1
 grind
theorem nB {s:Sco} (hs:sG s) (h:(Y1 s).2=0):(Y1 s).1=((s.cost*16+s.moved)*16+s.other)*65536+s.work:=by
 have h:=(Oo hs).1 h;obtain ⟨a1,a2,a3,a4⟩:=hs
 simp_all [Y1,if_neg]
theorem Oh {x:Inst} (hx:InstOk x) (i:Int):scoR 1073741824 (unsF x i).1:=by
 unfold unsF
 split
 ·simp [scoR,zSco]
 ·split
  ·simp [scoR,zSco]
  ·split
   ·simp [scoR,zSco]
   ·have ha:=(hx.orders.2 i.toNat Za).arg;simp only [argOk,rng,Zv,Zr] at ha
    grind [scoR]
theorem AP {a:Sco} {B C:Int} (h:B<=C) (ha:scoR B a):scoR C a:=by
 grind [scoR]
def MI (x:Inst) (t:Typ) (r:Rte) (c:Bool) (sp:List Stp):PV:= .agg [.list x.net.places_c (x.net.places.map eS),.list x.net.arcs_c (x.net.arcs.map VE),.list x.types_c (x.types.map X0),.list x.orders_c (x.orders.map eOrd),.list x.apart_c (x.apart.map eP),.list x.before_c (x.before.map eP),.str t.name,.int .i64 t.count,.int .i64 t.src,.int .i64 t.dst,.list t.cap_c (t.cap.map eI),.int .i64 t.skills,.int .i64 t.prof,.int .i64 t.opn,.int .i64 t.cls,.int .i64 t.drive,.int .i64 t.rest,.int .i64 t.fixed,.int .i64 t.perMile,.int .i64 t.perTick,.int .i64 r.typ,.int .i64 r.start,.list r.rests_c (r.rests.map eB),.list r.visits_c (r.visits.map Z5),.list c (sp.map Fw)]
@[go_sem] theorem Zlo (x:Inst) (t:Typ) (r:Rte) (c:Bool) (sp:List Stp):MI x t r c sp= .agg [.list x.net.places_c (x.net.places.map eS),.list x.net.arcs_c (x.net.arcs.map VE),.list x.types_c (x.types.map X0),.list x.orders_c (x.orders.map eOrd),.list x.apart_c (x.apart.map eP),.list x.before_c (x.before.map eP),.str t.name,.int .i64 t.count,.int .i64 t.src,.int .i64 t.dst,.list t.cap_c (t.cap.map eI),.int .i64 t.skills,.int .i64 t.prof,.int .i64 t.opn,.int .i64 t.cls,.int .i64 t.drive,.int .i64 t.rest,.int .i64 t.fixed,.int .i64 t.perMile,.int .i64 t.perTick,.int .i64 r.typ,.int .i64 r.start,.list r.rests_c (r.rests.map eB),.list r.visits_c (r.visits.map Z5),.list c (sp.map Fw)]:=Zm rfl rfl
def Zdf (x:Inst) (t:Typ) (r:Rte):List V:= [.p (.list x.net.places_c (x.net.places.map eS)),.p (.list x.net.arcs_c (x.net.arcs.map VE)),.p (.list x.types_c (x.types.map X0)),.p (.list x.orders_c (x.orders.map eOrd)),.p (.list x.apart_c (x.apart.map eP)),.p (.list x.before_c (x.before.map eP)),.p (.str t.name),.p (.int .i64 t.count),.p (.int .i64 t.src),.p (.int .i64 t.dst),.p (.list t.cap_c (t.cap.map eI)),.p (.int .i64 t.skills),.p (.int .i64 t.prof),.p (.int .i64 t.opn),.p (.int .i64 t.cls),.p (.int .i64 t.drive),.p (.int .i64 t.rest),.p (.int .i64 t.fixed),.p (.int .i64 t.perMile),.p (.int .i64 t.perTick),.p (.int .i64 r.typ),.p (.int .i64 r.start),.p (.list r.rests_c (r.rests.map eB)),.p (.list r.visits_c (r.visits.map Z5))]
def Y0 (x:Inst) (t:Typ) (r:Rte) (c:Bool) (sp:List Stp):AM.Obj:= .cells [.p (.list x.net.places_c (x.net.places.map eS)),.p (.list x.net.arcs_c (x.net.arcs.map VE)),.p (.list x.types_c (x.types.map X0)),.p (.list x.orders_c (x.orders.map eOrd)),.p (.list x.apart_c (x.apart.map eP)),.p (.list x.before_c (x.before.map eP)),.p (.str t.name),.p (.int .i64 t.count),.p (.int .i64 t.src),.p (.int .i64 t.dst),.p (.list t.cap_c (t.cap.map eI)),.p (.int .i64 t.skills),.p (.int .i64 t.prof),.p (.int .i64 t.opn),.p (.int .i64 t.cls),.p (.int .i64 t.drive),.p (.int .i64 t.rest),.p (.int .i64 t.fixed),.p (.int .i64 t.perMile),.p (.int .i64 t.perTick),.p (.int .i64 r.typ),.p (.int .i64 r.start),.p (.list r.rests_c (r.rests.map eB)),.p (.list r.visits_c (r.visits.map Z5)),.p (.list c (sp.map Fw))]
def Zdr : AM.Obj:= .cells [.p (.list true []),.p (.list true []),.p (.list true []),.p (.list true []),.p (.list true []),.p (.list true []),.p (.str []),.p (.int .i64 0),.p (.int .i64 0),.p (.int .i64 0),.p (.list true []),.p (.int .i64 0),.p (.int .i64 0),.p (.int .i64 0),.p (.int .i64 0),.p (.int .i64 0),.p (.int .i64 0),.p (.int .i64 0),.p (.int .i64 0),.p (.int .i64 0),.p (.int .i64 0),.p (.int .i64 0),.p (.list true []),.p (.list true []),.p (.list true [])]
def JK (L:Lab):PV:= .agg [.int .i64 L.ready,.int .i64 L.since,.bool L.she.rest,.int .i64 L.she.dep,.list L.she.times_c (L.she.times.map eTim),.int .i64 L.she.fin,.int .i64 L.she.miles]
@[go_sem] theorem Zlf (L:Lab):JK L= .agg [.int .i64 L.ready,.int .i64 L.since,.bool L.she.rest,.int .i64 L.she.dep,.list L.she.times_c (L.she.times.map eTim),.int .i64 L.she.fin,.int .i64 L.she.miles]:=Zm rfl rfl
@[go_sem] theorem ZdX (l:List Lab):BO 7 (l.map JK)=true:=BP (f:=JK) (S:=7) (fun _=>rfl) l
def WR (L:Lab):AM.Obj:= .cells [.p (.int .i64 L.ready),.p (.int .i64 L.since),.p (.bool L.she.rest),.p (.int .i64 L.she.dep),.p (.list L.she.times_c (L.she.times.map eTim)),.p (.int .i64 L.she.fin),.p (.int .i64 L.she.miles)]
theorem fS (l:List Tim) (c:Bool) (hl:l.length<=1048576):ACalls Tryz.prog 282 [.p (.list c (l.map eTim))] [] fun x H'=>x= .sl 0 0 l.length l.length/\H'= [.elems 4 (l.map eTim)]:=by
 suffices hh:ACalls Tryz.prog 282 [.p (.list c (l.map eTim))] [] fun x H'=> ∃m:List Tim,m=l/\x= .sl 0 0 m.length m.length/\H'= [.elems 4 (m.map eTim)] by
  grind
 refine Ze [1] Tryz.func282 rfl Zb8 ?_;simp (disch:=omega) only [Tryz.f282,go_sem,seval];refine YU (YU (pB 1 rfl rfl ?_));refine ⟨_,rN (e:=335) rfl Tryz.underlying247 rfl (fun _=>rfl),?_⟩;rintro _ ⟨b,rfl,hb⟩;refine Zd ?_;refine Zh [] _ _ _ _ ?_
 cases b with
 | true =>
  have hn:l= []:=by simp_all
  subst hn;refine Zd ?_;exact ⟨_,_,Weak.ofNil 0 4 rfl Zb (wk),[],rfl,rfl,rfl⟩
 | false =>
  refine Zd ?_;refine Zh [] _ _ _ _ (Zd ?_);exact ⟨.sl 0 0 l.length l.length,[.elems 4 (l.map eTim)],wk,l,rfl,rfl,rfl⟩
theorem Hh (x:Inst) (t:Typ) (r:Rte) (c:Bool) (sp:List Stp):PC 247 [.p (MI x t r c sp)] (JK (labF t r.start)):=by
 refine Ze [] Tryz.func247 rfl Zbz ?_;simp (disch:=omega) only [Tryz.f247,go_sem,seval];exact we (by simp (disch:=omega) only [labF,zShe,Zk,go_sem,seval])
theorem lG (x:Inst) (t:Typ) (r:Rte) (c:Bool) (sp:List Stp) (k:Nat) (hk:k<=sp.length) (hl:sp.length<=1048576):PC 283 [.p (MI x t r c sp),.p (.int .i64 (k:Nat))] (.int .i64 (UW t sp k)):=by
 refine Zc Tryz.func283 rfl Zb9 ?_;simp (disch:=omega) only [Tryz.f283,go_sem,seval];refine cD ?_ ?_<;>intro h<;>simp (disch:=omega) only [Sh.out h,go_sem,seval,↓reduceIte]
 ·simp_all [UW]
 simp_all [UW]
theorem ZcP (x:Inst) (r:Rte) (hx:InstOk x) (hty:0<=r.typ/\r.typ<(x.types.length:Int)) (h0:Xf x r.visits=0) (hs:0<=r.start/\r.start<=4096) :
  PT 246 [.p (Zq x),.p (Wp r)] [.p (MI x (ZT x r) r false (Z6 x r.visits)),.p (.bool true)]:=by
 have hd:=Qz hx;have hsq:=UY h0;have hol:=hd.ord;have htl:=hd.typ;have hvl:=hsq.len hol
 have e1: ¬r.typ<0:=Za
 have e2: ¬(x.types.length:Int)<=r.typ:=Za
 have e3: ¬r.start<0:=Za
 have e4: ¬ 4096<r.start:=Za
 have e5: ¬ 20<(r.visits.length:Int):=Za
 refine Ze [12] Tryz.func246 rfl jA ?_;simp (disch:=omega) only [Tryz.f246,e1,e2,e3,e4,e5,go_sem,seval];refine XW [9] 10 mixed Zg Zg Zg Zb (Zd ?_);refine Xm 9 _ _ Zg (by refine Zd ?_;exact ⟨rfl,rfl⟩) (Wi ?_);refine Zd ?_
 refine ZY [12] [2,4,6,49,50] (fun q:Nat×List Stp=> [(51,.p (.int .i64 q.1))])
  (fun q=> [Zf x,Xp r,Zdr,.cells (Zdf x (ZT x r) r++ [.sl 4 0 q.2.length q.2.length]),.elems 4 (q.2.map Fw)])
  (fun q=>q.1<=r.visits.length/\q.2=(Z6 x r.visits).take q.1) (fun q=>r.visits.length-q.1) (0,[]) Zb ((Weak.nilC (o:=3) (j:=24) 4 rfl rfl Zb).trans (Weak.mk ?_)) ?_
 ·simp (disch:=omega) only [Zf,Xp,Zdr,Zdf,ZT,Zk,ZH,ZL,ZC,ZM,ZE,go_sem,seval]
 ·rintro ⟨k,o⟩ ⟨hk,ho⟩;simp only at hk ho
  have hol2:o.length=k:=by grind [Yt]
  simp (disch:=omega) only [Zf,Xp,Zdr,Zdf,go_sem,seval];refine cD ?_ ?_<;>intro h1<;>simp (disch:=omega) only [Sh.out h1,go_sem,seval,↓reduceIte]
  ·have hk2:k<r.visits.length:=Za
   have hvis:=hsq.vis (Zt hk2);simp only [Aa,Zv,Zr] at hvis
   have hsn:o++ [XP x (nth r.visits k)]=(Z6 x r.visits).take (k+1):=by
    rw [ho,XZ (by grind [Yt]),<- Zj,Gy hk2]
   have hnp: ¬(XP x (nth r.visits k)).place<0:=Za
   refine Yc (SA x (nth r.visits k) Za hvis.1 hvis.2) ?_;simp (disch:=omega) only [hnp,go_sem,seval];exact ⟨(k+1,o++ [XP x (nth r.visits k)]),⟨Za,hsn⟩,Za,Weak.mk (by simp (disch:=omega) only [Zz,ZA,ZH,Xn,Zs,Zk,go_sem,seval])⟩
  ·have hkl:k=r.visits.length:=Za
   subst hkl
   have hso:o=Z6 x r.visits:=by grind [Yt]
   subst hso;refine Zo (Weak.fz (o:=4) (by rfl)) (Zh [] _ _ _ _ (Jx ?_));exact we
def N4 (rd sn:Int) (m:She):AM.Obj:= .cells [.p (.int .i64 rd),.p (.int .i64 sn),.p (.bool m.rest),.p (.int .i64 m.dep),.sl 4 0 m.times.length m.times.length,.p (.int .i64 m.fin),.p (.int .i64 m.miles)]
theorem Fy {P:Program} {H:List AM.Obj} {f ars} {a b d:PV} {B:V->Prop} {t} (h:ACalls P f ars [] fun x H'=>x= .tup [.p a,.p b,.p d]/\H'= []) (k:B (.tup [.p a,.p b,.p d])) (ha:Xj 0 ars=true:=by rfl) :
  TQ (fun y=>ACalls P f ars H (Zu (Zu (fun x H'=>x=y/\H'=H) ⟨⟩) ⟨⟩)) (Zu B t) :=
 ⟨.tup [.p a,.p b,.p d],(h.behind ha H).mono fun x H' hq=>by
  obtain ⟨y,H1,⟨rfl,rfl⟩,rfl,rfl⟩:=hq
  simp [shV,shVs,Zu],k⟩
theorem Zcz (x:Inst) (t:Typ) (r:Rte) (c:Bool) (sp:List Stp) (hok:TrpOk x t sp) (k:Nat) (hk:k<=sp.length) (hs1:0<sp.length) (L:Lab) (hL:LabR k L) (hlen:L.she.times.length=k) (hclip:0<k->L.she.times_c=false) (b:Bool) :
  PT 268 [.p (MI x t r c sp),.p (JK L),.p (.int .i64 (k:Nat)),.p (.bool b)] [.p (JK (nxtF x t sp k L b).1),.p (.int .i64 (nxtF x t sp k L b).2)]:=by
 have hd:=KD hok hL b;have hsn:=Gw hL b;have hg:=I5 hok hL b;have hmi:=hL.mil;have hrd:=hL.rdy;have hsnL:=hL.snc;have hsl:=hok.len;have hrst:=hok.rst;unfold nxtF;have hmm:= @KM k (ZR t L b) b L.she;have hmf:= @HN k (ZR t L b) b L.she;have hml:= @AD k (ZR t L b) b L.she;refine Ze [2,7,14,31] Tryz.func268 rfl ZbU ?_;simp (disch:=omega) only [Tryz.f268,go_sem,seval];refine Xd (Zd ?_);refine ZJ [2,3,4,5,8] (fun _:Unit=> [(10,.p (.int .i64 (ZR t L b))),(11,.p (.int .i64 (WJ L b)))]) (fun _=> [Y0 x t r c sp,WR L,WR WL]) (fun _=>True) ?_ ?_
 ·refine Zd ?_;refine ZX ?_ ?_<;>intro h
  ·subst h;exact ⟨(),Weak.mk (by simp (disch:=omega) only [Y0,WR,WL,zShe,ZR,WJ,Zk,go_sem,seval,↓reduceIte])⟩
  ·subst h;exact ⟨(),Weak.mk (by simp (disch:=omega) only [Y0,WR,WL,zShe,ZR,WJ,Zk,go_sem,seval,↓reduceIte])⟩
 ·intro _ _;refine Zh [7,14,31] _ _ _ _ ?_;simp (disch:=omega) only [Y0,WR,WL,zShe,Zk,go_sem,seval];refine (fS L.she.times L.she.times_c Za).useF (Zd ?_)
  generalize hM:X6 k (ZR t L b) b L.she=M at *
  refine ZJ [2,4,8,10,11,12] (fun _:Unit=> []) (fun _=> [Y0 x t r c sp,WR L,WR WL,N4 0 0 M,.elems 4 (M.times.map eTim)]) (fun _=>True) ?_ ?_
  ·refine Zd ?_;refine ZX ?_ ?_<;>intro h
   ·have hk0:k=0:=Za
    subst hk0
    have e:M= { L.she with rest:=b,dep:=ZR t L b } :=by rw [<- hM,X6,if_pos rfl]
    rw [e];exact ⟨(),Weak.mk (by simp (disch:=omega) only [Y0,WR,WL,zShe,N4,Zk,go_sem,seval])⟩
   ·have e1:((k:Int)-1).toNat=k-1:=Za
    have hk1:k-1<L.she.times.length:=Za
    have R5:(L.she.times.map eTim).set (k-1) (PV.agg [.int .i64 (nth L.she.times (k-1)).arr,.int .i64 (nth L.she.times (k-1)).beg,.int .i64 (nth L.she.times (k-1)).dep,.bool b])=(L.she.times.set (k-1) { nth L.she.times (k-1) with rest:=b }).map eTim:=by
     rw [UD];rfl
    have hn1:nth (L.she.times.set (k-1) { nth L.she.times (k-1) with rest:=b }) (k-1)= { nth L.she.times (k-1) with rest:=b } :=by
     grind [Zj]
    have hl1:(L.she.times.set (k-1) { nth L.she.times (k-1) with rest:=b }).length=L.she.times.length:=Zb
    have hMt:M.times=(L.she.times.set (k-1) { nth L.she.times (k-1) with rest:=b }).set (k-1) { nth (L.she.times.set (k-1) { nth L.she.times (k-1) with rest:=b }) (k-1) with dep:=ZR t L b } :=by
     rw [hn1,List.set_set,<- hM,X6,if_neg Za];rfl
    have hM2:M.rest=L.she.rest/\M.dep=L.she.dep:=by rw [<- hM,X6,if_neg Za];simp
    simp (disch:=first | omega | (simp only [ZA,ZH,Zz,Zx,Z7,Xx]<;>omega)) only [e1,go_sem,seval,↓reduceIte];rw [R5]
    generalize L.she.times.set (k-1) { nth L.she.times (k-1) with rest:=b } =l1 at *
    simp (disch:=first | omega | (simp only [ZA,ZH,Zz,Zx,Z7,Xx]<;>omega)) only [e1,hl1,eq_self,W2,go_sem,seval];refine ⟨(),Weak.mk ?_⟩;simp (disch:=omega) only [Y0,WR,WL,zShe,N4,Zk,hM2.1,hM2.2,hmm,hmf,hml,go_sem,seval];rw [hMt,UD]
    rfl
  ·intro _ _;refine Zh [14,31] _ _ _ _ ?_;simp (disch:=omega) only [Y0,WR,WL,zShe,N4,Zk,go_sem,seval];refine ZJ [2,4,8,10,11,12,13] (fun _:Unit=> [(14,.p (.int .i64 (cJ t sp k)))]) (fun _=> [Y0 x t r c sp,WR L,WR WL,N4 0 0 M,.elems 4 (M.times.map eTim)]) (fun _=>True) ?_ ?_
   ·refine Zd ?_;refine ZX ?_ ?_<;>intro h
    ·have e:cJ t sp k=(nth sp k).place:=by rw [cJ,if_neg Za]
     exact ⟨(),Weak.mk (by simp (disch:=omega) only [Y0,WR,WL,zShe,N4,Zk,e,go_sem,seval])⟩
    ·have e:cJ t sp k=t.dst:=by rw [cJ,if_pos Za]
     exact ⟨(),Weak.mk (by simp (disch:=omega) only [Y0,WR,WL,zShe,N4,Zk,e,go_sem,seval])⟩
   ·intro _ _;refine Zh [31] _ _ _ _ ?_;simp (disch:=omega) only [Y0,WR,WL,zShe,N4,Zk,go_sem,seval];refine Xd (Zd ?_);refine Zn (lG x t r c sp k hk Za) (Zd ?_);refine Fy (vS x.net t.prof (UW t sp k) (cJ t sp k) (ZR t L b) hok.net Za) (Zd ?_);have hG:WW x.net t.prof (UW t sp k) (cJ t sp k) (ZR t L b)=Wh x t sp k (ZR t L b):=rfl;rw [hG];clear hG
    generalize Wh x t sp k (ZR t L b)=g at *
    generalize ZR t L b=d at *
    generalize WJ L b=s at *
    refine cD ?_ ?_<;>intro h1<;>simp (disch:=omega) only [Sh.out h1,go_sem,seval,↓reduceIte]
    ·have e:WQ t sp k g d s M=(WL,12):=by rw [WQ,if_pos h1]
     rw [e];exact we (by simp (disch:=omega) only [WL,zShe,Zk,go_sem,seval])
    ·refine cD ?_ ?_<;>intro h2<;>simp (disch:=omega) only [Sh.out h2,go_sem,seval,↓reduceIte]
     ·refine cD ?_ ?_<;>intro h3<;>simp (disch:=omega) only [Sh.out h3,go_sem,seval,↓reduceIte]
      ·have e:WQ t sp k g d s M=(WL,15):=by rw [WQ,if_neg h1,if_pos Za,if_pos h3]
       rw [e];exact we (by simp (disch:=omega) only [WL,zShe,Zk,go_sem,seval])
      ·refine Zo (Weak.fz (o:=4) (by rfl)) (Zh [] _ _ _ _ (Jx ?_));refine cD ?_ ?_<;>intro h4<;>simp (disch:=omega) only [Sh.out h4,go_sem,seval,↓reduceIte]
       ·have e:WQ t sp k g d s M=(WL,16):=by rw [WQ,if_neg h1,if_pos Za,if_neg h3,if_pos h4]
        rw [e];exact we (by simp (disch:=omega) only [WL,zShe,Zk,go_sem,seval])
       ·have e:WQ t sp k g d s M=(⟨g.1,s+g.1-d,{ M with fin:=g.1,miles:=M.miles+g.2.1 }⟩,0):=by rw [WQ,if_neg h1,if_pos Za,if_neg h3,if_neg h4]
        have hMc:M.times_c=false:=by
         rw [<- hM,X6,if_neg Za]
         grind
        rw [e];exact we (by simp (disch:=omega) only [hMc,go_sem,seval])
     ·have h2': ¬k=sp.length:=Za
      have hkl:k<sp.length:=Za
      have hstp:=hok.stp _ (ZZ hkl);refine Yc (RC (nth sp k) g.1) ?_;unfold Fk
      by_cases h3:(nth sp k).cls<max g.1 (nth sp k).opn
      ·have e:WQ t sp k g d s M=(WL,14):=by simp_all [WQ]
       rw [e,if_pos h3];refine Zd ?_;exact we (by simp (disch:=omega) only [WL,zShe,Zk,go_sem,seval])
      ·rw [if_neg h3];refine Zd ?_;refine Zo (Weak.fz (o:=4) (by rfl)) (Zh [] _ _ _ _ (Jx ?_));refine cD ?_ ?_<;>intro h4<;>simp (disch:=omega) only [Sh.out h4,go_sem,seval,↓reduceIte]
       ·have e:WQ t sp k g d s M=(WL,16):=by simp_all [WQ]
        rw [e];exact we (by simp (disch:=omega) only [WL,zShe,Zk,go_sem,seval])
       ·have e:WQ t sp k g d s M=(⟨max g.1 (nth sp k).opn+(nth sp k).serv,s+g.1-d,{ M with times_c:=false,times:=M.times++ [⟨g.1,max g.1 (nth sp k).opn,0,false⟩],miles:=M.miles+g.2.1 }⟩,0):=by simp_all [WQ,if_neg]
        rw [e];exact we
theorem aL {x t sp k L b} (hs:0<sp.length) (hc:0<k->L.she.times_c=false) (he:(nxtF x t sp k L b).2=0):(nxtF x t sp k L b).1.she.times_c=false:=by
 have hm:0<k->(X6 k (ZR t L b) b L.she).times_c=false:=fun h=>by rw [X6,if_neg Za];exact hc h
 unfold nxtF at he ⊢
 generalize Wh x t sp k (ZR t L b)=g at *
 generalize ZR t L b=d at *
 generalize WJ L b=s at *
 generalize X6 k d b L.she=m at *
 unfold WQ at he ⊢
 grind
structure LabO (n k:Nat) (L:Lab):Prop where
 rng:LabR k L
 len:k<=n->L.she.times.length=k
 clip:0<k->L.she.times_c=false
theorem HF {x t sp k L b} (hok:TrpOk x t sp) (hs:0<sp.length) (hk:k<=sp.length) (h:LabO sp.length k L) (he:(nxtF x t sp k L b).2=0):LabO sp.length (k+1) (nxtF x t sp k L b).1 :=
 ⟨Lu hok hk h.rng he,fun hk2=>FY (h.len hk) he Za,fun _=>aL hs h.clip he⟩
theorem HG {x t sp} (hok:TrpOk x t sp) {st:Int} (hst:0<=st/\st<=4096):LabO sp.length 0 (labF t st) :=
 ⟨⟨by have:=hok.opn;grind [labF],by simp [labF],by simp [labF,zShe]⟩,fun _=>rfl,fun h=>Za⟩
theorem Sx (x:Inst) (t:Typ) (r:Rte) (c:Bool) (sp:List Stp) (hok:TrpOk x t sp) (k:Nat) (hk:k<=sp.length) (hs1:0<sp.length) (L:Lab) (hL:LabO sp.length k L) (b:Bool) :
  PT 268 [.p (MI x t r c sp),.p (JK L),.p (.int .i64 (k:Nat)),.p (.bool b)] [.p (JK (nxtF x t sp k L b).1),.p (.int .i64 (nxtF x t sp k L b).2)] :=
 Zcz x t r c sp hok k hk hs1 L hL.rng (hL.len hk) hL.clip b
theorem ZjO (x:Inst) (t:Typ) (r:Rte) (c:Bool) (sp:List Stp) (hok:TrpOk x t sp) (hs1:0<sp.length) (hst:0<=r.start/\r.start<=4096) (bs:List Bool) (d:Bool) (hb:bs.length=sp.length+1) :
  PT 249 [.p (MI x t r c sp),.p (.list d (bs.map eB))] [.p (Fu (Xs x t sp 0 (labF t r.start) bs).1.she),.p (.int .i64 (Xs x t sp 0 (labF t r.start) bs).2)]:=by
 have hsl:=hok.len;refine Ze [] Tryz.func249 rfl ZbB ?_;simp (disch:=omega) only [Tryz.f249,go_sem,seval];refine (Hh x t r c sp).use (Zd ?_)
 refine Zl [2,4,6,13,14] (fun q:Nat×Lab=> [(15,.p (.int .i64 q.1))]) (fun q=> [Y0 x t r c sp,.cells [.p (.bool false),.p (.int .i64 0),.p (.list true []),.p (.int .i64 0),.p (.int .i64 0)],WR q.2])
  (fun q=>q.1<=bs.length/\Xs x t sp 0 (labF t r.start) bs=Xs x t sp q.1 q.2 (bs.drop q.1)/\LabO sp.length q.1 q.2) (fun q=>bs.length-q.1) (0,labF t r.start) ⟨Zb,Zb,HG hok hst⟩ (Weak.mk ?_) ?_
 ·simp (disch:=omega) only [Y0,WR,go_sem,seval]
 ·rintro ⟨k,L⟩ ⟨hk,hrun,hL⟩;simp only at hk hrun hL;simp (disch:=omega) only [Y0,WR,go_sem,seval];refine cD ?_ ?_<;>intro h1<;>simp (disch:=omega) only [Sh.out h1,go_sem,seval,↓reduceIte]
  ·have hk2:k<bs.length:=Za
   have hdrop:bs.drop k=nth bs k::bs.drop (k+1):=by rw [VP hk2,Zj hk2]
   rw [hdrop,Xs] at hrun;have cn:=Sx x t r c sp hok k Za hs1 L hL (nth bs k);have hL2:=HF (x:=x) (t:=t) (b:=nth bs k) hok hs1 Za hL
   generalize nxtF x t sp k L (nth bs k)=N at *
   refine Yc cn (Zd ?_);refine ZX ?_ ?_<;>intro h2
   ·rw [hrun,if_neg h2];exact we (by simp (disch:=omega) only [WL,zShe,Zk,go_sem,seval])
   ·rw [if_pos Za] at hrun;exact ⟨(k+1,N.1),⟨Za,hrun,hL2 Za⟩,Za,wk⟩
  ·have hkl:k=bs.length:=Za
   subst hkl;rw [Ux,Xs] at hrun;rw [hrun];exact we
theorem pE (l m:Lab):PC 271 [.p (JK l),.p (JK m)] (.bool (Xa l m)):=by
 refine Zc Tryz.func271 rfl ZbX ?_;simp (disch:=omega) only [Tryz.f271,go_sem,seval];refine gT ?_ ?_<;>intro h<;>simp (disch:=omega) only [Sh.out h,go_sem,seval,↓reduceIte]
 ·simp [Xa,h]
 ·simp [Xa,h]
def gH (x:Inst) (t:Typ) (r:Rte) (c:Bool) (sp:List Stp) (o:List Lab) (f z:Lab):List AM.Obj:= [Y0 x t r c sp,.dead,.elems 7 (o.map JK),WR f,WR z]
theorem qP (x:Inst) (t:Typ) (r:Rte) (c:Bool) (sp:List Stp) (o:List Lab) (f z m:Lab):ACalls Tryz.prog 270 [.p (JK m),.ptr 4 0] (gH x t r c sp o f z) fun y H'=>y= .p (.bool (Xa m z))/\H'=gH x t r c sp o f z:=by
 refine Ze [] Tryz.func270 rfl ZbW ?_;simp (disch:=omega) only [Tryz.f270,gH,Y0,WR,go_sem,seval];refine (pE m z).use (Zd ?_);exact we
theorem Pl (x:Inst) (t:Typ) (r:Rte) (c:Bool) (sp:List Stp) (o:List Lab) (f z:Lab) (hl:o.length<=2097152) :
  ACalls Tryz.prog 284 [.sl 2 0 o.length o.length,.fn (.func 270) [] [.ptr 4 0]] (gH x t r c sp o f z) fun y H'=>y= .p (.int .i64 (vG (fun m=>Xa m z) o))/\H'=gH x t r c sp o f z:=by
 refine Ze [] Tryz.func284 rfl Zca ?_;simp (disch:=omega) only [Tryz.f284,gH,Y0,WR,go_sem,seval];refine Zl [0,1,7] (fun k:Nat=> [(8,.p (.int .i64 k))]) (fun _=>gH x t r c sp o f z) (fun k=>k<=o.length/\ ∀j,j<k->Xa (nth o j) z=false) (fun k=>o.length-k) 0 Zb (Weak.mk ?_) ?_
 ·simp (disch:=omega) only [gH,Y0,WR,go_sem,seval,↓reduceIte]
 ·rintro k ⟨hk,hno⟩;simp (disch:=omega) only [gH,Y0,WR,go_sem,seval];refine cD ?_ ?_<;>intro h<;>simp (disch:=omega) only [Sh.out h,go_sem,seval,↓reduceIte]
  ·have hk2:k<o.length:=Za
   have hg:=qP x t r c sp o f z (nth o k);simp (disch:=first | omega | (simp only [ZA,ZH,Zz,Zx,Z7,Xx]<;>omega)) only [Vm hk2,hk2,go_sem,seval,↓reduceIte];simp (disch:=omega) only [gH,Y0,WR,go_sem,seval] at hg;refine hg.useH (Zd ?_);refine cD ?_ ?_<;>intro h2<;>simp (disch:=omega) only [Sh.out h2,go_sem,seval,↓reduceIte]
   ·rw [iF (f:=fun m=>Xa m z) hk2 h2 hno];exact we
   ·exact ⟨k+1,⟨Za,Zp.2 ⟨hno,Za⟩⟩,Za,wk⟩
  ·have hkl:k=o.length:=Za
   subst hkl;rw [iH hno];exact we
theorem GY (x:Inst) (t:Typ) (r:Rte) (c:Bool) (sp:List Stp) (o:List Lab) (f z:Lab) (hl:o.length<=2097152) :
  ACalls Tryz.prog 269 [.sl 2 0 o.length o.length,.fn (.func 270) [] [.ptr 4 0]] (gH x t r c sp o f z) fun y H'=>y= .p (.bool (o.any fun m=>Xa m z))/\H'=gH x t r c sp o f z:=by
 refine Ze [] Tryz.func269 rfl ZbV ?_;simp (disch:=omega) only [Tryz.f269,go_sem,seval];refine (Pl x t r c sp o f z hl).useH (Zd ?_);rw [iG];exact we (by simp (disch:=omega) only [gH,Y0,WR,go_sem,seval])
def TI (x:Inst) (t:Typ) (sp:List Stp) (r:List Bool) (k:Nat) (f:Lab) (bs:List Bool) (l:List Lab):List Lab:=bs.filterMap (XL x t sp k f)++Vd (XL x t sp) (UH r) k l
theorem zA (x:Inst) (t:Typ) (r:Rte) (c:Bool) (sp:List Stp) (hok:TrpOk x t sp) (hs1:0<sp.length) (k:Nat) (hk:k<=sp.length) (hrl:r.rests.length<=1048576) (l:List Lab) (d:Bool) (hl:l.length<=1048576) (hL: ∀L∈l,LabO sp.length k L) :
  PC 248 [.p (MI x t r c sp),.p (.list d (l.map JK)),.p (.int .i64 (k:Nat))] (.list false ((X4 Xa [] (Vd (XL x t sp) (UH r.rests) k l)).map JK)):=by
 have hsl:=hok.len;refine Ze [2,16] Tryz.func248 rfl ZbA ?_;simp (disch:=omega) only [Tryz.f248,go_sem,seval];refine Zo (Weak.fz (o:=1) (by rfl)) (Jx ?_);refine ZJ [1,2,3] (fun cb:Bool=> [(7,.p (.list cb ((UH r.rests k).map eB)))]) (fun _=> [Y0 x t r c sp,.dead]) (fun _=>True) ?_ ?_
 ·refine Zd ?_;refine ZX ?_ ?_<;>intro h
  ·have hk2:k<r.rests.length:=Za
   have e:UH r.rests k=(r.rests.take (k+1)).drop k:=by
    grind [UH,XZ]
   exact ⟨r.rests_c&&decide ((k:Int)+1=(r.rests.length:Int)),Weak.mk (by simp (disch:=omega) only [Y0,e,go_sem,seval])⟩
  ·have e:UH r.rests k= [false,true]:=by grind [UH]
   exact ⟨false,Weak.mk (by simp (disch:=omega) only [Y0,e,Zs,Zk,go_sem,seval])⟩
 ·intro cb _
  have hch:(UH r.rests k).length<=2:=by grind [UH]
  refine Zh [16] _ _ _ _ ?_;simp (disch:=omega) only [Y0,go_sem,seval]
  refine ZY [16] [2,3,7,29,30] (fun q:Nat×List Lab=> [(8,.sl 2 0 q.2.length q.2.length),(31,.p (.int .i64 q.1))]) (fun q=> [Y0 x t r c sp,.dead,.elems 7 (q.2.map JK)])
   (fun q=>q.1<=l.length/\X4 Xa [] (Vd (XL x t sp) (UH r.rests) k l)=X4 Xa q.2 (Vd (XL x t sp) (UH r.rests) k (l.drop q.1))/\q.2.length<=2*q.1) (fun q=>l.length-q.1) (0,[]) Zb (Weak.ofNil 8 7 rfl Zb (Weak.mk ?_)) ?_
  ·simp (disch:=omega) only [Y0,Zk,ZH,go_sem,seval]
  ·rintro ⟨i,o⟩ ⟨hi,hpr,hol⟩;simp only at hi hpr hol;simp (disch:=omega) only [Y0,go_sem,seval];refine cD ?_ ?_<;>intro h1<;>simp (disch:=omega) only [Sh.out h1,go_sem,seval,↓reduceIte]
   ·have hi2:i<l.length:=Za
    have hLi:=hL _ (ZZ hi2)
    have hdrop:l.drop i=nth l i::l.drop (i+1):=by rw [VP hi2,Zj hi2]
    rw [hdrop] at hpr;have hpr:X4 Xa [] (Vd (XL x t sp) (UH r.rests) k l)=X4 Xa o (TI x t sp r.rests k (nth l i) ((UH r.rests k).drop 0) (l.drop (i+1))):=hpr
    refine Zl [2,3,7,10,29,30,31,35,36] (fun q:Nat×List Lab=> [(8,.sl 2 0 q.2.length q.2.length),(37,.p (.int .i64 q.1))]) (fun q=> [Y0 x t r c sp,.dead,.elems 7 (q.2.map JK),WR (nth l i)])
     (fun q=>q.1<=(UH r.rests k).length/\X4 Xa [] (Vd (XL x t sp) (UH r.rests) k l)=X4 Xa q.2 (TI x t sp r.rests k (nth l i) ((UH r.rests k).drop q.1) (l.drop (i+1)))/\q.2.length<=2*i+q.1) (fun q=>(UH r.rests k).length-q.1) (0,o) ⟨Zb,hpr,hol⟩ (Weak.mk ?_) ?_
    ·simp (disch:=omega) only [Y0,WR,go_sem,seval]
    ·clear hpr hol;rintro ⟨j,o⟩ ⟨hj,hpr,hol⟩;simp only at hj hpr hol;simp (disch:=omega) only [Y0,WR,go_sem,seval];refine ZX ?_ ?_<;>intro h2
     ·have hj2:j<(UH r.rests k).length:=Za
      have hd2:(UH r.rests k).drop j=nth (UH r.rests k) j::(UH r.rests k).drop (j+1):=by rw [VP hj2,Zj hj2]
      have cn:=Sx x t r c sp hok k hk hs1 (nth l i) hLi (nth (UH r.rests k) j);have ho2:XL x t sp k (nth l i) (nth (UH r.rests k) j)=if (nxtF x t sp k (nth l i) (nth (UH r.rests k) j)).2=0 then some (nxtF x t sp k (nth l i) (nth (UH r.rests k) j)).1 else none:=rfl;rw [hd2,TI,List.filterMap_cons,ho2] at hpr
      generalize nxtF x t sp k (nth l i) (nth (UH r.rests k) j)=N at *
      refine Yc cn (Zd ?_);refine Je ?_ ?_<;>intro h3
      ·have hcl:=GY x t r c sp o (nth l i) N.1 Za;simp (disch:=omega) only [gH,Y0,WR,go_sem,seval] at hcl;refine hcl.useH (Zd ?_);rw [if_pos h3] at hpr;have hpr:X4 Xa [] (Vd (XL x t sp) (UH r.rests) k l)=if (o.any fun m=>Xa m N.1)=true then X4 Xa o (TI x t sp r.rests k (nth l i) ((UH r.rests k).drop (j+1)) (l.drop (i+1))) else X4 Xa (o++ [N.1]) (TI x t sp r.rests k (nth l i) ((UH r.rests k).drop (j+1)) (l.drop (i+1))):=hpr;refine ZX ?_ ?_<;>intro h4
       ·rw [if_neg (by grind)] at hpr;exact ⟨(j+1,o++ [N.1]),⟨Za,hpr,by simp;omega⟩,Za,Weak.mk (by simp (disch:=omega) only [Zz,ZA,ZH,Xn,Zs,Zk,go_sem,seval])⟩
       ·rw [if_pos (by grind)] at hpr;exact ⟨(j+1,o),⟨Za,hpr,by grind⟩,Za,wk⟩
      ·rw [if_neg h3] at hpr;exact ⟨(j+1,o),⟨Za,hpr,by grind⟩,Za,wk⟩
     ·have hjl:j=(UH r.rests k).length:=Za
      subst hjl;rw [Ux,TI,List.filterMap_nil,ZE] at hpr;exact ⟨(i+1,o),⟨Za,hpr,by grind⟩,Za,wk⟩
   ·have hil:i=l.length:=Za
    subst hil;have e:Vd (XL x t sp) (UH r.rests) k []= []:=rfl;rw [Ux,e,X4] at hpr;rw [hpr];refine Zo (Weak.fz (o:=2) (by rfl)) (Zh [] _ _ _ _ (Jx ?_));exact we
def pZ : PV:= .agg [.list true [],.list true [],.list true [],.list true [],.list true [],.list true [],.str [],.int .i64 0,.int .i64 0,.int .i64 0,.list true [],.int .i64 0,.int .i64 0,.int .i64 0,.int .i64 0,.int .i64 0,.int .i64 0,.int .i64 0,.int .i64 0,.int .i64 0,.int .i64 0,.int .i64 0,.list true [],.list true [],.list true []]
theorem sF (x:Inst) (r:Rte) (hty:0<=r.typ/\r.typ<(x.types.length:Int)) (htl:x.types.length<=1048576) (hvl:r.visits.length<=20) (hs: ¬(0<=r.start/\r.start<=4096)) :
  PT 246 [.p (Zq x),.p (Wp r)] [.p pZ,.p (.bool false)]:=by
 have e1: ¬r.typ<0:=Za
 have e2: ¬(x.types.length:Int)<=r.typ:=Za
 refine Ze [] Tryz.func246 rfl jA ?_;simp (disch:=omega) only [Tryz.f246,e1,e2,go_sem,seval];refine gF ?_ ?_<;>intro h1<;>simp (disch:=omega) only [Sh.out h1,go_sem,seval,↓reduceIte]
 ·exact we (by simp (disch:=omega) only [pZ,go_sem,seval])
 ·refine gF ?_ ?_<;>intro h2<;>simp (disch:=omega) only [Sh.out h2,go_sem,seval,↓reduceIte]
  ·exact we (by simp (disch:=omega) only [pZ,go_sem,seval])
  ·omega
theorem NQ {x t sp} : ∀(bs:List Bool) (k:Nat) (L:Lab),¬(Xs x t sp k L bs).2=0->(Xs x t sp k L bs).1=WL
 | [],k,L,h=>by simp [Xs] at h
 | b::bs,k,L,h=>by
  rw [Xs] at h ⊢
  split
  ·rename_i c;rw [if_pos c] at h;exact NQ bs (k+1) _ h
  ·rfl
theorem TU (n:Nat):List.replicate n false∈Wg (List.replicate n false):=by
 rw [fromB_next];simp
theorem iB {l:List Lab} (h:VI Wr none l=none):l= []:=by
 cases l with
 | nil=>rfl
 | cons a l =>
  obtain ⟨z,hz,_⟩:=Jk (fin:=Wr) l a;have:VI Wr none (a::l)=VI Wr (some a) l:=rfl
  grind
theorem Tx {x t sp} {st:Int} {r:List Bool} (h:VI Wr none ((Wb r (sp.length+1)).filterMap (VF (XL x t sp) 0 (labF t st)))=none): ¬(Xs x t sp 0 (labF t st) (Wm r (sp.length+1))).2=0:=fun h0=>by
 have h1:=iB h;have h2:Wm r (sp.length+1)∈Wb r (sp.length+1):=XT.2 ⟨_,TU _,rfl⟩
 simp_all [Uj]
theorem OW {x t sp} {st:Int} {r:List Bool} (hr:r.length<=sp.length+1) (h:VI Wr none (Kp Xa (XL x t sp) (UH r) (sp.length+1) 0 [labF t st])=none): ¬(Xs x t sp 0 (labF t st) (Wm r (sp.length+1))).2=0 :=
 Tx (by rw [HH,Vx,Hr r _ hr] at h;exact h)
def Jd (x:Inst) (r:Rte):She×Int:=if 0<=r.start/\r.start<=4096/\r.rests.length<=r.visits.length+1 then Xq x r else (zShe,2)
theorem fF {x t sp} {ch:Nat->List Bool} {k:Nat} {l:List Lab} (hok:TrpOk x t sp) (hs:0<sp.length) (hk:k<=sp.length) (h: ∀L∈l,LabO sp.length k L): ∀L∈X4 Xa [] (Vd (XL x t sp) ch k l),LabO sp.length (k+1) L:=fun L hL=>by
 have h1:=AK Xa _ _ L hL;rw [ZE] at h1;obtain ⟨a,ha,hb⟩:=XK.1 h1
 grind [XL,HF]
theorem DF : ∀(c out:List Lab),(X4 Xa out c).length<=out.length+c.length
 | [],out=>by simp [X4]
 | x::c,out=>by
  rw [X4]
  split
  ·have:=DF c out;simp;omega
  ·have:=DF c (out++ [x]);simp at this ⊢;omega
theorem Hj {x t sp} {r:List Bool} {k:Nat} : ∀l:List Lab,(Vd (XL x t sp) (UH r) k l).length<=2*l.length
 | []=>by simp [Vd]
 | a::l=>by
  have ih:=Hj (x:=x) (t:=t) (sp:=sp) (r:=r) (k:=k) l;have h1:(Vd (XL x t sp) (UH r) k (a::l))=(UH r k).filterMap (XL x t sp k a)++Vd (XL x t sp) (UH r) k l:=rfl
  grind [UH]
theorem rV (x:Inst) (r:Rte) (hx:InstOk x) (hl:r.visits.length<=1048576) (hrl:r.rests.length<=1048576) (hty:0<=r.typ/\r.typ<(x.types.length:Int)) (h0:Xf x r.visits=0) :
  PT 214 [.p (Zq x),.p (Wp r)] [.p (Fu (Jd x r).1),.p (.int .i64 (Jd x r).2)]:=by
 have hd:=Qz hx;have hsq:=UY h0;have hol:=hd.ord;have htl:=hd.typ;have hvl:=hsq.len hol;have hok:=K7 hx hty hsq;have hsl:(Z6 x r.visits).length=r.visits.length:=Yt
 have hs1:0<(Z6 x r.visits).length:=by
  rw [hsl];have:=hsq.ne
  grind
 refine Ze [6,13,14] Tryz.func214 rfl Za4 ?_;simp (disch:=omega) only [Tryz.f214,go_sem,seval]
 by_cases hs:0<=r.start/\r.start<=4096
 ·refine Yc (ZcP x r hx hty h0 hs) (Zd ?_);refine cD ?_ ?_<;>intro h1<;>simp (disch:=omega) only [Sh.out h1,go_sem,seval,↓reduceIte]
  ·have e:Jd x r=(zShe,2):=by rw [Jd,if_neg Za]
   rw [e];exact we (by simp (disch:=omega) only [zShe,Zk,go_sem,seval])
  ·have hrs:r.rests.length<=r.visits.length+1:=Za
   have e:Jd x r=Xq x r:=by simp_all [Jd]
   have hbn:= @OW x (ZT x r) (Z6 x r.visits) r.start r.rests Za;rw [e,Xq,IN Za];refine (Hh x (ZT x r) r false (Z6 x r.visits)).use (Zd ?_)
   generalize hT:ZT x r=t at *
   generalize hS:Z6 x r.visits=sp at *
   refine Zo (Weak.fz (o:=4) (by rfl)) ?_;refine Zh [13,14] _ _ _ _ (Zd ?_)
   refine ZY [13,14] [3,4,6,8,38] (fun q:Nat×List Lab=> [(9,.p (.list false (q.2.map JK))),(39,.p (.int .i64 q.1))]) (fun _=> [Zf x,Xp r,.cells [.p (.bool false),.p (.int .i64 0),.p (.list true []),.p (.int .i64 0),.p (.int .i64 0)],Y0 x t r false sp,.dead])
    (fun q=>q.1<=sp.length+1/\Kp Xa (XL x t sp) (UH r.rests) (sp.length+1) 0 [labF t r.start]=Kp Xa (XL x t sp) (UH r.rests) (sp.length+1-q.1) q.1 q.2/\(∀L∈q.2,LabO sp.length q.1 L)/\q.2.length<=2^q.1) (fun q=>sp.length+1-q.1) (0,[labF t r.start]) ⟨Zb,Zb,fun L hL=>by grind [HG],Zb⟩ (Weak.mk ?_) ?_
   ·simp (disch:=omega) only [Zf,Xp,Y0,Zs,Zk,ZL,ZC,go_sem,seval]
   ·rintro ⟨k,l⟩ ⟨hk,hit,hlo,hll⟩;simp only at hk hit hlo hll;simp (disch:=omega) only [Zf,Xp,Y0,go_sem,seval];refine cD ?_ ?_<;>intro h2<;>simp (disch:=omega) only [Sh.out h2,go_sem,seval,↓reduceIte]
    ·have hk2:k<=sp.length:=Za
     have hp20:2^k<=2^20:=Ym Za Za;refine (zA x t r false sp hok hs1 k hk2 hrl l false Za hlo).use (Zd ?_)
     have hn:Kp Xa (XL x t sp) (UH r.rests) (sp.length+1-k) k l=Kp Xa (XL x t sp) (UH r.rests) (sp.length+1-(k+1)) (k+1) (X4 Xa [] (Vd (XL x t sp) (UH r.rests) k l)):=by
      have e:sp.length+1-k=(sp.length+1-(k+1))+1:=Za
      rw [e,Kp]
     have hln:=DF (Vd (XL x t sp) (UH r.rests) k l) [];have hln2:=Hj (x:=x) (t:=t) (sp:=sp) (r:=r.rests) (k:=k) l;exact ⟨(k+1,X4 Xa [] (Vd (XL x t sp) (UH r.rests) k l)),⟨Za,hit.trans hn,fF hok hs1 hk2 hlo,by grind⟩,Za,Weak.mk (by simp (disch:=omega) only [ZL,ZC,go_sem,seval])⟩
    ·have hkn:k=sp.length+1:=Za
     subst hkn;rw [AB,Kp] at hit;rw [hit] at hbn ⊢;clear hit;refine cD ?_ ?_<;>intro h3<;>simp (disch:=omega) only [Sh.out h3,go_sem,seval,↓reduceIte]
     ·have hl0:l= []:=Yv Za;subst hl0;have hbn:=hbn rfl;refine YU (Es 3 rfl rfl (Zd ?_));refine ⟨_,_,Nx (e:=4) rfl Tryz.underlying31 Zg rfl rfl rfl ?_ ?_ ?_,?_⟩
      ·simp
      ·simp;omega
      ·intro q hq;obtain ⟨b,_,rfl⟩:=XT.1 hq
       rfl
      ·have hpl:(Wm r.rests (sp.length+1)).length=sp.length+1:=by simp [Wm];omega
       have hpad:r.rests.map eB++(PV.bool false::List.replicate r.visits.length (PV.bool false)).drop (r.rests.map eB).length=(Wm r.rests (sp.length+1)).map eB:=by
        rw [Wm,Xn,<- JS,List.drop_replicate,Ap,hsl,Zx];rfl
       have hcr:=ZjO x t r false sp hok hs1 hs (Wm r.rests (sp.length+1)) false hpl;have hbad:=NQ _ _ _ hbn;rw [hbad] at hcr;simp only [ZL,ZC];rw [hpad]
       generalize hRP:Wm r.rests (sp.length+1)=rp at *
       refine Zo (Weak.fz (o:=5) (by rfl)) (Zh [] _ _ _ _ (Jx ?_));rw [if_pos Za];refine Yc hcr (Zd ?_);have hfm0:VI Wr none ([]:List Lab)=none:=rfl;rw [hfm0];exact we (by simp (disch:=omega) only [WL,zShe,Zk,go_sem,seval])
     ·cases l with
      | nil=>simp at h3
      | cons l0 l =>
       have e0:Kv ((l0::l).map JK) 0=JK l0:=rfl;have hn0:nth (l0::l) 0=l0:=rfl;simp (disch:=first | omega | (simp only [ZA,ZH,Zz,Zx,Z7,Xx]<;>omega)) only [hn0,XX,go_sem,seval];have hfm:VI Wr none (l0::l)=VI Wr (some l0) l:=rfl;rw [hfm]
       have hlen:l.length<=2097152:=by
        have hp20:2^(sp.length+1)<=2^21:=Ym Za Za
        grind
       refine Zl [4,12,65,66] (fun q:Nat×Lab=> [(67,.p (.int .i64 q.1))]) (fun q=> [Zf x,Xp r,.cells [.p (.bool false),.p (.int .i64 0),.p (.list true []),.p (.int .i64 0),.p (.int .i64 0)],Y0 x t r false sp,.dead,WR q.2])
        (fun q=>q.1<=l.length/\VI Wr (some l0) l=VI Wr (some q.2) (l.drop q.1)) (fun q=>l.length-q.1) (0,l0) Zb (Weak.mk ?_) ?_
       ·simp (disch:=omega) only [Zf,Xp,Y0,WR,go_sem,seval]
       ·rintro ⟨i,m⟩ ⟨hi,hm⟩;simp only at hi hm;simp (disch:=omega) only [Zf,Xp,Y0,WR,go_sem,seval];refine cD ?_ ?_<;>intro h4<;>simp (disch:=omega) only [Sh.out h4,go_sem,seval,↓reduceIte]
        ·have hi2:i<l.length:=Za
         have hdrop:l.drop i=nth l i::l.drop (i+1):=by rw [VP hi2,Zj hi2]
         rw [hdrop,VI] at hm;refine ZX ?_ ?_<;>intro h5
         ·rw [if_pos (show Wr (nth l i)<Wr m from h5)] at hm;exact ⟨(i+1,nth l i),⟨Za,hm⟩,Za,wk⟩
         ·rw [if_neg (show ¬Wr (nth l i)<Wr m from h5)] at hm;exact ⟨(i+1,m),⟨Za,hm⟩,Za,wk⟩
        ·have hil:i=l.length:=Za
         subst hil;rw [Ux,VI] at hm;rw [hm];exact we
 ·have e:Jd x r=(zShe,2):=by rw [Jd,if_neg (fun h=>hs ⟨h.1,h.2.1⟩)]
  rw [e];refine Yc (sF x r hty htl hvl hs) ?_;simp (disch:=omega) only [pZ,go_sem,seval];exact we (by simp (disch:=omega) only [zShe,Zk,go_sem,seval])
end Go.Proofs.YtjkkdmeebhjaiaaGreatDoor.K
namespace Go.AM
open Go.RowKit
theorem jX (k v:Int) (l:List (Int×Int)): ∃l',jW (.int .i64 k) (.int .i64 v) (l.map eII)=l'.map eII/\(∀q,KO l' q=if q=k then v else KO l q)/\l'.length<=l.length+1:=by
 unfold jW;rw [Dx]
 cases hm:HR l k with
 | none =>
  refine ⟨l++ [(k,v)],by simp [eII],fun q=> ?_,Zb⟩
  have e1:HR (l++ [(k,v)]) k=some l.length:=by
   grind [HR]
  by_cases hq:q=k
  ·grind [KO]
  ·rw [if_neg hq];unfold KO
   have e3:HR (l++ [(k,v)]) q=HR l q:=by
    grind [HR]
   rw [e3]
   cases hc:HR l q with
   | none=>rfl
   | some i =>
    unfold HR at hc
    grind [VO]
 | some i =>
  refine ⟨l.set i (k,v),by simp_all [eII],?_,Zb⟩;have hH:oat [.map (l.map eII)] 0= .map (l.map eII):=rfl;have:=Pw (H:= [.map (l.map eII)]) (o:=0) (l:=l) (k:=k) (i:=i) (v:=v) (K:=fun _ _=> ∀q,KO (l.set i (k,v)) q=if q=k then v else KO l q) hH hm fun h=>h;unfold Ae at this;obtain ⟨u,q1,_⟩:=FS hm
  simp_all [A9]
theorem jY {P:Program} {H:List Obj} {t:TypeId} {o:Nat} {l:List (Int×Int)} {k v:Int} {K:V->List Obj->Prop} (hT:jP P t=some (.int .i64,some (.int .i64 0))) (hH:oat H o= .map (l.map eII))
  (h: ∀l':List (Int×Int),(∀q,KO l' q=if q=k then v else KO l q)->K .junk (H.set o (.map (l'.map eII)))):A9 (DW P H t (.mp o) (.p (.int .i64 k)) (.p (.int .i64 v))) K:=by
 obtain ⟨kt,et,h1,h2,h3⟩:=Nk hT;obtain ⟨l',e,hg,_⟩:=jX k v l
 grind [DW,HJ,A9]
end Go.AM
namespace Go.Proofs.YtjkkdmeebhjaiaaGreatDoor.K
open Go Go.AM Go.Proofs
set_option maxRecDepth 8000
set_option maxHeartbeats 8000000
def Ft (l:List Vis) (k:Nat) (q:Int):Int:=((l.take k).countP fun v=>decide (v.order=q):Nat)
theorem TJ {l:List Vis} {k:Nat} (h:k<l.length) (q:Int):Ft l (k+1) q=if q=(nth l k).order then Ft l k q+1 else Ft l k q:=by
 unfold Ft;rw [XZ h,List.countP_append,Zj h]
 grind
theorem fW {l:List Vis} {k:Nat} (h:k<=l.length) (q:Int):0<=Ft l k q/\Ft l k q<=k:=by
 grind [Ft,Z7]
theorem O6 {l:List Vis} {k:Nat} :Us l k=decide (Ft l k (nth l k).order=0):=by
 unfold Us Ft;rw [Ww];simp
theorem Bt (a b:Int):PC 250 [.p (.int .i64 a),.p (.int .i64 b)] (.bool (Xl a b)):=by
 refine Zc Tryz.func250 rfl ZbC ?_;simp (disch:=omega) only [Tryz.f250,go_sem,seval];refine gT ?_ ?_<;>intro h<;>simp (disch:=omega) only [Sh.out h,go_sem,seval,↓reduceIte]
 ·simp [Xl,h]
 simp_all [Xl]
theorem kT (x:Inst) (r:Rte) (s:She) (hty:0<=r.typ/\r.typ<(x.types.length:Int)) (ho:x.orders.length<=1048576) (ht:x.types.length<=1048576) (hl:r.visits.length<=1048576) (hv:Inr x r.visits)
  (hc:0<=(ZT x r).fixed/\(ZT x r).fixed<=100000/\0<=(ZT x r).perMile/\(ZT x r).perMile<=100/\0<=(ZT x r).perTick/\(ZT x r).perTick<=100) (ho2:0<=(ZT x r).opn/\(ZT x r).opn<=4096)
  (hf: -4096<=s.fin/\s.fin<=8192) (hm:0<=s.miles/\s.miles<=1000000) :
  PC 215 [.p (Zq x),.p (Wp r),.p (Fu s)] (Ei (G9 x r s)):=by
 have hti:r.typ.toNat<x.types.length:=Za
 have hT:jP Tryz.prog 306=some (.int .i64,some (.int .i64 0)):=Zg
 unfold G9;have htd:nth x.types r.typ.toNat=ZT x r:=rfl
 generalize ZT x r=t at *
 have e1: ¬r.typ<0:=Za
 have e2: ¬(x.types.length:Int)<=r.typ:=Za
 have p1:0<=t.perMile*s.miles/\t.perMile*s.miles<=100*1000000:=⟨Uy Za Za,VS Za Za Za Za⟩
 have hW: -8192<=s.fin-t.opn/\s.fin-t.opn<=8192:=Za
 have p2: -819200<=t.perTick*(s.fin-t.opn)/\t.perTick*(s.fin-t.opn)<=819200:=by
  generalize s.fin-t.opn=w at hW;have a1:=Du hW.2 (show 0<=t.perTick by omega);have a2:=Du hW.1 (show 0<=t.perTick by omega);omega
 have p3: -128<=(s.fin-t.opn).tdiv 64/\(s.fin-t.opn).tdiv 64<=128:=by
  grind
 have p4:0<=(s.fin-t.opn).tdiv 64*(s.fin-t.opn).tdiv 64/\(s.fin-t.opn).tdiv 64*(s.fin-t.opn).tdiv 64<=16384:=by
  generalize (s.fin-t.opn).tdiv 64=q at p3;refine ⟨?_,?_⟩
  ·rcases Ay 0 q with h | h
   ·exact Uy h h
   ·exact Int.mul_nonneg_of_nonpos_of_nonpos h h
  ·rcases Ay 0 q with h | h
   ·have:=VS p3.2 p3.2 h Za;omega
   ·have h2:0<= -q:=Za
    have:=VS (show-q<=128 by omega) (show-q<=128 by omega) h2 Za
    grind
 refine Zc Tryz.func215 rfl Za5 ?_;simp (disch:=omega) only [Tryz.f215,e1,e2,htd,go_sem,seval]
 refine Zl [3,4,6,10,11,59,60] (fun q:Nat×List (Int×Int)=> [(61,.p (.int .i64 q.1))]) (fun q=> [Zf x,Xp r,.cells [.p (.bool s.rest),.p (.int .i64 s.dep),.p (.list s.times_c (s.times.map eTim)),.p (.int .i64 s.fin),.p (.int .i64 s.miles)],CZ 0 0 0 0,X9 t,CZ (t.fixed+t.perMile*s.miles+t.perTick*(s.fin-t.opn)) (chgF x r.visits r.typ q.1).1 (chgF x r.visits r.typ q.1).2 ((s.fin-t.opn).tdiv 64*(s.fin-t.opn).tdiv 64),.map (q.2.map eII)])
  (fun q=>q.1<=r.visits.length/\ ∀n,KO q.2 n=Ft r.visits q.1 n) (fun q=>r.visits.length-q.1) (0,[]) ⟨Zb,fun n=>rfl⟩ (Weak.mk ?_) ?_
 ·simp (disch:=omega) only [Zf,Xp,X9,CZ,chgF,go_sem,seval]
 ·rintro ⟨k,m⟩ ⟨hk,hmg⟩;simp only at hk hmg;have hch:=BW (x:=x) (l:=r.visits) (t:=r.typ) k;simp (disch:=omega) only [Zf,Xp,X9,CZ,go_sem,seval];refine cD ?_ ?_<;>intro h1<;>simp (disch:=omega) only [Sh.out h1,go_sem,seval,↓reduceIte]
  ·have hk2:k<r.visits.length:=Za
   obtain ⟨v1,v2⟩:=hv _ (Zt hk2)
   have e3: ¬(nth r.visits k).order<0:=Za
   have e4: ¬(x.orders.length:Int)<=(nth r.visits k).order:=Za
   have v3:(nth r.visits k).order.toNat<x.orders.length:=Za
   have hcs:=TJ hk2;have hcr:=fW hk (nth r.visits k).order;have hfi:=O6 (l:=r.visits) (k:=k);have hch2:chgF x r.visits r.typ (k+1)=_:=chgF.eq_2 x r.visits r.typ k;refine Nh hT rfl ?_;rw [hmg];refine Zd ?_;refine jY hT rfl fun m' hm'=> ?_
   have hmg': ∀n,KO m' n=Ft r.visits (k+1) n:=fun n=>by grind
   simp (disch:=omega) only [e3,e4,ZL,ZC,go_sem,seval];refine Nh hT rfl ?_;rw [hm',if_pos rfl];refine Zd ?_;refine ZX ?_ ?_<;>intro h2
   ·have h3: ¬Us r.visits k=true:=by grind
    rw [if_neg h3] at hch2;exact ⟨(k+1,m'),⟨Za,hmg'⟩,Za,Weak.mk (by simp (disch:=omega) only [hch2,go_sem,seval])⟩
   ·have h3:Us r.visits k=true:=by grind
    rw [if_pos h3] at hch2;refine (Bt (nth x.orders (nth r.visits k).order.toNat).now r.typ).use (Zd ?_);refine cD ?_ ?_<;>intro h4<;>simp (disch:=omega) only [Sh.out h4,go_sem,seval,↓reduceIte]
    ·rw [if_pos h4] at hch2;refine (Bt (nth x.orders (nth r.visits k).order.toNat).last r.typ).use (Zd ?_);refine ZX ?_ ?_<;>intro h5
     ·rw [if_pos h5] at hch2;exact ⟨(k+1,m'),⟨Za,hmg'⟩,Za,Weak.mk (by simp (disch:=omega) only [hch2,go_sem,seval])⟩
     ·rw [if_neg (by rw [h5];simp)] at hch2;exact ⟨(k+1,m'),⟨Za,hmg'⟩,Za,Weak.mk (by simp (disch:=omega) only [hch2,UC,go_sem,seval])⟩
    ·rw [if_neg (by rw [h4];simp)] at hch2;refine (Bt (nth x.orders (nth r.visits k).order.toNat).last r.typ).use (Zd ?_);refine ZX ?_ ?_<;>intro h5
     ·rw [if_pos h5] at hch2;exact ⟨(k+1,m'),⟨Za,hmg'⟩,Za,Weak.mk (by simp (disch:=omega) only [hch2,UC,go_sem,seval])⟩
     ·rw [if_neg (by rw [h5];simp)] at hch2;exact ⟨(k+1,m'),⟨Za,hmg'⟩,Za,Weak.mk (by simp (disch:=omega) only [hch2,UC,go_sem,seval])⟩
  grind
end Go.Proofs.YtjkkdmeebhjaiaaGreatDoor.K
namespace Go.Proofs.YtjkkdmeebhjaiaaGreatDoor.K
open Go Go.AM Go.Proofs
set_option maxRecDepth 8000
set_option maxHeartbeats 8000000
@[go_sem] theorem Zeq {f:FuncId} :(PV.fn f).cells= [.fn f]:=Zm rfl rfl
def Zc4 : AM.Obj:= .cells [.p (.bool false),.p (.int .i64 0),.p (.list true []),.p (.int .i64 0),.p (.int .i64 0)]
theorem Pa (x:Inst) (r:Rte) (hx:InstOk x) (hl:r.visits.length<=1048576) (hrl:r.rests.length<=1048576):ACalls Tryz.prog 195 [.p (Zq x),.p (Wp r)] [] fun y H'=>y=B3 x r/\H'= []:=by
 have hld:=Qz hx;have htl:=hld.typ;have hol:=hld.ord;have chk:=kU x r hx hl
 have htb:x.types.length<=6:=by have:=hx.types.1;simp only [rng,Zr] at this;omega
 refine Ze [] Tryz.func195 rfl ZaP ?_;simp (disch:=omega) only [Tryz.f195,go_sem,seval];refine gF ?_ ?_<;>intro h1<;>simp (disch:=omega) only [Sh.out h1,go_sem,seval,↓reduceIte]
 ·have e:X7 x r=2:=by rw [X7,if_pos Za]
  rw [Yy (e:=2) (by rw [Xv,e];rfl) Za];exact we (by simp (disch:=omega) only [zShe,zSco,Zk,go_sem,seval])
 ·refine cD ?_ ?_<;>intro h2<;>simp (disch:=omega) only [Sh.out h2,go_sem,seval,↓reduceIte]
  ·have e:X7 x r=2:=by simp_all [X7]
   rw [Yy (e:=2) (by rw [Xv,e];rfl) Za];exact we (by simp (disch:=omega) only [zShe,zSco,Zk,go_sem,seval])
  ·have hty:0<=r.typ/\r.typ<(x.types.length:Int):=Za
   have hti:r.typ.toNat<x.types.length:=Za
   have hnum:=W0 hx hti;have htyp:nth x.types r.typ.toNat=ZT x r:=rfl;rw [htyp] at hnum
   have hsk: ∀o∈x.orders,o.skills<9223372036854775808:=fun o hm=>by
    obtain ⟨i,hi,rfl⟩:=ZO.1 hm;have:=(hx.orders.2 i hi).skills
    grind [Zj]
   refine Zl [2,3,4,5,25,26] (fun k:Nat=> [(27,.p (.int .i64 k))]) (fun _=> [Zf x,Xp r,Zc4,CZ 0 0 0 0,.elems 1 [.fn 211,.fn 212,.fn 213]])
    (fun k=>k<=3/\(0<k->Xf x r.visits=0)/\(1<k-> ¬(r.visits.any fun v=> !Wo (ZT x r) (nth x.orders v.order.toNat).skills)=true)/\(2<k->Ua x (ZT x r).cap r.visits=true)) (fun k=>3-k) 0 ⟨Za,Za,Za,Za⟩ (Weak.mk ?_) ?_
   ·simp (disch:=omega) only [Zf,Xp,CZ,Zc4,go_sem,seval]
   ·rintro k ⟨hk,k1,k2,k3⟩;simp (disch:=omega) only [Zf,Xp,CZ,Zc4,go_sem,seval];refine cD ?_ ?_<;>intro h3<;>simp (disch:=omega) only [Sh.out h3,go_sem,seval,↓reduceIte]
    ·by_cases hk0:k=0
     ·subst hk0;have he:Kv [PV.fn 211,PV.fn 212,PV.fn 213] 0=PV.fn 211:=rfl;simp (disch:=first | omega | (simp only [ZA,ZH,Zz,Zx,Z7,Xx]<;>omega)) only [he,go_sem,seval,↓reduceIte];refine (chk).use (Zd ?_);refine ZX ?_ ?_<;>intro h4
      ·have e:X7 x r=Xf x r.visits:=by simp_all [X7]
       rw [Yy (e:=Xf x r.visits) (by simp_all [Xv]) h4];exact we (by simp (disch:=omega) only [zShe,zSco,Zk,go_sem,seval])
      ·exact ⟨1,⟨Za,fun _=>Za,Za,Za⟩,Za,wk⟩
     ·have h0:=k1 Za;have hsq:=UY h0
      have hr0:X7 x r=if (r.visits.any fun v=> !Wo (ZT x r) (nth x.orders v.order.toNat).skills)=true then 18 else if Ua x (ZT x r).cap r.visits=false then 17 else if ¬(0<=r.start/\r.start<=4096/\r.rests.length<=r.visits.length+1) then 2 else 0:=by
       rw [X7,if_neg (fun h=>h hty),if_neg Za]
      by_cases hk1:k=1
      ·subst hk1;have he:Kv [PV.fn 211,PV.fn 212,PV.fn 213] 1=PV.fn 212:=rfl;simp (disch:=first | omega | (simp only [ZA,ZH,Zz,Zx,Z7,Xx]<;>omega)) only [he,go_sem,seval,↓reduceIte];refine (kS x r hty (fun v hv=>by have:=hsq.inr v hv;grind [M7]) hl htl Za Za hsk).use (Zd ?_)
       by_cases h5:(r.visits.any fun v=> !Wo (ZT x r) (nth x.orders v.order.toNat).skills)=true
       ·rw [if_pos h5] at hr0 ⊢;rw [Yy (e:=18) (by rw [Xv,hr0];rfl) Za];refine Zd ?_;exact we (by simp (disch:=omega) only [zShe,zSco,Zk,go_sem,seval])
       ·rw [if_neg h5];refine Zd ?_;exact ⟨2,⟨Za,fun _=>h0,fun _=>h5,Za⟩,Za,wk⟩
      ·have hk2:k=2:=Za
       subst hk2;have he:Kv [PV.fn 211,PV.fn 212,PV.fn 213] 2=PV.fn 213:=rfl;simp (disch:=first | omega | (simp only [ZA,ZH,Zz,Zx,Z7,Xx]<;>omega)) only [he,go_sem,seval,↓reduceIte];refine (kP x r hx hl hty h0).use (Zd ?_);rw [if_neg (k2 Za)] at hr0
       cases h5:Ua x (ZT x r).cap r.visits with
       | false =>
        rw [if_pos h5] at hr0;rw [Yy (e:=17) (by rw [Xv,hr0];rfl) Za];simp only [YY,Yo];refine Zd ?_;exact we (by simp (disch:=omega) only [zShe,zSco,Zk,go_sem,seval])
       | true =>
        simp only [if_true];refine Zd ?_;exact ⟨3,⟨Za,fun _=>h0,fun _=>k2 Za,fun _=>Zb⟩,Za,wk⟩
    ·have hk3:k=3:=Za
     subst hk3;have h0:=k1 Za;have hsq:=UY h0
     have hr0:X7 x r=if ¬(0<=r.start/\r.start<=4096/\r.rests.length<=r.visits.length+1) then 2 else 0:=by
      rw [X7,if_neg (fun h=>h hty),if_neg Za,if_neg (k2 Za),if_neg (by grind)]
     have cb:=rV x r hx hl hrl hty h0;have hok:=K7 hx hty hsq
     have hbr:Jd x r=Xq x r->(Xq x r).2=0->(0<=r.start/\r.start<=4096/\r.rests.length<=r.visits.length+1)->(0<=(Xq x r).1.fin/\(Xq x r).1.fin<=8192)/\(0<=(Xq x r).1.miles/\(Xq x r).1.miles<=210000):=fun _ hz hs =>
      Fl hok ⟨hs.1,hs.2.1⟩ (by grind [Yt]) hz
     by_cases h6:0<=r.start/\r.start<=4096/\r.rests.length<=r.visits.length+1
     ·have e:X7 x r=0:=Za
      have ee:Xv x r=(Xq x r).2:=by rw [Xv,if_pos e]
      have eb:Jd x r=Xq x r:=by rw [Jd,if_pos h6]
      have hbr:=fun hz=>hbr eb hz h6;rw [eb] at cb
      have es:WM x r=if (Xq x r).2=0 then (Xq x r).1 else zShe:=by rw [WM,ee]
      have ep:Wf x r=if (Xq x r).2=0 then G9 x r (Xq x r).1 else zSco:=by rw [Wf,ee]
      unfold B3;rw [ee,es,ep];clear ee es ep eb
      generalize Xq x r=q at *
      obtain ⟨sh,eb⟩:=q;simp only at cb hbr ⊢;refine Yc cb (Zd ?_);refine cD ?_ ?_<;>intro h7<;>simp (disch:=omega) only [Sh.out h7,go_sem,seval,↓reduceIte]
      ·exact we (by simp (disch:=omega) only [zShe,zSco,Zk,go_sem,seval])
      ·have h7':eb=0:=Za
       try rw [if_pos h7',if_pos h7']
       subst h7';obtain ⟨g1,g2⟩:=hbr rfl;refine ZB 5 mixed Zg Zg (Zd ?_);refine Zn (kT x r sh hty Za htl hl hsq.inr hnum.2.2.2.1 Za Za Za) (Zd ?_);exact we
     ·have e:X7 x r=2:=Za
      have eb:Jd x r=(zShe,2):=by rw [Jd,if_neg h6]
      rw [Yy (e:=2) (by rw [Xv,e];rfl) Za];rw [eb] at cb;refine Yc cb (Zd ?_);exact we (by simp (disch:=omega) only [zShe,zSco,Zk,go_sem,seval])
theorem Ji {x:Inst} {r:Rte} (h:Xv x r=0):X7 x r=0:=by
 grind [Xv]
theorem AO {x:Inst} {r:Rte} (h:X7 x r=0):(0<=r.typ/\r.typ<(x.types.length:Int))/\Xf x r.visits=0/\(0<=r.start/\r.start<=4096/\r.rests.length<=r.visits.length+1):=by
 unfold X7 at h;omega
theorem MK {x:Inst} {r:Rte} (hx:InstOk x) (h:Xv x r=0):(0<=(WM x r).fin/\(WM x r).fin<=8192)/\(0<=(WM x r).miles/\(WM x r).miles<=210000):=by
 obtain ⟨hty,h0,hs⟩:=AO (Ji h)
 have e:WM x r=(Xq x r).1:=by rw [WM,if_pos h]
 have ee:(Xq x r).2=0:=by rw [Xv,if_pos (Ji h)] at h;exact h
 rw [e];exact Fl (K7 hx hty (UY h0)) ⟨hs.1,hs.2.1⟩ (by grind [Yt]) ee
theorem Hq {x:Inst} {r:Rte} (hx:InstOk x) (hl:r.visits.length<=1048576) (h:Xv x r=0):scoR 1073741824 (Wf x r):=by
 have hg:=MK hx h;obtain ⟨hty,_,_⟩:=AO (Ji h);have hnum:=W0 hx (show r.typ.toNat<x.types.length by omega);have htyp:nth x.types r.typ.toNat=ZT x r:=rfl;rw [htyp] at hnum
 have e:(Xq x r).1=WM x r:=by rw [WM,if_pos h]
 have hch:=BW (x:=x) (l:=r.visits) (t:=r.typ) r.visits.length;rw [Wf,if_pos h,e];unfold G9 scoR
 generalize WM x r=s at *
 generalize ZT x r=t at *
 have p1:0<=t.perMile*s.miles/\t.perMile*s.miles<=100*210000:=⟨Uy Za Za,VS Za Za Za Za⟩
 have hW: -8192<=s.fin-t.opn/\s.fin-t.opn<=8192:=Za
 have p2: -819200<=t.perTick*(s.fin-t.opn)/\t.perTick*(s.fin-t.opn)<=819200:=by
  generalize s.fin-t.opn=w at hW;have a1:=Du hW.2 (show 0<=t.perTick by omega);have a2:=Du hW.1 (show 0<=t.perTick by omega);omega
 have p3: -128<=(s.fin-t.opn).tdiv 64/\(s.fin-t.opn).tdiv 64<=128:=by
  grind
 have p4:0<=(s.fin-t.opn).tdiv 64*(s.fin-t.opn).tdiv 64/\(s.fin-t.opn).tdiv 64*(s.fin-t.opn).tdiv 64<=16384:=by
  generalize (s.fin-t.opn).tdiv 64=q at p3;refine ⟨?_,?_⟩
  ·rcases Ay 0 q with h | h
   ·exact Uy h h
   ·exact Int.mul_nonneg_of_nonpos_of_nonpos h h
  ·rcases Ay 0 q with h | h
   ·have:=VS p3.2 p3.2 h Za;omega
   ·have h2:0<= -q:=Za
    have:=VS (show-q<=128 by omega) (show-q<=128 by omega) h2 Za
    grind
 grind
def WI (x:Inst) (r:Rte):Int×Int:=if Xv x r=0 then Y1 (Wf x r) else (0,Xv x r)
theorem nA (s:Sco):0<=(Y1 s).1/\(Y1 s).1<=36028797018963968:=by
 grind [Y1]
theorem NJ (x:Inst) (r:Rte):0<=(WI x r).1/\(WI x r).1<=36028797018963968:=by
 unfold WI
 split
 ·exact nA _
 ·simp
theorem bQ (x:Inst) (r:Rte) (hx:InstOk x) (hb:ZcZ r):PT 164 [.p (Zq x),.p (Wp r)] [.p (.int .i64 (WI x r).1),.p (.int .i64 (WI x r).2)]:=by
 have ce:=Pa x r hx hb.1 hb.2;refine Ze [] Tryz.func164 rfl Zaw ?_;simp (disch:=omega) only [Tryz.f164,go_sem,seval];unfold B3 at ce;refine Om ce (Zd ?_);refine cD ?_ ?_<;>intro h1<;>simp (disch:=omega) only [Sh.out h1,go_sem,seval,↓reduceIte]
 ·rw [WI,if_neg h1];exact we
 ·have h0:Xv x r=0:=Za
  rw [WI,if_pos h0];refine YJ (HU (Wf x r) (AP Za (Hq hx hb.1 h0))) (Zd ?_);exact we
theorem NO (x:Inst) (r:Rte) (hx:InstOk x) (hb:ZcZ r):PT 149 [.p (Zq x),.p (Wp r)] [.p (.int .i64 (WI x r).1),.p (.int .i64 (WI x r).2)]:=by
 have ce:=B4 x r hx hb.1 hb.2;refine Ze [] Tryz.func149 rfl Zan ?_;simp (disch:=omega) only [Tryz.f149,go_sem,seval];unfold B3 at ce;refine Om ce (Zd ?_);refine cD ?_ ?_<;>intro h1<;>simp (disch:=omega) only [Sh.out h1,go_sem,seval,↓reduceIte]
 ·rw [WI,if_neg h1];exact we
 ·have h0:Xv x r=0:=Za
  rw [WI,if_pos h0];refine YJ (GG (Wf x r) (AP Za (Hq hx hb.1 h0))) (Zd ?_);exact we
end Go.Proofs.YtjkkdmeebhjaiaaGreatDoor.K
