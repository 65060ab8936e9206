/- Declarations that the closing texts need, part 20: joined by tools/slim.py. -/
import Derived.Test.YtcpmilhkineciaaGreatDoorZ19
set_option linter.unusedVariables false
set_option linter.unusedSimpArgs false
namespace Go.Proofs.YtcpmilhkineciaaGreatDoor.K
open Go Go.AM Go.Proofs
set_option maxRecDepth 8000
set_option maxHeartbeats 8000000
theorem ZcG {g:FuncId} {args:List V} {a b c:PV} {H:List AM.Obj} {K:V->List AM.Obj->Prop} (h:ACalls Tryz.prog g args [] fun x H'=>x= .tup [.p a,.p b,.p c]/\H'= []) (k:K (.tup [.p a,.p b,.p c]) H) (ha:ZJ 0 args=true:=by rfl):ACalls Tryz.prog g args H K :=
 (h.behind ha H).mono fun x H' hq=>by
  obtain ⟨y,H1,⟨rfl,rfl⟩,rfl,rfl⟩:=hq;simpa [shV,shVs] using k
theorem Xi {g:FuncId} {args:List V} {a b:PV} {H:List AM.Obj} {K:V->List AM.Obj->Prop} (h:ACalls Tryz.prog g args [] fun x H'=>x= .tup [.p a,.p b]/\H'= []) (k:K (.tup [.p a,.p b]) H) (ha:ZJ 0 args=true:=by rfl):ACalls Tryz.prog g args H K :=
 (h.behind ha H).mono fun x H' hq=>by
  obtain ⟨y,H1,⟨rfl,rfl⟩,rfl,rfl⟩:=hq;simpa [shV,shVs] using k
def VU (n:Net) (p:Int):Bool:=decide (0<=p)&&decide (p<(n.places.length:Int))
theorem J5 (n:Net) (p:Int) (hn:n.places.length<=1048576):PC 319 [.p (ZaQ n),.p (.int .i64 p)] (.bool (VU n p)):=by
 refine Za Tryz.func319 rfl ZpN ?_;simp (disch:=omega) only [Tryz.f319,go_sem,seval];refine gT ?_ ?_<;>intro h<;>simp (disch:=omega) only [Sh.out h,go_sem,seval]
 ·simp [VU,h]
 ·simp [VU,h]
def Yq (pr f t:Int) (a:Arc):Bool:=decide (a.src=f)&&decide (a.dst=t)&&decide (a.prof=pr)
def XF : Arc:=⟨0,0,0,0,true,[],true,[]⟩
def Yh (n:Net) (pr f t:Int):Arc×Bool:=match n.arcs.find? (Yq pr f t) with | some a=>(a,true) | none=>(XF,false)
theorem ZbK {n:Net} {pr f t:Int} {k:Nat} (hk:k<n.arcs.length) (hno: ∀j,j<k->Yq pr f t (nth n.arcs j)=false) (h:Yq pr f t (nth n.arcs k)=true):Yh n pr f t=(nth n.arcs k,true):=by
 have:n.arcs.find? (Yq pr f t)=some (nth n.arcs k):=by
  rw [List.find?_eq_some_iff_getElem];refine ⟨h,k,hk,by rw [Zf hk],fun j hj=> ?_⟩;have:=hno j hj;rw [Zf (by omega)] at this;simp [this]
 rw [Yh,this]
theorem Za7 {n:Net} {pr f t:Int} (hno: ∀j,j<n.arcs.length->Yq pr f t (nth n.arcs j)=false):Yh n pr f t=(XF,false):=by
 have:n.arcs.find? (Yq pr f t)=none:=by
  rw [List.find?_eq_none];intro a ha;obtain ⟨j,hj,rfl⟩:=List.mem_iff_getElem.1 ha;have:=hno j hj;rw [Zf hj] at this;simp [this]
 rw [Yh,this]
theorem Zf1 (n:Net) (pr f t:Int) (hn:n.arcs.length<=1048576):PT 320 [.p (ZaQ n),.p (.int .i64 pr),.p (.int .i64 f),.p (.int .i64 t)] [.p (VM (Yh n pr f t).1),.p (.bool (Yh n pr f t).2)]:=by
 refine Zd [] Tryz.func320 rfl ZqH ?_;simp (disch:=omega) only [Tryz.f320,go_sem,seval];refine Zg [1,2,3,4,8] (fun k:Nat=> [(10,.p (.int .i64 k))]) (fun _=>Zx n++ [XS XF]) (fun k=>k<=n.arcs.length/\ ∀j,j<k->Yq pr f t (nth n.arcs j)=false) (fun k=>n.arcs.length-k) 0 (by simp) (Weak.mk ?_) ?_
 ·simp (disch:=omega) only [Zx,XS,XF,List.map_nil,List.cons_append,List.nil_append,go_sem,seval]
 ·rintro k ⟨hk,hno⟩;simp (disch:=omega) only [Zx,XS,XF,List.map_nil,List.cons_append,List.nil_append,go_sem,seval];refine cD ?_ ?_<;>intro h<;>simp (disch:=omega) only [Sh.out h,go_sem,seval]
  ·have hk2:k<n.arcs.length:=by omega
   have nx:Yq pr f t (nth n.arcs k)=false-> ∀j,j<k+1->Yq pr f t (nth n.arcs j)=false:=fun h=>Ze.2 ⟨hno,h⟩;refine gT ?_ ?_<;>intro h1<;>simp (disch:=omega) only [Sh.out h1,go_sem,seval]
   ·refine gT ?_ ?_<;>intro h2<;>simp (disch:=omega) only [Sh.out h2,go_sem,seval]
    ·refine cD ?_ ?_<;>intro h3<;>simp (disch:=omega) only [Sh.out h3,go_sem,seval]
     ·have e:=ZbK hk2 hno (by simp [Yq,h1,h2,h3]);rw [e];exact we
     ·exact ⟨k+1,⟨by omega,nx (by simp [Yq,h3])⟩,by omega,Weak.mk (by simp (disch:=omega) only [Zx,XS,XF,List.map_nil,List.cons_append,List.nil_append,go_sem,seval])⟩
    ·exact ⟨k+1,⟨by omega,nx (by simp [Yq,h2])⟩,by omega,Weak.mk (by simp (disch:=omega) only [Zx,XS,XF,List.map_nil,List.cons_append,List.nil_append,go_sem,seval])⟩
   ·exact ⟨k+1,⟨by omega,nx (by simp [Yq,h1])⟩,by omega,Weak.mk (by simp (disch:=omega) only [Zx,XS,XF,List.map_nil,List.cons_append,List.nil_append,go_sem,seval])⟩
  ·have hkn:k=n.arcs.length:=by omega
   subst hkn;rw [Za7 hno];exact we (by simp (disch:=omega) only [XF,List.map_nil,go_sem,seval])
def goN (n:Net) (pr f t τ:Int):Int×Int×Int :=
 if (VU n f&&VU n t)=false then (0,0,11) else if f=t then (τ,0,0) else if (Yh n pr f t).2=true then (Zgz (Yh n pr f t).1 τ,(Yh n pr f t).1.miles,0) else (0,0,12)
def netR (n:Net):Prop:=n.places.length<=1048576/\n.arcs.length<=1048576/\ ∀a∈n.arcs,Zt3 a
theorem WY {n:Net} {pr f t:Int} (h:(Yh n pr f t).2=true):(Yh n pr f t).1∈n.arcs:=by
 unfold Yh at h ⊢
 cases hf:n.arcs.find? (Yq pr f t) with
 | none=>rw [hf] at h;simp at h
 | some a=>exact List.mem_of_find?_eq_some hf
theorem Zph (n:Net) (pr f t τ:Int) (hn:netR n) (hτ:0<=τ/\τ<=1073741824):PT 308 [.p (ZaQ n),.p (.int .i64 pr),.p (.int .i64 f),.p (.int .i64 t),.p (.int .i64 τ)] [.p (.int .i64 (goN n pr f t τ).1),.p (.int .i64 (goN n pr f t τ).2.1),.p (.int .i64 (goN n pr f t τ).2.2)]:=by
 refine Zd [] Tryz.func308 rfl ZpO ?_;simp (disch:=omega) only [Tryz.f308,go_sem,seval];refine (J5 n f hn.1).use ?_;simp (disch:=omega) only [go_sem,seval];refine gF ?_ ?_<;>intro h1<;>simp (disch:=omega) only [Sh.out h1,go_sem,seval]
 ·have e:goN n pr f t τ=(0,0,11):=by simp only [Bool.not_eq_true'] at h1;simp [goN,h1]
  rw [e];exact we
 ·simp only [Bool.not_eq_false'] at h1;refine (J5 n t hn.1).use ?_;simp (disch:=omega) only [go_sem,seval];refine cD ?_ ?_<;>intro h2<;>simp (disch:=omega) only [Sh.out h2,go_sem,seval]
  ·have e:goN n pr f t τ=(0,0,11):=by simp only [Bool.not_eq_true'] at h2;simp [goN,h2]
   rw [e];exact we
  ·simp only [Bool.not_eq_false'] at h2;refine cD ?_ ?_<;>intro h3<;>simp (disch:=omega) only [Sh.out h3,go_sem,seval]
   ·have e:goN n pr f t τ=(τ,0,0):=by simp [goN,h1,h2,h3]
    rw [e];exact we
   ·have cf:=Zf1 n pr f t hn.2.1;have hm:= @WY n pr f t
    have e0:goN n pr f t τ=if (Yh n pr f t).2=true then (Zgz (Yh n pr f t).1 τ,(Yh n pr f t).1.miles,0) else (0,0,12):=by simp [goN,h1,h2,h3]
    rw [e0];generalize Yh n pr f t=A at cf hm ⊢;obtain ⟨a,b⟩:=A;simp only at cf hm ⊢;refine Xi cf ?_;simp (disch:=omega) only [go_sem,seval];refine cD ?_ ?_<;>intro h4<;>simp (disch:=omega) only [Sh.out h4,go_sem,seval]
    ·have hb:b=false:=by simpa using h4
     subst hb;exact we
    ·have hb:b=true:=by simpa using h4
     subst hb;refine Zh Zp (by kernel_rfl) (by kernel_rfl) ?_;simp (disch:=omega) only [go_sem,seval];refine Zn (ZcB a τ (hn.2.2 a (hm rfl)) hτ) ?_;simp (disch:=omega) only [go_sem,seval];exact we
theorem ZeK {n:Nat} (h:n<10):dec n= [UInt8.ofNat (48+n)]:=by rw [dec,dif_pos h]
theorem ZkH {n:Nat} (h:10<=n) (h2:n<100):dec n= [UInt8.ofNat (48+n / 10),UInt8.ofNat (48+n%10)]:=by
 rw [dec,dif_neg (by omega),ZeK (by omega)];rfl
theorem ZaI {s:List UInt8} {k k':IntKind} {a b:Int} (h:0<=a/\a<=b/\b<=(s.length:Int)):Zhl (some .string) s (.p (.int k a)) (.p (.int k' b))=some (.p (.str ((s.take b.toNat).drop a.toNat))):=by
 simp only [Zhl,if_pos h]
def digT : List UInt8:=(List.range 36).map fun i=>UInt8.ofNat (if i<10 then 48+i else 87+i)
def smalT : List UInt8:=(List.range 100).flatMap fun i=> [UInt8.ofNat (48+i / 10),UInt8.ofNat (48+i%10)]
theorem Zkm : ∀n,n<10->(digT.take (n+1)).drop n= [UInt8.ofNat (48+n)]:=by decide
theorem ZgG : ∀n,n<100->(smalT.take (2*n+2)).drop (2*n)= [UInt8.ofNat (48+n / 10),UInt8.ofNat (48+n%10)]:=by decide+kernel
theorem ZiT (n:Nat) (hn:n<100):PC 332 [.p (.int .i64 (n:Int))] (.str (dec n)):=by
 refine Za Tryz.func332 rfl ZnM ?_;simp (disch:=omega) only [Tryz.f332,go_sem,seval];refine cD ?_ ?_<;>intro h<;>simp (disch:=omega) only [Sh.out h,go_sem,seval]
 ·rw [ZeK (by omega),ZaI (by simp;omega)]
  have e1:((n:Int)+1).toNat=n+1:=by omega
  have e2:((n:Int)).toNat=n:=by omega
  rw [e1,e2];refine (congrArg (fun z=>pst (some (V.p (PV.str z))) _) (Zkm n (by omega))).mpr ?_;simp (disch:=omega) only [go_sem,seval]
 ·rw [ZkH (by omega) hn,ZaI (by simp;omega)]
  have e1:((n:Int)*2+2).toNat=2*n+2:=by omega
  have e2:((n:Int)*2).toNat=2*n:=by omega
  rw [e1,e2];refine (congrArg (fun z=>pst (some (V.p (PV.str z))) _) (ZgG n (by omega))).mpr ?_;simp (disch:=omega) only [go_sem,seval]
theorem ZfY (n:Nat) (hn:n<100):PC 331 [.p (.int .i64 (n:Int)),.p (.int .i64 10)] (.str (dec n)):=by
 refine Za Tryz.func331 rfl ZrC ?_
 have h0:(0:Int)<=(n:Int):=by omega
 have h1:(n:Int)<100:=by omega
 simp (disch:=omega) only [Tryz.f331,h0,h1,go_sem,seval];refine (ZiT n hn).use ?_;simp (disch:=omega) only [go_sem,seval]
theorem Zj5 (n:Nat) (hn:n<100):PC 330 [.p (.int .i64 (n:Int))] (.str (dec n)):=by
 refine Za Tryz.func330 rfl Znz ?_;simp (disch:=omega) only [Tryz.f330,go_sem,seval];refine (ZfY n hn).use ?_;simp (disch:=omega) only [go_sem,seval]
theorem ZoI (n:Nat) (hn:n<100):PC 329 [.p (.int .i64 (n:Int))] (.str (dec n)):=by
 refine Za Tryz.func329 rfl ZoX ?_;simp (disch:=omega) only [Tryz.f329,go_sem,seval];refine (Zj5 n hn).use ?_;simp (disch:=omega) only [go_sem,seval]
theorem ZaX (n a b:Int):PC 322 [.p (.int .i64 n),.p (.int .i64 a),.p (.int .i64 b)] (.bool (decide (a<=n)&&decide (n<=b))):=by
 refine Za Tryz.func322 rfl ZoZ ?_;simp (disch:=omega) only [Tryz.f322,go_sem,seval]
 repeat' (first | (refine ZR (fun hq=> ?_) (fun hq=> ?_)<;>(try simp only [decide_eq_true_eq,decide_eq_false_iff_not,Classical.not_not] at hq)<;>simp (disch:=omega) only [Sh.out hq,go_sem,seval]) | (refine ZS (fun hq=> ?_) (fun hq=> ?_)<;>(try simp only [decide_eq_true_eq,decide_eq_false_iff_not,Classical.not_not] at hq)<;>simp (disch:=omega) only [Sh.out hq,go_sem,seval]) | (refine Z9 (fun hq=> ?_) (fun hq=> ?_)<;>(try simp only [decide_eq_true_eq,decide_eq_false_iff_not,Classical.not_not] at hq)<;>simp (disch:=omega) only [Sh.out hq,go_sem,seval]))
 all_goals (simp;first | done | omega)
theorem Zhj (l:List Pt) (c:Bool) (hl:Yy l):PC 326 [.p (.list c (l.map ePt))] (.list true []):=by
 obtain ⟨⟨hl1,hl2⟩,hpt⟩:=hl;refine Za Tryz.func326 rfl ZnQ ?_
 have e1: ¬(l.length:Int)=0:=by omega
 have e2: ¬(16:Int)<(l.length:Int):=by omega
 simp (disch:=omega) only [Tryz.f326,e1,e2,go_sem,seval];refine Zg [0,19,20] (fun k:Nat=> [(3,.p (.list true [])),(21,.p (.int .i64 k))]) (fun _=> []) (fun k=>k<=l.length) (fun k=>l.length-k) 0 (by simp) (Weak.mk ?_) ?_
 ·simp (disch:=omega) only [go_sem,seval]
 ·intro k hk;simp (disch:=omega) only [go_sem,seval];refine cD ?_ ?_<;>intro h<;>simp (disch:=omega) only [Sh.out h,go_sem,seval]
  ·have hk2:k<l.length:=by omega
   obtain ⟨⟨p1,p2,p3,p4⟩,q⟩:=hpt k hk2;refine (ZoI k (by omega)).use ?_;simp (disch:=omega) only [go_sem,seval];refine (ZaX (nth l k).t 0 4096).use ?_;simp (disch:=omega) only [go_sem,seval];simp (disch:=omega) only [p1,p2,go_sem,seval];refine gF ?_ ?_<;>intro h3<;>simp (disch:=omega) only [Sh.out h3,go_sem,seval]
   ·omega
   ·refine cD ?_ ?_<;>intro h4<;>simp (disch:=omega) only [Sh.out h4,go_sem,seval]
    ·omega
    ·refine Zh Zp (by kernel_rfl) (by kernel_rfl) ?_;simp (disch:=omega) only [go_sem,seval];refine gT ?_ ?_<;>intro h5<;>simp (disch:=omega) only [Sh.out h5,go_sem,seval]
     ·obtain ⟨r1,r2⟩:=q (by omega);refine gF ?_ ?_<;>intro h6<;>simp (disch:=omega) only [Sh.out h6,go_sem,seval]
      ·omega
      ·refine cD ?_ ?_<;>intro h7<;>simp (disch:=omega) only [Sh.out h7,go_sem,seval]
       ·omega
       ·exact ⟨k+1,by omega,by omega,wk⟩
     ·exact ⟨k+1,by omega,by omega,wk⟩
theorem Zfo (p:Pt) (t:Int) (h:0<=p.t/\p.t<=4096) (ht:0<=t/\t<=1073741824):PC 328 [.p (ePt p),.p (.int .i64 t)] (.int .i64 (p.t-t)):=by
 refine Za Tryz.func328 rfl Zrg ?_;simp (disch:=omega) only [Tryz.f328,go_sem,seval]
theorem Zko (l:List Pt) (c:Bool) (hl:Yy l):PC 323 [.p (.list c (l.map ePt))] (.bool true):=by
 refine Za Tryz.func323 rfl Zqg ?_;simp (disch:=omega) only [Tryz.f323,go_sem,seval];refine (Zhj l c hl).use ?_;simp (disch:=omega) only [go_sem,seval]
structure PosT (l:List Pt) (t:Int) (i:Nat):Prop where
 le:i<=l.length
 lo: ∀j,j<i->(nth l j).t<t
 hi: ∀j,i<=j->j<l.length->t<=(nth l j).t
theorem Zvs (l:List Pt) (c:Bool) (t:Int) (i:Nat) (hl:Yy l) (ht:0<=t/\t<=1073741824) (hi:PosT l t i):PT 327 [.p (.list c (l.map ePt)),.p (.int .i64 t),.fn (.func 328) [] []] [.p (.int .i64 (i:Int)),.p (.bool (decide (i<l.length)&&decide ((nth l i).t=t)))]:=by
 obtain ⟨⟨hl1,hl2⟩,hpt⟩:=hl;obtain ⟨hi1,hi2,hi3⟩:=hi;refine Zd [] Tryz.func327 rfl Zqa ?_;simp (disch:=omega) only [Tryz.f327,go_sem,seval];refine Zg [0,1,2,8] (fun q:Nat×Nat=> [(9,.p (.int .i64 q.1)),(10,.p (.int .i64 q.2))]) (fun _=> []) (fun q=>q.1<=i/\i<=q.2/\q.2<=l.length) (fun q=>q.2-q.1) (0,l.length) (by simp;omega) (Weak.mk ?_) ?_
 ·simp (disch:=omega) only [go_sem,seval]
 ·rintro ⟨a,b⟩ ⟨h1,h2,h3⟩;simp only at h1 h2 h3;simp (disch:=omega) only [go_sem,seval];refine cD ?_ ?_<;>intro h<;>simp (disch:=omega) only [Sh.out h,go_sem,seval]
  ·have hm:(a+b) / 2<l.length:=by omega
   obtain ⟨⟨p1,p2,p3,p4⟩,q⟩:=hpt _ hm
   have hs:((a:Int)+(b:Int)).fdiv (2^min 1 64)=(((a+b) / 2:Nat):Int):=by
    rw [Int.fdiv_eq_ediv_of_nonneg _ (by decide)];norm_cast
   have em:((((a+b) / 2:Nat)):Int).toNat=(a+b) / 2:=by omega
   have hnb:((a+b) / 2<i)↔(nth l ((a+b) / 2)).t-t<0:=by
    constructor
    ·intro hh;have:=hi2 _ hh;omega
    ·intro hh
     by_cases g:(a+b) / 2<i
     ·exact g
     ·have:=hi3 _ (by omega) hm;omega
   rw [hs];simp (disch:=omega) only [go_sem,seval];refine (Zfo (nth l ((a+b) / 2)) t ⟨p1,p2⟩ ht).use ?_;simp (disch:=omega) only [go_sem,seval];refine cD ?_ ?_<;>intro h4<;>simp (disch:=omega) only [Sh.out h4,go_sem,seval]
   ·exact ⟨((a+b) / 2+1,b),⟨by simp only;have:=hnb.2 h4;omega,h2,h3⟩,by simp only;omega,wk⟩
   ·exact ⟨(a,(a+b) / 2),⟨h1,by simp only;have:=fun g=>h4 (hnb.1 g);omega,by simp only;omega⟩,by simp only;omega,wk⟩
  ·have:a=i:=by omega
   subst this;refine gT ?_ ?_<;>intro h4<;>simp (disch:=omega) only [Sh.out h4,go_sem,seval]
   ·have hm:a<l.length:=by omega
    obtain ⟨⟨p1,p2,p3,p4⟩,q⟩:=hpt _ hm;refine (Zfo (nth l a) t ⟨p1,p2⟩ ht).use ?_;simp (disch:=omega) only [go_sem,seval];have e5:((nth l a).t-t=0)=((nth l a).t=t):=propext (by omega);exact we (by simp (disch:=omega) only [e5,hm,go_sem,seval])
   ·have hm: ¬a<l.length:=by omega
    exact we (by simp (disch:=omega) only [hm,go_sem,seval])
theorem Ua {l:List Pt} (hl:Yy l) {k:Nat} (hk:k<l.length): ∀j,j<k->(nth l j).t<(nth l k).t:=by
 obtain ⟨_,hpt⟩:=hl
 induction k with
 | zero=>intro j hj;omega
 | succ k ih =>
  intro j hj;obtain ⟨_,q⟩:=hpt (k+1) hk;obtain ⟨r1,_⟩:=q (by omega);rw [Nat.add_sub_cancel] at r1;rcases Nat.lt_succ_iff_lt_or_eq.1 hj with h | h
  ·exact Int.lt_trans (ih (by omega) j h) r1
  ·subst h;exact r1
theorem Zjq {l:List Pt} (hl:Yy l) (t:Int): ∃i,PosT l t i:=by
 have: ∀n,n<=l.length-> ∃i,i<=n/\(∀j,j<i->(nth l j).t<t)/\(i<n->t<=(nth l i).t):=by
  intro n
  induction n with
  | zero=>intro _;exact ⟨0,by omega,fun j hj=>by omega,fun h=>by omega⟩
  | succ n ih =>
   intro hn;obtain ⟨i,h1,h2,h3⟩:=ih (by omega)
   by_cases g:i<n
   ·exact ⟨i,by omega,h2,fun _=>h3 g⟩
   ·have:i=n:=by omega
    subst this
    by_cases g2:(nth l i).t<t
    ·exact ⟨i+1,by omega,Ze.2 ⟨h2,g2⟩,fun h=>by omega⟩
    ·exact ⟨i,by omega,h2,fun _=>by omega⟩
 obtain ⟨i,h1,h2,h3⟩:=this l.length (Nat.le_refl _);refine ⟨i,h1,h2,fun j hj hjl=> ?_⟩;rcases Nat.lt_or_eq_of_le hj with h | h
 ·have:=Ua hl hjl i h;have:=h3 (by omega);omega
 ·subst h;exact h3 hjl
theorem ZkO {l:List Pt} {t:Int} {i:Nat} (hl:Yy l) (h:PosT l t i) (hi:i<l.length) (e:(nth l i).t=t):Q1 l t=(nth l i).a:=by
 by_cases g:i+1<l.length
 ·have m:=Ua hl g i (by omega);rw [KX g (fun j hj=> ?_) (by simp [UX,e];omega),ZfL]
  ·rw [e,Int.sub_self,Int.zero_mul,Int.zero_add];rw [Int.ediv_eq_zero_of_lt (by omega) (by omega)];omega
  ·have:(nth l (j+1)).t<=t:=by
    rcases Nat.lt_or_eq_of_le (show j+1<=i by omega) with h1 | h1
    ·have:=h.lo _ h1;omega
    ·rw [h1,e];exact Int.le_refl _
   simp [UX];omega
 ·have hi1:i=l.length-1:=by omega
  rw [QO (fun j hj=> ?_)]
  ·split
   ·rw [<- hi1];omega
   ·have:i=0:=by
     by_cases g2:i=0
     ·exact g2
     ·have:=h.lo 0 (by omega);omega
    subst this;omega
  ·have:(nth l (j+1)).t<=t:=by
    rcases Nat.lt_or_eq_of_le (show j+1<=i by omega) with h1 | h1
    ·have:=h.lo _ h1;omega
    ·rw [h1,e];exact Int.le_refl _
   simp [UX];omega
theorem Zks {l:List Pt} {t:Int} (hl:Yy l) (h:PosT l t 0) (e: ¬(nth l 0).t=t):Q1 l t=t+(nth l 0).a-(nth l 0).t:=by
 have h0:=h.hi 0 (Nat.le_refl _) hl.1.1;rw [QO (fun j hj=> ?_),if_neg (by omega)]
 have:t<(nth l j).t:=by
  by_cases g:j=0
  ·subst g;omega
  ·have:=Ua hl (show j<l.length by omega) 0 (by omega);omega
 simp [UX];omega
theorem ZiS {l:List Pt} {t:Int} (h:PosT l t l.length) (hl:0<l.length):Q1 l t=t+(nth l (l.length-1)).a-(nth l (l.length-1)).t:=by
 rw [QO (fun j hj=> ?_),if_pos (h.lo 0 hl)];have:=h.lo (j+1) hj;simp [UX];omega
theorem Zhf {l:List Pt} {t:Int} {i:Nat} (h:PosT l t i) (h0:0<i) (hi:i<l.length) (e: ¬(nth l i).t=t):Q1 l t=ZfL (nth l (i-1)) (nth l i) t:=by
 have e1:i-1+1=i:=by omega
 have h1:=h.lo (i-1) (by omega);have h2:=h.hi i (Nat.le_refl _) hi;have:=KX (l:=l) (t:=t) (i:=i-1) (by omega) (fun j hj=>by have:=h.lo (j+1) (by omega);simp [UX];omega) (by rw [UX,e1];simp;omega);rw [this,e1]
theorem JL {p q:Pt} {t:Int} (h1:p.t<=t) (h2:t<q.t) (hp:0<=p.t) (hq:q.t<=4096) (ha:p.a<=q.a) (hpa:0<=p.a) (hqa:q.a<=8192) :
  IntKind.i64.wrap (p.a+IntKind.i64.wrap ((IntKind.i64.wrap (IntKind.i64.wrap (IntKind.i64.wrap ((t-p.t)*(q.a-p.a))+(q.t-p.t))-1)).tdiv (q.t-p.t)))=ZfL p q t:=by
 have hm:=QB h1 h2 hp hq ha hpa hqa;unfold ZfL;generalize hM:(t-p.t)*(q.a-p.a)=m at hm
 have hd:0<=(m+(q.t-p.t)-1) / (q.t-p.t)/\(m+(q.t-p.t)-1) / (q.t-p.t)<=m+(q.t-p.t)-1:=by
  refine ⟨Int.ediv_nonneg (by omega) (by omega),Int.ediv_le_self _ (by omega)⟩
 rw [IntWalk.i64_in m (by omega),IntWalk.i64_in (m+(q.t-p.t)) (by omega),IntWalk.i64_in (m+(q.t-p.t)-1) (by omega),Int.tdiv_eq_ediv_of_nonneg (by omega),IntWalk.i64_in ((m+(q.t-p.t)-1) / (q.t-p.t)) (by omega),IntWalk.i64_in _ (by omega)]
 congr 2
 omega
theorem Zcw (l:List Pt) (c:Bool) (t:Int) (hl:Yy l) (ht:0<=t/\t<=1073741824):PC 324 [.p (.list c (l.map ePt)),.p (.int .i64 t)] (.int .i64 (Q1 l t)):=by
 obtain ⟨i,hi⟩:=Zjq hl t;have hl':=hl;obtain ⟨⟨hl1,hl2⟩,hpt⟩:=hl';refine Za Tryz.func324 rfl Zmn ?_;simp (disch:=omega) only [Tryz.f324,go_sem,seval];refine Xi (Zvs l c t i hl ht hi) ?_;simp (disch:=omega) only [go_sem,seval];obtain ⟨i1,i2,i3⟩:=id hi;refine cD ?_ ?_<;>intro h<;>simp (disch:=omega) only [Sh.out h,go_sem,seval]
 ·obtain ⟨h1,h2⟩:=h;have:=hpt i h1;rw [ZkO hl hi h1 h2]
 ·refine cD ?_ ?_<;>intro h0<;>simp (disch:=omega) only [Sh.out h0,go_sem,seval]
  ·have:i=0:=by omega
   subst this;obtain ⟨p1,p2⟩:=hpt 0 (by omega);rw [Zks hl hi (fun g=>h ⟨by omega,g⟩)];refine Zh Zp (by kernel_rfl) (by kernel_rfl) ?_;simp (disch:=omega) only [go_sem,seval]
  ·refine cD ?_ ?_<;>intro h1<;>simp (disch:=omega) only [Sh.out h1,go_sem,seval]
   ·have:i=l.length:=by omega
    subst this;obtain ⟨p1,p2⟩:=hpt (l.length-1) (by omega);rw [ZiS hi (by omega)]
    have e1:((l.length:Int)-1).toNat=l.length-1:=by omega
    refine Zh Zp (by kernel_rfl) (by kernel_rfl) ?_;simp (disch:=omega) only [go_sem,seval]
   ·have g1:i<l.length:=by omega
    rw [Zhf hi (by omega) g1 (fun g=>h ⟨g1,g⟩)];have g2:=Ua hl g1 (i-1) (by omega);obtain ⟨p1,p2⟩:=hpt i g1;obtain ⟨p3,p4⟩:=hpt (i-1) (by omega)
    have e1:((i:Int)-1).toNat=i-1:=by omega
    have q1:=i2 (i-1) (by omega);have q2:=i3 i (Nat.le_refl _) g1;have q3: ¬(nth l i).t=t:=fun g=>h ⟨g1,g⟩;have q4:=p2 (by omega);refine Xd [9,10,11] 12 Zp (by kernel_rfl) (by kernel_rfl) (by kernel_rfl) (by simp) ?_;simp (disch:=omega) only [e1,go_sem,seval];refine UU 9 10 _ _ _ _ (by kernel_rfl) (by simp (disch:=omega) only [go_sem,seval];exact ⟨rfl,rfl⟩) (by simp (disch:=omega) only [go_sem,seval];exact ⟨rfl,rfl⟩) ?_ ?_
    ·refine ZG 10 _ _ (by kernel_rfl) (by simp (disch:=omega) only [go_sem,seval];exact ⟨rfl,rfl⟩) (ZG 11 _ _ (by kernel_rfl) (by simp (disch:=omega) only [go_sem,seval];exact ⟨rfl,rfl⟩) (XZ ?_));simp (disch:=omega) only [go_sem,seval];refine Zh Zp (by kernel_rfl) (by kernel_rfl) ?_;simp (disch:=omega) only [go_sem,seval];exact congrArg (fun z=>V.p (PV.int IntKind.i64 z)) (JL (by omega) (by omega) (by omega) (by omega) (by omega) (by omega) (by omega))
    ·refine ZG 9 _ _ (by kernel_rfl) (by simp (disch:=omega) only [go_sem,seval];exact ⟨rfl,rfl⟩) (ZG 11 _ _ (by kernel_rfl) (by simp (disch:=omega) only [go_sem,seval];exact ⟨rfl,rfl⟩) (XZ ?_));simp (disch:=omega) only [go_sem,seval];refine Zh Zp (by kernel_rfl) (by kernel_rfl) ?_;simp (disch:=omega) only [go_sem,seval];exact congrArg (fun z=>V.p (PV.int IntKind.i64 z)) (JL (by omega) (by omega) (by omega) (by omega) (by omega) (by omega) (by omega))
theorem Zem (l:List Pt) (c:Bool) (t:Int) (hl:Yy l) (ht:0<=t/\t<=1073741824):PC 318 [.p (.list c (l.map ePt)),.p (.int .i64 t)] (.int .i64 (Q1 l t)):=by
 refine Za Tryz.func318 rfl ZmE ?_;simp (disch:=omega) only [Tryz.f318,go_sem,seval];refine (ZaX t 0 1073741824).use ?_;simp (disch:=omega) only [go_sem,seval];simp (disch:=omega) only [ht,go_sem,seval];refine (Zko l c hl).use ?_;simp (disch:=omega) only [go_sem,seval];refine (Zcw l c t hl ht).use ?_;simp (disch:=omega) only [go_sem,seval]
theorem Zbt (n:Net) (p:Int) (hn:n.places.length<=1048576):PC 302 [.p (ZaQ n),.p (.int .i64 p)] (.bool (VU n p)):=by
 refine Za Tryz.func302 rfl Zpy ?_;simp (disch:=omega) only [Tryz.f302,go_sem,seval];refine gT ?_ ?_<;>intro h<;>simp (disch:=omega) only [Sh.out h,go_sem,seval]
 ·simp [VU,h]
 ·simp [VU,h]
theorem Zjr (a:Arc):PC 317 [.p (VM a)] (.agg [.int .i64 a.src,.int .i64 a.dst,.int .i64 a.prof]):=by
 refine Za Tryz.func317 rfl Zq7 ?_;simp (disch:=omega) only [Tryz.f317,go_sem,seval]
theorem ZkC (a:Arc) (t:Int) (ha:Zt3 a) (ht:0<=t/\t<=1073741824):PC 304 [.p (VM a),.p (.int .i64 t)] (.int .i64 (Zgz a t)):=by
 obtain ⟨h1,h2,h3⟩:=ha;have hr:=QG h1 ht;have hs:=Y3 (t:=t) (fun p hp=>(h3 p hp).2.2);refine Za Tryz.func304 rfl Zm2 ?_;simp (disch:=omega) only [Tryz.f304,go_sem,seval];refine (Zem a.travel a.travel_c t h1 ht).use ?_;simp (disch:=omega) only [go_sem,seval];refine Zg [1,13,14] (fun k:Nat=> [(5,.p (.int .i64 (Q1 a.travel t+VX a.slow t k))),(15,.p (.int .i64 k))]) (fun _=> [XS a]) (fun k=>k<=a.slow.length) (fun k=>a.slow.length-k) 0 (by simp) (Weak.mk ?_) ?_
 ·simp (disch:=omega) only [XS,VX,List.foldl_nil,go_sem,seval];simp
 ·intro k hk;have hsk:=hs k hk;simp (disch:=omega) only [XS,go_sem,seval];refine cD ?_ ?_<;>intro h<;>simp (disch:=omega) only [Sh.out h,go_sem,seval]
  ·have hk2:k<a.slow.length:=by omega
   have hp:=h3 _ (ZL hk2);have hsn:=Vp (t:=t) hk2;refine cD ?_ ?_<;>intro h4<;>simp (disch:=omega) only [Sh.out h4,go_sem,seval]
   ·rw [if_pos h4] at hsn;exact ⟨k+1,by omega,by omega,Weak.mk (by simp (disch:=omega) only [XS,hsn,Int.add_assoc,go_sem,seval])⟩
   ·rw [if_neg h4] at hsn;exact ⟨k+1,by omega,by omega,Weak.mk (by simp (disch:=omega) only [XS,hsn,go_sem,seval])⟩
  ·have hkl:k=a.slow.length:=by omega
   subst hkl;simp only [Zgz]
theorem Zkj (n:Net) (pr f t:Int) (hn:n.arcs.length<=1048576):PT 303 [.p (ZaQ n),.p (.int .i64 pr),.p (.int .i64 f),.p (.int .i64 t)] [.p (VM (Yh n pr f t).1),.p (.bool (Yh n pr f t).2)]:=by
 refine Zd [] Tryz.func303 rfl Zo8 ?_;simp (disch:=omega) only [Tryz.f303,go_sem,seval];refine Zg [8,10,18,19] (fun k:Nat=> [(20,.p (.int .i64 k))]) (fun _=>Zx n++ [XS XF,.cells [.p (.int .i64 f),.p (.int .i64 t),.p (.int .i64 pr)]]) (fun k=>k<=n.arcs.length/\ ∀j,j<k->Yq pr f t (nth n.arcs j)=false) (fun k=>n.arcs.length-k) 0 (by simp) (Weak.mk ?_) ?_
 ·simp (disch:=omega) only [Zx,XS,XF,List.map_nil,List.cons_append,List.nil_append,go_sem,seval]
 ·rintro k ⟨hk,hno⟩;simp (disch:=omega) only [Zx,XS,XF,List.map_nil,List.cons_append,List.nil_append,go_sem,seval];refine cD ?_ ?_<;>intro h<;>simp (disch:=omega) only [Sh.out h,go_sem,seval]
  ·have hk2:k<n.arcs.length:=by omega
   have nx:Yq pr f t (nth n.arcs k)=false-> ∀j,j<k+1->Yq pr f t (nth n.arcs j)=false:=fun h=>Ze.2 ⟨hno,h⟩;refine Zh Zp (by kernel_rfl) (by kernel_rfl) ?_;simp (disch:=omega) only [go_sem,seval];refine Zn (Zjr (nth n.arcs k)) ?_;simp (disch:=omega) only [go_sem,seval];refine cD ?_ ?_<;>intro h1<;>simp (disch:=omega) only [Sh.out h1,go_sem,seval]
   ·have e:=ZbK hk2 hno (by simp [Yq,h1]);obtain ⟨rfl,rfl,rfl⟩:=h1;rw [e];exact we
   ·have e2:Yq pr f t (nth n.arcs k)=false:=by
     cases hq:Yq pr f t (nth n.arcs k) with
     | false=>rfl
     | true=>simp only [Yq,Bool.and_eq_true,decide_eq_true_eq] at hq;exact absurd ⟨hq.1.1,hq.1.2,hq.2⟩ h1
    exact ⟨k+1,⟨by omega,nx e2⟩,by omega,Weak.mk (by simp (disch:=omega) only [Zx,XS,XF,List.map_nil,List.cons_append,List.nil_append,go_sem,seval])⟩
  ·have hkn:k=n.arcs.length:=by omega
   subst hkn;rw [Za7 hno];exact we (by simp (disch:=omega) only [XF,List.map_nil,go_sem,seval])
theorem ZuE (n:Net) (pr f t τ:Int) (hn:netR n) (hτ:0<=τ/\τ<=1073741824):PT 279 [.p (ZaQ n),.p (.int .i64 pr),.p (.int .i64 f),.p (.int .i64 t),.p (.int .i64 τ)] [.p (.int .i64 (goN n pr f t τ).1),.p (.int .i64 (goN n pr f t τ).2.1),.p (.int .i64 (goN n pr f t τ).2.2)]:=by
 refine Zd [] Tryz.func279 rfl Zoc ?_;simp (disch:=omega) only [Tryz.f279,go_sem,seval];refine (Zbt n f hn.1).use ?_;simp (disch:=omega) only [go_sem,seval];refine gF ?_ ?_<;>intro h1<;>simp (disch:=omega) only [Sh.out h1,go_sem,seval]
 ·have e:goN n pr f t τ=(0,0,11):=by simp only [Bool.not_eq_true'] at h1;simp [goN,h1]
  rw [e];exact we
 ·simp only [Bool.not_eq_false'] at h1;refine (Zbt n t hn.1).use ?_;simp (disch:=omega) only [go_sem,seval];refine cD ?_ ?_<;>intro h2<;>simp (disch:=omega) only [Sh.out h2,go_sem,seval]
  ·have e:goN n pr f t τ=(0,0,11):=by simp only [Bool.not_eq_true'] at h2;simp [goN,h2]
   rw [e];exact we
  ·simp only [Bool.not_eq_false'] at h2;refine cD ?_ ?_<;>intro h3<;>simp (disch:=omega) only [Sh.out h3,go_sem,seval]
   ·have e:goN n pr f t τ=(τ,0,0):=by simp [goN,h1,h2,h3]
    rw [e];exact we
   ·have cf:=Zkj n pr f t hn.2.1;have hm:= @WY n pr f t
    have e0:goN n pr f t τ=if (Yh n pr f t).2=true then (Zgz (Yh n pr f t).1 τ,(Yh n pr f t).1.miles,0) else (0,0,12):=by simp [goN,h1,h2,h3]
    rw [e0];generalize Yh n pr f t=A at cf hm ⊢;obtain ⟨a,b⟩:=A;simp only at cf hm ⊢;refine Xi cf ?_;simp (disch:=omega) only [go_sem,seval];refine cD ?_ ?_<;>intro h4<;>simp (disch:=omega) only [Sh.out h4,go_sem,seval]
    ·have hb:b=false:=by simpa using h4
     subst hb;exact we
    ·have hb:b=true:=by simpa using h4
     subst hb;refine Zh Zp (by kernel_rfl) (by kernel_rfl) ?_;simp (disch:=omega) only [go_sem,seval];refine Zn (ZkC a τ (hn.2.2 a (hm rfl)) hτ) ?_;simp (disch:=omega) only [go_sem,seval];exact we
theorem Zjk (x:Inst) (pr f t τ:Int) (hn:netR x.net) (hτ:0<=τ/\τ<=1073741824):PT 285 [.p (ZK x),.p (.int .i64 pr),.p (.int .i64 f),.p (.int .i64 t),.p (.int .i64 τ)] [.p (.int .i64 (goN x.net pr f t τ).1),.p (.int .i64 (goN x.net pr f t τ).2.1),.p (.bool (decide ((goN x.net pr f t τ).2.2=0)))]:=by
 refine Zd [] Tryz.func285 rfl Zqu ?_;simp (disch:=omega) only [Tryz.f285,go_sem,seval];refine ZcG (Zph x.net pr f t τ hn hτ) ?_;simp (disch:=omega) only [go_sem,seval];exact we
structure StD where
 place:Int
 time:Int
 driven:Int
 miles:Int
def ZnW (s:StD):PV:= .agg [.int .i64 s.place,.int .i64 s.time,.int .i64 s.driven,.int .i64 s.miles]
@[go_sem] theorem ZvI (s:StD):ZnW s= .agg [.int .i64 s.place,.int .i64 s.time,.int .i64 s.driven,.int .i64 s.miles]:=Eq.trans rfl rfl
def KV (t:Typ) (s:StD) (b:Bool):StD:=if b=true then { s with time:=s.time+t.rest,driven:=0 } else s
theorem Zbo (t:Typ) (s:StD) (b:Bool) (hb: -1099511627776<=s.time/\s.time<=1099511627776/\ -1099511627776<=t.rest/\t.rest<=1099511627776):PC 250 [.p (VK t),.p (ZnW s),.p (.bool b)] (ZnW (KV t s b)):=by
 refine Za Tryz.func250 rfl Zru ?_
 cases b with
 | true=>simp (disch:=omega) only [Tryz.f250,KV,go_sem,seval]
 | false=>simp (disch:=omega) only [Tryz.f250,KV,Bool.false_eq_true,go_sem,seval]
def Vw (x:Inst) (t:Typ) (s:StD) (to cl late:Int):StD×Int :=
 if ¬(goN x.net t.prof s.place to s.time).2.2=0 then (s,12)
 else if cl<(goN x.net t.prof s.place to s.time).1 then (s,late)
 else if t.drive<s.driven+(goN x.net t.prof s.place to s.time).1-s.time then (s,16)
 else (⟨to,(goN x.net t.prof s.place to s.time).1,s.driven+(goN x.net t.prof s.place to s.time).1-s.time,s.miles+(goN x.net t.prof s.place to s.time).2.1⟩,0)
def Sml (n:Int):Prop:= -1099511627776<=n/\n<=1099511627776
theorem ZbA (x:Inst) (t:Typ) (s:StD) (to cl late:Int) (hn:netR x.net) (hs:0<=s.time/\s.time<=1073741824) (hd:Sml s.driven) (hm:Sml s.miles) (hg:Sml (goN x.net t.prof s.place to s.time).1/\Sml (goN x.net t.prof s.place to s.time).2.1) :
  PT 251 [.p (ZK x),.p (VK t),.p (ZnW s),.p (.int .i64 to),.p (.int .i64 cl),.p (.int .i64 late)] [.p (ZnW (Vw x t s to cl late).1),.p (.int .i64 (Vw x t s to cl late).2)]:=by
 have cw:=Zjk x t.prof s.place to s.time hn hs;unfold Vw;generalize goN x.net t.prof s.place to s.time=g at cw hg ⊢;obtain ⟨a,m,e⟩:=g;unfold Sml at hd hm hg;simp only at cw hg ⊢;refine Zd [] Tryz.func251 rfl Zqx ?_;simp (disch:=omega) only [Tryz.f251,go_sem,seval];refine ZcG cw ?_;simp (disch:=omega) only [go_sem,seval];refine cD ?_ ?_<;>intro h1<;>simp (disch:=omega) only [Sh.out h1,go_sem,seval]
 ·exact we
 ·rw [if_neg h1];refine cD ?_ ?_<;>intro h2<;>simp (disch:=omega) only [Sh.out h2,go_sem,seval]
  ·exact we
  ·rw [if_neg h2];refine cD ?_ ?_<;>intro h3<;>simp (disch:=omega) only [Sh.out h3,go_sem,seval]
   ·exact we
   ·exact we
structure Lab where
 ready:Int
 since:Int
 she:She
 deriving Inhabited
def zShe : She:=⟨false,0,true,[],0,0⟩
def Wc : Lab:=⟨0,0,zShe⟩
def ZI (t:Typ) (L:Lab) (b:Bool):Int:=if b=true then L.ready+t.rest else L.ready
def Ws (L:Lab) (b:Bool):Int:=if b=true then 0 else L.since
def Zdw (l:List Tim) (k:Nat) (d:Int) (b:Bool):List Tim:=l.set k { nth l k with dep:=d,rest:=b }
def Xa (k:Nat) (d:Int) (b:Bool) (s:She):She:=if k=0 then { s with rest:=b,dep:=d } else { s with times:=Zdw s.times (k-1) d b }
def Jr (t:Typ) (sp:List Stp) (k:Nat):Int:=if k=0 then t.src else (nth sp (k-1)).place
def toF (t:Typ) (sp:List Stp) (k:Nat):Int:=if k=sp.length then t.dst else (nth sp k).place
def goL (x:Inst) (t:Typ) (sp:List Stp) (k:Nat) (d:Int):Int×Int×Int:=goN x.net t.prof (Jr t sp k) (toF t sp k) d
def Wu (t:Typ) (sp:List Stp) (k:Nat) (g:Int×Int×Int) (d s:Int) (h:She):Lab×Int :=
 if ¬g.2.2=0 then (Wc,12)
 else if k=sp.length then
  if t.cls<g.1 then (Wc,15) else if t.drive<s+g.1-d then (Wc,16)
  else (⟨g.1,s+g.1-d,{ h with fin:=g.1,miles:=h.miles+g.2.1 }⟩,0)
 else if (nth sp k).cls<max g.1 (nth sp k).opn then (Wc,14)
 else if t.drive<s+g.1-d then (Wc,16)
 else (⟨max g.1 (nth sp k).opn+(nth sp k).serv,s+g.1-d,{ h with times_c:=false,times:=h.times++ [⟨g.1,max g.1 (nth sp k).opn,0,false⟩],miles:=h.miles+g.2.1 }⟩,0)
def Yg (x:Inst) (t:Typ) (sp:List Stp) (k:Nat) (L:Lab) (b:Bool):Lab×Int :=
 Wu t sp k (goL x t sp k (ZI t L b)) (ZI t L b) (Ws L b) (Xa k (ZI t L b) b L.she)
def XJ (x:Inst) (t:Typ) (sp:List Stp) (k:Nat) (L:Lab) (b:Bool):Option Lab:=if (Yg x t sp k L b).2=0 then some (Yg x t sp k L b).1 else none
def Xz (x:Inst) (t:Typ) (sp:List Stp):Nat->Lab->List Bool->Lab×Int
 | _,L,[]=>(L,0)
 | k,L,b::bs=>if (Yg x t sp k L b).2=0 then Xz x t sp (k+1) (Yg x t sp k L b).1 bs else (Wc,(Yg x t sp k L b).2)
def Xv (t:Typ) (st:Int):Lab:=⟨max t.opn st,0,zShe⟩
theorem Yn {x:Inst} {t:Typ} {sp:List Stp} : ∀(bs:List Bool) (k:Nat) (L:Lab),WN (XJ x t sp) k L bs=if (Xz x t sp k L bs).2=0 then some (Xz x t sp k L bs).1 else none
 | [],k,L=>by simp [WN,Xz]
 | b::bs,k,L=>by
  rw [WN,Xz,XJ]
  by_cases h:(Yg x t sp k L b).2=0
  ·simp only [h,if_true];exact Yn bs (k+1) _
  ·simp [h]
structure TrpOk (x:Inst) (t:Typ) (sp:List Stp):Prop where
 net:netR x.net
 mil: ∀a∈x.net.arcs,0<=a.miles/\a.miles<=10000
 opn:0<=t.opn/\t.opn<=t.cls/\t.cls<=4096
 drv:1<=t.drive/\t.drive<=4096
 rst:0<=t.rest/\t.rest<=4096
 stp: ∀s∈sp,0<=s.opn/\s.opn<=s.cls/\s.cls<=4096/\0<=s.serv/\s.serv<=4096
 len:sp.length<=20
structure LabR (k:Nat) (L:Lab):Prop where
 rdy:0<=L.ready/\L.ready<=8192
 snc: -(12288*(k:Int))<=L.since/\L.since<=4096
 mil:0<=L.she.miles/\L.she.miles<=10000*(k:Int)
theorem Zkh {n:Net} {pr f t τ:Int} (hn:netR n) (hm: ∀a∈n.arcs,0<=a.miles/\a.miles<=10000) (hτ:0<=τ/\τ<=1073741824):(0<=(goN n pr f t τ).1/\(goN n pr f t τ).1<=1107369984)/\(0<=(goN n pr f t τ).2.1/\(goN n pr f t τ).2.1<=10000):=by
 unfold goN
 split
 ·simp
 ·split
  ·simp only;omega
  ·split
   ·rename_i h;have hA:=WY h;have h1:=QG (hn.2.2 _ hA).1 hτ;have h2:=Y3 (t:=τ) (fun p hp=>((hn.2.2 _ hA).2.2 p hp).2.2) _ (Nat.le_refl _);have h3:=(hn.2.2 _ hA).2.1;have h4:=hm _ hA;simp only [Zgz];omega
   ·simp
theorem Vh {x t sp k L} (h:TrpOk x t sp) (hl:LabR k L) (b:Bool):0<=ZI t L b/\ZI t L b<=12288:=by
 have:=h.rst;have:=hl.rdy;unfold ZI
 split<;>omega
theorem Jg {k L} (hl:LabR k L) (b:Bool): -(12288*(k:Int))<=Ws L b/\Ws L b<=4096:=by
 have:=hl.snc;unfold Ws
 split<;>omega
theorem Zaa {x t sp k L} (h:TrpOk x t sp) (hl:LabR k L) (b:Bool):(0<=(goL x t sp k (ZI t L b)).1/\(goL x t sp k (ZI t L b)).1<=1107369984)/\(0<=(goL x t sp k (ZI t L b)).2.1/\(goL x t sp k (ZI t L b)).2.1<=10000):=by
 have:=Vh h hl b;exact Zkh h.net h.mil (by omega)
theorem WF {k d b s} :(Xa k d b s).miles=s.miles:=by unfold Xa;split<;>rfl
theorem J0 {k d b s} :(Xa k d b s).fin=s.fin:=by unfold Xa;split<;>rfl
theorem WU {k d b s} :(Xa k d b s).times.length=s.times.length:=by unfold Xa;split<;>simp [Zdw]
theorem KZ {x t sp k L b} (h:TrpOk x t sp) (hk:k<=sp.length) (hl:LabR k L) (he:(Yg x t sp k L b).2=0):LabR (k+1) (Yg x t sp k L b).1:=by
 have h1:=Vh h hl b;have h2:=Jg hl b;obtain ⟨h3,h4⟩:=Zaa h hl b;have h5:=hl.mil;have h6:=h.opn;have h7:=h.drv;have hm:(Xa k (ZI t L b) b L.she).miles=L.she.miles:=WF;unfold Yg at he ⊢
 generalize goL x t sp k (ZI t L b)=g at *
 generalize ZI t L b=d at *
 generalize Ws L b=s at *
 generalize Xa k d b L.she=m at *
 unfold Wu at he ⊢
 split at he
 ·simp at he
 ·rename_i c1;rw [if_neg c1]
  split at he
  ·rename_i c2;rw [if_pos c2]
   split at he
   ·simp at he
   ·rename_i c3;rw [if_neg c3]
    split at he
    ·simp at he
    ·rename_i c4;rw [if_neg c4];exact ⟨by simp only;omega,by simp only;omega,by simp only;omega⟩
  ·rename_i c2;rw [if_neg c2];have h8:=h.stp _ (ZL (show k<sp.length by omega))
   split at he
   ·simp at he
   ·rename_i c3;rw [if_neg c3]
    split at he
    ·simp at he
    ·rename_i c4;rw [if_neg c4];exact ⟨by simp only;omega,by simp only;omega,by simp only;omega⟩
theorem U7 {x t sp k L b} (hl:L.she.times.length=k) (he:(Yg x t sp k L b).2=0) (hk:k<sp.length):(Yg x t sp k L b).1.she.times.length=k+1:=by
 have hm:(Xa k (ZI t L b) b L.she).times.length=L.she.times.length:=WU;unfold Yg at he ⊢
 generalize goL x t sp k (ZI t L b)=g at *
 generalize ZI t L b=d at *
 generalize Ws L b=s at *
 generalize Xa k d b L.she=m at *
 have hk2: ¬k=sp.length:=by omega
 unfold Wu at he ⊢;simp only [if_neg hk2] at he ⊢
 split at he
 ·simp at he
 ·rename_i c1;rw [if_neg c1]
  split at he
  ·simp at he
  ·rename_i c3;rw [if_neg c3]
   split at he
   ·simp at he
   ·rename_i c4;rw [if_neg c4];simp [hm,hl]
def ZF (m x:Lab):Bool:=decide (m.ready=x.ready)&&decide (m.since<=x.since)
theorem Zcx {x t sp k} {m y z:Lab} {b:Bool} (hb:ZF m y=true) (hn:XJ x t sp k y b=some z): ∃u,XJ x t sp k m b=some u/\ZF u z=true:=by
 simp only [ZF,Bool.and_eq_true,decide_eq_true_eq] at hb;obtain ⟨hb1,hb2⟩:=hb
 have hd:ZI t m b=ZI t y b:=by simp [ZI,hb1]
 have hs:Ws m b<=Ws y b:=by unfold Ws;split<;>omega
 unfold XJ at hn ⊢;unfold Yg at hn ⊢;rw [hd]
 generalize goL x t sp k (ZI t y b)=g at *
 generalize ZI t y b=d at *
 generalize Ws y b=s at *
 generalize Ws m b=s2 at *
 generalize Xa k d b y.she=h1 at *
 generalize Xa k d b m.she=h2 at *
 unfold Wu at hn ⊢
 by_cases c1:g.2.2=0
 ·by_cases c2:k=sp.length
  ·simp only [c1,c2,not_true,if_true,if_false] at hn ⊢
   by_cases c3:t.cls<g.1
   ·simp [c3] at hn
   ·by_cases c4:t.drive<s+g.1-d
    ·simp [c3,c4] at hn
    ·have c5: ¬t.drive<s2+g.1-d:=by omega
     simp only [c3,c4,if_false,if_true,Option.some.injEq] at hn;subst hn;refine ⟨_,by simp only [c3,c5,if_false,if_true];rfl,?_⟩;simp [ZF];omega
  ·simp only [c1,c2,not_true,if_true,if_false] at hn ⊢
   by_cases c3:(nth sp k).cls<max g.1 (nth sp k).opn
   ·simp [c3] at hn
   ·by_cases c4:t.drive<s+g.1-d
    ·simp [c3,c4] at hn
    ·have c5: ¬t.drive<s2+g.1-d:=by omega
     simp only [c3,c4,if_false,if_true,Option.some.injEq] at hn;subst hn;refine ⟨_,by simp only [c3,c5,if_false,if_true];rfl,?_⟩;simp [ZF];omega
 ·simp [c1] at hn
def Y4 (L:Lab):Int:=L.she.fin
theorem Zbx {x t sp} {y z:Lab} {b:Bool} (hn:XJ x t sp sp.length y b=some z):z.she.fin=z.ready:=by
 unfold XJ Yg Wu at hn
 by_cases c1:(goL x t sp sp.length (ZI t y b)).2.2=0
 ·by_cases c3:t.cls<(goL x t sp sp.length (ZI t y b)).1
  ·simp [c1,c3] at hn
  ·by_cases c4:t.drive<Ws y b+(goL x t sp sp.length (ZI t y b)).1-ZI t y b
   ·simp [c1,c3,c4] at hn
   ·simp only [c1,c3,c4,not_true,if_true,if_false,Option.some.injEq] at hn;subst hn;rfl
 ·simp [c1] at hn
theorem KH {x t sp} (ch:Nat->List Bool) (L:Lab):fmL Y4 none (VW ZF (XJ x t sp) ch (sp.length+1) 0 [L])=fmL Y4 none (Yk (XJ x t sp) ch (sp.length+1) 0 L):=by
 have h:=Zev Y4 ZF (XJ x t sp) ch (n:=sp.length+1) (Inv:=fun k y=>k=sp.length+1->y.she.fin=y.ready)
  (fun k y b z _ hn hk=>by
   have:k=sp.length:=by omega
   subst this
   exact Zbx hn) (fun k m y b z _ _ hb hn=>Zcx hb hn)
  (fun m y h1 h2 hb=>by
   simp only [ZF,Bool.and_eq_true,decide_eq_true_eq] at hb
   rw [Y4,Y4,h1 rfl,h2 rfl];omega) (sp.length+1) 0 [L] (by omega) (fun y _ hk=>by omega)
 rw [h];simp
def chF (r:List Bool) (k:Nat):List Bool:=match r[k]? with | some b=> [b] | none=> [false,true]
theorem Zdn (r:List Bool) (n:Nat) (hn:r.length<=n): ∀(j k:Nat),k+j=r.length->ZhP (chF r) (n-k) k=(X3 (List.replicate (n-r.length) false)).map (r.drop k++ ·)
 | 0,k,h=>by
  have hk:k=r.length:=by omega
  subst hk;rw [ZaY (n:=n) _ _ _ (fun q hq=>by simp [chF,List.getElem?_eq_none hq])];simp
 | j+1,k,h=>by
  have e:n-k=(n-(k+1))+1:=by omega
  have hlt:k<r.length:=by omega
  rw [e,ZhP,Zdn r n hn j (k+1) (by omega)]
  have:chF r k= [r[k]]:=by simp [chF,hlt]
  rw [this,List.flatMap_cons,List.flatMap_nil,List.append_nil,List.map_map,List.drop_eq_getElem_cons hlt]
  rfl
theorem Jw (r:List Bool) (n:Nat) (hn:r.length<=n):ZhP (chF r) n 0=(X3 (List.replicate (n-r.length) false)).map (r++ ·):=by
 have:=Zdn r n hn r.length 0 (by omega);simpa using this
def XL (r:List Bool) (n:Nat):List (List Bool):=(X3 (List.replicate (n-r.length) false)).map (r++ ·)
def YU (r:List Bool) (n:Nat):List Bool:=r++List.replicate (n-r.length) false
def WE (x:Inst) (t:Typ) (sp:List Stp) (st:Int) (r:List Bool):She×Int :=
 match fmL Y4 none ((XL r (sp.length+1)).filterMap (WN (XJ x t sp) 0 (Xv t st))) with
 | some L=>(L.she,0)
 | none=>(zShe,(Xz x t sp 0 (Xv t st) (YU r (sp.length+1))).2)
theorem JC {x t sp} {st:Int} {r:List Bool} (hr:r.length<=sp.length+1):WE x t sp st r=match fmL Y4 none (VW ZF (XJ x t sp) (chF r) (sp.length+1) 0 [Xv t st]) with
 | some L=>(L.she,0)
 | none=>(zShe,(Xz x t sp 0 (Xv t st) (YU r (sp.length+1))).2):=by
 rw [KH,Yk,Jw r _ hr];rfl
theorem Za4 {x t sp} : ∀(bs:List Bool) (k:Nat) (L:Lab),L.she.times.length=k->k+bs.length=sp.length+1->0<bs.length->(Xz x t sp k L bs).2=0->(Xz x t sp k L bs).1.she.times.length=sp.length
 | [],k,L,h1,h2,h3,h=>by simp at h3
 | b::bs,k,L,h1,h2,_,h=>by
  rw [Xz] at h ⊢
  by_cases h4:(Yg x t sp k L b).2=0
  ·simp only [h4,if_true] at h ⊢
   cases bs with
   | nil =>
    simp at h2;subst h2;rw [Xz];unfold Yg at h4 ⊢;unfold Wu at h4 ⊢
    split at h4
    ·simp at h4
    ·rename_i c1;rw [if_neg c1];simp only [if_true] at h4 ⊢
     split at h4
     ·simp at h4
     ·rename_i c2;rw [if_neg c2]
      split at h4
      ·simp at h4
      ·rename_i c3;rw [if_neg c3];simp [WU,h1]
   | cons b2 bs =>
    simp at h2;exact Za4 (b2::bs) (k+1) _ (U7 h1 h4 (by omega)) (by simp;omega) (by simp) h
  ·simp [h4] at h
theorem bestF_len {x t sp} {st:Int} {r:List Bool} (hr:r.length<=sp.length+1) (h:(WE x t sp st r).2=0):(WE x t sp st r).1.times.length=sp.length:=by
 unfold WE at h ⊢
 cases hf:fmL Y4 none ((XL r (sp.length+1)).filterMap (WN (XJ x t sp) 0 (Xv t st))) with
 | none =>
  rw [hf] at h;simp only at h ⊢;exfalso
  have hm:YU r (sp.length+1)∈XL r (sp.length+1):=by
   unfold XL YU;rw [fromB_next];simp
  have h2:WN (XJ x t sp) 0 (Xv t st) (YU r (sp.length+1))=some (Xz x t sp 0 (Xv t st) (YU r (sp.length+1))).1:=by rw [Yn,if_pos h]
  have h3:(Xz x t sp 0 (Xv t st) (YU r (sp.length+1))).1∈(XL r (sp.length+1)).filterMap (WN (XJ x t sp) 0 (Xv t st)):=List.mem_filterMap.2 ⟨_,hm,h2⟩;generalize (XL r (sp.length+1)).filterMap (WN (XJ x t sp) 0 (Xv t st))=l at hf h3
  cases l with
  | nil=>simp at h3
  | cons a l =>
   rw [fmL] at hf;obtain ⟨z,e,_⟩:=Wh Y4 l a;rw [e] at hf
   cases hf
 | some L =>
  simp only;have hm:=fmL_mem _ _ hf;obtain ⟨bs,hbs,hrun⟩:=List.mem_filterMap.1 hm;rw [Yn] at hrun
  split at hrun
  ·rename_i h5;simp at hrun;subst hrun;obtain ⟨q,hq,rfl⟩:=List.mem_map.1 hbs;have hql:=fromB_len _ _ hq;simp at hql;exact Za4 _ 0 _ rfl (by simp [hql];omega) (by simp [hql];omega) h5
  ·cases hrun
where
 fmL_mem: ∀(l:List Lab) (L:Lab),fmL Y4 none l=some L->L∈l
 | [],L,h=>by simp [fmL] at h
 | a::l,L,h=>by
  rw [fmL] at h;exact fmL_mem2 l a L h
 fmL_mem2: ∀(l:List Lab) (a L:Lab),fmL Y4 (some a) l=some L->L∈a::l
 | [],a,L,h=>by simp [fmL] at h;subst h;simp
 | y::l,a,L,h=>by
  rw [fmL] at h
  split at h
  ·have:=fmL_mem2 l y L h;simp only [List.mem_cons] at this ⊢;rcases this with h | h<;>simp [h]
  ·have:=fmL_mem2 l a L h;simp only [List.mem_cons] at this ⊢;rcases this with h | h<;>simp [h]
 fromB_len: ∀(l q:List Bool),q∈X3 l->q.length=l.length
 | [],q,h=>by simp [X3] at h;subst h;rfl
 | b::bs,q,h=>by
  rw [X3] at h
  split at h
  ·obtain ⟨q',hq,rfl⟩:=List.mem_map.1 h;simp [fromB_len bs q' hq]
  ·rcases List.mem_append.1 h with h | h
   ·obtain ⟨q',hq,rfl⟩:=List.mem_map.1 h;simp [fromB_len bs q' hq]
   ·obtain ⟨q',hq,rfl⟩:=List.mem_map.1 h;simp [fromB_len (List.replicate bs.length false) q' hq]
 termination_by l=>l.length
 decreasing_by all_goals simp
def stopV (x:Inst) (v:Vis):Stp:=if v.drp=true then (nth x.orders v.order.toNat).drp else (nth x.orders v.order.toNat).pick
def ZQ (x:Inst) (l:List Vis):List Stp:=l.map (stopV x)
def Yc (t:Typ) (s:Int):Bool:=decide (0<=t.skills)&&decide (0<=s)&&(List.range 63).all fun i=> !s.toNat.testBit i||t.skills.toNat.testBit i
def YA (a c:List Int):Bool:=decide (a.length=c.length)&&(List.range a.length).all fun i=>decide (nth a i<=nth c i)
def Ve (x:Inst) (c:List Int) (l:List Vis):Bool:=(List.range (l.length+1)).all fun n=>YA (Y9 x l n) c
def Z2 (x:Inst) (r:Rte):Typ:=nth x.types r.typ.toNat
def YP (l:List Vis) (i:Nat):Bool:= !((l.take i).any fun v=>decide (v.order=(nth l i).order))
def ZD (k t:Int):Bool:=decide (k≠ -1)&&decide (k≠t)
def chgF (x:Inst) (l:List Vis) (t:Int):Nat->Int×Int
 | 0=>(0,0)
 | n+1=>if YP l n=true then ((chgF x l t n).1+(if ZD (nth x.orders (nth l n).order.toNat).now t=true then 1 else 0),(chgF x l t n).2+(if ZD (nth x.orders (nth l n).order.toNat).last t=true then 1 else 0)) else chgF x l t n
def Zkb (x:Inst) (r:Rte) (s:She):Sco :=
 ⟨(Z2 x r).fixed+(Z2 x r).perMile*s.miles+(Z2 x r).perTick*(s.fin-(Z2 x r).opn),(chgF x r.visits r.typ r.visits.length).1,(chgF x r.visits r.typ r.visits.length).2,(s.fin-(Z2 x r).opn).tdiv 64*(s.fin-(Z2 x r).opn).tdiv 64⟩
def XD (x:Inst) (r:Rte):Int :=
 if ¬(0<=r.typ/\r.typ<(x.types.length:Int)) then 2
 else if ¬ZW x r.visits=0 then ZW x r.visits
 else if (r.visits.any fun v=> !Yc (Z2 x r) (nth x.orders v.order.toNat).skills)=true then 18
 else if Ve x (Z2 x r).cap r.visits=false then 17
 else if ¬(0<=r.start/\r.start<=4096/\r.rests.length<=r.visits.length+1) then 2
 else 0
def Xf (x:Inst) (r:Rte):She×Int:=WE x (Z2 x r) (ZQ x r.visits) r.start r.rests
def ZZ (x:Inst) (r:Rte):Int:=if XD x r=0 then (Xf x r).2 else XD x r
def Xn (x:Inst) (r:Rte):She:=if ZZ x r=0 then (Xf x r).1 else zShe
def JX (x:Inst) (r:Rte):Sco:=if ZZ x r=0 then Zkb x r (Xf x r).1 else zSco
def ZwN : Stp:=⟨0,0,0,0⟩
def inB (x:Inst) (v:Vis):Bool:=decide (0<=v.order)&&decide (v.order<(x.orders.length:Int))
def Jv (x:Inst) (v:Vis):Bool:=inB x v&&decide (0<=(stopV x v).place)
def QW (x:Inst) (v:Vis):Stp:=if inB x v=true then stopV x v else ZwN
theorem ZaN (x:Inst) (v:Vis) (ho:x.orders.length<=1048576):PT 187 [.p (ZK x),.p (XK v)] [.p (ZfS (QW x v)),.p (.bool (Jv x v))]:=by
 refine Zd [] Tryz.func187 rfl Zmv ?_;simp (disch:=omega) only [Tryz.f187,go_sem,seval];refine gF ?_ ?_<;>intro h1<;>simp (disch:=omega) only [Sh.out h1,go_sem,seval]
 ·have e:inB x v=false:=by
   have: ¬ 0<=v.order:=by omega
   simp [inB,this]
  simp only [QW,Jv,e,Bool.false_and,Bool.false_eq_true,if_false,ZwN];exact we
 ·refine cD ?_ ?_<;>intro h2<;>simp (disch:=omega) only [Sh.out h2,go_sem,seval]
  ·have e:inB x v=false:=by
    have: ¬v.order<(x.orders.length:Int):=by omega
    simp [inB,this]
   simp only [QW,Jv,e,Bool.false_and,Bool.false_eq_true,if_false,ZwN];exact we
  ·have e:inB x v=true:=by simp [inB];omega
   have hi:v.order.toNat<x.orders.length:=by omega
   refine cD ?_ ?_<;>intro hd<;>simp (disch:=omega) only [Sh.out hd,go_sem,seval]
   ·have hG:QW x v=(nth x.orders v.order.toNat).drp:=by simp [QW,e,stopV,hd]
    have hV:Jv x v=decide (0<=(nth x.orders v.order.toNat).drp.place):=by simp [Jv,e,stopV,hd]
    rw [hG,hV];refine ZbN (.cons 0 (.cons 1 (.cons 2 (.cons 3 (.cons 4 (.cons 5 .nil .nil) .nil) (.cons 4 (.cons 3 (.cons 5 .nil .nil) .nil) .nil)) (.cons 4 (.cons 2 (.cons 3 (.cons 5 .nil .nil) .nil) .nil) .nil)) (.cons 4 (.cons 1 (.cons 2 (.cons 3 (.cons 5 .nil .nil) .nil) .nil) .nil) .nil)) (.cons 1 (.cons 0 (.cons 2 (.cons 3 (.cons 4 (.cons 5 .nil .nil) .nil) (.cons 4 (.cons 3 (.cons 5 .nil .nil) .nil) .nil)) (.cons 4 (.cons 2 (.cons 3 (.cons 5 .nil .nil) .nil) .nil) .nil)) (.cons 2 (.cons 0 (.cons 3 (.cons 4 (.cons 5 .nil .nil) .nil) (.cons 4 (.cons 3 (.cons 5 .nil .nil) .nil) .nil)) (.cons 3 (.cons 0 (.cons 4 (.cons 5 .nil .nil) .nil) .nil) .nil)) .nil)) .nil)) Zp (by kernel_rfl) ?_
    simp (disch:=omega) only [go_sem,seval]
    repeat' first
     | refine Km ?_ ?_
     | exact we
     | simp (disch:=omega) only [go_sem,seval]
   ·have hG:QW x v=(nth x.orders v.order.toNat).pick:=by simp [QW,e,stopV,hd]
    have hV:Jv x v=decide (0<=(nth x.orders v.order.toNat).pick.place):=by simp [Jv,e,stopV,hd]
    rw [hG,hV];refine ZbN (.cons 0 (.cons 1 (.cons 2 (.cons 3 (.cons 4 (.cons 5 .nil .nil) .nil) (.cons 4 (.cons 3 (.cons 5 .nil .nil) .nil) .nil)) (.cons 4 (.cons 2 (.cons 3 (.cons 5 .nil .nil) .nil) .nil) .nil)) (.cons 4 (.cons 1 (.cons 2 (.cons 3 (.cons 5 .nil .nil) .nil) .nil) .nil) .nil)) (.cons 1 (.cons 0 (.cons 2 (.cons 3 (.cons 4 (.cons 5 .nil .nil) .nil) (.cons 4 (.cons 3 (.cons 5 .nil .nil) .nil) .nil)) (.cons 4 (.cons 2 (.cons 3 (.cons 5 .nil .nil) .nil) .nil) .nil)) (.cons 2 (.cons 0 (.cons 3 (.cons 4 (.cons 5 .nil .nil) .nil) (.cons 4 (.cons 3 (.cons 5 .nil .nil) .nil) .nil)) (.cons 3 (.cons 0 (.cons 4 (.cons 5 .nil .nil) .nil) .nil) .nil)) .nil)) .nil)) Zp (by kernel_rfl) ?_
    simp (disch:=omega) only [go_sem,seval]
    repeat' first
     | refine Km ?_ ?_
     | exact we
     | simp (disch:=omega) only [go_sem,seval]
def Y7 (x:Inst) (r:Rte):Bool:=(decide (0<=r.typ)&&decide (r.typ<(x.types.length:Int))&&decide (0<=r.start)&&decide (r.start<=4096)&&decide (r.visits.length<=20))&&r.visits.all (Jv x)
theorem Q2 (x:Inst) (r:Rte) (ho:x.orders.length<=1048576) (ht:x.types.length<=1048576) (hl:r.visits.length<=1048576):PC 142 [.p (ZK x),.p (Xl r)] (.bool (Y7 x r)):=by
 refine Za Tryz.func142 rfl ZnI ?_;simp (disch:=omega) only [Tryz.f142,go_sem,seval];refine gF ?_ ?_<;>intro h1<;>simp (disch:=omega) only [Sh.out h1,go_sem,seval]
 ·simp [Y7];omega
 ·refine gF ?_ ?_<;>intro h2<;>simp (disch:=omega) only [Sh.out h2,go_sem,seval]
  ·simp [Y7];omega
  ·refine gF ?_ ?_<;>intro h3<;>simp (disch:=omega) only [Sh.out h3,go_sem,seval]
   ·simp [Y7];omega
   ·refine gF ?_ ?_<;>intro h4<;>simp (disch:=omega) only [Sh.out h4,go_sem,seval]
    ·simp [Y7];omega
    ·refine cD ?_ ?_<;>intro h5<;>simp (disch:=omega) only [Sh.out h5,go_sem,seval]
     ·simp [Y7];omega
     ·refine Zg [2,3] (fun k:Nat=> [(5,.p (.int .i64 k))]) (fun _=> [Zb x,Zo r]) (fun k=>k<=r.visits.length/\ ∀j,j<k->Jv x (nth r.visits j)=true) (fun k=>r.visits.length-k) 0 (by simp) (Weak.mk ?_) ?_
      ·simp (disch:=omega) only [Zb,Zo,go_sem,seval]
      ·rintro k ⟨hk,hno⟩;simp (disch:=omega) only [Zb,Zo,go_sem,seval];refine cD ?_ ?_<;>intro h<;>simp (disch:=omega) only [Sh.out h,go_sem,seval]
       ·have hk2:k<r.visits.length:=by omega
        refine Xd [10,11] 12 Zp (by kernel_rfl) (by kernel_rfl) (by kernel_rfl) (by simp) ?_;simp (disch:=omega) only [go_sem,seval];refine JZ (ZaN x (nth r.visits k) ho) ?_;simp (disch:=omega) only [go_sem,seval];refine ZG 10 _ _ (by kernel_rfl) (by simp (disch:=omega) only [go_sem,seval];exact ⟨rfl,rfl⟩) ?_;simp (disch:=omega) only [go_sem,seval];refine ZG 11 _ _ (by kernel_rfl) (by simp (disch:=omega) only [go_sem,seval];exact ⟨rfl,rfl⟩) (XZ ?_);simp (disch:=omega) only [go_sem,seval];refine cD ?_ ?_<;>intro h6<;>simp (disch:=omega) only [Sh.out h6,go_sem,seval]
        ·have:r.visits.all (Jv x)=false:=by
          rw [List.all_eq_false];exact ⟨nth r.visits k,Zl hk2,by simpa using h6⟩
         simp [Y7,this]
        ·exact ⟨k+1,⟨by omega,Ze.2 ⟨hno,by simpa using h6⟩⟩,by omega,Weak.mk (by simp (disch:=omega) only [Zb,Zo,go_sem,seval])⟩
       ·have hkl:k=r.visits.length:=by omega
        subst hkl
        have:r.visits.all (Jv x)=true:=by
         rw [List.all_eq_true];intro v hv;obtain ⟨j,hj,rfl⟩:=List.mem_iff_getElem.1 hv;rw [<- Zf hj];exact hno j hj
        simp [Y7,this];omega
@[go_sem high] theorem Zv0 {k k':IntKind} {a b:Int} :ZjI false [.p (.int k a),.p (.int k' b)]=some (.int k (max a b)):=by
 simp only [ZjI]
 by_cases h:a<b
 ·simp [h];omega
 ·simp [h];omega
theorem ZcI {l:List Tim} {m:Tim} {d:Int} {b:Bool} :Zdw (l++ [m]) l.length d b=l++ [{ m with dep:=d,rest:=b }]:=by
 have:nth (l++ [m]) l.length=m:=by rw [Zf (by simp)];simp
 rw [Zdw,this];simp
theorem ZfB {x:Inst} {t:Typ} {sp:List Stp} {k:Nat} {d s m:Int} {h:She} (hk:k<sp.length) (ho:(nth sp k).opn<=(nth sp k).cls) (hm:h.miles=m) :
  (Vw x t ⟨Jr t sp k,d,s,m⟩ (nth sp k).place (nth sp k).cls 14).2=(Wu t sp k (goL x t sp k d) d s h).2 /\
  ((Wu t sp k (goL x t sp k d) d s h).2=0->(Vw x t ⟨Jr t sp k,d,s,m⟩ (nth sp k).place (nth sp k).cls 14).1=⟨(nth sp k).place,(goL x t sp k d).1,s+(goL x t sp k d).1-d,m+(goL x t sp k d).2.1⟩ /\
   (Wu t sp k (goL x t sp k d) d s h).1=⟨max (goL x t sp k d).1 (nth sp k).opn+(nth sp k).serv,s+(goL x t sp k d).1-d,{ h with times_c:=false,times:=h.times++ [⟨(goL x t sp k d).1,max (goL x t sp k d).1 (nth sp k).opn,0,false⟩],miles:=m+(goL x t sp k d).2.1 }⟩):=by
 have hne: ¬k=sp.length:=by omega
 have e:goN x.net t.prof (Jr t sp k) (nth sp k).place d=goL x t sp k d:=by simp [goL,toF,hne]
 unfold Vw Wu;simp only [e,if_neg hne];subst hm;generalize goL x t sp k d=g
 by_cases c1:g.2.2=0
 ·by_cases c2:(nth sp k).cls<g.1
  ·have c3:(nth sp k).cls<max g.1 (nth sp k).opn:=by omega
   simp [c1,c2,c3]
  ·have c3: ¬(nth sp k).cls<max g.1 (nth sp k).opn:=by omega
   by_cases c4:t.drive<s+g.1-d
   ·simp [c1,c2,c3,c4]
   ·simp [c1,c2,c3,c4]
 ·simp [c1]
theorem Zd4 {x:Inst} {t:Typ} {sp:List Stp} {d s m:Int} {h:She} (hm:h.miles=m) :
  (Vw x t ⟨Jr t sp sp.length,d,s,m⟩ t.dst t.cls 15).2=(Wu t sp sp.length (goL x t sp sp.length d) d s h).2 /\
  ((Wu t sp sp.length (goL x t sp sp.length d) d s h).2=0->(Vw x t ⟨Jr t sp sp.length,d,s,m⟩ t.dst t.cls 15).1=⟨t.dst,(goL x t sp sp.length d).1,s+(goL x t sp sp.length d).1-d,m+(goL x t sp sp.length d).2.1⟩ /\
   (Wu t sp sp.length (goL x t sp sp.length d) d s h).1=⟨(goL x t sp sp.length d).1,s+(goL x t sp sp.length d).1-d,{ h with fin:=(goL x t sp sp.length d).1,miles:=m+(goL x t sp sp.length d).2.1 }⟩):=by
 have e:goN x.net t.prof (Jr t sp sp.length) t.dst d=goL x t sp sp.length d:=by simp [goL,toF]
 unfold Vw Wu;simp only [e,if_true];subst hm;generalize goL x t sp sp.length d=g
 by_cases c1:g.2.2=0
 ·by_cases c2:t.cls<g.1
  ·simp [c1,c2]
  ·by_cases c4:t.drive<s+g.1-d
   ·simp [c1,c2,c4]
   ·simp [c1,c2,c4]
 ·simp [c1]
def ZsW (s:StD):AM.Obj:= .cells [.p (.int .i64 s.place),.p (.int .i64 s.time),.p (.int .i64 s.driven),.p (.int .i64 s.miles)]
def Qb (t:Typ) (sp:List Stp) (k:Nat) (L:Lab) (b:Bool):StD:=⟨Jr t sp k,ZI t L b,Ws L b,L.she.miles⟩
theorem ZwS {g:FuncId} {args:List V} {a c:PV} {H:List AM.Obj} {K:V->List AM.Obj->Prop} (h:ACalls Tryz.prog g args [] fun x H'=> ∃b:PV,x= .tup [.p a,.p b,.p c]/\H'= []) (k: ∀b:PV,K (.tup [.p a,.p b,.p c]) H) (ha:ZJ 0 args=true:=by rfl):ACalls Tryz.prog g args H K :=
 (h.behind ha H).mono fun x H' hq=>by
  obtain ⟨y,H1,⟨b,rfl,rfl⟩,rfl,rfl⟩:=hq;simpa [shV,shVs] using k b
theorem Xe {x:Inst} {l:List Vis} :(ZQ x l).length=l.length:=by simp [ZQ]
theorem U3 {x:Inst} {l:List Vis} {k:Nat} (h:k<l.length):nth (ZQ x l) k=stopV x (nth l k):=by
 rw [Zf (by simpa [ZQ] using h),Zf h];simp [ZQ]
theorem ZjW (x:Inst) (r:Rte) (rests:List Bool) (c:Bool) (hok:TrpOk x (Z2 x r) (ZQ x r.visits)) (ho:x.orders.length<=1048576) (ht:x.types.length<=1048576) (hne:0<r.visits.length) (hp:Y7 x r=true) (hl:rests.length=r.visits.length+1) :
  ACalls Tryz.prog 188 [.p (ZK x),.p (Xl r),.p (.list c (rests.map eB))] [] fun y H'=> ∃d:PV,y= .tup [.p (ZaO (Xz x (Z2 x r) (ZQ x r.visits) 0 (Xv (Z2 x r) r.start) rests).1.she),.p d,.p (.int .i64 (Xz x (Z2 x r) (ZQ x r.visits) 0 (Xv (Z2 x r) r.start) rests).2)]/\H'= []:=by
 have hp2:=hp;simp only [Y7,Bool.and_eq_true,decide_eq_true_eq] at hp2;obtain ⟨⟨⟨⟨⟨p1,p2⟩,p3⟩,p4⟩,p5⟩,p6⟩:=hp2;have hvis: ∀k,k<r.visits.length->Jv x (nth r.visits k)=true:=fun k hk=>List.all_eq_true.1 p6 _ (Zl hk)
 have hstop: ∀k,k<r.visits.length->QW x (nth r.visits k)=nth (ZQ x r.visits) k:=fun k hk=>by
  have:=hvis k hk;simp only [Jv,Bool.and_eq_true] at this;rw [QW,if_pos this.1,U3 hk]
 have hti:r.typ.toNat<x.types.length:=by omega
 have hopn:=hok.opn;have hrst:=hok.rst;have htd:Z2 x r=nth x.types r.typ.toNat:=rfl
 generalize hT:Z2 x r=t at *
 have hsl:(ZQ x r.visits).length=r.visits.length:=Xe
 generalize hS:ZQ x r.visits=sp at *
 refine Zd [26] Tryz.func188 rfl ZmT ?_;simp (disch:=omega) only [Tryz.f188,go_sem,seval];refine (Q2 x r ho ht (by omega)).use ?_;simp (disch:=omega) only [go_sem,seval];rw [hp];simp (disch:=omega) only [go_sem,seval];refine cD ?_ ?_<;>intro h0<;>simp (disch:=omega) only [Sh.out h0,<- htd,go_sem,seval]
 ·omega
 ·refine Xd [13] 14 Zp (by kernel_rfl) (by kernel_rfl) (by kernel_rfl) (by simp) ?_;simp (disch:=omega) only [go_sem,seval];refine Zn (Zbo t ⟨t.src,max t.opn r.start,0,0⟩ (nth rests 0) (by simp only;omega)) ?_;simp (disch:=omega) only [go_sem,seval];refine ZG 13 _ _ (by kernel_rfl) (by simp (disch:=omega) only [go_sem,seval];exact ⟨rfl,rfl⟩) (XZ ?_);simp (disch:=omega) only [go_sem,seval];refine Xd [6] 7 Zp (by kernel_rfl) (by kernel_rfl) (by kernel_rfl) (by simp) ?_;simp (disch:=omega) only [go_sem,seval];refine ZG 6 _ _ (by kernel_rfl) (by simp (disch:=omega) only [go_sem,seval];exact ⟨rfl,rfl⟩) (XZ ?_)
  simp (disch:=omega) only [go_sem,seval];have hL0:LabR 0 (Xv t r.start):=⟨by simp only [Xv];omega,by simp [Xv],by simp [Xv,zShe]⟩
  have hS0:KV t ⟨t.src,max t.opn r.start,0,0⟩ (nth rests 0)=Qb t sp 0 (Xv t r.start) (nth rests 0):=by
   simp only [KV,Qb,Jr,ZI,Ws,Xv,zShe,if_true]
   split<;>rfl
  simp (disch:=omega) only [hS0,go_sem,seval]
  refine ZM [26] [2,3,4,6,9,10,11] (fun q:Nat×Lab×List Int=> [(12,.sl 7 0 q.2.2.length q.2.2.length),(13,.p (.int .i64 q.1))])
   (fun q=> [Zb x,Zo r,.cells [.p (.bool false),.p (.int .i64 0),.p (.list true []),.p (.int .i64 0),.p (.int .i64 0)],Xg t,ZsW (Qb t sp q.1 q.2.1 (nth rests q.1)),
    .cells [.p (.bool (Xa q.1 (ZI t q.2.1 (nth rests q.1)) (nth rests q.1) q.2.1.she).rest),.p (.int .i64 (Xa q.1 (ZI t q.2.1 (nth rests q.1)) (nth rests q.1) q.2.1.she).dep),.sl 6 0 (Xa q.1 (ZI t q.2.1 (nth rests q.1)) (nth rests q.1) q.2.1.she).times.length (Xa q.1 (ZI t q.2.1 (nth rests q.1)) (nth rests q.1) q.2.1.she).times.length,.p (.int .i64 0),.p (.int .i64 0)],
    .elems 4 ((Xa q.1 (ZI t q.2.1 (nth rests q.1)) (nth rests q.1) q.2.1.she).times.map eTim),.elems 1 (q.2.2.map eI)])
   (fun q=>q.1<=r.visits.length/\Xz x t sp 0 (Xv t r.start) rests=Xz x t sp q.1 q.2.1 (rests.drop q.1)/\LabR q.1 q.2.1/\q.2.1.she.times.length=q.1/\q.2.1.she.fin=0/\(0<q.1->q.2.1.she.times_c=false)/\q.2.2.length=q.1) (fun q=>r.visits.length-q.1) (0,Xv t r.start,[])
   ⟨by simp,by simp,hL0,by simp [Xv,zShe],by simp [Xv,zShe],by simp,by simp⟩ ((Weak.nilC (o:=5) (j:=2) 4 rfl rfl (by simp)).trans (Weak.ofNil 12 1 rfl (by simp) (Weak.mk ?_))) ?_
  ·simp (disch:=omega) only [Zb,Zo,Xg,ZsW,Qb,Jr,Xa,Xv,zShe,List.map_nil,List.length_nil,List.set_cons_succ,List.set_cons_zero,List.cons_append,List.nil_append,go_sem,seval]
  ·rintro ⟨k,L,ds⟩ ⟨hk,hrun,hL,hlen,hfin,hclip,hds⟩;simp only at hk hrun hL hlen hfin hclip hds
   have hmlen:(Xa k (ZI t L (nth rests k)) (nth rests k) L.she).times.length=k:=by rw [WU];exact hlen
   have hd:=Vh hok hL (nth rests k);have hs:=Jg hL (nth rests k);have hg:=Zaa hok hL (nth rests k);have hmi:=hL.mil
   generalize hm:Xa k (ZI t L (nth rests k)) (nth rests k) L.she=m at *
   have hmm:m.miles=L.she.miles:=by rw [<- hm,WF]
   have hmf:m.fin=0:=by rw [<- hm,J0,hfin]
   have hdrop:rests.drop k=nth rests k::rests.drop (k+1):=by rw [List.drop_eq_getElem_cons (by omega),Zf (by omega)]
   have hnx:Yg x t sp k L (nth rests k)=Wu t sp k (goL x t sp k (ZI t L (nth rests k))) (ZI t L (nth rests k)) (Ws L (nth rests k)) m:=by rw [Yg,hm]
   rw [hdrop,Xz] at hrun;simp (disch:=omega) only [Zb,Zo,Xg,ZsW,go_sem,seval];refine cD ?_ ?_<;>intro h<;>simp (disch:=omega) only [Sh.out h,go_sem,seval]
   ·have hk2:k<r.visits.length:=by omega
    have hsp:=hok.stp _ (ZL (show k<sp.length by omega));refine Xd [10,11] 12 Zp (by kernel_rfl) (by kernel_rfl) (by kernel_rfl) (by simp) ?_;simp (disch:=omega) only [go_sem,seval];refine JZ (ZaN x (nth r.visits k) ho) ?_;simp (disch:=omega) only [go_sem,seval];refine ZG 10 _ _ (by kernel_rfl) (by simp (disch:=omega) only [go_sem,seval];exact ⟨rfl,rfl⟩) ?_;simp (disch:=omega) only [go_sem,seval];refine ZG 11 _ _ (by kernel_rfl) (by simp (disch:=omega) only [go_sem,seval];exact ⟨rfl,rfl⟩) (XZ ?_);simp (disch:=omega) only [hstop k hk2,go_sem,seval]
    obtain ⟨f1,f2⟩:=ZfB (x:=x) (t:=t) (d:=ZI t L (nth rests k)) (s:=Ws L (nth rests k)) (h:=m) (show k<sp.length by omega) hsp.2.1 hmm
    have he2:goN x.net t.prof (Jr t sp k) (nth sp k).place (ZI t L (nth rests k))=goL x t sp k (ZI t L (nth rests k)):=by
     have hne: ¬k=sp.length:=by omega
     simp [goL,toF,hne]
    refine Xi (ZbA x t (Qb t sp k L (nth rests k)) (nth sp k).place (nth sp k).cls 14 hok.net ?_ ?_ ?_ ?_) ?_
    ·simp only [Qb];omega
    ·simp only [Qb,Sml];omega
    ·simp only [Qb,Sml];omega
    ·simp only [Qb,Sml];rw [he2];omega
    have f1':(Vw x t (Qb t sp k L (nth rests k)) (nth sp k).place (nth sp k).cls 14).2=(Yg x t sp k L (nth rests k)).2:=by rw [hnx,<- f1];rfl
    simp (disch:=omega) only [go_sem,seval];rw [f1'];refine cD ?_ ?_<;>intro h3<;>simp (disch:=omega) only [Sh.out h3,go_sem,seval]
    ·rw [if_neg h3] at hrun;rw [hrun];simp only [Wc,zShe];exact ⟨_,_,Weak.mk (by simp (disch:=omega) only [List.map_nil,go_sem,seval]),.list true [],rfl,rfl⟩
    ·have h3':(Yg x t sp k L (nth rests k)).2=0:=Classical.not_not.1 h3;rw [if_pos h3'] at hrun;have hL':=KZ hok (by omega) hL h3';rw [hnx] at h3';obtain ⟨f3,f4⟩:=f2 h3';have f3':(Vw x t (Qb t sp k L (nth rests k)) (nth sp k).place (nth sp k).cls 14).1=⟨(nth sp k).place,(goL x t sp k (ZI t L (nth rests k))).1,Ws L (nth rests k)+(goL x t sp k (ZI t L (nth rests k))).1-ZI t L (nth rests k),L.she.miles+(goL x t sp k (ZI t L (nth rests k))).2.1⟩:=f3
     have hL2:(Yg x t sp k L (nth rests k)).1=⟨max (goL x t sp k (ZI t L (nth rests k))).1 (nth sp k).opn+(nth sp k).serv,Ws L (nth rests k)+(goL x t sp k (ZI t L (nth rests k))).1-ZI t L (nth rests k),{ m with times_c:=false,times:=m.times++ [⟨(goL x t sp k (ZI t L (nth rests k))).1,max (goL x t sp k (ZI t L (nth rests k))).1 (nth sp k).opn,0,false⟩],miles:=L.she.miles+(goL x t sp k (ZI t L (nth rests k))).2.1 }⟩:=by rw [hnx];exact f4
     simp (disch:=omega) only [f3',go_sem,seval];refine Xd [13] 14 Zp (by kernel_rfl) (by kernel_rfl) (by kernel_rfl) (by simp) ?_;simp (disch:=omega) only [go_sem,seval];refine ZG 13 _ _ (by kernel_rfl) (by simp (disch:=omega) only [go_sem,seval];exact ⟨rfl,rfl⟩) (XZ ?_);simp (disch:=omega) only [go_sem,seval]
     generalize (Yg x t sp k L (nth rests k)).1=L2 at *
     have hS1:KV t ⟨(nth sp k).place,max (goL x t sp k (ZI t L (nth rests k))).1 (nth sp k).opn+(nth sp k).serv,Ws L (nth rests k)+(goL x t sp k (ZI t L (nth rests k))).1-ZI t L (nth rests k),L.she.miles+(goL x t sp k (ZI t L (nth rests k))).2.1⟩ (nth rests (k+1))=Qb t sp (k+1) L2 (nth rests (k+1)):=by
      rw [hL2];simp only [KV,Qb,Jr,ZI,Ws,Nat.add_sub_cancel,if_neg (show ¬k+1=0 by omega)]
      split<;>rfl
     have hM:Xa (k+1) (ZI t L2 (nth rests (k+1))) (nth rests (k+1)) L2.she= { m with times_c:=false,times:=m.times++ [⟨(goL x t sp k (ZI t L (nth rests k))).1,max (goL x t sp k (ZI t L (nth rests k))).1 (nth sp k).opn,ZI t L2 (nth rests (k+1)),nth rests (k+1)⟩],miles:=L.she.miles+(goL x t sp k (ZI t L (nth rests k))).2.1 } :=by
      have he:L2.she= { m with times_c:=false,times:=m.times++ [⟨(goL x t sp k (ZI t L (nth rests k))).1,max (goL x t sp k (ZI t L (nth rests k))).1 (nth sp k).opn,0,false⟩],miles:=L.she.miles+(goL x t sp k (ZI t L (nth rests k))).2.1 } :=by rw [hL2]
      rw [he,Xa,if_neg (by omega),Nat.add_sub_cancel];simp only [<- hmlen,ZcI]
     have hd2:=Vh hok hL' (nth rests (k+1));refine Zy 8 Zp (by kernel_rfl) (by kernel_rfl) ?_;simp (disch:=omega) only [go_sem,seval];refine Zn (Zbo t ⟨(nth sp k).place,max (goL x t sp k (ZI t L (nth rests k))).1 (nth sp k).opn+(nth sp k).serv,Ws L (nth rests k)+(goL x t sp k (ZI t L (nth rests k))).1-ZI t L (nth rests k),L.she.miles+(goL x t sp k (ZI t L (nth rests k))).2.1⟩ (nth rests (k+1)) (by simp only;omega)) ?_;simp (disch:=omega) only [go_sem,seval];simp (disch:=omega) only [hS1,go_sem,seval];refine ⟨(k+1,L2,ds++ [L2.since]),⟨by simp only;omega,hrun,hL',by rw [hL2];simp [hmlen],by rw [hL2];exact hmf,by rw [hL2];simp,by simp [hds]⟩,by simp only;omega,Weak.mk ?_⟩
     simp (disch:=omega) only [hM,Zb,Zo,Xg,ZsW,hmlen,List.length_append,List.length_cons,List.length_nil,List.map_append,List.map_cons,List.map_nil,go_sem,seval];exact ⟨rfl,by rw [show L2.since=Ws L (nth rests k)+(goL x t sp k (ZI t L (nth rests k))).1-ZI t L (nth rests k) by rw [hL2]]⟩
   ·have hkl:k=sp.length:=by omega
    subst hkl;obtain ⟨f1,f2⟩:=Zd4 (x:=x) (t:=t) (sp:=sp) (d:=ZI t L (nth rests sp.length)) (s:=Ws L (nth rests sp.length)) (h:=m) hmm
    have he2:goN x.net t.prof (Jr t sp sp.length) t.dst (ZI t L (nth rests sp.length))=goL x t sp sp.length (ZI t L (nth rests sp.length)):=by simp [goL,toF]
    refine Xi (ZbA x t (Qb t sp sp.length L (nth rests sp.length)) t.dst t.cls 15 hok.net ?_ ?_ ?_ ?_) ?_
    ·simp only [Qb];omega
    ·simp only [Qb,Sml];omega
    ·simp only [Qb,Sml];omega
    ·simp only [Qb,Sml];rw [he2];omega
    have f1':(Vw x t (Qb t sp sp.length L (nth rests sp.length)) t.dst t.cls 15).2=(Yg x t sp sp.length L (nth rests sp.length)).2:=by rw [hnx,<- f1];rfl
    simp (disch:=omega) only [go_sem,seval];rw [f1'];have hdl:rests.drop (sp.length+1)= []:=List.drop_eq_nil_of_le (by omega);rw [hdl,Xz] at hrun;refine cD ?_ ?_<;>intro h3<;>simp (disch:=omega) only [Sh.out h3,go_sem,seval]
    ·rw [if_neg h3] at hrun;rw [hrun];simp only [Wc,zShe];exact ⟨_,_,Weak.mk (by simp (disch:=omega) only [List.map_nil,go_sem,seval]),.list true [],rfl,rfl⟩
    ·have h3':(Yg x t sp sp.length L (nth rests sp.length)).2=0:=Classical.not_not.1 h3;rw [if_pos h3'] at hrun;rw [hnx] at h3';obtain ⟨f3,f4⟩:=f2 h3';have f3':(Vw x t (Qb t sp sp.length L (nth rests sp.length)) t.dst t.cls 15).1=⟨t.dst,(goL x t sp sp.length (ZI t L (nth rests sp.length))).1,Ws L (nth rests sp.length)+(goL x t sp sp.length (ZI t L (nth rests sp.length))).1-ZI t L (nth rests sp.length),L.she.miles+(goL x t sp sp.length (ZI t L (nth rests sp.length))).2.1⟩:=f3;rw [hrun,hnx,f4];simp (disch:=omega) only [f3',go_sem,seval];refine Zs (Weak.fz (o:=6) (by rfl)) ?_
     refine Zs (Weak.fz (o:=7) (by rfl)) ?_;refine Zc [] _ _ _ _ ?_;simp (disch:=omega) only [List.map_cons,List.map_nil,List.set_cons_succ,List.set_cons_zero,go_sem,seval]
     have hmc:m.times_c=false:=by
      rw [<- hm,<- hclip (by omega)];unfold Xa
      split<;>rfl
     exact ⟨_,_,Weak.mk (by simp (disch:=omega) only [hmc,go_sem,seval]),.list false (ds.map eI++ [.int .i64 (Ws L (nth rests sp.length)+(goL x t sp sp.length (ZI t L (nth rests sp.length))).1-ZI t L (nth rests sp.length))]),rfl,rfl⟩
theorem Zje (x:Inst) (r:Rte) (rests:List Bool) (c:Bool) (hok:TrpOk x (Z2 x r) (ZQ x r.visits)) (ho:x.orders.length<=1048576) (ht:x.types.length<=1048576) (hne:0<r.visits.length) (hp:Y7 x r=true) (hl:rests.length=r.visits.length+1) :
  PT 143 [.p (ZK x),.p (Xl r),.p (.list c (rests.map eB))] [.p (ZaO (Xz x (Z2 x r) (ZQ x r.visits) 0 (Xv (Z2 x r) r.start) rests).1.she),.p (.int .i64 (Xz x (Z2 x r) (ZQ x r.visits) 0 (Xv (Z2 x r) r.start) rests).2)]:=by
 have cr:=ZjW x r rests c hok ho ht hne hp hl;generalize (Xz x (Z2 x r) (ZQ x r.visits) 0 (Xv (Z2 x r) r.start) rests)=q at cr ⊢;obtain ⟨L,e⟩:=q;refine Zd [] Tryz.func143 rfl ZmF ?_;simp (disch:=omega) only [Tryz.f143,go_sem,seval];refine ZwS cr fun d=> ?_;simp (disch:=omega) only [go_sem,seval];exact we
def Jz (l:List Bool) (n:Nat):Option (List Bool):=(Xp (l.drop n)).map (l.take n++ ·)
def Zkg : Option (List Bool)->PV
 | some l=> .list false (l.map eB)
 | none=> .list true []
theorem Wy : ∀m:Nat,Xp (List.replicate m true)=none
 | 0=>rfl
 | m+1=>by rw [List.replicate_succ,Xp,Wy m];rfl
theorem Kq : ∀(a b r:List Bool),Xp b=some r->Xp (a++b)=some (a++r)
 | [],b,r,h=>h
 | x::a,b,r,h=>by rw [List.cons_append,Xp,Kq a b r h];rfl
theorem Zf4 (a:List Bool) (m:Nat):Xp (a++false::List.replicate m true)=some (a++true::List.replicate m false):=by
 refine Kq _ _ _ ?_;rw [Xp,Wy];simp
theorem Zby {o:List Bool} {i:Nat} {b:Bool} :(o.map eB).set i (.bool b)=(o.set i b).map eB:=by rw [List.map_set];rfl
theorem Zgn (l:List Bool) (c:Bool) (n:Nat) (hn:n<=l.length) (h0:0<l.length) (hl:l.length<=1048576):PT 144 [.p (.list c (l.map eB)),.p (.int .i64 (n:Nat))] [.p (Zkg (Jz l n)),.p (.bool (Jz l n).isSome)]:=by
 refine Zd [8] Tryz.func144 rfl ZmL ?_;simp (disch:=omega) only [Tryz.f144,go_sem,seval];rw [if_pos ⟨by omega,by omega⟩];simp (disch:=omega) only [go_sem,seval];refine ZM [8] [1] (fun q:Nat×List Bool=> [(6,.sl 0 0 q.2.length q.2.length),(7,.p (.int .i64 ((q.1:Int)-1)))]) (fun q=> [.elems 1 (q.2.map eB)]) (fun q=>n<=q.1/\q.1<=l.length/\q.2=l.take q.1++List.replicate (l.length-q.1) false/\l.drop q.1=List.replicate (l.length-q.1) true) (fun q=>q.1) (l.length,l) (by simp;omega) (Weak.mk ?_) ?_
 ·simp (disch:=omega) only [go_sem,seval]
 ·rintro ⟨j,o⟩ ⟨hj1,hj2,ho,hjt⟩;simp only at hj1 hj2 ho hjt
  have hol:o.length=l.length:=by rw [ho];simp;omega
  simp (disch:=omega) only [go_sem,seval];refine cD ?_ ?_<;>intro h<;>simp (disch:=omega) only [Sh.out h,go_sem,seval]
  ·obtain ⟨i,rfl⟩: ∃i,j=i+1:=⟨j-1,by omega⟩
   have hij:(((i+1:Nat):Int)-1)=(i:Int):=by omega
   have hat:nth o i=nth l i:=by
    rw [Zf (by omega),Zf (by omega)];simp only [ho];rw [List.getElem_append_left (by simp;omega)];simp
   have hdr:l.drop i=nth l i::List.replicate (l.length-(i+1)) true:=by
    rw [List.drop_eq_getElem_cons (by omega),hjt,Zf (by omega)]
   have hio:i<o.length:=by omega
   simp (disch:=first | omega | (simp only [List.length_cons,List.length_nil,List.length_append,List.length_map,List.length_take,List.length_drop]<;>omega)) only [Int.add_sub_cancel,XY,hat,hio,go_sem,seval];refine cD ?_ ?_<;>intro h2<;>simp (disch:=omega) only [Sh.out h2,go_sem,seval]
   ·have hf:nth l i=false:=by simpa using h2
    have hres:Jz l n=some (o.set i true):=by
     rw [hf] at hdr
     have e:l.drop n=(l.drop n).take (i-n)++false::List.replicate (l.length-(i+1)) true:=by
      rw [<- hdr,show l.drop i=(l.drop n).drop (i-n) by rw [List.drop_drop];congr 1;omega,List.take_append_drop]
     rw [Jz,e,Zf4,ho];simp only [Option.map_some,Option.some.injEq]
     have e2:l.take (i+1)=l.take n++(l.drop n).take (i-n)++ [nth l i]:=by
      rw [List.take_succ_eq_append_getElem (by omega),Zf (by omega)]
      congr 1
      have:l.take i=l.take (n+(i-n)):=by congr 1;omega
      rw [this,List.take_add]
     rw [e2,hf]
     have el:(l.take n++(l.drop n).take (i-n)).length=i:=by simp;omega
     rw [List.append_assoc (l.take n++(l.drop n).take (i-n)),List.set_append_right _ _ (by omega),el];simp
    rw [hres];simp (disch:=first | omega | (simp only [List.length_cons,List.length_nil,List.length_append,List.length_map,List.length_take,List.length_drop]<;>omega)) only [hio,Zby,go_sem,seval];refine Zs (Weak.fz (o:=0) (by rfl)) ?_;refine Zc [] _ _ _ _ ?_;simp (disch:=omega) only [List.map_cons,List.map_nil,List.set_cons_succ,List.set_cons_zero,go_sem,seval];simp only [List.length_set,List.length_map,if_true];exact we (by simp (disch:=omega) only [Zkg,Option.isSome_some,go_sem,seval])
   ·have hf:nth l i=true:=by simpa using h2
    simp (disch:=first | omega | (simp only [List.length_cons,List.length_nil,List.length_append,List.length_map,List.length_take,List.length_drop]<;>omega)) only [hio,Zby,go_sem,seval];refine ⟨(i,o.set i false),⟨by simp only;omega,by simp only;omega,?_,?_⟩,by simp only;omega,Weak.mk (by simp (disch:=first | omega | (simp only [List.length_cons,List.length_nil,List.length_append,List.length_map,List.length_take,List.length_drop]<;>omega)) only [List.length_set,Int.add_sub_cancel,go_sem,seval])⟩
    ·simp only;rw [ho,show l.length-i=(l.length-(i+1))+1 by omega,List.replicate_succ,List.take_succ_eq_append_getElem (by omega),List.append_assoc,List.set_append_right _ _ (by simp;omega),show i-(l.take i).length=0 by simp;omega];simp
    ·simp only;rw [hdr,hf,show l.length-i=(l.length-(i+1))+1 by omega,List.replicate_succ]
  ·have hjn:j=n:=by omega
   have hres:Jz l n=none:=by rw [Jz,<- hjn,hjt,Wy];rfl
   rw [hres];exact we (by simp (disch:=omega) only [Zkg,Option.isSome_none,go_sem,seval])
theorem Zdl {r q:List Bool} :Jz (r++q) r.length=(Xp q).map (r++ ·):=by simp [Jz]
theorem Zc4 {l:List Bool} :Zkg (some l)= .list false (l.map eB):=rfl
theorem Zdt : Zkg none= .list true []:=rfl
def ZcU (b:Option Lab):She:=match b with | some L=>L.she | none=>zShe
def ZfQ (r:List Bool) (cur:Option (List Bool)):List (List Bool):=match cur with | some q=>(X3 q).map (r++ ·) | none=> []
theorem Uy {r s:List Bool} :ZfQ r (some s)=(r++s)::ZfQ r (Xp s):=by
 unfold ZfQ;simp only;rw [fromB_next s,List.map_cons]
 cases Xp s<;>rfl
theorem ZbG {x:Inst} {t:Typ} {sp:List Stp} : ∀(bs:List Bool) (k:Nat) (L:Lab),¬(Xz x t sp k L bs).2=0->(Xz x t sp k L bs).1=Wc
 | [],k,L,h=>by simp [Xz] at h
 | b::bs,k,L,h=>by
  rw [Xz] at h ⊢
  split
  ·rename_i c;rw [if_pos c] at h;exact ZbG bs _ _ h
  ·rfl
theorem ZgR (x:Inst) (r:Rte) (hok:TrpOk x (Z2 x r) (ZQ x r.visits)) (ho:x.orders.length<=1048576) (ht:x.types.length<=1048576) (hne:0<r.visits.length) (hp:Y7 x r=true) (hl:r.rests.length<=r.visits.length+1) :
  PT 90 [.p (ZK x),.p (Xl r)] [.p (ZaO (Xf x r).1),.p (.int .i64 (Xf x r).2)]:=by
 have hsl:(ZQ x r.visits).length=r.visits.length:=Xe;have hp2:=hp;simp only [Y7,Bool.and_eq_true,decide_eq_true_eq] at hp2;have hv20:=hp2.1.2;have hrun:=fun rests (c:Bool) (h:rests.length=r.visits.length+1)=>Zje x r rests c hok ho ht hne hp h;have hopt:=fun bs=>Yn (x:=x) (t:=Z2 x r) (sp:=ZQ x r.visits) bs 0 (Xv (Z2 x r) r.start);unfold Xf WE
 generalize hS:ZQ x r.visits=sp at *
 generalize Z2 x r=t at *
 generalize Xv t r.start=L0 at *
 refine Zd [5,6] Tryz.func90 rfl Zp4 ?_;simp (disch:=omega) only [Tryz.f90,go_sem,seval];refine (Q2 x r ho ht (by omega)).use ?_;simp (disch:=omega) only [go_sem,seval];rw [hp];simp (disch:=omega) only [go_sem,seval];refine cD ?_ ?_<;>intro h0<;>simp (disch:=omega) only [Sh.out h0,go_sem,seval]
 ·omega
 ·refine Wz (ZfC 3 rfl rfl ?_);simp (disch:=omega) only [go_sem,seval];refine ⟨_,_,Zbg (e:=4) rfl Tryz.underlying46 (by kernel_rfl) rfl rfl rfl ?_ ?_ ?_,?_⟩
  ·simp
  ·simp;omega
  ·intro q hq;obtain ⟨b,_,rfl⟩:=List.mem_map.1 hq
   rfl
  ·have hpl:(YU r.rests (sp.length+1)).length=r.visits.length+1:=by simp [YU];omega
   have hpad:r.rests.map eB++(PV.bool false::List.replicate r.visits.length (PV.bool false)).drop (r.rests.map eB).length=(YU r.rests (sp.length+1)).map eB:=by
    rw [YU,List.map_append,<- List.replicate_succ,List.drop_replicate,List.map_replicate,hsl,List.length_map];rfl
   simp only [List.set_cons_succ,List.set_cons_zero];rw [hpad];have h0r:=hopt (YU r.rests (sp.length+1))
   have cn: ∀s:List Bool,(r.rests++s).length=r.visits.length+1->PT 144 [.p (.list false ((r.rests++s).map eB)),.p (.int .i64 (r.rests.length:Nat))] [.p (Zkg ((Xp s).map (r.rests++ ·))),.p (.bool ((Xp s).map (r.rests++ ·)).isSome)]:=fun s hs=>by
    have:=Zgn (r.rests++s) false r.rests.length (by simp) (by omega) (by omega);rwa [Zdl] at this
   have e1:(Xz x t sp 0 L0 (YU r.rests (sp.length+1))).1.she=ZcU (WN (XJ x t sp) 0 L0 (YU r.rests (sp.length+1))):=by
    rw [h0r]
    split
    ·rfl
    ·rename_i c;rw [ZbG _ _ _ c];rfl
   have e2:decide ((Xz x t sp 0 L0 (YU r.rests (sp.length+1))).2=0)=(WN (XJ x t sp) 0 L0 (YU r.rests (sp.length+1))).isSome:=by
    rw [h0r]
    split
    ·rename_i c;simp [c]
    ·rename_i c;simp [c]
   have hrp:=hrun (YU r.rests (sp.length+1)) false hpl;have XW:XL r.rests (sp.length+1)=ZfQ r.rests (some (List.replicate (sp.length+1-r.rests.length) false)):=rfl;refine Zs (Weak.fz (o:=3) (by rfl)) ?_;refine Zc [] _ _ _ _ ?_;simp (disch:=omega) only [List.map_cons,List.map_nil,List.set_cons_succ,List.set_cons_zero,go_sem,seval];rw [if_pos hpl];refine Xi hrp ?_;simp (disch:=omega) only [go_sem,seval];refine Xi (cn (List.replicate (sp.length+1-r.rests.length) false) hpl) ?_;simp (disch:=omega) only [e1,e2,go_sem,seval]
   have hfm:fmL Y4 none ((XL r.rests (sp.length+1)).filterMap (WN (XJ x t sp) 0 L0))=fmL Y4 (WN (XJ x t sp) 0 L0 (YU r.rests (sp.length+1))) ((ZfQ r.rests (Xp (List.replicate (sp.length+1-r.rests.length) false))).filterMap (WN (XJ x t sp) 0 L0)):=by
    rw [XW,Uy,List.filterMap_cons];rw [show r.rests++List.replicate (sp.length+1-r.rests.length) false=YU r.rests (sp.length+1) from rfl]
    cases WN (XJ x t sp) 0 L0 (YU r.rests (sp.length+1)) with
    | none=>rfl
    | some L=>rfl
   clear XW;generalize fmL Y4 none ((XL r.rests (sp.length+1)).filterMap (WN (XJ x t sp) 0 L0))=res at hfm ⊢;generalize (Xz x t sp 0 L0 (YU r.rests (sp.length+1))).2=err0
   refine Zg [2,3,4,8,9] (fun q:Option (List Bool)×Option Lab=> [(7,.p (Zkg (q.1.map (r.rests++ ·)))),(10,.p (.bool q.2.isSome)),(11,.p (.bool (q.1.map (r.rests++ ·)).isSome))])
    (fun q=> [Zb x,Zo r,.cells [.p (.bool false),.p (.int .i64 0),.p (.list true []),.p (.int .i64 0),.p (.int .i64 0)],.dead,.cells [.p (.bool (ZcU q.2).rest),.p (.int .i64 (ZcU q.2).dep),.p (.list (ZcU q.2).times_c ((ZcU q.2).times.map eTim)),.p (.int .i64 (ZcU q.2).fin),.p (.int .i64 (ZcU q.2).miles)]])
    (fun q=>res=fmL Y4 q.2 ((ZfQ r.rests q.1).filterMap (WN (XJ x t sp) 0 L0))/\ ∀s,q.1=some s->s.length=sp.length+1-r.rests.length) (fun q=>(ZfQ r.rests q.1).length)
    (Xp (List.replicate (sp.length+1-r.rests.length) false),WN (XJ x t sp) 0 L0 (YU r.rests (sp.length+1))) ⟨hfm,fun s hs=>by have:=fromB_next.nlen _ _ hs;simpa using this⟩ (Weak.mk ?_) ?_
   ·simp (disch:=omega) only [Zb,Zo,go_sem,seval]
   ·rintro ⟨cur,b⟩ ⟨hR,hcl⟩;simp only at hR hcl
    cases cur with
    | none =>
     simp only [ZfQ,List.filterMap_nil] at hR;simp (disch:=omega) only [Option.map_none,Option.isSome_none,Zdt,Zb,Zo,go_sem,seval]
     cases b with
     | none =>
      rw [fmL] at hR;subst hR;simp (disch:=omega) only [Option.isSome_none,Bool.not_false,go_sem,seval];exact we (by simp (disch:=omega) only [zShe,List.map_nil,go_sem,seval])
     | some m =>
      rw [fmL] at hR;subst hR;simp (disch:=omega) only [Option.isSome_some,Bool.not_true,ZcU,go_sem,seval];exact we
    | some s =>
     have hsl2:=hcl s rfl;rw [Uy,List.filterMap_cons,hopt] at hR
     have hmu:(ZfQ r.rests (Xp s)).length<(ZfQ r.rests (some s)).length:=by rw [Uy];simp
     have hnl: ∀s',Xp s=some s'->s'.length=sp.length+1-r.rests.length:=fun s' hs'=>by rw [fromB_next.nlen _ _ hs',hsl2]
     have hlen:(r.rests++s).length=r.visits.length+1:=by simp;omega
     have hr1:=hrun (r.rests++s) false hlen;have cn1:=cn s hlen;rw [List.map_append] at hr1 cn1;simp (disch:=omega) only [Option.map_some,Option.isSome_some,Zc4,Zb,Zo,go_sem,seval];generalize Xz x t sp 0 L0 (r.rests++s)=g at hR hr1;obtain ⟨Lg,eg⟩:=g;simp only at hR hr1;refine Xi hr1 ?_;simp (disch:=omega) only [go_sem,seval];refine gT ?_ ?_<;>intro h1<;>simp (disch:=omega) only [Sh.out h1,go_sem,seval]
     ·subst h1
      cases b with
      | none =>
       simp (disch:=omega) only [Option.isSome_none,Bool.not_false,go_sem,seval];refine Xi cn1 ?_;simp (disch:=omega) only [go_sem,seval];exact ⟨(Xp s,some Lg),⟨hR,hnl⟩,hmu,Weak.mk (by simp (disch:=omega) only [Zb,Zo,ZcU,Option.isSome_some,go_sem,seval])⟩
      | some m =>
       simp (disch:=omega) only [Option.isSome_some,Bool.not_true,ZcU,go_sem,seval];refine cD ?_ ?_<;>intro h2<;>simp (disch:=omega) only [Sh.out h2,go_sem,seval]
       ·refine Xi cn1 ?_;simp (disch:=omega) only [go_sem,seval];exact ⟨(Xp s,some Lg),⟨by rw [hR];simp only [if_true,fmL,Y4,h2],hnl⟩,hmu,Weak.mk (by simp (disch:=omega) only [Zb,Zo,ZcU,Option.isSome_some,go_sem,seval])⟩
       ·refine Xi cn1 ?_;simp (disch:=omega) only [go_sem,seval];exact ⟨(Xp s,some m),⟨by rw [hR];simp only [if_true,fmL,Y4,h2,if_false],hnl⟩,hmu,Weak.mk (by simp (disch:=omega) only [Zb,Zo,ZcU,Option.isSome_some,go_sem,seval])⟩
     ·rw [if_neg h1] at hR;refine Xi cn1 ?_;simp (disch:=omega) only [go_sem,seval];exact ⟨(Xp s,b),⟨hR,hnl⟩,hmu,Weak.mk (by simp (disch:=omega) only [Zb,Zo,go_sem,seval])⟩
def eR (p:Bool×List Int):PV:= .list p.1 (p.2.map eI)
@[go_sem] theorem Zz0 (p:Bool×List Int):eR p= .list p.1 (p.2.map eI):=Eq.trans rfl rfl
theorem Zgv (L:List (Bool×List Int)) (c:Bool) (d:Nat) (hd:d<=3) (hL:L.length<=1048576) (h: ∀p∈L,p.2.length=d):PC 284 [.p (.list c (L.map eR)),.p (.int .i64 (d:Nat))] (.bool true):=by
 refine Za Tryz.func284 rfl Zrp ?_
 have e1: ¬(d:Int)<0:=by omega
 have e2: ¬(3:Int)<d:=by omega
 simp (disch:=omega) only [Tryz.f284,e1,e2,go_sem,seval];refine Zg [0,1] (fun k:Nat=> [(5,.p (.int .i64 k))]) (fun _=> []) (fun k=>k<=L.length) (fun k=>L.length-k) 0 (by simp) (Weak.mk ?_) ?_
 ·simp (disch:=omega) only [go_sem,seval]
 ·intro k hk;simp (disch:=omega) only [go_sem,seval];refine cD ?_ ?_<;>intro h1<;>simp (disch:=omega) only [Sh.out h1,go_sem,seval]
  ·have hk2:k<L.length:=by omega
   have hp:=h _ (Zl hk2);simp (disch:=omega) only [hp,go_sem,seval];exact ⟨k+1,by omega,by omega,wk⟩
def ZcL (L:List (Bool×List Int)) (k j:Nat):Int:=((L.take k).map fun p=>nth p.2 j).sum
theorem JS {L:List (Bool×List Int)} {k j:Nat} (h:k<L.length):ZcL L (k+1) j=ZcL L k j+nth (nth L k).2 j:=by
 rw [ZcL,ZcL,List.take_succ_eq_append_getElem h,List.map_append,List.sum_append,Zf h];simp
theorem ZbD {L:List (Bool×List Int)} {d j:Nat} (h: ∀p∈L,p.2.length=d/\ ∀n∈p.2,0<=n/\n<=1000) (hj:j<d): ∀k,k<=L.length->0<=ZcL L k j/\ZcL L k j<=1000*(k:Int)
 | 0,_=>by simp [ZcL]
 | k+1,hk=>by
  have ih:=ZbD h hj k (by omega);obtain ⟨h1,h2⟩:=h _ (Zl (show k<L.length by omega));have:=h2 _ (Zl (show j<(nth L k).2.length by omega));rw [JS (by omega)];omega
def Zsr (L:List (Bool×List Int)) (d:Nat):List Int:=(List.range d).map fun j=>ZcL L L.length j
theorem Zkp (L:List (Bool×List Int)) (c:Bool) (d:Nat) (hd:1<=d/\d<=3) (hL:L.length<=1048576) (h: ∀p∈L,p.2.length=d/\ ∀n∈p.2,0<=n/\n<=1000) :
  PT 248 [.p (.list c (L.map eR)),.p (.int .i64 (d:Nat))] [.p (.list false ((Zsr L d).map eI)),.p (.int .i64 0)]:=by
 refine Zd [13] Tryz.func248 rfl ZmD ?_;simp (disch:=omega) only [Tryz.f248,go_sem,seval];refine (Zgv L c d hd.2 hL fun p hp=>(h p hp).1).use ?_;simp (disch:=omega) only [go_sem,seval];refine ZM [13] [0,1] (fun q:Nat×List Int=> [(6,.sl 0 0 q.2.length q.2.length),(7,.p (.int .i64 q.1))]) (fun q=> [.elems 1 (q.2.map eI)]) (fun q=>q.1<=d/\q.2=(List.range q.1).map fun j=>ZcL L L.length j) (fun q=>d-q.1) (0,[]) (by simp) (Weak.ofNil 6 1 rfl (by simp) (Weak.mk ?_)) ?_
 ·simp (disch:=omega) only [List.map_nil,List.length_nil,go_sem,seval]
 ·rintro ⟨j,o⟩ ⟨hj,ho⟩;simp only at hj ho
  have hol:o.length=j:=by rw [ho];simp
  simp (disch:=omega) only [go_sem,seval];refine cD ?_ ?_<;>intro h1<;>simp (disch:=omega) only [Sh.out h1,go_sem,seval]
  ·have hj2:j<d:=by omega
   refine Zg [0,1,6,7] (fun k:Nat=> [(8,.p (.int .i64 (ZcL L k j))),(9,.p (.int .i64 k))]) (fun _=> [.elems 1 (o.map eI)]) (fun k=>k<=L.length) (fun k=>L.length-k) 0 (by simp) (Weak.mk ?_) ?_
   ·simp (disch:=omega) only [ZcL,List.take_zero,List.map_nil,List.sum_nil,go_sem,seval]
   ·intro k hk;simp (disch:=omega) only [go_sem,seval];refine cD ?_ ?_<;>intro h2<;>simp (disch:=omega) only [Sh.out h2,go_sem,seval]
    ·have hk2:k<L.length:=by omega
     obtain ⟨g1,g2⟩:=h _ (Zl hk2);have g3:=g2 _ (Zl (show j<(nth L k).2.length by omega));have g4:=ZbD h hj2 k hk;have g5:=JS (j:=j) hk2
     have g6:j<(nth L k).2.length:=by omega
     simp (disch:=omega) only [go_sem,seval];exact ⟨k+1,by omega,by omega,Weak.mk (by simp (disch:=omega) only [g5,go_sem,seval])⟩
    ·have hkl:k=L.length:=by omega
     subst hkl;refine ⟨(j+1,o++ [ZcL L L.length j]),⟨by simp only;omega,by simp only;rw [ho,List.range_succ,List.map_append];rfl⟩,by simp only;omega,Weak.mk (by simp (disch:=omega) only [List.length_append,List.length_cons,List.length_nil,List.map_append,List.map_cons,List.map_nil,go_sem,seval])⟩
  ·have hjd:j=d:=by omega
   subst hjd;refine Zs (Weak.fz (o:=0) (by rfl)) ?_;refine Zc [] _ _ _ _ ?_;simp (disch:=omega) only [List.map_cons,List.map_nil,List.set_cons_succ,List.set_cons_zero,go_sem,seval];rw [Zsr,<- ho];exact we
theorem ZgY (a b:List Int) (c d:Bool) (ha:a.length<=1048576) (hb:b.length<=1048576):PC 141 [.p (.list c (a.map eI)),.p (.list d (b.map eI))] (.bool (YA a b)):=by
 refine Za Tryz.func141 rfl Zl3 ?_;simp (disch:=omega) only [Tryz.f141,go_sem,seval];refine cD ?_ ?_<;>intro h1<;>simp (disch:=omega) only [Sh.out h1,go_sem,seval]
 ·have: ¬a.length=b.length:=by omega
  simp [YA,this]
 ·have h1':a.length=b.length:=by omega
  refine Zg [0,1] (fun k:Nat=> [(5,.p (.int .i64 k))]) (fun _=> []) (fun k=>k<=a.length/\ ∀j,j<k->nth a j<=nth b j) (fun k=>a.length-k) 0 (by simp) (Weak.mk ?_) ?_
  ·simp (disch:=omega) only [go_sem,seval]
  ·rintro k ⟨hk,hno⟩;simp (disch:=omega) only [go_sem,seval];refine cD ?_ ?_<;>intro h2<;>simp (disch:=omega) only [Sh.out h2,go_sem,seval]
   ·have hk2:k<a.length:=by omega
    refine Zh Zp (by kernel_rfl) (by kernel_rfl) ?_;simp (disch:=omega) only [go_sem,seval];refine cD ?_ ?_<;>intro h3<;>simp (disch:=omega) only [Sh.out h3,go_sem,seval]
    ·have:YA a b=false:=by
      cases hf:YA a b with
      | false=>rfl
      | true=>simp [YA,List.all_eq_true] at hf;have:=hf.2 k hk2;omega
     rw [this]
    ·exact ⟨k+1,⟨by omega,Ze.2 ⟨hno,by omega⟩⟩,by omega,wk⟩
   ·have hkl:k=a.length:=by omega
    subst hkl
    have:YA a b=true:=by
     simp only [YA,Bool.and_eq_true,decide_eq_true_eq,List.all_eq_true,List.mem_range];exact ⟨h1',fun i hi=>hno i hi⟩
    rw [this]
theorem Zhk (x:Inst) (ht:x.types.length<=1048576):PC 249 [.p (ZK x)] (.int .i64 (dimsOf x.types)):=by
 refine Za Tryz.func249 rfl Zmw ?_;simp (disch:=omega) only [Tryz.f249,go_sem,seval];refine cD ?_ ?_<;>intro h1<;>simp (disch:=omega) only [Sh.out h1,go_sem,seval]
 ·have:x.types.length=0:=by omega
  simp [dimsOf,this]
 ·have h2: ¬x.types.length=0:=by omega
  simp only [dimsOf,h2,if_false]
structure LdOk (x:Inst):Prop where
 ord:x.orders.length<=10
 typ:x.types.length<=1048576
 dim:1<=dimsOf x.types/\dimsOf x.types<=3
 load: ∀o∈x.orders,(o.load.length:Int)=dimsOf x.types/\ ∀n∈o.load,0<=n/\n<=1000
theorem Wa {x:Inst} (h:InstOk x):LdOk x:=by
 have ht:=h.types.1;simp only [rng,decide_eq_true_eq] at ht;have ho:=h.orders
 have h0:0<x.types.length:=by omega
 have hcap:=h.types.2 0 h0;unfold QR at hcap;obtain ⟨⟨⟨⟨⟨⟨⟨⟨_,_⟩,_⟩,_⟩,hcap⟩,_⟩,_⟩,_⟩,_⟩:=hcap;simp only [WC,Bool.and_eq_true,decide_eq_true_eq,rng] at hcap;refine ⟨ho.1,by omega,by omega,fun o hm=> ?_⟩;obtain ⟨i,hi,rfl⟩:=List.mem_iff_getElem.1 hm;have:=(ho.2 i hi).load;rw [Zf hi] at this;simp only [loadOk,Bool.and_eq_true,decide_eq_true_eq,List.all_eq_true,rng] at this;exact ⟨this.1,this.2⟩
def ZfJ (x:Inst) (l:List Vis) (n k:Nat):List (Bool×List Int):=((List.range k).filter fun i=>onB x l n i&&X2 l i).map fun i=>((nth x.orders i).load_c,(nth x.orders i).load)
theorem Zfp {x:Inst} {l:List Vis} {n k:Nat} :ZfJ x l n (k+1)=ZfJ x l n k++if (onB x l n k&&X2 l k)=true then [((nth x.orders k).load_c,(nth x.orders k).load)] else []:=by
 unfold ZfJ;rw [List.range_succ,List.filter_append,List.map_append]
 congr 1
 simp only [List.filter_cons,List.filter_nil]
 split<;>rfl
theorem Zf6 {x:Inst} {l:List Vis} {n:Nat} : ∀k,(ZfJ x l n k).length<=k:=fun k=>by
 unfold ZfJ;have:=List.length_filter_le (fun i=>onB x l n i&&X2 l i) (List.range k);simp only [List.length_map,List.length_range] at this ⊢;exact this
theorem Zkw {x:Inst} {l:List Vis} {n k:Nat} (h:LdOk x) (hk:k<=x.orders.length): ∀p∈ZfJ x l n k,p.2.length=(dimsOf x.types).toNat/\ ∀m∈p.2,0<=m/\m<=1000:=fun p hp=>by
 obtain ⟨i,hi,rfl⟩:=List.mem_map.1 hp;have hi2:=List.mem_range.1 (List.mem_filter.1 hi).1;have:=h.load _ (Zl (show i<x.orders.length by omega));exact ⟨by simp only;omega,this.2⟩
theorem Zgr {x:Inst} {l:List Vis} {n:Nat} :Zsr (ZfJ x l n x.orders.length) (dimsOf x.types).toNat=Y9 x l n:=by
 unfold Zsr Y9;refine List.map_congr_left fun j _=> ?_;rw [ZcL,List.take_length,ZfJ,List.map_map,ZcR,<- Wb]
 rfl
def onK (x:Inst) (l:List Vis) (n i k:Nat):Bool:=(l.take (min k n)).foldl (fun on v=>if v.order=(i:Int) then !v.drp else on) (decide ((nth x.orders i).pick.place<0))
def Zj2 (l:List Vis) (i k:Nat):Bool:=(l.take k).any fun v=>decide (v.order=(i:Int))
theorem Zg6 {x:Inst} {l:List Vis} {n i k:Nat} (h:k<l.length):onK x l n i (k+1)=if (nth l k).order=(i:Int) then (if k<n then !(nth l k).drp else onK x l n i k) else onK x l n i k:=by
 unfold onK
 by_cases hn:k<n
 ·rw [show min (k+1) n=min k n+1 by omega,show min k n=k by omega,List.take_succ_eq_append_getElem h,List.foldl_append,Zf h];simp [hn]
 ·rw [show min (k+1) n=min k n by omega];simp [hn]
theorem Zd6 {l:List Vis} {i k:Nat} (h:k<l.length):Zj2 l i (k+1)=if (nth l k).order=(i:Int) then true else Zj2 l i k:=by
 unfold Zj2;rw [List.take_succ_eq_append_getElem h,List.any_append,Zf h]
 by_cases hc:(l[k]).order=(i:Int)<;>simp [hc]
theorem Zj3 {x:Inst} {l:List Vis} {n i:Nat} (h:n<=l.length):onK x l n i l.length=onB x l n i:=by
 unfold onK onB;rw [show min l.length n=n by omega]
theorem Zhc {l:List Vis} {i:Nat} :Zj2 l i l.length=X2 l i:=by unfold Zj2 X2;rw [List.take_length]
theorem Zdr (x:Inst) (l:List Vis) (c:Bool) (n:Nat) (hx:LdOk x) (hl:l.length<=1048576) (hn:n<=l.length) :
  PT 186 [.p (ZK x),.p (.list c (l.map XK)),.p (.int .i64 (n:Nat))] [.p (.list false ((Y9 x l n).map eI)),.p (.int .i64 0)]:=by
 have ho:=hx.ord;refine Zd [15] Tryz.func186 rfl Znk ?_;simp (disch:=omega) only [Tryz.f186,go_sem,seval];refine ZM [15] [1,2,3] (fun q:Nat×List (Bool×List Int)=> [(8,.sl 1 0 q.2.length q.2.length),(9,.p (.int .i64 q.1))]) (fun q=> [Zb x,.elems 1 (q.2.map eR)]) (fun q=>q.1<=x.orders.length/\q.2=ZfJ x l n q.1) (fun q=>x.orders.length-q.1) (0,[]) (by simp [ZfJ]) (Weak.ofNil 8 1 rfl (by simp) (Weak.mk ?_)) ?_
 ·simp (disch:=omega) only [Zb,List.map_nil,List.length_nil,List.cons_append,List.nil_append,go_sem,seval]
 ·rintro ⟨i,o⟩ ⟨hi,hob⟩;simp only at hi hob
  have hol:o.length<=i:=by rw [hob];exact Zf6 i
  simp (disch:=omega) only [Zb,go_sem,seval];refine cD ?_ ?_<;>intro h1<;>simp (disch:=omega) only [Sh.out h1,go_sem,seval]
  ·have hi2:i<x.orders.length:=by omega
   refine Zg [1,2,3,8,9] (fun k:Nat=> [(10,.p (.bool (onK x l n i k))),(11,.p (.bool (Zj2 l i k))),(12,.p (.int .i64 k))]) (fun _=> [Zb x,.elems 1 (o.map eR)]) (fun k=>k<=l.length) (fun k=>l.length-k) 0 (by simp) (Weak.mk ?_) ?_
   ·simp (disch:=omega) only [Zb,onK,Zj2,Nat.zero_min,List.take_zero,List.foldl_nil,List.any_nil,go_sem,seval]
   ·intro k hk;simp (disch:=omega) only [Zb,go_sem,seval];refine cD ?_ ?_<;>intro h2<;>simp (disch:=omega) only [Sh.out h2,go_sem,seval]
    ·have hk2:k<l.length:=by omega
     have s1:=Zg6 (x:=x) (n:=n) (i:=i) hk2;have s2:=Zd6 (i:=i) hk2;refine cD ?_ ?_<;>intro h3<;>simp (disch:=omega) only [Sh.out h3,go_sem,seval]
     ·rw [if_neg h3] at s1 s2;exact ⟨k+1,by omega,by omega,Weak.mk (by simp (disch:=omega) only [Zb,s1,s2,go_sem,seval])⟩
     ·have h3':=Classical.not_not.1 h3;rw [if_pos h3'] at s1 s2;refine cD ?_ ?_<;>intro h4<;>simp (disch:=omega) only [Sh.out h4,go_sem,seval]
      ·rw [if_pos (by omega)] at s1;exact ⟨k+1,by omega,by omega,Weak.mk (by simp (disch:=omega) only [Zb,s1,s2,go_sem,seval])⟩
      ·rw [if_neg (by omega)] at s1;exact ⟨k+1,by omega,by omega,Weak.mk (by simp (disch:=omega) only [Zb,s1,s2,go_sem,seval])⟩
    ·have hkl:k=l.length:=by omega
     subst hkl;have s3:=Zfp (x:=x) (l:=l) (n:=n) (k:=i);rw [Zj3 hn,Zhc];refine gT ?_ ?_<;>intro h5<;>simp (disch:=omega) only [Sh.out h5,go_sem,seval]
     ·refine cD ?_ ?_<;>intro h6<;>simp (disch:=omega) only [Sh.out h6,go_sem,seval]
      ·rw [h5,h6,Bool.and_self,if_pos rfl] at s3;exact ⟨(i+1,o++ [((nth x.orders i).load_c,(nth x.orders i).load)]),⟨by simp only;omega,by simp only;rw [s3,hob]⟩,by simp only;omega,Weak.mk (by simp (disch:=omega) only [Zb,List.length_append,List.length_cons,List.length_nil,List.map_append,List.map_cons,List.map_nil,go_sem,seval])⟩
      ·rw [h5,h6,Bool.and_false,if_neg (by simp),List.append_nil] at s3;exact ⟨(i+1,o),⟨by simp only;omega,by simp only;rw [s3,hob]⟩,by simp only;omega,Weak.mk (by simp (disch:=omega) only [Zb,go_sem,seval])⟩
     ·have h5':onB x l n i=false:=by simpa using h5
      rw [h5',Bool.false_and,if_neg (by simp),List.append_nil] at s3;exact ⟨(i+1,o),⟨by simp only;omega,by simp only;rw [s3,hob]⟩,by simp only;omega,Weak.mk (by simp (disch:=omega) only [Zb,go_sem,seval])⟩
  ·have hik:i=x.orders.length:=by omega
   subst hik
   have hD:dimsOf x.types=((dimsOf x.types).toNat:Int):=by have:=hx.dim;omega
   have hok:=Zkw (l:=l) (n:=n) hx (Nat.le_refl _);rw [<- hob] at hok;have hs:=Zgr (x:=x) (l:=l) (n:=n);rw [<- hob] at hs;refine Zs (Weak.fz (o:=1) (by rfl)) ?_;refine Zc [] _ _ _ _ ?_;simp (disch:=omega) only [List.map_cons,List.map_nil,List.set_cons_succ,List.set_cons_zero,go_sem,seval];refine (Zhk x hx.typ).use ?_;simp (disch:=omega) only [go_sem,seval];rw [hD];refine Xi (Zkp o false (dimsOf x.types).toNat (by have:=hx.dim;omega) (by omega) hok) ?_;simp (disch:=omega) only [go_sem,seval];rw [<- hs];exact we
def eIL (l:List Int):PV:= .list false (l.map eI)
@[go_sem] theorem Zl9 (l:List Int):eIL l= .list false (l.map eI):=Eq.trans rfl rfl
def WO (x:Inst) (l:List Vis):List (List Int):=(List.range (l.length+1)).map (Y9 x l)
theorem ZeV (x:Inst) (r:Rte) (hx:InstOk x) (hl:r.visits.length<=1048576) (h0:ZW x r.visits=0) (hchk:PC 87 [.p (ZK x),.p (Xl r)] (.int .i64 (ZW x r.visits))) :
  PT 140 [.p (ZK x),.p (Xl r)] [.p (.list false ((WO x r.visits).map eIL)),.p (.int .i64 0)]:=by
 have hd:=Wa hx;refine Zd [12] Tryz.func140 rfl Zrq ?_;simp (disch:=omega) only [Tryz.f140,go_sem,seval];refine (hchk).use ?_;simp (disch:=omega) only [go_sem,seval];simp (disch:=omega) only [h0,go_sem,seval];refine ZM [12] [2,3] (fun q:Nat×List (List Int)=> [(7,.sl 2 0 q.2.length q.2.length),(8,.p (.int .i64 q.1))]) (fun q=> [Zb x,Zo r,.elems 1 (q.2.map eIL)]) (fun q=>q.1<=r.visits.length+1/\q.2=(List.range q.1).map (Y9 x r.visits)) (fun q=>r.visits.length+1-q.1) (0,[]) (by simp) (Weak.ofNil 7 1 rfl (by simp) (Weak.mk ?_)) ?_
 ·simp (disch:=omega) only [Zb,Zo,List.map_nil,List.length_nil,List.cons_append,List.nil_append,go_sem,seval]
 ·rintro ⟨k,o⟩ ⟨hk,ho⟩;simp only at hk ho
  have hol:o.length=k:=by rw [ho];simp
  simp (disch:=omega) only [Zb,Zo,go_sem,seval];refine cD ?_ ?_<;>intro h1<;>simp (disch:=omega) only [Sh.out h1,go_sem,seval]
  ·refine Xi (Zdr x r.visits r.visits_c k hd hl (by omega)) ?_;simp (disch:=omega) only [go_sem,seval];exact ⟨(k+1,o++ [Y9 x r.visits k]),⟨by simp only;omega,by simp only;rw [ho,List.range_succ,List.map_append];rfl⟩,by simp only;omega,Weak.mk (by simp (disch:=omega) only [Zb,Zo,List.length_append,List.length_cons,List.length_nil,List.map_append,List.map_cons,List.map_nil,go_sem,seval])⟩
  ·have hkl:k=r.visits.length+1:=by omega
   subst hkl;refine Zs (Weak.fz (o:=2) (by rfl)) ?_;refine Zc [] _ _ _ _ ?_;simp (disch:=omega) only [List.map_cons,List.map_nil,List.set_cons_succ,List.set_cons_zero,go_sem,seval];rw [WO,<- ho];exact we
theorem Zf8 (x:Inst) (r:Rte) (hx:InstOk x) (hl:r.visits.length<=1048576) (hty:0<=r.typ/\r.typ<(x.types.length:Int)) (h0:ZW x r.visits=0) (hchk:PC 87 [.p (ZK x),.p (Xl r)] (.int .i64 (ZW x r.visits))) :
  PC 89 [.p (ZK x),.p (Xl r)] (.int .i64 (if Ve x (Z2 x r).cap r.visits=true then 0 else 17)):=by
 have hd:=Wa hx;have htl:=hd.typ
 have hti:r.typ.toNat<x.types.length:=by omega
 have hcp:(nth x.types r.typ.toNat).cap.length<=3:=by
  have hcap:=hx.types.2 _ hti;unfold QR at hcap;obtain ⟨⟨⟨⟨⟨⟨⟨⟨_,_⟩,_⟩,_⟩,hcap⟩,_⟩,_⟩,_⟩,_⟩:=hcap;simp only [WC,Bool.and_eq_true,decide_eq_true_eq,rng] at hcap;omega
 have hll:(WO x r.visits).length=r.visits.length+1:=by simp [WO]
 have hln: ∀k,k<r.visits.length+1->nth (WO x r.visits) k=Y9 x r.visits k:=fun k hk=>by
  rw [Zf (by omega)];simp [WO]
 have hal: ∀k,(Y9 x r.visits k).length<=3:=fun k=>by rw [Vb];have:=hd.dim;omega
 have cl:=ZeV x r hx hl h0 hchk;unfold Z2
 generalize hL:WO x r.visits=L at *
 refine Za Tryz.func89 rfl Zvm ?_
 have e1: ¬r.typ<0:=by omega
 have e2: ¬(x.types.length:Int)<=r.typ:=by omega
 simp (disch:=omega) only [Tryz.f89,e1,e2,go_sem,seval];refine Xi cl ?_;simp (disch:=omega) only [go_sem,seval];refine Zg [2,3,5] (fun k:Nat=> [(7,.p (.int .i64 k))]) (fun _=> [Zb x,Zo r]) (fun k=>k<=r.visits.length+1/\ ∀j,j<k->YA (Y9 x r.visits j) (nth x.types r.typ.toNat).cap=true) (fun k=>r.visits.length+1-k) 0 (by simp) (Weak.mk ?_) ?_
 ·simp (disch:=omega) only [Zb,Zo,go_sem,seval]
 ·rintro k ⟨hk,hno⟩;simp (disch:=omega) only [Zb,Zo,hll,go_sem,seval];refine cD ?_ ?_<;>intro h1<;>simp (disch:=omega) only [Sh.out h1,go_sem,seval]
  ·have hk2:k<r.visits.length+1:=by omega
   have hk3:k<L.length:=by omega
   have hk4:=hal k;refine Zh Zp (by kernel_rfl) (by kernel_rfl) ?_;simp (disch:=omega) only [hln k hk2,go_sem,seval];refine Zn (ZgY (Y9 x r.visits k) (nth x.types r.typ.toNat).cap false (nth x.types r.typ.toNat).cap_c (by omega) (by omega)) ?_;simp (disch:=omega) only [go_sem,seval];refine cD ?_ ?_<;>intro h2<;>simp (disch:=omega) only [Sh.out h2,go_sem,seval]
   ·have h2':YA (Y9 x r.visits k) (nth x.types r.typ.toNat).cap=false:=by simpa using h2
    have: ¬Ve x (nth x.types r.typ.toNat).cap r.visits=true:=fun h=>by
     rw [Ve,List.all_eq_true] at h;have:=h k (List.mem_range.2 hk2);rw [h2'] at this;cases this
    rw [if_neg this]
   ·exact ⟨k+1,⟨by omega,Ze.2 ⟨hno,by simpa using h2⟩⟩,by omega,Weak.mk (by simp (disch:=omega) only [Zb,Zo,go_sem,seval])⟩
  ·have:Ve x (nth x.types r.typ.toNat).cap r.visits=true:=by
    rw [Ve,List.all_eq_true];intro j hj;exact hno j (by have:=List.mem_range.1 hj;omega)
   rw [if_pos this]
def Zh0 (j:Nat):Int:=if j=63 then-9223372036854775808 else ((pw j:Nat):Int)
theorem KP {j:Nat} (h:j<63):Zh0 j=((pw j:Nat):Int):=by rw [Zh0,if_neg (by omega)]
theorem ZpB {j:Nat} (h:j<=62):pw j<=4611686018427387904:=by have:=Zaw h;rwa [Zb7] at this
theorem ZaW {j:Nat} (h:j<=63):0<Zh0 j↔j<63:=by
 unfold Zh0
 split
 ·omega
 ·have:=ZiN j;omega
theorem Zov {S q:Nat} (hS:S<9223372036854775808) (h:q<=S):IntKind.i64.wrap (q:Int)=(q:Int):=by rw [IntKind.wrap_i64];omega
theorem ZaR {P:Program} {t:TypeId} {S j:Nat} (hS:S<9223372036854775808):X4 P .quo t (.p (.int .i64 (S:Int))) (.p (.int .i64 ((pw j:Nat):Int)))=some (.int .i64 ((S / pw j:Nat):Int)):=by
 have hp:=ZiN j;rw [Zgj (by omega)]
 have e:(S:Int).tdiv ((pw j:Nat):Int)=((S / pw j:Nat):Int):=by
  rw [Int.tdiv_eq_ediv_of_nonneg (by omega)];exact (Int.natCast_ediv _ _).symm
 have hle:=Nat.div_le_self S (pw j);rw [e,Zov hS hle]
theorem ZeY {P:Program} {t:TypeId} {S:Nat} :X4 P .rem t (.p (.int .i64 (S:Int))) (.p (.int .i64 2))=some (.int .i64 ((S%2:Nat):Int)):=by
 rw [ZgJ (by omega),Int.tmod_eq_emod_of_nonneg (by omega)]
 rfl
theorem Ztl {S j:Nat} (hS:S<9223372036854775808):(IntKind.i64.wrap ((S:Int) / ((pw j:Nat):Int))).tmod 2=((S / pw j%2:Nat):Int):=by
 have hle:=Nat.div_le_self S (pw j);rw [<- Int.natCast_ediv,Zov hS hle,Int.tmod_eq_emod_of_nonneg (Int.natCast_nonneg _)]
 rfl
theorem ZeT {P:Program} {t:TypeId} {j:Nat} (h:j<63):X4 P .mul t (.p (.int .i64 ((pw j:Nat):Int))) (.p (.int .i64 2))=some (.int .i64 (Zh0 (j+1))):=by
 rw [ZgL]
 congr 2
 have hs:=KY j;unfold Zh0
 split
 ·have hj:j=62:=by omega
  subst hj;rw [Zb7];decide
 ·have:=ZpB (show j+1<=62 by omega)
  have e:((pw j:Nat):Int)*2=((pw (j+1):Nat):Int):=by omega
  rw [e]
  exact by rw [IntKind.wrap_i64];omega
theorem ZgT (t:Typ) (s:Int) (h1:t.skills<9223372036854775808) (h2:s<9223372036854775808):PC 88 [.p (VK t),.p (.int .i64 s)] (.bool (Yc t s)):=by
 refine Za Tryz.func88 rfl ZwK ?_;simp (disch:=omega) only [Tryz.f88,go_sem,seval];refine gF ?_ ?_<;>intro c1<;>simp (disch:=omega) only [Sh.out c1,go_sem,seval]
 ·have:Yc t s=false:=by
   have: ¬ 0<=t.skills:=by omega
   simp [Yc,this]
  rw [this]
 ·refine cD ?_ ?_<;>intro c2<;>simp (disch:=omega) only [Sh.out c2,go_sem,seval]
  ·have:Yc t s=false:=by
    have: ¬ 0<=s:=by omega
    simp [Yc,this]
   rw [this]
  ·obtain ⟨M,hM⟩: ∃M:Nat,t.skills=(M:Int):=⟨t.skills.toNat,by omega⟩;obtain ⟨S,rfl⟩: ∃S:Nat,s=(S:Int):=⟨s.toNat,by omega⟩
   have hMl:M<9223372036854775808:=by omega
   have hSl:S<9223372036854775808:=by omega
   have hab: ∀b:Bool,((List.range 63).all fun i=> !S.testBit i||M.testBit i)=b->Yc t (S:Int)=b:=fun b hb=>by
    have g1:0<=t.skills:=by omega
    have g2:(0:Int)<=(S:Int):=by omega
    simp only [Yc,g1,g2,decide_true,Bool.true_and,hM,Int.toNat_natCast];exact hb
   refine Zg [1,2] (fun j:Nat=> [(5,.p (.int .i64 (Zh0 j)))]) (fun _=> [Xg t]) (fun j=>j<=63/\ ∀i,i<j->(!S.testBit i||M.testBit i)=true) (fun j=>63-j) 0 (by simp) (Weak.mk ?_) ?_
   ·simp (disch:=omega) only [Xg,hM,show Zh0 0=1 from rfl,go_sem,seval]
   ·rintro j ⟨hj,hno⟩;simp (disch:=omega) only [Xg,hM,go_sem,seval];refine cD ?_ ?_<;>intro c3<;>simp (disch:=omega) only [Sh.out c3,go_sem,seval]
    ·have hj2:j<63:=(ZaW hj).1 c3;simp (disch:=omega) only [KP hj2,ZaR hSl,ZaR hMl,Ztl hSl,Ztl hMl,ZeY,ZeT hj2,KS,Zc2,go_sem,seval];refine gT ?_ ?_<;>intro c4<;>simp (disch:=omega) only [Sh.out c4,KP hj2,ZaR hSl,ZaR hMl,Ztl hSl,Ztl hMl,ZeY,ZeT hj2,KS,Zc2,go_sem,seval]
     ·refine cD ?_ ?_<;>intro c5<;>simp (disch:=omega) only [Sh.out c5,KP hj2,ZeT hj2,go_sem,seval]
      ·rw [hab false (by rw [List.all_eq_false];exact ⟨j,List.mem_range.2 hj2,by simp [c4,c5]⟩)]
      ·exact ⟨j+1,⟨by omega,Ze.2 ⟨hno,by simp [c4] at c5 ⊢;exact c5⟩⟩,by omega,Weak.mk (by simp (disch:=omega) only [Xg,hM,go_sem,seval])⟩
     ·exact ⟨j+1,⟨by omega,Ze.2 ⟨hno,by simp at c4;simp [c4]⟩⟩,by omega,Weak.mk (by simp (disch:=omega) only [Xg,hM,go_sem,seval])⟩
    ·have hj63:j=63:=by
      rcases Nat.lt_or_ge j 63 with h | h
      ·exact absurd ((ZaW hj).2 h) c3
      ·omega
     subst hj63;rw [hab true (by rw [List.all_eq_true];intro i hi;exact hno i (List.mem_range.1 hi))]
def ZkW (s:Stp) (a:Int):Int×Int:=if max a s.opn>s.cls then (0,14) else (max a s.opn,0)
theorem Zjt (s:Stp) (a:Int):PT 305 [.p (ZfS s),.p (.int .i64 a)] [.p (.int .i64 (ZkW s a).1),.p (.int .i64 (ZkW s a).2)]:=by
 refine Zd [] Tryz.func305 rfl ZrB ?_;simp (disch:=omega) only [Tryz.f305,go_sem,seval];refine cD ?_ ?_<;>intro h<;>simp (disch:=omega) only [Sh.out h,go_sem,seval]
 ·have e:ZkW s a=(0,14):=by rw [ZkW,if_pos (by omega)]
  rw [e];exact we
 ·have e:ZkW s a=(max a s.opn,0):=by rw [ZkW,if_neg (by omega)]
  rw [e];exact we
theorem ZgD (l:List Ord) (c:Bool) (p:Int) (hl:l.length<=1048576):PC 237 [.p (.list c (l.map WK)),.p (.int .i64 p)] (.bool (decide (0<=p)&&decide (p<(l.length:Int)))):=by
 refine Za Tryz.func237 rfl ZhU ?_;simp (disch:=omega) only [Tryz.f237,go_sem,seval];refine gT ?_ ?_<;>intro h<;>simp (disch:=omega) only [Sh.out h,go_sem,seval]
 all_goals simp [h]
theorem Zjs (x:Inst) (v:Vis) (ho:x.orders.length<=1048576) (hv:inB x v=true) (hp:0<=(stopV x v).place):PT 242 [.p (.list x.orders_c (x.orders.map WK)),.p (XK v)] [.p (ZfS (stopV x v)),.p (.int .i64 0)]:=by
 refine Zd [] Tryz.func242 rfl Zq5 ?_;simp (disch:=omega) only [Tryz.f242,go_sem,seval];have hv':=hv;rw [inB] at hv';have ct:=ZgD x.orders x.orders_c v.order ho;rw [hv'] at ct;refine ct.use ?_;simp only [Bool.and_eq_true,decide_eq_true_eq] at hv';obtain ⟨h1,h2⟩:=hv'
 have hi:v.order.toNat<x.orders.length:=by omega
 simp (disch:=omega) only [go_sem,seval];refine cD ?_ ?_<;>intro hd<;>simp (disch:=omega) only [Sh.out hd,go_sem,seval]
 ·have e:stopV x v=(nth x.orders v.order.toNat).drp:=by simp [stopV,hd]
  rw [e] at hp ⊢
  have e3: ¬(nth x.orders v.order.toNat).drp.place<0:=by omega
  simp (disch:=omega) only [e3,go_sem,seval];exact we
 ·have e:stopV x v=(nth x.orders v.order.toNat).pick:=by simp [stopV,hd]
  rw [e] at hp ⊢
  have e3: ¬(nth x.orders v.order.toNat).pick.place<0:=by omega
  simp (disch:=omega) only [e3,go_sem,seval];exact we
theorem Zjf (l:List Typ) (c:Bool) (ht:l.length<=1048576):PC 292 [.p (.list c (l.map VK))] (.int .i64 (dimsOf l)):=by
 refine Za Tryz.func292 rfl Zpk ?_;simp (disch:=omega) only [Tryz.f292,go_sem,seval];refine cD ?_ ?_<;>intro h1<;>simp (disch:=omega) only [Sh.out h1,go_sem,seval]
 ·have:l.length=0:=by omega
  simp [dimsOf,this]
 ·have h2: ¬l.length=0:=by omega
  simp only [dimsOf,h2,if_false]
theorem ZkI (a b:List Int) (c d:Bool) (ha:a.length<=1048576) (hb:b.length<=1048576):PC 269 [.p (.list c (a.map eI)),.p (.list d (b.map eI))] (.bool (YA a b)):=by
 refine Za Tryz.func269 rfl ZpI ?_;simp (disch:=omega) only [Tryz.f269,go_sem,seval];refine cD ?_ ?_<;>intro h1<;>simp (disch:=omega) only [Sh.out h1,go_sem,seval]
 ·have: ¬a.length=b.length:=by omega
  simp [YA,this]
 ·have h1':a.length=b.length:=by omega
  refine Zg [1,12,13] (fun k:Nat=> [(14,.p (.int .i64 k))]) (fun _=> []) (fun k=>k<=a.length/\ ∀j,j<k->nth a j<=nth b j) (fun k=>a.length-k) 0 (by simp) (Weak.mk ?_) ?_
  ·simp (disch:=omega) only [go_sem,seval]
  ·rintro k ⟨hk,hno⟩;simp (disch:=omega) only [go_sem,seval];refine cD ?_ ?_<;>intro h2<;>simp (disch:=omega) only [Sh.out h2,go_sem,seval]
   ·have hk2:k<a.length:=by omega
    refine cD ?_ ?_<;>intro h3<;>simp (disch:=omega) only [Sh.out h3,go_sem,seval]
    ·have:YA a b=false:=by
      cases hf:YA a b with
      | false=>rfl
      | true=>simp [YA,List.all_eq_true] at hf;have:=hf.2 k hk2;omega
     rw [this]
    ·exact ⟨k+1,⟨by omega,Ze.2 ⟨hno,by omega⟩⟩,by omega,wk⟩
   ·have hkl:k=a.length:=by omega
    subst hkl
    have:YA a b=true:=by
     simp only [YA,Bool.and_eq_true,decide_eq_true_eq,List.all_eq_true,List.mem_range];exact ⟨h1',fun i hi=>hno i hi⟩
    rw [this]
theorem ZkX (t:Typ) (s:Int) (h1:t.skills<9223372036854775808) (h2:s<9223372036854775808):PC 265 [.p (VK t),.p (.int .i64 s)] (.bool (Yc t s)):=by
 refine Za Tryz.func265 rfl Zqh ?_;simp (disch:=omega) only [Tryz.f265,go_sem,seval];refine gT ?_ ?_<;>intro c1<;>simp (disch:=omega) only [Sh.out c1,go_sem,seval]
 ·refine gT ?_ ?_<;>intro c2<;>simp (disch:=omega) only [Sh.out c2,go_sem,seval]
  ·obtain ⟨M,hM⟩: ∃M:Nat,t.skills=(M:Int):=⟨t.skills.toNat,by omega⟩;obtain ⟨S,rfl⟩: ∃S:Nat,s=(S:Int):=⟨s.toNat,by omega⟩;have hb:=Zax (S:=S) (M:=M) (by omega)
   have e:Yc t (S:Int)=(List.range 63).all fun i=> !S.testBit i||M.testBit i:=by
    have g1:(0:Int)<=(M:Int):=by omega
    have g2:(0:Int)<=(S:Int):=c2;simp only [Yc,hM,g1,g2,decide_true,Bool.true_and,Int.toNat_natCast]
   have hd:decide (IntKind.i64.wrap ((BitVec.ofInt 64 (S:Int)&&& ~~~BitVec.ofInt 64 (M:Int)).toNat:Int)=0)=((List.range 63).all fun i=> !S.testBit i||M.testBit i):=by
    rw [Bool.eq_iff_iff];simp only [decide_eq_true_eq];exact hb
   rw [e,hM];exact congrArg (fun b=>V.p (PV.bool b)) hd
  ·have: ¬ 0<=s:=by omega
   simp [Yc,this]
 ·have: ¬ 0<=t.skills:=by omega
  simp [Yc,this]
theorem ZnF (a b:Int) (h: -1073741824<=a/\a<=1073741824/\ -1073741824<=b/\b<=1073741824):PC 311 [.p (.int .i64 a),.p (.int .i64 b)] (.int .i64 (a+b)):=by
 refine Za Tryz.func311 rfl Zrd ?_;simp (disch:=omega) only [Tryz.f311,go_sem,seval]
theorem Zj7 (a b:Int) (h: -1073741824<=a/\a<=1073741824/\ -1073741824<=b/\b<=1073741824):PC 312 [.p (.int .i64 a),.p (.int .i64 b)] (.int .i64 (a-b)):=by
 refine Za Tryz.func312 rfl Zoe ?_;simp (disch:=omega) only [Tryz.f312,go_sem,seval]
def mkR (f:Nat->Int) (n k:Nat):List Int:=(List.range n).map fun j=>if j<k then f j else 0
theorem Zi3 {f:Nat->Int} {n k:Nat} :(mkR f n k).length=n:=by simp [mkR]
theorem Zhg {f:Nat->Int} {n:Nat} :mkR f n 0=List.replicate n 0:=by
 apply List.ext_getElem (by simp [mkR]);intro i h1 h2;simp [mkR]
theorem Zgy {f:Nat->Int} {n:Nat} :mkR f n n=(List.range n).map f:=by
 apply List.ext_getElem (by simp [mkR]);intro i h1 h2;simp [mkR] at h1 ⊢;omega
theorem Zi7 {f:Nat->Int} {n k:Nat} (h:k<n):(mkR f n k).set k (f k)=mkR f n (k+1):=by
 apply List.ext_getElem (by simp [mkR]);intro i h1 h2;rw [List.getElem_set];simp [mkR] at h1 ⊢
 split
 ·rename_i e;subst e;simp
 ·rename_i e
  have:(i<k)↔(i<k+1):=by omega
  simp only [this]
theorem Kg (a b:List Int) (c d:Bool) (g:FuncId) (f:Int->Int->Int) (hl:a.length=b.length) (ha:a.length<=1048576)
  (hf: ∀j,j<a.length->ACalls Tryz.prog g [.p (.int .i64 (nth a j)),.p (.int .i64 (nth b j))] [] fun x H'=>x= .p (.int .i64 (f (nth a j) (nth b j)))/\H'= []) :
  PT 310 [.p (.list c (a.map eI)),.p (.list d (b.map eI)),.fn (.func g) [] []] [.p (.list false (((List.range a.length).map fun j=>f (nth a j) (nth b j)).map eI)),.p (.int .i64 0)]:=by
 refine Zd [9] Tryz.func310 rfl Zol ?_;simp (disch:=omega) only [Tryz.f310,go_sem,seval];refine cD ?_ ?_<;>intro h0<;>simp (disch:=omega) only [Sh.out h0,go_sem,seval]
 ·omega
 ·have hz:=Zhg (f:=fun j=>f (nth a j) (nth b j)) (n:=a.length);have hml:=fun k=>Zi3 (f:=fun j=>f (nth a j) (nth b j)) (n:=a.length) (k:=k);refine ZM [9] [0,1,2,8,19] (fun k:Nat=> [(20,.p (.int .i64 k))]) (fun k=> [.elems 1 ((mkR (fun j=>f (nth a j) (nth b j)) a.length k).map eI)]) (fun k=>k<=a.length) (fun k=>a.length-k) 0 (by simp) (Weak.mk ?_) ?_
  ·simp (disch:=omega) only [hz,go_sem,seval];rw [List.map_replicate];rfl
  ·intro k hk;simp (disch:=omega) only [go_sem,seval];refine cD ?_ ?_<;>intro h1<;>simp (disch:=omega) only [Sh.out h1,go_sem,seval]
   ·have hk2:k<a.length:=by omega
    have hs:=Zi7 (f:=fun j=>f (nth a j) (nth b j)) (n:=a.length) hk2;have hk3:=hml k;refine Zy 12 Zp (by kernel_rfl) (by kernel_rfl) ?_;simp (disch:=omega) only [go_sem,seval];refine Zn (hf k hk2) ?_;simp (disch:=omega) only [go_sem,seval];simp (disch:=first | omega | (simp only [List.length_cons,List.length_nil,List.length_append,List.length_map,List.length_take,List.length_drop]<;>omega)) only [go_sem,seval];refine ⟨k+1,by omega,by omega,Weak.mk ?_⟩;simp (disch:=omega) only [<- hs,go_sem,seval];rw [List.map_set];rfl
   ·have hkl:k=a.length:=by omega
    subst hkl;rw [<- Zgy];have hk3:=hml a.length;refine Zs (Weak.fz (o:=0) (by rfl)) ?_;refine Zc [] _ _ _ _ ?_;simp (disch:=omega) only [List.map_cons,List.map_nil,List.set_cons_succ,List.set_cons_zero,go_sem,seval];rw [if_pos hk3];exact we
theorem Zh5 (a b:List Int) (c d:Bool) (hl:a.length=b.length) (ha:a.length<=1048576) (h: ∀j,j<a.length-> -1073741824<=nth a j/\nth a j<=1073741824/\ -1073741824<=nth b j/\nth b j<=1073741824):PT 293 [.p (.list c (a.map eI)),.p (.list d (b.map eI))] [.p (.list false ((Ze5 a b).map eI)),.p (.int .i64 0)]:=by
 refine Zd [] Tryz.func293 rfl Zpr ?_;simp (disch:=omega) only [Tryz.f293,go_sem,seval];refine Xi (Kg a b c d 311 (fun m n=>m+n) hl ha fun j hj=>ZnF _ _ (h j hj)) ?_;simp (disch:=omega) only [Ze5,go_sem,seval];exact we
theorem Zqi (a b:List Int) (c d:Bool) (hl:a.length=b.length) (ha:a.length<=1048576) (h: ∀j,j<a.length-> -1073741824<=nth a j/\nth a j<=1073741824/\ -1073741824<=nth b j/\nth b j<=1073741824):PT 294 [.p (.list c (a.map eI)),.p (.list d (b.map eI))] [.p (.list false ((ZrT a b).map eI)),.p (.int .i64 0)]:=by
 refine Zd [] Tryz.func294 rfl ZqA ?_;simp (disch:=omega) only [Tryz.f294,go_sem,seval];refine Xi (Kg a b c d 312 (fun m n=>m-n) hl ha fun j hj=>Zj7 _ _ (h j hj)) ?_;simp (disch:=omega) only [ZrT,go_sem,seval];exact we
theorem ZgP (x:Inst) (r:Rte) (ht:0<=r.typ/\r.typ<(x.types.length:Int)) (hv: ∀v∈r.visits,inB x v=true) (hl:r.visits.length<=1048576) (hxl:x.types.length<=1048576) (hol:x.orders.length<=1048576)
  (hs:(Z2 x r).skills<9223372036854775808) (ho: ∀o∈x.orders,o.skills<9223372036854775808) :
  PC 220 [.p (ZK x),.p (Xl r)] (.int .i64 (if (r.visits.any fun v=> !Yc (Z2 x r) (nth x.orders v.order.toNat).skills)=true then 18 else 0)):=by
 refine Za Tryz.func220 rfl Zrt ?_;simp (disch:=omega) only [Tryz.f220,go_sem,seval];refine Zg [2,3,8,9] (fun k:Nat=> [(10,.p (.int .i64 k))]) (fun _=> [Zb x,.cells [.p (.int .i64 r.typ),.p (.int .i64 r.start),.p (.list r.rests_c (r.rests.map eB)),.p (.list r.visits_c (r.visits.map XK))]]) (fun k=>k<=r.visits.length/\ ∀j,j<k->Yc (Z2 x r) (nth x.orders (nth r.visits j).order.toNat).skills=true) (fun k=>r.visits.length-k) 0 (by simp) (Weak.mk ?_) ?_
 ·simp (disch:=omega) only [Zb,go_sem,seval]
 ·rintro k ⟨hk,hno⟩;simp (disch:=omega) only [Zb,go_sem,seval];refine cD ?_ ?_<;>intro h1<;>simp (disch:=omega) only [Sh.out h1,go_sem,seval]
  ·have hk2:k<r.visits.length:=by omega
   have hin:=hv _ (ZL hk2);simp only [inB,Bool.and_eq_true,decide_eq_true_eq] at hin;obtain ⟨i1,i2⟩:=hin
   have hi:(nth r.visits k).order.toNat<x.orders.length:=by omega
   have ho':=ho _ (ZL hi);refine Zh Zp (by kernel_rfl) (by kernel_rfl) ?_;simp (disch:=omega) only [go_sem,seval];refine Zn (ZkX (Z2 x r) (nth x.orders (nth r.visits k).order.toNat).skills (by omega) (by omega)) ?_;simp (disch:=omega) only [go_sem,seval];refine cD ?_ ?_<;>intro h2<;>simp (disch:=omega) only [Sh.out h2,go_sem,seval]
   ·have:(r.visits.any fun v=> !Yc (Z2 x r) (nth x.orders v.order.toNat).skills)=true:=by
     rw [List.any_eq_true];exact ⟨_,ZL hk2,h2⟩
    rw [if_pos this]
   ·exact ⟨k+1,⟨by omega,Ze.2 ⟨hno,by simpa using h2⟩⟩,by omega,Weak.mk (by simp (disch:=omega) only [Zb,go_sem,seval])⟩
  ·have: ¬(r.visits.any fun v=> !Yc (Z2 x r) (nth x.orders v.order.toNat).skills)=true:=by
    rw [List.any_eq_true];rintro ⟨v,hv,e⟩;obtain ⟨j,hj,rfl⟩:=List.mem_iff_getElem.1 hv;have:=hno j (by omega);rw [Zf hj] at this;rw [this] at e;cases e
   rw [if_neg this]
def stF (x:Inst) (d:Nat) (ms:List Int) (k:Nat):List Int:=(ms.take k).foldl (fun s i=>if (nth x.orders i.toNat).pick.place<0 then Ze5 s (nth x.orders i.toNat).load else s) (List.replicate d 0)
theorem ZaP {x:Inst} {d:Nat} {ms:List Int} {k:Nat} (h:k<ms.length):stF x d ms (k+1)=if (nth x.orders (nth ms k).toNat).pick.place<0 then Ze5 (stF x d ms k) (nth x.orders (nth ms k).toNat).load else stF x d ms k:=by
 rw [stF,List.take_succ_eq_append_getElem h,List.foldl_append,Zf h];rfl
theorem ZeL {x:Inst} {d:Nat} {ms:List Int} (hms: ∀i∈ms,∀j,j<d->0<=nth (nth x.orders i.toNat).load j/\nth (nth x.orders i.toNat).load j<=1000): ∀k,k<=ms.length->(stF x d ms k).length=d/\ ∀j,j<d->0<=nth (stF x d ms k) j/\nth (stF x d ms k) j<=1000*k
 | 0,_=>by
  refine ⟨by simp [stF],fun j hj=> ?_⟩
  have:nth (stF x d ms 0) j=0:=by
   show nth (List.replicate d 0) j=0
   rw [Zf (by simpa using hj)];simp
  omega
 | k+1,h=>by
  obtain ⟨h1,h2⟩:=ZeL hms k (by omega);rw [ZaP (by omega)]
  split
  ·refine ⟨by simp [Ze5,h1],fun j hj=> ?_⟩;have a1:=h2 j hj;have a2:=hms _ (ZL (show k<ms.length by omega)) j hj;rw [Ze5,Wf (by omega)];omega
  ·exact ⟨h1,fun j hj=>by have:=h2 j hj;omega⟩
theorem Zjb (x:Inst) (S:Int) (d:Nat) (hd:d<=3) (hol:x.orders.length<=1048576) (hms: ∀i∈YR S 63,0<=i/\i<(x.orders.length:Int)) (hml:(YR S 63).length<=63)
  (hld: ∀o∈x.orders,o.load.length=d/\ ∀n∈o.load,0<=n/\n<=1000) :
  PC 291 [.p (ZK x),.p (.int .i64 S),.p (.int .i64 (d:Int))] (.list false ((stF x d (YR S 63) (YR S 63).length).map eI)):=by
 have hmo: ∀i∈YR S 63,i.toNat<x.orders.length:=fun i hi=>by have:=hms i hi;omega
 have hrg:=ZeL (x:=x) (d:=d) (ms:=YR S 63) fun i hi j hj=>by
  obtain ⟨l1,l2⟩:=hld _ (ZL (hmo i hi));exact l2 _ (ZL (by omega))
 refine Za Tryz.func291 rfl ZqT ?_;simp (disch:=omega) only [Tryz.f291,go_sem,seval];refine (Zdk S).useF ?_;simp (disch:=omega) only [go_sem,seval];refine Zs ((Weak.fz (o:=1) (by rfl)).trans (Weak.fz (o:=2) (by rfl))) ?_;simp (disch:=omega) only [List.map_cons,List.map_nil,List.set_cons_succ,List.set_cons_zero,List.cons_append,List.nil_append,List.length_replicate,eq_self,if_true,go_sem,seval]
 have hz:List.replicate d (PV.int .i64 0)=(stF x d (YR S 63) 0).map eI:=by
  show _=(List.replicate d 0).map eI
  rw [List.map_replicate];rfl
 refine Zg [3,13,14] (fun k:Nat=> [(7,.p (.list false ((stF x d (YR S 63) k).map eI))),(15,.p (.int .i64 k))]) (fun _=> [Zb x,.dead,.dead]) (fun k=>k<=(YR S 63).length) (fun k=>(YR S 63).length-k) 0 (by simp) (Weak.mk ?_) ?_
 ·simp (disch:=omega) only [Zb,hz,go_sem,seval]
 ·intro k hk;have hk1:=hrg k hk;have hsn:=fun h=>ZaP (x:=x) (d:=d) (ms:=YR S 63) (k:=k) h;simp (disch:=omega) only [Zb,go_sem,seval];refine cD ?_ ?_<;>intro h1<;>simp (disch:=omega) only [Sh.out h1,go_sem,seval]
  ·have hk2:k<(YR S 63).length:=by omega
   have hm:=hms _ (ZL hk2);have hi:=hmo _ (ZL hk2);have hlo:=hld _ (ZL hi);have hsn:=hsn hk2;simp (disch:=omega) only [go_sem,seval];refine cD ?_ ?_<;>intro h2<;>simp (disch:=omega) only [Sh.out h2,go_sem,seval]
   ·rw [if_pos h2] at hsn;refine Xi (Zh5 (stF x d (YR S 63) k) (nth x.orders (nth (YR S 63) k).toNat).load false (nth x.orders (nth (YR S 63) k).toNat).load_c (by omega) (by omega) fun j hj=> ?_) ?_
    ·have b1:=hk1.2 j (by omega);have b2:=hlo.2 _ (ZL (show j<(nth x.orders (nth (YR S 63) k).toNat).load.length by omega));omega
    ·simp (disch:=omega) only [go_sem,seval];exact ⟨k+1,by omega,by omega,Weak.mk (by simp (disch:=omega) only [Zb,hsn,go_sem,seval])⟩
   ·rw [if_neg h2] at hsn;exact ⟨k+1,by omega,by omega,Weak.mk (by simp (disch:=omega) only [Zb,hsn,go_sem,seval])⟩
  ·have hkl:k=(YR S 63).length:=by omega
   subst hkl
   trivial
theorem ZbY {p : Nat -> Bool} {n : Nat} (h : ∀ i, n <= i -> p i = false) : ∀ k, n <= k -> (List.range k).filter p = (List.range n).filter p := by
  intro k hk
  induction k with
  | zero => have : n = 0 := by omega
            subst this; rfl
  | succ k ih =>
    by_cases e : n = k + 1
    · subst e; rfl
    · rw [List.range_succ, List.filter_append, ih (by omega)]
      simp [h k (by omega)]
theorem Zyg {x:Inst} {l:List Vis} (hi:Inr x l) (hn:x.orders.length<=10):YR ((ordS l:Nat):Int) 63=((List.range x.orders.length).filter fun (i:Nat)=>X2 l (i:Int)).map fun (i:Nat)=>(i:Int):=by
 have key: ∀i:Nat,i<=62->ZcS ((ordS l:Nat):Int) (i:Int)=X2 l (i:Int):=fun i h=>by
  rw [ZaK _ _ h,Bool.eq_iff_iff,Ud,Xm]
  constructor
  ·rintro ⟨v,hv,e⟩;exact ⟨v,hv,by have:=hi v hv;omega⟩
  ·rintro ⟨v,hv,e⟩;exact ⟨v,hv,by omega⟩
 unfold YR;rw [List.filter_congr (q:=fun (i:Nat)=>X2 l (i:Int)) (fun i hm=>key i (by have:=List.mem_range.1 hm;omega)),ZbY (n:=x.orders.length) (fun i h=> ?_) 63 (by omega)]
 cases hh:X2 l (i:Int) with
 | false=>rfl
 | true =>
  obtain ⟨v,hv,e⟩:=Xm.1 hh;have:=hi v hv;omega
theorem Zkc {x:Inst} {d:Nat} : ∀(L:List Nat) (g:Nat->Int),(L.map fun (i:Nat)=>(i:Int)).foldl (fun s (i:Int)=>if (nth x.orders i.toNat).pick.place<0 then Ze5 s (nth x.orders i.toNat).load else s) ((List.range d).map g)=(List.range d).map fun j=>g j+(L.map fun i=>if (nth x.orders i).pick.place<0 then nth (nth x.orders i).load j else 0).sum
 | [],g=>by simp
 | i::L,g=>by
  rw [List.map_cons,List.foldl_cons,Int.toNat_natCast]
  by_cases h:(nth x.orders i).pick.place<0
  ·have e:Ze5 ((List.range d).map g) (nth x.orders i).load=(List.range d).map fun j=>g j+nth (nth x.orders i).load j:=by
    rw [Ze5,List.length_map,List.length_range]
    exact List.map_congr_left fun j hj=>by rw [Wf (List.mem_range.1 hj)]
   rw [if_pos h,e,Zkc L];refine List.map_congr_left fun j _=> ?_;rw [List.map_cons,List.sum_cons,if_pos h];omega
  ·rw [if_neg h,Zkc L];refine List.map_congr_left fun j _=> ?_;rw [List.map_cons,List.sum_cons,if_neg h];omega
theorem ZeN {x:Inst} {l:List Vis} (hi:Inr x l) (hn:x.orders.length<=10):stF x (dimsOf x.types).toNat (YR ((ordS l:Nat):Int) 63) (YR ((ordS l:Nat):Int) 63).length=Y9 x l 0:=by
 rw [stF,List.take_length,Zyg hi hn];have:=Zkc (x:=x) (d:=(dimsOf x.types).toNat) ((List.range x.orders.length).filter fun (i:Nat)=>X2 l (i:Int)) fun _=>0
 have e:(List.range (dimsOf x.types).toNat).map (fun _=>(0:Int))=List.replicate (dimsOf x.types).toNat 0:=by
  rw [List.map_const',List.length_range]
 rw [e] at this;rw [this,Y9];refine List.map_congr_left fun j _=> ?_;rw [Int.zero_add,Wb,ZcR]
 congr 1
 refine List.map_congr_left fun i _=> ?_;rw [ZgA]
 by_cases h:(nth x.orders i).pick.place<0<;>cases X2 l (i:Int)<;>simp [h]
theorem ZfW {x:Inst} {l:List Vis} {n j:Nat} {d:Nat} (hj:j<d) (hld: ∀o∈x.orders,o.load.length=d/\ ∀n∈o.load,0<=n/\n<=1000) (hn:x.orders.length<=10):0<=ZcR x l n j/\ZcR x l n j<=10000:=by
 have key:=Zfn (f:=fun i=>if i<x.orders.length then (if (onB x l n i&&X2 l i)=true then nth (nth x.orders i).load j else 0) else 0) (b:=1000) (by omega) (fun q=>by
  split
  ·rename_i hq
   split
   ·obtain ⟨h1,h2⟩:=hld _ (ZL hq);exact h2 _ (ZL (by omega))
   ·omega
  ·omega) x.orders.length
 have e:ZcR x l n j=((List.range x.orders.length).map fun i=>if i<x.orders.length then (if (onB x l n i&&X2 l i)=true then nth (nth x.orders i).load j else 0) else 0).sum:=by
  rw [ZcR]
  congr 1
  exact List.map_congr_left fun i hi=>by rw [if_pos (List.mem_range.1 hi)]
 rw [e]
 have:(1000:Int)*x.orders.length<=10000:=by omega
 omega
theorem ZhN {x:Inst} {l:List Vis} {n j:Nat} (hj:j<(dimsOf x.types).toNat) (hd:LdOk x):0<=nth (Y9 x l n) j/\nth (Y9 x l n) j<=10000:=by
 rw [Y9,Wf hj];exact ZfW hj (fun o ho=>by obtain ⟨h1,h2⟩:=hd.load o ho;exact ⟨by omega,h2⟩) hd.ord
theorem Zch (l:List Vis) (c:Bool) (n:Nat) (hn:n<l.length) (hl:l.length<=1048576):PC 145 [.p (.list c (l.map XK)),.p (.int .i64 (n:Nat))] (.bool (YP l n)):=by
 refine Za Tryz.func145 rfl Zpl ?_;simp (disch:=omega) only [Tryz.f145,go_sem,seval];refine Zg [0,1] (fun k:Nat=> [(5,.p (.int .i64 k))]) (fun _=> []) (fun k=>k<=n/\ ∀j,j<k->(nth l j).order≠(nth l n).order) (fun k=>n-k) 0 (by simp) (Weak.mk ?_) ?_
 ·simp (disch:=omega) only [go_sem,seval]
 ·rintro k ⟨hk,hno⟩;simp (disch:=omega) only [go_sem,seval];refine cD ?_ ?_<;>intro h1<;>simp (disch:=omega) only [Sh.out h1,go_sem,seval]
  ·have hk2:k<n:=by omega
   have hk3:k<l.length:=by omega
   refine Zh Zp (by kernel_rfl) (by kernel_rfl) ?_;simp (disch:=omega) only [go_sem,seval];refine cD ?_ ?_<;>intro h2<;>simp (disch:=omega) only [Sh.out h2,go_sem,seval]
   ·have:YP l n=false:=by
     unfold YP;rw [Bool.not_eq_false',List.any_eq_true];exact ⟨nth l k,QT hk2 hk3,by simpa using h2⟩
    rw [this]
   ·exact ⟨k+1,⟨by omega,Ze.2 ⟨hno,h2⟩⟩,by omega,wk⟩
  ·have hkn:k=n:=by omega
   subst hkn
   have:YP l k=true:=by
    unfold YP;rw [Bool.not_eq_true',List.any_eq_false];intro v hv;obtain ⟨j,j1,j2,rfl⟩:=Uf hv;simpa using hno j j1
   rw [this]
def Wr (c m o w:Int):AM.Obj:= .cells [.p (.int .i64 c),.p (.int .i64 m),.p (.int .i64 o),.p (.int .i64 w)]
theorem QJ {x:Inst} {l:List Vis} {t:Int} : ∀n:Nat,(0<=(chgF x l t n).1/\(chgF x l t n).1<=n)/\(0<=(chgF x l t n).2/\(chgF x l t n).2<=n)
 | 0=>by simp [chgF]
 | n+1=>by
  have ih:=QJ (x:=x) (l:=l) (t:=t) n;rw [chgF]
  split
  ·simp only
   constructor<;>split<;>omega
  ·omega
theorem Zfl (x:Inst) (r:Rte) (s:She) (hty:0<=r.typ/\r.typ<(x.types.length:Int)) (ho:x.orders.length<=1048576) (ht:x.types.length<=1048576) (hl:r.visits.length<=1048576) (hv:Inr x r.visits)
  (hc:0<=(Z2 x r).fixed/\(Z2 x r).fixed<=100000/\0<=(Z2 x r).perMile/\(Z2 x r).perMile<=100/\0<=(Z2 x r).perTick/\(Z2 x r).perTick<=100) (ho2:0<=(Z2 x r).opn/\(Z2 x r).opn<=4096)
  (hf: -4096<=s.fin/\s.fin<=8192) (hm:0<=s.miles/\s.miles<=1000000) :
  PC 91 [.p (ZK x),.p (Xl r),.p (ZaO s)] (ZqL (Zkb x r s)):=by
 have hti:r.typ.toNat<x.types.length:=by omega
 unfold Zkb;have htd:nth x.types r.typ.toNat=Z2 x r:=rfl
 generalize Z2 x r=t at *
 have e1: ¬r.typ<0:=by omega
 have e2: ¬(x.types.length:Int)<=r.typ:=by omega
 have p1:0<=t.perMile*s.miles/\t.perMile*s.miles<=100*1000000:=⟨Int.mul_nonneg (by omega) (by omega),Int.mul_le_mul (by omega) (by omega) (by omega) (by omega)⟩
 have hW: -8192<=s.fin-t.opn/\s.fin-t.opn<=8192:=by omega
 have p2: -819200<=t.perTick*(s.fin-t.opn)/\t.perTick*(s.fin-t.opn)<=819200:=by
  generalize s.fin-t.opn=w at hW;have a1:=Int.mul_le_mul_of_nonneg_left hW.2 (show 0<=t.perTick by omega);have a2:=Int.mul_le_mul_of_nonneg_left hW.1 (show 0<=t.perTick by omega);omega
 have p3: -128<=(s.fin-t.opn).tdiv 64/\(s.fin-t.opn).tdiv 64<=128:=by
  generalize s.fin-t.opn=w at hW;rcases Int.le_total 0 w with h | h
  ·rw [Int.tdiv_eq_ediv_of_nonneg h];omega
  ·have:w.tdiv 64= -((-w) / 64):=by rw [<- Int.tdiv_eq_ediv_of_nonneg (by omega),Int.neg_tdiv,Int.neg_neg]
   rw [this];omega
 have p4:0<=(s.fin-t.opn).tdiv 64*(s.fin-t.opn).tdiv 64/\(s.fin-t.opn).tdiv 64*(s.fin-t.opn).tdiv 64<=16384:=by
  generalize (s.fin-t.opn).tdiv 64=q at p3;refine ⟨?_,?_⟩
  ·rcases Int.le_total 0 q with h | h
   ·exact Int.mul_nonneg h h
   ·exact Int.mul_nonneg_of_nonpos_of_nonpos h h
  ·rcases Int.le_total 0 q with h | h
   ·have:=Int.mul_le_mul p3.2 p3.2 h (by omega);omega
   ·have h2:0<= -q:=by omega
    have:=Int.mul_le_mul (show-q<=128 by omega) (show-q<=128 by omega) h2 (by omega);rw [Int.neg_mul_neg] at this;omega
 refine Za Tryz.func91 rfl Zvh ?_;simp (disch:=omega) only [Tryz.f91,e1,e2,htd,go_sem,seval];refine Zg [3,4,6,9] (fun k:Nat=> [(10,.p (.int .i64 k))]) (fun k=> [Zb x,Zo r,.cells [.p (.bool s.rest),.p (.int .i64 s.dep),.p (.list s.times_c (s.times.map eTim)),.p (.int .i64 s.fin),.p (.int .i64 s.miles)],Wr 0 0 0 0,Xg t,Wr (t.fixed+t.perMile*s.miles+t.perTick*(s.fin-t.opn)) (chgF x r.visits r.typ k).1 (chgF x r.visits r.typ k).2 ((s.fin-t.opn).tdiv 64*(s.fin-t.opn).tdiv 64)]) (fun k=>k<=r.visits.length) (fun k=>r.visits.length-k) 0 (by simp) (Weak.mk ?_) ?_
 ·simp (disch:=omega) only [Zb,Zo,Xg,Wr,chgF,go_sem,seval]
 ·intro k hk;have hch:=QJ (x:=x) (l:=r.visits) (t:=r.typ) k;simp (disch:=omega) only [Zb,Zo,Xg,Wr,go_sem,seval];refine cD ?_ ?_<;>intro h1<;>simp (disch:=omega) only [Sh.out h1,go_sem,seval]
  ·have hk2:k<r.visits.length:=by omega
   obtain ⟨v1,v2⟩:=hv _ (Zl hk2)
   have e3: ¬(nth r.visits k).order<0:=by omega
   have e4: ¬(x.orders.length:Int)<=(nth r.visits k).order:=by omega
   have v3:(nth r.visits k).order.toNat<x.orders.length:=by omega
   simp (disch:=omega) only [e3,e4,go_sem,seval];refine (Zch r.visits r.visits_c k hk2 hl).use ?_;simp (disch:=omega) only [go_sem,seval];have hcs:chgF x r.visits r.typ (k+1)=_:=chgF.eq_2 x r.visits r.typ k;refine cD ?_ ?_<;>intro h2<;>simp (disch:=omega) only [Sh.out h2,go_sem,seval]
   ·have h2': ¬YP r.visits k=true:=by simpa using h2
    exact ⟨k+1,by omega,by omega,Weak.mk (by simp (disch:=omega) only [Zb,Zo,Xg,Wr,hcs,if_neg h2',go_sem,seval])⟩
   ·have h2':YP r.visits k=true:=by simpa using h2
    refine Zh Zp (by kernel_rfl) (by kernel_rfl) ?_;simp (disch:=omega) only [go_sem,seval];refine gT ?_ ?_<;>intro h3<;>simp (disch:=omega) only [Sh.out h3,go_sem,seval]
    ·refine cD ?_ ?_<;>intro h4<;>simp (disch:=omega) only [Sh.out h4,go_sem,seval]
     ·have hn:ZD (nth x.orders (nth r.visits k).order.toNat).now r.typ=true:=by simp [ZD,h3,h4]
      refine Zh Zp (by kernel_rfl) (by kernel_rfl) ?_;simp (disch:=omega) only [go_sem,seval];refine gT ?_ ?_<;>intro h5<;>simp (disch:=omega) only [Sh.out h5,go_sem,seval]
      ·refine cD ?_ ?_<;>intro h6<;>simp (disch:=omega) only [Sh.out h6,go_sem,seval]
       ·have hl2:ZD (nth x.orders (nth r.visits k).order.toNat).last r.typ=true:=by simp [ZD,h5,h6]
        exact ⟨k+1,by omega,by omega,Weak.mk (by simp (disch:=omega) only [Zb,Zo,Xg,Wr,hcs,if_pos h2',hn,hl2,Int.add_zero,Bool.false_eq_true,go_sem,seval])⟩
       ·have hl2:ZD (nth x.orders (nth r.visits k).order.toNat).last r.typ=false:=by simp only [Classical.not_not] at h6;simp [ZD,h6]
        exact ⟨k+1,by omega,by omega,Weak.mk (by simp (disch:=omega) only [Zb,Zo,Xg,Wr,hcs,if_pos h2',hn,hl2,Int.add_zero,Bool.false_eq_true,go_sem,seval])⟩
      ·have hl2:ZD (nth x.orders (nth r.visits k).order.toNat).last r.typ=false:=by simp only [Classical.not_not] at h5;simp [ZD,h5]
       exact ⟨k+1,by omega,by omega,Weak.mk (by simp (disch:=omega) only [Zb,Zo,Xg,Wr,hcs,if_pos h2',hn,hl2,Int.add_zero,Bool.false_eq_true,go_sem,seval])⟩
     ·have hn:ZD (nth x.orders (nth r.visits k).order.toNat).now r.typ=false:=by simp only [Classical.not_not] at h4;simp [ZD,h4]
      refine Zh Zp (by kernel_rfl) (by kernel_rfl) ?_;simp (disch:=omega) only [go_sem,seval];refine gT ?_ ?_<;>intro h5<;>simp (disch:=omega) only [Sh.out h5,go_sem,seval]
      ·refine cD ?_ ?_<;>intro h6<;>simp (disch:=omega) only [Sh.out h6,go_sem,seval]
       ·have hl2:ZD (nth x.orders (nth r.visits k).order.toNat).last r.typ=true:=by simp [ZD,h5,h6]
        exact ⟨k+1,by omega,by omega,Weak.mk (by simp (disch:=omega) only [Zb,Zo,Xg,Wr,hcs,if_pos h2',hn,hl2,Int.add_zero,Bool.false_eq_true,go_sem,seval])⟩
       ·have hl2:ZD (nth x.orders (nth r.visits k).order.toNat).last r.typ=false:=by simp only [Classical.not_not] at h6;simp [ZD,h6]
        exact ⟨k+1,by omega,by omega,Weak.mk (by simp (disch:=omega) only [Zb,Zo,Xg,Wr,hcs,if_pos h2',hn,hl2,Int.add_zero,Bool.false_eq_true,go_sem,seval])⟩
      ·have hl2:ZD (nth x.orders (nth r.visits k).order.toNat).last r.typ=false:=by simp only [Classical.not_not] at h5;simp [ZD,h5]
       exact ⟨k+1,by omega,by omega,Weak.mk (by simp (disch:=omega) only [Zb,Zo,Xg,Wr,hcs,if_pos h2',hn,hl2,Int.add_zero,Bool.false_eq_true,go_sem,seval])⟩
    ·have hn:ZD (nth x.orders (nth r.visits k).order.toNat).now r.typ=false:=by simp only [Classical.not_not] at h3;simp [ZD,h3]
     refine Zh Zp (by kernel_rfl) (by kernel_rfl) ?_;simp (disch:=omega) only [go_sem,seval];refine gT ?_ ?_<;>intro h5<;>simp (disch:=omega) only [Sh.out h5,go_sem,seval]
     ·refine cD ?_ ?_<;>intro h6<;>simp (disch:=omega) only [Sh.out h6,go_sem,seval]
      ·have hl2:ZD (nth x.orders (nth r.visits k).order.toNat).last r.typ=true:=by simp [ZD,h5,h6]
       exact ⟨k+1,by omega,by omega,Weak.mk (by simp (disch:=omega) only [Zb,Zo,Xg,Wr,hcs,if_pos h2',hn,hl2,Int.add_zero,Bool.false_eq_true,go_sem,seval])⟩
      ·have hl2:ZD (nth x.orders (nth r.visits k).order.toNat).last r.typ=false:=by simp only [Classical.not_not] at h6;simp [ZD,h6]
       exact ⟨k+1,by omega,by omega,Weak.mk (by simp (disch:=omega) only [Zb,Zo,Xg,Wr,hcs,if_pos h2',hn,hl2,Int.add_zero,Bool.false_eq_true,go_sem,seval])⟩
     ·have hl2:ZD (nth x.orders (nth r.visits k).order.toNat).last r.typ=false:=by simp only [Classical.not_not] at h5;simp [ZD,h5]
      exact ⟨k+1,by omega,by omega,Weak.mk (by simp (disch:=omega) only [Zb,Zo,Xg,Wr,hcs,if_pos h2',hn,hl2,Int.add_zero,Bool.false_eq_true,go_sem,seval])⟩
  ·have hkl:k=r.visits.length:=by omega
   subst hkl
   rfl
theorem SqOk.len {x:Inst} {l:List Vis} (h:SqOk x l) (hn:x.orders.length<=10):l.length<=20:=by
 have h1:=List.Nodup.length_le_of_subset (l₁ :=l) (l₂ :=(List.range 10).flatMap fun i:Nat=> [(⟨(i:Int),false⟩:Vis),⟨(i:Int),true⟩]) h.nd (fun v hv=>by
  obtain ⟨v1,v2⟩:=h.inr v hv;rw [List.mem_flatMap];refine ⟨v.order.toNat,List.mem_range.2 (by omega),?_⟩;obtain ⟨o,d⟩:=v
  have e:((o.toNat:Nat):Int)=o:=by simp only at v1;omega
  cases d<;>simp [e])
 have h2:((List.range 10).flatMap fun i:Nat=> [(⟨(i:Int),false⟩:Vis),⟨(i:Int),true⟩]).length=20:=rfl;omega
theorem SqOk.vis {x:Inst} {l:List Vis} (h:SqOk x l) {v:Vis} (hv:v∈l):Jv x v=true:=by
 obtain ⟨v1,v2⟩:=h.inr v hv;obtain ⟨i,hi⟩: ∃i:Nat,v.order=(i:Int):=⟨v.order.toNat,by omega⟩;have ho:=h.own (i:=i) ⟨v,hv,hi⟩
 have hpl:0<=(stopV x v).place:=by
  unfold stopV;rw [hi,Int.toNat_natCast]
  cases hd:v.drp with
  | true=>exact ho.isD (by rw [<- hi,<- hd];exact hv)
  | false=>exact ho.isP (by rw [<- hi,<- hd];exact hv)
 simp [Jv,inB,v1,v2,hpl]
theorem ZkN {x:Inst} {r:Rte} (h:SqOk x r.visits) (hn:x.orders.length<=10) (ht:0<=r.typ/\r.typ<(x.types.length:Int)):Y7 x r=(decide (0<=r.start)&&decide (r.start<=4096)):=by
 have h1:r.visits.all (Jv x)=true:=List.all_eq_true.2 fun v hv=>h.vis hv;have h2:=h.len hn;simp [Y7,h1,h2,ht.1,ht.2]
theorem ZkK {n:Net} (h:netOk n):netR n/\ ∀a∈n.arcs,0<=a.miles/\a.miles<=10000:=by
 obtain ⟨⟨⟨h1,_⟩,h2⟩,h3⟩:=h
 have ha: ∀a∈n.arcs,Zt3 a/\0<=a.miles/\a.miles<=10000:=fun a hm=>by
  obtain ⟨i,hi,rfl⟩:=List.mem_iff_getElem.1 hm;have:=h3 i hi;unfold Zds at this;rw [Zf hi] at this;obtain ⟨⟨⟨⟨⟨_,g1⟩,_⟩,g2⟩,g3⟩,g4⟩:=this;refine ⟨⟨g2,g3,fun p hp=> ?_⟩,g1.2.2.1,g1.2.2.2.1⟩;obtain ⟨j,hj,rfl⟩:=List.mem_iff_getElem.1 hp;have:=g4 j hj;unfold VJ at this;rw [Zf hj] at this;simp only [ZgX,rng,decide_eq_true_eq] at this;exact ⟨this.1.1,this.1.2,this.2.1.1,this.2.1.2⟩
 exact ⟨⟨by omega,by omega,fun a hm=>(ha a hm).1⟩,fun a hm=>(ha a hm).2⟩
theorem V9 {x:Inst} (hx:InstOk x) {i:Nat} (hi:i<x.types.length):(0<=(nth x.types i).opn/\(nth x.types i).opn<=(nth x.types i).cls/\(nth x.types i).cls<=4096)/\(1<=(nth x.types i).drive/\(nth x.types i).drive<=4096)/\(0<=(nth x.types i).rest/\(nth x.types i).rest<=4096) /\
  (0<=(nth x.types i).fixed/\(nth x.types i).fixed<=100000/\0<=(nth x.types i).perMile/\(nth x.types i).perMile<=100/\0<=(nth x.types i).perTick/\(nth x.types i).perTick<=100)/\(0<=(nth x.types i).skills/\(nth x.types i).skills<=1073741823):=by
 have ht:=hx.types.2 i hi;unfold QR at ht;obtain ⟨⟨⟨⟨⟨⟨⟨⟨_,_⟩,_⟩,_⟩,_⟩,h1⟩,h2⟩,h3⟩,h4⟩:=ht;simp only [rng,decide_eq_true_eq] at h1 h2 h3 h4;omega
theorem V1 {x:Inst} {r:Rte} (hx:InstOk x) (ht:0<=r.typ/\r.typ<(x.types.length:Int)) (h:SqOk x r.visits):TrpOk x (Z2 x r) (ZQ x r.visits):=by
 have hti:r.typ.toNat<x.types.length:=by omega
 obtain ⟨t1,t2,t3,_⟩:=V9 hx hti;obtain ⟨n1,n2⟩:=ZkK hx.net;refine ⟨n1,n2,t1,t2,t3,fun s hs=> ?_,by rw [Xe];exact h.len hx.orders.1⟩;obtain ⟨v,hv,rfl⟩:=List.mem_map.1 hs;obtain ⟨v1,v2⟩:=h.inr v hv
 have hi:v.order.toNat<x.orders.length:=by omega
 have ho:=hx.orders.2 _ hi;have hvis:=h.vis hv;have hp:=ho.pstp;have hd:=ho.dstp;simp only [stpOk,decide_eq_true_eq] at hp hd;simp only [Jv,Bool.and_eq_true,decide_eq_true_eq] at hvis;have h3:=hvis.2;unfold stopV at h3 ⊢
 split
 ·rename_i c;rw [if_pos c] at h3;omega
 ·rename_i c;rw [if_neg c] at h3;omega
theorem Zbd {x t sp} (h:TrpOk x t sp): ∀(bs:List Bool) (k:Nat) (L:Lab),k+bs.length=sp.length+1->LabR k L->(Xz x t sp k L bs).2=0->LabR (sp.length+1) (Xz x t sp k L bs).1/\(bs≠ []->(Xz x t sp k L bs).1.she.fin=(Xz x t sp k L bs).1.ready)
 | [],k,L,hk,hl,h0=>by
  simp at hk;subst hk;exact ⟨hl,fun h=>absurd rfl h⟩
 | b::bs,k,L,hk,hl,h0=>by
  simp at hk;rw [Xz] at h0 ⊢
  split at h0
  ·rename_i c;rw [if_pos c];obtain ⟨h1,h2⟩:=Zbd h bs (k+1) _ (by omega) (KZ h (by omega) hl c) h0;refine ⟨h1,fun _=> ?_⟩
   cases bs with
   | nil =>
    simp at hk;subst hk;exact Zbx (x:=x) (t:=t) (sp:=sp) (y:=L) (b:=b) (by rw [XJ,if_pos c];rfl)
   | cons b2 bs=>exact h2 (by simp)
  ·simp at h0;rename_i c;exact absurd h0 c
theorem Za2 {x t sp} {st:Int} {r:List Bool} (h:TrpOk x t sp) (hs:0<=st/\st<=4096) (hr:r.length<=sp.length+1) (h0:(WE x t sp st r).2=0):(0<=(WE x t sp st r).1.fin/\(WE x t sp st r).1.fin<=8192)/\(0<=(WE x t sp st r).1.miles/\(WE x t sp st r).1.miles<=210000):=by
 have hL0:LabR 0 (Xv t st):=⟨by have:=h.opn;simp only [Xv];omega,by simp [Xv],by simp [Xv,zShe]⟩;have hl:=h.len
 have key: ∀bs∈XL r (sp.length+1),(Xz x t sp 0 (Xv t st) bs).2=0->(0<=(Xz x t sp 0 (Xv t st) bs).1.she.fin/\(Xz x t sp 0 (Xv t st) bs).1.she.fin<=8192)/\(0<=(Xz x t sp 0 (Xv t st) bs).1.she.miles/\(Xz x t sp 0 (Xv t st) bs).1.she.miles<=210000):=fun bs hbs he=>by
  obtain ⟨q,hq,rfl⟩:=List.mem_map.1 hbs;have hql:=bestF_len.fromB_len _ _ hq;simp at hql
  have hne:r++q≠ []:=fun e=>by
   have h2:(r++q).length=0:=by rw [e];rfl
   rw [List.length_append] at h2;omega
  obtain ⟨g1,g2⟩:=Zbd h (r++q) 0 _ (by simp;omega) hL0 he;rw [g2 hne];have:=g1.rdy;have:=g1.mil;omega
 unfold WE at h0 ⊢
 cases hf:fmL Y4 none ((XL r (sp.length+1)).filterMap (WN (XJ x t sp) 0 (Xv t st))) with
 | some L =>
  simp only;have:=bestF_len.fmL_mem _ _ hf;obtain ⟨bs,hbs,hrun⟩:=List.mem_filterMap.1 this;rw [Yn] at hrun
  split at hrun
  ·rename_i c;simp at hrun;subst hrun;exact key bs hbs c
  ·cases hrun
 | none =>
  simp only;simp [zShe]
theorem ZdU (x:Inst) (r:Rte) (ho:x.orders.length<=1048576) (ht:x.types.length<=1048576) (hl:r.visits.length<=1048576) (hbad:Y7 x r=false\/r.visits.length+1<r.rests.length) :
  PT 90 [.p (ZK x),.p (Xl r)] [.p (ZaO zShe),.p (.int .i64 2)]:=by
 refine Zd [] Tryz.func90 rfl Zp4 ?_;simp (disch:=omega) only [Tryz.f90,go_sem,seval];refine (Q2 x r ho ht hl).use ?_;simp (disch:=omega) only [go_sem,seval];refine gF ?_ ?_<;>intro h1<;>simp (disch:=omega) only [Sh.out h1,go_sem,seval]
 ·exact we (by simp (disch:=omega) only [zShe,List.map_nil,go_sem,seval])
 ·have h2:r.visits.length+1<r.rests.length:=hbad.resolve_left (by simpa using h1);refine cD ?_ ?_<;>intro h3<;>simp (disch:=omega) only [Sh.out h3,go_sem,seval]
  ·exact we (by simp (disch:=omega) only [zShe,List.map_nil,go_sem,seval])
  ·omega
theorem ZkJ (x:Inst) (r:Rte) (hx:InstOk x) (hl:r.visits.length<=1048576):PC 87 [.p (ZK x),.p (Xl r)] (.int .i64 (ZW x r.visits)):=by
 have hf:=Kr hx;have hr:=hx.rules;obtain ⟨h1,h2⟩:=List.append_eq_nil_iff.1 hr
 have ha:x.apart.length<=1048576:=by
  have h3:=(List.append_eq_nil_iff.1 h1).1;unfold hdr at h3
  split at h3
  ·simp at h3
  ·omega
 have hb:x.before.length<=1048576:=by
  have h3:=(List.append_eq_nil_iff.1 h2).1;unfold hdr at h3
  split at h3
  ·simp at h3
  ·omega
 have:=ZcK x r (by have:=hf.len;omega) hl ha hb hf.plc;rwa [Zjo hf] at this
theorem Zis {g:FuncId} {args:List V} {a b c:PV} {H:List AM.Obj} {K:V->List AM.Obj->Prop} (h:ACalls Tryz.prog g args [] fun x H'=>x= .tup [.p a,.p b,.p c]/\H'= []) (k:K (.tup [.p a,.p b,.p c]) H) (ha:ZJ 0 args=true:=by rfl):ACalls Tryz.prog g args H K:=ZcG h k ha
def QS (x:Inst) (r:Rte):V:= .tup [.p (ZaO (Xn x r)),.p (ZqL (JX x r)),.p (.int .i64 (ZZ x r))]
theorem Xc {x:Inst} {r:Rte} {e:Int} (h:ZZ x r=e) (h0:e≠0):QS x r= .tup [.p (ZaO zShe),.p (ZqL zSco),.p (.int .i64 e)]:=by
 unfold QS Xn JX;rw [h,if_neg h0,if_neg h0]
theorem VQ (x:Inst) (r:Rte) (hx:InstOk x) (hl:r.visits.length<=1048576) (hrl:r.rests.length<=1048576):ACalls Tryz.prog 49 [.p (ZK x),.p (Xl r)] [] fun y H'=>y=QS x r/\H'= []:=by
 have hld:=Wa hx;have htl:=hld.typ;have hol:=hld.ord;have chk:=ZkJ x r hx hl
 have htb:x.types.length<=6:=by have:=hx.types.1;simp only [rng,decide_eq_true_eq] at this;omega
 refine Zd [] Tryz.func49 rfl ZwB ?_;simp (disch:=omega) only [Tryz.f49,go_sem,seval];refine gF ?_ ?_<;>intro h1<;>simp (disch:=omega) only [Sh.out h1,go_sem,seval]
 ·have e:XD x r=2:=by rw [XD,if_pos (by omega)]
  rw [Xc (e:=2) (by rw [ZZ,e];rfl) (by omega)];exact we (by simp (disch:=omega) only [zShe,zSco,List.map_nil,go_sem,seval])
 ·refine cD ?_ ?_<;>intro h2<;>simp (disch:=omega) only [Sh.out h2,go_sem,seval]
  ·have e:XD x r=2:=by rw [XD,if_pos (by omega)]
   rw [Xc (e:=2) (by rw [ZZ,e];rfl) (by omega)];exact we (by simp (disch:=omega) only [zShe,zSco,List.map_nil,go_sem,seval])
  ·have hty:0<=r.typ/\r.typ<(x.types.length:Int):=by omega
   have hti:r.typ.toNat<x.types.length:=by omega
   refine (chk).use ?_;simp (disch:=omega) only [go_sem,seval];refine cD ?_ ?_<;>intro h3<;>simp (disch:=omega) only [Sh.out h3,go_sem,seval]
   ·have e:XD x r=ZW x r.visits:=by rw [XD,if_neg (fun h=>h hty),if_pos h3]
    rw [Xc (e:=ZW x r.visits) (by rw [ZZ,e,if_neg h3]) h3];exact we (by simp (disch:=omega) only [zShe,zSco,List.map_nil,go_sem,seval])
   ·have h3':=Classical.not_not.1 h3;have hsq:=Yt h3'
    have hvn:0<r.visits.length:=by
     have:=hsq.ne
     cases hv:r.visits with
     | nil=>exact absurd hv this
     | cons a b=>simp
    have hok:=V1 hx hty hsq;have hnum:=V9 hx hti
    have hr0:XD x r=if (r.visits.any fun v=> !Yc (Z2 x r) (nth x.orders v.order.toNat).skills)=true then 18 else if Ve x (Z2 x r).cap r.visits=false then 17 else if ¬(0<=r.start/\r.start<=4096/\r.rests.length<=r.visits.length+1) then 2 else 0:=by
     rw [XD,if_neg (fun h=>h hty),if_neg h3]
    have htyp:nth x.types r.typ.toNat=Z2 x r:=rfl;rw [htyp] at hnum;have hf17:=Zf8 x r hx hl hty h3' chk;have hposs:=ZkN hsq hol hty
    have hsk: ∀k,k<r.visits.length->(nth r.visits k).order.toNat<x.orders.length/\0<=(nth x.orders (nth r.visits k).order.toNat).skills/\(nth x.orders (nth r.visits k).order.toNat).skills<=1073741823:=fun k hk=>by
     obtain ⟨v1,v2⟩:=hsq.inr _ (Zl hk)
     have hi:(nth r.visits k).order.toNat<x.orders.length:=by omega
     exact ⟨hi,(hx.orders.2 _ hi).skills⟩
    refine Zg [2,3,4,5] (fun k:Nat=> [(8,.p (.int .i64 k))]) (fun _=> [Zb x,Zo r,.cells [.p (.bool false),.p (.int .i64 0),.p (.list true []),.p (.int .i64 0),.p (.int .i64 0)],Wr 0 0 0 0])
     (fun k=>k<=r.visits.length/\ ∀j,j<k->Yc (Z2 x r) (nth x.orders (nth r.visits j).order.toNat).skills=true) (fun k=>r.visits.length-k) 0 (by simp) (Weak.mk ?_) ?_
    ·simp (disch:=omega) only [Zb,Zo,Wr,go_sem,seval]
    ·rintro k ⟨hk,hno⟩;simp (disch:=omega) only [Zb,Zo,Wr,go_sem,seval];refine cD ?_ ?_<;>intro h4<;>simp (disch:=omega) only [Sh.out h4,go_sem,seval]
     ·have hk2:k<r.visits.length:=by omega
      obtain ⟨s1,s2,s3⟩:=hsk k hk2;obtain ⟨v1,v2⟩:=hsq.inr _ (Zl hk2);refine Zh Zp (by kernel_rfl) (by kernel_rfl) ?_;simp (disch:=omega) only [htyp,go_sem,seval];refine Zn (ZgT (Z2 x r) (nth x.orders (nth r.visits k).order.toNat).skills (by omega) (by omega)) ?_;simp (disch:=omega) only [go_sem,seval];refine cD ?_ ?_<;>intro h5<;>simp (disch:=omega) only [Sh.out h5,go_sem,seval]
      ·have e:XD x r=18:=by
        rw [hr0,if_pos];exact List.any_eq_true.2 ⟨_,Zl hk2,h5⟩
       rw [Xc (e:=18) (by rw [ZZ,e];rfl) (by omega)];exact we (by simp (disch:=omega) only [zShe,zSco,List.map_nil,go_sem,seval])
      ·exact ⟨k+1,⟨by omega,Ze.2 ⟨hno,by simpa using h5⟩⟩,by omega,Weak.mk (by simp (disch:=omega) only [Zb,Zo,Wr,go_sem,seval])⟩
     ·have hkl:k=r.visits.length:=by omega
      subst hkl
      have XW: ¬(r.visits.any fun v=> !Yc (Z2 x r) (nth x.orders v.order.toNat).skills)=true:=fun h=>by
       obtain ⟨v,hv,hb⟩:=List.any_eq_true.1 h;obtain ⟨j,hj,rfl⟩:=List.mem_iff_getElem.1 hv;rw [<- Zf hj,hno j hj] at hb;simp at hb
      rw [if_neg XW] at hr0;refine (hf17).use ?_;simp (disch:=omega) only [go_sem,seval]
      cases hlb:Ve x (Z2 x r).cap r.visits with
      | false =>
       have e:XD x r=17:=by rw [hr0,hlb];rfl
       simp only [Bool.false_eq_true,if_false];simp (disch:=omega) only [go_sem,seval];rw [Xc (e:=17) (by rw [ZZ,e];rfl) (by omega)];exact we (by simp (disch:=omega) only [zShe,zSco,List.map_nil,go_sem,seval])
      | true =>
       rw [hlb,if_neg (by simp)] at hr0;simp only [if_true];simp (disch:=omega) only [go_sem,seval]
       by_cases h6:0<=r.start/\r.start<=4096/\r.rests.length<=r.visits.length+1
       ·have e:XD x r=0:=by rw [hr0,if_neg (fun h=>h h6)]
        have hp:Y7 x r=true:=by rw [hposs];simp [h6.1,h6.2.1]
        have ee:ZZ x r=(Xf x r).2:=by rw [ZZ,if_pos e]
        have cb:=ZgR x r hok (by omega) htl hvn hp h6.2.2;have hbr:=Za2 hok ⟨h6.1,h6.2.1⟩ (by rw [Xe];exact h6.2.2);have hbr:(Xf x r).2=0->_:=hbr
        change (Xf x r).2=0->(0<=(Xf x r).1.fin/\(Xf x r).1.fin<=8192)/\(0<=(Xf x r).1.miles/\(Xf x r).1.miles<=210000) at hbr
        have es:Xn x r=if (Xf x r).2=0 then (Xf x r).1 else zShe:=by rw [Xn,ee]
        have ep:JX x r=if (Xf x r).2=0 then Zkb x r (Xf x r).1 else zSco:=by rw [JX,ee]
        unfold QS;rw [ee,es,ep];clear ee es ep
        generalize Xf x r=q at *
        obtain ⟨sh,eb⟩:=q;simp only at cb hbr ⊢;refine Xi cb ?_;simp (disch:=omega) only [go_sem,seval];refine cD ?_ ?_<;>intro h7<;>simp (disch:=omega) only [Sh.out h7,go_sem,seval]
        ·exact we (by simp (disch:=omega) only [zShe,zSco,List.map_nil,go_sem,seval])
        ·have h7':=Classical.not_not.1 h7
         try rw [if_pos h7',if_pos h7']
         subst h7';obtain ⟨g1,g2⟩:=hbr rfl;refine Zy 5 Zp (by kernel_rfl) (by kernel_rfl) ?_;simp (disch:=omega) only [go_sem,seval];refine Zn (Zfl x r sh hty (by omega) htl hl hsq.inr hnum.2.2.2.1 (by omega) (by omega) (by omega)) ?_;simp (disch:=omega) only [go_sem,seval];exact we
       ·have e:XD x r=2:=by rw [hr0,if_pos h6]
        rw [Xc (e:=2) (by rw [ZZ,e];rfl) (by omega)];refine Xi (ZdU x r (by omega) htl hl ?_) ?_
        ·by_cases c1:0<=r.start
         ·by_cases c2:r.start<=4096
          ·right;omega
          ·left;rw [hposs];simp [c2]
         ·left;rw [hposs];simp [c1]
        ·simp (disch:=omega) only [go_sem,seval];exact we (by simp (disch:=omega) only [zShe,zSco,List.map_nil,go_sem,seval])
theorem Zda (x:Inst) (r:Rte) (hx:InstOk x) (hl:r.visits.length<=1048576) (hrl:r.rests.length<=1048576):PC 47 [.p (ZK x),.p (Xl r)] (.int .i64 (ZZ x r)):=by
 have ce:=VQ x r hx hl hrl;refine Za Tryz.func47 rfl ZuQ ?_;simp (disch:=omega) only [Tryz.f47,go_sem,seval];unfold QS at ce;refine ZcG ce ?_;simp (disch:=omega) only [go_sem,seval]
def gIx {α:Type} (f:α->Bool) (l:List α):Int:=match l.findIdx? f with | some i=>(i:Int) | none=> -1
theorem Zip {α:Type} [Inhabited α] {f:α->Bool} {l:List α} {k:Nat} (hk:k<l.length) (h:f (nth l k)=true) (hno: ∀j,j<k->f (nth l j)=false):gIx f l=(k:Int):=by
 have:l.findIdx? f=some k:=by
  rw [List.findIdx?_eq_some_iff_getElem];refine ⟨hk,by rw [<- Zf hk];exact h,fun j hj=> ?_⟩;have h2:=hno j hj;rw [Zf (by omega)] at h2;simpa using h2
 simp [gIx,this]
theorem Zic {α:Type} [Inhabited α] {f:α->Bool} {l:List α} (hno: ∀j,j<l.length->f (nth l j)=false):gIx f l= -1:=by
 have:l.findIdx? f=none:=by
  rw [List.findIdx?_eq_none_iff];intro x hx;obtain ⟨j,hj,rfl⟩:=List.mem_iff_getElem.1 hx;rw [<- Zf hj];exact hno j hj
 simp [gIx,this]
theorem ZiL {α:Type} {f:α->Bool} {l:List α} :decide (0<=gIx f l)=l.any f:=by
 unfold gIx
 cases h:l.findIdx? f with
 | none =>
  rw [List.findIdx?_eq_none_iff] at h
  have:l.any f=false:=by rw [List.any_eq_false];intro x hx;simp [h x hx]
  simp [this]
 | some i =>
  rw [List.findIdx?_eq_some_iff_getElem] at h;obtain ⟨h1,h2,_⟩:=h
  have:l.any f=true:=by rw [List.any_eq_true];exact ⟨l[i],List.getElem_mem _,h2⟩
  simp [this]
theorem ZdP (l:List (List Int)) (c:Bool) (g:FuncId) (caps:List V) (H:List AM.Obj) (f:List Int->Bool) (hl:l.length<=1048576) (hW:wkH H H.length H H) (hc:ZJ H.length caps=true)
  (hg: ∀v∈l,ACalls Tryz.prog g (.p (eIL v)::caps) H fun x H'=>x= .p (.bool (f v))/\H'=H) :
  ACalls Tryz.prog 295 [.p (.list c (l.map eIL)),.fn (.func g) [] caps] H fun x H'=>x= .p (.int .i64 (gIx f l))/\H'=H:=by
 refine Z3 Tryz.func295 rfl ZpH (Zc [] _ _ _ _ ?_);simp (disch:=omega) only [Tryz.f295,go_sem,seval];refine Zg [0,1,7] (fun k:Nat=> [(8,.p (.int .i64 k))]) (fun _=>H) (fun k=>k<=l.length/\ ∀j,j<k->f (nth l j)=false) (fun k=>l.length-k) 0 (by simp) (Weak.mk ?_) ?_
 ·simp (disch:=omega) only [hW,hc,go_sem,seval];simp
 ·rintro k ⟨hk,hno⟩;simp (disch:=omega) only [go_sem,seval];refine cD ?_ ?_<;>intro h<;>simp (disch:=omega) only [Sh.out h,go_sem,seval]
  ·have hk2:k<l.length:=by omega
   have hgk:=hg (nth l k) (Zl hk2);simp (disch:=omega) only [Zl9,go_sem,seval] at hgk;refine hgk.useH ?_;simp (disch:=omega) only [go_sem,seval];refine cD ?_ ?_<;>intro h2<;>simp (disch:=omega) only [Sh.out h2,go_sem,seval]
   ·rw [Zip hk2 h2 hno]
   ·have h3:f (nth l k)=false:=by simpa using h2
    refine ⟨k+1,⟨by omega,Ze.2 ⟨hno,h3⟩⟩,by omega,Weak.mk ?_⟩;simp (disch:=omega) only [hW,hc,go_sem,seval];simp
  ·have hkl:k=l.length:=by omega
   subst hkl;rw [Zic hno]
theorem JF (l:List (List Int)) (c:Bool) (g:FuncId) (caps:List V) (H:List AM.Obj) (f:List Int->Bool) (hl:l.length<=1048576) (hW:wkH H H.length H H) (hc:ZJ H.length caps=true)
  (hg: ∀v∈l,ACalls Tryz.prog g (.p (eIL v)::caps) H fun x H'=>x= .p (.bool (f v))/\H'=H) :
  ACalls Tryz.prog 267 [.p (.list c (l.map eIL)),.fn (.func g) [] caps] H fun x H'=>x= .p (.bool (l.any f))/\H'=H:=by
 refine Z3 Tryz.func267 rfl ZlZ (Zc [] _ _ _ _ ?_);simp (disch:=omega) only [Tryz.f267,go_sem,seval];refine (ZdP l c g caps H f hl hW hc hg).useH ?_;simp (disch:=omega) only [go_sem,seval];rw [ZiL]
theorem ZiE (x:Inst) (r:Rte) (hx:InstOk x) (hl:r.visits.length<=1048576):PC 219 [.p (ZK x),.p (Xl r)] (.int .i64 (ZW x r.visits)):=by
 have hf:=Kr hx;obtain ⟨h1,h2⟩:=List.append_eq_nil_iff.1 hx.rules
 have ha:x.apart.length<=1048576:=by
  have h3:=(List.append_eq_nil_iff.1 h1).1;unfold hdr at h3
  split at h3
  ·simp at h3
  ·omega
 have hb:x.before.length<=1048576:=by
  have h3:=(List.append_eq_nil_iff.1 h2).1;unfold hdr at h3
  split at h3
  ·simp at h3
  ·omega
 exact Zcs x r (by have:=hf.len;omega) hl ha hb
theorem Zfh {x:Inst} {l:List Vis} (hi:Inr x l) (hn:x.orders.length<=10):ordR l=(((ordS l:Nat):Int),0):=by
 rw [ordR,if_pos];rw [List.all_eq_true];intro v hv;have:=hi v hv;simp [inS];omega
theorem Zpf {α:Type} (f:Nat->α) (n:Nat):(List.range n).map f++ [f n]=(List.range (n+1)).map f:=by rw [List.range_succ,List.map_append];rfl
theorem Zhe (x:Inst) (r:Rte) (hx:InstOk x) (hl:r.visits.length<=1048576) (h0:ZW x r.visits=0) :
  PT 266 [.p (ZK x),.p (Xl r)] [.p (.list false ((WO x r.visits).map eIL)),.p (.int .i64 0)]:=by
 have hd:=Wa hx;have hsq:=Yt h0;have hol:=hd.ord;have hso:=WM r hl;rw [Zfh hsq.inr hol] at hso
 have hD:dimsOf x.types=((dimsOf x.types).toNat:Int):=by have:=hd.dim;omega
 have cd:=Zjf x.types x.types_c hd.typ;rw [hD] at cd;have hst:=ZeN hsq.inr hol
 have hmem: ∀i∈YR ((ordS r.visits:Nat):Int) 63,0<=i/\i<(x.orders.length:Int):=fun i hi=>by
  rw [Zyg hsq.inr hol] at hi;obtain ⟨j,hj,rfl⟩:=List.mem_map.1 hi;have:=List.mem_range.1 (List.mem_filter.1 hj).1;omega
 have cs:=Zjb x ((ordS r.visits:Nat):Int) (dimsOf x.types).toNat (by have:=hd.dim;omega) (by omega) hmem (Zbq _ _) (fun o ho=>by have:=hd.load o ho;exact ⟨by omega,this.2⟩);rw [hst] at cs;refine Zd [20] Tryz.func266 rfl Zqf ?_;simp (disch:=omega) only [Tryz.f266,go_sem,seval];refine (ZiE x r hx hl).use ?_;simp (disch:=omega) only [go_sem,seval];simp (disch:=omega) only [h0,go_sem,seval];refine Xi hso ?_;simp (disch:=omega) only [go_sem,seval];refine Zh Zp (by kernel_rfl) (by kernel_rfl) ?_;simp (disch:=omega) only [go_sem,seval]
 refine Zn (cd) ?_;simp (disch:=omega) only [go_sem,seval];refine Zn (cs) ?_;simp (disch:=omega) only [go_sem,seval];refine ZM [20] [2,37,38] (fun q:Nat×List (List Int)=> [(9,.p (.list false ((Y9 x r.visits q.1).map eI))),(10,.sl 2 0 q.2.length q.2.length),(39,.p (.int .i64 q.1))]) (fun q=> [Zb x,Zo r,.elems 1 (q.2.map eIL)]) (fun q=>q.1<=r.visits.length/\q.2=(List.range (q.1+1)).map (Y9 x r.visits)) (fun q=>r.visits.length-q.1) (0,[Y9 x r.visits 0]) (by simp) (Weak.mk ?_) ?_
 ·simp (disch:=omega) only [Zb,Zo,List.map_nil,List.map_cons,List.length_nil,List.length_cons,List.cons_append,List.nil_append,go_sem,seval]
 ·rintro ⟨k,o⟩ ⟨hk,ho⟩;simp only at hk ho
  have hol2:o.length=k+1:=by rw [ho];simp
  simp (disch:=omega) only [Zb,Zo,go_sem,seval];refine cD ?_ ?_<;>intro h1<;>simp (disch:=omega) only [Sh.out h1,go_sem,seval]
  ·have hk2:k<r.visits.length:=by omega
   obtain ⟨v1,v2⟩:=hsq.inr _ (Zl hk2)
   have hi:(nth r.visits k).order.toNat<x.orders.length:=by omega
   obtain ⟨l1,l2⟩:=hd.load _ (ZL hi);have hsu:=Zfa hsq hk2;have hal:=Vb (x:=x) (l:=r.visits) (n:=k);have hdm:=hd.dim
   have hrg: ∀j,j<(Y9 x r.visits k).length-> -1073741824<=nth (Y9 x r.visits k) j/\nth (Y9 x r.visits k) j<=1073741824/\ -1073741824<=nth (nth x.orders (nth r.visits k).order.toNat).load j/\nth (nth x.orders (nth r.visits k).order.toNat).load j<=1073741824:=fun j hj=>by
    have b1:=ZhN (x:=x) (l:=r.visits) (n:=k) (j:=j) (by omega) hd;have b2:=l2 _ (ZL (show j<(nth x.orders (nth r.visits k).order.toNat).load.length by omega));omega
   refine cD ?_ ?_<;>intro h2<;>simp (disch:=omega) only [Sh.out h2,go_sem,seval]
   ·rw [if_pos h2] at hsu;refine Xi (Zqi (Y9 x r.visits k) (nth x.orders (nth r.visits k).order.toNat).load false (nth x.orders (nth r.visits k).order.toNat).load_c (by omega) (by omega) hrg) ?_;simp (disch:=omega) only [go_sem,seval];exact ⟨(k+1,o++ [Y9 x r.visits (k+1)]),⟨by simp only;omega,by simp only;rw [ho,Zpf]⟩,by simp only;omega,Weak.mk (by simp (disch:=omega) only [Zb,Zo,hsu,List.length_append,List.length_cons,List.length_nil,List.map_append,List.map_cons,List.map_nil,go_sem,seval])⟩
   ·rw [if_neg (by rw [h2];simp)] at hsu;refine Xi (Zh5 (Y9 x r.visits k) (nth x.orders (nth r.visits k).order.toNat).load false (nth x.orders (nth r.visits k).order.toNat).load_c (by omega) (by omega) hrg) ?_;simp (disch:=omega) only [go_sem,seval];exact ⟨(k+1,o++ [Y9 x r.visits (k+1)]),⟨by simp only;omega,by simp only;rw [ho,Zpf]⟩,by simp only;omega,Weak.mk (by simp (disch:=omega) only [Zb,Zo,hsu,List.length_append,List.length_cons,List.length_nil,List.map_append,List.map_cons,List.map_nil,go_sem,seval])⟩
  ·have hkl:k=r.visits.length:=by omega
   subst hkl;refine Zs (Weak.fz (o:=2) (by rfl)) ?_;refine Zc [] _ _ _ _ ?_;simp (disch:=omega) only [List.map_cons,List.map_nil,List.set_cons_succ,List.set_cons_zero,go_sem,seval];rw [WO,<- ho];exact we
theorem ZjF (x:Inst) (r:Rte) (a:List Int) (htl:x.types.length<=1048576) (hty:0<=r.typ/\r.typ<(x.types.length:Int)) (ha:a.length<=1048576) (hc:(Z2 x r).cap.length<=1048576) :
  ACalls Tryz.prog 268 [.p (eIL a),.ptr 0 0,.ptr 1 0] [Zb x,Zo r] fun y H'=>y= .p (.bool (!YA a (Z2 x r).cap))/\H'= [Zb x,Zo r]:=by
 have hti:r.typ.toNat<x.types.length:=by omega
 refine Zd [] Tryz.func268 rfl ZoY ?_;simp (disch:=omega) only [Tryz.f268,Zb,Zo,go_sem,seval];refine (ZkI a (Z2 x r).cap false (Z2 x r).cap_c ha hc).use ?_;simp (disch:=omega) only [go_sem,seval];exact we (by simp (disch:=omega) only [Zb,Zo,go_sem,seval])
theorem ZgU (x:Inst) (r:Rte) (hx:InstOk x) (hl:r.visits.length<=1048576) (hty:0<=r.typ/\r.typ<(x.types.length:Int)) (h0:ZW x r.visits=0) :
  PC 221 [.p (ZK x),.p (Xl r)] (.int .i64 (if Ve x (Z2 x r).cap r.visits=true then 0 else 17)):=by
 have hd:=Wa hx;have htl:=hd.typ
 have hti:r.typ.toNat<x.types.length:=by omega
 have hcp:(Z2 x r).cap.length<=1048576:=by
  have hcap:=hx.types.2 _ hti;unfold QR at hcap;obtain ⟨⟨⟨⟨⟨⟨⟨⟨_,_⟩,_⟩,_⟩,hcap⟩,_⟩,_⟩,_⟩,_⟩:=hcap;simp only [WC,Bool.and_eq_true,decide_eq_true_eq,rng] at hcap;unfold Z2;omega
 have hll:(WO x r.visits).length=r.visits.length+1:=by simp [WO]
 have hvl:=(Yt h0).len hd.ord
 have XW:(WO x r.visits).any (fun a=> !YA a (Z2 x r).cap)= !Ve x (Z2 x r).cap r.visits:=by
  rw [Ve,WO,List.any_map,List.not_all_eq_any_not];rfl
 have e1: ¬r.typ<0:=by omega
 have e2: ¬(x.types.length:Int)<=r.typ:=by omega
 refine Za Tryz.func221 rfl Zn7 ?_;simp (disch:=omega) only [Tryz.f221,e1,e2,go_sem,seval];refine Xi (Zhe x r hx hl h0) ?_;simp (disch:=omega) only [go_sem,seval];refine (JF (WO x r.visits) false 268 [.ptr 0 0,.ptr 1 0] [Zb x,Zo r] (fun a=> !YA a (Z2 x r).cap) (by omega) (by simp (disch:=omega) only [Zb,Zo,go_sem,seval]) (by rfl) (fun a ha=>ZjF x r a htl hty ?_ hcp)).useH ?_
 ·obtain ⟨j,_,rfl⟩:=List.mem_map.1 ha;rw [Vb];have:=hd.dim;omega
 ·simp (disch:=omega) only [Zb,Zo,go_sem,seval];rw [XW];refine cD ?_ ?_<;>intro h1<;>simp (disch:=omega) only [Sh.out h1,go_sem,seval]
  ·rw [if_neg (by simpa using h1)]
  ·rw [if_pos (by simpa using h1)]
theorem ZoD {p q:Pt} {t:Int} (h1:p.t<=t) (h2:t<q.t) (hp:p.t<=p.a) (hq:q.t<=q.a):t<=ZfL p q t:=by
 unfold ZfL
 have hw:0<q.t-p.t:=by omega
 have key:(t-p.a)*(q.t-p.t)<=(t-p.t)*(q.a-p.a)+q.t-p.t-1:=by
  have e:(t-p.t)*(q.a-p.a)-(t-p.a)*(q.t-p.t)=(t-p.t)*(q.a-q.t)+(p.a-p.t)*(q.t-t):=by
   simp only [Int.sub_mul,Int.mul_sub];rw [Int.mul_comm p.a t,Int.mul_comm p.a p.t,Int.mul_comm p.a q.t,Int.mul_comm p.t t];omega
  have h3:0<=(t-p.t)*(q.a-q.t):=Int.mul_nonneg (by omega) (by omega);have h4:0<=(p.a-p.t)*(q.t-t):=Int.mul_nonneg (by omega) (by omega);omega
 have:=Int.le_ediv_of_mul_le hw key;omega
theorem ZjA {l:List Pt} {t:Int} (hl:Yy l):t<=Q1 l t:=by
 obtain ⟨⟨hl1,hl2⟩,hpt⟩:=hl;unfold Q1
 split
 ·rename_i i hi;have hm:=List.mem_of_find?_eq_some hi;have hs:=List.find?_some hi;simp at hm;simp only [UX,Bool.and_eq_true,decide_eq_true_eq] at hs;obtain ⟨⟨p1,p2,p3,p4⟩,_⟩:=hpt i (by omega);obtain ⟨⟨q1,q2,q3,q4⟩,q5⟩:=hpt (i+1) (by omega);exact ZoD hs.1 hs.2 p3 q3
 ·obtain ⟨⟨p1,p2,p3,p4⟩,_⟩:=hpt 0 (by omega);obtain ⟨⟨q1,q2,q3,q4⟩,_⟩:=hpt (l.length-1) (by omega)
  split<;>omega
theorem Zid {n:Net} {pr f t τ:Int} (hn:netR n) (h:(goN n pr f t τ).2.2=0):τ<=(goN n pr f t τ).1:=by
 unfold goN at h ⊢
 split at h
 ·simp at h
 ·rename_i c1;rw [if_neg c1]
  split at h
  ·rename_i c2;rw [if_pos c2];simp
  ·rename_i c2;rw [if_neg c2]
   split at h
   ·rename_i c3;rw [if_pos c3];have hA:=WY c3;have h1:=ZjA (t:=τ) (hn.2.2 _ hA).1;have h2:=Y3 (t:=τ) (fun p hp=>((hn.2.2 _ hA).2.2 p hp).2.2) _ (Nat.le_refl _);simp only [Zgz];omega
   ·simp at h
theorem Zd2 {x t sp} {st:Int} {r:List Bool} (hr:r.length<=sp.length+1) (h:(WE x t sp st r).2=0): ∃bs:List Bool,bs.length=sp.length+1/\(Xz x t sp 0 (Xv t st) bs).2=0/\(WE x t sp st r).1=(Xz x t sp 0 (Xv t st) bs).1.she:=by
 unfold WE at h ⊢
 cases hf:fmL Y4 none ((XL r (sp.length+1)).filterMap (WN (XJ x t sp) 0 (Xv t st))) with
 | none =>
  rw [hf] at h;simp only at h ⊢;exfalso
  have hm:YU r (sp.length+1)∈XL r (sp.length+1):=by
   unfold XL YU;rw [fromB_next];simp
  have h2:WN (XJ x t sp) 0 (Xv t st) (YU r (sp.length+1))=some (Xz x t sp 0 (Xv t st) (YU r (sp.length+1))).1:=by rw [Yn,if_pos h]
  have h3:(Xz x t sp 0 (Xv t st) (YU r (sp.length+1))).1∈(XL r (sp.length+1)).filterMap (WN (XJ x t sp) 0 (Xv t st)):=List.mem_filterMap.2 ⟨_,hm,h2⟩;generalize (XL r (sp.length+1)).filterMap (WN (XJ x t sp) 0 (Xv t st))=l at hf h3
  cases l with
  | nil=>simp at h3
  | cons a l =>
   rw [fmL] at hf;obtain ⟨z,e,_⟩:=Wh Y4 l a;rw [e] at hf
   cases hf
 | some L =>
  simp only;have hm:=bestF_len.fmL_mem _ _ hf;obtain ⟨bs,hbs,hrun⟩:=List.mem_filterMap.1 hm;rw [Yn] at hrun
  split at hrun
  ·rename_i h5;simp at hrun;subst hrun;obtain ⟨q,hq,rfl⟩:=List.mem_map.1 hbs;have hql:=bestF_len.fromB_len _ _ hq;simp at hql;exact ⟨r++q,by simp [hql];omega,h5,rfl⟩
  ·cases hrun
set_option maxRecDepth 60000
def Ub {α:Type} [DecidableEq α] (l f:List α):Bool:=decide (f.length<=l.length)&&decide (l.take f.length=f)
def Yz (r b:Rte):Bool:=decide (r.typ=b.typ)&&(decide (r.start=b.start)&&(Ub r.visits b.visits&&(Ub r.rests b.rests&&(decide (b.rests.length<=b.visits.length)||(decide (r.visits.length=b.visits.length)&&decide (r.rests.length=b.rests.length))))))
def Vi (r b:Rte):Bool:=r.visits.any fun v=>b.visits.any fun w=>decide (v.order=w.order)
def kpB (rs:List Rte) (b:Rte):Bool:=decide (rs.countP (fun r=>Yz r b)=1)&&rs.all fun r=>Yz r b|| !Vi r b
def Wt (rs l:List Rte):Int:=if l.all (kpB rs)=true then 0 else 31
theorem Jl {α:Type} [DecidableEq α] [Inhabited α] {l f:List α} :Ub l f=true↔f.length<=l.length/\ ∀j,j<f.length->nth l j=nth f j:=by
 rw [Ub,Bool.and_eq_true,decide_eq_true_eq,decide_eq_true_eq];refine and_congr_right fun h=> ?_
 constructor
 ·intro e j hj;rw [<- e,Zf (by omega),Zf (by simp;omega),List.getElem_take]
 ·intro e;refine UI (by simp;omega) fun j hj=> ?_;simp at hj;rw [<- e j (by omega),Zf (by simp;omega),Zf (by omega),List.getElem_take]
theorem ZdL {α:Type} [DecidableEq α] [Inhabited α] {l f:List α} {j:Nat} (hj:j<f.length) (h:nth l j≠nth f j):Ub l f=false:=by
 cases hp:Ub l f with
 | false=>rfl
 | true=>exact absurd ((Jl.1 hp).2 j hj) h
theorem ZbO {f:Rte->Bool} {l:List Rte} {k:Nat} (hk:k<l.length):(l.take (k+1)).countP f=(l.take k).countP f+(if f (nth l k)=true then 1 else 0):=by
 rw [List.take_succ_eq_append_getElem hk,List.countP_append,Zf hk];simp [List.countP_cons]
theorem W1 {rs l:List Rte} {k:Nat} (hk:k<l.length) (h:kpB rs (nth l k)=false):Wt rs l=31:=by
 rw [Wt,if_neg];rw [List.all_eq_true];intro h2;have:=h2 _ (Zl hk);rw [h] at this;cases this
theorem ZaG {rs l:List Rte} (h: ∀j,j<l.length->kpB rs (nth l j)=true):Wt rs l=0:=by
 rw [Wt,if_pos];rw [List.all_eq_true];intro b hb;obtain ⟨j,hj,rfl⟩:=List.mem_iff_getElem.1 hb;have:=h j hj;rwa [Zf hj] at this
theorem Zuo {rs:List Rte} {b:Rte} {j:Nat} (hj:j<rs.length) (h1:Yz (nth rs j) b=false) (h2:Vi (nth rs j) b=true):kpB rs b=false:=by
 rw [kpB,Bool.and_eq_false_iff]
 right
 rw [List.all_eq_false];exact ⟨_,Zl hj,by rw [h1,h2];simp⟩
theorem Zuh {rs:List Rte} {b:Rte} (h: ∀j,j<rs.length->Yz (nth rs j) b=true\/Vi (nth rs j) b=false):kpB rs b=decide (rs.countP (fun r=>Yz r b)=1):=by
 rw [kpB,(List.all_eq_true (l:=rs)).2,Bool.and_true];intro r hr;obtain ⟨j,hj,rfl⟩:=List.mem_iff_getElem.1 hr;have:=h j hj;rw [Zf hj] at this;rcases this with h | h<;>simp [h]
theorem Zdm (l f:List Vis) (c d:Bool) (ha:l.length<=1048576) (hb:f.length<=1048576):PC 166 [.p (.list c (l.map XK)),.p (.list d (f.map XK))] (.bool (Ub l f)):=by
 refine Za Tryz.func166 rfl Zoo ?_;simp (disch:=omega) only [Tryz.f166,go_sem,seval];refine gT ?_ ?_<;>intro h1<;>simp (disch:=omega) only [Sh.out h1,go_sem,seval]
 ·have e:Ub l f=decide (l.take f.length=f):=by rw [Ub,decide_eq_true (show f.length<=l.length by omega),Bool.true_and]
  rw [e];refine (Zht (l.take f.length) f _ d (by simp;omega) hb).use ?_;simp (disch:=omega) only [go_sem,seval]
 ·have e:Ub l f=false:=by rw [Ub,decide_eq_false (show ¬f.length<=l.length by omega),Bool.false_and]
  rw [e]
theorem ZeC (l f:List Bool) (c d:Bool) (ha:l.length<=1048576) (hb:f.length<=1048576):PC 167 [.p (.list c (l.map eB)),.p (.list d (f.map eB))] (.bool (Ub l f)):=by
 refine Za Tryz.func167 rfl ZoM ?_;simp (disch:=omega) only [Tryz.f167,go_sem,seval];refine gT ?_ ?_<;>intro h1<;>simp (disch:=omega) only [Sh.out h1,go_sem,seval]
 ·have e:Ub l f=decide (l.take f.length=f):=by rw [Ub,decide_eq_true (show f.length<=l.length by omega),Bool.true_and]
  rw [e];refine (Zha (l.take f.length) f _ d (by simp;omega) hb).use ?_;simp (disch:=omega) only [go_sem,seval]
 ·have e:Ub l f=false:=by rw [Ub,decide_eq_false (show ¬f.length<=l.length by omega),Bool.false_and]
  rw [e]
theorem Zdx {r b:Rte} (h: ¬r.typ=b.typ):Yz r b=false:=by rw [Yz,decide_eq_false h,Bool.false_and]
theorem Kf {r b:Rte} (h: ¬r.start=b.start):Yz r b=false:=by rw [Yz,decide_eq_false h,Bool.false_and,Bool.and_false]
theorem KR {r b:Rte} (h:Ub r.visits b.visits=false):Yz r b=false:=by rw [Yz,h,Bool.false_and,Bool.and_false,Bool.and_false]
theorem Zah {r b:Rte} (h:Ub r.rests b.rests=false):Yz r b=false:=by rw [Yz,h,Bool.false_and,Bool.and_false,Bool.and_false,Bool.and_false]
theorem ZdE {r b:Rte} (h1:r.typ=b.typ) (h2:r.start=b.start) (h3:Ub r.visits b.visits=true) (h4:Ub r.rests b.rests=true):Yz r b=decide (b.rests.length<=b.visits.length\/r.visits.length=b.visits.length/\r.rests.length=b.rests.length):=by
 rw [Yz,decide_eq_true h1,decide_eq_true h2,h3,h4,Bool.eq_iff_iff];simp
theorem Zgd (r b:Rte) (hr:VG r) (hb:VG b):PC 120 [.p (Xl r),.p (Xl b)] (.bool (Yz r b)):=by
 obtain ⟨a1,a2⟩:=hr;obtain ⟨b1,b2⟩:=hb;refine Za Tryz.func120 rfl Zoj ?_;simp (disch:=omega) only [Tryz.f120,go_sem,seval];refine gF ?_ ?_<;>intro h1<;>simp (disch:=omega) only [Sh.out h1,go_sem,seval]
 ·rw [Zdx h1]
 ·refine gF ?_ ?_<;>intro h2<;>simp (disch:=omega) only [Sh.out h2,go_sem,seval]
  ·rw [Kf h2]
  ·refine (Zdm r.visits b.visits r.visits_c b.visits_c a1 b1).use ?_;simp (disch:=omega) only [go_sem,seval]
   cases hv:Ub r.visits b.visits with
   | false =>
    simp (disch:=omega) only [Bool.not_false,go_sem,seval];rw [KR hv]
   | true =>
    simp (disch:=omega) only [Bool.not_true,go_sem,seval];refine (ZeC r.rests b.rests r.rests_c b.rests_c a2 b2).use ?_;simp (disch:=omega) only [go_sem,seval]
    cases hw:Ub r.rests b.rests with
    | false =>
     simp (disch:=omega) only [Bool.not_false,go_sem,seval];rw [Zah hw]
    | true =>
     simp (disch:=omega) only [Bool.not_true,go_sem,seval];have e:=ZdE (Classical.not_not.1 h1) (Classical.not_not.1 h2) hv hw;refine gF ?_ ?_<;>intro h3<;>simp (disch:=omega) only [Sh.out h3,go_sem,seval]
     ·rw [e,decide_eq_true (.inl (by omega))]
     ·refine gT ?_ ?_<;>intro h4<;>simp (disch:=omega) only [Sh.out h4,go_sem,seval]
      ·rw [e];refine congrArg (fun q=>V.p (PV.bool q)) ?_;rw [Bool.eq_iff_iff,decide_eq_true_eq,decide_eq_true_eq];omega
      ·rw [e,decide_eq_false (by omega)]
def Zfy (v:Vis):AM.Obj:= .cells [.p (.int .i64 v.order),.p (.bool v.drp)]
theorem ZjD (a b:Rte) (v w:Vis):ACalls Tryz.prog 170 [.p (XK w),.ptr 2 0] [Zo a,Zo b,Zfy v] fun x H'=>x= .p (.bool (decide (v.order=w.order)))/\H'= [Zo a,Zo b,Zfy v]:=by
 refine Zd [] Tryz.func170 rfl ZpK ?_;simp (disch:=omega) only [Tryz.f170,Zfy,Zo,go_sem,seval];exact we
theorem ZkL (a b:Rte) (v:Vis) (hb:b.visits.length<=1048576):ACalls Tryz.prog 169 [.p (XK v),.ptr 1 0] [Zo a,Zo b] fun x H'=>x= .p (.bool (b.visits.any fun w=>decide (v.order=w.order)))/\H'= [Zo a,Zo b]:=by
 refine Zd [] Tryz.func169 rfl ZqR ?_;simp (disch:=omega) only [Tryz.f169,Zo,go_sem,seval];refine (Xq b.visits b.visits_c 170 [.ptr 2 0] [Zo a,Zo b,Zfy v] (fun w=>decide (v.order=w.order)) hb (by simp (disch:=omega) only [Zo,Zfy,go_sem,seval]) (by rfl) (fun w _=>ZjD a b v w)).useH ?_;simp (disch:=omega) only [go_sem,seval];exact we (by simp (disch:=omega) only [Zo,go_sem,seval])
theorem Zm6 (a b:Rte) (ha:a.visits.length<=1048576) (hb:b.visits.length<=1048576):PC 121 [.p (Xl a),.p (Xl b)] (.bool (Vi a b)):=by
 refine Za Tryz.func121 rfl Zre ?_;simp (disch:=omega) only [Tryz.f121,go_sem,seval];refine (Xq a.visits a.visits_c 169 [.ptr 1 0] [Zo a,Zo b] (fun v=>b.visits.any fun w=>decide (v.order=w.order)) ha (by simp (disch:=omega) only [Zo,go_sem,seval]) (by rfl) (fun v _=>ZkL a b v hb)).useH ?_;simp (disch:=omega) only [go_sem,seval];rw [Vi]
theorem Zfw (p:Pln) (l:List Rte) (c:Bool) (hp:p.routes.length<=1048576) (hl:l.length<=1048576) (h1: ∀r∈p.routes,VG r) (h2: ∀r∈l,VG r) :
  PC 69 [.p (Zad p),.p (.list c (l.map Xl))] (.int .i64 (Wt p.routes l)):=by
 refine Za Tryz.func69 rfl ZuF ?_;simp (disch:=omega) only [Tryz.f69,go_sem,seval];refine Zg [2,10,11] (fun k:Nat=> [(12,.p (.int .i64 k))]) (fun _=> [Zv p]) (fun k=>k<=l.length/\ ∀j,j<k->kpB p.routes (nth l j)=true) (fun k=>l.length-k) 0 (by simp) (Weak.mk ?_) ?_
 ·simp (disch:=omega) only [Zv,go_sem,seval]
 ·rintro k ⟨hk,hno⟩;simp (disch:=omega) only [Zv,go_sem,seval];refine cD ?_ ?_<;>intro h<;>simp (disch:=omega) only [Sh.out h,go_sem,seval]
  ·have hk2:k<l.length:=by omega
   obtain ⟨b1,b2⟩:=h2 _ (Zl hk2);refine Zg [2,6,10,11,12,17,18] (fun q:Nat=> [(7,.p (.int .i64 ((p.routes.take q).countP (fun r=>Yz r (nth l k)):Nat))),(19,.p (.int .i64 q))]) (fun _=> [Zv p,Zo (nth l k)]) (fun q=>q<=p.routes.length/\ ∀j,j<q->Yz (nth p.routes j) (nth l k)=true\/Vi (nth p.routes j) (nth l k)=false) (fun q=>p.routes.length-q) 0 (by simp) (Weak.mk ?_) ?_
   ·simp (disch:=omega) only [Zv,Zo,List.take_zero,List.countP_nil,go_sem,seval]
   ·rintro q ⟨hq,hin⟩;have hcl:(p.routes.take q).countP (fun r=>Yz r (nth l k))<=q:=Nat.le_trans List.countP_le_length (by simp;omega);simp (disch:=omega) only [Zv,Zo,go_sem,seval];refine cD ?_ ?_<;>intro h3<;>simp (disch:=omega) only [Sh.out h3,go_sem,seval]
    ·have hq2:q<p.routes.length:=by omega
     obtain ⟨a1,a2⟩:=h1 _ (Zl hq2);have hcs:=ZbO (f:=fun r=>Yz r (nth l k)) hq2;refine (Zgd (nth p.routes q) (nth l k) ⟨a1,a2⟩ ⟨b1,b2⟩).use ?_;simp (disch:=omega) only [go_sem,seval]
     cases hb:Yz (nth p.routes q) (nth l k) with
     | true =>
      rw [if_pos hb] at hcs;simp (disch:=omega) only [go_sem,seval];exact ⟨q+1,⟨by omega,Ze.2 ⟨hin,.inl hb⟩⟩,by omega,Weak.mk (by simp (disch:=omega) only [Zv,Zo,hcs,go_sem,seval])⟩
     | false =>
      rw [if_neg (by rw [hb];simp),Nat.add_zero] at hcs;simp (disch:=omega) only [go_sem,seval];refine (Zm6 (nth p.routes q) (nth l k) a1 b1).use ?_;simp (disch:=omega) only [go_sem,seval]
      cases hm:Vi (nth p.routes q) (nth l k) with
      | true =>
       simp (disch:=omega) only [go_sem,seval];rw [W1 hk2 (Zuo hq2 hb hm)]
      | false =>
       simp (disch:=omega) only [go_sem,seval];exact ⟨q+1,⟨by omega,Ze.2 ⟨hin,.inr hm⟩⟩,by omega,Weak.mk (by simp (disch:=omega) only [Zv,Zo,hcs,go_sem,seval])⟩
    ·have hql:q=p.routes.length:=by omega
     subst hql;have he:=Zuh hin;simp (disch:=omega) only [List.take_length,go_sem,seval];refine cD ?_ ?_<;>intro h4<;>simp (disch:=omega) only [Sh.out h4,go_sem,seval]
     ·rw [W1 hk2 (by rw [he];exact decide_eq_false (by omega))]
     ·exact ⟨k+1,⟨by omega,Ze.2 ⟨hno,by rw [he];exact decide_eq_true (by omega)⟩⟩,by omega,Weak.mk (by simp (disch:=omega) only [Zv,go_sem,seval])⟩
  ·have hkl:k=l.length:=by omega
   subst hkl;rw [ZaG hno]
theorem ZdG (r b:Rte) (hr:VG r) (hb:VG b):PC 72 [.p (Xl r),.p (Xl b)] (.bool (Yz r b)):=by
 have ck:=Zfw ⟨false,[r],true,[]⟩ [b] false (by simp) (by simp) (by simpa using hr) (by simpa using hb)
 have he:decide (Wt [r] [b]=0)=Yz r b:=by
  have:kpB [r] b=Yz r b:=by
   cases h:Yz r b<;>simp [kpB,h]
  rw [Wt,List.all_cons,List.all_nil,Bool.and_true,this]
  cases Yz r b<;>rfl
 refine Zd [1] Tryz.func72 rfl ZvJ ?_;simp (disch:=omega) only [Tryz.f72,go_sem,seval];refine Wz (ZhG 2 3 ?_);simp (disch:=omega) only [go_sem,seval];refine ⟨_,_,Weak.fz (o:=2) (by rfl),?_⟩;simp (disch:=omega) only [List.map_cons,List.map_nil,List.set_cons_succ,List.set_cons_zero,List.cons_append,List.nil_append,go_sem,seval];refine ⟨_,_,Weak.fz (o:=3) (by rfl),?_⟩;simp (disch:=omega) only [List.map_cons,List.map_nil,List.set_cons_succ,List.set_cons_zero,List.cons_append,List.nil_append,go_sem,seval];refine (ck).use ?_;simp (disch:=omega) only [go_sem,seval]
 refine Zc [] _ _ _ _ ?_;simp (disch:=omega) only [go_sem,seval];exact we (by simp (disch:=omega) only [he,go_sem,seval])
theorem Qf (r b:Rte) (hr:VG r) (hb:VG b):PC 74 [.p (Xl r),.p (Xl b)] (.bool (Yz r b)):=by
 obtain ⟨a1,a2⟩:=hr;obtain ⟨b1,b2⟩:=hb;refine Za Tryz.func74 rfl Zwu ?_;simp (disch:=omega) only [Tryz.f74,go_sem,seval];refine gF ?_ ?_<;>intro h1<;>simp (disch:=omega) only [Sh.out h1,go_sem,seval]
 ·rw [Zdx h1]
 ·refine gF ?_ ?_<;>intro h2<;>simp (disch:=omega) only [Sh.out h2,go_sem,seval]
  ·rw [Kf h2]
  ·refine gF ?_ ?_<;>intro h3<;>simp (disch:=omega) only [Sh.out h3,go_sem,seval]
   ·rw [KR (by rw [Ub,decide_eq_false (show ¬b.visits.length<=r.visits.length by omega),Bool.false_and])]
   ·refine cD ?_ ?_<;>intro h4<;>simp (disch:=omega) only [Sh.out h4,go_sem,seval]
    ·rw [Zah (by rw [Ub,decide_eq_false (show ¬b.rests.length<=r.rests.length by omega),Bool.false_and])]
    ·refine Zg [2,3] (fun k:Nat=> [(5,.p (.int .i64 k))]) (fun _=> [Zo r,Zo b]) (fun k=>k<=b.visits.length/\ ∀j,j<k->nth r.visits j=nth b.visits j) (fun k=>b.visits.length-k) 0 (by simp) (Weak.mk ?_) ?_
     ·simp (disch:=omega) only [Zo,go_sem,seval]
     ·rintro k ⟨hk,hno⟩;simp (disch:=omega) only [Zo,go_sem,seval];refine cD ?_ ?_<;>intro h5<;>simp (disch:=omega) only [Sh.out h5,go_sem,seval]
      ·have hk2:k<b.visits.length:=by omega
       refine Zh Zp (by kernel_rfl) (by kernel_rfl) ?_;simp (disch:=omega) only [go_sem,seval];refine cD ?_ ?_<;>intro h6<;>simp (disch:=omega) only [Sh.out h6,go_sem,seval]
       ·rw [KR (ZdL hk2 (fun e=>by rw [e] at h6;simp at h6))]
       ·exact ⟨k+1,⟨by omega,Ze.2 ⟨hno,JR.2 (by simpa using h6)⟩⟩,by omega,Weak.mk (by simp (disch:=omega) only [Zo,go_sem,seval])⟩
      ·have hkl:k=b.visits.length:=by omega
       subst hkl;have hv:=Jl.2 ⟨show b.visits.length<=r.visits.length by omega,hno⟩;refine Zg [2,3] (fun k:Nat=> [(6,.p (.int .i64 k))]) (fun _=> [Zo r,Zo b]) (fun k=>k<=b.rests.length/\ ∀j,j<k->nth r.rests j=nth b.rests j) (fun k=>b.rests.length-k) 0 (by simp) (Weak.mk ?_) ?_
       ·simp (disch:=omega) only [Zo,go_sem,seval]
       ·rintro k ⟨hk,hno⟩;simp (disch:=omega) only [Zo,go_sem,seval];refine cD ?_ ?_<;>intro h7<;>simp (disch:=omega) only [Sh.out h7,go_sem,seval]
        ·have hk2:k<b.rests.length:=by omega
         refine Zh Zp (by kernel_rfl) (by kernel_rfl) ?_;simp (disch:=omega) only [go_sem,seval];refine cD ?_ ?_<;>intro h8<;>simp (disch:=omega) only [Sh.out h8,go_sem,seval]
         ·rw [Zah (ZdL hk2 (fun e=>by rw [e] at h8;simp at h8))]
         ·exact ⟨k+1,⟨by omega,Ze.2 ⟨hno,by simpa using h8⟩⟩,by omega,Weak.mk (by simp (disch:=omega) only [Zo,go_sem,seval])⟩
        ·have hkl:k=b.rests.length:=by omega
         subst hkl;have hw:=Jl.2 ⟨show b.rests.length<=r.rests.length by omega,hno⟩;have e:=ZdE (Classical.not_not.1 h1) (Classical.not_not.1 h2) hv hw;refine gF ?_ ?_<;>intro h9<;>simp (disch:=omega) only [Sh.out h9,go_sem,seval]
         ·rw [e,decide_eq_true (.inl (by omega))]
         ·refine gT ?_ ?_<;>intro h10<;>simp (disch:=omega) only [Sh.out h10,go_sem,seval]
          ·rw [e];refine congrArg (fun q=>V.p (PV.bool q)) ?_;rw [Bool.eq_iff_iff,decide_eq_true_eq,decide_eq_true_eq];omega
          ·rw [e,decide_eq_false (by omega)]
theorem Zcj (r b:Rte) (hr:VG r) (hb:VG b):PC 31 [.p (Xl r),.p (Xl b)] (.bool (Yz r b)):=by
 refine Za Tryz.func31 rfl ZvW ?_;simp (disch:=omega) only [Tryz.f31,go_sem,seval];refine (Qf r b hr hb).use ?_;simp (disch:=omega) only [go_sem,seval]
def Zix (x:Inst) (t:Typ) (r:Rte) (c:Bool) (sp:List Stp):PV:= .agg [.list x.net.places_c (x.net.places.map eS),.list x.net.arcs_c (x.net.arcs.map VM),.list x.types_c (x.types.map VK),.list x.orders_c (x.orders.map WK),.list x.apart_c (x.apart.map eP),.list x.before_c (x.before.map eP),.str t.name,.int .i64 t.count,.int .i64 t.src,.int .i64 t.dst,.list t.cap_c (t.cap.map eI),.int .i64 t.skills,.int .i64 t.prof,.int .i64 t.opn,.int .i64 t.cls,.int .i64 t.drive,.int .i64 t.rest,.int .i64 t.fixed,.int .i64 t.perMile,.int .i64 t.perTick,.int .i64 r.typ,.int .i64 r.start,.list r.rests_c (r.rests.map eB),.list r.visits_c (r.visits.map XK),.list c (sp.map ZfS)]
@[go_sem] theorem Zu7 (x:Inst) (t:Typ) (r:Rte) (c:Bool) (sp:List Stp):Zix x t r c sp= .agg [.list x.net.places_c (x.net.places.map eS),.list x.net.arcs_c (x.net.arcs.map VM),.list x.types_c (x.types.map VK),.list x.orders_c (x.orders.map WK),.list x.apart_c (x.apart.map eP),.list x.before_c (x.before.map eP),.str t.name,.int .i64 t.count,.int .i64 t.src,.int .i64 t.dst,.list t.cap_c (t.cap.map eI),.int .i64 t.skills,.int .i64 t.prof,.int .i64 t.opn,.int .i64 t.cls,.int .i64 t.drive,.int .i64 t.rest,.int .i64 t.fixed,.int .i64 t.perMile,.int .i64 t.perTick,.int .i64 r.typ,.int .i64 r.start,.list r.rests_c (r.rests.map eB),.list r.visits_c (r.visits.map XK),.list c (sp.map ZfS)]:=Eq.trans rfl rfl
def ZtB (x:Inst) (t:Typ) (r:Rte):List V:= [.p (.list x.net.places_c (x.net.places.map eS)),.p (.list x.net.arcs_c (x.net.arcs.map VM)),.p (.list x.types_c (x.types.map VK)),.p (.list x.orders_c (x.orders.map WK)),.p (.list x.apart_c (x.apart.map eP)),.p (.list x.before_c (x.before.map eP)),.p (.str t.name),.p (.int .i64 t.count),.p (.int .i64 t.src),.p (.int .i64 t.dst),.p (.list t.cap_c (t.cap.map eI)),.p (.int .i64 t.skills),.p (.int .i64 t.prof),.p (.int .i64 t.opn),.p (.int .i64 t.cls),.p (.int .i64 t.drive),.p (.int .i64 t.rest),.p (.int .i64 t.fixed),.p (.int .i64 t.perMile),.p (.int .i64 t.perTick),.p (.int .i64 r.typ),.p (.int .i64 r.start),.p (.list r.rests_c (r.rests.map eB)),.p (.list r.visits_c (r.visits.map XK))]
def XX (x:Inst) (t:Typ) (r:Rte) (c:Bool) (sp:List Stp):AM.Obj:= .cells [.p (.list x.net.places_c (x.net.places.map eS)),.p (.list x.net.arcs_c (x.net.arcs.map VM)),.p (.list x.types_c (x.types.map VK)),.p (.list x.orders_c (x.orders.map WK)),.p (.list x.apart_c (x.apart.map eP)),.p (.list x.before_c (x.before.map eP)),.p (.str t.name),.p (.int .i64 t.count),.p (.int .i64 t.src),.p (.int .i64 t.dst),.p (.list t.cap_c (t.cap.map eI)),.p (.int .i64 t.skills),.p (.int .i64 t.prof),.p (.int .i64 t.opn),.p (.int .i64 t.cls),.p (.int .i64 t.drive),.p (.int .i64 t.rest),.p (.int .i64 t.fixed),.p (.int .i64 t.perMile),.p (.int .i64 t.perTick),.p (.int .i64 r.typ),.p (.int .i64 r.start),.p (.list r.rests_c (r.rests.map eB)),.p (.list r.visits_c (r.visits.map XK)),.p (.list c (sp.map ZfS))]
def Zt6 : AM.Obj:= .cells [.p (.list true []),.p (.list true []),.p (.list true []),.p (.list true []),.p (.list true []),.p (.list true []),.p (.str []),.p (.int .i64 0),.p (.int .i64 0),.p (.int .i64 0),.p (.list true []),.p (.int .i64 0),.p (.int .i64 0),.p (.int .i64 0),.p (.int .i64 0),.p (.int .i64 0),.p (.int .i64 0),.p (.int .i64 0),.p (.int .i64 0),.p (.int .i64 0),.p (.int .i64 0),.p (.int .i64 0),.p (.list true []),.p (.list true []),.p (.list true [])]
def Q0 (L:Lab):PV:= .agg [.int .i64 L.ready,.int .i64 L.since,.bool L.she.rest,.int .i64 L.she.dep,.list L.she.times_c (L.she.times.map eTim),.int .i64 L.she.fin,.int .i64 L.she.miles]
@[go_sem] theorem Zvq (L:Lab):Q0 L= .agg [.int .i64 L.ready,.int .i64 L.since,.bool L.she.rest,.int .i64 L.she.dep,.list L.she.times_c (L.she.times.map eTim),.int .i64 L.she.fin,.int .i64 L.she.miles]:=Eq.trans rfl rfl
@[go_sem] theorem Zmo (l:List Lab):Zed 7 (l.map Q0)=true:=QX (f:=Q0) (S:=7) (fun _=>rfl) l
def Yv (L:Lab):AM.Obj:= .cells [.p (.int .i64 L.ready),.p (.int .i64 L.since),.p (.bool L.she.rest),.p (.int .i64 L.she.dep),.p (.list L.she.times_c (L.she.times.map eTim)),.p (.int .i64 L.she.fin),.p (.int .i64 L.she.miles)]
theorem Zgi (l:List Tim) (c:Bool) (hl:l.length<=1048576):ACalls Tryz.prog 313 [.p (.list c (l.map eTim))] [] fun x H'=>x= .sl 0 0 l.length l.length/\H'= [.elems 4 (l.map eTim)]:=by
 suffices hh:ACalls Tryz.prog 313 [.p (.list c (l.map eTim))] [] fun x H'=> ∃m:List Tim,m=l/\x= .sl 0 0 m.length m.length/\H'= [.elems 4 (m.map eTim)] by
  refine hh.mono fun x H' h=> ?_;obtain ⟨m,rfl,h1,h2⟩:=h;exact ⟨h1,h2⟩
 refine Zd [1] Tryz.func313 rfl Zny ?_;simp (disch:=omega) only [Tryz.f313,go_sem,seval];refine Wz (Wz (ZjT 1 rfl rfl ?_));refine ⟨_,Ze9 (e:=178) rfl Tryz.underlying93 rfl (fun _=>rfl),?_⟩;rintro _ ⟨b,rfl,hb⟩;simp (disch:=omega) only [go_sem,seval];refine Zc [] _ _ _ _ ?_
 cases b with
 | true =>
  have hn:l= []:=by simpa using hb rfl
  subst hn;simp (disch:=omega) only [go_sem,seval];exact ⟨_,_,Weak.ofNil 0 4 rfl (by simp) (wk),[],rfl,rfl,rfl⟩
 | false =>
  simp (disch:=omega) only [go_sem,seval];refine Zc [] _ _ _ _ ?_;simp (disch:=omega) only [go_sem,seval];exact ⟨.sl 0 0 l.length l.length,[.elems 4 (l.map eTim)],wk,l,rfl,rfl,rfl⟩
theorem KK (x:Inst) (t:Typ) (r:Rte) (c:Bool) (sp:List Stp):PC 271 [.p (Zix x t r c sp)] (Q0 (Xv t r.start)):=by
 refine Zd [] Tryz.func271 rfl Zno ?_;simp (disch:=omega) only [Tryz.f271,go_sem,seval];exact we (by simp (disch:=omega) only [Xv,zShe,List.map_nil,go_sem,seval])
theorem Zgk (x:Inst) (t:Typ) (r:Rte) (c:Bool) (sp:List Stp) (k:Nat) (hk:k<=sp.length) (hl:sp.length<=1048576):PC 314 [.p (Zix x t r c sp),.p (.int .i64 (k:Nat))] (.int .i64 (Jr t sp k)):=by
 refine Za Tryz.func314 rfl ZpL ?_;simp (disch:=omega) only [Tryz.f314,go_sem,seval];refine cD ?_ ?_<;>intro h<;>simp (disch:=omega) only [Sh.out h,go_sem,seval]
 ·have:k=0:=by omega
  rw [Jr,if_pos this]
 ·have e1:((k:Int)-1).toNat=k-1:=by omega
  have h2: ¬k=0:=by omega
  rw [Jr,if_neg h2]
  done
theorem Zon (x:Inst) (r:Rte) (hx:InstOk x) (hty:0<=r.typ/\r.typ<(x.types.length:Int)) (h0:ZW x r.visits=0) (hs:0<=r.start/\r.start<=4096) :
  PT 270 [.p (ZK x),.p (Xl r)] [.p (Zix x (Z2 x r) r false (ZQ x r.visits)),.p (.bool true)]:=by
 have hd:=Wa hx;have hsq:=Yt h0;have hol:=hd.ord;have htl:=hd.typ;have hvl:=hsq.len hol
 have e1: ¬r.typ<0:=by omega
 have e2: ¬(x.types.length:Int)<=r.typ:=by omega
 have e3: ¬r.start<0:=by omega
 have e4: ¬ 4096<r.start:=by omega
 have e5: ¬ 20<(r.visits.length:Int):=by omega
 refine Zd [12] Tryz.func270 rfl ZhZ ?_;simp (disch:=omega) only [Tryz.f270,e1,e2,e3,e4,e5,go_sem,seval];refine Xd [9] 10 Zp (by kernel_rfl) (by kernel_rfl) (by kernel_rfl) (by simp) ?_;simp (disch:=omega) only [go_sem,seval];refine ZG 9 _ _ (by kernel_rfl) (by simp (disch:=omega) only [go_sem,seval];exact ⟨rfl,rfl⟩) (XZ ?_);simp (disch:=omega) only [go_sem,seval]
 refine ZM [12] [2,4,6,49,50] (fun q:Nat×List Stp=> [(51,.p (.int .i64 q.1))])
  (fun q=> [Zb x,Zo r,Zt6,.cells (ZtB x (Z2 x r) r++ [.sl 4 0 q.2.length q.2.length]),.elems 4 (q.2.map ZfS)])
  (fun q=>q.1<=r.visits.length/\q.2=(ZQ x r.visits).take q.1) (fun q=>r.visits.length-q.1) (0,[]) (by simp) ((Weak.nilC (o:=3) (j:=24) 4 rfl rfl (by simp)).trans (Weak.mk ?_)) ?_
 ·simp (disch:=omega) only [Zb,Zo,Zt6,ZtB,Z2,List.map_nil,List.length_nil,List.set_cons_succ,List.set_cons_zero,List.cons_append,List.nil_append,go_sem,seval]
 ·rintro ⟨k,o⟩ ⟨hk,ho⟩;simp only at hk ho
  have hol2:o.length=k:=by rw [ho];simp [Xe];omega
  simp (disch:=omega) only [Zb,Zo,Zt6,ZtB,go_sem,seval];refine cD ?_ ?_<;>intro h1<;>simp (disch:=omega) only [Sh.out h1,go_sem,seval]
  ·have hk2:k<r.visits.length:=by omega
   have hvis:=hsq.vis (Zl hk2);simp only [Jv,Bool.and_eq_true,decide_eq_true_eq] at hvis
   have hsn:o++ [stopV x (nth r.visits k)]=(ZQ x r.visits).take (k+1):=by
    rw [ho,List.take_succ_eq_append_getElem (by rw [Xe];exact hk2),<- Zf,U3 hk2]
   have hnp: ¬(stopV x (nth r.visits k)).place<0:=by omega
   refine Xi (Zjs x (nth r.visits k) (by omega) hvis.1 hvis.2) ?_;simp (disch:=omega) only [hnp,go_sem,seval];exact ⟨(k+1,o++ [stopV x (nth r.visits k)]),⟨by simp only;omega,hsn⟩,by simp only;omega,Weak.mk (by simp (disch:=omega) only [Zb,Zo,Zt6,ZtB,List.length_append,List.length_cons,List.length_nil,List.map_append,List.map_cons,List.map_nil,List.cons_append,List.nil_append,go_sem,seval])⟩
  ·have hkl:k=r.visits.length:=by omega
   subst hkl
   have hso:o=ZQ x r.visits:=by rw [ho,<- Xe (x:=x) (l:=r.visits),List.take_length]
   subst hso;refine Zs (Weak.fz (o:=4) (by rfl)) ?_;refine Zc [] _ _ _ _ ?_;simp (disch:=omega) only [List.map_cons,List.map_nil,List.set_cons_succ,List.set_cons_zero,go_sem,seval];exact we
def ZiK (rd sn:Int) (m:She):AM.Obj:= .cells [.p (.int .i64 rd),.p (.int .i64 sn),.p (.bool m.rest),.p (.int .i64 m.dep),.sl 4 0 m.times.length m.times.length,.p (.int .i64 m.fin),.p (.int .i64 m.miles)]
theorem ZcN {P:Program} {H:List AM.Obj} {f ars} {a b d:PV} {B:V->Prop} {t} (h:ACalls P f ars [] fun x H'=>x= .tup [.p a,.p b,.p d]/\H'= []) (k:B (.tup [.p a,.p b,.p d])) (ha:ZJ 0 ars=true:=by rfl) :
  exq (fun y=>ACalls P f ars H (ZB (ZB (fun x H'=>x=y/\H'=H) ⟨⟩) ⟨⟩)) (ZB B t) :=
 ⟨.tup [.p a,.p b,.p d],(h.behind ha H).mono fun x H' hq=>by
  obtain ⟨y,H1,⟨rfl,rfl⟩,rfl,rfl⟩:=hq
  simp [shV,shVs,ZB],k⟩
theorem Zof (x:Inst) (t:Typ) (r:Rte) (c:Bool) (sp:List Stp) (hok:TrpOk x t sp) (k:Nat) (hk:k<=sp.length) (hs1:0<sp.length) (L:Lab) (hL:LabR k L) (hlen:L.she.times.length=k) (hclip:0<k->L.she.times_c=false) (b:Bool) :
  PT 296 [.p (Zix x t r c sp),.p (Q0 L),.p (.int .i64 (k:Nat)),.p (.bool b)] [.p (Q0 (Yg x t sp k L b).1),.p (.int .i64 (Yg x t sp k L b).2)]:=by
 have hd:=Vh hok hL b;have hsn:=Jg hL b;have hg:=Zaa hok hL b;have hmi:=hL.mil;have hrd:=hL.rdy;have hsnL:=hL.snc;have hsl:=hok.len;have hrst:=hok.rst;unfold Yg;have hmm:= @WF k (ZI t L b) b L.she;have hmf:= @J0 k (ZI t L b) b L.she;have hml:= @WU k (ZI t L b) b L.she;refine Zd [2,7,14,31] Tryz.func296 rfl Zl5 ?_;simp (disch:=omega) only [Tryz.f296,go_sem,seval];refine Zh Zp (by kernel_rfl) (by kernel_rfl) ?_;simp (disch:=omega) only [go_sem,seval];refine Zm [2,3,4,5,8] (fun _:Unit=> [(10,.p (.int .i64 (ZI t L b))),(11,.p (.int .i64 (Ws L b)))]) (fun _=> [XX x t r c sp,Yv L,Yv Wc]) (fun _=>True) ?_ ?_
 ·simp (disch:=omega) only [go_sem,seval];refine cD ?_ ?_<;>intro h<;>simp (disch:=omega) only [Sh.out h,go_sem,seval]
  ·subst h;exact ⟨(),Weak.mk (by simp (disch:=omega) only [XX,Yv,Wc,zShe,ZI,Ws,List.map_nil,go_sem,seval])⟩
  ·subst h;exact ⟨(),Weak.mk (by simp (disch:=omega) only [XX,Yv,Wc,zShe,ZI,Ws,List.map_nil,go_sem,seval])⟩
 ·intro _ _;refine Zc [7,14,31] _ _ _ _ ?_;simp (disch:=omega) only [XX,Yv,Wc,zShe,List.map_nil,go_sem,seval];refine (Zgi L.she.times L.she.times_c (by omega)).useF ?_;simp (disch:=omega) only [go_sem,seval]
  generalize hM:Xa k (ZI t L b) b L.she=M at *
  refine Zm [2,4,8,10,11,12] (fun _:Unit=> []) (fun _=> [XX x t r c sp,Yv L,Yv Wc,ZiK 0 0 M,.elems 4 (M.times.map eTim)]) (fun _=>True) ?_ ?_
  ·simp (disch:=omega) only [go_sem,seval];refine cD ?_ ?_<;>intro h<;>simp (disch:=omega) only [Sh.out h,go_sem,seval]
   ·have hk0:k=0:=by omega
    subst hk0
    have e:M= { L.she with rest:=b,dep:=ZI t L b } :=by rw [<- hM,Xa,if_pos rfl]
    rw [e];exact ⟨(),Weak.mk (by simp (disch:=omega) only [XX,Yv,Wc,zShe,ZiK,List.map_nil,go_sem,seval])⟩
   ·have e1:((k:Int)-1).toNat=k-1:=by omega
    have hk1:k-1<L.she.times.length:=by omega
    have Zmu:(L.she.times.map eTim).set (k-1) (PV.agg [.int .i64 (nth L.she.times (k-1)).arr,.int .i64 (nth L.she.times (k-1)).beg,.int .i64 (nth L.she.times (k-1)).dep,.bool b])=(L.she.times.set (k-1) { nth L.she.times (k-1) with rest:=b }).map eTim:=by
     rw [List.map_set];rfl
    have hn1:nth (L.she.times.set (k-1) { nth L.she.times (k-1) with rest:=b }) (k-1)= { nth L.she.times (k-1) with rest:=b } :=by
     rw [Zf (by simpa using hk1)];simp
    have hl1:(L.she.times.set (k-1) { nth L.she.times (k-1) with rest:=b }).length=L.she.times.length:=by simp
    have hMt:M.times=(L.she.times.set (k-1) { nth L.she.times (k-1) with rest:=b }).set (k-1) { nth (L.she.times.set (k-1) { nth L.she.times (k-1) with rest:=b }) (k-1) with dep:=ZI t L b } :=by
     rw [hn1,List.set_set,<- hM,Xa,if_neg (by omega)];rfl
    have hM2:M.rest=L.she.rest/\M.dep=L.she.dep:=by rw [<- hM,Xa,if_neg (by omega)];exact ⟨rfl,rfl⟩
    simp (disch:=first | omega | (simp only [List.length_cons,List.length_nil,List.length_append,List.length_map,List.length_take,List.length_drop]<;>omega)) only [e1,go_sem,seval];rw [Zmu]
    generalize L.she.times.set (k-1) { nth L.she.times (k-1) with rest:=b } =l1 at *
    simp (disch:=first | omega | (simp only [List.length_cons,List.length_nil,List.length_append,List.length_map,List.length_take,List.length_drop]<;>omega)) only [e1,hl1,eq_self,decide_true,go_sem,seval];refine ⟨(),Weak.mk ?_⟩;simp (disch:=omega) only [XX,Yv,Wc,zShe,ZiK,List.map_nil,hM2.1,hM2.2,hmm,hmf,hml,go_sem,seval];rw [hMt,List.map_set]
    rfl
  ·intro _ _;refine Zc [14,31] _ _ _ _ ?_;simp (disch:=omega) only [XX,Yv,Wc,zShe,ZiK,List.map_nil,go_sem,seval];refine Zm [2,4,8,10,11,12,13] (fun _:Unit=> [(14,.p (.int .i64 (toF t sp k)))]) (fun _=> [XX x t r c sp,Yv L,Yv Wc,ZiK 0 0 M,.elems 4 (M.times.map eTim)]) (fun _=>True) ?_ ?_
   ·simp (disch:=omega) only [go_sem,seval];refine cD ?_ ?_<;>intro h<;>simp (disch:=omega) only [Sh.out h,go_sem,seval]
    ·have e:toF t sp k=(nth sp k).place:=by rw [toF,if_neg (by omega)]
     exact ⟨(),Weak.mk (by simp (disch:=omega) only [XX,Yv,Wc,zShe,ZiK,List.map_nil,e,go_sem,seval])⟩
    ·have e:toF t sp k=t.dst:=by rw [toF,if_pos (by omega)]
     exact ⟨(),Weak.mk (by simp (disch:=omega) only [XX,Yv,Wc,zShe,ZiK,List.map_nil,e,go_sem,seval])⟩
   ·intro _ _;refine Zc [31] _ _ _ _ ?_;simp (disch:=omega) only [XX,Yv,Wc,zShe,ZiK,List.map_nil,go_sem,seval];refine Zh Zp (by kernel_rfl) (by kernel_rfl) ?_;simp (disch:=omega) only [go_sem,seval];refine Zn (Zgk x t r c sp k hk (by omega)) ?_;simp (disch:=omega) only [go_sem,seval];refine ZcN (ZuE x.net t.prof (Jr t sp k) (toF t sp k) (ZI t L b) hok.net (by omega)) ?_;simp (disch:=omega) only [go_sem,seval];have hG:goN x.net t.prof (Jr t sp k) (toF t sp k) (ZI t L b)=goL x t sp k (ZI t L b):=rfl;rw [hG];clear hG
    generalize goL x t sp k (ZI t L b)=g at *
    generalize ZI t L b=d at *
    generalize Ws L b=s at *
    refine cD ?_ ?_<;>intro h1<;>simp (disch:=omega) only [Sh.out h1,go_sem,seval]
    ·have e:Wu t sp k g d s M=(Wc,12):=by rw [Wu,if_pos h1]
     rw [e];exact we (by simp (disch:=omega) only [Wc,zShe,List.map_nil,go_sem,seval])
    ·refine cD ?_ ?_<;>intro h2<;>simp (disch:=omega) only [Sh.out h2,go_sem,seval]
     ·refine cD ?_ ?_<;>intro h3<;>simp (disch:=omega) only [Sh.out h3,go_sem,seval]
      ·have e:Wu t sp k g d s M=(Wc,15):=by rw [Wu,if_neg h1,if_pos (by omega),if_pos h3]
       rw [e];exact we (by simp (disch:=omega) only [Wc,zShe,List.map_nil,go_sem,seval])
      ·refine Zs (Weak.fz (o:=4) (by rfl)) ?_;refine Zc [] _ _ _ _ ?_;simp (disch:=omega) only [List.map_cons,List.map_nil,List.set_cons_succ,List.set_cons_zero,go_sem,seval];refine cD ?_ ?_<;>intro h4<;>simp (disch:=omega) only [Sh.out h4,go_sem,seval]
       ·have e:Wu t sp k g d s M=(Wc,16):=by rw [Wu,if_neg h1,if_pos (by omega),if_neg h3,if_pos h4]
        rw [e];exact we (by simp (disch:=omega) only [Wc,zShe,List.map_nil,go_sem,seval])
       ·have e:Wu t sp k g d s M=(⟨g.1,s+g.1-d,{ M with fin:=g.1,miles:=M.miles+g.2.1 }⟩,0):=by rw [Wu,if_neg h1,if_pos (by omega),if_neg h3,if_neg h4]
        have hMc:M.times_c=false:=by
         rw [<- hM,Xa,if_neg (by omega)];exact hclip (by omega)
        rw [e];exact we (by simp (disch:=omega) only [hMc,go_sem,seval])
     ·have h2': ¬k=sp.length:=by omega
      have hkl:k<sp.length:=by omega
      have hstp:=hok.stp _ (ZL hkl);refine Xi (Zjt (nth sp k) g.1) ?_;unfold ZkW
      by_cases h3:(nth sp k).cls<max g.1 (nth sp k).opn
      ·have e:Wu t sp k g d s M=(Wc,14):=by rw [Wu,if_neg h1,if_neg h2',if_pos h3]
       rw [e,if_pos h3];simp (disch:=omega) only [go_sem,seval];exact we (by simp (disch:=omega) only [Wc,zShe,List.map_nil,go_sem,seval])
      ·rw [if_neg h3];simp (disch:=omega) only [go_sem,seval];refine Zs (Weak.fz (o:=4) (by rfl)) ?_;refine Zc [] _ _ _ _ ?_;simp (disch:=omega) only [List.map_cons,List.map_nil,List.set_cons_succ,List.set_cons_zero,go_sem,seval];refine cD ?_ ?_<;>intro h4<;>simp (disch:=omega) only [Sh.out h4,go_sem,seval]
       ·have e:Wu t sp k g d s M=(Wc,16):=by rw [Wu,if_neg h1,if_neg h2',if_neg h3,if_pos h4]
        rw [e];exact we (by simp (disch:=omega) only [Wc,zShe,List.map_nil,go_sem,seval])
       ·have e:Wu t sp k g d s M=(⟨max g.1 (nth sp k).opn+(nth sp k).serv,s+g.1-d,{ M with times_c:=false,times:=M.times++ [⟨g.1,max g.1 (nth sp k).opn,0,false⟩],miles:=M.miles+g.2.1 }⟩,0):=by rw [Wu,if_neg h1,if_neg h2',if_neg h3,if_neg h4]
        rw [e];exact we
theorem Zdj {x t sp k L b} (hs:0<sp.length) (hc:0<k->L.she.times_c=false) (he:(Yg x t sp k L b).2=0):(Yg x t sp k L b).1.she.times_c=false:=by
 have hm:0<k->(Xa k (ZI t L b) b L.she).times_c=false:=fun h=>by rw [Xa,if_neg (by omega)];exact hc h
 unfold Yg at he ⊢
 generalize goL x t sp k (ZI t L b)=g at *
 generalize ZI t L b=d at *
 generalize Ws L b=s at *
 generalize Xa k d b L.she=m at *
 unfold Wu at he ⊢
 split at he
 ·simp at he
 ·rename_i c1;rw [if_neg c1]
  split at he
  ·rename_i c2;rw [if_pos c2]
   split at he
   ·simp at he
   ·rename_i c3;rw [if_neg c3]
    split at he
    ·simp at he
    ·rename_i c4;rw [if_neg c4];exact hm (by omega)
  ·rename_i c2;rw [if_neg c2]
   split at he
   ·simp at he
   ·rename_i c3;rw [if_neg c3]
    split at he
    ·simp at he
    ·rename_i c4;rw [if_neg c4]
structure LabO (n k:Nat) (L:Lab):Prop where
 rng:LabR k L
 len:k<=n->L.she.times.length=k
 clip:0<k->L.she.times_c=false
theorem KJ {x t sp k L b} (hok:TrpOk x t sp) (hs:0<sp.length) (hk:k<=sp.length) (h:LabO sp.length k L) (he:(Yg x t sp k L b).2=0):LabO sp.length (k+1) (Yg x t sp k L b).1 :=
 ⟨KZ hok hk h.rng he,fun hk2=>U7 (h.len hk) he (by omega),fun _=>Zdj hs h.clip he⟩
theorem J1 {x t sp} (hok:TrpOk x t sp) {st:Int} (hst:0<=st/\st<=4096):LabO sp.length 0 (Xv t st) :=
 ⟨⟨by have:=hok.opn;simp only [Xv];omega,by simp [Xv],by simp [Xv,zShe]⟩,fun _=>rfl,fun h=>by omega⟩
theorem Zfk (x:Inst) (t:Typ) (r:Rte) (c:Bool) (sp:List Stp) (hok:TrpOk x t sp) (k:Nat) (hk:k<=sp.length) (hs1:0<sp.length) (L:Lab) (hL:LabO sp.length k L) (b:Bool) :
  PT 296 [.p (Zix x t r c sp),.p (Q0 L),.p (.int .i64 (k:Nat)),.p (.bool b)] [.p (Q0 (Yg x t sp k L b).1),.p (.int .i64 (Yg x t sp k L b).2)] :=
 Zof x t r c sp hok k hk hs1 L hL.rng (hL.len hk) hL.clip b
theorem ZuL (x:Inst) (t:Typ) (r:Rte) (c:Bool) (sp:List Stp) (hok:TrpOk x t sp) (hs1:0<sp.length) (hst:0<=r.start/\r.start<=4096) (bs:List Bool) (d:Bool) (hb:bs.length=sp.length+1) :
  PT 273 [.p (Zix x t r c sp),.p (.list d (bs.map eB))] [.p (ZaO (Xz x t sp 0 (Xv t r.start) bs).1.she),.p (.int .i64 (Xz x t sp 0 (Xv t r.start) bs).2)]:=by
 have hsl:=hok.len;refine Zd [] Tryz.func273 rfl ZnE ?_;simp (disch:=omega) only [Tryz.f273,go_sem,seval];refine (KK x t r c sp).use ?_;simp (disch:=omega) only [go_sem,seval]
 refine Zg [2,4,6,13,14] (fun q:Nat×Lab=> [(15,.p (.int .i64 q.1))]) (fun q=> [XX x t r c sp,.cells [.p (.bool false),.p (.int .i64 0),.p (.list true []),.p (.int .i64 0),.p (.int .i64 0)],Yv q.2])
  (fun q=>q.1<=bs.length/\Xz x t sp 0 (Xv t r.start) bs=Xz x t sp q.1 q.2 (bs.drop q.1)/\LabO sp.length q.1 q.2) (fun q=>bs.length-q.1) (0,Xv t r.start) ⟨by simp,by simp,J1 hok hst⟩ (Weak.mk ?_) ?_
 ·simp (disch:=omega) only [XX,Yv,go_sem,seval]
 ·rintro ⟨k,L⟩ ⟨hk,hrun,hL⟩;simp only at hk hrun hL;simp (disch:=omega) only [XX,Yv,go_sem,seval];refine cD ?_ ?_<;>intro h1<;>simp (disch:=omega) only [Sh.out h1,go_sem,seval]
  ·have hk2:k<bs.length:=by omega
   have hdrop:bs.drop k=nth bs k::bs.drop (k+1):=by rw [List.drop_eq_getElem_cons hk2,Zf hk2]
   rw [hdrop,Xz] at hrun;have cn:=Zfk x t r c sp hok k (by omega) hs1 L hL (nth bs k);have hL2:=KJ (x:=x) (t:=t) (b:=nth bs k) hok hs1 (by omega) hL
   generalize Yg x t sp k L (nth bs k)=N at *
   refine Xi cn ?_;simp (disch:=omega) only [go_sem,seval];refine cD ?_ ?_<;>intro h2<;>simp (disch:=omega) only [Sh.out h2,go_sem,seval]
   ·rw [hrun,if_neg h2];exact we (by simp (disch:=omega) only [Wc,zShe,List.map_nil,go_sem,seval])
   ·rw [if_pos (by omega)] at hrun;exact ⟨(k+1,N.1),⟨by simp only;omega,hrun,hL2 (by omega)⟩,by simp only;omega,Weak.mk (by simp (disch:=omega) only [XX,Yv,go_sem,seval])⟩
  ·have hkl:k=bs.length:=by omega
   subst hkl;rw [List.drop_length,Xz] at hrun;rw [hrun];exact we
theorem Zkx (l m:Lab):PC 299 [.p (Q0 l),.p (Q0 m)] (.bool (ZF l m)):=by
 refine Za Tryz.func299 rfl Zql ?_;simp (disch:=omega) only [Tryz.f299,go_sem,seval];refine gT ?_ ?_<;>intro h<;>simp (disch:=omega) only [Sh.out h,go_sem,seval]
 ·simp [ZF,h]
 ·simp [ZF,h]
def gH (x:Inst) (t:Typ) (r:Rte) (c:Bool) (sp:List Stp) (o:List Lab) (f z:Lab):List AM.Obj:= [XX x t r c sp,.dead,.elems 7 (o.map Q0),Yv f,Yv z]
theorem Zjc (x:Inst) (t:Typ) (r:Rte) (c:Bool) (sp:List Stp) (o:List Lab) (f z m:Lab):ACalls Tryz.prog 298 [.p (Q0 m),.ptr 4 0] (gH x t r c sp o f z) fun y H'=>y= .p (.bool (ZF m z))/\H'=gH x t r c sp o f z:=by
 refine Zd [] Tryz.func298 rfl Zqt ?_;simp (disch:=omega) only [Tryz.f298,gH,XX,Yv,go_sem,seval];refine (Zkx m z).use ?_;simp (disch:=omega) only [go_sem,seval];exact we (by simp (disch:=omega) only [gH,XX,Yv,go_sem,seval])
theorem Zcc (x:Inst) (t:Typ) (r:Rte) (c:Bool) (sp:List Stp) (o:List Lab) (f z:Lab) (hl:o.length<=2097152) :
  ACalls Tryz.prog 315 [.sl 2 0 o.length o.length,.fn (.func 298) [] [.ptr 4 0]] (gH x t r c sp o f z) fun y H'=>y= .p (.int .i64 (gIx (fun m=>ZF m z) o))/\H'=gH x t r c sp o f z:=by
 refine Zd [] Tryz.func315 rfl Zn3 ?_;simp (disch:=omega) only [Tryz.f315,gH,XX,Yv,go_sem,seval];refine Zg [0,1,7] (fun k:Nat=> [(8,.p (.int .i64 k))]) (fun _=>gH x t r c sp o f z) (fun k=>k<=o.length/\ ∀j,j<k->ZF (nth o j) z=false) (fun k=>o.length-k) 0 (by simp) (Weak.mk ?_) ?_
 ·simp (disch:=omega) only [gH,XX,Yv,go_sem,seval]
 ·rintro k ⟨hk,hno⟩;simp (disch:=omega) only [gH,XX,Yv,go_sem,seval];refine cD ?_ ?_<;>intro h<;>simp (disch:=omega) only [Sh.out h,go_sem,seval]
  ·have hk2:k<o.length:=by omega
   have hg:=Zjc x t r c sp o f z (nth o k);simp (disch:=first | omega | (simp only [List.length_cons,List.length_nil,List.length_append,List.length_map,List.length_take,List.length_drop]<;>omega)) only [XY hk2,hk2,go_sem,seval];simp (disch:=omega) only [gH,XX,Yv,go_sem,seval] at hg;refine hg.useH ?_;simp (disch:=omega) only [go_sem,seval];refine cD ?_ ?_<;>intro h2<;>simp (disch:=omega) only [Sh.out h2,go_sem,seval]
   ·rw [Zip (f:=fun m=>ZF m z) hk2 h2 hno];exact we (by simp (disch:=omega) only [gH,XX,Yv,go_sem,seval])
   ·exact ⟨k+1,⟨by omega,Ze.2 ⟨hno,by simpa using h2⟩⟩,by omega,Weak.mk (by simp (disch:=omega) only [gH,XX,Yv,go_sem,seval])⟩
  ·have hkl:k=o.length:=by omega
   subst hkl;rw [Zic hno];exact we (by simp (disch:=omega) only [gH,XX,Yv,go_sem,seval])
theorem QD (x:Inst) (t:Typ) (r:Rte) (c:Bool) (sp:List Stp) (o:List Lab) (f z:Lab) (hl:o.length<=2097152) :
  ACalls Tryz.prog 297 [.sl 2 0 o.length o.length,.fn (.func 298) [] [.ptr 4 0]] (gH x t r c sp o f z) fun y H'=>y= .p (.bool (o.any fun m=>ZF m z))/\H'=gH x t r c sp o f z:=by
 refine Zd [] Tryz.func297 rfl ZmQ ?_;simp (disch:=omega) only [Tryz.f297,go_sem,seval];refine (Zcc x t r c sp o f z hl).useH ?_;simp (disch:=omega) only [go_sem,seval];rw [ZiL];exact we (by simp (disch:=omega) only [gH,XX,Yv,go_sem,seval])
def ZlF (x:Inst) (t:Typ) (sp:List Stp) (r:List Bool) (k:Nat) (f:Lab) (bs:List Bool) (l:List Lab):List Lab:=bs.filterMap (XJ x t sp k f)++YB (XJ x t sp) (chF r) k l
theorem Zq3 (x:Inst) (t:Typ) (r:Rte) (c:Bool) (sp:List Stp) (hok:TrpOk x t sp) (hs1:0<sp.length) (k:Nat) (hk:k<=sp.length) (hrl:r.rests.length<=1048576) (l:List Lab) (d:Bool) (hl:l.length<=1048576) (hL: ∀L∈l,LabO sp.length k L) :
  PC 272 [.p (Zix x t r c sp),.p (.list d (l.map Q0)),.p (.int .i64 (k:Nat))] (.list false ((Z8 ZF [] (YB (XJ x t sp) (chF r.rests) k l)).map Q0)):=by
 have hsl:=hok.len;refine Zd [2,16] Tryz.func272 rfl ZmI ?_;simp (disch:=omega) only [Tryz.f272,go_sem,seval];refine Zs (Weak.fz (o:=1) (by rfl)) ?_;simp (disch:=omega) only [List.map_cons,List.map_nil,List.set_cons_succ,List.set_cons_zero,go_sem,seval];refine Zm [1,2,3] (fun cb:Bool=> [(7,.p (.list cb ((chF r.rests k).map eB)))]) (fun _=> [XX x t r c sp,.dead]) (fun _=>True) ?_ ?_
 ·simp (disch:=omega) only [go_sem,seval];refine cD ?_ ?_<;>intro h<;>simp (disch:=omega) only [Sh.out h,go_sem,seval]
  ·have hk2:k<r.rests.length:=by omega
   have e:chF r.rests k=(r.rests.take (k+1)).drop k:=by
    rw [chF,List.getElem?_eq_getElem hk2,List.take_succ_eq_append_getElem hk2,List.drop_left' (by simp;omega)]
   exact ⟨r.rests_c&&decide ((k:Int)+1=(r.rests.length:Int)),Weak.mk (by simp (disch:=omega) only [XX,e,go_sem,seval])⟩
  ·have e:chF r.rests k= [false,true]:=by rw [chF,List.getElem?_eq_none (by omega)]
   exact ⟨false,Weak.mk (by simp (disch:=omega) only [XX,e,List.map_cons,List.map_nil,go_sem,seval])⟩
 ·intro cb _
  have hch:(chF r.rests k).length<=2:=by unfold chF;split<;>simp
  refine Zc [16] _ _ _ _ ?_;simp (disch:=omega) only [XX,go_sem,seval]
  refine ZM [16] [2,3,7,29,30] (fun q:Nat×List Lab=> [(8,.sl 2 0 q.2.length q.2.length),(31,.p (.int .i64 q.1))]) (fun q=> [XX x t r c sp,.dead,.elems 7 (q.2.map Q0)])
   (fun q=>q.1<=l.length/\Z8 ZF [] (YB (XJ x t sp) (chF r.rests) k l)=Z8 ZF q.2 (YB (XJ x t sp) (chF r.rests) k (l.drop q.1))/\q.2.length<=2*q.1) (fun q=>l.length-q.1) (0,[]) (by simp) (Weak.ofNil 8 7 rfl (by simp) (Weak.mk ?_)) ?_
  ·simp (disch:=omega) only [XX,List.map_nil,List.length_nil,go_sem,seval]
  ·rintro ⟨i,o⟩ ⟨hi,hpr,hol⟩;simp only at hi hpr hol;simp (disch:=omega) only [XX,go_sem,seval];refine cD ?_ ?_<;>intro h1<;>simp (disch:=omega) only [Sh.out h1,go_sem,seval]
   ·have hi2:i<l.length:=by omega
    have hLi:=hL _ (ZL hi2)
    have hdrop:l.drop i=nth l i::l.drop (i+1):=by rw [List.drop_eq_getElem_cons hi2,Zf hi2]
    rw [hdrop] at hpr;have hpr:Z8 ZF [] (YB (XJ x t sp) (chF r.rests) k l)=Z8 ZF o (ZlF x t sp r.rests k (nth l i) ((chF r.rests k).drop 0) (l.drop (i+1))):=hpr
    refine Zg [2,3,7,10,29,30,31,35,36] (fun q:Nat×List Lab=> [(8,.sl 2 0 q.2.length q.2.length),(37,.p (.int .i64 q.1))]) (fun q=> [XX x t r c sp,.dead,.elems 7 (q.2.map Q0),Yv (nth l i)])
     (fun q=>q.1<=(chF r.rests k).length/\Z8 ZF [] (YB (XJ x t sp) (chF r.rests) k l)=Z8 ZF q.2 (ZlF x t sp r.rests k (nth l i) ((chF r.rests k).drop q.1) (l.drop (i+1)))/\q.2.length<=2*i+q.1) (fun q=>(chF r.rests k).length-q.1) (0,o) ⟨by simp,hpr,hol⟩ (Weak.mk ?_) ?_
    ·simp (disch:=omega) only [XX,Yv,go_sem,seval]
    ·clear hpr hol;rintro ⟨j,o⟩ ⟨hj,hpr,hol⟩;simp only at hj hpr hol;simp (disch:=omega) only [XX,Yv,go_sem,seval];refine cD ?_ ?_<;>intro h2<;>simp (disch:=omega) only [Sh.out h2,go_sem,seval]
     ·have hj2:j<(chF r.rests k).length:=by omega
      have hd2:(chF r.rests k).drop j=nth (chF r.rests k) j::(chF r.rests k).drop (j+1):=by rw [List.drop_eq_getElem_cons hj2,Zf hj2]
      have cn:=Zfk x t r c sp hok k hk hs1 (nth l i) hLi (nth (chF r.rests k) j);have ho2:XJ x t sp k (nth l i) (nth (chF r.rests k) j)=if (Yg x t sp k (nth l i) (nth (chF r.rests k) j)).2=0 then some (Yg x t sp k (nth l i) (nth (chF r.rests k) j)).1 else none:=rfl;rw [hd2,ZlF,List.filterMap_cons,ho2] at hpr
      generalize Yg x t sp k (nth l i) (nth (chF r.rests k) j)=N at *
      refine Xi cn ?_;simp (disch:=omega) only [go_sem,seval];refine gT ?_ ?_<;>intro h3<;>simp (disch:=omega) only [Sh.out h3,go_sem,seval]
      ·have hcl:=QD x t r c sp o (nth l i) N.1 (by omega);simp (disch:=omega) only [gH,XX,Yv,go_sem,seval] at hcl;refine hcl.useH ?_;simp (disch:=omega) only [go_sem,seval];rw [if_pos h3] at hpr;have hpr:Z8 ZF [] (YB (XJ x t sp) (chF r.rests) k l)=if (o.any fun m=>ZF m N.1)=true then Z8 ZF o (ZlF x t sp r.rests k (nth l i) ((chF r.rests k).drop (j+1)) (l.drop (i+1))) else Z8 ZF (o++ [N.1]) (ZlF x t sp r.rests k (nth l i) ((chF r.rests k).drop (j+1)) (l.drop (i+1))):=hpr;refine cD ?_ ?_<;>intro h4<;>simp (disch:=omega) only [Sh.out h4,go_sem,seval]
       ·rw [if_neg (by simpa using h4)] at hpr;exact ⟨(j+1,o++ [N.1]),⟨by simp only;omega,hpr,by simp;omega⟩,by simp only;omega,Weak.mk (by simp (disch:=omega) only [XX,Yv,List.length_append,List.length_cons,List.length_nil,List.map_append,List.map_cons,List.map_nil,go_sem,seval])⟩
       ·rw [if_pos (by simpa using h4)] at hpr;exact ⟨(j+1,o),⟨by simp only;omega,hpr,by simp only;omega⟩,by simp only;omega,Weak.mk (by simp (disch:=omega) only [XX,Yv,go_sem,seval])⟩
      ·rw [if_neg h3] at hpr;exact ⟨(j+1,o),⟨by simp only;omega,hpr,by simp only;omega⟩,by simp only;omega,Weak.mk (by simp (disch:=omega) only [XX,Yv,go_sem,seval])⟩
     ·have hjl:j=(chF r.rests k).length:=by omega
      subst hjl;rw [List.drop_length,ZlF,List.filterMap_nil,List.nil_append] at hpr;exact ⟨(i+1,o),⟨by simp only;omega,hpr,by simp only;omega⟩,by simp only;omega,Weak.mk (by simp (disch:=omega) only [XX,go_sem,seval])⟩
   ·have hil:i=l.length:=by omega
    subst hil;have e:YB (XJ x t sp) (chF r.rests) k []= []:=rfl;rw [List.drop_length,e,Z8] at hpr;rw [hpr];refine Zs (Weak.fz (o:=2) (by rfl)) ?_;refine Zc [] _ _ _ _ ?_;simp (disch:=omega) only [List.map_cons,List.map_nil,List.set_cons_succ,List.set_cons_zero,go_sem,seval];exact we
def ZsC : PV:= .agg [.list true [],.list true [],.list true [],.list true [],.list true [],.list true [],.str [],.int .i64 0,.int .i64 0,.int .i64 0,.list true [],.int .i64 0,.int .i64 0,.int .i64 0,.int .i64 0,.int .i64 0,.int .i64 0,.int .i64 0,.int .i64 0,.int .i64 0,.int .i64 0,.int .i64 0,.list true [],.list true [],.list true []]
theorem ZjE (x:Inst) (r:Rte) (hty:0<=r.typ/\r.typ<(x.types.length:Int)) (htl:x.types.length<=1048576) (hvl:r.visits.length<=20) (hs: ¬(0<=r.start/\r.start<=4096)) :
  PT 270 [.p (ZK x),.p (Xl r)] [.p ZsC,.p (.bool false)]:=by
 have e1: ¬r.typ<0:=by omega
 have e2: ¬(x.types.length:Int)<=r.typ:=by omega
 refine Zd [] Tryz.func270 rfl ZhZ ?_;simp (disch:=omega) only [Tryz.f270,e1,e2,go_sem,seval];refine gF ?_ ?_<;>intro h1<;>simp (disch:=omega) only [Sh.out h1,go_sem,seval]
 ·exact we (by simp (disch:=omega) only [ZsC,go_sem,seval])
 ·refine gF ?_ ?_<;>intro h2<;>simp (disch:=omega) only [Sh.out h2,go_sem,seval]
  ·exact we (by simp (disch:=omega) only [ZsC,go_sem,seval])
  ·omega
theorem Zbw {x t sp} : ∀(bs:List Bool) (k:Nat) (L:Lab),¬(Xz x t sp k L bs).2=0->(Xz x t sp k L bs).1=Wc
 | [],k,L,h=>by simp [Xz] at h
 | b::bs,k,L,h=>by
  rw [Xz] at h ⊢
  split
  ·rename_i c;rw [if_pos c] at h;exact Zbw bs (k+1) _ h
  ·rfl
theorem Zc3 (n:Nat):List.replicate n false∈X3 (List.replicate n false):=by
 rw [fromB_next];simp
theorem Zgg {l:List Lab} (h:fmL Y4 none l=none):l= []:=by
 cases l with
 | nil=>rfl
 | cons a l =>
  obtain ⟨z,hz,_⟩:=Wh (fin:=Y4) l a;have:fmL Y4 none (a::l)=fmL Y4 (some a) l:=rfl;rw [this,hz] at h;cases h
theorem ZdY {x t sp} {st:Int} {r:List Bool} (h:fmL Y4 none ((XL r (sp.length+1)).filterMap (WN (XJ x t sp) 0 (Xv t st)))=none): ¬(Xz x t sp 0 (Xv t st) (YU r (sp.length+1))).2=0:=fun h0=>by
 have h1:=Zgg h;have h2:YU r (sp.length+1)∈XL r (sp.length+1):=List.mem_map.2 ⟨_,Zc3 _,rfl⟩;have h3:=List.filterMap_eq_nil_iff.1 h1 _ h2;rw [Yn,if_pos h0] at h3
 cases h3
theorem ZcA {x t sp} {st:Int} {r:List Bool} (hr:r.length<=sp.length+1) (h:fmL Y4 none (VW ZF (XJ x t sp) (chF r) (sp.length+1) 0 [Xv t st])=none): ¬(Xz x t sp 0 (Xv t st) (YU r (sp.length+1))).2=0 :=
 ZdY (by rw [KH,Yk,Jw r _ hr] at h;exact h)
def VF (x:Inst) (r:Rte):She×Int:=if 0<=r.start/\r.start<=4096/\r.rests.length<=r.visits.length+1 then Xf x r else (zShe,2)
theorem Zge {x t sp} {ch:Nat->List Bool} {k:Nat} {l:List Lab} (hok:TrpOk x t sp) (hs:0<sp.length) (hk:k<=sp.length) (h: ∀L∈l,LabO sp.length k L): ∀L∈Z8 ZF [] (YB (XJ x t sp) ch k l),LabO sp.length (k+1) L:=fun L hL=>by
 have h1:=Vg ZF _ _ L hL;rw [List.nil_append] at h1;obtain ⟨a,ha,hb⟩:=List.mem_flatMap.1 h1;obtain ⟨b,_,hn⟩:=List.mem_filterMap.1 hb;rw [XJ] at hn
 split at hn
 ·rename_i c;simp at hn;subst hn;exact KJ hok hs hk (h a ha) c
 ·cases hn
theorem UR : ∀(c out:List Lab),(Z8 ZF out c).length<=out.length+c.length
 | [],out=>by simp [Z8]
 | x::c,out=>by
  rw [Z8]
  split
  ·have:=UR c out;simp;omega
  ·have:=UR c (out++ [x]);simp at this ⊢;omega
theorem Kk {x t sp} {r:List Bool} {k:Nat} : ∀l:List Lab,(YB (XJ x t sp) (chF r) k l).length<=2*l.length
 | []=>by simp [YB]
 | a::l=>by
  have ih:=Kk (x:=x) (t:=t) (sp:=sp) (r:=r) (k:=k) l;have h1:(YB (XJ x t sp) (chF r) k (a::l))=(chF r k).filterMap (XJ x t sp k a)++YB (XJ x t sp) (chF r) k l:=rfl;have h2:=List.length_filterMap_le (XJ x t sp k a) (chF r k)
  have h3:(chF r k).length<=2:=by unfold chF;split<;>simp
  rw [h1,List.length_append,List.length_cons];omega
theorem Zi6 (x:Inst) (r:Rte) (hx:InstOk x) (hl:r.visits.length<=1048576) (hrl:r.rests.length<=1048576) (hty:0<=r.typ/\r.typ<(x.types.length:Int)) (h0:ZW x r.visits=0) :
  PT 222 [.p (ZK x),.p (Xl r)] [.p (ZaO (VF x r).1),.p (.int .i64 (VF x r).2)]:=by
 have hd:=Wa hx;have hsq:=Yt h0;have hol:=hd.ord;have htl:=hd.typ;have hvl:=hsq.len hol;have hok:=V1 hx hty hsq;have hsl:(ZQ x r.visits).length=r.visits.length:=Xe
 have hs1:0<(ZQ x r.visits).length:=by
  rw [hsl];have:=hsq.ne
  cases hv:r.visits with
  | nil=>exact absurd hv this
  | cons a b=>simp
 refine Zd [6,13,14] Tryz.func222 rfl Znn ?_;simp (disch:=omega) only [Tryz.f222,go_sem,seval]
 by_cases hs:0<=r.start/\r.start<=4096
 ·refine Xi (Zon x r hx hty h0 hs) ?_;simp (disch:=omega) only [go_sem,seval];refine cD ?_ ?_<;>intro h1<;>simp (disch:=omega) only [Sh.out h1,go_sem,seval]
  ·have e:VF x r=(zShe,2):=by rw [VF,if_neg (by omega)]
   rw [e];exact we (by simp (disch:=omega) only [zShe,List.map_nil,go_sem,seval])
  ·have hrs:r.rests.length<=r.visits.length+1:=by omega
   have e:VF x r=Xf x r:=by rw [VF,if_pos ⟨hs.1,hs.2,hrs⟩]
   have hbn:= @ZcA x (Z2 x r) (ZQ x r.visits) r.start r.rests (by rw [hsl];exact hrs);rw [e,Xf,JC (by rw [hsl];exact hrs)];refine (KK x (Z2 x r) r false (ZQ x r.visits)).use ?_;simp (disch:=omega) only [go_sem,seval]
   generalize hT:Z2 x r=t at *
   generalize hS:ZQ x r.visits=sp at *
   refine Zs (Weak.fz (o:=4) (by rfl)) ?_;refine Zc [13,14] _ _ _ _ ?_;simp (disch:=omega) only [List.map_cons,List.map_nil,List.set_cons_succ,List.set_cons_zero,go_sem,seval]
   refine ZM [13,14] [3,4,6,8,38] (fun q:Nat×List Lab=> [(9,.p (.list false (q.2.map Q0))),(39,.p (.int .i64 q.1))]) (fun _=> [Zb x,Zo r,.cells [.p (.bool false),.p (.int .i64 0),.p (.list true []),.p (.int .i64 0),.p (.int .i64 0)],XX x t r false sp,.dead])
    (fun q=>q.1<=sp.length+1/\VW ZF (XJ x t sp) (chF r.rests) (sp.length+1) 0 [Xv t r.start]=VW ZF (XJ x t sp) (chF r.rests) (sp.length+1-q.1) q.1 q.2/\(∀L∈q.2,LabO sp.length q.1 L)/\q.2.length<=2^q.1) (fun q=>sp.length+1-q.1) (0,[Xv t r.start]) ⟨by simp,by simp,fun L hL=>by simp at hL;subst hL;exact J1 hok hs,by simp⟩ (Weak.mk ?_) ?_
   ·simp (disch:=omega) only [Zb,Zo,XX,List.map_cons,List.map_nil,List.set_cons_succ,List.set_cons_zero,List.cons_append,List.nil_append,go_sem,seval]
   ·rintro ⟨k,l⟩ ⟨hk,hit,hlo,hll⟩;simp only at hk hit hlo hll;simp (disch:=omega) only [Zb,Zo,XX,go_sem,seval];refine cD ?_ ?_<;>intro h2<;>simp (disch:=omega) only [Sh.out h2,go_sem,seval]
    ·have hk2:k<=sp.length:=by omega
     have hp20:2^k<=2^20:=Nat.pow_le_pow_right (by omega) (by omega);refine (Zq3 x t r false sp hok hs1 k hk2 hrl l false (by omega) hlo).use ?_;simp (disch:=omega) only [go_sem,seval]
     have hn:VW ZF (XJ x t sp) (chF r.rests) (sp.length+1-k) k l=VW ZF (XJ x t sp) (chF r.rests) (sp.length+1-(k+1)) (k+1) (Z8 ZF [] (YB (XJ x t sp) (chF r.rests) k l)):=by
      have e:sp.length+1-k=(sp.length+1-(k+1))+1:=by omega
      rw [e,VW]
     have hln:=UR (YB (XJ x t sp) (chF r.rests) k l) [];have hln2:=Kk (x:=x) (t:=t) (sp:=sp) (r:=r.rests) (k:=k) l;exact ⟨(k+1,Z8 ZF [] (YB (XJ x t sp) (chF r.rests) k l)),⟨by simp only;omega,hit.trans hn,Zge hok hs1 hk2 hlo,by simp at hln;simp only [Nat.pow_succ];omega⟩,by simp only;omega,Weak.mk (by simp (disch:=omega) only [Zb,Zo,XX,List.set_cons_succ,List.set_cons_zero,go_sem,seval])⟩
    ·have hkn:k=sp.length+1:=by omega
     subst hkn;rw [Nat.sub_self,VW] at hit;rw [hit] at hbn ⊢;clear hit;refine cD ?_ ?_<;>intro h3<;>simp (disch:=omega) only [Sh.out h3,go_sem,seval]
     ·have hl0:l= []:=List.eq_nil_of_length_eq_zero (by omega);subst hl0;have hbn:=hbn rfl;refine Wz (ZfC 3 rfl rfl ?_);simp (disch:=omega) only [go_sem,seval];refine ⟨_,_,Zbg (e:=4) rfl Tryz.underlying46 (by kernel_rfl) rfl rfl rfl ?_ ?_ ?_,?_⟩
      ·simp
      ·simp;omega
      ·intro q hq;obtain ⟨b,_,rfl⟩:=List.mem_map.1 hq
       rfl
      ·have hpl:(YU r.rests (sp.length+1)).length=sp.length+1:=by simp [YU];omega
       have hpad:r.rests.map eB++(PV.bool false::List.replicate r.visits.length (PV.bool false)).drop (r.rests.map eB).length=(YU r.rests (sp.length+1)).map eB:=by
        rw [YU,List.map_append,<- List.replicate_succ,List.drop_replicate,List.map_replicate,hsl,List.length_map];rfl
       have hcr:=ZuL x t r false sp hok hs1 hs (YU r.rests (sp.length+1)) false hpl;have hbad:=Zbw _ _ _ hbn;rw [hbad] at hcr;simp only [List.set_cons_succ,List.set_cons_zero];rw [hpad]
       generalize hRP:YU r.rests (sp.length+1)=rp at *
       refine Zs (Weak.fz (o:=5) (by rfl)) ?_;refine Zc [] _ _ _ _ ?_;simp (disch:=omega) only [List.map_cons,List.map_nil,List.set_cons_succ,List.set_cons_zero,go_sem,seval];rw [if_pos (by omega)];refine Xi hcr ?_;simp (disch:=omega) only [go_sem,seval];have hfm0:fmL Y4 none ([]:List Lab)=none:=rfl;rw [hfm0];exact we (by simp (disch:=omega) only [Wc,zShe,List.map_nil,go_sem,seval])
     ·cases l with
      | nil=>simp at h3
      | cons l0 l =>
       have e0:elt ((l0::l).map Q0) 0=Q0 l0:=rfl;have hn0:nth (l0::l) 0=l0:=rfl;simp (disch:=first | omega | (simp only [List.length_cons,List.length_nil,List.length_append,List.length_map,List.length_take,List.length_drop]<;>omega)) only [e0,hn0,List.take_length,go_sem,seval];have hfm:fmL Y4 none (l0::l)=fmL Y4 (some l0) l:=rfl;rw [hfm]
       have hlen:l.length<=2097152:=by
        have hp20:2^(sp.length+1)<=2^21:=Nat.pow_le_pow_right (by omega) (by omega);simp at hll;omega
       refine Zg [4,12,65,66] (fun q:Nat×Lab=> [(67,.p (.int .i64 q.1))]) (fun q=> [Zb x,Zo r,.cells [.p (.bool false),.p (.int .i64 0),.p (.list true []),.p (.int .i64 0),.p (.int .i64 0)],XX x t r false sp,.dead,Yv q.2])
        (fun q=>q.1<=l.length/\fmL Y4 (some l0) l=fmL Y4 (some q.2) (l.drop q.1)) (fun q=>l.length-q.1) (0,l0) (by simp) (Weak.mk ?_) ?_
       ·simp (disch:=omega) only [Zb,Zo,XX,Yv,List.set_cons_succ,List.set_cons_zero,hn0,go_sem,seval]
       ·rintro ⟨i,m⟩ ⟨hi,hm⟩;simp only at hi hm;simp (disch:=omega) only [Zb,Zo,XX,Yv,List.take_length,go_sem,seval];refine cD ?_ ?_<;>intro h4<;>simp (disch:=omega) only [Sh.out h4,go_sem,seval]
        ·have hi2:i<l.length:=by omega
         have hdrop:l.drop i=nth l i::l.drop (i+1):=by rw [List.drop_eq_getElem_cons hi2,Zf hi2]
         rw [hdrop,fmL] at hm;refine cD ?_ ?_<;>intro h5<;>simp (disch:=omega) only [Sh.out h5,go_sem,seval]
         ·rw [if_pos (show Y4 (nth l i)<Y4 m from h5)] at hm;exact ⟨(i+1,nth l i),⟨by simp only;omega,hm⟩,by simp only;omega,Weak.mk (by simp (disch:=omega) only [Zb,Zo,XX,Yv,go_sem,seval])⟩
         ·rw [if_neg (show ¬Y4 (nth l i)<Y4 m from h5)] at hm;exact ⟨(i+1,m),⟨by simp only;omega,hm⟩,by simp only;omega,Weak.mk (by simp (disch:=omega) only [Zb,Zo,XX,Yv,go_sem,seval])⟩
        ·have hil:i=l.length:=by omega
         subst hil;rw [List.drop_length,fmL] at hm;rw [hm];exact we
 ·have e:VF x r=(zShe,2):=by rw [VF,if_neg (fun h=>hs ⟨h.1,h.2.1⟩)]
  rw [e];refine Xi (ZjE x r hty htl hvl hs) ?_;simp (disch:=omega) only [ZsC,go_sem,seval];exact we (by simp (disch:=omega) only [zShe,List.map_nil,go_sem,seval])
end Go.Proofs.YtcpmilhkineciaaGreatDoor.K
set_option linter.unusedVariables false
set_option linter.unusedSimpArgs false
namespace Go.AM
open Go.RowKit
theorem Zhz (k v:Int) (l:List (Int×Int)): ∃l',ZsG (.int .i64 k) (.int .i64 v) (l.map eII)=l'.map eII/\(∀q,Qo l' q=if q=k then v else Qo l q)/\l'.length<=l.length+1:=by
 unfold ZsG;rw [Ut]
 cases hm:mix l k with
 | none =>
  refine ⟨l++ [(k,v)],by simp [eII],fun q=> ?_,by simp⟩
  have e1:mix (l++ [(k,v)]) k=some l.length:=by
   unfold mix at hm ⊢;rw [List.findIdx?_append,hm];simp
  by_cases hq:q=k
  ·subst hq;simp [Qo,e1]
  ·rw [if_neg hq];unfold Qo
   have e3:mix (l++ [(k,v)]) q=mix l q:=by
    unfold mix;rw [List.findIdx?_append]
    cases hc:l.findIdx? (fun p=>decide (q=p.1))<;>simp [hq]
   rw [e3]
   cases hc:mix l q with
   | none=>rfl
   | some i =>
    unfold mix at hc;rw [List.findIdx?_eq_some_iff_getElem] at hc;obtain ⟨hi,_⟩:=hc;simp only;rw [List.getElem?_append_left hi]
 | some i =>
  refine ⟨l.set i (k,v),by rw [List.map_set];simp [eII],?_,by simp⟩;have hH:oat [.map (l.map eII)] 0= .map (l.map eII):=rfl;have:=ZbU (H:= [.map (l.map eII)]) (o:=0) (l:=l) (k:=k) (i:=i) (v:=v) (K:=fun _ _=> ∀q,Qo (l.set i (k,v)) q=if q=k then v else Qo l q) hH hm fun h=>h;unfold Vk at this;obtain ⟨u,q1,_⟩:=QK hm
  have e1:(l.map eII)[i]? =some (eII (k,u)):=by rw [List.getElem?_map,q1];rfl
  simp only [hH,Int.natCast_nonneg,if_true,Int.toNat_natCast,e1,mst] at this;exact this
theorem Zhh {P:Program} {H:List Obj} {t:TypeId} {o:Nat} {l:List (Int×Int)} {k v:Int} {K:V->List Obj->Prop} (hT:ZmN P t=some (.int .i64,some (.int .i64 0))) (hH:oat H o= .map (l.map eII))
  (h: ∀l':List (Int×Int),(∀q,Qo l' q=if q=k then v else Qo l q)->K .junk (H.set o (.map (l'.map eII)))):mst (Zb1 P H t (.mp o) (.p (.int .i64 k)) (.p (.int .i64 v))) K:=by
 obtain ⟨kt,et,h1,h2,h3⟩:=Zbi hT;obtain ⟨l',e,hg,_⟩:=Zhz k v l;simp only [Zb1,h1,JA h2 hH,Option.map_some,mst,e];exact h l' hg
end Go.AM
namespace Go.Proofs.YtcpmilhkineciaaGreatDoor.K
open Go Go.AM Go.Proofs
set_option maxRecDepth 8000
set_option maxHeartbeats 8000000
def ZdO (l:List Vis) (k:Nat) (q:Int):Int:=((l.take k).countP fun v=>decide (v.order=q):Nat)
theorem ZeW {l:List Vis} {k:Nat} (h:k<l.length) (q:Int):ZdO l (k+1) q=if q=(nth l k).order then ZdO l k q+1 else ZdO l k q:=by
 unfold ZdO;rw [List.take_succ_eq_append_getElem h,List.countP_append,Zf h]
 by_cases c:l[k].order=q
 ·rw [if_pos c.symm];simp [c]
 ·rw [if_neg (fun e=>c e.symm)];simp [c]
theorem Zhb {l:List Vis} {k:Nat} (h:k<=l.length) (q:Int):0<=ZdO l k q/\ZdO l k q<=k:=by
 unfold ZdO;have:=List.countP_le_length (p:=fun v:Vis=>decide (v.order=q)) (l:=l.take k);rw [List.length_take] at this;omega
theorem Zco {l:List Vis} {k:Nat} :YP l k=decide (ZdO l k (nth l k).order=0):=by
 unfold YP ZdO;rw [Bool.eq_iff_iff];simp only [Bool.not_eq_true',decide_eq_true_eq];rw [List.any_eq_false]
 have:((List.countP (fun v=>decide (v.order=(nth l k).order)) (l.take k):Nat):Int)=0↔List.countP (fun v=>decide (v.order=(nth l k).order)) (l.take k)=0:=by omega
 rw [this,List.countP_eq_zero]
theorem Vm (a b:Int):PC 274 [.p (.int .i64 a),.p (.int .i64 b)] (.bool (ZD a b)):=by
 refine Za Tryz.func274 rfl ZnK ?_;simp (disch:=omega) only [Tryz.f274,go_sem,seval];refine gT ?_ ?_<;>intro h<;>simp (disch:=omega) only [Sh.out h,go_sem,seval]
 ·simp [ZD,h]
 ·simp only [Classical.not_not] at h;simp [ZD,h]
theorem Zg5 (x:Inst) (r:Rte) (s:She) (hty:0<=r.typ/\r.typ<(x.types.length:Int)) (ho:x.orders.length<=1048576) (ht:x.types.length<=1048576) (hl:r.visits.length<=1048576) (hv:Inr x r.visits)
  (hc:0<=(Z2 x r).fixed/\(Z2 x r).fixed<=100000/\0<=(Z2 x r).perMile/\(Z2 x r).perMile<=100/\0<=(Z2 x r).perTick/\(Z2 x r).perTick<=100) (ho2:0<=(Z2 x r).opn/\(Z2 x r).opn<=4096)
  (hf: -4096<=s.fin/\s.fin<=8192) (hm:0<=s.miles/\s.miles<=1000000) :
  PC 223 [.p (ZK x),.p (Xl r),.p (ZaO s)] (ZqL (Zkb x r s)):=by
 have hti:r.typ.toNat<x.types.length:=by omega
 have hT:ZmN Tryz.prog 334=some (.int .i64,some (.int .i64 0)):=by kernel_rfl
 unfold Zkb;have htd:nth x.types r.typ.toNat=Z2 x r:=rfl
 generalize Z2 x r=t at *
 have e1: ¬r.typ<0:=by omega
 have e2: ¬(x.types.length:Int)<=r.typ:=by omega
 have p1:0<=t.perMile*s.miles/\t.perMile*s.miles<=100*1000000:=⟨Int.mul_nonneg (by omega) (by omega),Int.mul_le_mul (by omega) (by omega) (by omega) (by omega)⟩
 have hW: -8192<=s.fin-t.opn/\s.fin-t.opn<=8192:=by omega
 have p2: -819200<=t.perTick*(s.fin-t.opn)/\t.perTick*(s.fin-t.opn)<=819200:=by
  generalize s.fin-t.opn=w at hW;have a1:=Int.mul_le_mul_of_nonneg_left hW.2 (show 0<=t.perTick by omega);have a2:=Int.mul_le_mul_of_nonneg_left hW.1 (show 0<=t.perTick by omega);omega
 have p3: -128<=(s.fin-t.opn).tdiv 64/\(s.fin-t.opn).tdiv 64<=128:=by
  generalize s.fin-t.opn=w at hW;rcases Int.le_total 0 w with h | h
  ·rw [Int.tdiv_eq_ediv_of_nonneg h];omega
  ·have:w.tdiv 64= -((-w) / 64):=by rw [<- Int.tdiv_eq_ediv_of_nonneg (by omega),Int.neg_tdiv,Int.neg_neg]
   rw [this];omega
 have p4:0<=(s.fin-t.opn).tdiv 64*(s.fin-t.opn).tdiv 64/\(s.fin-t.opn).tdiv 64*(s.fin-t.opn).tdiv 64<=16384:=by
  generalize (s.fin-t.opn).tdiv 64=q at p3;refine ⟨?_,?_⟩
  ·rcases Int.le_total 0 q with h | h
   ·exact Int.mul_nonneg h h
   ·exact Int.mul_nonneg_of_nonpos_of_nonpos h h
  ·rcases Int.le_total 0 q with h | h
   ·have:=Int.mul_le_mul p3.2 p3.2 h (by omega);omega
   ·have h2:0<= -q:=by omega
    have:=Int.mul_le_mul (show-q<=128 by omega) (show-q<=128 by omega) h2 (by omega);rw [Int.neg_mul_neg] at this;omega
 refine Za Tryz.func223 rfl ZoT ?_;simp (disch:=omega) only [Tryz.f223,e1,e2,htd,go_sem,seval]
 refine Zg [3,4,6,10,11,59,60] (fun q:Nat×List (Int×Int)=> [(61,.p (.int .i64 q.1))]) (fun q=> [Zb x,Zo r,.cells [.p (.bool s.rest),.p (.int .i64 s.dep),.p (.list s.times_c (s.times.map eTim)),.p (.int .i64 s.fin),.p (.int .i64 s.miles)],Wr 0 0 0 0,Xg t,Wr (t.fixed+t.perMile*s.miles+t.perTick*(s.fin-t.opn)) (chgF x r.visits r.typ q.1).1 (chgF x r.visits r.typ q.1).2 ((s.fin-t.opn).tdiv 64*(s.fin-t.opn).tdiv 64),.map (q.2.map eII)])
  (fun q=>q.1<=r.visits.length/\ ∀n,Qo q.2 n=ZdO r.visits q.1 n) (fun q=>r.visits.length-q.1) (0,[]) ⟨by simp,fun n=>rfl⟩ (Weak.mk ?_) ?_
 ·simp (disch:=omega) only [Zb,Zo,Xg,Wr,chgF,go_sem,seval]
 ·rintro ⟨k,m⟩ ⟨hk,hmg⟩;simp only at hk hmg;have hch:=QJ (x:=x) (l:=r.visits) (t:=r.typ) k;simp (disch:=omega) only [Zb,Zo,Xg,Wr,go_sem,seval];refine cD ?_ ?_<;>intro h1<;>simp (disch:=omega) only [Sh.out h1,go_sem,seval]
  ·have hk2:k<r.visits.length:=by omega
   obtain ⟨v1,v2⟩:=hv _ (Zl hk2)
   have e3: ¬(nth r.visits k).order<0:=by omega
   have e4: ¬(x.orders.length:Int)<=(nth r.visits k).order:=by omega
   have v3:(nth r.visits k).order.toNat<x.orders.length:=by omega
   have hcs:=ZeW hk2;have hcr:=Zhb hk (nth r.visits k).order;have hfi:=Zco (l:=r.visits) (k:=k);have hch2:chgF x r.visits r.typ (k+1)=_:=chgF.eq_2 x r.visits r.typ k;refine ZaU hT rfl ?_;rw [hmg];simp (disch:=omega) only [go_sem,seval];refine Zhh hT rfl fun m' hm'=> ?_
   have hmg': ∀n,Qo m' n=ZdO r.visits (k+1) n:=fun n=>by rw [hm',hcs,hmg];split<;>simp_all
   simp (disch:=omega) only [e3,e4,List.set_cons_succ,List.set_cons_zero,go_sem,seval];refine ZaU hT rfl ?_;rw [hm',if_pos rfl];simp (disch:=omega) only [go_sem,seval];refine cD ?_ ?_<;>intro h2<;>simp (disch:=omega) only [Sh.out h2,go_sem,seval]
   ·have h3: ¬YP r.visits k=true:=by rw [hfi];simp;omega
    rw [if_neg h3] at hch2;exact ⟨(k+1,m'),⟨by simp only;omega,hmg'⟩,by simp only;omega,Weak.mk (by simp (disch:=omega) only [Zb,Zo,Xg,Wr,hch2,go_sem,seval])⟩
   ·have h3:YP r.visits k=true:=by rw [hfi];simp;omega
    rw [if_pos h3] at hch2;refine (Vm (nth x.orders (nth r.visits k).order.toNat).now r.typ).use ?_;simp (disch:=omega) only [go_sem,seval];refine cD ?_ ?_<;>intro h4<;>simp (disch:=omega) only [Sh.out h4,go_sem,seval]
    ·rw [if_pos h4] at hch2;refine (Vm (nth x.orders (nth r.visits k).order.toNat).last r.typ).use ?_;simp (disch:=omega) only [go_sem,seval];refine cD ?_ ?_<;>intro h5<;>simp (disch:=omega) only [Sh.out h5,go_sem,seval]
     ·rw [if_pos h5] at hch2;exact ⟨(k+1,m'),⟨by simp only;omega,hmg'⟩,by simp only;omega,Weak.mk (by simp (disch:=omega) only [Zb,Zo,Xg,Wr,hch2,go_sem,seval])⟩
     ·rw [if_neg (by rw [h5];simp)] at hch2;exact ⟨(k+1,m'),⟨by simp only;omega,hmg'⟩,by simp only;omega,Weak.mk (by simp (disch:=omega) only [Zb,Zo,Xg,Wr,hch2,Int.add_zero,go_sem,seval])⟩
    ·rw [if_neg (by rw [h4];simp)] at hch2;refine (Vm (nth x.orders (nth r.visits k).order.toNat).last r.typ).use ?_;simp (disch:=omega) only [go_sem,seval];refine cD ?_ ?_<;>intro h5<;>simp (disch:=omega) only [Sh.out h5,go_sem,seval]
     ·rw [if_pos h5] at hch2;exact ⟨(k+1,m'),⟨by simp only;omega,hmg'⟩,by simp only;omega,Weak.mk (by simp (disch:=omega) only [Zb,Zo,Xg,Wr,hch2,Int.add_zero,go_sem,seval])⟩
     ·rw [if_neg (by rw [h5];simp)] at hch2;exact ⟨(k+1,m'),⟨by simp only;omega,hmg'⟩,by simp only;omega,Weak.mk (by simp (disch:=omega) only [Zb,Zo,Xg,Wr,hch2,Int.add_zero,go_sem,seval])⟩
  ·have hkl:k=r.visits.length:=by omega
   subst hkl
   rfl
end Go.Proofs.YtcpmilhkineciaaGreatDoor.K
set_option linter.unusedVariables false
set_option linter.unusedSimpArgs false
namespace Go.Proofs.YtcpmilhkineciaaGreatDoor.K
open Go Go.AM Go.Proofs
set_option maxRecDepth 8000
set_option maxHeartbeats 8000000
@[go_sem] theorem Zos {f:FuncId} :(PV.fn f).cells= [.fn f]:=Eq.trans rfl rfl
def Zli : AM.Obj:= .cells [.p (.bool false),.p (.int .i64 0),.p (.list true []),.p (.int .i64 0),.p (.int .i64 0)]
theorem Zcm (x:Inst) (r:Rte) (hx:InstOk x) (hl:r.visits.length<=1048576) (hrl:r.rests.length<=1048576):ACalls Tryz.prog 165 [.p (ZK x),.p (Xl r)] [] fun y H'=>y=QS x r/\H'= []:=by
 have hld:=Wa hx;have htl:=hld.typ;have hol:=hld.ord;have chk:=ZiE x r hx hl
 have htb:x.types.length<=6:=by have:=hx.types.1;simp only [rng,decide_eq_true_eq] at this;omega
 refine Zd [] Tryz.func165 rfl Zpa ?_;simp (disch:=omega) only [Tryz.f165,go_sem,seval];refine gF ?_ ?_<;>intro h1<;>simp (disch:=omega) only [Sh.out h1,go_sem,seval]
 ·have e:XD x r=2:=by rw [XD,if_pos (by omega)]
  rw [Xc (e:=2) (by rw [ZZ,e];rfl) (by omega)];exact we (by simp (disch:=omega) only [zShe,zSco,List.map_nil,go_sem,seval])
 ·refine cD ?_ ?_<;>intro h2<;>simp (disch:=omega) only [Sh.out h2,go_sem,seval]
  ·have e:XD x r=2:=by rw [XD,if_pos (by omega)]
   rw [Xc (e:=2) (by rw [ZZ,e];rfl) (by omega)];exact we (by simp (disch:=omega) only [zShe,zSco,List.map_nil,go_sem,seval])
  ·have hty:0<=r.typ/\r.typ<(x.types.length:Int):=by omega
   have hti:r.typ.toNat<x.types.length:=by omega
   have hnum:=V9 hx hti;have htyp:nth x.types r.typ.toNat=Z2 x r:=rfl;rw [htyp] at hnum
   have hsk: ∀o∈x.orders,o.skills<9223372036854775808:=fun o hm=>by
    obtain ⟨i,hi,rfl⟩:=List.mem_iff_getElem.1 hm;have:=(hx.orders.2 i hi).skills;rw [Zf hi] at this;omega
   refine Zg [2,3,4,5,25,26] (fun k:Nat=> [(27,.p (.int .i64 k))]) (fun _=> [Zb x,Zo r,Zli,Wr 0 0 0 0,.elems 1 [.fn 219,.fn 220,.fn 221]])
    (fun k=>k<=3/\(0<k->ZW x r.visits=0)/\(1<k-> ¬(r.visits.any fun v=> !Yc (Z2 x r) (nth x.orders v.order.toNat).skills)=true)/\(2<k->Ve x (Z2 x r).cap r.visits=true)) (fun k=>3-k) 0 ⟨by omega,by omega,by omega,by omega⟩ (Weak.mk ?_) ?_
   ·simp (disch:=omega) only [Zb,Zo,Wr,Zli,go_sem,seval]
   ·rintro k ⟨hk,k1,k2,k3⟩;simp (disch:=omega) only [Zb,Zo,Wr,Zli,go_sem,seval];refine cD ?_ ?_<;>intro h3<;>simp (disch:=omega) only [Sh.out h3,go_sem,seval]
    ·by_cases hk0:k=0
     ·subst hk0;have he:elt [PV.fn 219,PV.fn 220,PV.fn 221] 0=PV.fn 219:=rfl;simp (disch:=first | omega | (simp only [List.length_cons,List.length_nil,List.length_append,List.length_map,List.length_take,List.length_drop]<;>omega)) only [he,go_sem,seval];refine (chk).use ?_;simp (disch:=omega) only [go_sem,seval];refine cD ?_ ?_<;>intro h4<;>simp (disch:=omega) only [Sh.out h4,go_sem,seval]
      ·have e:XD x r=ZW x r.visits:=by rw [XD,if_neg (fun h=>h hty),if_pos h4]
       rw [Xc (e:=ZW x r.visits) (by rw [ZZ,e,if_neg h4]) h4];exact we (by simp (disch:=omega) only [zShe,zSco,List.map_nil,go_sem,seval])
      ·exact ⟨1,⟨by omega,fun _=>by omega,by omega,by omega⟩,by omega,Weak.mk (by simp (disch:=omega) only [Zb,Zo,Wr,Zli,go_sem,seval])⟩
     ·have h0:=k1 (by omega);have hsq:=Yt h0
      have hr0:XD x r=if (r.visits.any fun v=> !Yc (Z2 x r) (nth x.orders v.order.toNat).skills)=true then 18 else if Ve x (Z2 x r).cap r.visits=false then 17 else if ¬(0<=r.start/\r.start<=4096/\r.rests.length<=r.visits.length+1) then 2 else 0:=by
       rw [XD,if_neg (fun h=>h hty),if_neg (by omega)]
      by_cases hk1:k=1
      ·subst hk1;have he:elt [PV.fn 219,PV.fn 220,PV.fn 221] 1=PV.fn 220:=rfl;simp (disch:=first | omega | (simp only [List.length_cons,List.length_nil,List.length_append,List.length_map,List.length_take,List.length_drop]<;>omega)) only [he,go_sem,seval];refine (ZgP x r hty (fun v hv=>by have:=hsq.inr v hv;simp [inB,this.1,this.2]) hl htl (by omega) (by omega) hsk).use ?_;simp (disch:=omega) only [go_sem,seval]
       by_cases h5:(r.visits.any fun v=> !Yc (Z2 x r) (nth x.orders v.order.toNat).skills)=true
       ·rw [if_pos h5] at hr0 ⊢;rw [Xc (e:=18) (by rw [ZZ,hr0];rfl) (by omega)];simp (disch:=omega) only [go_sem,seval];exact we (by simp (disch:=omega) only [zShe,zSco,List.map_nil,go_sem,seval])
       ·rw [if_neg h5];simp (disch:=omega) only [go_sem,seval];exact ⟨2,⟨by omega,fun _=>h0,fun _=>h5,by omega⟩,by omega,Weak.mk (by simp (disch:=omega) only [Zb,Zo,Wr,Zli,go_sem,seval])⟩
      ·have hk2:k=2:=by omega
       subst hk2;have he:elt [PV.fn 219,PV.fn 220,PV.fn 221] 2=PV.fn 221:=rfl;simp (disch:=first | omega | (simp only [List.length_cons,List.length_nil,List.length_append,List.length_map,List.length_take,List.length_drop]<;>omega)) only [he,go_sem,seval];refine (ZgU x r hx hl hty h0).use ?_;simp (disch:=omega) only [go_sem,seval];rw [if_neg (k2 (by omega))] at hr0
       cases h5:Ve x (Z2 x r).cap r.visits with
       | false =>
        rw [if_pos h5] at hr0;rw [Xc (e:=17) (by rw [ZZ,hr0];rfl) (by omega)];simp only [Bool.false_eq_true,if_false];simp (disch:=omega) only [go_sem,seval];exact we (by simp (disch:=omega) only [zShe,zSco,List.map_nil,go_sem,seval])
       | true =>
        simp only [if_true];simp (disch:=omega) only [go_sem,seval];exact ⟨3,⟨by omega,fun _=>h0,fun _=>k2 (by omega),fun _=>by first | exact h5 | trivial⟩,by omega,Weak.mk (by simp (disch:=omega) only [Zb,Zo,Wr,Zli,go_sem,seval])⟩
    ·have hk3:k=3:=by omega
     subst hk3;have h0:=k1 (by omega);have hsq:=Yt h0
     have hr0:XD x r=if ¬(0<=r.start/\r.start<=4096/\r.rests.length<=r.visits.length+1) then 2 else 0:=by
      rw [XD,if_neg (fun h=>h hty),if_neg (by omega),if_neg (k2 (by omega)),if_neg (by rw [k3 (by omega)];simp)]
     have cb:=Zi6 x r hx hl hrl hty h0;have hok:=V1 hx hty hsq
     have hbr:VF x r=Xf x r->(Xf x r).2=0->(0<=r.start/\r.start<=4096/\r.rests.length<=r.visits.length+1)->(0<=(Xf x r).1.fin/\(Xf x r).1.fin<=8192)/\(0<=(Xf x r).1.miles/\(Xf x r).1.miles<=210000):=fun _ hz hs =>
      Za2 hok ⟨hs.1,hs.2.1⟩ (by rw [Xe];exact hs.2.2) hz
     by_cases h6:0<=r.start/\r.start<=4096/\r.rests.length<=r.visits.length+1
     ·have e:XD x r=0:=by rw [hr0,if_neg (fun h=>h h6)]
      have ee:ZZ x r=(Xf x r).2:=by rw [ZZ,if_pos e]
      have eb:VF x r=Xf x r:=by rw [VF,if_pos h6]
      have hbr:=fun hz=>hbr eb hz h6;rw [eb] at cb
      have es:Xn x r=if (Xf x r).2=0 then (Xf x r).1 else zShe:=by rw [Xn,ee]
      have ep:JX x r=if (Xf x r).2=0 then Zkb x r (Xf x r).1 else zSco:=by rw [JX,ee]
      unfold QS;rw [ee,es,ep];clear ee es ep eb
      generalize Xf x r=q at *
      obtain ⟨sh,eb⟩:=q;simp only at cb hbr ⊢;refine Xi cb ?_;simp (disch:=omega) only [go_sem,seval];refine cD ?_ ?_<;>intro h7<;>simp (disch:=omega) only [Sh.out h7,go_sem,seval]
      ·exact we (by simp (disch:=omega) only [zShe,zSco,List.map_nil,go_sem,seval])
      ·have h7':eb=0:=by omega
       try rw [if_pos h7',if_pos h7']
       subst h7';obtain ⟨g1,g2⟩:=hbr rfl;refine Zy 5 Zp (by kernel_rfl) (by kernel_rfl) ?_;simp (disch:=omega) only [go_sem,seval];refine Zn (Zg5 x r sh hty (by omega) htl hl hsq.inr hnum.2.2.2.1 (by omega) (by omega) (by omega)) ?_;simp (disch:=omega) only [go_sem,seval];exact we
     ·have e:XD x r=2:=by rw [hr0,if_pos h6]
      have eb:VF x r=(zShe,2):=by rw [VF,if_neg h6]
      rw [Xc (e:=2) (by rw [ZZ,e];rfl) (by omega)];rw [eb] at cb;refine Xi cb ?_;simp (disch:=omega) only [go_sem,seval];exact we (by simp (disch:=omega) only [zShe,zSco,List.map_nil,go_sem,seval])
theorem Zg1 (x:Inst) (r:Rte) (hx:InstOk x) (hl:r.visits.length<=1048576) (hrl:r.rests.length<=1048576):PC 113 [.p (ZK x),.p (Xl r)] (.int .i64 (ZZ x r)):=by
 have ce:=Zcm x r hx hl hrl;refine Za Tryz.func113 rfl ZoJ ?_;simp (disch:=omega) only [Tryz.f113,go_sem,seval];unfold QS at ce;refine ZcG ce ?_;simp (disch:=omega) only [go_sem,seval]
theorem Wk {x:Inst} {r:Rte} (h:ZZ x r=0):XD x r=0:=by
 unfold ZZ at h
 split at h
 ·assumption
 ·rename_i c;exact absurd h c
theorem Y5 {x:Inst} {r:Rte} (h:XD x r=0):(0<=r.typ/\r.typ<(x.types.length:Int))/\ZW x r.visits=0/\(0<=r.start/\r.start<=4096/\r.rests.length<=r.visits.length+1):=by
 unfold XD at h
 split at h
 ·simp at h
 ·rename_i c1
  split at h
  ·rename_i c2;exact absurd h c2
  ·rename_i c2
   split at h
   ·simp at h
   ·split at h
    ·simp at h
    ·split at h
     ·simp at h
     ·rename_i c5;exact ⟨by omega,by omega,Classical.not_not.1 c5⟩
end Go.Proofs.YtcpmilhkineciaaGreatDoor.K
