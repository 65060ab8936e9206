/- Declarations that the closing texts need, part 19: joined by tools/slim.py. -/
import Derived.Test.YtbdmjphjnniogaaGreatDoorZ18
set_option linter.unusedVariables false
set_option linter.unusedSimpArgs false
namespace Go.Proofs.YtbdmjphjnniogaaGreatDoor.K
open Go Go.AM Go.Proofs
set_option maxRecDepth 60000
set_option maxHeartbeats 8000000
def rtB (r:Rte):Bool:=decide (r.visits.length<=8)&&decide (r.rests.length<=9)
def smB (p:Pln):Bool:=(decide (p.routes.length<=4)&&decide (p.unserved.length<=6))&&p.routes.all rtB
def plB (l:List Pln):Bool:=decide (l.length<=4)&&l.all smB
theorem Zpa {l:List Pln} {k:Nat} (hk:k<l.length) (h:smB (nth l k)=false):plB l=false:=by
 rw [plB,Bool.and_eq_false_iff];exact .inr (List.all_eq_false.2 ⟨_,Zl hk,by rw [h];simp⟩)
theorem Zn7 {p:Pln} {k:Nat} (hk:k<p.routes.length) (h:rtB (nth p.routes k)=false):smB p=false:=by
 rw [smB,Bool.and_eq_false_iff];exact .inr (List.all_eq_false.2 ⟨_,Zl hk,by rw [h];simp⟩)
theorem Zzg {α:Type} [Inhabited α] {f:α->Bool} {l:List α} (h: ∀j,j<l.length->f (nth l j)=true):l.all f=true:=by
 rw [List.all_eq_true];intro r hr;obtain ⟨j,hj,rfl⟩:=List.mem_iff_getElem.1 hr;have:=h j hj;rwa [Ze hj] at this
theorem ZfF (l:List Pln) (c:Bool) (hl:l.length<=1048576) (hw: ∀p∈l,p.wf 1048576) :
  PC 11 [.p (.list c (l.map Qw))] (.bool (plB l)):=by
 refine Zb Tryz.func11 rfl Zun ?_;simp (disch:=omega) only [Tryz.f11,go_sem,seval];refine cD ?_ ?_<;>intro h<;>simp (disch:=omega) only [Sh.out h,go_sem,seval]
 ·have:plB l=false:=by rw [plB,decide_eq_false (by omega)];rfl
  rw [this]
 ·refine Zf [0] (fun k:Nat=> [(3,.p (.int .i64 k))]) (fun _=> []) (fun k=>k<=l.length/\ ∀j,j<k->smB (nth l j)=true) (fun k=>l.length-k) 0 (by simp) (Weak.mk ?_) ?_
  ·simp (disch:=omega) only [go_sem,seval]
  ·rintro k ⟨hk,hno⟩;simp (disch:=omega) only [go_sem,seval];refine cD ?_ ?_<;>intro h1<;>simp (disch:=omega) only [Sh.out h1,go_sem,seval]
   ·have hk2:k<l.length:=by omega
    obtain ⟨w1,w2,w3,w4⟩:=hw _ (Zl hk2);have hbad:=Zpa hk2;refine gF ?_ ?_<;>intro h2<;>simp (disch:=omega) only [Sh.out h2,go_sem,seval]
    ·rw [hbad (by rw [smB,decide_eq_false (by omega)];rfl)]
    ·refine cD ?_ ?_<;>intro h3<;>simp (disch:=omega) only [Sh.out h3,go_sem,seval]
     ·rw [hbad (by rw [smB,decide_eq_false (p:=(nth l k).unserved.length<=6) (by omega),Bool.and_false];rfl)]
     ·refine Zf [0,3] (fun q:Nat=> [(4,.p (.int .i64 q))]) (fun _=> []) (fun q=>q<=(nth l k).routes.length/\ ∀j,j<q->rtB (nth (nth l k).routes j)=true) (fun q=>(nth l k).routes.length-q) 0 (by simp) (Weak.mk ?_) ?_
      ·simp (disch:=omega) only [go_sem,seval]
      ·rintro q ⟨hq,hin⟩;simp (disch:=omega) only [go_sem,seval];refine cD ?_ ?_<;>intro h4<;>simp (disch:=omega) only [Sh.out h4,go_sem,seval]
       ·have hq2:q<(nth l k).routes.length:=by omega
        obtain ⟨_,_,u1,_,u2,_⟩:=w2 _ (Zl hq2);have hb2:=Zn7 hq2;refine gF ?_ ?_<;>intro h5<;>simp (disch:=omega) only [Sh.out h5,go_sem,seval]
        ·rw [hbad (hb2 (by rw [rtB,decide_eq_false (by omega)];rfl))]
        ·refine cD ?_ ?_<;>intro h6<;>simp (disch:=omega) only [Sh.out h6,go_sem,seval]
         ·rw [hbad (hb2 (by rw [rtB,decide_eq_false (p:=(nth (nth l k).routes q).rests.length<=9) (by omega),Bool.and_false]))]
         ·exact ⟨q+1,⟨by omega,Zg.2 ⟨hin,by rw [rtB,Bool.and_eq_true,decide_eq_true_eq,decide_eq_true_eq];omega⟩⟩,by omega,wk⟩
       ·have hql:q=(nth l k).routes.length:=by omega
        subst hql
        have hgood:smB (nth l k)=true:=by
         rw [smB,Zzg hin,Bool.and_true,Bool.and_eq_true,decide_eq_true_eq,decide_eq_true_eq];omega
        exact ⟨k+1,⟨by omega,Zg.2 ⟨hno,hgood⟩⟩,by omega,wk⟩
   ·have hkl:k=l.length:=by omega
    subst hkl
    have:plB l=true:=by rw [plB,Zzg hno,Bool.and_true,decide_eq_true_eq];omega
    rw [this]
def Qu (l:List Pt) (t:Int) (i:Nat):Bool:=decide ((nth l i).t<=t)&&decide (t<(nth l (i+1)).t)
def Zjf (p q:Pt) (t:Int):Int:=p.a+((t-p.t)*(q.a-p.a)+q.t-p.t-1) / (q.t-p.t)
def Ka (l:List Pt) (t:Int):Int:=match (List.range (l.length-1)).find? (Qu l t) with
 | some i=>Zjf (nth l i) (nth l (i+1)) t
 | none=>if (nth l 0).t<t then t+(nth l (l.length-1)).a-(nth l (l.length-1)).t else t+(nth l 0).a-(nth l 0).t
theorem ZaX {l:List Pt} {t:Int} {i:Nat} (hi:i+1<l.length) (hno: ∀j,j<i->Qu l t j=false) (h:Qu l t i=true):Ka l t=Zjf (nth l i) (nth l (i+1)) t:=by
 have:(List.range (l.length-1)).find? (Qu l t)=some i:=by
  rw [List.find?_eq_some_iff_getElem];refine ⟨h,i,by simp;omega,by simp,fun j hj=> ?_⟩;simp [hno j hj]
 rw [Ka,this]
theorem JJ {l:List Pt} {t:Int} (hno: ∀j,j+1<l.length->Qu l t j=false):Ka l t=if (nth l 0).t<t then t+(nth l (l.length-1)).a-(nth l (l.length-1)).t else t+(nth l 0).a-(nth l 0).t:=by
 have:(List.range (l.length-1)).find? (Qu l t)=none:=by
  rw [List.find?_eq_none];intro j hj;simp at hj;rw [hno j (by omega)];simp
 rw [Ka,this]
theorem Jf {p q:Pt} {t:Int} (h1:p.t<=t) (h2:t<q.t) (hp:0<=p.t) (hq:q.t<=4096) (ha:p.a<=q.a) (hpa:0<=p.a) (hqa:q.a<=8192):0<=(t-p.t)*(q.a-p.a)/\(t-p.t)*(q.a-p.a)<=33554432:=by
 refine ⟨Int.mul_nonneg (by omega) (by omega),?_⟩;have:(t-p.t)*(q.a-p.a)<=4096*8192:=Int.mul_le_mul (by omega) (by omega) (by omega) (by omega);omega
theorem ZcC (l:List Pt) (c:Bool) (t:Int) (hl:YD l) (ht:0<=t/\t<=1073741824):PC 275 [.p (.list c (l.map ePt)),.p (.int .i64 t)] (.int .i64 (Ka l t)):=by
 obtain ⟨⟨hl1,hl2⟩,hpt⟩:=hl;refine Zb Tryz.func275 rfl Zoa ?_;simp (disch:=omega) only [Tryz.f275,go_sem,seval];refine ((Zi0 l c (by omega)).frozenE).useV fun m hm=> ?_;simp (disch:=omega) only [go_sem,seval]
 have hm0:m.length=0:=by rw [hm.emp.2 ⟨⟨hl1,hl2⟩,hpt⟩];rfl
 have e1: ¬t<0:=by omega
 have e2: ¬ 1073741824<t:=by omega
 simp (disch:=omega) only [hm0,e1,e2,go_sem,seval];refine Zf [0,1] (fun k:Nat=> [(5,.p (.int .i64 k))]) (fun _=> []) (fun k=>k<l.length/\ ∀j,j<k->Qu l t j=false) (fun k=>l.length-k) 0 (by simp;omega) (Weak.mk ?_) ?_
 ·simp (disch:=omega) only [go_sem,seval]
 ·rintro k ⟨hk,hno⟩;simp (disch:=omega) only [go_sem,seval];refine cD ?_ ?_<;>intro h<;>simp (disch:=omega) only [Sh.out h,go_sem,seval]
  ·have hk2:k+1<l.length:=by omega
   obtain ⟨⟨p1,p2,p3,p4⟩,_⟩:=hpt k hk;obtain ⟨⟨q1,q2,q3,q4⟩,q5⟩:=hpt (k+1) hk2;obtain ⟨r1,r2⟩:=q5 (by omega);rw [Nat.add_sub_cancel] at r1 r2;refine gT ?_ ?_<;>intro h2<;>simp (disch:=omega) only [Sh.out h2,go_sem,seval]
   ·refine cD ?_ ?_<;>intro h3<;>simp (disch:=omega) only [Sh.out h3,go_sem,seval]
    ·have hsg:Qu l t k=true:=by simp [Qu,h2,h3]
     rw [ZaX hk2 hno hsg];obtain ⟨s1,s2⟩:=Jf h2 h3 p1 q2 r2 (by omega) (by omega);have d1:0<=((t-(nth l k).t)*((nth l (k+1)).a-(nth l k).a)+(nth l (k+1)).t-(nth l k).t-1) / ((nth l (k+1)).t-(nth l k).t):=Int.ediv_nonneg (by omega) (by omega);have d2:((t-(nth l k).t)*((nth l (k+1)).a-(nth l k).a)+(nth l (k+1)).t-(nth l k).t-1) / ((nth l (k+1)).t-(nth l k).t)<=33558528:=Int.le_trans (Int.ediv_le_self _ (by omega)) (by omega)
     have d3: ¬(nth l (k+1)).t-(nth l k).t=0:=by omega
     simp only [Zjf];refine Zh Zm (by kernel_rfl) (by kernel_rfl) ?_;simp (disch:=omega) only [d3,go_sem,seval]
    ·have hsg:Qu l t k=false:=by simp [Qu,h3]
     exact ⟨k+1,⟨by omega,Zg.2 ⟨hno,hsg⟩⟩,by omega,wk⟩
   ·have hsg:Qu l t k=false:=by simp [Qu,h2]
    exact ⟨k+1,⟨by omega,Zg.2 ⟨hno,hsg⟩⟩,by omega,wk⟩
  ·have hkl:k+1=l.length:=by omega
   rw [JJ (fun j hj=>hno j (by omega))];obtain ⟨⟨p1,p2,p3,p4⟩,_⟩:=hpt 0 (by omega);obtain ⟨⟨q1,q2,q3,q4⟩,_⟩:=hpt (l.length-1) (by omega)
   have i1:((l.length:Int)-1).toNat=l.length-1:=by omega
   refine cD ?_ ?_<;>intro h2<;>simp (disch:=omega) only [Sh.out h2,go_sem,seval]
theorem ZI {α:Type} [Inhabited α] {l:List α} {i:Nat} (h:i<l.length):nth l i∈l:=by rw [Ze h];exact List.getElem_mem h
def Zto (a:Arc):Prop:=YD a.travel/\a.slow.length<=16/\ ∀p∈a.slow,0<=p.t/\p.t<=4096/\0<=p.a/\p.a<=4096
def Ub (l:List Pt) (t:Int) (k:Nat):Int:=(l.take k).foldl (fun s p=>if p.t<=t then s+p.a else s) 0
def ZiA (a:Arc) (t:Int):Int:=Ka a.travel t+Ub a.slow t a.slow.length
theorem VE {l:List Pt} {t:Int} {k:Nat} (h:k<l.length):Ub l t (k+1)=if (nth l k).t<=t then Ub l t k+(nth l k).a else Ub l t k:=by
 rw [Ub,List.take_succ_eq_append_getElem h,List.foldl_append,Ze h];rfl
theorem Vm {l:List Pt} {t:Int} (hl: ∀p∈l,0<=p.a/\p.a<=4096): ∀k,k<=l.length->0<=Ub l t k/\Ub l t k<=4096*k
 | 0,_=>by simp [Ub]
 | k+1,h=>by
  have ih:=Vm (t:=t) hl k (by omega);have hp:=hl _ (ZI (show k<l.length by omega));rw [VE (by omega)]
  split<;>omega
theorem Je {l:List Pt} {t:Int} (hl:YD l) (ht:0<=t/\t<=1073741824):0<=Ka l t/\Ka l t<=1107304448:=by
 obtain ⟨⟨hl1,hl2⟩,hpt⟩:=hl;unfold Ka
 split
 ·rename_i i hi;have hm:=List.mem_of_find?_eq_some hi;have hs:=List.find?_some hi;simp at hm;simp only [Qu,Bool.and_eq_true,decide_eq_true_eq] at hs;obtain ⟨⟨p1,p2,p3,p4⟩,_⟩:=hpt i (by omega);obtain ⟨⟨q1,q2,q3,q4⟩,q5⟩:=hpt (i+1) (by omega);obtain ⟨r1,r2⟩:=q5 (by omega);rw [Nat.add_sub_cancel] at r1 r2;obtain ⟨s1,s2⟩:=Jf hs.1 hs.2 p1 q2 r2 (by omega) (by omega);have d1:0<=((t-(nth l i).t)*((nth l (i+1)).a-(nth l i).a)+(nth l (i+1)).t-(nth l i).t-1) / ((nth l (i+1)).t-(nth l i).t):=Int.ediv_nonneg (by omega) (by omega);have d2:((t-(nth l i).t)*((nth l (i+1)).a-(nth l i).a)+(nth l (i+1)).t-(nth l i).t-1) / ((nth l (i+1)).t-(nth l i).t)<=33558528:=Int.le_trans (Int.ediv_le_self _ (by omega)) (by omega)
  unfold Zjf;omega
 ·obtain ⟨⟨p1,p2,p3,p4⟩,_⟩:=hpt 0 (by omega);obtain ⟨⟨q1,q2,q3,q4⟩,_⟩:=hpt (l.length-1) (by omega)
  split<;>omega
theorem Zcw (a:Arc) (t:Int) (ha:Zto a) (ht:0<=t/\t<=1073741824):PC 270 [.p (QV a),.p (.int .i64 t)] (.int .i64 (ZiA a t)):=by
 obtain ⟨h1,h2,h3⟩:=ha;have hr:=Je h1 ht;have hs:=Vm (t:=t) (fun p hp=>(h3 p hp).2.2);refine Zb Tryz.func270 rfl Zo5 ?_;simp (disch:=omega) only [Tryz.f270,go_sem,seval];refine (ZcC a.travel a.travel_c t h1 ht).use ?_;simp (disch:=omega) only [go_sem,seval];refine Zf [1,2] (fun k:Nat=> [(5,.p (.int .i64 (Ka a.travel t+Ub a.slow t k))),(6,.p (.int .i64 k))]) (fun _=> [XP a]) (fun k=>k<=a.slow.length) (fun k=>a.slow.length-k) 0 (by simp) (Weak.mk ?_) ?_
 ·simp (disch:=omega) only [XP,Ub,List.foldl_nil,go_sem,seval];simp
 ·intro k hk;have hsk:=hs k hk;simp (disch:=omega) only [XP,go_sem,seval];refine cD ?_ ?_<;>intro h<;>simp (disch:=omega) only [Sh.out h,go_sem,seval]
  ·have hk2:k<a.slow.length:=by omega
   have hp:=h3 _ (ZI hk2);have hsn:=VE (t:=t) hk2;refine cD ?_ ?_<;>intro h4<;>simp (disch:=omega) only [Sh.out h4,go_sem,seval]
   ·rw [if_pos h4] at hsn;exact ⟨k+1,by omega,by omega,Weak.mk (by simp (disch:=omega) only [XP,hsn,Int.add_assoc,go_sem,seval])⟩
   ·rw [if_neg h4] at hsn;exact ⟨k+1,by omega,by omega,Weak.mk (by simp (disch:=omega) only [XP,hsn,go_sem,seval])⟩
  ·have hkl:k=a.slow.length:=by omega
   subst hkl;simp only [ZiA]
theorem Zcz {g:FuncId} {args:List V} {a b c:PV} {H:List AM.Obj} {K:V->List AM.Obj->Prop} (h:ACalls Tryz.prog g args [] fun x H'=>x= .tup [.p a,.p b,.p c]/\H'= []) (k:K (.tup [.p a,.p b,.p c]) H) (ha:ZT 0 args=true:=by rfl):ACalls Tryz.prog g args H K :=
 (h.behind ha H).mono fun x H' hq=>by
  obtain ⟨y,H1,⟨rfl,rfl⟩,rfl,rfl⟩:=hq;simpa [shV,Zar] using k
theorem Xn {g:FuncId} {args:List V} {a b:PV} {H:List AM.Obj} {K:V->List AM.Obj->Prop} (h:ACalls Tryz.prog g args [] fun x H'=>x= .tup [.p a,.p b]/\H'= []) (k:K (.tup [.p a,.p b]) H) (ha:ZT 0 args=true:=by rfl):ACalls Tryz.prog g args H K :=
 (h.behind ha H).mono fun x H' hq=>by
  obtain ⟨y,H1,⟨rfl,rfl⟩,rfl,rfl⟩:=hq;simpa [shV,Zar] using k
def V2 (n:Net) (p:Int):Bool:=decide (0<=p)&&decide (p<(n.places.length:Int))
theorem J7 (n:Net) (p:Int) (hn:n.places.length<=1048576):PC 268 [.p (ZbU n),.p (.int .i64 p)] (.bool (V2 n p)):=by
 refine Zb Tryz.func268 rfl ZpJ ?_;simp (disch:=omega) only [Tryz.f268,go_sem,seval];refine gT ?_ ?_<;>intro h<;>simp (disch:=omega) only [Sh.out h,go_sem,seval]
 ·simp [V2,h]
 ·simp [V2,h]
def Yw (pr f t:Int) (a:Arc):Bool:=decide (a.src=f)&&decide (a.dst=t)&&decide (a.prof=pr)
def XL : Arc:=⟨0,0,0,0,true,[],true,[]⟩
def Yh (n:Net) (pr f t:Int):Arc×Bool:=match n.arcs.find? (Yw pr f t) with | some a=>(a,true) | none=>(XL,false)
theorem Zbm {n:Net} {pr f t:Int} {k:Nat} (hk:k<n.arcs.length) (hno: ∀j,j<k->Yw pr f t (nth n.arcs j)=false) (h:Yw pr f t (nth n.arcs k)=true):Yh n pr f t=(nth n.arcs k,true):=by
 have:n.arcs.find? (Yw pr f t)=some (nth n.arcs k):=by
  rw [List.find?_eq_some_iff_getElem];refine ⟨h,k,hk,by rw [Ze hk],fun j hj=> ?_⟩;have:=hno j hj;rw [Ze (by omega)] at this;simp [this]
 rw [Yh,this]
theorem Zbb {n:Net} {pr f t:Int} (hno: ∀j,j<n.arcs.length->Yw pr f t (nth n.arcs j)=false):Yh n pr f t=(XL,false):=by
 have:n.arcs.find? (Yw pr f t)=none:=by
  rw [List.find?_eq_none];intro a ha;obtain ⟨j,hj,rfl⟩:=List.mem_iff_getElem.1 ha;have:=hno j hj;rw [Ze hj] at this;simp [this]
 rw [Yh,this]
theorem Zhp (n:Net) (pr f t:Int) (hn:n.arcs.length<=1048576):PT 269 [.p (ZbU n),.p (.int .i64 pr),.p (.int .i64 f),.p (.int .i64 t)] [.p (QV (Yh n pr f t).1),.p (.bool (Yh n pr f t).2)]:=by
 refine Zd [] Tryz.func269 rfl ZmM ?_;simp (disch:=omega) only [Tryz.f269,go_sem,seval];refine Zf [1,2,3,4,8] (fun k:Nat=> [(10,.p (.int .i64 k))]) (fun _=>Zz n++ [XP XL]) (fun k=>k<=n.arcs.length/\ ∀j,j<k->Yw pr f t (nth n.arcs j)=false) (fun k=>n.arcs.length-k) 0 (by simp) (Weak.mk ?_) ?_
 ·simp (disch:=omega) only [Zz,XP,XL,List.map_nil,List.cons_append,List.nil_append,go_sem,seval]
 ·rintro k ⟨hk,hno⟩;simp (disch:=omega) only [Zz,XP,XL,List.map_nil,List.cons_append,List.nil_append,go_sem,seval];refine cD ?_ ?_<;>intro h<;>simp (disch:=omega) only [Sh.out h,go_sem,seval]
  ·have hk2:k<n.arcs.length:=by omega
   have nx:Yw pr f t (nth n.arcs k)=false-> ∀j,j<k+1->Yw pr f t (nth n.arcs j)=false:=fun h=>Zg.2 ⟨hno,h⟩;refine gT ?_ ?_<;>intro h1<;>simp (disch:=omega) only [Sh.out h1,go_sem,seval]
   ·refine gT ?_ ?_<;>intro h2<;>simp (disch:=omega) only [Sh.out h2,go_sem,seval]
    ·refine cD ?_ ?_<;>intro h3<;>simp (disch:=omega) only [Sh.out h3,go_sem,seval]
     ·have e:=Zbm hk2 hno (by simp [Yw,h1,h2,h3]);rw [e];exact we
     ·exact ⟨k+1,⟨by omega,nx (by simp [Yw,h3])⟩,by omega,Weak.mk (by simp (disch:=omega) only [Zz,XP,XL,List.map_nil,List.cons_append,List.nil_append,go_sem,seval])⟩
    ·exact ⟨k+1,⟨by omega,nx (by simp [Yw,h2])⟩,by omega,Weak.mk (by simp (disch:=omega) only [Zz,XP,XL,List.map_nil,List.cons_append,List.nil_append,go_sem,seval])⟩
   ·exact ⟨k+1,⟨by omega,nx (by simp [Yw,h1])⟩,by omega,Weak.mk (by simp (disch:=omega) only [Zz,XP,XL,List.map_nil,List.cons_append,List.nil_append,go_sem,seval])⟩
  ·have hkn:k=n.arcs.length:=by omega
   subst hkn;rw [Zbb hno];exact we (by simp (disch:=omega) only [XL,List.map_nil,go_sem,seval])
def goN (n:Net) (pr f t τ:Int):Int×Int×Int :=
 if (V2 n f&&V2 n t)=false then (0,0,11) else if f=t then (τ,0,0) else if (Yh n pr f t).2=true then (ZiA (Yh n pr f t).1 τ,(Yh n pr f t).1.miles,0) else (0,0,12)
def netR (n:Net):Prop:=n.places.length<=1048576/\n.arcs.length<=1048576/\ ∀a∈n.arcs,Zto a
theorem UV {n:Net} {pr f t:Int} (h:(Yh n pr f t).2=true):(Yh n pr f t).1∈n.arcs:=by
 unfold Yh at h ⊢
 cases hf:n.arcs.find? (Yw pr f t) with
 | none=>rw [hf] at h;simp at h
 | some a=>exact List.mem_of_find?_eq_some hf
theorem Zpm (n:Net) (pr f t τ:Int) (hn:netR n) (hτ:0<=τ/\τ<=1073741824):PT 262 [.p (ZbU n),.p (.int .i64 pr),.p (.int .i64 f),.p (.int .i64 t),.p (.int .i64 τ)] [.p (.int .i64 (goN n pr f t τ).1),.p (.int .i64 (goN n pr f t τ).2.1),.p (.int .i64 (goN n pr f t τ).2.2)]:=by
 refine Zd [] Tryz.func262 rfl Zqv ?_;simp (disch:=omega) only [Tryz.f262,go_sem,seval];refine (J7 n f hn.1).use ?_;simp (disch:=omega) only [go_sem,seval];refine gF ?_ ?_<;>intro h1<;>simp (disch:=omega) only [Sh.out h1,go_sem,seval]
 ·have e:goN n pr f t τ=(0,0,11):=by simp only [Bool.not_eq_true'] at h1;simp [goN,h1]
  rw [e];exact we
 ·simp only [Bool.not_eq_false'] at h1;refine (J7 n t hn.1).use ?_;simp (disch:=omega) only [go_sem,seval];refine cD ?_ ?_<;>intro h2<;>simp (disch:=omega) only [Sh.out h2,go_sem,seval]
  ·have e:goN n pr f t τ=(0,0,11):=by simp only [Bool.not_eq_true'] at h2;simp [goN,h2]
   rw [e];exact we
  ·simp only [Bool.not_eq_false'] at h2;refine cD ?_ ?_<;>intro h3<;>simp (disch:=omega) only [Sh.out h3,go_sem,seval]
   ·have e:goN n pr f t τ=(τ,0,0):=by simp [goN,h1,h2,h3]
    rw [e];exact we
   ·have cf:=Zhp n pr f t hn.2.1;have hm:= @UV n pr f t
    have e0:goN n pr f t τ=if (Yh n pr f t).2=true then (ZiA (Yh n pr f t).1 τ,(Yh n pr f t).1.miles,0) else (0,0,12):=by simp [goN,h1,h2,h3]
    rw [e0];generalize Yh n pr f t=A at cf hm ⊢;obtain ⟨a,b⟩:=A;simp only at cf hm ⊢;refine Xn cf ?_;simp (disch:=omega) only [go_sem,seval];refine cD ?_ ?_<;>intro h4<;>simp (disch:=omega) only [Sh.out h4,go_sem,seval]
    ·have hb:b=false:=by simpa using h4
     subst hb;exact we
    ·have hb:b=true:=by simpa using h4
     subst hb;refine Zh Zm (by kernel_rfl) (by kernel_rfl) ?_;simp (disch:=omega) only [go_sem,seval];refine Zs (Zcw a τ (hn.2.2 a (hm rfl)) hτ) ?_;simp (disch:=omega) only [go_sem,seval];exact we
theorem ZfS {n:Nat} (h:n<10):dec n= [UInt8.ofNat (48+n)]:=by rw [dec,dif_pos h]
theorem Zke {n:Nat} (h:10<=n) (h2:n<100):dec n= [UInt8.ofNat (48+n / 10),UInt8.ofNat (48+n%10)]:=by
 rw [dec,dif_neg (by omega),ZfS (by omega)];rfl
theorem Zbk {s:List UInt8} {k k':IntKind} {a b:Int} (h:0<=a/\a<=b/\b<=(s.length:Int)):Zhn (some .string) s (.p (.int k a)) (.p (.int k' b))=some (.p (.str ((s.take b.toNat).drop a.toNat))):=by
 simp only [Zhn,if_pos h]
def digT : List UInt8:=(List.range 36).map fun i=>UInt8.ofNat (if i<10 then 48+i else 87+i)
def smalT : List UInt8:=(List.range 100).flatMap fun i=> [UInt8.ofNat (48+i / 10),UInt8.ofNat (48+i%10)]
theorem Zlj : ∀n,n<10->(digT.take (n+1)).drop n= [UInt8.ofNat (48+n)]:=by decide
theorem Zh2 : ∀n,n<100->(smalT.take (2*n+2)).drop (2*n)= [UInt8.ofNat (48+n / 10),UInt8.ofNat (48+n%10)]:=by decide+kernel
theorem Zk7 (n:Nat) (hn:n<100):PC 282 [.p (.int .i64 (n:Int))] (.str (dec n)):=by
 refine Zb Tryz.func282 rfl ZmE ?_;simp (disch:=omega) only [Tryz.f282,go_sem,seval];refine cD ?_ ?_<;>intro h<;>simp (disch:=omega) only [Sh.out h,go_sem,seval]
 ·rw [ZfS (by omega),Zbk (by simp;omega)]
  have e1:((n:Int)+1).toNat=n+1:=by omega
  have e2:((n:Int)).toNat=n:=by omega
  rw [e1,e2];refine (congrArg (fun z=>pst (some (V.p (PV.str z))) _) (Zlj n (by omega))).mpr ?_;simp (disch:=omega) only [go_sem,seval]
 ·rw [Zke (by omega) hn,Zbk (by simp;omega)]
  have e1:((n:Int)*2+2).toNat=2*n+2:=by omega
  have e2:((n:Int)*2).toNat=2*n:=by omega
  rw [e1,e2];refine (congrArg (fun z=>pst (some (V.p (PV.str z))) _) (Zh2 n (by omega))).mpr ?_;simp (disch:=omega) only [go_sem,seval]
theorem ZgG (n:Nat) (hn:n<100):PC 281 [.p (.int .i64 (n:Int)),.p (.int .i64 10)] (.str (dec n)):=by
 refine Zb Tryz.func281 rfl ZmB ?_
 have h0:(0:Int)<=(n:Int):=by omega
 have h1:(n:Int)<100:=by omega
 simp (disch:=omega) only [Tryz.f281,h0,h1,go_sem,seval];refine (Zk7 n hn).use ?_;simp (disch:=omega) only [go_sem,seval]
theorem Zk5 (n:Nat) (hn:n<100):PC 280 [.p (.int .i64 (n:Int))] (.str (dec n)):=by
 refine Zb Tryz.func280 rfl ZqZ ?_;simp (disch:=omega) only [Tryz.f280,go_sem,seval];refine (ZgG n hn).use ?_;simp (disch:=omega) only [go_sem,seval]
theorem ZpP (n:Nat) (hn:n<100):PC 279 [.p (.int .i64 (n:Int))] (.str (dec n)):=by
 refine Zb Tryz.func279 rfl ZqC ?_;simp (disch:=omega) only [Tryz.f279,go_sem,seval];refine (Zk5 n hn).use ?_;simp (disch:=omega) only [go_sem,seval]
theorem Zbn (n a b:Int):PC 272 [.p (.int .i64 n),.p (.int .i64 a),.p (.int .i64 b)] (.bool (decide (a<=n)&&decide (n<=b))):=by
 refine Zb Tryz.func272 rfl Zmz ?_;simp (disch:=omega) only [Tryz.f272,go_sem,seval]
 repeat' (first | (refine ZU (fun hq=> ?_) (fun hq=> ?_)<;>(try simp only [decide_eq_true_eq,decide_eq_false_iff_not,Classical.not_not] at hq)<;>simp (disch:=omega) only [Sh.out hq,go_sem,seval]) | (refine ZS (fun hq=> ?_) (fun hq=> ?_)<;>(try simp only [decide_eq_true_eq,decide_eq_false_iff_not,Classical.not_not] at hq)<;>simp (disch:=omega) only [Sh.out hq,go_sem,seval]) | (refine Xd (fun hq=> ?_) (fun hq=> ?_)<;>(try simp only [decide_eq_true_eq,decide_eq_false_iff_not,Classical.not_not] at hq)<;>simp (disch:=omega) only [Sh.out hq,go_sem,seval]))
 all_goals (simp;first | done | omega)
theorem ZgJ (l:List Pt) (c:Bool) (hl:YD l):PC 276 [.p (.list c (l.map ePt))] (.list true []):=by
 obtain ⟨⟨hl1,hl2⟩,hpt⟩:=hl;refine Zb Tryz.func276 rfl Zo1 ?_
 have e1: ¬(l.length:Int)=0:=by omega
 have e2: ¬(16:Int)<(l.length:Int):=by omega
 simp (disch:=omega) only [Tryz.f276,e1,e2,go_sem,seval];refine Zf [0,19,20] (fun k:Nat=> [(3,.p (.list true [])),(21,.p (.int .i64 k))]) (fun _=> []) (fun k=>k<=l.length) (fun k=>l.length-k) 0 (by simp) (Weak.mk ?_) ?_
 ·simp (disch:=omega) only [go_sem,seval]
 ·intro k hk;simp (disch:=omega) only [go_sem,seval];refine cD ?_ ?_<;>intro h<;>simp (disch:=omega) only [Sh.out h,go_sem,seval]
  ·have hk2:k<l.length:=by omega
   obtain ⟨⟨p1,p2,p3,p4⟩,q⟩:=hpt k hk2;refine (ZpP k (by omega)).use ?_;simp (disch:=omega) only [go_sem,seval];refine (Zbn (nth l k).t 0 4096).use ?_;simp (disch:=omega) only [go_sem,seval];simp (disch:=omega) only [p1,p2,go_sem,seval];refine gF ?_ ?_<;>intro h3<;>simp (disch:=omega) only [Sh.out h3,go_sem,seval]
   ·omega
   ·refine cD ?_ ?_<;>intro h4<;>simp (disch:=omega) only [Sh.out h4,go_sem,seval]
    ·omega
    ·refine Zh Zm (by kernel_rfl) (by kernel_rfl) ?_;simp (disch:=omega) only [go_sem,seval];refine gT ?_ ?_<;>intro h5<;>simp (disch:=omega) only [Sh.out h5,go_sem,seval]
     ·obtain ⟨r1,r2⟩:=q (by omega);refine gF ?_ ?_<;>intro h6<;>simp (disch:=omega) only [Sh.out h6,go_sem,seval]
      ·omega
      ·refine cD ?_ ?_<;>intro h7<;>simp (disch:=omega) only [Sh.out h7,go_sem,seval]
       ·omega
       ·exact ⟨k+1,by omega,by omega,wk⟩
     ·exact ⟨k+1,by omega,by omega,wk⟩
theorem ZdE (p:Pt) (t:Int) (h:0<=p.t/\p.t<=4096) (ht:0<=t/\t<=1073741824):PC 278 [.p (ePt p),.p (.int .i64 t)] (.int .i64 (p.t-t)):=by
 refine Zb Tryz.func278 rfl Zrw ?_;simp (disch:=omega) only [Tryz.f278,go_sem,seval]
theorem Zll (l:List Pt) (c:Bool) (hl:YD l):PC 273 [.p (.list c (l.map ePt))] (.bool true):=by
 refine Zb Tryz.func273 rfl Zob ?_;simp (disch:=omega) only [Tryz.f273,go_sem,seval];refine (ZgJ l c hl).use ?_;simp (disch:=omega) only [go_sem,seval]
structure PosT (l:List Pt) (t:Int) (i:Nat):Prop where
 le:i<=l.length
 lo: ∀j,j<i->(nth l j).t<t
 hi: ∀j,i<=j->j<l.length->t<=(nth l j).t
theorem ZvW (l:List Pt) (c:Bool) (t:Int) (i:Nat) (hl:YD l) (ht:0<=t/\t<=1073741824) (hi:PosT l t i):PT 277 [.p (.list c (l.map ePt)),.p (.int .i64 t),.fn (.func 278) [] []] [.p (.int .i64 (i:Int)),.p (.bool (decide (i<l.length)&&decide ((nth l i).t=t)))]:=by
 obtain ⟨⟨hl1,hl2⟩,hpt⟩:=hl;obtain ⟨hi1,hi2,hi3⟩:=hi;refine Zd [] Tryz.func277 rfl Zof ?_;simp (disch:=omega) only [Tryz.f277,go_sem,seval];refine Zf [0,1,2,8] (fun q:Nat×Nat=> [(9,.p (.int .i64 q.1)),(10,.p (.int .i64 q.2))]) (fun _=> []) (fun q=>q.1<=i/\i<=q.2/\q.2<=l.length) (fun q=>q.2-q.1) (0,l.length) (by simp;omega) (Weak.mk ?_) ?_
 ·simp (disch:=omega) only [go_sem,seval]
 ·rintro ⟨a,b⟩ ⟨h1,h2,h3⟩;simp only at h1 h2 h3;simp (disch:=omega) only [go_sem,seval];refine cD ?_ ?_<;>intro h<;>simp (disch:=omega) only [Sh.out h,go_sem,seval]
  ·have hm:(a+b) / 2<l.length:=by omega
   obtain ⟨⟨p1,p2,p3,p4⟩,q⟩:=hpt _ hm
   have hs:((a:Int)+(b:Int)).fdiv (2^min 1 64)=(((a+b) / 2:Nat):Int):=by
    rw [Int.fdiv_eq_ediv_of_nonneg _ (by decide)];norm_cast
   have em:((((a+b) / 2:Nat)):Int).toNat=(a+b) / 2:=by omega
   have hnb:((a+b) / 2<i)↔(nth l ((a+b) / 2)).t-t<0:=by
    constructor
    ·intro hh;have:=hi2 _ hh;omega
    ·intro hh
     by_cases g:(a+b) / 2<i
     ·exact g
     ·have:=hi3 _ (by omega) hm;omega
   rw [hs];simp (disch:=omega) only [go_sem,seval];refine (ZdE (nth l ((a+b) / 2)) t ⟨p1,p2⟩ ht).use ?_;simp (disch:=omega) only [go_sem,seval];refine cD ?_ ?_<;>intro h4<;>simp (disch:=omega) only [Sh.out h4,go_sem,seval]
   ·exact ⟨((a+b) / 2+1,b),⟨by simp only;have:=hnb.2 h4;omega,h2,h3⟩,by simp only;omega,wk⟩
   ·exact ⟨(a,(a+b) / 2),⟨h1,by simp only;have:=fun g=>h4 (hnb.1 g);omega,by simp only;omega⟩,by simp only;omega,wk⟩
  ·have:a=i:=by omega
   subst this;refine gT ?_ ?_<;>intro h4<;>simp (disch:=omega) only [Sh.out h4,go_sem,seval]
   ·have hm:a<l.length:=by omega
    obtain ⟨⟨p1,p2,p3,p4⟩,q⟩:=hpt _ hm;refine (ZdE (nth l a) t ⟨p1,p2⟩ ht).use ?_;simp (disch:=omega) only [go_sem,seval];have e5:((nth l a).t-t=0)=((nth l a).t=t):=propext (by omega);exact we (by simp (disch:=omega) only [e5,hm,go_sem,seval])
   ·have hm: ¬a<l.length:=by omega
    exact we (by simp (disch:=omega) only [hm,go_sem,seval])
theorem Uu {l:List Pt} (hl:YD l) {k:Nat} (hk:k<l.length): ∀j,j<k->(nth l j).t<(nth l k).t:=by
 obtain ⟨_,hpt⟩:=hl
 induction k with
 | zero=>intro j hj;omega
 | succ k ih =>
  intro j hj;obtain ⟨_,q⟩:=hpt (k+1) hk;obtain ⟨r1,_⟩:=q (by omega);rw [Nat.add_sub_cancel] at r1;rcases Nat.lt_succ_iff_lt_or_eq.1 hj with h | h
  ·exact Int.lt_trans (ih (by omega) j h) r1
  ·subst h;exact r1
theorem Zlg {l:List Pt} (hl:YD l) (t:Int): ∃i,PosT l t i:=by
 have: ∀n,n<=l.length-> ∃i,i<=n/\(∀j,j<i->(nth l j).t<t)/\(i<n->t<=(nth l i).t):=by
  intro n
  induction n with
  | zero=>intro _;exact ⟨0,by omega,fun j hj=>by omega,fun h=>by omega⟩
  | succ n ih =>
   intro hn;obtain ⟨i,h1,h2,h3⟩:=ih (by omega)
   by_cases g:i<n
   ·exact ⟨i,by omega,h2,fun _=>h3 g⟩
   ·have:i=n:=by omega
    subst this
    by_cases g2:(nth l i).t<t
    ·exact ⟨i+1,by omega,Zg.2 ⟨h2,g2⟩,fun h=>by omega⟩
    ·exact ⟨i,by omega,h2,fun _=>by omega⟩
 obtain ⟨i,h1,h2,h3⟩:=this l.length (Nat.le_refl _);refine ⟨i,h1,h2,fun j hj hjl=> ?_⟩;rcases Nat.lt_or_eq_of_le hj with h | h
 ·have:=Uu hl hjl i h;have:=h3 (by omega);omega
 ·subst h;exact h3 hjl
theorem Zlm {l:List Pt} {t:Int} {i:Nat} (hl:YD l) (h:PosT l t i) (hi:i<l.length) (e:(nth l i).t=t):Ka l t=(nth l i).a:=by
 by_cases g:i+1<l.length
 ·have m:=Uu hl g i (by omega);rw [ZaX g (fun j hj=> ?_) (by simp [Qu,e];omega),Zjf]
  ·rw [e,Int.sub_self,Int.zero_mul,Int.zero_add];rw [Int.ediv_eq_zero_of_lt (by omega) (by omega)];omega
  ·have:(nth l (j+1)).t<=t:=by
    rcases Nat.lt_or_eq_of_le (show j+1<=i by omega) with h1 | h1
    ·have:=h.lo _ h1;omega
    ·rw [h1,e];exact Int.le_refl _
   simp [Qu];omega
 ·have hi1:i=l.length-1:=by omega
  rw [JJ (fun j hj=> ?_)]
  ·split
   ·rw [<- hi1];omega
   ·have:i=0:=by
     by_cases g2:i=0
     ·exact g2
     ·have:=h.lo 0 (by omega);omega
    subst this;omega
  ·have:(nth l (j+1)).t<=t:=by
    rcases Nat.lt_or_eq_of_le (show j+1<=i by omega) with h1 | h1
    ·have:=h.lo _ h1;omega
    ·rw [h1,e];exact Int.le_refl _
   simp [Qu];omega
theorem ZkG {l:List Pt} {t:Int} (hl:YD l) (h:PosT l t 0) (e: ¬(nth l 0).t=t):Ka l t=t+(nth l 0).a-(nth l 0).t:=by
 have h0:=h.hi 0 (Nat.le_refl _) hl.1.1;rw [JJ (fun j hj=> ?_),if_neg (by omega)]
 have:t<(nth l j).t:=by
  by_cases g:j=0
  ·subst g;omega
  ·have:=Uu hl (show j<l.length by omega) 0 (by omega);omega
 simp [Qu];omega
theorem Zkl {l:List Pt} {t:Int} (h:PosT l t l.length) (hl:0<l.length):Ka l t=t+(nth l (l.length-1)).a-(nth l (l.length-1)).t:=by
 rw [JJ (fun j hj=> ?_),if_pos (h.lo 0 hl)];have:=h.lo (j+1) hj;simp [Qu];omega
theorem ZgS {l:List Pt} {t:Int} {i:Nat} (h:PosT l t i) (h0:0<i) (hi:i<l.length) (e: ¬(nth l i).t=t):Ka l t=Zjf (nth l (i-1)) (nth l i) t:=by
 have e1:i-1+1=i:=by omega
 have h1:=h.lo (i-1) (by omega);have h2:=h.hi i (Nat.le_refl _) hi;have:=ZaX (l:=l) (t:=t) (i:=i-1) (by omega) (fun j hj=>by have:=h.lo (j+1) (by omega);simp [Qu];omega) (by rw [Qu,e1];simp;omega);rw [this,e1]
theorem KL {p q:Pt} {t:Int} (h1:p.t<=t) (h2:t<q.t) (hp:0<=p.t) (hq:q.t<=4096) (ha:p.a<=q.a) (hpa:0<=p.a) (hqa:q.a<=8192) :
  IntKind.i64.wrap (p.a+IntKind.i64.wrap ((IntKind.i64.wrap (IntKind.i64.wrap (IntKind.i64.wrap ((t-p.t)*(q.a-p.a))+(q.t-p.t))-1)).tdiv (q.t-p.t)))=Zjf p q t:=by
 have hm:=Jf h1 h2 hp hq ha hpa hqa;unfold Zjf;generalize hM:(t-p.t)*(q.a-p.a)=m at hm
 have hd:0<=(m+(q.t-p.t)-1) / (q.t-p.t)/\(m+(q.t-p.t)-1) / (q.t-p.t)<=m+(q.t-p.t)-1:=by
  refine ⟨Int.ediv_nonneg (by omega) (by omega),Int.ediv_le_self _ (by omega)⟩
 rw [IntWalk.i64_in m (by omega),IntWalk.i64_in (m+(q.t-p.t)) (by omega),IntWalk.i64_in (m+(q.t-p.t)-1) (by omega),Int.tdiv_eq_ediv_of_nonneg (by omega),IntWalk.i64_in ((m+(q.t-p.t)-1) / (q.t-p.t)) (by omega),IntWalk.i64_in _ (by omega)]
 congr 2
 omega
theorem Zc2 (l:List Pt) (c:Bool) (t:Int) (hl:YD l) (ht:0<=t/\t<=1073741824):PC 274 [.p (.list c (l.map ePt)),.p (.int .i64 t)] (.int .i64 (Ka l t)):=by
 obtain ⟨i,hi⟩:=Zlg hl t;have hl':=hl;obtain ⟨⟨hl1,hl2⟩,hpt⟩:=hl';refine Zb Tryz.func274 rfl Zqh ?_;simp (disch:=omega) only [Tryz.f274,go_sem,seval];refine Xn (ZvW l c t i hl ht hi) ?_;simp (disch:=omega) only [go_sem,seval];obtain ⟨i1,i2,i3⟩:=id hi;refine cD ?_ ?_<;>intro h<;>simp (disch:=omega) only [Sh.out h,go_sem,seval]
 ·obtain ⟨h1,h2⟩:=h;have:=hpt i h1;rw [Zlm hl hi h1 h2]
 ·refine cD ?_ ?_<;>intro h0<;>simp (disch:=omega) only [Sh.out h0,go_sem,seval]
  ·have:i=0:=by omega
   subst this;obtain ⟨p1,p2⟩:=hpt 0 (by omega);rw [ZkG hl hi (fun g=>h ⟨by omega,g⟩)];refine Zh Zm (by kernel_rfl) (by kernel_rfl) ?_;simp (disch:=omega) only [go_sem,seval]
  ·refine cD ?_ ?_<;>intro h1<;>simp (disch:=omega) only [Sh.out h1,go_sem,seval]
   ·have:i=l.length:=by omega
    subst this;obtain ⟨p1,p2⟩:=hpt (l.length-1) (by omega);rw [Zkl hi (by omega)]
    have e1:((l.length:Int)-1).toNat=l.length-1:=by omega
    refine Zh Zm (by kernel_rfl) (by kernel_rfl) ?_;simp (disch:=omega) only [go_sem,seval]
   ·have g1:i<l.length:=by omega
    rw [ZgS hi (by omega) g1 (fun g=>h ⟨g1,g⟩)];have g2:=Uu hl g1 (i-1) (by omega);obtain ⟨p1,p2⟩:=hpt i g1;obtain ⟨p3,p4⟩:=hpt (i-1) (by omega)
    have e1:((i:Int)-1).toNat=i-1:=by omega
    have q1:=i2 (i-1) (by omega);have q2:=i3 i (Nat.le_refl _) g1;have q3: ¬(nth l i).t=t:=fun g=>h ⟨g1,g⟩;have q4:=p2 (by omega);refine ZO [9,10,11] 12 Zm (by kernel_rfl) (by kernel_rfl) (by kernel_rfl) (by simp) ?_;simp (disch:=omega) only [e1,go_sem,seval];refine Y2 9 10 _ _ _ _ (by kernel_rfl) (by simp (disch:=omega) only [go_sem,seval];exact ⟨rfl,rfl⟩) (by simp (disch:=omega) only [go_sem,seval];exact ⟨rfl,rfl⟩) ?_ ?_
    ·refine Zq 10 _ _ (by kernel_rfl) (by simp (disch:=omega) only [go_sem,seval];exact ⟨rfl,rfl⟩) (Zq 11 _ _ (by kernel_rfl) (by simp (disch:=omega) only [go_sem,seval];exact ⟨rfl,rfl⟩) (Xj ?_));simp (disch:=omega) only [go_sem,seval];refine Zh Zm (by kernel_rfl) (by kernel_rfl) ?_;simp (disch:=omega) only [go_sem,seval];exact congrArg (fun z=>V.p (PV.int IntKind.i64 z)) (KL (by omega) (by omega) (by omega) (by omega) (by omega) (by omega) (by omega))
    ·refine Zq 9 _ _ (by kernel_rfl) (by simp (disch:=omega) only [go_sem,seval];exact ⟨rfl,rfl⟩) (Zq 11 _ _ (by kernel_rfl) (by simp (disch:=omega) only [go_sem,seval];exact ⟨rfl,rfl⟩) (Xj ?_));simp (disch:=omega) only [go_sem,seval];refine Zh Zm (by kernel_rfl) (by kernel_rfl) ?_;simp (disch:=omega) only [go_sem,seval];exact congrArg (fun z=>V.p (PV.int IntKind.i64 z)) (KL (by omega) (by omega) (by omega) (by omega) (by omega) (by omega) (by omega))
theorem ZfI (l:List Pt) (c:Bool) (t:Int) (hl:YD l) (ht:0<=t/\t<=1073741824):PC 267 [.p (.list c (l.map ePt)),.p (.int .i64 t)] (.int .i64 (Ka l t)):=by
 refine Zb Tryz.func267 rfl Zm4 ?_;simp (disch:=omega) only [Tryz.f267,go_sem,seval];refine (Zbn t 0 1073741824).use ?_;simp (disch:=omega) only [go_sem,seval];simp (disch:=omega) only [ht,go_sem,seval];refine (Zll l c hl).use ?_;simp (disch:=omega) only [go_sem,seval];refine (Zc2 l c t hl ht).use ?_;simp (disch:=omega) only [go_sem,seval]
theorem ZbD (n:Net) (p:Int) (hn:n.places.length<=1048576):PC 259 [.p (ZbU n),.p (.int .i64 p)] (.bool (V2 n p)):=by
 refine Zb Tryz.func259 rfl ZpR ?_;simp (disch:=omega) only [Tryz.f259,go_sem,seval];refine gT ?_ ?_<;>intro h<;>simp (disch:=omega) only [Sh.out h,go_sem,seval]
 ·simp [V2,h]
 ·simp [V2,h]
theorem Zjt (a:Arc):PC 266 [.p (QV a)] (.agg [.int .i64 a.src,.int .i64 a.dst,.int .i64 a.prof]):=by
 refine Zb Tryz.func266 rfl Zrz ?_;simp (disch:=omega) only [Tryz.f266,go_sem,seval]
theorem Zlk (a:Arc) (t:Int) (ha:Zto a) (ht:0<=t/\t<=1073741824):PC 261 [.p (QV a),.p (.int .i64 t)] (.int .i64 (ZiA a t)):=by
 obtain ⟨h1,h2,h3⟩:=ha;have hr:=Je h1 ht;have hs:=Vm (t:=t) (fun p hp=>(h3 p hp).2.2);refine Zb Tryz.func261 rfl Zpq ?_;simp (disch:=omega) only [Tryz.f261,go_sem,seval];refine (ZfI a.travel a.travel_c t h1 ht).use ?_;simp (disch:=omega) only [go_sem,seval];refine Zf [1,13,14] (fun k:Nat=> [(5,.p (.int .i64 (Ka a.travel t+Ub a.slow t k))),(15,.p (.int .i64 k))]) (fun _=> [XP a]) (fun k=>k<=a.slow.length) (fun k=>a.slow.length-k) 0 (by simp) (Weak.mk ?_) ?_
 ·simp (disch:=omega) only [XP,Ub,List.foldl_nil,go_sem,seval];simp
 ·intro k hk;have hsk:=hs k hk;simp (disch:=omega) only [XP,go_sem,seval];refine cD ?_ ?_<;>intro h<;>simp (disch:=omega) only [Sh.out h,go_sem,seval]
  ·have hk2:k<a.slow.length:=by omega
   have hp:=h3 _ (ZI hk2);have hsn:=VE (t:=t) hk2;refine cD ?_ ?_<;>intro h4<;>simp (disch:=omega) only [Sh.out h4,go_sem,seval]
   ·rw [if_pos h4] at hsn;exact ⟨k+1,by omega,by omega,Weak.mk (by simp (disch:=omega) only [XP,hsn,Int.add_assoc,go_sem,seval])⟩
   ·rw [if_neg h4] at hsn;exact ⟨k+1,by omega,by omega,Weak.mk (by simp (disch:=omega) only [XP,hsn,go_sem,seval])⟩
  ·have hkl:k=a.slow.length:=by omega
   subst hkl;simp only [ZiA]
theorem ZjM (n:Net) (pr f t:Int) (hn:n.arcs.length<=1048576):PT 260 [.p (ZbU n),.p (.int .i64 pr),.p (.int .i64 f),.p (.int .i64 t)] [.p (QV (Yh n pr f t).1),.p (.bool (Yh n pr f t).2)]:=by
 refine Zd [] Tryz.func260 rfl Zpg ?_;simp (disch:=omega) only [Tryz.f260,go_sem,seval];refine Zf [8,10,18,19] (fun k:Nat=> [(20,.p (.int .i64 k))]) (fun _=>Zz n++ [XP XL,.cells [.p (.int .i64 f),.p (.int .i64 t),.p (.int .i64 pr)]]) (fun k=>k<=n.arcs.length/\ ∀j,j<k->Yw pr f t (nth n.arcs j)=false) (fun k=>n.arcs.length-k) 0 (by simp) (Weak.mk ?_) ?_
 ·simp (disch:=omega) only [Zz,XP,XL,List.map_nil,List.cons_append,List.nil_append,go_sem,seval]
 ·rintro k ⟨hk,hno⟩;simp (disch:=omega) only [Zz,XP,XL,List.map_nil,List.cons_append,List.nil_append,go_sem,seval];refine cD ?_ ?_<;>intro h<;>simp (disch:=omega) only [Sh.out h,go_sem,seval]
  ·have hk2:k<n.arcs.length:=by omega
   have nx:Yw pr f t (nth n.arcs k)=false-> ∀j,j<k+1->Yw pr f t (nth n.arcs j)=false:=fun h=>Zg.2 ⟨hno,h⟩;refine Zh Zm (by kernel_rfl) (by kernel_rfl) ?_;simp (disch:=omega) only [go_sem,seval];refine Zs (Zjt (nth n.arcs k)) ?_;simp (disch:=omega) only [go_sem,seval];refine cD ?_ ?_<;>intro h1<;>simp (disch:=omega) only [Sh.out h1,go_sem,seval]
   ·have e:=Zbm hk2 hno (by simp [Yw,h1]);obtain ⟨rfl,rfl,rfl⟩:=h1;rw [e];exact we
   ·have e2:Yw pr f t (nth n.arcs k)=false:=by
     cases hq:Yw pr f t (nth n.arcs k) with
     | false=>rfl
     | true=>simp only [Yw,Bool.and_eq_true,decide_eq_true_eq] at hq;exact absurd ⟨hq.1.1,hq.1.2,hq.2⟩ h1
    exact ⟨k+1,⟨by omega,nx e2⟩,by omega,Weak.mk (by simp (disch:=omega) only [Zz,XP,XL,List.map_nil,List.cons_append,List.nil_append,go_sem,seval])⟩
  ·have hkn:k=n.arcs.length:=by omega
   subst hkn;rw [Zbb hno];exact we (by simp (disch:=omega) only [XL,List.map_nil,go_sem,seval])
theorem Zv7 (n:Net) (pr f t τ:Int) (hn:netR n) (hτ:0<=τ/\τ<=1073741824):PT 248 [.p (ZbU n),.p (.int .i64 pr),.p (.int .i64 f),.p (.int .i64 t),.p (.int .i64 τ)] [.p (.int .i64 (goN n pr f t τ).1),.p (.int .i64 (goN n pr f t τ).2.1),.p (.int .i64 (goN n pr f t τ).2.2)]:=by
 refine Zd [] Tryz.func248 rfl ZoJ ?_;simp (disch:=omega) only [Tryz.f248,go_sem,seval];refine (ZbD n f hn.1).use ?_;simp (disch:=omega) only [go_sem,seval];refine gF ?_ ?_<;>intro h1<;>simp (disch:=omega) only [Sh.out h1,go_sem,seval]
 ·have e:goN n pr f t τ=(0,0,11):=by simp only [Bool.not_eq_true'] at h1;simp [goN,h1]
  rw [e];exact we
 ·simp only [Bool.not_eq_false'] at h1;refine (ZbD n t hn.1).use ?_;simp (disch:=omega) only [go_sem,seval];refine cD ?_ ?_<;>intro h2<;>simp (disch:=omega) only [Sh.out h2,go_sem,seval]
  ·have e:goN n pr f t τ=(0,0,11):=by simp only [Bool.not_eq_true'] at h2;simp [goN,h2]
   rw [e];exact we
  ·simp only [Bool.not_eq_false'] at h2;refine cD ?_ ?_<;>intro h3<;>simp (disch:=omega) only [Sh.out h3,go_sem,seval]
   ·have e:goN n pr f t τ=(τ,0,0):=by simp [goN,h1,h2,h3]
    rw [e];exact we
   ·have cf:=ZjM n pr f t hn.2.1;have hm:= @UV n pr f t
    have e0:goN n pr f t τ=if (Yh n pr f t).2=true then (ZiA (Yh n pr f t).1 τ,(Yh n pr f t).1.miles,0) else (0,0,12):=by simp [goN,h1,h2,h3]
    rw [e0];generalize Yh n pr f t=A at cf hm ⊢;obtain ⟨a,b⟩:=A;simp only at cf hm ⊢;refine Xn cf ?_;simp (disch:=omega) only [go_sem,seval];refine cD ?_ ?_<;>intro h4<;>simp (disch:=omega) only [Sh.out h4,go_sem,seval]
    ·have hb:b=false:=by simpa using h4
     subst hb;exact we
    ·have hb:b=true:=by simpa using h4
     subst hb;refine Zh Zm (by kernel_rfl) (by kernel_rfl) ?_;simp (disch:=omega) only [go_sem,seval];refine Zs (Zlk a τ (hn.2.2 a (hm rfl)) hτ) ?_;simp (disch:=omega) only [go_sem,seval];exact we
theorem Zlh (x:Inst) (pr f t τ:Int) (hn:netR x.net) (hτ:0<=τ/\τ<=1073741824):PT 253 [.p (ZC x),.p (.int .i64 pr),.p (.int .i64 f),.p (.int .i64 t),.p (.int .i64 τ)] [.p (.int .i64 (goN x.net pr f t τ).1),.p (.int .i64 (goN x.net pr f t τ).2.1),.p (.bool (decide ((goN x.net pr f t τ).2.2=0)))]:=by
 refine Zd [] Tryz.func253 rfl ZoC ?_;simp (disch:=omega) only [Tryz.f253,go_sem,seval];refine Zcz (Zpm x.net pr f t τ hn hτ) ?_;simp (disch:=omega) only [go_sem,seval];exact we
structure StD where
 place:Int
 time:Int
 driven:Int
 miles:Int
def ZpT (s:StD):PV:= .agg [.int .i64 s.place,.int .i64 s.time,.int .i64 s.driven,.int .i64 s.miles]
@[go_sem] theorem ZuN (s:StD):ZpT s= .agg [.int .i64 s.place,.int .i64 s.time,.int .i64 s.driven,.int .i64 s.miles]:=Eq.trans rfl rfl
def Zaw (t:Typ) (s:StD) (b:Bool):StD:=if b=true then { s with time:=s.time+t.rest,driven:=0 } else s
theorem Za7 (t:Typ) (s:StD) (b:Bool) (hb: -1099511627776<=s.time/\s.time<=1099511627776/\ -1099511627776<=t.rest/\t.rest<=1099511627776):PC 226 [.p (QE t),.p (ZpT s),.p (.bool b)] (ZpT (Zaw t s b)):=by
 refine Zb Tryz.func226 rfl Zp9 ?_
 cases b with
 | true=>simp (disch:=omega) only [Tryz.f226,Zaw,go_sem,seval]
 | false=>simp (disch:=omega) only [Tryz.f226,Zaw,Bool.false_eq_true,go_sem,seval]
def VH (x:Inst) (t:Typ) (s:StD) (to cl late:Int):StD×Int :=
 if ¬(goN x.net t.prof s.place to s.time).2.2=0 then (s,12)
 else if cl<(goN x.net t.prof s.place to s.time).1 then (s,late)
 else if t.drive<s.driven+(goN x.net t.prof s.place to s.time).1-s.time then (s,16)
 else (⟨to,(goN x.net t.prof s.place to s.time).1,s.driven+(goN x.net t.prof s.place to s.time).1-s.time,s.miles+(goN x.net t.prof s.place to s.time).2.1⟩,0)
def Sml (n:Int):Prop:= -1099511627776<=n/\n<=1099511627776
theorem Zck (x:Inst) (t:Typ) (s:StD) (to cl late:Int) (hn:netR x.net) (hs:0<=s.time/\s.time<=1073741824) (hd:Sml s.driven) (hm:Sml s.miles) (hg:Sml (goN x.net t.prof s.place to s.time).1/\Sml (goN x.net t.prof s.place to s.time).2.1) :
  PT 227 [.p (ZC x),.p (QE t),.p (ZpT s),.p (.int .i64 to),.p (.int .i64 cl),.p (.int .i64 late)] [.p (ZpT (VH x t s to cl late).1),.p (.int .i64 (VH x t s to cl late).2)]:=by
 have cw:=Zlh x t.prof s.place to s.time hn hs;unfold VH;generalize goN x.net t.prof s.place to s.time=g at cw hg ⊢;obtain ⟨a,m,e⟩:=g;unfold Sml at hd hm hg;simp only at cw hg ⊢;refine Zd [] Tryz.func227 rfl ZnC ?_;simp (disch:=omega) only [Tryz.f227,go_sem,seval];refine Zcz cw ?_;simp (disch:=omega) only [go_sem,seval];refine cD ?_ ?_<;>intro h1<;>simp (disch:=omega) only [Sh.out h1,go_sem,seval]
 ·exact we
 ·rw [if_neg h1];refine cD ?_ ?_<;>intro h2<;>simp (disch:=omega) only [Sh.out h2,go_sem,seval]
  ·exact we
  ·rw [if_neg h2];refine cD ?_ ?_<;>intro h3<;>simp (disch:=omega) only [Sh.out h3,go_sem,seval]
   ·exact we
   ·exact we
structure Lab where
 ready:Int
 since:Int
 she:She
 deriving Inhabited
def zShe : She:=⟨false,0,true,[],0,0⟩
def Wm : Lab:=⟨0,0,zShe⟩
def ZY (t:Typ) (L:Lab) (b:Bool):Int:=if b=true then L.ready+t.rest else L.ready
def WQ (L:Lab) (b:Bool):Int:=if b=true then 0 else L.since
def ZgC (l:List Tim) (k:Nat) (d:Int) (b:Bool):List Tim:=l.set k { nth l k with dep:=d,rest:=b }
def Xr (k:Nat) (d:Int) (b:Bool) (s:She):She:=if k=0 then { s with rest:=b,dep:=d } else { s with times:=ZgC s.times (k-1) d b }
def JV (t:Typ) (sp:List Stp) (k:Nat):Int:=if k=0 then t.src else (nth sp (k-1)).place
def toF (t:Typ) (sp:List Stp) (k:Nat):Int:=if k=sp.length then t.dst else (nth sp k).place
def goL (x:Inst) (t:Typ) (sp:List Stp) (k:Nat) (d:Int):Int×Int×Int:=goN x.net t.prof (JV t sp k) (toF t sp k) d
def WP (t:Typ) (sp:List Stp) (k:Nat) (g:Int×Int×Int) (d s:Int) (h:She):Lab×Int :=
 if ¬g.2.2=0 then (Wm,12)
 else if k=sp.length then
  if t.cls<g.1 then (Wm,15) else if t.drive<s+g.1-d then (Wm,16)
  else (⟨g.1,s+g.1-d,{ h with fin:=g.1,miles:=h.miles+g.2.1 }⟩,0)
 else if (nth sp k).cls<max g.1 (nth sp k).opn then (Wm,14)
 else if t.drive<s+g.1-d then (Wm,16)
 else (⟨max g.1 (nth sp k).opn+(nth sp k).serv,s+g.1-d,{ h with times_c:=false,times:=h.times++ [⟨g.1,max g.1 (nth sp k).opn,0,false⟩],miles:=h.miles+g.2.1 }⟩,0)
def YU (x:Inst) (t:Typ) (sp:List Stp) (k:Nat) (L:Lab) (b:Bool):Lab×Int :=
 WP t sp k (goL x t sp k (ZY t L b)) (ZY t L b) (WQ L b) (Xr k (ZY t L b) b L.she)
def XS (x:Inst) (t:Typ) (sp:List Stp) (k:Nat) (L:Lab) (b:Bool):Option Lab:=if (YU x t sp k L b).2=0 then some (YU x t sp k L b).1 else none
def XW (x:Inst) (t:Typ) (sp:List Stp):Nat->Lab->List Bool->Lab×Int
 | _,L,[]=>(L,0)
 | k,L,b::bs=>if (YU x t sp k L b).2=0 then XW x t sp (k+1) (YU x t sp k L b).1 bs else (Wm,(YU x t sp k L b).2)
def XR (t:Typ) (st:Int):Lab:=⟨max t.opn st,0,zShe⟩
theorem Wq {x:Inst} {t:Typ} {sp:List Stp} : ∀(bs:List Bool) (k:Nat) (L:Lab),VP (XS x t sp) k L bs=if (XW x t sp k L bs).2=0 then some (XW x t sp k L bs).1 else none
 | [],k,L=>by simp [VP,XW]
 | b::bs,k,L=>by
  rw [VP,XW,XS]
  by_cases h:(YU x t sp k L b).2=0
  ·simp only [h,if_true];exact Wq bs (k+1) _
  ·simp [h]
structure TrpOk (x:Inst) (t:Typ) (sp:List Stp):Prop where
 net:netR x.net
 mil: ∀a∈x.net.arcs,0<=a.miles/\a.miles<=10000
 opn:0<=t.opn/\t.opn<=t.cls/\t.cls<=4096
 drv:1<=t.drive/\t.drive<=4096
 rst:0<=t.rest/\t.rest<=4096
 stp: ∀s∈sp,0<=s.opn/\s.opn<=s.cls/\s.cls<=4096/\0<=s.serv/\s.serv<=4096
 len:sp.length<=20
structure LabR (k:Nat) (L:Lab):Prop where
 rdy:0<=L.ready/\L.ready<=8192
 snc: -(12288*(k:Int))<=L.since/\L.since<=4096
 mil:0<=L.she.miles/\L.she.miles<=10000*(k:Int)
theorem Zk6 {n:Net} {pr f t τ:Int} (hn:netR n) (hm: ∀a∈n.arcs,0<=a.miles/\a.miles<=10000) (hτ:0<=τ/\τ<=1073741824):(0<=(goN n pr f t τ).1/\(goN n pr f t τ).1<=1107369984)/\(0<=(goN n pr f t τ).2.1/\(goN n pr f t τ).2.1<=10000):=by
 unfold goN
 split
 ·simp
 ·split
  ·simp only;omega
  ·split
   ·rename_i h;have hA:=UV h;have h1:=Je (hn.2.2 _ hA).1 hτ;have h2:=Vm (t:=τ) (fun p hp=>((hn.2.2 _ hA).2.2 p hp).2.2) _ (Nat.le_refl _);have h3:=(hn.2.2 _ hA).2.1;have h4:=hm _ hA;simp only [ZiA];omega
   ·simp
theorem Vb {x t sp k L} (h:TrpOk x t sp) (hl:LabR k L) (b:Bool):0<=ZY t L b/\ZY t L b<=12288:=by
 have:=h.rst;have:=hl.rdy;unfold ZY
 split<;>omega
theorem JD {k L} (hl:LabR k L) (b:Bool): -(12288*(k:Int))<=WQ L b/\WQ L b<=4096:=by
 have:=hl.snc;unfold WQ
 split<;>omega
theorem ZaL {x t sp k L} (h:TrpOk x t sp) (hl:LabR k L) (b:Bool):(0<=(goL x t sp k (ZY t L b)).1/\(goL x t sp k (ZY t L b)).1<=1107369984)/\(0<=(goL x t sp k (ZY t L b)).2.1/\(goL x t sp k (ZY t L b)).2.1<=10000):=by
 have:=Vb h hl b;exact Zk6 h.net h.mil (by omega)
theorem WK {k d b s} :(Xr k d b s).miles=s.miles:=by unfold Xr;split<;>rfl
theorem KN {k d b s} :(Xr k d b s).fin=s.fin:=by unfold Xr;split<;>rfl
theorem Vj {k d b s} :(Xr k d b s).times.length=s.times.length:=by unfold Xr;split<;>simp [ZgC]
theorem ZaM {x t sp k L b} (h:TrpOk x t sp) (hk:k<=sp.length) (hl:LabR k L) (he:(YU x t sp k L b).2=0):LabR (k+1) (YU x t sp k L b).1:=by
 have h1:=Vb h hl b;have h2:=JD hl b;obtain ⟨h3,h4⟩:=ZaL h hl b;have h5:=hl.mil;have h6:=h.opn;have h7:=h.drv;have hm:(Xr k (ZY t L b) b L.she).miles=L.she.miles:=WK;unfold YU at he ⊢
 generalize goL x t sp k (ZY t L b)=g at *
 generalize ZY t L b=d at *
 generalize WQ L b=s at *
 generalize Xr k d b L.she=m at *
 unfold WP at he ⊢
 split at he
 ·simp at he
 ·rename_i c1;rw [if_neg c1]
  split at he
  ·rename_i c2;rw [if_pos c2]
   split at he
   ·simp at he
   ·rename_i c3;rw [if_neg c3]
    split at he
    ·simp at he
    ·rename_i c4;rw [if_neg c4];exact ⟨by simp only;omega,by simp only;omega,by simp only;omega⟩
  ·rename_i c2;rw [if_neg c2];have h8:=h.stp _ (ZI (show k<sp.length by omega))
   split at he
   ·simp at he
   ·rename_i c3;rw [if_neg c3]
    split at he
    ·simp at he
    ·rename_i c4;rw [if_neg c4];exact ⟨by simp only;omega,by simp only;omega,by simp only;omega⟩
theorem QP {x t sp k L b} (hl:L.she.times.length=k) (he:(YU x t sp k L b).2=0) (hk:k<sp.length):(YU x t sp k L b).1.she.times.length=k+1:=by
 have hm:(Xr k (ZY t L b) b L.she).times.length=L.she.times.length:=Vj;unfold YU at he ⊢
 generalize goL x t sp k (ZY t L b)=g at *
 generalize ZY t L b=d at *
 generalize WQ L b=s at *
 generalize Xr k d b L.she=m at *
 have hk2: ¬k=sp.length:=by omega
 unfold WP at he ⊢;simp only [if_neg hk2] at he ⊢
 split at he
 ·simp at he
 ·rename_i c1;rw [if_neg c1]
  split at he
  ·simp at he
  ·rename_i c3;rw [if_neg c3]
   split at he
   ·simp at he
   ·rename_i c4;rw [if_neg c4];simp [hm,hl]
def ZJ (m x:Lab):Bool:=decide (m.ready=x.ready)&&decide (m.since<=x.since)
theorem Zc4 {x t sp k} {m y z:Lab} {b:Bool} (hb:ZJ m y=true) (hn:XS x t sp k y b=some z): ∃u,XS x t sp k m b=some u/\ZJ u z=true:=by
 simp only [ZJ,Bool.and_eq_true,decide_eq_true_eq] at hb;obtain ⟨hb1,hb2⟩:=hb
 have hd:ZY t m b=ZY t y b:=by simp [ZY,hb1]
 have hs:WQ m b<=WQ y b:=by unfold WQ;split<;>omega
 unfold XS at hn ⊢;unfold YU at hn ⊢;rw [hd]
 generalize goL x t sp k (ZY t y b)=g at *
 generalize ZY t y b=d at *
 generalize WQ y b=s at *
 generalize WQ m b=s2 at *
 generalize Xr k d b y.she=h1 at *
 generalize Xr k d b m.she=h2 at *
 unfold WP at hn ⊢
 by_cases c1:g.2.2=0
 ·by_cases c2:k=sp.length
  ·simp only [c1,c2,not_true,if_true,if_false] at hn ⊢
   by_cases c3:t.cls<g.1
   ·simp [c3] at hn
   ·by_cases c4:t.drive<s+g.1-d
    ·simp [c3,c4] at hn
    ·have c5: ¬t.drive<s2+g.1-d:=by omega
     simp only [c3,c4,if_false,if_true,Option.some.injEq] at hn;subst hn;refine ⟨_,by simp only [c3,c5,if_false,if_true];rfl,?_⟩;simp [ZJ];omega
  ·simp only [c1,c2,not_true,if_true,if_false] at hn ⊢
   by_cases c3:(nth sp k).cls<max g.1 (nth sp k).opn
   ·simp [c3] at hn
   ·by_cases c4:t.drive<s+g.1-d
    ·simp [c3,c4] at hn
    ·have c5: ¬t.drive<s2+g.1-d:=by omega
     simp only [c3,c4,if_false,if_true,Option.some.injEq] at hn;subst hn;refine ⟨_,by simp only [c3,c5,if_false,if_true];rfl,?_⟩;simp [ZJ];omega
 ·simp [c1] at hn
def Wt (L:Lab):Int:=L.she.fin
theorem ZbO {x t sp} {y z:Lab} {b:Bool} (hn:XS x t sp sp.length y b=some z):z.she.fin=z.ready:=by
 unfold XS YU WP at hn
 by_cases c1:(goL x t sp sp.length (ZY t y b)).2.2=0
 ·by_cases c3:t.cls<(goL x t sp sp.length (ZY t y b)).1
  ·simp [c1,c3] at hn
  ·by_cases c4:t.drive<WQ y b+(goL x t sp sp.length (ZY t y b)).1-ZY t y b
   ·simp [c1,c3,c4] at hn
   ·simp only [c1,c3,c4,not_true,if_true,if_false,Option.some.injEq] at hn;subst hn;rfl
 ·simp [c1] at hn
theorem Kb {x t sp} (ch:Nat->List Bool) (L:Lab):fmL Wt none (V4 ZJ (XS x t sp) ch (sp.length+1) 0 [L])=fmL Wt none (Ym (XS x t sp) ch (sp.length+1) 0 L):=by
 have h:=Zfz Wt ZJ (XS x t sp) ch (n:=sp.length+1) (Inv:=fun k y=>k=sp.length+1->y.she.fin=y.ready)
  (fun k y b z _ hn hk=>by
   have:k=sp.length:=by omega
   subst this
   exact ZbO hn) (fun k m y b z _ _ hb hn=>Zc4 hb hn)
  (fun m y h1 h2 hb=>by
   simp only [ZJ,Bool.and_eq_true,decide_eq_true_eq] at hb
   rw [Wt,Wt,h1 rfl,h2 rfl];omega) (sp.length+1) 0 [L] (by omega) (fun y _ hk=>by omega)
 rw [h];simp
def chF (r:List Bool) (k:Nat):List Bool:=match r[k]? with | some b=> [b] | none=> [false,true]
theorem Ze0 (r:List Bool) (n:Nat) (hn:r.length<=n): ∀(j k:Nat),k+j=r.length->ZgV (chF r) (n-k) k=(X3 (List.replicate (n-r.length) false)).map (r.drop k++ ·)
 | 0,k,h=>by
  have hk:k=r.length:=by omega
  subst hk;rw [ZbW (n:=n) _ _ _ (fun q hq=>by simp [chF,List.getElem?_eq_none hq])];simp
 | j+1,k,h=>by
  have e:n-k=(n-(k+1))+1:=by omega
  have hlt:k<r.length:=by omega
  rw [e,ZgV,Ze0 r n hn j (k+1) (by omega)]
  have:chF r k= [r[k]]:=by simp [chF,hlt]
  rw [this,List.flatMap_cons,List.flatMap_nil,List.append_nil,List.map_map,List.drop_eq_getElem_cons hlt]
  rfl
theorem KA (r:List Bool) (n:Nat) (hn:r.length<=n):ZgV (chF r) n 0=(X3 (List.replicate (n-r.length) false)).map (r++ ·):=by
 have:=Ze0 r n hn r.length 0 (by omega);simpa using this
def YF (r:List Bool) (n:Nat):List (List Bool):=(X3 (List.replicate (n-r.length) false)).map (r++ ·)
def WI (r:List Bool) (n:Nat):List Bool:=r++List.replicate (n-r.length) false
def V6 (x:Inst) (t:Typ) (sp:List Stp) (st:Int) (r:List Bool):She×Int :=
 match fmL Wt none ((YF r (sp.length+1)).filterMap (VP (XS x t sp) 0 (XR t st))) with
 | some L=>(L.she,0)
 | none=>(zShe,(XW x t sp 0 (XR t st) (WI r (sp.length+1))).2)
theorem Zae {x t sp} {st:Int} {r:List Bool} (hr:r.length<=sp.length+1):V6 x t sp st r=match fmL Wt none (V4 ZJ (XS x t sp) (chF r) (sp.length+1) 0 [XR t st]) with
 | some L=>(L.she,0)
 | none=>(zShe,(XW x t sp 0 (XR t st) (WI r (sp.length+1))).2):=by
 rw [Kb,Ym,KA r _ hr];rfl
theorem Zb2 {x t sp} : ∀(bs:List Bool) (k:Nat) (L:Lab),L.she.times.length=k->k+bs.length=sp.length+1->0<bs.length->(XW x t sp k L bs).2=0->(XW x t sp k L bs).1.she.times.length=sp.length
 | [],k,L,h1,h2,h3,h=>by simp at h3
 | b::bs,k,L,h1,h2,_,h=>by
  rw [XW] at h ⊢
  by_cases h4:(YU x t sp k L b).2=0
  ·simp only [h4,if_true] at h ⊢
   cases bs with
   | nil =>
    simp at h2;subst h2;rw [XW];unfold YU at h4 ⊢;unfold WP at h4 ⊢
    split at h4
    ·simp at h4
    ·rename_i c1;rw [if_neg c1];simp only [if_true] at h4 ⊢
     split at h4
     ·simp at h4
     ·rename_i c2;rw [if_neg c2]
      split at h4
      ·simp at h4
      ·rename_i c3;rw [if_neg c3];simp [Vj,h1]
   | cons b2 bs =>
    simp at h2;exact Zb2 (b2::bs) (k+1) _ (QP h1 h4 (by omega)) (by simp;omega) (by simp) h
  ·simp [h4] at h
theorem bestF_len {x t sp} {st:Int} {r:List Bool} (hr:r.length<=sp.length+1) (h:(V6 x t sp st r).2=0):(V6 x t sp st r).1.times.length=sp.length:=by
 unfold V6 at h ⊢
 cases hf:fmL Wt none ((YF r (sp.length+1)).filterMap (VP (XS x t sp) 0 (XR t st))) with
 | none =>
  rw [hf] at h;simp only at h ⊢;exfalso
  have hm:WI r (sp.length+1)∈YF r (sp.length+1):=by
   unfold YF WI;rw [fromB_next];simp
  have h2:VP (XS x t sp) 0 (XR t st) (WI r (sp.length+1))=some (XW x t sp 0 (XR t st) (WI r (sp.length+1))).1:=by rw [Wq,if_pos h]
  have h3:(XW x t sp 0 (XR t st) (WI r (sp.length+1))).1∈(YF r (sp.length+1)).filterMap (VP (XS x t sp) 0 (XR t st)):=List.mem_filterMap.2 ⟨_,hm,h2⟩;generalize (YF r (sp.length+1)).filterMap (VP (XS x t sp) 0 (XR t st))=l at hf h3
  cases l with
  | nil=>simp at h3
  | cons a l =>
   rw [fmL] at hf;obtain ⟨z,e,_⟩:=Vi Wt l a;rw [e] at hf
   cases hf
 | some L =>
  simp only;have hm:=fmL_mem _ _ hf;obtain ⟨bs,hbs,hrun⟩:=List.mem_filterMap.1 hm;rw [Wq] at hrun
  split at hrun
  ·rename_i h5;simp at hrun;subst hrun;obtain ⟨q,hq,rfl⟩:=List.mem_map.1 hbs;have hql:=fromB_len _ _ hq;simp at hql;exact Zb2 _ 0 _ rfl (by simp [hql];omega) (by simp [hql];omega) h5
  ·cases hrun
where
 fmL_mem: ∀(l:List Lab) (L:Lab),fmL Wt none l=some L->L∈l
 | [],L,h=>by simp [fmL] at h
 | a::l,L,h=>by
  rw [fmL] at h;exact fmL_mem2 l a L h
 fmL_mem2: ∀(l:List Lab) (a L:Lab),fmL Wt (some a) l=some L->L∈a::l
 | [],a,L,h=>by simp [fmL] at h;subst h;simp
 | y::l,a,L,h=>by
  rw [fmL] at h
  split at h
  ·have:=fmL_mem2 l y L h;simp only [List.mem_cons] at this ⊢;rcases this with h | h<;>simp [h]
  ·have:=fmL_mem2 l a L h;simp only [List.mem_cons] at this ⊢;rcases this with h | h<;>simp [h]
 fromB_len: ∀(l q:List Bool),q∈X3 l->q.length=l.length
 | [],q,h=>by simp [X3] at h;subst h;rfl
 | b::bs,q,h=>by
  rw [X3] at h
  split at h
  ·obtain ⟨q',hq,rfl⟩:=List.mem_map.1 h;simp [fromB_len bs q' hq]
  ·rcases List.mem_append.1 h with h | h
   ·obtain ⟨q',hq,rfl⟩:=List.mem_map.1 h;simp [fromB_len bs q' hq]
   ·obtain ⟨q',hq,rfl⟩:=List.mem_map.1 h;simp [fromB_len (List.replicate bs.length false) q' hq]
 termination_by l=>l.length
 decreasing_by all_goals simp
def Yz (x:Inst) (v:Vis):Stp:=if v.drp=true then (nth x.orders v.order.toNat).drp else (nth x.orders v.order.toNat).pick
def Z0 (x:Inst) (l:List Vis):List Stp:=l.map (Yz x)
def Ya (t:Typ) (s:Int):Bool:=decide (0<=t.skills)&&decide (0<=s)&&(List.range 63).all fun i=> !s.toNat.testBit i||t.skills.toNat.testBit i
def YC (a c:List Int):Bool:=decide (a.length=c.length)&&(List.range a.length).all fun i=>decide (nth a i<=nth c i)
def Vk (x:Inst) (c:List Int) (l:List Vis):Bool:=(List.range (l.length+1)).all fun n=>YC (Y8 x l n) c
def Z6 (x:Inst) (r:Rte):Typ:=nth x.types r.typ.toNat
def YW (l:List Vis) (i:Nat):Bool:= !((l.take i).any fun v=>decide (v.order=(nth l i).order))
def ZG (k t:Int):Bool:=decide (k≠ -1)&&decide (k≠t)
def chgF (x:Inst) (l:List Vis) (t:Int):Nat->Int×Int
 | 0=>(0,0)
 | n+1=>if YW l n=true then ((chgF x l t n).1+(if ZG (nth x.orders (nth l n).order.toNat).now t=true then 1 else 0),(chgF x l t n).2+(if ZG (nth x.orders (nth l n).order.toNat).last t=true then 1 else 0)) else chgF x l t n
def Zjk (x:Inst) (r:Rte) (s:She):Sco :=
 ⟨(Z6 x r).fixed+(Z6 x r).perMile*s.miles+(Z6 x r).perTick*(s.fin-(Z6 x r).opn),(chgF x r.visits r.typ r.visits.length).1,(chgF x r.visits r.typ r.visits.length).2,(s.fin-(Z6 x r).opn).tdiv 64*(s.fin-(Z6 x r).opn).tdiv 64⟩
def XH (x:Inst) (r:Rte):Int :=
 if ¬(0<=r.typ/\r.typ<(x.types.length:Int)) then 2
 else if ¬ZW x r.visits=0 then ZW x r.visits
 else if (r.visits.any fun v=> !Ya (Z6 x r) (nth x.orders v.order.toNat).skills)=true then 18
 else if Vk x (Z6 x r).cap r.visits=false then 17
 else if ¬(0<=r.start/\r.start<=4096/\r.rests.length<=r.visits.length+1) then 2
 else 0
def Xi (x:Inst) (r:Rte):She×Int:=V6 x (Z6 x r) (Z0 x r.visits) r.start r.rests
def Z2 (x:Inst) (r:Rte):Int:=if XH x r=0 then (Xi x r).2 else XH x r
def WO (x:Inst) (r:Rte):She:=if Z2 x r=0 then (Xi x r).1 else zShe
def VF (x:Inst) (r:Rte):Sco:=if Z2 x r=0 then Zjk x r (Xi x r).1 else zSco
def Zve : Stp:=⟨0,0,0,0⟩
def inB (x:Inst) (v:Vis):Bool:=decide (0<=v.order)&&decide (v.order<(x.orders.length:Int))
def JT (x:Inst) (v:Vis):Bool:=inB x v&&decide (0<=(Yz x v).place)
def JH (x:Inst) (v:Vis):Stp:=if inB x v=true then Yz x v else Zve
theorem ZbK (x:Inst) (v:Vis) (ho:x.orders.length<=1048576):PT 182 [.p (ZC x),.p (XY v)] [.p (Zil (JH x v)),.p (.bool (JT x v))]:=by
 refine Zd [] Tryz.func182 rfl Znc ?_;simp (disch:=omega) only [Tryz.f182,go_sem,seval];refine gF ?_ ?_<;>intro h1<;>simp (disch:=omega) only [Sh.out h1,go_sem,seval]
 ·have e:inB x v=false:=by
   have: ¬ 0<=v.order:=by omega
   simp [inB,this]
  simp only [JH,JT,e,Bool.false_and,Bool.false_eq_true,if_false,Zve];exact we
 ·refine cD ?_ ?_<;>intro h2<;>simp (disch:=omega) only [Sh.out h2,go_sem,seval]
  ·have e:inB x v=false:=by
    have: ¬v.order<(x.orders.length:Int):=by omega
    simp [inB,this]
   simp only [JH,JT,e,Bool.false_and,Bool.false_eq_true,if_false,Zve];exact we
  ·have e:inB x v=true:=by simp [inB];omega
   have hi:v.order.toNat<x.orders.length:=by omega
   refine cD ?_ ?_<;>intro hd<;>simp (disch:=omega) only [Sh.out hd,go_sem,seval]
   ·have hG:JH x v=(nth x.orders v.order.toNat).drp:=by simp [JH,e,Yz,hd]
    have hV:JT x v=decide (0<=(nth x.orders v.order.toNat).drp.place):=by simp [JT,e,Yz,hd]
    rw [hG,hV];refine Zcl (.cons 0 (.cons 1 (.cons 2 (.cons 3 (.cons 4 (.cons 5 .nil .nil) .nil) (.cons 4 (.cons 3 (.cons 5 .nil .nil) .nil) .nil)) (.cons 4 (.cons 2 (.cons 3 (.cons 5 .nil .nil) .nil) .nil) .nil)) (.cons 4 (.cons 1 (.cons 2 (.cons 3 (.cons 5 .nil .nil) .nil) .nil) .nil) .nil)) (.cons 1 (.cons 0 (.cons 2 (.cons 3 (.cons 4 (.cons 5 .nil .nil) .nil) (.cons 4 (.cons 3 (.cons 5 .nil .nil) .nil) .nil)) (.cons 4 (.cons 2 (.cons 3 (.cons 5 .nil .nil) .nil) .nil) .nil)) (.cons 2 (.cons 0 (.cons 3 (.cons 4 (.cons 5 .nil .nil) .nil) (.cons 4 (.cons 3 (.cons 5 .nil .nil) .nil) .nil)) (.cons 3 (.cons 0 (.cons 4 (.cons 5 .nil .nil) .nil) .nil) .nil)) .nil)) .nil)) Zm (by kernel_rfl) ?_
    simp (disch:=omega) only [go_sem,seval]
    repeat' first
     | refine K6 ?_ ?_
     | exact we
     | simp (disch:=omega) only [go_sem,seval]
   ·have hG:JH x v=(nth x.orders v.order.toNat).pick:=by simp [JH,e,Yz,hd]
    have hV:JT x v=decide (0<=(nth x.orders v.order.toNat).pick.place):=by simp [JT,e,Yz,hd]
    rw [hG,hV];refine Zcl (.cons 0 (.cons 1 (.cons 2 (.cons 3 (.cons 4 (.cons 5 .nil .nil) .nil) (.cons 4 (.cons 3 (.cons 5 .nil .nil) .nil) .nil)) (.cons 4 (.cons 2 (.cons 3 (.cons 5 .nil .nil) .nil) .nil) .nil)) (.cons 4 (.cons 1 (.cons 2 (.cons 3 (.cons 5 .nil .nil) .nil) .nil) .nil) .nil)) (.cons 1 (.cons 0 (.cons 2 (.cons 3 (.cons 4 (.cons 5 .nil .nil) .nil) (.cons 4 (.cons 3 (.cons 5 .nil .nil) .nil) .nil)) (.cons 4 (.cons 2 (.cons 3 (.cons 5 .nil .nil) .nil) .nil) .nil)) (.cons 2 (.cons 0 (.cons 3 (.cons 4 (.cons 5 .nil .nil) .nil) (.cons 4 (.cons 3 (.cons 5 .nil .nil) .nil) .nil)) (.cons 3 (.cons 0 (.cons 4 (.cons 5 .nil .nil) .nil) .nil) .nil)) .nil)) .nil)) Zm (by kernel_rfl) ?_
    simp (disch:=omega) only [go_sem,seval]
    repeat' first
     | refine K6 ?_ ?_
     | exact we
     | simp (disch:=omega) only [go_sem,seval]
def Y7 (x:Inst) (r:Rte):Bool:=(decide (0<=r.typ)&&decide (r.typ<(x.types.length:Int))&&decide (0<=r.start)&&decide (r.start<=4096)&&decide (r.visits.length<=20))&&r.visits.all (JT x)
theorem JN (x:Inst) (r:Rte) (ho:x.orders.length<=1048576) (ht:x.types.length<=1048576) (hl:r.visits.length<=1048576):PC 128 [.p (ZC x),.p (YZ r)] (.bool (Y7 x r)):=by
 refine Zb Tryz.func128 rfl ZmU ?_;simp (disch:=omega) only [Tryz.f128,go_sem,seval];refine gF ?_ ?_<;>intro h1<;>simp (disch:=omega) only [Sh.out h1,go_sem,seval]
 ·simp [Y7];omega
 ·refine gF ?_ ?_<;>intro h2<;>simp (disch:=omega) only [Sh.out h2,go_sem,seval]
  ·simp [Y7];omega
  ·refine gF ?_ ?_<;>intro h3<;>simp (disch:=omega) only [Sh.out h3,go_sem,seval]
   ·simp [Y7];omega
   ·refine gF ?_ ?_<;>intro h4<;>simp (disch:=omega) only [Sh.out h4,go_sem,seval]
    ·simp [Y7];omega
    ·refine cD ?_ ?_<;>intro h5<;>simp (disch:=omega) only [Sh.out h5,go_sem,seval]
     ·simp [Y7];omega
     ·refine Zf [2,3] (fun k:Nat=> [(5,.p (.int .i64 k))]) (fun _=> [Za x,Zy r]) (fun k=>k<=r.visits.length/\ ∀j,j<k->JT x (nth r.visits j)=true) (fun k=>r.visits.length-k) 0 (by simp) (Weak.mk ?_) ?_
      ·simp (disch:=omega) only [Za,Zy,go_sem,seval]
      ·rintro k ⟨hk,hno⟩;simp (disch:=omega) only [Za,Zy,go_sem,seval];refine cD ?_ ?_<;>intro h<;>simp (disch:=omega) only [Sh.out h,go_sem,seval]
       ·have hk2:k<r.visits.length:=by omega
        refine ZO [10,11] 12 Zm (by kernel_rfl) (by kernel_rfl) (by kernel_rfl) (by simp) ?_;simp (disch:=omega) only [go_sem,seval];refine XE (ZbK x (nth r.visits k) ho) ?_;simp (disch:=omega) only [go_sem,seval];refine Zq 10 _ _ (by kernel_rfl) (by simp (disch:=omega) only [go_sem,seval];exact ⟨rfl,rfl⟩) ?_;simp (disch:=omega) only [go_sem,seval];refine Zq 11 _ _ (by kernel_rfl) (by simp (disch:=omega) only [go_sem,seval];exact ⟨rfl,rfl⟩) (Xj ?_);simp (disch:=omega) only [go_sem,seval];refine cD ?_ ?_<;>intro h6<;>simp (disch:=omega) only [Sh.out h6,go_sem,seval]
        ·have:r.visits.all (JT x)=false:=by
          rw [List.all_eq_false];exact ⟨nth r.visits k,Zl hk2,by simpa using h6⟩
         simp [Y7,this]
        ·exact ⟨k+1,⟨by omega,Zg.2 ⟨hno,by simpa using h6⟩⟩,by omega,Weak.mk (by simp (disch:=omega) only [Za,Zy,go_sem,seval])⟩
       ·have hkl:k=r.visits.length:=by omega
        subst hkl
        have:r.visits.all (JT x)=true:=by
         rw [List.all_eq_true];intro v hv;obtain ⟨j,hj,rfl⟩:=List.mem_iff_getElem.1 hv;rw [<- Ze hj];exact hno j hj
        simp [Y7,this];omega
@[go_sem high] theorem Zwa {k k':IntKind} {a b:Int} :Zks false [.p (.int k a),.p (.int k' b)]=some (.int k (max a b)):=by
 simp only [Zks]
 by_cases h:a<b
 ·simp [h];omega
 ·simp [h];omega
theorem Zcy {l:List Tim} {m:Tim} {d:Int} {b:Bool} :ZgC (l++ [m]) l.length d b=l++ [{ m with dep:=d,rest:=b }]:=by
 have:nth (l++ [m]) l.length=m:=by rw [Ze (by simp)];simp
 rw [ZgC,this];simp
theorem ZfT {x:Inst} {t:Typ} {sp:List Stp} {k:Nat} {d s m:Int} {h:She} (hk:k<sp.length) (ho:(nth sp k).opn<=(nth sp k).cls) (hm:h.miles=m) :
  (VH x t ⟨JV t sp k,d,s,m⟩ (nth sp k).place (nth sp k).cls 14).2=(WP t sp k (goL x t sp k d) d s h).2 /\
  ((WP t sp k (goL x t sp k d) d s h).2=0->(VH x t ⟨JV t sp k,d,s,m⟩ (nth sp k).place (nth sp k).cls 14).1=⟨(nth sp k).place,(goL x t sp k d).1,s+(goL x t sp k d).1-d,m+(goL x t sp k d).2.1⟩ /\
   (WP t sp k (goL x t sp k d) d s h).1=⟨max (goL x t sp k d).1 (nth sp k).opn+(nth sp k).serv,s+(goL x t sp k d).1-d,{ h with times_c:=false,times:=h.times++ [⟨(goL x t sp k d).1,max (goL x t sp k d).1 (nth sp k).opn,0,false⟩],miles:=m+(goL x t sp k d).2.1 }⟩):=by
 have hne: ¬k=sp.length:=by omega
 have e:goN x.net t.prof (JV t sp k) (nth sp k).place d=goL x t sp k d:=by simp [goL,toF,hne]
 unfold VH WP;simp only [e,if_neg hne];subst hm;generalize goL x t sp k d=g
 by_cases c1:g.2.2=0
 ·by_cases c2:(nth sp k).cls<g.1
  ·have c3:(nth sp k).cls<max g.1 (nth sp k).opn:=by omega
   simp [c1,c2,c3]
  ·have c3: ¬(nth sp k).cls<max g.1 (nth sp k).opn:=by omega
   by_cases c4:t.drive<s+g.1-d
   ·simp [c1,c2,c3,c4]
   ·simp [c1,c2,c3,c4]
 ·simp [c1]
theorem ZfY {x:Inst} {t:Typ} {sp:List Stp} {d s m:Int} {h:She} (hm:h.miles=m) :
  (VH x t ⟨JV t sp sp.length,d,s,m⟩ t.dst t.cls 15).2=(WP t sp sp.length (goL x t sp sp.length d) d s h).2 /\
  ((WP t sp sp.length (goL x t sp sp.length d) d s h).2=0->(VH x t ⟨JV t sp sp.length,d,s,m⟩ t.dst t.cls 15).1=⟨t.dst,(goL x t sp sp.length d).1,s+(goL x t sp sp.length d).1-d,m+(goL x t sp sp.length d).2.1⟩ /\
   (WP t sp sp.length (goL x t sp sp.length d) d s h).1=⟨(goL x t sp sp.length d).1,s+(goL x t sp sp.length d).1-d,{ h with fin:=(goL x t sp sp.length d).1,miles:=m+(goL x t sp sp.length d).2.1 }⟩):=by
 have e:goN x.net t.prof (JV t sp sp.length) t.dst d=goL x t sp sp.length d:=by simp [goL,toF]
 unfold VH WP;simp only [e,if_true];subst hm;generalize goL x t sp sp.length d=g
 by_cases c1:g.2.2=0
 ·by_cases c2:t.cls<g.1
  ·simp [c1,c2]
  ·by_cases c4:t.drive<s+g.1-d
   ·simp [c1,c2,c4]
   ·simp [c1,c2,c4]
 ·simp [c1]
def Zsb (s:StD):AM.Obj:= .cells [.p (.int .i64 s.place),.p (.int .i64 s.time),.p (.int .i64 s.driven),.p (.int .i64 s.miles)]
def QK (t:Typ) (sp:List Stp) (k:Nat) (L:Lab) (b:Bool):StD:=⟨JV t sp k,ZY t L b,WQ L b,L.she.miles⟩
theorem ZvB {g:FuncId} {args:List V} {a c:PV} {H:List AM.Obj} {K:V->List AM.Obj->Prop} (h:ACalls Tryz.prog g args [] fun x H'=> ∃b:PV,x= .tup [.p a,.p b,.p c]/\H'= []) (k: ∀b:PV,K (.tup [.p a,.p b,.p c]) H) (ha:ZT 0 args=true:=by rfl):ACalls Tryz.prog g args H K :=
 (h.behind ha H).mono fun x H' hq=>by
  obtain ⟨y,H1,⟨b,rfl,rfl⟩,rfl,rfl⟩:=hq;simpa [shV,Zar] using k b
theorem Xh {x:Inst} {l:List Vis} :(Z0 x l).length=l.length:=by simp [Z0]
theorem QI {x:Inst} {l:List Vis} {k:Nat} (h:k<l.length):nth (Z0 x l) k=Yz x (nth l k):=by
 rw [Ze (by simpa [Z0] using h),Ze h];simp [Z0]
theorem ZjA (x:Inst) (r:Rte) (rests:List Bool) (c:Bool) (hok:TrpOk x (Z6 x r) (Z0 x r.visits)) (ho:x.orders.length<=1048576) (ht:x.types.length<=1048576) (hne:0<r.visits.length) (hp:Y7 x r=true) (hl:rests.length=r.visits.length+1) :
  ACalls Tryz.prog 183 [.p (ZC x),.p (YZ r),.p (.list c (rests.map eB))] [] fun y H'=> ∃d:PV,y= .tup [.p (Zf2 (XW x (Z6 x r) (Z0 x r.visits) 0 (XR (Z6 x r) r.start) rests).1.she),.p d,.p (.int .i64 (XW x (Z6 x r) (Z0 x r.visits) 0 (XR (Z6 x r) r.start) rests).2)]/\H'= []:=by
 have hp2:=hp;simp only [Y7,Bool.and_eq_true,decide_eq_true_eq] at hp2;obtain ⟨⟨⟨⟨⟨p1,p2⟩,p3⟩,p4⟩,p5⟩,p6⟩:=hp2;have hvis: ∀k,k<r.visits.length->JT x (nth r.visits k)=true:=fun k hk=>List.all_eq_true.1 p6 _ (Zl hk)
 have hstop: ∀k,k<r.visits.length->JH x (nth r.visits k)=nth (Z0 x r.visits) k:=fun k hk=>by
  have:=hvis k hk;simp only [JT,Bool.and_eq_true] at this;rw [JH,if_pos this.1,QI hk]
 have hti:r.typ.toNat<x.types.length:=by omega
 have hopn:=hok.opn;have hrst:=hok.rst;have htd:Z6 x r=nth x.types r.typ.toNat:=rfl
 generalize hT:Z6 x r=t at *
 have hsl:(Z0 x r.visits).length=r.visits.length:=Xh
 generalize hS:Z0 x r.visits=sp at *
 refine Zd [26] Tryz.func183 rfl Zqk ?_;simp (disch:=omega) only [Tryz.f183,go_sem,seval];refine (JN x r ho ht (by omega)).use ?_;simp (disch:=omega) only [go_sem,seval];rw [hp];simp (disch:=omega) only [go_sem,seval];refine cD ?_ ?_<;>intro h0<;>simp (disch:=omega) only [Sh.out h0,<- htd,go_sem,seval]
 ·omega
 ·refine ZO [13] 14 Zm (by kernel_rfl) (by kernel_rfl) (by kernel_rfl) (by simp) ?_;simp (disch:=omega) only [go_sem,seval];refine Zs (Za7 t ⟨t.src,max t.opn r.start,0,0⟩ (nth rests 0) (by simp only;omega)) ?_;simp (disch:=omega) only [go_sem,seval];refine Zq 13 _ _ (by kernel_rfl) (by simp (disch:=omega) only [go_sem,seval];exact ⟨rfl,rfl⟩) (Xj ?_);simp (disch:=omega) only [go_sem,seval];refine ZO [6] 7 Zm (by kernel_rfl) (by kernel_rfl) (by kernel_rfl) (by simp) ?_;simp (disch:=omega) only [go_sem,seval];refine Zq 6 _ _ (by kernel_rfl) (by simp (disch:=omega) only [go_sem,seval];exact ⟨rfl,rfl⟩) (Xj ?_)
  simp (disch:=omega) only [go_sem,seval];have hL0:LabR 0 (XR t r.start):=⟨by simp only [XR];omega,by simp [XR],by simp [XR,zShe]⟩
  have hS0:Zaw t ⟨t.src,max t.opn r.start,0,0⟩ (nth rests 0)=QK t sp 0 (XR t r.start) (nth rests 0):=by
   simp only [Zaw,QK,JV,ZY,WQ,XR,zShe,if_true]
   split<;>rfl
  simp (disch:=omega) only [hS0,go_sem,seval]
  refine ZA [26] [2,3,4,6,9,10,11] (fun q:Nat×Lab×List Int=> [(12,.sl 7 0 q.2.2.length q.2.2.length),(13,.p (.int .i64 q.1))])
   (fun q=> [Za x,Zy r,.cells [.p (.bool false),.p (.int .i64 0),.p (.list true []),.p (.int .i64 0),.p (.int .i64 0)],Xl t,Zsb (QK t sp q.1 q.2.1 (nth rests q.1)),
    .cells [.p (.bool (Xr q.1 (ZY t q.2.1 (nth rests q.1)) (nth rests q.1) q.2.1.she).rest),.p (.int .i64 (Xr q.1 (ZY t q.2.1 (nth rests q.1)) (nth rests q.1) q.2.1.she).dep),.sl 6 0 (Xr q.1 (ZY t q.2.1 (nth rests q.1)) (nth rests q.1) q.2.1.she).times.length (Xr q.1 (ZY t q.2.1 (nth rests q.1)) (nth rests q.1) q.2.1.she).times.length,.p (.int .i64 0),.p (.int .i64 0)],
    .elems 4 ((Xr q.1 (ZY t q.2.1 (nth rests q.1)) (nth rests q.1) q.2.1.she).times.map eTim),.elems 1 (q.2.2.map eI)])
   (fun q=>q.1<=r.visits.length/\XW x t sp 0 (XR t r.start) rests=XW x t sp q.1 q.2.1 (rests.drop q.1)/\LabR q.1 q.2.1/\q.2.1.she.times.length=q.1/\q.2.1.she.fin=0/\(0<q.1->q.2.1.she.times_c=false)/\q.2.2.length=q.1) (fun q=>r.visits.length-q.1) (0,XR t r.start,[])
   ⟨by simp,by simp,hL0,by simp [XR,zShe],by simp [XR,zShe],by simp,by simp⟩ ((Weak.nilC (o:=5) (j:=2) 4 rfl rfl (by simp)).trans (Weak.ofNil 12 1 rfl (by simp) (Weak.mk ?_))) ?_
  ·simp (disch:=omega) only [Za,Zy,Xl,Zsb,QK,JV,Xr,XR,zShe,List.map_nil,List.length_nil,List.set_cons_succ,List.set_cons_zero,List.cons_append,List.nil_append,go_sem,seval]
  ·rintro ⟨k,L,ds⟩ ⟨hk,hrun,hL,hlen,hfin,hclip,hds⟩;simp only at hk hrun hL hlen hfin hclip hds
   have hmlen:(Xr k (ZY t L (nth rests k)) (nth rests k) L.she).times.length=k:=by rw [Vj];exact hlen
   have hd:=Vb hok hL (nth rests k);have hs:=JD hL (nth rests k);have hg:=ZaL hok hL (nth rests k);have hmi:=hL.mil
   generalize hm:Xr k (ZY t L (nth rests k)) (nth rests k) L.she=m at *
   have hmm:m.miles=L.she.miles:=by rw [<- hm,WK]
   have hmf:m.fin=0:=by rw [<- hm,KN,hfin]
   have hdrop:rests.drop k=nth rests k::rests.drop (k+1):=by rw [List.drop_eq_getElem_cons (by omega),Ze (by omega)]
   have hnx:YU x t sp k L (nth rests k)=WP t sp k (goL x t sp k (ZY t L (nth rests k))) (ZY t L (nth rests k)) (WQ L (nth rests k)) m:=by rw [YU,hm]
   rw [hdrop,XW] at hrun;simp (disch:=omega) only [Za,Zy,Xl,Zsb,go_sem,seval];refine cD ?_ ?_<;>intro h<;>simp (disch:=omega) only [Sh.out h,go_sem,seval]
   ·have hk2:k<r.visits.length:=by omega
    have hsp:=hok.stp _ (ZI (show k<sp.length by omega));refine ZO [10,11] 12 Zm (by kernel_rfl) (by kernel_rfl) (by kernel_rfl) (by simp) ?_;simp (disch:=omega) only [go_sem,seval];refine XE (ZbK x (nth r.visits k) ho) ?_;simp (disch:=omega) only [go_sem,seval];refine Zq 10 _ _ (by kernel_rfl) (by simp (disch:=omega) only [go_sem,seval];exact ⟨rfl,rfl⟩) ?_;simp (disch:=omega) only [go_sem,seval];refine Zq 11 _ _ (by kernel_rfl) (by simp (disch:=omega) only [go_sem,seval];exact ⟨rfl,rfl⟩) (Xj ?_);simp (disch:=omega) only [hstop k hk2,go_sem,seval]
    obtain ⟨f1,f2⟩:=ZfT (x:=x) (t:=t) (d:=ZY t L (nth rests k)) (s:=WQ L (nth rests k)) (h:=m) (show k<sp.length by omega) hsp.2.1 hmm
    have he2:goN x.net t.prof (JV t sp k) (nth sp k).place (ZY t L (nth rests k))=goL x t sp k (ZY t L (nth rests k)):=by
     have hne: ¬k=sp.length:=by omega
     simp [goL,toF,hne]
    refine Xn (Zck x t (QK t sp k L (nth rests k)) (nth sp k).place (nth sp k).cls 14 hok.net ?_ ?_ ?_ ?_) ?_
    ·simp only [QK];omega
    ·simp only [QK,Sml];omega
    ·simp only [QK,Sml];omega
    ·simp only [QK,Sml];rw [he2];omega
    have f1':(VH x t (QK t sp k L (nth rests k)) (nth sp k).place (nth sp k).cls 14).2=(YU x t sp k L (nth rests k)).2:=by rw [hnx,<- f1];rfl
    simp (disch:=omega) only [go_sem,seval];rw [f1'];refine cD ?_ ?_<;>intro h3<;>simp (disch:=omega) only [Sh.out h3,go_sem,seval]
    ·rw [if_neg h3] at hrun;rw [hrun];simp only [Wm,zShe];exact ⟨_,_,Weak.mk (by simp (disch:=omega) only [List.map_nil,go_sem,seval]),.list true [],rfl,rfl⟩
    ·have h3':(YU x t sp k L (nth rests k)).2=0:=Classical.not_not.1 h3;rw [if_pos h3'] at hrun;have hL':=ZaM hok (by omega) hL h3';rw [hnx] at h3';obtain ⟨f3,f4⟩:=f2 h3';have f3':(VH x t (QK t sp k L (nth rests k)) (nth sp k).place (nth sp k).cls 14).1=⟨(nth sp k).place,(goL x t sp k (ZY t L (nth rests k))).1,WQ L (nth rests k)+(goL x t sp k (ZY t L (nth rests k))).1-ZY t L (nth rests k),L.she.miles+(goL x t sp k (ZY t L (nth rests k))).2.1⟩:=f3
     have hL2:(YU x t sp k L (nth rests k)).1=⟨max (goL x t sp k (ZY t L (nth rests k))).1 (nth sp k).opn+(nth sp k).serv,WQ L (nth rests k)+(goL x t sp k (ZY t L (nth rests k))).1-ZY t L (nth rests k),{ m with times_c:=false,times:=m.times++ [⟨(goL x t sp k (ZY t L (nth rests k))).1,max (goL x t sp k (ZY t L (nth rests k))).1 (nth sp k).opn,0,false⟩],miles:=L.she.miles+(goL x t sp k (ZY t L (nth rests k))).2.1 }⟩:=by rw [hnx];exact f4
     simp (disch:=omega) only [f3',go_sem,seval];refine ZO [13] 14 Zm (by kernel_rfl) (by kernel_rfl) (by kernel_rfl) (by simp) ?_;simp (disch:=omega) only [go_sem,seval];refine Zq 13 _ _ (by kernel_rfl) (by simp (disch:=omega) only [go_sem,seval];exact ⟨rfl,rfl⟩) (Xj ?_);simp (disch:=omega) only [go_sem,seval]
     generalize (YU x t sp k L (nth rests k)).1=L2 at *
     have hS1:Zaw t ⟨(nth sp k).place,max (goL x t sp k (ZY t L (nth rests k))).1 (nth sp k).opn+(nth sp k).serv,WQ L (nth rests k)+(goL x t sp k (ZY t L (nth rests k))).1-ZY t L (nth rests k),L.she.miles+(goL x t sp k (ZY t L (nth rests k))).2.1⟩ (nth rests (k+1))=QK t sp (k+1) L2 (nth rests (k+1)):=by
      rw [hL2];simp only [Zaw,QK,JV,ZY,WQ,Nat.add_sub_cancel,if_neg (show ¬k+1=0 by omega)]
      split<;>rfl
     have hM:Xr (k+1) (ZY t L2 (nth rests (k+1))) (nth rests (k+1)) L2.she= { m with times_c:=false,times:=m.times++ [⟨(goL x t sp k (ZY t L (nth rests k))).1,max (goL x t sp k (ZY t L (nth rests k))).1 (nth sp k).opn,ZY t L2 (nth rests (k+1)),nth rests (k+1)⟩],miles:=L.she.miles+(goL x t sp k (ZY t L (nth rests k))).2.1 } :=by
      have he:L2.she= { m with times_c:=false,times:=m.times++ [⟨(goL x t sp k (ZY t L (nth rests k))).1,max (goL x t sp k (ZY t L (nth rests k))).1 (nth sp k).opn,0,false⟩],miles:=L.she.miles+(goL x t sp k (ZY t L (nth rests k))).2.1 } :=by rw [hL2]
      rw [he,Xr,if_neg (by omega),Nat.add_sub_cancel];simp only [<- hmlen,Zcy]
     have hd2:=Vb hok hL' (nth rests (k+1));refine Zx 8 Zm (by kernel_rfl) (by kernel_rfl) ?_;simp (disch:=omega) only [go_sem,seval];refine Zs (Za7 t ⟨(nth sp k).place,max (goL x t sp k (ZY t L (nth rests k))).1 (nth sp k).opn+(nth sp k).serv,WQ L (nth rests k)+(goL x t sp k (ZY t L (nth rests k))).1-ZY t L (nth rests k),L.she.miles+(goL x t sp k (ZY t L (nth rests k))).2.1⟩ (nth rests (k+1)) (by simp only;omega)) ?_;simp (disch:=omega) only [go_sem,seval];simp (disch:=omega) only [hS1,go_sem,seval];refine ⟨(k+1,L2,ds++ [L2.since]),⟨by simp only;omega,hrun,hL',by rw [hL2];simp [hmlen],by rw [hL2];exact hmf,by rw [hL2];simp,by simp [hds]⟩,by simp only;omega,Weak.mk ?_⟩
     simp (disch:=omega) only [hM,Za,Zy,Xl,Zsb,hmlen,List.length_append,List.length_cons,List.length_nil,List.map_append,List.map_cons,List.map_nil,go_sem,seval];exact ⟨rfl,by rw [show L2.since=WQ L (nth rests k)+(goL x t sp k (ZY t L (nth rests k))).1-ZY t L (nth rests k) by rw [hL2]]⟩
   ·have hkl:k=sp.length:=by omega
    subst hkl;obtain ⟨f1,f2⟩:=ZfY (x:=x) (t:=t) (sp:=sp) (d:=ZY t L (nth rests sp.length)) (s:=WQ L (nth rests sp.length)) (h:=m) hmm
    have he2:goN x.net t.prof (JV t sp sp.length) t.dst (ZY t L (nth rests sp.length))=goL x t sp sp.length (ZY t L (nth rests sp.length)):=by simp [goL,toF]
    refine Xn (Zck x t (QK t sp sp.length L (nth rests sp.length)) t.dst t.cls 15 hok.net ?_ ?_ ?_ ?_) ?_
    ·simp only [QK];omega
    ·simp only [QK,Sml];omega
    ·simp only [QK,Sml];omega
    ·simp only [QK,Sml];rw [he2];omega
    have f1':(VH x t (QK t sp sp.length L (nth rests sp.length)) t.dst t.cls 15).2=(YU x t sp sp.length L (nth rests sp.length)).2:=by rw [hnx,<- f1];rfl
    simp (disch:=omega) only [go_sem,seval];rw [f1'];have hdl:rests.drop (sp.length+1)= []:=List.drop_eq_nil_of_le (by omega);rw [hdl,XW] at hrun;refine cD ?_ ?_<;>intro h3<;>simp (disch:=omega) only [Sh.out h3,go_sem,seval]
    ·rw [if_neg h3] at hrun;rw [hrun];simp only [Wm,zShe];exact ⟨_,_,Weak.mk (by simp (disch:=omega) only [List.map_nil,go_sem,seval]),.list true [],rfl,rfl⟩
    ·have h3':(YU x t sp sp.length L (nth rests sp.length)).2=0:=Classical.not_not.1 h3;rw [if_pos h3'] at hrun;rw [hnx] at h3';obtain ⟨f3,f4⟩:=f2 h3';have f3':(VH x t (QK t sp sp.length L (nth rests sp.length)) t.dst t.cls 15).1=⟨t.dst,(goL x t sp sp.length (ZY t L (nth rests sp.length))).1,WQ L (nth rests sp.length)+(goL x t sp sp.length (ZY t L (nth rests sp.length))).1-ZY t L (nth rests sp.length),L.she.miles+(goL x t sp sp.length (ZY t L (nth rests sp.length))).2.1⟩:=f3;rw [hrun,hnx,f4];simp (disch:=omega) only [f3',go_sem,seval];refine Zn (Weak.fz (o:=6) (by rfl)) ?_
     refine Zn (Weak.fz (o:=7) (by rfl)) ?_;refine Zc [] _ _ _ _ ?_;simp (disch:=omega) only [List.map_cons,List.map_nil,List.set_cons_succ,List.set_cons_zero,go_sem,seval]
     have hmc:m.times_c=false:=by
      rw [<- hm,<- hclip (by omega)];unfold Xr
      split<;>rfl
     exact ⟨_,_,Weak.mk (by simp (disch:=omega) only [hmc,go_sem,seval]),.list false (ds.map eI++ [.int .i64 (WQ L (nth rests sp.length)+(goL x t sp sp.length (ZY t L (nth rests sp.length))).1-ZY t L (nth rests sp.length))]),rfl,rfl⟩
theorem Zkt (x:Inst) (r:Rte) (rests:List Bool) (c:Bool) (hok:TrpOk x (Z6 x r) (Z0 x r.visits)) (ho:x.orders.length<=1048576) (ht:x.types.length<=1048576) (hne:0<r.visits.length) (hp:Y7 x r=true) (hl:rests.length=r.visits.length+1) :
  PT 129 [.p (ZC x),.p (YZ r),.p (.list c (rests.map eB))] [.p (Zf2 (XW x (Z6 x r) (Z0 x r.visits) 0 (XR (Z6 x r) r.start) rests).1.she),.p (.int .i64 (XW x (Z6 x r) (Z0 x r.visits) 0 (XR (Z6 x r) r.start) rests).2)]:=by
 have cr:=ZjA x r rests c hok ho ht hne hp hl;generalize (XW x (Z6 x r) (Z0 x r.visits) 0 (XR (Z6 x r) r.start) rests)=q at cr ⊢;obtain ⟨L,e⟩:=q;refine Zd [] Tryz.func129 rfl ZmL ?_;simp (disch:=omega) only [Tryz.f129,go_sem,seval];refine ZvB cr fun d=> ?_;simp (disch:=omega) only [go_sem,seval];exact we
def K9 (l:List Bool) (n:Nat):Option (List Bool):=(Xt (l.drop n)).map (l.take n++ ·)
def ZjH : Option (List Bool)->PV
 | some l=> .list false (l.map eB)
 | none=> .list true []
theorem WG : ∀m:Nat,Xt (List.replicate m true)=none
 | 0=>rfl
 | m+1=>by rw [List.replicate_succ,Xt,WG m];rfl
theorem J3 : ∀(a b r:List Bool),Xt b=some r->Xt (a++b)=some (a++r)
 | [],b,r,h=>h
 | x::a,b,r,h=>by rw [List.cons_append,Xt,J3 a b r h];rfl
theorem ZgE (a:List Bool) (m:Nat):Xt (a++false::List.replicate m true)=some (a++true::List.replicate m false):=by
 refine J3 _ _ _ ?_;rw [Xt,WG];simp
theorem ZbT {o:List Bool} {i:Nat} {b:Bool} :(o.map eB).set i (.bool b)=(o.set i b).map eB:=by rw [List.map_set];rfl
theorem ZgA (l:List Bool) (c:Bool) (n:Nat) (hn:n<=l.length) (h0:0<l.length) (hl:l.length<=1048576):PT 130 [.p (.list c (l.map eB)),.p (.int .i64 (n:Nat))] [.p (ZjH (K9 l n)),.p (.bool (K9 l n).isSome)]:=by
 refine Zd [8] Tryz.func130 rfl Zmp ?_;simp (disch:=omega) only [Tryz.f130,go_sem,seval];rw [if_pos ⟨by omega,by omega⟩];simp (disch:=omega) only [go_sem,seval];refine ZA [8] [1] (fun q:Nat×List Bool=> [(6,.sl 0 0 q.2.length q.2.length),(7,.p (.int .i64 ((q.1:Int)-1)))]) (fun q=> [.elems 1 (q.2.map eB)]) (fun q=>n<=q.1/\q.1<=l.length/\q.2=l.take q.1++List.replicate (l.length-q.1) false/\l.drop q.1=List.replicate (l.length-q.1) true) (fun q=>q.1) (l.length,l) (by simp;omega) (Weak.mk ?_) ?_
 ·simp (disch:=omega) only [go_sem,seval]
 ·rintro ⟨j,o⟩ ⟨hj1,hj2,ho,hjt⟩;simp only at hj1 hj2 ho hjt
  have hol:o.length=l.length:=by rw [ho];simp;omega
  simp (disch:=omega) only [go_sem,seval];refine cD ?_ ?_<;>intro h<;>simp (disch:=omega) only [Sh.out h,go_sem,seval]
  ·obtain ⟨i,rfl⟩: ∃i,j=i+1:=⟨j-1,by omega⟩
   have hij:(((i+1:Nat):Int)-1)=(i:Int):=by omega
   have hat:nth o i=nth l i:=by
    rw [Ze (by omega),Ze (by omega)];simp only [ho];rw [List.getElem_append_left (by simp;omega)];simp
   have hdr:l.drop i=nth l i::List.replicate (l.length-(i+1)) true:=by
    rw [List.drop_eq_getElem_cons (by omega),hjt,Ze (by omega)]
   have hio:i<o.length:=by omega
   simp (disch:=first | omega | (simp only [List.length_cons,List.length_nil,List.length_append,List.length_map,List.length_take,List.length_drop]<;>omega)) only [Int.add_sub_cancel,Xx,hat,hio,go_sem,seval];refine cD ?_ ?_<;>intro h2<;>simp (disch:=omega) only [Sh.out h2,go_sem,seval]
   ·have hf:nth l i=false:=by simpa using h2
    have hres:K9 l n=some (o.set i true):=by
     rw [hf] at hdr
     have e:l.drop n=(l.drop n).take (i-n)++false::List.replicate (l.length-(i+1)) true:=by
      rw [<- hdr,show l.drop i=(l.drop n).drop (i-n) by rw [List.drop_drop];congr 1;omega,List.take_append_drop]
     rw [K9,e,ZgE,ho];simp only [Option.map_some,Option.some.injEq]
     have e2:l.take (i+1)=l.take n++(l.drop n).take (i-n)++ [nth l i]:=by
      rw [List.take_succ_eq_append_getElem (by omega),Ze (by omega)]
      congr 1
      have:l.take i=l.take (n+(i-n)):=by congr 1;omega
      rw [this,List.take_add]
     rw [e2,hf]
     have el:(l.take n++(l.drop n).take (i-n)).length=i:=by simp;omega
     rw [List.append_assoc (l.take n++(l.drop n).take (i-n)),List.set_append_right _ _ (by omega),el];simp
    rw [hres];simp (disch:=first | omega | (simp only [List.length_cons,List.length_nil,List.length_append,List.length_map,List.length_take,List.length_drop]<;>omega)) only [hio,ZbT,go_sem,seval];refine Zn (Weak.fz (o:=0) (by rfl)) ?_;refine Zc [] _ _ _ _ ?_;simp (disch:=omega) only [List.map_cons,List.map_nil,List.set_cons_succ,List.set_cons_zero,go_sem,seval];simp only [List.length_set,List.length_map,if_true];exact we (by simp (disch:=omega) only [ZjH,Option.isSome_some,go_sem,seval])
   ·have hf:nth l i=true:=by simpa using h2
    simp (disch:=first | omega | (simp only [List.length_cons,List.length_nil,List.length_append,List.length_map,List.length_take,List.length_drop]<;>omega)) only [hio,ZbT,go_sem,seval];refine ⟨(i,o.set i false),⟨by simp only;omega,by simp only;omega,?_,?_⟩,by simp only;omega,Weak.mk (by simp (disch:=first | omega | (simp only [List.length_cons,List.length_nil,List.length_append,List.length_map,List.length_take,List.length_drop]<;>omega)) only [List.length_set,Int.add_sub_cancel,go_sem,seval])⟩
    ·simp only;rw [ho,show l.length-i=(l.length-(i+1))+1 by omega,List.replicate_succ,List.take_succ_eq_append_getElem (by omega),List.append_assoc,List.set_append_right _ _ (by simp;omega),show i-(l.take i).length=0 by simp;omega];simp
    ·simp only;rw [hdr,hf,show l.length-i=(l.length-(i+1))+1 by omega,List.replicate_succ]
  ·have hjn:j=n:=by omega
   have hres:K9 l n=none:=by rw [K9,<- hjn,hjt,WG];rfl
   rw [hres];exact we (by simp (disch:=omega) only [ZjH,Option.isSome_none,go_sem,seval])
theorem Zdu {r q:List Bool} :K9 (r++q) r.length=(Xt q).map (r++ ·):=by simp [K9]
theorem Zgd {l:List Bool} :ZjH (some l)= .list false (l.map eB):=rfl
theorem Zer : ZjH none= .list true []:=rfl
def Zdk (b:Option Lab):She:=match b with | some L=>L.she | none=>zShe
def Zgi (r:List Bool) (cur:Option (List Bool)):List (List Bool):=match cur with | some q=>(X3 q).map (r++ ·) | none=> []
theorem UR {r s:List Bool} :Zgi r (some s)=(r++s)::Zgi r (Xt s):=by
 unfold Zgi;simp only;rw [fromB_next s,List.map_cons]
 cases Xt s<;>rfl
theorem Zbg {x:Inst} {t:Typ} {sp:List Stp} : ∀(bs:List Bool) (k:Nat) (L:Lab),¬(XW x t sp k L bs).2=0->(XW x t sp k L bs).1=Wm
 | [],k,L,h=>by simp [XW] at h
 | b::bs,k,L,h=>by
  rw [XW] at h ⊢
  split
  ·rename_i c;rw [if_pos c] at h;exact Zbg bs _ _ h
  ·rfl
theorem Zhs (x:Inst) (r:Rte) (hok:TrpOk x (Z6 x r) (Z0 x r.visits)) (ho:x.orders.length<=1048576) (ht:x.types.length<=1048576) (hne:0<r.visits.length) (hp:Y7 x r=true) (hl:r.rests.length<=r.visits.length+1) :
  PT 84 [.p (ZC x),.p (YZ r)] [.p (Zf2 (Xi x r).1),.p (.int .i64 (Xi x r).2)]:=by
 have hsl:(Z0 x r.visits).length=r.visits.length:=Xh;have hp2:=hp;simp only [Y7,Bool.and_eq_true,decide_eq_true_eq] at hp2;have hv20:=hp2.1.2;have hrun:=fun rests (c:Bool) (h:rests.length=r.visits.length+1)=>Zkt x r rests c hok ho ht hne hp h;have hopt:=fun bs=>Wq (x:=x) (t:=Z6 x r) (sp:=Z0 x r.visits) bs 0 (XR (Z6 x r) r.start);unfold Xi V6
 generalize hS:Z0 x r.visits=sp at *
 generalize Z6 x r=t at *
 generalize XR t r.start=L0 at *
 refine Zd [5,6] Tryz.func84 rfl Zqg ?_;simp (disch:=omega) only [Tryz.f84,go_sem,seval];refine (JN x r ho ht (by omega)).use ?_;simp (disch:=omega) only [go_sem,seval];rw [hp];simp (disch:=omega) only [go_sem,seval];refine cD ?_ ?_<;>intro h0<;>simp (disch:=omega) only [Sh.out h0,go_sem,seval]
 ·omega
 ·refine VI (ZeP 3 rfl rfl ?_);simp (disch:=omega) only [go_sem,seval];refine ⟨_,_,ZbP (e:=4) rfl Tryz.underlying61 (by kernel_rfl) rfl rfl rfl ?_ ?_ ?_,?_⟩
  ·simp
  ·simp;omega
  ·intro q hq;obtain ⟨b,_,rfl⟩:=List.mem_map.1 hq
   rfl
  ·have hpl:(WI r.rests (sp.length+1)).length=r.visits.length+1:=by simp [WI];omega
   have hpad:r.rests.map eB++(PV.bool false::List.replicate r.visits.length (PV.bool false)).drop (r.rests.map eB).length=(WI r.rests (sp.length+1)).map eB:=by
    rw [WI,List.map_append,<- List.replicate_succ,List.drop_replicate,List.map_replicate,hsl,List.length_map];rfl
   simp only [List.set_cons_succ,List.set_cons_zero];rw [hpad];have h0r:=hopt (WI r.rests (sp.length+1))
   have cn: ∀s:List Bool,(r.rests++s).length=r.visits.length+1->PT 130 [.p (.list false ((r.rests++s).map eB)),.p (.int .i64 (r.rests.length:Nat))] [.p (ZjH ((Xt s).map (r.rests++ ·))),.p (.bool ((Xt s).map (r.rests++ ·)).isSome)]:=fun s hs=>by
    have:=ZgA (r.rests++s) false r.rests.length (by simp) (by omega) (by omega);rwa [Zdu] at this
   have e1:(XW x t sp 0 L0 (WI r.rests (sp.length+1))).1.she=Zdk (VP (XS x t sp) 0 L0 (WI r.rests (sp.length+1))):=by
    rw [h0r]
    split
    ·rfl
    ·rename_i c;rw [Zbg _ _ _ c];rfl
   have e2:decide ((XW x t sp 0 L0 (WI r.rests (sp.length+1))).2=0)=(VP (XS x t sp) 0 L0 (WI r.rests (sp.length+1))).isSome:=by
    rw [h0r]
    split
    ·rename_i c;simp [c]
    ·rename_i c;simp [c]
   have hrp:=hrun (WI r.rests (sp.length+1)) false hpl;have XZ:YF r.rests (sp.length+1)=Zgi r.rests (some (List.replicate (sp.length+1-r.rests.length) false)):=rfl;refine Zn (Weak.fz (o:=3) (by rfl)) ?_;refine Zc [] _ _ _ _ ?_;simp (disch:=omega) only [List.map_cons,List.map_nil,List.set_cons_succ,List.set_cons_zero,go_sem,seval];rw [if_pos hpl];refine Xn hrp ?_;simp (disch:=omega) only [go_sem,seval];refine Xn (cn (List.replicate (sp.length+1-r.rests.length) false) hpl) ?_;simp (disch:=omega) only [e1,e2,go_sem,seval]
   have hfm:fmL Wt none ((YF r.rests (sp.length+1)).filterMap (VP (XS x t sp) 0 L0))=fmL Wt (VP (XS x t sp) 0 L0 (WI r.rests (sp.length+1))) ((Zgi r.rests (Xt (List.replicate (sp.length+1-r.rests.length) false))).filterMap (VP (XS x t sp) 0 L0)):=by
    rw [XZ,UR,List.filterMap_cons];rw [show r.rests++List.replicate (sp.length+1-r.rests.length) false=WI r.rests (sp.length+1) from rfl]
    cases VP (XS x t sp) 0 L0 (WI r.rests (sp.length+1)) with
    | none=>rfl
    | some L=>rfl
   clear XZ;generalize fmL Wt none ((YF r.rests (sp.length+1)).filterMap (VP (XS x t sp) 0 L0))=res at hfm ⊢;generalize (XW x t sp 0 L0 (WI r.rests (sp.length+1))).2=err0
   refine Zf [2,3,4,8,9] (fun q:Option (List Bool)×Option Lab=> [(7,.p (ZjH (q.1.map (r.rests++ ·)))),(10,.p (.bool q.2.isSome)),(11,.p (.bool (q.1.map (r.rests++ ·)).isSome))])
    (fun q=> [Za x,Zy r,.cells [.p (.bool false),.p (.int .i64 0),.p (.list true []),.p (.int .i64 0),.p (.int .i64 0)],.dead,.cells [.p (.bool (Zdk q.2).rest),.p (.int .i64 (Zdk q.2).dep),.p (.list (Zdk q.2).times_c ((Zdk q.2).times.map eTim)),.p (.int .i64 (Zdk q.2).fin),.p (.int .i64 (Zdk q.2).miles)]])
    (fun q=>res=fmL Wt q.2 ((Zgi r.rests q.1).filterMap (VP (XS x t sp) 0 L0))/\ ∀s,q.1=some s->s.length=sp.length+1-r.rests.length) (fun q=>(Zgi r.rests q.1).length)
    (Xt (List.replicate (sp.length+1-r.rests.length) false),VP (XS x t sp) 0 L0 (WI r.rests (sp.length+1))) ⟨hfm,fun s hs=>by have:=fromB_next.nlen _ _ hs;simpa using this⟩ (Weak.mk ?_) ?_
   ·simp (disch:=omega) only [Za,Zy,go_sem,seval]
   ·rintro ⟨cur,b⟩ ⟨hR,hcl⟩;simp only at hR hcl
    cases cur with
    | none =>
     simp only [Zgi,List.filterMap_nil] at hR;simp (disch:=omega) only [Option.map_none,Option.isSome_none,Zer,Za,Zy,go_sem,seval]
     cases b with
     | none =>
      rw [fmL] at hR;subst hR;simp (disch:=omega) only [Option.isSome_none,Bool.not_false,go_sem,seval];exact we (by simp (disch:=omega) only [zShe,List.map_nil,go_sem,seval])
     | some m =>
      rw [fmL] at hR;subst hR;simp (disch:=omega) only [Option.isSome_some,Bool.not_true,Zdk,go_sem,seval];exact we
    | some s =>
     have hsl2:=hcl s rfl;rw [UR,List.filterMap_cons,hopt] at hR
     have hmu:(Zgi r.rests (Xt s)).length<(Zgi r.rests (some s)).length:=by rw [UR];simp
     have hnl: ∀s',Xt s=some s'->s'.length=sp.length+1-r.rests.length:=fun s' hs'=>by rw [fromB_next.nlen _ _ hs',hsl2]
     have hlen:(r.rests++s).length=r.visits.length+1:=by simp;omega
     have hr1:=hrun (r.rests++s) false hlen;have cn1:=cn s hlen;rw [List.map_append] at hr1 cn1;simp (disch:=omega) only [Option.map_some,Option.isSome_some,Zgd,Za,Zy,go_sem,seval];generalize XW x t sp 0 L0 (r.rests++s)=g at hR hr1;obtain ⟨Lg,eg⟩:=g;simp only at hR hr1;refine Xn hr1 ?_;simp (disch:=omega) only [go_sem,seval];refine gT ?_ ?_<;>intro h1<;>simp (disch:=omega) only [Sh.out h1,go_sem,seval]
     ·subst h1
      cases b with
      | none =>
       simp (disch:=omega) only [Option.isSome_none,Bool.not_false,go_sem,seval];refine Xn cn1 ?_;simp (disch:=omega) only [go_sem,seval];exact ⟨(Xt s,some Lg),⟨hR,hnl⟩,hmu,Weak.mk (by simp (disch:=omega) only [Za,Zy,Zdk,Option.isSome_some,go_sem,seval])⟩
      | some m =>
       simp (disch:=omega) only [Option.isSome_some,Bool.not_true,Zdk,go_sem,seval];refine cD ?_ ?_<;>intro h2<;>simp (disch:=omega) only [Sh.out h2,go_sem,seval]
       ·refine Xn cn1 ?_;simp (disch:=omega) only [go_sem,seval];exact ⟨(Xt s,some Lg),⟨by rw [hR];simp only [if_true,fmL,Wt,h2],hnl⟩,hmu,Weak.mk (by simp (disch:=omega) only [Za,Zy,Zdk,Option.isSome_some,go_sem,seval])⟩
       ·refine Xn cn1 ?_;simp (disch:=omega) only [go_sem,seval];exact ⟨(Xt s,some m),⟨by rw [hR];simp only [if_true,fmL,Wt,h2,if_false],hnl⟩,hmu,Weak.mk (by simp (disch:=omega) only [Za,Zy,Zdk,Option.isSome_some,go_sem,seval])⟩
     ·rw [if_neg h1] at hR;refine Xn cn1 ?_;simp (disch:=omega) only [go_sem,seval];exact ⟨(Xt s,b),⟨hR,hnl⟩,hmu,Weak.mk (by simp (disch:=omega) only [Za,Zy,go_sem,seval])⟩
def eR (p:Bool×List Int):PV:= .list p.1 (p.2.map eI)
@[go_sem] theorem Zzx (p:Bool×List Int):eR p= .list p.1 (p.2.map eI):=Eq.trans rfl rfl
theorem Zii (L:List (Bool×List Int)) (c:Bool) (d:Nat) (hd:d<=3) (hL:L.length<=1048576) (h: ∀p∈L,p.2.length=d):PC 252 [.p (.list c (L.map eR)),.p (.int .i64 (d:Nat))] (.bool true):=by
 refine Zb Tryz.func252 rfl Znz ?_
 have e1: ¬(d:Int)<0:=by omega
 have e2: ¬(3:Int)<d:=by omega
 simp (disch:=omega) only [Tryz.f252,e1,e2,go_sem,seval];refine Zf [0,1] (fun k:Nat=> [(5,.p (.int .i64 k))]) (fun _=> []) (fun k=>k<=L.length) (fun k=>L.length-k) 0 (by simp) (Weak.mk ?_) ?_
 ·simp (disch:=omega) only [go_sem,seval]
 ·intro k hk;simp (disch:=omega) only [go_sem,seval];refine cD ?_ ?_<;>intro h1<;>simp (disch:=omega) only [Sh.out h1,go_sem,seval]
  ·have hk2:k<L.length:=by omega
   have hp:=h _ (Zl hk2);simp (disch:=omega) only [hp,go_sem,seval];exact ⟨k+1,by omega,by omega,wk⟩
def ZcG (L:List (Bool×List Int)) (k j:Nat):Int:=((L.take k).map fun p=>nth p.2 j).sum
theorem Ke {L:List (Bool×List Int)} {k j:Nat} (h:k<L.length):ZcG L (k+1) j=ZcG L k j+nth (nth L k).2 j:=by
 rw [ZcG,ZcG,List.take_succ_eq_append_getElem h,List.map_append,List.sum_append,Ze h];simp
theorem Zbu {L:List (Bool×List Int)} {d j:Nat} (h: ∀p∈L,p.2.length=d/\ ∀n∈p.2,0<=n/\n<=1000) (hj:j<d): ∀k,k<=L.length->0<=ZcG L k j/\ZcG L k j<=1000*(k:Int)
 | 0,_=>by simp [ZcG]
 | k+1,hk=>by
  have ih:=Zbu h hj k (by omega);obtain ⟨h1,h2⟩:=h _ (Zl (show k<L.length by omega));have:=h2 _ (Zl (show j<(nth L k).2.length by omega));rw [Ke (by omega)];omega
def ZtG (L:List (Bool×List Int)) (d:Nat):List Int:=(List.range d).map fun j=>ZcG L L.length j
theorem Zk3 (L:List (Bool×List Int)) (c:Bool) (d:Nat) (hd:1<=d/\d<=3) (hL:L.length<=1048576) (h: ∀p∈L,p.2.length=d/\ ∀n∈p.2,0<=n/\n<=1000) :
  PT 224 [.p (.list c (L.map eR)),.p (.int .i64 (d:Nat))] [.p (.list false ((ZtG L d).map eI)),.p (.int .i64 0)]:=by
 refine Zd [13] Tryz.func224 rfl Zng ?_;simp (disch:=omega) only [Tryz.f224,go_sem,seval];refine (Zii L c d hd.2 hL fun p hp=>(h p hp).1).use ?_;simp (disch:=omega) only [go_sem,seval];refine ZA [13] [0,1] (fun q:Nat×List Int=> [(6,.sl 0 0 q.2.length q.2.length),(7,.p (.int .i64 q.1))]) (fun q=> [.elems 1 (q.2.map eI)]) (fun q=>q.1<=d/\q.2=(List.range q.1).map fun j=>ZcG L L.length j) (fun q=>d-q.1) (0,[]) (by simp) (Weak.ofNil 6 1 rfl (by simp) (Weak.mk ?_)) ?_
 ·simp (disch:=omega) only [List.map_nil,List.length_nil,go_sem,seval]
 ·rintro ⟨j,o⟩ ⟨hj,ho⟩;simp only at hj ho
  have hol:o.length=j:=by rw [ho];simp
  simp (disch:=omega) only [go_sem,seval];refine cD ?_ ?_<;>intro h1<;>simp (disch:=omega) only [Sh.out h1,go_sem,seval]
  ·have hj2:j<d:=by omega
   refine Zf [0,1,6,7] (fun k:Nat=> [(8,.p (.int .i64 (ZcG L k j))),(9,.p (.int .i64 k))]) (fun _=> [.elems 1 (o.map eI)]) (fun k=>k<=L.length) (fun k=>L.length-k) 0 (by simp) (Weak.mk ?_) ?_
   ·simp (disch:=omega) only [ZcG,List.take_zero,List.map_nil,List.sum_nil,go_sem,seval]
   ·intro k hk;simp (disch:=omega) only [go_sem,seval];refine cD ?_ ?_<;>intro h2<;>simp (disch:=omega) only [Sh.out h2,go_sem,seval]
    ·have hk2:k<L.length:=by omega
     obtain ⟨g1,g2⟩:=h _ (Zl hk2);have g3:=g2 _ (Zl (show j<(nth L k).2.length by omega));have g4:=Zbu h hj2 k hk;have g5:=Ke (j:=j) hk2
     have g6:j<(nth L k).2.length:=by omega
     simp (disch:=omega) only [go_sem,seval];exact ⟨k+1,by omega,by omega,Weak.mk (by simp (disch:=omega) only [g5,go_sem,seval])⟩
    ·have hkl:k=L.length:=by omega
     subst hkl;refine ⟨(j+1,o++ [ZcG L L.length j]),⟨by simp only;omega,by simp only;rw [ho,List.range_succ,List.map_append];rfl⟩,by simp only;omega,Weak.mk (by simp (disch:=omega) only [List.length_append,List.length_cons,List.length_nil,List.map_append,List.map_cons,List.map_nil,go_sem,seval])⟩
  ·have hjd:j=d:=by omega
   subst hjd;refine Zn (Weak.fz (o:=0) (by rfl)) ?_;refine Zc [] _ _ _ _ ?_;simp (disch:=omega) only [List.map_cons,List.map_nil,List.set_cons_succ,List.set_cons_zero,go_sem,seval];rw [ZtG,<- ho];exact we
theorem ZhL (a b:List Int) (c d:Bool) (ha:a.length<=1048576) (hb:b.length<=1048576):PC 127 [.p (.list c (a.map eI)),.p (.list d (b.map eI))] (.bool (YC a b)):=by
 refine Zb Tryz.func127 rfl ZnE ?_;simp (disch:=omega) only [Tryz.f127,go_sem,seval];refine cD ?_ ?_<;>intro h1<;>simp (disch:=omega) only [Sh.out h1,go_sem,seval]
 ·have: ¬a.length=b.length:=by omega
  simp [YC,this]
 ·have h1':a.length=b.length:=by omega
  refine Zf [0,1] (fun k:Nat=> [(5,.p (.int .i64 k))]) (fun _=> []) (fun k=>k<=a.length/\ ∀j,j<k->nth a j<=nth b j) (fun k=>a.length-k) 0 (by simp) (Weak.mk ?_) ?_
  ·simp (disch:=omega) only [go_sem,seval]
  ·rintro k ⟨hk,hno⟩;simp (disch:=omega) only [go_sem,seval];refine cD ?_ ?_<;>intro h2<;>simp (disch:=omega) only [Sh.out h2,go_sem,seval]
   ·have hk2:k<a.length:=by omega
    refine Zh Zm (by kernel_rfl) (by kernel_rfl) ?_;simp (disch:=omega) only [go_sem,seval];refine cD ?_ ?_<;>intro h3<;>simp (disch:=omega) only [Sh.out h3,go_sem,seval]
    ·have:YC a b=false:=by
      cases hf:YC a b with
      | false=>rfl
      | true=>simp [YC,List.all_eq_true] at hf;have:=hf.2 k hk2;omega
     rw [this]
    ·exact ⟨k+1,⟨by omega,Zg.2 ⟨hno,by omega⟩⟩,by omega,wk⟩
   ·have hkl:k=a.length:=by omega
    subst hkl
    have:YC a b=true:=by
     simp only [YC,Bool.and_eq_true,decide_eq_true_eq,List.all_eq_true,List.mem_range];exact ⟨h1',fun i hi=>hno i hi⟩
    rw [this]
theorem ZgL (x:Inst) (ht:x.types.length<=1048576):PC 225 [.p (ZC x)] (.int .i64 (dimsOf x.types)):=by
 refine Zb Tryz.func225 rfl ZqR ?_;simp (disch:=omega) only [Tryz.f225,go_sem,seval];refine cD ?_ ?_<;>intro h1<;>simp (disch:=omega) only [Sh.out h1,go_sem,seval]
 ·have:x.types.length=0:=by omega
  simp [dimsOf,this]
 ·have h2: ¬x.types.length=0:=by omega
  simp only [dimsOf,h2,if_false]
structure LdOk (x:Inst):Prop where
 ord:x.orders.length<=10
 typ:x.types.length<=1048576
 dim:1<=dimsOf x.types/\dimsOf x.types<=3
 load: ∀o∈x.orders,(o.load.length:Int)=dimsOf x.types/\ ∀n∈o.load,0<=n/\n<=1000
theorem Y9 {x:Inst} (h:InstOk x):LdOk x:=by
 have ht:=h.types.1;simp only [rng,decide_eq_true_eq] at ht;have ho:=h.orders
 have h0:0<x.types.length:=by omega
 have hcap:=h.types.2 0 h0;unfold Jj at hcap;obtain ⟨⟨⟨⟨⟨⟨⟨⟨_,_⟩,_⟩,_⟩,hcap⟩,_⟩,_⟩,_⟩,_⟩:=hcap;simp only [WE,Bool.and_eq_true,decide_eq_true_eq,rng] at hcap;refine ⟨ho.1,by omega,by omega,fun o hm=> ?_⟩;obtain ⟨i,hi,rfl⟩:=List.mem_iff_getElem.1 hm;have:=(ho.2 i hi).load;rw [Ze hi] at this;simp only [loadOk,Bool.and_eq_true,decide_eq_true_eq,List.all_eq_true,rng] at this;exact ⟨this.1,this.2⟩
def Zgn (x:Inst) (l:List Vis) (n k:Nat):List (Bool×List Int):=((List.range k).filter fun i=>onB x l n i&&Xb l i).map fun i=>((nth x.orders i).load_c,(nth x.orders i).load)
theorem ZfW {x:Inst} {l:List Vis} {n k:Nat} :Zgn x l n (k+1)=Zgn x l n k++if (onB x l n k&&Xb l k)=true then [((nth x.orders k).load_c,(nth x.orders k).load)] else []:=by
 unfold Zgn;rw [List.range_succ,List.filter_append,List.map_append]
 congr 1
 simp only [List.filter_cons,List.filter_nil]
 split<;>rfl
theorem Zij {x:Inst} {l:List Vis} {n:Nat} : ∀k,(Zgn x l n k).length<=k:=fun k=>by
 unfold Zgn;have:=List.length_filter_le (fun i=>onB x l n i&&Xb l i) (List.range k);simp only [List.length_map,List.length_range] at this ⊢;exact this
theorem Zkg {x:Inst} {l:List Vis} {n k:Nat} (h:LdOk x) (hk:k<=x.orders.length): ∀p∈Zgn x l n k,p.2.length=(dimsOf x.types).toNat/\ ∀m∈p.2,0<=m/\m<=1000:=fun p hp=>by
 obtain ⟨i,hi,rfl⟩:=List.mem_map.1 hp;have hi2:=List.mem_range.1 (List.mem_filter.1 hi).1;have:=h.load _ (Zl (show i<x.orders.length by omega));exact ⟨by simp only;omega,this.2⟩
theorem Zg0 {x:Inst} {l:List Vis} {n:Nat} :ZtG (Zgn x l n x.orders.length) (dimsOf x.types).toNat=Y8 x l n:=by
 unfold ZtG Y8;refine List.map_congr_left fun j _=> ?_;rw [ZcG,List.take_length,Zgn,List.map_map,Zdp,<- Wk]
 rfl
def onK (x:Inst) (l:List Vis) (n i k:Nat):Bool:=(l.take (min k n)).foldl (fun on v=>if v.order=(i:Int) then !v.drp else on) (decide ((nth x.orders i).pick.place<0))
def ZkM (l:List Vis) (i k:Nat):Bool:=(l.take k).any fun v=>decide (v.order=(i:Int))
theorem Zik {x:Inst} {l:List Vis} {n i k:Nat} (h:k<l.length):onK x l n i (k+1)=if (nth l k).order=(i:Int) then (if k<n then !(nth l k).drp else onK x l n i k) else onK x l n i k:=by
 unfold onK
 by_cases hn:k<n
 ·rw [show min (k+1) n=min k n+1 by omega,show min k n=k by omega,List.take_succ_eq_append_getElem h,List.foldl_append,Ze h];simp [hn]
 ·rw [show min (k+1) n=min k n by omega];simp [hn]
theorem ZfB {l:List Vis} {i k:Nat} (h:k<l.length):ZkM l i (k+1)=if (nth l k).order=(i:Int) then true else ZkM l i k:=by
 unfold ZkM;rw [List.take_succ_eq_append_getElem h,List.any_append,Ze h]
 by_cases hc:(l[k]).order=(i:Int)<;>simp [hc]
theorem Zj4 {x:Inst} {l:List Vis} {n i:Nat} (h:n<=l.length):onK x l n i l.length=onB x l n i:=by
 unfold onK onB;rw [show min l.length n=n by omega]
theorem ZgD {l:List Vis} {i:Nat} :ZkM l i l.length=Xb l i:=by unfold ZkM Xb;rw [List.take_length]
theorem ZdW (x:Inst) (l:List Vis) (c:Bool) (n:Nat) (hx:LdOk x) (hl:l.length<=1048576) (hn:n<=l.length) :
  PT 181 [.p (ZC x),.p (.list c (l.map XY)),.p (.int .i64 (n:Nat))] [.p (.list false ((Y8 x l n).map eI)),.p (.int .i64 0)]:=by
 have ho:=hx.ord;refine Zd [15] Tryz.func181 rfl ZpK ?_;simp (disch:=omega) only [Tryz.f181,go_sem,seval];refine ZA [15] [1,2,3] (fun q:Nat×List (Bool×List Int)=> [(8,.sl 1 0 q.2.length q.2.length),(9,.p (.int .i64 q.1))]) (fun q=> [Za x,.elems 1 (q.2.map eR)]) (fun q=>q.1<=x.orders.length/\q.2=Zgn x l n q.1) (fun q=>x.orders.length-q.1) (0,[]) (by simp [Zgn]) (Weak.ofNil 8 1 rfl (by simp) (Weak.mk ?_)) ?_
 ·simp (disch:=omega) only [Za,List.map_nil,List.length_nil,List.cons_append,List.nil_append,go_sem,seval]
 ·rintro ⟨i,o⟩ ⟨hi,hob⟩;simp only at hi hob
  have hol:o.length<=i:=by rw [hob];exact Zij i
  simp (disch:=omega) only [Za,go_sem,seval];refine cD ?_ ?_<;>intro h1<;>simp (disch:=omega) only [Sh.out h1,go_sem,seval]
  ·have hi2:i<x.orders.length:=by omega
   refine Zf [1,2,3,8,9] (fun k:Nat=> [(10,.p (.bool (onK x l n i k))),(11,.p (.bool (ZkM l i k))),(12,.p (.int .i64 k))]) (fun _=> [Za x,.elems 1 (o.map eR)]) (fun k=>k<=l.length) (fun k=>l.length-k) 0 (by simp) (Weak.mk ?_) ?_
   ·simp (disch:=omega) only [Za,onK,ZkM,Nat.zero_min,List.take_zero,List.foldl_nil,List.any_nil,go_sem,seval]
   ·intro k hk;simp (disch:=omega) only [Za,go_sem,seval];refine cD ?_ ?_<;>intro h2<;>simp (disch:=omega) only [Sh.out h2,go_sem,seval]
    ·have hk2:k<l.length:=by omega
     have s1:=Zik (x:=x) (n:=n) (i:=i) hk2;have s2:=ZfB (i:=i) hk2;refine cD ?_ ?_<;>intro h3<;>simp (disch:=omega) only [Sh.out h3,go_sem,seval]
     ·rw [if_neg h3] at s1 s2;exact ⟨k+1,by omega,by omega,Weak.mk (by simp (disch:=omega) only [Za,s1,s2,go_sem,seval])⟩
     ·have h3':=Classical.not_not.1 h3;rw [if_pos h3'] at s1 s2;refine cD ?_ ?_<;>intro h4<;>simp (disch:=omega) only [Sh.out h4,go_sem,seval]
      ·rw [if_pos (by omega)] at s1;exact ⟨k+1,by omega,by omega,Weak.mk (by simp (disch:=omega) only [Za,s1,s2,go_sem,seval])⟩
      ·rw [if_neg (by omega)] at s1;exact ⟨k+1,by omega,by omega,Weak.mk (by simp (disch:=omega) only [Za,s1,s2,go_sem,seval])⟩
    ·have hkl:k=l.length:=by omega
     subst hkl;have s3:=ZfW (x:=x) (l:=l) (n:=n) (k:=i);rw [Zj4 hn,ZgD];refine gT ?_ ?_<;>intro h5<;>simp (disch:=omega) only [Sh.out h5,go_sem,seval]
     ·refine cD ?_ ?_<;>intro h6<;>simp (disch:=omega) only [Sh.out h6,go_sem,seval]
      ·rw [h5,h6,Bool.and_self,if_pos rfl] at s3;exact ⟨(i+1,o++ [((nth x.orders i).load_c,(nth x.orders i).load)]),⟨by simp only;omega,by simp only;rw [s3,hob]⟩,by simp only;omega,Weak.mk (by simp (disch:=omega) only [Za,List.length_append,List.length_cons,List.length_nil,List.map_append,List.map_cons,List.map_nil,go_sem,seval])⟩
      ·rw [h5,h6,Bool.and_false,if_neg (by simp),List.append_nil] at s3;exact ⟨(i+1,o),⟨by simp only;omega,by simp only;rw [s3,hob]⟩,by simp only;omega,Weak.mk (by simp (disch:=omega) only [Za,go_sem,seval])⟩
     ·have h5':onB x l n i=false:=by simpa using h5
      rw [h5',Bool.false_and,if_neg (by simp),List.append_nil] at s3;exact ⟨(i+1,o),⟨by simp only;omega,by simp only;rw [s3,hob]⟩,by simp only;omega,Weak.mk (by simp (disch:=omega) only [Za,go_sem,seval])⟩
  ·have hik:i=x.orders.length:=by omega
   subst hik
   have hD:dimsOf x.types=((dimsOf x.types).toNat:Int):=by have:=hx.dim;omega
   have hok:=Zkg (l:=l) (n:=n) hx (Nat.le_refl _);rw [<- hob] at hok;have hs:=Zg0 (x:=x) (l:=l) (n:=n);rw [<- hob] at hs;refine Zn (Weak.fz (o:=1) (by rfl)) ?_;refine Zc [] _ _ _ _ ?_;simp (disch:=omega) only [List.map_cons,List.map_nil,List.set_cons_succ,List.set_cons_zero,go_sem,seval];refine (ZgL x hx.typ).use ?_;simp (disch:=omega) only [go_sem,seval];rw [hD];refine Xn (Zk3 o false (dimsOf x.types).toNat (by have:=hx.dim;omega) (by omega) hok) ?_;simp (disch:=omega) only [go_sem,seval];rw [<- hs];exact we
def eIL (l:List Int):PV:= .list false (l.map eI)
@[go_sem] theorem ZnF (l:List Int):eIL l= .list false (l.map eI):=Eq.trans rfl rfl
def WX (x:Inst) (l:List Vis):List (List Int):=(List.range (l.length+1)).map (Y8 x l)
theorem Zfr (x:Inst) (r:Rte) (hx:InstOk x) (hl:r.visits.length<=1048576) (h0:ZW x r.visits=0) (hchk:PC 81 [.p (ZC x),.p (YZ r)] (.int .i64 (ZW x r.visits))) :
  PT 126 [.p (ZC x),.p (YZ r)] [.p (.list false ((WX x r.visits).map eIL)),.p (.int .i64 0)]:=by
 have hd:=Y9 hx;refine Zd [12] Tryz.func126 rfl Zo8 ?_;simp (disch:=omega) only [Tryz.f126,go_sem,seval];refine (hchk).use ?_;simp (disch:=omega) only [go_sem,seval];simp (disch:=omega) only [h0,go_sem,seval];refine ZA [12] [2,3] (fun q:Nat×List (List Int)=> [(7,.sl 2 0 q.2.length q.2.length),(8,.p (.int .i64 q.1))]) (fun q=> [Za x,Zy r,.elems 1 (q.2.map eIL)]) (fun q=>q.1<=r.visits.length+1/\q.2=(List.range q.1).map (Y8 x r.visits)) (fun q=>r.visits.length+1-q.1) (0,[]) (by simp) (Weak.ofNil 7 1 rfl (by simp) (Weak.mk ?_)) ?_
 ·simp (disch:=omega) only [Za,Zy,List.map_nil,List.length_nil,List.cons_append,List.nil_append,go_sem,seval]
 ·rintro ⟨k,o⟩ ⟨hk,ho⟩;simp only at hk ho
  have hol:o.length=k:=by rw [ho];simp
  simp (disch:=omega) only [Za,Zy,go_sem,seval];refine cD ?_ ?_<;>intro h1<;>simp (disch:=omega) only [Sh.out h1,go_sem,seval]
  ·refine Xn (ZdW x r.visits r.visits_c k hd hl (by omega)) ?_;simp (disch:=omega) only [go_sem,seval];exact ⟨(k+1,o++ [Y8 x r.visits k]),⟨by simp only;omega,by simp only;rw [ho,List.range_succ,List.map_append];rfl⟩,by simp only;omega,Weak.mk (by simp (disch:=omega) only [Za,Zy,List.length_append,List.length_cons,List.length_nil,List.map_append,List.map_cons,List.map_nil,go_sem,seval])⟩
  ·have hkl:k=r.visits.length+1:=by omega
   subst hkl;refine Zn (Weak.fz (o:=2) (by rfl)) ?_;refine Zc [] _ _ _ _ ?_;simp (disch:=omega) only [List.map_cons,List.map_nil,List.set_cons_succ,List.set_cons_zero,go_sem,seval];rw [WX,<- ho];exact we
theorem Zhy (x:Inst) (r:Rte) (hx:InstOk x) (hl:r.visits.length<=1048576) (hty:0<=r.typ/\r.typ<(x.types.length:Int)) (h0:ZW x r.visits=0) (hchk:PC 81 [.p (ZC x),.p (YZ r)] (.int .i64 (ZW x r.visits))) :
  PC 83 [.p (ZC x),.p (YZ r)] (.int .i64 (if Vk x (Z6 x r).cap r.visits=true then 0 else 17)):=by
 have hd:=Y9 hx;have htl:=hd.typ
 have hti:r.typ.toNat<x.types.length:=by omega
 have hcp:(nth x.types r.typ.toNat).cap.length<=3:=by
  have hcap:=hx.types.2 _ hti;unfold Jj at hcap;obtain ⟨⟨⟨⟨⟨⟨⟨⟨_,_⟩,_⟩,_⟩,hcap⟩,_⟩,_⟩,_⟩,_⟩:=hcap;simp only [WE,Bool.and_eq_true,decide_eq_true_eq,rng] at hcap;omega
 have hll:(WX x r.visits).length=r.visits.length+1:=by simp [WX]
 have hln: ∀k,k<r.visits.length+1->nth (WX x r.visits) k=Y8 x r.visits k:=fun k hk=>by
  rw [Ze (by omega)];simp [WX]
 have hal: ∀k,(Y8 x r.visits k).length<=3:=fun k=>by rw [WZ];have:=hd.dim;omega
 have cl:=Zfr x r hx hl h0 hchk;unfold Z6
 generalize hL:WX x r.visits=L at *
 refine Zb Tryz.func83 rfl Zvh ?_
 have e1: ¬r.typ<0:=by omega
 have e2: ¬(x.types.length:Int)<=r.typ:=by omega
 simp (disch:=omega) only [Tryz.f83,e1,e2,go_sem,seval];refine Xn cl ?_;simp (disch:=omega) only [go_sem,seval];refine Zf [2,3,5] (fun k:Nat=> [(7,.p (.int .i64 k))]) (fun _=> [Za x,Zy r]) (fun k=>k<=r.visits.length+1/\ ∀j,j<k->YC (Y8 x r.visits j) (nth x.types r.typ.toNat).cap=true) (fun k=>r.visits.length+1-k) 0 (by simp) (Weak.mk ?_) ?_
 ·simp (disch:=omega) only [Za,Zy,go_sem,seval]
 ·rintro k ⟨hk,hno⟩;simp (disch:=omega) only [Za,Zy,hll,go_sem,seval];refine cD ?_ ?_<;>intro h1<;>simp (disch:=omega) only [Sh.out h1,go_sem,seval]
  ·have hk2:k<r.visits.length+1:=by omega
   have hk3:k<L.length:=by omega
   have hk4:=hal k;refine Zh Zm (by kernel_rfl) (by kernel_rfl) ?_;simp (disch:=omega) only [hln k hk2,go_sem,seval];refine Zs (ZhL (Y8 x r.visits k) (nth x.types r.typ.toNat).cap false (nth x.types r.typ.toNat).cap_c (by omega) (by omega)) ?_;simp (disch:=omega) only [go_sem,seval];refine cD ?_ ?_<;>intro h2<;>simp (disch:=omega) only [Sh.out h2,go_sem,seval]
   ·have h2':YC (Y8 x r.visits k) (nth x.types r.typ.toNat).cap=false:=by simpa using h2
    have: ¬Vk x (nth x.types r.typ.toNat).cap r.visits=true:=fun h=>by
     rw [Vk,List.all_eq_true] at h;have:=h k (List.mem_range.2 hk2);rw [h2'] at this;cases this
    rw [if_neg this]
   ·exact ⟨k+1,⟨by omega,Zg.2 ⟨hno,by simpa using h2⟩⟩,by omega,Weak.mk (by simp (disch:=omega) only [Za,Zy,go_sem,seval])⟩
  ·have:Vk x (nth x.types r.typ.toNat).cap r.visits=true:=by
    rw [Vk,List.all_eq_true];intro j hj;exact hno j (by have:=List.mem_range.1 hj;omega)
   rw [if_pos this]
def Zjh (j:Nat):Int:=if j=63 then-9223372036854775808 else ((pw j:Nat):Int)
theorem ZaZ {j:Nat} (h:j<63):Zjh j=((pw j:Nat):Int):=by rw [Zjh,if_neg (by omega)]
theorem Zqt {j:Nat} (h:j<=62):pw j<=4611686018427387904:=by have:=Zez h;rwa [Zdb] at this
theorem Zbq {j:Nat} (h:j<=63):0<Zjh j↔j<63:=by
 unfold Zjh
 split
 ·omega
 ·have:=Zjg j;omega
theorem Zpf {S q:Nat} (hS:S<9223372036854775808) (h:q<=S):IntKind.i64.wrap (q:Int)=(q:Int):=by rw [IntKind.wrap_i64];omega
theorem Zcp {P:Program} {t:TypeId} {S j:Nat} (hS:S<9223372036854775808):Yf P .quo t (.p (.int .i64 (S:Int))) (.p (.int .i64 ((pw j:Nat):Int)))=some (.int .i64 ((S / pw j:Nat):Int)):=by
 have hp:=Zjg j;rw [Zig (by omega)]
 have e:(S:Int).tdiv ((pw j:Nat):Int)=((S / pw j:Nat):Int):=by
  rw [Int.tdiv_eq_ediv_of_nonneg (by omega)];exact (Int.natCast_ediv _ _).symm
 have hle:=Nat.div_le_self S (pw j);rw [e,Zpf hS hle]
theorem Zff {P:Program} {t:TypeId} {S:Nat} :Yf P .rem t (.p (.int .i64 (S:Int))) (.p (.int .i64 2))=some (.int .i64 ((S%2:Nat):Int)):=by
 rw [Zhu (by omega),Int.tmod_eq_emod_of_nonneg (by omega)]
 rfl
theorem Zs3 {S j:Nat} (hS:S<9223372036854775808):(IntKind.i64.wrap ((S:Int) / ((pw j:Nat):Int))).tmod 2=((S / pw j%2:Nat):Int):=by
 have hle:=Nat.div_le_self S (pw j);rw [<- Int.natCast_ediv,Zpf hS hle,Int.tmod_eq_emod_of_nonneg (Int.natCast_nonneg _)]
 rfl
theorem Zeq {P:Program} {t:TypeId} {j:Nat} (h:j<63):Yf P .mul t (.p (.int .i64 ((pw j:Nat):Int))) (.p (.int .i64 2))=some (.int .i64 (Zjh (j+1))):=by
 rw [ZhA]
 congr 2
 have hs:=ZjU j;unfold Zjh
 split
 ·have hj:j=62:=by omega
  subst hj;rw [Zdb];decide
 ·have:=Zqt (show j+1<=62 by omega)
  have e:((pw j:Nat):Int)*2=((pw (j+1):Nat):Int):=by omega
  rw [e]
  exact by rw [IntKind.wrap_i64];omega
theorem Zhk (t:Typ) (s:Int) (h1:t.skills<9223372036854775808) (h2:s<9223372036854775808):PC 82 [.p (QE t),.p (.int .i64 s)] (.bool (Ya t s)):=by
 refine Zb Tryz.func82 rfl ZwR ?_;simp (disch:=omega) only [Tryz.f82,go_sem,seval];refine gF ?_ ?_<;>intro c1<;>simp (disch:=omega) only [Sh.out c1,go_sem,seval]
 ·have:Ya t s=false:=by
   have: ¬ 0<=t.skills:=by omega
   simp [Ya,this]
  rw [this]
 ·refine cD ?_ ?_<;>intro c2<;>simp (disch:=omega) only [Sh.out c2,go_sem,seval]
  ·have:Ya t s=false:=by
    have: ¬ 0<=s:=by omega
    simp [Ya,this]
   rw [this]
  ·obtain ⟨M,hM⟩: ∃M:Nat,t.skills=(M:Int):=⟨t.skills.toNat,by omega⟩;obtain ⟨S,rfl⟩: ∃S:Nat,s=(S:Int):=⟨s.toNat,by omega⟩
   have hMl:M<9223372036854775808:=by omega
   have hSl:S<9223372036854775808:=by omega
   have hab: ∀b:Bool,((List.range 63).all fun i=> !S.testBit i||M.testBit i)=b->Ya t (S:Int)=b:=fun b hb=>by
    have g1:0<=t.skills:=by omega
    have g2:(0:Int)<=(S:Int):=by omega
    simp only [Ya,g1,g2,decide_true,Bool.true_and,hM,Int.toNat_natCast];exact hb
   refine Zf [1,2] (fun j:Nat=> [(5,.p (.int .i64 (Zjh j)))]) (fun _=> [Xl t]) (fun j=>j<=63/\ ∀i,i<j->(!S.testBit i||M.testBit i)=true) (fun j=>63-j) 0 (by simp) (Weak.mk ?_) ?_
   ·simp (disch:=omega) only [Xl,hM,show Zjh 0=1 from rfl,go_sem,seval]
   ·rintro j ⟨hj,hno⟩;simp (disch:=omega) only [Xl,hM,go_sem,seval];refine cD ?_ ?_<;>intro c3<;>simp (disch:=omega) only [Sh.out c3,go_sem,seval]
    ·have hj2:j<63:=(Zbq hj).1 c3;simp (disch:=omega) only [ZaZ hj2,Zcp hSl,Zcp hMl,Zs3 hSl,Zs3 hMl,Zff,Zeq hj2,ZaV,Zef,go_sem,seval];refine gT ?_ ?_<;>intro c4<;>simp (disch:=omega) only [Sh.out c4,ZaZ hj2,Zcp hSl,Zcp hMl,Zs3 hSl,Zs3 hMl,Zff,Zeq hj2,ZaV,Zef,go_sem,seval]
     ·refine cD ?_ ?_<;>intro c5<;>simp (disch:=omega) only [Sh.out c5,ZaZ hj2,Zeq hj2,go_sem,seval]
      ·rw [hab false (by rw [List.all_eq_false];exact ⟨j,List.mem_range.2 hj2,by simp [c4,c5]⟩)]
      ·exact ⟨j+1,⟨by omega,Zg.2 ⟨hno,by simp [c4] at c5 ⊢;exact c5⟩⟩,by omega,Weak.mk (by simp (disch:=omega) only [Xl,hM,go_sem,seval])⟩
     ·exact ⟨j+1,⟨by omega,Zg.2 ⟨hno,by simp at c4;simp [c4]⟩⟩,by omega,Weak.mk (by simp (disch:=omega) only [Xl,hM,go_sem,seval])⟩
    ·have hj63:j=63:=by
      rcases Nat.lt_or_ge j 63 with h | h
      ·exact absurd ((Zbq hj).2 h) c3
      ·omega
     subst hj63;rw [hab true (by rw [List.all_eq_true];intro i hi;exact hno i (List.mem_range.1 hi))]
def ZkW (s:Stp) (a:Int):Int×Int:=if max a s.opn>s.cls then (0,14) else (max a s.opn,0)
theorem Zk8 (s:Stp) (a:Int):PT 250 [.p (Zil s),.p (.int .i64 a)] [.p (.int .i64 (ZkW s a).1),.p (.int .i64 (ZkW s a).2)]:=by
 refine Zd [] Tryz.func250 rfl ZpY ?_;simp (disch:=omega) only [Tryz.f250,go_sem,seval];refine cD ?_ ?_<;>intro h<;>simp (disch:=omega) only [Sh.out h,go_sem,seval]
 ·have e:ZkW s a=(0,14):=by rw [ZkW,if_pos (by omega)]
  rw [e];exact we
 ·have e:ZkW s a=(max a s.opn,0):=by rw [ZkW,if_neg (by omega)]
  rw [e];exact we
theorem ZhU (l:List Ord) (c:Bool) (p:Int) (hl:l.length<=1048576):PC 238 [.p (.list c (l.map V5)),.p (.int .i64 p)] (.bool (decide (0<=p)&&decide (p<(l.length:Int)))):=by
 refine Zb Tryz.func238 rfl Zi9 ?_;simp (disch:=omega) only [Tryz.f238,go_sem,seval];refine gT ?_ ?_<;>intro h<;>simp (disch:=omega) only [Sh.out h,go_sem,seval]
 all_goals simp [h]
theorem Zj5 (x:Inst) (v:Vis) (ho:x.orders.length<=1048576) (hv:inB x v=true) (hp:0<=(Yz x v).place):PT 217 [.p (.list x.orders_c (x.orders.map V5)),.p (XY v)] [.p (Zil (Yz x v)),.p (.int .i64 0)]:=by
 refine Zd [] Tryz.func217 rfl Zm1 ?_;simp (disch:=omega) only [Tryz.f217,go_sem,seval];have hv':=hv;rw [inB] at hv';have ct:=ZhU x.orders x.orders_c v.order ho;rw [hv'] at ct;refine ct.use ?_;simp only [Bool.and_eq_true,decide_eq_true_eq] at hv';obtain ⟨h1,h2⟩:=hv'
 have hi:v.order.toNat<x.orders.length:=by omega
 simp (disch:=omega) only [go_sem,seval];refine cD ?_ ?_<;>intro hd<;>simp (disch:=omega) only [Sh.out hd,go_sem,seval]
 ·have e:Yz x v=(nth x.orders v.order.toNat).drp:=by simp [Yz,hd]
  rw [e] at hp ⊢
  have e3: ¬(nth x.orders v.order.toNat).drp.place<0:=by omega
  simp (disch:=omega) only [e3,go_sem,seval];exact we
 ·have e:Yz x v=(nth x.orders v.order.toNat).pick:=by simp [Yz,hd]
  rw [e] at hp ⊢
  have e3: ¬(nth x.orders v.order.toNat).pick.place<0:=by omega
  simp (disch:=omega) only [e3,go_sem,seval];exact we
theorem ZjT (l:List Typ) (c:Bool) (ht:l.length<=1048576):PC 213 [.p (.list c (l.map QE))] (.int .i64 (dimsOf l)):=by
 refine Zb Tryz.func213 rfl Zrn ?_;simp (disch:=omega) only [Tryz.f213,go_sem,seval];refine cD ?_ ?_<;>intro h1<;>simp (disch:=omega) only [Sh.out h1,go_sem,seval]
 ·have:l.length=0:=by omega
  simp [dimsOf,this]
 ·have h2: ¬l.length=0:=by omega
  simp only [dimsOf,h2,if_false]
theorem Zjr (a b:List Int) (c d:Bool) (ha:a.length<=1048576) (hb:b.length<=1048576):PC 164 [.p (.list c (a.map eI)),.p (.list d (b.map eI))] (.bool (YC a b)):=by
 refine Zb Tryz.func164 rfl ZnN ?_;simp (disch:=omega) only [Tryz.f164,go_sem,seval];refine cD ?_ ?_<;>intro h1<;>simp (disch:=omega) only [Sh.out h1,go_sem,seval]
 ·have: ¬a.length=b.length:=by omega
  simp [YC,this]
 ·have h1':a.length=b.length:=by omega
  refine Zf [1,12,13] (fun k:Nat=> [(14,.p (.int .i64 k))]) (fun _=> []) (fun k=>k<=a.length/\ ∀j,j<k->nth a j<=nth b j) (fun k=>a.length-k) 0 (by simp) (Weak.mk ?_) ?_
  ·simp (disch:=omega) only [go_sem,seval]
  ·rintro k ⟨hk,hno⟩;simp (disch:=omega) only [go_sem,seval];refine cD ?_ ?_<;>intro h2<;>simp (disch:=omega) only [Sh.out h2,go_sem,seval]
   ·have hk2:k<a.length:=by omega
    refine cD ?_ ?_<;>intro h3<;>simp (disch:=omega) only [Sh.out h3,go_sem,seval]
    ·have:YC a b=false:=by
      cases hf:YC a b with
      | false=>rfl
      | true=>simp [YC,List.all_eq_true] at hf;have:=hf.2 k hk2;omega
     rw [this]
    ·exact ⟨k+1,⟨by omega,Zg.2 ⟨hno,by omega⟩⟩,by omega,wk⟩
   ·have hkl:k=a.length:=by omega
    subst hkl
    have:YC a b=true:=by
     simp only [YC,Bool.and_eq_true,decide_eq_true_eq,List.all_eq_true,List.mem_range];exact ⟨h1',fun i hi=>hno i hi⟩
    rw [this]
theorem Zkj (t:Typ) (s:Int) (h1:t.skills<9223372036854775808) (h2:s<9223372036854775808):PC 160 [.p (QE t),.p (.int .i64 s)] (.bool (Ya t s)):=by
 refine Zb Tryz.func160 rfl Znj ?_;simp (disch:=omega) only [Tryz.f160,go_sem,seval];refine gT ?_ ?_<;>intro c1<;>simp (disch:=omega) only [Sh.out c1,go_sem,seval]
 ·refine gT ?_ ?_<;>intro c2<;>simp (disch:=omega) only [Sh.out c2,go_sem,seval]
  ·obtain ⟨M,hM⟩: ∃M:Nat,t.skills=(M:Int):=⟨t.skills.toNat,by omega⟩;obtain ⟨S,rfl⟩: ∃S:Nat,s=(S:Int):=⟨s.toNat,by omega⟩;have hb:=Za3 (S:=S) (M:=M) (by omega)
   have e:Ya t (S:Int)=(List.range 63).all fun i=> !S.testBit i||M.testBit i:=by
    have g1:(0:Int)<=(M:Int):=by omega
    have g2:(0:Int)<=(S:Int):=c2;simp only [Ya,hM,g1,g2,decide_true,Bool.true_and,Int.toNat_natCast]
   have hd:decide (IntKind.i64.wrap ((BitVec.ofInt 64 (S:Int)&&& ~~~BitVec.ofInt 64 (M:Int)).toNat:Int)=0)=((List.range 63).all fun i=> !S.testBit i||M.testBit i):=by
    rw [Bool.eq_iff_iff];simp only [decide_eq_true_eq];exact hb
   rw [e,hM];exact congrArg (fun b=>V.p (PV.bool b)) hd
  ·have: ¬ 0<=s:=by omega
   simp [Ya,this]
 ·have: ¬ 0<=t.skills:=by omega
  simp [Ya,this]
theorem Zom (a b:Int) (h: -1073741824<=a/\a<=1073741824/\ -1073741824<=b/\b<=1073741824):PC 245 [.p (.int .i64 a),.p (.int .i64 b)] (.int .i64 (a+b)):=by
 refine Zb Tryz.func245 rfl Zrg ?_;simp (disch:=omega) only [Tryz.f245,go_sem,seval]
theorem ZjZ (a b:Int) (h: -1073741824<=a/\a<=1073741824/\ -1073741824<=b/\b<=1073741824):PC 246 [.p (.int .i64 a),.p (.int .i64 b)] (.int .i64 (a-b)):=by
 refine Zb Tryz.func246 rfl ZqV ?_;simp (disch:=omega) only [Tryz.f246,go_sem,seval]
def mkR (f:Nat->Int) (n k:Nat):List Int:=(List.range n).map fun j=>if j<k then f j else 0
theorem ZkL {f:Nat->Int} {n k:Nat} :(mkR f n k).length=n:=by simp [mkR]
theorem ZhX {f:Nat->Int} {n:Nat} :mkR f n 0=List.replicate n 0:=by
 apply List.ext_getElem (by simp [mkR]);intro i h1 h2;simp [mkR]
theorem Zim {f:Nat->Int} {n:Nat} :mkR f n n=(List.range n).map f:=by
 apply List.ext_getElem (by simp [mkR]);intro i h1 h2;simp [mkR] at h1 ⊢;omega
theorem Zjv {f:Nat->Int} {n k:Nat} (h:k<n):(mkR f n k).set k (f k)=mkR f n (k+1):=by
 apply List.ext_getElem (by simp [mkR]);intro i h1 h2;rw [List.getElem_set];simp [mkR] at h1 ⊢
 split
 ·rename_i e;subst e;simp
 ·rename_i e
  have:(i<k)↔(i<k+1):=by omega
  simp only [this]
theorem Zag (a b:List Int) (c d:Bool) (g:FuncId) (f:Int->Int->Int) (hl:a.length=b.length) (ha:a.length<=1048576)
  (hf: ∀j,j<a.length->ACalls Tryz.prog g [.p (.int .i64 (nth a j)),.p (.int .i64 (nth b j))] [] fun x H'=>x= .p (.int .i64 (f (nth a j) (nth b j)))/\H'= []) :
  PT 244 [.p (.list c (a.map eI)),.p (.list d (b.map eI)),.fn (.func g) [] []] [.p (.list false (((List.range a.length).map fun j=>f (nth a j) (nth b j)).map eI)),.p (.int .i64 0)]:=by
 refine Zd [9] Tryz.func244 rfl Zrs ?_;simp (disch:=omega) only [Tryz.f244,go_sem,seval];refine cD ?_ ?_<;>intro h0<;>simp (disch:=omega) only [Sh.out h0,go_sem,seval]
 ·omega
 ·have hz:=ZhX (f:=fun j=>f (nth a j) (nth b j)) (n:=a.length);have hml:=fun k=>ZkL (f:=fun j=>f (nth a j) (nth b j)) (n:=a.length) (k:=k);refine ZA [9] [0,1,2,8,19] (fun k:Nat=> [(20,.p (.int .i64 k))]) (fun k=> [.elems 1 ((mkR (fun j=>f (nth a j) (nth b j)) a.length k).map eI)]) (fun k=>k<=a.length) (fun k=>a.length-k) 0 (by simp) (Weak.mk ?_) ?_
  ·simp (disch:=omega) only [hz,go_sem,seval];rw [List.map_replicate];rfl
  ·intro k hk;simp (disch:=omega) only [go_sem,seval];refine cD ?_ ?_<;>intro h1<;>simp (disch:=omega) only [Sh.out h1,go_sem,seval]
   ·have hk2:k<a.length:=by omega
    have hs:=Zjv (f:=fun j=>f (nth a j) (nth b j)) (n:=a.length) hk2;have hk3:=hml k;refine Zx 12 Zm (by kernel_rfl) (by kernel_rfl) ?_;simp (disch:=omega) only [go_sem,seval];refine Zs (hf k hk2) ?_;simp (disch:=omega) only [go_sem,seval];simp (disch:=first | omega | (simp only [List.length_cons,List.length_nil,List.length_append,List.length_map,List.length_take,List.length_drop]<;>omega)) only [go_sem,seval];refine ⟨k+1,by omega,by omega,Weak.mk ?_⟩;simp (disch:=omega) only [<- hs,go_sem,seval];rw [List.map_set];rfl
   ·have hkl:k=a.length:=by omega
    subst hkl;rw [<- Zim];have hk3:=hml a.length;refine Zn (Weak.fz (o:=0) (by rfl)) ?_;refine Zc [] _ _ _ _ ?_;simp (disch:=omega) only [List.map_cons,List.map_nil,List.set_cons_succ,List.set_cons_zero,go_sem,seval];rw [if_pos hk3];exact we
theorem ZiP (a b:List Int) (c d:Bool) (hl:a.length=b.length) (ha:a.length<=1048576) (h: ∀j,j<a.length-> -1073741824<=nth a j/\nth a j<=1073741824/\ -1073741824<=nth b j/\nth b j<=1073741824):PT 214 [.p (.list c (a.map eI)),.p (.list d (b.map eI))] [.p (.list false ((Zey a b).map eI)),.p (.int .i64 0)]:=by
 refine Zd [] Tryz.func214 rfl ZqH ?_;simp (disch:=omega) only [Tryz.f214,go_sem,seval];refine Xn (Zag a b c d 245 (fun m n=>m+n) hl ha fun j hj=>Zom _ _ (h j hj)) ?_;simp (disch:=omega) only [Zey,go_sem,seval];exact we
theorem Zm7 (a b:List Int) (c d:Bool) (hl:a.length=b.length) (ha:a.length<=1048576) (h: ∀j,j<a.length-> -1073741824<=nth a j/\nth a j<=1073741824/\ -1073741824<=nth b j/\nth b j<=1073741824):PT 215 [.p (.list c (a.map eI)),.p (.list d (b.map eI))] [.p (.list false ((ZsP a b).map eI)),.p (.int .i64 0)]:=by
 refine Zd [] Tryz.func215 rfl Znm ?_;simp (disch:=omega) only [Tryz.f215,go_sem,seval];refine Xn (Zag a b c d 246 (fun m n=>m-n) hl ha fun j hj=>ZjZ _ _ (h j hj)) ?_;simp (disch:=omega) only [ZsP,go_sem,seval];exact we
theorem ZhO (x:Inst) (r:Rte) (ht:0<=r.typ/\r.typ<(x.types.length:Int)) (hv: ∀v∈r.visits,inB x v=true) (hl:r.visits.length<=1048576) (hxl:x.types.length<=1048576) (hol:x.orders.length<=1048576)
  (hs:(Z6 x r).skills<9223372036854775808) (ho: ∀o∈x.orders,o.skills<9223372036854775808) :
  PC 111 [.p (ZC x),.p (YZ r)] (.int .i64 (if (r.visits.any fun v=> !Ya (Z6 x r) (nth x.orders v.order.toNat).skills)=true then 18 else 0)):=by
 refine Zb Tryz.func111 rfl Znp ?_;simp (disch:=omega) only [Tryz.f111,go_sem,seval];refine Zf [2,3,8,9] (fun k:Nat=> [(10,.p (.int .i64 k))]) (fun _=> [Za x,.cells [.p (.int .i64 r.typ),.p (.int .i64 r.start),.p (.list r.rests_c (r.rests.map eB)),.p (.list r.visits_c (r.visits.map XY))]]) (fun k=>k<=r.visits.length/\ ∀j,j<k->Ya (Z6 x r) (nth x.orders (nth r.visits j).order.toNat).skills=true) (fun k=>r.visits.length-k) 0 (by simp) (Weak.mk ?_) ?_
 ·simp (disch:=omega) only [Za,go_sem,seval]
 ·rintro k ⟨hk,hno⟩;simp (disch:=omega) only [Za,go_sem,seval];refine cD ?_ ?_<;>intro h1<;>simp (disch:=omega) only [Sh.out h1,go_sem,seval]
  ·have hk2:k<r.visits.length:=by omega
   have hin:=hv _ (ZI hk2);simp only [inB,Bool.and_eq_true,decide_eq_true_eq] at hin;obtain ⟨i1,i2⟩:=hin
   have hi:(nth r.visits k).order.toNat<x.orders.length:=by omega
   have ho':=ho _ (ZI hi);refine Zh Zm (by kernel_rfl) (by kernel_rfl) ?_;simp (disch:=omega) only [go_sem,seval];refine Zs (Zkj (Z6 x r) (nth x.orders (nth r.visits k).order.toNat).skills (by omega) (by omega)) ?_;simp (disch:=omega) only [go_sem,seval];refine cD ?_ ?_<;>intro h2<;>simp (disch:=omega) only [Sh.out h2,go_sem,seval]
   ·have:(r.visits.any fun v=> !Ya (Z6 x r) (nth x.orders v.order.toNat).skills)=true:=by
     rw [List.any_eq_true];exact ⟨_,ZI hk2,h2⟩
    rw [if_pos this]
   ·exact ⟨k+1,⟨by omega,Zg.2 ⟨hno,by simpa using h2⟩⟩,by omega,Weak.mk (by simp (disch:=omega) only [Za,go_sem,seval])⟩
  ·have: ¬(r.visits.any fun v=> !Ya (Z6 x r) (nth x.orders v.order.toNat).skills)=true:=by
    rw [List.any_eq_true];rintro ⟨v,hv,e⟩;obtain ⟨j,hj,rfl⟩:=List.mem_iff_getElem.1 hv;have:=hno j (by omega);rw [Ze hj] at this;rw [this] at e;cases e
   rw [if_neg this]
def stF (x:Inst) (d:Nat) (ms:List Int) (k:Nat):List Int:=(ms.take k).foldl (fun s i=>if (nth x.orders i.toNat).pick.place<0 then Zey s (nth x.orders i.toNat).load else s) (List.replicate d 0)
theorem ZbX {x:Inst} {d:Nat} {ms:List Int} {k:Nat} (h:k<ms.length):stF x d ms (k+1)=if (nth x.orders (nth ms k).toNat).pick.place<0 then Zey (stF x d ms k) (nth x.orders (nth ms k).toNat).load else stF x d ms k:=by
 rw [stF,List.take_succ_eq_append_getElem h,List.foldl_append,Ze h];rfl
theorem Zdv {x:Inst} {d:Nat} {ms:List Int} (hms: ∀i∈ms,∀j,j<d->0<=nth (nth x.orders i.toNat).load j/\nth (nth x.orders i.toNat).load j<=1000): ∀k,k<=ms.length->(stF x d ms k).length=d/\ ∀j,j<d->0<=nth (stF x d ms k) j/\nth (stF x d ms k) j<=1000*k
 | 0,_=>by
  refine ⟨by simp [stF],fun j hj=> ?_⟩
  have:nth (stF x d ms 0) j=0:=by
   show nth (List.replicate d 0) j=0
   rw [Ze (by simpa using hj)];simp
  omega
 | k+1,h=>by
  obtain ⟨h1,h2⟩:=Zdv hms k (by omega);rw [ZbX (by omega)]
  split
  ·refine ⟨by simp [Zey,h1],fun j hj=> ?_⟩;have a1:=h2 j hj;have a2:=hms _ (ZI (show k<ms.length by omega)) j hj;rw [Zey,Wj (by omega)];omega
  ·exact ⟨h1,fun j hj=>by have:=h2 j hj;omega⟩
theorem Zkw (x:Inst) (S:Int) (d:Nat) (hd:d<=3) (hol:x.orders.length<=1048576) (hms: ∀i∈YX S 63,0<=i/\i<(x.orders.length:Int)) (hml:(YX S 63).length<=63)
  (hld: ∀o∈x.orders,o.load.length=d/\ ∀n∈o.load,0<=n/\n<=1000) :
  PC 212 [.p (ZC x),.p (.int .i64 S),.p (.int .i64 (d:Int))] (.list false ((stF x d (YX S 63) (YX S 63).length).map eI)):=by
 have hmo: ∀i∈YX S 63,i.toNat<x.orders.length:=fun i hi=>by have:=hms i hi;omega
 have hrg:=Zdv (x:=x) (d:=d) (ms:=YX S 63) fun i hi j hj=>by
  obtain ⟨l1,l2⟩:=hld _ (ZI (hmo i hi));exact l2 _ (ZI (by omega))
 refine Zb Tryz.func212 rfl ZqI ?_;simp (disch:=omega) only [Tryz.f212,go_sem,seval];refine (Zfo S).useF ?_;simp (disch:=omega) only [go_sem,seval];refine Zn ((Weak.fz (o:=1) (by rfl)).trans (Weak.fz (o:=2) (by rfl))) ?_;simp (disch:=omega) only [List.map_cons,List.map_nil,List.set_cons_succ,List.set_cons_zero,List.cons_append,List.nil_append,List.length_replicate,eq_self,if_true,go_sem,seval]
 have hz:List.replicate d (PV.int .i64 0)=(stF x d (YX S 63) 0).map eI:=by
  show _=(List.replicate d 0).map eI
  rw [List.map_replicate];rfl
 refine Zf [3,13,14] (fun k:Nat=> [(7,.p (.list false ((stF x d (YX S 63) k).map eI))),(15,.p (.int .i64 k))]) (fun _=> [Za x,.dead,.dead]) (fun k=>k<=(YX S 63).length) (fun k=>(YX S 63).length-k) 0 (by simp) (Weak.mk ?_) ?_
 ·simp (disch:=omega) only [Za,hz,go_sem,seval]
 ·intro k hk;have hk1:=hrg k hk;have hsn:=fun h=>ZbX (x:=x) (d:=d) (ms:=YX S 63) (k:=k) h;simp (disch:=omega) only [Za,go_sem,seval];refine cD ?_ ?_<;>intro h1<;>simp (disch:=omega) only [Sh.out h1,go_sem,seval]
  ·have hk2:k<(YX S 63).length:=by omega
   have hm:=hms _ (ZI hk2);have hi:=hmo _ (ZI hk2);have hlo:=hld _ (ZI hi);have hsn:=hsn hk2;simp (disch:=omega) only [go_sem,seval];refine cD ?_ ?_<;>intro h2<;>simp (disch:=omega) only [Sh.out h2,go_sem,seval]
   ·rw [if_pos h2] at hsn;refine Xn (ZiP (stF x d (YX S 63) k) (nth x.orders (nth (YX S 63) k).toNat).load false (nth x.orders (nth (YX S 63) k).toNat).load_c (by omega) (by omega) fun j hj=> ?_) ?_
    ·have b1:=hk1.2 j (by omega);have b2:=hlo.2 _ (ZI (show j<(nth x.orders (nth (YX S 63) k).toNat).load.length by omega));omega
    ·simp (disch:=omega) only [go_sem,seval];exact ⟨k+1,by omega,by omega,Weak.mk (by simp (disch:=omega) only [Za,hsn,go_sem,seval])⟩
   ·rw [if_neg h2] at hsn;exact ⟨k+1,by omega,by omega,Weak.mk (by simp (disch:=omega) only [Za,hsn,go_sem,seval])⟩
  ·have hkl:k=(YX S 63).length:=by omega
   subst hkl
   trivial
theorem ZcQ {p : Nat -> Bool} {n : Nat} (h : ∀ i, n <= i -> p i = false) : ∀ k, n <= k -> (List.range k).filter p = (List.range n).filter p := by
  intro k hk
  induction k with
  | zero => have : n = 0 := by omega
            subst this; rfl
  | succ k ih =>
    by_cases e : n = k + 1
    · subst e; rfl
    · rw [List.range_succ, List.filter_append, ih (by omega)]
      simp [h k (by omega)]
theorem Zxx {x:Inst} {l:List Vis} (hi:Inr x l) (hn:x.orders.length<=10):YX ((X2 l:Nat):Int) 63=((List.range x.orders.length).filter fun (i:Nat)=>Xb l (i:Int)).map fun (i:Nat)=>(i:Int):=by
 have key: ∀i:Nat,i<=62->Zdn ((X2 l:Nat):Int) (i:Int)=Xb l (i:Int):=fun i h=>by
  rw [Zbx _ _ h,Bool.eq_iff_iff,Uc,Z5]
  constructor
  ·rintro ⟨v,hv,e⟩;exact ⟨v,hv,by have:=hi v hv;omega⟩
  ·rintro ⟨v,hv,e⟩;exact ⟨v,hv,by omega⟩
 unfold YX;rw [List.filter_congr (q:=fun (i:Nat)=>Xb l (i:Int)) (fun i hm=>key i (by have:=List.mem_range.1 hm;omega)),ZcQ (n:=x.orders.length) (fun i h=> ?_) 63 (by omega)]
 cases hh:Xb l (i:Int) with
 | false=>rfl
 | true =>
  obtain ⟨v,hv,e⟩:=Z5.1 hh;have:=hi v hv;omega
theorem ZkA {x:Inst} {d:Nat} : ∀(L:List Nat) (g:Nat->Int),(L.map fun (i:Nat)=>(i:Int)).foldl (fun s (i:Int)=>if (nth x.orders i.toNat).pick.place<0 then Zey s (nth x.orders i.toNat).load else s) ((List.range d).map g)=(List.range d).map fun j=>g j+(L.map fun i=>if (nth x.orders i).pick.place<0 then nth (nth x.orders i).load j else 0).sum
 | [],g=>by simp
 | i::L,g=>by
  rw [List.map_cons,List.foldl_cons,Int.toNat_natCast]
  by_cases h:(nth x.orders i).pick.place<0
  ·have e:Zey ((List.range d).map g) (nth x.orders i).load=(List.range d).map fun j=>g j+nth (nth x.orders i).load j:=by
    rw [Zey,List.length_map,List.length_range]
    exact List.map_congr_left fun j hj=>by rw [Wj (List.mem_range.1 hj)]
   rw [if_pos h,e,ZkA L];refine List.map_congr_left fun j _=> ?_;rw [List.map_cons,List.sum_cons,if_pos h];omega
  ·rw [if_neg h,ZkA L];refine List.map_congr_left fun j _=> ?_;rw [List.map_cons,List.sum_cons,if_neg h];omega
theorem Zeu {x:Inst} {l:List Vis} (hi:Inr x l) (hn:x.orders.length<=10):stF x (dimsOf x.types).toNat (YX ((X2 l:Nat):Int) 63) (YX ((X2 l:Nat):Int) 63).length=Y8 x l 0:=by
 rw [stF,List.take_length,Zxx hi hn];have:=ZkA (x:=x) (d:=(dimsOf x.types).toNat) ((List.range x.orders.length).filter fun (i:Nat)=>Xb l (i:Int)) fun _=>0
 have e:(List.range (dimsOf x.types).toNat).map (fun _=>(0:Int))=List.replicate (dimsOf x.types).toNat 0:=by
  rw [List.map_const',List.length_range]
 rw [e] at this;rw [this,Y8];refine List.map_congr_left fun j _=> ?_;rw [Int.zero_add,Wk,Zdp]
 congr 1
 refine List.map_congr_left fun i _=> ?_;rw [ZhM]
 by_cases h:(nth x.orders i).pick.place<0<;>cases Xb l (i:Int)<;>simp [h]
theorem Zih {x:Inst} {l:List Vis} {n j:Nat} {d:Nat} (hj:j<d) (hld: ∀o∈x.orders,o.load.length=d/\ ∀n∈o.load,0<=n/\n<=1000) (hn:x.orders.length<=10):0<=Zdp x l n j/\Zdp x l n j<=10000:=by
 have key:=Zf3 (f:=fun i=>if i<x.orders.length then (if (onB x l n i&&Xb l i)=true then nth (nth x.orders i).load j else 0) else 0) (b:=1000) (by omega) (fun q=>by
  split
  ·rename_i hq
   split
   ·obtain ⟨h1,h2⟩:=hld _ (ZI hq);exact h2 _ (ZI (by omega))
   ·omega
  ·omega) x.orders.length
 have e:Zdp x l n j=((List.range x.orders.length).map fun i=>if i<x.orders.length then (if (onB x l n i&&Xb l i)=true then nth (nth x.orders i).load j else 0) else 0).sum:=by
  rw [Zdp]
  congr 1
  exact List.map_congr_left fun i hi=>by rw [if_pos (List.mem_range.1 hi)]
 rw [e]
 have:(1000:Int)*x.orders.length<=10000:=by omega
 omega
theorem Zh1 {x:Inst} {l:List Vis} {n j:Nat} (hj:j<(dimsOf x.types).toNat) (hd:LdOk x):0<=nth (Y8 x l n) j/\nth (Y8 x l n) j<=10000:=by
 rw [Y8,Wj hj];exact Zih hj (fun o ho=>by obtain ⟨h1,h2⟩:=hd.load o ho;exact ⟨by omega,h2⟩) hd.ord
theorem Zc1 (l:List Vis) (c:Bool) (n:Nat) (hn:n<l.length) (hl:l.length<=1048576):PC 131 [.p (.list c (l.map XY)),.p (.int .i64 (n:Nat))] (.bool (YW l n)):=by
 refine Zb Tryz.func131 rfl Zon ?_;simp (disch:=omega) only [Tryz.f131,go_sem,seval];refine Zf [0,1] (fun k:Nat=> [(5,.p (.int .i64 k))]) (fun _=> []) (fun k=>k<=n/\ ∀j,j<k->(nth l j).order≠(nth l n).order) (fun k=>n-k) 0 (by simp) (Weak.mk ?_) ?_
 ·simp (disch:=omega) only [go_sem,seval]
 ·rintro k ⟨hk,hno⟩;simp (disch:=omega) only [go_sem,seval];refine cD ?_ ?_<;>intro h1<;>simp (disch:=omega) only [Sh.out h1,go_sem,seval]
  ·have hk2:k<n:=by omega
   have hk3:k<l.length:=by omega
   refine Zh Zm (by kernel_rfl) (by kernel_rfl) ?_;simp (disch:=omega) only [go_sem,seval];refine cD ?_ ?_<;>intro h2<;>simp (disch:=omega) only [Sh.out h2,go_sem,seval]
   ·have:YW l n=false:=by
     unfold YW;rw [Bool.not_eq_false',List.any_eq_true];exact ⟨nth l k,Q7 hk2 hk3,by simpa using h2⟩
    rw [this]
   ·exact ⟨k+1,⟨by omega,Zg.2 ⟨hno,h2⟩⟩,by omega,wk⟩
  ·have hkn:k=n:=by omega
   subst hkn
   have:YW l k=true:=by
    unfold YW;rw [Bool.not_eq_true',List.any_eq_false];intro v hv;obtain ⟨j,j1,j2,rfl⟩:=UA hv;simpa using hno j j1
   rw [this]
def XU (c m o w:Int):AM.Obj:= .cells [.p (.int .i64 c),.p (.int .i64 m),.p (.int .i64 o),.p (.int .i64 w)]
theorem Uo {x:Inst} {l:List Vis} {t:Int} : ∀n:Nat,(0<=(chgF x l t n).1/\(chgF x l t n).1<=n)/\(0<=(chgF x l t n).2/\(chgF x l t n).2<=n)
 | 0=>by simp [chgF]
 | n+1=>by
  have ih:=Uo (x:=x) (l:=l) (t:=t) n;rw [chgF]
  split
  ·simp only
   constructor<;>split<;>omega
  ·omega
theorem ZfG (x:Inst) (r:Rte) (s:She) (hty:0<=r.typ/\r.typ<(x.types.length:Int)) (ho:x.orders.length<=1048576) (ht:x.types.length<=1048576) (hl:r.visits.length<=1048576) (hv:Inr x r.visits)
  (hc:0<=(Z6 x r).fixed/\(Z6 x r).fixed<=100000/\0<=(Z6 x r).perMile/\(Z6 x r).perMile<=100/\0<=(Z6 x r).perTick/\(Z6 x r).perTick<=100) (ho2:0<=(Z6 x r).opn/\(Z6 x r).opn<=4096)
  (hf: -4096<=s.fin/\s.fin<=8192) (hm:0<=s.miles/\s.miles<=1000000) :
  PC 85 [.p (ZC x),.p (YZ r),.p (Zf2 s)] (JX (Zjk x r s)):=by
 have hti:r.typ.toNat<x.types.length:=by omega
 unfold Zjk;have htd:nth x.types r.typ.toNat=Z6 x r:=rfl
 generalize Z6 x r=t at *
 have e1: ¬r.typ<0:=by omega
 have e2: ¬(x.types.length:Int)<=r.typ:=by omega
 have p1:0<=t.perMile*s.miles/\t.perMile*s.miles<=100*1000000:=⟨Int.mul_nonneg (by omega) (by omega),Int.mul_le_mul (by omega) (by omega) (by omega) (by omega)⟩
 have hW: -8192<=s.fin-t.opn/\s.fin-t.opn<=8192:=by omega
 have p2: -819200<=t.perTick*(s.fin-t.opn)/\t.perTick*(s.fin-t.opn)<=819200:=by
  generalize s.fin-t.opn=w at hW;have a1:=Int.mul_le_mul_of_nonneg_left hW.2 (show 0<=t.perTick by omega);have a2:=Int.mul_le_mul_of_nonneg_left hW.1 (show 0<=t.perTick by omega);omega
 have p3: -128<=(s.fin-t.opn).tdiv 64/\(s.fin-t.opn).tdiv 64<=128:=by
  generalize s.fin-t.opn=w at hW;rcases Int.le_total 0 w with h | h
  ·rw [Int.tdiv_eq_ediv_of_nonneg h];omega
  ·have:w.tdiv 64= -((-w) / 64):=by rw [<- Int.tdiv_eq_ediv_of_nonneg (by omega),Int.neg_tdiv,Int.neg_neg]
   rw [this];omega
 have p4:0<=(s.fin-t.opn).tdiv 64*(s.fin-t.opn).tdiv 64/\(s.fin-t.opn).tdiv 64*(s.fin-t.opn).tdiv 64<=16384:=by
  generalize (s.fin-t.opn).tdiv 64=q at p3;refine ⟨?_,?_⟩
  ·rcases Int.le_total 0 q with h | h
   ·exact Int.mul_nonneg h h
   ·exact Int.mul_nonneg_of_nonpos_of_nonpos h h
  ·rcases Int.le_total 0 q with h | h
   ·have:=Int.mul_le_mul p3.2 p3.2 h (by omega);omega
   ·have h2:0<= -q:=by omega
    have:=Int.mul_le_mul (show-q<=128 by omega) (show-q<=128 by omega) h2 (by omega);rw [Int.neg_mul_neg] at this;omega
 refine Zb Tryz.func85 rfl Zwe ?_;simp (disch:=omega) only [Tryz.f85,e1,e2,htd,go_sem,seval];refine Zf [3,4,6,9] (fun k:Nat=> [(10,.p (.int .i64 k))]) (fun k=> [Za x,Zy r,.cells [.p (.bool s.rest),.p (.int .i64 s.dep),.p (.list s.times_c (s.times.map eTim)),.p (.int .i64 s.fin),.p (.int .i64 s.miles)],XU 0 0 0 0,Xl t,XU (t.fixed+t.perMile*s.miles+t.perTick*(s.fin-t.opn)) (chgF x r.visits r.typ k).1 (chgF x r.visits r.typ k).2 ((s.fin-t.opn).tdiv 64*(s.fin-t.opn).tdiv 64)]) (fun k=>k<=r.visits.length) (fun k=>r.visits.length-k) 0 (by simp) (Weak.mk ?_) ?_
 ·simp (disch:=omega) only [Za,Zy,Xl,XU,chgF,go_sem,seval]
 ·intro k hk;have hch:=Uo (x:=x) (l:=r.visits) (t:=r.typ) k;simp (disch:=omega) only [Za,Zy,Xl,XU,go_sem,seval];refine cD ?_ ?_<;>intro h1<;>simp (disch:=omega) only [Sh.out h1,go_sem,seval]
  ·have hk2:k<r.visits.length:=by omega
   obtain ⟨v1,v2⟩:=hv _ (Zl hk2)
   have e3: ¬(nth r.visits k).order<0:=by omega
   have e4: ¬(x.orders.length:Int)<=(nth r.visits k).order:=by omega
   have v3:(nth r.visits k).order.toNat<x.orders.length:=by omega
   simp (disch:=omega) only [e3,e4,go_sem,seval];refine (Zc1 r.visits r.visits_c k hk2 hl).use ?_;simp (disch:=omega) only [go_sem,seval];have hcs:chgF x r.visits r.typ (k+1)=_:=chgF.eq_2 x r.visits r.typ k;refine cD ?_ ?_<;>intro h2<;>simp (disch:=omega) only [Sh.out h2,go_sem,seval]
   ·have h2': ¬YW r.visits k=true:=by simpa using h2
    exact ⟨k+1,by omega,by omega,Weak.mk (by simp (disch:=omega) only [Za,Zy,Xl,XU,hcs,if_neg h2',go_sem,seval])⟩
   ·have h2':YW r.visits k=true:=by simpa using h2
    refine Zh Zm (by kernel_rfl) (by kernel_rfl) ?_;simp (disch:=omega) only [go_sem,seval];refine gT ?_ ?_<;>intro h3<;>simp (disch:=omega) only [Sh.out h3,go_sem,seval]
    ·refine cD ?_ ?_<;>intro h4<;>simp (disch:=omega) only [Sh.out h4,go_sem,seval]
     ·have hn:ZG (nth x.orders (nth r.visits k).order.toNat).now r.typ=true:=by simp [ZG,h3,h4]
      refine Zh Zm (by kernel_rfl) (by kernel_rfl) ?_;simp (disch:=omega) only [go_sem,seval];refine gT ?_ ?_<;>intro h5<;>simp (disch:=omega) only [Sh.out h5,go_sem,seval]
      ·refine cD ?_ ?_<;>intro h6<;>simp (disch:=omega) only [Sh.out h6,go_sem,seval]
       ·have hl2:ZG (nth x.orders (nth r.visits k).order.toNat).last r.typ=true:=by simp [ZG,h5,h6]
        exact ⟨k+1,by omega,by omega,Weak.mk (by simp (disch:=omega) only [Za,Zy,Xl,XU,hcs,if_pos h2',hn,hl2,Int.add_zero,Bool.false_eq_true,go_sem,seval])⟩
       ·have hl2:ZG (nth x.orders (nth r.visits k).order.toNat).last r.typ=false:=by simp only [Classical.not_not] at h6;simp [ZG,h6]
        exact ⟨k+1,by omega,by omega,Weak.mk (by simp (disch:=omega) only [Za,Zy,Xl,XU,hcs,if_pos h2',hn,hl2,Int.add_zero,Bool.false_eq_true,go_sem,seval])⟩
      ·have hl2:ZG (nth x.orders (nth r.visits k).order.toNat).last r.typ=false:=by simp only [Classical.not_not] at h5;simp [ZG,h5]
       exact ⟨k+1,by omega,by omega,Weak.mk (by simp (disch:=omega) only [Za,Zy,Xl,XU,hcs,if_pos h2',hn,hl2,Int.add_zero,Bool.false_eq_true,go_sem,seval])⟩
     ·have hn:ZG (nth x.orders (nth r.visits k).order.toNat).now r.typ=false:=by simp only [Classical.not_not] at h4;simp [ZG,h4]
      refine Zh Zm (by kernel_rfl) (by kernel_rfl) ?_;simp (disch:=omega) only [go_sem,seval];refine gT ?_ ?_<;>intro h5<;>simp (disch:=omega) only [Sh.out h5,go_sem,seval]
      ·refine cD ?_ ?_<;>intro h6<;>simp (disch:=omega) only [Sh.out h6,go_sem,seval]
       ·have hl2:ZG (nth x.orders (nth r.visits k).order.toNat).last r.typ=true:=by simp [ZG,h5,h6]
        exact ⟨k+1,by omega,by omega,Weak.mk (by simp (disch:=omega) only [Za,Zy,Xl,XU,hcs,if_pos h2',hn,hl2,Int.add_zero,Bool.false_eq_true,go_sem,seval])⟩
       ·have hl2:ZG (nth x.orders (nth r.visits k).order.toNat).last r.typ=false:=by simp only [Classical.not_not] at h6;simp [ZG,h6]
        exact ⟨k+1,by omega,by omega,Weak.mk (by simp (disch:=omega) only [Za,Zy,Xl,XU,hcs,if_pos h2',hn,hl2,Int.add_zero,Bool.false_eq_true,go_sem,seval])⟩
      ·have hl2:ZG (nth x.orders (nth r.visits k).order.toNat).last r.typ=false:=by simp only [Classical.not_not] at h5;simp [ZG,h5]
       exact ⟨k+1,by omega,by omega,Weak.mk (by simp (disch:=omega) only [Za,Zy,Xl,XU,hcs,if_pos h2',hn,hl2,Int.add_zero,Bool.false_eq_true,go_sem,seval])⟩
    ·have hn:ZG (nth x.orders (nth r.visits k).order.toNat).now r.typ=false:=by simp only [Classical.not_not] at h3;simp [ZG,h3]
     refine Zh Zm (by kernel_rfl) (by kernel_rfl) ?_;simp (disch:=omega) only [go_sem,seval];refine gT ?_ ?_<;>intro h5<;>simp (disch:=omega) only [Sh.out h5,go_sem,seval]
     ·refine cD ?_ ?_<;>intro h6<;>simp (disch:=omega) only [Sh.out h6,go_sem,seval]
      ·have hl2:ZG (nth x.orders (nth r.visits k).order.toNat).last r.typ=true:=by simp [ZG,h5,h6]
       exact ⟨k+1,by omega,by omega,Weak.mk (by simp (disch:=omega) only [Za,Zy,Xl,XU,hcs,if_pos h2',hn,hl2,Int.add_zero,Bool.false_eq_true,go_sem,seval])⟩
      ·have hl2:ZG (nth x.orders (nth r.visits k).order.toNat).last r.typ=false:=by simp only [Classical.not_not] at h6;simp [ZG,h6]
       exact ⟨k+1,by omega,by omega,Weak.mk (by simp (disch:=omega) only [Za,Zy,Xl,XU,hcs,if_pos h2',hn,hl2,Int.add_zero,Bool.false_eq_true,go_sem,seval])⟩
     ·have hl2:ZG (nth x.orders (nth r.visits k).order.toNat).last r.typ=false:=by simp only [Classical.not_not] at h5;simp [ZG,h5]
      exact ⟨k+1,by omega,by omega,Weak.mk (by simp (disch:=omega) only [Za,Zy,Xl,XU,hcs,if_pos h2',hn,hl2,Int.add_zero,Bool.false_eq_true,go_sem,seval])⟩
  ·have hkl:k=r.visits.length:=by omega
   subst hkl
   rfl
theorem SqOk.len {x:Inst} {l:List Vis} (h:SqOk x l) (hn:x.orders.length<=10):l.length<=20:=by
 have h1:=List.Nodup.length_le_of_subset (l₁ :=l) (l₂ :=(List.range 10).flatMap fun i:Nat=> [(⟨(i:Int),false⟩:Vis),⟨(i:Int),true⟩]) h.nd (fun v hv=>by
  obtain ⟨v1,v2⟩:=h.inr v hv;rw [List.mem_flatMap];refine ⟨v.order.toNat,List.mem_range.2 (by omega),?_⟩;obtain ⟨o,d⟩:=v
  have e:((o.toNat:Nat):Int)=o:=by simp only at v1;omega
  cases d<;>simp [e])
 have h2:((List.range 10).flatMap fun i:Nat=> [(⟨(i:Int),false⟩:Vis),⟨(i:Int),true⟩]).length=20:=rfl;omega
theorem SqOk.vis {x:Inst} {l:List Vis} (h:SqOk x l) {v:Vis} (hv:v∈l):JT x v=true:=by
 obtain ⟨v1,v2⟩:=h.inr v hv;obtain ⟨i,hi⟩: ∃i:Nat,v.order=(i:Int):=⟨v.order.toNat,by omega⟩;have ho:=h.own (i:=i) ⟨v,hv,hi⟩
 have hpl:0<=(Yz x v).place:=by
  unfold Yz;rw [hi,Int.toNat_natCast]
  cases hd:v.drp with
  | true=>exact ho.isD (by rw [<- hi,<- hd];exact hv)
  | false=>exact ho.isP (by rw [<- hi,<- hd];exact hv)
 simp [JT,inB,v1,v2,hpl]
theorem Zj9 {x:Inst} {r:Rte} (h:SqOk x r.visits) (hn:x.orders.length<=10) (ht:0<=r.typ/\r.typ<(x.types.length:Int)):Y7 x r=(decide (0<=r.start)&&decide (r.start<=4096)):=by
 have h1:r.visits.all (JT x)=true:=List.all_eq_true.2 fun v hv=>h.vis hv;have h2:=h.len hn;simp [Y7,h1,h2,ht.1,ht.2]
theorem Zjo {n:Net} (h:netOk n):netR n/\ ∀a∈n.arcs,0<=a.miles/\a.miles<=10000:=by
 obtain ⟨⟨⟨h1,_⟩,h2⟩,h3⟩:=h
 have ha: ∀a∈n.arcs,Zto a/\0<=a.miles/\a.miles<=10000:=fun a hm=>by
  obtain ⟨i,hi,rfl⟩:=List.mem_iff_getElem.1 hm;have:=h3 i hi;unfold Zfm at this;rw [Ze hi] at this;obtain ⟨⟨⟨⟨⟨_,g1⟩,_⟩,g2⟩,g3⟩,g4⟩:=this;refine ⟨⟨g2,g3,fun p hp=> ?_⟩,g1.2.2.1,g1.2.2.2.1⟩;obtain ⟨j,hj,rfl⟩:=List.mem_iff_getElem.1 hp;have:=g4 j hj;unfold VZ at this;rw [Ze hj] at this;simp only [Zia,rng,decide_eq_true_eq] at this;exact ⟨this.1.1,this.1.2,this.2.1.1,this.2.1.2⟩
 exact ⟨⟨by omega,by omega,fun a hm=>(ha a hm).1⟩,fun a hm=>(ha a hm).2⟩
theorem Ul {x:Inst} (hx:InstOk x) {i:Nat} (hi:i<x.types.length):(0<=(nth x.types i).opn/\(nth x.types i).opn<=(nth x.types i).cls/\(nth x.types i).cls<=4096)/\(1<=(nth x.types i).drive/\(nth x.types i).drive<=4096)/\(0<=(nth x.types i).rest/\(nth x.types i).rest<=4096) /\
  (0<=(nth x.types i).fixed/\(nth x.types i).fixed<=100000/\0<=(nth x.types i).perMile/\(nth x.types i).perMile<=100/\0<=(nth x.types i).perTick/\(nth x.types i).perTick<=100)/\(0<=(nth x.types i).skills/\(nth x.types i).skills<=1073741823):=by
 have ht:=hx.types.2 i hi;unfold Jj at ht;obtain ⟨⟨⟨⟨⟨⟨⟨⟨_,_⟩,_⟩,_⟩,_⟩,h1⟩,h2⟩,h3⟩,h4⟩:=ht;simp only [rng,decide_eq_true_eq] at h1 h2 h3 h4;omega
theorem UC {x:Inst} {r:Rte} (hx:InstOk x) (ht:0<=r.typ/\r.typ<(x.types.length:Int)) (h:SqOk x r.visits):TrpOk x (Z6 x r) (Z0 x r.visits):=by
 have hti:r.typ.toNat<x.types.length:=by omega
 obtain ⟨t1,t2,t3,_⟩:=Ul hx hti;obtain ⟨n1,n2⟩:=Zjo hx.net;refine ⟨n1,n2,t1,t2,t3,fun s hs=> ?_,by rw [Xh];exact h.len hx.orders.1⟩;obtain ⟨v,hv,rfl⟩:=List.mem_map.1 hs;obtain ⟨v1,v2⟩:=h.inr v hv
 have hi:v.order.toNat<x.orders.length:=by omega
 have ho:=hx.orders.2 _ hi;have hvis:=h.vis hv;have hp:=ho.pstp;have hd:=ho.dstp;simp only [stpOk,decide_eq_true_eq] at hp hd;simp only [JT,Bool.and_eq_true,decide_eq_true_eq] at hvis;have h3:=hvis.2;unfold Yz at h3 ⊢
 split
 ·rename_i c;rw [if_pos c] at h3;omega
 ·rename_i c;rw [if_neg c] at h3;omega
theorem Zbw {x t sp} (h:TrpOk x t sp): ∀(bs:List Bool) (k:Nat) (L:Lab),k+bs.length=sp.length+1->LabR k L->(XW x t sp k L bs).2=0->LabR (sp.length+1) (XW x t sp k L bs).1/\(bs≠ []->(XW x t sp k L bs).1.she.fin=(XW x t sp k L bs).1.ready)
 | [],k,L,hk,hl,h0=>by
  simp at hk;subst hk;exact ⟨hl,fun h=>absurd rfl h⟩
 | b::bs,k,L,hk,hl,h0=>by
  simp at hk;rw [XW] at h0 ⊢
  split at h0
  ·rename_i c;rw [if_pos c];obtain ⟨h1,h2⟩:=Zbw h bs (k+1) _ (by omega) (ZaM h (by omega) hl c) h0;refine ⟨h1,fun _=> ?_⟩
   cases bs with
   | nil =>
    simp at hk;subst hk;exact ZbO (x:=x) (t:=t) (sp:=sp) (y:=L) (b:=b) (by rw [XS,if_pos c];rfl)
   | cons b2 bs=>exact h2 (by simp)
  ·simp at h0;rename_i c;exact absurd h0 c
theorem Jm {x t sp} {st:Int} {r:List Bool} (h:TrpOk x t sp) (hs:0<=st/\st<=4096) (hr:r.length<=sp.length+1) (h0:(V6 x t sp st r).2=0):(0<=(V6 x t sp st r).1.fin/\(V6 x t sp st r).1.fin<=8192)/\(0<=(V6 x t sp st r).1.miles/\(V6 x t sp st r).1.miles<=210000):=by
 have hL0:LabR 0 (XR t st):=⟨by have:=h.opn;simp only [XR];omega,by simp [XR],by simp [XR,zShe]⟩;have hl:=h.len
 have key: ∀bs∈YF r (sp.length+1),(XW x t sp 0 (XR t st) bs).2=0->(0<=(XW x t sp 0 (XR t st) bs).1.she.fin/\(XW x t sp 0 (XR t st) bs).1.she.fin<=8192)/\(0<=(XW x t sp 0 (XR t st) bs).1.she.miles/\(XW x t sp 0 (XR t st) bs).1.she.miles<=210000):=fun bs hbs he=>by
  obtain ⟨q,hq,rfl⟩:=List.mem_map.1 hbs;have hql:=bestF_len.fromB_len _ _ hq;simp at hql
  have hne:r++q≠ []:=fun e=>by
   have h2:(r++q).length=0:=by rw [e];rfl
   rw [List.length_append] at h2;omega
  obtain ⟨g1,g2⟩:=Zbw h (r++q) 0 _ (by simp;omega) hL0 he;rw [g2 hne];have:=g1.rdy;have:=g1.mil;omega
 unfold V6 at h0 ⊢
 cases hf:fmL Wt none ((YF r (sp.length+1)).filterMap (VP (XS x t sp) 0 (XR t st))) with
 | some L =>
  simp only;have:=bestF_len.fmL_mem _ _ hf;obtain ⟨bs,hbs,hrun⟩:=List.mem_filterMap.1 this;rw [Wq] at hrun
  split at hrun
  ·rename_i c;simp at hrun;subst hrun;exact key bs hbs c
  ·cases hrun
 | none =>
  simp only;simp [zShe]
theorem Zfl (x:Inst) (r:Rte) (ho:x.orders.length<=1048576) (ht:x.types.length<=1048576) (hl:r.visits.length<=1048576) (hbad:Y7 x r=false\/r.visits.length+1<r.rests.length) :
  PT 84 [.p (ZC x),.p (YZ r)] [.p (Zf2 zShe),.p (.int .i64 2)]:=by
 refine Zd [] Tryz.func84 rfl Zqg ?_;simp (disch:=omega) only [Tryz.f84,go_sem,seval];refine (JN x r ho ht hl).use ?_;simp (disch:=omega) only [go_sem,seval];refine gF ?_ ?_<;>intro h1<;>simp (disch:=omega) only [Sh.out h1,go_sem,seval]
 ·exact we (by simp (disch:=omega) only [zShe,List.map_nil,go_sem,seval])
 ·have h2:r.visits.length+1<r.rests.length:=hbad.resolve_left (by simpa using h1);refine cD ?_ ?_<;>intro h3<;>simp (disch:=omega) only [Sh.out h3,go_sem,seval]
  ·exact we (by simp (disch:=omega) only [zShe,List.map_nil,go_sem,seval])
  ·omega
theorem Zj7 (x:Inst) (r:Rte) (hx:InstOk x) (hl:r.visits.length<=1048576):PC 81 [.p (ZC x),.p (YZ r)] (.int .i64 (ZW x r.visits)):=by
 have hf:=KD hx;have hr:=hx.rules;obtain ⟨h1,h2⟩:=List.append_eq_nil_iff.1 hr
 have ha:x.apart.length<=1048576:=by
  have h3:=(List.append_eq_nil_iff.1 h1).1;unfold hdr at h3
  split at h3
  ·simp at h3
  ·omega
 have hb:x.before.length<=1048576:=by
  have h3:=(List.append_eq_nil_iff.1 h2).1;unfold hdr at h3
  split at h3
  ·simp at h3
  ·omega
 have:=Zda x r (by have:=hf.len;omega) hl ha hb hf.plc;rwa [ZjW hf] at this
theorem ZiK {g:FuncId} {args:List V} {a b c:PV} {H:List AM.Obj} {K:V->List AM.Obj->Prop} (h:ACalls Tryz.prog g args [] fun x H'=>x= .tup [.p a,.p b,.p c]/\H'= []) (k:K (.tup [.p a,.p b,.p c]) H) (ha:ZT 0 args=true:=by rfl):ACalls Tryz.prog g args H K:=Zcz h k ha
def Qq (x:Inst) (r:Rte):V:= .tup [.p (Zf2 (WO x r)),.p (JX (VF x r)),.p (.int .i64 (Z2 x r))]
theorem Xg {x:Inst} {r:Rte} {e:Int} (h:Z2 x r=e) (h0:e≠0):Qq x r= .tup [.p (Zf2 zShe),.p (JX zSco),.p (.int .i64 e)]:=by
 unfold Qq WO VF;rw [h,if_neg h0,if_neg h0]
theorem V1 (x:Inst) (r:Rte) (hx:InstOk x) (hl:r.visits.length<=1048576) (hrl:r.rests.length<=1048576):ACalls Tryz.prog 44 [.p (ZC x),.p (YZ r)] [] fun y H'=>y=Qq x r/\H'= []:=by
 have hld:=Y9 hx;have htl:=hld.typ;have hol:=hld.ord;have chk:=Zj7 x r hx hl
 have htb:x.types.length<=6:=by have:=hx.types.1;simp only [rng,decide_eq_true_eq] at this;omega
 refine Zd [] Tryz.func44 rfl Zvs ?_;simp (disch:=omega) only [Tryz.f44,go_sem,seval];refine gF ?_ ?_<;>intro h1<;>simp (disch:=omega) only [Sh.out h1,go_sem,seval]
 ·have e:XH x r=2:=by rw [XH,if_pos (by omega)]
  rw [Xg (e:=2) (by rw [Z2,e];rfl) (by omega)];exact we (by simp (disch:=omega) only [zShe,zSco,List.map_nil,go_sem,seval])
 ·refine cD ?_ ?_<;>intro h2<;>simp (disch:=omega) only [Sh.out h2,go_sem,seval]
  ·have e:XH x r=2:=by rw [XH,if_pos (by omega)]
   rw [Xg (e:=2) (by rw [Z2,e];rfl) (by omega)];exact we (by simp (disch:=omega) only [zShe,zSco,List.map_nil,go_sem,seval])
  ·have hty:0<=r.typ/\r.typ<(x.types.length:Int):=by omega
   have hti:r.typ.toNat<x.types.length:=by omega
   refine (chk).use ?_;simp (disch:=omega) only [go_sem,seval];refine cD ?_ ?_<;>intro h3<;>simp (disch:=omega) only [Sh.out h3,go_sem,seval]
   ·have e:XH x r=ZW x r.visits:=by rw [XH,if_neg (fun h=>h hty),if_pos h3]
    rw [Xg (e:=ZW x r.visits) (by rw [Z2,e,if_neg h3]) h3];exact we (by simp (disch:=omega) only [zShe,zSco,List.map_nil,go_sem,seval])
   ·have h3':=Classical.not_not.1 h3;have hsq:=YN h3'
    have hvn:0<r.visits.length:=by
     have:=hsq.ne
     cases hv:r.visits with
     | nil=>exact absurd hv this
     | cons a b=>simp
    have hok:=UC hx hty hsq;have hnum:=Ul hx hti
    have hr0:XH x r=if (r.visits.any fun v=> !Ya (Z6 x r) (nth x.orders v.order.toNat).skills)=true then 18 else if Vk x (Z6 x r).cap r.visits=false then 17 else if ¬(0<=r.start/\r.start<=4096/\r.rests.length<=r.visits.length+1) then 2 else 0:=by
     rw [XH,if_neg (fun h=>h hty),if_neg h3]
    have htyp:nth x.types r.typ.toNat=Z6 x r:=rfl;rw [htyp] at hnum;have hf17:=Zhy x r hx hl hty h3' chk;have hposs:=Zj9 hsq hol hty
    have hsk: ∀k,k<r.visits.length->(nth r.visits k).order.toNat<x.orders.length/\0<=(nth x.orders (nth r.visits k).order.toNat).skills/\(nth x.orders (nth r.visits k).order.toNat).skills<=1073741823:=fun k hk=>by
     obtain ⟨v1,v2⟩:=hsq.inr _ (Zl hk)
     have hi:(nth r.visits k).order.toNat<x.orders.length:=by omega
     exact ⟨hi,(hx.orders.2 _ hi).skills⟩
    refine Zf [2,3,4,5] (fun k:Nat=> [(8,.p (.int .i64 k))]) (fun _=> [Za x,Zy r,.cells [.p (.bool false),.p (.int .i64 0),.p (.list true []),.p (.int .i64 0),.p (.int .i64 0)],XU 0 0 0 0])
     (fun k=>k<=r.visits.length/\ ∀j,j<k->Ya (Z6 x r) (nth x.orders (nth r.visits j).order.toNat).skills=true) (fun k=>r.visits.length-k) 0 (by simp) (Weak.mk ?_) ?_
    ·simp (disch:=omega) only [Za,Zy,XU,go_sem,seval]
    ·rintro k ⟨hk,hno⟩;simp (disch:=omega) only [Za,Zy,XU,go_sem,seval];refine cD ?_ ?_<;>intro h4<;>simp (disch:=omega) only [Sh.out h4,go_sem,seval]
     ·have hk2:k<r.visits.length:=by omega
      obtain ⟨s1,s2,s3⟩:=hsk k hk2;obtain ⟨v1,v2⟩:=hsq.inr _ (Zl hk2);refine Zh Zm (by kernel_rfl) (by kernel_rfl) ?_;simp (disch:=omega) only [htyp,go_sem,seval];refine Zs (Zhk (Z6 x r) (nth x.orders (nth r.visits k).order.toNat).skills (by omega) (by omega)) ?_;simp (disch:=omega) only [go_sem,seval];refine cD ?_ ?_<;>intro h5<;>simp (disch:=omega) only [Sh.out h5,go_sem,seval]
      ·have e:XH x r=18:=by
        rw [hr0,if_pos];exact List.any_eq_true.2 ⟨_,Zl hk2,h5⟩
       rw [Xg (e:=18) (by rw [Z2,e];rfl) (by omega)];exact we (by simp (disch:=omega) only [zShe,zSco,List.map_nil,go_sem,seval])
      ·exact ⟨k+1,⟨by omega,Zg.2 ⟨hno,by simpa using h5⟩⟩,by omega,Weak.mk (by simp (disch:=omega) only [Za,Zy,XU,go_sem,seval])⟩
     ·have hkl:k=r.visits.length:=by omega
      subst hkl
      have XZ: ¬(r.visits.any fun v=> !Ya (Z6 x r) (nth x.orders v.order.toNat).skills)=true:=fun h=>by
       obtain ⟨v,hv,hb⟩:=List.any_eq_true.1 h;obtain ⟨j,hj,rfl⟩:=List.mem_iff_getElem.1 hv;rw [<- Ze hj,hno j hj] at hb;simp at hb
      rw [if_neg XZ] at hr0;refine (hf17).use ?_;simp (disch:=omega) only [go_sem,seval]
      cases hlb:Vk x (Z6 x r).cap r.visits with
      | false =>
       have e:XH x r=17:=by rw [hr0,hlb];rfl
       simp only [Bool.false_eq_true,if_false];simp (disch:=omega) only [go_sem,seval];rw [Xg (e:=17) (by rw [Z2,e];rfl) (by omega)];exact we (by simp (disch:=omega) only [zShe,zSco,List.map_nil,go_sem,seval])
      | true =>
       rw [hlb,if_neg (by simp)] at hr0;simp only [if_true];simp (disch:=omega) only [go_sem,seval]
       by_cases h6:0<=r.start/\r.start<=4096/\r.rests.length<=r.visits.length+1
       ·have e:XH x r=0:=by rw [hr0,if_neg (fun h=>h h6)]
        have hp:Y7 x r=true:=by rw [hposs];simp [h6.1,h6.2.1]
        have ee:Z2 x r=(Xi x r).2:=by rw [Z2,if_pos e]
        have cb:=Zhs x r hok (by omega) htl hvn hp h6.2.2;have hbr:=Jm hok ⟨h6.1,h6.2.1⟩ (by rw [Xh];exact h6.2.2);have hbr:(Xi x r).2=0->_:=hbr
        change (Xi x r).2=0->(0<=(Xi x r).1.fin/\(Xi x r).1.fin<=8192)/\(0<=(Xi x r).1.miles/\(Xi x r).1.miles<=210000) at hbr
        have es:WO x r=if (Xi x r).2=0 then (Xi x r).1 else zShe:=by rw [WO,ee]
        have ep:VF x r=if (Xi x r).2=0 then Zjk x r (Xi x r).1 else zSco:=by rw [VF,ee]
        unfold Qq;rw [ee,es,ep];clear ee es ep
        generalize Xi x r=q at *
        obtain ⟨sh,eb⟩:=q;simp only at cb hbr ⊢;refine Xn cb ?_;simp (disch:=omega) only [go_sem,seval];refine cD ?_ ?_<;>intro h7<;>simp (disch:=omega) only [Sh.out h7,go_sem,seval]
        ·exact we (by simp (disch:=omega) only [zShe,zSco,List.map_nil,go_sem,seval])
        ·have h7':=Classical.not_not.1 h7
         try rw [if_pos h7',if_pos h7']
         subst h7';obtain ⟨g1,g2⟩:=hbr rfl;refine Zx 5 Zm (by kernel_rfl) (by kernel_rfl) ?_;simp (disch:=omega) only [go_sem,seval];refine Zs (ZfG x r sh hty (by omega) htl hl hsq.inr hnum.2.2.2.1 (by omega) (by omega) (by omega)) ?_;simp (disch:=omega) only [go_sem,seval];exact we
       ·have e:XH x r=2:=by rw [hr0,if_pos h6]
        rw [Xg (e:=2) (by rw [Z2,e];rfl) (by omega)];refine Xn (Zfl x r (by omega) htl hl ?_) ?_
        ·by_cases c1:0<=r.start
         ·by_cases c2:r.start<=4096
          ·right;omega
          ·left;rw [hposs];simp [c2]
         ·left;rw [hposs];simp [c1]
        ·simp (disch:=omega) only [go_sem,seval];exact we (by simp (disch:=omega) only [zShe,zSco,List.map_nil,go_sem,seval])
theorem Zee (x:Inst) (r:Rte) (hx:InstOk x) (hl:r.visits.length<=1048576) (hrl:r.rests.length<=1048576):PC 42 [.p (ZC x),.p (YZ r)] (.int .i64 (Z2 x r)):=by
 have ce:=V1 x r hx hl hrl;refine Zb Tryz.func42 rfl ZvM ?_;simp (disch:=omega) only [Tryz.f42,go_sem,seval];unfold Qq at ce;refine Zcz ce ?_;simp (disch:=omega) only [go_sem,seval]
def gIx {α:Type} (f:α->Bool) (l:List α):Int:=match l.findIdx? f with | some i=>(i:Int) | none=> -1
theorem ZiE {α:Type} [Inhabited α] {f:α->Bool} {l:List α} {k:Nat} (hk:k<l.length) (h:f (nth l k)=true) (hno: ∀j,j<k->f (nth l j)=false):gIx f l=(k:Int):=by
 have:l.findIdx? f=some k:=by
  rw [List.findIdx?_eq_some_iff_getElem];refine ⟨hk,by rw [<- Ze hk];exact h,fun j hj=> ?_⟩;have h2:=hno j hj;rw [Ze (by omega)] at h2;simpa using h2
 simp [gIx,this]
theorem Zis {α:Type} [Inhabited α] {f:α->Bool} {l:List α} (hno: ∀j,j<l.length->f (nth l j)=false):gIx f l= -1:=by
 have:l.findIdx? f=none:=by
  rw [List.findIdx?_eq_none_iff];intro x hx;obtain ⟨j,hj,rfl⟩:=List.mem_iff_getElem.1 hx;rw [<- Ze hj];exact hno j hj
 simp [gIx,this]
theorem ZiY {α:Type} {f:α->Bool} {l:List α} :decide (0<=gIx f l)=l.any f:=by
 unfold gIx
 cases h:l.findIdx? f with
 | none =>
  rw [List.findIdx?_eq_none_iff] at h
  have:l.any f=false:=by rw [List.any_eq_false];intro x hx;simp [h x hx]
  simp [this]
 | some i =>
  rw [List.findIdx?_eq_some_iff_getElem] at h;obtain ⟨h1,h2,_⟩:=h
  have:l.any f=true:=by rw [List.any_eq_true];exact ⟨l[i],List.getElem_mem _,h2⟩
  simp [this]
theorem Zfw (l:List (List Int)) (c:Bool) (g:FuncId) (caps:List V) (H:List AM.Obj) (f:List Int->Bool) (hl:l.length<=1048576) (hW:wkH H H.length H H) (hc:ZT H.length caps=true)
  (hg: ∀v∈l,ACalls Tryz.prog g (.p (eIL v)::caps) H fun x H'=>x= .p (.bool (f v))/\H'=H) :
  ACalls Tryz.prog 216 [.p (.list c (l.map eIL)),.fn (.func g) [] caps] H fun x H'=>x= .p (.int .i64 (gIx f l))/\H'=H:=by
 refine Xa Tryz.func216 rfl Zok (Zc [] _ _ _ _ ?_);simp (disch:=omega) only [Tryz.f216,go_sem,seval];refine Zf [0,1,7] (fun k:Nat=> [(8,.p (.int .i64 k))]) (fun _=>H) (fun k=>k<=l.length/\ ∀j,j<k->f (nth l j)=false) (fun k=>l.length-k) 0 (by simp) (Weak.mk ?_) ?_
 ·simp (disch:=omega) only [hW,hc,go_sem,seval];simp
 ·rintro k ⟨hk,hno⟩;simp (disch:=omega) only [go_sem,seval];refine cD ?_ ?_<;>intro h<;>simp (disch:=omega) only [Sh.out h,go_sem,seval]
  ·have hk2:k<l.length:=by omega
   have hgk:=hg (nth l k) (Zl hk2);simp (disch:=omega) only [ZnF,go_sem,seval] at hgk;refine hgk.useH ?_;simp (disch:=omega) only [go_sem,seval];refine cD ?_ ?_<;>intro h2<;>simp (disch:=omega) only [Sh.out h2,go_sem,seval]
   ·rw [ZiE hk2 h2 hno]
   ·have h3:f (nth l k)=false:=by simpa using h2
    refine ⟨k+1,⟨by omega,Zg.2 ⟨hno,h3⟩⟩,by omega,Weak.mk ?_⟩;simp (disch:=omega) only [hW,hc,go_sem,seval];simp
  ·have hkl:k=l.length:=by omega
   subst hkl;rw [Zis hno]
theorem J5 (l:List (List Int)) (c:Bool) (g:FuncId) (caps:List V) (H:List AM.Obj) (f:List Int->Bool) (hl:l.length<=1048576) (hW:wkH H H.length H H) (hc:ZT H.length caps=true)
  (hg: ∀v∈l,ACalls Tryz.prog g (.p (eIL v)::caps) H fun x H'=>x= .p (.bool (f v))/\H'=H) :
  ACalls Tryz.prog 162 [.p (.list c (l.map eIL)),.fn (.func g) [] caps] H fun x H'=>x= .p (.bool (l.any f))/\H'=H:=by
 refine Xa Tryz.func162 rfl ZpU (Zc [] _ _ _ _ ?_);simp (disch:=omega) only [Tryz.f162,go_sem,seval];refine (Zfw l c g caps H f hl hW hc hg).useH ?_;simp (disch:=omega) only [go_sem,seval];rw [ZiY]
theorem ZiO (x:Inst) (r:Rte) (hx:InstOk x) (hl:r.visits.length<=1048576):PC 110 [.p (ZC x),.p (YZ r)] (.int .i64 (ZW x r.visits)):=by
 have hf:=KD hx;obtain ⟨h1,h2⟩:=List.append_eq_nil_iff.1 hx.rules
 have ha:x.apart.length<=1048576:=by
  have h3:=(List.append_eq_nil_iff.1 h1).1;unfold hdr at h3
  split at h3
  ·simp at h3
  ·omega
 have hb:x.before.length<=1048576:=by
  have h3:=(List.append_eq_nil_iff.1 h2).1;unfold hdr at h3
  split at h3
  ·simp at h3
  ·omega
 exact ZcN x r (by have:=hf.len;omega) hl ha hb
theorem ZdU {x:Inst} {l:List Vis} (hi:Inr x l) (hn:x.orders.length<=10):J4 l=(((X2 l:Nat):Int),0):=by
 rw [J4,if_pos];rw [List.all_eq_true];intro v hv;have:=hi v hv;simp [inS];omega
theorem ZnW {α:Type} (f:Nat->α) (n:Nat):(List.range n).map f++ [f n]=(List.range (n+1)).map f:=by rw [List.range_succ,List.map_append];rfl
theorem Zh9 (x:Inst) (r:Rte) (hx:InstOk x) (hl:r.visits.length<=1048576) (h0:ZW x r.visits=0) :
  PT 161 [.p (ZC x),.p (YZ r)] [.p (.list false ((WX x r.visits).map eIL)),.p (.int .i64 0)]:=by
 have hd:=Y9 hx;have hsq:=YN h0;have hol:=hd.ord;have hso:=WH r hl;rw [ZdU hsq.inr hol] at hso
 have hD:dimsOf x.types=((dimsOf x.types).toNat:Int):=by have:=hd.dim;omega
 have cd:=ZjT x.types x.types_c hd.typ;rw [hD] at cd;have hst:=Zeu hsq.inr hol
 have hmem: ∀i∈YX ((X2 r.visits:Nat):Int) 63,0<=i/\i<(x.orders.length:Int):=fun i hi=>by
  rw [Zxx hsq.inr hol] at hi;obtain ⟨j,hj,rfl⟩:=List.mem_map.1 hi;have:=List.mem_range.1 (List.mem_filter.1 hj).1;omega
 have cs:=Zkw x ((X2 r.visits:Nat):Int) (dimsOf x.types).toNat (by have:=hd.dim;omega) (by omega) hmem (ZbS _ _) (fun o ho=>by have:=hd.load o ho;exact ⟨by omega,this.2⟩);rw [hst] at cs;refine Zd [20] Tryz.func161 rfl Zps ?_;simp (disch:=omega) only [Tryz.f161,go_sem,seval];refine (ZiO x r hx hl).use ?_;simp (disch:=omega) only [go_sem,seval];simp (disch:=omega) only [h0,go_sem,seval];refine Xn hso ?_;simp (disch:=omega) only [go_sem,seval];refine Zh Zm (by kernel_rfl) (by kernel_rfl) ?_;simp (disch:=omega) only [go_sem,seval]
 refine Zs (cd) ?_;simp (disch:=omega) only [go_sem,seval];refine Zs (cs) ?_;simp (disch:=omega) only [go_sem,seval];refine ZA [20] [2,37,38] (fun q:Nat×List (List Int)=> [(9,.p (.list false ((Y8 x r.visits q.1).map eI))),(10,.sl 2 0 q.2.length q.2.length),(39,.p (.int .i64 q.1))]) (fun q=> [Za x,Zy r,.elems 1 (q.2.map eIL)]) (fun q=>q.1<=r.visits.length/\q.2=(List.range (q.1+1)).map (Y8 x r.visits)) (fun q=>r.visits.length-q.1) (0,[Y8 x r.visits 0]) (by simp) (Weak.mk ?_) ?_
 ·simp (disch:=omega) only [Za,Zy,List.map_nil,List.map_cons,List.length_nil,List.length_cons,List.cons_append,List.nil_append,go_sem,seval]
 ·rintro ⟨k,o⟩ ⟨hk,ho⟩;simp only at hk ho
  have hol2:o.length=k+1:=by rw [ho];simp
  simp (disch:=omega) only [Za,Zy,go_sem,seval];refine cD ?_ ?_<;>intro h1<;>simp (disch:=omega) only [Sh.out h1,go_sem,seval]
  ·have hk2:k<r.visits.length:=by omega
   obtain ⟨v1,v2⟩:=hsq.inr _ (Zl hk2)
   have hi:(nth r.visits k).order.toNat<x.orders.length:=by omega
   obtain ⟨l1,l2⟩:=hd.load _ (ZI hi);have hsu:=ZfJ hsq hk2;have hal:=WZ (x:=x) (l:=r.visits) (n:=k);have hdm:=hd.dim
   have hrg: ∀j,j<(Y8 x r.visits k).length-> -1073741824<=nth (Y8 x r.visits k) j/\nth (Y8 x r.visits k) j<=1073741824/\ -1073741824<=nth (nth x.orders (nth r.visits k).order.toNat).load j/\nth (nth x.orders (nth r.visits k).order.toNat).load j<=1073741824:=fun j hj=>by
    have b1:=Zh1 (x:=x) (l:=r.visits) (n:=k) (j:=j) (by omega) hd;have b2:=l2 _ (ZI (show j<(nth x.orders (nth r.visits k).order.toNat).load.length by omega));omega
   refine cD ?_ ?_<;>intro h2<;>simp (disch:=omega) only [Sh.out h2,go_sem,seval]
   ·rw [if_pos h2] at hsu;refine Xn (Zm7 (Y8 x r.visits k) (nth x.orders (nth r.visits k).order.toNat).load false (nth x.orders (nth r.visits k).order.toNat).load_c (by omega) (by omega) hrg) ?_;simp (disch:=omega) only [go_sem,seval];exact ⟨(k+1,o++ [Y8 x r.visits (k+1)]),⟨by simp only;omega,by simp only;rw [ho,ZnW]⟩,by simp only;omega,Weak.mk (by simp (disch:=omega) only [Za,Zy,hsu,List.length_append,List.length_cons,List.length_nil,List.map_append,List.map_cons,List.map_nil,go_sem,seval])⟩
   ·rw [if_neg (by rw [h2];simp)] at hsu;refine Xn (ZiP (Y8 x r.visits k) (nth x.orders (nth r.visits k).order.toNat).load false (nth x.orders (nth r.visits k).order.toNat).load_c (by omega) (by omega) hrg) ?_;simp (disch:=omega) only [go_sem,seval];exact ⟨(k+1,o++ [Y8 x r.visits (k+1)]),⟨by simp only;omega,by simp only;rw [ho,ZnW]⟩,by simp only;omega,Weak.mk (by simp (disch:=omega) only [Za,Zy,hsu,List.length_append,List.length_cons,List.length_nil,List.map_append,List.map_cons,List.map_nil,go_sem,seval])⟩
  ·have hkl:k=r.visits.length:=by omega
   subst hkl;refine Zn (Weak.fz (o:=2) (by rfl)) ?_;refine Zc [] _ _ _ _ ?_;simp (disch:=omega) only [List.map_cons,List.map_nil,List.set_cons_succ,List.set_cons_zero,go_sem,seval];rw [WX,<- ho];exact we
theorem Zkf (x:Inst) (r:Rte) (a:List Int) (htl:x.types.length<=1048576) (hty:0<=r.typ/\r.typ<(x.types.length:Int)) (ha:a.length<=1048576) (hc:(Z6 x r).cap.length<=1048576) :
  ACalls Tryz.prog 163 [.p (eIL a),.ptr 0 0,.ptr 1 0] [Za x,Zy r] fun y H'=>y= .p (.bool (!YC a (Z6 x r).cap))/\H'= [Za x,Zy r]:=by
 have hti:r.typ.toNat<x.types.length:=by omega
 refine Zd [] Tryz.func163 rfl ZqX ?_;simp (disch:=omega) only [Tryz.f163,Za,Zy,go_sem,seval];refine (Zjr a (Z6 x r).cap false (Z6 x r).cap_c ha hc).use ?_;simp (disch:=omega) only [go_sem,seval];exact we (by simp (disch:=omega) only [Za,Zy,go_sem,seval])
theorem Zhd (x:Inst) (r:Rte) (hx:InstOk x) (hl:r.visits.length<=1048576) (hty:0<=r.typ/\r.typ<(x.types.length:Int)) (h0:ZW x r.visits=0) :
  PC 112 [.p (ZC x),.p (YZ r)] (.int .i64 (if Vk x (Z6 x r).cap r.visits=true then 0 else 17)):=by
 have hd:=Y9 hx;have htl:=hd.typ
 have hti:r.typ.toNat<x.types.length:=by omega
 have hcp:(Z6 x r).cap.length<=1048576:=by
  have hcap:=hx.types.2 _ hti;unfold Jj at hcap;obtain ⟨⟨⟨⟨⟨⟨⟨⟨_,_⟩,_⟩,_⟩,hcap⟩,_⟩,_⟩,_⟩,_⟩:=hcap;simp only [WE,Bool.and_eq_true,decide_eq_true_eq,rng] at hcap;unfold Z6;omega
 have hll:(WX x r.visits).length=r.visits.length+1:=by simp [WX]
 have hvl:=(YN h0).len hd.ord
 have XZ:(WX x r.visits).any (fun a=> !YC a (Z6 x r).cap)= !Vk x (Z6 x r).cap r.visits:=by
  rw [Vk,WX,List.any_map,List.not_all_eq_any_not];rfl
 have e1: ¬r.typ<0:=by omega
 have e2: ¬(x.types.length:Int)<=r.typ:=by omega
 refine Zb Tryz.func112 rfl Zp5 ?_;simp (disch:=omega) only [Tryz.f112,e1,e2,go_sem,seval];refine Xn (Zh9 x r hx hl h0) ?_;simp (disch:=omega) only [go_sem,seval];refine (J5 (WX x r.visits) false 163 [.ptr 0 0,.ptr 1 0] [Za x,Zy r] (fun a=> !YC a (Z6 x r).cap) (by omega) (by simp (disch:=omega) only [Za,Zy,go_sem,seval]) (by rfl) (fun a ha=>Zkf x r a htl hty ?_ hcp)).useH ?_
 ·obtain ⟨j,_,rfl⟩:=List.mem_map.1 ha;rw [WZ];have:=hd.dim;omega
 ·simp (disch:=omega) only [Za,Zy,go_sem,seval];rw [XZ];refine cD ?_ ?_<;>intro h1<;>simp (disch:=omega) only [Sh.out h1,go_sem,seval]
  ·rw [if_neg (by simpa using h1)]
  ·rw [if_pos (by simpa using h1)]
def Zi2 (x:Inst) (t:Typ) (r:Rte) (c:Bool) (sp:List Stp):PV:= .agg [.list x.net.places_c (x.net.places.map eS),.list x.net.arcs_c (x.net.arcs.map QV),.list x.types_c (x.types.map QE),.list x.orders_c (x.orders.map V5),.list x.apart_c (x.apart.map eP),.list x.before_c (x.before.map eP),.str t.name,.int .i64 t.count,.int .i64 t.src,.int .i64 t.dst,.list t.cap_c (t.cap.map eI),.int .i64 t.skills,.int .i64 t.prof,.int .i64 t.opn,.int .i64 t.cls,.int .i64 t.drive,.int .i64 t.rest,.int .i64 t.fixed,.int .i64 t.perMile,.int .i64 t.perTick,.int .i64 r.typ,.int .i64 r.start,.list r.rests_c (r.rests.map eB),.list r.visits_c (r.visits.map XY),.list c (sp.map Zil)]
@[go_sem] theorem ZuE (x:Inst) (t:Typ) (r:Rte) (c:Bool) (sp:List Stp):Zi2 x t r c sp= .agg [.list x.net.places_c (x.net.places.map eS),.list x.net.arcs_c (x.net.arcs.map QV),.list x.types_c (x.types.map QE),.list x.orders_c (x.orders.map V5),.list x.apart_c (x.apart.map eP),.list x.before_c (x.before.map eP),.str t.name,.int .i64 t.count,.int .i64 t.src,.int .i64 t.dst,.list t.cap_c (t.cap.map eI),.int .i64 t.skills,.int .i64 t.prof,.int .i64 t.opn,.int .i64 t.cls,.int .i64 t.drive,.int .i64 t.rest,.int .i64 t.fixed,.int .i64 t.perMile,.int .i64 t.perTick,.int .i64 r.typ,.int .i64 r.start,.list r.rests_c (r.rests.map eB),.list r.visits_c (r.visits.map XY),.list c (sp.map Zil)]:=Eq.trans rfl rfl
def ZrY (x:Inst) (t:Typ) (r:Rte):List V:= [.p (.list x.net.places_c (x.net.places.map eS)),.p (.list x.net.arcs_c (x.net.arcs.map QV)),.p (.list x.types_c (x.types.map QE)),.p (.list x.orders_c (x.orders.map V5)),.p (.list x.apart_c (x.apart.map eP)),.p (.list x.before_c (x.before.map eP)),.p (.str t.name),.p (.int .i64 t.count),.p (.int .i64 t.src),.p (.int .i64 t.dst),.p (.list t.cap_c (t.cap.map eI)),.p (.int .i64 t.skills),.p (.int .i64 t.prof),.p (.int .i64 t.opn),.p (.int .i64 t.cls),.p (.int .i64 t.drive),.p (.int .i64 t.rest),.p (.int .i64 t.fixed),.p (.int .i64 t.perMile),.p (.int .i64 t.perTick),.p (.int .i64 r.typ),.p (.int .i64 r.start),.p (.list r.rests_c (r.rests.map eB)),.p (.list r.visits_c (r.visits.map XY))]
def XX (x:Inst) (t:Typ) (r:Rte) (c:Bool) (sp:List Stp):AM.Obj:= .cells [.p (.list x.net.places_c (x.net.places.map eS)),.p (.list x.net.arcs_c (x.net.arcs.map QV)),.p (.list x.types_c (x.types.map QE)),.p (.list x.orders_c (x.orders.map V5)),.p (.list x.apart_c (x.apart.map eP)),.p (.list x.before_c (x.before.map eP)),.p (.str t.name),.p (.int .i64 t.count),.p (.int .i64 t.src),.p (.int .i64 t.dst),.p (.list t.cap_c (t.cap.map eI)),.p (.int .i64 t.skills),.p (.int .i64 t.prof),.p (.int .i64 t.opn),.p (.int .i64 t.cls),.p (.int .i64 t.drive),.p (.int .i64 t.rest),.p (.int .i64 t.fixed),.p (.int .i64 t.perMile),.p (.int .i64 t.perTick),.p (.int .i64 r.typ),.p (.int .i64 r.start),.p (.list r.rests_c (r.rests.map eB)),.p (.list r.visits_c (r.visits.map XY)),.p (.list c (sp.map Zil))]
def Zsx : AM.Obj:= .cells [.p (.list true []),.p (.list true []),.p (.list true []),.p (.list true []),.p (.list true []),.p (.list true []),.p (.str []),.p (.int .i64 0),.p (.int .i64 0),.p (.int .i64 0),.p (.list true []),.p (.int .i64 0),.p (.int .i64 0),.p (.int .i64 0),.p (.int .i64 0),.p (.int .i64 0),.p (.int .i64 0),.p (.int .i64 0),.p (.int .i64 0),.p (.int .i64 0),.p (.int .i64 0),.p (.int .i64 0),.p (.list true []),.p (.list true []),.p (.list true [])]
def JG (L:Lab):PV:= .agg [.int .i64 L.ready,.int .i64 L.since,.bool L.she.rest,.int .i64 L.she.dep,.list L.she.times_c (L.she.times.map eTim),.int .i64 L.she.fin,.int .i64 L.she.miles]
@[go_sem] theorem Zv9 (L:Lab):JG L= .agg [.int .i64 L.ready,.int .i64 L.since,.bool L.she.rest,.int .i64 L.she.dep,.list L.she.times_c (L.she.times.map eTim),.int .i64 L.she.fin,.int .i64 L.she.miles]:=Eq.trans rfl rfl
@[go_sem] theorem Zpy (l:List Lab):Zdt 7 (l.map JG)=true:=Ug (f:=JG) (S:=7) (fun _=>rfl) l
def Yt (L:Lab):AM.Obj:= .cells [.p (.int .i64 L.ready),.p (.int .i64 L.since),.p (.bool L.she.rest),.p (.int .i64 L.she.dep),.p (.list L.she.times_c (L.she.times.map eTim)),.p (.int .i64 L.she.fin),.p (.int .i64 L.she.miles)]
theorem Zin (l:List Tim) (c:Bool) (hl:l.length<=1048576):ACalls Tryz.prog 247 [.p (.list c (l.map eTim))] [] fun x H'=>x= .sl 0 0 l.length l.length/\H'= [.elems 4 (l.map eTim)]:=by
 suffices hh:ACalls Tryz.prog 247 [.p (.list c (l.map eTim))] [] fun x H'=> ∃m:List Tim,m=l/\x= .sl 0 0 m.length m.length/\H'= [.elems 4 (m.map eTim)] by
  refine hh.mono fun x H' h=> ?_;obtain ⟨m,rfl,h1,h2⟩:=h;exact ⟨h1,h2⟩
 refine Zd [1] Tryz.func247 rfl Znl ?_;simp (disch:=omega) only [Tryz.f247,go_sem,seval];refine VI (VI (Zjx 1 rfl rfl ?_));refine ⟨_,Zej (e:=138) rfl Tryz.underlying93 rfl (fun _=>rfl),?_⟩;rintro _ ⟨b,rfl,hb⟩;simp (disch:=omega) only [go_sem,seval];refine Zc [] _ _ _ _ ?_
 cases b with
 | true =>
  have hn:l= []:=by simpa using hb rfl
  subst hn;simp (disch:=omega) only [go_sem,seval];exact ⟨_,_,Weak.ofNil 0 4 rfl (by simp) (wk),[],rfl,rfl,rfl⟩
 | false =>
  simp (disch:=omega) only [go_sem,seval];refine Zc [] _ _ _ _ ?_;simp (disch:=omega) only [go_sem,seval];exact ⟨.sl 0 0 l.length l.length,[.elems 4 (l.map eTim)],wk,l,rfl,rfl,rfl⟩
theorem KC (x:Inst) (t:Typ) (r:Rte) (c:Bool) (sp:List Stp):PC 166 [.p (Zi2 x t r c sp)] (JG (XR t r.start)):=by
 refine Zd [] Tryz.func166 rfl ZoL ?_;simp (disch:=omega) only [Tryz.f166,go_sem,seval];exact we (by simp (disch:=omega) only [XR,zShe,List.map_nil,go_sem,seval])
theorem ZhZ (x:Inst) (t:Typ) (r:Rte) (c:Bool) (sp:List Stp) (k:Nat) (hk:k<=sp.length) (hl:sp.length<=1048576):PC 249 [.p (Zi2 x t r c sp),.p (.int .i64 (k:Nat))] (.int .i64 (JV t sp k)):=by
 refine Zb Tryz.func249 rfl ZpB ?_;simp (disch:=omega) only [Tryz.f249,go_sem,seval];refine cD ?_ ?_<;>intro h<;>simp (disch:=omega) only [Sh.out h,go_sem,seval]
 ·have:k=0:=by omega
  rw [JV,if_pos this]
 ·have e1:((k:Int)-1).toNat=k-1:=by omega
  have h2: ¬k=0:=by omega
  rw [JV,if_neg h2]
  done
theorem Zpc (x:Inst) (r:Rte) (hx:InstOk x) (hty:0<=r.typ/\r.typ<(x.types.length:Int)) (h0:ZW x r.visits=0) (hs:0<=r.start/\r.start<=4096) :
  PT 165 [.p (ZC x),.p (YZ r)] [.p (Zi2 x (Z6 x r) r false (Z0 x r.visits)),.p (.bool true)]:=by
 have hd:=Y9 hx;have hsq:=YN h0;have hol:=hd.ord;have htl:=hd.typ;have hvl:=hsq.len hol
 have e1: ¬r.typ<0:=by omega
 have e2: ¬(x.types.length:Int)<=r.typ:=by omega
 have e3: ¬r.start<0:=by omega
 have e4: ¬ 4096<r.start:=by omega
 have e5: ¬ 20<(r.visits.length:Int):=by omega
 refine Zd [12] Tryz.func165 rfl Zip ?_;simp (disch:=omega) only [Tryz.f165,e1,e2,e3,e4,e5,go_sem,seval];refine ZO [9] 10 Zm (by kernel_rfl) (by kernel_rfl) (by kernel_rfl) (by simp) ?_;simp (disch:=omega) only [go_sem,seval];refine Zq 9 _ _ (by kernel_rfl) (by simp (disch:=omega) only [go_sem,seval];exact ⟨rfl,rfl⟩) (Xj ?_);simp (disch:=omega) only [go_sem,seval]
 refine ZA [12] [2,4,6,49,50] (fun q:Nat×List Stp=> [(51,.p (.int .i64 q.1))])
  (fun q=> [Za x,Zy r,Zsx,.cells (ZrY x (Z6 x r) r++ [.sl 4 0 q.2.length q.2.length]),.elems 4 (q.2.map Zil)])
  (fun q=>q.1<=r.visits.length/\q.2=(Z0 x r.visits).take q.1) (fun q=>r.visits.length-q.1) (0,[]) (by simp) ((Weak.nilC (o:=3) (j:=24) 4 rfl rfl (by simp)).trans (Weak.mk ?_)) ?_
 ·simp (disch:=omega) only [Za,Zy,Zsx,ZrY,Z6,List.map_nil,List.length_nil,List.set_cons_succ,List.set_cons_zero,List.cons_append,List.nil_append,go_sem,seval]
 ·rintro ⟨k,o⟩ ⟨hk,ho⟩;simp only at hk ho
  have hol2:o.length=k:=by rw [ho];simp [Xh];omega
  simp (disch:=omega) only [Za,Zy,Zsx,ZrY,go_sem,seval];refine cD ?_ ?_<;>intro h1<;>simp (disch:=omega) only [Sh.out h1,go_sem,seval]
  ·have hk2:k<r.visits.length:=by omega
   have hvis:=hsq.vis (Zl hk2);simp only [JT,Bool.and_eq_true,decide_eq_true_eq] at hvis
   have hsn:o++ [Yz x (nth r.visits k)]=(Z0 x r.visits).take (k+1):=by
    rw [ho,List.take_succ_eq_append_getElem (by rw [Xh];exact hk2),<- Ze,QI hk2]
   have hnp: ¬(Yz x (nth r.visits k)).place<0:=by omega
   refine Xn (Zj5 x (nth r.visits k) (by omega) hvis.1 hvis.2) ?_;simp (disch:=omega) only [hnp,go_sem,seval];exact ⟨(k+1,o++ [Yz x (nth r.visits k)]),⟨by simp only;omega,hsn⟩,by simp only;omega,Weak.mk (by simp (disch:=omega) only [Za,Zy,Zsx,ZrY,List.length_append,List.length_cons,List.length_nil,List.map_append,List.map_cons,List.map_nil,List.cons_append,List.nil_append,go_sem,seval])⟩
  ·have hkl:k=r.visits.length:=by omega
   subst hkl
   have hso:o=Z0 x r.visits:=by rw [ho,<- Xh (x:=x) (l:=r.visits),List.take_length]
   subst hso;refine Zn (Weak.fz (o:=4) (by rfl)) ?_;refine Zc [] _ _ _ _ ?_;simp (disch:=omega) only [List.map_cons,List.map_nil,List.set_cons_succ,List.set_cons_zero,go_sem,seval];exact we
def ZiN (rd sn:Int) (m:She):AM.Obj:= .cells [.p (.int .i64 rd),.p (.int .i64 sn),.p (.bool m.rest),.p (.int .i64 m.dep),.sl 4 0 m.times.length m.times.length,.p (.int .i64 m.fin),.p (.int .i64 m.miles)]
theorem QT {P:Program} {H:List AM.Obj} {f ars} {a b d:PV} {B:V->Prop} {t} (h:ACalls P f ars [] fun x H'=>x= .tup [.p a,.p b,.p d]/\H'= []) (k:B (.tup [.p a,.p b,.p d])) (ha:ZT 0 ars=true:=by rfl) :
  exq (fun y=>ACalls P f ars H (ZE (ZE (fun x H'=>x=y/\H'=H) ⟨⟩) ⟨⟩)) (ZE B t) :=
 ⟨.tup [.p a,.p b,.p d],(h.behind ha H).mono fun x H' hq=>by
  obtain ⟨y,H1,⟨rfl,rfl⟩,rfl,rfl⟩:=hq
  simp [shV,Zar,ZE],k⟩
theorem ZqA (x:Inst) (t:Typ) (r:Rte) (c:Bool) (sp:List Stp) (hok:TrpOk x t sp) (k:Nat) (hk:k<=sp.length) (hs1:0<sp.length) (L:Lab) (hL:LabR k L) (hlen:L.she.times.length=k) (hclip:0<k->L.she.times_c=false) (b:Bool) :
  PT 218 [.p (Zi2 x t r c sp),.p (JG L),.p (.int .i64 (k:Nat)),.p (.bool b)] [.p (JG (YU x t sp k L b).1),.p (.int .i64 (YU x t sp k L b).2)]:=by
 have hd:=Vb hok hL b;have hsn:=JD hL b;have hg:=ZaL hok hL b;have hmi:=hL.mil;have hrd:=hL.rdy;have hsnL:=hL.snc;have hsl:=hok.len;have hrst:=hok.rst;unfold YU;have hmm:= @WK k (ZY t L b) b L.she;have hmf:= @KN k (ZY t L b) b L.she;have hml:= @Vj k (ZY t L b) b L.she;refine Zd [2,7,14,31] Tryz.func218 rfl Zod ?_;simp (disch:=omega) only [Tryz.f218,go_sem,seval];refine Zh Zm (by kernel_rfl) (by kernel_rfl) ?_;simp (disch:=omega) only [go_sem,seval];refine Zo [2,3,4,5,8] (fun _:Unit=> [(10,.p (.int .i64 (ZY t L b))),(11,.p (.int .i64 (WQ L b)))]) (fun _=> [XX x t r c sp,Yt L,Yt Wm]) (fun _=>True) ?_ ?_
 ·simp (disch:=omega) only [go_sem,seval];refine cD ?_ ?_<;>intro h<;>simp (disch:=omega) only [Sh.out h,go_sem,seval]
  ·subst h;exact ⟨(),Weak.mk (by simp (disch:=omega) only [XX,Yt,Wm,zShe,ZY,WQ,List.map_nil,go_sem,seval])⟩
  ·subst h;exact ⟨(),Weak.mk (by simp (disch:=omega) only [XX,Yt,Wm,zShe,ZY,WQ,List.map_nil,go_sem,seval])⟩
 ·intro _ _;refine Zc [7,14,31] _ _ _ _ ?_;simp (disch:=omega) only [XX,Yt,Wm,zShe,List.map_nil,go_sem,seval];refine (Zin L.she.times L.she.times_c (by omega)).useF ?_;simp (disch:=omega) only [go_sem,seval]
  generalize hM:Xr k (ZY t L b) b L.she=M at *
  refine Zo [2,4,8,10,11,12] (fun _:Unit=> []) (fun _=> [XX x t r c sp,Yt L,Yt Wm,ZiN 0 0 M,.elems 4 (M.times.map eTim)]) (fun _=>True) ?_ ?_
  ·simp (disch:=omega) only [go_sem,seval];refine cD ?_ ?_<;>intro h<;>simp (disch:=omega) only [Sh.out h,go_sem,seval]
   ·have hk0:k=0:=by omega
    subst hk0
    have e:M= { L.she with rest:=b,dep:=ZY t L b } :=by rw [<- hM,Xr,if_pos rfl]
    rw [e];exact ⟨(),Weak.mk (by simp (disch:=omega) only [XX,Yt,Wm,zShe,ZiN,List.map_nil,go_sem,seval])⟩
   ·have e1:((k:Int)-1).toNat=k-1:=by omega
    have hk1:k-1<L.she.times.length:=by omega
    have Zpw:(L.she.times.map eTim).set (k-1) (PV.agg [.int .i64 (nth L.she.times (k-1)).arr,.int .i64 (nth L.she.times (k-1)).beg,.int .i64 (nth L.she.times (k-1)).dep,.bool b])=(L.she.times.set (k-1) { nth L.she.times (k-1) with rest:=b }).map eTim:=by
     rw [List.map_set];rfl
    have hn1:nth (L.she.times.set (k-1) { nth L.she.times (k-1) with rest:=b }) (k-1)= { nth L.she.times (k-1) with rest:=b } :=by
     rw [Ze (by simpa using hk1)];simp
    have hl1:(L.she.times.set (k-1) { nth L.she.times (k-1) with rest:=b }).length=L.she.times.length:=by simp
    have hMt:M.times=(L.she.times.set (k-1) { nth L.she.times (k-1) with rest:=b }).set (k-1) { nth (L.she.times.set (k-1) { nth L.she.times (k-1) with rest:=b }) (k-1) with dep:=ZY t L b } :=by
     rw [hn1,List.set_set,<- hM,Xr,if_neg (by omega)];rfl
    have hM2:M.rest=L.she.rest/\M.dep=L.she.dep:=by rw [<- hM,Xr,if_neg (by omega)];exact ⟨rfl,rfl⟩
    simp (disch:=first | omega | (simp only [List.length_cons,List.length_nil,List.length_append,List.length_map,List.length_take,List.length_drop]<;>omega)) only [e1,go_sem,seval];rw [Zpw]
    generalize L.she.times.set (k-1) { nth L.she.times (k-1) with rest:=b } =l1 at *
    simp (disch:=first | omega | (simp only [List.length_cons,List.length_nil,List.length_append,List.length_map,List.length_take,List.length_drop]<;>omega)) only [e1,hl1,eq_self,decide_true,go_sem,seval];refine ⟨(),Weak.mk ?_⟩;simp (disch:=omega) only [XX,Yt,Wm,zShe,ZiN,List.map_nil,hM2.1,hM2.2,hmm,hmf,hml,go_sem,seval];rw [hMt,List.map_set]
    rfl
  ·intro _ _;refine Zc [14,31] _ _ _ _ ?_;simp (disch:=omega) only [XX,Yt,Wm,zShe,ZiN,List.map_nil,go_sem,seval];refine Zo [2,4,8,10,11,12,13] (fun _:Unit=> [(14,.p (.int .i64 (toF t sp k)))]) (fun _=> [XX x t r c sp,Yt L,Yt Wm,ZiN 0 0 M,.elems 4 (M.times.map eTim)]) (fun _=>True) ?_ ?_
   ·simp (disch:=omega) only [go_sem,seval];refine cD ?_ ?_<;>intro h<;>simp (disch:=omega) only [Sh.out h,go_sem,seval]
    ·have e:toF t sp k=(nth sp k).place:=by rw [toF,if_neg (by omega)]
     exact ⟨(),Weak.mk (by simp (disch:=omega) only [XX,Yt,Wm,zShe,ZiN,List.map_nil,e,go_sem,seval])⟩
    ·have e:toF t sp k=t.dst:=by rw [toF,if_pos (by omega)]
     exact ⟨(),Weak.mk (by simp (disch:=omega) only [XX,Yt,Wm,zShe,ZiN,List.map_nil,e,go_sem,seval])⟩
   ·intro _ _;refine Zc [31] _ _ _ _ ?_;simp (disch:=omega) only [XX,Yt,Wm,zShe,ZiN,List.map_nil,go_sem,seval];refine Zh Zm (by kernel_rfl) (by kernel_rfl) ?_;simp (disch:=omega) only [go_sem,seval];refine Zs (ZhZ x t r c sp k hk (by omega)) ?_;simp (disch:=omega) only [go_sem,seval];refine QT (Zv7 x.net t.prof (JV t sp k) (toF t sp k) (ZY t L b) hok.net (by omega)) ?_;simp (disch:=omega) only [go_sem,seval];have hG:goN x.net t.prof (JV t sp k) (toF t sp k) (ZY t L b)=goL x t sp k (ZY t L b):=rfl;rw [hG];clear hG
    generalize goL x t sp k (ZY t L b)=g at *
    generalize ZY t L b=d at *
    generalize WQ L b=s at *
    refine cD ?_ ?_<;>intro h1<;>simp (disch:=omega) only [Sh.out h1,go_sem,seval]
    ·have e:WP t sp k g d s M=(Wm,12):=by rw [WP,if_pos h1]
     rw [e];exact we (by simp (disch:=omega) only [Wm,zShe,List.map_nil,go_sem,seval])
    ·refine cD ?_ ?_<;>intro h2<;>simp (disch:=omega) only [Sh.out h2,go_sem,seval]
     ·refine cD ?_ ?_<;>intro h3<;>simp (disch:=omega) only [Sh.out h3,go_sem,seval]
      ·have e:WP t sp k g d s M=(Wm,15):=by rw [WP,if_neg h1,if_pos (by omega),if_pos h3]
       rw [e];exact we (by simp (disch:=omega) only [Wm,zShe,List.map_nil,go_sem,seval])
      ·refine Zn (Weak.fz (o:=4) (by rfl)) ?_;refine Zc [] _ _ _ _ ?_;simp (disch:=omega) only [List.map_cons,List.map_nil,List.set_cons_succ,List.set_cons_zero,go_sem,seval];refine cD ?_ ?_<;>intro h4<;>simp (disch:=omega) only [Sh.out h4,go_sem,seval]
       ·have e:WP t sp k g d s M=(Wm,16):=by rw [WP,if_neg h1,if_pos (by omega),if_neg h3,if_pos h4]
        rw [e];exact we (by simp (disch:=omega) only [Wm,zShe,List.map_nil,go_sem,seval])
       ·have e:WP t sp k g d s M=(⟨g.1,s+g.1-d,{ M with fin:=g.1,miles:=M.miles+g.2.1 }⟩,0):=by rw [WP,if_neg h1,if_pos (by omega),if_neg h3,if_neg h4]
        have hMc:M.times_c=false:=by
         rw [<- hM,Xr,if_neg (by omega)];exact hclip (by omega)
        rw [e];exact we (by simp (disch:=omega) only [hMc,go_sem,seval])
     ·have h2': ¬k=sp.length:=by omega
      have hkl:k<sp.length:=by omega
      have hstp:=hok.stp _ (ZI hkl);refine Xn (Zk8 (nth sp k) g.1) ?_;unfold ZkW
      by_cases h3:(nth sp k).cls<max g.1 (nth sp k).opn
      ·have e:WP t sp k g d s M=(Wm,14):=by rw [WP,if_neg h1,if_neg h2',if_pos h3]
       rw [e,if_pos h3];simp (disch:=omega) only [go_sem,seval];exact we (by simp (disch:=omega) only [Wm,zShe,List.map_nil,go_sem,seval])
      ·rw [if_neg h3];simp (disch:=omega) only [go_sem,seval];refine Zn (Weak.fz (o:=4) (by rfl)) ?_;refine Zc [] _ _ _ _ ?_;simp (disch:=omega) only [List.map_cons,List.map_nil,List.set_cons_succ,List.set_cons_zero,go_sem,seval];refine cD ?_ ?_<;>intro h4<;>simp (disch:=omega) only [Sh.out h4,go_sem,seval]
       ·have e:WP t sp k g d s M=(Wm,16):=by rw [WP,if_neg h1,if_neg h2',if_neg h3,if_pos h4]
        rw [e];exact we (by simp (disch:=omega) only [Wm,zShe,List.map_nil,go_sem,seval])
       ·have e:WP t sp k g d s M=(⟨max g.1 (nth sp k).opn+(nth sp k).serv,s+g.1-d,{ M with times_c:=false,times:=M.times++ [⟨g.1,max g.1 (nth sp k).opn,0,false⟩],miles:=M.miles+g.2.1 }⟩,0):=by rw [WP,if_neg h1,if_neg h2',if_neg h3,if_neg h4]
        rw [e];exact we
theorem ZeO {x t sp k L b} (hs:0<sp.length) (hc:0<k->L.she.times_c=false) (he:(YU x t sp k L b).2=0):(YU x t sp k L b).1.she.times_c=false:=by
 have hm:0<k->(Xr k (ZY t L b) b L.she).times_c=false:=fun h=>by rw [Xr,if_neg (by omega)];exact hc h
 unfold YU at he ⊢
 generalize goL x t sp k (ZY t L b)=g at *
 generalize ZY t L b=d at *
 generalize WQ L b=s at *
 generalize Xr k d b L.she=m at *
 unfold WP at he ⊢
 split at he
 ·simp at he
 ·rename_i c1;rw [if_neg c1]
  split at he
  ·rename_i c2;rw [if_pos c2]
   split at he
   ·simp at he
   ·rename_i c3;rw [if_neg c3]
    split at he
    ·simp at he
    ·rename_i c4;rw [if_neg c4];exact hm (by omega)
  ·rename_i c2;rw [if_neg c2]
   split at he
   ·simp at he
   ·rename_i c3;rw [if_neg c3]
    split at he
    ·simp at he
    ·rename_i c4;rw [if_neg c4]
structure LabO (n k:Nat) (L:Lab):Prop where
 rng:LabR k L
 len:k<=n->L.she.times.length=k
 clip:0<k->L.she.times_c=false
theorem Kf {x t sp k L b} (hok:TrpOk x t sp) (hs:0<sp.length) (hk:k<=sp.length) (h:LabO sp.length k L) (he:(YU x t sp k L b).2=0):LabO sp.length (k+1) (YU x t sp k L b).1 :=
 ⟨ZaM hok hk h.rng he,fun hk2=>QP (h.len hk) he (by omega),fun _=>ZeO hs h.clip he⟩
theorem K1 {x t sp} (hok:TrpOk x t sp) {st:Int} (hst:0<=st/\st<=4096):LabO sp.length 0 (XR t st) :=
 ⟨⟨by have:=hok.opn;simp only [XR];omega,by simp [XR],by simp [XR,zShe]⟩,fun _=>rfl,fun h=>by omega⟩
theorem ZeW (x:Inst) (t:Typ) (r:Rte) (c:Bool) (sp:List Stp) (hok:TrpOk x t sp) (k:Nat) (hk:k<=sp.length) (hs1:0<sp.length) (L:Lab) (hL:LabO sp.length k L) (b:Bool) :
  PT 218 [.p (Zi2 x t r c sp),.p (JG L),.p (.int .i64 (k:Nat)),.p (.bool b)] [.p (JG (YU x t sp k L b).1),.p (.int .i64 (YU x t sp k L b).2)] :=
 ZqA x t r c sp hok k hk hs1 L hL.rng (hL.len hk) hL.clip b
theorem ZuH (x:Inst) (t:Typ) (r:Rte) (c:Bool) (sp:List Stp) (hok:TrpOk x t sp) (hs1:0<sp.length) (hst:0<=r.start/\r.start<=4096) (bs:List Bool) (d:Bool) (hb:bs.length=sp.length+1) :
  PT 168 [.p (Zi2 x t r c sp),.p (.list d (bs.map eB))] [.p (Zf2 (XW x t sp 0 (XR t r.start) bs).1.she),.p (.int .i64 (XW x t sp 0 (XR t r.start) bs).2)]:=by
 have hsl:=hok.len;refine Zd [] Tryz.func168 rfl ZmF ?_;simp (disch:=omega) only [Tryz.f168,go_sem,seval];refine (KC x t r c sp).use ?_;simp (disch:=omega) only [go_sem,seval]
 refine Zf [2,4,6,13,14] (fun q:Nat×Lab=> [(15,.p (.int .i64 q.1))]) (fun q=> [XX x t r c sp,.cells [.p (.bool false),.p (.int .i64 0),.p (.list true []),.p (.int .i64 0),.p (.int .i64 0)],Yt q.2])
  (fun q=>q.1<=bs.length/\XW x t sp 0 (XR t r.start) bs=XW x t sp q.1 q.2 (bs.drop q.1)/\LabO sp.length q.1 q.2) (fun q=>bs.length-q.1) (0,XR t r.start) ⟨by simp,by simp,K1 hok hst⟩ (Weak.mk ?_) ?_
 ·simp (disch:=omega) only [XX,Yt,go_sem,seval]
 ·rintro ⟨k,L⟩ ⟨hk,hrun,hL⟩;simp only at hk hrun hL;simp (disch:=omega) only [XX,Yt,go_sem,seval];refine cD ?_ ?_<;>intro h1<;>simp (disch:=omega) only [Sh.out h1,go_sem,seval]
  ·have hk2:k<bs.length:=by omega
   have hdrop:bs.drop k=nth bs k::bs.drop (k+1):=by rw [List.drop_eq_getElem_cons hk2,Ze hk2]
   rw [hdrop,XW] at hrun;have cn:=ZeW x t r c sp hok k (by omega) hs1 L hL (nth bs k);have hL2:=Kf (x:=x) (t:=t) (b:=nth bs k) hok hs1 (by omega) hL
   generalize YU x t sp k L (nth bs k)=N at *
   refine Xn cn ?_;simp (disch:=omega) only [go_sem,seval];refine cD ?_ ?_<;>intro h2<;>simp (disch:=omega) only [Sh.out h2,go_sem,seval]
   ·rw [hrun,if_neg h2];exact we (by simp (disch:=omega) only [Wm,zShe,List.map_nil,go_sem,seval])
   ·rw [if_pos (by omega)] at hrun;exact ⟨(k+1,N.1),⟨by simp only;omega,hrun,hL2 (by omega)⟩,by simp only;omega,Weak.mk (by simp (disch:=omega) only [XX,Yt,go_sem,seval])⟩
  ·have hkl:k=bs.length:=by omega
   subst hkl;rw [List.drop_length,XW] at hrun;rw [hrun];exact we
theorem ZjY (l m:Lab):PC 221 [.p (JG l),.p (JG m)] (.bool (ZJ l m)):=by
 refine Zb Tryz.func221 rfl ZpN ?_;simp (disch:=omega) only [Tryz.f221,go_sem,seval];refine gT ?_ ?_<;>intro h<;>simp (disch:=omega) only [Sh.out h,go_sem,seval]
 ·simp [ZJ,h]
 ·simp [ZJ,h]
def gH (x:Inst) (t:Typ) (r:Rte) (c:Bool) (sp:List Stp) (o:List Lab) (f z:Lab):List AM.Obj:= [XX x t r c sp,.dead,.elems 7 (o.map JG),Yt f,Yt z]
theorem Zj2 (x:Inst) (t:Typ) (r:Rte) (c:Bool) (sp:List Stp) (o:List Lab) (f z m:Lab):ACalls Tryz.prog 220 [.p (JG m),.ptr 4 0] (gH x t r c sp o f z) fun y H'=>y= .p (.bool (ZJ m z))/\H'=gH x t r c sp o f z:=by
 refine Zd [] Tryz.func220 rfl Zrl ?_;simp (disch:=omega) only [Tryz.f220,gH,XX,Yt,go_sem,seval];refine (ZjY m z).use ?_;simp (disch:=omega) only [go_sem,seval];exact we (by simp (disch:=omega) only [gH,XX,Yt,go_sem,seval])
theorem ZcI (x:Inst) (t:Typ) (r:Rte) (c:Bool) (sp:List Stp) (o:List Lab) (f z:Lab) (hl:o.length<=2097152) :
  ACalls Tryz.prog 251 [.sl 2 0 o.length o.length,.fn (.func 220) [] [.ptr 4 0]] (gH x t r c sp o f z) fun y H'=>y= .p (.int .i64 (gIx (fun m=>ZJ m z) o))/\H'=gH x t r c sp o f z:=by
 refine Zd [] Tryz.func251 rfl ZnK ?_;simp (disch:=omega) only [Tryz.f251,gH,XX,Yt,go_sem,seval];refine Zf [0,1,7] (fun k:Nat=> [(8,.p (.int .i64 k))]) (fun _=>gH x t r c sp o f z) (fun k=>k<=o.length/\ ∀j,j<k->ZJ (nth o j) z=false) (fun k=>o.length-k) 0 (by simp) (Weak.mk ?_) ?_
 ·simp (disch:=omega) only [gH,XX,Yt,go_sem,seval]
 ·rintro k ⟨hk,hno⟩;simp (disch:=omega) only [gH,XX,Yt,go_sem,seval];refine cD ?_ ?_<;>intro h<;>simp (disch:=omega) only [Sh.out h,go_sem,seval]
  ·have hk2:k<o.length:=by omega
   have hg:=Zj2 x t r c sp o f z (nth o k);simp (disch:=first | omega | (simp only [List.length_cons,List.length_nil,List.length_append,List.length_map,List.length_take,List.length_drop]<;>omega)) only [Xx hk2,hk2,go_sem,seval];simp (disch:=omega) only [gH,XX,Yt,go_sem,seval] at hg;refine hg.useH ?_;simp (disch:=omega) only [go_sem,seval];refine cD ?_ ?_<;>intro h2<;>simp (disch:=omega) only [Sh.out h2,go_sem,seval]
   ·rw [ZiE (f:=fun m=>ZJ m z) hk2 h2 hno];exact we (by simp (disch:=omega) only [gH,XX,Yt,go_sem,seval])
   ·exact ⟨k+1,⟨by omega,Zg.2 ⟨hno,by simpa using h2⟩⟩,by omega,Weak.mk (by simp (disch:=omega) only [gH,XX,Yt,go_sem,seval])⟩
  ·have hkl:k=o.length:=by omega
   subst hkl;rw [Zis hno];exact we (by simp (disch:=omega) only [gH,XX,Yt,go_sem,seval])
theorem Jz (x:Inst) (t:Typ) (r:Rte) (c:Bool) (sp:List Stp) (o:List Lab) (f z:Lab) (hl:o.length<=2097152) :
  ACalls Tryz.prog 219 [.sl 2 0 o.length o.length,.fn (.func 220) [] [.ptr 4 0]] (gH x t r c sp o f z) fun y H'=>y= .p (.bool (o.any fun m=>ZJ m z))/\H'=gH x t r c sp o f z:=by
 refine Zd [] Tryz.func219 rfl Znw ?_;simp (disch:=omega) only [Tryz.f219,go_sem,seval];refine (ZcI x t r c sp o f z hl).useH ?_;simp (disch:=omega) only [go_sem,seval];rw [ZiY];exact we (by simp (disch:=omega) only [gH,XX,Yt,go_sem,seval])
def ZlL (x:Inst) (t:Typ) (sp:List Stp) (r:List Bool) (k:Nat) (f:Lab) (bs:List Bool) (l:List Lab):List Lab:=bs.filterMap (XS x t sp k f)++YB (XS x t sp) (chF r) k l
theorem ZqK (x:Inst) (t:Typ) (r:Rte) (c:Bool) (sp:List Stp) (hok:TrpOk x t sp) (hs1:0<sp.length) (k:Nat) (hk:k<=sp.length) (hrl:r.rests.length<=1048576) (l:List Lab) (d:Bool) (hl:l.length<=1048576) (hL: ∀L∈l,LabO sp.length k L) :
  PC 167 [.p (Zi2 x t r c sp),.p (.list d (l.map JG)),.p (.int .i64 (k:Nat))] (.list false ((Xc ZJ [] (YB (XS x t sp) (chF r.rests) k l)).map JG)):=by
 have hsl:=hok.len;refine Zd [2,16] Tryz.func167 rfl Zqa ?_;simp (disch:=omega) only [Tryz.f167,go_sem,seval];refine Zn (Weak.fz (o:=1) (by rfl)) ?_;simp (disch:=omega) only [List.map_cons,List.map_nil,List.set_cons_succ,List.set_cons_zero,go_sem,seval];refine Zo [1,2,3] (fun cb:Bool=> [(7,.p (.list cb ((chF r.rests k).map eB)))]) (fun _=> [XX x t r c sp,.dead]) (fun _=>True) ?_ ?_
 ·simp (disch:=omega) only [go_sem,seval];refine cD ?_ ?_<;>intro h<;>simp (disch:=omega) only [Sh.out h,go_sem,seval]
  ·have hk2:k<r.rests.length:=by omega
   have e:chF r.rests k=(r.rests.take (k+1)).drop k:=by
    rw [chF,List.getElem?_eq_getElem hk2,List.take_succ_eq_append_getElem hk2,List.drop_left' (by simp;omega)]
   exact ⟨r.rests_c&&decide ((k:Int)+1=(r.rests.length:Int)),Weak.mk (by simp (disch:=omega) only [XX,e,go_sem,seval])⟩
  ·have e:chF r.rests k= [false,true]:=by rw [chF,List.getElem?_eq_none (by omega)]
   exact ⟨false,Weak.mk (by simp (disch:=omega) only [XX,e,List.map_cons,List.map_nil,go_sem,seval])⟩
 ·intro cb _
  have hch:(chF r.rests k).length<=2:=by unfold chF;split<;>simp
  refine Zc [16] _ _ _ _ ?_;simp (disch:=omega) only [XX,go_sem,seval]
  refine ZA [16] [2,3,7,29,30] (fun q:Nat×List Lab=> [(8,.sl 2 0 q.2.length q.2.length),(31,.p (.int .i64 q.1))]) (fun q=> [XX x t r c sp,.dead,.elems 7 (q.2.map JG)])
   (fun q=>q.1<=l.length/\Xc ZJ [] (YB (XS x t sp) (chF r.rests) k l)=Xc ZJ q.2 (YB (XS x t sp) (chF r.rests) k (l.drop q.1))/\q.2.length<=2*q.1) (fun q=>l.length-q.1) (0,[]) (by simp) (Weak.ofNil 8 7 rfl (by simp) (Weak.mk ?_)) ?_
  ·simp (disch:=omega) only [XX,List.map_nil,List.length_nil,go_sem,seval]
  ·rintro ⟨i,o⟩ ⟨hi,hpr,hol⟩;simp only at hi hpr hol;simp (disch:=omega) only [XX,go_sem,seval];refine cD ?_ ?_<;>intro h1<;>simp (disch:=omega) only [Sh.out h1,go_sem,seval]
   ·have hi2:i<l.length:=by omega
    have hLi:=hL _ (ZI hi2)
    have hdrop:l.drop i=nth l i::l.drop (i+1):=by rw [List.drop_eq_getElem_cons hi2,Ze hi2]
    rw [hdrop] at hpr;have hpr:Xc ZJ [] (YB (XS x t sp) (chF r.rests) k l)=Xc ZJ o (ZlL x t sp r.rests k (nth l i) ((chF r.rests k).drop 0) (l.drop (i+1))):=hpr
    refine Zf [2,3,7,10,29,30,31,35,36] (fun q:Nat×List Lab=> [(8,.sl 2 0 q.2.length q.2.length),(37,.p (.int .i64 q.1))]) (fun q=> [XX x t r c sp,.dead,.elems 7 (q.2.map JG),Yt (nth l i)])
     (fun q=>q.1<=(chF r.rests k).length/\Xc ZJ [] (YB (XS x t sp) (chF r.rests) k l)=Xc ZJ q.2 (ZlL x t sp r.rests k (nth l i) ((chF r.rests k).drop q.1) (l.drop (i+1)))/\q.2.length<=2*i+q.1) (fun q=>(chF r.rests k).length-q.1) (0,o) ⟨by simp,hpr,hol⟩ (Weak.mk ?_) ?_
    ·simp (disch:=omega) only [XX,Yt,go_sem,seval]
    ·clear hpr hol;rintro ⟨j,o⟩ ⟨hj,hpr,hol⟩;simp only at hj hpr hol;simp (disch:=omega) only [XX,Yt,go_sem,seval];refine cD ?_ ?_<;>intro h2<;>simp (disch:=omega) only [Sh.out h2,go_sem,seval]
     ·have hj2:j<(chF r.rests k).length:=by omega
      have hd2:(chF r.rests k).drop j=nth (chF r.rests k) j::(chF r.rests k).drop (j+1):=by rw [List.drop_eq_getElem_cons hj2,Ze hj2]
      have cn:=ZeW x t r c sp hok k hk hs1 (nth l i) hLi (nth (chF r.rests k) j);have ho2:XS x t sp k (nth l i) (nth (chF r.rests k) j)=if (YU x t sp k (nth l i) (nth (chF r.rests k) j)).2=0 then some (YU x t sp k (nth l i) (nth (chF r.rests k) j)).1 else none:=rfl;rw [hd2,ZlL,List.filterMap_cons,ho2] at hpr
      generalize YU x t sp k (nth l i) (nth (chF r.rests k) j)=N at *
      refine Xn cn ?_;simp (disch:=omega) only [go_sem,seval];refine gT ?_ ?_<;>intro h3<;>simp (disch:=omega) only [Sh.out h3,go_sem,seval]
      ·have hcl:=Jz x t r c sp o (nth l i) N.1 (by omega);simp (disch:=omega) only [gH,XX,Yt,go_sem,seval] at hcl;refine hcl.useH ?_;simp (disch:=omega) only [go_sem,seval];rw [if_pos h3] at hpr;have hpr:Xc ZJ [] (YB (XS x t sp) (chF r.rests) k l)=if (o.any fun m=>ZJ m N.1)=true then Xc ZJ o (ZlL x t sp r.rests k (nth l i) ((chF r.rests k).drop (j+1)) (l.drop (i+1))) else Xc ZJ (o++ [N.1]) (ZlL x t sp r.rests k (nth l i) ((chF r.rests k).drop (j+1)) (l.drop (i+1))):=hpr;refine cD ?_ ?_<;>intro h4<;>simp (disch:=omega) only [Sh.out h4,go_sem,seval]
       ·rw [if_neg (by simpa using h4)] at hpr;exact ⟨(j+1,o++ [N.1]),⟨by simp only;omega,hpr,by simp;omega⟩,by simp only;omega,Weak.mk (by simp (disch:=omega) only [XX,Yt,List.length_append,List.length_cons,List.length_nil,List.map_append,List.map_cons,List.map_nil,go_sem,seval])⟩
       ·rw [if_pos (by simpa using h4)] at hpr;exact ⟨(j+1,o),⟨by simp only;omega,hpr,by simp only;omega⟩,by simp only;omega,Weak.mk (by simp (disch:=omega) only [XX,Yt,go_sem,seval])⟩
      ·rw [if_neg h3] at hpr;exact ⟨(j+1,o),⟨by simp only;omega,hpr,by simp only;omega⟩,by simp only;omega,Weak.mk (by simp (disch:=omega) only [XX,Yt,go_sem,seval])⟩
     ·have hjl:j=(chF r.rests k).length:=by omega
      subst hjl;rw [List.drop_length,ZlL,List.filterMap_nil,List.nil_append] at hpr;exact ⟨(i+1,o),⟨by simp only;omega,hpr,by simp only;omega⟩,by simp only;omega,Weak.mk (by simp (disch:=omega) only [XX,go_sem,seval])⟩
   ·have hil:i=l.length:=by omega
    subst hil;have e:YB (XS x t sp) (chF r.rests) k []= []:=rfl;rw [List.drop_length,e,Xc] at hpr;rw [hpr];refine Zn (Weak.fz (o:=2) (by rfl)) ?_;refine Zc [] _ _ _ _ ?_;simp (disch:=omega) only [List.map_cons,List.map_nil,List.set_cons_succ,List.set_cons_zero,go_sem,seval];exact we
def Zsg : PV:= .agg [.list true [],.list true [],.list true [],.list true [],.list true [],.list true [],.str [],.int .i64 0,.int .i64 0,.int .i64 0,.list true [],.int .i64 0,.int .i64 0,.int .i64 0,.int .i64 0,.int .i64 0,.int .i64 0,.int .i64 0,.int .i64 0,.int .i64 0,.int .i64 0,.int .i64 0,.list true [],.list true [],.list true []]
theorem Zkv (x:Inst) (r:Rte) (hty:0<=r.typ/\r.typ<(x.types.length:Int)) (htl:x.types.length<=1048576) (hvl:r.visits.length<=20) (hs: ¬(0<=r.start/\r.start<=4096)) :
  PT 165 [.p (ZC x),.p (YZ r)] [.p Zsg,.p (.bool false)]:=by
 have e1: ¬r.typ<0:=by omega
 have e2: ¬(x.types.length:Int)<=r.typ:=by omega
 refine Zd [] Tryz.func165 rfl Zip ?_;simp (disch:=omega) only [Tryz.f165,e1,e2,go_sem,seval];refine gF ?_ ?_<;>intro h1<;>simp (disch:=omega) only [Sh.out h1,go_sem,seval]
 ·exact we (by simp (disch:=omega) only [Zsg,go_sem,seval])
 ·refine gF ?_ ?_<;>intro h2<;>simp (disch:=omega) only [Sh.out h2,go_sem,seval]
  ·exact we (by simp (disch:=omega) only [Zsg,go_sem,seval])
  ·omega
theorem Zcc {x t sp} : ∀(bs:List Bool) (k:Nat) (L:Lab),¬(XW x t sp k L bs).2=0->(XW x t sp k L bs).1=Wm
 | [],k,L,h=>by simp [XW] at h
 | b::bs,k,L,h=>by
  rw [XW] at h ⊢
  split
  ·rename_i c;rw [if_pos c] at h;exact Zcc bs (k+1) _ h
  ·rfl
theorem ZfA (n:Nat):List.replicate n false∈X3 (List.replicate n false):=by
 rw [fromB_next];simp
theorem Zhr {l:List Lab} (h:fmL Wt none l=none):l= []:=by
 cases l with
 | nil=>rfl
 | cons a l =>
  obtain ⟨z,hz,_⟩:=Vi (fin:=Wt) l a;have:fmL Wt none (a::l)=fmL Wt (some a) l:=rfl;rw [this,hz] at h;cases h
theorem ZfZ {x t sp} {st:Int} {r:List Bool} (h:fmL Wt none ((YF r (sp.length+1)).filterMap (VP (XS x t sp) 0 (XR t st)))=none): ¬(XW x t sp 0 (XR t st) (WI r (sp.length+1))).2=0:=fun h0=>by
 have h1:=Zhr h;have h2:WI r (sp.length+1)∈YF r (sp.length+1):=List.mem_map.2 ⟨_,ZfA _,rfl⟩;have h3:=List.filterMap_eq_nil_iff.1 h1 _ h2;rw [Wq,if_pos h0] at h3
 cases h3
theorem Zcu {x t sp} {st:Int} {r:List Bool} (hr:r.length<=sp.length+1) (h:fmL Wt none (V4 ZJ (XS x t sp) (chF r) (sp.length+1) 0 [XR t st])=none): ¬(XW x t sp 0 (XR t st) (WI r (sp.length+1))).2=0 :=
 ZfZ (by rw [Kb,Ym,KA r _ hr] at h;exact h)
def VJ (x:Inst) (r:Rte):She×Int:=if 0<=r.start/\r.start<=4096/\r.rests.length<=r.visits.length+1 then Xi x r else (zShe,2)
theorem Zho {x t sp} {ch:Nat->List Bool} {k:Nat} {l:List Lab} (hok:TrpOk x t sp) (hs:0<sp.length) (hk:k<=sp.length) (h: ∀L∈l,LabO sp.length k L): ∀L∈Xc ZJ [] (YB (XS x t sp) ch k l),LabO sp.length (k+1) L:=fun L hL=>by
 have h1:=W0 ZJ _ _ L hL;rw [List.nil_append] at h1;obtain ⟨a,ha,hb⟩:=List.mem_flatMap.1 h1;obtain ⟨b,_,hn⟩:=List.mem_filterMap.1 hb;rw [XS] at hn
 split at hn
 ·rename_i c;simp at hn;subst hn;exact Kf hok hs hk (h a ha) c
 ·cases hn
theorem UN : ∀(c out:List Lab),(Xc ZJ out c).length<=out.length+c.length
 | [],out=>by simp [Xc]
 | x::c,out=>by
  rw [Xc]
  split
  ·have:=UN c out;simp;omega
  ·have:=UN c (out++ [x]);simp at this ⊢;omega
theorem KJ {x t sp} {r:List Bool} {k:Nat} : ∀l:List Lab,(YB (XS x t sp) (chF r) k l).length<=2*l.length
 | []=>by simp [YB]
 | a::l=>by
  have ih:=KJ (x:=x) (t:=t) (sp:=sp) (r:=r) (k:=k) l;have h1:(YB (XS x t sp) (chF r) k (a::l))=(chF r k).filterMap (XS x t sp k a)++YB (XS x t sp) (chF r) k l:=rfl;have h2:=List.length_filterMap_le (XS x t sp k a) (chF r k)
  have h3:(chF r k).length<=2:=by unfold chF;split<;>simp
  rw [h1,List.length_append,List.length_cons];omega
theorem ZjL (x:Inst) (r:Rte) (hx:InstOk x) (hl:r.visits.length<=1048576) (hrl:r.rests.length<=1048576) (hty:0<=r.typ/\r.typ<(x.types.length:Int)) (h0:ZW x r.visits=0) :
  PT 113 [.p (ZC x),.p (YZ r)] [.p (Zf2 (VJ x r).1),.p (.int .i64 (VJ x r).2)]:=by
 have hd:=Y9 hx;have hsq:=YN h0;have hol:=hd.ord;have htl:=hd.typ;have hvl:=hsq.len hol;have hok:=UC hx hty hsq;have hsl:(Z0 x r.visits).length=r.visits.length:=Xh
 have hs1:0<(Z0 x r.visits).length:=by
  rw [hsl];have:=hsq.ne
  cases hv:r.visits with
  | nil=>exact absurd hv this
  | cons a b=>simp
 refine Zd [6,13,14] Tryz.func113 rfl Zov ?_;simp (disch:=omega) only [Tryz.f113,go_sem,seval]
 by_cases hs:0<=r.start/\r.start<=4096
 ·refine Xn (Zpc x r hx hty h0 hs) ?_;simp (disch:=omega) only [go_sem,seval];refine cD ?_ ?_<;>intro h1<;>simp (disch:=omega) only [Sh.out h1,go_sem,seval]
  ·have e:VJ x r=(zShe,2):=by rw [VJ,if_neg (by omega)]
   rw [e];exact we (by simp (disch:=omega) only [zShe,List.map_nil,go_sem,seval])
  ·have hrs:r.rests.length<=r.visits.length+1:=by omega
   have e:VJ x r=Xi x r:=by rw [VJ,if_pos ⟨hs.1,hs.2,hrs⟩]
   have hbn:= @Zcu x (Z6 x r) (Z0 x r.visits) r.start r.rests (by rw [hsl];exact hrs);rw [e,Xi,Zae (by rw [hsl];exact hrs)];refine (KC x (Z6 x r) r false (Z0 x r.visits)).use ?_;simp (disch:=omega) only [go_sem,seval]
   generalize hT:Z6 x r=t at *
   generalize hS:Z0 x r.visits=sp at *
   refine Zn (Weak.fz (o:=4) (by rfl)) ?_;refine Zc [13,14] _ _ _ _ ?_;simp (disch:=omega) only [List.map_cons,List.map_nil,List.set_cons_succ,List.set_cons_zero,go_sem,seval]
   refine ZA [13,14] [3,4,6,8,38] (fun q:Nat×List Lab=> [(9,.p (.list false (q.2.map JG))),(39,.p (.int .i64 q.1))]) (fun _=> [Za x,Zy r,.cells [.p (.bool false),.p (.int .i64 0),.p (.list true []),.p (.int .i64 0),.p (.int .i64 0)],XX x t r false sp,.dead])
    (fun q=>q.1<=sp.length+1/\V4 ZJ (XS x t sp) (chF r.rests) (sp.length+1) 0 [XR t r.start]=V4 ZJ (XS x t sp) (chF r.rests) (sp.length+1-q.1) q.1 q.2/\(∀L∈q.2,LabO sp.length q.1 L)/\q.2.length<=2^q.1) (fun q=>sp.length+1-q.1) (0,[XR t r.start]) ⟨by simp,by simp,fun L hL=>by simp at hL;subst hL;exact K1 hok hs,by simp⟩ (Weak.mk ?_) ?_
   ·simp (disch:=omega) only [Za,Zy,XX,List.map_cons,List.map_nil,List.set_cons_succ,List.set_cons_zero,List.cons_append,List.nil_append,go_sem,seval]
   ·rintro ⟨k,l⟩ ⟨hk,hit,hlo,hll⟩;simp only at hk hit hlo hll;simp (disch:=omega) only [Za,Zy,XX,go_sem,seval];refine cD ?_ ?_<;>intro h2<;>simp (disch:=omega) only [Sh.out h2,go_sem,seval]
    ·have hk2:k<=sp.length:=by omega
     have hp20:2^k<=2^20:=Nat.pow_le_pow_right (by omega) (by omega);refine (ZqK x t r false sp hok hs1 k hk2 hrl l false (by omega) hlo).use ?_;simp (disch:=omega) only [go_sem,seval]
     have hn:V4 ZJ (XS x t sp) (chF r.rests) (sp.length+1-k) k l=V4 ZJ (XS x t sp) (chF r.rests) (sp.length+1-(k+1)) (k+1) (Xc ZJ [] (YB (XS x t sp) (chF r.rests) k l)):=by
      have e:sp.length+1-k=(sp.length+1-(k+1))+1:=by omega
      rw [e,V4]
     have hln:=UN (YB (XS x t sp) (chF r.rests) k l) [];have hln2:=KJ (x:=x) (t:=t) (sp:=sp) (r:=r.rests) (k:=k) l;exact ⟨(k+1,Xc ZJ [] (YB (XS x t sp) (chF r.rests) k l)),⟨by simp only;omega,hit.trans hn,Zho hok hs1 hk2 hlo,by simp at hln;simp only [Nat.pow_succ];omega⟩,by simp only;omega,Weak.mk (by simp (disch:=omega) only [Za,Zy,XX,List.set_cons_succ,List.set_cons_zero,go_sem,seval])⟩
    ·have hkn:k=sp.length+1:=by omega
     subst hkn;rw [Nat.sub_self,V4] at hit;rw [hit] at hbn ⊢;clear hit;refine cD ?_ ?_<;>intro h3<;>simp (disch:=omega) only [Sh.out h3,go_sem,seval]
     ·have hl0:l= []:=List.eq_nil_of_length_eq_zero (by omega);subst hl0;have hbn:=hbn rfl;refine VI (ZeP 3 rfl rfl ?_);simp (disch:=omega) only [go_sem,seval];refine ⟨_,_,ZbP (e:=4) rfl Tryz.underlying61 (by kernel_rfl) rfl rfl rfl ?_ ?_ ?_,?_⟩
      ·simp
      ·simp;omega
      ·intro q hq;obtain ⟨b,_,rfl⟩:=List.mem_map.1 hq
       rfl
      ·have hpl:(WI r.rests (sp.length+1)).length=sp.length+1:=by simp [WI];omega
       have hpad:r.rests.map eB++(PV.bool false::List.replicate r.visits.length (PV.bool false)).drop (r.rests.map eB).length=(WI r.rests (sp.length+1)).map eB:=by
        rw [WI,List.map_append,<- List.replicate_succ,List.drop_replicate,List.map_replicate,hsl,List.length_map];rfl
       have hcr:=ZuH x t r false sp hok hs1 hs (WI r.rests (sp.length+1)) false hpl;have hbad:=Zcc _ _ _ hbn;rw [hbad] at hcr;simp only [List.set_cons_succ,List.set_cons_zero];rw [hpad]
       generalize hRP:WI r.rests (sp.length+1)=rp at *
       refine Zn (Weak.fz (o:=5) (by rfl)) ?_;refine Zc [] _ _ _ _ ?_;simp (disch:=omega) only [List.map_cons,List.map_nil,List.set_cons_succ,List.set_cons_zero,go_sem,seval];rw [if_pos (by omega)];refine Xn hcr ?_;simp (disch:=omega) only [go_sem,seval];have hfm0:fmL Wt none ([]:List Lab)=none:=rfl;rw [hfm0];exact we (by simp (disch:=omega) only [Wm,zShe,List.map_nil,go_sem,seval])
     ·cases l with
      | nil=>simp at h3
      | cons l0 l =>
       have e0:elt ((l0::l).map JG) 0=JG l0:=rfl;have hn0:nth (l0::l) 0=l0:=rfl;simp (disch:=first | omega | (simp only [List.length_cons,List.length_nil,List.length_append,List.length_map,List.length_take,List.length_drop]<;>omega)) only [e0,hn0,List.take_length,go_sem,seval];have hfm:fmL Wt none (l0::l)=fmL Wt (some l0) l:=rfl;rw [hfm]
       have hlen:l.length<=2097152:=by
        have hp20:2^(sp.length+1)<=2^21:=Nat.pow_le_pow_right (by omega) (by omega);simp at hll;omega
       refine Zf [4,12,65,66] (fun q:Nat×Lab=> [(67,.p (.int .i64 q.1))]) (fun q=> [Za x,Zy r,.cells [.p (.bool false),.p (.int .i64 0),.p (.list true []),.p (.int .i64 0),.p (.int .i64 0)],XX x t r false sp,.dead,Yt q.2])
        (fun q=>q.1<=l.length/\fmL Wt (some l0) l=fmL Wt (some q.2) (l.drop q.1)) (fun q=>l.length-q.1) (0,l0) (by simp) (Weak.mk ?_) ?_
       ·simp (disch:=omega) only [Za,Zy,XX,Yt,List.set_cons_succ,List.set_cons_zero,hn0,go_sem,seval]
       ·rintro ⟨i,m⟩ ⟨hi,hm⟩;simp only at hi hm;simp (disch:=omega) only [Za,Zy,XX,Yt,List.take_length,go_sem,seval];refine cD ?_ ?_<;>intro h4<;>simp (disch:=omega) only [Sh.out h4,go_sem,seval]
        ·have hi2:i<l.length:=by omega
         have hdrop:l.drop i=nth l i::l.drop (i+1):=by rw [List.drop_eq_getElem_cons hi2,Ze hi2]
         rw [hdrop,fmL] at hm;refine cD ?_ ?_<;>intro h5<;>simp (disch:=omega) only [Sh.out h5,go_sem,seval]
         ·rw [if_pos (show Wt (nth l i)<Wt m from h5)] at hm;exact ⟨(i+1,nth l i),⟨by simp only;omega,hm⟩,by simp only;omega,Weak.mk (by simp (disch:=omega) only [Za,Zy,XX,Yt,go_sem,seval])⟩
         ·rw [if_neg (show ¬Wt (nth l i)<Wt m from h5)] at hm;exact ⟨(i+1,m),⟨by simp only;omega,hm⟩,by simp only;omega,Weak.mk (by simp (disch:=omega) only [Za,Zy,XX,Yt,go_sem,seval])⟩
        ·have hil:i=l.length:=by omega
         subst hil;rw [List.drop_length,fmL] at hm;rw [hm];exact we
 ·have e:VJ x r=(zShe,2):=by rw [VJ,if_neg (fun h=>hs ⟨h.1,h.2.1⟩)]
  rw [e];refine Xn (Zkv x r hty htl hvl hs) ?_;simp (disch:=omega) only [Zsg,go_sem,seval];exact we (by simp (disch:=omega) only [zShe,List.map_nil,go_sem,seval])
end Go.Proofs.YtbdmjphjnniogaaGreatDoor.K
set_option linter.unusedVariables false
set_option linter.unusedSimpArgs false
namespace Go.AM
open Go.RowKit
theorem ZgR (k v:Int) (l:List (Int×Int)): ∃l',ZtV (.int .i64 k) (.int .i64 v) (l.map eII)=l'.map eII/\(∀q,QO l' q=if q=k then v else QO l q)/\l'.length<=l.length+1:=by
 unfold ZtV;rw [UW]
 cases hm:mix l k with
 | none =>
  refine ⟨l++ [(k,v)],by simp [eII],fun q=> ?_,by simp⟩
  have e1:mix (l++ [(k,v)]) k=some l.length:=by
   unfold mix at hm ⊢;rw [List.findIdx?_append,hm];simp
  by_cases hq:q=k
  ·subst hq;simp [QO,e1]
  ·rw [if_neg hq];unfold QO
   have e3:mix (l++ [(k,v)]) q=mix l q:=by
    unfold mix;rw [List.findIdx?_append]
    cases hc:l.findIdx? (fun p=>decide (q=p.1))<;>simp [hq]
   rw [e3]
   cases hc:mix l q with
   | none=>rfl
   | some i =>
    unfold mix at hc;rw [List.findIdx?_eq_some_iff_getElem] at hc;obtain ⟨hi,_⟩:=hc;simp only;rw [List.getElem?_append_left hi]
 | some i =>
  refine ⟨l.set i (k,v),by rw [List.map_set];simp [eII],?_,by simp⟩;have hH:oat [.map (l.map eII)] 0= .map (l.map eII):=rfl;have:=Zdf (H:= [.map (l.map eII)]) (o:=0) (l:=l) (k:=k) (i:=i) (v:=v) (K:=fun _ _=> ∀q,QO (l.set i (k,v)) q=if q=k then v else QO l q) hH hm fun h=>h;unfold VD at this;obtain ⟨u,q1,_⟩:=Jw hm
  have e1:(l.map eII)[i]? =some (eII (k,u)):=by rw [List.getElem?_map,q1];rfl
  simp only [hH,Int.natCast_nonneg,if_true,Int.toNat_natCast,e1,mst] at this;exact this
theorem Zgx {P:Program} {H:List Obj} {t:TypeId} {o:Nat} {l:List (Int×Int)} {k v:Int} {K:V->List Obj->Prop} (hT:Zp2 P t=some (.int .i64,some (.int .i64 0))) (hH:oat H o= .map (l.map eII))
  (h: ∀l':List (Int×Int),(∀q,QO l' q=if q=k then v else QO l q)->K .junk (H.set o (.map (l'.map eII)))):mst (ZcY P H t (.mp o) (.p (.int .i64 k)) (.p (.int .i64 v))) K:=by
 obtain ⟨kt,et,h1,h2,h3⟩:=ZbQ hT;obtain ⟨l',e,hg,_⟩:=ZgR k v l;simp only [ZcY,h1,Kg h2 hH,Option.map_some,mst,e];exact h l' hg
end Go.AM
namespace Go.Proofs.YtbdmjphjnniogaaGreatDoor.K
open Go Go.AM Go.Proofs
set_option maxRecDepth 8000
set_option maxHeartbeats 8000000
def Zfj (l:List Vis) (k:Nat) (q:Int):Int:=((l.take k).countP fun v=>decide (v.order=q):Nat)
theorem Zeo {l:List Vis} {k:Nat} (h:k<l.length) (q:Int):Zfj l (k+1) q=if q=(nth l k).order then Zfj l k q+1 else Zfj l k q:=by
 unfold Zfj;rw [List.take_succ_eq_append_getElem h,List.countP_append,Ze h]
 by_cases c:l[k].order=q
 ·rw [if_pos c.symm];simp [c]
 ·rw [if_neg (fun e=>c e.symm)];simp [c]
theorem Zhb {l:List Vis} {k:Nat} (h:k<=l.length) (q:Int):0<=Zfj l k q/\Zfj l k q<=k:=by
 unfold Zfj;have:=List.countP_le_length (p:=fun v:Vis=>decide (v.order=q)) (l:=l.take k);rw [List.length_take] at this;omega
theorem ZcZ {l:List Vis} {k:Nat} :YW l k=decide (Zfj l k (nth l k).order=0):=by
 unfold YW Zfj;rw [Bool.eq_iff_iff];simp only [Bool.not_eq_true',decide_eq_true_eq];rw [List.any_eq_false]
 have:((List.countP (fun v=>decide (v.order=(nth l k).order)) (l.take k):Nat):Int)=0↔List.countP (fun v=>decide (v.order=(nth l k).order)) (l.take k)=0:=by omega
 rw [this,List.countP_eq_zero]
theorem VL (a b:Int):PC 169 [.p (.int .i64 a),.p (.int .i64 b)] (.bool (ZG a b)):=by
 refine Zb Tryz.func169 rfl Zqm ?_;simp (disch:=omega) only [Tryz.f169,go_sem,seval];refine gT ?_ ?_<;>intro h<;>simp (disch:=omega) only [Sh.out h,go_sem,seval]
 ·simp [ZG,h]
 ·simp only [Classical.not_not] at h;simp [ZG,h]
theorem ZhF (x:Inst) (r:Rte) (s:She) (hty:0<=r.typ/\r.typ<(x.types.length:Int)) (ho:x.orders.length<=1048576) (ht:x.types.length<=1048576) (hl:r.visits.length<=1048576) (hv:Inr x r.visits)
  (hc:0<=(Z6 x r).fixed/\(Z6 x r).fixed<=100000/\0<=(Z6 x r).perMile/\(Z6 x r).perMile<=100/\0<=(Z6 x r).perTick/\(Z6 x r).perTick<=100) (ho2:0<=(Z6 x r).opn/\(Z6 x r).opn<=4096)
  (hf: -4096<=s.fin/\s.fin<=8192) (hm:0<=s.miles/\s.miles<=1000000) :
  PC 114 [.p (ZC x),.p (YZ r),.p (Zf2 s)] (JX (Zjk x r s)):=by
 have hti:r.typ.toNat<x.types.length:=by omega
 have hT:Zp2 Tryz.prog 233=some (.int .i64,some (.int .i64 0)):=by kernel_rfl
 unfold Zjk;have htd:nth x.types r.typ.toNat=Z6 x r:=rfl
 generalize Z6 x r=t at *
 have e1: ¬r.typ<0:=by omega
 have e2: ¬(x.types.length:Int)<=r.typ:=by omega
 have p1:0<=t.perMile*s.miles/\t.perMile*s.miles<=100*1000000:=⟨Int.mul_nonneg (by omega) (by omega),Int.mul_le_mul (by omega) (by omega) (by omega) (by omega)⟩
 have hW: -8192<=s.fin-t.opn/\s.fin-t.opn<=8192:=by omega
 have p2: -819200<=t.perTick*(s.fin-t.opn)/\t.perTick*(s.fin-t.opn)<=819200:=by
  generalize s.fin-t.opn=w at hW;have a1:=Int.mul_le_mul_of_nonneg_left hW.2 (show 0<=t.perTick by omega);have a2:=Int.mul_le_mul_of_nonneg_left hW.1 (show 0<=t.perTick by omega);omega
 have p3: -128<=(s.fin-t.opn).tdiv 64/\(s.fin-t.opn).tdiv 64<=128:=by
  generalize s.fin-t.opn=w at hW;rcases Int.le_total 0 w with h | h
  ·rw [Int.tdiv_eq_ediv_of_nonneg h];omega
  ·have:w.tdiv 64= -((-w) / 64):=by rw [<- Int.tdiv_eq_ediv_of_nonneg (by omega),Int.neg_tdiv,Int.neg_neg]
   rw [this];omega
 have p4:0<=(s.fin-t.opn).tdiv 64*(s.fin-t.opn).tdiv 64/\(s.fin-t.opn).tdiv 64*(s.fin-t.opn).tdiv 64<=16384:=by
  generalize (s.fin-t.opn).tdiv 64=q at p3;refine ⟨?_,?_⟩
  ·rcases Int.le_total 0 q with h | h
   ·exact Int.mul_nonneg h h
   ·exact Int.mul_nonneg_of_nonpos_of_nonpos h h
  ·rcases Int.le_total 0 q with h | h
   ·have:=Int.mul_le_mul p3.2 p3.2 h (by omega);omega
   ·have h2:0<= -q:=by omega
    have:=Int.mul_le_mul (show-q<=128 by omega) (show-q<=128 by omega) h2 (by omega);rw [Int.neg_mul_neg] at this;omega
 refine Zb Tryz.func114 rfl Zpk ?_;simp (disch:=omega) only [Tryz.f114,e1,e2,htd,go_sem,seval]
 refine Zf [3,4,6,10,11,59,60] (fun q:Nat×List (Int×Int)=> [(61,.p (.int .i64 q.1))]) (fun q=> [Za x,Zy r,.cells [.p (.bool s.rest),.p (.int .i64 s.dep),.p (.list s.times_c (s.times.map eTim)),.p (.int .i64 s.fin),.p (.int .i64 s.miles)],XU 0 0 0 0,Xl t,XU (t.fixed+t.perMile*s.miles+t.perTick*(s.fin-t.opn)) (chgF x r.visits r.typ q.1).1 (chgF x r.visits r.typ q.1).2 ((s.fin-t.opn).tdiv 64*(s.fin-t.opn).tdiv 64),.map (q.2.map eII)])
  (fun q=>q.1<=r.visits.length/\ ∀n,QO q.2 n=Zfj r.visits q.1 n) (fun q=>r.visits.length-q.1) (0,[]) ⟨by simp,fun n=>rfl⟩ (Weak.mk ?_) ?_
 ·simp (disch:=omega) only [Za,Zy,Xl,XU,chgF,go_sem,seval]
 ·rintro ⟨k,m⟩ ⟨hk,hmg⟩;simp only at hk hmg;have hch:=Uo (x:=x) (l:=r.visits) (t:=r.typ) k;simp (disch:=omega) only [Za,Zy,Xl,XU,go_sem,seval];refine cD ?_ ?_<;>intro h1<;>simp (disch:=omega) only [Sh.out h1,go_sem,seval]
  ·have hk2:k<r.visits.length:=by omega
   obtain ⟨v1,v2⟩:=hv _ (Zl hk2)
   have e3: ¬(nth r.visits k).order<0:=by omega
   have e4: ¬(x.orders.length:Int)<=(nth r.visits k).order:=by omega
   have v3:(nth r.visits k).order.toNat<x.orders.length:=by omega
   have hcs:=Zeo hk2;have hcr:=Zhb hk (nth r.visits k).order;have hfi:=ZcZ (l:=r.visits) (k:=k);have hch2:chgF x r.visits r.typ (k+1)=_:=chgF.eq_2 x r.visits r.typ k;refine Zbe hT rfl ?_;rw [hmg];simp (disch:=omega) only [go_sem,seval];refine Zgx hT rfl fun m' hm'=> ?_
   have hmg': ∀n,QO m' n=Zfj r.visits (k+1) n:=fun n=>by rw [hm',hcs,hmg];split<;>simp_all
   simp (disch:=omega) only [e3,e4,List.set_cons_succ,List.set_cons_zero,go_sem,seval];refine Zbe hT rfl ?_;rw [hm',if_pos rfl];simp (disch:=omega) only [go_sem,seval];refine cD ?_ ?_<;>intro h2<;>simp (disch:=omega) only [Sh.out h2,go_sem,seval]
   ·have h3: ¬YW r.visits k=true:=by rw [hfi];simp;omega
    rw [if_neg h3] at hch2;exact ⟨(k+1,m'),⟨by simp only;omega,hmg'⟩,by simp only;omega,Weak.mk (by simp (disch:=omega) only [Za,Zy,Xl,XU,hch2,go_sem,seval])⟩
   ·have h3:YW r.visits k=true:=by rw [hfi];simp;omega
    rw [if_pos h3] at hch2;refine (VL (nth x.orders (nth r.visits k).order.toNat).now r.typ).use ?_;simp (disch:=omega) only [go_sem,seval];refine cD ?_ ?_<;>intro h4<;>simp (disch:=omega) only [Sh.out h4,go_sem,seval]
    ·rw [if_pos h4] at hch2;refine (VL (nth x.orders (nth r.visits k).order.toNat).last r.typ).use ?_;simp (disch:=omega) only [go_sem,seval];refine cD ?_ ?_<;>intro h5<;>simp (disch:=omega) only [Sh.out h5,go_sem,seval]
     ·rw [if_pos h5] at hch2;exact ⟨(k+1,m'),⟨by simp only;omega,hmg'⟩,by simp only;omega,Weak.mk (by simp (disch:=omega) only [Za,Zy,Xl,XU,hch2,go_sem,seval])⟩
     ·rw [if_neg (by rw [h5];simp)] at hch2;exact ⟨(k+1,m'),⟨by simp only;omega,hmg'⟩,by simp only;omega,Weak.mk (by simp (disch:=omega) only [Za,Zy,Xl,XU,hch2,Int.add_zero,go_sem,seval])⟩
    ·rw [if_neg (by rw [h4];simp)] at hch2;refine (VL (nth x.orders (nth r.visits k).order.toNat).last r.typ).use ?_;simp (disch:=omega) only [go_sem,seval];refine cD ?_ ?_<;>intro h5<;>simp (disch:=omega) only [Sh.out h5,go_sem,seval]
     ·rw [if_pos h5] at hch2;exact ⟨(k+1,m'),⟨by simp only;omega,hmg'⟩,by simp only;omega,Weak.mk (by simp (disch:=omega) only [Za,Zy,Xl,XU,hch2,Int.add_zero,go_sem,seval])⟩
     ·rw [if_neg (by rw [h5];simp)] at hch2;exact ⟨(k+1,m'),⟨by simp only;omega,hmg'⟩,by simp only;omega,Weak.mk (by simp (disch:=omega) only [Za,Zy,Xl,XU,hch2,Int.add_zero,go_sem,seval])⟩
  ·have hkl:k=r.visits.length:=by omega
   subst hkl
   rfl
end Go.Proofs.YtbdmjphjnniogaaGreatDoor.K
set_option linter.unusedVariables false
set_option linter.unusedSimpArgs false
namespace Go.Proofs.YtbdmjphjnniogaaGreatDoor.K
open Go Go.AM Go.Proofs
set_option maxRecDepth 8000
set_option maxHeartbeats 8000000
@[go_sem] theorem ZqF {f:FuncId} :(PV.fn f).cells= [.fn f]:=Eq.trans rfl rfl
def Zln : AM.Obj:= .cells [.p (.bool false),.p (.int .i64 0),.p (.list true []),.p (.int .i64 0),.p (.int .i64 0)]
theorem QM (x:Inst) (r:Rte) (hx:InstOk x) (hl:r.visits.length<=1048576) (hrl:r.rests.length<=1048576):ACalls Tryz.prog 70 [.p (ZC x),.p (YZ r)] [] fun y H'=>y=Qq x r/\H'= []:=by
 have hld:=Y9 hx;have htl:=hld.typ;have hol:=hld.ord;have chk:=ZiO x r hx hl
 have htb:x.types.length<=6:=by have:=hx.types.1;simp only [rng,decide_eq_true_eq] at this;omega
 refine Zd [] Tryz.func70 rfl ZwA ?_;simp (disch:=omega) only [Tryz.f70,go_sem,seval];refine gF ?_ ?_<;>intro h1<;>simp (disch:=omega) only [Sh.out h1,go_sem,seval]
 ·have e:XH x r=2:=by rw [XH,if_pos (by omega)]
  rw [Xg (e:=2) (by rw [Z2,e];rfl) (by omega)];exact we (by simp (disch:=omega) only [zShe,zSco,List.map_nil,go_sem,seval])
 ·refine cD ?_ ?_<;>intro h2<;>simp (disch:=omega) only [Sh.out h2,go_sem,seval]
  ·have e:XH x r=2:=by rw [XH,if_pos (by omega)]
   rw [Xg (e:=2) (by rw [Z2,e];rfl) (by omega)];exact we (by simp (disch:=omega) only [zShe,zSco,List.map_nil,go_sem,seval])
  ·have hty:0<=r.typ/\r.typ<(x.types.length:Int):=by omega
   have hti:r.typ.toNat<x.types.length:=by omega
   have hnum:=Ul hx hti;have htyp:nth x.types r.typ.toNat=Z6 x r:=rfl;rw [htyp] at hnum
   have hsk: ∀o∈x.orders,o.skills<9223372036854775808:=fun o hm=>by
    obtain ⟨i,hi,rfl⟩:=List.mem_iff_getElem.1 hm;have:=(hx.orders.2 i hi).skills;rw [Ze hi] at this;omega
   refine Zf [2,3,4,5,25,26] (fun k:Nat=> [(27,.p (.int .i64 k))]) (fun _=> [Za x,Zy r,Zln,XU 0 0 0 0,.elems 1 [.fn 110,.fn 111,.fn 112]])
    (fun k=>k<=3/\(0<k->ZW x r.visits=0)/\(1<k-> ¬(r.visits.any fun v=> !Ya (Z6 x r) (nth x.orders v.order.toNat).skills)=true)/\(2<k->Vk x (Z6 x r).cap r.visits=true)) (fun k=>3-k) 0 ⟨by omega,by omega,by omega,by omega⟩ (Weak.mk ?_) ?_
   ·simp (disch:=omega) only [Za,Zy,XU,Zln,go_sem,seval]
   ·rintro k ⟨hk,k1,k2,k3⟩;simp (disch:=omega) only [Za,Zy,XU,Zln,go_sem,seval];refine cD ?_ ?_<;>intro h3<;>simp (disch:=omega) only [Sh.out h3,go_sem,seval]
    ·by_cases hk0:k=0
     ·subst hk0;have he:elt [PV.fn 110,PV.fn 111,PV.fn 112] 0=PV.fn 110:=rfl;simp (disch:=first | omega | (simp only [List.length_cons,List.length_nil,List.length_append,List.length_map,List.length_take,List.length_drop]<;>omega)) only [he,go_sem,seval];refine (chk).use ?_;simp (disch:=omega) only [go_sem,seval];refine cD ?_ ?_<;>intro h4<;>simp (disch:=omega) only [Sh.out h4,go_sem,seval]
      ·have e:XH x r=ZW x r.visits:=by rw [XH,if_neg (fun h=>h hty),if_pos h4]
       rw [Xg (e:=ZW x r.visits) (by rw [Z2,e,if_neg h4]) h4];exact we (by simp (disch:=omega) only [zShe,zSco,List.map_nil,go_sem,seval])
      ·exact ⟨1,⟨by omega,fun _=>by omega,by omega,by omega⟩,by omega,Weak.mk (by simp (disch:=omega) only [Za,Zy,XU,Zln,go_sem,seval])⟩
     ·have h0:=k1 (by omega);have hsq:=YN h0
      have hr0:XH x r=if (r.visits.any fun v=> !Ya (Z6 x r) (nth x.orders v.order.toNat).skills)=true then 18 else if Vk x (Z6 x r).cap r.visits=false then 17 else if ¬(0<=r.start/\r.start<=4096/\r.rests.length<=r.visits.length+1) then 2 else 0:=by
       rw [XH,if_neg (fun h=>h hty),if_neg (by omega)]
      by_cases hk1:k=1
      ·subst hk1;have he:elt [PV.fn 110,PV.fn 111,PV.fn 112] 1=PV.fn 111:=rfl;simp (disch:=first | omega | (simp only [List.length_cons,List.length_nil,List.length_append,List.length_map,List.length_take,List.length_drop]<;>omega)) only [he,go_sem,seval];refine (ZhO x r hty (fun v hv=>by have:=hsq.inr v hv;simp [inB,this.1,this.2]) hl htl (by omega) (by omega) hsk).use ?_;simp (disch:=omega) only [go_sem,seval]
       by_cases h5:(r.visits.any fun v=> !Ya (Z6 x r) (nth x.orders v.order.toNat).skills)=true
       ·rw [if_pos h5] at hr0 ⊢;rw [Xg (e:=18) (by rw [Z2,hr0];rfl) (by omega)];simp (disch:=omega) only [go_sem,seval];exact we (by simp (disch:=omega) only [zShe,zSco,List.map_nil,go_sem,seval])
       ·rw [if_neg h5];simp (disch:=omega) only [go_sem,seval];exact ⟨2,⟨by omega,fun _=>h0,fun _=>h5,by omega⟩,by omega,Weak.mk (by simp (disch:=omega) only [Za,Zy,XU,Zln,go_sem,seval])⟩
      ·have hk2:k=2:=by omega
       subst hk2;have he:elt [PV.fn 110,PV.fn 111,PV.fn 112] 2=PV.fn 112:=rfl;simp (disch:=first | omega | (simp only [List.length_cons,List.length_nil,List.length_append,List.length_map,List.length_take,List.length_drop]<;>omega)) only [he,go_sem,seval];refine (Zhd x r hx hl hty h0).use ?_;simp (disch:=omega) only [go_sem,seval];rw [if_neg (k2 (by omega))] at hr0
       cases h5:Vk x (Z6 x r).cap r.visits with
       | false =>
        rw [if_pos h5] at hr0;rw [Xg (e:=17) (by rw [Z2,hr0];rfl) (by omega)];simp only [Bool.false_eq_true,if_false];simp (disch:=omega) only [go_sem,seval];exact we (by simp (disch:=omega) only [zShe,zSco,List.map_nil,go_sem,seval])
       | true =>
        simp only [if_true];simp (disch:=omega) only [go_sem,seval];exact ⟨3,⟨by omega,fun _=>h0,fun _=>k2 (by omega),fun _=>by first | exact h5 | trivial⟩,by omega,Weak.mk (by simp (disch:=omega) only [Za,Zy,XU,Zln,go_sem,seval])⟩
    ·have hk3:k=3:=by omega
     subst hk3;have h0:=k1 (by omega);have hsq:=YN h0
     have hr0:XH x r=if ¬(0<=r.start/\r.start<=4096/\r.rests.length<=r.visits.length+1) then 2 else 0:=by
      rw [XH,if_neg (fun h=>h hty),if_neg (by omega),if_neg (k2 (by omega)),if_neg (by rw [k3 (by omega)];simp)]
     have cb:=ZjL x r hx hl hrl hty h0;have hok:=UC hx hty hsq
     have hbr:VJ x r=Xi x r->(Xi x r).2=0->(0<=r.start/\r.start<=4096/\r.rests.length<=r.visits.length+1)->(0<=(Xi x r).1.fin/\(Xi x r).1.fin<=8192)/\(0<=(Xi x r).1.miles/\(Xi x r).1.miles<=210000):=fun _ hz hs =>
      Jm hok ⟨hs.1,hs.2.1⟩ (by rw [Xh];exact hs.2.2) hz
     by_cases h6:0<=r.start/\r.start<=4096/\r.rests.length<=r.visits.length+1
     ·have e:XH x r=0:=by rw [hr0,if_neg (fun h=>h h6)]
      have ee:Z2 x r=(Xi x r).2:=by rw [Z2,if_pos e]
      have eb:VJ x r=Xi x r:=by rw [VJ,if_pos h6]
      have hbr:=fun hz=>hbr eb hz h6;rw [eb] at cb
      have es:WO x r=if (Xi x r).2=0 then (Xi x r).1 else zShe:=by rw [WO,ee]
      have ep:VF x r=if (Xi x r).2=0 then Zjk x r (Xi x r).1 else zSco:=by rw [VF,ee]
      unfold Qq;rw [ee,es,ep];clear ee es ep eb
      generalize Xi x r=q at *
      obtain ⟨sh,eb⟩:=q;simp only at cb hbr ⊢;refine Xn cb ?_;simp (disch:=omega) only [go_sem,seval];refine cD ?_ ?_<;>intro h7<;>simp (disch:=omega) only [Sh.out h7,go_sem,seval]
      ·exact we (by simp (disch:=omega) only [zShe,zSco,List.map_nil,go_sem,seval])
      ·have h7':eb=0:=by omega
       try rw [if_pos h7',if_pos h7']
       subst h7';obtain ⟨g1,g2⟩:=hbr rfl;refine Zx 5 Zm (by kernel_rfl) (by kernel_rfl) ?_;simp (disch:=omega) only [go_sem,seval];refine Zs (ZhF x r sh hty (by omega) htl hl hsq.inr hnum.2.2.2.1 (by omega) (by omega) (by omega)) ?_;simp (disch:=omega) only [go_sem,seval];exact we
     ·have e:XH x r=2:=by rw [hr0,if_pos h6]
      have eb:VJ x r=(zShe,2):=by rw [VJ,if_neg h6]
      rw [Xg (e:=2) (by rw [Z2,e];rfl) (by omega)];rw [eb] at cb;refine Xn cb ?_;simp (disch:=omega) only [go_sem,seval];exact we (by simp (disch:=omega) only [zShe,zSco,List.map_nil,go_sem,seval])
theorem Zh0 (x:Inst) (r:Rte) (hx:InstOk x) (hl:r.visits.length<=1048576) (hrl:r.rests.length<=1048576):PC 51 [.p (ZC x),.p (YZ r)] (.int .i64 (Z2 x r)):=by
 have ce:=QM x r hx hl hrl;refine Zb Tryz.func51 rfl Zut ?_;simp (disch:=omega) only [Tryz.f51,go_sem,seval];unfold Qq at ce;refine Zcz ce ?_;simp (disch:=omega) only [go_sem,seval]
theorem Vf {x:Inst} {r:Rte} (h:Z2 x r=0):XH x r=0:=by
 unfold Z2 at h
 split at h
 ·assumption
 ·rename_i c;exact absurd h c
theorem Vd {x:Inst} {r:Rte} (h:XH x r=0):(0<=r.typ/\r.typ<(x.types.length:Int))/\ZW x r.visits=0/\(0<=r.start/\r.start<=4096/\r.rests.length<=r.visits.length+1):=by
 unfold XH at h
 split at h
 ·simp at h
 ·rename_i c1
  split at h
  ·rename_i c2;exact absurd h c2
  ·rename_i c2
   split at h
   ·simp at h
   ·split at h
    ·simp at h
    ·split at h
     ·simp at h
     ·rename_i c5;exact ⟨by omega,by omega,Classical.not_not.1 c5⟩
theorem Zh5 {x:Inst} {r:Rte} (hx:InstOk x) (h:Z2 x r=0):(0<=(WO x r).fin/\(WO x r).fin<=8192)/\(0<=(WO x r).miles/\(WO x r).miles<=210000):=by
 obtain ⟨hty,h0,hs⟩:=Vd (Vf h)
 have e:WO x r=(Xi x r).1:=by rw [WO,if_pos h]
 have ee:(Xi x r).2=0:=by rw [Z2,if_pos (Vf h)] at h;exact h
 rw [e];exact Jm (UC hx hty (YN h0)) ⟨hs.1,hs.2.1⟩ (by rw [Xh];exact hs.2.2) ee
end Go.Proofs.YtbdmjphjnniogaaGreatDoor.K
