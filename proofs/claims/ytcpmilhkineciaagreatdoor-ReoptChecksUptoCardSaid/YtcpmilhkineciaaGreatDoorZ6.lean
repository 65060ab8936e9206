/- Declarations that the closing texts need, part 6: joined by tools/slim.py. -/
import Derived.Test.YtcpmilhkineciaaGreatDoorZ5
import Derived.JoinedCond
import Derived.OpenShut
import Derived.ProofKit
set_option linter.unusedVariables false
set_option linter.unusedSimpArgs false
namespace Go.AM
open Go.RowKit
mutual
/-- the size of a datum -/
def dsz {H:Type} :DataW H->Nat
 | .lit (.string bytes)=>bytes.length+1
 | .lit _=>1
 | .nil=>1
 | .ptr d=>dsz d+1
 | .slice elems spare=>Ku elems+Ku spare+1
 | .agg parts=>Ku parts+1
 | .iface _ d=>dsz d+1
 | .map _=>1
 | .held _=>1
def Ku {H:Type} :List (DataW H)->Nat
 | []=>0
 | d::r=>dsz d+Ku r
end
theorem ZiY {H:Type} (d:DataW H):1<=dsz d:=by
 cases d with
 | lit l=>cases l<;>simp [dsz]
 | _=>simp [dsz]
theorem Zbz {H:Type} {d:DataW H} {l:List (DataW H)} (h:d∈l):dsz d<=Ku l:=by
 induction l with
 | nil=>cases h
 | cons x r ih =>
  simp only [Ku];rcases List.mem_cons.1 h with e | e
  ·subst e;omega
  ·have:=ih e;omega
theorem Zgs {H:Type} (l:List (DataW H)):l.length<=Ku l:=by
 induction l with
 | nil=>simp [Ku]
 | cons x r ih=>have:=ZiY x;simp only [Ku,List.length_cons];omega
def pcs (P:Program) (t:TypeId):Option (List (Nat×TypeId)):=match P.underlying t with
 | some (.struct fs)=>some (fs.toList.map fun f=>(f.offset,f.type))
 | some (.array n e)=>some ((List.range n).map fun i=>(i*P.cellsOf e,e))
 | _=>none
def laid (P:Program):List (Nat×TypeId)->Nat->Nat->Bool
 | [],o,tot=>o==tot
 | q::r,o,tot=>q.1==o&&laid P r (o+P.cellsOf q.2) tot
def plain (P:Program):Nat->TypeId->Bool
 | 0,_=>false
 | k+1,t=>match pcs P t with
  | some l=>laid P l 0 (P.cellsOf t)&&l.all fun q=>plain P k q.2
  | none=>match P.underlying t with
   | some .bool=>true
   | some (.int _)=>true
   | some .string=>true
   | some (.slice e)=>decide (0<P.cellsOf e)&&plain P k e
   | _=>false
def UV (P:Program) (e:TypeId) (cs:List PV):PV:=if XO P e=some true then .agg cs else cs.headD .nilp
def YE (P:Program) (B:Nat):Nat->TypeId->List PV->Prop
 | 0,_,_=>False
 | k+1,t,cs=>match pcs P t with
  | some l=>cs.length=P.cellsOf t/\ ∀q∈l,YE P B k q.2 ((cs.drop q.1).take (P.cellsOf q.2))
  | none=>match P.underlying t with
   | some .bool=> ∃b,cs= [.bool b]
   | some (.int ik)=> ∃n,cs= [.int ik n]/\(Lit.int ik n).wf=true
   | some .string=> ∃s:List UInt8,cs= [.str s]/\s.length<=B/\s.length<=maxLen
   | some (.slice e)=> ∃xs:List (List PV),cs= [.list false (xs.map (UV P e))]/\xs.length<=B/\xs.length<=maxLen/\ ∀x∈xs,YE P B k e x
   | _=>False
theorem XC {P t l} (h:pcs P t=some l):XO P t=some true:=by
 unfold pcs at h;unfold XO
 split at h
 ·rename_i hu;simp [hu]
 ·rename_i hu;simp [hu]
 ·cases h
theorem Zca {P B k e cs} (h:YE P B k e cs):(UV P e cs).cells=cs:=by
 cases k with
 | zero=>exact h.elim
 | succ k =>
  unfold UV;simp only [YE] at h
  split at h
  ·rename_i l hl;simp [XC hl,PV.cells]
  ·split at h
   ·rename_i hu;obtain ⟨b,rfl⟩:=h;simp [XO,hu,PV.cells]
   ·rename_i ik hu;obtain ⟨n,rfl,_⟩:=h;simp [XO,hu,PV.cells]
   ·rename_i hu;obtain ⟨s,rfl,_⟩:=h;simp [XO,hu,PV.cells]
   ·rename_i hu;obtain ⟨xs,rfl,_⟩:=h;simp [XO,hu,PV.cells]
   ·exact h.elim
theorem U5 {α:Type} {R:Nat->α->Prop} : ∀(n:Nat),(∀i,i<n-> ∃x,R i x)-> ∃l:List α,l.length=n/\ ∀(i:Nat) (x:α),l[i]? =some x->R i x
 | 0,_=>⟨[],rfl,fun i x h=>by simp at h⟩
 | n+1,h=>by
  obtain ⟨l,h1,h2⟩:=U5 n fun i hi=>h i (by omega);obtain ⟨x,hx⟩:=h n (by omega);refine ⟨l++ [x],by simp [h1],fun i y hi=> ?_⟩
  by_cases hl:i<l.length
  ·rw [List.getElem?_append_left hl] at hi;exact h2 i y hi
  ·rw [List.getElem?_append_right (by omega)] at hi;have hil:=(List.getElem?_eq_some_iff.1 hi).1;simp at hil
   have:i=n:=by omega
   subst this;rw [h1] at hi;simp at hi;subst hi;exact hx
theorem KG {α β:Type} {f:α->Option β} : ∀ {l:List α} {r:List β},l.mapM f=some r->r.length=l.length
 | [],r,h=>by simp at h;subst h;rfl
 | x::l,r,h=>by
  simp only [List.mapM_cons,Option.bind_eq_bind,Option.bind_eq_some_iff,Option.pure_def,Option.some.injEq] at h;obtain ⟨y,_,ys,h2,rfl⟩:=h;simp [KG h2]
theorem Kw {α β:Type} {f:α->Option β} : ∀ {l:List α} {r:List β},l.mapM f=some r-> ∀(i:Nat) (x:α),l[i]? =some x-> ∃y,f x=some y/\r[i]? =some y
 | [],r,h,i,x,hx=>by simp at hx
 | a::l,r,h,i,x,hx=>by
  simp only [List.mapM_cons,Option.bind_eq_bind,Option.bind_eq_some_iff,Option.pure_def,Option.some.injEq] at h;obtain ⟨y,h1,ys,h2,rfl⟩:=h
  cases i with
  | zero=>simp at hx;subst hx;exact ⟨y,h1,by simp⟩
  | succ i=>obtain ⟨z,k1,k2⟩:=Kw h2 i x (by simpa using hx);exact ⟨z,k1,by simpa using k2⟩
theorem K0 {β:Type} {f:Nat->Option β} {n:Nat} {r:List β} (h:(List.range n).mapM f=some r):r.length=n/\ ∀i,i<n-> ∃y,f i=some y/\r[i]? =some y :=
 ⟨by simpa using KG h,fun i hi=>Kw h i i (by simp [hi])⟩
theorem Qr {w:World} {a:Addr} {n:Nat} {cs:List Value} (h:w.cells? 0 a n=some cs):cs.length=n/\ ∀j,j<n-> ∃y,w.cell? (a.add j)=some y/\cs[j]? =some y:=by
 simp only [World.cells?,Nat.zero_le,if_true] at h;exact K0 h
theorem Kn {w:World} {a:Addr} {v:Value} (h:w.cell? a=some v):a.spot=none/\a.block<w.heap.size:=by
 unfold World.cell? at h
 split at h
 ·rename_i c t fr hb
  split at h
  ·cases h
  ·rename_i hs;exact ⟨by cases hq:a.spot<;>simp_all,(Array.getElem?_eq_some_iff.1 hb).1⟩
 ·cases h
theorem Zd9 (a:Addr):a.add 0=a:=by simp [Addr.add]
theorem Za1 (b off n:Nat):(Addr.mk b off none).add n=⟨b,off+n,none⟩:=by
 unfold Addr.add
 split
 ·rename_i h;subst h;rfl
 ·rfl
theorem U2 {cs:List Value} {o n j:Nat} (h:j<n):((cs.drop o).take n).getD j undef=cs.getD (o+j) undef:=by
 simp [List.getD_eq_getElem?_getD,List.getElem?_take,List.getElem?_drop,h]
theorem Zej {P:Program} {tot:Nat} : ∀ {l:List (Nat×TypeId)} {o:Nat},laid P l o tot=true->o<=tot
 | [],o,h=>by simp [laid] at h;omega
 | q::r,o,h=>by simp [laid] at h;have:=Zej h.2;omega
theorem ZbC {P:Program} {w:World} {B k tot:Nat} {X:Nat->Prop} {cs:List Value} (hc:cs.length=tot): ∀(l:List (Nat×TypeId)) (o:Nat),laid P l o tot=true ->
  (∀q∈l,∃x:List PV,x.length=((cs.drop q.1).take (P.cellsOf q.2)).length/\YE P B k q.2 x/\ ∀(j:Nat) (c:PV),x[j]? =some c->c.one=true/\RP X w c (((cs.drop q.1).take (P.cellsOf q.2)).getD j undef)) ->
  ∃xs:List PV,xs.length=tot-o/\(∀q∈l,o<=q.1/\YE P B k q.2 ((xs.drop (q.1-o)).take (P.cellsOf q.2)))/\ ∀(j:Nat) (c:PV),xs[j]? =some c->c.one=true/\RP X w c (cs.getD (o+j) undef)
 | [],o,h,_=>by
  simp [laid] at h;exact ⟨[],by simp;omega,by simp,by simp⟩
 | q::r,o,h,hq=>by
  simp only [laid,Bool.and_eq_true,beq_iff_eq] at h;obtain ⟨rfl,h⟩:=h;have hle:=Zej h;obtain ⟨xs,h1,h2,h3⟩:=ZbC hc r _ h fun p hp=>hq p (by simp [hp]);obtain ⟨x,k1,k2,k3⟩:=hq q (by simp)
  have hxl:x.length=P.cellsOf q.2:=by rw [k1];simp;omega
  refine ⟨x++xs,by simp;omega,fun p hp=> ?_,fun j c hj=> ?_⟩
  ·rcases List.mem_cons.1 hp with rfl | hp
   ·refine ⟨Nat.le_refl _,?_⟩;rw [Nat.sub_self,List.drop_zero,<- hxl,List.take_left']
    ·exact k2
    ·rfl
   ·obtain ⟨e1,e2⟩:=h2 p hp;refine ⟨by omega,?_⟩;rw [show p.1-q.1=x.length+(p.1-(q.1+P.cellsOf q.2)) by omega,List.drop_append,List.drop_eq_nil_of_le (by omega),List.nil_append,Nat.add_sub_cancel_left];exact e2
  ·by_cases hl:j<x.length
   ·rw [List.getElem?_append_left hl] at hj;have:=k3 j c hj;rwa [U2 (by omega)] at this
   ·rw [List.getElem?_append_right (by omega)] at hj;have:=h3 _ c hj;rwa [show q.1+P.cellsOf q.2+(j-x.length)=q.1+j by omega] at this
theorem Kz {H:Type} {enc:TypeId×Value->H} {P:Program} {w:World} {held:Bool} {B:Nat} {X:Nat->Prop} (hX: ∀b,¬X b): ∀(k m:Nat) (t:TypeId) (cs:List Value) (z:DataW H×List MemPlace),
  DataW.trod enc P w 0 (fun _=>true) held k t cs=some z->plain P m t=true->(maxLen<=B\/dsz z.1<=B) ->
  ∃xs:List PV,xs.length=cs.length/\YE P B k t xs/\ ∀(j:Nat) (c:PV),xs[j]? =some c->c.one=true/\RP X w c (cs.getD j undef)
 | 0,m,t,cs,z,h,_,_=>by simp [DataW.trod] at h
 | k+1,0,t,cs,z,h,hp,_=>by simp [plain] at hp
 | k+1,m+1,t,cs,z,h,hp,hB=>by
  have IH:=fun m' t' cs' z'=>Kz (enc:=enc) (P:=P) (w:=w) (held:=held) (B:=B) (X:=X) hX k m' t' cs' z'
  have one1: ∀(x:PV) (v:Value),x.one=true->RP X w x v-> ∀(j:Nat) (c:PV),[x][j]? =some c->c.one=true/\RP X w c ([v].getD j undef):=fun x v h1 h2 j c hj=>by
   cases j with
   | zero=>simp at hj;subst hj;exact ⟨h1,h2⟩
   | succ j=>simp at hj
  simp only [plain] at hp
  split at hp
  ·rename_i l hl;simp only [Bool.and_eq_true,List.all_eq_true] at hp;obtain ⟨hlaid,hp⟩:=hp
   have key: ∃(zs:List (DataW H×List MemPlace)),z.1= .agg (zs.map (·.1))/\cs.length=P.cellsOf t/\ ∀q∈l,∃y∈zs,DataW.trod enc P w 0 (fun _=>true) held k q.2 ((cs.drop q.1).take (P.cellsOf q.2))=some y:=by
    unfold pcs at hl
    split at hl
    ·rename_i fs hu;simp at hl;subst hl;obtain ⟨zs,n,e1,e2,e3,e4,e5⟩:=DataW.trod_struct hu h
     have:n=k:=by omega
     subst this;refine ⟨zs,by rw [e2],e3,fun q hq=> ?_⟩;obtain ⟨f,hf,rfl⟩:=List.mem_map.1 hq;obtain ⟨i,hi⟩:=List.mem_iff_getElem?.1 hf
     have hi':fs[i]? =some f:=by simpa using hi
     have hlt:i<zs.length:=by rw [e4];exact (Array.getElem?_eq_some_iff.1 hi').1
     refine ⟨zs[i],by simp,?_⟩;rw [e5 i f hi'];simp [hlt]
    ·rename_i n e hu;simp at hl;subst hl;obtain ⟨zs,m',e1,e2,e3,e4,e5⟩:=DataW.trod_array hu h
     have:m'=k:=by omega
     subst this;refine ⟨zs,by rw [e2],e3,fun q hq=> ?_⟩;obtain ⟨i,hi,rfl⟩:=List.mem_map.1 hq;simp at hi;refine ⟨zs[i],by simp,?_⟩;rw [e5 i hi];simp [e4,hi]
    ·cases hl
   obtain ⟨zs,hz,hcl,hk⟩:=key
   obtain ⟨xs,h1,h2,h3⟩:=ZbC (P:=P) (w:=w) (B:=B) (k:=k) (X:=X) hcl l 0 hlaid fun q hq=>by
    obtain ⟨y,hy,ht⟩:=hk q hq;refine IH m q.2 _ y ht (hp q hq) ?_;rcases hB with hB | hB
    ·exact .inl hB
    ·refine .inr ?_;rw [hz] at hB;have:=Zbz (List.mem_map.2 ⟨y,hy,rfl⟩:y.1∈zs.map (·.1));simp only [dsz] at hB;omega
   refine ⟨xs,by omega,?_,fun j c hj=>by simpa using h3 j c hj⟩;simp only [YE,hl];exact ⟨by omega,fun q hq=>by simpa using (h2 q hq).2⟩
  ·rename_i hl
   split at hp
   ·rename_i hu;obtain ⟨b,rfl,_⟩:=DataW.trod_bool hu h;exact ⟨[.bool b],rfl,by simp [YE,hl,hu],one1 _ _ rfl (.bool b)⟩
   ·rename_i ik hu;obtain ⟨n,rfl,_,hw⟩:=DataW.trod_int hu h;exact ⟨[.int _ n],rfl,by simp [YE,hl,hu,hw],one1 _ _ rfl (.int _ n)⟩
   ·rename_i hu;obtain ⟨s,rfl,hz,hs⟩:=DataW.trod_string hu h;have hsl:s.data.toList.length=s.size:=Array.length_toList;refine ⟨[.str s.data.toList],rfl,?_,one1 _ _ rfl ?_⟩
    ·simp only [YE,hl,hu];refine ⟨_,rfl,?_,by omega⟩;rcases hB with hB | hB
     ·omega
     ·rw [hz] at hB;simp only [dsz] at hB;omega
    ·have:=RP.str (X:=X) (w:=w) s.data.toList;simpa using this
   ·rename_i e hu;simp only [Bool.and_eq_true,decide_eq_true_eq] at hp;obtain ⟨hS,hp⟩:=hp;rcases DataW.trod_slice hu h with ⟨rfl,_⟩ | ⟨a,len,cap,elems,rest,n,e1,rfl,hz,_,hlc,hcm,l1,g1,g2,_⟩
    ·refine ⟨[.list false []],rfl,?_,one1 _ _ rfl (.nils _)⟩;simp only [YE,hl,hu];exact ⟨[],rfl,Nat.zero_le _,Nat.zero_le _,fun x hx=>by cases hx⟩
    ·have:n=k:=by omega
     subst this;obtain ⟨l2,g2⟩:=g2 rfl
     have hcell: ∀i,i<len-> ∃csi:List Value,csi.length=P.cellsOf e/\(∀j,j<P.cellsOf e-> ∃y,w.cell? ((a.add (i*P.cellsOf e)).add j)=some y/\csi[j]? =some y) /\
       ∃xs:List PV,xs.length=csi.length/\YE P B n e xs/\ ∀(j:Nat) (c:PV),xs[j]? =some c->c.one=true/\RP X w c (csi.getD j undef):=fun i hi=>by
      have hy:=g1 i hi;rw [List.getElem?_eq_getElem (by omega)] at hy;simp only [Option.bind_eq_some_iff] at hy;obtain ⟨csi,hcs,ht⟩:=hy;obtain ⟨c1,c2⟩:=Qr hcs;refine ⟨csi,c1,c2,IH m e csi _ ht hp ?_⟩;rcases hB with hB | hB
      ·exact .inl hB
      ·refine .inr ?_;rw [hz] at hB;have hm:(elems[i]'(by omega)).1∈elems.map (·.1):=List.mem_map.2 ⟨_,List.getElem_mem _,rfl⟩;have:=Zbz hm;simp only [dsz] at hB;omega
     have hlB:len<=B:=by
      rcases hB with hB | hB
      ·omega
      ·have:=Zgs (elems.map (·.1));rw [hz] at hB;simp only [dsz] at hB;simp only [List.length_map] at this;omega
     by_cases h0:len=0
     ·subst h0;refine ⟨[.list false []],rfl,?_,one1 _ _ rfl ?_⟩
      ·simp only [YE,hl,hu];exact ⟨[],rfl,Nat.zero_le _,Nat.zero_le _,fun x hx=>by cases hx⟩
      ·refine .emp _ _ _ (fun h=>by cases h) hcm (fun hpos x hx=> ?_);simp at hx;subst hx;have hy:=g2 0 (by omega);rw [List.getElem?_eq_getElem (by omega)] at hy;simp only [Option.bind_eq_some_iff] at hy;obtain ⟨csi,hcs,_⟩:=hy;obtain ⟨z,hz,_⟩:=(Qr hcs).2 0 hS;have:=Kn hz;simpa [Addr.add] using this.1
     ·obtain ⟨cs0,_,c2,_⟩:=hcell 0 (by omega);obtain ⟨y0,hy0,_⟩:=c2 0 hS;have hsp:=Kn hy0;simp only [Nat.zero_mul,Zd9] at hsp;obtain ⟨ab,ao,asp⟩:=a;simp only at hsp;obtain ⟨rfl,hb⟩:=hsp
      obtain ⟨xs,hxl,hxs⟩:=U5 (R:=fun i (x:List PV)=>x.length=P.cellsOf e/\YE P B n e x/\ ∀(j:Nat) (c:PV),x[j]? =some c->c.one=true/\w.cell? ⟨ab,ao+i*P.cellsOf e+j,none⟩=some ((w.cell? ⟨ab,ao+i*P.cellsOf e+j,none⟩).getD undef)/\RP X w c ((w.cell? ⟨ab,ao+i*P.cellsOf e+j,none⟩).getD undef)) len (fun i hi=>by
       obtain ⟨csi,d1,d2,x,d3,d4,d5⟩:=hcell i hi;refine ⟨x,by omega,d4,fun j c hj=> ?_⟩;obtain ⟨q1,q2⟩:=d5 j c hj;have hjl:=(List.getElem?_eq_some_iff.1 hj).1;obtain ⟨y,e1,e2⟩:=d2 j (by omega);rw [Za1,Za1] at e1;rw [e1];refine ⟨q1,by simp,?_⟩
       simpa [List.getD_eq_getElem?_getD,e2] using q2)
      refine ⟨[.list false (xs.map (UV P e))],rfl,?_,one1 _ _ rfl ?_⟩
      ·simp only [YE,hl,hu];refine ⟨xs,rfl,by omega,by omega,fun x hx=> ?_⟩;obtain ⟨i,hi⟩:=List.mem_iff_getElem?.1 hx;exact (hxs i x hi).2.1
      ·have hmk: ∀(i:Nat) (x:PV),(xs.map (UV P e))[i]? =some x-> ∃y,xs[i]? =some y/\x.cells=y:=fun i x hi=>by
        simp only [List.getElem?_map,Option.map_eq_some_iff] at hi;obtain ⟨y,hy,rfl⟩:=hi;exact ⟨y,hy,Zca (hxs i y hy).2.1⟩
       have:=RP.list (X:=X) (w:=w) false (xs.map (UV P e)) ab ao cap (P.cellsOf e) (fun i j=>(w.cell? ⟨ab,ao+i*P.cellsOf e+j,none⟩).getD undef) (hX ab) hb (by simp;omega) hcm (fun h=>by cases h)
        (fun i x hi=>by obtain ⟨y,h1,h2⟩:=hmk i x hi;rw [h2];exact (hxs i y h1).1)
        (fun i x j c hi hj=>by obtain ⟨y,h1,h2⟩:=hmk i x hi;rw [h2] at hj;exact ((hxs i y h1).2.2 j c hj).2.1)
        (fun i x j c hi hj=>by obtain ⟨y,h1,h2⟩:=hmk i x hi;rw [h2] at hj;exact ((hxs i y h1).2.2 j c hj).2.2)
       simp only [List.length_map,hxl] at this;exact this
   ·cases hp
end Go.AM
namespace Go.AM
open Go.RowKit Go.ChangeShapes
def FitV (P:Program) (B:Nat) (t:TypeId) (x:PV):Prop:= ∃k cs,YE P B k t cs/\x=UV P t cs
def UG (P:Program) (B:Nat):List TypeId->List PV->Prop
 | [],[]=>True
 | t::ts,x::xs=>FitV P B t x/\UG P B ts xs
 | _,_=>False
theorem JT {P:Program} {w:World} {r:Reach} {base:Nat} {t:TypeId} {v:Value} {m:Nat} (hp:plain P m t=true) (hn:pcs P t=none) (hv:Value.okWide P w r base t v): ∀cs,v≠ .agg cs:=by
 rintro cs rfl
 cases m with
 | zero=>simp [plain] at hp
 | succ m =>
  simp only [plain,hn] at hp;unfold Value.okWide at hv
  split at hp
  ·rename_i hu;simp [hu,Cell.okWide,Cell.ok] at hv
  ·rename_i hu;simp [hu,Cell.okWide,Cell.ok] at hv
  ·rename_i hu;simp [hu,Cell.okWide,Cell.ok] at hv
  ·rename_i hu;simp [hu,Cell.okWide,Cell.ok] at hv
  ·cases hp
theorem Zms {H:Type} {enc:TypeId×Value->H} {P:Program} {w:World} {r:Reach} {base:Nat} {held:Bool} {B m:Nat} {X:Nat->Prop} (hX: ∀b,¬X b) {t:TypeId} {v:Value} {d:DataW H} {ps:List MemPlace}
  (hv:Value.okWide P w r base t v) (h:DataW.Trod enc P w 0 (fun _=>true) held t v d ps) (hp:plain P m t=true) (hB:maxLen<=B\/dsz d<=B): ∃x,FitV P B t x/\RP X w x v:=by
 obtain ⟨k,h⟩:=h;obtain ⟨xs,h1,h2,h3⟩:=Kz (X:=X) hX k m t _ _ h hp hB;refine ⟨UV P t xs,⟨k,xs,h2,rfl⟩,?_⟩
 cases hl:pcs P t with
 | some l =>
  rw [UV,if_pos (XC hl)]
  have: ∃cs,v= .agg cs:=by
   unfold pcs at hl;unfold Value.okWide at hv
   split at hl
   ·rename_i hu;rw [hu] at hv;obtain ⟨cs,rfl,_⟩:=hv;exact ⟨_,rfl⟩
   ·rename_i hu;rw [hu] at hv;obtain ⟨cs,rfl,_⟩:=hv;exact ⟨_,rfl⟩
   ·cases hl
  obtain ⟨cs,rfl⟩:=this;refine .agg _ _ (by simpa [Value.cells] using h1.symm) fun j c hj=> ?_;have:=(h3 j c hj).2;simpa [Value.cells,List.getD_eq_getElem?_getD,Array.getD_eq_getD_getElem?] using this
 | none =>
  have hna:=JT hp hl hv
  have hc:v.cells= #[v]:=by
   cases v<;>first | rfl | (exact absurd rfl (hna _))
  rw [hc] at h1 h3
  have ht:XO P t≠some true:=by
   intro ht;unfold XO at ht;unfold pcs at hl
   cases hu:P.underlying t with
   | none=>simp [hu] at ht
   | some d=>cases d<;>simp [hu] at ht hl
  rw [UV,if_neg ht]
  match xs,h1 with
  | [x],_=>simpa using (h3 0 x rfl).2
theorem Zde {H:Type} {enc:TypeId×Value->H} {P:Program} {w:World} {r:Reach} {base:Nat} {held:Bool} {B m:Nat} {X:Nat->Prop} (hX: ∀b,¬X b): ∀ {ts:List TypeId} {vs:List Value} {ds:List (DataW H)} {ps:List MemPlace},
  DataW.TrodAll enc P w 0 (fun _=>true) held ts vs ds ps->(∀(j:Nat) t v,ts[j]? =some t->vs[j]? =some v->Value.okWide P w r base t v)->(∀t∈ts,plain P m t=true)->(maxLen<=B\/Ku ds<=B) ->
  ∃xs,UG P B ts xs/\xs.length=vs.length/\ ∀(j:Nat) (x:PV),xs[j]? =some x->RP X w x (vs.getD j undef)
 | [],vs,ds,ps,h,_,_,_=>by
  obtain ⟨rfl,rfl,rfl⟩:=trodAll_nil h;exact ⟨[],trivial,rfl,fun j x hj=>by simp at hj⟩
 | t::ts,vs,ds,ps,h,hv,hp,hB=>by
  obtain ⟨v,vs',d,ds',p,q,rfl,rfl,rfl,h1,h2⟩:=trodAll_cons h;obtain ⟨x,f1,f2⟩:=Zms (X:=X) hX (hv 0 t v rfl rfl) h1 (hp t (by simp)) (by rcases hB with hB | hB;exact .inl hB;refine .inr ?_;simp only [Ku] at hB;omega);obtain ⟨xs,g1,g2,g3⟩:=Zde (X:=X) hX h2 (fun j t' v' e1 e2=>hv (j+1) t' v' (by simpa using e1) (by simpa using e2)) (fun t' ht'=>hp t' (by simp [ht'])) (by rcases hB with hB | hB;exact .inl hB;refine .inr ?_;simp only [Ku] at hB;omega);refine ⟨x::xs,⟨f1,g1⟩,by simp [g2],fun j y hj=> ?_⟩
  cases j with
  | zero=>simp at hj;subst hj;simpa using f2
  | succ j=>simpa using g3 j y (by simpa using hj)
theorem UA {H:Type} {enc:TypeId×Value->H} {P:Program} {w:World} {base:Nat} {sp:Nat->Bool} {held:Bool} : ∀ {ts:List TypeId} {vs:List Value} {ds:List (DataW H)} {ps:List MemPlace},DataW.TrodAll enc P w base sp held ts vs ds ps->ds.length=ts.length
 | [],vs,ds,ps,h=>by obtain ⟨rfl,rfl,rfl⟩:=trodAll_nil h;rfl
 | t::ts,vs,ds,ps,h=>by
  obtain ⟨v,vs',d,ds',p,q,rfl,rfl,rfl,k1,k2⟩:=trodAll_cons h;simp [UA k2]
theorem WS {H:Type} {enc:TypeId×Value->H} {P:Program} (hl:laidOutB P=true) {W W':World} {sp:Nat->Bool} : ∀ {ts:List TypeId} {vs:List Value} {ds:List (DataW H)} {ps:List MemPlace},
  (∀t∈ts,P.readableRec t=true/\t<P.types.size)->DataW.TrodAll enc P W 0 (fun _=>true) true ts vs ds ps->(∀p∈ps,W.sameAt W' p)->(∀p∈ps,sp p.block=true)->DataW.TrodAll enc P W' 0 sp true ts vs ds ps
 | [],vs,ds,ps,_,h,_,_=>by
  obtain ⟨rfl,rfl,rfl⟩:=trodAll_nil h;exact trodAll_mk0
 | t::ts,vs,ds,ps,hr,h,h1,h2=>by
  obtain ⟨v,vs',d,ds',p,q,rfl,rfl,rfl,k1,k2⟩:=trodAll_cons h;have:=hr t (by simp)
  exact trodAll_cons_mk (WideElems.Trod_stays hl this.1 this.2 k1 (fun x hx=>h1 x (by simp [hx])) (fun x hx=>h2 x (by simp [hx])))
   (WS hl (fun t ht=>hr t (by simp [ht])) k2 (fun x hx=>h1 x (by simp [hx])) (fun x hx=>h2 x (by simp [hx])))
theorem Zct {w w':World} (h1:w'.os=w.os) (h2:w'.output=w.output) (h3: ∀b,b<w.heap.size->w'.heap[b]? =w.heap[b]?) (may:MemPlace->Prop):w.keptBut w' may:=by
 refine ⟨h1,h2,fun i hi=> ?_⟩;rw [h3 i hi]
 cases w.heap[i]? with
 | none=>simp
 | some o=>cases o<;>simp
def Zz6 (P:Program) (fn:Func):Bool:=fn.params.toList.all (fun t=>P.readableRec t&&decide (t<P.types.size)&&plain P 16 t)
theorem Jy {P:Program} {fn:Func} {g:FuncId} {spec:ChangeSpec} {tb:TypeId} {B:Nat} {H:Type} {enc:TypeId×Value->H}
  (hspec: ∀(ds:List (DataW H)),ds.length=fn.params.toList.length->spec.fn H ds= { results:= [.lit (.bool true)],args:=ds }) (hvars:spec.vars= [])
  (hlaid:laidOutB P=true) (hpar:Zz6 P fn=true) (hres:fn.resultTypes= #[tb]) (htb:P.underlying tb=some .bool)
  (hc: ∀xs,UG P B fn.params.toList xs->ACalls P g (xs.map .p) [] fun x H'=>x= .p (.bool true)/\H'= [])
  {W:World} {base:Nat} {args:Array Value} {ds gs:List (DataW H)} {before:List MemPlace}
  (hval: ∀(j:Nat) t v,fn.params[j]? =some t->args[j]? =some v->Value.okWide P W .any base t v)
  (hW:DataW.Whole enc P fn.params.toList spec.vars false W args.toList ds gs before) (hB:maxLen<=B\/Ku (ds++gs)<=B) (he:Env Zi8 [] W) :
  Calls P g args W fun e W'=> ∃v,e= .returned v/\spec.post enc P fn false true false false W args v W':=by
 have hW':=hW;obtain ⟨p,q,hA,hV,rfl,hfz,hnd⟩:=hW;rw [hvars] at hV;obtain ⟨rfl,rfl⟩:=trodVars_none hV;simp only [List.append_nil] at hW' hB;have hlen:=UA hA
 have hpl: ∀t∈fn.params.toList,(P.readableRec t=true/\t<P.types.size)/\plain P 16 t=true:=fun t ht=>by
  have:=List.all_eq_true.1 hpar t ht;simpa using this
 obtain ⟨xs,f1,f2,f3⟩:=Zde (X:=Own Zi8 []) (fun b=>Zg4) hA (fun j t v h1 h2=>hval j t v (by simpa using h1) (by simpa using h2)) (fun t ht=>(hpl t ht).2) hB;refine ((hc xs f1).2 Zi8 [] W args (Zhm he) ⟨by simp [f2],fun j c hj=> ?_⟩).mono ?_
 ·simp only [List.getElem?_map,Option.map_eq_some_iff] at hj;obtain ⟨x,hx,rfl⟩:=hj;have:=f3 j x hx;exact .p _ _ (by simpa [List.getD_eq_getElem?_getD,Array.getD_eq_getD_getElem?] using this)
 ·rintro e W' ⟨x,H',ι',v,rfl,⟨rfl,rfl⟩,gd,rv⟩
  have hv:v= .bool true:=by cases rv with | p _ _ h=>exact h.bool_inv
  subst hv;have hkeep: ∀b,b<W.heap.size->W'.heap[b]? =W.heap[b]? :=fun b hb=>gd.keep b hb (by simp);have hlt:=hW'.lt
  have hsame: ∀p'∈p,W.sameAt W' p':=fun p' hp=>by
   have:=hkeep _ (hlt p' hp)
   cases p' with
   | cell b off=>exact World.cell?_of_block (w:=W) (by simpa [MemPlace.block] using this)
   | map b=>simpa [World.sameAt,MemPlace.block] using this
  have hs:spec.fn H (ds++ [])= { results:= [.lit (.bool true)],args:=ds } :=by rw [List.append_nil];exact hspec ds hlen
  refine ⟨_,rfl,ds,[],p,[],p,[],by simpa using hW',?_,?_,?_,Zct gd.os gd.output hkeep _,fun h=>by cases h⟩
  ·rw [hs,hres];exact trodAll_mk1 (shut_bool htb true)
  ·rw [hs];exact WS hlaid (fun t ht=>(hpl t ht).1) hA hsame (fun p' hp=>by simpa using hlt p' hp)
  ·rw [hs,hvars]
   rfl
end Go.AM
namespace Go.AM
open Go.RowKit
section
variable {P : Program} {B m : Nat} {t e : TypeId} {cs : List PV} {x : PV}
theorem UL (hu:P.underlying t=some .bool) (h:YE P B m t cs): ∃b,cs= [.bool b]:=by
 cases m with
 | zero=>exact h.elim
 | succ m=>simp only [YE,pcs,hu] at h;exact h
theorem Zt {k:IntKind} (hu:P.underlying t=some (.int k)) (h:YE P B m t cs): ∃n,cs= [.int k n]/\(Lit.int k n).wf=true:=by
 cases m with
 | zero=>exact h.elim
 | succ m=>simp only [YE,pcs,hu] at h;exact h
theorem Qx (hu:P.underlying t=some .string) (h:YE P B m t cs): ∃s:List UInt8,cs= [.str s]/\s.length<=B/\s.length<=maxLen:=by
 cases m with
 | zero=>exact h.elim
 | succ m=>simp only [YE,pcs,hu] at h;exact h
theorem ZO (hu:P.underlying t=some (.slice e)) (h:YE P B m t cs): ∃xs:List PV,cs= [.list false xs]/\xs.length<=B/\xs.length<=maxLen/\ ∀y∈xs,FitV P B e y:=by
 cases m with
 | zero=>exact h.elim
 | succ m =>
  simp only [YE,pcs,hu] at h;obtain ⟨xs,rfl,h1,h2,h3⟩:=h;refine ⟨_,rfl,by simpa using h1,by simpa using h2,fun y hy=> ?_⟩;obtain ⟨c,hc,rfl⟩:=List.mem_map.1 hy;exact ⟨m,c,h3 c hc,rfl⟩
theorem Xt {l:List (Nat×TypeId)} {n:Nat} (hl:pcs P t=some l) (hn:P.cellsOf t=n) (h:YE P B m t cs):cs.length=n/\ ∃m',∀q∈l,YE P B m' q.2 ((cs.drop q.1).take (P.cellsOf q.2)):=by
 cases m with
 | zero=>exact h.elim
 | succ m=>simp only [YE,hl,hn] at h;exact ⟨h.1,m,h.2⟩
theorem Q3 (h:XO P t=some false):UV P t [x]=x:=by simp [UV,h]
theorem Zhr (hu:P.underlying t=some .bool) (h:FitV P B t x): ∃b,x= .bool b:=by
 obtain ⟨k,cs,h,rfl⟩:=h;obtain ⟨b,rfl⟩:=UL hu h;exact ⟨b,Q3 (by simp [XO,hu])⟩
theorem Zkd {k:IntKind} (hu:P.underlying t=some (.int k)) (h:FitV P B t x): ∃n,x= .int k n/\(Lit.int k n).wf=true:=by
 obtain ⟨k,cs,h,rfl⟩:=h;obtain ⟨n,rfl,hw⟩:=Zt hu h;exact ⟨n,Q3 (by simp [XO,hu]),hw⟩
theorem Zj6 (hu:P.underlying t=some .string) (h:FitV P B t x): ∃s:List UInt8,x= .str s/\s.length<=B/\s.length<=maxLen:=by
 obtain ⟨k,cs,h,rfl⟩:=h;obtain ⟨n,rfl,hw⟩:=Qx hu h;exact ⟨n,Q3 (by simp [XO,hu]),hw⟩
theorem FitV.out (h:FitV P B t x): ∃k cs,YE P B k t cs/\x=UV P t cs:=h
theorem UF {ts:List TypeId} {xs:List PV} (h:UG P B (t::ts) xs): ∃x xs',xs=x::xs'/\FitV P B t x/\UG P B ts xs':=by
 cases xs with
 | nil=>exact h.elim
 | cons x xs=>exact ⟨x,xs,rfl,h.1,h.2⟩
theorem ZcM {xs:List PV} (h:UG P B [] xs):xs= []:=by
 cases xs with
 | nil=>rfl
 | cons x xs=>exact h.elim
end
theorem XM {α:Type} {f:α->PV} {R:α->Prop} : ∀ {xs:List PV},(∀y∈xs,∃a,y=f a/\R a)-> ∃l:List α,xs=l.map f/\ ∀a∈l,R a
 | [],_=>⟨[],rfl,by simp⟩
 | x::xs,h=>by
  obtain ⟨l,rfl,h2⟩:=XM (xs:=xs) fun y hy=>h y (by simp [hy]);obtain ⟨a,rfl,ha⟩:=h x (by simp);refine ⟨a::l,rfl,fun b hb=> ?_⟩;rcases List.mem_cons.1 hb with rfl | hb
  ·exact ha
  ·exact h2 b hb
theorem ZN {n:Int} (h:(Lit.int .i64 n).wf=true): -9223372036854775808<=n/\n<=9223372036854775807:=by
 simpa [Lit.wf,IntKind.min,IntKind.max,IntKind.signed,IntKind.bits] using h
end Go.AM
namespace Go.AM
open Go.RowKit
@[go_sem high] theorem ZrH {P:Program} {t:TypeId} {x:Nat} {k'} {a:Int} (h0:0<=a) (h1:a<=62):X4 P .shr t (.p (.int .i64 (x:Int))) (.p (.int k' a))=some (.int .i64 ((x / pw a.toNat:Nat):Int)):=by
 rw [Zgb h0]
 have e:min a.toNat IntKind.i64.bits=a.toNat:=by simp [IntKind.bits];omega
 have e2:(2:Int)^a.toNat=((pw a.toNat:Nat):Int):=by simp [pw]
 rw [e,e2,Int.fdiv_eq_ediv_of_nonneg _ (by omega)];simp
@[go_sem] theorem ZlH {k:Nat} :((k:Int)-1).toNat=k-1:=by omega
@[go_sem] theorem ZlL {k:Nat} :((k:Int)+1).toNat=k+1:=by omega
class Sh (p:Prop) (q:outParam Prop):Prop where
 out:p->q
instance (priority := low) sh_id {p : Prop} : Sh p p := ⟨id⟩
instance sh_int {a b : Int} : Sh (a = b) ((a = b) = True) := ⟨fun h => eq_true h⟩
instance sh_str {a b : List UInt8} : Sh (a = b) ((a = b) = True) := ⟨fun h => eq_true h⟩
theorem KS {x i:Nat} :((((x / pw i)%2:Nat):Int)=1)=(x.testBit i=true):=by
 rw [Nat.testBit_eq_decide_div_mod_eq,decide_eq_true_eq,pw];apply propext;omega
theorem Zc2 {x i:Nat} :((((x / pw i)%2:Nat):Int)=0)=(x.testBit i=false):=by
 rw [Nat.testBit_eq_decide_div_mod_eq,decide_eq_false_iff_not,pw];apply propext;omega
end Go.AM
namespace Go.AM
open Go.RowKit
def X0 : Operand->List Nat
 | .tmp t=> [t]
 | _=> []
def oR : Option Operand->List Nat
 | none=> []
 | some x=>X0 x
def opR : Op->List Nat
 | .move x=>X0 x
 | .assign x=>X0 x
 | .pick c x y=>X0 c++X0 x++X0 y
 | .load _ x=>X0 x
 | .nilCheck x=>X0 x
 | .binOp _ _ x y _=>X0 x++X0 y
 | .unOp _ _ x=>X0 x
 | .convert _ _ x=>X0 x
 | .makeFunc _ cs ds=>cs.toList.flatMap X0++ds.toList.flatMap X0
 | .slice _ x lo hi mx=>X0 x++oR lo++oR hi++oR mx
 | .fieldAddr _ x _=>X0 x
 | .field _ x _=>X0 x
 | .indexAddr _ x i=>X0 x++X0 i
 | .index _ x i=>X0 x++X0 i
 | .extract x _=>X0 x
 | .build _ ps=>ps.toList.flatMap fun x=>X0 x.2
 | .buildSlice _ _ ps=>ps.toList.flatMap fun x=>X0 x.2
 | .box _ x=>X0 x
 | .store _ x y=>X0 x++X0 y
 | .makeSlice _ x y=>X0 x++X0 y
 | .lookup _ x y _=>X0 x++X0 y
 | .mapUpdate _ x y z=>X0 x++X0 y++X0 z
 | .mapEntry _ x y=>X0 x++X0 y
 | .entryStore _ x y z=>X0 x++X0 y++X0 z
 | .call c=>(match c.callee with | .value f=>X0 f | _=> [])++c.args.toList.flatMap X0
 | _=> []
def YZ (R:List Nat) (f1 f2:List V):Prop:= ∀t∈R,gt f1 t=gt f2 t
theorem YK {x:Operand} {f1 f2:List V} (h:YZ (X0 x) f1 f2):ev f1 x=ev f2 x:=by
 cases x with
 | tmp t=>exact h t (by simp [X0])
 | const v=>rfl
 | func f=>rfl
 | global g=>rfl
section
variable {P : Program} {H : List Obj} {f1 f2 : List V}
theorem JD {op:Op} (h:YZ (opR op) f1 f2):ZC P op f1 H=ZC P op f2 H:=by
 have key: ∀x:Operand,(∀t∈X0 x,t∈opR op)->ev f1 x=ev f2 x:=fun x hx=>YK fun t ht=>h t (hx t ht)
 cases op with
 | move x=>simp only [ZC,Xk,key x (by intro t ht;simpa [opR] using ht)]
 | assign x=>simp only [ZC,Xk,key x (by intro t ht;simpa [opR] using ht)]
 | pick c x y=>simp only [ZC,Xk,key c (by intro t ht;simp [opR,ht]),key x (by intro t ht;simp [opR,ht]),key y (by intro t ht;simp [opR,ht])]
 | load u x=>simp only [ZC,Xk,key x (by intro t ht;simpa [opR] using ht)]
 | nilCheck x=>simp only [ZC,Xk,key x (by intro t ht;simpa [opR] using ht)]
 | binOp o u x y u2=>simp only [ZC,Xk,key x (by intro t ht;simp [opR,ht]),key y (by intro t ht;simp [opR,ht])]
 | unOp o u x=>simp only [ZC,Xk,key x (by intro t ht;simpa [opR] using ht)]
 | convert s u x=>simp only [ZC,Xk,key x (by intro t ht;simpa [opR] using ht)]
 | makeFunc f cs ds =>
  have e1:cs.toList.map (ev f1)=cs.toList.map (ev f2):=List.map_congr_left fun x hx=>key x (by intro t ht;simp only [opR,List.mem_append,List.mem_flatMap];exact .inl ⟨x,hx,ht⟩);have e2:ds.toList.map (ev f1)=ds.toList.map (ev f2):=List.map_congr_left fun x hx=>key x (by intro t ht;simp only [opR,List.mem_append,List.mem_flatMap];exact .inr ⟨x,hx,ht⟩);simp only [ZC,Xk,e1,e2]
 | slice u x lo hi mx =>
  have ko: ∀(d:Int) (y:Option Operand),(∀t∈oR y,t∈opR (.slice u x lo hi mx))->abd d f1 y=abd d f2 y:=fun d y hy=>by
   cases y with
   | none=>rfl
   | some y=>simp only [abd,key y hy]
  have e1:=fun d=>ko d lo (by intro t ht;simp [opR,ht]);have e2:=fun d=>ko d hi (by intro t ht;simp [opR,ht]);have e3:=fun d=>ko d mx (by intro t ht;simp [opR,ht]);simp only [ZC,Xk,YC,key x (by intro t ht;simp [opR,ht]),e1,e2,e3]
 | fieldAddr s x f=>simp only [ZC,Xk,key x (by intro t ht;simpa [opR] using ht)]
 | field s x f=>simp only [ZC,Xk,key x (by intro t ht;simpa [opR] using ht)]
 | indexAddr u x i =>
  have e1:evx f1 x=evx f2 x:=by
   cases x with
   | global g=>rfl
   | tmp t=>exact key (.tmp t) (by intro t ht;simp [opR,ht])
   | const v=>rfl
   | func f=>rfl
  simp only [ZC,Xk,e1,key i (by intro t ht;simp [opR,ht])]
 | index u x i=>simp only [ZC,Xk,key x (by intro t ht;simp [opR,ht]),key i (by intro t ht;simp [opR,ht])]
 | extract x i=>simp only [ZC,Xk,key x (by intro t ht;simpa [opR] using ht)]
 | build u ps =>
  have e1:(ps.toList.map fun x=>(x.1,ev f1 x.2))=ps.toList.map fun x=>(x.1,ev f2 x.2):=List.map_congr_left fun x hx=>by rw [key x.2 (by intro t ht;simp only [opR,List.mem_flatMap];exact ⟨x,hx,ht⟩)]
  simp only [ZC,e1]
 | call c =>
  obtain ⟨cal,azs,ts⟩:=c;have e1:azs.toList.map (ev f1)=azs.toList.map (ev f2):=List.map_congr_left fun x hx=>key x (by intro t ht;simp only [opR,List.mem_append,List.mem_flatMap];exact .inr ⟨x,hx,ht⟩)
  cases cal<;>simp only [ZC,Xk,e1]
 | _=>rfl
theorem ZbX {op:Op} (h:YZ (opR op) f1 f2):Wd P op f1 H=Wd P op f2 H:=by
 have key: ∀x:Operand,(∀t∈X0 x,t∈opR op)->ev f1 x=ev f2 x:=fun x hx=>YK fun t ht=>h t (hx t ht)
 cases op with
 | box u x=>simp only [Wd,key x (by intro t ht;simpa [opR] using ht)]
 | store u x y=>simp only [Wd,key x (by intro t ht;simp [opR,ht]),key y (by intro t ht;simp [opR,ht])]
 | buildSlice u n ps =>
  have e1:(ps.toList.map fun x=>(x.1,ev f1 x.2))=ps.toList.map fun x=>(x.1,ev f2 x.2):=List.map_congr_left fun x hx=>by rw [key x.2 (by intro t ht;simp only [opR,List.mem_flatMap];exact ⟨x,hx,ht⟩)]
  simp only [Wd,e1]
 | makeSlice u x y=>simp only [Wd,key x (by intro t ht;simp [opR,ht]),key y (by intro t ht;simp [opR,ht])]
 | makeMap u r=>cases r<;>rfl
 | lookup u x y ok=>simp only [Wd,key x (by intro t ht;simp [opR,ht]),key y (by intro t ht;simp [opR,ht])]
 | mapUpdate u x y z=>simp only [Wd,key x (by intro t ht;simp [opR,ht]),key y (by intro t ht;simp [opR,ht]),key z (by intro t ht;simp [opR,ht])]
 | mapEntry u x y=>simp only [Wd,key x (by intro t ht;simp [opR,ht]),key y (by intro t ht;simp [opR,ht])]
 | entryStore u x y z=>simp only [Wd,key x (by intro t ht;simp [opR,ht]),key y (by intro t ht;simp [opR,ht]),key z (by intro t ht;simp [opR,ht])]
 | call c =>
  obtain ⟨cal,azs,ts⟩:=c;obtain ⟨azs⟩:=azs
  cases cal with
  | builtin b =>
   have e1: ∀x∈azs,ev f1 x=ev f2 x:=fun x hx=>key x (by intro t ht;simp only [opR,List.mem_append,List.mem_flatMap];exact .inr ⟨x,hx,ht⟩)
   cases b<;>try rfl
   all_goals
    simp only [Wd]
    split
    ·first
      | (rename_i x y t t2 h2;rw [e1 x (by simp),e1 y (by simp)])
      | (rename_i x t h2;rw [e1 x (by simp)])
    ·rfl
  | value f=>rfl
  | invoke r m=>rfl
 | _=>rfl
theorem Kp {op:Op} {f:Operand} {azs:List Operand} (h:YZ (opR op) f1 f2) (hc:Xr op=some (f,azs)):ev f1 f=ev f2 f/\azs.map (ev f1)=azs.map (ev f2):=by
 have key: ∀x:Operand,(∀t∈X0 x,t∈opR op)->ev f1 x=ev f2 x:=fun x hx=>YK fun t ht=>h t (hx t ht);unfold Xr at hc
 split at hc
 ·simp only [Option.some.injEq,Prod.mk.injEq] at hc;obtain ⟨rfl,rfl⟩:=hc;refine ⟨key _ (by intro t ht;simp [opR,ht]),List.map_congr_left fun x hx=>key x (by intro t ht;simp only [opR,List.mem_append,List.mem_flatMap];exact .inr ⟨x,hx,ht⟩)⟩
 ·cases hc
theorem WG {o:Oper} {K:V->List Obj->Prop} (h:YZ (opR o.op) f1 f2):Zq P o f1 H K↔Zq P o f2 H K:=by
 unfold Zq
 cases hc:Xr o.op with
 | some q =>
  obtain ⟨f,azs⟩:=q;obtain ⟨e1,e2⟩:=Kp h hc;simp only [e1,e2]
 | none=>simp only [aop,JD h,ZbX h]
end
theorem Kc {P:Program} {H:List Obj} {f1 f2:List V} {o:Oper} {K:V->List Obj->Prop} (h:YZ (opR o.op) f1 f2):Zr P o f1 H K↔Zr P o f2 H K:=by
 unfold Zr
 split
 ·rename_i t n ps ho;rw [ho] at h
  have e1:(ps.toList.map fun x=>(x.1,ev f1 x.2))=ps.toList.map fun x=>(x.1,ev f2 x.2):=List.map_congr_left fun x hx=>by
   rw [YK fun t ht=>h t (by simp only [opR,List.mem_flatMap];exact ⟨x,hx,ht⟩)]
  rw [e1]
 ·rename_i azs ts ho;rw [ho] at h;obtain ⟨azs⟩:=azs;have e1: ∀x∈azs,ev f1 x=ev f2 x:=fun x hx=>YK fun t ht=>h t (by simp only [opR,List.mem_append,List.mem_flatMap];exact .inr ⟨x,hx,ht⟩)
  split
  ·rename_i x y t t2 e2 e3;simp at e2;subst e2;rw [e1 x (by simp),e1 y (by simp)]
  ·rfl
 ·exact WG h
def hs (P:Program) (ds:List (Option Nat)) (H:List Obj) (K:List V->Prop):List Oper->List V->Prop
 | [],fr=>K fr
 | o::r,fr=>match o.guard with
  | none=>exq (fun y=>Zr P o fr H (fun x H'=>x=y/\H'=H)) (fun y=>hs P ds H K r (ptO fr o.dst y))
  | some (j,b)=>ZX (gAt fr ds j) b (exq (fun y=>Zr P o fr H (fun x H'=>x=y/\H'=H)) (fun y=>hs P ds H K r (ptO fr o.dst y))) (hs P ds H K r (ptO fr o.dst (.tup [])))
def Ul (ops:Array Oper) (n:Nat):Bool :=
 (List.range n).all fun i=>match ops[i]? with
  | some o=>((opR o.op).all fun t=>(List.range n).all fun j=>match (ops.toList.map (·.dst))[j]? with
    | some (some d)=>decide (d≠t)||(Zw i o).contains j
    | _=>true)&&(match o.guard with | some (g,_)=>(Zw i o).contains g | none=>true)
  | none=>true
section
variable {ds : List (Option Nat)} {vals : List V} {n : Nat}
theorem Ym {t:Nat} : ∀(l:List Nat) (fr:List V),(∀j∈l,ds[j]? ≠some (some t))->(ZV ds vals l fr)[t]? =fr[t]?
 | [],fr,_=>rfl
 | j::l,fr,h=>by
  have hj:=h j (by simp);have ih:=fun fr=>Ym l fr fun k hk=>h k (by simp [hk]);simp only [ZV]
  split
  ·rename_i d v h1 h2;rw [ih,Wo];have:d≠t:=fun e=>hj (by rw [h1,e]);rw [List.getElem?_set_ne this]
  ·exact ih fr
theorem Qv (hap:WX ds n=true) {i j t:Nat} (hi:i<n) (hj:j<n) (h1:ds[i]? =some (some t)) (h2:ds[j]? =some (some t)):i=j:=by
 simp only [WX,List.all_eq_true,List.mem_range,Bool.or_eq_true,decide_eq_true_eq] at hap;rcases hap i hi j hj with h | h
 ·exact h
 ·rw [h1,h2] at h;simp at h
theorem YW (hap:WX ds n=true) {t:Nat} {x:V} {j0:Nat} (h1:ds[j0]? =some (some t)) (h2:vals[j0]? =some x) (hj0:j0<n): ∀(l:List Nat) (fr:List V),(∀j∈l,j<n)->j0∈l->t<fr.length->(ZV ds vals l fr)[t]? =some x
 | [],fr,_,h,_=>by cases h
 | j::l,fr,hl,hm,ht=>by
  by_cases hin:j0∈l
  ·simp only [ZV]
   split
   ·exact YW hap h1 h2 hj0 l _ (fun k hk=>hl k (by simp [hk])) hin (by simpa [Wo] using ht)
   ·exact YW hap h1 h2 hj0 l _ (fun k hk=>hl k (by simp [hk])) hin ht
  ·have:j0=j:=by
    rcases List.mem_cons.1 hm with e | e
    ·exact e
    ·exact absurd e hin
   subst this;simp only [ZV,h1,h2];rw [Ym l _ fun k hk e=>hin (by rw [Qv hap hj0 (hl k (by simp [hk])) h1 e];exact hk),Wo];simp [ht]
theorem W7 {t:Nat} : ∀(l:List (Option Nat)) (fr:List V),some t ∉ l->(ZU l fr)[t]? =fr[t]?
 | [],fr,_=>rfl
 | some d::l,fr,h=>by
  simp only [ZU];rw [W7 l _ (by simp at h;exact h.2),Wo,List.getElem?_set_ne (by simp at h;exact fun e=>h.1 e.symm)]
 | none::l,fr,h=>by
  simp only [ZU];exact W7 l _ (by simpa using h)
theorem JV {f1 f2:List V} {t:Nat} (h:f1[t]? =f2[t]?):gt f1 t=gt f2 t:=by rw [ZeO,ZeO,h]
theorem Um {t:Nat} (hn:n<=ds.length):some t∈ds.take n↔ ∃j,j<n/\ds[j]? =some (some t):=by
 rw [List.mem_iff_getElem?]
 constructor
 ·rintro ⟨j,hj⟩;rw [List.getElem?_take] at hj
  split at hj
  ·rename_i h;exact ⟨j,h,hj⟩
  ·cases hj
 ·rintro ⟨j,h,hj⟩;exact ⟨j,by rw [List.getElem?_take,if_pos h];exact hj⟩
theorem ZbE (hap:WX ds n=true) (hn:n<=ds.length) {fr:List V} {deps:List Nat} {i t:Nat} (hi:i<=n) (hv:vals.length=i) (hd: ∀j∈deps,j<i) (ht: ∀j,j<n->ds[j]? =some (some t)->j∈deps) :
  gt (ZV ds vals deps (ZU (ds.take n) fr)) t=gt (ZV ds vals (List.range i) fr) t:=by
 apply JV
 by_cases hex: ∃j,j<n/\ds[j]? =some (some t)
 ·obtain ⟨j,hj,hdj⟩:=hex;have hin:=ht j hj hdj;have hji:=hd j hin;obtain ⟨x,hx⟩: ∃x,vals[j]? =some x:=⟨vals[j]'(by omega),by simp [hv,hji]⟩
  by_cases hlt:t<fr.length
  ·rw [YW hap hdj hx hj deps _ (fun k hk=>by have:=hd k hk;omega) hin (by rw [ZP];exact hlt),YW hap hdj hx hj _ _ (fun k hk=>by simp at hk;omega) (by simpa using hji) hlt]
  ·rw [List.getElem?_eq_none (by rw [ZY,ZP];omega),List.getElem?_eq_none (by rw [ZY];omega)]
 ·have hno: ∀j,j<n->ds[j]? ≠some (some t):=fun j hj e=>hex ⟨j,hj,e⟩;rw [Ym deps _ (fun j hj=>hno j (by have:=hd j hj;omega)),Ym _ _ (fun j hj=>hno j (by simp at hj;omega)),W7 _ _ (fun hm=>hex ((Um hn).1 hm))]
theorem Jh (hap:WX ds n=true) (hn:n<=ds.length) {fr:List V} (hv:vals.length=n):ZV ds vals (List.range n) (ZU (ds.take n) fr)=ZV ds vals (List.range n) fr:=by
 apply List.ext_getElem?;intro t
 by_cases hex: ∃j,j<n/\ds[j]? =some (some t)
 ·obtain ⟨j,hj,hdj⟩:=hex;obtain ⟨x,hx⟩: ∃x,vals[j]? =some x:=⟨vals[j]'(by omega),by simp [hv,hj]⟩
  by_cases hlt:t<fr.length
  ·rw [YW hap hdj hx hj _ _ (fun k hk=>by simpa using hk) (by simpa using hj) (by rw [ZP];exact hlt),YW hap hdj hx hj _ _ (fun k hk=>by simpa using hk) (by simpa using hj) hlt]
  ·rw [List.getElem?_eq_none (by rw [ZY,ZP];omega),List.getElem?_eq_none (by rw [ZY];omega)]
 ·have hno: ∀j,j<n->ds[j]? ≠some (some t):=fun j hj e=>hex ⟨j,hj,e⟩;rw [Ym _ _ (fun j hj=>hno j (by simpa using hj)),Ym _ _ (fun j hj=>hno j (by simpa using hj)),W7 _ _ (fun hm=>hex ((Um hn).1 hm))]
theorem Zdq {fr:List V} {x:V} {d:Option Nat} (hd:ds[vals.length]? =some d):ZV ds (vals++ [x]) (List.range (vals.length+1)) fr=ptO (ZV ds vals (List.range vals.length) fr) d x:=by
 have key: ∀(l:List Nat) (fr:List V),(∀j∈l,j<vals.length)->ZV ds (vals++ [x]) (l++ [vals.length]) fr=ptO (ZV ds vals l fr) d x:=by
  intro l
  induction l with
  | nil =>
   intro fr _;simp only [List.nil_append,ZV,hd];rw [List.getElem?_append_right (Nat.le_refl _),Nat.sub_self]
   cases d<;>simp [ZV,ptO]
  | cons j l ih =>
   intro fr h;have hj:=h j (by simp);simp only [List.cons_append,ZV];rw [List.getElem?_append_left hj]
   split
   ·exact ih _ fun k hk=>h k (by simp [hk])
   ·exact ih _ fun k hk=>h k (by simp [hk])
 rw [List.range_succ]
 exact key _ fr fun j hj=>by simpa using hj
end
theorem Zhy {P:Program} {ops:Array Oper} {n:Nat} {fr:List V} {H:List Obj} {K:List V->Prop} (hn:n<=ops.size) (hap:WX (ops.toList.map (·.dst)) n=true) (hR:Ul ops n=true) :
  ∀(l:List Oper) (i:Nat) (vals:List V),i<=n->vals.length=i->(ops.toList.take n).drop i=l->hs P (ops.toList.map (·.dst)) H K l (ZV (ops.toList.map (·.dst)) vals (List.range i) fr) ->
   hd P (ops.toList.map (·.dst)) (ZU ((ops.toList.map (·.dst)).take n) fr) H (fun vals=>vals.length=n/\K (ZV (ops.toList.map (·.dst)) vals (List.range n) fr)) i l vals
 | [],i,vals,hin,hv,hl,h=>by
  have hin2:n<=i:=by
   have:=congrArg List.length hl;simp at this;omega
  have e:i=n:=by omega
  subst e;simp only [hs] at h;simp only [hd];exact ⟨hv,h⟩
 | o::l,i,vals,hin,hv,hl,h=>by
  have hlen:i<n:=by
   have:=congrArg List.length hl;simp at this;omega
  have hoi:(ops.toList.take n)[i]? =some o:=by
   have:((ops.toList.take n).drop i)[0]? =some o:=by rw [hl];rfl
   simpa using this
  have hoi2:ops[i]? =some o:=by
   rw [List.getElem?_take,if_pos hlen] at hoi;simpa using hoi
  have hl2:(ops.toList.take n).drop (i+1)=l:=by
   have:((ops.toList.take n).drop i).drop 1=l:=by rw [hl];rfl
   rwa [List.drop_drop] at this
  have hdi:(ops.toList.map (·.dst))[i]? =some o.dst:=by simp [hoi2]
  have hR0:=hR;simp only [Ul,List.all_eq_true,List.mem_range] at hR0;have hRi:=hR0 i hlen;rw [hoi2] at hRi;simp only [Bool.and_eq_true,List.all_eq_true,List.mem_range] at hRi;obtain ⟨r1,r2⟩:=hRi
  have hdl:n<=(ops.toList.map (·.dst)).length:=by simpa using hn
  have hag:YZ (opR o.op) (ZV (ops.toList.map (·.dst)) vals (Zw i o) (ZU ((ops.toList.map (·.dst)).take n) fr)) (ZV (ops.toList.map (·.dst)) vals (List.range i) fr):=fun t ht =>
   ZbE hap hdl (by omega) hv (fun j hj=>XG j hj) fun j hj e=>by
    have:=r1 t ht j hj;rw [e] at this;simpa using this
  have step: ∀x,hs P (ops.toList.map (·.dst)) H K l (ptO (ZV (ops.toList.map (·.dst)) vals (List.range i) fr) o.dst x) ->
    hd P (ops.toList.map (·.dst)) (ZU ((ops.toList.map (·.dst)).take n) fr) H (fun vals=>vals.length=n/\K (ZV (ops.toList.map (·.dst)) vals (List.range n) fr)) (i+1) l (vals++ [x]):=fun x hx=>by
   refine Zhy hn hap hR l (i+1) (vals++ [x]) (by omega) (by simp [hv]) hl2 ?_;subst hv;rw [Zdq hdi];exact hx
  have step2:exq (fun y=>Zr P o (ZV (ops.toList.map (·.dst)) vals (List.range i) fr) H (fun x H'=>x=y/\H'=H)) (fun y=>hs P (ops.toList.map (·.dst)) H K l (ptO (ZV (ops.toList.map (·.dst)) vals (List.range i) fr) o.dst y)) ->
    ∃y,Zr P o (ZV (ops.toList.map (·.dst)) vals (Zw i o) (ZU ((ops.toList.map (·.dst)).take n) fr)) H (fun x H'=>x=y/\H'=H)/\hd P (ops.toList.map (·.dst)) (ZU ((ops.toList.map (·.dst)).take n) fr) H (fun vals=>vals.length=n/\K (ZV (ops.toList.map (·.dst)) vals (List.range n) fr)) (i+1) l (vals++ [y]):=by
   rintro ⟨y,h1,h2⟩;exact ⟨y,(Kc hag).2 h1,step y h2⟩
  simp only [hs] at h;simp only [hd]
  cases hg:o.guard with
  | none =>
   rw [hg] at h;exact step2 h
  | some q =>
   obtain ⟨g,b⟩:=q;rw [hg] at h r2;simp only at h r2 ⊢
   have hgin:g∈Zw i o:=by simpa using r2
   have hgl:=XG g hgin
   have hgg:gAt (ZV (ops.toList.map (·.dst)) vals (Zw i o) (ZU ((ops.toList.map (·.dst)).take n) fr)) (ops.toList.map (·.dst)) g=gAt (ZV (ops.toList.map (·.dst)) vals (List.range i) fr) (ops.toList.map (·.dst)) g:=by
    simp only [gAt]
    split
    ·rename_i d hd'
     exact ZbE hap hdl (by omega) hv (fun j hj=>XG j hj) fun j hj e=>by
      rw [Qv hap hj (by omega) e hd'];exact hgin
    ·rfl
   rw [hgg];generalize gAt (ZV (ops.toList.map (·.dst)) vals (List.range i) fr) (ops.toList.map (·.dst)) g=G at h ⊢;unfold ZX at h ⊢
   split at h
   ·exact ⟨fun e=>step2 (h.1 e),fun e=>step _ (h.2 e)⟩
   ·exact step _ h
   ·exact h.elim
theorem ZfV {P ds frJ H} {K K':List V->Prop} (hk: ∀ys,K ys->K' ys) (l:List Oper) (i:Nat) (vals:List V) (h:hd P ds frJ H K i l vals):hd P ds frJ H K' i l vals:=Ze2 l i vals (fun ys _ k=>hk ys k) h
theorem Zy {P:Program} {id:Nat} {l:List Oper} {fr:List V} {H:List Obj} {Q:Exit->List V->List Obj->Prop} {t} (n:Nat) (hm:P.follows .mixedOrders=true) (hB:YY (List.toArray l) n=true) (hR:Ul (List.toArray l) n=true)
  (h:hs P (l.map (·.dst)) H (ZB (fun fr'=>Yo P (l.map (·.dst)) (l.drop n) (idF fr') H (ZB (Q .normal) ⟨⟩)) ⟨⟩) (l.take n) (idF fr)) :
  AWP P (.region id (ZB (List.toArray l) t) true) fr H Q:=by
 have hB':=hB;simp only [YY,Bool.and_eq_true,decide_eq_true_eq] at hB';obtain ⟨⟨⟨⟨hn,_⟩,_⟩,hap⟩,_⟩:=hB';refine Zdv (ops:=List.toArray l) n hm hB ?_;refine ZfV ?_ _ _ _ (Zhy (ops:=List.toArray l) (K:=fun fr'=>Yo P (l.map (·.dst)) (l.drop n) fr' H (Q .normal)) hn hap hR _ 0 [] (Nat.zero_le _) rfl (by simp) ?_)
 ·rintro ys ⟨hy,hk⟩;rw [Jh hap (by simpa using hn) hy];exact hk
 ·exact h
theorem Zh {P:Program} {id:Nat} {l:List Oper} {fr:List V} {H:List Obj} {Q:Exit->List V->List Obj->Prop} {t} (hm:P.follows .mixedOrders=true) (hB:YY (List.toArray l) l.length=true) (hR:Ul (List.toArray l) l.length=true)
  (h:hs P (l.map (·.dst)) H (ZB (fun fr'=>Q .normal (idF fr') H) ⟨⟩) l (idF fr)) :
  AWP P (.region id (ZB (List.toArray l) t) true) fr H Q:=by
 refine Zy l.length hm hB hR ?_;rw [List.take_length,List.drop_length];exact h
section
variable {P : Program} {ds : List (Option Nat)} {fr : List V} {H : List Obj} {K : List V -> Prop} {r : List Oper} {d : Option Nat} {op : Op} {t : TypeId} {ps : String} {af : Array Edge}
@[go_sem ↓] theorem ZxG : hs P ds H K [] fr=K fr:=Eq.trans rfl rfl
@[go_sem] theorem ZwD : hs P ds H K (⟨d,op,t,ps,af,none⟩::r) fr=exq (fun y=>Zr P ⟨d,op,t,ps,af,none⟩ fr H (ZB (fun x H'=>x=y/\H'=H) ⟨⟩)) (ZB (fun y=>hs P ds H K r (ptO fr d y)) ⟨⟩):=Eq.trans rfl rfl
@[go_sem] theorem Zs4 {j b} :hs P ds H K (⟨d,op,t,ps,af,some (j,b)⟩::r) fr=ZX (gAt fr ds j) b
  (ZB (exq (fun y=>Zr P ⟨d,op,t,ps,af,none⟩ fr H (ZB (fun x H'=>x=y/\H'=H) ⟨⟩)) (ZB (fun y=>hs P ds H K r (ptO fr d y)) ⟨⟩)) ⟨⟩)
  (ZB (hs P ds H K r (ptO fr d (.tup []))) ⟨⟩):=Eq.trans rfl rfl
theorem Zhi {l fr'} (h:fr=fr'):hs P ds H K l fr=hs P ds H K l fr':=by rw [h]
end
attribute [congr] Zhi
end Go.AM
namespace Go.AM
open Go.RowKit
theorem ACalls.weak {P g args H Q} (h:ACalls P g args H fun x H'=> ∃y H'',Weak H.length [x] H' [y] H''/\Q y H''):ACalls P g args H Q :=
 ⟨h.1,fun F ι w vs hr hv=>(h.2 F ι w vs hr hv).mono fun e w' ⟨x,H',ι',v,he,⟨y,H'',hw,q⟩,g,r⟩=>by
  obtain ⟨ι2,r2,f2,g2⟩:=hw F ι' { tmps:= #[v],defers:= [] } w' g.rel ⟨rfl,rfl,fun i z hi=>by
   cases i with
   | zero=>simp at hi;subst hi;simpa using r
   | succ i=>simp at hi⟩
  exact ⟨y,H'',ι2,v,he,q,g2 H ι w (Nat.le_refl _) g,by simpa [gt] using f2.get 0⟩⟩
theorem Zd (cuts:List Nat) {P:Program} {g:FuncId} {fn:Func} {c:Code} {args:List V} {H:List Obj} {Q:V->List Obj->Prop} (hf:P.funcs[g]? =some fn) (hb:fn.body=some c) (hg:Zi P g)
  (h:awp cuts P c (args++List.replicate (fn.ntmps-args.length) .junk) H (KL P fn.results.toList fun x H'=> ∃y H'',Weak H.length [x] H' [y] H''/\Q y H'')):ACalls P g args H Q :=
 (Z3 hf hb hg (Zc cuts _ _ _ _ h)).weak
theorem Weak.nilC {n0 fr H} {o j:Nat} {cs:List V} (S:Nat) (ho:H[o]? =some (.cells cs)) (hj:cs[j]? =some (.p (.list true []))) (hn:n0<=H.length):Weak n0 fr H fr (H.set o (.cells (cs.set j (.sl H.length 0 0 0)))++ [.elems S []]):=fun F ι a w hr hf=>by
 have g:=Y6 hr S;have hol:=(List.getElem?_eq_some_iff.1 ho).1;have hjl:=(List.getElem?_eq_some_iff.1 hj).1;obtain ⟨b,c,t,e1,e2,e3,e4⟩:=g.rel.cel o cs (by rw [List.getElem?_append_left hol];exact ho)
 have hx:HX (H++ [.elems S []]) (ι++ [none]) w (H.set o (.cells (cs.set j (.sl H.length 0 0 0)))++ [.elems S []]) (ι++ [none]) w:=fun i ob hi=>by
  by_cases hio:i=o
  ·subst hio;rw [List.getElem?_append_left hol,ho] at hi;simp at hi;subst hi;exact .inr ⟨⟨_,by rw [List.getElem?_append_left (by simpa using hol)];simp [hol];rfl⟩,rfl⟩
  ·have e:(H.set o (.cells (cs.set j (.sl H.length 0 0 0)))++ [.elems S []])[i]? =(H++ [Obj.elems S []])[i]? :=by
    rcases Nat.lt_or_ge i H.length with h | h
    ·rw [List.getElem?_append_left (by simpa using h),List.getElem?_append_left h,List.getElem?_set_ne (fun h=>hio h.symm)]
    ·rw [List.getElem?_append_right (by simpa using h),List.getElem?_append_right h];simp
   rw [<- e] at hi
   cases ob with
   | dead=>exact .inl hi
   | cells cs=>exact .inr ⟨⟨_,hi⟩,rfl⟩
   | map es=>exact .inr ⟨⟨_,hi⟩,rfl⟩
   | bld T E r bs=>exact .inr ⟨⟨_,hi⟩,rfl⟩
   | elems S xs=>exact .inr ⟨_,hi,.inr ⟨rfl,rfl,fun b c t _ h2=>⟨c,h2,rfl⟩⟩⟩
 have hk:Keeps (Own F (ι++ [none])) w (Own F (ι++ [none])) w:=Keeps.refl _ _
 have get: ∀ {i:Nat} {ob:Obj},(H.set o (.cells (cs.set j (.sl H.length 0 0 0)))++ [.elems S []])[i]? =some ob->(i=o/\ob= .cells (cs.set j (.sl H.length 0 0 0)))\/(H++ [Obj.elems S []])[i]? =some ob:=fun {i ob} hi=>by
  by_cases hio:i=o
  ·subst hio;rw [List.getElem?_append_left (by simpa using hol)] at hi;simp [hol] at hi;exact .inl ⟨rfl,hi.symm⟩
  ·right
   rcases Nat.lt_or_ge i H.length with h | h
   ·rw [List.getElem?_append_left (by simpa using h),List.getElem?_set_ne (fun h=>hio h.symm)] at hi;rw [List.getElem?_append_left h];exact hi
   ·rw [List.getElem?_append_right (by simpa using h)] at hi;rw [List.getElem?_append_right h];simpa using hi
 have rel:Rel F (H.set o (.cells (cs.set j (.sl H.length 0 0 0)))++ [.elems S []]) (ι++ [none]) w:=by
  refine ⟨⟨by have:=g.rel.len;simpa using this,g.rel.fin,g.rel.inj,g.rel.avo,fun i ds hi=> ?_,fun i S' xs hi=> ?_,fun i es hi=> ?_,?_⟩,g.rel.env⟩
  ·rcases get hi with ⟨rfl,e⟩ | hi
   ·simp at e;subst e;refine ⟨b,c,t,e1,e2,by simpa using e3,fun q x hq=> ?_⟩;rw [List.getElem?_set] at hq
    split at hq
    ·rename_i hjq;subst hjq;simp [hjl] at hq;subst hq;have hv:=e4 j _ hj
     cases hv with | p _ _ hv =>
     generalize c.getD j undef=v at hv
     have h1:(ι++ [none])[H.length]? =some none:=by rw [<- hr.len];simp
     have h2:(H.set i (.cells (cs.set j (.sl H.length 0 0 0)))++ [Obj.elems S []])[H.length]? =some (.elems S []):=by rw [List.getElem?_append_right (by simp)];simp
     cases hv with
     | nils=>exact .slNil _ S none h1 h2
     | emp _ ad cap hc hm ha=>rw [hc rfl];exact .slNil _ S ad h1 h2
     | list _ _ b off cap S' u hX hb hc hm hcl =>
      have:cap=0:=by simpa using hcl rfl
      subst this;exact .slNil _ S _ h1 h2
    ·exact (e4 q x hq).ext hk hx
   ·obtain ⟨b',c',t',f1,f2,f3,f4⟩:=g.rel.cel i ds hi;exact ⟨b',c',t',f1,f2,f3,fun q x hq=>(f4 q x hq).ext hk hx⟩
  ·rcases get hi with ⟨rfl,e⟩ | hi
   ·cases e
   ·exact g.rel.elm i S' xs hi
  ·rcases get hi with ⟨rfl,e⟩ | hi
   ·cases e
   ·exact g.rel.mpr i es hi
  ·refine Yr g.rel (fun i T E r bs hi=> ?_) fun i ob hi hs=>⟨?_,rfl,fun _ _=>rfl⟩
   ·rcases get hi with ⟨_,e⟩ | hi
    ·cases e
    ·exact hi
   ·by_cases hio:i=o
    ·subst hio;rw [List.getElem?_append_left hol,ho] at hi;simp at hi;subst hi;cases hs
    ·rcases Nat.lt_or_ge i H.length with h | h
     ·rw [List.getElem?_append_left (by simpa using h),List.getElem?_append_left h,List.getElem?_set_ne (fun h=>hio h.symm)]
     ·rw [List.getElem?_append_right (by simpa using h),List.getElem?_append_right h];simp
 have g2:Good F H ι w (H.set o (.cells (cs.set j (.sl H.length 0 0 0)))++ [.elems S []]) (ι++ [none]) w:=⟨rel,rfl,Tp.rfl,rfl,fun _ c _ h=> .inr ⟨c,h,rfl⟩,Nat.le_refl _,fun _ _ _=>rfl,g.own,g.hx.trans hx⟩;exact ⟨ι++ [none],rel,g2.fr hf,fun H0 ι0 w0 _ hg=>hg.trans g2⟩
theorem XA {F:Nat->Prop} {ι0 ιL:List (Option Nat)} :Own (Own F ιL) ι0=Own F (ι0++ιL):=by
 funext b
 simp only [Own,List.mem_append,eq_iff_iff]
 constructor
 ·rintro ((h | h) | h)
  ·exact .inl h
  ·exact .inr (.inr h)
  ·exact .inr (.inl h)
 ·rintro (h | h | h)
  ·exact .inl (.inl h)
  ·exact .inr h
  ·exact .inl (.inr h)
theorem RV.narrow {F H0 L ι0 ιL w x v} (hl:ι0.length=H0.length) (h:RV F (H0++L) (ι0++ιL) w x v) (hn:refB H0.length x=true):RV (Own F ιL) H0 ι0 w x v:=by
 have gi: ∀ {o:Nat},o<H0.length->(ι0++ιL)[o]? =ι0[o]? :=fun h=>List.getElem?_append_left (by rw [hl];exact h);have gH: ∀ {o:Nat},o<H0.length->(H0++L)[o]? =H0[o]? :=fun h=>List.getElem?_append_left h
 induction h with
 | p x v h=>refine .p _ _ ?_;rw [XA];exact h
 | agg cs a hs _ ih=>exact .agg cs a hs fun j c hj=>ih j c hj (ZH (by simpa [refB] using hn) j c hj)
 | fn f cs ds a e hs ht _ _ ih1 ih2 =>
  simp [refB] at hn;exact .fn f cs ds a e hs ht (fun j c hj=>ih1 j c hj (ZH hn.1 j c hj)) (fun j c hj=>ih2 j c hj (ZH hn.2 j c hj))
 | tup cs a hs _ ih=>exact .tup cs a hs fun j c hj=>ih j c hj (ZH (by simpa [refB] using hn) j c hj)
 | ptr o off b cs h hH=>simp [refB] at hn;exact .ptr _ _ b cs (by rw [<- gi hn];exact h) (by rw [<- gH hn];exact hH)
 | ep o i j tot b S xs h hH ht=>simp [refB] at hn;exact .ep _ _ _ _ b S xs (by rw [<- gi hn];exact h) (by rw [<- gH hn];exact hH) ht
 | slNil o S a h hH=>simp [refB] at hn;exact .slNil _ S a (by rw [<- gi hn];exact h) (by rw [<- gH hn];exact hH)
 | sl o off len tot b S cap t xs c h hH ht hw hcap hl' hlen hm=>simp [refB] at hn;exact .sl _ _ _ _ b S cap t xs c (by rw [<- gi hn];exact h) (by rw [<- gH hn];exact hH) ht hw hcap hl' hlen hm
 | lp x j b off u hX' hb hu hq=>exact .lp x j b off u (by rw [XA];exact hX') hb hu (fun j c hj=>by rw [XA];exact hq j c hj)
 | mp o b es h hH=>simp [refB] at hn;exact .mp _ b es (by rw [<- gi hn];exact h) (by rw [<- gH hn];exact hH)
 | mpD o v h=>simp [refB] at hn;exact .mpD _ _ (by rw [<- gH hn];exact h)
 | bp o b T E r bs h hH=>simp [refB] at hn;exact .bp _ b T E r bs (by rw [<- gi hn];exact h) (by rw [<- gH hn];exact hH)
 | bpD o v h=>simp [refB] at hn;exact .bpD _ _ (by rw [<- gH hn];exact h)
 | junk v=>exact .junk v
 | ptrD o off v h=>simp [refB] at hn;exact .ptrD _ _ _ (by rw [<- gH hn];exact h)
 | epD o i j tot v h=>simp [refB] at hn;exact .epD _ _ _ _ _ (by rw [<- gH hn];exact h)
 | slD o off len tot v h=>simp [refB] at hn;exact .slD _ _ _ _ _ (by rw [<- gH hn];exact h)
 | epS o i j tot v S xs h hne=>simp [refB] at hn;exact .epS _ _ _ _ _ S xs (by rw [<- gH hn];exact h) hne
 | slS o off len tot v S xs h hne=>simp [refB] at hn;exact .slS _ _ _ _ _ S xs (by rw [<- gH hn];exact h) hne
 | slC o tot b cap cs h hH hl hm=>simp [refB] at hn;exact .slC _ _ b cap cs (by rw [<- gi hn];exact h) (by rw [<- gH hn];exact hH) hl hm
theorem RV.widen {F H0 L ι0 ιL w x v} (h:RV (Own F ιL) H0 ι0 w x v):RV F (H0++L) (ι0++ιL) w x v:=by
 have gi: ∀ {o:Nat} {q},ι0[o]? =some q->(ι0++ιL)[o]? =some q:=fun h=>by rw [List.getElem?_append_left (List.getElem?_eq_some_iff.1 h).1];exact h
 have gH: ∀ {o:Nat} {q},H0[o]? =some q->(H0++L)[o]? =some q:=fun h=>by rw [List.getElem?_append_left (List.getElem?_eq_some_iff.1 h).1];exact h
 induction h with
 | p x v h=>rw [XA] at h;exact .p _ _ h
 | agg cs a hs _ ih=>exact .agg cs a hs ih
 | fn f cs ds a e hs ht _ _ ih1 ih2=>exact .fn f cs ds a e hs ht ih1 ih2
 | tup cs a hs _ ih=>exact .tup cs a hs ih
 | ptr o off b cs h hH=>exact .ptr _ _ b cs (gi h) (gH hH)
 | ep o i j tot b S xs h hH ht=>exact .ep _ _ _ _ b S xs (gi h) (gH hH) ht
 | slNil o S a h hH=>exact .slNil _ S a (gi h) (gH hH)
 | sl o off len tot b S cap t xs c h hH ht hw hcap hl' hlen hm=>exact .sl _ _ _ _ b S cap t xs c (gi h) (gH hH) ht hw hcap hl' hlen hm
 | lp x j b off u hX' hb hu hq=>rw [XA] at hX';exact .lp x j b off u hX' hb hu (fun j c hj=>by have:=hq j c hj;rw [XA] at this;exact this)
 | mp o b es h hH=>exact .mp _ b es (gi h) (gH hH)
 | mpD o v h=>exact .mpD _ _ (gH h)
 | bp o b T E r bs h hH=>exact .bp _ b T E r bs (gi h) (gH hH)
 | bpD o v h=>exact .bpD _ _ (gH h)
 | junk v=>exact .junk v
 | ptrD o off v h=>exact .ptrD _ _ _ (gH h)
 | epD o i j tot v h=>exact .epD _ _ _ _ _ (gH h)
 | slD o off len tot v h=>exact .slD _ _ _ _ _ (gH h)
 | epS o i j tot v S xs h hne=>exact .epS _ _ _ _ _ S xs (gH h) hne
 | slS o off len tot v S xs h hne=>exact .slS _ _ _ _ _ S xs (gH h) hne
 | slC o tot b cap cs h hH hl hm=>exact .slC _ _ b cap cs (gi h) (gH hH) hl hm
theorem XU {α:Type} {A B:List α} {i:Nat} {x:α} (h:(A++B)[i]? =some x):(i<A.length/\A[i]? =some x)\/(∃j,i=A.length+j/\B[j]? =some x):=by
 by_cases hlt:i<A.length
 ·rw [List.getElem?_append_left hlt] at h;exact .inl ⟨hlt,h⟩
 ·rw [List.getElem?_append_right (by omega)] at h;exact .inr ⟨i-A.length,by omega,h⟩
theorem Zu {α:Type} {A B:List α} {j:Nat} :(A++B)[A.length+j]? =B[j]? :=by
 rw [List.getElem?_append_right (by omega)];congr 1;omega
def refH (n:Nat) (H:List Obj):Bool:=H.all fun o=>match o with | .cells cs=>ZJ n cs | .bld _ _ r _=>decide (r<n) | _=>true
theorem ZfT {n:Nat} {H:List Obj} (h:refH n H=true) {o:Nat} {cs:List V} (ho:H[o]? =some (.cells cs)) {j:Nat} {x:V} (hj:cs[j]? =some x):refB n x=true:=by
 have:=List.all_eq_true.1 h _ (List.mem_of_getElem? ho);exact ZH this j x hj
theorem Zf0 {n:Nat} {H:List Obj} (h:refH n H=true) {o T E r:Nat} {bs:List UInt8} (ho:H[o]? =some (.bld T E r bs)):r<n:=by
 have:=List.all_eq_true.1 h _ (List.mem_of_getElem? ho);simpa using this
theorem Rel.front {F H0 L ι0 ιL w} (hl:ι0.length=H0.length) (hf:refH H0.length H0=true) (hr:Rel F (H0++L) (ι0++ιL) w):Rel (Own F ιL) H0 ι0 w:=by
 have gi: ∀ {o:Nat} {q},ι0[o]? =some q->(ι0++ιL)[o]? =some q:=fun h=>by rw [List.getElem?_append_left (List.getElem?_eq_some_iff.1 h).1];exact h
 have gH: ∀ {o:Nat} {q},H0[o]? =some q->(H0++L)[o]? =some q:=fun h=>by rw [List.getElem?_append_left (List.getElem?_eq_some_iff.1 h).1];exact h
 have gi': ∀ {o:Nat} {q},o<H0.length->(ι0++ιL)[o]? =some q->ι0[o]? =some q:=fun ho h=>by rwa [List.getElem?_append_left (by rw [hl];exact ho)] at h
 have lt: ∀ {o:Nat} {q:Obj},H0[o]? =some q->o<H0.length:=fun h=>(List.getElem?_eq_some_iff.1 h).1;refine ⟨⟨hl,fun b hb=> ?_,fun i j b hi hj=>hr.inj i j b (gi hi) (gi hj),fun i b hi=> ?_,fun o cs ho=> ?_,fun o S xs ho=> ?_,fun o es ho=> ?_,fun o T E r bs ho=> ?_⟩,hr.env.le fun b hb=>by rw [XA] at hb;exact hb⟩
 ·rcases hb with hb | hb
  ·exact hr.fin b hb
  ·obtain ⟨i,hi⟩:=List.mem_iff_getElem?.1 hb;exact (hr.avo (ι0.length+i) b (by rw [Zu];exact hi)).2
 ·obtain ⟨a1,a2⟩:=hr.avo i b (gi hi);refine ⟨fun h=> ?_,a2⟩;rcases h with h | h
  ·exact a1 h
  ·obtain ⟨j,hj⟩:=List.mem_iff_getElem?.1 h;have:=hr.inj i (ι0.length+j) b (gi hi) (by rw [Zu];exact hj);have:=(List.getElem?_eq_some_iff.1 hi).1;omega
 ·obtain ⟨b,c,t,e1,e2,e3,e4⟩:=hr.cel o cs (gH ho);exact ⟨b,c,t,gi' (lt ho) e1,e2,e3,fun j x hj=>(e4 j x hj).narrow hl (ZfT hf ho hj)⟩
 ·rcases hr.elm o S xs (gH ho) with ⟨e1,e2⟩ | ⟨b,c,t,cap,e1,e2,e3,e4,e5,e6,e7⟩
  ·exact .inl ⟨gi' (lt ho) e1,e2⟩
  ·exact .inr ⟨b,c,t,cap,gi' (lt ho) e1,e2,e3,e4,e5,e6,fun i x j y hi hj=>by rw [XA];exact e7 i x j y hi hj⟩
 ·obtain ⟨b,a',k,e1,e2,e3⟩:=hr.mpr o es (gH ho);rw [<- XA] at e3;exact ⟨b,a',k,gi' (lt ho) e1,e2,e3⟩
 ·obtain ⟨d0,d,b,go,e1,e2,e3⟩:=hr.bldr o T E r bs (gH ho);have hrl:=Zf0 hf ho;exact ⟨d0,by rw [List.getElem?_append_left hrl] at d;exact d,b,go,gi' (lt ho) e1,gi' hrl e2,e3⟩
theorem Good.front {F H0 L ι0 ιL w H1 ι1 w'} (hl:ι0.length=H0.length) (hr:Rel F (H0++L) (ι0++ιL) w) (g:Good (Own F ιL) H0 ι0 w H1 ι1 w') (hn:H1.length=H0.length):Good F (H0++L) (ι0++ιL) w (H1++L) (ι1++ιL) w':=by
 have hl1:=g.rel.len
 have hLlen:ιL.length=L.length:=by have:=hr.len;simp at this;omega
 have disj: ∀ {b:Nat},some b∈ιL->some b ∉ ι0:=fun {b} hb h=>by
  obtain ⟨i,hi⟩:=List.mem_iff_getElem?.1 hb;obtain ⟨j,hj⟩:=List.mem_iff_getElem?.1 h;have hjl:=(List.getElem?_eq_some_iff.1 hj).1;have:=hr.inj (ι0.length+i) j b (by rw [Zu];exact hi) (by rw [List.getElem?_append_left hjl];exact hj);omega
 have oldL: ∀ {j b:Nat},ιL[j]? =some (some b)->b<w.heap.size/\w'.heap[b]? =w.heap[b]? :=fun {j b} h=>by
  have h1:=(hr.avo (ι0.length+j) b (by rw [Zu];exact h)).2;exact ⟨h1,g.keep b h1 (disj (List.mem_of_getElem? h))⟩
 have hKeeps:Keeps (Own F (ι0++ιL)) w (Own F (ι1++ιL)) w':=fun b hb hs=>by
  have h0:some b ∉ ι0:=fun h=>hb (.inr (by simp [h]));refine ⟨fun h=> ?_,by have:=g.size;omega,g.keep b hs h0⟩;rcases h with h | h
  ·exact hb (.inl h)
  ·rcases List.mem_append.1 h with h | h
   ·exact g.own b hs h0 h
   ·exact hb (.inr (by simp [h]))
 have hHX:HX (H0++L) (ι0++ιL) w (H1++L) (ι1++ιL) w':=fun o ob ho=>by
  rcases XU ho with ⟨hlt,h0⟩ | ⟨j,rfl,hj⟩
  ·have e1: ∀ {q},H1[o]? =some q->(H1++L)[o]? =some q:=fun h=>by rw [List.getElem?_append_left (by omega)];exact h
   have e2:(ι0++ιL)[o]? =ι0[o]? :=List.getElem?_append_left (by omega);have e3:(ι1++ιL)[o]? =ι1[o]? :=List.getElem?_append_left (by omega);rcases g.hx o ob h0 with h | h
   ·exact .inl (e1 h)
   ·right
    cases ob with
    | dead=>exact h.elim
    | cells cs=>exact ⟨by obtain ⟨cs',h⟩:=h.1;exact ⟨cs',e1 h⟩,by rw [e2,e3];exact h.2⟩
    | map es=>exact ⟨by obtain ⟨cs',h⟩:=h.1;exact ⟨cs',e1 h⟩,by rw [e2,e3];exact h.2⟩
    | bld T E r bs=>exact ⟨by obtain ⟨cs',h⟩:=h.1;exact ⟨cs',e1 h⟩,by rw [e2,e3];exact h.2⟩
    | elems S xs =>
     obtain ⟨xs',h1,h2⟩:=h;exact ⟨xs',e1 h1,by rw [e2,e3];exact h2⟩
  ·have e1:(H1++L)[H0.length+j]? =some ob:=by rw [<- hn,Zu];exact hj
   have e2:(ι0++ιL)[H0.length+j]? =ιL[j]? :=by rw [<- hl,Zu]
   have e3:(ι1++ιL)[H0.length+j]? =ιL[j]? :=by rw [<- hn,<- hl1,Zu]
   cases ob with
   | dead=>exact .inl e1
   | cells cs=>exact .inr ⟨⟨_,e1⟩,by rw [e2,e3]⟩
   | map es=>exact .inr ⟨⟨_,e1⟩,by rw [e2,e3]⟩
   | bld T E r bs=>exact .inr ⟨⟨_,e1⟩,by rw [e2,e3]⟩
   | elems S xs=>exact .inr ⟨_,e1,.inr ⟨rfl,by rw [e2,e3],fun b c t hb hc=>⟨c,by rw [e2] at hb;rw [(oldL hb).2];exact hc,rfl⟩⟩⟩
 refine Good.up hr.env ⟨⟨by simp;omega,fun b hb=>by have:=hr.fin b hb;have:=g.size;omega,fun i j b hi hj=> ?_,fun i b hi=> ?_,fun o cs ho=> ?_,fun o S xs ho=> ?_,fun o es ho=> ?_,fun o T E r bs ho=> ?_⟩,g.os,g.tape,g.output,fun b c t h=>(g.shape b c t h).imp (fun h=>⟨List.mem_append_left _ h.1,fun h3=>(List.mem_append.1 h3).elim h.2 fun h4=>by
   obtain ⟨i,hi⟩:=List.mem_iff_getElem?.1 h.1;obtain ⟨j,hj⟩:=List.mem_iff_getElem?.1 h4;have hi':=(List.getElem?_eq_some_iff.1 hi).1;have:=hr.inj i (ι0.length+j) b (by rw [List.getElem?_append_left hi'];exact hi) (by rw [Zu];exact hj)
   omega⟩) id,g.size,fun b hb ho=> ?_,fun b hb ho h=> ?_,hHX⟩
 ·rcases XU hi with ⟨h1,h2⟩ | ⟨i1,rfl,h2⟩<;>rcases XU hj with ⟨k1,k2⟩ | ⟨j1,rfl,k2⟩
  ·exact g.rel.inj i j b h2 k2
  ·exact absurd (.inr (List.mem_of_getElem? k2)) (g.rel.avo i b h2).1
  ·exact absurd (.inr (List.mem_of_getElem? h2)) (g.rel.avo j b k2).1
  ·have:=hr.inj (ι0.length+i1) (ι0.length+j1) b (by rw [Zu];exact h2) (by rw [Zu];exact k2);omega
 ·rcases XU hi with ⟨h1,h2⟩ | ⟨i1,rfl,h2⟩
  ·obtain ⟨a1,a2⟩:=g.rel.avo i b h2;exact ⟨fun h=>a1 (.inl h),a2⟩
  ·obtain ⟨a1,a2⟩:=hr.avo (ι0.length+i1) b (by rw [Zu];exact h2);have:=g.size;exact ⟨a1,by omega⟩
 ·rcases XU ho with ⟨h1,h2⟩ | ⟨j,rfl,h2⟩
  ·obtain ⟨b,c,t,e1,e2,e3,e4⟩:=g.rel.cel o cs h2;exact ⟨b,c,t,by rw [List.getElem?_append_left (by omega)];exact e1,e2,e3,fun j x hj=>(e4 j x hj).widen⟩
  ·obtain ⟨b,c,t,e1,e2,e3,e4⟩:=hr.cel (H0.length+j) cs (by rw [Zu];exact h2)
   have e1':ιL[j]? =some (some b):=by rw [<- hl,Zu] at e1;exact e1
   exact ⟨b,c,t,by rw [<- hl1,Zu];exact e1',by rw [(oldL e1').2];exact e2,e3,fun j x hj=>(e4 j x hj).ext hKeeps hHX⟩
 ·rcases XU ho with ⟨h1,h2⟩ | ⟨j,rfl,h2⟩
  ·rcases g.rel.elm o S xs h2 with ⟨e1,e2⟩ | ⟨b,c,t,cap,e1,e2,e3,e4,e5,e6,e7⟩
   ·exact .inl ⟨by rw [List.getElem?_append_left (by omega)];exact e1,e2⟩
   ·exact .inr ⟨b,c,t,cap,by rw [List.getElem?_append_left (by omega)];exact e1,e2,e3,e4,e5,e6,fun i x j y hi hj=>by have:=e7 i x j y hi hj;rw [XA] at this;exact this⟩
  ·rcases hr.elm (H0.length+j) S xs (by rw [Zu];exact h2) with ⟨e1,e2⟩ | ⟨b,c,t,cap,e1,e2,e3,e4,e5,e6,e7⟩
   ·rw [<- hl,Zu] at e1;exact .inl ⟨by rw [<- hl1,Zu];exact e1,e2⟩
   ·rw [<- hl,Zu] at e1;exact .inr ⟨b,c,t,cap,by rw [<- hl1,Zu];exact e1,by rw [(oldL e1).2];exact e2,e3,e4,e5,e6,fun i x j y hi hj=>(e7 i x j y hi hj).ext hKeeps⟩
 ·rcases XU ho with ⟨h1,h2⟩ | ⟨j,rfl,h2⟩
  ·obtain ⟨b,a',k,e1,e2,e3⟩:=g.rel.mpr o es h2;rw [XA] at e3;exact ⟨b,a',k,by rw [List.getElem?_append_left (by omega)];exact e1,e2,e3⟩
  ·obtain ⟨b,a',k,e1,e2,e3⟩:=hr.mpr (H0.length+j) es (by rw [Zu];exact h2)
   have e1':ιL[j]? =some (some b):=by rw [<- hl,Zu] at e1;exact e1
   exact ⟨b,a',k,by rw [<- hl1,Zu];exact e1',by rw [(oldL e1').2];exact e2,e3.ext hKeeps⟩
 ·rcases XU ho with ⟨h1,h2⟩ | ⟨j,rfl,h2⟩
  ·obtain ⟨d0,d,b,go,e1,e2,e3⟩:=g.rel.bldr o T E r bs h2;have hrl:=(List.getElem?_eq_some_iff.1 d).1;exact ⟨by omega,by rw [List.getElem?_append_left hrl];exact d,b,go,by rw [List.getElem?_append_left (by omega)];exact e1,by rw [List.getElem?_append_left (by omega)];exact e2,e3⟩
  ·obtain ⟨d0,d,b,go,e1,e2,e3⟩:=hr.bldr (H0.length+j) T E r bs (by rw [Zu];exact h2)
   have e1':ιL[j]? =some (some b):=by rw [<- hl,Zu] at e1;exact e1
   have up: ∀ {i:Nat} {q:Option Nat},(ι0++ιL)[i]? =some q->H0.length<=i->(ι1++ιL)[i]? =some q/\ ∀b,q=some b->w'.heap[b]? =w.heap[b]? :=fun {i q} hi hle=>by
    obtain ⟨m,rfl⟩: ∃m,i=H0.length+m:=⟨i-H0.length,by omega⟩
    have hm:ιL[m]? =some q:=by rw [<- hl,Zu] at hi;exact hi
    exact ⟨by rw [<- hn,<- hl1,Zu];exact hm,fun b hb=>(oldL (by rw [hm,hb])).2⟩
   obtain ⟨u1,u2⟩:=up e2 (by omega);have u3:=(up e1 (by omega)).1;refine ⟨by rw [hn];exact d0,?_,b,go,by rw [hn];exact u3,u1,e3.ext ((up e1 (by omega)).2 b rfl) u2⟩;obtain ⟨m,rfl⟩: ∃m,r=H0.length+m:=⟨r-H0.length,by omega⟩;rw [Zu] at d;rw [<- hn,Zu];exact d
 ·exact g.keep b hb fun h=>ho (by simp [h])
 ·rcases List.mem_append.1 h with h | h
  ·exact g.own b hb (fun h=>ho (by simp [h])) h
  ·exact ho (by simp [h])
theorem ACalls.front {P g} {args:List V} {H0:List Obj} {Q:V->List Obj->Prop} (h:ACalls P g args H0 fun x H'=>Q x H'/\H'.length=H0.length) (ha:ZJ H0.length args=true) (hf:refH H0.length H0=true) (L:List Obj) :
  ACalls P g args (H0++L) fun x H'=> ∃H1,Q x H1/\H'=H1++L:=by
 refine ⟨h.1,fun F ι w vs hr hv=> ?_⟩;have hlen:=hr.len;simp at hlen;obtain ⟨ι0,ιL,rfl,hl⟩: ∃ι0 ιL,ι=ι0++ιL/\ι0.length=H0.length:=⟨ι.take H0.length,ι.drop H0.length,by simp,by simp;omega⟩;refine (h.2 _ _ _ _ (hr.front hl hf) ⟨hv.1,fun j c hj=>(hv.2 j c hj).narrow hl (ZH ha j c hj)⟩).mono ?_;rintro e w' ⟨x,H1,ι1,v,rfl,⟨q,hn⟩,gd,rv⟩;exact ⟨_,_,_,v,rfl,⟨H1,q,rfl⟩,gd.front hl hr hn,rv.widen⟩
theorem ACalls.useP {P g} {args:List V} {H0 H1 L:List Obj} {v:V} {K:V->List Obj->Prop} (h:ACalls P g args H0 fun x H'=>x=v/\H'=H1) (hn:H1.length=H0.length) (k:K v (H1++L)) (ha:ZJ H0.length args=true) (hf:refH H0.length H0=true):ACalls P g args (H0++L) K :=
 (ACalls.front (Q:=fun x H'=>x=v/\H'=H1) (h.mono fun x H' hq=>⟨hq,by rw [hq.2];exact hn⟩) ha hf L).mono fun x H' hq=>by
  obtain ⟨H2,⟨rfl,rfl⟩,rfl⟩:=hq;exact k
def fzV (o:Nat) (xs:List PV):V->V
 | .sl o' off len tot=>if o'=o/\xs.length=tot/\off+len<=tot then .p (.list false ((xs.take (off+len)).drop off)) else .sl o' off len tot
 | x=>x
def J6 (f:V->V):Obj->Obj
 | .cells cs=> .cells (cs.map f)
 | x=>x
def fzO (o:Nat) (xs:List PV):Obj->Obj:=J6 (fzV o xs)
def fzH (o:Nat) (xs:List PV) (H:List Obj):List Obj:=(H.map (fzO o xs)).set o .dead
theorem Weak.fzG (f:V->V) {n0 fr H} (o:Nat) {S:Nat} {xs:List PV} (ho:H[o]? =some (.elems S xs))
  (hf0: ∀ {F H' ι ι' w},Keeps (Own F ι) w (Own F ι') w->HX H ι w H' ι' w->(∀ {off len tot v},xs.length=tot->off+len<=tot->RV F H ι w (.sl o off len tot) v->RV F H' ι' w (.p (.list false ((xs.take (off+len)).drop off))) v)-> ∀ {x v},RV F H ι w x v->RV F H' ι' w (f x) v) :
  Weak n0 fr H (fr.map f) ((H.map (J6 f)).set o .dead):=fun F ι a w hr hf=>by
 have hol:=(List.getElem?_eq_some_iff.1 ho).1;have hlen:=hr.len
 have gne: ∀ {i:Nat},i≠o->((H.map (J6 f)).set o .dead)[i]? =(H[i]?).map (J6 f):=fun {i} hi=>by
  rw [List.getElem?_set_ne (fun h=>hi h.symm),List.getElem?_map]
 have geq:((H.map (J6 f)).set o .dead)[o]? =some .dead:=by simp [hol]
 have ine: ∀ {i:Nat},i≠o->(ι.set o none)[i]? =ι[i]? :=fun {i} hi=>List.getElem?_set_ne (fun h=>hi h.symm)
 have ieq:(ι.set o none)[o]? =some none:=by simp [hlen,hol]
 have hsub: ∀ {i b:Nat},(ι.set o none)[i]? =some (some b)->i≠o/\ι[i]? =some (some b):=fun {i b} hi=>by
  by_cases h:i=o
  ·subst h;rw [ieq] at hi;cases hi
  ·exact ⟨h,by rw [<- ine h];exact hi⟩
 have hown: ∀b,Own F (ι.set o none) b->Own F ι b:=fun b hb=>by
  rcases hb with hb | hb
  ·exact .inl hb
  ·obtain ⟨i,hi⟩:=List.mem_iff_getElem?.1 hb;exact .inr (List.mem_of_getElem? (hsub hi).2)
 have hX:Keeps (Own F ι) w (Own F (ι.set o none)) w:=fun b hb hs=>⟨fun h=>hb (hown b h),hs,rfl⟩
 have hHX:HX H ι w ((H.map (J6 f)).set o .dead) (ι.set o none) w:=fun i ob hi=>by
  by_cases h:i=o
  ·subst h;exact .inl geq
  ·have e:((H.map (J6 f)).set o .dead)[i]? =some (J6 f ob):=by rw [gne h,hi];rfl
   cases ob with
   | dead=>exact .inl e
   | cells cs=>exact .inr ⟨⟨_,e⟩,ine h⟩
   | map es=>exact .inr ⟨⟨_,e⟩,ine h⟩
   | bld T E r bs=>exact .inr ⟨⟨_,e⟩,ine h⟩
   | elems S xs=>exact .inr ⟨_,e,.inr ⟨rfl,ine h,fun b c t _ hc=>⟨c,hc,rfl⟩⟩⟩
 have hval: ∀ {x v},RV F H ι w x v->RV F ((H.map (J6 f)).set o .dead) (ι.set o none) w (f x) v:=hf0 hX hHX fun h1 h2 hv=>by
  refine .p _ _ (Qw _ (fun b hb h=> ?_) hX hr ho h1 h2 hv);rcases h with h | h
  ·exact (hr.avo _ b hb).1 h
  ·obtain ⟨i,hi⟩:=List.mem_iff_getElem?.1 h;obtain ⟨h3,h4⟩:=hsub hi;exact h3 (hr.inj _ _ _ h4 hb)
 have hrel:Rel F ((H.map (J6 f)).set o .dead) (ι.set o none) w:=by
  refine ⟨⟨by simp [hlen],hr.fin,fun i j b hi hj=>hr.inj i j b (hsub hi).2 (hsub hj).2,fun i b hi=>hr.avo i b (hsub hi).2,fun i cs hi=> ?_,fun i S' ys hi=> ?_,fun i es hi=> ?_,?_⟩,hr.env.le fun b hb=>hb.imp id fun h=>by rcases List.mem_or_eq_of_mem_set h with h | h;exact h;cases h⟩
  ·by_cases h:i=o
   ·subst h;rw [geq] at hi;cases hi
   ·rw [gne h] at hi;obtain ⟨ob,h1,h2⟩:=Option.map_eq_some_iff.1 hi
    cases ob<;>(try simp only [J6] at h2)<;>try cases h2
    rename_i cs0;obtain ⟨b,c,t,e1,e2,e3,e4⟩:=hr.cel i cs0 h1;refine ⟨b,c,t,by rw [ine h];exact e1,e2,by simpa using e3,fun j x hj=> ?_⟩;rw [List.getElem?_map] at hj;obtain ⟨y,h5,rfl⟩:=Option.map_eq_some_iff.1 hj;exact hval (e4 j y h5)
  ·by_cases h:i=o
   ·subst h;rw [geq] at hi;cases hi
   ·rw [gne h] at hi;obtain ⟨ob,h1,h2⟩:=Option.map_eq_some_iff.1 hi
    cases ob<;>(try simp only [J6] at h2)<;>try cases h2
    rcases hr.elm i _ _ h1 with ⟨e1,e2⟩ | ⟨b,c,t,cap,e1,e2,e3,e4,e5,e6,e7⟩
    ·exact .inl ⟨by rw [ine h];exact e1,e2⟩
    ·exact .inr ⟨b,c,t,cap,by rw [ine h];exact e1,e2,e3,e4,e5,e6,fun i x j y hi hj=>(e7 i x j y hi hj).ext hX⟩
  ·by_cases h:i=o
   ·subst h;rw [geq] at hi;cases hi
   ·rw [gne h] at hi;obtain ⟨ob,h1,h2⟩:=Option.map_eq_some_iff.1 hi
    cases ob<;>(try simp only [J6] at h2)<;>try cases h2
    obtain ⟨b,a',k,e1,e2,e3⟩:=hr.mpr i _ h1;exact ⟨b,a',k,by rw [ine h];exact e1,e2,e3.ext hX⟩
  ·refine Yr hr (fun i T E r bs hi=> ?_) fun i ob hi hs=> ?_
   ·by_cases h:i=o
    ·subst h;rw [geq] at hi;cases hi
    ·rw [gne h] at hi;obtain ⟨ob,h1,h2⟩:=Option.map_eq_some_iff.1 hi
     cases ob<;>(try simp only [J6] at h2)<;>try cases h2
     exact h1
   ·have h:i≠o:=fun e=>by subst e;rw [ho] at hi;simp at hi;subst hi;cases hs
    refine ⟨?_,ine h,fun _ _=>rfl⟩;rw [gne h,hi]
    cases ob<;>first | rfl | cases hs
 have hg:Good F H ι w ((H.map (J6 f)).set o .dead) (ι.set o none) w:=⟨hrel,rfl,Tp.rfl,rfl,fun _ c _ h=> .inr ⟨c,h,rfl⟩,Nat.le_refl _,fun _ _ _=>rfl,fun b hb hno h=>by
  obtain ⟨i,hi⟩:=List.mem_iff_getElem?.1 h
  exact hno (List.mem_of_getElem? (hsub hi).2),hHX⟩
 refine ⟨ι.set o none,hrel,⟨by simpa using hf.1,hf.2.1,fun i x hi=> ?_⟩,fun H0 ι0 w0 _ g=>g.trans hg⟩;rw [List.getElem?_map] at hi;obtain ⟨y,h5,rfl⟩:=Option.map_eq_some_iff.1 hi;exact hval (hf.2.2 i y h5)
theorem Weak.fz {n0 fr H} (o:Nat) {S:Nat} {xs:List PV} (ho:H[o]? =some (.elems S xs)):Weak n0 fr H (fr.map (fzV o xs)) (fzH o xs H) :=
 Weak.fzG (fzV o xs) o ho fun {_ _ _ _ _} hX hHX row {x v} hv=>by
  unfold fzV
  split
  ·split
   ·rename_i hc;obtain ⟨rfl,h1,h2⟩:=hc;exact row h1 h2 hv
   ·exact hv.ext hX hHX
  ·exact hv.ext hX hHX
@[go_sem] theorem ZxF {o xs H} :fzH o xs H=(H.map (fzO o xs)).set o .dead:=rfl
@[go_sem] theorem ZqD {o xs cs} :fzO o xs (.cells cs)= .cells (cs.map (fzV o xs)):=rfl
@[go_sem] theorem Zro {o xs S ys} :fzO o xs (.elems S ys)= .elems S ys:=rfl
@[go_sem] theorem Zu2 {o xs es} :fzO o xs (.map es)= .map es:=rfl
@[go_sem] theorem ZwH {o xs T E r bs} :fzO o xs (.bld T E r bs)= .bld T E r bs:=rfl
@[go_sem] theorem ZxE {o xs a} :fzV o xs (.bp a)= .bp a:=rfl
@[go_sem] theorem Zza {o xs a} :fzV o xs (.mp a)= .mp a:=rfl
@[go_sem] theorem Zr3 {o xs} :fzO o xs .dead= .dead:=rfl
@[go_sem] theorem Zzo {o xs x} :fzV o xs (.p x)= .p x:=rfl
@[go_sem] theorem ZuT {o xs x} :fzV o xs (.agg x)= .agg x:=rfl
@[go_sem] theorem Zw8 {o xs f a b} :fzV o xs (.fn f a b)= .fn f a b:=rfl
@[go_sem] theorem Zvc {o xs a b} :fzV o xs (.ptr a b)= .ptr a b:=rfl
@[go_sem] theorem Zya {o xs a b c d} :fzV o xs (.ep a b c d)= .ep a b c d:=rfl
@[go_sem] theorem Zzb {o xs a b} :fzV o xs (.lp a b)= .lp a b:=rfl
@[go_sem] theorem ZuN {o xs a} :fzV o xs (.tup a)= .tup a:=rfl
@[go_sem] theorem Zsl {o xs} :fzV o xs .junk= .junk:=rfl
def fzW (xs:List PV) (o n:Nat):V:=if xs.length=n then .p (.list false xs) else .sl o 0 n n
@[go_sem] theorem ZyW {o xs o' n} :fzV o xs (.sl o' 0 n n)=if o'=o then fzW xs o n else .sl o' 0 n n:=by
 by_cases h:o'=o
 ·subst h
  by_cases h2:xs.length=n
  ·subst h2;simp [fzV,fzW]
  ·simp [fzV,fzW,h2]
 ·simp [fzV,h]
@[go_sem low] theorem Zy8 {xs o n} :fzW xs o n=if xs.length=n then .p (.list false xs) else .sl o 0 n n:=rfl
@[go_sem] theorem ZuM {α:Type} {f:α->PV} {l:List α} {o} :fzW (l.map f) o l.length= .p (.list false (l.map f)):=by simp [fzW]
@[go_sem] theorem Zwk {x o} :fzW [x] o 1= .p (.list false [x]):=by simp [fzW]
@[go_sem] theorem ZuP {x y o} :fzW [x,y] o 2= .p (.list false [x,y]):=by simp [fzW]
@[go_sem] theorem ZtT {α:Type} {f:α->PV} {l:List α} {x o} :fzW (l.map f++ [x]) o (l.length+1)= .p (.list false (l.map f++ [x])):=by simp [fzW]
theorem ACalls.pureE {P g args} {α:Type} {f:α->PV} {R:α->Prop} (h:ACalls P g args [] fun x _=> ∃a,R a/\x= .p (f a)):ACalls P g args [] fun x H'=> ∃a,R a/\x= .p (f a)/\H'= [] :=
 ⟨h.1,fun F ι w vs hr hv=>(h.2 F ι w vs hr hv).mono fun e w' ⟨x,H',ι',v,he,⟨a,ha,hx⟩,g,r⟩=>by
  have hi:ι= []:=List.eq_nil_of_length_eq_zero hr.len;subst hi;subst hx;refine ⟨.p (f a),[],[],v,he,⟨a,ha,rfl,rfl⟩,g.forget hr.env hr.fin,?_⟩
  cases r with | p _ _ r =>
  exact .p _ _ (r.weaker fun b hb=>by
   rcases hb with hb | hb
   ·exact .inl hb
   ·simp at hb)⟩
inductive Tr where
 | nil
 | cons (i:Nat) (sub rest:Tr)
def Tr.ids : Tr->List Nat
 | .nil=> []
 | .cons i _ r=>i::r.ids
def Tr.depth : Tr->Nat
 | .nil=>0
 | .cons _ s r=>max (s.depth+1) r.depth
def Zdz (ops:Array Oper):Array Bool->Tr->Bool
 | _,.nil=>true
 | listed,.cons i sub rest=>decide (Region.ready .any ops (listed.setIfInBounds i true)=sub.ids)&&Zdz ops (listed.setIfInBounds i true) sub&&Zdz ops listed rest
def ZoL (ops:Array Oper) (t:Tr):Bool:=decide (Region.ready .any ops (Array.replicate ops.size false)=t.ids)&&Zdz ops (Array.replicate ops.size false) t&&decide (t.depth<=ops.size)&&decide (t.ids≠ [])
def Zex : List Oper->Nat->Option Oper
 | [],_=>none
 | o::_,0=>some o
 | _::l,n+1=>Zex l n
theorem ZeU : ∀(l:List Oper) (i:Nat),Zex l i=l[i]?
 | [],_=>by simp [Zex]
 | o::l,0=>by simp [Zex]
 | o::l,n+1=>by simp [Zex,ZeU l n]
def Zk7 (P:Program) (ds:List (Option Nat)) (o:Option Oper) (fr:List V) (H:List Obj) (k:List V->List Obj->Prop):Prop:=match o with
 | none=>False
 | some o=>match o.guard with
  | none=>Zq P o fr H (fun x H'=>k (ptO fr o.dst x) H')
  | some (j,b)=>ZX (gAt fr ds j) b (Zq P o fr H (fun x H'=>k (ptO fr o.dst x) H')) (k (ptO fr o.dst (.tup [])) H)
def Wp (P:Program) (ds:List (Option Nat)) (l:List Oper) (K:List V->List Obj->Prop):Tr->List V->List Obj->Prop
 | .nil,_,_=>True
 | .cons i sub rest,fr,H=>Zk7 P ds (Zex l i) fr H (fun fr' H'=>match sub with | .nil=>K fr' H' | .cons _ _ _=>Wp P ds l K sub fr' H')/\Wp P ds l K rest fr H
theorem K6 {P:Program} {ops:Array Oper} {Q:Exit->Act->World->Prop} {K:List V->List Obj->Prop} : ∀(t:Tr) (listed:Array Bool) (fr:List V) (H:List Obj),Zdz ops listed t=true->Wp P (ops.toList.map (·.dst)) ops.toList K t fr H ->
  ∀F ι a w,Rel F H ι w->Fr F H ι w fr a->(∀fr' H' ι' a' w',K fr' H'->Good F H ι w H' ι' w'->Fr F H' ι' w' fr' a'->Q .normal a' w') ->
  ∀fuel,t.depth<=fuel+1-> ∀i∈t.ids,wpOp P ops Q i (wpAny P .any ops Q fuel (listed.setIfInBounds i true)) a w:=by
 intro t
 induction t with
 | nil=>intro listed fr H _ _ F ι a w _ _ _ fuel _ i hi;simp [Tr.ids] at hi
 | cons i sub rest ihs ihr =>
  intro listed fr H hB hk F ι a w hr hf hq fuel hd j hj;simp only [Zdz,Bool.and_eq_true,decide_eq_true_eq] at hB;obtain ⟨⟨hB1,hB2⟩,hB3⟩:=hB;simp only [Wp] at hk;simp only [Tr.depth] at hd;rw [Tr.ids,List.mem_cons] at hj;rcases hj with rfl | hj
  rotate_left
  ·exact ihr listed fr H hB3 hk.2 F ι a w hr hf hq fuel (by omega) j hj
  have hk1:=hk.1
  -- what comes behind
  have next: ∀fr' H' ι' a' w',(match sub with | .nil=>K fr' H' | .cons _ _ _=>Wp P (ops.toList.map (·.dst)) ops.toList K sub fr' H')->Good F H ι w H' ι' w'->Fr F H' ι' w' fr' a'->wpAny P .any ops Q fuel (listed.setIfInBounds j true) a' w':=by
   intro fr' H' ι' a' w' hkk g f
   cases sub with
   | nil =>
    have hQ:=hq fr' H' ι' a' w' hkk g f
    cases fuel with
    | zero=>exact ⟨hB1,hQ⟩
    | succ fuel=>exact ⟨fun _=>hQ,fun q hq=>by rw [hB1] at hq;simp [Tr.ids] at hq⟩
   | cons i2 s2 r2 =>
    cases fuel with
    | zero=>simp [Tr.depth] at hd;omega
    | succ fuel =>
     refine ⟨fun h=>by rw [hB1] at h;simp [Tr.ids] at h,fun q hq2=> ?_⟩;rw [hB1] at hq2;exact ihs (listed.setIfInBounds j true) fr' H' hB2 hkk F ι' a' w' g.rel f (fun fr2 H2 ι2 a2 w2 k2 g2 f2=>hq fr2 H2 ι2 a2 w2 k2 (g.trans g2) f2) fuel (by omega) q hq2
  unfold Zk7 at hk1;rw [ZeU] at hk1
  cases ho:ops.toList[j]? with
  | none=>rw [ho] at hk1;exact hk1.elim
  | some o =>
   rw [ho] at hk1
   have ho2:ops[j]? =some o:=by simpa using ho
   unfold wpOp;rw [ho2];simp only
   have step:Zq P o fr H (fun x H'=>match sub with | .nil=>K (ptO fr o.dst x) H' | .cons _ _ _=>Wp P (ops.toList.map (·.dst)) ops.toList K sub (ptO fr o.dst x) H')->o.wp P a w (wpAny P .any ops Q fuel (listed.setIfInBounds j true)) Q:=fun h =>
    YH h hr hf fun x H' ι' v w' hkk g r=>next _ H' ι' _ w' hkk g ((g.fr hf).put o.dst r)
   simp only at hk1
   split at hk1
   ·rename_i hg
    have hw:Region.wanted o (yielded ops a.tmps)=true:=by simp [Region.wanted,hg]
    rw [if_pos hw];exact .inl (step hk1)
   ·rename_i q b hg;unfold ZX at hk1
    split at hk1
    rotate_left
    ·rename_i hc;have hy:=Xj hf hc
     have hw: ¬(Region.wanted o (yielded ops a.tmps)=true):=by simp [Region.wanted,hg,hy]
     rw [if_neg hw];exact next _ H ι _ w hk1 (Good.refl hr) (hf.put o.dst XB)
    ·exact hk1.elim
    rename_i c hc;have hy:=XP hf hc
    by_cases hcb:c=b
    ·have hw:Region.wanted o (yielded ops a.tmps)=true:=by simp [Region.wanted,hg,hy,hcb]
     rw [if_pos hw];exact .inl (step (hk1.1 hcb))
    ·have hw: ¬(Region.wanted o (yielded ops a.tmps)=true):=by simp [Region.wanted,hg,hy,hcb]
     rw [if_neg hw];exact next _ H ι _ w (hk1.2 hcb) (Good.refl hr) (hf.put o.dst XB)
theorem ZbN (t:Tr) {P:Program} {id:Nat} {l:List Oper} {fr:List V} {H:List Obj} {Q:Exit->List V->List Obj->Prop} {tk} (hm:P.follows .mixedOrders=true) (hB:ZoL (List.toArray l) t=true)
  (h:Wp P (l.map (·.dst)) l (Q .normal) t fr H):AWP P (.region id (ZB (List.toArray l) tk) true) fr H Q:=by
 rw [show ZB (List.toArray l) tk=List.toArray l from rfl];intro F ι a w hr hf;refine wp_region_any hm ?_;simp only [ZoL,Bool.and_eq_true,decide_eq_true_eq] at hB;obtain ⟨⟨⟨h1,h2⟩,h3⟩,h4⟩:=hB;have g0:=Good.drew hr
 have key:=K6 (P:=P) (ops:=List.toArray l) (Q:=fun e a' w'=> ∃fr' H' ι',Q e fr' H'/\Good F H ι w H' ι' w'/\Fr F H' ι' w' fr' a') (K:=Q .normal) t (Array.replicate (List.toArray l).size false) fr H h2 (by simpa using h) F ι a { w with drawn:=w.drawn+1 } g0.rel (g0.fr hf)
  (fun fr' H' ι' a' w' k g f=>⟨fr',H',ι',k,g0.trans g,f⟩)
 cases hs:(List.toArray l).size with
 | zero =>
  exfalso;rw [hs] at h3
  cases t with
  | nil=>exact h4 rfl
  | cons i s r=>simp [Tr.depth] at h3
 | succ n =>
  rw [hs] at h3 key h1;refine ⟨fun hh=>absurd (h1 ▸ hh) h4,fun i hi=> ?_⟩;rw [h1] at hi;exact key n (by omega) i hi
@[go_sem] theorem ZmM {o:Oper} {l} :Zex (o::l) 0=some o:=rfl
@[go_sem] theorem Zp8 {o:Oper} {l n} :Zex (o::l) (n+1)=Zex l n:=rfl
@[go_sem] theorem Zob {P ds fr H k d op t ps af} :Zk7 P ds (some ⟨d,op,t,ps,af,none⟩) fr H k=Zq P ⟨d,op,t,ps,af,none⟩ fr H (ZB (fun x H'=>k (ptO fr d x) H') ⟨⟩):=by simp [Zk7,ZB]
@[go_sem] theorem Zo0 {P ds l K i fr H} :Wp P ds l K (.cons i .nil .nil) fr H=Zk7 P ds (Zex l i) fr H (ZB K ⟨⟩):=by simp [Wp,ZB]
@[go_sem] theorem Zoh {P ds l K i j s r fr H} :Wp P ds l K (.cons i (.cons j s r) .nil) fr H=Zk7 P ds (Zex l i) fr H (ZB (fun fr' H'=>Wp P ds l K (.cons j s r) fr' H') ⟨⟩):=by simp [Wp,ZB]
theorem Km {P ds l K i s j s2 r fr H} (h1:Wp P ds l K (.cons i s .nil) fr H) (h2:Wp P ds l K (.cons j s2 r) fr H):Wp P ds l K (.cons i s (.cons j s2 r)) fr H:=by
 simp only [Wp] at h1 h2 ⊢;exact ⟨h1.1,h2⟩
end Go.AM
set_option linter.unusedVariables false
set_option linter.unusedSimpArgs false
namespace Go.Proofs.YtcpmilhkineciaaGreatDoor.K
open Go Go.AM Go.Proofs
set_option maxRecDepth 8000
theorem Zax {S M:Nat} (hS:S<9223372036854775808):(IntKind.i64.wrap ((BitVec.ofInt 64 (S:Int)&&& ~~~BitVec.ofInt 64 (M:Int)).toNat:Int)=0)↔((List.range 63).all fun i=> !S.testBit i||M.testBit i)=true:=by
 rw [BitVec.ofInt_natCast,BitVec.ofInt_natCast]
 have hz:(BitVec.ofNat 64 S&&& ~~~BitVec.ofNat 64 M).toNat<=S:=by
  rw [BitVec.toNat_and];exact Nat.le_trans Nat.and_le_left (by simp [Nat.mod_le])
 have hw:IntKind.i64.wrap ((BitVec.ofNat 64 S&&& ~~~BitVec.ofNat 64 M).toNat:Int)=((BitVec.ofNat 64 S&&& ~~~BitVec.ofNat 64 M).toNat:Int):=by rw [IntKind.wrap_i64];omega
 rw [hw]
 constructor
 ·intro h;have h0:BitVec.ofNat 64 S&&& ~~~BitVec.ofNat 64 M=0#64:=BitVec.eq_of_toNat_eq (by rw [BitVec.toNat_ofNat];omega);rw [List.all_eq_true];intro i hi;have hi:=List.mem_range.1 hi;have:=congrArg (fun b=>b.getLsbD i) h0;simp only [BitVec.getLsbD_and,BitVec.getLsbD_not,BitVec.getLsbD_ofNat,show i<64 by omega,decide_true,Bool.true_and,BitVec.getLsbD_zero] at this
  cases h1:S.testBit i<;>cases h2:M.testBit i<;>simp [h1,h2] at this ⊢
 ·intro h
  have h0:BitVec.ofNat 64 S&&& ~~~BitVec.ofNat 64 M=0#64:=by
   apply BitVec.eq_of_getLsbD_eq;intro i hi;simp only [BitVec.getLsbD_and,BitVec.getLsbD_not,BitVec.getLsbD_ofNat,hi,decide_true,Bool.true_and,BitVec.getLsbD_zero]
   by_cases g:i<63
   ·have:=List.all_eq_true.1 h i (List.mem_range.2 g)
    cases h1:S.testBit i<;>cases h2:M.testBit i<;>simp [h1,h2] at this ⊢
   ·have hi63:i=63:=by omega
    subst hi63;rw [Nat.testBit_lt_two_pow (by simpa using hS)];rfl
  rw [h0];rfl
theorem orN {a b:Nat} (ha:a<4611686018427387904) (hb:b<4611686018427387904):IntKind.i64.wrap ((BitVec.ofInt 64 (a:Int)|||BitVec.ofInt 64 (b:Int)).toNat:Int)=((a|||b:Nat):Int):=by
 have h:(a|||b)<2^62:=Nat.or_lt_two_pow (by simpa using ha) (by simpa using hb);rw [BitVec.ofInt_natCast,BitVec.ofInt_natCast,BitVec.toNat_or,BitVec.toNat_ofNat,BitVec.toNat_ofNat,Nat.mod_eq_of_lt (by omega),Nat.mod_eq_of_lt (by omega),IntKind.wrap_i64];omega
@[go_sem high] theorem Zg7 {P:Program} {t:TypeId} {a b:Nat} (ha:a<4611686018427387904) (hb:b<4611686018427387904):X4 P .or t (.p (.int .i64 (a:Int))) (.p (.int .i64 (b:Int)))=some (.int .i64 ((a|||b:Nat):Int)):=by
 rw [ZcW];exact congrArg (fun z=>some (PV.int .i64 z)) (orN ha hb)
theorem Zu3 {d:Nat} (h:d<9223372036854775808):IntKind.i64.wrap (d:Int)=(d:Int):=by rw [IntKind.wrap_i64];omega
def dfN (a b:Nat):Nat:=a ^^^ (a&&&b)
theorem K2 (a b j:Nat):(dfN a b).testBit j=(a.testBit j&& !b.testBit j):=by
 rw [dfN,Nat.testBit_xor,Nat.testBit_and];cases a.testBit j<;>cases b.testBit j<;>rfl
theorem Zmp {a b:Nat} (h:a<9223372036854775808):dfN a b<9223372036854775808:=by
 have h1:a&&&b<=a:=Nat.and_le_left;exact Nat.xor_lt_two_pow (n:=63) (by omega) (by omega)
theorem Zi2 {a b:Nat} (ha:a<9223372036854775808) (hb:b<9223372036854775808):IntKind.i64.wrap (((BitVec.ofInt 64 (a:Int)&&& ~~~(BitVec.ofInt 64 (b:Int))).toNat:Nat):Int)=((dfN a b:Nat):Int):=by
 have e:(BitVec.ofInt 64 (a:Int)&&& ~~~(BitVec.ofInt 64 (b:Int))).toNat=dfN a b:=by
  apply Nat.eq_of_testBit_eq;intro j;rw [BitVec.testBit_toNat,BitVec.getLsbD_and,BitVec.getLsbD_not,BitVec.ofInt_natCast,BitVec.ofInt_natCast,BitVec.getLsbD_ofNat,BitVec.getLsbD_ofNat,K2]
  by_cases hj:j<64
  ·simp [hj]
  ·have h1:a.testBit j=false:=by
    have:a<2^j:=Nat.lt_of_lt_of_le ha (Nat.le_trans (by decide:9223372036854775808<=2^63) (Nat.pow_le_pow_right (by omega) (by omega)));exact Nat.testBit_lt_two_pow this
   simp [hj,h1]
 rw [e,Zu3 (Zmp ha)]
@[go_sem high] theorem Zt7 {P:Program} {t:TypeId} {a b:Nat} (ha:a<9223372036854775808) (hb:b<9223372036854775808):X4 P .andNot t (.p (.int .i64 (a:Int))) (.p (.int .i64 (b:Int)))=some (.int .i64 ((dfN a b:Nat):Int)):=by
 rw [KQ];exact congrArg (fun z=>some (PV.int .i64 z)) (Zi2 ha hb)
theorem ZgS {a b:Nat} :dfN a b=0↔ ∀j,a.testBit j=true->b.testBit j=true:=by
 constructor
 ·intro h j hj;have:=K2 a b j;rw [h,Nat.zero_testBit,hj] at this
  cases hb:b.testBit j with
  | true=>rfl
  | false=>rw [hb] at this;cases this
 ·intro h;refine Nat.eq_of_testBit_eq fun j=> ?_;rw [K2,Nat.zero_testBit]
  cases ha:a.testBit j with
  | false=>rfl
  | true=>rw [h j ha];rfl
end Go.Proofs.YtcpmilhkineciaaGreatDoor.K
