/- Declarations that the closing texts need, part 7: joined by tools/slim.py. -/
import Derived.Test.YtmbelkfkhclnkaaGreatDoorZS6
import Derived.JoinedCond
import Derived.OpenShut
import Derived.ProofKit
set_option linter.unusedVariables false
set_option linter.unusedSimpArgs false
namespace Go.AM
open Go.RowKit
mutual
/-- the size of a datum -/
def KB {H:Type} :DataW H->Nat
 | .lit (.string bytes)=>bytes.length+1
 | .lit _=>1
 | .nil=>1
 | .ptr d=>KB d+1
 | .slice elems spare=>Vp elems+Vp spare+1
 | .agg parts=>Vp parts+1
 | .iface _ d=>KB d+1
 | .map _=>1
 | .held _=>1
def Vp {H:Type} :List (DataW H)->Nat
 | []=>0
 | d::r=>KB d+Vp r
end
theorem M3 {H:Type} (d:DataW H):1<=KB d:=by
 cases d with
 | lit l=>cases l<;>simp [KB]
 | _=>simp [KB]
theorem B7 {H:Type} {d:DataW H} {l:List (DataW H)} (h:d∈l):KB d<=Vp l:=by
 induction l with
 | nil=>cases h
 | cons x r ih =>
  grind [Vp]
theorem H5 {H:Type} (l:List (DataW H)):l.length<=Vp l:=by
 induction l with
 | nil=>simp [Vp]
 | cons x r ih=>grind [M3,Vp]
def Q9 (P:Program) (t:TypeId):Option (List (Nat×TypeId)):=match P.underlying t with
 | some (.struct fs)=>some (fs.toList.map fun f=>(f.offset,f.type))
 | some (.array n e)=>some ((List.range n).map fun i=>(i*P.cellsOf e,e))
 | _=>none
def laid (P:Program):List (Nat×TypeId)->Nat->Nat->Bool
 | [],o,tot=>o==tot
 | q::r,o,tot=>q.1==o&&laid P r (o+P.cellsOf q.2) tot
def plain (P:Program):Nat->TypeId->Bool
 | 0,_=>false
 | k+1,t=>match Q9 P t with
  | some l=>laid P l 0 (P.cellsOf t)&&l.all fun q=>plain P k q.2
  | none=>match P.underlying t with
   | some .bool=>true
   | some (.int _)=>true
   | some .string=>true
   | some (.slice e)=>decide (0<P.cellsOf e)&&plain P k e
   | _=>false
def We (P:Program) (e:TypeId) (cs:List PV):PV:=if Z4 P e=some true then .agg cs else cs.headD .nilp
def Xn (P:Program) (B:Nat):Nat->TypeId->List PV->Prop
 | 0,_,_=>False
 | k+1,t,cs=>match Q9 P t with
  | some l=>cs.length=P.cellsOf t/\ ∀q∈l,Xn P B k q.2 ((cs.drop q.1).take (P.cellsOf q.2))
  | none=>match P.underlying t with
   | some .bool=> ∃b,cs= [.bool b]
   | some (.int ik)=> ∃n,cs= [.int ik n]/\(Lit.int ik n).wf=true
   | some .string=> ∃s:List UInt8,cs= [.str s]/\s.length<=B/\s.length<=maxLen
   | some (.slice e)=> ∃xs:List (List PV),cs= [.list false (xs.map (We P e))]/\xs.length<=B/\xs.length<=maxLen/\ ∀x∈xs,Xn P B k e x
   | _=>False
theorem XF {P t l} (h:Q9 P t=some l):Z4 P t=some true:=by
 grind [Q9,Z4]
theorem DQ {P B k e cs} (h:Xn P B k e cs):(We P e cs).cells=cs:=by
 cases k with
 | zero=>exact h.elim
 | succ k =>
  unfold We;simp only [Xn] at h
  split at h
  ·grind [XF,PV.cells]
  ·split at h
   ·rename_i hu;obtain ⟨b,rfl⟩:=h;grind [PV.cells]
   ·rename_i ik hu;obtain ⟨n,rfl,_⟩:=h;grind [PV.cells]
   ·rename_i hu;obtain ⟨s,rfl,_⟩:=h;grind [PV.cells]
   ·rename_i hu;obtain ⟨xs,rfl,_⟩:=h;grind [PV.cells]
   grind
theorem JH {α:Type} {R:Nat->α->Prop} : ∀(n:Nat),(∀i,i<n-> ∃x,R i x)-> ∃l:List α,l.length=n/\ ∀(i:Nat) (x:α),l[i]? =some x->R i x
 | 0,_=>⟨[],rfl,fun i x h=>by simp at h⟩
 | n+1,h=>by
  obtain ⟨l,h1,h2⟩:=JH n fun i hi=>h i Za;obtain ⟨x,hx⟩:=h n Za;refine ⟨l++ [x],by simp [h1],fun i y hi=> ?_⟩
  grind
theorem Ai {α β:Type} {f:α->Option β} : ∀ {l:List α} {r:List β},l.mapM f=some r->r.length=l.length
 | [],r,h=>by grind
 | x::l,r,h=>by
  simp only [List.mapM_cons,Option.bind_eq_bind,Option.bind_eq_some_iff,Option.pure_def,Option.some.injEq] at h;obtain ⟨y,_,ys,h2,rfl⟩:=h;simp [Ai h2]
theorem Ah {α β:Type} {f:α->Option β} : ∀ {l:List α} {r:List β},l.mapM f=some r-> ∀(i:Nat) (x:α),l[i]? =some x-> ∃y,f x=some y/\r[i]? =some y
 | [],r,h,i,x,hx=>by simp at hx
 | a::l,r,h,i,x,hx=>by
  simp only [List.mapM_cons,Option.bind_eq_bind,Option.bind_eq_some_iff,Option.pure_def,Option.some.injEq] at h;obtain ⟨y,h1,ys,h2,rfl⟩:=h
  cases i with
  | zero=>grind
  | succ i=>obtain ⟨z,k1,k2⟩:=Ah h2 i x (by grind);grind
theorem Cp {β:Type} {f:Nat->Option β} {n:Nat} {r:List β} (h:(List.range n).mapM f=some r):r.length=n/\ ∀i,i<n-> ∃y,f i=some y/\r[i]? =some y :=
 ⟨by simpa using Ai h,fun i hi=>Ah h i i (by simp [hi])⟩
theorem Jy {w:World} {a:Addr} {n:Nat} {cs:List Value} (h:w.cells? 0 a n=some cs):cs.length=n/\ ∀j,j<n-> ∃y,w.cell? (a.add j)=some y/\cs[j]? =some y:=by
 simp only [World.cells?,Nat.zero_le,if_true] at h;exact Cp h
theorem KU {w:World} {a:Addr} {v:Value} (h:w.cell? a=some v):a.spot=none/\a.block<w.heap.size:=by
 unfold World.cell? at h
 split at h
 ·rename_i c t fr hb
  split at h
  ·cases h
  ·rename_i hs;exact ⟨by simp_all,(Array.getElem?_eq_some_iff.1 hb).1⟩
 ·cases h
theorem FS (a:Addr):a.add 0=a:=by rfl
theorem Hk (b off n:Nat):(Addr.mk b off none).add n=⟨b,off+n,none⟩:=by
 grind [Addr.add]
theorem ID {cs:List Value} {o n j:Nat} (h:j<n):((cs.drop o).take n).getD j undef=cs.getD (o+j) undef:=by
 grind
theorem Fi {P:Program} {tot:Nat} : ∀ {l:List (Nat×TypeId)} {o:Nat},laid P l o tot=true->o<=tot
 | [],o,h=>by grind [laid]
 | q::r,o,h=>by simp [laid] at h;have:=Fi h.2;omega
theorem BQ {P:Program} {w:World} {B k tot:Nat} {X:Nat->Prop} {cs:List Value} (hc:cs.length=tot): ∀(l:List (Nat×TypeId)) (o:Nat),laid P l o tot=true ->
  (∀q∈l,∃x:List PV,x.length=((cs.drop q.1).take (P.cellsOf q.2)).length/\Xn P B k q.2 x/\ ∀(j:Nat) (c:PV),x[j]? =some c->c.one=true/\RP X w c (((cs.drop q.1).take (P.cellsOf q.2)).getD j undef)) ->
  ∃xs:List PV,xs.length=tot-o/\(∀q∈l,o<=q.1/\Xn P B k q.2 ((xs.drop (q.1-o)).take (P.cellsOf q.2)))/\ ∀(j:Nat) (c:PV),xs[j]? =some c->c.one=true/\RP X w c (cs.getD (o+j) undef)
 | [],o,h,_=>by
  simp_all [laid]
 | q::r,o,h,hq=>by
  simp only [laid,Bool.and_eq_true,beq_iff_eq] at h;obtain ⟨rfl,h⟩:=h;have hle:=Fi h;obtain ⟨xs,h1,h2,h3⟩:=BQ hc r _ h fun p hp=>hq p (by simp [hp]);obtain ⟨x,k1,k2,k3⟩:=hq q Zb
  have hxl:x.length=P.cellsOf q.2:=by grind
  refine ⟨x++xs,by simp;omega,fun p hp=> ?_,fun j c hj=> ?_⟩
  ·rcases List.mem_cons.1 hp with rfl | hp
   ·grind
   grind [List.drop_append,List.drop_eq_nil_of_le]
  grind
theorem AA {H:Type} {enc:TypeId×Value->H} {P:Program} {w:World} {held:Bool} {B:Nat} {X:Nat->Prop} (hX: ∀b,¬X b): ∀(k m:Nat) (t:TypeId) (cs:List Value) (z:DataW H×List MemPlace),
  DataW.trod enc P w 0 (fun _=>true) held k t cs=some z->plain P m t=true->(maxLen<=B\/KB z.1<=B) ->
  ∃xs:List PV,xs.length=cs.length/\Xn P B k t xs/\ ∀(j:Nat) (c:PV),xs[j]? =some c->c.one=true/\RP X w c (cs.getD j undef)
 | 0,m,t,cs,z,h,_,_=>by simp [DataW.trod] at h
 | k+1,0,t,cs,z,h,hp,_=>by simp [plain] at hp
 | k+1,m+1,t,cs,z,h,hp,hB=>by
  have IH:=fun m' t' cs' z'=>AA (enc:=enc) (P:=P) (w:=w) (held:=held) (B:=B) (X:=X) hX k m' t' cs' z'
  have one1: ∀(x:PV) (v:Value),x.one=true->RP X w x v-> ∀(j:Nat) (c:PV),[x][j]? =some c->c.one=true/\RP X w c ([v].getD j undef):=fun x v h1 h2 j c hj=>by
   grind
  simp only [plain] at hp
  split at hp
  ·rename_i l hl;simp only [Bool.and_eq_true,List.all_eq_true] at hp;obtain ⟨hlaid,hp⟩:=hp
   have key: ∃(zs:List (DataW H×List MemPlace)),z.1= .agg (zs.map (·.1))/\cs.length=P.cellsOf t/\ ∀q∈l,∃y∈zs,DataW.trod enc P w 0 (fun _=>true) held k q.2 ((cs.drop q.1).take (P.cellsOf q.2))=some y:=by
    unfold Q9 at hl
    split at hl
    ·rename_i fs hu;simp at hl;subst hl;obtain ⟨zs,n,e1,e2,e3,e4,e5⟩:=DataW.trod_struct hu h
     have:n=k:=Za
     subst this;refine ⟨zs,by rw [e2],e3,fun q hq=> ?_⟩;obtain ⟨f,hf,rfl⟩:=List.mem_map.1 hq
     grind [List.mem_iff_getElem?]
    ·rename_i n e hu;simp at hl;subst hl;obtain ⟨zs,m',e1,e2,e3,e4,e5⟩:=DataW.trod_array hu h
     grind
    ·cases hl
   obtain ⟨zs,hz,hcl,hk⟩:=key
   obtain ⟨xs,h1,h2,h3⟩:=BQ (P:=P) (w:=w) (B:=B) (k:=k) (X:=X) hcl l 0 hlaid fun q hq=>by
    obtain ⟨y,hy,ht⟩:=hk q hq;refine IH m q.2 _ y ht (hp q hq) ?_;rcases hB with hB | hB
    ·exact .inl hB
    ·refine .inr ?_;rw [hz] at hB;have:=B7 (List.mem_map.2 ⟨y,hy,rfl⟩:y.1∈zs.map (·.1))
     grind [KB]
   grind [Xn]
  ·rename_i hl
   split at hp
   ·rename_i hu;obtain ⟨b,rfl,_⟩:=DataW.trod_bool hu h;exact ⟨[.bool b],rfl,by simp [Xn,hl,hu],one1 _ _ rfl (.bool b)⟩
   ·rename_i ik hu;obtain ⟨n,rfl,_,hw⟩:=DataW.trod_int hu h;exact ⟨[.int _ n],rfl,by grind [Xn],one1 _ _ rfl (.int _ n)⟩
   ·rename_i hu;obtain ⟨s,rfl,hz,hs⟩:=DataW.trod_string hu h;have hsl:s.data.toList.length=s.size:=Array.length_toList;refine ⟨[.str s.data.toList],rfl,?_,one1 _ _ rfl ?_⟩
    ·simp only [Xn,hl,hu];refine ⟨_,rfl,?_,Za⟩
     grind [KB]
    ·have:=RP.str (X:=X) (w:=w) s.data.toList;omega
   ·rename_i e hu;simp only [Bool.and_eq_true,decide_eq_true_eq] at hp;obtain ⟨hS,hp⟩:=hp;rcases DataW.trod_slice hu h with ⟨rfl,_⟩ | ⟨a,len,cap,elems,rest,n,e1,rfl,hz,_,hlc,hcm,l1,g1,g2,_⟩
    ·refine ⟨[.list false []],rfl,?_,one1 _ _ rfl (.nils _)⟩;simp only [Xn,hl,hu];simp
    ·have:n=k:=Za
     subst this;obtain ⟨l2,g2⟩:=g2 rfl
     have hcell: ∀i,i<len-> ∃csi:List Value,csi.length=P.cellsOf e/\(∀j,j<P.cellsOf e-> ∃y,w.cell? ((a.add (i*P.cellsOf e)).add j)=some y/\csi[j]? =some y) /\
       ∃xs:List PV,xs.length=csi.length/\Xn P B n e xs/\ ∀(j:Nat) (c:PV),xs[j]? =some c->c.one=true/\RP X w c (csi.getD j undef):=fun i hi=>by
      have hy:=g1 i hi;rw [List.getElem?_eq_getElem Za] at hy;simp only [Option.bind_eq_some_iff] at hy;obtain ⟨csi,hcs,ht⟩:=hy;obtain ⟨c1,c2⟩:=Jy hcs;refine ⟨csi,c1,c2,IH m e csi _ ht hp ?_⟩;rcases hB with hB | hB
      ·exact .inl hB
      ·refine .inr ?_;rw [hz] at hB;have hm:(elems[i]'(Za)).1∈elems.map (·.1):=List.mem_map.2 ⟨_,List.getElem_mem _,rfl⟩;have:=B7 hm
       grind [KB]
     have hlB:len<=B:=by
      grind [H5,KB,List.length_map]
     by_cases h0:len=0
     ·subst h0;refine ⟨[.list false []],rfl,?_,one1 _ _ rfl ?_⟩
      ·simp only [Xn,hl,hu];simp
      ·refine .emp _ _ _ (fun h=>by cases h) hcm (fun hpos x hx=> ?_);simp at hx;subst hx;have hy:=g2 0 Za;rw [List.getElem?_eq_getElem Za] at hy;simp only [Option.bind_eq_some_iff] at hy;obtain ⟨csi,hcs,_⟩:=hy;obtain ⟨z,hz,_⟩:=(Jy hcs).2 0 hS;have:=KU hz
       grind [Addr.add]
     ·obtain ⟨cs0,_,c2,_⟩:=hcell 0 Za;obtain ⟨y0,hy0,_⟩:=c2 0 hS;have hsp:=KU hy0;simp only [Nat.zero_mul,FS] at hsp;obtain ⟨ab,ao,asp⟩:=a;simp only at hsp;obtain ⟨rfl,hb⟩:=hsp
      obtain ⟨xs,hxl,hxs⟩:=JH (R:=fun i (x:List PV)=>x.length=P.cellsOf e/\Xn P B n e x/\ ∀(j:Nat) (c:PV),x[j]? =some c->c.one=true/\w.cell? ⟨ab,ao+i*P.cellsOf e+j,none⟩=some ((w.cell? ⟨ab,ao+i*P.cellsOf e+j,none⟩).getD undef)/\RP X w c ((w.cell? ⟨ab,ao+i*P.cellsOf e+j,none⟩).getD undef)) len (fun i hi=>by
       obtain ⟨csi,d1,d2,x,d3,d4,d5⟩:=hcell i hi;refine ⟨x,Za,d4,fun j c hj=> ?_⟩;obtain ⟨q1,q2⟩:=d5 j c hj;have hjl:=(List.getElem?_eq_some_iff.1 hj).1
       grind [Hk])
      refine ⟨[.list false (xs.map (We P e))],rfl,?_,one1 _ _ rfl ?_⟩
      ·simp only [Xn,hl,hu];refine ⟨xs,rfl,Za,Za,fun x hx=> ?_⟩
       grind [List.mem_iff_getElem?]
      ·have hmk: ∀(i:Nat) (x:PV),(xs.map (We P e))[i]? =some x-> ∃y,xs[i]? =some y/\x.cells=y:=fun i x hi=>by
        simp only [List.getElem?_map,Option.map_eq_some_iff] at hi;obtain ⟨y,hy,rfl⟩:=hi
        grind [DQ]
       have:=RP.list (X:=X) (w:=w) false (xs.map (We P e)) ab ao cap (P.cellsOf e) (fun i j=>(w.cell? ⟨ab,ao+i*P.cellsOf e+j,none⟩).getD undef) (hX ab) hb (by simp;omega) hcm (fun h=>by cases h)
        (fun i x hi=>by grind)
        (fun i x j c hi hj=>by grind)
        (fun i x j c hi hj=>by grind)
       grind
   ·cases hp
end Go.AM
namespace Go.AM
open Go.RowKit Go.ChangeShapes
def FitV (P:Program) (B:Nat) (t:TypeId) (x:PV):Prop:= ∃k cs,Xn P B k t cs/\x=We P t cs
def Ur (P:Program) (B:Nat):List TypeId->List PV->Prop
 | [],[]=>True
 | t::ts,x::xs=>FitV P B t x/\Ur P B ts xs
 | _,_=>False
theorem AT {P:Program} {w:World} {r:Reach} {base:Nat} {t:TypeId} {v:Value} {m:Nat} (hp:plain P m t=true) (hn:Q9 P t=none) (hv:Value.okWide P w r base t v): ∀cs,v≠ .agg cs:=by
 rintro cs rfl
 cases m with
 | zero=>simp [plain] at hp
 | succ m =>
  simp only [plain,hn] at hp;unfold Value.okWide at hv
  split at hp
  ·simp_all [Cell.okWide,Cell.ok]
  ·simp_all [Cell.okWide,Cell.ok]
  ·simp_all [Cell.okWide,Cell.ok]
  ·simp_all [Cell.okWide,Cell.ok]
  ·cases hp
theorem PD {H:Type} {enc:TypeId×Value->H} {P:Program} {w:World} {r:Reach} {base:Nat} {held:Bool} {B m:Nat} {X:Nat->Prop} (hX: ∀b,¬X b) {t:TypeId} {v:Value} {d:DataW H} {ps:List MemPlace}
  (hv:Value.okWide P w r base t v) (h:DataW.Trod enc P w 0 (fun _=>true) held t v d ps) (hp:plain P m t=true) (hB:maxLen<=B\/KB d<=B): ∃x,FitV P B t x/\RP X w x v:=by
 obtain ⟨k,h⟩:=h;obtain ⟨xs,h1,h2,h3⟩:=AA (X:=X) hX k m t _ _ h hp hB;refine ⟨We P t xs,⟨k,xs,h2,rfl⟩,?_⟩
 cases hl:Q9 P t with
 | some l =>
  rw [We,if_pos (XF hl)]
  have: ∃cs,v= .agg cs:=by
   unfold Q9 at hl;unfold Value.okWide at hv
   grind
  obtain ⟨cs,rfl⟩:=this;refine .agg _ _ (by grind [Value.cells]) fun j c hj=> ?_
  grind [Value.cells,Array.getD_eq_getD_getElem?]
 | none =>
  have hna:=AT hp hl hv
  have hc:v.cells= #[v]:=by
   cases v<;>first | rfl | grind
  rw [hc] at h1 h3
  have ht:Z4 P t≠some true:=by
   intro ht;unfold Z4 at ht;unfold Q9 at hl
   cases hu:P.underlying t with
   | none=>grind
   | some d=>grind
  rw [We,if_neg ht]
  match xs,h1 with
  | [x],_=>simpa using (h3 0 x rfl).2
theorem EI {H:Type} {enc:TypeId×Value->H} {P:Program} {w:World} {r:Reach} {base:Nat} {held:Bool} {B m:Nat} {X:Nat->Prop} (hX: ∀b,¬X b): ∀ {ts:List TypeId} {vs:List Value} {ds:List (DataW H)} {ps:List MemPlace},
  DataW.TrodAll enc P w 0 (fun _=>true) held ts vs ds ps->(∀(j:Nat) t v,ts[j]? =some t->vs[j]? =some v->Value.okWide P w r base t v)->(∀t∈ts,plain P m t=true)->(maxLen<=B\/Vp ds<=B) ->
  ∃xs,Ur P B ts xs/\xs.length=vs.length/\ ∀(j:Nat) (x:PV),xs[j]? =some x->RP X w x (vs.getD j undef)
 | [],vs,ds,ps,h,_,_,_=>by
  obtain ⟨rfl,rfl,rfl⟩:=trodAll_nil h;exact ⟨[],trivial,rfl,fun j x hj=>by simp at hj⟩
 | t::ts,vs,ds,ps,h,hv,hp,hB=>by
  obtain ⟨v,vs',d,ds',p,q,rfl,rfl,rfl,h1,h2⟩:=trodAll_cons h;obtain ⟨x,f1,f2⟩:=PD (X:=X) hX (hv 0 t v rfl rfl) h1 (hp t Zb) (by rcases hB with hB | hB;exact .inl hB;grind [Vp]);obtain ⟨xs,g1,g2,g3⟩:=EI (X:=X) hX h2 (fun j t' v' e1 e2=>hv (j+1) t' v' (by grind) (by grind)) (fun t' ht'=>hp t' (by simp [ht'])) (by rcases hB with hB | hB;exact .inl hB;grind [Vp]);refine ⟨x::xs,⟨f1,g1⟩,by simp [g2],fun j y hj=> ?_⟩
  grind
theorem Q4 {H:Type} {enc:TypeId×Value->H} {P:Program} {w:World} {base:Nat} {sp:Nat->Bool} {held:Bool} : ∀ {ts:List TypeId} {vs:List Value} {ds:List (DataW H)} {ps:List MemPlace},DataW.TrodAll enc P w base sp held ts vs ds ps->ds.length=ts.length
 | [],vs,ds,ps,h=>by obtain ⟨rfl,rfl,rfl⟩:=trodAll_nil h;rfl
 | t::ts,vs,ds,ps,h=>by
  obtain ⟨v,vs',d,ds',p,q,rfl,rfl,rfl,k1,k2⟩:=trodAll_cons h;simp [Q4 k2]
theorem Up {H:Type} {enc:TypeId×Value->H} {P:Program} (hl:laidOutB P=true) {W W':World} {sp:Nat->Bool} : ∀ {ts:List TypeId} {vs:List Value} {ds:List (DataW H)} {ps:List MemPlace},
  (∀t∈ts,P.readableRec t=true/\t<P.types.size)->DataW.TrodAll enc P W 0 (fun _=>true) true ts vs ds ps->(∀p∈ps,W.sameAt W' p)->(∀p∈ps,sp p.block=true)->DataW.TrodAll enc P W' 0 sp true ts vs ds ps
 | [],vs,ds,ps,_,h,_,_=>by
  obtain ⟨rfl,rfl,rfl⟩:=trodAll_nil h
  rfl
 | t::ts,vs,ds,ps,hr,h,h1,h2=>by
  obtain ⟨v,vs',d,ds',p,q,rfl,rfl,rfl,k1,k2⟩:=trodAll_cons h;have:=hr t Zb
  exact trodAll_cons_mk (WideElems.Trod_stays hl this.1 this.2 k1 (fun x hx=>h1 x (by simp [hx])) (fun x hx=>h2 x (by simp [hx])))
   (Up hl (fun t ht=>hr t (by simp [ht])) k2 (fun x hx=>h1 x (by simp [hx])) (fun x hx=>h2 x (by simp [hx])))
theorem DL {w w':World} (h1:w'.os=w.os) (h2:w'.output=w.output) (h3: ∀b,b<w.heap.size->w'.heap[b]? =w.heap[b]?) (may:MemPlace->Prop):w.keptBut w' may:=by
 refine ⟨h1,h2,fun i hi=> ?_⟩
 grind
def vD (P:Program) (fn:Func):Bool:=fn.params.toList.all (fun t=>P.readableRec t&&decide (t<P.types.size)&&plain P 16 t)
theorem A4 {P:Program} {fn:Func} {g:FuncId} {spec:ChangeSpec} {tb:TypeId} {B:Nat} {H:Type} {enc:TypeId×Value->H}
  (hspec: ∀(ds:List (DataW H)),ds.length=fn.params.toList.length->spec.fn H ds= { results:= [.lit (.bool true)],args:=ds }) (hvars:spec.vars= [])
  (hlaid:laidOutB P=true) (hpar:vD P fn=true) (hres:fn.resultTypes= #[tb]) (htb:P.underlying tb=some .bool)
  (hc: ∀xs,Ur P B fn.params.toList xs->ACalls P g (xs.map .p) [] fun x H'=>x= .p (.bool true)/\H'= [])
  {W:World} {base:Nat} {args:Array Value} {ds gs:List (DataW H)} {before:List MemPlace}
  (hval: ∀(j:Nat) t v,fn.params[j]? =some t->args[j]? =some v->Value.okWide P W .any base t v)
  (hW:DataW.Whole enc P fn.params.toList spec.vars false W args.toList ds gs before) (hB:maxLen<=B\/Vp (ds++gs)<=B) (he:Env KE [] W) :
  Calls P g args W fun e W'=> ∃v,e= .returned v/\spec.post enc P fn false true false false W args v W':=by
 have hW':=hW;obtain ⟨p,q,hA,hV,rfl,hfz,hnd⟩:=hW;rw [hvars] at hV;obtain ⟨rfl,rfl⟩:=trodVars_none hV;simp only [List.append_nil] at hW' hB;have hlen:=Q4 hA
 have hpl: ∀t∈fn.params.toList,(P.readableRec t=true/\t<P.types.size)/\plain P 16 t=true:=fun t ht=>by
  have:=List.all_eq_true.1 hpar t ht
  grind
 obtain ⟨xs,f1,f2,f3⟩:=EI (X:=Own KE []) (fun b=>U7) hA (fun j t v h1 h2=>hval j t v (by grind) (by grind)) (fun t ht=>(hpl t ht).2) hB;refine ((hc xs f1).2 KE [] W args (CH he) ⟨by simp [f2],fun j c hj=> ?_⟩).mono ?_
 ·simp only [List.getElem?_map,Option.map_eq_some_iff] at hj;obtain ⟨x,hx,rfl⟩:=hj;have:=f3 j x hx;exact .p _ _ (by simp_all)
 ·rintro e W' ⟨x,H',ι',v,rfl,⟨rfl,rfl⟩,gd,rv⟩
  have hv:v= .bool true:=by cases rv with | p _ _ h=>exact h.bool_inv
  subst hv;have hkeep: ∀b,b<W.heap.size->W'.heap[b]? =W.heap[b]? :=fun b hb=>gd.keep b hb Zb;have hlt:=hW'.lt
  have hsame: ∀p'∈p,W.sameAt W' p':=fun p' hp=>by
   have:=hkeep _ (hlt p' hp)
   cases p' with
   | cell b off=>exact World.cell?_of_block (w:=W) (by grind [MemPlace.block])
   | map b=>grind [World.sameAt,MemPlace.block]
  have hs:spec.fn H (ds++ [])= { results:= [.lit (.bool true)],args:=ds } :=by grind
  refine ⟨_,rfl,ds,[],p,[],p,[],Za,?_,?_,?_,DL gd.os gd.output hkeep _,fun h=>by cases h⟩
  ·rw [hs,hres];exact trodAll_mk1 (shut_bool htb true)
  ·grind [Up]
  ·rw [hs,hvars]
   rfl
end Go.AM
namespace Go.AM
open Go.RowKit
section
variable {P : Program} {B m : Nat} {t e : TypeId} {cs : List PV} {x : PV}
theorem Qy (hu:P.underlying t=some .bool) (h:Xn P B m t cs): ∃b,cs= [.bool b]:=by
 cases m with
 | zero=>exact h.elim
 | succ m=>grind [Xn,Q9]
theorem Zt {k:IntKind} (hu:P.underlying t=some (.int k)) (h:Xn P B m t cs): ∃n,cs= [.int k n]/\(Lit.int k n).wf=true:=by
 cases m with
 | zero=>exact h.elim
 | succ m=>grind [Xn,Q9]
theorem JL (hu:P.underlying t=some .string) (h:Xn P B m t cs): ∃s:List UInt8,cs= [.str s]/\s.length<=B/\s.length<=maxLen:=by
 cases m with
 | zero=>exact h.elim
 | succ m=>grind [Xn,Q9]
theorem ZP (hu:P.underlying t=some (.slice e)) (h:Xn P B m t cs): ∃xs:List PV,cs= [.list false xs]/\xs.length<=B/\xs.length<=maxLen/\ ∀y∈xs,FitV P B e y:=by
 cases m with
 | zero=>exact h.elim
 | succ m =>
  simp only [Xn,Q9,hu] at h;obtain ⟨xs,rfl,h1,h2,h3⟩:=h;refine ⟨_,rfl,by grind,by grind,fun y hy=> ?_⟩;obtain ⟨c,hc,rfl⟩:=List.mem_map.1 hy;exact ⟨m,c,h3 c hc,rfl⟩
theorem XC {l:List (Nat×TypeId)} {n:Nat} (hl:Q9 P t=some l) (hn:P.cellsOf t=n) (h:Xn P B m t cs):cs.length=n/\ ∃m',∀q∈l,Xn P B m' q.2 ((cs.drop q.1).take (P.cellsOf q.2)):=by
 cases m with
 | zero=>exact h.elim
 | succ m=>simp only [Xn,hl,hn] at h;exact ⟨h.1,m,h.2⟩
theorem J0 (h:Z4 P t=some false):We P t [x]=x:=by simp [We,h]
theorem Il (hu:P.underlying t=some .bool) (h:FitV P B t x): ∃b,x= .bool b:=by
 obtain ⟨k,cs,h,rfl⟩:=h;obtain ⟨b,rfl⟩:=Qy hu h
 grind [J0,Z4]
theorem Ng {k:IntKind} (hu:P.underlying t=some (.int k)) (h:FitV P B t x): ∃n,x= .int k n/\(Lit.int k n).wf=true:=by
 obtain ⟨k,cs,h,rfl⟩:=h;obtain ⟨n,rfl,hw⟩:=Zt hu h
 grind [J0,Z4]
theorem Nh (hu:P.underlying t=some .string) (h:FitV P B t x): ∃s:List UInt8,x= .str s/\s.length<=B/\s.length<=maxLen:=by
 obtain ⟨k,cs,h,rfl⟩:=h;obtain ⟨n,rfl,hw⟩:=JL hu h
 grind [J0,Z4]
theorem FitV.out (h:FitV P B t x): ∃k cs,Xn P B k t cs/\x=We P t cs:=h
theorem QU {ts:List TypeId} {xs:List PV} (h:Ur P B (t::ts) xs): ∃x xs',xs=x::xs'/\FitV P B t x/\Ur P B ts xs':=by
 cases xs with
 | nil=>exact h.elim
 | cons x xs=>exact ⟨x,xs,rfl,h.1,h.2⟩
theorem DG {xs:List PV} (h:Ur P B [] xs):xs= []:=by
 cases xs with
 | nil=>rfl
 | cons x xs=>exact h.elim
end
theorem XI {α:Type} {f:α->PV} {R:α->Prop} : ∀ {xs:List PV},(∀y∈xs,∃a,y=f a/\R a)-> ∃l:List α,xs=l.map f/\ ∀a∈l,R a
 | [],_=>⟨[],rfl,Zb⟩
 | x::xs,h=>by
  obtain ⟨l,rfl,h2⟩:=XI (xs:=xs) fun y hy=>h y (by simp [hy]);obtain ⟨a,rfl,ha⟩:=h x Zb;refine ⟨a::l,rfl,fun b hb=> ?_⟩
  grind
theorem ZJ {n:Int} (h:(Lit.int .i64 n).wf=true): -9223372036854775808<=n/\n<=9223372036854775807:=by
 grind [Lit.wf,IntKind.min,IntKind.max,IntKind.signed,IntKind.bits]
end Go.AM
namespace Go.AM
open Go.RowKit
@[go_sem high] theorem aM {P:Program} {t:TypeId} {x:Nat} {k'} {a:Int} (h0:0<=a) (h1:a<=62):Xf P .shr t (.p (.int .i64 (x:Int))) (.p (.int k' a))=some (.int .i64 ((x / pw a.toNat:Nat):Int)):=by
 grind [Hi,IntKind.bits,pw]
@[go_sem] theorem T8 {k:Nat} :((k:Int)-1).toNat=k-1:=Za
@[go_sem] theorem T9 {k:Nat} :((k:Int)+1).toNat=k+1:=Za
class Sh (p:Prop) (q:outParam Prop):Prop where
 out:p->q
theorem ZX {c:Bool} {A B A' B' p q:Prop} {t t'} [d:Dc c p q] (h1:p->A') (h2:q->B') (e1:p->A'->A:=by intro h a;simp (disch:=omega) only [Sh.out h,go_sem,seval];exact a) (e2:q->B'->B:=by intro h a;simp (disch:=omega) only [Sh.out h,go_sem,seval];exact a):YB (.p (.bool c)) (Zp A t) (Zp B t'):=cD (fun h=>e1 h (h1 h)) fun h=>e2 h (h2 h)
theorem jW {c:Bool} {A B A' B' p q:Prop} {t t'} [d:Dc c p q] (h1:p->A') (h2:q->B') (e1:p->A'->A:=by intro h a;simp (disch:=omega) only [Sh.out h,go_sem,seval];exact a) (e2:q->B'->B:=by intro h a;simp (disch:=omega) only [Sh.out h,go_sem,seval];exact a):ZT (.p (.bool c)) true (Zp A t) (Zp B t'):=gT (fun h=>e1 h (h1 h)) fun h=>e2 h (h2 h)
theorem MX {c:Bool} {A B A' B' p q:Prop} {t t'} [d:Dc c p q] (h1:p->B') (h2:q->A') (e1:p->B'->B:=by intro h a;simp (disch:=omega) only [Sh.out h,go_sem,seval];exact a) (e2:q->A'->A:=by intro h a;simp (disch:=omega) only [Sh.out h,go_sem,seval];exact a):ZT (.p (.bool c)) false (Zp A t) (Zp B t'):=gF (fun h=>e1 h (h1 h)) fun h=>e2 h (h2 h)
instance (priority := low) sh_id {p : Prop} : Sh p p := ⟨id⟩
instance sh_int {a b : Int} : Sh (a = b) ((a = b) = True) := ⟨fun h => eq_true h⟩
instance sh_str {a b : List UInt8} : Sh (a = b) ((a = b) = True) := ⟨fun h => eq_true h⟩
end Go.AM
namespace Go.AM
open Go.RowKit
def Z9 : Operand->List Nat
 | .tmp t=> [t]
 | _=> []
def oR : Option Operand->List Nat
 | none=> []
 | some x=>Z9 x
def Wb : Op->List Nat
 | .move x=>Z9 x
 | .assign x=>Z9 x
 | .pick c x y=>Z9 c++Z9 x++Z9 y
 | .load _ x=>Z9 x
 | .nilCheck x=>Z9 x
 | .binOp _ _ x y _=>Z9 x++Z9 y
 | .unOp _ _ x=>Z9 x
 | .convert _ _ x=>Z9 x
 | .makeFunc _ cs ds=>cs.toList.flatMap Z9++ds.toList.flatMap Z9
 | .slice _ x lo hi mx=>Z9 x++oR lo++oR hi++oR mx
 | .fieldAddr _ x _=>Z9 x
 | .field _ x _=>Z9 x
 | .indexAddr _ x i=>Z9 x++Z9 i
 | .index _ x i=>Z9 x++Z9 i
 | .extract x _=>Z9 x
 | .build _ ps=>ps.toList.flatMap fun x=>Z9 x.2
 | .buildSlice _ _ ps=>ps.toList.flatMap fun x=>Z9 x.2
 | .box _ x=>Z9 x
 | .store _ x y=>Z9 x++Z9 y
 | .makeSlice _ x y=>Z9 x++Z9 y
 | .lookup _ x y _=>Z9 x++Z9 y
 | .mapUpdate _ x y z=>Z9 x++Z9 y++Z9 z
 | .mapEntry _ x y=>Z9 x++Z9 y
 | .entryStore _ x y z=>Z9 x++Z9 y++Z9 z
 | .call c=>(match c.callee with | .value f=>Z9 f | _=> [])++c.args.toList.flatMap Z9
 | _=> []
def W6 (R:List Nat) (f1 f2:List V):Prop:= ∀t∈R,gt f1 t=gt f2 t
theorem Vr {x:Operand} {f1 f2:List V} (h:W6 (Z9 x) f1 f2):ev f1 x=ev f2 x:=by
 cases x with
 | tmp t=>exact h t (by simp [Z9])
 | const v=>rfl
 | func f=>rfl
 | global g=>rfl
section
variable {P : Program} {H : List Obj} {f1 f2 : List V}
theorem AH {op:Op} (h:W6 (Wb op) f1 f2):ZG P op f1 H=ZG P op f2 H:=by
 have key: ∀x:Operand,(∀t∈Z9 x,t∈Wb op)->ev f1 x=ev f2 x:=fun x hx=>Vr fun t ht=>h t (hx t ht)
 cases op with
 | move x=>grind [ZG,Xc,Wb]
 | assign x=>grind [ZG,Xc,Wb]
 | pick c x y=>grind [ZG,Xc,Wb]
 | load u x=>grind [ZG,Xc,Wb]
 | nilCheck x=>grind [ZG,Xc,Wb]
 | binOp o u x y u2=>grind [ZG,Xc,Wb]
 | unOp o u x=>grind [ZG,Xc,Wb]
 | convert s u x=>grind [ZG,Xc,Wb]
 | makeFunc f cs ds =>
  grind [List.map_congr_left,Wb,ZG,Xc]
 | slice u x lo hi mx =>
  have ko: ∀(d:Int) (y:Option Operand),(∀t∈oR y,t∈Wb (.slice u x lo hi mx))->Bz d f1 y=Bz d f2 y:=fun d y hy=>by
   cases y with
   | none=>rfl
   | some y=>simp only [Bz,key y hy]
  simp_all [Wb,ZG,Xc,XB]
 | fieldAddr s x f=>grind [ZG,Xc,Wb]
 | field s x f=>grind [ZG,Xc,Wb]
 | indexAddr u x i =>
  have e1:evx f1 x=evx f2 x:=by
   cases x with
   | global g=>rfl
   | tmp t=>exact key (.tmp t) (by grind [Wb])
   | const v=>rfl
   | func f=>rfl
  grind [ZG,Xc,Wb]
 | index u x i=>grind [ZG,Xc,Wb]
 | extract x i=>grind [ZG,Xc,Wb]
 | build u ps =>
  grind [List.map_congr_left,Wb,ZG]
 | call c =>
  obtain ⟨cal,azs,ts⟩:=c;have e1:azs.toList.map (ev f1)=azs.toList.map (ev f2):=List.map_congr_left fun x hx=>key x (by grind [Wb])
  cases cal<;>simp only [ZG,Xc,e1]
 | _=>rfl
theorem Dn {op:Op} (h:W6 (Wb op) f1 f2):Yg P op f1 H=Yg P op f2 H:=by
 have key: ∀x:Operand,(∀t∈Z9 x,t∈Wb op)->ev f1 x=ev f2 x:=fun x hx=>Vr fun t ht=>h t (hx t ht)
 cases op with
 | box u x=>grind [Yg,Wb]
 | store u x y=>grind [Yg,Wb]
 | buildSlice u n ps =>
  have e1:(ps.toList.map fun x=>(x.1,ev f1 x.2))=ps.toList.map fun x=>(x.1,ev f2 x.2):=List.map_congr_left fun x hx=>by grind [Wb]
  grind [Yg]
 | makeSlice u x y=>grind [Yg,Wb]
 | makeMap u r=>cases r<;>rfl
 | lookup u x y ok=>grind [Yg,Wb]
 | mapUpdate u x y z=>grind [Yg,Wb]
 | mapEntry u x y=>grind [Yg,Wb]
 | entryStore u x y z=>grind [Yg,Wb]
 | call c =>
  obtain ⟨cal,azs,ts⟩:=c;obtain ⟨azs⟩:=azs
  cases cal with
  | builtin b =>
   have e1: ∀x∈azs,ev f1 x=ev f2 x:=fun x hx=>key x (by grind [Wb])
   cases b<;>try rfl
   all_goals
    simp only [Yg]
    split
    ·first
      | (rename_i x y t t2 h2;rw [e1 x Zb,e1 y Zb])
      | grind
    ·rfl
  | value f=>rfl
  | invoke r m=>rfl
 | _=>rfl
theorem AS {op:Op} {f:Operand} {azs:List Operand} (h:W6 (Wb op) f1 f2) (hc:X6 op=some (f,azs)):ev f1 f=ev f2 f/\azs.map (ev f1)=azs.map (ev f2):=by
 have key: ∀x:Operand,(∀t∈Z9 x,t∈Wb op)->ev f1 x=ev f2 x:=fun x hx=>Vr fun t ht=>h t (hx t ht);unfold X6 at hc
 split at hc
 ·simp only [Option.some.injEq,Prod.mk.injEq] at hc;obtain ⟨rfl,rfl⟩:=hc
  grind [Wb,List.map_congr_left]
 ·cases hc
theorem Vk {o:Oper} {K:V->List Obj->Prop} (h:W6 (Wb o.op) f1 f2):Zo P o f1 H K↔Zo P o f2 H K:=by
 grind [Zo,AS,FW,AH,Dn]
end
theorem AK {P:Program} {H:List Obj} {f1 f2:List V} {o:Oper} {K:V->List Obj->Prop} (h:W6 (Wb o.op) f1 f2):Zs P o f1 H K↔Zs P o f2 H K:=by
 unfold Zs
 split
 ·rename_i t n ps ho;rw [ho] at h
  have e1:(ps.toList.map fun x=>(x.1,ev f1 x.2))=ps.toList.map fun x=>(x.1,ev f2 x.2):=List.map_congr_left fun x hx=>by
   rw [Vr fun t ht=>h t (by grind [Wb])]
  rw [e1]
 ·rename_i azs ts ho;rw [ho] at h;obtain ⟨azs⟩:=azs;have e1: ∀x∈azs,ev f1 x=ev f2 x:=fun x hx=>Vr fun t ht=>h t (by grind [Wb])
  grind
 ·exact Vk h
def hs (P:Program) (ds:List (Option Nat)) (H:List Obj) (K:List V->Prop):List Oper->List V->Prop
 | [],fr=>K fr
 | o::r,fr=>match o.guard with
  | none=>M7 (fun y=>Zs P o fr H (fun x H'=>x=y/\H'=H)) (fun y=>hs P ds H K r (W0 fr o.dst y))
  | some (j,b)=>ZT (KC fr ds j) b (M7 (fun y=>Zs P o fr H (fun x H'=>x=y/\H'=H)) (fun y=>hs P ds H K r (W0 fr o.dst y))) (hs P ds H K r (W0 fr o.dst (.tup [])))
def Uz (ops:Array Oper) (n:Nat):Bool :=
 (List.range n).all fun i=>match ops[i]? with
  | some o=>((Wb o.op).all fun t=>(List.range n).all fun j=>match (ops.toList.map (·.dst))[j]? with
    | some (some d)=>decide (d≠t)||(Zz i o).contains j
    | _=>true)&&(match o.guard with | some (g,_)=>(Zz i o).contains g | none=>true)
  | none=>true
section
variable {ds : List (Option Nat)} {vals : List V} {n : Nat}
theorem Vw {t:Nat} : ∀(l:List Nat) (fr:List V),(∀j∈l,ds[j]? ≠some (some t))->(Zx ds vals l fr)[t]? =fr[t]?
 | [],fr,_=>rfl
 | j::l,fr,h=>by
  have hj:=h j Zb;have ih:=fun fr=>Vw l fr fun k hk=>h k (by simp [hk]);simp only [Zx]
  split
  ·rename_i d v h1 h2;rw [ih,YG];have:d≠t:=fun e=>hj (by rw [h1,e]);rw [List.getElem?_set_ne this]
  ·exact ih fr
theorem Jv (hap:WU ds n=true) {i j t:Nat} (hi:i<n) (hj:j<n) (h1:ds[i]? =some (some t)) (h2:ds[j]? =some (some t)):i=j:=by
 simp only [WU,List.all_eq_true,List.mem_range,Bool.or_eq_true,decide_eq_true_eq] at hap
 grind
theorem UX (hap:WU ds n=true) {t:Nat} {x:V} {j0:Nat} (h1:ds[j0]? =some (some t)) (h2:vals[j0]? =some x) (hj0:j0<n): ∀(l:List Nat) (fr:List V),(∀j∈l,j<n)->j0∈l->t<fr.length->(Zx ds vals l fr)[t]? =some x
 | [],fr,_,h,_=>by cases h
 | j::l,fr,hl,hm,ht=>by
  by_cases hin:j0∈l
  ·simp only [Zx]
   split
   ·exact UX hap h1 h2 hj0 l _ (fun k hk=>hl k (by simp [hk])) hin (by simpa [YG] using ht)
   ·exact UX hap h1 h2 hj0 l _ (fun k hk=>hl k (by simp [hk])) hin ht
  ·have:j0=j:=by
    rcases List.mem_cons.1 hm with e | e
    ·exact e
    ·exact absurd e hin
   subst this;simp only [Zx,h1,h2];rw [Vw l _ fun k hk e=>hin (by rw [Jv hap hj0 (hl k (by simp [hk])) h1 e];exact hk),YG];simp [ht]
theorem VT {t:Nat} : ∀(l:List (Option Nat)) (fr:List V),some t ∉ l->(ZD l fr)[t]? =fr[t]?
 | [],fr,_=>rfl
 | some d::l,fr,h=>by
  simp only [ZD];rw [VT l _ (by simp at h;exact h.2),YG,List.getElem?_set_ne (by simp at h;exact fun e=>h.1 e.symm)]
 | none::l,fr,h=>by
  simp only [ZD];exact VT l _ (by simpa using h)
theorem K8 {f1 f2:List V} {t:Nat} (h:f1[t]? =f2[t]?):gt f1 t=gt f2 t:=by rw [Cg,Cg,h]
theorem Q0 {t:Nat} (hn:n<=ds.length):some t∈ds.take n↔ ∃j,j<n/\ds[j]? =some (some t):=by
 simp_all [List.mem_iff_getElem?,List.getElem?_take]
theorem CS (hap:WU ds n=true) (hn:n<=ds.length) {fr:List V} {deps:List Nat} {i t:Nat} (hi:i<=n) (hv:vals.length=i) (hd: ∀j∈deps,j<i) (ht: ∀j,j<n->ds[j]? =some (some t)->j∈deps) :
  gt (Zx ds vals deps (ZD (ds.take n) fr)) t=gt (Zx ds vals (List.range i) fr) t:=by
 apply K8
 by_cases hex: ∃j,j<n/\ds[j]? =some (some t)
 ·grind [UX,Xv,Xk]
 grind [Vw,VT,Q0]
theorem JP (hap:WU ds n=true) (hn:n<=ds.length) {fr:List V} (hv:vals.length=n):Zx ds vals (List.range n) (ZD (ds.take n) fr)=Zx ds vals (List.range n) fr:=by
 apply List.ext_getElem?;intro t
 by_cases hex: ∃j,j<n/\ds[j]? =some (some t)
 ·grind [UX,Xv,Xk]
 grind [Vw,VT,Q0]
theorem Gp {fr:List V} {x:V} {d:Option Nat} (hd:ds[vals.length]? =some d):Zx ds (vals++ [x]) (List.range (vals.length+1)) fr=W0 (Zx ds vals (List.range vals.length) fr) d x:=by
 have key: ∀(l:List Nat) (fr:List V),(∀j∈l,j<vals.length)->Zx ds (vals++ [x]) (l++ [vals.length]) fr=W0 (Zx ds vals l fr) d x:=by
  intro l
  induction l with
  | nil =>
   intro fr _;simp only [List.nil_append,Zx,hd];rw [List.getElem?_append_right (Nat.le_refl _),Nat.sub_self]
   cases d<;>simp [W0]
  | cons j l ih =>
   grind [Zx]
 grind [List.range_succ]
end
theorem E8 {P:Program} {ops:Array Oper} {n:Nat} {fr:List V} {H:List Obj} {K:List V->Prop} (hn:n<=ops.size) (hap:WU (ops.toList.map (·.dst)) n=true) (hR:Uz ops n=true) :
  ∀(l:List Oper) (i:Nat) (vals:List V),i<=n->vals.length=i->(ops.toList.take n).drop i=l->hs P (ops.toList.map (·.dst)) H K l (Zx (ops.toList.map (·.dst)) vals (List.range i) fr) ->
   hd P (ops.toList.map (·.dst)) (ZD ((ops.toList.map (·.dst)).take n) fr) H (fun vals=>vals.length=n/\K (Zx (ops.toList.map (·.dst)) vals (List.range n) fr)) i l vals
 | [],i,vals,hin,hv,hl,h=>by
  have hin2:n<=i:=by
   simp_all
  grind [hs,hd]
 | o::l,i,vals,hin,hv,hl,h=>by
  have hlen:i<n:=by
   grind
  have hoi:(ops.toList.take n)[i]? =some o:=by
   have:((ops.toList.take n).drop i)[0]? =some o:=by rw [hl];rfl
   grind
  have hoi2:ops[i]? =some o:=by
   grind
  have hl2:(ops.toList.take n).drop (i+1)=l:=by
   have:((ops.toList.take n).drop i).drop 1=l:=by rw [hl];rfl
   rwa [List.drop_drop] at this
  have hdi:(ops.toList.map (·.dst))[i]? =some o.dst:=by simp [hoi2]
  have hR0:=hR;simp only [Uz,List.all_eq_true,List.mem_range] at hR0;have hRi:=hR0 i hlen;rw [hoi2] at hRi;simp only [Bool.and_eq_true,List.all_eq_true,List.mem_range] at hRi;obtain ⟨r1,r2⟩:=hRi
  have hdl:n<=(ops.toList.map (·.dst)).length:=by grind
  have hag:W6 (Wb o.op) (Zx (ops.toList.map (·.dst)) vals (Zz i o) (ZD ((ops.toList.map (·.dst)).take n) fr)) (Zx (ops.toList.map (·.dst)) vals (List.range i) fr):=fun t ht =>
   CS hap hdl Za hv (fun j hj=>X0 j hj) fun j hj e=>by
    have:=r1 t ht j hj;rw [e] at this
    grind
  have step: ∀x,hs P (ops.toList.map (·.dst)) H K l (W0 (Zx (ops.toList.map (·.dst)) vals (List.range i) fr) o.dst x) ->
    hd P (ops.toList.map (·.dst)) (ZD ((ops.toList.map (·.dst)).take n) fr) H (fun vals=>vals.length=n/\K (Zx (ops.toList.map (·.dst)) vals (List.range n) fr)) (i+1) l (vals++ [x]):=fun x hx=>by
   refine E8 hn hap hR l (i+1) (vals++ [x]) Za (by simp [hv]) hl2 ?_;subst hv;rw [Gp hdi];exact hx
  have step2:M7 (fun y=>Zs P o (Zx (ops.toList.map (·.dst)) vals (List.range i) fr) H (fun x H'=>x=y/\H'=H)) (fun y=>hs P (ops.toList.map (·.dst)) H K l (W0 (Zx (ops.toList.map (·.dst)) vals (List.range i) fr) o.dst y)) ->
    ∃y,Zs P o (Zx (ops.toList.map (·.dst)) vals (Zz i o) (ZD ((ops.toList.map (·.dst)).take n) fr)) H (fun x H'=>x=y/\H'=H)/\hd P (ops.toList.map (·.dst)) (ZD ((ops.toList.map (·.dst)).take n) fr) H (fun vals=>vals.length=n/\K (Zx (ops.toList.map (·.dst)) vals (List.range n) fr)) (i+1) l (vals++ [y]):=by
   rintro ⟨y,h1,h2⟩;exact ⟨y,(AK hag).2 h1,step y h2⟩
  simp only [hs] at h;simp only [hd]
  cases hg:o.guard with
  | none =>
   rw [hg] at h;exact step2 h
  | some q =>
   obtain ⟨g,b⟩:=q;rw [hg] at h r2;simp only at h r2 ⊢
   have hgin:g∈Zz i o:=by simpa using r2
   have hgl:=X0 g hgin
   have hgg:KC (Zx (ops.toList.map (·.dst)) vals (Zz i o) (ZD ((ops.toList.map (·.dst)).take n) fr)) (ops.toList.map (·.dst)) g=KC (Zx (ops.toList.map (·.dst)) vals (List.range i) fr) (ops.toList.map (·.dst)) g:=by
    simp only [KC]
    split
    ·rename_i d hd'
     exact CS hap hdl Za hv (fun j hj=>X0 j hj) fun j hj e=>by
      rw [Jv hap hj Za e hd'];exact hgin
    ·rfl
   rw [hgg];generalize KC (Zx (ops.toList.map (·.dst)) vals (List.range i) fr) (ops.toList.map (·.dst)) g=G at h ⊢;unfold ZT at h ⊢
   split at h
   ·exact ⟨fun e=>step2 (h.1 e),fun e=>step _ (h.2 e)⟩
   ·exact step _ h
   ·exact h.elim
theorem IL {P ds frJ H} {K K':List V->Prop} (hk: ∀ys,K ys->K' ys) (l:List Oper) (i:Nat) (vals:List V) (h:hd P ds frJ H K i l vals):hd P ds frJ H K' i l vals:=E7 l i vals (fun ys _ k=>hk ys k) h
theorem Zv {P:Program} {id:Nat} {l:List Oper} {fr:List V} {H:List Obj} {Q:Exit->List V->List Obj->Prop} {t} (n:Nat) (hm:P.follows .mixedOrders=true) (hB:YF (List.toArray l) n=true) (hR:Uz (List.toArray l) n=true)
  (h:hs P (l.map (·.dst)) H (Zp (fun fr'=>Xm P (l.map (·.dst)) (l.drop n) (Fa fr') H (Zp (Q .normal) ⟨⟩)) ⟨⟩) (l.take n) (Fa fr)) :
  AWP P (.region id (Zp (List.toArray l) t) true) fr H Q:=by
 have hB':=hB;simp only [YF,Bool.and_eq_true,decide_eq_true_eq] at hB';obtain ⟨⟨⟨⟨hn,_⟩,_⟩,hap⟩,_⟩:=hB';refine F9 (ops:=List.toArray l) n hm hB ?_;refine IL ?_ _ _ _ (E8 (ops:=List.toArray l) (K:=fun fr'=>Xm P (l.map (·.dst)) (l.drop n) fr' H (Q .normal)) hn hap hR _ 0 [] (Nat.zero_le _) rfl Zb ?_)
 ·grind [JP]
 ·exact h
theorem Dq {P:Program} {id:Nat} {l:List Oper} {fr:List V} {H:List Obj} {Q:Exit->List V->List Obj->Prop} {t} (hm:P.follows .mixedOrders=true) (hB:YF (List.toArray l) l.length=true) (hR:Uz (List.toArray l) l.length=true)
  (h:hs P (l.map (·.dst)) H (Zp (fun fr'=>Q .normal (Fa fr') H) ⟨⟩) l (Fa fr)) :
  AWP P (.region id (Zp (List.toArray l) t) true) fr H Q:=by
 refine Zv l.length hm hB hR ?_;rw [List.take_length,List.drop_length];exact h
section
variable {P : Program} {ds : List (Option Nat)} {fr : List V} {H : List Obj} {K : List V -> Prop} {r : List Oper} {d : Option Nat} {op : Op} {t : TypeId} {ps : String} {af : Array Edge}
@[go_sem ↓] theorem vA : hs P ds H K [] fr=K fr:=Eq.trans rfl rfl
@[go_sem] theorem rV : hs P ds H K (⟨d,op,t,ps,af,none⟩::r) fr=M7 (fun y=>Zs P ⟨d,op,t,ps,af,none⟩ fr H (Zp (fun x H'=>x=y/\H'=H) ⟨⟩)) (Zp (fun y=>hs P ds H K r (W0 fr d y)) ⟨⟩):=Eq.trans rfl rfl
@[go_sem] theorem kQ {j b} :hs P ds H K (⟨d,op,t,ps,af,some (j,b)⟩::r) fr=ZT (KC fr ds j) b
  (Zp (M7 (fun y=>Zs P ⟨d,op,t,ps,af,none⟩ fr H (Zp (fun x H'=>x=y/\H'=H) ⟨⟩)) (Zp (fun y=>hs P ds H K r (W0 fr d y)) ⟨⟩)) ⟨⟩)
  (Zp (hs P ds H K r (W0 fr d (.tup []))) ⟨⟩):=Eq.trans rfl rfl
theorem IN {l fr'} (h:fr=fr'):hs P ds H K l fr=hs P ds H K l fr':=by rw [h]
end
attribute [congr] IN
end Go.AM
namespace Go.AM
open Go.RowKit
theorem ACalls.weak {P g args H Q} (h:ACalls P g args H fun x H'=> ∃y H'',Weak H.length [x] H' [y] H''/\Q y H''):ACalls P g args H Q :=
 ⟨h.1,fun F ι w vs hr hv=>(h.2 F ι w vs hr hv).mono fun e w' ⟨x,H',ι',v,he,⟨y,H'',hw,q⟩,g,r⟩=>by
  obtain ⟨ι2,r2,f2,g2⟩:=hw F ι' { tmps:= #[v],defers:= [] } w' g.rel ⟨rfl,rfl,fun i z hi=>by
   cases i with
   | zero=>simp_all
   | succ i=>simp at hi⟩
  exact ⟨y,H'',ι2,v,he,q,g2 H ι w (Nat.le_refl _) g,by simpa [gt] using f2.get 0⟩⟩
theorem Zg (cuts:List Nat) {P:Program} {g:FuncId} {fn:Func} {c:Code} {args:List V} {H:List Obj} {Q:V->List Obj->Prop} (hf:P.funcs[g]? =some fn) (hb:fn.body=some c) (hg:Zh P g)
  (h:WV cuts P c (args++List.replicate (fn.ntmps-args.length) .junk) H (UA P fn.results.toList fun x H'=> ∃y H'',Weak H.length [x] H' [y] H''/\Q y H'')):ACalls P g args H Q :=
 (Xb hf hb hg (Zd cuts _ _ _ _ h)).weak
theorem Weak.nilC {n0 fr H} {o j:Nat} {cs:List V} (S:Nat) (ho:H[o]? =some (.cells cs)) (hj:cs[j]? =some (.p (.list true []))) (hn:n0<=H.length):Weak n0 fr H fr (H.set o (.cells (cs.set j (.sl H.length 0 0 0)))++ [.elems S []]):=fun F ι a w hr hf=>by
 have g:=WX hr S;have hol:=(List.getElem?_eq_some_iff.1 ho).1;have hjl:=(List.getElem?_eq_some_iff.1 hj).1;obtain ⟨b,c,t,e1,e2,e3,e4⟩:=g.rel.cel o cs (by grind)
 have hx:HX (H++ [.elems S []]) (ι++ [none]) w (H.set o (.cells (cs.set j (.sl H.length 0 0 0)))++ [.elems S []]) (ι++ [none]) w:=fun i ob hi=>by
  grind
 have hk:Keeps (Own F (ι++ [none])) w (Own F (ι++ [none])) w:=Keeps.refl _ _
 have get: ∀ {i:Nat} {ob:Obj},(H.set o (.cells (cs.set j (.sl H.length 0 0 0)))++ [.elems S []])[i]? =some ob->(i=o/\ob= .cells (cs.set j (.sl H.length 0 0 0)))\/(H++ [Obj.elems S []])[i]? =some ob:=fun {i ob} hi=>by
  grind
 have rel:Rel F (H.set o (.cells (cs.set j (.sl H.length 0 0 0)))++ [.elems S []]) (ι++ [none]) w:=by
  refine ⟨⟨by have:=g.rel.len;grind,g.rel.fin,g.rel.inj,g.rel.avo,fun i ds hi=> ?_,fun i S' xs hi=> ?_,fun i es hi=> ?_,?_⟩,g.rel.env⟩
  ·rcases get hi with ⟨rfl,e⟩ | hi
   ·simp at e;subst e;refine ⟨b,c,t,e1,e2,by grind,fun q x hq=> ?_⟩;rw [List.getElem?_set] at hq
    split at hq
    ·rename_i hjq;subst hjq;simp [] at hq;subst hq;have hv:=e4 j _ hj
     cases hv with | p _ _ hv =>
     generalize c.getD j undef=v at hv
     have h1:(ι++ [none])[H.length]? =some none:=by rw [<- hr.len];simp
     have h2:(H.set i (.cells (cs.set j (.sl H.length 0 0 0)))++ [Obj.elems S []])[H.length]? =some (.elems S []):=Zb
     cases hv with
     | nils=>exact .slNil _ S none h1 h2
     | emp _ ad cap hc hm ha=>rw [hc rfl];exact .slNil _ S ad h1 h2
     | list _ _ b off cap S' u hX hb hc hm hcl =>
      have:cap=0:=by grind
      subst this;exact .slNil _ S _ h1 h2
    ·exact (e4 q x hq).ext hk hx
   ·obtain ⟨b',c',t',f1,f2,f3,f4⟩:=g.rel.cel i ds hi;exact ⟨b',c',t',f1,f2,f3,fun q x hq=>(f4 q x hq).ext hk hx⟩
  ·rcases get hi with ⟨rfl,e⟩ | hi
   ·cases e
   ·exact g.rel.elm i S' xs hi
  ·rcases get hi with ⟨rfl,e⟩ | hi
   ·cases e
   ·exact g.rel.mpr i es hi
  ·refine Yn g.rel (fun i T E r bs hi=> ?_) fun i ob hi hs=>⟨?_,rfl,fun _ _=>rfl⟩
   ·grind
   ·by_cases hio:i=o
    ·subst hio;rw [List.getElem?_append_left hol,ho] at hi;simp at hi;subst hi;cases hs
    grind
 have g2:Good F H ι w (H.set o (.cells (cs.set j (.sl H.length 0 0 0)))++ [.elems S []]) (ι++ [none]) w:=⟨rel,rfl,Tp.rfl,rfl,fun _ c _ h=> .inr ⟨c,h,rfl⟩,Nat.le_refl _,fun _ _ _=>rfl,g.own,g.hx.trans hx⟩;exact ⟨ι++ [none],rel,g2.fr hf,fun H0 ι0 w0 _ hg=>hg.trans g2⟩
theorem XE {F:Nat->Prop} {ι0 ιL:List (Option Nat)} :Own (Own F ιL) ι0=Own F (ι0++ιL):=by
 funext b
 simp only [Own,List.mem_append,eq_iff_iff]
 grind
theorem RV.narrow {F H0 L ι0 ιL w x v} (hl:ι0.length=H0.length) (h:RV F (H0++L) (ι0++ιL) w x v) (hn:refB H0.length x=true):RV (Own F ιL) H0 ι0 w x v:=by
 have gi: ∀ {o:Nat},o<H0.length->(ι0++ιL)[o]? =ι0[o]? :=fun h=>List.getElem?_append_left (by rw [hl];exact h);have gH: ∀ {o:Nat},o<H0.length->(H0++L)[o]? =H0[o]? :=fun h=>List.getElem?_append_left h
 induction h with
 | p x v h=>refine .p _ _ ?_;rw [XE];exact h
 | agg cs a hs _ ih=>exact .agg cs a hs fun j c hj=>ih j c hj (ZO (by simpa [refB] using hn) j c hj)
 | fn f cs ds a e hs ht _ _ ih1 ih2 =>
  simp [refB] at hn;exact .fn f cs ds a e hs ht (fun j c hj=>ih1 j c hj (ZO hn.1 j c hj)) (fun j c hj=>ih2 j c hj (ZO hn.2 j c hj))
 | tup cs a hs _ ih=>exact .tup cs a hs fun j c hj=>ih j c hj (ZO (by simpa [refB] using hn) j c hj)
 | ptr o off b cs h hH=>simp [refB] at hn;exact .ptr _ _ b cs (by rw [<- gi hn];exact h) (by rw [<- gH hn];exact hH)
 | ep o i j tot b S xs h hH ht=>simp [refB] at hn;exact .ep _ _ _ _ b S xs (by rw [<- gi hn];exact h) (by rw [<- gH hn];exact hH) ht
 | slNil o S a h hH=>simp [refB] at hn;exact .slNil _ S a (by rw [<- gi hn];exact h) (by rw [<- gH hn];exact hH)
 | sl o off len tot b S cap t xs c h hH ht hw hcap hl' hlen hm=>simp [refB] at hn;exact .sl _ _ _ _ b S cap t xs c (by rw [<- gi hn];exact h) (by rw [<- gH hn];exact hH) ht hw hcap hl' hlen hm
 | lp x j b off u hX' hb hu hq=>exact .lp x j b off u (by rw [XE];exact hX') hb hu (fun j c hj=>by rw [XE];exact hq j c hj)
 | mp o b es h hH=>simp [refB] at hn;exact .mp _ b es (by rw [<- gi hn];exact h) (by rw [<- gH hn];exact hH)
 | mpD o v h=>simp [refB] at hn;exact .mpD _ _ (by rw [<- gH hn];exact h)
 | bp o b T E r bs h hH=>simp [refB] at hn;exact .bp _ b T E r bs (by rw [<- gi hn];exact h) (by rw [<- gH hn];exact hH)
 | bpD o v h=>simp [refB] at hn;exact .bpD _ _ (by rw [<- gH hn];exact h)
 | err t p=>exact .err t p
 | junk v=>exact .junk v
 | ptrD o off v h=>simp [refB] at hn;exact .ptrD _ _ _ (by rw [<- gH hn];exact h)
 | epD o i j tot v h=>simp [refB] at hn;exact .epD _ _ _ _ _ (by rw [<- gH hn];exact h)
 | slD o off len tot v h=>simp [refB] at hn;exact .slD _ _ _ _ _ (by rw [<- gH hn];exact h)
 | epS o i j tot v S xs h hne=>simp [refB] at hn;exact .epS _ _ _ _ _ S xs (by rw [<- gH hn];exact h) hne
 | slS o off len tot v S xs h hne=>simp [refB] at hn;exact .slS _ _ _ _ _ S xs (by rw [<- gH hn];exact h) hne
 | slC o tot b cap cs h hH hl hm=>simp [refB] at hn;exact .slC _ _ b cap cs (by rw [<- gi hn];exact h) (by rw [<- gH hn];exact hH) hl hm
theorem RV.widen {F H0 L ι0 ιL w x v} (h:RV (Own F ιL) H0 ι0 w x v):RV F (H0++L) (ι0++ιL) w x v:=by
 have gi: ∀ {o:Nat} {q},ι0[o]? =some q->(ι0++ιL)[o]? =some q:=fun h=>by rw [List.getElem?_append_left (List.getElem?_eq_some_iff.1 h).1];exact h
 have gH: ∀ {o:Nat} {q},H0[o]? =some q->(H0++L)[o]? =some q:=fun h=>by rw [List.getElem?_append_left (List.getElem?_eq_some_iff.1 h).1];exact h
 induction h with
 | p x v h=>rw [XE] at h;exact .p _ _ h
 | agg cs a hs _ ih=>exact .agg cs a hs ih
 | fn f cs ds a e hs ht _ _ ih1 ih2=>exact .fn f cs ds a e hs ht ih1 ih2
 | tup cs a hs _ ih=>exact .tup cs a hs ih
 | ptr o off b cs h hH=>exact .ptr _ _ b cs (gi h) (gH hH)
 | ep o i j tot b S xs h hH ht=>exact .ep _ _ _ _ b S xs (gi h) (gH hH) ht
 | slNil o S a h hH=>exact .slNil _ S a (gi h) (gH hH)
 | sl o off len tot b S cap t xs c h hH ht hw hcap hl' hlen hm=>exact .sl _ _ _ _ b S cap t xs c (gi h) (gH hH) ht hw hcap hl' hlen hm
 | lp x j b off u hX' hb hu hq=>rw [XE] at hX';exact .lp x j b off u hX' hb hu (fun j c hj=>by have:=hq j c hj;rw [XE] at this;exact this)
 | mp o b es h hH=>exact .mp _ b es (gi h) (gH hH)
 | mpD o v h=>exact .mpD _ _ (gH h)
 | bp o b T E r bs h hH=>exact .bp _ b T E r bs (gi h) (gH hH)
 | bpD o v h=>exact .bpD _ _ (gH h)
 | err t p=>exact .err t p
 | junk v=>exact .junk v
 | ptrD o off v h=>exact .ptrD _ _ _ (gH h)
 | epD o i j tot v h=>exact .epD _ _ _ _ _ (gH h)
 | slD o off len tot v h=>exact .slD _ _ _ _ _ (gH h)
 | epS o i j tot v S xs h hne=>exact .epS _ _ _ _ _ S xs (gH h) hne
 | slS o off len tot v S xs h hne=>exact .slS _ _ _ _ _ S xs (gH h) hne
 | slC o tot b cap cs h hH hl hm=>exact .slC _ _ b cap cs (gi h) (gH hH) hl hm
theorem XY {α:Type} {A B:List α} {i:Nat} {x:α} (h:(A++B)[i]? =some x):(i<A.length/\A[i]? =some x)\/(∃j,i=A.length+j/\B[j]? =some x):=by
 grind
theorem FY {α:Type} {A B:List α} {j:Nat} :(A++B)[A.length+j]? =B[j]? :=by
 grind
def refH (n:Nat) (H:List Obj):Bool:=H.all fun o=>match o with | .cells cs=>ZE n cs | .bld _ _ r _=>decide (r<n) | _=>true
theorem LJ {n:Nat} {H:List Obj} (h:refH n H=true) {o:Nat} {cs:List V} (ho:H[o]? =some (.cells cs)) {j:Nat} {x:V} (hj:cs[j]? =some x):refB n x=true:=by
 have:=List.all_eq_true.1 h _ (List.mem_of_getElem? ho)
 grind [ZO]
theorem LI {n:Nat} {H:List Obj} (h:refH n H=true) {o T E r:Nat} {bs:List UInt8} (ho:H[o]? =some (.bld T E r bs)):r<n:=by
 have:=List.all_eq_true.1 h _ (List.mem_of_getElem? ho)
 grind
theorem Rel.front {F H0 L ι0 ιL w} (hl:ι0.length=H0.length) (hf:refH H0.length H0=true) (hr:Rel F (H0++L) (ι0++ιL) w):Rel (Own F ιL) H0 ι0 w:=by
 have gi: ∀ {o:Nat} {q},ι0[o]? =some q->(ι0++ιL)[o]? =some q:=fun h=>by grind
 have gH: ∀ {o:Nat} {q},H0[o]? =some q->(H0++L)[o]? =some q:=fun h=>by grind
 have gi': ∀ {o:Nat} {q},o<H0.length->(ι0++ιL)[o]? =some q->ι0[o]? =some q:=fun ho h=>by grind
 have lt: ∀ {o:Nat} {q:Obj},H0[o]? =some q->o<H0.length:=fun h=>(List.getElem?_eq_some_iff.1 h).1;refine ⟨⟨hl,fun b hb=> ?_,fun i j b hi hj=>hr.inj i j b (gi hi) (gi hj),fun i b hi=> ?_,fun o cs ho=> ?_,fun o S xs ho=> ?_,fun o es ho=> ?_,fun o T E r bs ho=> ?_⟩,hr.env.le fun b hb=>by simp_all [XE]⟩
 ·rcases hb with hb | hb
  ·exact hr.fin b hb
  ·obtain ⟨i,hi⟩:=List.mem_iff_getElem?.1 hb;exact (hr.avo (ι0.length+i) b (by grind)).2
 ·obtain ⟨a1,a2⟩:=hr.avo i b (gi hi);refine ⟨fun h=> ?_,a2⟩;rcases h with h | h
  ·exact a1 h
  ·obtain ⟨j,hj⟩:=List.mem_iff_getElem?.1 h;have:=hr.inj i (ι0.length+j) b (gi hi) (by grind)
   grind
 ·obtain ⟨b,c,t,e1,e2,e3,e4⟩:=hr.cel o cs (gH ho);exact ⟨b,c,t,gi' (lt ho) e1,e2,e3,fun j x hj=>(e4 j x hj).narrow hl (LJ hf ho hj)⟩
 ·rcases hr.elm o S xs (gH ho) with ⟨e1,e2⟩ | ⟨b,c,t,cap,e1,e2,e3,e4,e5,e6,e7⟩
  ·grind
  ·exact .inr ⟨b,c,t,cap,gi' (lt ho) e1,e2,e3,e4,e5,e6,fun i x j y hi hj=>by grind [XE]⟩
 ·obtain ⟨b,a',k,e1,e2,e3⟩:=hr.mpr o es (gH ho)
  grind [XE]
 ·obtain ⟨d0,d,b,go,e1,e2,e3⟩:=hr.bldr o T E r bs (gH ho)
  grind [LI]
theorem Good.front {F H0 L ι0 ιL w H1 ι1 w'} (hl:ι0.length=H0.length) (hr:Rel F (H0++L) (ι0++ιL) w) (g:Good (Own F ιL) H0 ι0 w H1 ι1 w') (hn:H1.length=H0.length):Good F (H0++L) (ι0++ιL) w (H1++L) (ι1++ιL) w':=by
 have hl1:=g.rel.len
 have hLlen:ιL.length=L.length:=by have:=hr.len;grind
 have disj: ∀ {b:Nat},some b∈ιL->some b ∉ ι0:=fun {b} hb h=>by
  obtain ⟨i,hi⟩:=List.mem_iff_getElem?.1 hb;obtain ⟨j,hj⟩:=List.mem_iff_getElem?.1 h;have hjl:=(List.getElem?_eq_some_iff.1 hj).1;have:=hr.inj (ι0.length+i) j b (by grind) (by grind);omega
 have oldL: ∀ {j b:Nat},ιL[j]? =some (some b)->b<w.heap.size/\w'.heap[b]? =w.heap[b]? :=fun {j b} h=>by
  have h1:=(hr.avo (ι0.length+j) b (by grind)).2;exact ⟨h1,g.keep b h1 (disj (List.mem_of_getElem? h))⟩
 have hKeeps:Keeps (Own F (ι0++ιL)) w (Own F (ι1++ιL)) w':=fun b hb hs=>by
  have h0:some b ∉ ι0:=fun h=>hb (.inr (by simp [h]));refine ⟨fun h=> ?_,by have:=g.size;omega,g.keep b hs h0⟩;rcases h with h | h
  ·exact hb (.inl h)
  ·rcases List.mem_append.1 h with h | h
   ·exact g.own b hs h0 h
   ·exact hb (.inr (by simp [h]))
 have hHX:HX (H0++L) (ι0++ιL) w (H1++L) (ι1++ιL) w':=fun o ob ho=>by
  rcases XY ho with ⟨hlt,h0⟩ | ⟨j,rfl,hj⟩
  ·have e1: ∀ {q},H1[o]? =some q->(H1++L)[o]? =some q:=fun h=>by grind
   have e2:(ι0++ιL)[o]? =ι0[o]? :=List.getElem?_append_left Za;have e3:(ι1++ιL)[o]? =ι1[o]? :=List.getElem?_append_left Za;rcases g.hx o ob h0 with h | h
   ·grind
   ·right
    cases ob with
    | dead=>exact h.elim
    | cells cs=>grind
    | map es=>grind
    | bld T E r bs=>grind
    | elems S xs =>
     grind
  ·have e1:(H1++L)[H0.length+j]? =some ob:=by grind
   have e2:(ι0++ιL)[H0.length+j]? =ιL[j]? :=by grind
   grind
 refine Good.up hr.env ⟨⟨by simp;omega,fun b hb=>by have:=hr.fin b hb;have:=g.size;omega,fun i j b hi hj=> ?_,fun i b hi=> ?_,fun o cs ho=> ?_,fun o S xs ho=> ?_,fun o es ho=> ?_,fun o T E r bs ho=> ?_⟩,g.os,g.tape,g.output,fun b c t h=>(g.shape b c t h).imp (fun h=>⟨List.mem_append_left _ h.1,fun h3=>(List.mem_append.1 h3).elim h.2 fun h4=>by
   grind⟩) id,g.size,fun b hb ho=> ?_,fun b hb ho h=> ?_,hHX⟩
 ·rcases XY hi with ⟨h1,h2⟩ | ⟨i1,rfl,h2⟩<;>rcases XY hj with ⟨k1,k2⟩ | ⟨j1,rfl,k2⟩
  ·exact g.rel.inj i j b h2 k2
  ·exact absurd (.inr (List.mem_of_getElem? k2)) (g.rel.avo i b h2).1
  ·exact absurd (.inr (List.mem_of_getElem? h2)) (g.rel.avo j b k2).1
  ·have:=hr.inj (ι0.length+i1) (ι0.length+j1) b (by grind) (by grind);omega
 ·rcases XY hi with ⟨h1,h2⟩ | ⟨i1,rfl,h2⟩
  ·obtain ⟨a1,a2⟩:=g.rel.avo i b h2;exact ⟨fun h=>a1 (.inl h),a2⟩
  ·obtain ⟨a1,a2⟩:=hr.avo (ι0.length+i1) b (by grind)
   grind
 ·rcases XY ho with ⟨h1,h2⟩ | ⟨j,rfl,h2⟩
  ·obtain ⟨b,c,t,e1,e2,e3,e4⟩:=g.rel.cel o cs h2;exact ⟨b,c,t,by grind,e2,e3,fun j x hj=>(e4 j x hj).widen⟩
  ·obtain ⟨b,c,t,e1,e2,e3,e4⟩:=hr.cel (H0.length+j) cs (by grind)
   have e1':ιL[j]? =some (some b):=by grind
   exact ⟨b,c,t,by grind,by grind,e3,fun j x hj=>(e4 j x hj).ext hKeeps hHX⟩
 ·rcases XY ho with ⟨h1,h2⟩ | ⟨j,rfl,h2⟩
  ·rcases g.rel.elm o S xs h2 with ⟨e1,e2⟩ | ⟨b,c,t,cap,e1,e2,e3,e4,e5,e6,e7⟩
   ·grind
   ·exact .inr ⟨b,c,t,cap,by grind,e2,e3,e4,e5,e6,fun i x j y hi hj=>by grind [XE]⟩
  ·rcases hr.elm (H0.length+j) S xs (by grind) with ⟨e1,e2⟩ | ⟨b,c,t,cap,e1,e2,e3,e4,e5,e6,e7⟩
   ·grind
   ·rw [<- hl,FY] at e1;exact .inr ⟨b,c,t,cap,by grind,by grind,e3,e4,e5,e6,fun i x j y hi hj=>(e7 i x j y hi hj).ext hKeeps⟩
 ·rcases XY ho with ⟨h1,h2⟩ | ⟨j,rfl,h2⟩
  ·obtain ⟨b,a',k,e1,e2,e3⟩:=g.rel.mpr o es h2
   grind [XE]
  ·obtain ⟨b,a',k,e1,e2,e3⟩:=hr.mpr (H0.length+j) es (by grind)
   have e1':ιL[j]? =some (some b):=by grind
   exact ⟨b,a',k,by grind,by grind,e3.ext hKeeps⟩
 ·rcases XY ho with ⟨h1,h2⟩ | ⟨j,rfl,h2⟩
  ·obtain ⟨d0,d,b,go,e1,e2,e3⟩:=g.rel.bldr o T E r bs h2
   grind
  ·obtain ⟨d0,d,b,go,e1,e2,e3⟩:=hr.bldr (H0.length+j) T E r bs (by grind)
   have e1':ιL[j]? =some (some b):=by grind
   have up: ∀ {i:Nat} {q:Option Nat},(ι0++ιL)[i]? =some q->H0.length<=i->(ι1++ιL)[i]? =some q/\ ∀b,q=some b->w'.heap[b]? =w.heap[b]? :=fun {i q} hi hle=>by
    grind
   obtain ⟨u1,u2⟩:=up e2 Za;have u3:=(up e1 Za).1;refine ⟨Za,?_,b,go,by grind,u1,e3.ext ((up e1 Za).2 b rfl) u2⟩
   grind
 ·exact g.keep b hb fun h=>ho (by simp [h])
 ·rcases List.mem_append.1 h with h | h
  ·exact g.own b hb (fun h=>ho (by simp [h])) h
  grind
theorem ACalls.front {P g} {args:List V} {H0:List Obj} {Q:V->List Obj->Prop} (h:ACalls P g args H0 fun x H'=>Q x H'/\H'.length=H0.length) (ha:ZE H0.length args=true) (hf:refH H0.length H0=true) (L:List Obj) :
  ACalls P g args (H0++L) fun x H'=> ∃H1,Q x H1/\H'=H1++L:=by
 refine ⟨h.1,fun F ι w vs hr hv=> ?_⟩;have hlen:=hr.len;simp at hlen;obtain ⟨ι0,ιL,rfl,hl⟩: ∃ι0 ιL,ι=ι0++ιL/\ι0.length=H0.length:=⟨ι.take H0.length,ι.drop H0.length,Zb,by simp;omega⟩;refine (h.2 _ _ _ _ (hr.front hl hf) ⟨hv.1,fun j c hj=>(hv.2 j c hj).narrow hl (ZO ha j c hj)⟩).mono ?_;rintro e w' ⟨x,H1,ι1,v,rfl,⟨q,hn⟩,gd,rv⟩;exact ⟨_,_,_,v,rfl,⟨H1,q,rfl⟩,gd.front hl hr hn,rv.widen⟩
theorem ACalls.useP {P g} {args:List V} {H0 H1 L:List Obj} {v:V} {K:V->List Obj->Prop} (h:ACalls P g args H0 fun x H'=>x=v/\H'=H1) (hn:H1.length=H0.length) (k:K v (H1++L)) (ha:ZE H0.length args=true) (hf:refH H0.length H0=true):ACalls P g args (H0++L) K :=
 (ACalls.front (Q:=fun x H'=>x=v/\H'=H1) (h.mono fun x H' hq=>⟨hq,by grind⟩) ha hf L).mono fun x H' hq=>by
  grind
theorem Qp {α β:Type} {f:α->β} {l:List α} :List.take l.length (l.map f)=l.map f:=by rw [<- List.map_take,List.take_length]
def Bu (o:Nat) (xs:List PV):V->V
 | .sl o' off len tot=>if o'=o/\xs.length=tot/\off+len<=tot then .p (.list false ((xs.take (off+len)).drop off)) else .sl o' off len tot
 | x=>x
def Ux (f:V->V):Obj->Obj
 | .cells cs=> .cells (cs.map f)
 | x=>x
def Rz (o:Nat) (xs:List PV):Obj->Obj:=Ux (Bu o xs)
def zC (o:Nat) (xs:List PV) (H:List Obj):List Obj:=(H.map (Rz o xs)).set o .dead
theorem Weak.fzG (f:V->V) {n0 fr H} (o:Nat) {S:Nat} {xs:List PV} (ho:H[o]? =some (.elems S xs))
  (hf0: ∀ {F H' ι ι' w},Keeps (Own F ι) w (Own F ι') w->HX H ι w H' ι' w->(∀ {off len tot v},xs.length=tot->off+len<=tot->RV F H ι w (.sl o off len tot) v->RV F H' ι' w (.p (.list false ((xs.take (off+len)).drop off))) v)-> ∀ {x v},RV F H ι w x v->RV F H' ι' w (f x) v) :
  Weak n0 fr H (fr.map f) ((H.map (Ux f)).set o .dead):=fun F ι a w hr hf=>by
 have hol:=(List.getElem?_eq_some_iff.1 ho).1;have hlen:=hr.len
 have gne: ∀ {i:Nat},i≠o->((H.map (Ux f)).set o .dead)[i]? =(H[i]?).map (Ux f):=fun {i} hi=>by
  grind
 have geq:((H.map (Ux f)).set o .dead)[o]? =some .dead:=by simp [hol]
 have ine: ∀ {i:Nat},i≠o->(ι.set o none)[i]? =ι[i]? :=fun {i} hi=>List.getElem?_set_ne (fun h=>hi h.symm)
 have ieq:(ι.set o none)[o]? =some none:=by grind
 have hsub: ∀ {i b:Nat},(ι.set o none)[i]? =some (some b)->i≠o/\ι[i]? =some (some b):=fun {i b} hi=>by
  grind
 have hown: ∀b,Own F (ι.set o none) b->Own F ι b:=fun b hb=>by
  rcases hb with hb | hb
  ·exact .inl hb
  ·obtain ⟨i,hi⟩:=List.mem_iff_getElem?.1 hb;exact .inr (List.mem_of_getElem? (hsub hi).2)
 have hX:Keeps (Own F ι) w (Own F (ι.set o none)) w:=fun b hb hs=>⟨fun h=>hb (hown b h),hs,rfl⟩
 have hHX:HX H ι w ((H.map (Ux f)).set o .dead) (ι.set o none) w:=fun i ob hi=>by
  by_cases h:i=o
  ·grind
  ·have e:((H.map (Ux f)).set o .dead)[i]? =some (Ux f ob):=by grind
   cases ob with
   | dead=>exact .inl e
   | cells cs=>exact .inr ⟨⟨_,e⟩,ine h⟩
   | map es=>exact .inr ⟨⟨_,e⟩,ine h⟩
   | bld T E r bs=>exact .inr ⟨⟨_,e⟩,ine h⟩
   | elems S xs=>exact .inr ⟨_,e,.inr ⟨rfl,ine h,fun b c t _ hc=>⟨c,hc,rfl⟩⟩⟩
 have hval: ∀ {x v},RV F H ι w x v->RV F ((H.map (Ux f)).set o .dead) (ι.set o none) w (f x) v:=hf0 hX hHX fun h1 h2 hv=>by
  refine .p _ _ (UB _ (fun b hb h=> ?_) hX hr ho h1 h2 hv);rcases h with h | h
  ·exact (hr.avo _ b hb).1 h
  ·obtain ⟨i,hi⟩:=List.mem_iff_getElem?.1 h;obtain ⟨h3,h4⟩:=hsub hi;exact h3 (hr.inj _ _ _ h4 hb)
 have hrel:Rel F ((H.map (Ux f)).set o .dead) (ι.set o none) w:=by
  refine ⟨⟨by simp [hlen],hr.fin,fun i j b hi hj=>hr.inj i j b (hsub hi).2 (hsub hj).2,fun i b hi=>hr.avo i b (hsub hi).2,fun i cs hi=> ?_,fun i S' ys hi=> ?_,fun i es hi=> ?_,?_⟩,hr.env.le fun b hb=>hb.imp id fun h=>by grind⟩
  ·by_cases h:i=o
   ·grind
   ·rw [gne h] at hi;obtain ⟨ob,h1,h2⟩:=Option.map_eq_some_iff.1 hi
    cases ob<;>(try simp only [Ux] at h2)<;>try cases h2
    rename_i cs0;obtain ⟨b,c,t,e1,e2,e3,e4⟩:=hr.cel i cs0 h1
    grind
  ·by_cases h:i=o
   ·grind
   ·rw [gne h] at hi;obtain ⟨ob,h1,h2⟩:=Option.map_eq_some_iff.1 hi
    cases ob<;>(try simp only [Ux] at h2)<;>try cases h2
    rcases hr.elm i _ _ h1 with ⟨e1,e2⟩ | ⟨b,c,t,cap,e1,e2,e3,e4,e5,e6,e7⟩
    ·grind
    ·exact .inr ⟨b,c,t,cap,by grind,e2,e3,e4,e5,e6,fun i x j y hi hj=>(e7 i x j y hi hj).ext hX⟩
  ·by_cases h:i=o
   ·grind
   ·rw [gne h] at hi;obtain ⟨ob,h1,h2⟩:=Option.map_eq_some_iff.1 hi
    cases ob<;>(try simp only [Ux] at h2)<;>try cases h2
    obtain ⟨b,a',k,e1,e2,e3⟩:=hr.mpr i _ h1;exact ⟨b,a',k,by grind,e2,e3.ext hX⟩
  ·refine Yn hr (fun i T E r bs hi=> ?_) fun i ob hi hs=> ?_
   ·by_cases h:i=o
    ·grind
    ·rw [gne h] at hi;obtain ⟨ob,h1,h2⟩:=Option.map_eq_some_iff.1 hi
     cases ob<;>(try simp only [Ux] at h2)<;>try cases h2
     exact h1
   ·have h:i≠o:=fun e=>by subst e;rw [ho] at hi;simp at hi;subst hi;cases hs
    refine ⟨?_,ine h,fun _ _=>rfl⟩;rw [gne h,hi]
    cases ob<;>first | rfl | cases hs
 have hg:Good F H ι w ((H.map (Ux f)).set o .dead) (ι.set o none) w:=⟨hrel,rfl,Tp.rfl,rfl,fun _ c _ h=> .inr ⟨c,h,rfl⟩,Nat.le_refl _,fun _ _ _=>rfl,fun b hb hno h=>by
  grind,hHX⟩
 refine ⟨ι.set o none,hrel,⟨by simpa using hf.1,hf.2.1,fun i x hi=> ?_⟩,fun H0 ι0 w0 _ g=>g.trans hg⟩;rw [List.getElem?_map] at hi;obtain ⟨y,h5,rfl⟩:=Option.map_eq_some_iff.1 hi;exact hval (hf.2.2 i y h5)
theorem Weak.fz {n0 fr H} (o:Nat) {S:Nat} {xs:List PV} (ho:H[o]? =some (.elems S xs)):Weak n0 fr H (fr.map (Bu o xs)) (zC o xs H) :=
 Weak.fzG (Bu o xs) o ho fun {_ _ _ _ _} hX hHX row {x v} hv=>by
  unfold Bu
  split
  ·split
   ·grind
   ·exact hv.ext hX hHX
  ·exact hv.ext hX hHX
@[go_sem] theorem uR {o xs H} :zC o xs H=(H.map (Rz o xs)).set o .dead:=rfl
@[go_sem] theorem cM {o xs cs} :Rz o xs (.cells cs)= .cells (cs.map (Bu o xs)):=rfl
@[go_sem] theorem cN {o xs S ys} :Rz o xs (.elems S ys)= .elems S ys:=rfl
@[go_sem] theorem rK {o xs es} :Rz o xs (.map es)= .map es:=rfl
@[go_sem] theorem rJ {o xs T E r bs} :Rz o xs (.bld T E r bs)= .bld T E r bs:=rfl
@[go_sem] theorem uS {o xs a} :Bu o xs (.bp a)= .bp a:=rfl
@[go_sem] theorem uW {o xs a} :Bu o xs (.mp a)= .mp a:=rfl
@[go_sem] theorem kD {o xs} :Rz o xs .dead= .dead:=rfl
@[go_sem] theorem zD {o xs x} :Bu o xs (.p x)= .p x:=rfl
@[go_sem] theorem rL {o xs x} :Bu o xs (.agg x)= .agg x:=rfl
@[go_sem] theorem uU {o xs f a b} :Bu o xs (.fn f a b)= .fn f a b:=rfl
@[go_sem] theorem rN {o xs a b} :Bu o xs (.ptr a b)= .ptr a b:=rfl
@[go_sem] theorem uT {o xs a b c d} :Bu o xs (.ep a b c d)= .ep a b c d:=rfl
@[go_sem] theorem uV {o xs a b} :Bu o xs (.lp a b)= .lp a b:=rfl
@[go_sem] theorem rO {o xs a} :Bu o xs (.tup a)= .tup a:=rfl
@[go_sem] theorem rM {o xs} :Bu o xs .err= .err:=rfl
@[go_sem] theorem kE {o xs} :Bu o xs .junk= .junk:=rfl
def Iz (xs:List PV) (o n:Nat):V:=if xs.length=n then .p (.list false xs) else .sl o 0 n n
@[go_sem] theorem uX {o xs o' n} :Bu o xs (.sl o' 0 n n)=if o'=o then Iz xs o n else .sl o' 0 n n:=by
 grind [Bu,Iz]
@[go_sem low] theorem uY {xs o n} :Iz xs o n=if xs.length=n then .p (.list false xs) else .sl o 0 n n:=rfl
@[go_sem] theorem rP {α:Type} {f:α->PV} {l:List α} {o} :Iz (l.map f) o l.length= .p (.list false (l.map f)):=by simp [Iz]
@[go_sem] theorem rQ {x o} :Iz [x] o 1= .p (.list false [x]):=by simp [Iz]
@[go_sem] theorem rR {x y o} :Iz [x,y] o 2= .p (.list false [x,y]):=by simp [Iz]
@[go_sem] theorem kF {α:Type} {f:α->PV} {l:List α} {x o} :Iz (l.map f++ [x]) o (l.length+1)= .p (.list false (l.map f++ [x])):=by simp [Iz]
theorem ACalls.pureE {P g args} {α:Type} {f:α->PV} {R:α->Prop} (h:ACalls P g args [] fun x _=> ∃a,R a/\x= .p (f a)):ACalls P g args [] fun x H'=> ∃a,R a/\x= .p (f a)/\H'= [] :=
 ⟨h.1,fun F ι w vs hr hv=>(h.2 F ι w vs hr hv).mono fun e w' ⟨x,H',ι',v,he,⟨a,ha,hx⟩,g,r⟩=>by
  have hi:ι= []:=List.eq_nil_of_length_eq_zero hr.len;subst hi;subst hx;refine ⟨.p (f a),[],[],v,he,⟨a,ha,rfl,rfl⟩,g.forget hr.env hr.fin,?_⟩
  cases r with | p _ _ r =>
  exact .p _ _ (r.weaker fun b hb=>by
   rcases hb with hb | hb
   ·exact .inl hb
   ·simp at hb)⟩
end Go.AM
namespace Go.Proofs.YtmbelkfkhclnkaaGreatDoor.K
open Go Go.AM Go.Proofs
set_option maxRecDepth 8000
theorem BJ {S M:Nat} (hS:S<9223372036854775808):(IntKind.i64.wrap ((BitVec.ofInt 64 (S:Int)&&& ~~~BitVec.ofInt 64 (M:Int)).toNat:Int)=0)↔((List.range 63).all fun i=> !S.testBit i||M.testBit i)=true:=by
 rw [BitVec.ofInt_natCast,BitVec.ofInt_natCast]
 have hz:(BitVec.ofNat 64 S&&& ~~~BitVec.ofNat 64 M).toNat<=S:=by
  grind [Nat.and_le_left]
 have hw:IntKind.i64.wrap ((BitVec.ofNat 64 S&&& ~~~BitVec.ofNat 64 M).toNat:Int)=((BitVec.ofNat 64 S&&& ~~~BitVec.ofNat 64 M).toNat:Int):=by rw [IntKind.wrap_i64];omega
 rw [hw]
 constructor
 ·intro h;have h0:BitVec.ofNat 64 S&&& ~~~BitVec.ofNat 64 M=0#64:=BitVec.eq_of_toNat_eq (by grind);rw [List.all_eq_true];intro i hi;have hi:=List.mem_range.1 hi;have:=congrArg (fun b=>b.getLsbD i) h0;simp only [BitVec.getLsbD_and,BitVec.getLsbD_not,BitVec.getLsbD_ofNat,show i<64 by omega,decide_true,Bool.true_and] at this
  grind
 ·intro h
  have h0:BitVec.ofNat 64 S&&& ~~~BitVec.ofNat 64 M=0#64:=by
   apply BitVec.eq_of_getLsbD_eq;intro i hi;simp only [BitVec.getLsbD_and,BitVec.getLsbD_not,BitVec.getLsbD_ofNat,hi,decide_true,Bool.true_and]
   grind
  rw [h0];rfl
theorem orN {a b:Nat} (ha:a<4611686018427387904) (hb:b<4611686018427387904):IntKind.i64.wrap ((BitVec.ofInt 64 (a:Int)|||BitVec.ofInt 64 (b:Int)).toNat:Int)=((a|||b:Nat):Int):=by
 have h:(a|||b)<2^62:=Nat.or_lt_two_pow Za Za
 grind [IntKind.wrap_i64]
@[go_sem high] theorem Hg {P:Program} {t:TypeId} {a b:Nat} (ha:a<4611686018427387904) (hb:b<4611686018427387904):Xf P .or t (.p (.int .i64 (a:Int))) (.p (.int .i64 (b:Int)))=some (.int .i64 ((a|||b:Nat):Int)):=by
 rw [EC];exact congrArg (fun z=>some (PV.int .i64 z)) (orN ha hb)
end Go.Proofs.YtmbelkfkhclnkaaGreatDoor.K
