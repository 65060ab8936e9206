/- Declarations that the closing texts need, part 6: joined by tools/slim.py. -/
import Derived.Test.YtenjikkmmibffaaGreatDoorH5
import Derived.JoinedCond
import Derived.OpenShut
import Derived.ProofKit
set_option linter.unusedVariables false
set_option linter.unusedSimpArgs false
namespace Go.AM
open Go.RowKit
mutual
/-- the size of a datum -/
def Hj {H:Type} :DataW H->Nat
 | .lit (.string bytes)=>bytes.length+1
 | .lit _=>1
 | .nil=>1
 | .ptr d=>Hj d+1
 | .slice elems spare=>KW elems+KW spare+1
 | .agg parts=>KW parts+1
 | .iface _ d=>Hj d+1
 | .map _=>1
 | .held _=>1
def KW {H:Type} :List (DataW H)->Nat
 | []=>0
 | d::r=>Hj d+KW r
end
theorem tF {H:Type} (d:DataW H):1<=Hj d:=by
 cases d with
 | lit l=>cases l<;>simp [Hj]
 | _=>simp [Hj]
theorem Nw {H:Type} {d:DataW H} {l:List (DataW H)} (h:d∈l):Hj d<=KW l:=by
 induction l with
 | nil=>cases h
 | cons x r ih =>
  grind [KW]
theorem jW {H:Type} (l:List (DataW H)):l.length<=KW l:=by
 induction l with
 | nil=>simp [KW]
 | cons x r ih=>grind [tF,KW]
def EB (P:Program) (t:TypeId):Option (List (Nat×TypeId)):=match P.underlying t with
 | some (.struct fs)=>some (fs.toList.map fun f=>(f.offset,f.type))
 | some (.array n e)=>some ((List.range n).map fun i=>(i*P.cellsOf e,e))
 | _=>none
def laid (P:Program):List (Nat×TypeId)->Nat->Nat->Bool
 | [],o,tot=>o==tot
 | q::r,o,tot=>q.1==o&&laid P r (o+P.cellsOf q.2) tot
def plain (P:Program):Nat->TypeId->Bool
 | 0,_=>false
 | k+1,t=>match EB P t with
  | some l=>laid P l 0 (P.cellsOf t)&&l.all fun q=>plain P k q.2
  | none=>match P.underlying t with
   | some .bool=>true
   | some (.int _)=>true
   | some .string=>true
   | some (.slice e)=>decide (0<P.cellsOf e)&&plain P k e
   | _=>false
def Qw (P:Program) (e:TypeId) (cs:List PV):PV:=if XQ P e=some true then .agg cs else cs.headD .nilp
def Y6 (P:Program) (B:Nat):Nat->TypeId->List PV->Prop
 | 0,_,_=>False
 | k+1,t,cs=>match EB P t with
  | some l=>cs.length=P.cellsOf t/\ ∀q∈l,Y6 P B k q.2 ((cs.drop q.1).take (P.cellsOf q.2))
  | none=>match P.underlying t with
   | some .bool=> ∃b,cs= [.bool b]
   | some (.int ik)=> ∃n,cs= [.int ik n]/\(Lit.int ik n).wf=true
   | some .string=> ∃s:List UInt8,cs= [.str s]/\s.length<=B/\s.length<=maxLen
   | some (.slice e)=> ∃xs:List (List PV),cs= [.list false (xs.map (Qw P e))]/\xs.length<=B/\xs.length<=maxLen/\ ∀x∈xs,Y6 P B k e x
   | _=>False
theorem Wr {P t l} (h:EB P t=some l):XQ P t=some true:=by
 grind [EB,XQ]
theorem Rk {P B k e cs} (h:Y6 P B k e cs):(Qw P e cs).cells=cs:=by
 cases k with
 | zero=>exact h.elim
 | succ k =>
  unfold Qw;simp only [Y6] at h
  split at h
  ·grind [Wr,PV.cells]
  ·split at h
   ·rename_i hu;obtain ⟨b,rfl⟩:=h;grind [PV.cells]
   ·rename_i ik hu;obtain ⟨n,rfl,_⟩:=h;grind [PV.cells]
   ·rename_i hu;obtain ⟨s,rfl,_⟩:=h;grind [PV.cells]
   ·rename_i hu;obtain ⟨xs,rfl,_⟩:=h;grind [PV.cells]
   grind
theorem F8 {α:Type} {R:Nat->α->Prop} : ∀(n:Nat),(∀i,i<n-> ∃x,R i x)-> ∃l:List α,l.length=n/\ ∀(i:Nat) (x:α),l[i]? =some x->R i x
 | 0,_=>⟨[],rfl,fun i x h=>by simp at h⟩
 | n+1,h=>by
  obtain ⟨l,h1,h2⟩:=F8 n fun i hi=>h i Za;obtain ⟨x,hx⟩:=h n Za;refine ⟨l++ [x],by simp [h1],fun i y hi=> ?_⟩
  grind
theorem Is {α β:Type} {f:α->Option β} : ∀ {l:List α} {r:List β},l.mapM f=some r->r.length=l.length
 | [],r,h=>by grind
 | x::l,r,h=>by
  simp only [List.mapM_cons,Option.bind_eq_bind,Ww,Option.pure_def,Qr] at h;obtain ⟨y,_,ys,h2,rfl⟩:=h;simp [Is h2]
theorem Ir {α β:Type} {f:α->Option β} : ∀ {l:List α} {r:List β},l.mapM f=some r-> ∀(i:Nat) (x:α),l[i]? =some x-> ∃y,f x=some y/\r[i]? =some y
 | [],r,h,i,x,hx=>by simp at hx
 | a::l,r,h,i,x,hx=>by
  simp only [List.mapM_cons,Option.bind_eq_bind,Ww,Option.pure_def,Qr] at h;obtain ⟨y,h1,ys,h2,rfl⟩:=h
  cases i with
  | zero=>grind
  | succ i=>obtain ⟨z,k1,k2⟩:=Ir h2 i x (by grind);grind
theorem N3 {β:Type} {f:Nat->Option β} {n:Nat} {r:List β} (h:(List.range n).mapM f=some r):r.length=n/\ ∀i,i<n-> ∃y,f i=some y/\r[i]? =some y :=
 ⟨by simpa using Is h,fun i hi=>Ir h i i (by simp [hi])⟩
theorem FY {w:World} {a:Addr} {n:Nat} {cs:List Value} (h:w.cells? 0 a n=some cs):cs.length=n/\ ∀j,j<n-> ∃y,w.cell? (a.add j)=some y/\cs[j]? =some y:=by
 simp only [World.cells?,Kh,if_true] at h;exact N3 h
theorem HU {w:World} {a:Addr} {v:Value} (h:w.cell? a=some v):a.spot=none/\a.block<w.heap.size:=by
 unfold World.cell? at h
 split at h
 ·rename_i c t fr hb
  split at h
  ·cases h
  ·rename_i hs;exact ⟨by simp_all,(Qp.1 hb).1⟩
 ·cases h
theorem T2 (a:Addr):a.add 0=a:=by rfl
theorem gK (b off n:Nat):(Addr.mk b off none).add n=⟨b,off+n,none⟩:=by
 grind [Addr.add]
theorem lG {cs:List Value} {o n j:Nat} (h:j<n):((cs.drop o).take n).getD j undef=cs.getD (o+j) undef:=by
 grind
theorem S5 {P:Program} {tot:Nat} : ∀ {l:List (Nat×TypeId)} {o:Nat},laid P l o tot=true->o<=tot
 | [],o,h=>by grind [laid]
 | q::r,o,h=>by simp [laid] at h;have:=S5 h.2;omega
theorem M8 {P:Program} {w:World} {B k tot:Nat} {X:Nat->Prop} {cs:List Value} (hc:cs.length=tot): ∀(l:List (Nat×TypeId)) (o:Nat),laid P l o tot=true ->
  (∀q∈l,∃x:List PV,x.length=((cs.drop q.1).take (P.cellsOf q.2)).length/\Y6 P B k q.2 x/\ ∀(j:Nat) (c:PV),x[j]? =some c->c.one=true/\RP X w c (((cs.drop q.1).take (P.cellsOf q.2)).getD j undef)) ->
  ∃xs:List PV,xs.length=tot-o/\(∀q∈l,o<=q.1/\Y6 P B k q.2 ((xs.drop (q.1-o)).take (P.cellsOf q.2)))/\ ∀(j:Nat) (c:PV),xs[j]? =some c->c.one=true/\RP X w c (cs.getD (o+j) undef)
 | [],o,h,_=>by
  simp_all [laid]
 | q::r,o,h,hq=>by
  simp only [laid,ZE,beq_iff_eq] at h;obtain ⟨rfl,h⟩:=h;have hle:=S5 h;obtain ⟨xs,h1,h2,h3⟩:=M8 hc r _ h fun p hp=>hq p (by simp [hp]);obtain ⟨x,k1,k2,k3⟩:=hq q Zb
  have hxl:x.length=P.cellsOf q.2:=by grind
  refine ⟨x++xs,by simp;omega,fun p hp=> ?_,fun j c hj=> ?_⟩
  ·rcases Z4.1 hp with rfl | hp
   ·grind
   grind [List.drop_append,CO]
  grind
theorem IU {H:Type} {enc:TypeId×Value->H} {P:Program} {w:World} {held:Bool} {B:Nat} {X:Nat->Prop} (hX: ∀b,¬X b): ∀(k m:Nat) (t:TypeId) (cs:List Value) (z:DataW H×List MemPlace),
  DataW.trod enc P w 0 (fun _=>true) held k t cs=some z->plain P m t=true->(maxLen<=B\/Hj z.1<=B) ->
  ∃xs:List PV,xs.length=cs.length/\Y6 P B k t xs/\ ∀(j:Nat) (c:PV),xs[j]? =some c->c.one=true/\RP X w c (cs.getD j undef)
 | 0,m,t,cs,z,h,_,_=>by simp [DataW.trod] at h
 | k+1,0,t,cs,z,h,hp,_=>by simp [plain] at hp
 | k+1,m+1,t,cs,z,h,hp,hB=>by
  have IH:=fun m' t' cs' z'=>IU (enc:=enc) (P:=P) (w:=w) (held:=held) (B:=B) (X:=X) hX k m' t' cs' z'
  have one1: ∀(x:PV) (v:Value),x.one=true->RP X w x v-> ∀(j:Nat) (c:PV),[x][j]? =some c->c.one=true/\RP X w c ([v].getD j undef):=fun x v h1 h2 j c hj=>by
   grind
  simp only [plain] at hp
  split at hp
  ·rename_i l hl;simp only [ZE,Zx] at hp;obtain ⟨hlaid,hp⟩:=hp
   have key: ∃(zs:List (DataW H×List MemPlace)),z.1= .agg (zs.map (·.1))/\cs.length=P.cellsOf t/\ ∀q∈l,∃y∈zs,DataW.trod enc P w 0 (fun _=>true) held k q.2 ((cs.drop q.1).take (P.cellsOf q.2))=some y:=by
    unfold EB at hl
    split at hl
    ·rename_i fs hu;simp at hl;subst hl;obtain ⟨zs,n,e1,e2,e3,e4,e5⟩:=DataW.trod_struct hu h
     have:n=k:=Za
     subst this;refine ⟨zs,by rw [e2],e3,fun q hq=> ?_⟩;obtain ⟨f,hf,rfl⟩:=Xn.1 hq
     grind [Xf]
    ·rename_i n e hu;simp at hl;subst hl;obtain ⟨zs,m',e1,e2,e3,e4,e5⟩:=DataW.trod_array hu h
     grind
    ·cases hl
   obtain ⟨zs,hz,hcl,hk⟩:=key
   obtain ⟨xs,h1,h2,h3⟩:=M8 (P:=P) (w:=w) (B:=B) (k:=k) (X:=X) hcl l 0 hlaid fun q hq=>by
    obtain ⟨y,hy,ht⟩:=hk q hq;refine IH m q.2 _ y ht (hp q hq) ?_;rcases hB with hB | hB
    ·exact .inl hB
    ·refine .inr ?_;rw [hz] at hB;have:=Nw (Xn.2 ⟨y,hy,rfl⟩:y.1∈zs.map (·.1))
     grind [Hj]
   grind [Y6]
  ·rename_i hl
   split at hp
   ·rename_i hu;obtain ⟨b,rfl,_⟩:=DataW.trod_bool hu h;exact ⟨[.bool b],rfl,by simp [Y6,hl,hu],one1 _ _ rfl (.bool b)⟩
   ·rename_i ik hu;obtain ⟨n,rfl,_,hw⟩:=DataW.trod_int hu h;exact ⟨[.int _ n],rfl,by grind [Y6],one1 _ _ rfl (.int _ n)⟩
   ·rename_i hu;obtain ⟨s,rfl,hz,hs⟩:=DataW.trod_string hu h;have hsl:s.data.toList.length=s.size:=AL;refine ⟨[.str s.data.toList],rfl,?_,one1 _ _ rfl ?_⟩
    ·simp only [Y6,hl,hu];refine ⟨_,rfl,?_,Za⟩
     grind [Hj]
    ·have:=RP.str (X:=X) (w:=w) s.data.toList;omega
   ·rename_i e hu;simp only [ZE,Zs] at hp;obtain ⟨hS,hp⟩:=hp;rcases DataW.trod_slice hu h with ⟨rfl,_⟩ | ⟨a,len,cap,elems,rest,n,e1,rfl,hz,_,hlc,hcm,l1,g1,g2,_⟩
    ·refine ⟨[.list false []],rfl,?_,one1 _ _ rfl (.nils _)⟩;simp only [Y6,hl,hu];simp
    ·have:n=k:=Za
     subst this;obtain ⟨l2,g2⟩:=g2 rfl
     have hcell: ∀i,i<len-> ∃csi:List Value,csi.length=P.cellsOf e/\(∀j,j<P.cellsOf e-> ∃y,w.cell? ((a.add (i*P.cellsOf e)).add j)=some y/\csi[j]? =some y) /\
       ∃xs:List PV,xs.length=csi.length/\Y6 P B n e xs/\ ∀(j:Nat) (c:PV),xs[j]? =some c->c.one=true/\RP X w c (csi.getD j undef):=fun i hi=>by
      have hy:=g1 i hi;rw [Kl Za] at hy;simp only [Ww] at hy;obtain ⟨csi,hcs,ht⟩:=hy;obtain ⟨c1,c2⟩:=FY hcs;refine ⟨csi,c1,c2,IH m e csi _ ht hp ?_⟩;rcases hB with hB | hB
      ·exact .inl hB
      ·refine .inr ?_;rw [hz] at hB;have hm:(elems[i]'(Za)).1∈elems.map (·.1):=Xn.2 ⟨_,QS _,rfl⟩;have:=Nw hm
       grind [Hj]
     have hlB:len<=B:=by
      grind [jW,Hj,Z2]
     by_cases h0:len=0
     ·subst h0;refine ⟨[.list false []],rfl,?_,one1 _ _ rfl ?_⟩
      ·simp only [Y6,hl,hu];simp
      ·refine .emp _ _ _ (fun h=>by cases h) hcm (fun hpos x hx=> ?_);simp at hx;subst hx;have hy:=g2 0 Za;rw [Kl Za] at hy;simp only [Ww] at hy;obtain ⟨csi,hcs,_⟩:=hy;obtain ⟨z,hz,_⟩:=(FY hcs).2 0 hS;have:=HU hz
       grind [Addr.add]
     ·obtain ⟨cs0,_,c2,_⟩:=hcell 0 Za;obtain ⟨y0,hy0,_⟩:=c2 0 hS;have hsp:=HU hy0;simp only [Nat.zero_mul,T2] at hsp;obtain ⟨ab,ao,asp⟩:=a;simp only at hsp;obtain ⟨rfl,hb⟩:=hsp
      obtain ⟨xs,hxl,hxs⟩:=F8 (R:=fun i (x:List PV)=>x.length=P.cellsOf e/\Y6 P B n e x/\ ∀(j:Nat) (c:PV),x[j]? =some c->c.one=true/\w.cell? ⟨ab,ao+i*P.cellsOf e+j,none⟩=some ((w.cell? ⟨ab,ao+i*P.cellsOf e+j,none⟩).getD undef)/\RP X w c ((w.cell? ⟨ab,ao+i*P.cellsOf e+j,none⟩).getD undef)) len (fun i hi=>by
       obtain ⟨csi,d1,d2,x,d3,d4,d5⟩:=hcell i hi;refine ⟨x,Za,d4,fun j c hj=> ?_⟩;obtain ⟨q1,q2⟩:=d5 j c hj;have hjl:=(ZT.1 hj).1
       grind [gK])
      refine ⟨[.list false (xs.map (Qw P e))],rfl,?_,one1 _ _ rfl ?_⟩
      ·simp only [Y6,hl,hu];refine ⟨xs,rfl,Za,Za,fun x hx=> ?_⟩
       grind [Xf]
      ·have hmk: ∀(i:Nat) (x:PV),(xs.map (Qw P e))[i]? =some x-> ∃y,xs[i]? =some y/\x.cells=y:=fun i x hi=>by
        simp only [Xs,ZV] at hi;obtain ⟨y,hy,rfl⟩:=hi
        grind [Rk]
       have:=RP.list (X:=X) (w:=w) false (xs.map (Qw P e)) ab ao cap (P.cellsOf e) (fun i j=>(w.cell? ⟨ab,ao+i*P.cellsOf e+j,none⟩).getD undef) (hX ab) hb (by simp;omega) hcm (fun h=>by cases h)
        (fun i x hi=>by grind)
        (fun i x j c hi hj=>by grind)
        (fun i x j c hi hj=>by grind)
       grind
   ·cases hp
end Go.AM
namespace Go.AM
open Go.RowKit Go.ChangeShapes
def FitV (P:Program) (B:Nat) (t:TypeId) (x:PV):Prop:= ∃k cs,Y6 P B k t cs/\x=Qw P t cs
def Bz (P:Program) (B:Nat):List TypeId->List PV->Prop
 | [],[]=>True
 | t::ts,x::xs=>FitV P B t x/\Bz P B ts xs
 | _,_=>False
theorem LB {P:Program} {w:World} {r:Reach} {base:Nat} {t:TypeId} {v:Value} {m:Nat} (hp:plain P m t=true) (hn:EB P t=none) (hv:Value.okWide P w r base t v): ∀cs,v≠ .agg cs:=by
 rintro cs rfl
 cases m with
 | zero=>simp [plain] at hp
 | succ m =>
  simp only [plain,hn] at hp;unfold Value.okWide at hv
  split at hp
  ·simp_all [Cell.okWide,Cell.ok]
  ·simp_all [Cell.okWide,Cell.ok]
  ·simp_all [Cell.okWide,Cell.ok]
  ·simp_all [Cell.okWide,Cell.ok]
  ·cases hp
theorem ZaA {H:Type} {enc:TypeId×Value->H} {P:Program} {w:World} {r:Reach} {base:Nat} {held:Bool} {B m:Nat} {X:Nat->Prop} (hX: ∀b,¬X b) {t:TypeId} {v:Value} {d:DataW H} {ps:List MemPlace}
  (hv:Value.okWide P w r base t v) (h:DataW.Trod enc P w 0 (fun _=>true) held t v d ps) (hp:plain P m t=true) (hB:maxLen<=B\/Hj d<=B): ∃x,FitV P B t x/\RP X w x v:=by
 obtain ⟨k,h⟩:=h;obtain ⟨xs,h1,h2,h3⟩:=IU (X:=X) hX k m t _ _ h hp hB;refine ⟨Qw P t xs,⟨k,xs,h2,rfl⟩,?_⟩
 cases hl:EB P t with
 | some l =>
  rw [Qw,if_pos (Wr hl)]
  have: ∃cs,v= .agg cs:=by
   unfold EB at hl;unfold Value.okWide at hv
   grind
  obtain ⟨cs,rfl⟩:=this;refine .agg _ _ (by grind [Value.cells]) fun j c hj=> ?_
  grind [Value.cells,XK]
 | none =>
  have hna:=LB hp hl hv
  have hc:v.cells= #[v]:=by
   cases v<;>first | rfl | grind
  rw [hc] at h1 h3
  have ht:XQ P t≠some true:=by
   intro ht;unfold XQ at ht;unfold EB at hl
   cases hu:P.underlying t with
   | none=>grind
   | some d=>grind
  rw [Qw,if_neg ht]
  match xs,h1 with
  | [x],_=>simpa using (h3 0 x rfl).2
theorem Sf {H:Type} {enc:TypeId×Value->H} {P:Program} {w:World} {r:Reach} {base:Nat} {held:Bool} {B m:Nat} {X:Nat->Prop} (hX: ∀b,¬X b): ∀ {ts:List TypeId} {vs:List Value} {ds:List (DataW H)} {ps:List MemPlace},
  DataW.TrodAll enc P w 0 (fun _=>true) held ts vs ds ps->(∀(j:Nat) t v,ts[j]? =some t->vs[j]? =some v->Value.okWide P w r base t v)->(∀t∈ts,plain P m t=true)->(maxLen<=B\/KW ds<=B) ->
  ∃xs,Bz P B ts xs/\xs.length=vs.length/\ ∀(j:Nat) (x:PV),xs[j]? =some x->RP X w x (vs.getD j undef)
 | [],vs,ds,ps,h,_,_,_=>by
  obtain ⟨rfl,rfl,rfl⟩:=trodAll_nil h;exact ⟨[],trivial,rfl,fun j x hj=>by simp at hj⟩
 | t::ts,vs,ds,ps,h,hv,hp,hB=>by
  obtain ⟨v,vs',d,ds',p,q,rfl,rfl,rfl,h1,h2⟩:=trodAll_cons h;obtain ⟨x,f1,f2⟩:=ZaA (X:=X) hX (hv 0 t v rfl rfl) h1 (hp t Zb) (by rcases hB with hB | hB;exact .inl hB;grind [KW]);obtain ⟨xs,g1,g2,g3⟩:=Sf (X:=X) hX h2 (fun j t' v' e1 e2=>hv (j+1) t' v' (by grind) (by grind)) (fun t' ht'=>hp t' (by simp [ht'])) (by rcases hB with hB | hB;exact .inl hB;grind [KW]);refine ⟨x::xs,⟨f1,g1⟩,by simp [g2],fun j y hj=> ?_⟩
  grind
theorem EG {H:Type} {enc:TypeId×Value->H} {P:Program} {w:World} {base:Nat} {sp:Nat->Bool} {held:Bool} : ∀ {ts:List TypeId} {vs:List Value} {ds:List (DataW H)} {ps:List MemPlace},DataW.TrodAll enc P w base sp held ts vs ds ps->ds.length=ts.length
 | [],vs,ds,ps,h=>by obtain ⟨rfl,rfl,rfl⟩:=trodAll_nil h;rfl
 | t::ts,vs,ds,ps,h=>by
  obtain ⟨v,vs',d,ds',p,q,rfl,rfl,rfl,k1,k2⟩:=trodAll_cons h;simp [EG k2]
theorem Bx {H:Type} {enc:TypeId×Value->H} {P:Program} (hl:laidOutB P=true) {W W':World} {sp:Nat->Bool} : ∀ {ts:List TypeId} {vs:List Value} {ds:List (DataW H)} {ps:List MemPlace},
  (∀t∈ts,P.readableRec t=true/\t<P.types.size)->DataW.TrodAll enc P W 0 (fun _=>true) true ts vs ds ps->(∀p∈ps,W.sameAt W' p)->(∀p∈ps,sp p.block=true)->DataW.TrodAll enc P W' 0 sp true ts vs ds ps
 | [],vs,ds,ps,_,h,_,_=>by
  obtain ⟨rfl,rfl,rfl⟩:=trodAll_nil h
  rfl
 | t::ts,vs,ds,ps,hr,h,h1,h2=>by
  obtain ⟨v,vs',d,ds',p,q,rfl,rfl,rfl,k1,k2⟩:=trodAll_cons h;have:=hr t Zb
  exact trodAll_cons_mk (WideElems.Trod_stays hl this.1 this.2 k1 (fun x hx=>h1 x (by simp [hx])) (fun x hx=>h2 x (by simp [hx])))
   (Bx hl (fun t ht=>hr t (by simp [ht])) k2 (fun x hx=>h1 x (by simp [hx])) (fun x hx=>h2 x (by simp [hx])))
theorem Rg {w w':World} (h1:w'.os=w.os) (h2:w'.output=w.output) (h3: ∀b,b<w.heap.size->w'.heap[b]? =w.heap[b]?) (may:MemPlace->Prop):w.keptBut w' may:=by
 refine ⟨h1,h2,fun i hi=> ?_⟩
 grind
def ZoT (P:Program) (fn:Func):Bool:=fn.params.toList.all (fun t=>P.readableRec t&&decide (t<P.types.size)&&plain P 16 t)
theorem L7 {P:Program} {fn:Func} {g:FuncId} {spec:ChangeSpec} {tb:TypeId} {B:Nat} {H:Type} {enc:TypeId×Value->H}
  (hspec: ∀(ds:List (DataW H)),ds.length=fn.params.toList.length->spec.fn H ds= { results:= [.lit (.bool true)],args:=ds }) (hvars:spec.vars= [])
  (hlaid:laidOutB P=true) (hpar:ZoT P fn=true) (hres:fn.resultTypes= #[tb]) (htb:P.underlying tb=some .bool)
  (hc: ∀xs,Bz P B fn.params.toList xs->ACalls P g (xs.map .p) [] fun x H'=>x= .p (.bool true)/\H'= [])
  {W:World} {base:Nat} {args:Array Value} {ds gs:List (DataW H)} {before:List MemPlace}
  (hval: ∀(j:Nat) t v,fn.params[j]? =some t->args[j]? =some v->Value.okWide P W .any base t v)
  (hW:DataW.Whole enc P fn.params.toList spec.vars false W args.toList ds gs before) (hB:maxLen<=B\/KW (ds++gs)<=B) (he:Env Bi [] W) :
  Calls P g args W fun e W'=> ∃v,e= .returned v/\spec.post enc P fn false true false false W args v W':=by
 have hW':=hW;obtain ⟨p,q,hA,hV,rfl,hfz,hnd⟩:=hW;rw [hvars] at hV;obtain ⟨rfl,rfl⟩:=trodVars_none hV;simp only [Wy] at hW' hB;have hlen:=EG hA
 have hpl: ∀t∈fn.params.toList,(P.readableRec t=true/\t<P.types.size)/\plain P 16 t=true:=fun t ht=>by
  have:=Zx.1 hpar t ht
  grind
 obtain ⟨xs,f1,f2,f3⟩:=Sf (X:=Own Bi []) (fun b=>C9) hA (fun j t v h1 h2=>hval j t v (by grind) (by grind)) (fun t ht=>(hpl t ht).2) hB;refine ((hc xs f1).2 Bi [] W args (GO he) ⟨by simp [f2],fun j c hj=> ?_⟩).mono ?_
 ·simp only [Xs,ZV] at hj;obtain ⟨x,hx,rfl⟩:=hj;have:=f3 j x hx;exact .p _ _ (by simp_all)
 ·rintro e W' ⟨x,H',ι',v,rfl,⟨rfl,rfl⟩,gd,rv⟩
  have hv:v= .bool true:=by cases rv with | p _ _ h=>exact h.bool_inv
  subst hv;have hkeep: ∀b,b<W.heap.size->W'.heap[b]? =W.heap[b]? :=fun b hb=>gd.keep b hb Zb;have hlt:=hW'.lt
  have hsame: ∀p'∈p,W.sameAt W' p':=fun p' hp=>by
   have:=hkeep _ (hlt p' hp)
   cases p' with
   | cell b off=>exact World.cell?_of_block (w:=W) (by grind [MemPlace.block])
   | map b=>grind [World.sameAt,MemPlace.block]
  have hs:spec.fn H (ds++ [])= { results:= [.lit (.bool true)],args:=ds } :=by grind
  refine ⟨_,rfl,ds,[],p,[],p,[],Za,?_,?_,?_,Rg gd.os gd.output hkeep _,fun h=>by cases h⟩
  ·rw [hs,hres];exact trodAll_mk1 (shut_bool htb true)
  ·grind [Bx]
  ·rw [hs,hvars]
   rfl
end Go.AM
namespace Go.AM
open Go.RowKit
section
variable {P : Program} {B m : Nat} {t e : TypeId} {cs : List PV} {x : PV}
theorem DK (hu:P.underlying t=some .bool) (h:Y6 P B m t cs): ∃b,cs= [.bool b]:=by
 cases m with
 | zero=>exact h.elim
 | succ m=>grind [Y6,EB]
theorem ZR {k:IntKind} (hu:P.underlying t=some (.int k)) (h:Y6 P B m t cs): ∃n,cs= [.int k n]/\(Lit.int k n).wf=true:=by
 cases m with
 | zero=>exact h.elim
 | succ m=>grind [Y6,EB]
theorem Gc (hu:P.underlying t=some .string) (h:Y6 P B m t cs): ∃s:List UInt8,cs= [.str s]/\s.length<=B/\s.length<=maxLen:=by
 cases m with
 | zero=>exact h.elim
 | succ m=>grind [Y6,EB]
theorem XW (hu:P.underlying t=some (.slice e)) (h:Y6 P B m t cs): ∃xs:List PV,cs= [.list false xs]/\xs.length<=B/\xs.length<=maxLen/\ ∀y∈xs,FitV P B e y:=by
 cases m with
 | zero=>exact h.elim
 | succ m =>
  simp only [Y6,EB,hu] at h;obtain ⟨xs,rfl,h1,h2,h3⟩:=h;refine ⟨_,rfl,by grind,by grind,fun y hy=> ?_⟩;obtain ⟨c,hc,rfl⟩:=Xn.1 hy;exact ⟨m,c,h3 c hc,rfl⟩
theorem Wo {l:List (Nat×TypeId)} {n:Nat} (hl:EB P t=some l) (hn:P.cellsOf t=n) (h:Y6 P B m t cs):cs.length=n/\ ∃m',∀q∈l,Y6 P B m' q.2 ((cs.drop q.1).take (P.cellsOf q.2)):=by
 cases m with
 | zero=>exact h.elim
 | succ m=>simp only [Y6,hl,hn] at h;exact ⟨h.1,m,h.2⟩
theorem Gt (h:XQ P t=some false):Qw P t [x]=x:=by simp [Qw,h]
theorem kJ (hu:P.underlying t=some .bool) (h:FitV P B t x): ∃b,x= .bool b:=by
 obtain ⟨k,cs,h,rfl⟩:=h;obtain ⟨b,rfl⟩:=DK hu h
 grind [Gt,XQ]
theorem tY {k:IntKind} (hu:P.underlying t=some (.int k)) (h:FitV P B t x): ∃n,x= .int k n/\(Lit.int k n).wf=true:=by
 obtain ⟨k,cs,h,rfl⟩:=h;obtain ⟨n,rfl,hw⟩:=ZR hu h
 grind [Gt,XQ]
theorem tZ (hu:P.underlying t=some .string) (h:FitV P B t x): ∃s:List UInt8,x= .str s/\s.length<=B/\s.length<=maxLen:=by
 obtain ⟨k,cs,h,rfl⟩:=h;obtain ⟨n,rfl,hw⟩:=Gc hu h
 grind [Gt,XQ]
theorem FitV.out (h:FitV P B t x): ∃k cs,Y6 P B k t cs/\x=Qw P t cs:=h
theorem KZ {ts:List TypeId} {xs:List PV} (h:Bz P B (t::ts) xs): ∃x xs',xs=x::xs'/\FitV P B t x/\Bz P B ts xs':=by
 cases xs with
 | nil=>exact h.elim
 | cons x xs=>exact ⟨x,xs,rfl,h.1,h.2⟩
theorem P8 {xs:List PV} (h:Bz P B [] xs):xs= []:=by
 cases xs with
 | nil=>rfl
 | cons x xs=>exact h.elim
end
theorem W0 {α:Type} {f:α->PV} {R:α->Prop} : ∀ {xs:List PV},(∀y∈xs,∃a,y=f a/\R a)-> ∃l:List α,xs=l.map f/\ ∀a∈l,R a
 | [],_=>⟨[],rfl,Zb⟩
 | x::xs,h=>by
  obtain ⟨l,rfl,h2⟩:=W0 (xs:=xs) fun y hy=>h y (by simp [hy]);obtain ⟨a,rfl,ha⟩:=h x Zb;refine ⟨a::l,rfl,fun b hb=> ?_⟩
  grind
theorem Xr {n:Int} (h:(Lit.int .i64 n).wf=true): -9223372036854775808<=n/\n<=9223372036854775807:=by
 grind [Lit.wf,IntKind.min,IntKind.max,IntKind.signed,IntKind.bits]
end Go.AM
namespace Go.AM
open Go.RowKit
@[go_sem high] theorem ZeV {P:Program} {t:TypeId} {x:Nat} {k'} {a:Int} (h0:0<=a) (h1:a<=62):Ys P .shr t (.p (.int .i64 (x:Int))) (.p (.int k' a))=some (.int .i64 ((x / pw a.toNat:Nat):Int)):=by
 grind [gG,IntKind.bits,pw]
@[go_sem high] theorem TZ {P:Program} {t:TypeId} {x:Nat} (hx:x<9223372036854775808):Ys P .and t (.p (.int .i64 (x:Int))) (.p (.int .i64 1))=some (.int .i64 ((x%2:Nat):Int)):=by
 have:=T0 (P:=P) (t:=t) (x:=x) (y:=1) hx (by decide);rw [Nat.and_one_is_mod] at this;exact this
@[go_sem high] theorem Zae {P:Program} {t:TypeId} {x i:Nat} (hx:x<9223372036854775808):Ys P .and t (.p (.int .i64 ((x / pw i:Nat):Int))) (.p (.int .i64 1))=some (.int .i64 ((x / pw i%2:Nat):Int)) :=
 TZ (Nat.lt_of_le_of_lt (Nat.div_le_self _ _) hx)
@[go_sem] theorem Zey {k:Nat} :((k:Int)-1).toNat=k-1:=Za
@[go_sem] theorem Zez {k:Nat} :((k:Int)+1).toNat=k+1:=Za
class Sh (p:Prop) (q:outParam Prop):Prop where
 out:p->q
theorem ZK {c:Bool} {A B A' B' p q:Prop} {t t'} [d:Dc c p q] (h1:p->A') (h2:q->B') (e1:p->A'->A:=by intro h a;simp (disch:=omega) only [Sh.out h,go_sem,seval];exact a) (e2:q->B'->B:=by intro h a;simp (disch:=omega) only [Sh.out h,go_sem,seval];exact a):US (.p (.bool c)) (Zu A t) (Zu B t'):=cD (fun h=>e1 h (h1 h)) fun h=>e2 h (h2 h)
theorem Ql {c:Bool} {A B A' B' p q:Prop} {t t'} [d:Dc c p q] (h1:p->A') (h2:q->B') (e1:p->A'->A:=by intro h a;simp (disch:=omega) only [Sh.out h,go_sem,seval];exact a) (e2:q->B'->B:=by intro h a;simp (disch:=omega) only [Sh.out h,go_sem,seval];exact a):XU (.p (.bool c)) true (Zu A t) (Zu B t'):=gT (fun h=>e1 h (h1 h)) fun h=>e2 h (h2 h)
theorem LD {c:Bool} {A B A' B' p q:Prop} {t t'} [d:Dc c p q] (h1:p->B') (h2:q->A') (e1:p->B'->B:=by intro h a;simp (disch:=omega) only [Sh.out h,go_sem,seval];exact a) (e2:q->A'->A:=by intro h a;simp (disch:=omega) only [Sh.out h,go_sem,seval];exact a):XU (.p (.bool c)) false (Zu A t) (Zu B t'):=gF (fun h=>e1 h (h1 h)) fun h=>e2 h (h2 h)
instance (priority := low) sh_id {p : Prop} : Sh p p := ⟨id⟩
instance sh_int {a b : Int} : Sh (a = b) ((a = b) = True) := ⟨fun h => eq_true h⟩
instance sh_str {a b : List UInt8} : Sh (a = b) ((a = b) = True) := ⟨fun h => eq_true h⟩
theorem Lu {x i:Nat} :((((x / pw i)%2:Nat):Int)=1)=(x.testBit i=true):=by
 rw [Nat.testBit_eq_decide_div_mod_eq,Zs,pw]
 grind
theorem Lt {x i:Nat} :((((x / pw i)%2:Nat):Int)=0)=(x.testBit i=false):=by
 grind [pw]
end Go.AM
namespace Go.AM
open Go.RowKit
def YF : Operand->List Nat
 | .tmp t=> [t]
 | _=> []
def oR : Option Operand->List Nat
 | none=> []
 | some x=>YF x
def U9 : Op->List Nat
 | .move x=>YF x
 | .assign x=>YF x
 | .pick c x y=>YF c++YF x++YF y
 | .load _ x=>YF x
 | .nilCheck x=>YF x
 | .binOp _ _ x y _=>YF x++YF y
 | .unOp _ _ x=>YF x
 | .convert _ _ x=>YF x
 | .makeFunc _ cs ds=>cs.toList.flatMap YF++ds.toList.flatMap YF
 | .slice _ x lo hi mx=>YF x++oR lo++oR hi++oR mx
 | .fieldAddr _ x _=>YF x
 | .field _ x _=>YF x
 | .indexAddr _ x i=>YF x++YF i
 | .index _ x i=>YF x++YF i
 | .extract x _=>YF x
 | .build _ ps=>ps.toList.flatMap fun x=>YF x.2
 | .buildSlice _ _ ps=>ps.toList.flatMap fun x=>YF x.2
 | .box _ x=>YF x
 | .store _ x y=>YF x++YF y
 | .makeSlice _ x y=>YF x++YF y
 | .lookup _ x y _=>YF x++YF y
 | .mapUpdate _ x y z=>YF x++YF y++YF z
 | .mapEntry _ x y=>YF x++YF y
 | .entryStore _ x y z=>YF x++YF y++YF z
 | .call c=>(match c.callee with | .value f=>YF f | _=> [])++c.args.toList.flatMap YF
 | _=> []
def QL (R:List Nat) (f1 f2:List V):Prop:= ∀t∈R,gt f1 t=gt f2 t
theorem KY {x:Operand} {f1 f2:List V} (h:QL (YF x) f1 f2):ev f1 x=ev f2 x:=by
 cases x with
 | tmp t=>exact h t (by simp [YF])
 | const v=>rfl
 | func f=>rfl
 | global g=>rfl
section
variable {P : Program} {H : List Obj} {f1 f2 : List V}
theorem Lj {op:Op} (h:QL (U9 op) f1 f2):Xc P op f1 H=Xc P op f2 H:=by
 have key: ∀x:Operand,(∀t∈YF x,t∈U9 op)->ev f1 x=ev f2 x:=fun x hx=>KY fun t ht=>h t (hx t ht)
 cases op with
 | move x=>grind [Xc,Yh,U9]
 | assign x=>grind [Xc,Yh,U9]
 | pick c x y=>grind [Xc,Yh,U9]
 | load u x=>grind [Xc,Yh,U9]
 | nilCheck x=>grind [Xc,Yh,U9]
 | binOp o u x y u2=>grind [Xc,Yh,U9]
 | unOp o u x=>grind [Xc,Yh,U9]
 | convert s u x=>grind [Xc,Yh,U9]
 | makeFunc f cs ds =>
  grind [Y0,U9,Xc,Yh]
 | slice u x lo hi mx =>
  have ko: ∀(d:Int) (y:Option Operand),(∀t∈oR y,t∈U9 (.slice u x lo hi mx))->Ph d f1 y=Ph d f2 y:=fun d y hy=>by
   cases y with
   | none=>rfl
   | some y=>simp only [Ph,key y hy]
  simp_all [U9,Xc,Yh,Vl]
 | fieldAddr s x f=>grind [Xc,Yh,U9]
 | field s x f=>grind [Xc,Yh,U9]
 | indexAddr u x i =>
  have e1:evx f1 x=evx f2 x:=by
   cases x with
   | global g=>rfl
   | tmp t=>exact key (.tmp t) (by grind [U9])
   | const v=>rfl
   | func f=>rfl
  grind [Xc,Yh,U9]
 | index u x i=>grind [Xc,Yh,U9]
 | extract x i=>grind [Xc,Yh,U9]
 | build u ps =>
  grind [Y0,U9,Xc]
 | call c =>
  obtain ⟨cal,azs,ts⟩:=c;have e1:azs.toList.map (ev f1)=azs.toList.map (ev f2):=Y0 fun x hx=>key x (by grind [U9])
  cases cal<;>simp only [Xc,Yh,e1]
 | _=>rfl
theorem Pr {op:Op} (h:QL (U9 op) f1 f2):Vd P op f1 H=Vd P op f2 H:=by
 have key: ∀x:Operand,(∀t∈YF x,t∈U9 op)->ev f1 x=ev f2 x:=fun x hx=>KY fun t ht=>h t (hx t ht)
 cases op with
 | box u x=>grind [Vd,U9]
 | store u x y=>grind [Vd,U9]
 | buildSlice u n ps =>
  have e1:(ps.toList.map fun x=>(x.1,ev f1 x.2))=ps.toList.map fun x=>(x.1,ev f2 x.2):=Y0 fun x hx=>by grind [U9]
  grind [Vd]
 | makeSlice u x y=>grind [Vd,U9]
 | makeMap u r=>cases r<;>rfl
 | lookup u x y ok=>grind [Vd,U9]
 | mapUpdate u x y z=>grind [Vd,U9]
 | mapEntry u x y=>grind [Vd,U9]
 | entryStore u x y z=>grind [Vd,U9]
 | call c =>
  obtain ⟨cal,azs,ts⟩:=c;obtain ⟨azs⟩:=azs
  cases cal with
  | builtin b =>
   have e1: ∀x∈azs,ev f1 x=ev f2 x:=fun x hx=>key x (by grind [U9])
   cases b<;>try rfl
   all_goals
    simp only [Vd]
    split
    ·first
      | (rename_i x y t t2 h2;rw [e1 x Zb,e1 y Zb])
      | grind
    ·rfl
  | value f=>rfl
  | invoke r m=>rfl
 | _=>rfl
theorem Lz {op:Op} {f:Operand} {azs:List Operand} (h:QL (U9 op) f1 f2) (hc:Wc op=some (f,azs)):ev f1 f=ev f2 f/\azs.map (ev f1)=azs.map (ev f2):=by
 have key: ∀x:Operand,(∀t∈YF x,t∈U9 op)->ev f1 x=ev f2 x:=fun x hx=>KY fun t ht=>h t (hx t ht);unfold Wc at hc
 split at hc
 ·simp only [Qr,AU] at hc;obtain ⟨rfl,rfl⟩:=hc
  grind [U9,Y0]
 ·cases hc
theorem KQ {o:Oper} {K:V->List Obj->Prop} (h:QL (U9 o.op) f1 f2):Zy P o f1 H K↔Zy P o f2 H K:=by
 grind [Zy,Lz,MP,Lj,Pr]
end
theorem Lo {P:Program} {H:List Obj} {f1 f2:List V} {o:Oper} {K:V->List Obj->Prop} (h:QL (U9 o.op) f1 f2):ZH P o f1 H K↔ZH P o f2 H K:=by
 unfold ZH
 split
 ·rename_i t n ps ho;rw [ho] at h
  have e1:(ps.toList.map fun x=>(x.1,ev f1 x.2))=ps.toList.map fun x=>(x.1,ev f2 x.2):=Y0 fun x hx=>by
   rw [KY fun t ht=>h t (by grind [U9])]
  rw [e1]
 ·rename_i azs ts ho;rw [ho] at h;obtain ⟨azs⟩:=azs;have e1: ∀x∈azs,ev f1 x=ev f2 x:=fun x hx=>KY fun t ht=>h t (by grind [U9])
  grind
 ·exact KQ h
def hs (P:Program) (ds:List (Option Nat)) (H:List Obj) (K:List V->Prop):List Oper->List V->Prop
 | [],fr=>K fr
 | o::r,fr=>match o.guard with
  | none=>bL (fun y=>ZH P o fr H (fun x H'=>x=y/\H'=H)) (fun y=>hs P ds H K r (UQ fr o.dst y))
  | some (j,b)=>XU (Gh fr ds j) b (bL (fun y=>ZH P o fr H (fun x H'=>x=y/\H'=H)) (fun y=>hs P ds H K r (UQ fr o.dst y))) (hs P ds H K r (UQ fr o.dst (.tup [])))
def Ag (ops:Array Oper) (n:Nat):Bool :=
 (List.range n).all fun i=>match ops[i]? with
  | some o=>((U9 o.op).all fun t=>(List.range n).all fun j=>match (ops.toList.map (·.dst))[j]? with
    | some (some d)=>decide (d≠t)||(ZQ i o).contains j
    | _=>true)&&(match o.guard with | some (g,_)=>(ZQ i o).contains g | none=>true)
  | none=>true
section
variable {ds : List (Option Nat)} {vals : List V} {n : Nat}
theorem K1 {t:Nat} : ∀(l:List Nat) (fr:List V),(∀j∈l,ds[j]? ≠some (some t))->(ZS ds vals l fr)[t]? =fr[t]?
 | [],fr,_=>rfl
 | j::l,fr,h=>by
  have hj:=h j Zb;have ih:=fun fr=>K1 l fr fun k hk=>h k (by simp [hk]);simp only [ZS]
  split
  ·rename_i d v h1 h2;rw [ih,V6];have:d≠t:=fun e=>hj (by rw [h1,e]);rw [WL this]
  ·exact ih fr
theorem FM (hap:JX ds n=true) {i j t:Nat} (hi:i<n) (hj:j<n) (h1:ds[i]? =some (some t)) (h2:ds[j]? =some (some t)):i=j:=by
 simp only [JX,Zx,Zz,W8,Zs] at hap
 grind
theorem CE (hap:JX ds n=true) {t:Nat} {x:V} {j0:Nat} (h1:ds[j0]? =some (some t)) (h2:vals[j0]? =some x) (hj0:j0<n): ∀(l:List Nat) (fr:List V),(∀j∈l,j<n)->j0∈l->t<fr.length->(ZS ds vals l fr)[t]? =some x
 | [],fr,_,h,_=>by cases h
 | j::l,fr,hl,hm,ht=>by
  by_cases hin:j0∈l
  ·simp only [ZS]
   split
   ·exact CE hap h1 h2 hj0 l _ (fun k hk=>hl k (by simp [hk])) hin (by simpa [V6] using ht)
   ·exact CE hap h1 h2 hj0 l _ (fun k hk=>hl k (by simp [hk])) hin ht
  ·have:j0=j:=by
    rcases Z4.1 hm with e | e
    ·exact e
    ·exact absurd e hin
   subst this;simp only [ZS,h1,h2];rw [K1 l _ fun k hk e=>hin (by rw [FM hap hj0 (hl k (by simp [hk])) h1 e];exact hk),V6];simp [ht]
theorem AI {t:Nat} : ∀(l:List (Option Nat)) (fr:List V),some t ∉ l->(Z5 l fr)[t]? =fr[t]?
 | [],fr,_=>rfl
 | some d::l,fr,h=>by
  simp only [Z5];rw [AI l _ (by simp at h;exact h.2),V6,WL (by simp at h;exact fun e=>h.1 e.symm)]
 | none::l,fr,h=>by
  simp only [Z5];exact AI l _ (by simpa using h)
theorem Ig {f1 f2:List V} {t:Nat} (h:f1[t]? =f2[t]?):gt f1 t=gt f2 t:=by rw [NM,NM,h]
theorem Ey {t:Nat} (hn:n<=ds.length):some t∈ds.take n↔ ∃j,j<n/\ds[j]? =some (some t):=by
 simp_all [Xf,List.getElem?_take]
theorem OK (hap:JX ds n=true) (hn:n<=ds.length) {fr:List V} {deps:List Nat} {i t:Nat} (hi:i<=n) (hv:vals.length=i) (hd: ∀j∈deps,j<i) (ht: ∀j,j<n->ds[j]? =some (some t)->j∈deps) :
  gt (ZS ds vals deps (Z5 (ds.take n) fr)) t=gt (ZS ds vals (List.range i) fr) t:=by
 apply Ig
 by_cases hex: ∃j,j<n/\ds[j]? =some (some t)
 ·grind [CE,YK,Yy]
 grind [K1,AI,Ey]
theorem CD (hap:JX ds n=true) (hn:n<=ds.length) {fr:List V} (hv:vals.length=n):ZS ds vals (List.range n) (Z5 (ds.take n) fr)=ZS ds vals (List.range n) fr:=by
 apply Kb;intro t
 by_cases hex: ∃j,j<n/\ds[j]? =some (some t)
 ·grind [CE,YK,Yy]
 grind [K1,AI,Ey]
theorem bU {fr:List V} {x:V} {d:Option Nat} (hd:ds[vals.length]? =some d):ZS ds (vals++ [x]) (List.range (vals.length+1)) fr=UQ (ZS ds vals (List.range vals.length) fr) d x:=by
 have key: ∀(l:List Nat) (fr:List V),(∀j∈l,j<vals.length)->ZS ds (vals++ [x]) (l++ [vals.length]) fr=UQ (ZS ds vals l fr) d x:=by
  intro l
  induction l with
  | nil =>
   intro fr _;simp only [ZD,ZS,hd];rw [VO (Zw _),Kf]
   cases d<;>simp [UQ]
  | cons j l ih =>
   grind [ZS]
 grind [X6]
end
theorem NQ {P:Program} {ops:Array Oper} {n:Nat} {fr:List V} {H:List Obj} {K:List V->Prop} (hn:n<=ops.size) (hap:JX (ops.toList.map (·.dst)) n=true) (hR:Ag ops n=true) :
  ∀(l:List Oper) (i:Nat) (vals:List V),i<=n->vals.length=i->(ops.toList.take n).drop i=l->hs P (ops.toList.map (·.dst)) H K l (ZS (ops.toList.map (·.dst)) vals (List.range i) fr) ->
   hd P (ops.toList.map (·.dst)) (Z5 ((ops.toList.map (·.dst)).take n) fr) H (fun vals=>vals.length=n/\K (ZS (ops.toList.map (·.dst)) vals (List.range n) fr)) i l vals
 | [],i,vals,hin,hv,hl,h=>by
  have hin2:n<=i:=by
   simp_all
  grind [hs,hd]
 | o::l,i,vals,hin,hv,hl,h=>by
  have hlen:i<n:=by
   grind
  have hoi:(ops.toList.take n)[i]? =some o:=by
   have:((ops.toList.take n).drop i)[0]? =some o:=by rw [hl];rfl
   grind
  have hoi2:ops[i]? =some o:=by
   grind
  have hl2:(ops.toList.take n).drop (i+1)=l:=by
   have:((ops.toList.take n).drop i).drop 1=l:=by rw [hl];rfl
   rwa [List.drop_drop] at this
  have hdi:(ops.toList.map (·.dst))[i]? =some o.dst:=by simp [hoi2]
  have hR0:=hR;simp only [Ag,Zx,Zz] at hR0;have hRi:=hR0 i hlen;rw [hoi2] at hRi;simp only [ZE,Zx,Zz] at hRi;obtain ⟨r1,r2⟩:=hRi
  have hdl:n<=(ops.toList.map (·.dst)).length:=by grind
  have hag:QL (U9 o.op) (ZS (ops.toList.map (·.dst)) vals (ZQ i o) (Z5 ((ops.toList.map (·.dst)).take n) fr)) (ZS (ops.toList.map (·.dst)) vals (List.range i) fr):=fun t ht =>
   OK hap hdl Za hv (fun j hj=>Ws j hj) fun j hj e=>by
    have:=r1 t ht j hj;rw [e] at this
    grind
  have step: ∀x,hs P (ops.toList.map (·.dst)) H K l (UQ (ZS (ops.toList.map (·.dst)) vals (List.range i) fr) o.dst x) ->
    hd P (ops.toList.map (·.dst)) (Z5 ((ops.toList.map (·.dst)).take n) fr) H (fun vals=>vals.length=n/\K (ZS (ops.toList.map (·.dst)) vals (List.range n) fr)) (i+1) l (vals++ [x]):=fun x hx=>by
   refine NQ hn hap hR l (i+1) (vals++ [x]) Za (by simp [hv]) hl2 ?_;subst hv;rw [bU hdi];exact hx
  have step2:bL (fun y=>ZH P o (ZS (ops.toList.map (·.dst)) vals (List.range i) fr) H (fun x H'=>x=y/\H'=H)) (fun y=>hs P (ops.toList.map (·.dst)) H K l (UQ (ZS (ops.toList.map (·.dst)) vals (List.range i) fr) o.dst y)) ->
    ∃y,ZH P o (ZS (ops.toList.map (·.dst)) vals (ZQ i o) (Z5 ((ops.toList.map (·.dst)).take n) fr)) H (fun x H'=>x=y/\H'=H)/\hd P (ops.toList.map (·.dst)) (Z5 ((ops.toList.map (·.dst)).take n) fr) H (fun vals=>vals.length=n/\K (ZS (ops.toList.map (·.dst)) vals (List.range n) fr)) (i+1) l (vals++ [y]):=by
   rintro ⟨y,h1,h2⟩;exact ⟨y,(Lo hag).2 h1,step y h2⟩
  simp only [hs] at h;simp only [hd]
  cases hg:o.guard with
  | none =>
   rw [hg] at h;exact step2 h
  | some q =>
   obtain ⟨g,b⟩:=q;rw [hg] at h r2;simp only at h r2 ⊢
   have hgin:g∈ZQ i o:=by simpa using r2
   have hgl:=Ws g hgin
   have hgg:Gh (ZS (ops.toList.map (·.dst)) vals (ZQ i o) (Z5 ((ops.toList.map (·.dst)).take n) fr)) (ops.toList.map (·.dst)) g=Gh (ZS (ops.toList.map (·.dst)) vals (List.range i) fr) (ops.toList.map (·.dst)) g:=by
    simp only [Gh]
    split
    ·rename_i d hd'
     exact OK hap hdl Za hv (fun j hj=>Ws j hj) fun j hj e=>by
      rw [FM hap hj Za e hd'];exact hgin
    ·rfl
   rw [hgg];generalize Gh (ZS (ops.toList.map (·.dst)) vals (List.range i) fr) (ops.toList.map (·.dst)) g=G at h ⊢;unfold XU at h ⊢
   split at h
   ·exact ⟨fun e=>step2 (h.1 e),fun e=>step _ (h.2 e)⟩
   ·exact step _ h
   ·exact h.elim
theorem lS {P ds frJ H} {K K':List V->Prop} (hk: ∀ys,K ys->K' ys) (l:List Oper) (i:Nat) (vals:List V) (h:hd P ds frJ H K i l vals):hd P ds frJ H K' i l vals:=LV l i vals (fun ys _ k=>hk ys k) h
theorem ZB {P:Program} {id:Nat} {l:List Oper} {fr:List V} {H:List Obj} {Q:Exit->List V->List Obj->Prop} {t} (n:Nat) (hm:P.follows .mixedOrders=true) (hB:Ve (List.toArray l) n=true) (hR:Ag (List.toArray l) n=true)
  (h:hs P (l.map (·.dst)) H (Zu (fun fr'=>YS P (l.map (·.dst)) (l.drop n) (LW fr') H (Zu (Q .normal) ⟨⟩)) ⟨⟩) (l.take n) (LW fr)) :
  AWP P (.region id (Zu (List.toArray l) t) true) fr H Q:=by
 have hB':=hB;simp only [Ve,ZE,Zs] at hB';obtain ⟨⟨⟨⟨hn,_⟩,_⟩,hap⟩,_⟩:=hB';refine HP (ops:=List.toArray l) n hm hB ?_;refine lS ?_ _ _ _ (NQ (ops:=List.toArray l) (K:=fun fr'=>YS P (l.map (·.dst)) (l.drop n) fr' H (Q .normal)) hn hap hR _ 0 [] (Kh _) rfl Zb ?_)
 ·grind [CD]
 ·exact h
theorem Px {P:Program} {id:Nat} {l:List Oper} {fr:List V} {H:List Obj} {Q:Exit->List V->List Obj->Prop} {t} (hm:P.follows .mixedOrders=true) (hB:Ve (List.toArray l) l.length=true) (hR:Ag (List.toArray l) l.length=true)
  (h:hs P (l.map (·.dst)) H (Zu (fun fr'=>Q .normal (LW fr') H) ⟨⟩) l (LW fr)) :
  AWP P (.region id (Zu (List.toArray l) t) true) fr H Q:=by
 refine ZB l.length hm hB hR ?_;rw [X5,Qs];exact h
section
variable {P : Program} {ds : List (Option Nat)} {fr : List V} {H : List Obj} {K : List V -> Prop} {r : List Oper} {d : Option Nat} {op : Op} {t : TypeId} {ps : String} {af : Array Edge}
@[go_sem ↓] theorem ZoN : hs P ds H K [] fr=K fr:=Zl rfl rfl
@[go_sem] theorem Zm6 : hs P ds H K (⟨d,op,t,ps,af,none⟩::r) fr=bL (fun y=>ZH P ⟨d,op,t,ps,af,none⟩ fr H (Zu (fun x H'=>x=y/\H'=H) ⟨⟩)) (Zu (fun y=>hs P ds H K r (UQ fr d y)) ⟨⟩):=Zl rfl rfl
@[go_sem] theorem Zjd {j b} :hs P ds H K (⟨d,op,t,ps,af,some (j,b)⟩::r) fr=XU (Gh fr ds j) b
  (Zu (bL (fun y=>ZH P ⟨d,op,t,ps,af,none⟩ fr H (Zu (fun x H'=>x=y/\H'=H) ⟨⟩)) (Zu (fun y=>hs P ds H K r (UQ fr d y)) ⟨⟩)) ⟨⟩)
  (Zu (hs P ds H K r (UQ fr d (.tup []))) ⟨⟩):=Zl rfl rfl
theorem lU {l fr'} (h:fr=fr'):hs P ds H K l fr=hs P ds H K l fr':=by rw [h]
end
attribute [congr] lU
end Go.AM
namespace Go.AM
open Go.RowKit
theorem ACalls.weak {P g args H Q} (h:ACalls P g args H fun x H'=> ∃y H'',Weak H.length [x] H' [y] H''/\Q y H''):ACalls P g args H Q :=
 ⟨h.1,fun F ι w vs hr hv=>(h.2 F ι w vs hr hv).mono fun e w' ⟨x,H',ι',v,he,⟨y,H'',hw,q⟩,g,r⟩=>by
  obtain ⟨ι2,r2,f2,g2⟩:=hw F ι' { tmps:= #[v],defers:= [] } w' g.rel ⟨rfl,rfl,fun i z hi=>by
   cases i with
   | zero=>simp_all
   | succ i=>simp at hi⟩
  exact ⟨y,H'',ι2,v,he,q,g2 H ι w (Zw _) g,by simpa [gt] using f2.get 0⟩⟩
theorem Zf (cuts:List Nat) {P:Program} {g:FuncId} {fn:Func} {c:Code} {args:List V} {H:List Obj} {Q:V->List Obj->Prop} (hf:P.funcs[g]? =some fn) (hb:fn.body=some c) (hg:Zj P g)
  (h:J0 cuts P c (args++List.replicate (fn.ntmps-args.length) .junk) H (BW P fn.results.toList fun x H'=> ∃y H'',Weak H.length [x] H' [y] H''/\Q y H'')):ACalls P g args H Q :=
 (YI hf hb hg (Zg cuts _ _ _ _ h)).weak
theorem Weak.nilC {n0 fr H} {o j:Nat} {cs:List V} (S:Nat) (ho:H[o]? =some (.cells cs)) (hj:cs[j]? =some (.p (.list true []))) (hn:n0<=H.length):Weak n0 fr H fr (H.set o (.cells (cs.set j (.sl H.length 0 0 0)))++ [.elems S []]):=fun F ι a w hr hf=>by
 have g:=J8 hr S;have hol:=(ZT.1 ho).1;have hjl:=(ZT.1 hj).1;obtain ⟨b,c,t,e1,e2,e3,e4⟩:=g.rel.cel o cs (by grind)
 have hx:HX (H++ [.elems S []]) (ι++ [none]) w (H.set o (.cells (cs.set j (.sl H.length 0 0 0)))++ [.elems S []]) (ι++ [none]) w:=fun i ob hi=>by
  grind
 have hk:Keeps (Own F (ι++ [none])) w (Own F (ι++ [none])) w:=Keeps.refl _ _
 have get: ∀ {i:Nat} {ob:Obj},(H.set o (.cells (cs.set j (.sl H.length 0 0 0)))++ [.elems S []])[i]? =some ob->(i=o/\ob= .cells (cs.set j (.sl H.length 0 0 0)))\/(H++ [Obj.elems S []])[i]? =some ob:=fun {i ob} hi=>by
  grind
 have rel:Rel F (H.set o (.cells (cs.set j (.sl H.length 0 0 0)))++ [.elems S []]) (ι++ [none]) w:=by
  refine ⟨⟨by have:=g.rel.len;grind,g.rel.fin,g.rel.inj,g.rel.avo,fun i ds hi=> ?_,fun i S' xs hi=> ?_,fun i es hi=> ?_,?_⟩,g.rel.env⟩
  ·rcases get hi with ⟨rfl,e⟩ | hi
   ·simp at e;subst e;refine ⟨b,c,t,e1,e2,by grind,fun q x hq=> ?_⟩;rw [Jm] at hq
    split at hq
    ·rename_i hjq;subst hjq;simp [] at hq;subst hq;have hv:=e4 j _ hj
     cases hv with | p _ _ hv =>
     generalize c.getD j undef=v at hv
     have h1:(ι++ [none])[H.length]? =some none:=by rw [<- hr.len];simp
     have h2:(H.set i (.cells (cs.set j (.sl H.length 0 0 0)))++ [Obj.elems S []])[H.length]? =some (.elems S []):=Zb
     cases hv with
     | nils=>exact .slNil _ S none h1 h2
     | emp _ ad cap hc hm ha=>rw [hc rfl];exact .slNil _ S ad h1 h2
     | list _ _ b off cap S' u hX hb hc hm hcl =>
      have:cap=0:=by grind
      subst this;exact .slNil _ S _ h1 h2
    ·exact (e4 q x hq).ext hk hx
   ·obtain ⟨b',c',t',f1,f2,f3,f4⟩:=g.rel.cel i ds hi;exact ⟨b',c',t',f1,f2,f3,fun q x hq=>(f4 q x hq).ext hk hx⟩
  ·rcases get hi with ⟨rfl,e⟩ | hi
   ·cases e
   ·exact g.rel.elm i S' xs hi
  ·rcases get hi with ⟨rfl,e⟩ | hi
   ·cases e
   ·exact g.rel.mpr i es hi
  ·refine Vj g.rel (fun i T E r bs hi=> ?_) fun i ob hi hs=>⟨?_,rfl,fun _ _=>rfl⟩
   ·grind
   ·by_cases hio:i=o
    ·subst hio;rw [YZ hol,ho] at hi;simp at hi;subst hi;cases hs
    grind
 have g2:Good F H ι w (H.set o (.cells (cs.set j (.sl H.length 0 0 0)))++ [.elems S []]) (ι++ [none]) w:=⟨rel,rfl,Tp.rfl,rfl,fun _ c _ h=> .inr ⟨c,h,rfl⟩,Zw _,fun _ _ _=>rfl,g.own,g.hx.trans hx⟩;exact ⟨ι++ [none],rel,g2.fr hf,fun H0 ι0 w0 _ hg=>hg.trans g2⟩
theorem WO {F:Nat->Prop} {ι0 ιL:List (Option Nat)} :Own (Own F ιL) ι0=Own F (ι0++ιL):=by
 funext b
 simp only [Own,Xj,eq_iff_iff]
 grind
theorem RV.narrow {F H0 L ι0 ιL w x v} (hl:ι0.length=H0.length) (h:RV F (H0++L) (ι0++ιL) w x v) (hn:refB H0.length x=true):RV (Own F ιL) H0 ι0 w x v:=by
 have gi: ∀ {o:Nat},o<H0.length->(ι0++ιL)[o]? =ι0[o]? :=fun h=>YZ (by rw [hl];exact h);have gH: ∀ {o:Nat},o<H0.length->(H0++L)[o]? =H0[o]? :=fun h=>YZ h
 induction h with
 | p x v h=>refine .p _ _ ?_;rw [WO];exact h
 | agg cs a hs _ ih=>exact .agg cs a hs fun j c hj=>ih j c hj (XP (by simpa [refB] using hn) j c hj)
 | fn f cs ds a e hs ht _ _ ih1 ih2 =>
  simp [refB] at hn;exact .fn f cs ds a e hs ht (fun j c hj=>ih1 j c hj (XP hn.1 j c hj)) (fun j c hj=>ih2 j c hj (XP hn.2 j c hj))
 | tup cs a hs _ ih=>exact .tup cs a hs fun j c hj=>ih j c hj (XP (by simpa [refB] using hn) j c hj)
 | ptr o off b cs h hH=>simp [refB] at hn;exact .ptr _ _ b cs (by rw [<- gi hn];exact h) (by rw [<- gH hn];exact hH)
 | ep o i j tot b S xs h hH ht=>simp [refB] at hn;exact .ep _ _ _ _ b S xs (by rw [<- gi hn];exact h) (by rw [<- gH hn];exact hH) ht
 | slNil o S a h hH=>simp [refB] at hn;exact .slNil _ S a (by rw [<- gi hn];exact h) (by rw [<- gH hn];exact hH)
 | sl o off len tot b S cap t xs c h hH ht hw hcap hl' hlen hm=>simp [refB] at hn;exact .sl _ _ _ _ b S cap t xs c (by rw [<- gi hn];exact h) (by rw [<- gH hn];exact hH) ht hw hcap hl' hlen hm
 | lp x j b off u hX' hb hu hq=>exact .lp x j b off u (by rw [WO];exact hX') hb hu (fun j c hj=>by rw [WO];exact hq j c hj)
 | mp o b es h hH=>simp [refB] at hn;exact .mp _ b es (by rw [<- gi hn];exact h) (by rw [<- gH hn];exact hH)
 | mpD o v h=>simp [refB] at hn;exact .mpD _ _ (by rw [<- gH hn];exact h)
 | bp o b T E r bs h hH=>simp [refB] at hn;exact .bp _ b T E r bs (by rw [<- gi hn];exact h) (by rw [<- gH hn];exact hH)
 | bpD o v h=>simp [refB] at hn;exact .bpD _ _ (by rw [<- gH hn];exact h)
 | err t p=>exact .err t p
 | junk v=>exact .junk v
 | ptrD o off v h=>simp [refB] at hn;exact .ptrD _ _ _ (by rw [<- gH hn];exact h)
 | epD o i j tot v h=>simp [refB] at hn;exact .epD _ _ _ _ _ (by rw [<- gH hn];exact h)
 | slD o off len tot v h=>simp [refB] at hn;exact .slD _ _ _ _ _ (by rw [<- gH hn];exact h)
 | epS o i j tot v S xs h hne=>simp [refB] at hn;exact .epS _ _ _ _ _ S xs (by rw [<- gH hn];exact h) hne
 | slS o off len tot v S xs h hne=>simp [refB] at hn;exact .slS _ _ _ _ _ S xs (by rw [<- gH hn];exact h) hne
 | slC o tot b cap cs h hH hl hm=>simp [refB] at hn;exact .slC _ _ b cap cs (by rw [<- gi hn];exact h) (by rw [<- gH hn];exact hH) hl hm
theorem RV.widen {F H0 L ι0 ιL w x v} (h:RV (Own F ιL) H0 ι0 w x v):RV F (H0++L) (ι0++ιL) w x v:=by
 have gi: ∀ {o:Nat} {q},ι0[o]? =some q->(ι0++ιL)[o]? =some q:=fun h=>by rw [YZ (ZT.1 h).1];exact h
 have gH: ∀ {o:Nat} {q},H0[o]? =some q->(H0++L)[o]? =some q:=fun h=>by rw [YZ (ZT.1 h).1];exact h
 induction h with
 | p x v h=>rw [WO] at h;exact .p _ _ h
 | agg cs a hs _ ih=>exact .agg cs a hs ih
 | fn f cs ds a e hs ht _ _ ih1 ih2=>exact .fn f cs ds a e hs ht ih1 ih2
 | tup cs a hs _ ih=>exact .tup cs a hs ih
 | ptr o off b cs h hH=>exact .ptr _ _ b cs (gi h) (gH hH)
 | ep o i j tot b S xs h hH ht=>exact .ep _ _ _ _ b S xs (gi h) (gH hH) ht
 | slNil o S a h hH=>exact .slNil _ S a (gi h) (gH hH)
 | sl o off len tot b S cap t xs c h hH ht hw hcap hl' hlen hm=>exact .sl _ _ _ _ b S cap t xs c (gi h) (gH hH) ht hw hcap hl' hlen hm
 | lp x j b off u hX' hb hu hq=>rw [WO] at hX';exact .lp x j b off u hX' hb hu (fun j c hj=>by have:=hq j c hj;rw [WO] at this;exact this)
 | mp o b es h hH=>exact .mp _ b es (gi h) (gH hH)
 | mpD o v h=>exact .mpD _ _ (gH h)
 | bp o b T E r bs h hH=>exact .bp _ b T E r bs (gi h) (gH hH)
 | bpD o v h=>exact .bpD _ _ (gH h)
 | err t p=>exact .err t p
 | junk v=>exact .junk v
 | ptrD o off v h=>exact .ptrD _ _ _ (gH h)
 | epD o i j tot v h=>exact .epD _ _ _ _ _ (gH h)
 | slD o off len tot v h=>exact .slD _ _ _ _ _ (gH h)
 | epS o i j tot v S xs h hne=>exact .epS _ _ _ _ _ S xs (gH h) hne
 | slS o off len tot v S xs h hne=>exact .slS _ _ _ _ _ S xs (gH h) hne
 | slC o tot b cap cs h hH hl hm=>exact .slC _ _ b cap cs (gi h) (gH hH) hl hm
theorem Vw {α:Type} {A B:List α} {i:Nat} {x:α} (h:(A++B)[i]? =some x):(i<A.length/\A[i]? =some x)\/(∃j,i=A.length+j/\B[j]? =some x):=by
 grind
theorem aB {α:Type} {A B:List α} {j:Nat} :(A++B)[A.length+j]? =B[j]? :=by
 grind
def refH (n:Nat) (H:List Obj):Bool:=H.all fun o=>match o with | .cells cs=>Xv n cs | .bld _ _ r _=>decide (r<n) | _=>true
theorem oU {n:Nat} {H:List Obj} (h:refH n H=true) {o:Nat} {cs:List V} (ho:H[o]? =some (.cells cs)) {j:Nat} {x:V} (hj:cs[j]? =some x):refB n x=true:=by
 have:=Zx.1 h _ (XG ho)
 grind [XP]
theorem oT {n:Nat} {H:List Obj} (h:refH n H=true) {o T E r:Nat} {bs:List UInt8} (ho:H[o]? =some (.bld T E r bs)):r<n:=by
 have:=Zx.1 h _ (XG ho)
 grind
theorem Rel.front {F H0 L ι0 ιL w} (hl:ι0.length=H0.length) (hf:refH H0.length H0=true) (hr:Rel F (H0++L) (ι0++ιL) w):Rel (Own F ιL) H0 ι0 w:=by
 have gi: ∀ {o:Nat} {q},ι0[o]? =some q->(ι0++ιL)[o]? =some q:=fun h=>by grind
 have gH: ∀ {o:Nat} {q},H0[o]? =some q->(H0++L)[o]? =some q:=fun h=>by grind
 have gi': ∀ {o:Nat} {q},o<H0.length->(ι0++ιL)[o]? =some q->ι0[o]? =some q:=fun ho h=>by grind
 have lt: ∀ {o:Nat} {q:Obj},H0[o]? =some q->o<H0.length:=fun h=>(ZT.1 h).1;refine ⟨⟨hl,fun b hb=> ?_,fun i j b hi hj=>hr.inj i j b (gi hi) (gi hj),fun i b hi=> ?_,fun o cs ho=> ?_,fun o S xs ho=> ?_,fun o es ho=> ?_,fun o T E r bs ho=> ?_⟩,hr.env.le fun b hb=>by simp_all [WO]⟩
 ·rcases hb with hb | hb
  ·exact hr.fin b hb
  ·obtain ⟨i,hi⟩:=Xf.1 hb;exact (hr.avo (ι0.length+i) b (by grind)).2
 ·obtain ⟨a1,a2⟩:=hr.avo i b (gi hi);refine ⟨fun h=> ?_,a2⟩;rcases h with h | h
  ·exact a1 h
  ·obtain ⟨j,hj⟩:=Xf.1 h;have:=hr.inj i (ι0.length+j) b (gi hi) (by grind)
   grind
 ·obtain ⟨b,c,t,e1,e2,e3,e4⟩:=hr.cel o cs (gH ho);exact ⟨b,c,t,gi' (lt ho) e1,e2,e3,fun j x hj=>(e4 j x hj).narrow hl (oU hf ho hj)⟩
 ·rcases hr.elm o S xs (gH ho) with ⟨e1,e2⟩ | ⟨b,c,t,cap,e1,e2,e3,e4,e5,e6,e7⟩
  ·grind
  ·exact .inr ⟨b,c,t,cap,gi' (lt ho) e1,e2,e3,e4,e5,e6,fun i x j y hi hj=>by grind [WO]⟩
 ·obtain ⟨b,a',k,e1,e2,e3⟩:=hr.mpr o es (gH ho)
  grind [WO]
 ·obtain ⟨d0,d,b,go,e1,e2,e3⟩:=hr.bldr o T E r bs (gH ho)
  grind [oT]
theorem Good.front {F H0 L ι0 ιL w H1 ι1 w'} (hl:ι0.length=H0.length) (hr:Rel F (H0++L) (ι0++ιL) w) (g:Good (Own F ιL) H0 ι0 w H1 ι1 w') (hn:H1.length=H0.length):Good F (H0++L) (ι0++ιL) w (H1++L) (ι1++ιL) w':=by
 have hl1:=g.rel.len
 have hLlen:ιL.length=L.length:=by have:=hr.len;grind
 have disj: ∀ {b:Nat},some b∈ιL->some b ∉ ι0:=fun {b} hb h=>by
  obtain ⟨i,hi⟩:=Xf.1 hb;obtain ⟨j,hj⟩:=Xf.1 h;have hjl:=(ZT.1 hj).1;have:=hr.inj (ι0.length+i) j b (by grind) (by grind);omega
 have oldL: ∀ {j b:Nat},ιL[j]? =some (some b)->b<w.heap.size/\w'.heap[b]? =w.heap[b]? :=fun {j b} h=>by
  have h1:=(hr.avo (ι0.length+j) b (by grind)).2;exact ⟨h1,g.keep b h1 (disj (XG h))⟩
 have hKeeps:Keeps (Own F (ι0++ιL)) w (Own F (ι1++ιL)) w':=fun b hb hs=>by
  have h0:some b ∉ ι0:=fun h=>hb (.inr (by simp [h]));refine ⟨fun h=> ?_,by have:=g.size;omega,g.keep b hs h0⟩;rcases h with h | h
  ·exact hb (.inl h)
  ·rcases Xj.1 h with h | h
   ·exact g.own b hs h0 h
   ·exact hb (.inr (by simp [h]))
 have hHX:HX (H0++L) (ι0++ιL) w (H1++L) (ι1++ιL) w':=fun o ob ho=>by
  rcases Vw ho with ⟨hlt,h0⟩ | ⟨j,rfl,hj⟩
  ·have e1: ∀ {q},H1[o]? =some q->(H1++L)[o]? =some q:=fun h=>by grind
   have e2:(ι0++ιL)[o]? =ι0[o]? :=YZ Za;have e3:(ι1++ιL)[o]? =ι1[o]? :=YZ Za;rcases g.hx o ob h0 with h | h
   ·grind
   ·right
    cases ob with
    | dead=>exact h.elim
    | cells cs=>grind
    | map es=>grind
    | bld T E r bs=>grind
    | elems S xs =>
     grind
  ·have e1:(H1++L)[H0.length+j]? =some ob:=by grind
   have e2:(ι0++ιL)[H0.length+j]? =ιL[j]? :=by grind
   grind
 refine Good.up hr.env ⟨⟨by simp;omega,fun b hb=>by have:=hr.fin b hb;have:=g.size;omega,fun i j b hi hj=> ?_,fun i b hi=> ?_,fun o cs ho=> ?_,fun o S xs ho=> ?_,fun o es ho=> ?_,fun o T E r bs ho=> ?_⟩,g.os,g.tape,g.output,fun b c t h=>(g.shape b c t h).imp (fun h=>⟨List.mem_append_left _ h.1,fun h3=>(Xj.1 h3).elim h.2 fun h4=>by
   grind⟩) id,g.size,fun b hb ho=> ?_,fun b hb ho h=> ?_,hHX⟩
 ·rcases Vw hi with ⟨h1,h2⟩ | ⟨i1,rfl,h2⟩<;>rcases Vw hj with ⟨k1,k2⟩ | ⟨j1,rfl,k2⟩
  ·exact g.rel.inj i j b h2 k2
  ·exact absurd (.inr (XG k2)) (g.rel.avo i b h2).1
  ·exact absurd (.inr (XG h2)) (g.rel.avo j b k2).1
  ·have:=hr.inj (ι0.length+i1) (ι0.length+j1) b (by grind) (by grind);omega
 ·rcases Vw hi with ⟨h1,h2⟩ | ⟨i1,rfl,h2⟩
  ·obtain ⟨a1,a2⟩:=g.rel.avo i b h2;exact ⟨fun h=>a1 (.inl h),a2⟩
  ·obtain ⟨a1,a2⟩:=hr.avo (ι0.length+i1) b (by grind)
   grind
 ·rcases Vw ho with ⟨h1,h2⟩ | ⟨j,rfl,h2⟩
  ·obtain ⟨b,c,t,e1,e2,e3,e4⟩:=g.rel.cel o cs h2;exact ⟨b,c,t,by grind,e2,e3,fun j x hj=>(e4 j x hj).widen⟩
  ·obtain ⟨b,c,t,e1,e2,e3,e4⟩:=hr.cel (H0.length+j) cs (by grind)
   have e1':ιL[j]? =some (some b):=by grind
   exact ⟨b,c,t,by grind,by grind,e3,fun j x hj=>(e4 j x hj).ext hKeeps hHX⟩
 ·rcases Vw ho with ⟨h1,h2⟩ | ⟨j,rfl,h2⟩
  ·rcases g.rel.elm o S xs h2 with ⟨e1,e2⟩ | ⟨b,c,t,cap,e1,e2,e3,e4,e5,e6,e7⟩
   ·grind
   ·exact .inr ⟨b,c,t,cap,by grind,e2,e3,e4,e5,e6,fun i x j y hi hj=>by grind [WO]⟩
  ·rcases hr.elm (H0.length+j) S xs (by grind) with ⟨e1,e2⟩ | ⟨b,c,t,cap,e1,e2,e3,e4,e5,e6,e7⟩
   ·grind
   ·rw [<- hl,aB] at e1;exact .inr ⟨b,c,t,cap,by grind,by grind,e3,e4,e5,e6,fun i x j y hi hj=>(e7 i x j y hi hj).ext hKeeps⟩
 ·rcases Vw ho with ⟨h1,h2⟩ | ⟨j,rfl,h2⟩
  ·obtain ⟨b,a',k,e1,e2,e3⟩:=g.rel.mpr o es h2
   grind [WO]
  ·obtain ⟨b,a',k,e1,e2,e3⟩:=hr.mpr (H0.length+j) es (by grind)
   have e1':ιL[j]? =some (some b):=by grind
   exact ⟨b,a',k,by grind,by grind,e3.ext hKeeps⟩
 ·rcases Vw ho with ⟨h1,h2⟩ | ⟨j,rfl,h2⟩
  ·obtain ⟨d0,d,b,go,e1,e2,e3⟩:=g.rel.bldr o T E r bs h2
   grind
  ·obtain ⟨d0,d,b,go,e1,e2,e3⟩:=hr.bldr (H0.length+j) T E r bs (by grind)
   have e1':ιL[j]? =some (some b):=by grind
   have up: ∀ {i:Nat} {q:Option Nat},(ι0++ιL)[i]? =some q->H0.length<=i->(ι1++ιL)[i]? =some q/\ ∀b,q=some b->w'.heap[b]? =w.heap[b]? :=fun {i q} hi hle=>by
    grind
   obtain ⟨u1,u2⟩:=up e2 Za;have u3:=(up e1 Za).1;refine ⟨Za,?_,b,go,by grind,u1,e3.ext ((up e1 Za).2 b rfl) u2⟩
   grind
 ·exact g.keep b hb fun h=>ho (by simp [h])
 ·rcases Xj.1 h with h | h
  ·exact g.own b hb (fun h=>ho (by simp [h])) h
  grind
theorem ACalls.front {P g} {args:List V} {H0:List Obj} {Q:V->List Obj->Prop} (h:ACalls P g args H0 fun x H'=>Q x H'/\H'.length=H0.length) (ha:Xv H0.length args=true) (hf:refH H0.length H0=true) (L:List Obj) :
  ACalls P g args (H0++L) fun x H'=> ∃H1,Q x H1/\H'=H1++L:=by
 refine ⟨h.1,fun F ι w vs hr hv=> ?_⟩;have hlen:=hr.len;simp at hlen;obtain ⟨ι0,ιL,rfl,hl⟩: ∃ι0 ιL,ι=ι0++ιL/\ι0.length=H0.length:=⟨ι.take H0.length,ι.drop H0.length,Zb,by simp;omega⟩;refine (h.2 _ _ _ _ (hr.front hl hf) ⟨hv.1,fun j c hj=>(hv.2 j c hj).narrow hl (XP ha j c hj)⟩).mono ?_;rintro e w' ⟨x,H1,ι1,v,rfl,⟨q,hn⟩,gd,rv⟩;exact ⟨_,_,_,v,rfl,⟨H1,q,rfl⟩,gd.front hl hr hn,rv.widen⟩
theorem ACalls.useP {P g} {args:List V} {H0 H1 L:List Obj} {v:V} {K:V->List Obj->Prop} (h:ACalls P g args H0 fun x H'=>x=v/\H'=H1) (hn:H1.length=H0.length) (k:K v (H1++L)) (ha:Xv H0.length args=true) (hf:refH H0.length H0=true):ACalls P g args (H0++L) K :=
 (ACalls.front (Q:=fun x H'=>x=v/\H'=H1) (h.mono fun x H' hq=>⟨hq,by grind⟩) ha hf L).mono fun x H' hq=>by
  grind
def LN (ob:Obj) (n o t:Nat) (y:PV):Prop:=match ob with
 | .elems _ xs=>n<=o/\xs.length=t/\y= .list false xs
 | _=>False
@[go_sem] theorem Zoe {H:List Obj} {n o t y} :Ep H n (.sl o 0 t t) (.p y)=LN (oat H o) n o t y:=by
 rw [xT];simp only [fP]
 cases oat H o with
 | cells cs=>simp [LN]
 | map es=>simp [LN]
 | bld=>simp [LN]
 | dead=>simp [LN]
 | elems S xs =>
  simp only [LN,Xt,Zw,and_true,Fi]
  grind
@[go_sem low] theorem Zbh {S xs n o t y} :LN (.elems S xs) n o t y=(n<=o/\xs.length=t/\y= .list false xs):=rfl
@[go_sem] theorem ZiY {α:Type} {f:α->PV} {l:List α} {S n o y} :LN (.elems S (l.map f)) n o l.length y=(n<=o/\y= .list false (l.map f)):=by simp [LN]
theorem MG {α β:Type} {f:α->β} {l:List α} :List.take l.length (l.map f)=l.map f:=by rw [<- List.map_take,X5]
def Hy (o:Nat) (xs:List PV):V->V
 | .sl o' off len tot=>if o'=o/\xs.length=tot/\off+len<=tot then .p (.list false ((xs.take (off+len)).drop off)) else .sl o' off len tot
 | x=>x
def BL (f:V->V):Obj->Obj
 | .cells cs=> .cells (cs.map f)
 | x=>x
def SN (o:Nat) (xs:List PV):Obj->Obj:=BL (Hy o xs)
def bS (o:Nat) (xs:List PV) (H:List Obj):List Obj:=(H.map (SN o xs)).set o .dead
theorem Weak.fzG (f:V->V) {n0 fr H} (o:Nat) {S:Nat} {xs:List PV} (ho:H[o]? =some (.elems S xs))
  (hf0: ∀ {F H' ι ι' w},Keeps (Own F ι) w (Own F ι') w->HX H ι w H' ι' w->(∀ {off len tot v},xs.length=tot->off+len<=tot->RV F H ι w (.sl o off len tot) v->RV F H' ι' w (.p (.list false ((xs.take (off+len)).drop off))) v)-> ∀ {x v},RV F H ι w x v->RV F H' ι' w (f x) v) :
  Weak n0 fr H (fr.map f) ((H.map (BL f)).set o .dead):=fun F ι a w hr hf=>by
 have hol:=(ZT.1 ho).1;have hlen:=hr.len
 have gne: ∀ {i:Nat},i≠o->((H.map (BL f)).set o .dead)[i]? =(H[i]?).map (BL f):=fun {i} hi=>by
  grind
 have geq:((H.map (BL f)).set o .dead)[o]? =some .dead:=by simp [hol]
 have ine: ∀ {i:Nat},i≠o->(ι.set o none)[i]? =ι[i]? :=fun {i} hi=>WL (fun h=>hi h.symm)
 have ieq:(ι.set o none)[o]? =some none:=by grind
 have hsub: ∀ {i b:Nat},(ι.set o none)[i]? =some (some b)->i≠o/\ι[i]? =some (some b):=fun {i b} hi=>by
  grind
 have hown: ∀b,Own F (ι.set o none) b->Own F ι b:=fun b hb=>by
  rcases hb with hb | hb
  ·exact .inl hb
  ·obtain ⟨i,hi⟩:=Xf.1 hb;exact .inr (XG (hsub hi).2)
 have hX:Keeps (Own F ι) w (Own F (ι.set o none)) w:=fun b hb hs=>⟨fun h=>hb (hown b h),hs,rfl⟩
 have hHX:HX H ι w ((H.map (BL f)).set o .dead) (ι.set o none) w:=fun i ob hi=>by
  by_cases h:i=o
  ·grind
  ·have e:((H.map (BL f)).set o .dead)[i]? =some (BL f ob):=by grind
   cases ob with
   | dead=>exact .inl e
   | cells cs=>exact .inr ⟨⟨_,e⟩,ine h⟩
   | map es=>exact .inr ⟨⟨_,e⟩,ine h⟩
   | bld T E r bs=>exact .inr ⟨⟨_,e⟩,ine h⟩
   | elems S xs=>exact .inr ⟨_,e,.inr ⟨rfl,ine h,fun b c t _ hc=>⟨c,hc,rfl⟩⟩⟩
 have hval: ∀ {x v},RV F H ι w x v->RV F ((H.map (BL f)).set o .dead) (ι.set o none) w (f x) v:=hf0 hX hHX fun h1 h2 hv=>by
  refine .p _ _ (BY _ (fun b hb h=> ?_) hX hr ho h1 h2 hv);rcases h with h | h
  ·exact (hr.avo _ b hb).1 h
  ·obtain ⟨i,hi⟩:=Xf.1 h;obtain ⟨h3,h4⟩:=hsub hi;exact h3 (hr.inj _ _ _ h4 hb)
 have hrel:Rel F ((H.map (BL f)).set o .dead) (ι.set o none) w:=by
  refine ⟨⟨by simp [hlen],hr.fin,fun i j b hi hj=>hr.inj i j b (hsub hi).2 (hsub hj).2,fun i b hi=>hr.avo i b (hsub hi).2,fun i cs hi=> ?_,fun i S' ys hi=> ?_,fun i es hi=> ?_,?_⟩,hr.env.le fun b hb=>hb.imp id fun h=>by grind⟩
  ·by_cases h:i=o
   ·grind
   ·rw [gne h] at hi;obtain ⟨ob,h1,h2⟩:=ZV.1 hi
    cases ob<;>(try simp only [BL] at h2)<;>try cases h2
    rename_i cs0;obtain ⟨b,c,t,e1,e2,e3,e4⟩:=hr.cel i cs0 h1
    grind
  ·by_cases h:i=o
   ·grind
   ·rw [gne h] at hi;obtain ⟨ob,h1,h2⟩:=ZV.1 hi
    cases ob<;>(try simp only [BL] at h2)<;>try cases h2
    rcases hr.elm i _ _ h1 with ⟨e1,e2⟩ | ⟨b,c,t,cap,e1,e2,e3,e4,e5,e6,e7⟩
    ·grind
    ·exact .inr ⟨b,c,t,cap,by grind,e2,e3,e4,e5,e6,fun i x j y hi hj=>(e7 i x j y hi hj).ext hX⟩
  ·by_cases h:i=o
   ·grind
   ·rw [gne h] at hi;obtain ⟨ob,h1,h2⟩:=ZV.1 hi
    cases ob<;>(try simp only [BL] at h2)<;>try cases h2
    obtain ⟨b,a',k,e1,e2,e3⟩:=hr.mpr i _ h1;exact ⟨b,a',k,by grind,e2,e3.ext hX⟩
  ·refine Vj hr (fun i T E r bs hi=> ?_) fun i ob hi hs=> ?_
   ·by_cases h:i=o
    ·grind
    ·rw [gne h] at hi;obtain ⟨ob,h1,h2⟩:=ZV.1 hi
     cases ob<;>(try simp only [BL] at h2)<;>try cases h2
     exact h1
   ·have h:i≠o:=fun e=>by subst e;rw [ho] at hi;simp at hi;subst hi;cases hs
    refine ⟨?_,ine h,fun _ _=>rfl⟩;rw [gne h,hi]
    cases ob<;>first | rfl | cases hs
 have hg:Good F H ι w ((H.map (BL f)).set o .dead) (ι.set o none) w:=⟨hrel,rfl,Tp.rfl,rfl,fun _ c _ h=> .inr ⟨c,h,rfl⟩,Zw _,fun _ _ _=>rfl,fun b hb hno h=>by
  grind,hHX⟩
 refine ⟨ι.set o none,hrel,⟨by simpa using hf.1,hf.2.1,fun i x hi=> ?_⟩,fun H0 ι0 w0 _ g=>g.trans hg⟩;rw [Xs] at hi;obtain ⟨y,h5,rfl⟩:=ZV.1 hi;exact hval (hf.2.2 i y h5)
theorem Weak.fz {n0 fr H} (o:Nat) {S:Nat} {xs:List PV} (ho:H[o]? =some (.elems S xs)):Weak n0 fr H (fr.map (Hy o xs)) (bS o xs H) :=
 Weak.fzG (Hy o xs) o ho fun {_ _ _ _ _} hX hHX row {x v} hv=>by
  unfold Hy
  split
  ·split
   ·grind
   ·exact hv.ext hX hHX
  ·exact hv.ext hX hHX
@[go_sem] theorem ZoD {o xs H} :bS o xs H=(H.map (SN o xs)).set o .dead:=rfl
@[go_sem] theorem ZfO {o xs cs} :SN o xs (.cells cs)= .cells (cs.map (Hy o xs)):=rfl
@[go_sem] theorem ZfP {o xs S ys} :SN o xs (.elems S ys)= .elems S ys:=rfl
@[go_sem] theorem ZmT {o xs es} :SN o xs (.map es)= .map es:=rfl
@[go_sem] theorem ZmS {o xs T E r bs} :SN o xs (.bld T E r bs)= .bld T E r bs:=rfl
@[go_sem] theorem ZoE {o xs a} :Hy o xs (.bp a)= .bp a:=rfl
@[go_sem] theorem ZoI {o xs a} :Hy o xs (.mp a)= .mp a:=rfl
@[go_sem] theorem ZiZ {o xs} :SN o xs .dead= .dead:=rfl
@[go_sem] theorem Zq0 {o xs x} :Hy o xs (.p x)= .p x:=rfl
@[go_sem] theorem ZmU {o xs x} :Hy o xs (.agg x)= .agg x:=rfl
@[go_sem] theorem ZoG {o xs f a b} :Hy o xs (.fn f a b)= .fn f a b:=rfl
@[go_sem] theorem ZmW {o xs a b} :Hy o xs (.ptr a b)= .ptr a b:=rfl
@[go_sem] theorem ZoF {o xs a b c d} :Hy o xs (.ep a b c d)= .ep a b c d:=rfl
@[go_sem] theorem ZoH {o xs a b} :Hy o xs (.lp a b)= .lp a b:=rfl
@[go_sem] theorem ZmX {o xs a} :Hy o xs (.tup a)= .tup a:=rfl
@[go_sem] theorem ZmV {o xs} :Hy o xs .err= .err:=rfl
@[go_sem] theorem Zi0 {o xs} :Hy o xs .junk= .junk:=rfl
def Ra (xs:List PV) (o n:Nat):V:=if xs.length=n then .p (.list false xs) else .sl o 0 n n
@[go_sem] theorem ZoJ {o xs o' n} :Hy o xs (.sl o' 0 n n)=if o'=o then Ra xs o n else .sl o' 0 n n:=by
 grind [Hy,Ra]
@[go_sem low] theorem ZoK {xs o n} :Ra xs o n=if xs.length=n then .p (.list false xs) else .sl o 0 n n:=rfl
@[go_sem] theorem ZmY {α:Type} {f:α->PV} {l:List α} {o} :Ra (l.map f) o l.length= .p (.list false (l.map f)):=by simp [Ra]
@[go_sem] theorem ZmZ {o} :Ra [] o 0= .p (.list false []):=by simp [Ra]
@[go_sem] theorem Zm0 {x o} :Ra [x] o 1= .p (.list false [x]):=by simp [Ra]
@[go_sem] theorem Zm1 {x y o} :Ra [x,y] o 2= .p (.list false [x,y]):=by simp [Ra]
@[go_sem] theorem ZfQ {x y z o} :Ra [x,y,z] o 3= .p (.list false [x,y,z]):=by simp [Ra]
@[go_sem] theorem Zi1 {α:Type} {f:α->PV} {l:List α} {x o} :Ra (l.map f++ [x]) o (l.length+1)= .p (.list false (l.map f++ [x])):=by simp [Ra]
theorem ACalls.pureE {P g args} {α:Type} {f:α->PV} {R:α->Prop} (h:ACalls P g args [] fun x _=> ∃a,R a/\x= .p (f a)):ACalls P g args [] fun x H'=> ∃a,R a/\x= .p (f a)/\H'= [] :=
 ⟨h.1,fun F ι w vs hr hv=>(h.2 F ι w vs hr hv).mono fun e w' ⟨x,H',ι',v,he,⟨a,ha,hx⟩,g,r⟩=>by
  have hi:ι= []:=YG hr.len;subst hi;subst hx;refine ⟨.p (f a),[],[],v,he,⟨a,ha,rfl,rfl⟩,g.forget hr.env hr.fin,?_⟩
  cases r with | p _ _ r =>
  exact .p _ _ (r.weaker fun b hb=>by
   rcases hb with hb | hb
   ·exact .inl hb
   ·simp at hb)⟩
theorem Fp {F:Nat->Prop} {H:List Obj} {ι:List (Option Nat)} {w:World} (hr:Rel F H ι w) {o:Nat} {z:Option Nat} (hz:ι[o]? =some z) :
  (∀b,Own F (ι.set o none) b->b<w.heap.size)/\(∀b,z=some b-> ¬Own F (ι.set o none) b/\b<w.heap.size)/\(∀b,Own (Own F (ι.set o none)) [z] b↔Own F ι b):=by
 have hol:=(ZT.1 hz).1
 have hsub: ∀ {i b:Nat},(ι.set o none)[i]? =some (some b)->i≠o/\ι[i]? =some (some b):=fun {i b} hi=>by
  grind
 refine ⟨fun b hb=> ?_,fun b hb=>⟨fun h=> ?_,?_⟩,fun b=>⟨fun h=> ?_,fun h=> ?_⟩⟩
 ·rcases hb with hb | hb
  ·exact hr.fin b hb
  ·obtain ⟨i,hi⟩:=Xf.1 hb;exact (hr.avo i b (hsub hi).2).2
 ·subst hb;rcases h with h | h
  ·exact (hr.avo o b hz).1 h
  ·obtain ⟨i,hi⟩:=Xf.1 h;obtain ⟨h1,h2⟩:=hsub hi;exact h1 (hr.inj i o b h2 hz)
 ·subst hb;exact (hr.avo o b hz).2
 ·rcases h with (h | h) | h
  ·exact .inl h
  ·obtain ⟨i,hi⟩:=Xf.1 h;exact .inr (XG (hsub hi).2)
  ·simp at h;subst h;exact .inr (XG hz)
 ·rcases h with h | h
  ·exact .inl (.inl h)
  ·obtain ⟨i,hi⟩:=Xf.1 h
   by_cases e:i=o
   ·subst e;rw [hz] at hi;simp at hi;subst hi;exact .inr Zb
   ·exact .inl (.inr (XG (i:=i) (by grind)))
theorem RP.eqv {X X':Nat->Prop} (h: ∀b,X b↔X' b) {w x v} (hx:RP X w x v):RP X' w x v:=hx.weaker fun b=>(h b).2
theorem Oi {F:Nat->Prop} {H:List Obj} {ι:List (Option Nat)} {w:World} (hr:Rel F H ι w) {o:Nat} {z:Option Nat} (hz:ι[o]? =some z) {ob0 ob ob':Obj} {H1:List Obj} {ι1:List (Option Nat)} {w':World}
  (g:Good (Own F (ι.set o none)) [ob0] [z] w [ob'] ι1 w') (hH:H[o]? =some ob)
  (hx:match ob with
   | .dead=>False
   | .cells _=>False
   | .map _=>False
   | .bld _ _ _ _=>False
   | .elems S xs=> ∃xs',H1= [.elems S xs']/\xs'.length=xs.length/\ι1= [z]/\ ∀b,z=some b-> ∃c t cap,w'.heap[b]? =some (.cells c t (0,0))/\c.size=cap*S/\xs'.length<=cap/\cap<=maxLen /\
     (∀(i:Nat) (x:PV),xs'[i]? =some x->x.cells.length=S)/\ ∀(i:Nat) (x:PV) (j:Nat) (y:PV),xs'[i]? =some x->x.cells[j]? =some y->RP (Own (Own F (ι.set o none)) [z]) w' y (c.getD (i*S+j) undef))
  (hzs:z≠none): ∃ob2,H1= [ob2]/\Good F H ι w (H.set o ob2) ι w':=by
 obtain ⟨r1,r2,r3⟩:=Fp hr hz;have hoH:=(ZT.1 hH).1
 cases ob with
 | dead=>exact hx.elim
 | cells cs=>exact hx.elim
 | map es=>exact hx.elim
 | bld T E r bs=>exact hx.elim
 | elems S xs =>
 obtain ⟨xs',rfl,h1,rfl,h2⟩:=hx;refine ⟨_,rfl,?_⟩
 obtain ⟨b,rfl⟩: ∃b,z=some b:=by cases z with | none=>grind | some b=>simp
 obtain ⟨c,t,cap,q1,q2,q3,q4,q5,q6⟩:=h2 b rfl;have hkeepB: ∀q,q<w.heap.size->q≠b->w'.heap[q]? =w.heap[q]? :=fun q hq hne=>g.keep q hq (by grind);have hKeeps:Keeps (Own F ι) w (Own F ι) w':=fun q hq hs=>⟨hq,by grind,hkeepB q hs (fun e=>hq (.inr (e ▸ XG hz)))⟩
 have hget: ∀ {i:Nat} {ob:Obj},(H.set o (.elems S xs'))[i]? =some ob->(i=o/\ob= .elems S xs')\/(i≠o/\H[i]? =some ob):=fun {i ob} hi=>by
  by_cases e:i=o
  ·grind
  grind
 have hHX:HX H ι w (H.set o (.elems S xs')) ι w':=fun i ob hi=>by
  by_cases e:i=o
  ·subst e;rw [hH] at hi;simp at hi;subst hi;refine .inr ⟨xs',by grind,.inr ⟨h1,rfl,fun b2 c2 t2 hb2 hc2=> ?_⟩⟩;exact (g.shape b2 c2 t2 hc2).resolve_left fun h=>h.2 h.1
  ·have e1:(H.set o (.elems S xs'))[i]? =some ob:=by grind
   cases ob with
   | dead=>exact .inl e1
   | cells cs=>grind
   | map es=>grind
   | bld T E r bs=>grind
   | elems S2 ys=>exact .inr ⟨_,e1,.inr ⟨rfl,rfl,fun b2 c2 t2 _ hc2=>(g.shape b2 c2 t2 hc2).resolve_left fun h=>h.2 h.1⟩⟩
 have hne: ∀ {i b2:Nat},i≠o->ι[i]? =some (some b2)->b2≠b:=fun {i b2} hi hb e=>hi (hr.inj i o b2 hb (by grind))
 have hrel:Rel0 F (H.set o (.elems S xs')) ι w':=by
  refine ⟨by simp [hr.len],fun q hq=>by have:=hr.fin q hq;grind,hr.inj,fun i q hi=>⟨(hr.avo i q hi).1,by have:=(hr.avo i q hi).2;grind⟩,fun i cs hi=> ?_,fun i S2 ys hi=> ?_,fun i es hi=> ?_,?_⟩
  ·rcases hget hi with ⟨_,e⟩ | ⟨hio,hi⟩
   ·cases e
   ·obtain ⟨b2,c2,t2,p1,p2,p3,p4⟩:=hr.cel i cs hi;exact ⟨b2,c2,t2,p1,by rw [hkeepB b2 (hr.avo i b2 p1).2 (hne hio p1)];exact p2,p3,fun j x hj=>(p4 j x hj).ext hKeeps hHX⟩
  ·rcases hget hi with ⟨rfl,e⟩ | ⟨hio,hi⟩
   ·simp at e;obtain ⟨rfl,rfl⟩:=e;exact .inr ⟨b,c,t,cap,hz,q1,q2,q3,q4,q5,fun i2 x j y hi hj=>(q6 i2 x j y hi hj).eqv r3⟩
   ·rcases hr.elm i S2 ys hi with ⟨p1,p2⟩ | ⟨b2,c2,t2,cap2,p1,p2,p3,p4,p5,p6,p7⟩
    ·grind
    ·exact .inr ⟨b2,c2,t2,cap2,p1,by rw [hkeepB b2 (hr.avo i b2 p1).2 (hne hio p1)];exact p2,p3,p4,p5,p6,fun i2 x j y hi hj=>(p7 i2 x j y hi hj).ext hKeeps⟩
  ·rcases hget hi with ⟨_,e⟩ | ⟨hio,hi⟩
   ·cases e
   ·obtain ⟨b2,a2,k2,p1,p2,p3⟩:=hr.mpr i es hi;exact ⟨b2,a2,k2,p1,by rw [hkeepB b2 (hr.avo i b2 p1).2 (hne hio p1)];exact p2,p3.ext hKeeps⟩
  ·refine Vj hr (fun i T E r bs hi=> ?_) fun i ob hi hs=> ?_
   ·grind
   ·have hio:i≠o:=fun e=>by subst e;rw [hH] at hi;simp at hi;subst hi;cases hs
    exact ⟨WL (fun h=>hio h.symm),rfl,fun q hq=>hkeepB q (hr.avo i q hq).2 (hne hio hq)⟩
 exact Good.up hr.env ⟨hrel,g.os,g.tape,g.output,fun b c t h=>(g.shape b c t h).imp (fun h=>absurd h.1 h.2) id,g.size,fun q hq hno=>hkeepB q hq (fun e=>hno (e ▸ XG hz)),fun q _ hno=>hno,hHX⟩
theorem Oh {F:Nat->Prop} {H:List Obj} {ι:List (Option Nat)} {w:World} (hr:Rel F H ι w) {o b:Nat} (hz:ι[o]? =some (some b)) {H0:List Obj} {a a0:V} {ps:List PV} {vs:Array Value} (hv:RVs F H ι w (a::ps.map .p) vs)
  (h0:RV (Own F (ι.set o none)) H0 [some b] w a0 (vs.getD 0 undef)):RVs (Own F (ι.set o none)) H0 [some b] w (a0::ps.map .p) vs:=by
 obtain ⟨_,_,r3⟩:=Fp hr hz;refine ⟨by simpa using hv.1,fun j c hj=> ?_⟩
 cases j with
 | zero=>grind
 | succ j =>
  have h1:=hv.2 (j+1) c (by grind);simp only [CN,Xs,ZV] at hj;obtain ⟨x,_,rfl⟩:=hj
  cases h1 with | p _ _ h1=>exact .p _ _ (h1.eqv fun b=>(r3 b).symm)
theorem ACalls.atE {P g} {o i j S:Nat} {xs xs':List PV} {ps:List PV} {H:List Obj} (hH:H[o]? =some (.elems S xs)) (h:ACalls P g (.ep 0 i j xs.length::ps.map .p) [.elems S xs] fun y H'=>y= .tup []/\H'= [.elems S xs']) (hl:xs'.length=xs.length) :
  ACalls P g (.ep o i j xs.length::ps.map .p) H fun y H'=>y= .tup []/\H'=H.set o (.elems S xs') :=
 ⟨h.1,fun F ι w vs hr hv=>by
  have h0:=hv.2 0 _ rfl;generalize hvg:vs.getD 0 undef=v0 at h0;generalize hT:xs.length=T at h0
  cases h0 with
  | epD _ _ _ _ _ hd=>grind
  | epS _ _ _ _ _ S2 ys hd hlt=>grind
  | ep _ _ _ _ b S2 ys hz hd ht =>
  rw [hH] at hd;simp at hd;obtain ⟨rfl,rfl⟩:=hd;obtain ⟨r1,r2,r3⟩:=Fp hr hz
  have rel1:Rel (Own F (ι.set o none)) [.elems S xs] [some b] w:=by
   refine ⟨⟨rfl,r1,fun i j q hi hj=> ?_,fun i q hi=> ?_,fun q cs hq=> ?_,fun q S2 ys hq=> ?_,fun q es hq=>by grind,fun q T E r bs hq=>by grind⟩,hr.env.le fun b hb=>(r3 b).1 hb⟩
   ·grind
   ·grind
   ·grind
   ·cases q with
    | succ q=>simp at hq
    | zero =>
     simp at hq;obtain ⟨rfl,rfl⟩:=hq;rcases hr.elm o S xs hH with ⟨p1,_⟩ | ⟨b2,c2,t2,cap2,p1,p2,p3,p4,p5,p6,p7⟩
     ·grind
     ·rw [hz] at p1;simp at p1;subst p1;exact .inr ⟨b,c2,t2,cap2,rfl,p2,p3,p4,p5,p6,fun i x j y hi hj=>(p7 i x j y hi hj).eqv fun b=>(r3 b).symm⟩
  have args:=Oh (H0:= [.elems S xs]) (a0:= .ep 0 i j xs.length) hr hz hv (by rw [hvg,hT];exact .ep 0 i j T b S xs rfl rfl hT);refine (h.2 _ _ w vs rel1 args).mono ?_;rintro e w' ⟨x,H',ι',v,rfl,⟨rfl,rfl⟩,gd,rv⟩
  have hι':ι'= [some b]:=by
   have hlen:=gd.rel.len;rcases gd.hx 0 _ rfl with hx | ⟨ys,hy,hx⟩
   ·simp at hx
   ·simp at hy;subst hy;rcases hx with hx | ⟨_,hx,_⟩
    ·omega
    ·match ι',hlen,hx with
     | [q],_,hx=>grind
  subst hι'
  obtain ⟨ob2,e2,g2⟩:=Oi (ob:= .elems S xs) (H1:= [.elems S xs']) hr hz gd hH ⟨xs',rfl,hl,rfl,fun q hq=>by
   simp at hq;subst hq;rcases gd.rel.elm 0 S xs' rfl with ⟨p1,_⟩ | ⟨b2,c2,t2,cap2,p1,p2,p3,p4,p5,p6,p7⟩
   ·simp at p1
   ·simp at p1;subst p1
    exact ⟨c2,t2,cap2,p2,p3,p4,p5,p6,p7⟩⟩ Zb
  simp at e2;subst e2
  exact ⟨.tup [],_,ι,v,rfl,⟨rfl,rfl⟩,g2,by
   cases rv with | tup _ arr hs _=>exact .tup _ arr hs fun j c hj=>by simp at hj⟩⟩
def V5 (xs:List PV):List PV:=xs.flatMap PV.cells
theorem AE {S:Nat} : ∀ {xs:List PV},(∀x∈xs,x.cells.length=S)->(V5 xs).length=xs.length*S
 | [],_=>by simp [V5]
 | x::xs,h=>by
  have:=AE (S:=S) (xs:=xs) fun y hy=>h y (by simp [hy])
  simp only [V5,Qq,ZJ,ZC] at *
  rw [h x Zb,this,XT];omega
theorem DL {S:Nat} : ∀ {xs:List PV},(∀x∈xs,x.cells.length=S)-> ∀(i:Nat) (x:PV) (j:Nat) (y:PV),xs[i]? =some x->x.cells[j]? =some y->(V5 xs)[i*S+j]? =some y
 | [],_,i,x,j,y,h,_=>by simp at h
 | z::xs,h,i,x,j,y,hi,hj=>by
  simp only [V5,Qq];have hz:=h z Zb
  cases i with
  | zero =>
   grind
  | succ i =>
   have:=DL (S:=S) (xs:=xs) (fun y hy=>h y (by simp [hy])) i x j y (by grind) hj;rw [VO (by grind),hz]
   have e:(i+1)*S+j-S=i*S+j:=by grind
   rw [e];exact this
theorem H9 {S:Nat} : ∀ {xs:List PV},(∀x∈xs,x.cells.length=S)-> ∀(q:Nat) (y:PV),(V5 xs)[q]? =some y-> ∃i x j,xs[i]? =some x/\x.cells[j]? =some y/\q=i*S+j
 | [],_,q,y,h=>by simp [V5] at h
 | z::xs,h,q,y,hq=>by
  simp only [V5,Qq] at hq;have hz:=h z Zb
  by_cases hlt:q<z.cells.length
  ·rw [YZ hlt] at hq;exact ⟨0,z,q,Zb,hq,Zb⟩
  ·rw [VO Za] at hq;obtain ⟨i,x,j,h1,h2,h3⟩:=H9 (S:=S) (xs:=xs) (fun y hy=>h y (by simp [hy])) _ y hq;exact ⟨i+1,x,j,by grind,h2,by grind⟩
theorem ACalls.atF {P g} {o i j S:Nat} {xs xs':List PV} {ps:List PV} {H:List Obj} (hH:H[o]? =some (.elems S xs)) (hS: ∀x∈xs,x.cells.length=S) (hS': ∀x∈xs',x.cells.length=S)
  (h: ∀k,ACalls P g (.ptr 0 (i*S+j)::ps.map .p) [.cells ((V5 xs).map .p++List.replicate k .junk)] fun y H'=>y= .tup []/\ ∃sp:List V,sp.length=k/\H'= [.cells ((V5 xs').map .p++sp)]) (hl:xs'.length=xs.length) :
  ACalls P g (.ep o i j xs.length::ps.map .p) H fun y H'=>y= .tup []/\H'=H.set o (.elems S xs') :=
 ⟨(h 0).1,fun F ι w vs hr hv=>by
  have h0:=hv.2 0 _ rfl;generalize hvg:vs.getD 0 undef=v0 at h0;generalize hT:xs.length=T at h0
  cases h0 with
  | epD _ _ _ _ _ hd=>grind
  | epS _ _ _ _ _ S2 ys hd hlt=>grind
  | ep _ _ _ _ b S2 ys hz hd ht =>
  rw [hH] at hd;simp at hd;obtain ⟨rfl,rfl⟩:=hd;obtain ⟨r1,r2,r3⟩:=Fp hr hz;rcases hr.elm o S xs hH with ⟨p1,_⟩ | ⟨b2,c,t,cap,p1,p2,p3,p4,p5,p6,p7⟩
  ·grind
  rw [hz] at p1;simp at p1;subst p1;have hfl:=AE hS;have hfl':=AE hS'
  have hcs:xs.length*S<=c.size:=by simp_all [Yz]
  have rel1:Rel (Own F (ι.set o none)) [.cells ((V5 xs).map .p++List.replicate (c.size-xs.length*S) .junk)] [some b] w:=by
   refine ⟨⟨rfl,r1,fun i j q hi hj=> ?_,fun i q hi=> ?_,fun q cs hq=> ?_,fun q S2 ys hq=> ?_,fun q es hq=>by grind,fun q T E r bs hq=>by cases q<;>simp at hq⟩,hr.env.le fun b hb=>(r3 b).1 hb⟩
   ·grind
   ·grind
   ·cases q with
    | succ q=>simp at hq
    | zero =>
     simp at hq;subst hq;refine ⟨b,c,t,rfl,p2,by grind,fun q x hq=> ?_⟩
     by_cases hlt:q<(V5 xs).length
     ·rw [YZ (by grind),Xs,ZV] at hq;obtain ⟨y,hy,rfl⟩:=hq;obtain ⟨i2,x2,j2,e1,e2,rfl⟩:=H9 hS q y hy;exact .p _ _ ((p7 i2 x2 j2 y e1 e2).eqv fun b=>(r3 b).symm)
     ·rw [VO (by simp;omega),List.getElem?_replicate] at hq
      split at hq
      ·simp at hq;subst hq;exact .junk _
      ·cases hq
   ·cases q with
    | zero=>simp at hq
    | succ q=>simp at hq
  have args:=Oh (H0:= [.cells ((V5 xs).map .p++List.replicate (c.size-xs.length*S) .junk)]) (a0:= .ptr 0 (i*S+j)) hr hz hv (by rw [hvg];exact .ptr 0 _ b _ rfl rfl);refine ((h (c.size-xs.length*S)).2 _ _ w vs rel1 args).mono ?_;rintro e w' ⟨x,H',ι',v,rfl,⟨rfl,sp,hsp,rfl⟩,gd,rv⟩
  have hι':ι'= [some b]:=by
   have hlen:=gd.rel.len;rcases gd.hx 0 _ rfl with hx | ⟨_,hx⟩
   ·simp at hx
   ·match ι',hlen,hx with
    | [q],_,hx=>grind
  subst hι'
  obtain ⟨ob2,e2,g2⟩:=Oi (ob:= .elems S xs) (H1:= [.elems S xs']) hr hz gd hH ⟨xs',rfl,hl,rfl,fun q hq=>by
   simp at hq;subst hq;obtain ⟨b2,c2,t2,q1,q2,q3,q4⟩:=gd.rel.cel 0 _ rfl;simp at q1;subst q1;refine ⟨c2,t2,cap,q2,?_,Za,p5,fun i x hi=>hS' x (XG hi),fun i x j y hi hj=> ?_⟩
   ·grind
   ·have hfg:=DL hS' i x j y hi hj;have hlt:=(ZT.1 hfg).1;have:=q4 (i*S+j) (.p y) (by rw [YZ (by grind),Xs,hfg];rfl)
    cases this with | p _ _ this=>exact this⟩ Zb
  simp at e2;subst e2
  exact ⟨.tup [],_,ι,v,rfl,⟨rfl,rfl⟩,g2,by
   cases rv with | tup _ arr hs _=>exact .tup _ arr hs fun j c hj=>by simp at hj⟩⟩
inductive Tr where
 | nil
 | cons (i:Nat) (sub rest:Tr)
def Tr.ids : Tr->List Nat
 | .nil=> []
 | .cons i _ r=>i::r.ids
def Tr.depth : Tr->Nat
 | .nil=>0
 | .cons _ s r=>max (s.depth+1) r.depth
def NV (ops:Array Oper):Array Bool->Tr->Bool
 | _,.nil=>true
 | listed,.cons i sub rest=>decide (Region.ready .any ops (listed.setIfInBounds i true)=sub.ids)&&NV ops (listed.setIfInBounds i true) sub&&NV ops listed rest
def zY (ops:Array Oper) (t:Tr):Bool:=decide (Region.ready .any ops (Array.replicate ops.size false)=t.ids)&&NV ops (Array.replicate ops.size false) t&&decide (t.depth<=ops.size)&&decide (t.ids≠ [])
def GA : List Oper->Nat->Option Oper
 | [],_=>none
 | o::_,0=>some o
 | _::l,n+1=>GA l n
theorem Tq : ∀(l:List Oper) (i:Nat),GA l i=l[i]?
 | [],_=>by simp [GA]
 | o::l,0=>by simp [GA]
 | o::l,n+1=>by simp [GA,Tq l n]
def gV (P:Program) (ds:List (Option Nat)) (o:Option Oper) (fr:List V) (H:List Obj) (k:List V->List Obj->Prop):Prop:=match o with
 | none=>False
 | some o=>match o.guard with
  | none=>Zy P o fr H (fun x H'=>k (UQ fr o.dst x) H')
  | some (j,b)=>XU (Gh fr ds j) b (Zy P o fr H (fun x H'=>k (UQ fr o.dst x) H')) (k (UQ fr o.dst (.tup [])) H)
def UT (P:Program) (ds:List (Option Nat)) (l:List Oper) (K:List V->List Obj->Prop):Tr->List V->List Obj->Prop
 | .nil,_,_=>True
 | .cons i sub rest,fr,H=>gV P ds (GA l i) fr H (fun fr' H'=>match sub with | .nil=>K fr' H' | .cons _ _ _=>UT P ds l K sub fr' H')/\UT P ds l K rest fr H
theorem MY {P:Program} {ops:Array Oper} {Q:Exit->Act->World->Prop} {K:List V->List Obj->Prop} : ∀(t:Tr) (listed:Array Bool) (fr:List V) (H:List Obj),NV ops listed t=true->UT P (ops.toList.map (·.dst)) ops.toList K t fr H ->
  ∀F ι a w,Rel F H ι w->Fr F H ι w fr a->(∀fr' H' ι' a' w',K fr' H'->Good F H ι w H' ι' w'->Fr F H' ι' w' fr' a'->Q .normal a' w') ->
  ∀fuel,t.depth<=fuel+1-> ∀i∈t.ids,wpOp P ops Q i (wpAny P .any ops Q fuel (listed.setIfInBounds i true)) a w:=by
 intro t
 induction t with
 | nil=>grind [Tr.ids]
 | cons i sub rest ihs ihr =>
  intro listed fr H hB hk F ι a w hr hf hq fuel hd j hj;simp only [NV,ZE,Zs] at hB;obtain ⟨⟨hB1,hB2⟩,hB3⟩:=hB;simp only [UT] at hk;simp only [Tr.depth] at hd;rw [Tr.ids,Z4] at hj;rcases hj with rfl | hj
  rotate_left
  ·grind
  have hk1:=hk.1
  -- what comes behind
  have next: ∀fr' H' ι' a' w',(match sub with | .nil=>K fr' H' | .cons _ _ _=>UT P (ops.toList.map (·.dst)) ops.toList K sub fr' H')->Good F H ι w H' ι' w'->Fr F H' ι' w' fr' a'->wpAny P .any ops Q fuel (listed.setIfInBounds j true) a' w':=by
   intro fr' H' ι' a' w' hkk g f
   cases sub with
   | nil =>
    have hQ:=hq fr' H' ι' a' w' hkk g f
    cases fuel with
    | zero=>exact ⟨hB1,hQ⟩
    | succ fuel=>exact ⟨fun _=>hQ,fun q hq=>by grind [Tr.ids]⟩
   | cons i2 s2 r2 =>
    cases fuel with
    | zero=>grind [Tr.depth]
    | succ fuel =>
     refine ⟨fun h=>by grind [Tr.ids],fun q hq2=> ?_⟩;rw [hB1] at hq2;exact ihs (listed.setIfInBounds j true) fr' H' hB2 hkk F ι' a' w' g.rel f (fun fr2 H2 ι2 a2 w2 k2 g2 f2=>hq fr2 H2 ι2 a2 w2 k2 (g.trans g2) f2) fuel Za q hq2
  unfold gV at hk1;rw [Tq] at hk1
  cases ho:ops.toList[j]? with
  | none=>grind
  | some o =>
   rw [ho] at hk1
   have ho2:ops[j]? =some o:=by grind
   unfold wpOp;rw [ho2];simp only
   have step:Zy P o fr H (fun x H'=>match sub with | .nil=>K (UQ fr o.dst x) H' | .cons _ _ _=>UT P (ops.toList.map (·.dst)) ops.toList K sub (UQ fr o.dst x) H')->o.wp P a w (wpAny P .any ops Q fuel (listed.setIfInBounds j true)) Q:=fun h =>
    QH h hr hf fun x H' ι' v w' hkk g r=>next _ H' ι' _ w' hkk g ((g.fr hf).put o.dst r)
   simp only at hk1
   split at hk1
   ·simp_all [Region.wanted]
   ·rename_i q b hg;unfold XU at hk1
    split at hk1
    rotate_left
    ·rename_i hc;have hy:=Wl hf hc
     have hw: ¬(Region.wanted o (yielded ops a.tmps)=true):=by simp [Region.wanted,hg,hy]
     rw [if_neg hw];exact next _ H ι _ w hk1 (Good.refl hr) (hf.put o.dst WE)
    ·grind
    rename_i c hc;have hy:=Vv hf hc
    by_cases hcb:c=b
    ·simp_all [Region.wanted]
    ·have hw: ¬(Region.wanted o (yielded ops a.tmps)=true):=by grind [Region.wanted]
     rw [if_neg hw];exact next _ H ι _ w (hk1.2 hcb) (Good.refl hr) (hf.put o.dst WE)
theorem FT (t:Tr) {P:Program} {id:Nat} {l:List Oper} {fr:List V} {H:List Obj} {Q:Exit->List V->List Obj->Prop} {tk} (hm:P.follows .mixedOrders=true) (hB:zY (List.toArray l) t=true)
  (h:UT P (l.map (·.dst)) l (Q .normal) t fr H):AWP P (.region id (Zu (List.toArray l) tk) true) fr H Q:=by
 rw [show Zu (List.toArray l) tk=List.toArray l from rfl];intro F ι a w hr hf;refine wp_region_any hm ?_;simp only [zY,ZE,Zs] at hB;obtain ⟨⟨⟨h1,h2⟩,h3⟩,h4⟩:=hB;have g0:=Good.drew hr
 have key:=MY (P:=P) (ops:=List.toArray l) (Q:=fun e a' w'=> ∃fr' H' ι',Q e fr' H'/\Good F H ι w H' ι' w'/\Fr F H' ι' w' fr' a') (K:=Q .normal) t (Array.replicate (List.toArray l).size false) fr H h2 (by simpa using h) F ι a { w with drawn:=w.drawn+1 } g0.rel (g0.fr hf)
  (fun fr' H' ι' a' w' k g f=>⟨fr',H',ι',k,g0.trans g,f⟩)
 cases hs:(List.toArray l).size with
 | zero =>
  exfalso;rw [hs] at h3
  cases t with
  | nil=>exact h4 rfl
  | cons i s r=>simp [Tr.depth] at h3
 | succ n =>
  rw [hs] at h3 key h1;refine ⟨fun hh=>absurd (h1 ▸ hh) h4,fun i hi=> ?_⟩
  grind
@[go_sem] theorem Zgb {o:Oper} {l} :GA (o::l) 0=some o:=rfl
@[go_sem] theorem Zga {o:Oper} {l n} :GA (o::l) (n+1)=GA l n:=rfl
@[go_sem] theorem Zfk {P ds fr H k d op t ps af} :gV P ds (some ⟨d,op,t,ps,af,none⟩) fr H k=Zy P ⟨d,op,t,ps,af,none⟩ fr H (Zu (fun x H'=>k (UQ fr d x) H') ⟨⟩):=by rfl
@[go_sem] theorem Zfb {P ds l K i fr H} :UT P ds l K (.cons i .nil .nil) fr H=gV P ds (GA l i) fr H (Zu K ⟨⟩):=by simp [UT,Zu]
@[go_sem] theorem Zfc {P ds l K i j s r fr H} :UT P ds l K (.cons i (.cons j s r) .nil) fr H=gV P ds (GA l i) fr H (Zu (fun fr' H'=>UT P ds l K (.cons j s r) fr' H') ⟨⟩):=by simp [UT,Zu]
theorem DC {P ds l K i s j s2 r fr H} (h1:UT P ds l K (.cons i s .nil) fr H) (h2:UT P ds l K (.cons j s2 r) fr H):UT P ds l K (.cons i s (.cons j s2 r)) fr H:=by
 grind [UT]
end Go.AM
namespace Go.Proofs.YtenjikkmmibffaaGreatDoor.K
open Go Go.AM Go.Proofs
set_option maxRecDepth 8000
theorem Et {S M:Nat} (hS:S<9223372036854775808):(IntKind.i64.wrap ((BitVec.ofInt 64 (S:Int)&&& ~~~BitVec.ofInt 64 (M:Int)).toNat:Int)=0)↔((List.range 63).all fun i=> !S.testBit i||M.testBit i)=true:=by
 rw [BitVec.ofInt_natCast,BitVec.ofInt_natCast]
 have hz:(BitVec.ofNat 64 S&&& ~~~BitVec.ofNat 64 M).toNat<=S:=by
  grind [Nat.and_le_left]
 have hw:IntKind.i64.wrap ((BitVec.ofNat 64 S&&& ~~~BitVec.ofNat 64 M).toNat:Int)=((BitVec.ofNat 64 S&&& ~~~BitVec.ofNat 64 M).toNat:Int):=by rw [IntKind.wrap_i64];omega
 rw [hw]
 constructor
 ·intro h;have h0:BitVec.ofNat 64 S&&& ~~~BitVec.ofNat 64 M=0#64:=BitVec.eq_of_toNat_eq (by grind);rw [Zx];intro i hi;have hi:=Zz.1 hi;have:=ZY (fun b=>b.getLsbD i) h0;simp only [BitVec.getLsbD_and,BitVec.getLsbD_not,BitVec.getLsbD_ofNat,show i<64 by omega,Um,VS] at this
  grind
 ·intro h
  have h0:BitVec.ofNat 64 S&&& ~~~BitVec.ofNat 64 M=0#64:=by
   apply BitVec.eq_of_getLsbD_eq;intro i hi;simp only [BitVec.getLsbD_and,BitVec.getLsbD_not,BitVec.getLsbD_ofNat,hi,Um,VS]
   grind
  rw [h0];rfl
theorem orN {a b:Nat} (ha:a<4611686018427387904) (hb:b<4611686018427387904):IntKind.i64.wrap ((BitVec.ofInt 64 (a:Int)|||BitVec.ofInt 64 (b:Int)).toNat:Int)=((a|||b:Nat):Int):=by
 have h:(a|||b)<2^62:=Jn Za Za
 grind [IntKind.wrap_i64]
@[go_sem high] theorem gC {P:Program} {t:TypeId} {a b:Nat} (ha:a<4611686018427387904) (hb:b<4611686018427387904):Ys P .or t (.p (.int .i64 (a:Int))) (.p (.int .i64 (b:Int)))=some (.int .i64 ((a|||b:Nat):Int)):=by
 rw [R8];exact ZY (fun z=>some (PV.int .i64 z)) (orN ha hb)
end Go.Proofs.YtenjikkmmibffaaGreatDoor.K
