/- Declarations that the closing texts need, part 4: joined by tools/slim.py. -/
import Derived.Test.YtmbelkfkhclnkaaGreatDoorYM3
import Derived.Deep.LoopGhost
import Derived.MapKept
import Derived.StillTail
import Derived.WideKeyRuns
set_option linter.unusedVariables false
set_option linter.unusedSimpArgs false
namespace Go.AM
open Go.RowKit
def dE : Obj->Bool
 | .map _=>true
 | _=>false
def V.one (H:List Obj):V->Bool
 | .p x=>x.one
 | .fn _ _ _=>true
 | .lp _ _=>true
 | .ptr o off=>Ye H (.ptr o off)
 | .ep o i j tot=>Ye H (.ep o i j tot)
 | .sl o _ _ tot=>match Xv H o with | .elems _ xs=>decide (xs.length=tot) | .cells _=>true | _=>false
 | .mp o=>dE (Xv H o)
 | _=>false
theorem RV.oneCell {F H ι w x v} (h:RV F H ι w x v) (h1:x.one H=true):v.oneCell'=true:=by
 unfold V.one at h1
 split at h1
 ·cases h with | p _ _ h=>exact h.oneCell h1
 ·cases h;rfl
 ·cases h;rfl
 ·obtain ⟨b,off,rfl,_⟩:=XX h1 h;rfl
 ·obtain ⟨b,off,rfl,_⟩:=XX h1 h;rfl
 ·split at h1
  ·rename_i S xs ho;have hH:=Zx ho Zb;simp at h1
   cases h with
   | slNil=>rfl
   | sl=>rfl
   | slD _ _ _ _ _ hd=>grind
   | slS _ _ _ _ _ S2 xs2 hd hne=>grind
   | slC _ _ _ _ _ _ hd=>rfl
  ·rename_i cs ho;have hH:=Zx ho Zb
   cases h with
   | slC=>rfl
   | slNil _ _ _ _ hd=>rfl
   | sl _ _ _ _ _ _ _ _ _ _ _ hd=>rfl
   | slD _ _ _ _ _ hd=>grind
   | slS _ _ _ _ _ S2 xs2 hd hne=>grind
  ·cases h1
 ·rename_i o
  cases h with
  | mp=>rfl
  | mpD _ _ hd =>
   cases ho:Xv H o with
   | map es=>simp_all [Zx]
   | _=>rw [ho] at h1;cases h1
 ·cases h1
theorem cells_one {v:Value} (h:v.oneCell'=true):v.cells= #[v]:=by cases v<;>simp_all [Value.oneCell',Value.cells]
def vc (H:List Obj):V->Option (List V)
 | .p (.agg cs)=>if cs.all (·.one) then some (cs.map .p) else none
 | .agg cs=>if cs.all (V.one H) then some cs else none
 | x=>if x.one H then some [x] else none
theorem V7 {F H ι w x v cs} (h:vc H x=some cs) (hv:RV F H ι w x v):v.cells.size=cs.length/\ ∀(j:Nat) (c:V),cs[j]? =some c->RV F H ι w c (v.cells.getD j undef)/\(v.cells.getD j undef).oneCell'=true:=by
 unfold vc at h
 split at h
 ·rename_i ps
  split at h
  ·rename_i ha;simp at h;subst h
   cases hv with | p _ _ hv =>
   obtain ⟨a,rfl,hs,hr⟩:=hv.agg_inv;refine ⟨by grind [Value.cells],fun j c hj=> ?_⟩;simp only [List.getElem?_map,Option.map_eq_some_iff] at hj;obtain ⟨y,hy,rfl⟩:=hj;have:=hr j y hy;exact ⟨.p _ _ this,this.oneCell (List.all_eq_true.1 ha y (List.mem_iff_getElem?.2 ⟨j,hy⟩))⟩
  ·cases h
 ·rename_i ps
  split at h
  ·rename_i ha;simp at h;subst h
   cases hv with
   | agg _ a hs hr =>
    refine ⟨by grind [Value.cells],fun j c hj=> ?_⟩;have:=hr j c hj;exact ⟨this,this.oneCell (List.all_eq_true.1 ha c (List.mem_iff_getElem?.2 ⟨j,hj⟩))⟩
  ·cases h
 ·split at h
  ·rename_i h1;simp at h;subst h;have ho:=hv.oneCell h1;rw [cells_one ho];refine ⟨Zb,fun j c hj=> ?_⟩
   cases j with
   | zero=>simp_all
   | succ j=>simp at hj
  ·cases h
def ZC (P:Program) (t:TypeId):Option (List PV):=((P.info? t).bind (·.zero)).bind fun z=>NN z.cells.toList
def OpS (P:Program) (o:Oper) (fr:List V) (H:List Obj) (x:V) (H':List Obj):Prop :=
 ∀F ι a w,Rel F H ι w->Fr F H ι w fr a-> ∃nx v ι' w',(execOp a.eval o).run P w= .ok nx w'/\(nx= .value v\/(nx= .skip/\v=undef))/\Good F H ι w H' ι' w'/\RV F H' ι' w' x v
theorem PureOp.ops {P o fr H x} (h:PureOp P o fr H x):OpS P o fr H x H:=fun F ι a w hr hf=>by
 obtain ⟨v,e,r⟩:=h F ι a w hr hf;exact ⟨_,v,ι,w,e,.inl rfl,Good.refl hr,r⟩
theorem ES {P:Program} {o:Oper} {fr:List V} {H:List Obj} (t:TypeId) (zs:List PV) (h:o.op= .alloc t) (hz:ZC P t=some zs):OpS P o fr H (.ptr H.length 0) (H++ [.cells (zs.map .p)]):=fun F ι a w hr hf=>by
 unfold ZC at hz;simp only [Option.bind_eq_some_iff] at hz;obtain ⟨z,⟨i,hi,hz⟩,hc⟩:=hz;obtain ⟨c1,c2⟩:=KH (X:=Own F ι) (w:=w) _ _ hc
 have g:=Yr (H:=H) (t:=t) hr (Pushed.alloc w z.cells t) (.cells (zs.map .p)) ⟨by grind,fun j x hj=>by
  simp only [List.getElem?_map,Option.map_eq_some_iff] at hj;obtain ⟨y,hy,rfl⟩:=hj;have:=c2 j y hy;refine .p _ _ ?_
  simp_all⟩
 refine ⟨_,.pointer (some ⟨w.heap.size,0,none⟩),_,_,?_,.inl rfl,g,.ptr _ 0 _ (zs.map .p) (by rw [<- hr.len];simp) Zb⟩
 simp_all [execOp,Instr.alloc,zeroValue,typeInfo,newVar,newRow]
theorem Lt {P:Program} {o:Oper} {fr:List V} {H:List Obj} (t:TypeId) (x:Operand) (cs:List V) (h:o.op= .box t x) (hz:vc H (ev fr x)=some cs):OpS P o fr H (.ptr H.length 0) (H++ [.cells cs]):=fun F ι a w hr hf=>by
 obtain ⟨c1,c2⟩:=V7 hz (hf.ev x);have g:=Yr (H:=H) (t:=t) hr (Pushed.alloc w (a.eval x).cells t) (.cells cs) ⟨c1,fun j x hj=>(c2 j x hj).1⟩;refine ⟨_,.pointer (some ⟨w.heap.size,0,none⟩),_,_,?_,.inl rfl,g,.ptr _ 0 _ cs (by rw [<- hr.len];simp) Zb⟩;simp [execOp,h,Instr.box,newVar,newRow]
def Xs {α:Type} :List α->Nat->List α->List α
 | [],_,_=> []
 | x::l,0,c::cs=>c::Xs l 0 cs
 | x::l,0,[]=>x::l
 | x::l,n+1,cs=>x::Xs l n cs
theorem X3 {α:Type} : ∀(l:List α) (n:Nat) (cs:List α),(Xs l n cs).length=l.length
 | [],_,_=>by simp [Xs]
 | x::l,0,c::cs=>by simp [Xs,X3 l 0 cs]
 | x::l,0,[]=>by simp [Xs]
 | x::l,n+1,cs=>by simp [Xs,X3 l n cs]
theorem Vb {α:Type} : ∀(l:List α) (n:Nat) (cs:List α) (j:Nat) (x:α),n+cs.length<=l.length->(Xs l n cs)[j]? =some x->(n<=j/\cs[j-n]? =some x)\/((j<n\/n+cs.length<=j)/\l[j]? =some x)
 | [],n,cs,j,x,_,h=>by simp [Xs] at h
 | y::l,0,c::cs,j,x,hl,h=>by
  cases j with
  | zero=>grind [Xs]
  | succ j =>
   simp only [Xs,List.getElem?_cons_succ] at h;rcases Vb l 0 cs j x (by grind) h with ⟨_,h2⟩ | ⟨h1,h2⟩
   ·grind
   grind
 | y::l,0,[],j,x,_,h=>by grind [Xs]
 | y::l,n+1,cs,j,x,hl,h=>by
  cases j with
  | zero=>simp [Xs] at h;subst h;exact .inr ⟨.inl Za,Zb⟩
  | succ j =>
   simp only [Xs,List.getElem?_cons_succ] at h;rcases Vb l n cs j x (by simp at hl;omega) h with ⟨h1,h2⟩ | ⟨h1,h2⟩
   ·exact .inl ⟨Za,by rw [show j+1-(n+1)=j-n by omega];exact h2⟩
   ·exact .inr ⟨Za,by simpa using h2⟩
theorem V5 {α:Type} {l:List α} {i:Nat} {x:α} (h:l[i]? =some x):l.set i x=l:=by
 apply List.ext_getElem?
 grind
def Q9 : List Obj->Nat->Obj->List Obj
 | [],_,_=> []
 | _::l,0,x=>x::l
 | y::l,n+1,x=>y::Q9 l n x
theorem QN : ∀(l:List Obj) (n:Nat) (x:Obj),Q9 l n x=l.set n x
 | [],n,x=>by simp [Q9]
 | y::l,0,x=>by simp [Q9]
 | y::l,n+1,x=>by simp [Q9,QN l n x]
def Li (x:PV) (cs:List PV):PV:=match x with | .agg _=> .agg cs | _=>cs.headD .nilp
theorem EP {x:PV} {cs:List PV} (h:cs.length=x.cells.length) (h1: ∀c∈cs,c.one=true):(Li x cs).cells=cs:=by
 unfold Li
 split
 ·rfl
 ·rename_i hx
  have:x.cells= [x]:=by grind [PV.cells]
  rw [this] at h
  match cs,h with
  | [c],_=>grind [PV.cells_one]
def Vo (H:List Obj) (n:Nat) (a:V) (cs:List V):Option (List Obj) :=
 if cs.length=n then
  match a with
  | .ptr o off=>match Xv H o with
   | .cells old=>if off+n<=old.length then some (Q9 H o (.cells (Xs old off cs))) else none
   | _=>none
  | .ep o i j tot=>match Xv H o,YT cs with
   | .elems S xs,some ps=>if xs.length=tot/\i<xs.length/\j+n<=(WA xs i).cells.length/\ps.all (·.one)=true/\(WA xs i).cells.all (·.one)=true then
     some (Q9 H o (.elems S (xs.set i (Li (WA xs i) (Xs (WA xs i).cells j ps))))) else none
   | _,_=>none
  | _=>none
 else none
theorem YI (cur vs:List Value) (o k:Nat) (h:o+vs.length<=cur.length):((cur.take o++vs++cur.drop (o+vs.length)).toArray).getD k undef=if o<=k/\k<o+vs.length then vs.getD (k-o) undef else cur.getD k undef:=by
 have hto:(cur.take o).length=o:=by simp;omega
 simp only [Array.getD_eq_getD_getElem?,List.getElem?_toArray,List.getD_eq_getElem?_getD]
 grind
theorem V1 {P:Program} {w:World} {b off n:Nat} {t u:TypeId} {cur:Array Value} {v:Value} (hs:Xk P t=some n) (hv:v.cells.size=n) (hg:w.heap[b]? =some (.cells cur u (0,0))) (hl:off+n<=cur.size)
  (h1: ∀j,j<n->(v.cells.getD j undef).oneCell'=true) :
  (Instr.storeAt t (.pointer (some ⟨b,off,none⟩)) v).run P w= .ok () (w.setRow b (cur.toList.take off++v.cells.toList++cur.toList.drop (off+v.cells.size)).toArray):=by
 have hst:=run_storeCells_at P b off u v.cells.toList 0 cur w hg (by simp;omega) (fun x hx=>by
  obtain ⟨j,hj⟩:=List.mem_iff_getElem?.1 hx;have:=h1 j (by grind)
  simp_all)
 simp_all [Instr.storeAt,Instr.sureAddr,storeVar,ZD]
theorem EV {P:Program} {o:Oper} {fr:List V} {H H':List Obj} (t:TypeId) (x y:Operand) (n:Nat) (cs:List V) (h:o.op= .store t x y) (hs:Xk P t=some n) (hc:vc H (ev fr y)=some cs) (hz:Vo H n (ev fr x) cs=some H'):OpS P o fr H .junk H':=fun F ι a w hr hf=>by
 obtain ⟨c1,c2⟩:=V7 hc (hf.ev y);have hx:=hf.ev x;unfold Vo at hz
 split at hz
 rotate_left
 ·cases hz
 rename_i hlen;have hone: ∀j,j<n->((a.eval y).cells.getD j undef).oneCell'=true:=fun j hj=>(c2 j (cs[j]'(Za)) Zb).2
 split at hz
 ·rename_i o' off he;rw [he] at hx
  split at hz
  ·rename_i old ho;have hH:=Zx ho Zb
   split at hz
   ·rename_i hle;simp at hz;subst hz;obtain ⟨b,c,u,h1,h2,h3,h4⟩:=hr.cel o' old hH;obtain ⟨b',off',e,_⟩:=XX (by simp [Ye,ho]) hx
    have e2:a.eval x= .pointer (some ⟨b,off,none⟩):=by
     generalize a.eval x=v at hx e;subst e
     cases hx with
     | ptr _ _ b2 _ hb2 _=>grind
     | ptrD _ _ _ hd=>grind
    have hrun:=V1 (v:=a.eval y) (off:=off) hs Za h2 Za hone
    have g:=Jg (cs':=Xs old off cs) hr hH h1 h2 (Turned.setRow (c:=(c.toList.take off++(a.eval y).cells.toList++c.toList.drop (off+(a.eval y).cells.size)).toArray) h2)
     (by simp [X3];omega) (by simp;omega) (fun j z hj=>by
      have hget:=YI c.toList (a.eval y).cells.toList off j (by simp;omega);simp only [Array.length_toList] at hget;rw [hget];rcases Vb old off cs j z Za hj with ⟨p1,p2⟩ | ⟨p1,p2⟩
      ·have hlt:=(List.getElem?_eq_some_iff.1 p2).1;rw [if_pos Za]
       grind [Array.getD_eq_getD_getElem?]
      ·rw [if_neg Za]
       simp_all)
    refine ⟨_,undef,ι,_,?_,.inr ⟨rfl,rfl⟩,(by rw [QN];exact g),.junk _⟩
    simp_all [execOp]
   ·cases hz
  ·cases hz
 ·rename_i o' i j tot he;rw [he] at hx
  split at hz
  ·rename_i S xs ps ho hps;have hH:=Zx ho Zb;have ecs:=Ub _ _ hps
   split at hz
   ·rename_i hle;obtain ⟨ht,hi,hjn,Xe,hall2⟩:=hle;simp at hz;subst hz;rcases hr.elm o' S xs hH with ⟨_,rfl⟩ | ⟨b,c,u,cap,h1,h2,h3,h4,h5,h6,h7⟩
    ·simp at hi
    have hxi:=YW hi;have hS:=h6 i _ hxi
    have e2:a.eval x= .pointer (some ⟨b,i*S+j,none⟩):=by
     obtain ⟨b',off',e,_⟩:=XX (by simp [Ye,ho,ht]) hx;generalize a.eval x=v at hx e;subst e
     cases hx with
     | ep _ _ _ _ b2 S2 xs2 hb2 hH2 _ =>
      grind
     | epD _ _ _ _ _ hd=>grind
     | epS _ _ _ _ _ S2 xs2 hd hne=>grind
    have hcap:(i+1)*S<=c.size:=by rw [h3];exact Nat.mul_le_mul_right _ Za
    rw [Nat.add_mul,Nat.one_mul] at hcap;have hrun:=V1 (v:=a.eval y) (off:=i*S+j) hs Za h2 Za hone;have hT:Turned w (w.setRow b (c.toList.take (i*S+j)++(a.eval y).cells.toList++c.toList.drop (i*S+j+(a.eval y).cells.size)).toArray) b _ u:=Turned.setRow h2
    have hlps:ps.length=n:=by grind
    have hE:(Li (WA xs i) (Xs (WA xs i).cells j ps)).cells=Xs (WA xs i).cells j ps:=EP (X3 _ _ _) (fun q hq=>by
     obtain ⟨m,hm⟩:=List.mem_iff_getElem?.1 hq;rcases Vb _ _ _ m q Za hm with ⟨_,p2⟩ | ⟨_,p2⟩
     ·grind
     grind)
    have g:=Xc (w':=w.setRow b (c.toList.take (i*S+j)++(a.eval y).cells.toList++c.toList.drop (i*S+j+(a.eval y).cells.size)).toArray) (cap:=cap)
     (xs':=xs.set i (Li (WA xs i) (Xs (WA xs i).cells j ps))) hr hH hT.os hT.tape hT.output (fun c0 t0 hc0=>by grind) Zb hT.at' (fun k _ hk=>hT.other k hk)
     (.inl ⟨h1,.inl ⟨Zb,fun c0 t0 hc0=>by grind⟩⟩)
     (by simp;omega) (by grind) h5
     (fun k z hk=>by
      grind [X3])
     (fun k z m q hk hm=>by
      have hget:=YI c.toList (a.eval y).cells.toList (i*S+j) (k*S+m) (by simp;omega);simp only [Array.length_toList] at hget;rw [hget];rw [List.getElem?_set] at hk
      split at hk
      ·rename_i e;subst e;simp [] at hk;subst hk;rw [hE] at hm
       have hmS:m<S:=by grind [X3]
       rcases Vb _ _ _ m q Za hm with ⟨p1,p2⟩ | ⟨p1,p2⟩
       ·have hlt:=(List.getElem?_eq_some_iff.1 p2).1;rw [if_pos Za];have:=(c2 (m-j) (.p q) (by grind)).1
        cases this with | p _ _ this =>
        rw [show i*S+m-(i*S+j)=m-j by omega]
        grind [Array.getD_eq_getD_getElem?]
       ·rw [if_neg Za];have:=h7 i _ m q hxi p2
        grind [Array.getD_eq_getD_getElem?]
      ·rename_i hki
       have hmS:m<S:=by grind
       have hne: ¬(i*S+j<=k*S+m/\k*S+m<i*S+j+(a.eval y).cells.size):=by
        intro ⟨q1,q2⟩
        have hsz:(a.eval y).cells.size<=S-j:=Za
        rcases Nat.lt_or_gt_of_ne hki with hlt | hgt
        ·have:(i+1)*S<=k*S:=Nat.mul_le_mul_right _ Za
         grind
        ·have:(k+1)*S<=i*S:=Nat.mul_le_mul_right _ Za
         grind
       rw [if_neg hne];have:=h7 k z m q hk hm
       simpa [Array.getD_eq_getD_getElem?] using this)
    have eι:ι.set o' (some b)=ι:=V5 h1;refine ⟨_,undef,ι,_,?_,.inr ⟨rfl,rfl⟩,(by rw [QN];rw [eι] at g;exact g),.junk _⟩
    simp_all [execOp]
   ·cases hz
  ·cases hz
 ·cases hz
end Go.AM
namespace Go.AM
open Go.RowKit
def U0 (l:List (Nat×Nat)) (i:Nat):Option (Nat×Nat):=l[i]?
def tC (n i:Nat):Option (Nat×Nat):=some (i*n,n)
def Q3 (P:Program) (t:TypeId):Option (Nat->Option (Nat×Nat)) :=
 match P.underlying t with
 | some (.array _ e)=>(P.info? e).map fun ie=>tC ie.size
 | some (.struct fs)=>(fs.toList.mapM (fun f=>(P.info? f.type).map fun i=>(f.offset,i.size))).map U0
 | _=>none
inductive PR (F:Nat->Prop) (H:List Obj) (ι:List (Option Nat)) (w:World):List (Nat×V)->List (Nat×Value)->Prop where
 | nil:PR F H ι w [] []
 | cons (i x v ps vs) (h:RV F H ι w x v) (t:PR F H ι w ps vs):PR F H ι w ((i,x)::ps) ((i,v)::vs)
def WD (H:List Obj) (pl:Nat->Option (Nat×Nat)):List V->List (Nat×V)->Option (List V)
 | cs,[]=>some cs
 | cs,(i,v)::r=>match pl i,vc H v with
  | some (off,sz),some vs=>if vs.length=sz/\off+sz<=cs.length then WD H pl (Xs cs off vs) r else none
  | _,_=>none
def qH (F:Nat->Prop) (H:List Obj) (ι:List (Option Nat)) (w:World) (cs:List V) (a:Array Value):Prop :=
 a.size=cs.length/\ ∀(j:Nat) (c:V),cs[j]? =some c->RV F H ι w c (a.getD j undef)
theorem XN (off:Nat): ∀(l:List Value) (i:Nat) (cells:Array Value),
  ((l.zipIdx i).foldl (fun cs (x:Value×Nat)=>cs.setIfInBounds (off+x.2) x.1) cells).size=cells.size /\
  ∀k,off+i+l.length<=cells.size->((l.zipIdx i).foldl (fun cs (x:Value×Nat)=>cs.setIfInBounds (off+x.2) x.1) cells).getD k undef=if off+i<=k/\k<off+i+l.length then l.getD (k-(off+i)) undef else cells.getD k undef
 | [],i,cells=>⟨Zb,fun k hk=>by simp;omega⟩
 | v::l,i,cells=>by
  obtain ⟨h1,h2⟩:=XN off l (i+1) (cells.setIfInBounds (off+i) v);refine ⟨by simpa using h1,fun k hk=> ?_⟩;simp only [List.zipIdx_cons,List.foldl_cons];rw [h2 k (by grind)]
  by_cases hk1:off+(i+1)<=k/\k<off+(i+1)+l.length
  ·grind
  ·rw [if_neg hk1]
   by_cases hk2:k=off+i
   ·subst hk2;rw [if_pos Zb];simp at hk
    have:off+i<cells.size:=Za
    simp_all
   ·rw [if_neg (by simp;omega)]
    simp_all [Ne.symm]
theorem Qp {F H ι w} (pl:Nat->Option (Nat×Nat)): ∀(ps:List (Nat×V)) (vs:List (Nat×Value)) (cs cs':List V) (a:Array Value),WD H pl cs ps=some cs' ->
  PR F H ι w ps vs->qH F H ι w cs a-> ∃a',Instr.fill pl a vs=some a'/\qH F H ι w cs' a'
 | [],_,cs,cs',a,h,hp,hr=>by
  cases hp
  simp [WD] at h;subst h;exact ⟨a,rfl,hr⟩
 | (i,v)::ps,_,cs,cs',a,h,hp,hr=>by
  cases hp with
  | cons _ _ u _ vs hv h2 =>
  simp only [WD] at h
  split at h
  rotate_left
  ·cases h
  rename_i off sz us hpl hus
  split at h
  rotate_left
  ·cases h
  rename_i hle;obtain ⟨c1,c2⟩:=V7 hus hv;obtain ⟨r1,r2⟩:=hr;have hf:=XN off u.cells.toList 0 a
  have e2:(u.cells.zipIdx.foldl (fun cs (x:Value×Nat)=>match x with | (c,j)=>cs.setIfInBounds (off+j) c) a)=(u.cells.toList.zipIdx.foldl (fun cs (x:Value×Nat)=>cs.setIfInBounds (off+x.2) x.1) a):=by
   rw [<- Array.foldl_toList];simp
  obtain ⟨a',g1,g2⟩:=Qp pl ps vs (Xs cs off us) cs' (u.cells.toList.zipIdx.foldl (fun cs (x:Value×Nat)=>cs.setIfInBounds (off+x.2) x.1) a) h h2 ⟨by rw [hf.1,r1,X3],fun j c hj=>by
   rw [hf.2 j (by simp;omega)];simp only [Nat.add_zero,Array.length_toList];rcases Vb cs off us j c Za hj with ⟨p1,p2⟩ | ⟨p1,p2⟩
   ·have hlt:=(List.getElem?_eq_some_iff.1 p2).1;rw [if_pos Za]
    grind [Array.getD_eq_getD_getElem?]
   grind⟩
  simp_all [Instr.fill]
theorem Ur {F H ι w fr a} (hf:Fr F H ι w fr a): ∀(ps:List (Nat×Operand)),PR F H ι w (ps.map fun x=>(x.1,ev fr x.2)) (ps.map fun x=>(x.1,a.eval x.2))
 | []=> .nil
 | x::ps=> .cons _ _ _ _ _ (hf.ev x.2) (Ur hf ps)
def U6 (P:Program) (H:List Obj) (t:TypeId) (ps:List (Nat×V)):Option V :=
 match ZC P t,Q3 P t with
 | some zs,some pl=>(WD H pl (zs.map .p) ps).map mkA
 | _,_=>none
theorem Cm {P:Program} {o:Oper} {fr:List V} {H:List Obj} (t:TypeId) (ps:Array (Nat×Operand)) (y:V) (h:o.op= .build t ps) (hz:U6 P H t (ps.toList.map fun x=>(x.1,ev fr x.2))=some y):PureOp P o fr H y:=fun F ι a w hr hf=>by
 unfold U6 at hz
 split at hz
 rotate_left
 ·cases hz
 rename_i zs pl hzs hpl;simp only [Option.map_eq_some_iff] at hz;obtain ⟨cs,hc,rfl⟩:=hz;unfold ZC at hzs;simp only [Option.bind_eq_some_iff] at hzs;obtain ⟨z,⟨i,hi,hz⟩,hzc⟩:=hzs;obtain ⟨c1,c2⟩:=KH (X:=Own F ι) (w:=w) _ _ hzc
 obtain ⟨a',e1,e2,e3⟩:=Qp (F:=F) (ι:=ι) (w:=w) pl _ _ _ cs z.cells hc (Ur hf ps.toList) ⟨by grind,fun j c hj=>by
  simp only [List.getElem?_map,Option.map_eq_some_iff] at hj;obtain ⟨y,hy,rfl⟩:=hj;have:=c2 j y hy;refine .p _ _ ?_
  simp_all⟩
 refine ⟨.agg a',?_,HB e2 e3⟩
 have hb:P.built t ((ps.map fun (i,x)=>(i,a.eval x)).toList)=some a':=by
  have el:(ps.map fun (i,x)=>(i,a.eval x)).toList=ps.toList.map fun x=>(x.1,a.eval x.2):=Zb
  rw [el];unfold Q3 at hpl;unfold Program.built
  split at hpl
  ·rename_i n e hu;simp only [Option.map_eq_some_iff] at hpl;obtain ⟨ie,hie,rfl⟩:=hpl;simp only [hi,hu,hz,hie];exact e1
  ·rename_i fs hu;simp only [Option.map_eq_some_iff] at hpl;obtain ⟨l,hl,rfl⟩:=hpl;simp only [hi,hu,hz,hl]
   have:(fun x=>l.toArray[x]?)=U0 l:=by grind [U0]
   grind
  ·cases hpl
 grind [execOp,Sem.run_bind,run_build,Result.andThen_ok,Sem.run_pure]
def kH : V->Option PV
 | .p x=>some x
 | .fn (.func f) [] []=>some (.fn f)
 | _=>none
theorem PK {F H ι w v x u} (h:kH v=some x) (hv:RV F H ι w v u):RV F H ι w (.p x) u:=by
 unfold kH at h
 split at h
 ·grind
 ·simp at h;subst h
  cases hv with
  | fn _ _ _ a e hs ht _ _ =>
   have ea:a= #[]:=Array.eq_empty_of_size_eq_zero Za;have ee:e= #[]:=Array.eq_empty_of_size_eq_zero Za;subst ea;subst ee;exact .p _ _ (.fn _)
 ·cases h
def Y1 (H:List Obj) (S:Nat):Nat->List (Nat×V)->Option (List PV)
 | _,[]=>some []
 | k,(i,v)::r=>if i=k then match kH v with
   | some x=>if x.cells.length=S/\x.cells.all (·.one)=true then (Y1 H S (k+1) r).map (x:: ·) else none
   | none=>none
  else none
theorem AB {H:List Obj} {S:Nat} : ∀(ps:List (Nat×V)) (k:Nat) (xs:List PV),Y1 H S k ps=some xs->xs.length=ps.length
 | [],k,xs,h=>by grind [Y1]
 | (i,v)::ps,k,xs,h=>by
  simp only [Y1] at h
  split at h
  rotate_left
  ·cases h
  split at h
  rotate_left
  ·cases h
  split at h
  rotate_left
  ·cases h
  simp only [Option.map_eq_some_iff] at h;obtain ⟨xs',h,rfl⟩:=h;simp [AB ps _ _ h]
theorem AC {F H ι w} {S n:Nat} : ∀(ps:List (Nat×V)) (vs:List (Nat×Value)) (k:Nat) (xs:List PV) (a:Array Value),Y1 H S k ps=some xs->PR F H ι w ps vs->a.size=n*S->k+ps.length<=n ->
  ∃a',Instr.fill (fun i=>some (i*S,S)) a vs=some a'/\a'.size=n*S/\xs.length=ps.length/\(∀(i:Nat) (x:PV),xs[i]? =some x->x.cells.length=S) /\
   (∀q,q<k*S->a'.getD q undef=a.getD q undef) /\
   ∀(i:Nat) (x:PV) (j:Nat) (c:PV),xs[i]? =some x->x.cells[j]? =some c->RP (Own F ι) w c (a'.getD ((k+i)*S+j) undef)
 | [],_,k,xs,a,h,hp,hs,hk=>by
  cases hp
  simp [Y1] at h;subst h;exact ⟨a,rfl,hs,rfl,Zb,fun _ _=>rfl,Zb⟩
 | (i,v)::ps,_,k,xs,a,h,hp,hs,hk=>by
  cases hp with
  | cons _ _ u _ vs hv h2 =>
  simp only [Y1] at h
  split at h
  rotate_left
  ·cases h
  rename_i hik;subst hik
  split at h
  rotate_left
  ·cases h
  rename_i x hpv;have hv:=PK hpv hv
  split at h
  rotate_left
  ·cases h
  rename_i hx;simp only [Option.map_eq_some_iff] at h;obtain ⟨xs',h,rfl⟩:=h;simp at hk;have hkS:(i+1)*S<=n*S:=Nat.mul_le_mul_right _ Za;rw [Nat.add_mul,Nat.one_mul] at hkS;obtain ⟨hx1,hx2⟩:=hx
  have hvc: ∃us,vc H (.p x)=some us/\us=x.cells.map .p:=by
   cases x with
   | agg cs=>exact ⟨cs.map .p,by simp_all [vc,PV.cells],rfl⟩
   | _=>exact ⟨_,by simp [vc,V.one,PV.one];rfl,by simp [PV.cells]⟩
  obtain ⟨us,hvc,hus⟩:=hvc;obtain ⟨c1,c2⟩:=V7 hvc hv
  have hulen:us.length=S:=by grind
  have hf:=XN (i*S) u.cells.toList 0 a
  have e2:(u.cells.zipIdx.foldl (fun cs (x:Value×Nat)=>match x with | (c,j)=>cs.setIfInBounds (i*S+j) c) a)=(u.cells.toList.zipIdx.foldl (fun cs (x:Value×Nat)=>cs.setIfInBounds (i*S+x.2) x.1) a):=by
   rw [<- Array.foldl_toList];simp
  have hg:=hf.2;simp only [Nat.add_zero,Array.length_toList] at hg;obtain ⟨a',g1,g2,g3,g4,g5,g6⟩:=AC (n:=n) ps vs (i+1) xs' (u.cells.toList.zipIdx.foldl (fun cs (x:Value×Nat)=>cs.setIfInBounds (i*S+x.2) x.1) a) h h2 Za Za;refine ⟨a',?_,g2,by simp [g3],?_,?_,?_⟩
  ·simp only [Instr.fill]
   grind
  ·grind
  ·grind
  ·intro m y j c hm hj
   cases m with
   | zero =>
    simp at hm;subst hm
    have hjS:j<S:=by grind
    have e3:=(c2 j (.p c) (by grind)).1
    cases e3 with | p _ _ e3 =>
    simp only [Nat.add_zero];rw [g5 _ (by grind),hg _ Za,if_pos Za]
    grind [Array.getD_eq_getD_getElem?]
   | succ m =>
    have:=g6 m y j c (by grind) hj;rwa [show i+1+m=i+(m+1) by omega] at this
def BB (P:Program) (H:List Obj) (t:TypeId) (n:Nat) (ps:List (Nat×V)):Option (V×List Obj) :=
 match Xy P t with
 | some (none,S)=>if n=ps.length/\n*S<=16777216/\0<S then (Y1 H S 0 ps).map fun xs=>(.sl H.length 0 n n,H++ [.elems S xs]) else none
 | _=>none
theorem AQ {P:Program} {o:Oper} {fr:List V} {H H':List Obj} (t:TypeId) (n:Nat) (ps:Array (Nat×Operand)) (y:V) (h:o.op= .buildSlice t n ps) (e:TypeId) (z:Value) (hu:P.underlying t=some (.slice e)) (hze:((P.info? e).bind (·.zero))=some z)
  (hz:BB P H t n (ps.toList.map fun x=>(x.1,ev fr x.2))=some (y,H')): ∃S xs,y= .sl H.length 0 n n/\H'=H++ [.elems S xs]/\xs.length=n/\Y1 H S 0 (ps.toList.map fun x=>(x.1,ev fr x.2))=some xs /\
  ∀F ι a w,Rel F H ι w->Fr F H ι w fr a-> ∃a' t',(execOp a.eval o).run P w= .ok (.value (.slice (some ⟨w.heap.size,0,none⟩) n n)) (w.alloc (.cells a' t'))/\Good F H ι w (H++ [.elems S xs]) (ι++ [some w.heap.size]) (w.alloc (.cells a' t')) /\
   RV F (H++ [.elems S xs]) (ι++ [some w.heap.size]) (w.alloc (.cells a' t')) (.sl H.length 0 n n) (.slice (some ⟨w.heap.size,0,none⟩) n n):=by
 unfold BB at hz
 split at hz
 rotate_left
 ·cases hz
 rename_i S ht;obtain ⟨e',hu',hs⟩:=Wm ht
 have:e'=e:=by grind
 subst this
 split at hz
 rotate_left
 ·cases hz
 rename_i hc;obtain ⟨hn,hn2,hS⟩:=hc;simp only [Option.map_eq_some_iff] at hz;obtain ⟨xs,hl,he⟩:=hz;simp at he;obtain ⟨rfl,rfl⟩:=he
 have hlen0:xs.length=n:=by grind [AB]
 refine ⟨S,xs,rfl,rfl,hlen0,hl,fun F ι a w hr hf=> ?_⟩;obtain ⟨a',g1,g2,g3,g4,g5,g6⟩:=AC (n:=n) _ _ 0 xs ((Array.range (n*S)).map (z.cells[· %z.cells.size]!)) hl (Ur hf ps.toList) Zb Za
 have hlen:xs.length=n:=by rw [g3,hn]
 have hnn:n<=16777216:=by have:=Nat.mul_le_mul_left n hS;omega
 have g:=Yr (H:=H) hr (Pushed.alloc w a' e') (.elems S xs) ⟨n,g2,Za,by unfold maxLen;omega,g4,fun i x j c hi hj=>by grind⟩;refine ⟨a',e',?_,g,?_⟩
 ·have el:(ps.map fun (i,x)=>(i,a.eval x)).toList=ps.toList.map fun x=>(x.1,a.eval x.2):=Zb
  simp only [Option.bind_eq_some_iff] at hze;obtain ⟨ie,hie,hzz⟩:=hze
  by_cases h0:n*S=0
  ·rw [h0] at g1
   have e0:(Array.range 0).map (z.cells[· %z.cells.size]!)= #[]:=Zb
   rw [e0] at g1
   have e9:Array.range 0= #[]:=by rfl
   simp [execOp,h,Instr.buildSlice,run_underlying hu,ZD hs,h0,e9,g1,newRow]
  ·have hgt: ¬(16777216<n*S):=Za
   simp [execOp,h,Instr.buildSlice,run_underlying hu,ZD hs,h0,hgt,zeroValue,typeInfo,hie,hzz,g1,newRow]
 ·have:=RV.sl (F:=F) (w:=w.alloc (.cells a' e')) (H:=H++ [.elems S xs]) (ι:=ι++ [some w.heap.size]) H.length 0 n n w.heap.size S n e' xs a' (by rw [<- hr.len];simp) Zb hlen (Pushed.new (Pushed.alloc w a' e')) (by grind) (Nat.le_refl _) Za (by unfold maxLen;omega)
  grind
theorem Lu {P:Program} {o:Oper} {fr:List V} {H H':List Obj} (t:TypeId) (n:Nat) (ps:Array (Nat×Operand)) (y:V) (h:o.op= .buildSlice t n ps) (e:TypeId) (z:Value) (hu:P.underlying t=some (.slice e)) (hze:((P.info? e).bind (·.zero))=some z)
  (hz:BB P H t n (ps.toList.map fun x=>(x.1,ev fr x.2))=some (y,H')):OpS P o fr H y H':=fun F ι a w hr hf=>by
 obtain ⟨S,xs,rfl,rfl,_,_,k⟩:=AQ t n ps y h e z hu hze hz
 grind
def YQ (P:Program) (e:TypeId):Option PV:=((P.info? e).bind (·.zero)).bind fun z=>match cv z with | .p x=>some x | _=>none
def CX (P:Program) (H:List Obj) (t:TypeId) (x y:V):Option (V×List Obj) :=
 match P.underlying t with
 | some (.slice e)=>match Xk P e,YQ P e,(P.info? e).map (·.bytes),x,y with
  | some S,some z,some by',.p (.int .i64 n),.p (.int .i64 m) =>
   if n=m/\0<=n/\(by':Int)*n<=281474976710656/\n<=281474976710656/\z.cells.length=S/\0<S then
    some (.sl H.length 0 n.toNat n.toNat,H++ [.elems S (List.replicate n.toNat z)]) else none
  | _,_,_,_,_=>none
 | _=>none
theorem VZ {X w P e z x} (hz:((P.info? e).bind (·.zero))=some z) (h:YQ P e=some x):RP X w x z:=by
 unfold YQ at h;rw [hz] at h;simp only [Option.bind_some] at h
 split at h
 ·rename_i y hy;simp at h;subst h;have:RV X [] [] w (cv z) z:=MR z;rw [hy] at this
  cases this with | p _ _ hh =>
  exact hh.ext fun b hb hs=>⟨fun h=>hb (.inl h),hs,rfl⟩
 ·cases h
theorem Ym {X w} {z:Value} {x:PV} (h:RP X w x z) (hz:x.cells.all (·.one)=true):z.cells.size=x.cells.length/\ ∀(j:Nat) (c:PV),x.cells[j]? =some c->RP X w c (z.cells.getD j undef):=by
 cases x with
 | agg cs =>
  obtain ⟨a,rfl,h1,h2⟩:=h.agg_inv
  grind [Value.cells,PV.cells]
 | _ =>
  have h1:=h.oneCell rfl;rw [cells_one h1];refine ⟨by simp [PV.cells],fun j c hj=> ?_⟩
  cases j with
  | zero=>simp [PV.cells] at hj;subst hj;simpa using h
  | succ j=>simp [PV.cells] at hj
theorem G8 {P:Program} {o:Oper} {fr:List V} {H H':List Obj} (t:TypeId) (x y:Operand) (v:V) (h:o.op= .makeSlice t x y) (hone: ∀e z,P.underlying t=some (.slice e)->YQ P e=some z->z.cells.all (·.one)=true)
  (hz:CX P H t (ev fr x) (ev fr y)=some (v,H')):OpS P o fr H v H':=fun F ι a w hr hf=>by
 have hx:=hf.ev x;have hy:=hf.ev y;generalize ev fr x=X at hx hz;generalize ev fr y=Y at hy hz;unfold CX at hz
 split at hz
 rotate_left
 ·cases hz
 rename_i e hu
 split at hz
 rotate_left
 ·cases hz
 rename_i S z by' n m hs hzv hb
 split at hz
 rotate_left
 ·cases hz
 rename_i hc;obtain ⟨rfl,hn,hby,hn2,hS,hS0⟩:=hc;simp at hz;obtain ⟨rfl,rfl⟩:=hz
 cases hx with | p _ _ hx=>cases hy with | p _ _ hy =>
 obtain ⟨n,rfl⟩:=Int.eq_ofNat_of_zero_le hn;have hone':=hone e z hu hzv
 obtain ⟨zz,hzz⟩: ∃zz,((P.info? e).bind (·.zero))=some zz:=by
  grind [YQ,Option.bind_eq_some_iff]
 have hrz:RP (Own F ι) w z zz:=VZ hzz hzv;obtain ⟨z1,z2⟩:=Ym hrz hone';simp only [Option.bind_eq_some_iff] at hzz;obtain ⟨ie,hie,hzz⟩:=hzz;simp [hie] at hb;simp only [Int.toNat_natCast]
 let arr:Array Value:=(Array.range (n*S)).map (zz.cells[· %zz.cells.size]!)
 have harr: ∀q,q<n*S->arr.getD q undef=zz.cells.getD (q%S) undef:=fun q hq=>by
  have:q%S<zz.cells.size:=by simp_all [Nat.mod_lt]
  simp [arr,Array.getD_eq_getD_getElem?,hq,z1,hS,getElem!_def]
  grind
 have g:=Yr (H:=H) hr (Pushed.alloc w arr e) (.elems S (List.replicate n z)) ⟨n,by simp [arr],Zb,by unfold maxLen;omega,(fun i q hi=>by
   grind),fun i q j c hi hj=>by
   rw [List.getElem?_replicate] at hi;split at hi
   ·rename_i hin;simp at hi;subst hi;have hj':=(List.getElem?_eq_some_iff.1 hj).1;have hle:(i+1)*S<=n*S:=Nat.mul_le_mul_right _ Za;rw [Nat.add_mul,Nat.one_mul] at hle
    grind [Nat.mul_comm,Nat.mul_add_mod,Nat.mod_eq_of_lt]
   ·cases hi⟩
 refine ⟨_,.slice (some ⟨w.heap.size,0,none⟩) n n,_,_,?_,.inl rfl,g,?_⟩
 ·have hw:IntKind.i64.wrap (n:Int)=n:=IntWalk.i64_in _ Za
  have h1: ¬((n:Int)<0):=Za
  have h2: ¬(281474976710656<((ie.bytes:Int)*(n:Int))):=by grind
  by_cases h0:n*S=0
  ·have e9:Array.range 0= #[]:=by rfl
   simp [execOp,h,hx.int_inv,hy.int_inv,Instr.makeSlice,asInt,asIntOf,run_underlying hu,typeInfo,hie,hw,h1,h2,ZD hs,h0,newRow,e9,arr]
  ·simp [execOp,h,hx.int_inv,hy.int_inv,Instr.makeSlice,asInt,asIntOf,run_underlying hu,typeInfo,hie,hw,h1,h2,ZD hs,h0,zeroValue,hzz,newRow,arr]
 ·have:=RV.sl (F:=F) (w:=w.alloc (.cells arr e)) (H:=H++ [.elems S (List.replicate n z)]) (ι:=ι++ [some w.heap.size]) H.length 0 n n w.heap.size S n e (List.replicate n z) arr (by rw [<- hr.len];simp) Zb Zb (Pushed.new (Pushed.alloc w arr e)) (by simp [arr]) (Nat.le_refl _) Za (by unfold maxLen;omega)
  grind
end Go.AM
namespace Go.AM
open Go.RowKit
def Pz (S:Nat) (x:PV):Bool:=(x.cells.length==S)&&x.cells.all (·.one)
def QK (S:Nat) (xs:List PV):Bool:=xs.all (Pz S)
def K7 (P:Program) (H:List Obj) (t:TypeId) (y:V):Option (List PV) :=
 match P.underlying t,y with
 | some (.slice _),.p (.list _ ys)=>some ys
 | some (.slice _),.sl o off len tot=>match Xv H o with
  | .elems _ xs=>if xs.length=tot/\off+len<=tot then some ((xs.take (off+len)).drop off) else none
  | _=>none
 | some .string,.p (.str s)=>some (s.map fun b=> .int .u8 b.toNat)
 | _,_=>none
structure Src (P:Program) (X:Nat->Prop) (w:World) (t:TypeId) (v:Value) (S:Nat) (ys:List PV) (news:List Value):Prop where
 len:news.length=ys.length*S
 ty:(P.underlying t=some .string)\/ ∃e,P.underlying t=some (.slice e)
 lenOf: ∀w',(Builtin.lenOf v).run P w'= .ok ys.length w'
 first: ∀w':World,w'.heap=w.heap->(Builtin.firstCells S ys.length v).run P w'= .ok news.toArray w'
 rel: ∀(i:Nat) (y:PV) (j:Nat) (c:PV),ys[i]? =some y->y.cells[j]? =some c->RP X w c (news.getD (i*S+j) undef)
theorem Ej {w w':World} (h:w'.heap=w.heap) (a:Addr):w'.cell? a=w.cell? a:=by simp [World.cell?,h]
theorem YX {P:Program} {w:World} {a:Addr} {n S len cap:Nat} {news:List Value} (hl:news.length=n*S) (hc: ∀(j:Nat) (u:Value),news[j]? =some u->w.cell? (a.add j)=some u) :
  ∀w':World,w'.heap=w.heap->(Builtin.firstCells S n (.slice (some a) len cap)).run P w'= .ok news.toArray w':=fun w' hw =>
 run_firstCells_some w' S n a len cap news hl (fun j u hj=>by grind [Ej])
theorem QS {w:World} {b off n S:Nat} {ys:List PV} {X:Nat->Prop} (u:Nat->Nat->Value) (hn:ys.length=n) (hS: ∀(i:Nat) (x:PV),ys[i]? =some x->x.cells.length=S)
  (hu: ∀(i:Nat) (x:PV) (j:Nat) (c:PV),ys[i]? =some x->x.cells[j]? =some c->w.cell? ⟨b,off+i*S+j,none⟩=some (u i j))
  (hr: ∀(i:Nat) (x:PV) (j:Nat) (c:PV),ys[i]? =some x->x.cells[j]? =some c->RP X w c (u i j)) (hS0:0<S) :
  ∃news:List Value,news.length=n*S/\(∀(j:Nat) (v:Value),news[j]? =some v->w.cell? ((⟨b,off,none⟩:Addr).add j)=some v) /\
   ∀(i:Nat) (y:PV) (j:Nat) (c:PV),ys[i]? =some y->y.cells[j]? =some c->RP X w c (news.getD (i*S+j) undef):=by
 refine ⟨(List.range (n*S)).map fun q=>u (q / S) (q%S),Zb,fun j v hj=> ?_,fun i y j c hi hj=> ?_⟩
 ·simp only [List.getElem?_map,Option.map_eq_some_iff] at hj;obtain ⟨q,hq,rfl⟩:=hj
  have hlt:j<n*S:=by grind
  have:q=j:=by grind
  subst this;have h1:q / S<n:=(Nat.div_lt_iff_lt_mul hS0).2 hlt;have h2:q%S<S:=Nat.mod_lt _ hS0
  have hy:ys[q / S]? =some (ys[q / S]'(Za)):=by simp [hn,h1]
  have hl:=hS _ _ hy;have:=hu (q / S) _ (q%S) _ hy (List.getElem?_eq_getElem Za)
  grind [Addr.add_lit,Nat.div_add_mod]
 ·have hlt:=(List.getElem?_eq_some_iff.1 hi).1;have hjl:=(List.getElem?_eq_some_iff.1 hj).1;have hl:=hS i y hi;have hle:(i+1)*S<=n*S:=Nat.mul_le_mul_right _ Za;rw [Nat.add_mul,Nat.one_mul] at hle
  have h1:(i*S+j) / S=i:=by grind [Nat.mul_comm,Nat.mul_add_div,Nat.div_eq_of_lt]
  grind [Nat.mul_comm,Nat.mul_add_mod,Nat.mod_eq_of_lt]
theorem W8 {S:Nat} {ys:List PV} (h:QK S ys=true) (i:Nat) (y:PV) (hi:ys[i]? =some y):y.cells.length=S/\ ∀c∈y.cells,c.one=true:=by
 have:=List.all_eq_true.1 h y (List.mem_iff_getElem?.2 ⟨i,hi⟩)
 grind [Pz]
theorem P5 {P:Program} {F H ι w t v S ys y} (h:K7 P H t y=some ys) (hok:QK S ys=true) (hS:0<S) (hr:Rel F H ι w) (hv:RV F H ι w y v): ∃news,Src P (Own F ι) w t v S ys news:=by
 unfold K7 at h
 split at h
 ·rename_i e cl ys' hu;simp at h;subst h
  cases hv with | p _ _ hv =>
  cases hv with
  | nils=>exact ⟨[],Zb,.inr ⟨_,hu⟩,fun w'=>rfl,fun w' _=>by rfl,Zb⟩
  | emp _ a cap hc hm ha=>exact ⟨[],Zb,.inr ⟨_,hu⟩,fun w'=>rfl,fun w' _=>by cases a<;>simp [Builtin.firstCells,loadCells,loadCellsFrom],Zb⟩
  | list _ _ b off cap S' u hX hb hc hm hcl hS' hu' hr' =>
   by_cases h0:ys'.length=0
   ·have:ys'= []:=List.eq_nil_of_length_eq_zero h0;subst this;exact ⟨[],Zb,.inr ⟨_,hu⟩,fun w'=>rfl,fun w' _=>by simp [Builtin.firstCells,loadCells,loadCellsFrom],Zb⟩
   ·have hlt:0<ys'.length:=Za
    have e0:=YW hlt;have:S'=S:=(hS' 0 _ e0).symm.trans (W8 hok 0 _ e0).1;subst this;obtain ⟨news,n1,n2,n3⟩:=QS u rfl hS' hu' hr' hS;exact ⟨news,n1,.inr ⟨_,hu⟩,fun w'=>rfl,YX n1 n2,n3⟩
 ·rename_i e o off len tot hu
  split at h
  rotate_left
  ·cases h
  rename_i S' xs ho;have hH:=Zx ho Zb
  split at h
  rotate_left
  ·cases h
  rename_i hc;simp at h;subst h
  have hlen:((xs.take (off+len)).drop off).length=len:=by simp;omega
  by_cases h0:len=0
  ·have e1:(xs.take (off+len)).drop off= []:=List.eq_nil_of_length_eq_zero Za;rw [e1];subst h0
   cases hv with
   | slNil _ _ a=>exact ⟨[],Zb,.inr ⟨_,hu⟩,fun w'=>rfl,fun w' _=>by cases a<;>simp [Builtin.firstCells,loadCells,loadCellsFrom],Zb⟩
   | sl=>exact ⟨[],Zb,.inr ⟨_,hu⟩,fun w'=>rfl,fun w' _=>by simp [Builtin.firstCells,loadCells,loadCellsFrom],Zb⟩
   | slD _ _ _ _ _ hd=>grind
   | slS _ _ _ _ _ S2 xs2 hd hne=>grind
   | slC _ _ _ _ _ _ hd=>grind
  ·obtain ⟨b,cap,c,t2,e1,e2,e3,e4,e5,e6,e7⟩:=hv.sl_inv hH hc.1 Za;rcases hr.elm o S' xs hH with ⟨_,rfl⟩ | ⟨b2,c2,t3,cap2,f1,f2,f3,f4,f5,f6,f7⟩
   ·grind
   ·have:b2=b:=by grind
    subst this;rw [e3] at f2;simp at f2;obtain ⟨rfl,rfl⟩:=f2
    have hlt:0<((xs.take (off+len)).drop off).length:=Za
    have hget: ∀(i:Nat) (x:PV),((xs.take (off+len)).drop off)[i]? =some x->xs[off+i]? =some x:=fun i x hi=>by
     grind
    have e0:=YW hlt;have:S'=S:=(f6 _ _ (hget 0 _ e0)).symm.trans (W8 hok 0 _ e0).1;subst this
    obtain ⟨news,n1,n2,n3⟩:=QS (w:=w) (b:=b2) (off:=off*S') (X:=Own F ι) (fun i j=>c.getD ((off+i)*S'+j) undef) hlen (fun i x hi=>f6 _ x (hget i x hi))
     (fun i x j q hi hj=>by
      have hx:=hget i x hi;have hl:=f6 _ x hx;have hlt2:=(List.getElem?_eq_some_iff.1 hx).1;have hjl:=(List.getElem?_eq_some_iff.1 hj).1;have hle:(off+i+1)*S'<=cap2*S':=Nat.mul_le_mul_right _ Za;rw [Nat.add_mul (off+i),Nat.one_mul] at hle
      have hsz:(off+i)*S'+j<c.size:=Za
      simp_all [Nat.add_mul,World.cell?]) (fun i x j q hi hj=>f7 _ x j q (hget i x hi) hj) hS
    exact ⟨news,by rw [n1,hlen],.inr ⟨_,hu⟩,fun w'=>by rw [e2,hlen];rfl,by rw [e2,hlen];exact YX n1 n2,n3⟩
 ·rename_i s hu;simp at h;subst h
  cases hv with | p _ _ hv =>
  rw [hv.str_inv]
  have hS1:s≠ []->S=1:=fun hs=>by
   cases s with
   | nil=>grind
   | cons c r =>
    have:=(W8 hok 0 (.int .u8 (c.toNat:Int)) Zb).1
    grind [PV.cells]
  have hsz:(⟨s.toArray⟩:ByteArray).size=s.length:=by rfl
  refine ⟨s.map fun b=> .int .u8 b.toNat,?_,.inl hu,fun w'=> ?_,fun w' _=> ?_,fun i y j c hi hj=> ?_⟩
  ·by_cases h0:s= []
   ·grind
   grind
  ·simp [Builtin.lenOf,hsz]
  ·simp_all [Builtin.firstCells]
  ·simp only [List.getElem?_map,Option.map_eq_some_iff] at hi;obtain ⟨b,hb,rfl⟩:=hi
   have hne:s≠ []:=by grind
   cases j with
   | zero =>
    simp [PV.cells] at hj;subst hj;have hlt:=(List.getElem?_eq_some_iff.1 hb).1;have e:=(List.getElem?_eq_some_iff.1 hb).2;rw [hS1 hne];simp [List.getD,hlt,e];exact .int _ _
   | succ j=>simp [PV.cells] at hj
 ·cases h
section
variable {P : Program} {w : World} {X : Nat -> Prop} {t t2 ty e : TypeId} {S : Nat} {ys : List PV} {news : List Value} {sv : Value}
theorem Vj (ht:P.underlying t=some (.slice e)) (hs:Xk P e=some S) (hsrc:Src P X w t2 sv S ys news) {b n cap:Nat} {c:Array Value} {u:TypeId}
  (hg:w.heap[b]? =some (.cells c u (0,0))) (hroom:n+ys.length<=cap) (hfit:n*S+news.length<=c.size) (h1: ∀v∈news,v.oneCell'=true) :
  (Builtin.append_ #[t,t2] ty #[.slice (some ⟨b,0,none⟩) n cap,sv]).run P w= .ok (.slice (some ⟨b,0,none⟩) (n+ys.length) cap) (w.setRow b (c.toList.take (n*S)++news++c.toList.drop (n*S+news.length)).toArray):=by
 have hst:=run_storeCells_at P b (n*S) u news 0 c w hg Za h1;simp only [Nat.add_zero] at hst
 rcases hsrc.ty with hu2 | ⟨e2,hu2⟩ <;>
  simp [Builtin.append_,run_underlying ht,run_underlying hu2,ZD hs,hsrc.lenOf,hroom,hsrc.first w rfl,Addr.add_lit,hst]
theorem XQ (ht:P.underlying t=some (.slice e)) (hs:Xk P e=some S) (hsrc:Src P X w t2 sv S ys news) {i:TypeInfo} {z:Value} (hi:P.info? e=some i) (hz:i.zero=some z) {a:Option Addr} {n cap:Nat} {olds:List Value}
  (hol:olds.length=n*S) (hold: ∀w':World,w'.heap=w.heap->(Builtin.firstCells S n (.slice a n cap)).run P w'= .ok olds.toArray w') (hg:cap<n+ys.length) (h63:n+ys.length<=9223372036854775807) (hb0:(i.bytes:Int)≠0)
  (hbytes:(n+ys.length)*i.bytes<=140737488355328) :
  (Builtin.append_ #[t,t2] ty #[.slice a n cap,sv]).run P w= .ok (.slice (some ⟨w.heap.size,0,none⟩) (n+ys.length) (grownCap w (n+ys.length) cap e))
   (w.drew.alloc (.cells (olds.toArray++news.toArray++Builtin.zeroCells z.cells (grownCap w (n+ys.length) cap e-(n+ys.length))) e)):=by
 have hn: ¬(n+ys.length<=cap):=Za
 have h63': ¬(9223372036854775807<((n:Int)+(ys.length:Int))):=Za
 have hfit:=growslice_fits hg hbytes
 have h48': ¬(281474976710656<Builtin.nextslicecap (n+ys.length) cap*i.bytes):=Za
 have e1:=hold w.drew rfl;have e2:=hsrc.first w.drew rfl
 rcases hsrc.ty with hu2 | ⟨e3,hu2⟩ <;>
  (simp [Builtin.append_,run_underlying ht,run_underlying hu2,ZD hs,hsrc.lenOf,hn,h63',h48',typeInfo,zeroValue,hi,hz,Question.forced,e1,e2,newRow,grownCap]
   try (congr 2;apply Array.ext';simp [List.append_assoc]))
end
end Go.AM
namespace Go.AM
open Go.RowKit
def Yt (P:Program) (H:List Obj) (t t2:TypeId) (x y:V):Option (V×List Obj) :=
 match P.underlying t with
 | some (.slice e)=>match Xk P e,YQ P e,(P.info? e).map (·.bytes),K7 P H t2 y with
  | some S,some z,some by',some ys =>
   if 0<S/\z.cells.length=S/\z.cells.all (·.one)=true/\by'≠0/\QK S ys=true then
    match x with
    | .p (.list cl xs)=>if cl=true/\QK S xs=true/\(xs= []\/0<ys.length)/\(xs.length+ys.length)*by'<=140737488355328/\xs.length+ys.length<=140737488355328 then
      some (.sl H.length 0 (xs.length+ys.length) (xs.length+ys.length),H++ [.elems S (xs++ys)]) else none
    | .sl o off len tot=>match Xv H o with
     | .elems S' xs=>if S'=S/\off=0/\len=tot/\xs.length=tot/\(tot+ys.length)*by'<=140737488355328/\tot+ys.length<=140737488355328 then
       some (.sl o 0 (tot+ys.length) (tot+ys.length),Q9 H o (.elems S (xs++ys))) else none
     | _=>none
    | _=>none
   else none
  | _,_,_,_=>none
 | _=>none
theorem Yq (o n z:List Value) (k:Nat):((o++n++z).toArray).getD k undef=if k<o.length then o.getD k undef else if k<o.length+n.length then n.getD (k-o.length) undef else z.getD (k-o.length-n.length) undef:=by
 simp only [Array.getD_eq_getD_getElem?,List.getElem?_toArray,List.getD_eq_getElem?_getD]
 grind
theorem GV {S:Nat} {ys:List PV} {news:List Value} {X w} (hok:QK S ys=true) (hl:news.length=ys.length*S) (hS:0<S)
  (hr: ∀(i:Nat) (y:PV) (j:Nat) (c:PV),ys[i]? =some y->y.cells[j]? =some c->RP X w c (news.getD (i*S+j) undef)): ∀v∈news,v.oneCell'=true:=fun v hv=>by
 obtain ⟨q,hq⟩:=List.mem_iff_getElem?.1 hv;have hlt:=(List.getElem?_eq_some_iff.1 hq).1;have h1:q / S<ys.length:=(Nat.div_lt_iff_lt_mul hS).2 Za;have h2:q%S<S:=Nat.mod_lt _ hS
 have hy:ys[q / S]? =some ys[q / S]:=by simp [h1]
 obtain ⟨o1,o2⟩:=W8 hok _ _ hy
 have hc:(ys[q / S]).cells[q%S]? =some ((ys[q / S]).cells[q%S]'(Za)):=by simp [o1,h2]
 have:=hr _ _ _ _ hy hc
 have e:q / S*S+q%S=q:=by grind [Nat.div_add_mod]
 rw [e] at this
 have e2:news.getD q undef=v:=by grind
 rw [e2] at this;exact this.oneCell (o2 _ (List.getElem_mem _))
theorem W1 {S n:Nat} {xs ys:List PV} {c:Array Value} {olds news:List Value} {X w} (hn:xs.length=n) (hol:olds.length=n*S) (hnl:news.length=ys.length*S) (hSx: ∀(i:Nat) (x:PV),xs[i]? =some x->x.cells.length=S) (hSy: ∀(i:Nat) (x:PV),ys[i]? =some x->x.cells.length=S)
  (ho: ∀(i:Nat) (y:PV) (j:Nat) (q:PV),xs[i]? =some y->y.cells[j]? =some q->RP X w q (olds.getD (i*S+j) undef))
  (hw: ∀(i:Nat) (y:PV) (j:Nat) (q:PV),ys[i]? =some y->y.cells[j]? =some q->RP X w q (news.getD (i*S+j) undef))
  (hc1: ∀k,k<n*S->c.getD k undef=olds.getD k undef) (hc2: ∀k,k<ys.length*S->c.getD (n*S+k) undef=news.getD k undef) :
  ∀(i:Nat) (x:PV) (j:Nat) (y:PV),(xs++ys)[i]? =some x->x.cells[j]? =some y->RP X w y (c.getD (i*S+j) undef):=fun i x j y hi hj=>by
 have hjl:=(List.getElem?_eq_some_iff.1 hj).1
 by_cases hlt:i<n
 ·rw [List.getElem?_append_left Za] at hi;have hl:=hSx i x hi;have hle:(i+1)*S<=n*S:=Nat.mul_le_mul_right _ Za
  grind
 ·rw [List.getElem?_append_right Za,hn] at hi;have hl:=hSy _ x hi;have hil:=(List.getElem?_eq_some_iff.1 hi).1;have hle:(i-n+1)*S<=ys.length*S:=Nat.mul_le_mul_right _ Za;rw [Nat.add_mul,Nat.one_mul] at hle
  have e:i*S+j=n*S+((i-n)*S+j):=by
   have:i*S=(n+(i-n))*S:=by grind
   grind
  rw [e,hc2 _ Za]
  grind
theorem Dz {P:Program} {o:Oper} {fr:List V} {H H':List Obj} (t t2:TypeId) (x y:Operand) (v:V) (h:o.op= .call { callee:= .builtin .append,args:= #[x,y],argTypes:= #[t,t2] })
  (hz:Yt P H t t2 (ev fr x) (ev fr y)=some (v,H')):OpS P o fr H v H':=fun F ι a w hr hf=>by
 have hx:=hf.ev x;have hy:=hf.ev y
 suffices hh: ∃u ι' w',(Builtin.append_ #[t,t2] o.type #[a.eval x,a.eval y]).run P w= .ok u w'/\Good F H ι w H' ι' w'/\RV F H' ι' w' v u by
  obtain ⟨u,ι',w',e,g,r⟩:=hh;exact ⟨_,u,ι',w',by simp [execOp,h,resolve,invoke,builtin,e],.inl rfl,g,r⟩
 generalize ev fr x=X at hx hz;generalize ev fr y=Y at hy hz;unfold Yt at hz
 split at hz
 rotate_left
 ·cases hz
 rename_i e hu
 split at hz
 rotate_left
 ·cases hz
 rename_i S z by' ys hs hzv hb hsrc
 split at hz
 rotate_left
 ·cases hz
 rename_i hc;obtain ⟨hS,hzl,hz1,hb0,hok⟩:=hc;obtain ⟨news,src⟩:=P5 hsrc hok hS hr hy;have hone:=GV hok src.len hS src.rel
 obtain ⟨zz,hzz⟩: ∃zz,((P.info? e).bind (·.zero))=some zz:=by
  grind [YQ,Option.bind_eq_some_iff]
 have hrz:RP (Own F ι) w z zz:=VZ hzz hzv;obtain ⟨z1,z2⟩:=Ym hrz hz1;simp only [Option.bind_eq_some_iff] at hzz;obtain ⟨ie,hie,hzz⟩:=hzz;simp [hie] at hb
 have hbn:(ie.bytes:Int)≠0:=Za
 have hSy: ∀(i:Nat) (x:PV),ys[i]? =some x->x.cells.length=S:=fun i x hi=>(W8 hok i x hi).1
 split at hz
 ·rename_i cl xs
  split at hz
  rotate_left
  ·cases hz
  rename_i hc;obtain ⟨rfl,hokx,hne,hby,h63⟩:=hc;simp at hz;obtain ⟨rfl,rfl⟩:=hz
  have hby':(xs.length+ys.length)*ie.bytes<=140737488355328:=by grind
  cases hx with | p _ _ hx =>
  have hSx: ∀(i:Nat) (x:PV),xs[i]? =some x->x.cells.length=S:=fun i x hi=>(W8 hokx i x hi).1
  -- the value that came in: its elements, read azs a row
  obtain ⟨ad,ev',olds,o1,o2,o3⟩: ∃ad,a.eval x= .slice ad xs.length xs.length/\ ∃olds:List Value,olds.length=xs.length*S/\(∀w':World,w'.heap=w.heap->(Builtin.firstCells S xs.length (.slice ad xs.length xs.length)).run P w'= .ok olds.toArray w') /\
    ∀(i:Nat) (y:PV) (j:Nat) (q:PV),xs[i]? =some y->y.cells[j]? =some q->RP (Own F ι) w q (olds.getD (i*S+j) undef):=by
   generalize a.eval x=vv at hx
   cases hx with
   | nils=>exact ⟨none,rfl,[],Zb,fun w' _=>by rfl,Zb⟩
   | emp _ ad cap hc hm ha=>exact ⟨ad,by simp [hc rfl],[],Zb,fun w' _=>by cases ad<;>simp [Builtin.firstCells,loadCells,loadCellsFrom],Zb⟩
   | list _ _ b off cap S' u hX hb' hc hm hcl hS' hu' hr' =>
    refine ⟨some ⟨b,off,none⟩,by rw [hcl rfl],?_⟩
    by_cases h0:xs.length=0
    ·have:xs= []:=List.eq_nil_of_length_eq_zero h0
     simp_all [Builtin.firstCells,loadCells,loadCellsFrom]
    ·have e0:=YW (xs:=xs) (i:=0) Za;have:S'=S:=(hS' 0 _ e0).symm.trans (hSx 0 _ e0);subst this;obtain ⟨olds,n1,n2,n3⟩:=QS u rfl hS' hu' hr' hS
     grind [YX]
  rw [ev']
  by_cases hm:ys.length=0
  ·have hx0:xs= []:=hne.resolve_right Za;subst hx0;have hy0:ys= []:=List.eq_nil_of_length_eq_zero hm;subst hy0;have hn0:news= []:=List.eq_nil_of_length_eq_zero (by have:=src.len;grind);subst hn0;refine ⟨.slice ad 0 0,ι++ [none],w,?_,Wf hr S,.slNil _ S ad (by rw [<- hr.len];simp) Zb⟩;have e1:=src.first w rfl;simp at e1;have e3:=src.lenOf w;simp only [List.length_nil] at e3
   rcases src.ty with hu2 | ⟨e2,hu2⟩<;>cases ad <;>
    simp [Builtin.append_,run_underlying hu,run_underlying hu2,ZD hs,e3,e1,storeCells]
  ·have hrun:=XQ (ty:=o.type) hu hs src hie hzz o1 o2 Za Za hbn hby';have hcap:=grownCap_ge w (xs.length+ys.length) xs.length e;have hcm:=grownCap_le_maxLen w (xs.length+ys.length) xs.length e (by unfold maxLen;omega);refine ⟨_,ι++ [some w.heap.size],_,hrun,Yr hr (Pushed.drewAlloc w _ e) (.elems S (xs++ys)) ⟨grownCap w (xs.length+ys.length) xs.length e,?_,by simp;omega,hcm,?_,?_⟩,?_⟩
   ·simp only [Array.size_append,List.size_toArray,size_zeroCells,o1,src.len,z1,hzl,<- Nat.add_mul]
    grind
   ·grind
   ·have eqc:olds.toArray++news.toArray++Builtin.zeroCells zz.cells (grownCap w (xs.length+ys.length) xs.length e-(xs.length+ys.length))=(olds++news++(Builtin.zeroCells zz.cells (grownCap w (xs.length+ys.length) xs.length e-(xs.length+ys.length))).toList).toArray:=Zb
    rw [eqc];exact W1 rfl o1 src.len hSx hSy o3 src.rel (fun k hk=>by rw [Yq,if_pos Za]) (fun k hk=>by rw [Yq,if_neg Za,if_pos (by have:=src.len;omega)];grind)
   ·have:=RV.sl (F:=F) (H:=H++ [.elems S (xs++ys)]) (ι:=ι++ [some w.heap.size]) (w:=w.drew.alloc (.cells (olds.toArray++news.toArray++Builtin.zeroCells zz.cells (grownCap w (xs.length+ys.length) xs.length e-(xs.length+ys.length))) e)) H.length 0 (xs.length+ys.length) (xs.length+ys.length) w.heap.size S (grownCap w (xs.length+ys.length) xs.length e) e (xs++ys) _ (by rw [<- hr.len];simp) Zb Zb (Pushed.new (Pushed.drewAlloc w _ e))
     (by simp only [Array.size_append,List.size_toArray,size_zeroCells,o1,src.len,z1,hzl,<- Nat.add_mul];grind) hcap Za Za
    grind
 ·rename_i o' off len tot
  split at hz
  rotate_left
  ·cases hz
  rename_i S' xs ho;have hH:=Zx ho Zb
  split at hz
  rotate_left
  ·cases hz
  rename_i hc;obtain ⟨rfl,rfl,rfl,rfl,hby,h63⟩:=hc;simp at hz;obtain ⟨rfl,rfl⟩:=hz
  have hby':(xs.length+ys.length)*ie.bytes<=140737488355328:=by grind
  rw [QN];rcases hr.elm o' S' xs hH with ⟨hi0,rfl⟩ | ⟨b,c,u,cap,h1,h2,h3,h4,h5,h6,h7⟩
  ·-- no block yet
   obtain ⟨ad,ev'⟩: ∃ad:Option Addr,a.eval x= .slice ad 0 0:=by
    generalize a.eval x=vv at hx;generalize hL:([]:List PV).length=L at hx
    cases hx with
    | slNil _ _ ad=>simp
    | sl _ _ _ _ b _ _ _ _ _ hb2=>grind
    | slD _ _ _ _ _ hd=>grind
    | slS _ _ _ _ _ S2 xs2 hd hne=>grind
    | slC _ _ _ _ _ _ hd=>grind
   rw [ev']
   by_cases hm:ys.length=0
   ·have hy0:ys= []:=List.eq_nil_of_length_eq_zero hm;subst hy0;have hn0:news= []:=List.eq_nil_of_length_eq_zero (by have:=src.len;grind);subst hn0;have e1:=src.first w rfl;simp at e1;have eH:H.set o' (.elems S' ([]++ []))=H:=V5 (by grind);refine ⟨.slice ad 0 0,ι,w,?_,by grind [Good.refl],by grind⟩;have e3:=src.lenOf w;simp only [List.length_nil] at e3
    rcases src.ty with hu2 | ⟨e2,hu2⟩<;>cases ad <;>
     simp [Builtin.append_,run_underlying hu,run_underlying hu2,ZD hs,e3,e1,storeCells]
   ·simp only [List.length_nil,Nat.zero_add,List.nil_append] at hby' h63 ⊢;have hrun:=XQ (ty:=o.type) hu hs src hie hzz (a:=ad) (n:=0) (cap:=0) (olds:= []) Zb (fun w' _=>by cases ad<;>simp [Builtin.firstCells,loadCells,loadCellsFrom]) Za Za hbn (by grind);simp only [Nat.zero_add] at hrun;have hcap:=grownCap_ge w ys.length 0 e;have hcm:=grownCap_le_maxLen w ys.length 0 e (by unfold maxLen;omega);have hp:=Pushed.drewAlloc w (([]:List Value).toArray++news.toArray++Builtin.zeroCells zz.cells (grownCap w ys.length 0 e-ys.length)) e
    have hsize:(([]:List Value).toArray++news.toArray++Builtin.zeroCells zz.cells (grownCap w ys.length 0 e-ys.length)).size=grownCap w ys.length 0 e*S':=by
     simp only [Array.size_append,List.size_toArray,size_zeroCells,src.len,z1,hzl,List.length_nil,Nat.zero_add,<- Nat.add_mul]
     grind
    have g:=Xc (xs':=ys) hr hH hp.os hp.tape hp.output (fun c0 t0 hc0=>absurd (Array.getElem?_eq_some_iff.1 hc0).1 (Nat.lt_irrefl _)) Zb hp.new (fun k hk _=>hp.old hk) (.inr ⟨rfl,hp.size,by simp;omega⟩) hsize hcap hcm hSy
     (by
      have eqc:([]:List Value).toArray++news.toArray++Builtin.zeroCells zz.cells (grownCap w ys.length 0 e-ys.length)=([]++news++(Builtin.zeroCells zz.cells (grownCap w ys.length 0 e-ys.length)).toList).toArray:=Zb
      rw [eqc];have:=W1 (X:=Own F ι) (w:=w) (c:=([]++news++(Builtin.zeroCells zz.cells (grownCap w ys.length 0 e-ys.length)).toList).toArray) (xs:= []) (olds:= []) (n:=0) rfl Zb src.len Zb hSy Zb src.rel (fun k hk=>Za) (fun k hk=>by rw [Yq,if_neg Zb,if_pos (by have:=src.len;simp;omega)];simp)
      grind)
    refine ⟨_,_,_,hrun,g,?_⟩
    have:=RV.sl (F:=F) (H:=H.set o' (.elems S' ys)) (ι:=ι.set o' (some w.heap.size)) (w:=w.drew.alloc (.cells (([]:List Value).toArray++news.toArray++Builtin.zeroCells zz.cells (grownCap w ys.length 0 e-ys.length)) e)) o' 0 ys.length ys.length w.heap.size S' (grownCap w ys.length 0 e) e ys _
     (by grind) (by grind) rfl hp.new (by grind) hcap Za Za
    grind
  ·obtain ⟨cap',ev',hcs,hle⟩: ∃cap',a.eval x= .slice (some ⟨b,0,none⟩) xs.length cap'/\c.size=cap'*S'/\xs.length<=cap'/\cap'<=maxLen:=by
    generalize a.eval x=vv at hx;generalize hL:xs.length=L at hx
    cases hx with
    | slNil _ _ _ hi2=>grind
    | sl _ _ _ _ b2 S2 cap2 t3 xs2 c2 hb2 hH2 ht2 hw2 hcap2 hl2 hlen2 hm2 =>
     simp_all
    | slD _ _ _ _ _ hd=>grind
    | slS _ _ _ _ _ S2 xs2 hd hne=>grind
    | slC _ _ _ _ _ _ hd=>grind
   have hcc:cap'=cap:=Nat.eq_of_mul_eq_mul_right hS Za;subst hcc;rw [ev'];have hSx: ∀(i:Nat) (x:PV),xs[i]? =some x->x.cells.length=S':=h6
   have hnS:xs.length*S'<=c.size:=by simp_all [Nat.mul_le_mul_right]
   by_cases hroom:xs.length+ys.length<=cap'
   ·have hfit:xs.length*S'+news.length<=c.size:=by rw [src.len,h3,<- Nat.add_mul];exact Nat.mul_le_mul_right _ hroom
    have hrun:=Vj (ty:=o.type) hu hs src h2 hroom hfit hone;have hT:Turned w (w.setRow b (c.toList.take (xs.length*S')++news++c.toList.drop (xs.length*S'+news.length)).toArray) b _ u:=Turned.setRow h2
    have hsize:((c.toList.take (xs.length*S')++news++c.toList.drop (xs.length*S'+news.length)).toArray).size=c.size:=by simp;omega
    have g:=Xc (xs':=xs++ys) (cap:=cap') hr hH hT.os hT.tape hT.output (fun c0 t0 hc0=>by grind) Zb hT.at' (fun k _ hk=>hT.other k hk)
     (.inl ⟨h1,by
      grind⟩)
     Za (by grind) h5
     (fun i q hi=>by
      grind)
     (by
      refine W1 (olds:=c.toList.take (xs.length*S')) rfl (by simp;omega) src.len hSx hSy (fun i q j r hi hj=> ?_) src.rel (fun k hk=> ?_) (fun k hk=> ?_)
      ·have hl:=hSx i q hi;have hlt:=(List.getElem?_eq_some_iff.1 hi).1;have hjl:=(List.getElem?_eq_some_iff.1 hj).1;have hle2:(i+1)*S'<=xs.length*S':=Nat.mul_le_mul_right _ Za;rw [Nat.add_mul,Nat.one_mul] at hle2
       grind [Array.getD_eq_getD_getElem?]
      ·rw [YI _ _ _ _ Za,if_neg Za]
       grind
      ·rw [YI _ _ _ _ Za,if_pos (by have:=src.len;omega)]
       simp)
    have eι:ι.set o' (some b)=ι:=V5 h1;rw [eι] at g;refine ⟨_,ι,_,hrun,g,?_⟩
    have:=RV.sl (F:=F) (H:=H.set o' (.elems S' (xs++ys))) (ι:=ι) (w:=w.setRow b (c.toList.take (xs.length*S')++news++c.toList.drop (xs.length*S'+news.length)).toArray) o' 0 (xs.length+ys.length) (xs.length+ys.length) b S' cap' u (xs++ys) _
     h1 (by grind) Zb hT.at' (by grind) hroom Za Za
    grind
   ·have hold: ∀w':World,w'.heap=w.heap->(Builtin.firstCells S' xs.length (.slice (some ⟨b,0,none⟩) xs.length cap')).run P w'= .ok (c.toList.take (xs.length*S')).toArray w':=fun w' hw' =>
     YX (news:=c.toList.take (xs.length*S')) (n:=xs.length) (S:=S') (w:=w) (by simp;omega) (fun j q hj=>by
      grind [Addr.add_lit,World.cell?]) w' hw'
    have hrun:=XQ (ty:=o.type) hu hs src hie hzz (a:=some ⟨b,0,none⟩) (n:=xs.length) (cap:=cap') (olds:=c.toList.take (xs.length*S')) (by simp;omega) hold Za Za hbn hby';have hcap:=grownCap_ge w (xs.length+ys.length) cap' e;have hcm:=grownCap_le_maxLen w (xs.length+ys.length) cap' e (by unfold maxLen;omega);have hp:=Pushed.drewAlloc w ((c.toList.take (xs.length*S')).toArray++news.toArray++Builtin.zeroCells zz.cells (grownCap w (xs.length+ys.length) cap' e-(xs.length+ys.length))) e
    have hol:(c.toList.take (xs.length*S')).length=xs.length*S':=by simp;omega
    have hsize:((c.toList.take (xs.length*S')).toArray++news.toArray++Builtin.zeroCells zz.cells (grownCap w (xs.length+ys.length) cap' e-(xs.length+ys.length))).size=grownCap w (xs.length+ys.length) cap' e*S':=by
     simp only [Array.size_append,List.size_toArray,size_zeroCells,src.len,z1,hzl,hol,<- Nat.add_mul]
     grind
    have g:=Xc (xs':=xs++ys) hr hH hp.os hp.tape hp.output (fun c0 t0 hc0=>absurd (Array.getElem?_eq_some_iff.1 hc0).1 (Nat.lt_irrefl _)) Zb hp.new (fun k hk _=>hp.old hk) (.inr ⟨rfl,hp.size,by simp;omega⟩) hsize (by simp;omega) hcm
     (fun i q hi=>by
      grind)
     (by
      have eqc:(c.toList.take (xs.length*S')).toArray++news.toArray++Builtin.zeroCells zz.cells (grownCap w (xs.length+ys.length) cap' e-(xs.length+ys.length))=(c.toList.take (xs.length*S')++news++(Builtin.zeroCells zz.cells (grownCap w (xs.length+ys.length) cap' e-(xs.length+ys.length))).toList).toArray:=Zb
      rw [eqc];refine W1 rfl hol src.len hSx hSy (fun i q j r hi hj=> ?_) src.rel (fun k hk=>by rw [Yq,if_pos Za]) (fun k hk=>by rw [Yq,if_neg Za,if_pos (by have:=src.len;omega)];grind);have hl:=hSx i q hi;have hlt:=(List.getElem?_eq_some_iff.1 hi).1;have hjl:=(List.getElem?_eq_some_iff.1 hj).1;have hle2:(i+1)*S'<=xs.length*S':=Nat.mul_le_mul_right _ Za;rw [Nat.add_mul,Nat.one_mul] at hle2
      grind [Array.getD_eq_getD_getElem?])
    refine ⟨_,_,_,hrun,g,?_⟩
    have:=RV.sl (F:=F) (H:=H.set o' (.elems S' (xs++ys))) (ι:=ι.set o' (some w.heap.size)) (w:=w.drew.alloc (.cells ((c.toList.take (xs.length*S')).toArray++news.toArray++Builtin.zeroCells zz.cells (grownCap w (xs.length+ys.length) cap' e-(xs.length+ys.length))) e)) o' 0 (xs.length+ys.length) (xs.length+ys.length) w.heap.size S' (grownCap w (xs.length+ys.length) cap' e) e (xs++ys) _
     (by grind) (by grind) Zb hp.new (by grind) hcap Za Za
    grind
 ·cases hz
def Y7 (P:Program):Nat->TypeId->PV->Bool
 | 0,_,_=>false
 | d+1,t,k=>match P.underlying t,k with
  | some (.int _),.int _ _=>true
  | some (.struct fs), .agg cs => fs.toList.all fun f => f.name == "_" || (match apart P f.type cs f.offset with | some x => Y7 P d f.type x | none => false)
  | some (.array n e),.agg cs=>match Xk P e with
   | some m=>(List.range n).all fun i=>match apart P e cs (i*m) with | some x=>Y7 P d e x | none=>false
   | none=>false
  | _,_=>false
theorem QT {P:Program} : ∀(d:Nat) (t:TypeId) (k:PV),Y7 P d t k=true-> ∀D,d<=D-> ∀X w v (em:Bool),RP X w k v->(Instr.checkKey em D t v).run P w= .ok () w
 | 0,_,_,h,_,_=>by simp [Y7] at h
 | d+1,t,k,h,D,hD=>by
  obtain ⟨D,rfl⟩: ∃e,D=e+1:=⟨D-1,Za⟩;intro X w v em hv;have ih: ∀t k,Y7 P d t k=true-> ∀X w v (em:Bool),RP X w k v->(Instr.checkKey em D t v).run P w= .ok () w:=fun t k h=>QT d t k h D Za;unfold Y7 at h
  split at h
  ·simp_all [Instr.checkKey,run_underlying]
  ·rename_i fs cs hu
   cases hv with | agg _ u hs hr =>
   rw [Instr.checkKey];simp only [Sem.run_bind,run_underlying hu,Result.andThen_ok];rw [<- Array.forIn_toList];rw [List.all_eq_true] at h;generalize fs.toList=L at h
   induction L with
   | nil=>simp
   | cons f L ihL =>
    have hf:=h f Zb;have hL:=ihL fun g hg=>h g (by simp [hg])
    by_cases hn : f.name = "_"
    ·grind
    ·have hf:(match apart P f.type cs f.offset with | some x=>Y7 P d f.type x | none=>false)=true:=by grind
     split at hf
     ·rename_i x hx;obtain ⟨a,e1,r1⟩:=XJ hx hs hr;have e2:=ih f.type x hf X w a em r1
      simp_all
     ·cases hf
  ·rename_i n e cs hu
   split at h
   ·rename_i m hm
    cases hv with | agg _ u hs hr =>
    rw [Instr.checkKey];simp only [Sem.run_bind,run_underlying hu,Result.andThen_ok];simp only [Std.Legacy.Range.forIn_eq_forIn_range',Std.Legacy.Range.size,Nat.sub_zero,Nat.add_one_sub_one,Nat.div_one];rw [List.all_eq_true,List.range_eq_range'] at h;generalize List.range' 0 n=L at h
    induction L with
    | nil=>simp
    | cons i L ihL =>
     have hf:=h i Zb;have hL:=ihL fun g hg=>h g (by simp [hg])
     split at hf
     ·rename_i x hx;obtain ⟨a,e1,r1⟩:=XJ hx hs hr;have e2:=ih e x hf X w a em r1
      simp_all [ZD]
     ·cases hf
   ·cases h
  ·cases h
def VX : List PV->Option (List (IntKind×Int))
 | []=>some []
 | .int k n::r=>(VX r).map ((k,n):: ·)
 | _::_=>none
def Qa (l:List (IntKind×Int)):Value:= .agg (l.map fun p=> .int p.1 p.2).toArray
theorem QP : ∀ {cs:List PV} {l:List (IntKind×Int)},VX cs=some l->cs=l.map fun p=> .int p.1 p.2
 | [],l,h=>by grind [VX]
 | c::cs,l,h=>by
  unfold VX at h
  split at h
  ·grind
  ·rename_i k n r he;simp only [List.cons.injEq] at he;obtain ⟨rfl,rfl⟩:=he;simp only [Option.map_eq_some_iff] at h;obtain ⟨l',h1,rfl⟩:=h;rw [QP h1];rfl
  ·cases h
theorem KG {X w cs l v} (h:VX cs=some l) (hv:RP X w (.agg cs) v):v=Qa l:=by
 have e:=QP h
 cases hv with | agg _ u hs hr =>
 unfold Qa
 congr 1
 apply Array.ext
 ·grind
 ·intro j h1 h2
  have hj:j<l.length:=by grind
  have hc:cs[j]? =some (.int (l[j]).1 (l[j]).2):=by grind
  have:=(hr j _ hc).int_inv
  simp_all
theorem Ay : ∀ {l m:List (IntKind×Int)},(l.map fun p=>Value.int p.1 p.2)=(m.map fun p=>Value.int p.1 p.2)->l=m
 | [],[],_=>rfl
 | [],_::_,h=>by simp at h
 | _::_,[],h=>by simp at h
 | (a,b)::l,(c,d)::m,h=>by
  simp only [List.map_cons,List.cons.injEq,Value.int.injEq] at h;rw [Ay h.2,h.1.1,h.1.2]
theorem FA {l m} :Qa l=Qa m↔l=m :=
 ⟨fun h=>Ay (by grind [Qa]),fun h=>by rw [h]⟩
theorem CI {P:Program} {w:World} {l} :(Instr.keyThatStays (Qa l) (Qa l)).run P w= .ok (Qa l) w:=by
 have:Instr.sameBits 10000 (Qa l) (Qa l)=true:=by
  unfold Qa Instr.sameBits;simp only [beq_self_eq_true,Bool.true_and,List.all_eq_true];intro p hp;obtain ⟨i,hi⟩:=List.mem_iff_getElem?.1 hp;simp only [List.getElem?_zip_eq_some] at hi;obtain ⟨h1,h2⟩:=hi;rw [h1] at h2;simp only [Option.some.injEq] at h2;simp only [List.getElem?_map,Option.map_eq_some_iff] at h1
  grind [Instr.sameBits]
 simp [Instr.keyThatStays,this]
section maps
def mkey (P:Program) (kt:TypeId) (k:PV):Bool:=match P.underlying kt,k with
 | some (.int j),.int j' _=>decide (j'=j)
 | some .string,.str _=>true
 | some .bool,.bool _=>true
 | some (.struct _),.agg cs=>Y7 P 9 kt (.agg cs)&&(VX cs).isSome
 | _,_=>false
def Fm : PV->PV->Bool
 | .int _ a,.int _ b=>decide (a=b)
 | .str a,.str b=>decide (a=b)
 | .bool a,.bool b=>a==b
 | .agg a,.agg b=>decide (VX a=VX b)
 | _,_=>false
def kpair (P:Program) (kt:TypeId):PV->PV->Bool
 | .agg a,.agg b=>X9 P 9 kt (.agg a) (.agg b)==some (Fm (.agg a) (.agg b))
 | _,_=>true
def WQ (k:PV):List (PV×PV)->Nat->Option (Nat×PV)
 | [],_=>none
 | (k',x)::r,i=>if Fm k k'=true then some (i,x) else WQ k r (i+1)
theorem XZ {P kt k} (h:mkey P kt k=true):(∃d,P.underlying kt=some d/\(∀fs,d≠ .struct fs)/\ ∀ {X w v},RP X w k v->Go.MapKept.IsKey d v)\/ ∃fs cs l,P.underlying kt=some (.struct fs)/\k= .agg cs/\VX cs=some l/\Y7 P 9 kt (.agg cs)=true:=by
 unfold mkey at h
 split at h
 ·rename_i j j' n hu;simp at h;subst h;exact .inl ⟨_,hu,Zb,fun h=>by cases h;rfl⟩
 ·rename_i s hu;exact .inl ⟨_,hu,Zb,fun h=>by cases h;simp [Go.MapKept.IsKey]⟩
 ·rename_i b hu;exact .inl ⟨_,hu,Zb,fun h=>by cases h;simp [Go.MapKept.IsKey]⟩
 ·rename_i fs cs hu;simp only [Bool.and_eq_true,Option.isSome_iff_exists] at h
  grind
 ·cases h
theorem I9 {P kt k k'} (h:mkey P kt k=true) (h':mkey P kt k'=true) {X w v X' w' v'} (hv:RP X w k v) (hv':RP X' w' k' v'):Fm k k'=true↔v=v':=by
 unfold mkey at h h'
 split at h
 ·rename_i j j' n hu;rw [hu] at h'
  cases k'<;>simp at h'
  simp at h;subst h;subst h'
  cases hv;cases hv'
  simp [Fm]
 ·rename_i s hu;rw [hu] at h'
  cases k'<;>simp at h'
  cases hv;cases hv'
  simp [Fm]
 ·rename_i s hu;rw [hu] at h'
  cases k'<;>simp at h'
  cases hv;cases hv'
  simp [Fm]
 ·rename_i fs cs hu;rw [hu] at h'
  cases k'<;>simp at h'
  rename_i cs';simp only [Bool.and_eq_true,Option.isSome_iff_exists] at h;obtain ⟨_,l,h2⟩:=h;obtain ⟨_,h4⟩:=h';obtain ⟨l',h4⟩:=Option.isSome_iff_exists.1 h4;rw [KG h2 hv,KG h4 hv',FA];simp [Fm,h2,h4]
 ·cases h
theorem JJ {P kt k X w v} (hk:mkey P kt k=true) (hv:RP X w k v): ∀(es:List (PV×PV)) (l:List MapEntry) (n:Nat),l.length=es.length->(∀(i:Nat) (k' x:PV),es[i]? =some (k',x)->mkey P kt k'=true/\kpair P kt k k'=true/\ ∃e,l[i]? =some e/\RP X w k' e.key/\RP X w x e.val) ->
  ∃r,(∀d,P.underlying kt=some d->(∀fs,d≠ .struct fs)->Instr.findNow d v l n=some r)/\((∃fs,P.underlying kt=some (.struct fs))->(Instr.findAsking kt v l n).run P w= .ok r w) /\
  match WQ k es n with
  | none=>r=none
  | some (i,x)=>n<=i/\ ∃e k',l[i-n]? =some e/\es[i-n]? =some (k',x)/\e.key=v/\r=some (i,e.val)
 | [],l,n,hl,_=>by
  simp_all [Instr.findNow,Instr.findAsking,WQ]
 | (k',x)::es,[],n,hl,_=>by simp at hl
 | (k',x)::es,e::l,n,hl,h=>by
  obtain ⟨h1,hp,e0,he,h2,h3⟩:=h 0 k' x rfl;simp at he;subst he;have hq:=I9 hk h1 hv h2
  obtain ⟨r,i1,i2,i3⟩:=JJ hk hv es l (n+1) (by grind) fun i k'' x' hi=>by
   obtain ⟨q1,q0,e',q2,q3⟩:=h (i+1) k'' x' (by grind)
   grind
  have now: ∀d,P.underlying kt=some d->(∀fs,d≠ .struct fs)->Instr.sameNow d v e.key=some (Fm k k'):=fun d hd hs=>by
   obtain ⟨d1,hd1,_,hk1⟩:=(XZ hk).resolve_right (by grind);obtain ⟨d2,hd2,_,hk2⟩:=(XZ h1).resolve_right (by grind);rw [hd] at hd1 hd2;simp at hd1 hd2;subst hd1;subst hd2;obtain ⟨q,hq1,hiff⟩:=Go.MapKept.sameNow_of_keys (hk1 hv) (hk2 h2)
   grind
  have ask:(∃fs,P.underlying kt=some (.struct fs))->(Op.equal kt v e.key).run P w= .ok (Fm k k') w:=fun ⟨fs,hd⟩=>by
   have g1: ∃cs,k= .agg cs:=by
    grind [XZ]
   have g2: ∃cs,k'= .agg cs:=by
    rcases XZ h1 with ⟨d,hd1,hs,_⟩ | ⟨_,cs,_,_,e1,_⟩
    ·grind
    grind
   obtain ⟨a,rfl⟩:=g1;obtain ⟨b,rfl⟩:=g2;simp only [kpair,beq_iff_eq] at hp;exact V0 9 kt _ _ _ hp 10000 Za X w v e.key hv h2
  simp only [WQ]
  by_cases hc:Fm k k'=true
  ·rw [if_pos hc];rw [hc] at now ask;exact ⟨some (n,e.val),fun d hd hs=>by grind [Instr.findNow],fun hs=>by simp [Instr.findAsking,ask hs],Nat.le_refl _,e,k',Zb,Zb,(hq.1 hc).symm,rfl⟩
  ·rw [if_neg hc]
   have hcf:Fm k k'=false:=by grind
   rw [hcf] at now ask;refine ⟨r,fun d hd hs=>by grind [Instr.findNow],fun hs=>by simp_all [Instr.findAsking],?_⟩
   split
   ·grind
   grind
theorem EO {P kt k X w v} (hk:mkey P kt k=true) (hv:RP X w k v) {es:List (PV×PV)} {l:List MapEntry} (hl:l.length=es.length) (h: ∀(i:Nat) (k' x:PV),es[i]? =some (k',x)->mkey P kt k'=true/\kpair P kt k k'=true/\ ∃e,l[i]? =some e/\RP X w k' e.key/\RP X w x e.val) :
  match WQ k es 0 with
  | none=>(Instr.findKey kt v l).run P w= .ok none w
  | some (i,x)=> ∃e k',l[i]? =some e/\es[i]? =some (k',x)/\e.key=v/\(Instr.findKey kt v l).run P w= .ok (some (i,e.val)) w:=by
 obtain ⟨r,h1,h2,h3⟩:=JJ hk hv es l 0 hl h
 have hf:(Instr.findKey kt v l).run P w= .ok r w:=by
  grind [XZ,Go.MapKept.run_findKey,run_findKey_eq]
 grind
theorem X5 {F:Nat->Prop} {H:List Obj} {ι:List (Option Nat)} {w:World} (hr:Rel F H ι w) {o b k k':Nat} {es es':List (PV×PV)} {a a':Array MapEntry} (hH:H[o]? =some (.map es)) (hb:ι[o]? =some (some b)) (h0:w.heap[b]? =some (.map a k))
  (hm:MRep (Own F ι) w es' a' k'):Good F H ι w (H.set o (.map es')) ι { w with heap:=w.heap.setIfInBounds b (.map a' k') } :=by
 have holt:o<H.length:=(List.getElem?_eq_some_iff.1 hH).1;obtain ⟨hat,hoth⟩:=Go.MapKept.heap_set (o':= .map a' k') h0;have hown: ∀q,some q ∉ ι->(w.heap.setIfInBounds b (.map a' k'))[q]? =w.heap[q]? :=fun q hq=>hoth q (fun e=>hq (by grind));have hkeep:Keeps (Own F ι) w (Own F ι) { w with heap:=w.heap.setIfInBounds b (.map a' k') } :=fun q hq hs=>⟨hq,by grind,hown q (fun h=>hq (.inr h))⟩
 have hx:HX H ι w (H.set o (.map es')) ι { w with heap:=w.heap.setIfInBounds b (.map a' k') } :=fun i x hi=>by
  grind
 have hne: ∀ {i b2:Nat},o≠i->ι[i]? =some (some b2)->b2≠b:=fun hio h e=>hio (by subst e;exact hr.inj o _ _ hb h);refine Good.up hr.env ⟨⟨by simp [hr.len],fun q hq=>by simpa using hr.fin q hq,hr.inj,fun i q hi=>by simpa using hr.avo i q hi,fun i cs hi=> ?_,fun i S xs hi=> ?_,fun i es2 hi=> ?_,?_⟩,rfl,Tp.rfl,rfl,fun q c1 t1 h1=> .inr ⟨c1,?_,rfl⟩,Zb,fun q _ ho=>hown q ho,fun q _ h=>h,hx⟩
 ·by_cases hio:o=i
  ·grind
  ·rw [List.getElem?_set_ne hio] at hi;obtain ⟨b2,c2,t2,h1,h2,h3,h4⟩:=hr.cel i cs hi;exact ⟨b2,c2,t2,h1,by grind,h3,fun j x hj=>(h4 j x hj).ext hkeep hx⟩
 ·by_cases hio:o=i
  ·grind
  ·rw [List.getElem?_set_ne hio] at hi;rcases hr.elm i S xs hi with ⟨h1,h2⟩ | ⟨b2,c2,t2,cap,h1,h2,h3,h4,h5,h6,h7⟩
   ·grind
   ·exact .inr ⟨b2,c2,t2,cap,h1,by grind,h3,h4,h5,h6,fun i x j y hi hj=>(h7 i x j y hi hj).ext hkeep⟩
 ·by_cases hio:o=i
  ·subst hio;simp [holt] at hi;subst hi;exact ⟨b,a',k',hb,hat,hm.ext hkeep⟩
  ·rw [List.getElem?_set_ne hio] at hi;obtain ⟨b2,a2,k2,h1,h2,h3⟩:=hr.mpr i es2 hi;exact ⟨b2,a2,k2,h1,by grind,h3.ext hkeep⟩
 ·refine X1 hr (fun i T E r bs hi=> ?_) (fun i ob hi hs=> ?_)
  ·grind
  ·have hio:o≠i:=fun e=>by subst e;rw [hH] at hi;simp at hi;subst hi;cases hs
   grind
 grind
theorem Kt {F:Nat->Prop} {H:List Obj} {ι:List (Option Nat)} {w:World} (hr:Rel F H ι w):Good F H ι w (H++ [.map []]) (ι++ [some w.heap.size]) (w.alloc (.map #[] 0)):=by
 have hlen:=hr.len;obtain ⟨hnew,hold0⟩:=Go.MapKept.heap_alloc w (.map #[] 0)
 have hsz:(w.alloc (.map #[] 0)).heap.size=w.heap.size+1:=Zb
 have hold: ∀i b,ι[i]? =some (some b)->b<w.heap.size:=fun i b h=>(hr.avo i b h).2
 have hkeep:Keeps (Own F ι) w (Own F (ι++ [some w.heap.size])) (w.alloc (.map #[] 0)):=fun b hb hs=>by
  refine ⟨?_,Za,hold0 b hs⟩;rintro (h | h)
  ·exact hb (.inl h)
  ·simp at h;rcases h with h | h
   ·exact hb (.inr h)
   ·omega
 have hx:HX H ι w (H++ [.map []]) (ι++ [some w.heap.size]) (w.alloc (.map #[] 0)):=fun o x ho=>by
  grind
 have hrv: ∀ {x v},RV F H ι w x v->RV F (H++ [.map []]) (ι++ [some w.heap.size]) (w.alloc (.map #[] 0)) x v:=fun h=>h.ext hkeep hx;refine Good.up hr.env ⟨⟨by simp [hlen],fun b hb=>by rw [hsz];have:=hr.fin b hb;omega,?_,?_,?_,?_,?_,?_⟩,rfl,Tp.rfl,rfl,fun b c0 t0 h0=> .inr ⟨c0,by grind,rfl⟩,Za,fun b hb _=>hold0 b hb,?_,hx⟩
 ·intro i j b hi hj;rcases Zi hi with ⟨_,hi⟩ | ⟨hi,e⟩<;>rcases Zi hj with ⟨_,hj⟩ | ⟨hj,e'⟩
  ·exact hr.inj i j b hi hj
  ·grind
  ·grind
  ·omega
 ·intro i b hi;rcases Zi hi with ⟨_,hi⟩ | ⟨hi,e⟩
  ·have:=hr.avo i b hi;grind
  ·simp at e;subst e;exact ⟨fun h=>by have:=hr.fin _ h;omega,Za⟩
 ·intro o cs ho;rcases Zi ho with ⟨hlt,ho⟩ | ⟨hlt,e⟩
  ·obtain ⟨b,c',t',h1,h2,h3,h4⟩:=hr.cel o cs ho
   grind
  ·cases e
 ·intro o S xs ho;rcases Zi ho with ⟨hlt,ho⟩ | ⟨hlt,e⟩
  ·rcases hr.elm o S xs ho with ⟨h1,h2⟩ | ⟨b,c',t',cap,h1,h2,h3,h4,h5,h6,h7⟩
   ·grind
   ·exact .inr ⟨b,c',t',cap,by grind,by grind,h3,h4,h5,h6,fun i x j y hi hj=>(h7 i x j y hi hj).ext hkeep⟩
  ·cases e
 ·intro o es ho;rcases Zi ho with ⟨hlt,ho⟩ | ⟨hlt,e⟩
  ·obtain ⟨b,a',k,h1,h2,h3⟩:=hr.mpr o es ho;exact ⟨b,a',k,by grind,by grind,h3.ext hkeep⟩
  ·simp at e;subst e;subst hlt;exact ⟨w.heap.size,#[],0,by grind,hnew,⟨rfl,rfl⟩,fun i k x hi=>by simp at hi⟩
 ·exact X1 hr (fun o T E r bs ho=>by
   grind) (fun i ob hi _=>by
   grind)
 grind
end maps
section mapOps
def QC (P:Program) (H:List Obj) (kt:TypeId) (kv:PV) (o:Nat):Option (List (PV×PV)):=match Xv H o with
 | .map es=>if mkey P kt kv=true/\(es.all fun e=>mkey P kt e.1&&kpair P kt kv e.1)=true then some es else none
 | _=>none
def Jm (P:Program) (H:List Obj) (t:TypeId) (x k:V) (ok:Bool):Option (V×List Obj) :=
 match P.underlying t with
 | some (.map kt et)=>match x,k with
  | .mp o,.p kv=>(QC P H kt kv o).bind fun es=>match WQ kv es 0 with
    | some q=>some (if ok=true then .tup [.p q.2,.p (.bool true)] else .p q.2,H)
    | none=>(YQ P et).map fun z=>(if ok=true then .tup [.p z,.p (.bool false)] else .p z,H)
  | _,_=>none
 | _=>none
def Ll (kv vv:PV) (es:List (PV×PV)):List (PV×PV):=match WQ kv es 0 with
 | some q=>es.set q.1 (kv,vv)
 | none=>es++ [(kv,vv)]
def Jn (P:Program) (H:List Obj) (t:TypeId) (x k v:V):Option (V×List Obj) :=
 match P.underlying t with
 | some (.map kt _)=>match x,k,v with
  | .mp o,.p kv,.p vv=>(QC P H kt kv o).map fun es=>(.junk,H.set o (.map (Ll kv vv es)))
  | _,_,_=>none
 | _=>none
def Kc (P:Program) (H:List Obj) (t:TypeId) (x k:V):Option (V×List Obj) :=
 match P.underlying t with
 | some (.map kt et)=>match x,k with
  | .mp o,.p kv=>(QC P H kt kv o).bind fun es=>match WQ kv es 0 with
    | some q=>some (.tup [.p q.2,.p (.int .i64 (q.1:Nat))],H.set o (.map (es.set q.1 (kv,q.2))))
    | none=>(YQ P et).map fun z=>(.tup [.p z,.p (.int .i64 (es.length:Nat))],H.set o (.map (es++ [(kv,z)])))
  | _,_=>none
 | _=>none
def W0 (H:List Obj) (x s v:V):Option (V×List Obj) :=
 match x,s,v with
 | .mp o,.p (.int _ i),.p vv=>match Xv H o with
  | .map es=>match (if 0<=i then es[i.toNat]? else none) with
   | some q=>some (.junk,H.set o (.map (es.set i.toNat (q.1,vv))))
   | none=>none
  | _=>none
 | _,_,_=>none
structure MapIs (P:Program) (F:Nat->Prop) (H:List Obj) (ι:List (Option Nat)) (w:World) (kt:TypeId) (kv:PV) (o:Nat) (es:List (PV×PV)) (u:Value) where
 b:Nat
 a:Array MapEntry
 n:Nat
 hu:u= .map (some b)
 hι:ι[o]? =some (some b)
 hH:H[o]? =some (.map es)
 hb:w.heap[b]? =some (.map a n)
 rep:MRep (Own F ι) w es a n
 isk:mkey P kt kv=true
 keys: ∀(i:Nat) (k x:PV),es[i]? =some (k,x)->mkey P kt k=true/\kpair P kt kv k=true
theorem QD {P F H ι w kt kv o es u} (hr:Rel F H ι w) (hm:QC P H kt kv o=some es) (hv:RV F H ι w (.mp o) u):Nonempty (MapIs P F H ι w kt kv o es u):=by
 unfold QC at hm
 split at hm
 rotate_left
 ·cases hm
 rename_i es' ho
 split at hm
 rotate_left
 ·cases hm
 rename_i hc;simp at hm;subst hm;have hH:=Zx ho Zb
 cases hv with
 | mp _ b es2 h hH2 =>
  rw [hH] at hH2;simp at hH2;subst hH2;obtain ⟨b',a,n,h1,h2,h3⟩:=hr.mpr o _ hH;rw [h] at h1;simp at h1;subst h1
  exact ⟨⟨b,a,n,rfl,h,hH,h2,h3,hc.1,fun i k x hi=>by
   grind⟩⟩
 | mpD _ _ h=>grind
theorem MapIs.find {P F H ι w kt kv o es u} (M:MapIs P F H ι w kt kv o es u) {v} (hv:RP (Own F ι) w kv v) :
  match WQ kv es 0 with
  | none=>(Instr.findKey kt v M.a.toList).run P w= .ok none w
  | some (i,x)=> ∃e k',M.a[i]? =some e/\es[i]? =some (k',x)/\e.key=v/\e.born=i/\RP (Own F ι) w x e.val/\(Instr.findKey kt v M.a.toList).run P w= .ok (some (i,e.val)) w:=by
 have:=EO M.isk hv (es:=es) (l:=M.a.toList) (by simpa using M.rep.1.1) fun i k' x hi=>by
  obtain ⟨e,h1,_,h2,h3⟩:=M.rep.2 i k' x hi;exact ⟨(M.keys i k' x hi).1,(M.keys i k' x hi).2,e,by grind,h2,h3⟩
 split
 ·grind
 ·rename_i i x hm;rw [hm] at this;obtain ⟨e,k',h1,h2,h3,h4⟩:=this;obtain ⟨e',q1,q2,q3,q4⟩:=M.rep.2 i k' x h2
  grind
theorem KA {P F H ι w kt kv o es u} (M:MapIs P F H ι w kt kv o es u) {v} (hv:RP (Own F ι) w kv v):(∀e,(Instr.checkKey e 10000 kt v).run P w= .ok () w)/\(Instr.keyThatStays v v).run P w= .ok v w:=by
 rcases XZ M.isk with ⟨d,hd,_,hk⟩ | ⟨fs,cs,l,hu,rfl,h1,h2⟩
 ·grind [Go.MapKept.run_checkKey,Go.MapKept.run_keyThatStays]
 ·refine ⟨fun e=>QT 9 kt _ h2 10000 Za _ w v e hv,?_⟩;rw [KG h1 hv];exact CI
theorem A6 {P:Program} {w:World} {et z} (h:YQ P et=some z): ∃v,(zeroValue et).run P w= .ok v w/\ ∀X,RP X w z v:=by
 have h0:=h;unfold YQ at h;simp only [Option.bind_eq_some_iff] at h;obtain ⟨v,⟨i,hi,hz⟩,hc⟩:=h;exact ⟨v,by simp [zeroValue,typeInfo,hi,hz],fun X=>VZ (P:=P) (e:=et) (by simp [hi,hz]) h0⟩
theorem MRep.put {X w es a n} (h:MRep X w es a n) {i:Nat} {k x:PV} {e:MapEntry} (he:a[i]? =some e) {f:MapEntry->MapEntry} (hb:(f e).born=e.born) (hk:RP X w k (f e).key) (hx:RP X w x (f e).val):MRep X w (es.set i (k,x)) (a.modify i f) n:=by
 have hi:i<a.size:=(Array.getElem?_eq_some_iff.1 he).1
 have hil:i<es.length:=by rw [<- h.1.1];exact hi
 refine ⟨⟨by simpa using h.1.1,by simpa using h.1.2⟩,fun j k' x' hj=> ?_⟩;rw [List.getElem?_set] at hj
 split at hj
 ·rename_i e1;subst e1;simp [] at hj;obtain ⟨rfl,rfl⟩:=hj;obtain ⟨e0,h1,h2,_,_⟩:=h.2 i (es[i]).1 (es[i]).2 (by simp [hil])
  grind
 ·rename_i e1;obtain ⟨e0,h1,h2,h3,h4⟩:=h.2 j k' x' hj
  grind
theorem MRep.push {X w es a n} (h:MRep X w es a n) {k x:PV} {u v:Value} (hk:RP X w k u) (hx:RP X w x v):MRep X w (es++ [(k,x)]) (a.push { key:=u,val:=v,born:=n }) (n+1):=by
 refine ⟨⟨by simp [h.1.1],by simp [h.1.2]⟩,fun j k' x' hj=> ?_⟩
 by_cases hlt:j<es.length
 ·rw [List.getElem?_append_left hlt] at hj;obtain ⟨e0,h1,h2,h3,h4⟩:=h.2 j k' x' hj
  grind
 ·rw [List.getElem?_append_right Za] at hj
  have:j=es.length:=by
   grind
  subst this;simp at hj;obtain ⟨rfl,rfl⟩:=hj;exact ⟨⟨u,v,n⟩,by rw [<- h.1.1];simp,h.1.2,hk,hx⟩
theorem AR {P:Program} {o:Oper} {fr:List V} {H:List Obj} (t:TypeId) (h:o.op= .makeMap t none):OpS P o fr H (.mp H.length) (H++ [.map []]):=fun F ι a w hr hf=>by
 have g:=Kt hr;exact ⟨_,.map (some w.heap.size),_,_,by simp_all [execOp,Instr.makeMap],.inl rfl,g,.mp _ _ [] (by rw [<- hr.len];simp) Zb⟩
theorem G7 {P:Program} {o:Oper} {fr:List V} {H H':List Obj} (t:TypeId) (x k:Operand) (ok:Bool) (y:V) (h:o.op= .lookup t x k ok) (hz:Jm P H t (ev fr x) (ev fr k) ok=some (y,H')):OpS P o fr H y H':=fun F ι a w hr hf=>by
 unfold Jm at hz
 split at hz
 rotate_left
 ·cases hz
 rename_i kt et hu
 split at hz
 rotate_left
 ·cases hz
 rename_i ob kv hx hk;obtain ⟨es,hm,hz⟩:=Option.bind_eq_some_iff.1 hz;have hxv:=hf.ev x;rw [hx] at hxv;have hkv:=hf.ev k;rw [hk] at hkv
 cases hkv with | p _ _ hkv =>
 obtain ⟨M⟩:=QD hr hm hxv;have hfd:=M.find hkv;obtain ⟨hck,_⟩:=KA M hkv
 split at hz
 ·rename_i q hq;obtain ⟨i,v⟩:=q;rw [hq] at hfd;simp only at hfd;obtain ⟨e,k',h1,h2,h3,h4,h5,h6⟩:=hfd;have hfk:=h6;simp at hz;obtain ⟨rfl,rfl⟩:=hz
  cases ok with
  | true=>exact ⟨_,.tuple #[e.val,.bool true],ι,w,by simp [execOp,h,Instr.lookup,run_underlying hu,M.hu,Go.MapKept.run_getObj_map M.hb,hck,hfk,Result.andThen],.inl rfl,Good.refl hr,.tup _ _ rfl (fun j c hj=>by
    cases j with
    | zero=>simp at hj;subst hj;exact .p _ _ h5
    | succ j=>cases j with
     | zero=>simp at hj;subst hj;exact .p _ _ (.bool _)
     | succ j=>simp at hj)⟩
  | false=>exact ⟨_,e.val,ι,w,by simp [execOp,h,Instr.lookup,run_underlying hu,M.hu,Go.MapKept.run_getObj_map M.hb,hck,hfk,Result.andThen],.inl rfl,Good.refl hr,.p _ _ h5⟩
 ·rename_i hq;rw [hq] at hfd;simp only at hfd;have hfk:=hfd;obtain ⟨z,hzv,hz⟩:=Option.map_eq_some_iff.1 hz;simp at hz;obtain ⟨rfl,rfl⟩:=hz;obtain ⟨zv,z1,z2⟩:=A6 (w:=w) hzv
  cases ok with
  | true=>exact ⟨_,.tuple #[zv,.bool false],ι,w,by simp [execOp,h,Instr.lookup,run_underlying hu,M.hu,Go.MapKept.run_getObj_map M.hb,hck,hfk,z1,Result.andThen],.inl rfl,Good.refl hr,.tup _ _ rfl (fun j c hj=>by
    cases j with
    | zero=>simp at hj;subst hj;exact .p _ _ (z2 _)
    | succ j=>cases j with
     | zero=>simp at hj;subst hj;exact .p _ _ (.bool _)
     | succ j=>simp at hj)⟩
  | false=>exact ⟨_,zv,ι,w,by simp [execOp,h,Instr.lookup,run_underlying hu,M.hu,Go.MapKept.run_getObj_map M.hb,hck,hfk,z1,Result.andThen],.inl rfl,Good.refl hr,.p _ _ (z2 _)⟩
theorem G9 {P:Program} {o:Oper} {fr:List V} {H H':List Obj} (t:TypeId) (x k v:Operand) (y:V) (h:o.op= .mapUpdate t x k v) (hz:Jn P H t (ev fr x) (ev fr k) (ev fr v)=some (y,H')):OpS P o fr H y H':=fun F ι a w hr hf=>by
 unfold Jn at hz
 split at hz
 rotate_left
 ·cases hz
 rename_i kt et hu
 split at hz
 rotate_left
 ·cases hz
 rename_i ob kv vv hx hk hv;obtain ⟨es,hm,hz⟩:=Option.map_eq_some_iff.1 hz;simp at hz;obtain ⟨rfl,rfl⟩:=hz;have hxv:=hf.ev x;rw [hx] at hxv;have hkv:=hf.ev k;rw [hk] at hkv
 cases hkv with | p _ _ hkv =>
 have hvv:=hf.ev v;rw [hv] at hvv
 cases hvv with | p _ _ hvv =>
 obtain ⟨M⟩:=QD hr hm hxv;have hfd:=M.find hkv;obtain ⟨hck,hst⟩:=KA M hkv;unfold Ll
 split
 ·rename_i q hq;obtain ⟨i,x0⟩:=q;rw [hq] at hfd;simp only at hfd;obtain ⟨e,k',h1,h2,h3,h4,h5,h6⟩:=hfd;have hfk:=h6;have g:=X5 hr M.hH M.hι M.hb (M.rep.put h1 (f:=fun e=> { e with key:=a.eval k,val:=a.eval v }) rfl hkv hvv);exact ⟨.skip,undef,ι,_,by simp [execOp,h,Instr.mapUpdate,run_underlying hu,M.hu,Go.MapKept.run_getObj_map M.hb,hck,hfk,h1,h3,hst,Go.MapKept.run_setObj_map _ M.hb,Result.andThen],.inr ⟨rfl,rfl⟩,g,.junk _⟩
 ·rename_i hq;rw [hq] at hfd;simp only at hfd;have hfk:=hfd;have g:=X5 hr M.hH M.hι M.hb (M.rep.push hkv hvv);exact ⟨.skip,undef,ι,_,by simp [execOp,h,Instr.mapUpdate,run_underlying hu,M.hu,Go.MapKept.run_getObj_map M.hb,hck,hfk,Go.MapKept.run_setObj_map _ M.hb,Result.andThen],.inr ⟨rfl,rfl⟩,g,.junk _⟩
theorem Ci {P:Program} {o:Oper} {fr:List V} {H H':List Obj} (t:TypeId) (x k:Operand) (y:V) (h:o.op= .mapEntry t x k) (hz:Kc P H t (ev fr x) (ev fr k)=some (y,H')):OpS P o fr H y H':=fun F ι a w hr hf=>by
 unfold Kc at hz
 split at hz
 rotate_left
 ·cases hz
 rename_i kt et hu
 split at hz
 rotate_left
 ·cases hz
 rename_i ob kv hx hk;obtain ⟨es,hm,hz⟩:=Option.bind_eq_some_iff.1 hz;have hxv:=hf.ev x;rw [hx] at hxv;have hkv:=hf.ev k;rw [hk] at hkv
 cases hkv with | p _ _ hkv =>
 obtain ⟨M⟩:=QD hr hm hxv;have hfd:=M.find hkv;obtain ⟨hck,hst⟩:=KA M hkv
 have pair: ∀ {H2:List Obj} {w2:World} {p1 p2:PV} {v1 v2:Value},RP (Own F ι) w2 p1 v1->RP (Own F ι) w2 p2 v2->RV F H2 ι w2 (.tup [.p p1,.p p2]) (.tuple #[v1,v2]):=fun h1 h2=> .tup _ _ rfl (fun j c hj=>by
  cases j with
  | zero=>simp at hj;subst hj;exact .p _ _ h1
  | succ j=>cases j with
   | zero=>simp at hj;subst hj;exact .p _ _ h2
   | succ j=>simp at hj)
 split at hz
 ·rename_i q hq;obtain ⟨i,x0⟩:=q;rw [hq] at hfd;simp only at hfd;obtain ⟨e,k',h1,h2,h3,h4,h5,h6⟩:=hfd;have hfk:=h6;simp at hz;obtain ⟨rfl,rfl⟩:=hz;have g:=X5 hr M.hH M.hι M.hb (M.rep.put h1 (f:=fun e=> { e with key:=a.eval k }) rfl hkv h5);exact ⟨.value (.tuple #[e.val,goInt (i:Nat)]),_,ι,_,by simp [execOp,h,Instr.mapEntry,run_underlying hu,M.hu,Go.MapKept.run_getObj_map M.hb,hck,hfk,h1,h3,h4,hst,Go.MapKept.run_setObj_map _ M.hb,Result.andThen],.inl rfl,g,pair (h5.ext g.keeps) (.int _ _)⟩
 ·rename_i hq;rw [hq] at hfd;simp only at hfd;have hfk:=hfd;obtain ⟨z,hzv,hz⟩:=Option.map_eq_some_iff.1 hz;simp at hz;obtain ⟨rfl,rfl⟩:=hz;obtain ⟨zv,z1,z2⟩:=A6 (w:=w) hzv;have g:=X5 hr M.hH M.hι M.hb (M.rep.push hkv (z2 _));exact ⟨.value (.tuple #[zv,goInt M.n]),_,ι,_,by simp [execOp,h,Instr.mapEntry,run_underlying hu,M.hu,Go.MapKept.run_getObj_map M.hb,hck,hfk,z1,Go.MapKept.run_setObj_map _ M.hb,Result.andThen],.inl rfl,g,pair ((z2 _).ext g.keeps) (by rw [M.rep.1.2];exact .int _ _)⟩
theorem Cj {P:Program} {o:Oper} {fr:List V} {H H':List Obj} (t:TypeId) (x s v:Operand) (y:V) (h:o.op= .entryStore t x s v) (hz:W0 H (ev fr x) (ev fr s) (ev fr v)=some (y,H')):OpS P o fr H y H':=fun F ι a w hr hf=>by
 unfold W0 at hz
 split at hz
 rotate_left
 ·cases hz
 rename_i ob kk i vv hx hs hv
 split at hz
 rotate_left
 ·cases hz
 rename_i es ho;have hH:=Zx ho Zb
 split at hz
 rotate_left
 ·cases hz
 rename_i q hq;simp at hz;obtain ⟨rfl,rfl⟩:=hz
 split at hq
 rotate_left
 ·cases hq
 rename_i h0;have hxv:=hf.ev x;rw [hx] at hxv;have hsv:=hf.ev s;rw [hs] at hsv
 cases hsv with | p _ _ hsv =>
 have hvv:=hf.ev v;rw [hv] at hvv
 cases hvv with | p _ _ hvv =>
 generalize hxe:a.eval x=xv at hxv
 cases hxv with
 | mpD _ _ hd=>grind
 | mp _ b es2 h1 hH2 =>
 rw [hH] at hH2;simp at hH2;subst hH2;obtain ⟨b',m,n,e1,e2,e3⟩:=hr.mpr ob _ hH;rw [h1] at e1;simp at e1;subst e1;obtain ⟨k0,x0⟩:=q;obtain ⟨e,q1,q2,q3,q4⟩:=e3.2 i.toNat k0 x0 hq
 have hfi:m.findIdx? (fun e=>(e.born:Int)==i)=some i.toNat:=by
  have hlt:=(Array.getElem?_eq_some_iff.1 q1).1;rw [Array.findIdx?_eq_some_iff_getElem]
  have hb: ∀j (hj:j<m.size),(m[j]).born=j:=fun j hj=>by
   obtain ⟨e',p1,p2,_,_⟩:=e3.2 j (es[j]'(by rw [<- e3.1.1];exact hj)).1 (es[j]'(by rw [<- e3.1.1];exact hj)).2 (by grind)
   grind
  grind
 have g:=X5 hr hH h1 e2 (e3.put q1 (k:=k0) (x:=vv) (f:=fun e=> { e with val:=a.eval v }) rfl q3 hvv);exact ⟨.skip,undef,ι,_,by simp [execOp,h,Instr.entryStore,asInt,asIntOf,hsv.int_inv,hxe,Go.MapKept.run_getObj_map e2,hfi,Go.MapKept.run_setObj_map _ e2,Result.andThen],.inr ⟨rfl,rfl⟩,g,.junk _⟩
end mapOps
def BA (P:Program) (H:List Obj) (t:TypeId) (x:V):Option (V×List Obj) :=
 match P.underlying t with
 | some (.slice e)=>match YQ P e,x with
  | some z,.sl o off len tot=>match Xv H o with
   | .elems S xs=>if z.cells.length=S/\z.cells.all (·.one)=true/\xs.length=tot/\off+len<=tot then some (.tup [],Q9 H o (.elems S (xs.take off++List.replicate len z++xs.drop (off+len)))) else none
   | _=>none
  | _,_=>none
 | _=>none
theorem ET {P:Program} {o:Oper} {fr:List V} {H H':List Obj} (t:TypeId) (x:Operand) (v:V) (h:o.op= .call { callee:= .builtin .clear,args:= #[x],argTypes:= #[t] })
  (hz:BA P H t (ev fr x)=some (v,H')):OpS P o fr H v H':=fun F ι a w hr hf=>by
 have hx:=hf.ev x
 suffices hh: ∃u ι' w',(Builtin.clear_ #[t] o.type #[a.eval x]).run P w= .ok u w'/\Good F H ι w H' ι' w'/\RV F H' ι' w' v u by
  obtain ⟨u,ι',w',e,g,r⟩:=hh;exact ⟨_,u,ι',w',by simp [execOp,h,resolve,invoke,builtin,e],.inl rfl,g,r⟩
 generalize ev fr x=X at hx hz;unfold BA at hz
 split at hz
 rotate_left
 ·cases hz
 rename_i e hu
 split at hz
 rotate_left
 ·cases hz
 rename_i z o' off len tot hzv
 split at hz
 rotate_left
 ·cases hz
 rename_i S xs ho
 split at hz
 rotate_left
 ·cases hz
 rename_i hc;obtain ⟨hS,hz1,htl,hle⟩:=hc;simp only [Option.some.injEq,Prod.mk.injEq] at hz;obtain ⟨rfl,rfl⟩:=hz;have hH:=Zx ho Zb;rw [QN]
 by_cases h0:len=0
 ·subst h0
  have e0:xs.take off++List.replicate 0 z++xs.drop (off+0)=xs:=Zb
  have hol:=(List.getElem?_eq_some_iff.1 hH).1
  have e1:H.set o' (.elems S xs)=H:=by
   apply List.ext_getElem?
   grind
  rw [e0,e1];refine ⟨.tuple #[],ι,w,?_,Good.refl hr,.tup [] #[] Zb Zb⟩
  obtain ⟨ad,cap,e⟩: ∃ad cap,a.eval x= .slice ad 0 cap:=by
   generalize a.eval x=vv at hx
   cases hx with
   | slNil=>simp
   | sl=>simp
   | slD _ _ _ _ _ hd=>grind
   | slS _ _ _ _ _ S2 xs2 hd hne=>grind
   | slC _ _ _ _ _ _ hd=>simp
  cases ad<;>simp [Builtin.clear_,run_underlying hu,e]
 ·obtain ⟨zz,hzz⟩: ∃zz,((P.info? e).bind (·.zero))=some zz:=by
   grind [YQ,Option.bind_eq_some_iff]
  have hrz:RP (Own F ι) w z zz:=VZ hzz hzv;obtain ⟨z1,z2⟩:=Ym hrz hz1;simp only [Option.bind_eq_some_iff] at hzz;obtain ⟨ie,hie,hzz⟩:=hzz;rw [hS] at z1;rcases hr.elm o' S xs hH with ⟨_,rfl⟩ | ⟨b,c,u,cap0,h1,h2,h3,h4,h5,h6,h7⟩
  ·grind
  obtain ⟨cap,e2⟩: ∃cap,a.eval x= .slice (some ⟨b,off*S,none⟩) len cap:=by
   generalize a.eval x=vv at hx
   cases hx with
   | slNil=>omega
   | sl _ _ _ _ b2 S2 cap2 t2 xs2 c2 hι hH2 ht2 hw2 hcap hl hlen hm =>
    simp_all
   | slD _ _ _ _ _ hd=>grind
   | slS _ _ _ _ _ S2 xs2 hd hne=>grind
   | slC _ _ _ _ _ _ hd=>grind
  obtain ⟨news,hnews⟩: ∃news,news=(Builtin.zeroCells zz.cells len).toList:=⟨_,rfl⟩
  have hlenN:news.length=len*S:=by grind [Builtin.zeroCells]
  have hnew: ∀q,q<len*S->news.getD q undef=zz.cells.getD (q%S) undef:=fun q hq=>by
   have hS0:0<S:=by grind
   simp_all [Nat.mod_lt,Builtin.zeroCells]
  have hone: ∀v∈news,v.oneCell'=true:=fun v hv=>by
   obtain ⟨q,hq⟩:=List.mem_iff_getElem?.1 hv;have hlt:=(List.getElem?_eq_some_iff.1 hq).1
   have hS0:0<S:=by grind
   have hm:=Nat.mod_lt q hS0;have e9:=hnew q Za
   have e10:news.getD q undef=v:=by grind
   rw [e10] at e9
   have hg:z.cells[q%S]? =some (z.cells[q%S]'(Za)):=by simp [hS,hm]
   rw [e9];exact (z2 _ _ hg).oneCell (List.all_eq_true.1 hz1 _ (List.getElem_mem _))
  have hfit:off*S+news.length<=c.size:=by
   rw [hlenN,h3,<- Nat.add_mul]
   grind [Nat.mul_le_mul_right]
  have hrun:=run_storeCells_at P b (off*S) u news 0 c w h2 Za hone;simp only [Nat.add_zero] at hrun;have hT:Turned w (w.setRow b (c.toList.take (off*S)++news++c.toList.drop (off*S+news.length)).toArray) b _ u:=Turned.setRow h2
  have hxl:(xs.take off++List.replicate len z++xs.drop (off+len)).length=xs.length:=by simp;omega
  have hcl: ∀(i:Nat) (x:PV),(xs.take off++List.replicate len z++xs.drop (off+len))[i]? =some x->x.cells.length=S:=fun i x hi=>by
   grind
  have g:=Xc (w':=w.setRow b (c.toList.take (off*S)++news++c.toList.drop (off*S+news.length)).toArray) (cap:=cap0)
   (xs':=xs.take off++List.replicate len z++xs.drop (off+len)) hr hH hT.os hT.tape hT.output (fun c0 t0 hc0=>by grind) Zb hT.at' (fun k _ hk=>hT.other k hk)
   (.inl ⟨h1,.inl ⟨hxl,fun c0 t0 hc0=>by grind⟩⟩)
   (by simp;omega) Za h5 hcl
   (fun i x j y hi hj=>by
    have hjl:j<x.cells.length:=(List.getElem?_eq_some_iff.1 hj).1;have hxS:=hcl i x hi;have hil:=(List.getElem?_eq_some_iff.1 hi).1;rw [hxl] at hil;rw [Yq];simp only [List.length_take,Array.length_toList];rw [Nat.min_eq_left Za,hlenN]
    by_cases c1:i<off
    ·have q1:(i+1)*S<=off*S:=Nat.mul_le_mul_right _ c1;rw [Nat.add_mul,Nat.one_mul] at q1
     have hi':xs[i]? =some x:=by
      grind
     have:=h7 i x j y hi' hj;rw [if_pos Za,List.getD_eq_getElem?_getD,List.getElem?_take_of_lt Za,Array.getElem?_toList];rwa [Array.getD_eq_getD_getElem?] at this
    ·by_cases c2:i<off+len
     ·have q1:off*S<=i*S:=Nat.mul_le_mul_right _ Za;have q2:(i+1)*S<=(off+len)*S:=Nat.mul_le_mul_right _ c2;rw [Nat.add_mul,Nat.one_mul,Nat.add_mul] at q2;rw [if_neg Za,if_pos Za]
      have hi':z=x:=by
       grind
      subst hi'
      have e9:i*S+j-off*S=j+(i-off)*S:=by rw [Nat.sub_mul];omega
      rw [hnew _ Za,e9,Nat.add_mul_mod_self_right,Nat.mod_eq_of_lt Za]
      grind
     ·have q1:(off+len)*S<=i*S:=Nat.mul_le_mul_right _ Za;rw [Nat.add_mul] at q1;rw [if_neg Za,if_neg Za]
      have hi':xs[i]? =some x:=by
       rw [List.getElem?_append_right (by simp;omega),List.getElem?_drop] at hi;rw [<- hi]
       congr 1
       simp;omega
      have:=h7 i x j y hi' hj;rw [List.getD_eq_getElem?_getD,List.getElem?_drop,Array.getElem?_toList,<- Array.getD_eq_getD_getElem?]
      have e9:off*S+len*S+(i*S+j-off*S-len*S)=i*S+j:=Za
      grind)
  refine ⟨.tuple #[],_,_,?_,g,.tup [] #[] Zb Zb⟩;obtain ⟨l',rfl⟩: ∃l',len=l'+1:=⟨len-1,Za⟩;simp [Builtin.clear_,run_underlying hu,e2,zeroValue,typeInfo,hie,hzz,<- hnews,hrun]
end Go.AM
namespace Go.AM
open Go.RowKit
theorem Uv {F H ι w o off len tot v S xs} (X:Nat->Prop) (hX: ∀b,ι[o]? =some (some b)-> ¬X b) (hk:Keeps (Own F ι) w X w) (hr:Rel F H ι w) (hH:H[o]? =some (.elems S xs)) (ht:xs.length=tot) (hlen:off+len<=tot) (hv:RV F H ι w (.sl o off len tot) v) :
  RP X w (.list false ((xs.take (off+len)).drop off)) v:=by
 have hl:((xs.take (off+len)).drop off).length=len:=by simp;omega
 cases hv with
 | slNil _ _ a _ _=>simp;exact .emp _ a 0 (fun h=>by cases h) (by simp [maxLen]) (fun h=>Za)
 | sl _ _ _ _ b S2 cap t2 xs2 c hb hH2 ht2 hw hcap hl2 hlen2 hm =>
  rw [hH] at hH2;simp at hH2;obtain ⟨rfl,rfl⟩:=hH2;rcases hr.elm o S xs hH with ⟨h1,_⟩ | ⟨b2,c2,t3,cap2,f1,f2,f3,f4,f5,f6,f7⟩
  ·grind
  ·have:b2=b:=by grind
   subst this;rw [hw] at f2;simp at f2;obtain ⟨rfl,rfl⟩:=f2
   have hget: ∀(i:Nat) (x:PV),((xs.take (off+len)).drop off)[i]? =some x->xs[off+i]? =some x:=fun i x hi=>by
    grind
   have:=RP.list (X:=X) (w:=w) false ((xs.take (off+len)).drop off) b2 (off*S) cap S (fun i j=>c.getD ((off+i)*S+j) undef) (hX b2 hb) (Array.getElem?_eq_some_iff.1 hw).1 Za Za (fun h=>by cases h)
    (fun i x hi=>f6 _ x (hget i x hi))
    (fun i x j q hi hj=>by
     have hx:=hget i x hi;have hl:=f6 _ x hx;have hlt2:=(List.getElem?_eq_some_iff.1 hx).1;have hjl:=(List.getElem?_eq_some_iff.1 hj).1;have hle:(off+i+1)*S<=cap2*S:=Nat.mul_le_mul_right _ Za;rw [Nat.add_mul (off+i),Nat.one_mul] at hle
     have hsz:(off+i)*S+j<c.size:=Za
     simp_all [Nat.add_mul,World.cell?]) (fun i x j q hi hj=>(f7 _ x j q (hget i x hi) hj).ext hk)
   grind
 | slD _ _ _ _ _ hd=>grind
 | slS _ _ _ _ _ S2 xs2 hd hne=>grind
 | slC _ _ _ _ _ _ hd=>grind
def Xi : List PV->Option (List UInt8)
 | []=>some []
 | .int .u8 n::r=>(Xi r).map (UInt8.ofNat n.toNat:: ·)
 | _=>none
theorem VA : ∀(xs:List PV) (bs:List UInt8),Xi xs=some bs-> ∃ns:List Int,xs=ns.map (.int .u8)/\bs=ns.map fun n=>UInt8.ofNat n.toNat
 | [],bs,h=>by simp [Xi] at h;simp_all
 | x::r,bs,h=>by
  unfold Xi at h
  split at h
  ·grind
  ·rename_i n r' he;simp only [List.cons.injEq] at he;obtain ⟨rfl,rfl⟩:=he;simp only [Option.map_eq_some_iff] at h;obtain ⟨bs',h1,rfl⟩:=h;obtain ⟨ns,e1,e2⟩:=VA r bs' h1;exact ⟨n::ns,by simp [e1],by simp [e2]⟩
  ·cases h
theorem Qr : ∀(ns:List Int) (s:ByteArray),ns.foldl (fun r n=>r.push (UInt8.ofNat n.toNat)) s=⟨(s.data.toList++ns.map fun n=>UInt8.ofNat n.toNat).toArray⟩
 | [],s=>Zb
 | n::ns,s=>by
  rw [List.foldl_cons,Qr ns];apply ByteArray.ext;simp [ByteArray.push]
theorem KI {P:Program} {X w cl xs v bs} (h:RP X w (.list cl xs) v) (hb:Xi xs=some bs):(∃a l c,v= .slice a l c)/\(Conv.bytesToString v).run P w= .ok (.string ⟨bs.toArray⟩) w:=by
 obtain ⟨ns,rfl,rfl⟩:=VA _ _ hb;generalize hxs:ns.map (PV.int .u8)=xs at h
 cases h with
 | nils =>
  have:ns= []:=by simpa using hxs
  subst this;exact ⟨⟨_,_,_,rfl⟩,by rfl⟩
 | emp _ a cap hc hm ha =>
  have:ns= []:=by simpa using hxs
  subst this;refine ⟨⟨_,_,_,rfl⟩,?_⟩
  cases a with
  | none=>rfl
  | some ad =>
   rfl
 | list _ _ b off cap S u hX hb' hc hm hcl hS hu hr =>
  subst hxs;refine ⟨⟨_,_,_,rfl⟩,?_⟩
  have hl:=run_loadCells_list (P:=P) w ⟨b,off,none⟩ (ns.map (Value.int .u8)) (fun j v hj=>by
   simp only [List.getElem?_map,Option.map_eq_some_iff] at hj;obtain ⟨n,hn,rfl⟩:=hj
   have hx:(ns.map (PV.int .u8))[j]? =some (.int .u8 n):=by simp [hn]
   have hS1:S=1:=by grind [PV.cells]
   have e1:=hu j _ 0 (.int .u8 n) hx (by rfl);have e2:=(hr j _ 0 (.int .u8 n) hx (by rfl)).int_inv
   grind [Addr.add_lit])
  rw [List.length_map] at hl;rw [List.length_map,run_bytesToString (ns:=ns) w _ _ _ hl,Qr]
  rfl
def V9 (P:Program) (H:List Obj) (s t:TypeId) (x:V):Option PV :=
 match P.underlying s,P.underlying t with
 | some (.slice e),some .string=>match P.underlying e,x with
  | some (.int .u8),.p (.list _ xs)=>(Xi xs).map .str
  | some (.int .u8),.sl o off len tot=>match Xv H o with
   | .elems _ xs=>if xs.length=tot/\off+len<=tot then (Xi ((xs.take (off+len)).drop off)).map .str else none
   | _=>none
  | _,_=>none
 | _,_=>none
theorem Co {P:Program} {o:Oper} {fr:List V} {H:List Obj} (s t:TypeId) (x:Operand) (y:PV) (h:o.op= .convert s t x) (hz:V9 P H s t (ev fr x)=some y):PureOp P o fr H (.p y):=fun F ι a w hr hf=>by
 have hx:=hf.ev x;unfold V9 at hz
 split at hz
 rotate_left
 ·cases hz
 rename_i e hs ht
 have go: ∀ {X cl xs bs},RP X w (.list cl xs) (a.eval x)->P.underlying e=some (.int .u8)->Xi xs=some bs-> ∃v,(execOp a.eval o).run P w= .ok (.value v) w/\RV F H ι w (.p (.str bs)) v:=fun {X cl xs bs} hp he hb=>by
  obtain ⟨⟨ad,l,c,ev'⟩,e2⟩:=KI (P:=P) hp hb;refine ⟨.string ⟨bs.toArray⟩,?_,.p _ _ (.str _)⟩
  simp_all [execOp,run_convert_bytes_string]
 split at hz
 ·rename_i cl xs he hv;simp only [Option.map_eq_some_iff] at hz;obtain ⟨bs,hb,rfl⟩:=hz;rw [hv] at hx
  cases hx with | p _ _ hp=>grind
 ·rename_i o' off len tot he hv
  split at hz
  ·rename_i S xs ho
   split at hz
   ·rename_i hc;simp only [Option.map_eq_some_iff] at hz;obtain ⟨bs,hb,rfl⟩:=hz;rw [hv] at hx;exact go (Uv (fun _=>False) (fun _ _ h=>h) (fun b _ hs=>⟨fun h=>h,hs,rfl⟩) hr (Zx ho Zb) hc.1 hc.2 hx) he hb
   ·cases hz
  ·cases hz
 ·cases hz
def ZA (P:Program) (op:Op) (fr:List V) (H:List Obj):Option V :=
 match op with
 | .build t ps=>U6 P H t (ps.toList.map fun x=>(x.1,ev fr x.2))
 | .convert s t x=>match V9 P H s t (ev fr x) with | some y=>some (.p y) | none=>Xh P (.convert s t x) fr H
 | op=>Xh P op fr H
theorem Ke {P:Program} {o:Oper} {fr:List V} {H:List Obj} {y:V} (hz:ZA P o.op fr H=some y):PureOp P o fr H y:=by
 unfold ZA at hz
 grind [Cm,Co,K4]
def Yb (P:Program) (op:Op) (fr:List V) (H:List Obj):Option (V×List Obj) :=
 match op with
 | .alloc t=>(ZC P t).map fun zs=>(.ptr H.length 0,H++ [.cells (zs.map .p)])
 | .box _ x=>(vc H (ev fr x)).map fun cs=>(.ptr H.length 0,H++ [.cells cs])
 | .store t x y=>match Xk P t,vc H (ev fr y) with
  | some n,some cs=>(Vo H n (ev fr x) cs).map fun H'=>(.junk,H')
  | _,_=>none
 | .buildSlice t n ps=>match P.underlying t with
  | some (.slice e)=>match (P.info? e).bind (·.zero) with
   | some _=>BB P H t n (ps.toList.map fun x=>(x.1,ev fr x.2))
   | none=>none
  | _=>none
 | .makeSlice t x y=>match P.underlying t with
  | some (.slice e)=>match YQ P e with
   | some z=>if z.cells.all (·.one)=true then CX P H t (ev fr x) (ev fr y) else none
   | none=>none
  | _=>none
 | .call { callee:= .builtin .append,args:=azs,argTypes:=ts } =>match azs.toList,ts.toList with
  | [x,y],[t,t2]=>Yt P H t t2 (ev fr x) (ev fr y)
  | _,_=>none
 | .call { callee:= .builtin .clear,args:=azs,argTypes:=ts } =>match azs.toList,ts.toList with
  | [x],[t]=>BA P H t (ev fr x)
  | _,_=>none
 | .makeMap _ none=>some (.mp H.length,H++ [.map []])
 | .lookup t x k ok=>Jm P H t (ev fr x) (ev fr k) ok
 | .mapUpdate t x k v=>Jn P H t (ev fr x) (ev fr k) (ev fr v)
 | .mapEntry t x k=>Kc P H t (ev fr x) (ev fr k)
 | .entryStore _ x s v=>W0 H (ev fr x) (ev fr s) (ev fr v)
 | _=>none
theorem BF {P:Program} {o:Oper} {fr:List V} {H H':List Obj} {y:V} (hz:Yb P o.op fr H=some (y,H')):OpS P o fr H y H':=by
 unfold Yb at hz
 split at hz
 ·rename_i t h;simp only [Option.map_eq_some_iff,Prod.mk.injEq] at hz;obtain ⟨zs,h1,rfl,rfl⟩:=hz
  grind [ES]
 ·rename_i t x h;simp only [Option.map_eq_some_iff,Prod.mk.injEq] at hz;obtain ⟨cs,h1,rfl,rfl⟩:=hz
  grind [Lt]
 ·rename_i t x y' h
  split at hz
  ·rename_i n cs h1 h2;simp only [Option.map_eq_some_iff,Prod.mk.injEq] at hz;obtain ⟨H2,h3,rfl,rfl⟩:=hz
   grind [EV]
  ·cases hz
 ·grind [Lu]
 ·grind [G8]
 ·rename_i azs ts h
  split at hz
  ·rename_i x y' t t2 e1 e2;obtain ⟨azs⟩:=azs;obtain ⟨ts⟩:=ts
   grind [Dz]
  ·cases hz
 ·rename_i azs ts h
  split at hz
  ·rename_i x t e1 e2;obtain ⟨azs⟩:=azs;obtain ⟨ts⟩:=ts
   grind [ET]
  ·cases hz
 ·rename_i t h;simp at hz;obtain ⟨rfl,rfl⟩:=hz;exact AR t h
 ·grind [G7]
 ·grind [G9]
 ·grind [Ci]
 ·grind [Cj]
 ·cases hz
def Mp (P:Program) (op:Op) (fr:List V) (H:List Obj):Option (V×List Obj) :=
 match ZA P op fr H with
 | some x=>some (x,H)
 | none=>Yb P op fr H
theorem D3 {P:Program} {o:Oper} {fr:List V} {H H':List Obj} {y:V} (hz:Mp P o.op fr H=some (y,H')):OpS P o fr H y H':=by
 unfold Mp at hz
 split at hz
 ·rename_i x h;simp at hz;obtain ⟨rfl,rfl⟩:=hz;exact (Ke h).ops
 ·exact BF hz
def Wa : Op->Option (Operand×List Operand)
 | .call { callee:= .value f,args:=azs,.. } =>some (f,azs.toList)
 | _=>none
def lS (F:Nat->Prop) (H:List Obj) (ι:List (Option Nat)) (w:World) (xs:List V) (vs:Array Value):Prop :=
 vs.size=xs.length/\ ∀(j:Nat) (c:V),xs[j]? =some c->RV F H ι w c (vs.getD j undef)
def Zf (P:Program) (g:FuncId):Prop:= ∀(args:Array Value) (w:World),(callFunc g args).run P w= .ok (.enter g args) w
def ACalls (P:Program) (g:FuncId) (args:List V) (H:List Obj) (Q:V->List Obj->Prop):Prop :=
 Zf P g/\ ∀F ι w vs,Rel F H ι w->lS F H ι w args vs->Calls P g vs w fun e w'=> ∃x H' ι' v,e= .returned v/\Q x H'/\Good F H ι w H' ι' w'/\RV F H' ι' w' x v
theorem ACalls.mono {P g args H Q Q'} (h:ACalls P g args H Q) (hq: ∀x H',Q x H'->Q' x H'):ACalls P g args H Q' :=
 ⟨h.1,fun F ι w vs hr hv=>(h.2 F ι w vs hr hv).mono fun _ _ ⟨x,H',ι',v,e,q,g,r⟩=>⟨x,H',ι',v,e,hq x H' q,g,r⟩⟩
def UA (P:Program) (f:V) (args:List V) (H:List Obj) (K:V->List Obj->Prop):Prop :=
 match f with
 | .fn (.func g) fs cs=>ACalls P g (fs++args++cs) H K
 | .p (.fn g)=>ACalls P g args H K
 | _=>False
theorem HQ {P:Program} {o:Oper} {fr:List V} {H:List Obj} {f:Operand} {azs:List Operand} {K:V->List Obj->Prop} (ho:Wa o.op=some (f,azs)) (h:UA P (ev fr f) (azs.map (ev fr)) H K)
  {F ι a w} (hr:Rel F H ι w) (hf:Fr F H ι w fr a) {next:Act->World->Prop} {Q:Exit->Act->World->Prop}
  (hn: ∀x H' ι' v w',K x H'->Good F H ι w H' ι' w'->RV F H' ι' w' x v->next (a.put o.dst v) w'):o.wp P a w next Q:=by
 have key: ∀(g:FuncId) (fs cs:List V),RV F H ι w (.fn (.func g) fs cs) (a.eval f)->ACalls P g (fs++azs.map (ev fr)++cs) H K->o.wp P a w next Q:=fun g fs cs hv hA=>by
  clear h;unfold Wa at ho
  split at ho
  rotate_left
  ·cases ho
  rename_i f' as' ts hop;simp at ho;obtain ⟨rfl,rfl⟩:=ho;generalize hfv:a.eval f'=fv at hv
  cases hv with
  | fn _ _ _ a1 a2 hs ht hr1 hq1 =>
   obtain ⟨hfun,hcall⟩:=hA
   have hargs:lS F H ι w (fs++as'.toList.map (ev fr)++cs) (a1++as'.map a.eval++a2):=by
    refine ⟨by simp [hs,ht],fun j c hj=> ?_⟩
    by_cases h1:j<fs.length
    ·rw [List.append_assoc,List.getElem?_append_left h1] at hj
     have e:(a1++as'.map a.eval++a2).getD j undef=a1.getD j undef:=by
      simp_all [Array.getElem?_append_left]
     grind
    ·by_cases h2:j<fs.length+as'.size
     ·rw [List.append_assoc,List.getElem?_append_right Za,List.getElem?_append_left (by simp;omega)] at hj;simp only [List.getElem?_map,Option.map_eq_some_iff] at hj;obtain ⟨y,hy,rfl⟩:=hj
      have e:(a1++as'.map a.eval++a2).getD j undef=a.eval y:=by
       simp only [Array.getD_eq_getD_getElem?]
       grind
      rw [e];exact hf.ev y
     ·rw [List.getElem?_append_right (by simp;omega)] at hj
      have e:(a1++as'.map a.eval++a2).getD j undef=a2.getD (j-(fs++as'.toList.map (ev fr)).length) undef:=by
       simp only [Array.getD_eq_getD_getElem?]
       grind
      grind
   have hc:=hcall F ι w _ hr hargs;unfold Oper.wp
   have hrun:(execOp a.eval o).run P w= .ok (.enter g (a1++as'.map a.eval++a2)) w:=by
    simp [execOp,hop,resolve,Deferred.ofValue,hfv,invoke];exact hfun _ _
   rw [hrun,Oper.upon_enter];refine hc.mono fun e w' ⟨x,H',ι',v,he,q,gd,r⟩=> ?_
   grind
 have hv:=hf.ev f;unfold UA at h
 split at h
 ·grind
 ·rename_i g hfn;rw [hfn] at hv;refine key g [] [] ?_ (by simpa using h)
  cases hv with
  | p _ _ hv =>
   generalize a.eval f=fv at hv
   cases hv
   exact .fn _ _ _ _ _ rfl rfl (fun j c h=>by simp at h) (fun j c h=>by simp at h)
 grind
def Zm (P:Program) (o:Oper) (fr:List V) (H:List Obj) (K:V->List Obj->Prop):Prop :=
 match Wa o.op with
 | some (f,azs)=>UA P (ev fr f) (azs.map (ev fr)) H K
 | none=>match Mp P o.op fr H with
  | some (x,H')=>K x H'
  | none=>False
theorem WX {P:Program} {o:Oper} {fr:List V} {H:List Obj} {K:V->List Obj->Prop} (h:Zm P o fr H K) {F ι a w} (hr:Rel F H ι w) (hf:Fr F H ι w fr a) {next:Act->World->Prop} {Q:Exit->Act->World->Prop}
  (hn: ∀x H' ι' v w',K x H'->Good F H ι w H' ι' w'->RV F H' ι' w' x v->next (a.put o.dst v) w'):o.wp P a w next Q:=by
 unfold Zm at h
 split at h
 ·grind [HQ]
 ·split at h
  ·rename_i x H' ha;obtain ⟨nx,v,ι',w',e,e2,g,r⟩:=D3 ha F ι a w hr hf;unfold Oper.wp;rw [e];rcases e2 with rfl | ⟨rfl,rfl⟩
   ·exact hn x H' ι' v w' h g r
   ·exact hn x H' ι' undef w' h g r
  grind
def Q8 (fr:List V) (ds:List (Option Nat)) (j:Nat):V :=
 match ds[j]? with
 | some (some d)=>gt fr d
 | _=> .junk
def ZF (x:V) (b:Bool) (A B:Prop):Prop :=
 match x with
 | .p (.bool c)=>(c=b->A)/\(c≠b->B)
 | .tup []=>B
 | _=>False
def Z0 (P:Program) (ds:List (Option Nat)):List Oper->List V->List Obj->(List V->List Obj->Prop)->Prop
 | [],fr,H,K=>K fr H
 | o::r,fr,H,K=>match o.guard with
  | none=>Zm P o fr H fun x H'=>Z0 P ds r (YR fr o.dst x) H' K
  | some (j,b)=>ZF (Q8 fr ds j) b (Zm P o fr H fun x H'=>Z0 P ds r (YR fr o.dst x) H' K) (Z0 P ds r (YR fr o.dst (.tup [])) H K)
theorem YD {F H ι w fr a} (hf:Fr F H ι w fr a) {ops:Array Oper} {j:Nat} {c:Bool} (h:Q8 fr (ops.toList.map (·.dst)) j= .p (.bool c)):yielded ops a.tmps j=some c:=by
 unfold Q8 at h
 split at h
 ·rename_i d hd;simp only [List.getElem?_map,Array.getElem?_toList,Option.map_eq_some_iff] at hd;obtain ⟨o,ho,hd⟩:=hd;have hv:=hf.get d;rw [h] at hv
  cases hv with | p _ _ hv =>
  have e:=hv.bool_inv
  have hlt:d<a.tmps.size:=by
   grind [undef]
  simp_all [yielded]
 ·cases h
theorem XR {F H ι w fr a} (hf:Fr F H ι w fr a) {ops:Array Oper} {j:Nat} (h:Q8 fr (ops.toList.map (·.dst)) j= .tup []):yielded ops a.tmps j=none:=by
 unfold Q8 at h
 split at h
 ·rename_i d hd;simp only [List.getElem?_map,Array.getElem?_toList,Option.map_eq_some_iff] at hd;obtain ⟨o,ho,hd⟩:=hd;have hv:=hf.get d;rw [h] at hv;unfold yielded;simp only [ho,Option.bind_some,hd]
  cases ht:a.tmps[d]? with
  | none=>rfl
  | some v =>
   rw [Array.getD_eq_getD_getElem?,ht] at hv;simp only [Option.getD_some] at hv
   cases hv
   rfl
 ·cases h
theorem X2 {F H ι w} :RV F H ι w (.tup []) undef:= .tup [] #[] rfl (fun j c hj=>by simp at hj)
theorem ZM {P:Program} {ops:Array Oper} {Q:Exit->Act->World->Prop} : ∀(l:List Oper) (fr:List V) (H:List Obj) (K:List V->List Obj->Prop),Z0 P (ops.toList.map (·.dst)) l fr H K ->
  ∀F ι a w,Rel F H ι w->Fr F H ι w fr a ->
   (∀fr' H' ι' a' w',K fr' H'->Good F H ι w H' ι' w'->Fr F H' ι' w' fr' a'->Q .normal a' w')->wpList P ops Q l a w
 | [],fr,H,K,h,F,ι,a,w,hr,hf,hq=>hq fr H ι a w h (Good.refl hr) hf
 | o::l,fr,H,K,h,F,ι,a,w,hr,hf,hq=>by
  have step: ∀ {fr:List V} {a:Act},Fr F H ι w fr a->Zm P o fr H (fun x H'=>Z0 P (ops.toList.map (·.dst)) l (YR fr o.dst x) H' K)->o.wp P a w (wpList P ops Q l) Q:=fun hf h =>
   WX h hr hf fun x H' ι' v w' hk g r=>ZM l _ H' K hk F ι' _ w' g.rel ((g.fr hf).put o.dst r)
    fun fr' H2 ι2 a' w2 k2 g2 f2=>hq fr' H2 ι2 a' w2 k2 (g.trans g2) f2
  simp only [Z0] at h;simp only [wpList]
  split at h
  ·rename_i hg
   have hw:Region.wanted o (yielded ops a.tmps)=true:=by simp [Region.wanted,hg]
   rw [if_pos hw];exact .inl (step hf h)
  ·rename_i j b hg;unfold ZF at h
   split at h
   rotate_left
   ·rename_i hc;have hy:=XR hf hc
    have hw: ¬(Region.wanted o (yielded ops a.tmps)=true):=by simp [Region.wanted,hg,hy]
    rw [if_neg hw];exact ZM l _ H K h F ι _ w hr (hf.put o.dst X2) hq
   ·exact h.elim
   rename_i c hc;have hy:=YD hf hc
   by_cases hcb:c=b
   ·have hw:Region.wanted o (yielded ops a.tmps)=true:=by simp [Region.wanted,hg,hy,hcb]
    rw [if_pos hw];exact .inl (step hf (h.1 hcb))
   ·have hw: ¬(Region.wanted o (yielded ops a.tmps)=true):=by simp [Region.wanted,hg,hy,hcb]
    rw [if_neg hw];exact ZM l _ H K (h.2 hcb) F ι _ w hr (hf.put o.dst X2) hq
def AWP (P:Program) (c:Code) (fr:List V) (H:List Obj) (Q:Exit->List V->List Obj->Prop):Prop :=
 ∀F ι a w,Rel F H ι w->Fr F H ι w fr a->c.wp P (fun e a' w'=> ∃fr' H' ι',Q e fr' H'/\Good F H ι w H' ι' w'/\Fr F H' ι' w' fr' a') a w
theorem AWP.mono {P c fr H Q Q'} (h:AWP P c fr H Q) (hq: ∀e fr H,Q e fr H->Q' e fr H):AWP P c fr H Q':=fun F ι a w hr hf =>
 wp_mono (h F ι a w hr hf) fun _ _ _ ⟨fr',H',ι',q,g,f⟩=>⟨fr',H',ι',hq _ _ _ q,g,f⟩
theorem BJ {P id} {ops:Array Oper} {fr H Q} (h:Z0 P (ops.toList.map (·.dst)) ops.toList fr H (Q .normal)):AWP P (.region id ops false) fr H Q:=fun F ι a w hr hf =>
 wp_region_list (ZM _ fr H _ h F ι a w hr hf fun fr' H' ι' _ _ k g f=>⟨fr',H',ι',k,g,f⟩)
theorem FR {P fr H Q} (h:Q .normal fr H):AWP P .skip fr H Q:=fun F ι a w hr hf=>wp_skip ⟨fr,H,ι,h,Good.refl hr,hf⟩
theorem FQ {P fr H Q id} (h:Q (.exit id) fr H):AWP P (.exit id) fr H Q:=fun F ι a w hr hf=>wp_exit ⟨fr,H,ι,h,Good.refl hr,hf⟩
theorem IB {P fr H Q} (h:Q .ret fr H):AWP P .ret fr H Q:=fun F ι a w hr hf=>wp_ret ⟨fr,H,ι,h,Good.refl hr,hf⟩
def Y4 (A:List V->List Obj->Prop) (Q:Exit->List V->List Obj->Prop):Exit->List V->List Obj->Prop
 | .normal,fr,H=>A fr H
 | e,fr,H=>Q e fr H
theorem ZI {P x y fr H Q} (h:AWP P x fr H (Y4 (fun fr H=>AWP P y fr H Q) Q)):AWP P (.seq x y) fr H Q:=fun F ι a w hr hf=>by
 refine wp_seq (wp_mono (h F ι a w hr hf) ?_);rintro e a' w' ⟨fr',H',ι',q,g,f⟩
 cases e with
 | normal =>
  refine wp_mono (q F ι' a' w' g.rel f) ?_;rintro e2 a2 w2 ⟨fr2,H2,ι2,q2,g2,f2⟩;exact ⟨fr2,H2,ι2,q2,g.trans g2,f2⟩
 | exit id=>exact ⟨fr',H',ι',q,g,f⟩
 | goto l=>exact ⟨fr',H',ι',q,g,f⟩
 | ret=>exact ⟨fr',H',ι',q,g,f⟩
 | panic ch=>exact ⟨fr',H',ι',q,g,f⟩
 | outgrown=>exact ⟨fr',H',ι',q,g,f⟩
def YN (id:Nat) (Q:Exit->List V->List Obj->Prop):Exit->List V->List Obj->Prop
 | .exit id',fr,H=>if id'=id then Q .normal fr H else Q (.exit id') fr H
 | e,fr,H=>Q e fr H
theorem Ed {P id c fr H Q} (h:AWP P c fr H (YN id Q)):AWP P (.block id c) fr H Q:=fun F ι a w hr hf=>by
 refine wp_block (wp_mono (h F ι a w hr hf) ?_);rintro e a' w' ⟨fr',H',ι',q,g,f⟩
 cases e with
 | exit id' =>
  simp only [Exit.inBlock]
  by_cases Ax:id'=id
  ·simp only [YN,Ax,if_true] at q ⊢;grind
  ·simp only [YN,Ax,if_false] at q ⊢;grind
 | normal=>exact ⟨fr',H',ι',q,g,f⟩
 | goto l=>exact ⟨fr',H',ι',q,g,f⟩
 | ret=>exact ⟨fr',H',ι',q,g,f⟩
 | panic ch=>exact ⟨fr',H',ι',q,g,f⟩
 | outgrown=>exact ⟨fr',H',ι',q,g,f⟩
def Yd (x:V) (A B:Prop):Prop :=
 match x with
 | .p (.bool b)=>(b=true->A)/\(b=false->B)
 | _=>False
theorem FP {P c x y fr H Q} (h:Yd (ev fr c) (AWP P x fr H Q) (AWP P y fr H Q)):AWP P (.cond c x y) fr H Q:=fun F ι a w hr hf=>by
 unfold Yd at h
 split at h
 rotate_left
 ·exact h.elim
 rename_i b hb;have hv:=hf.ev c;rw [hb] at hv
 cases hv with | p _ _ hv =>
 exact wp_cond_split hv.bool_inv (fun e=>h.1 e F ι a w hr hf) (fun e=>h.2 e F ι a w hr hf)
def Ax : Code->Option Nat
 | .region id _ _=>some id
 | .seq x _=>Ax x
 | .block _ c=>Ax c
 | _=>none
def Wp (cuts:List Nat) (P:Program):Code->List V->List Obj->(Exit->List V->List Obj->Prop)->Prop
 | .skip,fr,H,Q=>Q .normal fr H
 | .region id ops d,fr,H,Q=>if d then AWP P (.region id ops true) fr H Q else Z0 P (ops.toList.map (·.dst)) ops.toList fr H (Q .normal)
 | .seq x y,fr,H,Q=>if (match Ax x with | some i=>cuts.contains i | none=>false)=true then AWP P (.seq x y) fr H Q else Wp cuts P x fr H (Y4 (fun fr H=>Wp cuts P y fr H Q) Q)
 | .cond c x y,fr,H,Q=>Yd (ev fr c) (Wp cuts P x fr H Q) (Wp cuts P y fr H Q)
 | .block id c,fr,H,Q=>Wp cuts P c fr H (YN id Q)
 | .exit id,fr,H,Q=>Q (.exit id) fr H
 | .ret,fr,H,Q=>Q .ret fr H
 | c,fr,H,Q=>AWP P c fr H Q
theorem DZ {x:V} {A B A' B':Prop} (h:Yd x A B) (ha:A->A') (hb:B->B'):Yd x A' B':=by
 unfold Yd at *
 grind
theorem Zc (cuts:List Nat) {P:Program} : ∀(c:Code) (fr:List V) (H:List Obj) (Q:Exit->List V->List Obj->Prop),Wp cuts P c fr H Q->AWP P c fr H Q
 | .skip,fr,H,Q,h=>FR h
 | .region id ops d,fr,H,Q,h=>by
  grind [BJ,Wp]
 | .seq x y,fr,H,Q,h=>by
  rw [Wp] at h;generalize (match Ax x with | some i=>cuts.contains i | none=>false)=b at h
  cases b
  rotate_left
  ·simpa using h
  ·simp only [Bool.false_eq_true,if_false] at h
   exact ZI ((Zc cuts x fr H _ h).mono fun e fr H hq=>by
    cases e with
    | normal=>exact Zc cuts y fr H Q hq
    | _=>exact hq)
 | .cond c x y,fr,H,Q,h=>FP (DZ h (Zc cuts x fr H Q) (Zc cuts y fr H Q))
 | .block id c,fr,H,Q,h=>Ed (Zc cuts c fr H _ h)
 | .exit id,fr,H,Q,h=>FQ h
 | .ret,fr,H,Q,h=>IB h
 | .loop c,fr,H,Q,h=>h
 | .rangeFunc _ _ _ _,fr,H,Q,h=>h
 | .scope c,fr,H,Q,h=>h
 | .label _,fr,H,Q,h=>h
 | .goto _,fr,H,Q,h=>h
 | .refuse _,fr,H,Q,h=>h
end Go.AM
namespace Go.AM
open Go.RowKit
def Weak (n0:Nat) (fr:List V) (H:List Obj) (fr':List V) (H':List Obj):Prop :=
 ∀F ι a w,Rel F H ι w->Fr F H ι w fr a-> ∃ι',Rel F H' ι' w/\Fr F H' ι' w fr' a/\ ∀H0 ι0 w0,H0.length<=n0->Good F H0 ι0 w0 H ι w->Good F H0 ι0 w0 H' ι' w
theorem Weak.refl (n0 fr H):Weak n0 fr H fr H:=fun _ ι _ _ hr hf=>⟨ι,hr,hf,fun _ _ _ _ h=>h⟩
theorem Weak.trans {n0 fr H fr' H' fr'' H''} (h:Weak n0 fr H fr' H') (k:Weak n0 fr' H' fr'' H''):Weak n0 fr H fr'' H'':=fun F ι a w hr hf=>by
 obtain ⟨ι',r,f,g⟩:=h F ι a w hr hf;obtain ⟨ι'',r2,f2,g2⟩:=k F ι' a w r f
 grind
theorem Zp {P c fr H fr' H' Q} (h:Weak H.length fr H fr' H') (k:AWP P c fr' H' Q):AWP P c fr H Q:=fun F ι a w hr hf=>by
 obtain ⟨ι',r,f,g⟩:=h F ι a w hr hf;refine wp_mono (k F ι' a w r f) ?_;rintro e a' w' ⟨fr2,H2,ι2,q,g2,f2⟩;exact ⟨fr2,H2,ι2,q,(g H ι w (Nat.le_refl _) (Good.refl hr)).trans g2,f2⟩
theorem Aa {P c fr H Q} {I:Type} (R:I->Prop) (st:I->List V) (hs:I->List Obj) (μ:I->Nat) (i0:I) (hR:R i0) (h0:Weak H.length fr H (st i0) (hs i0))
  (round: ∀i,R i->AWP P c (st i) (hs i) (Y4 (fun fr' H'=> ∃i',R i'/\μ i'<μ i/\Weak H.length fr' H' (st i') (hs i')) Q)):AWP P (.loop c) fr H Q:=fun F ι a w hr hf=>by
 obtain ⟨ι0,r0,f0,g0⟩:=h0 F ι a w hr hf;refine wp_loop_ghost (fun n a' w'=> ∃i,R i/\μ i=n/\ ∃ι',Rel F (hs i) ι' w'/\Fr F (hs i) ι' w' (st i) a'/\Good F H ι w (hs i) ι' w') (μ i0) ⟨i0,hR,rfl,ι0,r0,f0,g0 H ι w (Nat.le_refl _) (Good.refl hr)⟩ ?_;rintro n a1 w1 ⟨i,hi,rfl,ι1,r1,f1,g1⟩;refine wp_mono (round i hi F ι1 a1 w1 r1 f1) ?_;rintro e a2 w2 ⟨fr2,H2,ι2,q,g2,f2⟩
 cases e with
 | normal =>
  obtain ⟨i',hi',hμ,hw⟩:=q;obtain ⟨ι3,r3,f3,g3⟩:=hw F ι2 a2 w2 g2.rel f2;exact ⟨μ i',hμ,i',hi',rfl,ι3,r3,f3,g3 H ι w (Nat.le_refl _) (g1.trans g2)⟩
 | exit id=>exact ⟨fr2,H2,ι2,q,g1.trans g2,f2⟩
 | goto l=>exact ⟨fr2,H2,ι2,q,g1.trans g2,f2⟩
 | ret=>exact ⟨fr2,H2,ι2,q,g1.trans g2,f2⟩
 | panic ch=>exact ⟨fr2,H2,ι2,q,g1.trans g2,f2⟩
 | outgrown=>exact ⟨fr2,H2,ι2,q,g1.trans g2,f2⟩
mutual
/-- all objects that a value leads to are below n -/
def refB (n:Nat):V->Bool
 | .p _=>true
 | .agg cs=>Zy n cs
 | .fn _ a b=>Zy n a&&Zy n b
 | .ptr o _=>decide (o<n)
 | .ep o _ _ _=>decide (o<n)
 | .sl o _ _ _=>decide (o<n)
 | .lp _ _=>true
 | .tup cs=>Zy n cs
 | .mp o=>decide (o<n)
 | .bp o=>decide (o<n)
 | .err=>true
 | .junk=>true
def Zy (n:Nat):List V->Bool
 | []=>true
 | x::l=>refB n x&&Zy n l
end
theorem ZB {n:Nat} : ∀ {l:List V},Zy n l=true-> ∀(j:Nat) (x:V),l[j]? =some x->refB n x=true
 | [],_,j,x,h=>by simp at h
 | y::l,hh,j,x,h=>by
  simp [Zy] at hh
  cases j with
  | zero=>simp at h;subst h;exact hh.1
  | succ j=>exact ZB hh.2 j x (by simpa using h)
theorem RV.cut {F H ι w n x v} (hr:Rel F H ι w) (h:RV F H ι w x v) (hn:refB n x=true):RV F (H.take n) (ι.take n) w x v:=by
 have hX:Keeps (Own F ι) w (Own F (ι.take n)) w:=fun b hb hs=>⟨fun h=>hb (h.imp id (List.mem_of_mem_take)),hs,rfl⟩;have gi: ∀ {o:Nat},o<n->(ι.take n)[o]? =ι[o]? :=fun h=>List.getElem?_take_of_lt h;have gH: ∀ {o:Nat},o<n->(H.take n)[o]? =H[o]? :=fun h=>List.getElem?_take_of_lt h
 induction h with
 | p x v h=>exact .p _ _ (h.ext hX)
 | agg cs a hs _ ih=>exact .agg cs a hs fun j c hj=>ih j c hj (ZB (by simpa [refB] using hn) j c hj)
 | fn f cs ds a e hs ht _ _ ih1 ih2 =>
  simp [refB] at hn;exact .fn f cs ds a e hs ht (fun j c hj=>ih1 j c hj (ZB hn.1 j c hj)) (fun j c hj=>ih2 j c hj (ZB hn.2 j c hj))
 | tup cs a hs _ ih=>exact .tup cs a hs fun j c hj=>ih j c hj (ZB (by simpa [refB] using hn) j c hj)
 | ptr o off b cs h hH=>simp [refB] at hn;exact .ptr _ _ b cs (by rw [gi hn];exact h) (by rw [gH hn];exact hH)
 | ep o i j tot b S xs h hH ht=>simp [refB] at hn;exact .ep _ _ _ _ b S xs (by rw [gi hn];exact h) (by rw [gH hn];exact hH) ht
 | slNil o S a h hH=>simp [refB] at hn;exact .slNil _ S a (by rw [gi hn];exact h) (by rw [gH hn];exact hH)
 | sl o off len tot b S cap t xs c h hH ht hw hcap hl hlen hm=>simp [refB] at hn;exact .sl _ _ _ _ b S cap t xs c (by rw [gi hn];exact h) (by rw [gH hn];exact hH) ht hw hcap hl hlen hm
 | lp x j b off u hX' hb hu hq=>exact .lp x j b off u (hX b hX' hb).1 hb hu (fun j c hj=>(hq j c hj).ext hX)
 | mp o b es h hH=>simp [refB] at hn;exact .mp _ b es (by rw [gi hn];exact h) (by rw [gH hn];exact hH)
 | mpD o v h=>simp [refB] at hn;exact .mpD _ _ (by rw [gH hn];exact h)
 | bp o b T E r bs h hH=>simp [refB] at hn;exact .bp _ b T E r bs (by rw [gi hn];exact h) (by rw [gH hn];exact hH)
 | bpD o v h=>simp [refB] at hn;exact .bpD _ _ (by rw [gH hn];exact h)
 | err t p=>exact .err t p
 | junk v=>exact .junk v
 | ptrD o off v h=>simp [refB] at hn;exact .ptrD _ _ _ (by rw [gH hn];exact h)
 | epD o i j tot v h=>simp [refB] at hn;exact .epD _ _ _ _ _ (by rw [gH hn];exact h)
 | slD o off len tot v h=>simp [refB] at hn;exact .slD _ _ _ _ _ (by rw [gH hn];exact h)
 | epS o i j tot v S xs h hne=>simp [refB] at hn;exact .epS _ _ _ _ _ S xs (by rw [gH hn];exact h) hne
 | slS o off len tot v S xs h hne=>simp [refB] at hn;exact .slS _ _ _ _ _ S xs (by rw [gH hn];exact h) hne
 | slC o tot b cap cs h hH hl hm=>simp [refB] at hn;exact .slC _ _ b cap cs (by rw [gi hn];exact h) (by rw [gH hn];exact hH) hl hm
def HY (H:List Obj) (n:Nat):V->Option PV
 | .sl o off len tot=>match Xv H o with
  | .elems _ xs=>if n<=o/\xs.length=tot/\off+len<=tot then some (.list false ((xs.take (off+len)).drop off)) else none
  | _=>none
 | _=>none
def Q5 (H:List Obj) (n:Nat) (x x':V):Prop:=x'= .junk\/(x'=x/\refB n x=true)\/ ∃y,HY H n x=some y/\x'= .p y
def DW (H:List Obj) (n:Nat):List V->List V->Prop
 | [],[]=>True
 | x::l,x'::l'=>Q5 H n x x'/\DW H n l l'
 | _,_=>False
def UT (H:List Obj) (n:Nat) (x x':Obj):Prop :=
 match x,x' with
 | .cells cs,.cells cs'=>DW H n cs cs'
 | .elems S xs,.elems S' xs'=>S=S'/\xs=xs'
 | .map es,.map es'=>es=es'
 | .bld T E r bs,.bld T' E' r' bs'=>(T=T'/\E=E'/\r=r'/\bs=bs')/\r<n
 | .dead,.dead=>True
 | _,_=>False
def Bs (H:List Obj) (n:Nat):List Obj->List Obj->Prop
 | _,[]=>True
 | x::l,x'::l'=>UT H n x x'/\Bs H n l l'
 | [],_::_=>False
theorem KS {H n} : ∀ {l l':List V},DW H n l l'->l'.length=l.length/\ ∀(j:Nat) (x':V),l'[j]? =some x'-> ∃x,l[j]? =some x/\Q5 H n x x'
 | [],[],_=>⟨rfl,fun j x h=>by simp at h⟩
 | y::l,y'::l',h=>by
  obtain ⟨e,hh⟩:=KS h.2;refine ⟨by simp [e],fun j x' hj=> ?_⟩
  cases j with
  | zero=>simp at hj;subst hj;exact ⟨y,Zb,h.1⟩
  | succ j=>obtain ⟨x,h1,h2⟩:=hh j x' (by simpa using hj);exact ⟨x,by simpa using h1,h2⟩
 | [],_::_,h=>h.elim
 | _::_,[],h=>h.elim
theorem DX {H n} : ∀ {l l':List Obj},Bs H n l l'-> ∀(j:Nat) (x':Obj),l'[j]? =some x'-> ∃x,l[j]? =some x/\UT H n x x'
 | _,[],_,j,x',h=>by simp at h
 | y::l,y'::l',h,j,x',hj=>by
  cases j with
  | zero=>simp at hj;subst hj;exact ⟨y,Zb,h.1⟩
  | succ j=>obtain ⟨x,h1,h2⟩:=DX h.2 j x' (by simpa using hj);exact ⟨x,by simpa using h1,h2⟩
 | [],_::_,h,_,_,_=>h.elim
theorem Weak.of {n0 fr H fr' H'} (hn:n0<=H'.length) (hf:DW H H'.length fr fr') (hh:Bs H H'.length H H') (hl:H'.length<=H.length):Weak n0 fr H fr' H':=fun F ι a w hr hfr=>by
 have hH': ∀(o:Nat) (x':Obj),H'[o]? =some x'-> ∃x,H[o]? =some x/\UT H H'.length x x':=DX hh;have gi: ∀ {o:Nat},o<H'.length->(ι.take H'.length)[o]? =ι[o]? :=fun h=>List.getElem?_take_of_lt h;have hX:Keeps (Own F ι) w (Own F (ι.take H'.length)) w:=fun b hb hs=>⟨fun h=>hb (h.imp id (List.mem_of_mem_take)),hs,rfl⟩
 -- one value
 have hval: ∀ {x x' v},RV F H ι w x v->Q5 H H'.length x x'->RV F (H.take H'.length) (ι.take H'.length) w x' v:=fun {x x' v} hv hw=>by
  rcases hw with rfl | ⟨rfl,hb⟩ | ⟨y,hy,rfl⟩
  ·exact .junk _
  ·exact hv.cut hr hb
  ·unfold HY at hy
   split at hy
   ·rename_i o off len tot
    split at hy
    ·rename_i S xs ho;have hHo:=Zx ho Zb
     split at hy
     ·rename_i hc;simp at hy;subst hy;refine .p _ _ (Uv _ (fun b hb h=> ?_) hX hr hHo hc.2.1 hc.2.2 hv);rcases h with h | h
      ·exact (hr.avo o b hb).1 h
      ·obtain ⟨i,hi⟩:=List.mem_iff_getElem?.1 h;have hlt:=(List.getElem?_eq_some_iff.1 hi).1;simp at hlt;rw [List.getElem?_take_of_lt Za] at hi;have:=hr.inj i o b hi hb;omega
     ·cases hy
    ·cases hy
   ·cases hy
 -- from the cut heap to H'
 have hHX:HX (H.take H'.length) (ι.take H'.length) w H' (ι.take H'.length) w:=fun o ob ho=>by
  have hlt:=(List.getElem?_eq_some_iff.1 ho).1;simp at hlt;rw [List.getElem?_take_of_lt Za] at ho;obtain ⟨x,h1,h2⟩:=hH' o (H'[o]'(Za)) Zb;rw [ho] at h1;simp at h1;subst h1
  have e':H'[o]? =some (H'[o]'(Za)):=Zb
  generalize H'[o]'(Za)=x' at h2 e'
  cases ob<;>cases x'<;>simp only [UT] at h2
  ·grind
  ·grind
  ·grind
  ·grind
  grind
 have hval2: ∀ {x x' v},RV F H ι w x v->Q5 H H'.length x x'->RV F H' (ι.take H'.length) w x' v:=fun hv hw=>(hval hv hw).ext (Keeps.refl _ _) hHX
 have hrel:Rel F H' (ι.take H'.length) w:=by
  refine ⟨⟨by have:=hr.len;simp;omega,hr.fin,fun i j b hi hj=> ?_,fun i b hi=> ?_,fun o cs ho=> ?_,fun o S xs ho=> ?_,fun o es ho=> ?_,fun o T E r bs ho=> ?_⟩,hr.env.le fun b hb=>hb.imp id fun h=>List.mem_of_mem_take h⟩
  ·have h1:=(List.getElem?_eq_some_iff.1 hi).1;have h2:=(List.getElem?_eq_some_iff.1 hj).1;simp at h1 h2;rw [gi Za] at hi;rw [gi Za] at hj;exact hr.inj i j b hi hj
  ·have h1:=(List.getElem?_eq_some_iff.1 hi).1;simp at h1;rw [gi Za] at hi;exact hr.avo i b hi
  ·obtain ⟨x,h1,h2⟩:=hH' o _ ho;have hlt:=(List.getElem?_eq_some_iff.1 ho).1
   cases x<;>simp only [UT] at h2
   rename_i cs0;obtain ⟨b,c,t,e1,e2,e3,e4⟩:=hr.cel o cs0 h1;obtain ⟨g1,g2⟩:=KS h2
   grind
  ·obtain ⟨x,h1,h2⟩:=hH' o _ ho;have hlt:=(List.getElem?_eq_some_iff.1 ho).1
   cases x<;>simp only [UT] at h2
   obtain ⟨rfl,rfl⟩:=h2;rcases hr.elm o _ _ h1 with ⟨e1,e2⟩ | ⟨b,c,t,cap,e1,e2,e3,e4,e5,e6,e7⟩
   ·grind
   ·exact .inr ⟨b,c,t,cap,by grind,e2,e3,e4,e5,e6,fun i x j y hi hj=>(e7 i x j y hi hj).ext hX⟩
  ·obtain ⟨x,h1,h2⟩:=hH' o _ ho;have hlt:=(List.getElem?_eq_some_iff.1 ho).1
   cases x<;>simp only [UT] at h2
   subst h2;obtain ⟨b,a',k,e1,e2,e3⟩:=hr.mpr o _ h1;exact ⟨b,a',k,by grind,e2,e3.ext hX⟩
  ·obtain ⟨x,h1,h2⟩:=hH' o _ ho;have hlt:=(List.getElem?_eq_some_iff.1 ho).1
   cases x<;>simp only [UT] at h2
   obtain ⟨hq,hrl⟩:=h2;rw [hq.2.2.1] at hrl;have e':=List.getElem?_eq_getElem hrl;obtain ⟨y,p1,p2⟩:=hH' _ _ e';generalize H'[r]'hrl=z at p2 e';obtain ⟨rfl,rfl,rfl,rfl⟩:=hq;obtain ⟨d0,d1,b,go,e1,e2,e3⟩:=hr.bldr o _ _ _ _ h1
   grind [UT]
 obtain ⟨q1,q2⟩:=KS hf;refine ⟨ι.take H'.length,hrel,⟨by have:=hfr.1;omega,hfr.2.1,fun i x' hi=> ?_⟩,fun H0 ι0 w0 hl0 hg=> ?_⟩
 ·obtain ⟨x,p1,p2⟩:=q2 i x' hi;exact hval2 (hfr.2.2 i x p1) p2
 ·refine ⟨hrel,hg.os,hg.tape,hg.output,fun b c t h=>(hg.shape b c t h).imp (fun h=>⟨h.1,fun h2=>h.2 (List.mem_of_mem_take h2)⟩) id,hg.size,hg.keep,fun b hb ho h=>hg.own b hb ho (List.mem_of_mem_take h),fun o ob ho=> ?_⟩;have hlt:=(List.getElem?_eq_some_iff.1 ho).1
  have hlt2:o<H'.length:=Za
  have e1:=hg.hx o ob ho;obtain ⟨x,p1,p2⟩:=hH' o H'[o] Zb
  have e':H'[o]? =some H'[o]:=Zb
  generalize H'[o]=x' at p2 e';rcases e1 with e1 | e1
  ·grind [UT]
  ·cases ob with
   | dead=>exact e1.elim
   | cells cs =>
    obtain ⟨⟨cs',e2⟩,e3⟩:=e1;rw [e2] at p1;simp at p1;subst p1
    cases x'<;>simp only [UT] at p2
    grind
   | map es =>
    obtain ⟨⟨es',e2⟩,e3⟩:=e1;rw [e2] at p1;simp at p1;subst p1
    cases x'<;>simp only [UT] at p2
    grind
   | bld T E r bs =>
    obtain ⟨⟨bs',e2⟩,e3⟩:=e1;rw [e2] at p1;simp at p1;subst p1
    cases x'<;>simp only [UT] at p2
    grind
   | elems S xs =>
    obtain ⟨xs',e2,e3⟩:=e1;rw [e2] at p1;simp at p1;subst p1
    cases x'<;>simp only [UT] at p2
    grind
theorem Weak.nil {n0 fr H} (t S:Nat) (h:gt fr t= .p (.list true [])) (hn:n0<=H.length):Weak n0 fr H (pt fr t (.sl H.length 0 0 0)) (H++ [.elems S []]):=fun F ι a w hr hf=>by
 have g:=Wf hr S;refine ⟨ι++ [none],g.rel,?_,fun H0 ι0 w0 _ hg=>hg.trans g⟩;have hv:=hf.get t;rw [h] at hv;have hf':=g.fr hf;obtain ⟨h1,h2,h3⟩:=hf';refine ⟨by simp [X6,h1],h2,fun i x hi=> ?_⟩;rw [X6,List.getElem?_set] at hi
 split at hi
 ·rename_i e;subst e
  split at hi
  ·simp at hi;subst hi
   cases hv with | p _ _ hv =>
   generalize a.tmps.getD t undef=v at hv
   cases hv with
   | nils=>exact .slNil _ S none (by rw [<- hr.len];simp) Zb
   | emp _ ad cap hc hm ha=>rw [hc rfl];exact .slNil _ S ad (by rw [<- hr.len];simp) Zb
   | list _ _ b off cap S' u hX hb hc hm hcl =>
    have:cap=0:=by grind
    subst this;exact .slNil _ S _ (by rw [<- hr.len];simp) Zb
  ·cases hi
 grind
end Go.AM
namespace Go.AM
open Go.RowKit
def E6 (P:Program) (fr:List V) (H:List Obj):ResultVar->Option V
 | .tmp t=>some (gt fr t)
 | .cell a t=>Vx P H t (gt fr a)
def Xr (P:Program) (fr:List V) (H:List Obj):List ResultVar->Option (List V)
 | []=>some []
 | r::l=>match E6 P fr H r,Xr P fr H l with
  | some x,some xs=>some (x::xs)
  | _,_=>none
def WV : List V->V
 | [x]=>x
 | xs=> .tup xs
def UR (P:Program) (rs:List ResultVar) (Q:V->List Obj->Prop):Exit->List V->List Obj->Prop
 | .normal,fr,H=>match Xr P fr H rs with | some xs=>Q (WV xs) H | none=>False
 | .ret,fr,H=>match Xr P fr H rs with | some xs=>Q (WV xs) H | none=>False
 | _,_,_=>False
theorem Hz {P F H ι w fr a r x} (hr:Rel F H ι w) (hf:Fr F H ι w fr a) (h:E6 P fr H r=some x) :
  ∃v,(match r with
   | .tmp t=>pure (a.tmps.getD t undef)
   | .cell b t=>do loadVar t (<- asAddr (a.tmps.getD b undef)):Sem Value).run P w= .ok v w/\RV F H ι w x v:=by
 cases r with
 | tmp t=>simp [E6] at h;subst h;exact ⟨_,rfl,hf.get t⟩
 | cell b t =>
  simp only [E6] at h;obtain ⟨u,e,r⟩:=JX h hr (hf.get b);refine ⟨u,?_,r⟩
  show (do loadVar t (<- asAddr (a.tmps.getD b undef)):Sem Value).run P w=_
  generalize a.tmps.getD b undef=v at e ⊢
  cases v<;>try (simp [Instr.loadAt,Instr.sureAddr,stuck] at e;done)
  rename_i o
  cases o with
  | none=>simp_all [Instr.loadAt,Instr.sureAddr]
  | some ad=>grind [Instr.loadAt,Instr.sureAddr,asAddr]
theorem QW {P F H ι w fr a} (hr:Rel F H ι w) (hf:Fr F H ι w fr a): ∀(rs:List ResultVar) (xs:List V),Xr P fr H rs=some xs ->
  ∃vs:List Value,((rs.mapM fun
   | .tmp t=>pure (a.tmps.getD t undef)
   | .cell b t=>do loadVar t (<- asAddr (a.tmps.getD b undef)):Sem (List Value))).run P w= .ok vs w/\vs.length=xs.length/\ ∀(j:Nat) (x:V),xs[j]? =some x-> ∃v,vs[j]? =some v/\RV F H ι w x v
 | [],xs,h=>by simp [Xr] at h;simp_all
 | r::l,xs,h=>by
  simp only [Xr] at h
  split at h
  ·rename_i x xs' h1 h2;simp at h;subst h;obtain ⟨v,e,rv⟩:=Hz (P:=P) hr hf h1;obtain ⟨vs,e2,hl,hv⟩:=QW hr hf l xs' h2;refine ⟨v::vs,?_,by simp [hl],fun j y hj=> ?_⟩
   ·rw [List.mapM_cons];simp only [Sem.run_bind,e,e2,Result.andThen_ok,Sem.run_pure]
   ·cases j with
    | zero=>simp at hj;subst hj;exact ⟨v,Zb,rv⟩
    | succ j=>obtain ⟨u,h1,h2⟩:=hv j y (by simpa using hj);exact ⟨u,by simpa using h1,h2⟩
  ·cases h
theorem UM {P F H ι w fr a} {fn:Func} {xs:List V} (hr:Rel F H ι w) (hf:Fr F H ι w fr a) (h:Xr P fr H fn.results.toList=some xs) :
  ∃v,(results fn a.tmps).run P w= .ok v w/\RV F H ι w (WV xs) v:=by
 obtain ⟨vs,e,hl,hv⟩:=QW hr hf _ _ h
 have hvs:vs.toArray.size=xs.length:=Za
 have hget: ∀(j:Nat) (c:V),xs[j]? =some c->RV F H ι w c (vs.toArray.getD j undef):=fun j c hj=>by
  obtain ⟨v,e1,e2⟩:=hv j c hj
  simp_all
 refine ⟨if h:vs.toArray.size=1 then vs.toArray[0] else .tuple vs.toArray,?_,?_⟩
 ·unfold results;simp only [Array.mapM_eq_mapM_toList,Sem.run_bind,Sem.run_map,Sem.run_pure]
  erw [e]
  rfl
 ·match xs,hvs,hget with
  | [],hvs,hget=>simp at hvs;subst hvs;exact .tup _ _ rfl (fun j c hj=>by simp at hj)
  | [x],hvs,hget =>
   have:=hget 0 x rfl
   split
   ·rename_i h1;simpa [Array.getD,h1,WV] using this
   grind
  | x::y::l,hvs,hget =>
   split
   ·grind
   ·exact .tup _ _ hvs hget
theorem Xu {P:Program} {g:FuncId} {fn:Func} {c:Code} {args:List V} {H:List Obj} {Q:V->List Obj->Prop} (hf:P.funcs[g]? =some fn) (hb:fn.body=some c) (hg:Zf P g)
  (h:AWP P c (args++List.replicate (fn.ntmps-args.length) .junk) H (UR P fn.results.toList Q)):ACalls P g args H Q:=by
 refine ⟨hg,fun F ι w vs hr hv=> ?_⟩;refine calls_of_wp hf hb ?_
 have hfr:Fr F H ι w (args++List.replicate (fn.ntmps-args.length) .junk) { tmps:=vs++Array.replicate (fn.ntmps-vs.size) undef,defers:= [] } :=by
  refine ⟨by simp [hv.1],rfl,fun i x hi=> ?_⟩
  by_cases hlt:i<args.length
  ·rw [List.getElem?_append_left hlt] at hi
   have e:(vs++Array.replicate (fn.ntmps-vs.size) undef).getD i undef=vs.getD i undef:=by
    simp only [Array.getD_eq_getD_getElem?]
    grind
   simp only [e];exact hv.2 i x hi
  ·rw [List.getElem?_append_right Za] at hi
   have:x= .junk:=by
    grind
   subst this;exact .junk _
 refine wp_mono (h F ι _ w hr hfr) ?_;rintro e a' w' ⟨fr',H',ι',q,g,f⟩
 cases e with
 | normal =>
  simp only [UR] at q
  split at q
  ·rename_i xs hx;obtain ⟨v,e1,e2⟩:=UM (P:=P) g.rel f hx;exact ⟨f.2.1,v,e1,_,H',ι',v,rfl,q,g,e2⟩
  grind
 | ret =>
  simp only [UR] at q
  split at q
  ·rename_i xs hx;obtain ⟨v,e1,e2⟩:=UM (P:=P) g.rel f hx;exact ⟨f.2.1,v,e1,_,H',ι',v,rfl,q,g,e2⟩
  grind
 | exit id=>exact q.elim
 | goto l=>exact q.elim
 | panic ch=>exact q.elim
 | outgrown=>exact q.elim
mutual
/-- a value of a heap that is laid behind n objects -/
def Bf (n:Nat):V->V
 | .p x=> .p x
 | .agg cs=> .agg (Wl n cs)
 | .fn f a b=> .fn f (Wl n a) (Wl n b)
 | .ptr o off=> .ptr (n+o) off
 | .ep o i j tot=> .ep (n+o) i j tot
 | .sl o off len tot=> .sl (n+o) off len tot
 | .lp x j=> .lp x j
 | .tup cs=> .tup (Wl n cs)
 | .mp o=> .mp (n+o)
 | .bp o=> .bp (n+o)
 | .err=> .err
 | .junk=> .junk
def Wl (n:Nat):List V->List V
 | []=> []
 | x::l=>Bf n x::Wl n l
end
def CF (n:Nat):Obj->Obj
 | .cells cs=> .cells (Wl n cs)
 | .elems S xs=> .elems S xs
 | .map es=> .map es
 | .bld T E r bs=> .bld T E (n+r) bs
 | .dead=> .dead
theorem YL (n:Nat): ∀(l:List V),Wl n l=l.map (Bf n)
 | []=>rfl
 | x::l=>by simp [Wl,YL n l]
theorem Wi {F:Nat->Prop} {ι ι1:List (Option Nat)} :Own (Own F ι) ι1=Own F (ι++ι1):=by
 funext b
 simp [Own,or_assoc]
theorem RV.sh {F H ι H1 ι1 w x v} (hl:ι.length=H.length) (h:RV (Own F ι) H1 ι1 w x v):RV F (H++H1.map (CF H.length)) (ι++ι1) w (Bf H.length x) v:=by
 have gi: ∀(o:Nat),(ι++ι1)[H.length+o]? =ι1[o]? :=fun o=>by rw [List.getElem?_append_right Za];congr 1;omega
 have gH: ∀(o:Nat) (x:Obj),H1[o]? =some x->(H++H1.map (CF H.length))[H.length+o]? =some (CF H.length x):=fun o x h=>by
  rw [List.getElem?_append_right Za];rw [show H.length+o-H.length=o by omega];simp [h]
 have sub: ∀ {cs:List V} {a:Array Value},(∀(j:Nat) (c:V),cs[j]? =some c->RV F (H++H1.map (CF H.length)) (ι++ι1) w (Bf H.length c) (a.getD j undef))-> ∀(j:Nat) (c:V),(Wl H.length cs)[j]? =some c->RV F (H++H1.map (CF H.length)) (ι++ι1) w c (a.getD j undef):=fun h j c hj=>by
  rw [YL] at hj;simp only [List.getElem?_map,Option.map_eq_some_iff] at hj;obtain ⟨c',h1,rfl⟩:=hj;exact h j c' h1
 induction h with
 | p x v h=>rw [Wi] at h;exact .p _ _ h
 | agg cs a hs _ ih=>exact .agg _ a (by simp [YL,hs]) (sub ih)
 | fn f cs ds a e hs ht _ _ ih1 ih2=>exact .fn f _ _ a e (by simp [YL,hs]) (by simp [YL,ht]) (sub ih1) (sub ih2)
 | tup cs a hs _ ih=>exact .tup _ a (by simp [YL,hs]) (sub ih)
 | ptr o off b cs h hH=>exact .ptr _ _ b _ (by rw [gi];exact h) (gH _ _ hH)
 | ep o i j tot b S xs h hH ht=>exact .ep _ _ _ _ b S xs (by rw [gi];exact h) (gH _ _ hH) ht
 | slNil o S a h hH=>exact .slNil _ S a (by rw [gi];exact h) (gH _ _ hH)
 | sl o off len tot b S cap t xs c h hH ht hw hcap hl hlen hm=>exact .sl _ _ _ _ b S cap t xs c (by rw [gi];exact h) (gH _ _ hH) ht hw hcap hl hlen hm
 | lp x j b off u hX hb hu hr=>rw [Wi] at hX hr;exact .lp x j b off u hX hb hu hr
 | mp o b es h hH=>exact .mp _ b es (by rw [gi];exact h) (gH _ _ hH)
 | mpD o v h=>exact .mpD _ _ (gH _ _ h)
 | bp o b T E r bs h hH=>exact .bp _ b T E _ bs (by rw [gi];exact h) (gH _ _ hH)
 | bpD o v h=>exact .bpD _ _ (gH _ _ h)
 | err t p=>exact .err t p
 | junk v=>exact .junk v
 | ptrD o off v h=>exact .ptrD _ _ _ (gH _ _ h)
 | epD o i j tot v h=>exact .epD _ _ _ _ _ (gH _ _ h)
 | slD o off len tot v h=>exact .slD _ _ _ _ _ (gH _ _ h)
 | epS o i j tot v S xs h hne=>exact .epS _ _ _ _ _ S xs (gH _ _ h) hne
 | slS o off len tot v S xs h hne=>exact .slS _ _ _ _ _ S xs (gH _ _ h) hne
 | slC o tot b cap cs h hH hl hm=>exact .slC _ _ b cap _ (by rw [gi];exact h) (gH _ _ hH) hl hm
theorem Good.behind {F H ι w H1 ι1 w'} (hr:Rel F H ι w) (g:Good (Own F ι) [] [] w H1 ι1 w'):Good F H ι w (H++H1.map (CF H.length)) (ι++ι1) w':=by
 have hkeep: ∀b,b<w.heap.size->w'.heap[b]? =w.heap[b]? :=fun b hb=>g.keep b hb Zb;have hnew: ∀b,some b∈ι1-> ¬b<w.heap.size:=fun b hb hlt=>g.own b hlt Zb hb
 have hlen: ∀ {o:Nat} {x:Obj},(H++H1.map (CF H.length))[o]? =some x->(o<H.length/\H[o]? =some x)\/(∃o1 x1,o=H.length+o1/\H1[o1]? =some x1/\x=CF H.length x1):=fun {o x} h=>by
  grind
 have gi: ∀(o:Nat),(ι++ι1)[H.length+o]? =ι1[o]? :=fun o=>by have:=hr.len;grind
 have gl: ∀ {o:Nat},o<H.length->(ι++ι1)[o]? =ι[o]? :=fun h=>List.getElem?_append_left (by rw [hr.len];exact h)
 have hKeeps:Keeps (Own F ι) w (Own F (ι++ι1)) w':=fun b hb hs=>⟨fun h=>by
  rcases h with h | h
  ·exact hb (.inl h)
  ·rcases List.mem_append.1 h with h | h
   ·exact hb (.inr h)
   grind,by grind,hkeep b hs⟩
 have hHX:HX H ι w (H++H1.map (CF H.length)) (ι++ι1) w':=fun o ob ho=>by
  grind
 have hmem: ∀ {i b:Nat},ι[i]? =some (some b)->some b∈ι:=fun h=>List.mem_of_getElem? h
 have old: ∀ {i b:Nat},(ι++ι1)[i]? =some (some b)->(i<H.length/\ι[i]? =some (some b))\/ ∃i1,i=H.length+i1/\ι1[i1]? =some (some b):=fun {i b} h=>by
  by_cases hlt:i<H.length
  ·grind
  ·exact .inr ⟨i-H.length,Za,by grind⟩
 refine Good.up hr.env ⟨⟨?_,?_,?_,?_,?_,?_,?_,?_⟩,g.os,g.tape,g.output,fun b c t h=>(g.shape b c t h).imp (fun h=>absurd h.1 Zb) id,g.size,fun b hb _=>hkeep b hb,fun b hb ho h=> ?_,hHX⟩
 ·have:=hr.len;have:=g.rel.len;simp;omega
 ·intro b hb;have:=hr.fin b hb;grind
 ·intro i j b hi hj;rcases old hi with ⟨h1,h2⟩ | ⟨i1,rfl,h2⟩<;>rcases old hj with ⟨k1,k2⟩ | ⟨j1,rfl,k2⟩
  ·exact hr.inj i j b h2 k2
  ·exact absurd (.inr (hmem h2)) (g.rel.avo j1 b k2).1
  ·exact absurd (.inr (hmem k2)) (g.rel.avo i1 b h2).1
  ·rw [g.rel.inj i1 j1 b h2 k2]
 ·intro i b hi;rcases old hi with ⟨h1,h2⟩ | ⟨i1,rfl,h2⟩
  ·obtain ⟨a1,a2⟩:=hr.avo i b h2
   grind
  ·obtain ⟨a1,a2⟩:=g.rel.avo i1 b h2;exact ⟨fun h=>a1 (.inl h),a2⟩
 ·intro o cs ho;rcases hlen ho with ⟨h1,h2⟩ | ⟨o1,x1,rfl,h2,h3⟩
  ·obtain ⟨b,c,t,e1,e2,e3,e4⟩:=hr.cel o cs h2;exact ⟨b,c,t,by grind,by grind,e3,fun j x hj=>(e4 j x hj).ext hKeeps hHX⟩
  ·cases x1<;>simp [CF] at h3
   subst h3;obtain ⟨b,c,t,e1,e2,e3,e4⟩:=g.rel.cel o1 _ h2;refine ⟨b,c,t,by grind,e2,by simp [YL,e3],fun j x hj=> ?_⟩;rw [YL] at hj;simp only [List.getElem?_map,Option.map_eq_some_iff] at hj;obtain ⟨x',h4,rfl⟩:=hj;exact (e4 j x' h4).sh hr.len
 ·intro o S xs ho;rcases hlen ho with ⟨h1,h2⟩ | ⟨o1,x1,rfl,h2,h3⟩
  ·rcases hr.elm o S xs h2 with ⟨e1,e2⟩ | ⟨b,c,t,cap,e1,e2,e3,e4,e5,e6,e7⟩
   ·grind
   ·exact .inr ⟨b,c,t,cap,by grind,by grind,e3,e4,e5,e6,fun i x j y hi hj=>(e7 i x j y hi hj).ext hKeeps⟩
  ·cases x1<;>simp [CF] at h3
   obtain ⟨rfl,rfl⟩:=h3;rcases g.rel.elm o1 _ _ h2 with ⟨e1,e2⟩ | ⟨b,c,t,cap,e1,e2,e3,e4,e5,e6,e7⟩
   ·grind
   ·exact .inr ⟨b,c,t,cap,by grind,e2,e3,e4,e5,e6,fun i x j y hi hj=>by grind [Wi]⟩
 ·intro o es ho;rcases hlen ho with ⟨h1,h2⟩ | ⟨o1,x1,rfl,h2,h3⟩
  ·obtain ⟨b,a',k,e1,e2,e3⟩:=hr.mpr o es h2;exact ⟨b,a',k,by grind,by grind,e3.ext hKeeps⟩
  ·cases x1<;>simp [CF] at h3
   subst h3;obtain ⟨b,a',k,e1,e2,e3⟩:=g.rel.mpr o1 _ h2
   grind [Wi]
 ·intro o T E r bs ho;rcases hlen ho with ⟨h1,h2⟩ | ⟨o1,x1,rfl,h2,h3⟩
  ·obtain ⟨d0,d,b,go,e1,e2,e3⟩:=hr.bldr o T E r bs h2;have hrl:=(List.getElem?_eq_some_iff.1 d).1;exact ⟨Za,by grind,b,go,by grind,by grind,e3.ext (hkeep b (hr.avo o b e1).2) fun g hg=>hkeep g (hr.avo r g (by rw [e2,hg])).2⟩
  ·cases x1<;>simp [CF] at h3
   obtain ⟨rfl,rfl,rfl,rfl⟩:=h3;obtain ⟨d0,d,b,go,e1,e2,e3⟩:=g.rel.bldr o1 _ _ _ _ h2;refine ⟨Za,?_,b,go,by grind,by grind,e3⟩;rw [List.getElem?_append_right Za,Nat.add_sub_cancel_left,List.getElem?_map,d]
   rfl
 grind
theorem RV.lift {F H ι w x v} (h:RV F H ι w x v) (hn:refB 0 x=true):RV (Own F ι) [] [] w x v:=by
 have sub: ∀ {cs:List V},Zy 0 cs=true-> ∀(j:Nat) (c:V),cs[j]? =some c->refB 0 c=true:=fun h=>ZB h
 induction h with
 | p x v h=>refine .p _ _ ?_;rw [Wi,List.append_nil];exact h
 | agg cs a hs _ ih=>exact .agg cs a hs fun j c hj=>ih j c hj (ZB (by simpa [refB] using hn) j c hj)
 | fn f cs ds a e hs ht _ _ ih1 ih2 =>
  simp [refB] at hn;exact .fn f cs ds a e hs ht (fun j c hj=>ih1 j c hj (ZB hn.1 j c hj)) (fun j c hj=>ih2 j c hj (ZB hn.2 j c hj))
 | tup cs a hs _ ih=>exact .tup cs a hs fun j c hj=>ih j c hj (ZB (by simpa [refB] using hn) j c hj)
 | ptr o off b cs h hH=>simp [refB] at hn
 | ep o i j tot b S xs h hH ht=>simp [refB] at hn
 | slNil o S a h hH=>simp [refB] at hn
 | sl o off len tot b S cap t xs c h hH ht hw hcap hl hlen hm=>simp [refB] at hn
 | lp x j b off u hX' hb hu hq=>exact .lp x j b off u (by rw [Wi,List.append_nil];exact hX') hb hu (fun j c hj=>by rw [Wi,List.append_nil];exact hq j c hj)
 | mp o b es h hH=>simp [refB] at hn
 | mpD o v h=>simp [refB] at hn
 | bp o b T E r bs h hH=>simp [refB] at hn
 | bpD o v h=>simp [refB] at hn
 | err t p=>exact .err t p
 | junk v=>exact .junk v
 | ptrD o off v h=>simp [refB] at hn
 | epD o i j tot v h=>simp [refB] at hn
 | slD o off len tot v h=>simp [refB] at hn
 | epS o i j tot v S xs h hne=>simp [refB] at hn
 | slS o off len tot v S xs h hne=>simp [refB] at hn
 | slC o tot b cap cs h hH hl hm=>simp [refB] at hn
theorem ACalls.behind {P g} {args:List V} {Q:V->List Obj->Prop} (ha:Zy 0 args=true) (h:ACalls P g args [] Q) (H:List Obj):ACalls P g args H fun x H'=> ∃y H1,Q y H1/\x=Bf H.length y/\H'=H++H1.map (CF H.length):=by
 refine ⟨h.1,fun F ι w vs hr hv=> ?_⟩
 have hr0:Rel (Own F ι) [] [] w:=by
  refine ⟨⟨rfl,fun b hb=> ?_,fun i j b hi _=>by simp at hi,fun i b hi=>by simp at hi,fun o cs ho=>by simp at ho,fun o S xs ho=>by simp at ho,fun o es ho=>by simp at ho,fun o T E r bs ho=>by simp at ho⟩,hr.env.fresh⟩;rcases hb with hb | hb
  ·exact hr.fin b hb
  ·obtain ⟨i,hi⟩:=List.mem_iff_getElem?.1 hb;exact (hr.avo i b hi).2
 have hv0:lS (Own F ι) [] [] w args vs:=⟨hv.1,fun j c hj=>(hv.2 j c hj).lift (ZB ha j c hj)⟩;refine (h.2 _ _ _ _ hr0 hv0).mono ?_;rintro e w' ⟨x,H1,ι1,v,rfl,q,gd,rv⟩;exact ⟨_,_,_,v,rfl,⟨x,H1,q,rfl,rfl⟩,gd.behind hr,rv.sh hr.len⟩
end Go.AM
namespace Go.AM
open Go.RowKit
theorem Keeps.same {X:Nat->Prop} {w w':World} (h:w'.heap=w.heap):Keeps X w X w':=fun b hb hs=>⟨hb,by grind,by rw [h]⟩
theorem HX.same {H ι w w'} (h:w'.heap=w.heap):HX H ι w H ι w':=fun o ob ho=>by
 grind
theorem Rel.same {F H ι w w'} (h:w'.heap=w.heap) (hr:Rel F H ι w):Rel F H ι w':=by
 refine ⟨⟨hr.len,by rw [h];exact hr.fin,hr.inj,by rw [h];exact hr.avo,fun o cs ho=> ?_,fun o S xs ho=> ?_,fun o es ho=>by obtain ⟨b,a',k,e1,e2,e3⟩:=hr.mpr o es ho;exact ⟨b,a',k,e1,by grind,e3.ext (Keeps.same h)⟩,
  X1 hr (fun _ _ _ _ _ h=>h) fun _ _ _ _=>⟨rfl,rfl,fun _ _=>by rw [h]⟩⟩,hr.env.of (by grind) (fun b _ _=>by rw [h]) fun _ _ h=>h⟩
 ·obtain ⟨b,c,t,e1,e2,e3,e4⟩:=hr.cel o cs ho;exact ⟨b,c,t,e1,by grind,e3,fun j x hj=>(e4 j x hj).ext (Keeps.same h) (HX.same h)⟩
 ·rcases hr.elm o S xs ho with e | ⟨b,c,t,cap,e1,e2,e3,e4,e5,e6,e7⟩
  ·exact .inl e
  ·exact .inr ⟨b,c,t,cap,e1,by grind,e3,e4,e5,e6,fun i x j y hi hj=>(e7 i x j y hi hj).ext (Keeps.same h)⟩
theorem Good.drew {F H ι w} (hr:Rel F H ι w):Good F H ι w H ι { w with drawn:=w.drawn+1 } :=
 ⟨Rel.same (w:=w) (w':= { w with drawn:=w.drawn+1 }) rfl hr,rfl,Tp.of rfl (Nat.le_succ _),rfl,fun _ c _ h=> .inr ⟨c,h,rfl⟩,Nat.le_refl _,fun _ _ _=>rfl,fun _ _ h=>h,HX.same (w:=w) (w':= { w with drawn:=w.drawn+1 }) rfl⟩
def Yk (P:Program) (t:TypeId):Option Nat:=match P.underlying t with
  | some (.slice e)=>match (P.info? e).bind (·.zero) with
   | some _=>match Xy P t with | some (none,S)=>some S | _=>none
   | none=>none
  | _=>none
def CW (S:Option Nat) (H:List Obj) (n:Nat) (l:List (Nat×V)):Option PV:=match S with
 | some S=>if n=l.length/\n*S<=16777216/\0<S then (Y1 H S 0 l).map (.list false) else none
 | none=>none
def Zq (P:Program) (o:Oper) (fr:List V) (H:List Obj) (K:V->List Obj->Prop):Prop :=
 match o.op with
 | .buildSlice t n ps=>match (CW (Yk P t) H n (ps.toList.map fun x=>(x.1,ev fr x.2))).map V.p with
  | some x=>K x H
  | none=>False
 | .call { callee:= .builtin .append,args:=azs,argTypes:=ts } =>match azs.toList,ts.toList with
  | [x,y],[t,t2]=> ∃S zs,Yt P H t t2 (ev fr x) (ev fr y)=some (.sl H.length 0 zs.length zs.length,H++ [.elems S zs])/\K (.p (.list false zs)) H
  | _,_=>False
 | _=>Zm P o fr H K
theorem Keeps.grow {X:Nat->Prop} {w w':World} (hs:w.heap.size<=w'.heap.size) (h: ∀b,b<w.heap.size->w'.heap[b]? =w.heap[b]?):Keeps X w X w':=fun b hb hb2=>⟨hb,Za,h b hb2⟩
theorem HX.grow {F H ι w w'} (hr:Rel F H ι w) (h: ∀b,b<w.heap.size->w'.heap[b]? =w.heap[b]?):HX H ι w H ι w':=fun o ob ho=>by
 grind
theorem Rel.grow {F H ι w w'} (hs:w.heap.size<=w'.heap.size) (h: ∀b,b<w.heap.size->w'.heap[b]? =w.heap[b]?) (hr:Rel F H ι w):Rel F H ι w':=by
 refine ⟨⟨hr.len,fun b hb=>by have:=hr.fin b hb;omega,hr.inj,fun i b hi=>⟨(hr.avo i b hi).1,by have:=(hr.avo i b hi).2;omega⟩,fun o cs ho=> ?_,fun o S xs ho=> ?_,fun o es ho=>by obtain ⟨b,a',k,e1,e2,e3⟩:=hr.mpr o es ho;exact ⟨b,a',k,e1,by grind,e3.ext (Keeps.grow hs h)⟩,
  X1 hr (fun _ _ _ _ _ h=>h) fun i _ _ _=>⟨rfl,rfl,fun b hb=>h b (hr.avo i b hb).2⟩⟩,hr.env.of hs (fun b hb _=>h b hb) fun _ _ h=>h⟩
 ·obtain ⟨b,c,t,e1,e2,e3,e4⟩:=hr.cel o cs ho;exact ⟨b,c,t,e1,by grind,e3,fun j x hj=>(e4 j x hj).ext (Keeps.grow hs h) (HX.grow hr h)⟩
 ·rcases hr.elm o S xs ho with e | ⟨b,c,t,cap,e1,e2,e3,e4,e5,e6,e7⟩
  ·exact .inl e
  ·exact .inr ⟨b,c,t,cap,e1,by grind,e3,e4,e5,e6,fun i x j y hi hj=>(e7 i x j y hi hj).ext (Keeps.grow hs h)⟩
theorem RV.refs {F H ι w x v} (h:RV F H ι w x v):refB H.length x=true:=by
 have lt: ∀ {o:Nat} {ob:Obj},H[o]? =some ob->o<H.length:=fun h=>(List.getElem?_eq_some_iff.1 h).1
 have all: ∀(cs:List V),(∀(j:Nat) (c:V),cs[j]? =some c->refB H.length c=true)->Zy H.length cs=true:=by
  intro cs
  induction cs with
  | nil=>intro _;simp [Zy]
  | cons c cs ih=>intro h;simp [Zy,h 0 c Zb,ih fun j x hj=>h (j+1) x (by simpa using hj)]
 induction h with
 | p=>simp [refB]
 | agg cs a hs _ ih=>simp only [refB];exact all cs ih
 | fn f cs ds a e hs ht _ _ ih1 ih2=>simp only [refB,Bool.and_eq_true];exact ⟨all cs ih1,all ds ih2⟩
 | tup cs a hs _ ih=>simp only [refB];exact all cs ih
 | lp=>simp [refB]
 | err=>simp [refB]
 | junk=>simp [refB]
 | _=>simp only [refB,decide_eq_true_eq];exact lt (by assumption)
theorem Br {H:List Obj} {n:Nat} : ∀(l:List V),(∀(j:Nat) (c:V),l[j]? =some c->refB n c=true)->DW H n l l
 | [],_=>trivial
 | c::l,h=>⟨.inr (.inl ⟨rfl,h 0 c Zb⟩),Br l fun j x hj=>h (j+1) x (by grind)⟩
theorem Bt {H:List Obj} {n:Nat} : ∀(l r:List Obj),(∀(j:Nat) (cs:List V),l[j]? =some (.cells cs)-> ∀(i:Nat) (c:V),cs[i]? =some c->refB n c=true)->(∀(j T E q:Nat) (bs:List UInt8),l[j]? =some (.bld T E q bs)->q<n)->Bs H n (l++r) l
 | [],r,_,_=>by grind [Bs]
 | x::l,r,h,h2=>by
  refine ⟨?_,Bt l r (fun j cs hj=>h (j+1) cs (by grind)) fun j T E q bs hj=>h2 (j+1) T E q bs (by grind)⟩
  cases x with
  | cells cs=>exact Br cs (h 0 cs Zb)
  | elems S xs=>exact ⟨rfl,rfl⟩
  | map es=>rfl
  | bld T E q bs=>exact ⟨⟨rfl,rfl,rfl,rfl⟩,h2 0 T E q bs Zb⟩
  | dead=>trivial
theorem OpS.freeze {P o fr H x ob} {z:PV} (h:OpS P o fr H x (H++ [ob])) (hz:HY (H++ [ob]) H.length x=some z):OpS P o fr H (.p z) H:=fun F ι a w hr hf=>by
 obtain ⟨nx,v,ι',w',e,e2,g,r⟩:=h F ι a w hr hf
 have hw:Weak H.length [x] (H++ [ob]) [.p z] H:=Weak.of (Nat.le_refl _) ⟨.inr (.inr ⟨z,hz,rfl⟩),trivial⟩
  (Bt H [ob] (fun j cs hj i c hi=>by
   obtain ⟨b,c',t,_,_,_,h4⟩:=hr.cel j cs hj
   exact (h4 i c hi).refs) fun j T E q bs hj=>(List.getElem?_eq_some_iff.1 (hr.bldr j T E q bs hj).2.1).1) Zb
 obtain ⟨ι2,r2,f2,g2⟩:=hw F ι' { tmps:= #[v],defers:= [] } w' g.rel ⟨rfl,rfl,fun i y hi=>by
  cases i with
  | zero=>simp_all
  | succ i=>simp at hi⟩
 have:=f2.get 0;exact ⟨nx,v,ι2,w',e,e2,g2 H ι w (Nat.le_refl _) g,by simp_all [gt]⟩
theorem HR {P:Program} {o:Oper} {fr:List V} {H H':List Obj} {x:V} (h:OpS P o fr H x H') {F ι a w} (hr:Rel F H ι w) (hf:Fr F H ι w fr a) {next:Act->World->Prop} {Q:Exit->Act->World->Prop}
  (hn: ∀ι' v w',Good F H ι w H' ι' w'->RV F H' ι' w' x v->next (a.put o.dst v) w'):o.wp P a w next Q:=by
 obtain ⟨nx,v,ι',w',e,e2,g,r⟩:=h F ι a w hr hf;unfold Oper.wp;rw [e];rcases e2 with rfl | ⟨rfl,rfl⟩
 ·exact hn ι' v w' g r
 ·exact hn ι' undef w' g r
theorem Uz {P:Program} {o:Oper} {fr:List V} {H:List Obj} {K:V->List Obj->Prop} (h:Zq P o fr H K) {F ι a w} (hr:Rel F H ι w) (hf:Fr F H ι w fr a) {next:Act->World->Prop} {Q:Exit->Act->World->Prop}
  (hn: ∀x H' ι' v w',K x H'->Good F H ι w H' ι' w'->RV F H' ι' w' x v->next (a.put o.dst v) w'):o.wp P a w next Q:=by
 unfold Zq at h
 split at h
 rotate_left
 ·rename_i azs ts ho
  split at h
  ·rename_i x y t t2 e1 e2;obtain ⟨azs⟩:=azs;obtain ⟨ts⟩:=ts;simp at e1 e2;subst e1;subst e2;obtain ⟨S,zs,hz,hk⟩:=h
   have hops:=(Dz t t2 x y _ ho hz).freeze (z:= .list false zs) (by
    grind [Ch,HY])
   grind [HR]
  grind
 ·grind [WX]
 rename_i t n ps ho
 split at h
 rotate_left
 ·exact h.elim
 rename_i x hx;simp only [Option.map_eq_some_iff] at hx;obtain ⟨x,hx,rfl⟩:=hx;unfold CW at hx
 split at hx
 rotate_left
 ·cases hx
 rename_i S hS
 split at hx
 rotate_left
 ·cases hx
 rename_i hc;simp only [Option.map_eq_some_iff] at hx;obtain ⟨xs,hl,rfl⟩:=hx;unfold Yk at hS
 split at hS
 rotate_left
 ·cases hS
 rename_i e hu
 split at hS
 rotate_left
 ·cases hS
 rename_i z hze
 split at hS
 rotate_left
 ·cases hS
 rename_i S' ht;simp at hS;subst hS
 have hz:BB P H t n (ps.toList.map fun x=>(x.1,ev fr x.2))=some (.sl H.length 0 n n,H++ [.elems S' xs]):=by
  simp only [BB,ht]
  grind
 obtain ⟨S2,xs2,_,he,hlen,_,k⟩:=AQ t n ps _ ho e z hu hze hz;simp at he;obtain ⟨rfl,rfl⟩:=he;obtain ⟨a',t',k1,k2,k3⟩:=k F ι a w hr hf;have hp:=Pushed.alloc w a' t'
 have hsz:w.heap.size<=(w.alloc (.cells a' t')).heap.size:=Zb
 have hold: ∀b,b<w.heap.size->(w.alloc (.cells a' t')).heap[b]? =w.heap[b]? :=fun b hb=>hp.old hb
 have hnew: ∀b,Own F ι b->b<w.heap.size:=fun b hb=>by
  rcases hb with hb | hb
  ·exact hr.fin b hb
  ·obtain ⟨i,hi⟩:=List.mem_iff_getElem?.1 hb;exact (hr.avo i b hi).2
 have hι:(ι++ [some w.heap.size])[H.length]? =some (some w.heap.size):=by rw [<- hr.len];simp
 have rp:=Uv (S:=S') (xs:=xs) (off:=0) (len:=n) (tot:=n) (Own F ι) (fun b hb h=>by
  grind) (fun b hb hs=>⟨fun h=>hb (h.imp id fun h=>by simp [h]),hs,rfl⟩) k2.rel Zb hlen Za k3
 have hxs:(xs.take (0+n)).drop 0=xs:=by grind
 rw [hxs] at rp;have g:Good F H ι w H ι (w.alloc (.cells a' t')):=⟨hr.grow hsz hold,k2.os,k2.tape,k2.output,fun b c t h=>(k2.shape b c t h).imp (fun h=>⟨h.1,fun h2=>h.2 (List.mem_append_left _ h2)⟩) id,k2.size,fun b hb _=>hold b hb,fun b _ h=>h,HX.grow hr hold⟩;unfold Oper.wp;rw [k1];exact hn _ H ι _ _ h g (.p _ _ rp)
def Zv (i:Nat) (o:Oper):List Nat:=(o.after.toList.filter fun e=>Region.binds .any e&&decide (e.on<i)).map (·.on)
def Zs (ds:List (Option Nat)) (vals:List V):List Nat->List V->List V
 | [],fr=>fr
 | j::l,fr=>match ds[j]?,vals[j]? with
  | some (some d),some v=>Zs ds vals l (pt fr d v)
  | _,_=>Zs ds vals l fr
def Zw : List (Option Nat)->List V->List V
 | [],fr=>fr
 | some d::l,fr=>Zw l (pt fr d .junk)
 | none::l,fr=>Zw l fr
def hd (P:Program) (ds:List (Option Nat)) (frJ:List V) (H:List Obj) (K:List V->Prop):Nat->List Oper->List V->Prop
 | _,[],vals=>K vals
 | i,o::r,vals=>match o.guard with
  | none=> ∃y,Zq P o (Zs ds vals (Zv i o) frJ) H (fun x H'=>x=y/\H'=H)/\hd P ds frJ H K (i+1) r (vals++ [y])
  | some (j,b)=>ZF (Q8 (Zs ds vals (Zv i o) frJ) ds j) b
    (∃y,Zq P o (Zs ds vals (Zv i o) frJ) H (fun x H'=>x=y/\H'=H)/\hd P ds frJ H K (i+1) r (vals++ [y]))
    (hd P ds frJ H K (i+1) r (vals++ [.tup []]))
def Fq (P:Program) (ds:List (Option Nat)) (frJ:List V) (H:List Obj) (vals:List V) (i:Nat) (o:Oper):Prop :=
 ∃y,vals[i]? =some y/\match o.guard with
  | none=>Zq P o (Zs ds vals (Zv i o) frJ) H (fun x H'=>x=y/\H'=H)
  | some (j,b)=>(∃c,Q8 (Zs ds vals (Zv i o) frJ) ds j= .p (.bool c)/\(c=b->Zq P o (Zs ds vals (Zv i o) frJ) H (fun x H'=>x=y/\H'=H))/\(c≠b->y= .tup []))\/(Q8 (Zs ds vals (Zv i o) frJ) ds j= .tup []/\y= .tup [])
theorem Uk {ds:List (Option Nat)} {vals ys:List V} : ∀(l:List Nat) (fr:List V),(∀j∈l,j<vals.length)->Zs ds (vals++ys) l fr=Zs ds vals l fr
 | [],fr,_=>rfl
 | j::l,fr,h=>by
  have hj:=h j Zb;have e:(vals++ys)[j]? =vals[j]? :=List.getElem?_append_left hj;simp only [Zs,e]
  split
  ·exact Uk l _ fun k hk=>h k (by simp [hk])
  ·exact Uk l _ fun k hk=>h k (by simp [hk])
theorem XY {i:Nat} {o:Oper} : ∀j∈Zv i o,j<i:=fun j hj=>by
 simp [Zv] at hj;omega
theorem VG {P ds frJ H} {K:List V->Prop} : ∀(l:List Oper) (i:Nat) (vals:List V),vals.length=i->hd P ds frJ H K i l vals ->
  ∃ys:List V,ys.length=l.length/\K (vals++ys)/\ ∀(k:Nat) (o:Oper),l[k]? =some o->Fq P ds frJ H (vals++ys) (i+k) o
 | [],i,vals,_,h=>⟨[],rfl,by grind [hd],fun k o hk=>by simp at hk⟩
 | o::l,i,vals,hl,h=>by
  have step: ∀y,hd P ds frJ H K (i+1) l (vals++ [y])->(match o.guard with
    | none=>Zq P o (Zs ds vals (Zv i o) frJ) H (fun x H'=>x=y/\H'=H)
    | some (j,b)=>(∃c,Q8 (Zs ds vals (Zv i o) frJ) ds j= .p (.bool c)/\(c=b->Zq P o (Zs ds vals (Zv i o) frJ) H (fun x H'=>x=y/\H'=H))/\(c≠b->y= .tup []))\/(Q8 (Zs ds vals (Zv i o) frJ) ds j= .tup []/\y= .tup [])) ->
    ∃ys:List V,ys.length=(o::l).length/\K (vals++ys)/\ ∀(k:Nat) (o':Oper),(o::l)[k]? =some o'->Fq P ds frJ H (vals++ys) (i+k) o':=fun y hy ho=>by
   obtain ⟨ys,e1,e2,e3⟩:=VG l (i+1) (vals++ [y]) (by simp [hl]) hy;refine ⟨y::ys,by simp [e1],by simpa using e2,fun k o' hk=> ?_⟩
   cases k with
   | zero =>
    simp at hk;subst hk;refine ⟨y,by simp [<- hl],?_⟩
    have e:Zs ds (vals++y::ys) (Zv (i+0) o) frJ=Zs ds vals (Zv i o) frJ:=Uk _ _ fun j hj=>by rw [hl];exact XY j hj
    rw [e];exact ho
   | succ k =>
    have:=e3 k o' (by simpa using hk);rw [show i+1+k=i+(k+1) by omega] at this;simpa using this
  simp only [hd] at h
  split at h
  ·grind
  ·rename_i j b hg;unfold ZF at h
   split at h
   rotate_left
   ·grind
   ·exact h.elim
   rename_i c hc
   by_cases hcb:c=b
   ·grind
   grind
theorem Qw {ds:List (Option Nat)} {vals:List V} {t:Nat} {x:V} : ∀(l:List Nat) (fr:List V),(Zs ds vals l fr)[t]? =some x->(∃j∈l,vals[j]? =some x/\ds[j]? =some (some t))\/fr[t]? =some x
 | [],fr,h=> .inr h
 | j::l,fr,h=>by
  simp only [Zs] at h
  split at h
  ·rename_i d v h1 h2;rcases Qw l _ h with ⟨k,hk,h3⟩ | h3
   ·exact .inl ⟨k,by simp [hk],h3⟩
   ·rw [X6,List.getElem?_set] at h3
    split at h3
    ·rename_i e
     split at h3
     ·simp at h3;subst h3;subst e;exact .inl ⟨j,Zb,h2,h1⟩
     ·cases h3
    ·exact .inr h3
  ·rcases Qw l _ h with ⟨k,hk,h3⟩ | h3
   ·exact .inl ⟨k,by simp [hk],h3⟩
   ·exact .inr h3
theorem Z1 {ds:List (Option Nat)} {vals:List V} : ∀(l:List Nat) (fr:List V),(Zs ds vals l fr).length=fr.length
 | [],_=>rfl
 | j::l,fr=>by
  simp only [Zs]
  split
  ·rw [Z1 l];simp [X6]
  ·exact Z1 l fr
theorem Uj {t:Nat} {x:V} : ∀(l:List (Option Nat)) (fr:List V),(Zw l fr)[t]? =some x->x= .junk\/(some t ∉ l/\fr[t]? =some x)
 | [],fr,h=> .inr ⟨Zb,h⟩
 | some d::l,fr,h=>by
  simp only [Zw] at h;rcases Uj l _ h with h1 | ⟨h1,h2⟩
  ·exact .inl h1
  ·rw [X6,List.getElem?_set] at h2
   split at h2
   ·split at h2
    ·simp at h2;exact .inl h2.symm
    ·cases h2
   ·rename_i hne;exact .inr ⟨by simp;exact ⟨fun h=>hne h.symm,h1⟩,h2⟩
 | none::l,fr,h=>by
  simp only [Zw] at h;rcases Uj l _ h with h1 | ⟨h1,h2⟩
  ·exact .inl h1
  ·exact .inr ⟨by simpa using h1,h2⟩
theorem Xd : ∀(l:List (Option Nat)) (fr:List V),(Zw l fr).length=fr.length
 | [],_=>rfl
 | some d::l,fr=>by simp only [Zw];rw [Xd l];simp [X6]
 | none::l,fr=>Xd l fr
def F5 (ops:Array Oper) (n:Nat):Bool :=
 (List.range n).all fun i=>match ops[i]? with
  | some o=>o.after.all fun e=> !Region.binds .any e||decide (e.on<i)
  | none=>true
def Y9 (ds:List (Option Nat)) (n:Nat):Bool :=
 (List.range n).all fun i=>(List.range n).all fun j=>decide (i=j)||match ds[i]?,ds[j]? with
  | some (some a),some (some b)=>decide (a≠b)
  | _,_=>true
def Yh (ops:Array Oper) (n:Nat):Bool :=
 decide (n<=ops.size)&&(decide (n=ops.size)||(Region.sinkB .any ops n&&Region.chainB .any ops n))&&F5 ops n&&Y9 (ops.toList.map (·.dst)) n &&
  Region.seqB .any ops (ops.size-n) n (Array.replicate n true++Array.replicate (ops.size-n) false)
structure Mid (F:Nat->Prop) (H:List Obj) (ds:List (Option Nat)) (fr vals:List V) (n:Nat) (listed:Array Bool) (ι:List (Option Nat)) (a:Act) (w:World):Prop where
 rel:Rel F H ι w
 size:a.tmps.size=fr.length
 defers:a.defers= []
 old: ∀(t:Nat) (x:V),fr[t]? =some x->some t ∉ ds.take n->RV F H ι w x (a.tmps.getD t undef)
 new: ∀(j d:Nat) (x:V),j<n->listed.getD j false=true->ds[j]? =some (some d)->vals[j]? =some x->d<fr.length->RV F H ι w x (a.tmps.getD d undef)
theorem Mid.fr {F H ds fr vals n listed ι a w} (m:Mid F H ds fr vals n listed ι a w) (l:List Nat) (hl: ∀j∈l,j<n/\listed.getD j false=true) :
  Fr F H ι w (Zs ds vals l (Zw (ds.take n) fr)) a:=by
 refine ⟨by rw [Z1,Xd];exact m.size,m.defers,fun t x hx=> ?_⟩;have hlt:=(List.getElem?_eq_some_iff.1 hx).1;rw [Z1,Xd] at hlt;rcases Qw _ _ hx with ⟨j,hj,h1,h2⟩ | h1
 ·exact m.new j t x (hl j hj).1 (hl j hj).2 h2 h1 hlt
 ·rcases Uj _ _ h1 with rfl | ⟨h2,h3⟩
  ·exact .junk _
  ·exact m.old t x h3 h2
theorem Mid.put {F H ds fr vals n listed ι a w ι' w' i d x v} (m:Mid F H ds fr vals n listed ι a w) (hap:Y9 ds n=true) (g:Good F H ι w H ι' w') (hi:i<n) (hdi:ds[i]? =some d) (hx:vals[i]? =some x) (hv:RV F H ι' w' x v) :
  Mid F H ds fr vals n (listed.setIfInBounds i true) ι' (a.put d v) w':=by
 refine ⟨g.rel,?_,?_,fun t y ht hn=> ?_,fun j e y hj hl hd hy hlt=> ?_⟩
 ·cases d<;>simp [Act.put,m.size]
 ·cases d<;>exact m.defers
 ·have:=g.rv (m.old t y ht hn)
  cases d with
  | none=>exact this
  | some d =>
   have hne:d≠t:=fun h=>hn (by
    subst h;rw [List.mem_iff_getElem?]
    exact ⟨i,by grind⟩)
   have e:((a.put (some d) v).tmps).getD t undef=a.tmps.getD t undef:=by
    simp [Act.put,Array.getD_eq_getD_getElem?,Array.getElem?_setIfInBounds_ne hne]
   rw [e];exact this
 ·by_cases hij:j=i
  ·subst hij;rw [hdi] at hd;simp at hd;subst hd;rw [hx] at hy;simp at hy;subst hy
   have:e<a.tmps.size:=by rw [m.size];exact hlt
   simpa [Act.put,Array.getD,this] using hv
  ·have hl':listed.getD j false=true:=by rwa [getD_set_ne false (fun h=>hij h.symm)] at hl
   have:=g.rv (m.new j e y hj hl' hd hy hlt)
   cases d with
   | none=>exact this
   | some d =>
    have hne:d≠e:=fun h=>by
     subst h;have:=List.all_eq_true.1 (List.all_eq_true.1 hap i (List.mem_range.2 hi)) j (List.mem_range.2 hj)
     grind
    have e':((a.put (some d) v).tmps).getD e undef=a.tmps.getD e undef:=by
     simp [Act.put,Array.getD_eq_getD_getElem?,Array.getElem?_setIfInBounds_ne hne]
    rw [e'];exact this
theorem CQ {P:Program} {ops:Array Oper} {Q:Exit->Act->World->Prop} {F H fr vals} {n:Nat} (hB:Yh ops n=true) (hvl:vals.length=n)
  (hok: ∀(i:Nat) (o:Oper),i<n->ops[i]? =some o->Fq P (ops.toList.map (·.dst)) (Zw ((ops.toList.map (·.dst)).take n) fr) H vals i o) {ι0 w0}
  (ht: ∀ι a w,Good F H ι0 w0 H ι w->Fr F H ι w (Zs (ops.toList.map (·.dst)) vals (List.range n) (Zw ((ops.toList.map (·.dst)).take n) fr)) a->wpList P ops Q (ops.toList.drop n) a w) :
  ∀(m:Nat) (listed:Array Bool) (ι:List (Option Nat)) (a:Act) (w:World),HeadInv .any ops n listed->((List.range n).filter fun i=> !listed.getD i false).length=m ->
   Mid F H (ops.toList.map (·.dst)) fr vals n listed ι a w->Good F H ι0 w0 H ι w->wpAny P .any ops Q (m+(ops.size-n)) listed a w:=by
 simp only [Yh,Bool.and_eq_true,decide_eq_true_eq,Bool.or_eq_true] at hB;obtain ⟨⟨⟨⟨hn,hsc⟩,hea⟩,hap⟩,hseq⟩:=hB;intro m
 induction m with
 | zero =>
  intro listed ι a w inv hm mid gd
  have Xe: ∀i,i<n->listed.getD i false=true:=fun i hi=>by
   simp_all
  have hl:listed=Array.replicate n true++Array.replicate (ops.size-n) false:=by
   refine Array.ext (by simp [inv.size];omega) fun i h1 h2=> ?_
   by_cases hi:i<n
   ·have:=Xe i hi
    simp_all
   ·have:=inv.tail i Za (by grind)
    simp_all
  have hw:=ht ι a w gd (mid.fr (List.range n) fun j hj=>⟨List.mem_range.1 hj,Xe j (List.mem_range.1 hj)⟩);have:=wpAny_of_seq (md:= .any) (Q':=Q) (ops.toList.drop n) n listed a w (fun j=>Zb) (by grind) hw
  grind
 | succ m ih =>
  intro listed ι a w inv hm mid gd
  -- one that is ready
  have hun: ∃i,i<n/\listed.getD i false=false:=by
   cases hf:(List.range n).filter fun i=> !listed.getD i false with
   | nil=>grind
   | cons i l =>
    have:i∈(List.range n).filter fun i=> !listed.getD i false:=by rw [hf];simp
    grind
  have hsz: ∀ {i},i<n->i<listed.size:=fun h=>by rw [inv.size];omega
  have hready:Region.ready .any ops listed≠ []:=by
   obtain ⟨i,hi,hu⟩:=hun
   -- the least
   have: ∃i,i<n/\listed.getD i false=false/\ ∀j,j<i->listed.getD j false=true:=by
    induction i using Nat.strongRecOn with
    | _ i ihh =>
     grind
   obtain ⟨i,hi,hu,hmin⟩:=this;intro h0
   have:i∈Region.ready .any ops listed:=by
    have hlt:i<ops.size:=Za
    refine mem_ready.2 ⟨getD_in (hsz hi) hu,ops[i],by simp [hlt],fun e he hb=> ?_⟩;have h1:=List.all_eq_true.1 hea i (List.mem_range.2 hi)
    grind [Array.all_eq_true_iff_forall_mem]
   grind
  rw [show m+1+(ops.size-n)=(m+(ops.size-n))+1 by omega];refine ⟨fun h0=>absurd h0 hready,fun i hi=> ?_⟩
  have hin:i<n:=by
   rcases hsc with h | ⟨hs,hc⟩
   ·grind [mem_ready]
   ·rcases Nat.lt_or_ge i n with h | h
    ·exact h
    ·obtain ⟨k,hk,hu⟩:=hun
     by_cases hne:n<ops.size
     ·exact absurd hi (tail_waits hs hc hne inv _ k rfl hk (getD_in (hsz hk) hu) i h)
     grind [mem_ready]
  obtain ⟨hiu,o,ho,Xe⟩:=mem_ready.1 hi;obtain ⟨y,hy,hok'⟩:=hok i o hin ho
  have hds:(ops.toList.map (·.dst))[i]? =some o.dst:=by simp [ho]
  have hfr:Fr F H ι w (Zs (ops.toList.map (·.dst)) vals (Zv i o) (Zw ((ops.toList.map (·.dst)).take n) fr)) a:=mid.fr _ fun j hj=>by
   refine ⟨by have:=XY j hj;omega,?_⟩;simp [Zv] at hj
   grind
  have hcount:((List.range n).filter fun k=> !(listed.setIfInBounds i true).getD k false).length=m:=by
   have e:((List.range n).filter fun k=> !(listed.setIfInBounds i true).getD k false)=((List.range n).filter fun k=> !listed.getD k false).filter (fun k=>k≠i):=by
    rw [List.filter_filter];refine List.filter_congr fun k hk=> ?_
    by_cases hki:k=i
    ·simp_all
    ·rw [getD_set_ne false (fun h=>hki h.symm)];simp [hki]
   rw [e]
   have hmem:i∈(List.range n).filter fun k=> !listed.getD k false:=by
    grind
   have hnd:((List.range n).filter fun k=> !listed.getD k false).Nodup:=List.nodup_range.filter _;have:=List.Nodup.erase_eq_filter hnd i
   grind
  have next: ∀ι' v w',Good F H ι w H ι' w'->RV F H ι' w' y v->wpAny P .any ops Q (m+(ops.size-n)) (listed.setIfInBounds i true) (a.put o.dst v) w':=fun ι' v w' g r =>
   ih _ ι' _ w' (inv.set hi hin) hcount (mid.put hap g hin hds hy r) (gd.trans g)
  have run:Zq P o (Zs (ops.toList.map (·.dst)) vals (Zv i o) (Zw ((ops.toList.map (·.dst)).take n) fr)) H (fun x H'=>x=y/\H'=H)->o.wp P a w (wpAny P .any ops Q (m+(ops.size-n)) (listed.setIfInBounds i true)) Q:=fun h =>
   Uz h mid.rel hfr fun x H' ι' v w' hk g r=>by
    grind
  unfold wpOp;simp only [ho]
  split at hok'
  ·simp_all [Region.wanted]
  ·rename_i j b hg;rcases hok' with ⟨c,hc,h1,h2⟩ | ⟨hc,hyt⟩
   rotate_left
   ·have hyl:=XR hfr hc
    have hw: ¬(Region.wanted o (yielded ops a.tmps)=true):=by grind [Region.wanted]
    rw [if_neg hw];exact next ι undef w (Good.refl mid.rel) (by grind [X2])
   have hyl:=YD hfr hc
   by_cases hcb:c=b
   ·simp_all [Region.wanted]
   ·have hw: ¬(Region.wanted o (yielded ops a.tmps)=true):=by grind [Region.wanted]
    rw [if_neg hw];exact next ι undef w (Good.refl mid.rel) (by grind [X2])
theorem Ef {P:Program} {id:Nat} {ops:Array Oper} {fr:List V} {H:List Obj} {Q:Exit->List V->List Obj->Prop} (n:Nat) (hm:P.follows .mixedOrders=true) (hB:Yh ops n=true)
  (h:hd P (ops.toList.map (·.dst)) (Zw ((ops.toList.map (·.dst)).take n) fr) H
   (fun vals=>Z0 P (ops.toList.map (·.dst)) (ops.toList.drop n) (Zs (ops.toList.map (·.dst)) vals (List.range n) (Zw ((ops.toList.map (·.dst)).take n) fr)) H (Q .normal)) 0 (ops.toList.take n) []) :
  AWP P (.region id ops true) fr H Q:=fun F ι a w hr hf=>by
 refine wp_region_any hm ?_
 have hn:n<=ops.size:=by
  simp_all [Yh]
 obtain ⟨ys,h1,h2,h3⟩:=VG _ 0 [] rfl h;simp only [List.nil_append] at h2 h3
 have hlen:ys.length=n:=by grind
 have g0:=Good.drew hr;have hf0:=g0.fr hf
 have:=CQ (Q:=fun e a' w'=> ∃fr' H' ι',Q e fr' H'/\Good F H ι w H' ι' w'/\Fr F H' ι' w' fr' a') (F:=F) (fr:=fr) (vals:=ys) (P:=P) (ι0:=ι) (w0:= { w with drawn:=w.drawn+1 }) hB hlen
  (fun i o hi ho=>by
   grind)
  (fun ι1 a1 w1 g1 f1=>ZM _ _ H _ h2 F ι1 a1 w1 g1.rel f1 fun fr' H' ι' a' w' k g f=>⟨fr',H',ι',k,g0.trans (g1.trans g),f⟩)
  n (Array.replicate ops.size false) ι a { w with drawn:=w.drawn+1 }
  ⟨Zb,fun j oj _ hl=>(by grind [getD_replicate_false]),fun t _ ht=>getD_in (by grind) (getD_replicate_false _ _)⟩
  (by
   grind [List.filter_eq_self,getD_replicate_false])
  ⟨g0.rel,hf0.1,hf0.2.1,fun t x ht _=>hf0.2.2 t x ht,fun j d x _ hl=>by grind [getD_replicate_false]⟩
  (Good.refl g0.rel)
 grind
end Go.AM
universe u
namespace Go.AM
open Go.RowKit
structure Tk {α:Sort u} (a:α):Type where
def Zn {α:Sort u} (a:α) (_:Tk a):α:=a
@[go_sem] theorem Sm {α β:Type} {f:α->β} {t x} :Zn f t x=f x:=Eq.trans rfl rfl
@[go_sem ↓] theorem Sn {α β:Type} {f:α->β->Prop} {t x y} :Zn f t x y=f x y:=Eq.trans rfl rfl
@[go_sem ↓] theorem So {α β γ:Type} {f:α->β->γ->Prop} {t x y z} :Zn f t x y z=f x y z:=Eq.trans rfl rfl
def Ja (x:Option V) (K:V->Prop):Prop:=match x with | some v=>K v | none=>False
def QF (x:Option (V×List Obj)) (K:V->List Obj->Prop):Prop:=match x with | some (v,H)=>K v H | none=>False
def sY (x:V) (K:Bool->Prop):Prop:=match x with | .p (.bool b)=>K b | _=>False
def hst (x:Option (List Obj)) (K:List Obj->Prop):Prop:=match x with | some H=>K H | none=>False
@[go_sem ↓, go_sem] theorem eC {v K} :Ja (some v) K=K v:=Eq.trans rfl rfl
@[go_sem ↓, go_sem] theorem dM {v H K} :QF (some (v,H)) K=K v H:=Eq.trans rfl rfl
@[go_sem ↓, go_sem] theorem bW {H K} :hst (some H) K=K H:=Eq.trans rfl rfl
@[congr] theorem SB {x x' K} (h:x=x'):Ja x K=Ja x' K:=by rw [h]
@[congr] theorem Sw {x x' K} (h:x=x'):QF x K=QF x' K:=by rw [h]
@[congr] theorem Sp {x x' K} (h:x=x'):hst x K=hst x' K:=by rw [h]
def Dm (fr:List V):List V:=fr
@[go_sem] theorem mN {fr} :Dm fr=fr:=Eq.trans rfl rfl
section code
variable {cuts : List Nat} {P : Program} {fr : List V} {H : List Obj} {Q : Exit -> List V -> List Obj -> Prop}
@[go_sem ↓] theorem Sc : Wp cuts P .skip fr H Q=Q .normal fr H:=Eq.trans rfl rfl
@[go_sem ↓] theorem MB {id} {l:List Oper} :Wp cuts P (.region id l.toArray false) fr H Q=Z0 P (l.map (·.dst)) l (Dm fr) H (Zn (Q .normal) ⟨⟩):=by rfl
@[go_sem ↓] theorem ND {id ops} :Wp cuts P (.region id ops true) fr H Q=AWP P (.region id (Zn ops ⟨⟩) true) fr H (Zn Q ⟨⟩):=by rfl
@[go_sem ↓] theorem aX {x y} :Wp [] P (.seq x y) fr H Q=Wp [] P x fr H (Y4 (fun fr H=>Wp [] P y fr H Q) Q):=by
 grind [Wp]
def HJ (b:Bool) (A B:Prop):Prop:=if b then A else B
def Ai (cuts:List Nat):Option Nat->Bool
 | some i=>cuts.contains i
 | none=>false
@[go_sem ↓] theorem Sb {k x y} :Wp (k::cuts) P (.seq x y) fr H Q=HJ (Ai (k::cuts) (Ax x)) (Zn (AWP P (.seq (Zn x ⟨⟩) (Zn y ⟨⟩)) fr H (Zn Q ⟨⟩)) ⟨⟩) (Zn (Wp (k::cuts) P x fr H (Y4 (fun fr H=>Wp (k::cuts) P y fr H Q) Q)) ⟨⟩):=by
 rfl
@[go_sem ↓, go_sem] theorem SE {A B:Prop} {t} :HJ true (Zn A t) B=A:=by rfl
@[go_sem ↓, go_sem] theorem PZ {A B:Prop} {t} :HJ false A (Zn B t)=B:=by rfl
theorem CD {b b' A B} (h:b=b'):HJ b A B=HJ b' A B:=by rw [h]
@[go_sem ↓] theorem N2 {id ops d} :Ax (.region id ops d)=some id:=Eq.trans rfl rfl
@[go_sem ↓] theorem jP {x y} :Ax (.seq x y)=Ax x:=Eq.trans rfl rfl
@[go_sem ↓] theorem Sl {id c} :Ax (.block id c)=Ax c:=Eq.trans rfl rfl
@[go_sem ↓] theorem bR {c x y} :Ax (.cond c x y)=none:=Eq.trans rfl rfl
@[go_sem ↓] theorem bT {c} :Ax (.loop c)=none:=Eq.trans rfl rfl
@[go_sem] theorem NK : Ai cuts none=false:=Eq.trans rfl rfl
@[go_sem] theorem Si {i} :Ai [] (some i)=false:=Eq.trans rfl rfl
@[go_sem] theorem NJ {k i} :Ai (k::cuts) (some i)=(decide (i=k)||Ai cuts (some i)):=by rfl
@[go_sem ↓] theorem R7 {c x y} :Wp cuts P (.cond c x y) fr H Q=Yd (ev fr c) (Zn (Wp cuts P x fr H Q) ⟨⟩) (Zn (Wp cuts P y fr H Q) ⟨⟩):=Eq.trans rfl rfl
@[go_sem ↓] theorem NC {id c} :Wp cuts P (.block id c) fr H Q=Wp cuts P c fr H (YN id Q):=Eq.trans rfl rfl
@[go_sem ↓] theorem R8 {id} :Wp cuts P (.exit id) fr H Q=Q (.exit id) fr H:=Eq.trans rfl rfl
@[go_sem ↓] theorem aW : Wp cuts P .ret fr H Q=Q .ret fr H:=Eq.trans rfl rfl
@[go_sem ↓] theorem Sa {c} :Wp cuts P (.loop c) fr H Q=AWP P (.loop (Zn c ⟨⟩)) fr H (Zn Q ⟨⟩):=Eq.trans rfl rfl
@[go_sem ↓] theorem R9 {c t} :Wp cuts P (Zn c t) fr H Q=Wp cuts P c fr H Q:=Eq.trans rfl rfl
theorem Ee {c fr' H'} (h:fr=fr') (h2:H=H'):Wp cuts P c fr H Q=Wp cuts P c fr' H' Q:=by rw [h,h2]
theorem DY {c fr' H'} (h:fr=fr') (h2:H=H'):AWP P c fr H Q=AWP P c fr' H' Q:=by rw [h,h2]
@[go_sem ↓] theorem L8 {A:List V->List Obj->Prop} :Y4 A Q .normal fr H=A fr H:=Eq.trans rfl rfl
@[go_sem ↓] theorem Ra {A:List V->List Obj->Prop} {id} :Y4 A Q (.exit id) fr H=Q (.exit id) fr H:=Eq.trans rfl rfl
@[go_sem ↓] theorem Tw {A:List V->List Obj->Prop} :Y4 A Q .ret fr H=Q .ret fr H:=Eq.trans rfl rfl
@[go_sem ↓] theorem HW {id} :YN id Q .normal fr H=Q .normal fr H:=Eq.trans rfl rfl
@[go_sem ↓] theorem NE {id} :YN id Q .ret fr H=Q .ret fr H:=Eq.trans rfl rfl
@[go_sem ↓] theorem MC {id id'} :YN id Q (.exit id') fr H=if id'=id then Q .normal fr H else Q (.exit id') fr H:=Eq.trans rfl rfl
theorem Bn {A:List V->List Obj->Prop} {e fr' H'} (h:fr=fr') (h2:H=H'):Y4 A Q e fr H=Y4 A Q e fr' H':=by rw [h,h2]
theorem Kk {id e fr' H'} (h:fr=fr') (h2:H=H'):YN id Q e fr H=YN id Q e fr' H':=by rw [h,h2]
@[go_sem ↓] theorem eG {rs} {Q:V->List Obj->Prop} :UR P rs Q .ret fr H=QF ((Xr P fr H rs).map fun xs=>(WV xs,H)) (Zn Q ⟨⟩):=by
 simp only [UR,Zn];grind [QF]
theorem Cu {rs e fr' H'} {Q:V->List Obj->Prop} (h:fr=fr') (h2:H=H'):UR P rs Q e fr H=UR P rs Q e fr' H':=by rw [h,h2]
@[go_sem] theorem PM : Xr P fr H []=some []:=Eq.trans rfl rfl
@[go_sem] theorem PN {t l} :Xr P fr H (.tmp t::l)=(Xr P fr H l).map (gt fr t:: ·):=by
 simp only [Xr,E6];cases Xr P fr H l<;>rfl
@[go_sem] theorem MQ {a t l} :Xr P fr H (.cell a t::l)=(Vx P H t (gt fr a)).bind fun x=>(Xr P fr H l).map (x:: ·):=by
 simp only [Xr,E6];cases Vx P H t (gt fr a)<;>cases Xr P fr H l<;>rfl
@[go_sem] theorem PO {x} :WV [x]=x:=Eq.trans rfl rfl
@[go_sem] theorem Ct {x y l} :WV (x::y::l)= .tup (x::y::l):=Eq.trans rfl rfl
end code
attribute [congr] CD Ee DY Bn Kk Cu
@[go_sem] theorem jO {x:V} {l} :gt (x::l) 0=x:=Eq.trans rfl rfl
@[go_sem] theorem jN {x:V} {l n} :gt (x::l) (n+1)=gt l n:=Eq.trans rfl rfl
@[go_sem] theorem mK {n} :gt [] n= .junk:=Eq.trans rfl rfl
@[go_sem] theorem kG {x v:V} {l} :pt (x::l) 0 v=v::l:=Eq.trans rfl rfl
@[go_sem] theorem kF {x v:V} {l n} :pt (x::l) (n+1) v=x::pt l n v:=Eq.trans rfl rfl
@[go_sem] theorem eE {fr d v} :YR fr (some d) v=pt fr d v:=Eq.trans rfl rfl
@[go_sem] theorem eD {fr v} :YR fr none v=fr:=Eq.trans rfl rfl
@[go_sem] theorem dQ {x:Obj} {l} :Xv (x::l) 0=x:=Eq.trans rfl rfl
@[go_sem] theorem dP {x:Obj} {l n} :Xv (x::l) (n+1)=Xv l n:=Eq.trans rfl rfl
@[go_sem] theorem dY {x v:Obj} {l} :Q9 (x::l) 0 v=v::l:=Eq.trans rfl rfl
@[go_sem] theorem dX {x v:Obj} {l n} :Q9 (x::l) (n+1) v=x::Q9 l n v:=Eq.trans rfl rfl
@[go_sem] theorem jD {fr t} :evx fr (.tmp t)=gt fr t:=Eq.trans rfl rfl
@[go_sem] theorem mA {fr t} :ev fr (.tmp t)=gt fr t:=Eq.trans rfl rfl
@[go_sem] theorem jB {fr f} :ev fr (.func f)= .fn (.func f) [] []:=Eq.trans rfl rfl
@[go_sem] theorem lY {fr k n} :ev fr (.const (.int k n))= .p (.int k n):=Eq.trans rfl rfl
@[go_sem] theorem jA {fr b} :ev fr (.const (.bool b))= .p (.bool b):=Eq.trans rfl rfl
@[go_sem] theorem lZ {fr s} :ev fr (.const (.string s))= .p (.str s.data.toList):=Eq.trans rfl rfl
@[go_sem] theorem jC {fr} :ev fr (.const (.slice none 0 0))= .p (.list true []):=Eq.trans rfl rfl
@[go_sem] theorem lX {fr l} :ev fr (.const (.agg (List.toArray l)))=match NN l with | some xs=> .p (.agg xs) | none=> .junk:=Eq.trans rfl rfl
@[go_sem] theorem bL {fr d} {l:List (Option Nat)} :Q8 fr (some d::l) 0=gt fr d:=by simp [Q8]
@[go_sem] theorem bK {fr o n} {l:List (Option Nat)} :Q8 fr (o::l) (n+1)=Q8 fr l n:=by simp [Q8]
section ops
variable {P : Program} {fr : List V} {H : List Obj} {ds : List (Option Nat)} {K : List V -> List Obj -> Prop} {r : List Oper} {d : Option Nat} {t : TypeId} {ps : String} {af : Array Edge} {g : Option (Nat × Bool)} {k : V -> List Obj -> Prop}
theorem BG {l fr' H'} (h:fr=fr') (h2:H=H'):Z0 P ds l fr H K=Z0 P ds l fr' H' K:=by rw [h,h2]
theorem K9 {o fr' H'} (h:fr=fr') (h2:H=H'):Zm P o fr H k=Zm P o fr' H' k:=by rw [h,h2]
@[go_sem ↓] theorem aN : Z0 P ds [] fr H K=K fr H:=Eq.trans rfl rfl
@[go_sem] theorem RS {op} :Z0 P ds (⟨d,op,t,ps,af,none⟩::r) fr H K=Zm P ⟨d,op,t,ps,af,none⟩ fr H (Zn (fun x H'=>Z0 P ds r (YR fr d x) H' K) ⟨⟩):=Eq.trans rfl rfl
@[go_sem] theorem M9 {op j b} :Z0 P ds (⟨d,op,t,ps,af,some (j,b)⟩::r) fr H K=ZF (Q8 fr ds j) b (Zn (Zm P ⟨d,op,t,ps,af,none⟩ fr H (Zn (fun x H'=>Z0 P ds r (YR fr d x) H' K) ⟨⟩)) ⟨⟩) (Zn (Z0 P ds r (YR fr d (.tup [])) H K) ⟨⟩):=by
 rfl
theorem ZG {op:Op} (h:Wa op=none) (h2:Yb P op fr H=none):Zm P ⟨d,op,t,ps,af,g⟩ fr H k=Ja (ZA P op fr H) fun x=>k x H:=by
 simp only [Zm,h,Mp,h2]
 all_goals (cases ZA P op fr H<;>rfl)
theorem Ec {op:Op} (h:Wa op=none) (h2:ZA P op fr H=none):Zm P ⟨d,op,t,ps,af,g⟩ fr H k=QF (Yb P op fr H) k:=by
 grind [Zm,Mp,QF]
@[go_sem ↓] theorem Nw {x} :Zm P ⟨d,.move x,t,ps,af,g⟩ fr H k=k (ev fr x) H:=by rfl
@[go_sem ↓] theorem Iz {x} :Zm P ⟨d,.assign x,t,ps,af,g⟩ fr H k=k (ev fr x) H:=by rfl
def lK (b:Bool) (x y:V):V:=if b then x else y
@[go_sem] theorem gK {x y} :lK true x y=x:=Eq.trans rfl rfl
@[go_sem] theorem Tx {x y} :lK false x y=y:=Eq.trans rfl rfl
@[go_sem] theorem gJ {b x y} :lK b (.p (.bool x)) (.p (.bool y))= .p (.bool (if b then x else y)):=by cases b<;>rfl
@[go_sem] theorem aR {b} :Nk (.p (.bool b))=some b:=Eq.trans rfl rfl
@[go_sem ↓] theorem Ny {c x y} :Zm P ⟨d,.pick c x y,t,ps,af,g⟩ fr H k=Ja ((Nk (ev fr c)).map fun b=>lK b (ev fr x) (ev fr y)) (Zn (fun v=>k v H) ⟨⟩):=by
 rw [ZG rfl rfl];simp only [ZA,Xh]
 cases Nk (ev fr c)<;>rfl
@[go_sem ↓] theorem Nv {u x} :Zm P ⟨d,.load u x,t,ps,af,g⟩ fr H k=Ja (Vx P H u (ev fr x)) (Zn (fun v=>k v H) ⟨⟩):=by rw [ZG rfl rfl];rfl
@[go_sem ↓] theorem R0 {op u x y u2} :Zm P ⟨d,.binOp op u x y u2,t,ps,af,g⟩ fr H k=Ja ((Z6 P op u (ev fr x) (ev fr y)).map .p) (Zn (fun v=>k v H) ⟨⟩):=by rw [ZG rfl rfl];rfl
@[go_sem ↓] theorem aU {op u x} :Zm P ⟨d,.unOp op u x,t,ps,af,g⟩ fr H k=Ja ((R6 op (ev fr x)).map .p) (Zn (fun v=>k v H) ⟨⟩):=by rw [ZG rfl rfl];rfl
def G3 (x y:Option PV):Option PV:=match x with | some z=>some z | none=>y
@[go_sem] theorem Py {z y} :G3 (some z) y=some z:=Eq.trans rfl rfl
@[go_sem] theorem Px {y} :G3 none y=y:=Eq.trans rfl rfl
@[go_sem ↓] theorem Nu {s u x} :Zm P ⟨d,.convert s u x,t,ps,af,g⟩ fr H k=Ja ((G3 (V9 P H s u (ev fr x)) (KY P s u (ev fr x))).map .p) (Zn (fun v=>k v H) ⟨⟩):=by
 rw [ZG rfl rfl];simp only [ZA,Xh]
 cases V9 P H s u (ev fr x)<;>rfl
@[go_sem ↓] theorem FM {f cs es} :Zm P ⟨d,.makeFunc f (List.toArray cs) (List.toArray es),t,ps,af,g⟩ fr H k=k (.fn f (cs.map (ev fr)) (es.map (ev fr))) H:=by rfl
@[go_sem ↓] theorem Mz {u x lo hi mx} :Zm P ⟨d,.slice u x lo hi mx,t,ps,af,g⟩ fr H k=Ja (Xm P H u fr (ev fr x) lo hi mx) (Zn (fun v=>k v H) ⟨⟩):=by rw [ZG rfl rfl];rfl
@[go_sem ↓] theorem Fh {s x f} :Zm P ⟨d,.fieldAddr s x f,t,ps,af,g⟩ fr H k=Ja (U9 P H s f (ev fr x)) (Zn (fun v=>k v H) ⟨⟩):=by rw [ZG rfl rfl];rfl
@[go_sem ↓] theorem Fi {u x i} :Zm P ⟨d,.indexAddr u x i,t,ps,af,g⟩ fr H k=Ja (Qb P H u (evx fr x) (ev fr i)) (Zn (fun v=>k v H) ⟨⟩):=by rw [ZG rfl rfl];rfl
@[go_sem ↓] theorem My {u x i} :Zm P ⟨d,.index u x i,t,ps,af,g⟩ fr H k=Ja (K1 P u (ev fr x) (ev fr i)) (Zn (fun v=>k v H) ⟨⟩):=by rw [ZG rfl rfl];rfl
def qO (x:V) (i:Nat):Option V:=match x with | .tup vs=>vs[i]? | _=>none
@[go_sem] theorem iK {vs i} :qO (.tup vs) i=vs[i]? :=Eq.trans rfl rfl
@[go_sem ↓] theorem HU {x i} :Zm P ⟨d,.extract x i,t,ps,af,g⟩ fr H k=Ja (qO (ev fr x) i) (Zn (fun v=>k v H) ⟨⟩):=by
 rw [ZG rfl rfl]
 rfl
@[go_sem ↓] theorem Mx {u l} :Zm P ⟨d,.build u (List.toArray l),t,ps,af,g⟩ fr H k=Ja (U6 P H u (l.map fun x=>(x.1,ev fr x.2))) (Zn (fun v=>k v H) ⟨⟩):=by rw [ZG rfl rfl];rfl
@[go_sem ↓] theorem R2 {x u} :Zm P ⟨d,.call ⟨.builtin .len,#[x],#[u]⟩,t,ps,af,g⟩ fr H k=Ja ((FD P H u (ev fr x)).map .p) (Zn (fun v=>k v H) ⟨⟩):=by rw [ZG rfl rfl];rfl
@[go_sem ↓] theorem R3 {x y us} :Zm P ⟨d,.call ⟨.builtin .max,#[x,y],us⟩,t,ps,af,g⟩ fr H k=Ja ((BD false [ev fr x,ev fr y]).map .p) (Zn (fun v=>k v H) ⟨⟩):=by
 rw [ZG rfl rfl];rfl
@[go_sem ↓] theorem Mw {u} :Zm P ⟨d,.alloc u,t,ps,af,g⟩ fr H k=QF ((ZC P u).map fun zs=>(.ptr H.length 0,H++ [.cells (zs.map .p)])) (Zn k ⟨⟩):=by rfl
@[go_sem ↓] theorem R1 {u x} :Zm P ⟨d,.box u x,t,ps,af,g⟩ fr H k=QF ((vc H (ev fr x)).map fun cs=>(.ptr H.length 0,H++ [.cells cs])) (Zn k ⟨⟩):=by rfl
def NA (H:List Obj) (n:Option Nat) (a:V) (cs:Option (List V)):Option (List Obj):=n.bind fun n=>cs.bind fun cs=>Vo H n a cs
@[go_sem] theorem R5 {n a cs} :NA H (some n) a (some cs)=Vo H n a cs:=Eq.trans rfl rfl
@[go_sem ↓] theorem MA {u x y} :Zm P ⟨d,.store u x y,t,ps,af,g⟩ fr H k=hst (NA H (Xk P u) (ev fr x) (vc H (ev fr y))) (Zn (k .junk) ⟨⟩):=by
 rw [Ec rfl rfl];simp only [Yb,NA]
 cases Xk P u<;>cases vc H (ev fr y)<;>simp [hst,QF,Zn]
 grind
@[go_sem ↓] theorem Eb {u n l} :Zm P ⟨d,.buildSlice u n (List.toArray l),t,ps,af,g⟩ fr H k=QF (Yb P (.buildSlice u n (List.toArray l)) fr H) (Zn k ⟨⟩):=by rfl
@[go_sem ↓] theorem HV {u} :Zm P ⟨d,.makeMap u none,t,ps,af,g⟩ fr H k=k (.mp H.length) (H++ [.map []]):=by rfl
@[go_sem ↓] theorem IA {u x y ok} :Zm P ⟨d,.lookup u x y ok,t,ps,af,g⟩ fr H k=QF (Jm P H u (ev fr x) (ev fr y) ok) (Zn k ⟨⟩):=by rfl
@[go_sem ↓] theorem Nx {u x y z} :Zm P ⟨d,.mapUpdate u x y z,t,ps,af,g⟩ fr H k=QF (Jn P H u (ev fr x) (ev fr y) (ev fr z)) (Zn k ⟨⟩):=by rfl
@[go_sem ↓] theorem Fj {u x y} :Zm P ⟨d,.makeSlice u x y,t,ps,af,g⟩ fr H k=QF (Yb P (.makeSlice u x y) fr H) (Zn k ⟨⟩):=by rfl
@[go_sem ↓] theorem Iy {x y u u2} :Zm P ⟨d,.call ⟨.builtin .append,#[x,y],#[u,u2]⟩,t,ps,af,g⟩ fr H k=QF (Yt P H u u2 (ev fr x) (ev fr y)) (Zn k ⟨⟩):=by rfl
@[go_sem ↓] theorem Nt {f azs ts} :Zm P ⟨d,.call ⟨.value f,List.toArray azs,ts⟩,t,ps,af,g⟩ fr H k=UA P (ev fr f) (azs.map (ev fr)) H (Zn k ⟨⟩):=Eq.trans rfl rfl
@[go_sem ↓] theorem aC {f fs cs azs} :UA P (.fn (.func f) fs cs) azs H k=ACalls P f (fs++azs++cs) H k:=Eq.trans rfl rfl
@[go_sem ↓] theorem Rw {f azs} :UA P (.p (.fn f)) azs H k=ACalls P f azs H k:=Eq.trans rfl rfl
theorem KW {f f' azs as'} (h:f=f') (h2:azs=as'):UA P f azs H k=UA P f' as' H k:=by rw [h,h2]
theorem J4 {f azs as' H'} (h2:azs=as') (h3:H=H'):ACalls P f azs H k=ACalls P f as' H' k:=by rw [h2,h3]
theorem KX {x x' A B} (h:x=x'):Yd x A B=Yd x' A B:=by rw [h]
theorem Ka {x x' b A B} (h:x=x'):ZF x b A B=ZF x' b A B:=by rw [h]
@[go_sem ↓, go_sem] theorem MY {A:Prop} {t B'} :Yd (.p (.bool true)) (Zn A t) B'=A:=by simp [Yd,Zn]
@[go_sem ↓, go_sem] theorem Mk {B:Prop} {t B'} :Yd (.p (.bool false)) B' (Zn B t)=B:=by simp [Yd,Zn]
@[go_sem ↓, go_sem] theorem RG {A:Prop} {t B} :ZF (.p (.bool true)) true (Zn A t) B=A:=by simp [ZF,Zn]
@[go_sem ↓, go_sem] theorem RF {B:Prop} {t A} :ZF (.p (.bool true)) false A (Zn B t)=B:=by simp [ZF,Zn]
@[go_sem ↓, go_sem] theorem RE {B:Prop} {t A} :ZF (.p (.bool false)) true A (Zn B t)=B:=by simp [ZF,Zn]
@[go_sem ↓, go_sem] theorem RD {A:Prop} {t B} :ZF (.p (.bool false)) false (Zn A t) B=A:=by simp [ZF,Zn]
@[go_sem ↓, go_sem] theorem Mm {b} {B:Prop} {t A} :ZF (.tup []) b A (Zn B t)=B:=by rfl
theorem CU {c:Bool} {A B:Prop} {t t'} (h1:c=true->A) (h2:c=false->B):Yd (.p (.bool c)) (Zn A t) (Zn B t'):=⟨h1,h2⟩
theorem FB {c:Bool} {A B:Prop} {t t'} (h1:c=true->A) (h2:c=false->B):ZF (.p (.bool c)) true (Zn A t) (Zn B t'):=⟨h1,fun h=>h2 (by simpa using h)⟩
theorem K0 {c:Bool} {A B:Prop} {t t'} (h1:c=true->B) (h2:c=false->A):ZF (.p (.bool c)) false (Zn A t) (Zn B t'):=⟨h2,fun h=>h1 (by simpa using h)⟩
theorem Zk {P Q:Prop} (h:Q) (e:Q->P:=by intro h;simp (disch:=omega) only [go_sem,seval];exact h):P:=e h
class Dc (c:Bool) (p q:outParam Prop):Prop where
 t:c=true->p
 f:c=false->q
instance dcD {p : Prop} [Decidable p] : Dc (decide p) p (¬p) := ⟨of_decide_eq_true, of_decide_eq_false⟩
instance (priority := low) dcB {c : Bool} : Dc c (c = true) (c = false) := ⟨id, id⟩
theorem cD {c:Bool} {A B p q:Prop} {t t'} [d:Dc c p q] (h1:p->A) (h2:q->B):Yd (.p (.bool c)) (Zn A t) (Zn B t'):=CU (fun h=>h1 (d.t h)) (fun h=>h2 (d.f h))
theorem gT {c:Bool} {A B p q:Prop} {t t'} [d:Dc c p q] (h1:p->A) (h2:q->B):ZF (.p (.bool c)) true (Zn A t) (Zn B t'):=FB (fun h=>h1 (d.t h)) (fun h=>h2 (d.f h))
theorem gF {c:Bool} {A B p q:Prop} {t t'} [d:Dc c p q] (h1:p->B) (h2:q->A):ZF (.p (.bool c)) false (Zn A t) (Zn B t'):=K0 (fun h=>h1 (d.t h)) (fun h=>h2 (d.f h))
@[go_sem] theorem kB {p:Prop} [Decidable p]:(!decide p)=decide (¬p):=Zb
end ops
attribute [congr] BG K9 KW J4 KX Ka
section vals
variable {P : Program} {H : List Obj} {k : IntKind} {t u : TypeId}
@[go_sem] theorem TX {a b} :Z6 P .add t (.p (.int k a)) (.p (.int k b))=some (.int k (k.wrap (a+b))):=by simp [Z6,YZ]
@[go_sem] theorem aB {a b} :Z6 P .sub t (.p (.int k a)) (.p (.int k b))=some (.int k (k.wrap (a-b))):=by simp [Z6,YZ]
@[go_sem] theorem T6 {a b} :Z6 P .mul t (.p (.int k a)) (.p (.int k b))=some (.int k (k.wrap (a*b))):=by simp [Z6,YZ]
@[go_sem] theorem T8 {a b} (h:b≠0):Z6 P .quo t (.p (.int k a)) (.p (.int k b))=some (.int k (k.wrap (a.tdiv b))):=by simp [Z6,YZ,h]
@[go_sem] theorem TZ {a b} :Z6 P .and t (.p (.int k a)) (.p (.int k b))=some (.int k (k.wrap ((BitVec.ofInt k.bits a&&&BitVec.ofInt k.bits b).toNat:Int))):=by simp [Z6,YZ]
@[go_sem] theorem CT {a b} :Z6 P .or t (.p (.int k a)) (.p (.int k b))=some (.int k (k.wrap ((BitVec.ofInt k.bits a|||BitVec.ofInt k.bits b).toNat:Int))):=by simp [Z6,YZ]
@[go_sem] theorem Mi {a b} :Z6 P .andNot t (.p (.int k a)) (.p (.int k b))=some (.int k (k.wrap ((BitVec.ofInt k.bits a&&& ~~~(BitVec.ofInt k.bits b)).toNat:Int))):=by simp [Z6,YZ]
@[go_sem] theorem T0 {a b} :Z6 P .eql t (.p (.int k a)) (.p (.int k b))=some (.bool (decide (a=b))):=by simp [Z6,YZ]
@[go_sem] theorem T7 {a b} :Z6 P .neq t (.p (.int k a)) (.p (.int k b))=some (.bool (decide (¬a=b))):=by simp [Z6,YZ]
@[go_sem] theorem T5 {a b} :Z6 P .lss t (.p (.int k a)) (.p (.int k b))=some (.bool (decide (a<b))):=by simp [Z6,YZ]
@[go_sem] theorem T4 {a b} :Z6 P .leq t (.p (.int k a)) (.p (.int k b))=some (.bool (decide (a<=b))):=by simp [Z6,YZ]
@[go_sem] theorem T3 {a b} :Z6 P .gtr t (.p (.int k a)) (.p (.int k b))=some (.bool (decide (b<a))):=by simp [Z6,YZ]
@[go_sem] theorem T1 {a b} :Z6 P .geq t (.p (.int k a)) (.p (.int k b))=some (.bool (decide (b<=a))):=by simp [Z6,YZ]
@[go_sem] theorem Fu {a b k'} (h:0<=b):Z6 P .shl t (.p (.int k a)) (.p (.int k' b))=some (.int k (k.wrap (a*2^(min b.toNat k.bits)))):=by grind [Z6,YZ]
@[go_sem] theorem T9 {a b k'} (h:0<=b):Z6 P .shr t (.p (.int k a)) (.p (.int k' b))=some (.int k (a.fdiv (2^(min b.toNat k.bits)))):=by grind [Z6,YZ]
@[go_sem] theorem aA {op a b} :Z6 P op t (.p (.str a)) (.p (.str b))=KK op a b:=Eq.trans rfl rfl
@[go_sem] theorem eQ {a b} :KK .eql a b=some (.bool (decide (a=b))):=Eq.trans rfl rfl
@[go_sem] theorem eR {a b} :KK .neq a b=some (.bool (decide (¬a=b))):=by simp [KK]
@[go_sem] theorem HH {a b} (h:a.length+b.length<=9223372036854775807):KK .add a b=some (.str (a++b)):=by simp [KK,h]
def sX (op:BinOp) (u:Option TypeDesc) (a b:Bool):Option PV:=match op,u with
  | .eql,some .bool=>some (.bool (a==b))
  | .neq,some .bool=>some (.bool (!(a==b)))
  | _,_=>none
end vals
attribute [irreducible] Ja QF hst sY
end Go.AM
namespace Go.AM
open Go.RowKit
section vals
variable {P : Program} {H : List Obj} {k : IntKind} {t u : TypeId}
def NX (g:Bool) (op:BinOp) (r:Option Bool):Option PV:=if g then none else match op with
 | .eql=>r.map .bool
 | .neq=>r.map fun r=> .bool (!r)
 | _=>none
@[go_sem] theorem TY {op a b} :Z6 P op t (.p (.agg a)) (.p (.agg b))=NX (P.eqGuardType P.depth t) op (X9 P 9 t (.agg a) (.agg b)):=Eq.trans rfl rfl
@[go_sem] theorem bM {b} :NX false .eql (some b)=some (.bool b):=Eq.trans rfl rfl
@[go_sem] theorem bN {b} :NX false .neq (some b)=some (.bool (!b)):=Eq.trans rfl rfl
def J9 (P:Program) (d:Nat) (t:TypeId) (D:Option TypeDesc) (x y:PV):Option Bool:=match D,x,y with
  | some .bool,.bool a,.bool b=>some (a==b)
  | some (.int _),.int k a,.int k' b=>if k=k' then some (decide (a=b)) else none
  | some .string,.str a,.str b=>some (decide (a=b))
  | some (.struct fs),.agg a,.agg b=>if P.stoodInHeld t then none else Vw (X9 P d) P fs.toList a b
  | some (.array n e),.agg a,.agg b=>match Xk P e with | some m=>D1 (X9 P d e) P e m n 0 a b | none=>none
  | _,_,_=>none
@[go_sem] theorem RA {d x y} :X9 P (d+1) t x y=J9 P d t (P.underlying t) x y:=Eq.trans rfl rfl
@[go_sem] theorem Rz {d a b} :J9 P d t (some .bool) (.bool a) (.bool b)=some (a==b):=Eq.trans rfl rfl
@[go_sem] theorem aE {d k0 a b} :J9 P d t (some (.int k0)) (.int k a) (.int k b)=some (decide (a=b)):=by simp [J9]
theorem WC {d fs a b} (h:P.stoodInHeld t=false):J9 P d t (some (.struct fs)) (.agg a) (.agg b)=Vw (X9 P d) P fs.toList a b:=by simp [J9,h]
def UQ (x y:Option Bool):Option Bool:=x.bind fun p=>y.map fun q=>p&&q
@[go_sem] theorem SA {p q} :UQ (some p) (some q)=some (p&&q):=Eq.trans rfl rfl
def Fl (f:PV->PV->Option Bool) (x y:Option PV):Option Bool:=x.bind fun x=>y.bind fun y=>f x y
@[go_sem] theorem bD {f x y} :Fl f (some x) (some y)=f x y:=Eq.trans rfl rfl
@[go_sem] theorem U8 {f a b} :Vw f P [] a b=some true:=Eq.trans rfl rfl
@[go_sem] theorem Ua {f fi r a b} : Vw f P (fi :: r) a b = if fi.name = "_" then Vw f P r a b else UQ (Fl (f fi.type) (apart P fi.type a fi.offset) (apart P fi.type b fi.offset)) (Vw f P r a b) := by
 simp only [Vw]
 split
 ·rfl
 ·cases apart P fi.type a fi.offset<;>cases apart P fi.type b fi.offset<;>simp [Fl,UQ]
  rename_i x y
  cases f fi.type x y<;>cases Vw f P r a b<;>rfl
def aP (g:Option Bool) (s:Option Nat) (cs:List PV) (off:Nat):Option PV:=match g,s with
 | some true,some n=>if off+n<=cs.length then some (.agg ((cs.drop off).take n)) else none
 | some false,_=>cs[off]?
 | _,_=>none
@[go_sem] theorem aO {cs off} :apart P t cs off=aP (ZQ P t) (Xk P t) cs off:=Eq.trans rfl rfl
@[go_sem] theorem aQ {s cs off} :aP (some false) s cs off=cs[off]? :=Eq.trans rfl rfl
def BC (g:Option Bool) (s:Option Nat) (H:List Obj) (x:V):Option V:=match g,s with
 | some true,some n=>(Yu H x n).map mkA
 | some false,_=>match Yu H x 1 with
  | some (c::_)=>some c
  | _=>none
 | _,_=>none
def qZ (x:Option (List V)):Option V:=match x with | some (c::_)=>some c | _=>none
@[go_sem] theorem bQ {c l} :qZ (some (c::l))=some c:=Eq.trans rfl rfl
@[go_sem] theorem aJ {x} :Vx P H t x=BC (ZQ P t) (Xk P t) H x:=Eq.trans rfl rfl
@[go_sem] theorem M8 {s x} :BC (some false) s H x=qZ (Yu H x 1):=by rfl
@[go_sem] theorem M7 {n x} :BC (some true) (some n) H x=(Yu H x n).map mkA:=Eq.trans rfl rfl
@[go_sem] theorem Ry {x j n} :Yu H (.lp x j) n=if j+n<=x.cells.length then some (((x.cells.drop j).take n).map .p) else none:=Eq.trans rfl rfl
def Hj (ob:Obj) (off n:Nat):Option (List V):=match ob with | .cells cs=>if off+n<=cs.length then some ((cs.drop off).take n) else none | _=>none
@[go_sem] theorem MX {o off n} :Yu H (.ptr o off) n=Hj (Xv H o) off n:=Eq.trans rfl rfl
@[go_sem] theorem LF {cs off n} :Hj (.cells cs) off n=if off+n<=cs.length then some ((cs.drop off).take n) else none:=Eq.trans rfl rfl
def F6 (ob:Obj) (i j tot n:Nat):Option (List V):=match ob with
 | .elems _ xs=>if xs.length=tot/\i<xs.length/\j+n<=(WA xs i).cells.length then some ((((WA xs i).cells.drop j).take n).map .p) else none
 | _=>none
@[go_sem] theorem Rx {o i j tot n} :Yu H (.ep o i j tot) n=F6 (Xv H o) i j tot n:=Eq.trans rfl rfl
@[go_sem] theorem IX {S xs i j tot n} :F6 (.elems S xs) i j tot n=if xs.length=tot/\i<xs.length/\j+n<=(WA xs i).cells.length then some ((((WA xs i).cells.drop j).take n).map .p) else none:=Eq.trans rfl rfl
@[go_sem] theorem Sd {cs} :(PV.agg cs).cells=cs:=Eq.trans rfl rfl
@[go_sem] theorem Sf {n} :(PV.int k n).cells= [.int k n]:=Eq.trans rfl rfl
@[go_sem] theorem NG {b} :(PV.bool b).cells= [.bool b]:=Eq.trans rfl rfl
@[go_sem] theorem Sg {s} :(PV.str s).cells= [.str s]:=Eq.trans rfl rfl
@[go_sem] theorem NH {c xs} :(PV.list c xs).cells= [.list c xs]:=Eq.trans rfl rfl
@[go_sem] theorem kD {n} :(PV.int k n).one=true:=Eq.trans rfl rfl
@[go_sem] theorem dV {b} :(PV.bool b).one=true:=Eq.trans rfl rfl
@[go_sem] theorem kE {s} :(PV.str s).one=true:=Eq.trans rfl rfl
@[go_sem] theorem dW {c xs} :(PV.list c xs).one=true:=Eq.trans rfl rfl
@[go_sem] theorem nE {cs} :mkA cs=match YT cs with | some ps=> .p (.agg ps) | none=> .agg cs:=Eq.trans rfl rfl
@[go_sem] theorem aI : YT []=some []:=Eq.trans rfl rfl
@[go_sem] theorem RK {x r} :YT (.p x::r)=(YT r).map (x:: ·):=by rfl
def UU (n:Option Nat) (a:Bool) (x:V):Option V:=match n with | some n=>if a then some (Vy n x) else none | none=>none
@[go_sem] theorem RB {s f x} :U9 P H s f x=UU (Zt P s f) (Ye H x) x:=Eq.trans rfl rfl
@[go_sem] theorem Ic {n x} :UU (some n) true x=some (Vy n x):=Eq.trans rfl rfl
@[go_sem] theorem aM {n x j} :Vy n (.lp x j)= .lp x (j+n):=Eq.trans rfl rfl
@[go_sem] theorem RQ {n o off} :Vy n (.ptr o off)= .ptr o (off+n):=Eq.trans rfl rfl
@[go_sem] theorem aL {n o i j tot} :Vy n (.ep o i j tot)= .ep o i (j+n) tot:=Eq.trans rfl rfl
def Do (ob:Obj):Bool:=match ob with | .cells _=>true | _=>false
@[go_sem] theorem H5 {cs} :Do (.cells cs)=true:=Eq.trans rfl rfl
def Dp (ob:Obj) (tot:Nat):Bool:=match ob with | .elems _ xs=>decide (xs.length=tot) | _=>false
@[go_sem] theorem H7 {S xs tot} :Dp (.elems S xs) tot=decide (xs.length=tot):=Eq.trans rfl rfl
def MK (ob:Obj) (tot:Nat):Bool:=match ob with | .elems _ xs=>decide (xs.length=tot) | .cells _=>true | _=>false
@[go_sem] theorem ML {S xs tot} :MK (.elems S xs) tot=decide (xs.length=tot):=Eq.trans rfl rfl
@[go_sem] theorem aH {x j} :Ye H (.lp x j)=true:=Eq.trans rfl rfl
@[go_sem] theorem M6 {o off} :Ye H (.ptr o off)=Do (Xv H o):=Eq.trans rfl rfl
@[go_sem] theorem aG {o i j tot} :Ye H (.ep o i j tot)=Dp (Xv H o) tot:=Eq.trans rfl rfl
def Y8 (e:Option (Option Nat×Nat)) (H:List Obj) (x i:V):Option V:=match e,i with
 | some (none,S),.p (.int _ n)=>match x with
  | .p (.list _ xs)=>if 0<=n/\n<xs.length then (if (WA xs n.toNat).cells.length=S then some (.lp (WA xs n.toNat) 0) else none) else none
  | .sl o off len tot=>match Xv H o with
   | .elems S' xs=>if xs.length=tot/\S'=S then (if 0<=n/\n<len then some (.ep o (off+n.toNat) 0 tot) else none) else none
   | .cells _=>if S=1/\off=0/\len=tot/\0<=n/\n<len then some (.ptr o n.toNat) else none
   | _=>none
  | _=>none
 | some (some k,S),.p (.int _ n)=>if 0<=n/\n<k then (if Ye H x then some (Vy (n.toNat*S) x) else none) else none
 | _,_=>none
@[go_sem] theorem RI {x i} :Qb P H t x i=Y8 (Xy P t) H x i:=Eq.trans rfl rfl
theorem Kb {S c xs n} (h0:0<=n) (h1:n<(List.length xs:Int)):Y8 (some (none,S)) H (.p (.list c xs)) (.p (.int k n))=if (WA xs n.toNat).cells.length=S then some (.lp (WA xs n.toNat) 0) else none:=by
 simp_all [Y8]
def nth {α:Type} [Inhabited α] (l:List α) (i:Nat):α:=l.getD i default
theorem UX {α:Type} [Inhabited α] {f:α->PV} {l:List α} {i:Nat} (h:i<l.length):WA (l.map f) i=f (nth l i):=by
 simp [WA,nth,h]
theorem Zg {α:Type} [Inhabited α] {l:List α} {i:Nat} (h:i<l.length):nth l i=l[i]:=by simp [nth,h]
@[go_sem] theorem Mo {α:Type} [Inhabited α] {f:α->PV} {l:List α} {S c n} (h0:0<=n) (h1:n<(l.length:Int)) :
  Y8 (some (none,S)) H (.p (.list c (l.map f))) (.p (.int k n))=if (f (nth l n.toNat)).cells.length=S then some (.lp (f (nth l n.toNat)) 0) else none:=by
 grind [Kb,UX]
def CG (ob:Obj) (S o off len tot:Nat) (n:Int):Option V:=match ob with
 | .elems S' xs=>if xs.length=tot/\S'=S then (if 0<=n/\n<len then some (.ep o (off+n.toNat) 0 tot) else none) else none
 | .cells _=>if S=1/\off=0/\len=tot/\0<=n/\n<len then some (.ptr o n.toNat) else none
 | _=>none
@[go_sem] theorem M1 {S o off len tot n} :Y8 (some (none,S)) H (.sl o off len tot) (.p (.int k n))=CG (Xv H o) S o off len tot n:=Eq.trans rfl rfl
@[go_sem] theorem SG {S xs o off} {len tot:Nat} {n:Int} (h0:0<=n) (h1:n<(len:Int)) (ht:xs.length=tot):CG (.elems S xs) S o off len tot n=some (.ep o (off+n.toNat) 0 tot):=by
 grind [CG]
@[go_sem] theorem Mn {n} {m S:Nat} {x} (h0:0<=n) (h1:n<(m:Int)):Y8 (some (some m,S)) H x (.p (.int k n))=UU (some (n.toNat*S)) (Ye H x) x:=by
 simp_all [Y8,UU]
def CV (H:List Obj) (D:Option TypeDesc) (x:V):Option PV:=match D,x with
 | some (.slice _),.p (.list _ xs)=>some (.int .i64 xs.length)
 | some (.slice _),.sl o _ len tot=>match Xv H o with
  | .elems _ xs=>if xs.length=tot then some (.int .i64 len) else none
  | _=>none
 | some .string,.p (.str s)=>some (.int .i64 s.length)
 | some (.array n _),_=>some (.int .i64 n)
 | _,_=>none
@[go_sem] theorem iC {x} :FD P H t x=CV H (P.underlying t) x:=Eq.trans rfl rfl
@[go_sem] theorem M3 {e c xs} :CV H (some (.slice e)) (.p (.list c xs))=some (.int .i64 (List.length xs)):=Eq.trans rfl rfl
def eV (ob:Obj) (len tot:Nat):Option PV:=match ob with | .elems _ xs=>if xs.length=tot then some (.int .i64 len) else none | _=>none
@[go_sem] theorem aF {e o off len tot} :CV H (some (.slice e)) (.sl o off len tot)=eV (Xv H o) len tot:=Eq.trans rfl rfl
@[go_sem] theorem P2 {S xs len tot} :eV (.elems S xs) len tot=if xs.length=tot then some (.int .i64 len) else none:=Eq.trans rfl rfl
@[go_sem] theorem RJ {s} :CV H (some .string) (.p (.str s))=some (.int .i64 (List.length s)):=Eq.trans rfl rfl
@[go_sem] theorem iJ {b} :R6 .not (.p (.bool b))=some (.bool (!b)):=Eq.trans rfl rfl
@[go_sem] theorem iI {n} :R6 .neg (.p (.int k n))=some (.int k (k.wrap (0-n))):=Eq.trans rfl rfl
def Fv (D E:Option TypeDesc) (x:V):Option PV:=match D,E,x with
 | some _,some (.int k),.p (.int _ n)=>some (.int k (k.wrap n))
 | some (.int _),some .string,.p (.int _ n)=>if 0<=n/\n<128 then some (.str [UInt8.ofNat n.toNat]) else none
 | some .string,some .string,.p (.str b)=>some (.str b)
 | _,_,_=>none
@[go_sem] theorem aD {s x} :KY P s t x=Fv (P.underlying s) (P.underlying t) x:=Eq.trans rfl rfl
@[go_sem] theorem MZ {D k' n} :Fv (some D) (some (.int k)) (.p (.int k' n))=some (.int k (k.wrap n)):=by rfl
def J7 (E:Option TypeDesc) (H:List Obj) (x:V):Option PV:=match E,x with
  | some (.int .u8),.p (.list _ xs)=>(Xi xs).map .str
  | some (.int .u8),.sl o off len tot=>match Xv H o with
   | .elems _ xs=>if xs.length=tot/\off+len<=tot then (Xi ((xs.take (off+len)).drop off)).map .str else none
   | _=>none
  | _,_=>none
def J6 (P:Program) (H:List Obj) (D E:Option TypeDesc) (x:V):Option PV:=match D,E with
 | some (.slice e),some .string=>J7 (P.underlying e) H x
 | _,_=>none
@[go_sem] theorem Rv {s x} :V9 P H s t x=J6 P H (P.underlying s) (P.underlying t) x:=Eq.trans rfl rfl
@[go_sem] theorem Mj {E x} :J6 P H (some (.int k)) E x=none:=Eq.trans rfl rfl
@[go_sem] theorem HS {e x} :J6 P H (some (.slice e)) (some .string) x=J7 (P.underlying e) H x:=Eq.trans rfl rfl
@[go_sem] theorem Ib {c xs} :J7 (some (.int .u8)) H (.p (.list c xs))=(Xi xs).map .str:=Eq.trans rfl rfl
@[go_sem] theorem Kl {n r} :Xi (.int .u8 n::r)=(Xi r).map (UInt8.ofNat n.toNat:: ·):=by rfl
@[go_sem] theorem qA {cs} :vc H (.p (.agg cs))=if cs.all (·.one)=true then some (cs.map .p) else none:=by rfl
@[go_sem] theorem qB {n} :vc H (.p (.int k n))=some [.p (.int k n)]:=Eq.trans rfl rfl
@[go_sem] theorem lI {n} :vc H (.p (.bool n))=some [.p (.bool n)]:=Eq.trans rfl rfl
@[go_sem] theorem qC {n} :vc H (.p (.str n))=some [.p (.str n)]:=Eq.trans rfl rfl
@[go_sem] theorem lJ {c xs} :vc H (.p (.list c xs))=some [.p (.list c xs)]:=Eq.trans rfl rfl
@[go_sem] theorem sW {o off len tot} :vc H (.sl o off len tot)=if MK (Xv H o) tot=true then some [.sl o off len tot] else none:=Eq.trans rfl rfl
@[go_sem] theorem kJ {α:Type} {n} {cs:List α} :Xs ([]:List α) n cs= []:=by rfl
@[go_sem] theorem eX {α:Type} {x c:α} {l cs} :Xs (x::l) 0 (c::cs)=c::Xs l 0 cs:=by simp [Xs]
@[go_sem] theorem SH {α:Type} {x:α} {l} :Xs (x::l) 0 []=x::l:=by simp [Xs]
@[go_sem] theorem eW {α:Type} {x:α} {l cs n} :Xs (x::l) (n+1) cs=x::Xs l n cs:=by simp [Xs]
def Hm (H:List Obj) (o:Nat) (ob:Obj) (off n:Nat) (cs:List V):Option (List Obj):=match ob with
 | .cells old=>if off+n<=old.length then some (Q9 H o (.cells (Xs old off cs))) else none
 | _=>none
@[go_sem] theorem Nz {n o off cs} :Vo H n (.ptr o off) cs=if cs.length=n then Hm H o (Xv H o) off n cs else none:=Eq.trans rfl rfl
@[go_sem] theorem LJ {o old off n cs} :Hm H o (.cells old) off n cs=if off+n<=old.length then some (Q9 H o (.cells (Xs old off cs))) else none:=Eq.trans rfl rfl
def BU (H:List Obj) (o:Nat) (ob:Obj) (i j tot n:Nat) (ps:Option (List PV)):Option (List Obj):=match ob,ps with
 | .elems S xs,some ps=>if xs.length=tot/\i<xs.length/\j+n<=(WA xs i).cells.length/\ps.all (·.one)=true/\(WA xs i).cells.all (·.one)=true then
   some (Q9 H o (.elems S (xs.set i (Li (WA xs i) (Xs (WA xs i).cells j ps))))) else none
 | _,_=>none
@[go_sem] theorem R4 {n o i j tot cs} :Vo H n (.ep o i j tot) cs=if cs.length=n then BU H o (Xv H o) i j tot n (YT cs) else none:=Eq.trans rfl rfl
@[go_sem] theorem NT {α:Type} [Inhabited α] {f:α->PV} {l:List α} {o S i j tot n ps} (ht:l.length=tot) (hi:i<l.length):BU H o (.elems S (l.map f)) i j tot n (some ps) =
  if j+n<=(f (nth l i)).cells.length/\ps.all (·.one)=true/\(f (nth l i)).cells.all (·.one)=true then
   some (Q9 H o (.elems S ((l.map f).set i (Li (f (nth l i)) (Xs (f (nth l i)).cells j ps))))) else none:=by
 simp_all [BU,UX]
@[go_sem] theorem jZ {a cs} :Li (.agg a) cs= .agg cs:=Eq.trans rfl rfl
@[go_sem] theorem kA {n c l} :Li (.int k n) (c::l)=c:=Eq.trans rfl rfl
@[go_sem] theorem Ru {l} :U6 P H t l=match ZC P t,Q3 P t with
 | some zs,some pl=>(WD H pl (zs.map .p) l).map mkA
 | _,_=>none:=Eq.trans rfl rfl
@[go_sem] theorem RC {pl cs} :WD H pl cs []=some cs:=by simp [WD]
def Fx (H:List Obj) (pl:Nat->Option (Nat×Nat)) (cs:List V) (r:List (Nat×V)) (q:Option (Nat×Nat)) (vs:Option (List V)):Option (List V):=match q,vs with
 | some (off,sz),some vs=>if vs.length=sz/\off+sz<=cs.length then WD H pl (Xs cs off vs) r else none
 | _,_=>none
@[go_sem] theorem M0 {pl cs i v r} :WD H pl cs ((i,v)::r)=Fx H pl cs r (pl i) (vc H v):=Eq.trans rfl rfl
@[go_sem] theorem Ml {pl cs off sz vs r} :Fx H pl cs r (some (off,sz)) (some vs)=if vs.length=sz/\off+sz<=cs.length then WD H pl (Xs cs off vs) r else none:=Eq.trans rfl rfl
@[go_sem] theorem nG {l i} :U0 l i=l[i]? :=Eq.trans rfl rfl
end vals
end Go.AM
namespace Go.AM
open Go.RowKit
section
variable {P : Program} {H : List Obj} {k : IntKind} {t u : TypeId} {fr : List V}
def FE (S:Option Nat) (H:List Obj) (n:Nat) (l:List (Nat×V)):Option (V×List Obj):=match S with
 | some S=>if n=l.length/\n*S<=16777216/\0<S then (Y1 H S 0 l).map fun xs=>(.sl H.length 0 n n,H++ [.elems S xs]) else none
 | none=>none
@[go_sem] theorem aK {n l} :Yb P (.buildSlice t n (List.toArray l)) fr H=FE (Yk P t) H n (l.map fun x=>(x.1,ev fr x.2)):=by
 grind [Yb,Yk,FE,BB]
@[go_sem] theorem M4 {S n l} :FE (some S) H n l=if n=l.length/\n*S<=16777216/\0<S then (Y1 H S 0 l).map fun xs=>(.sl H.length 0 n n,H++ [.elems S xs]) else none:=Eq.trans rfl rfl
@[go_sem] theorem dK {S n} :Y1 H S n []=some []:=by simp [Y1]
@[go_sem] theorem Sv {S n i x r} :Y1 H S n ((i,.p x)::r)=if i=n then if x.cells.length=S/\x.cells.all (·.one)=true then (Y1 H S (n+1) r).map (x:: ·) else none else none:=by rfl
@[go_sem] theorem jR {S n i f r} :Y1 H S n ((i,.fn (.func f) [] [])::r)=if i=n then if 1=S then (Y1 H S (n+1) r).map (.fn f:: ·) else none else none:=by simp [Y1,kH,PV.cells,PV.one]
def Vd (P:Program) (t:TypeId):Option (Nat×Nat):=match P.underlying t with
 | some (.slice e)=>match Xk P e,YQ P e,(P.info? e).map (·.bytes) with
  | some S,some z,some by'=>if 0<S/\z.cells.length=S/\z.cells.all (·.one)=true/\by'≠0 then some (S,by') else none
  | _,_,_=>none
 | _=>none
theorem K3 {S by'} (h:Vd P t=some (S,by')): ∃e z,P.underlying t=some (.slice e)/\Xk P e=some S/\YQ P e=some z/\(P.info? e).map (·.bytes)=some by'/\0<S/\z.cells.length=S/\z.cells.all (·.one)=true/\by'≠0:=by
 unfold Vd at h
 grind
def XT (D:Option TypeDesc) (H:List Obj) (y:V):Option (List PV):=match D,y with
 | some (.slice _),.p (.list _ ys)=>some ys
 | some (.slice _),.sl o off len tot=>match Xv H o with
  | .elems _ xs=>if xs.length=tot/\off+len<=tot then some ((xs.take (off+len)).drop off) else none
  | _=>none
 | some .string,.p (.str s)=>some (s.map fun b=> .int .u8 b.toNat)
 | _,_=>none
def LY (ob:Obj) (off len tot:Nat):Option (List PV):=match ob with | .elems _ xs=>if xs.length=tot/\off+len<=tot then some ((xs.take (off+len)).drop off) else none | _=>none
@[go_sem] theorem Nn {e c ys} :XT (some (.slice e)) H (.p (.list c ys))=some ys:=Eq.trans rfl rfl
@[go_sem] theorem aT {e o off len tot} :XT (some (.slice e)) H (.sl o off len tot)=LY (Xv H o) off len tot:=Eq.trans rfl rfl
theorem HL {S xs n} (h:List.length xs=n):LY (.elems S xs) 0 n n=some xs:=by grind [LY]
def FG (H:List Obj) (F:Option (Nat×Nat)) (ys:Option (List PV)):Option (V×List Obj):=match F,ys with
 | some (S,by'),some ys=>if QK S ys=true/\ys.length*by'<=140737488355328/\ys.length<=140737488355328 then some (.sl H.length 0 ys.length ys.length,H++ [.elems S ys]) else none
 | _,_=>none
def YU (H:List Obj) (F:Option (Nat×Nat)) (ob:Obj) (o n:Nat) (ys:Option (List PV)):Option (V×List Obj):=match F,ob,ys with
 | some (S,by'),.elems S' xs,some ys=>if S'=S/\xs.length=n/\QK S ys=true/\(n+ys.length)*by'<=140737488355328/\n+ys.length<=140737488355328 then
   some (.sl o 0 (n+ys.length) (n+ys.length),Q9 H o (.elems S (xs++ys))) else none
 | _,_,_=>none
theorem CS {z x y ys e S by'} (h1:P.underlying t=some (.slice e)) (h2:Xk P e=some S) (h3:YQ P e=some z) (h4:(P.info? e).map (·.bytes)=some by') (h5:K7 P H u y=some ys) (h6:0<S/\z.cells.length=S/\z.cells.all (·.one)=true/\by'≠0) :
  Yt P H t u x y=if QK S ys=true then (match x with
    | .p (.list cl xs)=>if cl=true/\QK S xs=true/\(xs= []\/0<ys.length)/\(xs.length+ys.length)*by'<=140737488355328/\xs.length+ys.length<=140737488355328 then
      some (.sl H.length 0 (xs.length+ys.length) (xs.length+ys.length),H++ [.elems S (xs++ys)]) else none
    | .sl o off len tot=>match Xv H o with
     | .elems S' xs=>if S'=S/\off=0/\len=tot/\xs.length=tot/\(tot+ys.length)*by'<=140737488355328/\tot+ys.length<=140737488355328 then
       some (.sl o 0 (tot+ys.length) (tot+ys.length),Q9 H o (.elems S (xs++ys))) else none
     | _=>none
    | _=>none) else none:=by
 simp only [Yt,h1,h2,h3,h4,h5]
 grind
theorem Fs {y F} (hF:Vd P t=some F):Yt P H t u (.p (.list true [])) y=FG H (some F) (XT (P.underlying u) H y):=by
 obtain ⟨S,by'⟩:=F;obtain ⟨e,z,h1,h2,h3,h4,h6⟩:=K3 hF;have e1:XT (P.underlying u) H y=K7 P H u y:=Eq.trans rfl rfl;rw [e1]
 cases h5:K7 P H u y with
 | none=>grind [Yt,FG]
 | some ys =>
  grind [CS,FG,QK]
theorem Xl {y F o n} (hF:Vd P t=some F):Yt P H t u (.sl o 0 n n) y=YU H (some F) (Xv H o) o n (XT (P.underlying u) H y):=by
 obtain ⟨S,by'⟩:=F;obtain ⟨e,z,h1,h2,h3,h4,h6⟩:=K3 hF;have e1:XT (P.underlying u) H y=K7 P H u y:=Eq.trans rfl rfl;rw [e1]
 cases h5:K7 P H u y with
 | none =>
  grind [Yt,YU]
 | some ys =>
  rw [CS h1 h2 h3 h4 h5 h6];simp only [YU]
  grind
@[go_sem] theorem RU {S b ys} :FG H (some (S,b)) (some ys)=if QK S ys=true/\ys.length*b<=140737488355328/\ys.length<=140737488355328 then some (.sl H.length 0 ys.length ys.length,H++ [.elems S ys]) else none:=Eq.trans rfl rfl
theorem D4 {S b xs ys o n} (hn:xs.length=n) (hb:(n+ys.length)*b<=140737488355328) (hb2:n+ys.length<=140737488355328):YU H (some (S,b)) (.elems S xs) o n (some ys)=if QK S ys=true then some (.sl o 0 (n+ys.length) (n+ys.length),Q9 H o (.elems S (xs++ys))) else none:=by
 simp_all [YU]
@[go_sem] theorem eY {S x} :LY (.elems S [x]) 0 1 1=some [x]:=HL Zb
@[go_sem] theorem RX {α:Type} {S b o x} {f:α->PV} {l:List α} (hb:(l.length+1)*b<=140737488355328) (hb2:l.length+1<=140737488355328):YU H (some (S,b)) (.elems S (l.map f)) o l.length (some [x])=if QK S [x]=true then some (.sl o 0 (l.length+1) (l.length+1),Q9 H o (.elems S (l.map f++ [x]))) else none :=
 D4 Zb Za Za
@[go_sem] theorem kC {S} :QK S []=true:=Eq.trans rfl rfl
@[go_sem] theorem dR {S x l} :QK S (x::l)=((x.cells.length==S)&&x.cells.all (·.one)&&QK S l):=by rfl
theorem KC {α:Type} {S} {f:α->PV} {l:List α} (h: ∀x,Pz S (f x)=true):QK S (l.map f)=true:=by grind [QK]
def JE (P:Program) (t:TypeId):Option (Nat×Nat×PV):=match P.underlying t with
  | some (.slice e)=>match Xk P e,YQ P e,(P.info? e).map (·.bytes) with
   | some S,some z,some by'=>if z.cells.all (·.one)=true/\z.cells.length=S/\0<S then some (S,by',z) else none
   | _,_,_=>none
  | _=>none
end
def Xz : Nat->List Nat->List V->List V
 | _,_,[]=> []
 | i,[],_::l=> .junk::Xz (i+1) [] l
 | i,k::ks,x::l=>if i=k then x::Xz (i+1) ks l else .junk::Xz (i+1) (k::ks) l
def Vg : List (Nat×V)->List V->List V
 | [],fr=>fr
 | (i,v)::r,fr=>Vg r (pt fr i v)
@[go_sem] theorem Sq {i ks} :Xz i ks []= []:=by rfl
@[go_sem] theorem Pq {i x l} :Xz i [] (x::l)= .junk::Xz (i+1) [] l:=by simp [Xz]
@[go_sem] theorem Pp {i k ks x l} :Xz i (k::ks) (x::l)=if i=k then x::Xz (i+1) ks l else .junk::Xz (i+1) (k::ks) l:=by simp [Xz]
@[go_sem] theorem qP : ((0:Nat):Int)=0:=Eq.trans rfl rfl
@[go_sem] theorem qQ {n:Nat} :((n+1:Nat):Int)=(n:Int)+1:=Eq.trans rfl rfl
@[go_sem] theorem oM {n:Nat} :((n:Int)).toNat=n:=Eq.trans rfl rfl
@[go_sem] theorem eT {fr} :Vg [] fr=fr:=by simp [Vg]
@[go_sem] theorem SF {i v r fr} :Vg ((i,v)::r) fr=Vg r (pt fr i v):=by simp [Vg]
@[go_sem] theorem iG {p q:Prop} [Decidable p] [Decidable q]:(decide p&&decide q)=decide (p/\q):=Zb
theorem Zo {P c fr H Q} {I:Type} (ks:List Nat) (sets:I->List (Nat×V)) (hs:I->List Obj) (R:I->Prop) (μ:I->Nat) (i0:I) (hR:R i0) (h0:Weak H.length fr H (Vg (sets i0) (Xz 0 ks fr)) (hs i0))
  (round: ∀i,R i->Wp [] P c (Vg (sets i) (Xz 0 ks fr)) (hs i) (Y4 (fun fr' H'=> ∃i',R i'/\μ i'<μ i/\Weak H.length fr' H' (Vg (sets i') (Xz 0 ks fr)) (hs i')) Q)):AWP P (.loop c) fr H Q :=
 Aa R (fun i=>Vg (sets i) (Xz 0 ks fr)) hs μ i0 hR h0 fun i hi=>Zc [] _ _ _ _ (round i hi)
theorem ZR {P c fr H Q} (cuts:List Nat) {I:Type} (ks:List Nat) (sets:I->List (Nat×V)) (hs:I->List Obj) (R:I->Prop) (μ:I->Nat) (i0:I) (hR:R i0) (h0:Weak H.length fr H (Vg (sets i0) (Xz 0 ks fr)) (hs i0))
  (round: ∀i,R i->Wp cuts P c (Vg (sets i) (Xz 0 ks fr)) (hs i) (Y4 (fun fr' H'=> ∃i',R i'/\μ i'<μ i/\Weak H.length fr' H' (Vg (sets i') (Xz 0 ks fr)) (hs i')) Q)):AWP P (.loop c) fr H Q :=
 Aa R (fun i=>Vg (sets i) (Xz 0 ks fr)) hs μ i0 hR h0 fun i hi=>Zc cuts _ _ _ _ (round i hi)
theorem XK {P x y fr H Q} {I:Type} (ks:List Nat) (sets:I->List (Nat×V)) (hs:I->List Obj) (R:I->Prop)
  (h:Wp [] P x fr H (Y4 (fun fr' H'=> ∃i,R i/\Weak H.length fr' H' (Vg (sets i) (Xz 0 ks fr)) (hs i)) Q)) (k: ∀i,R i->AWP P y (Vg (sets i) (Xz 0 ks fr)) (hs i) Q):AWP P (.seq x y) fr H Q :=
 fun F ι a w hr hf=>by
 refine wp_seq (wp_mono (Zc [] _ _ _ _ h F ι a w hr hf) ?_);rintro e a' w' ⟨fr',H',ι',q,g,f⟩
 cases e with
 | normal =>
  obtain ⟨i,hi,hw⟩:=q;obtain ⟨ι2,r2,f2,g2⟩:=hw F ι' a' w' g.rel f;refine wp_mono (k i hi F ι2 a' w' r2 f2) ?_;rintro e2 a2 w2 ⟨fr2,H2,ι3,q2,g3,f3⟩;exact ⟨fr2,H2,ι3,q2,(g2 H ι w (Nat.le_refl _) g).trans g3,f3⟩
 | exit id=>exact ⟨fr',H',ι',q,g,f⟩
 | goto l=>exact ⟨fr',H',ι',q,g,f⟩
 | ret=>exact ⟨fr',H',ι',q,g,f⟩
 | panic ch=>exact ⟨fr',H',ι',q,g,f⟩
 | outgrown=>exact ⟨fr',H',ι',q,g,f⟩
@[go_sem] theorem gQ {H n x} :Q5 H n x .junk=True:=by simp [Q5]
@[go_sem] theorem qG {H n} {x y:PV} :Q5 H n (.p x) (.p y)=(y=x):=by simp [Q5,refB,HY]
@[go_sem] theorem lQ {H n o off len tot o' off' len' tot'} :Q5 H n (.sl o off len tot) (.sl o' off' len' tot')=((o'=o/\off'=off/\len'=len/\tot'=tot)/\o<n):=by simp [Q5,refB]
@[go_sem] theorem gR {H n o off o' off'} :Q5 H n (.ptr o off) (.ptr o' off')=((o'=o/\off'=off)/\o<n):=by simp [Q5,refB]
@[go_sem] theorem lL {H n} :DW H n [] []=True:=by simp [DW]
@[go_sem] theorem gN {H n x l x' l'} :DW H n (x::l) (x'::l')=(Q5 H n x x'/\DW H n l l'):=by simp [DW]
@[go_sem] theorem lM {H n l} :Bs H n l []=True:=by simp [Bs]
@[go_sem] theorem gO {H n x l x' l'} :Bs H n (x::l) (x'::l')=(UT H n x x'/\Bs H n l l'):=by simp [Bs]
@[go_sem] theorem Tz {H n cs cs'} :UT H n (.cells cs) (.cells cs')=DW H n cs cs':=by simp [UT]
@[go_sem] theorem TA {H n S S' xs xs'} :UT H n (.elems S xs) (.elems S' xs')=(S=S'/\xs=xs'):=by simp [UT]
@[go_sem] theorem lO {H n es es2} :UT H n (.map es) (.map es2)=(es=es2):=by simp [UT]
@[go_sem] theorem qF {H n o o2} :Q5 H n (.mp o) (.mp o2)=(o2=o/\o<n):=by simp [Q5,refB,HY]
@[go_sem] theorem lN {H n T E r bs T2 E2 r2 bs2} :UT H n (.bld T E r bs) (.bld T2 E2 r2 bs2)=((T=T2/\E=E2/\r=r2/\bs=bs2)/\r<n):=by simp [UT]
@[go_sem] theorem qE {H n o o2} :Q5 H n (.bp o) (.bp o2)=(o2=o/\o<n):=by simp [Q5,refB,HY]
@[go_sem] theorem gP {H n} :UT H n .dead .dead=True:=by simp [UT]
theorem Weak.mk {n0 fr H fr' H'} (h:n0<=H'.length/\H'.length<=H.length/\DW H H'.length fr fr'/\Bs H H'.length H H'):Weak n0 fr H fr' H':=Weak.of h.1 h.2.2.1 h.2.2.2 h.2.1
theorem wk {n0 fr H fr' H'} (h:n0<=H'.length/\H'.length<=H.length/\DW H H'.length fr fr'/\Bs H H'.length H H':=by simp (disch:=omega) only [go_sem,seval]):Weak n0 fr H fr' H':=Weak.mk h
theorem we {n0 x H' a b} (h:n0<=List.length b/\List.length b<=H'.length/\DW H' (List.length b) [x] [a]/\Bs H' (List.length b) H' b:=by simp (disch:=omega) only [go_sem,seval]): ∃y H'',Weak n0 [x] H' [y] H''/\y=a/\H''=b:=⟨_,_,Weak.mk h,rfl,rfl⟩
attribute [go_sem] List.length_cons List.length_nil List.cons_append List.nil_append List.append_nil List.map_cons List.map_nil List.drop_zero List.drop_succ_cons List.drop_nil List.take_succ_cons List.take_zero List.take_nil List.all_cons List.all_nil
 Nat.zero_add Nat.add_zero and_self true_and and_true Option.map_some Option.bind_some List.getElem?_cons_zero List.getElem?_cons_succ Bool.and_true Bool.true_and Bool.and_self List.length_map if_true if_false decide_true decide_false IntWalk.i64_in IntWalk.i32_in IntWalk.u8_in IntWalk.u64_in IntWalk.u32_in
 beq_self_eq_true List.replicate_succ List.replicate_zero Bool.or_true Bool.true_or Bool.or_false Bool.false_or Bool.not_true Bool.not_false
end Go.AM
namespace Go.AM
open Go.RowKit
theorem RP.weaker {X X':Nat->Prop} {w x v} (h:RP X w x v) (hx: ∀b,X' b->X b):RP X' w x v:=h.ext (w':=w) fun _ hb hs=>⟨fun h=>hb (hx _ h),hs,rfl⟩
theorem Good.forget {F w H' ι' w'} (he:Env F [] w) (hf: ∀b,F b->b<w.heap.size) (g:Good F [] [] w H' ι' w'):Good F [] [] w [] [] w' :=
 .up he ⟨⟨rfl,fun b hb=>by have:=hf b hb;have:=g.size;omega,fun i j b hi=>by simp at hi,fun i b hi=>by simp at hi,fun o cs ho=>by simp at ho,fun o S xs ho=>by simp at ho,fun o es ho=>by simp at ho,fun o T E r bs ho=>by simp at ho⟩,
  g.os,g.tape,g.output,fun b c t h=>(g.shape b c t h).imp (fun h=>absurd h.1 Zb) id,g.size,g.keep,fun _ _ h=>h,fun o ob ho=>by simp at ho⟩
theorem ACalls.pure {P g args} {y:PV} (h:ACalls P g args [] fun x _=>x= .p y):ACalls P g args [] fun x H'=>x= .p y/\H'= []:=by
 refine ⟨h.1,fun F ι w vs hr hv=> ?_⟩;have hι:ι= []:=List.eq_nil_of_length_eq_zero hr.len;subst hι;refine (h.2 F [] w vs hr hv).mono ?_;rintro e w' ⟨x,H',ι',v,rfl,rfl,gd,rv⟩
 cases rv with | p _ _ rp =>
 exact ⟨_,[],[],v,rfl,⟨rfl,rfl⟩,gd.forget hr.env hr.fin,.p _ _ (rp.weaker fun b hb=> .inl (by rcases hb with hb | hb;exact hb;simp at hb))⟩
theorem Qs {F:Nat->Prop} {w w':World} {H':List Obj} {ι':List (Option Nat)} {v:Value} {o S n:Nat} {xs:List PV} (hF: ∀b,F b->b<w.heap.size) (hn:xs.length=n) (ho:Xv H' o= .elems S xs)
  (gd:Good F [] [] w H' ι' w') (rv:RV F H' ι' w' (.sl o 0 n n) v): ∃ι2,Good F [] [] w [.elems S xs] ι2 w'/\RV F [.elems S xs] ι2 w' (.sl 0 0 n n) v:=by
 have hH:=Zx ho Zb;have hlt:=(List.getElem?_eq_some_iff.1 hH).1
 have hlt':o<ι'.length:=by rw [gd.rel.len];exact hlt
 have hι':ι'[o]? =some (ι'[o]):=by simp [hlt']
 have hget: ∀ {i:Nat} {q:Option Nat},[ι'[o]][i]? =some q->i=0/\ι'[o]? =some q:=fun {i q} h=>by
  grind
 have hown: ∀b,Own F [ι'[o]] b->Own F ι' b:=fun b hb=>by
  rcases hb with hb | hb
  ·exact .inl hb
  ·simp at hb;right;rw [hb];simp
 refine ⟨[ι'[o]],⟨⟨⟨rfl,fun b hb=> ?_,fun i j b hi hj=> ?_,fun i b hi=> ?_,fun o' cs ho'=> ?_,fun o' S' xs' ho'=> ?_,fun o' es ho'=>by grind,fun o' T E r bs ho'=>by grind⟩,gd.rel.env.le hown⟩,gd.os,gd.tape,gd.output,fun b c t h=>(gd.shape b c t h).imp (fun h=>absurd h.1 Zb) id,gd.size,gd.keep,fun b hb _ h=> ?_,fun o ob ho=>by simp at ho⟩,?_⟩
 ·have:=hF b hb;have:=gd.size;omega
 ·grind
 ·exact gd.rel.avo o b (hget hi).2
 ·grind
 ·cases o' with
  | zero =>
   simp at ho';obtain ⟨rfl,rfl⟩:=ho';rcases gd.rel.elm o _ _ hH with ⟨e1,e2⟩ | ⟨b,c,t,cap,e1,e2,e3,e4,e5,e6,e7⟩
   ·grind
   ·exact .inr ⟨b,c,t,cap,by grind,e2,e3,e4,e5,e6,fun i x j y hi hj=>(e7 i x j y hi hj).weaker hown⟩
  | succ i=>simp at ho'
 ·simp at h;exact gd.own b hb Zb (by rw [h];simp)
 ·cases rv with
  | slNil _ S2 a h1 h2 =>
   rw [hH] at h2;simp at h2;obtain ⟨rfl,rfl⟩:=h2;exact .slNil 0 S a (by grind) rfl
  | sl _ _ _ _ b S2 cap t xs2 c h1 h2 ht hw hcap hl hlen hm =>
   rw [hH] at h2;simp at h2;obtain ⟨rfl,rfl⟩:=h2;exact .sl 0 0 n n b S cap t xs c (by grind) rfl hn hw hcap hl hlen hm
  | slD _ _ _ _ _ h1=>grind
  | slS _ _ _ _ _ S2 xs2 h1 hne=>grind
  | slC _ _ _ _ _ _ hd=>grind
theorem ACalls.fresh {P g args} {S n:Nat} {xs:List PV} (hn:xs.length=n) (h:ACalls P g args [] fun x H'=> ∃o,x= .sl o 0 n n/\Xv H' o= .elems S xs):ACalls P g args [] fun x H'=>x= .sl 0 0 n n/\H'= [.elems S xs]:=by
 refine ⟨h.1,fun F ι w vs hr hv=> ?_⟩;have hι:ι= []:=List.eq_nil_of_length_eq_zero hr.len;subst hι;refine (h.2 F [] w vs hr hv).mono ?_;rintro e w' ⟨x,H',ι',v,rfl,⟨o,rfl,ho⟩,gd,rv⟩;obtain ⟨ι2,g2,r2⟩:=Qs hr.fin hn ho gd rv
 grind
theorem ACalls.freshE {P g args} {α:Type} {S:Nat} {f:α->PV} {R:List α->Prop} (h:ACalls P g args [] fun x H'=> ∃l:List α,R l/\ ∃o,x= .sl o 0 l.length l.length/\Xv H' o= .elems S (l.map f)) :
  ACalls P g args [] fun x H'=> ∃l:List α,R l/\x= .sl 0 0 l.length l.length/\H'= [.elems S (l.map f)]:=by
 refine ⟨h.1,fun F ι w vs hr hv=> ?_⟩;have hι:ι= []:=List.eq_nil_of_length_eq_zero hr.len;subst hι;refine (h.2 F [] w vs hr hv).mono ?_;rintro e w' ⟨x,H',ι',v,rfl,⟨l,hl,o,rfl,ho⟩,gd,rv⟩;obtain ⟨ι2,g2,r2⟩:=Qs hr.fin Zb ho gd rv
 grind
theorem ACalls.frozen {P g args} {S n:Nat} {xs:List PV} (hn:xs.length=n) (h:ACalls P g args [] fun x H'=>x= .sl 0 0 n n/\H'= [.elems S xs]):ACalls P g args [] fun x H'=>x= .p (.list false xs)/\H'= []:=by
 refine ⟨h.1,fun F ι w vs hr hv=> ?_⟩;have hι:ι= []:=List.eq_nil_of_length_eq_zero hr.len;subst hι;refine (h.2 F [] w vs hr hv).mono ?_;rintro e w' ⟨x,H',ι',v,rfl,⟨rfl,rfl⟩,gd,rv⟩;have hk:Keeps (Own F ι') w' (Own F []) w':=fun b hb hs=>⟨fun h=>hb (.inl (by rcases h with h | h;exact h;simp at h)),hs,rfl⟩
 have:=Uv (S:=S) (xs:=xs) (off:=0) (len:=n) (tot:=n) (Own F []) (fun b hb h=>by
  rcases h with h | h
  ·exact (gd.rel.avo 0 b hb).1 h
  ·simp at h) hk gd.rel rfl hn Za rv
 rw [Nat.zero_add,List.drop_zero,List.take_of_length_le Za] at this;exact ⟨_,[],[],v,rfl,⟨rfl,rfl⟩,gd.forget hr.env hr.fin,.p _ _ this⟩
theorem ACalls.use {P g args} {y:PV} {H:List Obj} {K:V->List Obj->Prop} (h:ACalls P g args [] fun x H'=>x= .p y/\H'= []) (k:K (.p y) H) (ha:Zy 0 args=true:=by rfl):ACalls P g args H K:=by
 refine (h.behind ha H).mono ?_;rintro x H' ⟨y',H1,⟨rfl,rfl⟩,rfl,rfl⟩
 grind [Bf]
theorem ACalls.useF {P g args} {S n:Nat} {xs:List PV} {H:List Obj} {K:V->List Obj->Prop} (h:ACalls P g args [] fun x H'=>x= .sl 0 0 n n/\H'= [.elems S xs]) (k:K (.sl H.length 0 n n) (H++ [.elems S xs])) (ha:Zy 0 args=true:=by rfl):ACalls P g args H K:=by
 refine (h.behind ha H).mono ?_;rintro x H' ⟨y',H1,⟨rfl,rfl⟩,rfl,rfl⟩
 grind [Bf,CF]
theorem Zd {P:Program} {g:FuncId} {fn:Func} {c:Code} {args:List V} {y:PV} (hf:P.funcs[g]? =some fn) (hb:fn.body=some c) (hg:Zf P g)
  (h:Wp [] P c (args++List.replicate (fn.ntmps-args.length) .junk) [] (UR P fn.results.toList fun x _=>x= .p y)):ACalls P g args [] fun x H'=>x= .p y/\H'= [] :=
 (Xu hf hb hg (Zc [] _ _ _ _ h)).pure
theorem Y6 (cuts:List Nat) {P:Program} {g:FuncId} {fn:Func} {c:Code} {args:List V} {y:PV} (hf:P.funcs[g]? =some fn) (hb:fn.body=some c) (hg:Zf P g)
  (h:Wp cuts P c (args++List.replicate (fn.ntmps-args.length) .junk) [] (UR P fn.results.toList fun x _=>x= .p y)):ACalls P g args [] fun x H'=>x= .p y/\H'= [] :=
 (Xu hf hb hg (Zc cuts _ _ _ _ h)).pure
theorem J8 {P:Program} {g:FuncId} {fn:Func} {c:Code} {args:List V} {S n:Nat} {xs:List PV} (hn:xs.length=n) (hf:P.funcs[g]? =some fn) (hb:fn.body=some c) (hg:Zf P g)
  (h:Wp [] P c (args++List.replicate (fn.ntmps-args.length) .junk) [] (UR P fn.results.toList fun x H'=> ∃o,x= .sl o 0 n n/\Xv H' o= .elems S xs)):ACalls P g args [] fun x H'=>x= .sl 0 0 n n/\H'= [.elems S xs] :=
 (Xu hf hb hg (Zc [] _ _ _ _ h)).fresh hn
theorem Jc (cuts:List Nat) {P:Program} {g:FuncId} {fn:Func} {c:Code} {args:List V} {α:Type} {S:Nat} {f:α->PV} {R:List α->Prop} (hf:P.funcs[g]? =some fn) (hb:fn.body=some c) (hg:Zf P g)
  (h:Wp cuts P c (args++List.replicate (fn.ntmps-args.length) .junk) [] (UR P fn.results.toList fun x H'=> ∃l:List α,R l/\ ∃o,x= .sl o 0 l.length l.length/\Xv H' o= .elems S (l.map f))):ACalls P g args [] fun x H'=> ∃l:List α,R l/\x= .sl 0 0 l.length l.length/\H'= [.elems S (l.map f)] :=
 (Xu hf hb hg (Zc cuts _ _ _ _ h)).freshE
theorem Weak.ofNil {n0 fr H fr' H'} (t S:Nat) (h:gt fr t= .p (.list true [])) (hn:n0<=H.length) (k:Weak n0 (pt fr t (.sl H.length 0 0 0)) (H++ [.elems S []]) fr' H'):Weak n0 fr H fr' H' :=
 (Weak.nil t S h hn).trans k
end Go.AM
namespace Go.AM
open Go.RowKit
section
variable {P : Program} {H : List Obj} {t : TypeId} {fr : List V}
def Qe (e:Option (Option Nat×Nat)) (c:Bool) (xs:List PV) (lo hi:V):Option V:=match e,lo,hi with
 | some (none,S),.p (.int _ a),.p (.int _ b)=>if UO S xs=true/\0<=a/\a<=b/\b<=xs.length then some (.p (.list (c&&decide (b=xs.length)) ((xs.take b.toNat).drop a.toNat))) else none
 | _,_,_=>none
def V.isInt : V->Option Int
 | .p (.int _ n)=>some n
 | _=>none
theorem V.isInt_some {x:V} {n} (h:x.isInt=some n): ∃k,x= .p (.int k n):=by
 unfold V.isInt at h;grind
theorem Yn {d:Int} {x:Operand} :KV d fr (some x)=(ev fr x).isInt:=rfl
theorem Uf {c xs k k' a b} :(W2 P t c xs a b none).map .p=Qe (Xy P t) c xs (.p (.int k a)) (.p (.int k' b)):=by
 simp only [W2,Qe]
 grind
theorem C5 {e c xs lo hi} (h:lo.isInt=none):Qe e c xs lo hi=none:=by
 unfold Qe;grind [V.isInt]
theorem C4 {e c xs lo hi} (h:hi.isInt=none):Qe e c xs lo hi=none:=by
 unfold Qe;grind [V.isInt]
@[go_sem] theorem RY {c xs hi} :Xm P H t fr (.p (.list c xs)) none (some hi) none=Qe (Xy P t) c xs (.p (.int .i64 0)) (ev fr hi):=by
 simp only [Xm,Yn]
 cases h:(ev fr hi).isInt with
 | none=>simp [KV,C4 h]
 | some n=>obtain ⟨k,e⟩:=V.isInt_some h;rw [e,<- Uf];rfl
@[go_sem] theorem RZ {c xs lo} :Xm P H t fr (.p (.list c xs)) (some lo) none none=Qe (Xy P t) c xs (ev fr lo) (.p (.int .i64 (List.length xs))):=by
 simp only [Xm,Yn]
 cases h:(ev fr lo).isInt with
 | none=>simp [C5 h]
 | some n=>obtain ⟨k,e⟩:=V.isInt_some h;rw [e,<- Uf];rfl
@[go_sem] theorem Mq {c xs lo hi} :Xm P H t fr (.p (.list c xs)) (some lo) (some hi) none=Qe (Xy P t) c xs (ev fr lo) (ev fr hi):=by
 simp only [Xm,Yn]
 cases h:(ev fr lo).isInt with
 | none=>simp [C5 h]
 | some n =>
  cases h2:(ev fr hi).isInt with
  | none=>simp [C4 h2]
  | some m=>grind [V.isInt_some,Uf]
@[go_sem] theorem aS {α:Type} {f:α->PV} {l:List α} {S c k k' a b} (h0:0<=a) (h1:a<=b) (h2:b<=(l.length:Int)) :
  Qe (some (none,S)) c (l.map f) (.p (.int k a)) (.p (.int k' b))=if UO S (l.map f)=true then some (.p (.list (c&&decide (b=l.length)) (((l.take b.toNat).drop a.toNat).map f))) else none:=by
 simp_all [Qe]
end
def FC (P:Program) (d:Option TypeDesc) (x i:V):Option V :=
 match d,x,i with
 | some .string,.p (.str s),.p (.int _ n)=>if 0<=n then (s[n.toNat]?).map fun b=> .p (.int .u8 b.toNat) else none
 | some (.array k e),.p (.agg cs),.p (.int _ n)=>if 0<=n/\n<k then (match Xk P e with | some m=>(apart P e cs (n.toNat*m)).map .p | none=>none) else none
 | _,_,_=>none
@[go_sem] theorem iB {P:Program} {t:TypeId} {x i:V} :K1 P t x i=FC P (P.underlying t) x i:=Eq.trans rfl rfl
@[go_sem] theorem RH {P:Program} {s:List UInt8} {k n} (h0:0<=n) (h1:n<(s.length:Int)):FC P (some .string) (.p (.str s)) (.p (.int k n))=some (.p (.int .u8 ((nth s n.toNat).toNat:Nat))):=by
 grind [FC,Zg]
def Ud (d:Option TypeDesc) (s:List UInt8) (lo hi:V):Option V:=match d,lo,hi with
 | some .string,.p (.int _ a),.p (.int _ b)=>if 0<=a/\a<=b/\b<=s.length then some (.p (.str ((s.take b.toNat).drop a.toNat))) else none
 | _,_,_=>none
theorem C3 {d s lo hi} (h:lo.isInt=none):Ud d s lo hi=none:=by
 unfold Ud;grind [V.isInt]
theorem C2 {d s lo hi} (h:hi.isInt=none):Ud d s lo hi=none:=by
 unfold Ud;grind [V.isInt]
section
variable {P : Program} {H : List Obj} {t : TypeId} {fr : List V}
theorem Ue {s:List UInt8} {k k' a b} :(match P.underlying t with | some .string=>(if 0<=a/\a<=b/\b<=(s.length:Int) then some (V.p (.str ((s.take b.toNat).drop a.toNat))) else none) | _=>none)=Ud (P.underlying t) s (.p (.int k a)) (.p (.int k' b)):=by
 simp only [Ud]
 grind
@[go_sem] theorem Nl {s hi} :Xm P H t fr (.p (.str s)) none (some hi) none=Ud (P.underlying t) s (.p (.int .i64 0)) (ev fr hi):=by
 simp only [Xm,Yn]
 cases h:(ev fr hi).isInt with
 | none=>grind [C2]
 | some n =>
  grind [V.isInt_some,Ue,KV]
@[go_sem] theorem Nm {s lo} :Xm P H t fr (.p (.str s)) (some lo) none none=Ud (P.underlying t) s (ev fr lo) (.p (.int .i64 (List.length s))):=by
 simp only [Xm,Yn]
 cases h:(ev fr lo).isInt with
 | none=>grind [C3]
 | some n =>
  grind [V.isInt_some,Ue,KV]
@[go_sem] theorem Iq {s lo hi} :Xm P H t fr (.p (.str s)) (some lo) (some hi) none=Ud (P.underlying t) s (ev fr lo) (ev fr hi):=by
 simp only [Xm,Yn]
 cases h:(ev fr lo).isInt with
 | none=>rw [C3 h];simp
 | some n =>
  cases h2:(ev fr hi).isInt with
  | none=>rw [C2 h2];simp
  | some m =>
   grind [V.isInt_some,Ue]
@[go_sem] theorem iH {s:List UInt8} {k k' a b} (h0:0<=a) (h1:a<=b) (h2:b<=(s.length:Int)):Ud (some .string) s (.p (.int k a)) (.p (.int k' b))=some (.p (.str ((s.take b.toNat).drop a.toNat))):=by
 simp_all [Ud]
end
@[go_sem low] theorem FH {H:List Obj} {S b xs ys o n} :YU H (some (S,b)) (.elems S xs) o n (some ys)=if xs.length=n/\QK S ys=true/\(n+ys.length)*b<=140737488355328/\n+ys.length<=140737488355328 then some (.sl o 0 (n+ys.length) (n+ys.length),Q9 H o (.elems S (xs++ys))) else none:=by simp [YU]
@[go_sem] theorem lP {H:List Obj} {n f a b f' a' b'} :Q5 H n (.fn f a b) (.fn f' a' b')=((f'=f/\a'=a/\b'=b)/\refB n (.fn f a b)=true):=by simp [Q5,HY]
@[go_sem] theorem kI {n f a b} :refB n (.fn f a b)=(Zy n a&&Zy n b):=by simp [refB]
@[go_sem] theorem nI {n x} :refB n (.p x)=true:=by simp [refB]
@[go_sem] theorem eF {n o off} :refB n (.ptr o off)=decide (o<n):=by simp [refB]
@[go_sem] theorem SC {n} :Zy n []=true:=by simp [Zy]
@[go_sem] theorem PL {n x l} :Zy n (x::l)=(refB n x&&Zy n l):=by simp [Zy]
theorem ACalls.useH {P g args H} {v:V} {H2:List Obj} {K:V->List Obj->Prop} (h:ACalls P g args H fun x H'=>x=v/\H'=H2) (k:K v H2):ACalls P g args H K :=
 h.mono (by grind)
theorem WE {α:Type} {f:α->PV} {S:Nat} (h: ∀x,(f x).cells.length=S) (l:List α):UO S (l.map f)=true:=by
 cases l with
 | nil=>rfl
 | cons x l=>simp [UO,h]
def YM (F:Option (Nat×Nat×PV)) (H:List Obj) (x y:V):Option (V×List Obj):=match F,x,y with
 | some (S,by',z),.p (.int .i64 n),.p (.int .i64 m)=>if n=m/\0<=n/\(by':Int)*n<=281474976710656/\n<=281474976710656 then some (.sl H.length 0 n.toNat n.toNat,H++ [.elems S (List.replicate n.toNat z)]) else none
 | _,_,_=>none
theorem Qc {P:Program} {t:TypeId} {fr:List V} {H:List Obj} {x y:Operand} {F} (h:JE P t=some F):Yb P (.makeSlice t x y) fr H=YM (some F) H (ev fr x) (ev fr y):=by
 unfold JE at h
 split at h
 ·rename_i e hu
  split at h
  ·rename_i S' z' b h1 h2 h3
   split at h
   ·rename_i hc;simp at h;subst h
    have h3':(P.info? e).map (fun x=>(x.bytes:Int))=some (b:Int):=by
     cases hi:P.info? e with
     | none=>grind
     | some i=>grind
    simp only [Yb,hu,h2,hc.1,if_true,CX,h1,h3'];generalize ev fr x=X;generalize ev fr y=Y
    by_cases hX: ∃n,X= .p (.int .i64 n)
    ·obtain ⟨n,rfl⟩:=hX
     by_cases hY: ∃m,Y= .p (.int .i64 m)
     ·obtain ⟨m,rfl⟩:=hY;simp [YM,hc.2]
     ·have e1:YM (some (S',b,z')) H (.p (.int .i64 n)) Y=none:=by
       unfold YM;grind
      grind
    ·have e1:YM (some (S',b,z')) H X Y=none:=by
      unfold YM;grind
     grind
   ·cases h
  ·cases h
 ·cases h
@[go_sem] theorem RO {H:List Obj} {S b:Nat} {z n} (h0:0<=n) (h1:(b:Int)*n<=281474976710656) (h2:n<=281474976710656):YM (some (S,b,z)) H (.p (.int .i64 n)) (.p (.int .i64 n))=some (.sl H.length 0 n.toNat n.toNat,H++ [.elems S (List.replicate n.toNat z)]):=by
 simp_all [YM]
theorem PB (x y:Nat) (hx:x<9223372036854775808) (hy:y<9223372036854775808):IntKind.i64.wrap ((BitVec.ofInt 64 (x:Int)|||BitVec.ofInt 64 (y:Int)).toNat:Int)=((x|||y:Nat):Int):=by
 have e:(BitVec.ofInt 64 (x:Int)|||BitVec.ofInt 64 (y:Int)).toNat=x|||y:=by
  grind
 have h:x|||y<2^63:=Nat.or_lt_two_pow Za Za
 grind [IntWalk.i64_in]
@[go_sem high] theorem Ft {P:Program} {t:TypeId} {x y:Nat} (hx:x<9223372036854775808) (hy:y<9223372036854775808):Z6 P .or t (.p (.int .i64 (x:Int))) (.p (.int .i64 (y:Int)))=some (.int .i64 ((x|||y:Nat):Int)):=by
 rw [CT];exact congrArg (fun q=>some (PV.int .i64 q)) (PB x y hx hy)
def pw (k:Nat):Nat:=2^k
theorem Hp {k m:Nat} (h:k<=m):pw k<=pw m:=Nat.pow_le_pow_right Za h
theorem Ho : pw 62=4611686018427387904:=by decide
@[go_sem high] theorem Rt {P:Program} {t:TypeId} {k'} {a:Int} (h0:0<=a) (h1:a<=62):Z6 P .shl t (.p (.int .i64 1)) (.p (.int k' a))=some (.int .i64 ((pw a.toNat:Nat):Int)):=by
 rw [Fu h0]
 have h2:min a.toNat IntKind.i64.bits=a.toNat:=by show min a.toNat 64=a.toNat;omega
 rw [h2,Int.one_mul]
 have h3:((2:Int)^a.toNat)=((pw a.toNat:Nat):Int):=by simp [pw]
 rw [h3];have:=Hp (show a.toNat<=62 by omega)
 grind [Ho,IntWalk.i64_in]
attribute [go_sem] List.length_append List.map_append not_false_eq_true not_true_eq_false false_and and_false true_or or_true false_or or_false Classical.not_not Bool.false_eq_true Bool.and_false Bool.false_and
end Go.AM
namespace Go.AM
open Go.RowKit
theorem Dk {P ds frJ H} {K K':List V->Prop} : ∀(l:List Oper) (i:Nat) (vals:List V),(∀ys,ys.length=vals.length+l.length->K ys->K' ys)->hd P ds frJ H K i l vals->hd P ds frJ H K' i l vals
 | [],i,vals,hk,h=>hk vals rfl h
 | o::l,i,vals,hk,h=>by
  have ih: ∀y,hd P ds frJ H K (i+1) l (vals++ [y])->hd P ds frJ H K' (i+1) l (vals++ [y]):=fun y=>Dk l (i+1) (vals++ [y]) fun ys hy=>hk ys (by simp at hy ⊢;omega);simp only [hd] at h ⊢
  split at h
  ·obtain ⟨y,h1,h2⟩:=h;exact ⟨y,h1,ih y h2⟩
  ·unfold ZF at h ⊢
   split at h
   ·exact ⟨fun e=>by obtain ⟨y,h1,h2⟩:=h.1 e;exact ⟨y,h1,ih y h2⟩,fun e=>ih _ (h.2 e)⟩
   ·exact ih _ h
   ·exact h.elim
def Xe : List (Option Nat)->List V->List V->List V
 | some d::ds,v::vals,fr=>Xe ds vals (pt fr d v)
 | none::ds,_::vals,fr=>Xe ds vals fr
 | _,_,fr=>fr
def IY (A:V->Prop) (B:V->Prop):Prop:= ∃y,A y/\B y
section
variable {P : Program} {ds : List (Option Nat)} {frJ : List V} {H : List Obj} {K : List V -> Prop} {i : Nat} {r : List Oper} {vals : List V} {d : Option Nat} {op : Op} {t : TypeId} {ps : String} {af : Array Edge}
@[go_sem ↓, go_sem] theorem mB {v:V} {B:V->Prop} {t} :IY (fun y=>v=y) (Zn B t)=B v:=by simp [IY,Zn]
def MF (ds:List (Option Nat)) (vals:List V) (l:List Nat) (fr:List V) (a:Option (Option Nat)) (v:Option V):List V:=match a,v with
 | some (some d),some v=>Zs ds vals l (pt fr d v)
 | _,_=>Zs ds vals l fr
theorem Xn {f azs} {z:PV} {B:V->Prop} {t} (h:ACalls P f azs [] fun x H'=>x= .p z/\H'= []) (k:B (.p z)) (ha:Zy 0 azs=true:=by rfl) :
  IY (fun y=>ACalls P f azs H (Zn (Zn (fun x H'=>x=y/\H'=H) ⟨⟩) ⟨⟩)) (Zn B t) :=
 ⟨.p z,h.use ⟨rfl,rfl⟩ ha,k⟩
end
section
variable {P : Program} {fr : List V} {H : List Obj} {k : V -> List Obj -> Prop} {d : Option Nat} {t : TypeId} {ps : String} {af : Array Edge} {g : Option (Nat × Bool)}
@[go_sem ↓] theorem Nq {u n l} :Zq P ⟨d,.buildSlice u n (List.toArray l),t,ps,af,g⟩ fr H k=Ja ((CW (Yk P u) H n (l.map fun x=>(x.1,ev fr x.2))).map .p) (Zn (fun v=>k v H) ⟨⟩):=by
 grind [Zq,Ja,Zn]
@[go_sem] theorem M5 {S n l} :CW (some S) H n l=if n=l.length/\n*S<=16777216/\0<S then (Y1 H S 0 l).map (.list false) else none:=Eq.trans rfl rfl
@[go_sem ↓] theorem Mt {x} :Zq P ⟨d,.move x,t,ps,af,g⟩ fr H k=Zm P ⟨d,.move x,t,ps,af,g⟩ fr H k:=rfl
@[go_sem ↓] theorem HT {x} :Zq P ⟨d,.assign x,t,ps,af,g⟩ fr H k=Zm P ⟨d,.assign x,t,ps,af,g⟩ fr H k:=rfl
@[go_sem ↓] theorem Mu {x y z} :Zq P ⟨d,.pick x y z,t,ps,af,g⟩ fr H k=Zm P ⟨d,.pick x y z,t,ps,af,g⟩ fr H k:=rfl
@[go_sem ↓] theorem Ir {x} :Zq P ⟨d,.alloc x,t,ps,af,g⟩ fr H k=Zm P ⟨d,.alloc x,t,ps,af,g⟩ fr H k:=rfl
@[go_sem ↓] theorem No {x y} :Zq P ⟨d,.box x y,t,ps,af,g⟩ fr H k=Zm P ⟨d,.box x y,t,ps,af,g⟩ fr H k:=rfl
@[go_sem ↓] theorem It {x y} :Zq P ⟨d,.build x y,t,ps,af,g⟩ fr H k=Zm P ⟨d,.build x y,t,ps,af,g⟩ fr H k:=rfl
@[go_sem ↓] theorem Ms {x y} :Zq P ⟨d,.load x y,t,ps,af,g⟩ fr H k=Zm P ⟨d,.load x y,t,ps,af,g⟩ fr H k:=rfl
@[go_sem ↓] theorem Ix {x y z} :Zq P ⟨d,.store x y z,t,ps,af,g⟩ fr H k=Zm P ⟨d,.store x y z,t,ps,af,g⟩ fr H k:=rfl
@[go_sem ↓] theorem Fg {x} :Zq P ⟨d,.nilCheck x,t,ps,af,g⟩ fr H k=Zm P ⟨d,.nilCheck x,t,ps,af,g⟩ fr H k:=rfl
@[go_sem ↓] theorem Is {x y z u v} :Zq P ⟨d,.binOp x y z u v,t,ps,af,g⟩ fr H k=Zm P ⟨d,.binOp x y z u v,t,ps,af,g⟩ fr H k:=rfl
@[go_sem ↓] theorem Mv {x y z} :Zq P ⟨d,.unOp x y z,t,ps,af,g⟩ fr H k=Zm P ⟨d,.unOp x y z,t,ps,af,g⟩ fr H k:=rfl
@[go_sem ↓] theorem FK {x y z} :Zq P ⟨d,.convert x y z,t,ps,af,g⟩ fr H k=Zm P ⟨d,.convert x y z,t,ps,af,g⟩ fr H k:=rfl
@[go_sem ↓] theorem Ff {x y z} :Zq P ⟨d,.makeFunc x y z,t,ps,af,g⟩ fr H k=Zm P ⟨d,.makeFunc x y z,t,ps,af,g⟩ fr H k:=rfl
@[go_sem ↓] theorem Ea {x y z} :Zq P ⟨d,.makeSlice x y z,t,ps,af,g⟩ fr H k=Zm P ⟨d,.makeSlice x y z,t,ps,af,g⟩ fr H k:=rfl
@[go_sem ↓] theorem Iw {x y z u v} :Zq P ⟨d,.slice x y z u v,t,ps,af,g⟩ fr H k=Zm P ⟨d,.slice x y z u v,t,ps,af,g⟩ fr H k:=rfl
@[go_sem ↓] theorem D8 {x y z} :Zq P ⟨d,.fieldAddr x y z,t,ps,af,g⟩ fr H k=Zm P ⟨d,.fieldAddr x y z,t,ps,af,g⟩ fr H k:=rfl
@[go_sem ↓] theorem Iu {x y z} :Zq P ⟨d,.field x y z,t,ps,af,g⟩ fr H k=Zm P ⟨d,.field x y z,t,ps,af,g⟩ fr H k:=rfl
@[go_sem ↓] theorem D9 {x y z} :Zq P ⟨d,.indexAddr x y z,t,ps,af,g⟩ fr H k=Zm P ⟨d,.indexAddr x y z,t,ps,af,g⟩ fr H k:=rfl
@[go_sem ↓] theorem Iv {x y z} :Zq P ⟨d,.index x y z,t,ps,af,g⟩ fr H k=Zm P ⟨d,.index x y z,t,ps,af,g⟩ fr H k:=rfl
@[go_sem ↓] theorem FL {x y} :Zq P ⟨d,.extract x y,t,ps,af,g⟩ fr H k=Zm P ⟨d,.extract x y,t,ps,af,g⟩ fr H k:=rfl
@[go_sem ↓] theorem Mr {x y z} :Zq P ⟨d,.call ⟨.value x,y,z⟩,t,ps,af,g⟩ fr H k=Zm P ⟨d,.call ⟨.value x,y,z⟩,t,ps,af,g⟩ fr H k:=rfl
@[go_sem ↓] theorem Np {y z} :Zq P ⟨d,.call ⟨.builtin .len,y,z⟩,t,ps,af,g⟩ fr H k=Zm P ⟨d,.call ⟨.builtin .len,y,z⟩,t,ps,af,g⟩ fr H k:=rfl
@[go_sem ↓] theorem Nr {y z} :Zq P ⟨d,.call ⟨.builtin .max,y,z⟩,t,ps,af,g⟩ fr H k=Zm P ⟨d,.call ⟨.builtin .max,y,z⟩,t,ps,af,g⟩ fr H k:=rfl
@[go_sem ↓] theorem Ns {y z} :Zq P ⟨d,.call ⟨.builtin .min,y,z⟩,t,ps,af,g⟩ fr H k=Zm P ⟨d,.call ⟨.builtin .min,y,z⟩,t,ps,af,g⟩ fr H k:=rfl
theorem Kh {o fr' H'} (h:fr=fr') (h2:H=H'):Zq P o fr H k=Zq P o fr' H' k:=by rw [h,h2]
end
attribute [congr] Kh
attribute [go_sem] List.filter_cons List.filter_nil
end Go.AM
namespace Go.AM
open Go.RowKit
mutual
/-- no memory in it -/
def B2 : PV->Bool
 | .list _ xs=>xs.isEmpty
 | .agg cs=>As cs
 | _=>true
def As : List PV->Bool
 | []=>true
 | x::l=>B2 x&&As l
end
theorem W4 : ∀ {l:List PV},As l=true-> ∀(j:Nat) (x:PV),l[j]? =some x->B2 x=true
 | [],_,j,x,h=>by simp at h
 | y::l,hh,j,x,h=>by
  simp [As] at hh
  cases j with
  | zero=>simp at h;subst h;exact hh.1
  | succ j=>exact W4 hh.2 j x (by simpa using h)
theorem RP.anywhere {X X':Nat->Prop} {w w' x v} (h:RP X w x v) (hf:B2 x=true):RP X' w' x v:=by
 induction h with
 | int k n=>exact .int k n
 | bool b=>exact .bool b
 | str s=>exact .str s
 | nilp=>exact .nilp
 | nili=>exact .nili
 | nilf=>exact .nilf
 | nilm=>exact .nilm
 | fn f=>exact .fn f
 | nils cl=>exact .nils cl
 | emp cl a cap hc hm ha=>exact .emp cl a cap hc hm ha
 | list cl xs b off cap S u hX hb hc hm hcl hS hu hr ih =>
  have:xs= []:=by grind [B2]
  subst this;exact .emp cl _ cap (fun h=>by grind) hm (fun _ x hx=>by grind)
 | agg cs a hs _ ih=>exact .agg cs a hs fun j c hj=>ih j c hj (W4 (by grind [B2]) j c hj)
def vw (H:List Obj):V->Option V
 | .p x=>some (.p x)
 | .fn f [] []=>some (.fn f [] [])
 | .sl o off len tot=>match Xv H o with
  | .elems _ xs=>if xs.length=tot/\off+len<=tot then some (.p (.list false ((xs.take (off+len)).drop off))) else none
  | _=>none
 | _=>none
def Ty (H:List Obj):List V->Option (List V)
 | []=>some []
 | x::l=>match vw H x,Ty H l with | some y,some ys=>some (y::ys) | _,_=>none
abbrev Jb : Nat->Prop:=fun _=>False
theorem VV {b:Nat} : ¬Own Jb [] b:=by simp [Own]
theorem eL {F H ι w x v y} (hr:Rel F H ι w) (h:RV F H ι w x v) (hy:vw H x=some y):RV Jb [] [] w y v:=by
 unfold vw at hy
 split at hy
 ·simp at hy;subst hy
  cases h with | p _ _ h=>exact .p _ _ (h.weaker fun b hb=>absurd hb VV)
 ·simp at hy;subst hy;generalize v=u at h
  cases h with
  | fn _ _ _ a e hs ht _ _=>exact .fn _ [] [] a e hs ht (fun j c hj=>by simp at hj) (fun j c hj=>by simp at hj)
 ·rename_i o off len tot
  split at hy
  ·rename_i S xs ho
   split at hy
   ·rename_i hc;simp at hy;subst hy;exact .p _ _ (Uv _ (fun b _ hb=>VV hb) (fun b _ hs=>⟨VV,hs,rfl⟩) hr (Zx ho Zb) hc.1 hc.2 h)
   ·cases hy
  ·cases hy
 ·cases hy
theorem DU {H} : ∀ {l l':List V},Ty H l=some l'->l'.length=l.length/\ ∀(j:Nat) (y:V),l'[j]? =some y-> ∃x,l[j]? =some x/\vw H x=some y
 | [],l',h=>by simp [Ty] at h;grind
 | x::l,l',h=>by
  simp only [Ty] at h
  split at h
  ·rename_i y ys h1 h2;simp at h;subst h;obtain ⟨e,hg⟩:=DU h2;refine ⟨by simp [e],fun j z hj=> ?_⟩
   cases j with
   | zero=>simp at hj;subst hj;exact ⟨x,Zb,h1⟩
   | succ j=>obtain ⟨q,q1,q2⟩:=hg j z (by simpa using hj);exact ⟨q,by simpa using q1,q2⟩
  ·cases h
theorem Good.lift {F H ι w H1 ι1 w'} (hr:Rel F H ι w) (g:Good Jb [] [] w H1 ι1 w') (h1: ∀(o:Nat) (ob:Obj),H1[o]? =some ob-> ∃S xs,ob= .elems S xs/\As xs=true):Good (Own F ι) [] [] w H1 ι1 w':=by
 have hnew: ∀b,some b∈ι1-> ¬b<w.heap.size:=fun b hb hlt=>g.own b hlt Zb hb
 have hold: ∀b,Own F ι b->b<w.heap.size:=fun b hb=>by
  rcases hb with hb | hb
  ·exact hr.fin b hb
  ·obtain ⟨i,hi⟩:=List.mem_iff_getElem?.1 hb;exact (hr.avo i b hi).2
 refine Good.up hr.env.fresh ⟨⟨g.rel.len,fun b hb=>by have:=hold b hb;have:=g.size;omega,g.rel.inj,fun i b hi=> ?_,fun o cs ho=> ?_,fun o S xs ho=> ?_,fun o es ho=>(by grind),fun o T E r bs ho=>(by grind)⟩,g.os,g.tape,g.output,g.shape,g.size,g.keep,g.own,g.hx⟩
 ·refine ⟨fun hb=>hnew b (List.mem_of_getElem? hi) (hold b hb),(g.rel.avo i b hi).2⟩
 ·grind
 ·rcases g.rel.elm o S xs ho with e | ⟨b,c,t,cap,e1,e2,e3,e4,e5,e6,e7⟩
  ·exact .inl e
  ·refine .inr ⟨b,c,t,cap,e1,e2,e3,e4,e5,e6,fun i x j y hi hj=> ?_⟩;obtain ⟨S',xs',e,hf⟩:=h1 o _ ho;simp at e;obtain ⟨rfl,rfl⟩:=e;have hx:=W4 hf i x hi;refine (e7 i x j y hi hj).anywhere ?_
   cases x<;>simp only [PV.cells] at hj
   case agg cs=>grind [W4,B2]
   all_goals (cases j with
    | zero=>simp at hj;subst hj;exact hx
    | succ j=>simp at hj)
theorem AZ {w:World} (he:Env Jb [] w):Rel Jb [] [] w:=⟨⟨rfl,fun b hb=>hb.elim,fun i j b hi=>by simp at hi,fun i b hi=>by simp at hi,fun o cs ho=>by simp at ho,fun o S xs ho=>by simp at ho,fun o es ho=>by simp at ho,fun o T E r bs ho=>by simp at ho⟩,he⟩
theorem ACalls.view {P g args args'} {y:PV} {H:List Obj} {K:V->List Obj->Prop} (h:ACalls P g args' [] fun x H'=>x= .p y/\H'= []) (hv:Ty H args=some args') (hy:B2 y=true) (k:K (.p y) H):ACalls P g args H K:=by
 refine ⟨h.1,fun F ι w vs hr hvs=> ?_⟩;obtain ⟨e,hg⟩:=DU hv;refine (h.2 Jb [] w vs (AZ hr.env.noth) ⟨by rw [hvs.1,e],fun j c hj=> ?_⟩).mono ?_
 ·obtain ⟨x,h1,h2⟩:=hg j c hj;exact eL hr (hvs.2 j x h1) h2
 ·rintro e w' ⟨x,H',ι',v,rfl,⟨rfl,rfl⟩,gd,rv⟩;have g2:=(gd.lift hr (fun o ob ho=>by simp at ho)).behind hr;have hι:ι'= []:=List.eq_nil_of_length_eq_zero gd.rel.len;subst hι;simp only [List.map_nil,List.append_nil] at g2
  cases rv with | p _ _ rp =>
  exact ⟨_,H,ι,v,rfl,k,g2,.p _ _ (rp.anywhere hy)⟩
def rB (H:List Obj):V->Option PV
 | .p x=>some x
 | .sl o off len tot=>match Xv H o with
  | .elems _ xs=>if xs.length=tot/\off+len<=tot then some (.list false ((xs.take (off+len)).drop off)) else none
  | _=>none
 | _=>none
def rC (H:List Obj):List V->Option (List PV)
 | []=>some []
 | x::l=>match rB H x,rC H l with | some y,some ys=>some (y::ys) | _,_=>none
def rd (H:List Obj):V->Option PV
 | .agg cs=>(rC H cs).map .agg
 | x=>rB H x
attribute [go_sem] Option.map_none
end Go.AM
namespace Go.Proofs.YtmbelkfkhclnkaaGreatDoor.K
open Go Go.AM
def Val (n:Nat) (be:List (Int×Int)):Prop:= ∀p∈be,0<=p.1/\p.1<n/\0<=p.2/\p.2<n
theorem CK (a b:Nat):(pw a).testBit b=decide (a=b):=by grind [pw]
def tot (l:List Nat):Nat:=l.foldr (· + ·) 0
end Go.Proofs.YtmbelkfkhclnkaaGreatDoor.K
