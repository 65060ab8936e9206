/- Declarations that the closing texts need, part 4: joined by tools/slim.py. -/
import Derived.Test.YtmbelkfkhclnkaaGreatDoorZS3
import Derived.Deep.LoopGhost
import Derived.MapKept
import Derived.StillTail
import Derived.WideKeyRuns
set_option linter.unusedVariables false
set_option linter.unusedSimpArgs false
namespace Go.AM
open Go.RowKit
def nA : Obj->Bool
 | .map _=>true
 | _=>false
def V.one (H:List Obj):V->Bool
 | .p x=>x.one
 | .fn _ _ _=>true
 | .lp _ _=>true
 | .ptr o off=>YC H (.ptr o off)
 | .ep o i j tot=>YC H (.ep o i j tot)
 | .sl o _ _ tot=>match oat H o with | .elems _ xs=>decide (xs.length=tot) | .cells _=>true | _=>false
 | .mp o=>nA (oat H o)
 | _=>false
theorem RV.oneCell {F H ι w x v} (h:RV F H ι w x v) (h1:x.one H=true):v.oneCell'=true:=by
 unfold V.one at h1
 split at h1
 ·cases h with | p _ _ h=>exact h.oneCell h1
 ·cases h;rfl
 ·cases h;rfl
 ·obtain ⟨b,off,rfl,_⟩:=Yi h1 h;rfl
 ·obtain ⟨b,off,rfl,_⟩:=Yi h1 h;rfl
 ·split at h1
  ·rename_i S xs ho;have hH:=ZI ho Zb;simp at h1
   cases h with
   | slNil=>rfl
   | sl=>rfl
   | slD _ _ _ _ _ hd=>grind
   | slS _ _ _ _ _ S2 xs2 hd hne=>grind
   | slC _ _ _ _ _ _ hd=>rfl
  ·rename_i cs ho;have hH:=ZI ho Zb
   cases h with
   | slC=>rfl
   | slNil _ _ _ _ hd=>rfl
   | sl _ _ _ _ _ _ _ _ _ _ _ hd=>rfl
   | slD _ _ _ _ _ hd=>grind
   | slS _ _ _ _ _ S2 xs2 hd hne=>grind
  ·cases h1
 ·rename_i o
  cases h with
  | mp=>rfl
  | mpD _ _ hd =>
   cases ho:oat H o with
   | map es=>simp_all [ZI]
   | _=>rw [ho] at h1;cases h1
 ·cases h1
theorem cells_one {v:Value} (h:v.oneCell'=true):v.cells= #[v]:=by cases v<;>simp_all [Value.oneCell',Value.cells]
def vc (H:List Obj):V->Option (List V)
 | .p (.agg cs)=>if cs.all (·.one) then some (cs.map .p) else none
 | .agg cs=>if cs.all (V.one H) then some cs else none
 | x=>if x.one H then some [x] else none
theorem Qr {F H ι w x v cs} (h:vc H x=some cs) (hv:RV F H ι w x v):v.cells.size=cs.length/\ ∀(j:Nat) (c:V),cs[j]? =some c->RV F H ι w c (v.cells.getD j undef)/\(v.cells.getD j undef).oneCell'=true:=by
 unfold vc at h
 split at h
 ·rename_i ps
  split at h
  ·rename_i ha;simp at h;subst h
   cases hv with | p _ _ hv =>
   obtain ⟨a,rfl,hs,hr⟩:=hv.agg_inv;refine ⟨by grind [Value.cells],fun j c hj=> ?_⟩;simp only [List.getElem?_map,Option.map_eq_some_iff] at hj;obtain ⟨y,hy,rfl⟩:=hj;have:=hr j y hy;exact ⟨.p _ _ this,this.oneCell (List.all_eq_true.1 ha y (List.mem_iff_getElem?.2 ⟨j,hy⟩))⟩
  ·cases h
 ·rename_i ps
  split at h
  ·rename_i ha;simp at h;subst h
   cases hv with
   | agg _ a hs hr =>
    refine ⟨by grind [Value.cells],fun j c hj=> ?_⟩;have:=hr j c hj;exact ⟨this,this.oneCell (List.all_eq_true.1 ha c (List.mem_iff_getElem?.2 ⟨j,hj⟩))⟩
  ·cases h
 ·split at h
  ·rename_i h1;simp at h;subst h;have ho:=hv.oneCell h1;rw [cells_one ho];refine ⟨Zb,fun j c hj=> ?_⟩
   cases j with
   | zero=>simp_all
   | succ j=>simp at hj
  ·cases h
def ZW (P:Program) (t:TypeId):Option (List PV):=((P.info? t).bind (·.zero)).bind fun z=>Rs z.cells.toList
def OpS (P:Program) (o:Oper) (fr:List V) (H:List Obj) (x:V) (H':List Obj):Prop :=
 ∀F ι a w,Rel F H ι w->Fr F H ι w fr a-> ∃nx v ι' w',(execOp a.eval o).run P w= .ok nx w'/\(nx= .value v\/(nx= .skip/\v=undef))/\Good F H ι w H' ι' w'/\RV F H' ι' w' x v
theorem PureOp.ops {P o fr H x} (h:PureOp P o fr H x):OpS P o fr H x H:=fun F ι a w hr hf=>by
 obtain ⟨v,e,r⟩:=h F ι a w hr hf;exact ⟨_,v,ι,w,e,.inl rfl,Good.refl hr,r⟩
theorem GG {P:Program} {o:Oper} {fr:List V} {H:List Obj} (t:TypeId) (zs:List PV) (h:o.op= .alloc t) (hz:ZW P t=some zs):OpS P o fr H (.ptr H.length 0) (H++ [.cells (zs.map .p)]):=fun F ι a w hr hf=>by
 unfold ZW at hz;simp only [Option.bind_eq_some_iff] at hz;obtain ⟨z,⟨i,hi,hz⟩,hc⟩:=hz;obtain ⟨c1,c2⟩:=Bk (X:=Own F ι) (w:=w) _ _ hc
 have g:=YU (H:=H) (t:=t) hr (Pushed.alloc w z.cells t) (.cells (zs.map .p)) ⟨by grind,fun j x hj=>by
  simp only [List.getElem?_map,Option.map_eq_some_iff] at hj;obtain ⟨y,hy,rfl⟩:=hj;have:=c2 j y hy;refine .p _ _ ?_
  simp_all⟩
 refine ⟨_,.pointer (some ⟨w.heap.size,0,none⟩),_,_,?_,.inl rfl,g,.ptr _ 0 _ (zs.map .p) (by rw [<- hr.len];simp) Zb⟩
 simp_all [execOp,Instr.alloc,zeroValue,typeInfo,newVar,newRow]
theorem NI {P:Program} {o:Oper} {fr:List V} {H:List Obj} (t:TypeId) (x:Operand) (cs:List V) (h:o.op= .box t x) (hz:vc H (ev fr x)=some cs):OpS P o fr H (.ptr H.length 0) (H++ [.cells cs]):=fun F ι a w hr hf=>by
 obtain ⟨c1,c2⟩:=Qr hz (hf.ev x);have g:=YU (H:=H) (t:=t) hr (Pushed.alloc w (a.eval x).cells t) (.cells cs) ⟨c1,fun j x hj=>(c2 j x hj).1⟩;refine ⟨_,.pointer (some ⟨w.heap.size,0,none⟩),_,_,?_,.inl rfl,g,.ptr _ 0 _ cs (by rw [<- hr.len];simp) Zb⟩;simp [execOp,h,Instr.box,newVar,newRow]
def Yf {α:Type} :List α->Nat->List α->List α
 | [],_,_=> []
 | x::l,0,c::cs=>c::Yf l 0 cs
 | x::l,0,[]=>x::l
 | x::l,n+1,cs=>x::Yf l n cs
theorem W2 {α:Type} : ∀(l:List α) (n:Nat) (cs:List α),(Yf l n cs).length=l.length
 | [],_,_=>by simp [Yf]
 | x::l,0,c::cs=>by simp [Yf,W2 l 0 cs]
 | x::l,0,[]=>by simp [Yf]
 | x::l,n+1,cs=>by simp [Yf,W2 l n cs]
theorem VY {α:Type} : ∀(l:List α) (n:Nat) (cs:List α) (j:Nat) (x:α),n+cs.length<=l.length->(Yf l n cs)[j]? =some x->(n<=j/\cs[j-n]? =some x)\/((j<n\/n+cs.length<=j)/\l[j]? =some x)
 | [],n,cs,j,x,_,h=>by simp [Yf] at h
 | y::l,0,c::cs,j,x,hl,h=>by
  cases j with
  | zero=>grind [Yf]
  | succ j =>
   simp only [Yf,List.getElem?_cons_succ] at h;rcases VY l 0 cs j x (by grind) h with ⟨_,h2⟩ | ⟨h1,h2⟩
   ·grind
   grind
 | y::l,0,[],j,x,_,h=>by grind [Yf]
 | y::l,n+1,cs,j,x,hl,h=>by
  cases j with
  | zero=>simp [Yf] at h;subst h;exact .inr ⟨.inl Za,Zb⟩
  | succ j =>
   simp only [Yf,List.getElem?_cons_succ] at h;rcases VY l n cs j x (by simp at hl;omega) h with ⟨h1,h2⟩ | ⟨h1,h2⟩
   ·exact .inl ⟨Za,by rw [show j+1-(n+1)=j-n by omega];exact h2⟩
   ·exact .inr ⟨Za,by simpa using h2⟩
theorem Qk {α:Type} {l:List α} {i:Nat} {x:α} (h:l[i]? =some x):l.set i x=l:=by
 apply List.ext_getElem?
 grind
def J6 : List Obj->Nat->Obj->List Obj
 | [],_,_=> []
 | _::l,0,x=>x::l
 | y::l,n+1,x=>y::J6 l n x
theorem J7 : ∀(l:List Obj) (n:Nat) (x:Obj),J6 l n x=l.set n x
 | [],n,x=>by simp [J6]
 | y::l,0,x=>by simp [J6]
 | y::l,n+1,x=>by simp [J6,J7 l n x]
def NB (x:PV) (cs:List PV):PV:=match x with | .agg _=> .agg cs | _=>cs.headD .nilp
theorem GE {x:PV} {cs:List PV} (h:cs.length=x.cells.length) (h1: ∀c∈cs,c.one=true):(NB x cs).cells=cs:=by
 unfold NB
 split
 ·rfl
 ·rename_i hx
  have:x.cells= [x]:=by grind [PV.cells]
  rw [this] at h
  match cs,h with
  | [c],_=>grind [PV.cells_one]
def Ut (H:List Obj) (n:Nat) (a:V) (cs:List V):Option (List Obj) :=
 if cs.length=n then
  match a with
  | .ptr o off=>match oat H o with
   | .cells old=>if off+n<=old.length then some (J6 H o (.cells (Yf old off cs))) else none
   | _=>none
  | .ep o i j tot=>match oat H o,Wo cs with
   | .elems S xs,some ps=>if xs.length=tot/\i<xs.length/\j+n<=(YK xs i).cells.length/\ps.all (·.one)=true/\(YK xs i).cells.all (·.one)=true then
     some (J6 H o (.elems S (xs.set i (NB (YK xs i) (Yf (YK xs i).cells j ps))))) else none
   | _,_=>none
  | _=>none
 else none
theorem Wi (cur vs:List Value) (o k:Nat) (h:o+vs.length<=cur.length):((cur.take o++vs++cur.drop (o+vs.length)).toArray).getD k undef=if o<=k/\k<o+vs.length then vs.getD (k-o) undef else cur.getD k undef:=by
 have hto:(cur.take o).length=o:=by simp;omega
 simp only [Array.getD_eq_getD_getElem?,List.getElem?_toArray,List.getD_eq_getElem?_getD]
 grind
theorem Qe {P:Program} {w:World} {b off n:Nat} {t u:TypeId} {cur:Array Value} {v:Value} (hs:XA P t=some n) (hv:v.cells.size=n) (hg:w.heap[b]? =some (.cells cur u (0,0))) (hl:off+n<=cur.size)
  (h1: ∀j,j<n->(v.cells.getD j undef).oneCell'=true) :
  (Instr.storeAt t (.pointer (some ⟨b,off,none⟩)) v).run P w= .ok () (w.setRow b (cur.toList.take off++v.cells.toList++cur.toList.drop (off+v.cells.size)).toArray):=by
 have hst:=run_storeCells_at P b off u v.cells.toList 0 cur w hg (by simp;omega) (fun x hx=>by
  obtain ⟨j,hj⟩:=List.mem_iff_getElem?.1 hx;have:=h1 j (by grind)
  simp_all)
 simp_all [Instr.storeAt,Instr.sureAddr,storeVar,ZR]
theorem GJ {P:Program} {o:Oper} {fr:List V} {H H':List Obj} (t:TypeId) (x y:Operand) (n:Nat) (cs:List V) (h:o.op= .store t x y) (hs:XA P t=some n) (hc:vc H (ev fr y)=some cs) (hz:Ut H n (ev fr x) cs=some H'):OpS P o fr H .junk H':=fun F ι a w hr hf=>by
 obtain ⟨c1,c2⟩:=Qr hc (hf.ev y);have hx:=hf.ev x;unfold Ut at hz
 split at hz
 rotate_left
 ·cases hz
 rename_i hlen;have hone: ∀j,j<n->((a.eval y).cells.getD j undef).oneCell'=true:=fun j hj=>(c2 j (cs[j]'(Za)) Zb).2
 split at hz
 ·rename_i o' off he;rw [he] at hx
  split at hz
  ·rename_i old ho;have hH:=ZI ho Zb
   split at hz
   ·rename_i hle;simp at hz;subst hz;obtain ⟨b,c,u,h1,h2,h3,h4⟩:=hr.cel o' old hH;obtain ⟨b',off',e,_⟩:=Yi (by simp [YC,ho]) hx
    have e2:a.eval x= .pointer (some ⟨b,off,none⟩):=by
     generalize a.eval x=v at hx e;subst e
     cases hx with
     | ptr _ _ b2 _ hb2 _=>grind
     | ptrD _ _ _ hd=>grind
    have hrun:=Qe (v:=a.eval y) (off:=off) hs Za h2 Za hone
    have g:=KJ (cs':=Yf old off cs) hr hH h1 h2 (Turned.setRow (c:=(c.toList.take off++(a.eval y).cells.toList++c.toList.drop (off+(a.eval y).cells.size)).toArray) h2)
     (by simp [W2];omega) (by simp;omega) (fun j z hj=>by
      have hget:=Wi c.toList (a.eval y).cells.toList off j (by simp;omega);simp only [Array.length_toList] at hget;rw [hget];rcases VY old off cs j z Za hj with ⟨p1,p2⟩ | ⟨p1,p2⟩
      ·have hlt:=(List.getElem?_eq_some_iff.1 p2).1;rw [if_pos Za]
       grind [Array.getD_eq_getD_getElem?]
      ·rw [if_neg Za]
       simp_all)
    refine ⟨_,undef,ι,_,?_,.inr ⟨rfl,rfl⟩,(by rw [J7];exact g),.junk _⟩
    simp_all [execOp]
   ·cases hz
  ·cases hz
 ·rename_i o' i j tot he;rw [he] at hx
  split at hz
  ·rename_i S xs ps ho hps;have hH:=ZI ho Zb;have ecs:=Qt _ _ hps
   split at hz
   ·rename_i hle;obtain ⟨ht,hi,hjn,Z7,hall2⟩:=hle;simp at hz;subst hz;rcases hr.elm o' S xs hH with ⟨_,rfl⟩ | ⟨b,c,u,cap,h1,h2,h3,h4,h5,h6,h7⟩
    ·simp at hi
    have hxi:=WE hi;have hS:=h6 i _ hxi
    have e2:a.eval x= .pointer (some ⟨b,i*S+j,none⟩):=by
     obtain ⟨b',off',e,_⟩:=Yi (by simp [YC,ho,ht]) hx;generalize a.eval x=v at hx e;subst e
     cases hx with
     | ep _ _ _ _ b2 S2 xs2 hb2 hH2 _ =>
      grind
     | epD _ _ _ _ _ hd=>grind
     | epS _ _ _ _ _ S2 xs2 hd hne=>grind
    have hcap:(i+1)*S<=c.size:=by rw [h3];exact Nat.mul_le_mul_right _ Za
    rw [Nat.add_mul,Nat.one_mul] at hcap;have hrun:=Qe (v:=a.eval y) (off:=i*S+j) hs Za h2 Za hone;have hT:Turned w (w.setRow b (c.toList.take (i*S+j)++(a.eval y).cells.toList++c.toList.drop (i*S+j+(a.eval y).cells.size)).toArray) b _ u:=Turned.setRow h2
    have hlps:ps.length=n:=by grind
    have hE:(NB (YK xs i) (Yf (YK xs i).cells j ps)).cells=Yf (YK xs i).cells j ps:=GE (W2 _ _ _) (fun q hq=>by
     obtain ⟨m,hm⟩:=List.mem_iff_getElem?.1 hq;rcases VY _ _ _ m q Za hm with ⟨_,p2⟩ | ⟨_,p2⟩
     ·grind
     grind)
    have g:=Xg (w':=w.setRow b (c.toList.take (i*S+j)++(a.eval y).cells.toList++c.toList.drop (i*S+j+(a.eval y).cells.size)).toArray) (cap:=cap)
     (xs':=xs.set i (NB (YK xs i) (Yf (YK xs i).cells j ps))) hr hH hT.os hT.tape hT.output (fun c0 t0 hc0=>by grind) Zb hT.at' (fun k _ hk=>hT.other k hk)
     (.inl ⟨h1,.inl ⟨Zb,fun c0 t0 hc0=>by grind⟩⟩)
     (by simp;omega) (by grind) h5
     (fun k z hk=>by
      grind [W2])
     (fun k z m q hk hm=>by
      have hget:=Wi c.toList (a.eval y).cells.toList (i*S+j) (k*S+m) (by simp;omega);simp only [Array.length_toList] at hget;rw [hget];rw [List.getElem?_set] at hk
      split at hk
      ·rename_i e;subst e;simp [] at hk;subst hk;rw [hE] at hm
       have hmS:m<S:=by grind [W2]
       rcases VY _ _ _ m q Za hm with ⟨p1,p2⟩ | ⟨p1,p2⟩
       ·have hlt:=(List.getElem?_eq_some_iff.1 p2).1;rw [if_pos Za];have:=(c2 (m-j) (.p q) (by grind)).1
        cases this with | p _ _ this =>
        rw [show i*S+m-(i*S+j)=m-j by omega]
        grind [Array.getD_eq_getD_getElem?]
       ·rw [if_neg Za];have:=h7 i _ m q hxi p2
        grind [Array.getD_eq_getD_getElem?]
      ·rename_i hki
       have hmS:m<S:=by grind
       have hne: ¬(i*S+j<=k*S+m/\k*S+m<i*S+j+(a.eval y).cells.size):=by
        intro ⟨q1,q2⟩
        have hsz:(a.eval y).cells.size<=S-j:=Za
        rcases Nat.lt_or_gt_of_ne hki with hlt | hgt
        ·have:(i+1)*S<=k*S:=Nat.mul_le_mul_right _ Za
         grind
        ·have:(k+1)*S<=i*S:=Nat.mul_le_mul_right _ Za
         grind
       rw [if_neg hne];have:=h7 k z m q hk hm
       simpa [Array.getD_eq_getD_getElem?] using this)
    have eι:ι.set o' (some b)=ι:=Qk h1;refine ⟨_,undef,ι,_,?_,.inr ⟨rfl,rfl⟩,(by rw [J7];rw [eι] at g;exact g),.junk _⟩
    simp_all [execOp]
   ·cases hz
  ·cases hz
 ·cases hz
end Go.AM
namespace Go.AM
open Go.RowKit
def Bw (l:List (Nat×Nat)) (i:Nat):Option (Nat×Nat):=l[i]?
def vQ (n i:Nat):Option (Nat×Nat):=some (i*n,n)
def Bx (P:Program) (t:TypeId):Option (Nat->Option (Nat×Nat)) :=
 match P.underlying t with
 | some (.array _ e)=>(P.info? e).map fun ie=>vQ ie.size
 | some (.struct fs)=>(fs.toList.mapM (fun f=>(P.info? f.type).map fun i=>(f.offset,i.size))).map Bw
 | _=>none
inductive PR (F:Nat->Prop) (H:List Obj) (ι:List (Option Nat)) (w:World):List (Nat×V)->List (Nat×Value)->Prop where
 | nil:PR F H ι w [] []
 | cons (i x v ps vs) (h:RV F H ι w x v) (t:PR F H ι w ps vs):PR F H ι w ((i,x)::ps) ((i,v)::vs)
def Vj (H:List Obj) (pl:Nat->Option (Nat×Nat)):List V->List (Nat×V)->Option (List V)
 | cs,[]=>some cs
 | cs,(i,v)::r=>match pl i,vc H v with
  | some (off,sz),some vs=>if vs.length=sz/\off+sz<=cs.length then Vj H pl (Yf cs off vs) r else none
  | _,_=>none
def yP (F:Nat->Prop) (H:List Obj) (ι:List (Option Nat)) (w:World) (cs:List V) (a:Array Value):Prop :=
 a.size=cs.length/\ ∀(j:Nat) (c:V),cs[j]? =some c->RV F H ι w c (a.getD j undef)
theorem X8 (off:Nat): ∀(l:List Value) (i:Nat) (cells:Array Value),
  ((l.zipIdx i).foldl (fun cs (x:Value×Nat)=>cs.setIfInBounds (off+x.2) x.1) cells).size=cells.size /\
  ∀k,off+i+l.length<=cells.size->((l.zipIdx i).foldl (fun cs (x:Value×Nat)=>cs.setIfInBounds (off+x.2) x.1) cells).getD k undef=if off+i<=k/\k<off+i+l.length then l.getD (k-(off+i)) undef else cells.getD k undef
 | [],i,cells=>⟨Zb,fun k hk=>by simp;omega⟩
 | v::l,i,cells=>by
  obtain ⟨h1,h2⟩:=X8 off l (i+1) (cells.setIfInBounds (off+i) v);refine ⟨by simpa using h1,fun k hk=> ?_⟩;simp only [List.zipIdx_cons,List.foldl_cons];rw [h2 k (by grind)]
  by_cases hk1:off+(i+1)<=k/\k<off+(i+1)+l.length
  ·grind
  ·rw [if_neg hk1]
   by_cases hk2:k=off+i
   ·subst hk2;rw [if_pos Zb];simp at hk
    have:off+i<cells.size:=Za
    simp_all
   ·rw [if_neg (by simp;omega)]
    simp_all [Ne.symm]
theorem JI {F H ι w} (pl:Nat->Option (Nat×Nat)): ∀(ps:List (Nat×V)) (vs:List (Nat×Value)) (cs cs':List V) (a:Array Value),Vj H pl cs ps=some cs' ->
  PR F H ι w ps vs->yP F H ι w cs a-> ∃a',Instr.fill pl a vs=some a'/\yP F H ι w cs' a'
 | [],_,cs,cs',a,h,hp,hr=>by
  cases hp
  simp [Vj] at h;subst h;exact ⟨a,rfl,hr⟩
 | (i,v)::ps,_,cs,cs',a,h,hp,hr=>by
  cases hp with
  | cons _ _ u _ vs hv h2 =>
  simp only [Vj] at h
  split at h
  rotate_left
  ·cases h
  rename_i off sz us hpl hus
  split at h
  rotate_left
  ·cases h
  rename_i hle;obtain ⟨c1,c2⟩:=Qr hus hv;obtain ⟨r1,r2⟩:=hr;have hf:=X8 off u.cells.toList 0 a
  have e2:(u.cells.zipIdx.foldl (fun cs (x:Value×Nat)=>match x with | (c,j)=>cs.setIfInBounds (off+j) c) a)=(u.cells.toList.zipIdx.foldl (fun cs (x:Value×Nat)=>cs.setIfInBounds (off+x.2) x.1) a):=by
   rw [<- Array.foldl_toList];simp
  obtain ⟨a',g1,g2⟩:=JI pl ps vs (Yf cs off us) cs' (u.cells.toList.zipIdx.foldl (fun cs (x:Value×Nat)=>cs.setIfInBounds (off+x.2) x.1) a) h h2 ⟨by rw [hf.1,r1,W2],fun j c hj=>by
   rw [hf.2 j (by simp;omega)];simp only [Nat.add_zero,Array.length_toList];rcases VY cs off us j c Za hj with ⟨p1,p2⟩ | ⟨p1,p2⟩
   ·have hlt:=(List.getElem?_eq_some_iff.1 p2).1;rw [if_pos Za]
    grind [Array.getD_eq_getD_getElem?]
   grind⟩
  simp_all [Instr.fill]
theorem QG {F H ι w fr a} (hf:Fr F H ι w fr a): ∀(ps:List (Nat×Operand)),PR F H ι w (ps.map fun x=>(x.1,ev fr x.2)) (ps.map fun x=>(x.1,a.eval x.2))
 | []=> .nil
 | x::ps=> .cons _ _ _ _ _ (hf.ev x.2) (QG hf ps)
def Jn (P:Program) (H:List Obj) (t:TypeId) (ps:List (Nat×V)):Option V :=
 match ZW P t,Bx P t with
 | some zs,some pl=>(Vj H pl (zs.map .p) ps).map mkA
 | _,_=>none
theorem D4 {P:Program} {o:Oper} {fr:List V} {H:List Obj} (t:TypeId) (ps:Array (Nat×Operand)) (y:V) (h:o.op= .build t ps) (hz:Jn P H t (ps.toList.map fun x=>(x.1,ev fr x.2))=some y):PureOp P o fr H y:=fun F ι a w hr hf=>by
 unfold Jn at hz
 split at hz
 rotate_left
 ·cases hz
 rename_i zs pl hzs hpl;simp only [Option.map_eq_some_iff] at hz;obtain ⟨cs,hc,rfl⟩:=hz;unfold ZW at hzs;simp only [Option.bind_eq_some_iff] at hzs;obtain ⟨z,⟨i,hi,hz⟩,hzc⟩:=hzs;obtain ⟨c1,c2⟩:=Bk (X:=Own F ι) (w:=w) _ _ hzc
 obtain ⟨a',e1,e2,e3⟩:=JI (F:=F) (ι:=ι) (w:=w) pl _ _ _ cs z.cells hc (QG hf ps.toList) ⟨by grind,fun j c hj=>by
  simp only [List.getElem?_map,Option.map_eq_some_iff] at hj;obtain ⟨y,hy,rfl⟩:=hj;have:=c2 j y hy;refine .p _ _ ?_
  simp_all⟩
 refine ⟨.agg a',?_,LU e2 e3⟩
 have hb:P.built t ((ps.map fun (i,x)=>(i,a.eval x)).toList)=some a':=by
  have el:(ps.map fun (i,x)=>(i,a.eval x)).toList=ps.toList.map fun x=>(x.1,a.eval x.2):=Zb
  rw [el];unfold Bx at hpl;unfold Program.built
  split at hpl
  ·rename_i n e hu;simp only [Option.map_eq_some_iff] at hpl;obtain ⟨ie,hie,rfl⟩:=hpl;simp only [hi,hu,hz,hie];exact e1
  ·rename_i fs hu;simp only [Option.map_eq_some_iff] at hpl;obtain ⟨l,hl,rfl⟩:=hpl;simp only [hi,hu,hz,hl]
   have:(fun x=>l.toArray[x]?)=Bw l:=by grind [Bw]
   grind
  ·cases hpl
 grind [execOp,Sem.run_bind,run_build,Result.andThen_ok,Sem.run_pure]
def sL : V->Option PV
 | .p x=>some x
 | .fn (.func f) [] []=>some (.fn f)
 | _=>none
theorem TQ {F H ι w v x u} (h:sL v=some x) (hv:RV F H ι w v u):RV F H ι w (.p x) u:=by
 unfold sL at h
 split at h
 ·grind
 ·simp at h;subst h
  cases hv with
  | fn _ _ _ a e hs ht _ _ =>
   have ea:a= #[]:=Array.eq_empty_of_size_eq_zero Za;have ee:e= #[]:=Array.eq_empty_of_size_eq_zero Za;subst ea;subst ee;exact .p _ _ (.fn _)
 ·cases h
def WJ (H:List Obj) (S:Nat):Nat->List (Nat×V)->Option (List PV)
 | _,[]=>some []
 | k,(i,v)::r=>if i=k then match sL v with
   | some x=>if x.cells.length=S/\x.cells.all (·.one)=true then (WJ H S (k+1) r).map (x:: ·) else none
   | none=>none
  else none
theorem Cl {H:List Obj} {S:Nat} : ∀(ps:List (Nat×V)) (k:Nat) (xs:List PV),WJ H S k ps=some xs->xs.length=ps.length
 | [],k,xs,h=>by grind [WJ]
 | (i,v)::ps,k,xs,h=>by
  simp only [WJ] at h
  split at h
  rotate_left
  ·cases h
  split at h
  rotate_left
  ·cases h
  split at h
  rotate_left
  ·cases h
  simp only [Option.map_eq_some_iff] at h;obtain ⟨xs',h,rfl⟩:=h;simp [Cl ps _ _ h]
theorem Cm {F H ι w} {S n:Nat} : ∀(ps:List (Nat×V)) (vs:List (Nat×Value)) (k:Nat) (xs:List PV) (a:Array Value),WJ H S k ps=some xs->PR F H ι w ps vs->a.size=n*S->k+ps.length<=n ->
  ∃a',Instr.fill (fun i=>some (i*S,S)) a vs=some a'/\a'.size=n*S/\xs.length=ps.length/\(∀(i:Nat) (x:PV),xs[i]? =some x->x.cells.length=S) /\
   (∀q,q<k*S->a'.getD q undef=a.getD q undef) /\
   ∀(i:Nat) (x:PV) (j:Nat) (c:PV),xs[i]? =some x->x.cells[j]? =some c->RP (Own F ι) w c (a'.getD ((k+i)*S+j) undef)
 | [],_,k,xs,a,h,hp,hs,hk=>by
  cases hp
  simp [WJ] at h;subst h;exact ⟨a,rfl,hs,rfl,Zb,fun _ _=>rfl,Zb⟩
 | (i,v)::ps,_,k,xs,a,h,hp,hs,hk=>by
  cases hp with
  | cons _ _ u _ vs hv h2 =>
  simp only [WJ] at h
  split at h
  rotate_left
  ·cases h
  rename_i hik;subst hik
  split at h
  rotate_left
  ·cases h
  rename_i x hpv;have hv:=TQ hpv hv
  split at h
  rotate_left
  ·cases h
  rename_i hx;simp only [Option.map_eq_some_iff] at h;obtain ⟨xs',h,rfl⟩:=h;simp at hk;have hkS:(i+1)*S<=n*S:=Nat.mul_le_mul_right _ Za;rw [Nat.add_mul,Nat.one_mul] at hkS;obtain ⟨hx1,hx2⟩:=hx
  have hvc: ∃us,vc H (.p x)=some us/\us=x.cells.map .p:=by
   cases x with
   | agg cs=>exact ⟨cs.map .p,by simp_all [vc,PV.cells],rfl⟩
   | _=>exact ⟨_,by simp [vc,V.one,PV.one];rfl,by simp [PV.cells]⟩
  obtain ⟨us,hvc,hus⟩:=hvc;obtain ⟨c1,c2⟩:=Qr hvc hv
  have hulen:us.length=S:=by grind
  have hf:=X8 (i*S) u.cells.toList 0 a
  have e2:(u.cells.zipIdx.foldl (fun cs (x:Value×Nat)=>match x with | (c,j)=>cs.setIfInBounds (i*S+j) c) a)=(u.cells.toList.zipIdx.foldl (fun cs (x:Value×Nat)=>cs.setIfInBounds (i*S+x.2) x.1) a):=by
   rw [<- Array.foldl_toList];simp
  have hg:=hf.2;simp only [Nat.add_zero,Array.length_toList] at hg;obtain ⟨a',g1,g2,g3,g4,g5,g6⟩:=Cm (n:=n) ps vs (i+1) xs' (u.cells.toList.zipIdx.foldl (fun cs (x:Value×Nat)=>cs.setIfInBounds (i*S+x.2) x.1) a) h h2 Za Za;refine ⟨a',?_,g2,by simp [g3],?_,?_,?_⟩
  ·simp only [Instr.fill]
   grind
  ·grind
  ·grind
  ·intro m y j c hm hj
   cases m with
   | zero =>
    simp at hm;subst hm
    have hjS:j<S:=by grind
    have e3:=(c2 j (.p c) (by grind)).1
    cases e3 with | p _ _ e3 =>
    simp only [Nat.add_zero];rw [g5 _ (by grind),hg _ Za,if_pos Za]
    grind [Array.getD_eq_getD_getElem?]
   | succ m =>
    have:=g6 m y j c (by grind) hj;rwa [show i+1+m=i+(m+1) by omega] at this
def Dk (P:Program) (H:List Obj) (t:TypeId) (n:Nat) (ps:List (Nat×V)):Option (V×List Obj) :=
 match XO P t with
 | some (none,S)=>if n=ps.length/\n*S<=16777216/\0<S then (WJ H S 0 ps).map fun xs=>(.sl H.length 0 n n,H++ [.elems S xs]) else none
 | _=>none
theorem Cy {P:Program} {o:Oper} {fr:List V} {H H':List Obj} (t:TypeId) (n:Nat) (ps:Array (Nat×Operand)) (y:V) (h:o.op= .buildSlice t n ps) (e:TypeId) (z:Value) (hu:P.underlying t=some (.slice e)) (hze:((P.info? e).bind (·.zero))=some z)
  (hz:Dk P H t n (ps.toList.map fun x=>(x.1,ev fr x.2))=some (y,H')): ∃S xs,y= .sl H.length 0 n n/\H'=H++ [.elems S xs]/\xs.length=n/\WJ H S 0 (ps.toList.map fun x=>(x.1,ev fr x.2))=some xs /\
  ∀F ι a w,Rel F H ι w->Fr F H ι w fr a-> ∃a' t',(execOp a.eval o).run P w= .ok (.value (.slice (some ⟨w.heap.size,0,none⟩) n n)) (w.alloc (.cells a' t'))/\Good F H ι w (H++ [.elems S xs]) (ι++ [some w.heap.size]) (w.alloc (.cells a' t')) /\
   RV F (H++ [.elems S xs]) (ι++ [some w.heap.size]) (w.alloc (.cells a' t')) (.sl H.length 0 n n) (.slice (some ⟨w.heap.size,0,none⟩) n n):=by
 unfold Dk at hz
 split at hz
 rotate_left
 ·cases hz
 rename_i S ht;obtain ⟨e',hu',hs⟩:=W3 ht
 have:e'=e:=by grind
 subst this
 split at hz
 rotate_left
 ·cases hz
 rename_i hc;obtain ⟨hn,hn2,hS⟩:=hc;simp only [Option.map_eq_some_iff] at hz;obtain ⟨xs,hl,he⟩:=hz;simp at he;obtain ⟨rfl,rfl⟩:=he
 have hlen0:xs.length=n:=by grind [Cl]
 refine ⟨S,xs,rfl,rfl,hlen0,hl,fun F ι a w hr hf=> ?_⟩;obtain ⟨a',g1,g2,g3,g4,g5,g6⟩:=Cm (n:=n) _ _ 0 xs ((Array.range (n*S)).map (z.cells[· %z.cells.size]!)) hl (QG hf ps.toList) Zb Za
 have hlen:xs.length=n:=by rw [g3,hn]
 have hnn:n<=16777216:=by have:=Nat.mul_le_mul_left n hS;omega
 have g:=YU (H:=H) hr (Pushed.alloc w a' e') (.elems S xs) ⟨n,g2,Za,by unfold maxLen;omega,g4,fun i x j c hi hj=>by grind⟩;refine ⟨a',e',?_,g,?_⟩
 ·have el:(ps.map fun (i,x)=>(i,a.eval x)).toList=ps.toList.map fun x=>(x.1,a.eval x.2):=Zb
  simp only [Option.bind_eq_some_iff] at hze;obtain ⟨ie,hie,hzz⟩:=hze
  by_cases h0:n*S=0
  ·rw [h0] at g1
   have e0:(Array.range 0).map (z.cells[· %z.cells.size]!)= #[]:=Zb
   rw [e0] at g1
   have e9:Array.range 0= #[]:=by rfl
   simp [execOp,h,Instr.buildSlice,run_underlying hu,ZR hs,h0,e9,g1,newRow]
  ·have hgt: ¬(16777216<n*S):=Za
   simp [execOp,h,Instr.buildSlice,run_underlying hu,ZR hs,h0,hgt,zeroValue,typeInfo,hie,hzz,g1,newRow]
 ·have:=RV.sl (F:=F) (w:=w.alloc (.cells a' e')) (H:=H++ [.elems S xs]) (ι:=ι++ [some w.heap.size]) H.length 0 n n w.heap.size S n e' xs a' (by rw [<- hr.len];simp) Zb hlen (Pushed.new (Pushed.alloc w a' e')) (by grind) (Nat.le_refl _) Za (by unfold maxLen;omega)
  grind
theorem NJ {P:Program} {o:Oper} {fr:List V} {H H':List Obj} (t:TypeId) (n:Nat) (ps:Array (Nat×Operand)) (y:V) (h:o.op= .buildSlice t n ps) (e:TypeId) (z:Value) (hu:P.underlying t=some (.slice e)) (hze:((P.info? e).bind (·.zero))=some z)
  (hz:Dk P H t n (ps.toList.map fun x=>(x.1,ev fr x.2))=some (y,H')):OpS P o fr H y H':=fun F ι a w hr hf=>by
 obtain ⟨S,xs,rfl,rfl,_,_,k⟩:=Cy t n ps y h e z hu hze hz
 grind
def Wz (P:Program) (e:TypeId):Option PV:=((P.info? e).bind (·.zero)).bind fun z=>match cv z with | .p x=>some x | _=>none
def EF (P:Program) (H:List Obj) (t:TypeId) (x y:V):Option (V×List Obj) :=
 match P.underlying t with
 | some (.slice e)=>match XA P e,Wz P e,(P.info? e).map (·.bytes),x,y with
  | some S,some z,some by',.p (.int .i64 n),.p (.int .i64 m) =>
   if n=m/\0<=n/\(by':Int)*n<=281474976710656/\n<=281474976710656/\z.cells.length=S/\0<S then
    some (.sl H.length 0 n.toNat n.toNat,H++ [.elems S (List.replicate n.toNat z)]) else none
  | _,_,_,_,_=>none
 | _=>none
theorem Qc {X w P e z x} (hz:((P.info? e).bind (·.zero))=some z) (h:Wz P e=some x):RP X w x z:=by
 unfold Wz at h;rw [hz] at h;simp only [Option.bind_some] at h
 split at h
 ·rename_i y hy;simp at h;subst h;have:RV X [] [] w (cv z) z:=Pc z;rw [hy] at this
  cases this with | p _ _ hh =>
  exact hh.ext fun b hb hs=>⟨fun h=>hb (.inl h),hs,rfl⟩
 ·cases h
theorem YQ {X w} {z:Value} {x:PV} (h:RP X w x z) (hz:x.cells.all (·.one)=true):z.cells.size=x.cells.length/\ ∀(j:Nat) (c:PV),x.cells[j]? =some c->RP X w c (z.cells.getD j undef):=by
 cases x with
 | agg cs =>
  obtain ⟨a,rfl,h1,h2⟩:=h.agg_inv
  grind [Value.cells,PV.cells]
 | _ =>
  have h1:=h.oneCell rfl;rw [cells_one h1];refine ⟨by simp [PV.cells],fun j c hj=> ?_⟩
  cases j with
  | zero=>simp [PV.cells] at hj;subst hj;simpa using h
  | succ j=>simp [PV.cells] at hj
theorem Le {P:Program} {o:Oper} {fr:List V} {H H':List Obj} (t:TypeId) (x y:Operand) (v:V) (h:o.op= .makeSlice t x y) (hone: ∀e z,P.underlying t=some (.slice e)->Wz P e=some z->z.cells.all (·.one)=true)
  (hz:EF P H t (ev fr x) (ev fr y)=some (v,H')):OpS P o fr H v H':=fun F ι a w hr hf=>by
 have hx:=hf.ev x;have hy:=hf.ev y;generalize ev fr x=X at hx hz;generalize ev fr y=Y at hy hz;unfold EF at hz
 split at hz
 rotate_left
 ·cases hz
 rename_i e hu
 split at hz
 rotate_left
 ·cases hz
 rename_i S z by' n m hs hzv hb
 split at hz
 rotate_left
 ·cases hz
 rename_i hc;obtain ⟨rfl,hn,hby,hn2,hS,hS0⟩:=hc;simp at hz;obtain ⟨rfl,rfl⟩:=hz
 cases hx with | p _ _ hx=>cases hy with | p _ _ hy =>
 obtain ⟨n,rfl⟩:=Int.eq_ofNat_of_zero_le hn;have hone':=hone e z hu hzv
 obtain ⟨zz,hzz⟩: ∃zz,((P.info? e).bind (·.zero))=some zz:=by
  grind [Wz,Option.bind_eq_some_iff]
 have hrz:RP (Own F ι) w z zz:=Qc hzz hzv;obtain ⟨z1,z2⟩:=YQ hrz hone';simp only [Option.bind_eq_some_iff] at hzz;obtain ⟨ie,hie,hzz⟩:=hzz;simp [hie] at hb;simp only [Int.toNat_natCast]
 let arr:Array Value:=(Array.range (n*S)).map (zz.cells[· %zz.cells.size]!)
 have harr: ∀q,q<n*S->arr.getD q undef=zz.cells.getD (q%S) undef:=fun q hq=>by
  have:q%S<zz.cells.size:=by simp_all [Nat.mod_lt]
  simp [arr,Array.getD_eq_getD_getElem?,hq,z1,hS,getElem!_def]
  grind
 have g:=YU (H:=H) hr (Pushed.alloc w arr e) (.elems S (List.replicate n z)) ⟨n,by simp [arr],Zb,by unfold maxLen;omega,(fun i q hi=>by
   grind),fun i q j c hi hj=>by
   rw [List.getElem?_replicate] at hi;split at hi
   ·rename_i hin;simp at hi;subst hi;have hj':=(List.getElem?_eq_some_iff.1 hj).1;have hle:(i+1)*S<=n*S:=Nat.mul_le_mul_right _ Za;rw [Nat.add_mul,Nat.one_mul] at hle
    grind [Nat.mul_comm,Nat.mul_add_mod,Nat.mod_eq_of_lt]
   ·cases hi⟩
 refine ⟨_,.slice (some ⟨w.heap.size,0,none⟩) n n,_,_,?_,.inl rfl,g,?_⟩
 ·have hw:IntKind.i64.wrap (n:Int)=n:=IntWalk.i64_in _ Za
  have h1: ¬((n:Int)<0):=Za
  have h2: ¬(281474976710656<((ie.bytes:Int)*(n:Int))):=by grind
  by_cases h0:n*S=0
  ·have e9:Array.range 0= #[]:=by rfl
   simp [execOp,h,hx.int_inv,hy.int_inv,Instr.makeSlice,asInt,asIntOf,run_underlying hu,typeInfo,hie,hw,h1,h2,ZR hs,h0,newRow,e9,arr]
  ·simp [execOp,h,hx.int_inv,hy.int_inv,Instr.makeSlice,asInt,asIntOf,run_underlying hu,typeInfo,hie,hw,h1,h2,ZR hs,h0,zeroValue,hzz,newRow,arr]
 ·have:=RV.sl (F:=F) (w:=w.alloc (.cells arr e)) (H:=H++ [.elems S (List.replicate n z)]) (ι:=ι++ [some w.heap.size]) H.length 0 n n w.heap.size S n e (List.replicate n z) arr (by rw [<- hr.len];simp) Zb Zb (Pushed.new (Pushed.alloc w arr e)) (by simp [arr]) (Nat.le_refl _) Za (by unfold maxLen;omega)
  grind
end Go.AM
namespace Go.AM
open Go.RowKit
def TD (S:Nat) (x:PV):Bool:=(x.cells.length==S)&&x.cells.all (·.one)
def Q8 (S:Nat) (xs:List PV):Bool:=xs.all (TD S)
def BP (P:Program) (H:List Obj) (t:TypeId) (y:V):Option (List PV) :=
 match P.underlying t,y with
 | some (.slice _),.p (.list _ ys)=>some ys
 | some (.slice _),.sl o off len tot=>match oat H o with
  | .elems _ xs=>if xs.length=tot/\off+len<=tot then some ((xs.take (off+len)).drop off) else none
  | _=>none
 | some .string,.p (.str s)=>some (s.map fun b=> .int .u8 b.toNat)
 | _,_=>none
structure Src (P:Program) (X:Nat->Prop) (w:World) (t:TypeId) (v:Value) (S:Nat) (ys:List PV) (news:List Value):Prop where
 len:news.length=ys.length*S
 ty:(P.underlying t=some .string)\/ ∃e,P.underlying t=some (.slice e)
 lenOf: ∀w',(Builtin.lenOf v).run P w'= .ok ys.length w'
 first: ∀w':World,w'.heap=w.heap->(Builtin.firstCells S ys.length v).run P w'= .ok news.toArray w'
 rel: ∀(i:Nat) (y:PV) (j:Nat) (c:PV),ys[i]? =some y->y.cells[j]? =some c->RP X w c (news.getD (i*S+j) undef)
theorem Gd {w w':World} (h:w'.heap=w.heap) (a:Addr):w'.cell? a=w.cell? a:=by simp [World.cell?,h]
theorem WH {P:Program} {w:World} {a:Addr} {n S len cap:Nat} {news:List Value} (hl:news.length=n*S) (hc: ∀(j:Nat) (u:Value),news[j]? =some u->w.cell? (a.add j)=some u) :
  ∀w':World,w'.heap=w.heap->(Builtin.firstCells S n (.slice (some a) len cap)).run P w'= .ok news.toArray w':=fun w' hw =>
 run_firstCells_some w' S n a len cap news hl (fun j u hj=>by grind [Gd])
theorem Kd {w:World} {b off n S:Nat} {ys:List PV} {X:Nat->Prop} (u:Nat->Nat->Value) (hn:ys.length=n) (hS: ∀(i:Nat) (x:PV),ys[i]? =some x->x.cells.length=S)
  (hu: ∀(i:Nat) (x:PV) (j:Nat) (c:PV),ys[i]? =some x->x.cells[j]? =some c->w.cell? ⟨b,off+i*S+j,none⟩=some (u i j))
  (hr: ∀(i:Nat) (x:PV) (j:Nat) (c:PV),ys[i]? =some x->x.cells[j]? =some c->RP X w c (u i j)) (hS0:0<S) :
  ∃news:List Value,news.length=n*S/\(∀(j:Nat) (v:Value),news[j]? =some v->w.cell? ((⟨b,off,none⟩:Addr).add j)=some v) /\
   ∀(i:Nat) (y:PV) (j:Nat) (c:PV),ys[i]? =some y->y.cells[j]? =some c->RP X w c (news.getD (i*S+j) undef):=by
 refine ⟨(List.range (n*S)).map fun q=>u (q / S) (q%S),Zb,fun j v hj=> ?_,fun i y j c hi hj=> ?_⟩
 ·simp only [List.getElem?_map,Option.map_eq_some_iff] at hj;obtain ⟨q,hq,rfl⟩:=hj
  have hlt:j<n*S:=by grind
  have:q=j:=by grind
  subst this;have h1:q / S<n:=(Nat.div_lt_iff_lt_mul hS0).2 hlt;have h2:q%S<S:=Nat.mod_lt _ hS0
  have hy:ys[q / S]? =some (ys[q / S]'(Za)):=by simp [hn,h1]
  have hl:=hS _ _ hy;have:=hu (q / S) _ (q%S) _ hy (List.getElem?_eq_getElem Za)
  grind [Addr.add_lit,Nat.div_add_mod]
 ·have hlt:=(List.getElem?_eq_some_iff.1 hi).1;have hjl:=(List.getElem?_eq_some_iff.1 hj).1;have hl:=hS i y hi;have hle:(i+1)*S<=n*S:=Nat.mul_le_mul_right _ Za;rw [Nat.add_mul,Nat.one_mul] at hle
  have h1:(i*S+j) / S=i:=by grind [Nat.mul_comm,Nat.mul_add_div,Nat.div_eq_of_lt]
  grind [Nat.mul_comm,Nat.mul_add_mod,Nat.mod_eq_of_lt]
theorem VV {S:Nat} {ys:List PV} (h:Q8 S ys=true) (i:Nat) (y:PV) (hi:ys[i]? =some y):y.cells.length=S/\ ∀c∈y.cells,c.one=true:=by
 have:=List.all_eq_true.1 h y (List.mem_iff_getElem?.2 ⟨i,hi⟩)
 grind [TD]
theorem T1 {P:Program} {F H ι w t v S ys y} (h:BP P H t y=some ys) (hok:Q8 S ys=true) (hS:0<S) (hr:Rel F H ι w) (hv:RV F H ι w y v): ∃news,Src P (Own F ι) w t v S ys news:=by
 unfold BP at h
 split at h
 ·rename_i e cl ys' hu;simp at h;subst h
  cases hv with | p _ _ hv =>
  cases hv with
  | nils=>exact ⟨[],Zb,.inr ⟨_,hu⟩,fun w'=>rfl,fun w' _=>by rfl,Zb⟩
  | emp _ a cap hc hm ha=>exact ⟨[],Zb,.inr ⟨_,hu⟩,fun w'=>rfl,fun w' _=>by cases a<;>simp [Builtin.firstCells,loadCells,loadCellsFrom],Zb⟩
  | list _ _ b off cap S' u hX hb hc hm hcl hS' hu' hr' =>
   by_cases h0:ys'.length=0
   ·have:ys'= []:=List.eq_nil_of_length_eq_zero h0;subst this;exact ⟨[],Zb,.inr ⟨_,hu⟩,fun w'=>rfl,fun w' _=>by simp [Builtin.firstCells,loadCells,loadCellsFrom],Zb⟩
   ·have hlt:0<ys'.length:=Za
    have e0:=WE hlt;have:S'=S:=(hS' 0 _ e0).symm.trans (VV hok 0 _ e0).1;subst this;obtain ⟨news,n1,n2,n3⟩:=Kd u rfl hS' hu' hr' hS;exact ⟨news,n1,.inr ⟨_,hu⟩,fun w'=>rfl,WH n1 n2,n3⟩
 ·rename_i e o off len tot hu
  split at h
  rotate_left
  ·cases h
  rename_i S' xs ho;have hH:=ZI ho Zb
  split at h
  rotate_left
  ·cases h
  rename_i hc;simp at h;subst h
  have hlen:((xs.take (off+len)).drop off).length=len:=by simp;omega
  by_cases h0:len=0
  ·have e1:(xs.take (off+len)).drop off= []:=List.eq_nil_of_length_eq_zero Za;rw [e1];subst h0
   cases hv with
   | slNil _ _ a=>exact ⟨[],Zb,.inr ⟨_,hu⟩,fun w'=>rfl,fun w' _=>by cases a<;>simp [Builtin.firstCells,loadCells,loadCellsFrom],Zb⟩
   | sl=>exact ⟨[],Zb,.inr ⟨_,hu⟩,fun w'=>rfl,fun w' _=>by simp [Builtin.firstCells,loadCells,loadCellsFrom],Zb⟩
   | slD _ _ _ _ _ hd=>grind
   | slS _ _ _ _ _ S2 xs2 hd hne=>grind
   | slC _ _ _ _ _ _ hd=>grind
  ·obtain ⟨b,cap,c,t2,e1,e2,e3,e4,e5,e6,e7⟩:=hv.sl_inv hH hc.1 Za;rcases hr.elm o S' xs hH with ⟨_,rfl⟩ | ⟨b2,c2,t3,cap2,f1,f2,f3,f4,f5,f6,f7⟩
   ·grind
   ·have:b2=b:=by grind
    subst this;rw [e3] at f2;simp at f2;obtain ⟨rfl,rfl⟩:=f2
    have hlt:0<((xs.take (off+len)).drop off).length:=Za
    have hget: ∀(i:Nat) (x:PV),((xs.take (off+len)).drop off)[i]? =some x->xs[off+i]? =some x:=fun i x hi=>by
     grind
    have e0:=WE hlt;have:S'=S:=(f6 _ _ (hget 0 _ e0)).symm.trans (VV hok 0 _ e0).1;subst this
    obtain ⟨news,n1,n2,n3⟩:=Kd (w:=w) (b:=b2) (off:=off*S') (X:=Own F ι) (fun i j=>c.getD ((off+i)*S'+j) undef) hlen (fun i x hi=>f6 _ x (hget i x hi))
     (fun i x j q hi hj=>by
      have hx:=hget i x hi;have hl:=f6 _ x hx;have hlt2:=(List.getElem?_eq_some_iff.1 hx).1;have hjl:=(List.getElem?_eq_some_iff.1 hj).1;have hle:(off+i+1)*S'<=cap2*S':=Nat.mul_le_mul_right _ Za;rw [Nat.add_mul (off+i),Nat.one_mul] at hle
      have hsz:(off+i)*S'+j<c.size:=Za
      simp_all [Nat.add_mul,World.cell?]) (fun i x j q hi hj=>f7 _ x j q (hget i x hi) hj) hS
    exact ⟨news,by rw [n1,hlen],.inr ⟨_,hu⟩,fun w'=>by rw [e2,hlen];rfl,by rw [e2,hlen];exact WH n1 n2,n3⟩
 ·rename_i s hu;simp at h;subst h
  cases hv with | p _ _ hv =>
  rw [hv.str_inv]
  have hS1:s≠ []->S=1:=fun hs=>by
   cases s with
   | nil=>grind
   | cons c r =>
    have:=(VV hok 0 (.int .u8 (c.toNat:Int)) Zb).1
    grind [PV.cells]
  have hsz:(⟨s.toArray⟩:ByteArray).size=s.length:=by rfl
  refine ⟨s.map fun b=> .int .u8 b.toNat,?_,.inl hu,fun w'=> ?_,fun w' _=> ?_,fun i y j c hi hj=> ?_⟩
  ·by_cases h0:s= []
   ·grind
   grind
  ·simp [Builtin.lenOf,hsz]
  ·simp_all [Builtin.firstCells]
  ·simp only [List.getElem?_map,Option.map_eq_some_iff] at hi;obtain ⟨b,hb,rfl⟩:=hi
   have hne:s≠ []:=by grind
   cases j with
   | zero =>
    simp [PV.cells] at hj;subst hj;have hlt:=(List.getElem?_eq_some_iff.1 hb).1;have e:=(List.getElem?_eq_some_iff.1 hb).2;rw [hS1 hne];simp [List.getD,hlt,e];exact .int _ _
   | succ j=>simp [PV.cells] at hj
 ·cases h
section
variable {P : Program} {w : World} {X : Nat -> Prop} {t t2 ty e : TypeId} {S : Nat} {ys : List PV} {news : List Value} {sv : Value}
theorem Ul (ht:P.underlying t=some (.slice e)) (hs:XA P e=some S) (hsrc:Src P X w t2 sv S ys news) {b n cap:Nat} {c:Array Value} {u:TypeId}
  (hg:w.heap[b]? =some (.cells c u (0,0))) (hroom:n+ys.length<=cap) (hfit:n*S+news.length<=c.size) (h1: ∀v∈news,v.oneCell'=true) :
  (Builtin.append_ #[t,t2] ty #[.slice (some ⟨b,0,none⟩) n cap,sv]).run P w= .ok (.slice (some ⟨b,0,none⟩) (n+ys.length) cap) (w.setRow b (c.toList.take (n*S)++news++c.toList.drop (n*S+news.length)).toArray):=by
 have hst:=run_storeCells_at P b (n*S) u news 0 c w hg Za h1;simp only [Nat.add_zero] at hst
 rcases hsrc.ty with hu2 | ⟨e2,hu2⟩ <;>
  simp [Builtin.append_,run_underlying ht,run_underlying hu2,ZR hs,hsrc.lenOf,hroom,hsrc.first w rfl,Addr.add_lit,hst]
theorem Yc (ht:P.underlying t=some (.slice e)) (hs:XA P e=some S) (hsrc:Src P X w t2 sv S ys news) {i:TypeInfo} {z:Value} (hi:P.info? e=some i) (hz:i.zero=some z) {a:Option Addr} {n cap:Nat} {olds:List Value}
  (hol:olds.length=n*S) (hold: ∀w':World,w'.heap=w.heap->(Builtin.firstCells S n (.slice a n cap)).run P w'= .ok olds.toArray w') (hg:cap<n+ys.length) (h63:n+ys.length<=9223372036854775807) (hb0:(i.bytes:Int)≠0)
  (hbytes:(n+ys.length)*i.bytes<=140737488355328) :
  (Builtin.append_ #[t,t2] ty #[.slice a n cap,sv]).run P w= .ok (.slice (some ⟨w.heap.size,0,none⟩) (n+ys.length) (grownCap w (n+ys.length) cap e))
   (w.drew.alloc (.cells (olds.toArray++news.toArray++Builtin.zeroCells z.cells (grownCap w (n+ys.length) cap e-(n+ys.length))) e)):=by
 have hn: ¬(n+ys.length<=cap):=Za
 have h63': ¬(9223372036854775807<((n:Int)+(ys.length:Int))):=Za
 have hfit:=growslice_fits hg hbytes
 have h48': ¬(281474976710656<Builtin.nextslicecap (n+ys.length) cap*i.bytes):=Za
 have e1:=hold w.drew rfl;have e2:=hsrc.first w.drew rfl
 rcases hsrc.ty with hu2 | ⟨e3,hu2⟩ <;>
  (simp [Builtin.append_,run_underlying ht,run_underlying hu2,ZR hs,hsrc.lenOf,hn,h63',h48',typeInfo,zeroValue,hi,hz,Question.forced,e1,e2,newRow,grownCap]
   try (congr 2;apply Array.ext';simp [List.append_assoc]))
end
end Go.AM
namespace Go.AM
open Go.RowKit
def YH (P:Program) (H:List Obj) (t t2:TypeId) (x y:V):Option (V×List Obj) :=
 match P.underlying t with
 | some (.slice e)=>match XA P e,Wz P e,(P.info? e).map (·.bytes),BP P H t2 y with
  | some S,some z,some by',some ys =>
   if 0<S/\z.cells.length=S/\z.cells.all (·.one)=true/\by'≠0/\Q8 S ys=true then
    match x with
    | .p (.list cl xs)=>if cl=true/\Q8 S xs=true/\(xs= []\/0<ys.length)/\(xs.length+ys.length)*by'<=140737488355328/\xs.length+ys.length<=140737488355328 then
      some (.sl H.length 0 (xs.length+ys.length) (xs.length+ys.length),H++ [.elems S (xs++ys)]) else none
    | .sl o off len tot=>match oat H o with
     | .elems S' xs=>if S'=S/\off=0/\len=tot/\xs.length=tot/\(tot+ys.length)*by'<=140737488355328/\tot+ys.length<=140737488355328 then
       some (.sl o 0 (tot+ys.length) (tot+ys.length),J6 H o (.elems S (xs++ys))) else none
     | _=>none
    | _=>none
   else none
  | _,_,_,_=>none
 | _=>none
theorem YT (o n z:List Value) (k:Nat):((o++n++z).toArray).getD k undef=if k<o.length then o.getD k undef else if k<o.length+n.length then n.getD (k-o.length) undef else z.getD (k-o.length-n.length) undef:=by
 simp only [Array.getD_eq_getD_getElem?,List.getElem?_toArray,List.getD_eq_getElem?_getD]
 grind
theorem I6 {S:Nat} {ys:List PV} {news:List Value} {X w} (hok:Q8 S ys=true) (hl:news.length=ys.length*S) (hS:0<S)
  (hr: ∀(i:Nat) (y:PV) (j:Nat) (c:PV),ys[i]? =some y->y.cells[j]? =some c->RP X w c (news.getD (i*S+j) undef)): ∀v∈news,v.oneCell'=true:=fun v hv=>by
 obtain ⟨q,hq⟩:=List.mem_iff_getElem?.1 hv;have hlt:=(List.getElem?_eq_some_iff.1 hq).1;have h1:q / S<ys.length:=(Nat.div_lt_iff_lt_mul hS).2 Za;have h2:q%S<S:=Nat.mod_lt _ hS
 have hy:ys[q / S]? =some ys[q / S]:=by simp [h1]
 obtain ⟨o1,o2⟩:=VV hok _ _ hy
 have hc:(ys[q / S]).cells[q%S]? =some ((ys[q / S]).cells[q%S]'(Za)):=by simp [o1,h2]
 have:=hr _ _ _ _ hy hc
 have e:q / S*S+q%S=q:=by grind [Nat.div_add_mod]
 rw [e] at this
 have e2:news.getD q undef=v:=by grind
 rw [e2] at this;exact this.oneCell (o2 _ (List.getElem_mem _))
theorem VN {S n:Nat} {xs ys:List PV} {c:Array Value} {olds news:List Value} {X w} (hn:xs.length=n) (hol:olds.length=n*S) (hnl:news.length=ys.length*S) (hSx: ∀(i:Nat) (x:PV),xs[i]? =some x->x.cells.length=S) (hSy: ∀(i:Nat) (x:PV),ys[i]? =some x->x.cells.length=S)
  (ho: ∀(i:Nat) (y:PV) (j:Nat) (q:PV),xs[i]? =some y->y.cells[j]? =some q->RP X w q (olds.getD (i*S+j) undef))
  (hw: ∀(i:Nat) (y:PV) (j:Nat) (q:PV),ys[i]? =some y->y.cells[j]? =some q->RP X w q (news.getD (i*S+j) undef))
  (hc1: ∀k,k<n*S->c.getD k undef=olds.getD k undef) (hc2: ∀k,k<ys.length*S->c.getD (n*S+k) undef=news.getD k undef) :
  ∀(i:Nat) (x:PV) (j:Nat) (y:PV),(xs++ys)[i]? =some x->x.cells[j]? =some y->RP X w y (c.getD (i*S+j) undef):=fun i x j y hi hj=>by
 have hjl:=(List.getElem?_eq_some_iff.1 hj).1
 by_cases hlt:i<n
 ·rw [List.getElem?_append_left Za] at hi;have hl:=hSx i x hi;have hle:(i+1)*S<=n*S:=Nat.mul_le_mul_right _ Za
  grind
 ·rw [List.getElem?_append_right Za,hn] at hi;have hl:=hSy _ x hi;have hil:=(List.getElem?_eq_some_iff.1 hi).1;have hle:(i-n+1)*S<=ys.length*S:=Nat.mul_le_mul_right _ Za;rw [Nat.add_mul,Nat.one_mul] at hle
  have e:i*S+j=n*S+((i-n)*S+j):=by
   have:i*S=(n+(i-n))*S:=by grind
   grind
  rw [e,hc2 _ Za]
  grind
theorem Fq {P:Program} {o:Oper} {fr:List V} {H H':List Obj} (t t2:TypeId) (x y:Operand) (v:V) (h:o.op= .call { callee:= .builtin .append,args:= #[x,y],argTypes:= #[t,t2] })
  (hz:YH P H t t2 (ev fr x) (ev fr y)=some (v,H')):OpS P o fr H v H':=fun F ι a w hr hf=>by
 have hx:=hf.ev x;have hy:=hf.ev y
 suffices hh: ∃u ι' w',(Builtin.append_ #[t,t2] o.type #[a.eval x,a.eval y]).run P w= .ok u w'/\Good F H ι w H' ι' w'/\RV F H' ι' w' v u by
  obtain ⟨u,ι',w',e,g,r⟩:=hh;exact ⟨_,u,ι',w',by simp [execOp,h,resolve,invoke,builtin,e],.inl rfl,g,r⟩
 generalize ev fr x=X at hx hz;generalize ev fr y=Y at hy hz;unfold YH at hz
 split at hz
 rotate_left
 ·cases hz
 rename_i e hu
 split at hz
 rotate_left
 ·cases hz
 rename_i S z by' ys hs hzv hb hsrc
 split at hz
 rotate_left
 ·cases hz
 rename_i hc;obtain ⟨hS,hzl,hz1,hb0,hok⟩:=hc;obtain ⟨news,src⟩:=T1 hsrc hok hS hr hy;have hone:=I6 hok src.len hS src.rel
 obtain ⟨zz,hzz⟩: ∃zz,((P.info? e).bind (·.zero))=some zz:=by
  grind [Wz,Option.bind_eq_some_iff]
 have hrz:RP (Own F ι) w z zz:=Qc hzz hzv;obtain ⟨z1,z2⟩:=YQ hrz hz1;simp only [Option.bind_eq_some_iff] at hzz;obtain ⟨ie,hie,hzz⟩:=hzz;simp [hie] at hb
 have hbn:(ie.bytes:Int)≠0:=Za
 have hSy: ∀(i:Nat) (x:PV),ys[i]? =some x->x.cells.length=S:=fun i x hi=>(VV hok i x hi).1
 split at hz
 ·rename_i cl xs
  split at hz
  rotate_left
  ·cases hz
  rename_i hc;obtain ⟨rfl,hokx,hne,hby,h63⟩:=hc;simp at hz;obtain ⟨rfl,rfl⟩:=hz
  have hby':(xs.length+ys.length)*ie.bytes<=140737488355328:=by grind
  cases hx with | p _ _ hx =>
  have hSx: ∀(i:Nat) (x:PV),xs[i]? =some x->x.cells.length=S:=fun i x hi=>(VV hokx i x hi).1
  -- the value that came in: its elements, read azs a row
  obtain ⟨ad,ev',olds,o1,o2,o3⟩: ∃ad,a.eval x= .slice ad xs.length xs.length/\ ∃olds:List Value,olds.length=xs.length*S/\(∀w':World,w'.heap=w.heap->(Builtin.firstCells S xs.length (.slice ad xs.length xs.length)).run P w'= .ok olds.toArray w') /\
    ∀(i:Nat) (y:PV) (j:Nat) (q:PV),xs[i]? =some y->y.cells[j]? =some q->RP (Own F ι) w q (olds.getD (i*S+j) undef):=by
   generalize a.eval x=vv at hx
   cases hx with
   | nils=>exact ⟨none,rfl,[],Zb,fun w' _=>by rfl,Zb⟩
   | emp _ ad cap hc hm ha=>exact ⟨ad,by simp [hc rfl],[],Zb,fun w' _=>by cases ad<;>simp [Builtin.firstCells,loadCells,loadCellsFrom],Zb⟩
   | list _ _ b off cap S' u hX hb' hc hm hcl hS' hu' hr' =>
    refine ⟨some ⟨b,off,none⟩,by rw [hcl rfl],?_⟩
    by_cases h0:xs.length=0
    ·have:xs= []:=List.eq_nil_of_length_eq_zero h0
     simp_all [Builtin.firstCells,loadCells,loadCellsFrom]
    ·have e0:=WE (xs:=xs) (i:=0) Za;have:S'=S:=(hS' 0 _ e0).symm.trans (hSx 0 _ e0);subst this;obtain ⟨olds,n1,n2,n3⟩:=Kd u rfl hS' hu' hr' hS
     grind [WH]
  rw [ev']
  by_cases hm:ys.length=0
  ·have hx0:xs= []:=hne.resolve_right Za;subst hx0;have hy0:ys= []:=List.eq_nil_of_length_eq_zero hm;subst hy0;have hn0:news= []:=List.eq_nil_of_length_eq_zero (by have:=src.len;grind);subst hn0;refine ⟨.slice ad 0 0,ι++ [none],w,?_,WX hr S,.slNil _ S ad (by rw [<- hr.len];simp) Zb⟩;have e1:=src.first w rfl;simp at e1;have e3:=src.lenOf w;simp only [List.length_nil] at e3
   rcases src.ty with hu2 | ⟨e2,hu2⟩<;>cases ad <;>
    simp [Builtin.append_,run_underlying hu,run_underlying hu2,ZR hs,e3,e1,storeCells]
  ·have hrun:=Yc (ty:=o.type) hu hs src hie hzz o1 o2 Za Za hbn hby';have hcap:=grownCap_ge w (xs.length+ys.length) xs.length e;have hcm:=grownCap_le_maxLen w (xs.length+ys.length) xs.length e (by unfold maxLen;omega);refine ⟨_,ι++ [some w.heap.size],_,hrun,YU hr (Pushed.drewAlloc w _ e) (.elems S (xs++ys)) ⟨grownCap w (xs.length+ys.length) xs.length e,?_,by simp;omega,hcm,?_,?_⟩,?_⟩
   ·simp only [Array.size_append,List.size_toArray,size_zeroCells,o1,src.len,z1,hzl,<- Nat.add_mul]
    grind
   ·grind
   ·have eqc:olds.toArray++news.toArray++Builtin.zeroCells zz.cells (grownCap w (xs.length+ys.length) xs.length e-(xs.length+ys.length))=(olds++news++(Builtin.zeroCells zz.cells (grownCap w (xs.length+ys.length) xs.length e-(xs.length+ys.length))).toList).toArray:=Zb
    rw [eqc];exact VN rfl o1 src.len hSx hSy o3 src.rel (fun k hk=>by rw [YT,if_pos Za]) (fun k hk=>by rw [YT,if_neg Za,if_pos (by have:=src.len;omega)];grind)
   ·have:=RV.sl (F:=F) (H:=H++ [.elems S (xs++ys)]) (ι:=ι++ [some w.heap.size]) (w:=w.drew.alloc (.cells (olds.toArray++news.toArray++Builtin.zeroCells zz.cells (grownCap w (xs.length+ys.length) xs.length e-(xs.length+ys.length))) e)) H.length 0 (xs.length+ys.length) (xs.length+ys.length) w.heap.size S (grownCap w (xs.length+ys.length) xs.length e) e (xs++ys) _ (by rw [<- hr.len];simp) Zb Zb (Pushed.new (Pushed.drewAlloc w _ e))
     (by simp only [Array.size_append,List.size_toArray,size_zeroCells,o1,src.len,z1,hzl,<- Nat.add_mul];grind) hcap Za Za
    grind
 ·rename_i o' off len tot
  split at hz
  rotate_left
  ·cases hz
  rename_i S' xs ho;have hH:=ZI ho Zb
  split at hz
  rotate_left
  ·cases hz
  rename_i hc;obtain ⟨rfl,rfl,rfl,rfl,hby,h63⟩:=hc;simp at hz;obtain ⟨rfl,rfl⟩:=hz
  have hby':(xs.length+ys.length)*ie.bytes<=140737488355328:=by grind
  rw [J7];rcases hr.elm o' S' xs hH with ⟨hi0,rfl⟩ | ⟨b,c,u,cap,h1,h2,h3,h4,h5,h6,h7⟩
  ·-- no block yet
   obtain ⟨ad,ev'⟩: ∃ad:Option Addr,a.eval x= .slice ad 0 0:=by
    generalize a.eval x=vv at hx;generalize hL:([]:List PV).length=L at hx
    cases hx with
    | slNil _ _ ad=>simp
    | sl _ _ _ _ b _ _ _ _ _ hb2=>grind
    | slD _ _ _ _ _ hd=>grind
    | slS _ _ _ _ _ S2 xs2 hd hne=>grind
    | slC _ _ _ _ _ _ hd=>grind
   rw [ev']
   by_cases hm:ys.length=0
   ·have hy0:ys= []:=List.eq_nil_of_length_eq_zero hm;subst hy0;have hn0:news= []:=List.eq_nil_of_length_eq_zero (by have:=src.len;grind);subst hn0;have e1:=src.first w rfl;simp at e1;have eH:H.set o' (.elems S' ([]++ []))=H:=Qk (by grind);refine ⟨.slice ad 0 0,ι,w,?_,by grind [Good.refl],by grind⟩;have e3:=src.lenOf w;simp only [List.length_nil] at e3
    rcases src.ty with hu2 | ⟨e2,hu2⟩<;>cases ad <;>
     simp [Builtin.append_,run_underlying hu,run_underlying hu2,ZR hs,e3,e1,storeCells]
   ·simp only [List.length_nil,Nat.zero_add,List.nil_append] at hby' h63 ⊢;have hrun:=Yc (ty:=o.type) hu hs src hie hzz (a:=ad) (n:=0) (cap:=0) (olds:= []) Zb (fun w' _=>by cases ad<;>simp [Builtin.firstCells,loadCells,loadCellsFrom]) Za Za hbn (by grind);simp only [Nat.zero_add] at hrun;have hcap:=grownCap_ge w ys.length 0 e;have hcm:=grownCap_le_maxLen w ys.length 0 e (by unfold maxLen;omega);have hp:=Pushed.drewAlloc w (([]:List Value).toArray++news.toArray++Builtin.zeroCells zz.cells (grownCap w ys.length 0 e-ys.length)) e
    have hsize:(([]:List Value).toArray++news.toArray++Builtin.zeroCells zz.cells (grownCap w ys.length 0 e-ys.length)).size=grownCap w ys.length 0 e*S':=by
     simp only [Array.size_append,List.size_toArray,size_zeroCells,src.len,z1,hzl,List.length_nil,Nat.zero_add,<- Nat.add_mul]
     grind
    have g:=Xg (xs':=ys) hr hH hp.os hp.tape hp.output (fun c0 t0 hc0=>absurd (Array.getElem?_eq_some_iff.1 hc0).1 (Nat.lt_irrefl _)) Zb hp.new (fun k hk _=>hp.old hk) (.inr ⟨rfl,hp.size,by simp;omega⟩) hsize hcap hcm hSy
     (by
      have eqc:([]:List Value).toArray++news.toArray++Builtin.zeroCells zz.cells (grownCap w ys.length 0 e-ys.length)=([]++news++(Builtin.zeroCells zz.cells (grownCap w ys.length 0 e-ys.length)).toList).toArray:=Zb
      rw [eqc];have:=VN (X:=Own F ι) (w:=w) (c:=([]++news++(Builtin.zeroCells zz.cells (grownCap w ys.length 0 e-ys.length)).toList).toArray) (xs:= []) (olds:= []) (n:=0) rfl Zb src.len Zb hSy Zb src.rel (fun k hk=>Za) (fun k hk=>by rw [YT,if_neg Zb,if_pos (by have:=src.len;simp;omega)];simp)
      grind)
    refine ⟨_,_,_,hrun,g,?_⟩
    have:=RV.sl (F:=F) (H:=H.set o' (.elems S' ys)) (ι:=ι.set o' (some w.heap.size)) (w:=w.drew.alloc (.cells (([]:List Value).toArray++news.toArray++Builtin.zeroCells zz.cells (grownCap w ys.length 0 e-ys.length)) e)) o' 0 ys.length ys.length w.heap.size S' (grownCap w ys.length 0 e) e ys _
     (by grind) (by grind) rfl hp.new (by grind) hcap Za Za
    grind
  ·obtain ⟨cap',ev',hcs,hle⟩: ∃cap',a.eval x= .slice (some ⟨b,0,none⟩) xs.length cap'/\c.size=cap'*S'/\xs.length<=cap'/\cap'<=maxLen:=by
    generalize a.eval x=vv at hx;generalize hL:xs.length=L at hx
    cases hx with
    | slNil _ _ _ hi2=>grind
    | sl _ _ _ _ b2 S2 cap2 t3 xs2 c2 hb2 hH2 ht2 hw2 hcap2 hl2 hlen2 hm2 =>
     simp_all
    | slD _ _ _ _ _ hd=>grind
    | slS _ _ _ _ _ S2 xs2 hd hne=>grind
    | slC _ _ _ _ _ _ hd=>grind
   have hcc:cap'=cap:=Nat.eq_of_mul_eq_mul_right hS Za;subst hcc;rw [ev'];have hSx: ∀(i:Nat) (x:PV),xs[i]? =some x->x.cells.length=S':=h6
   have hnS:xs.length*S'<=c.size:=by simp_all [Nat.mul_le_mul_right]
   by_cases hroom:xs.length+ys.length<=cap'
   ·have hfit:xs.length*S'+news.length<=c.size:=by rw [src.len,h3,<- Nat.add_mul];exact Nat.mul_le_mul_right _ hroom
    have hrun:=Ul (ty:=o.type) hu hs src h2 hroom hfit hone;have hT:Turned w (w.setRow b (c.toList.take (xs.length*S')++news++c.toList.drop (xs.length*S'+news.length)).toArray) b _ u:=Turned.setRow h2
    have hsize:((c.toList.take (xs.length*S')++news++c.toList.drop (xs.length*S'+news.length)).toArray).size=c.size:=by simp;omega
    have g:=Xg (xs':=xs++ys) (cap:=cap') hr hH hT.os hT.tape hT.output (fun c0 t0 hc0=>by grind) Zb hT.at' (fun k _ hk=>hT.other k hk)
     (.inl ⟨h1,by
      grind⟩)
     Za (by grind) h5
     (fun i q hi=>by
      grind)
     (by
      refine VN (olds:=c.toList.take (xs.length*S')) rfl (by simp;omega) src.len hSx hSy (fun i q j r hi hj=> ?_) src.rel (fun k hk=> ?_) (fun k hk=> ?_)
      ·have hl:=hSx i q hi;have hlt:=(List.getElem?_eq_some_iff.1 hi).1;have hjl:=(List.getElem?_eq_some_iff.1 hj).1;have hle2:(i+1)*S'<=xs.length*S':=Nat.mul_le_mul_right _ Za;rw [Nat.add_mul,Nat.one_mul] at hle2
       grind [Array.getD_eq_getD_getElem?]
      ·rw [Wi _ _ _ _ Za,if_neg Za]
       grind
      ·rw [Wi _ _ _ _ Za,if_pos (by have:=src.len;omega)]
       simp)
    have eι:ι.set o' (some b)=ι:=Qk h1;rw [eι] at g;refine ⟨_,ι,_,hrun,g,?_⟩
    have:=RV.sl (F:=F) (H:=H.set o' (.elems S' (xs++ys))) (ι:=ι) (w:=w.setRow b (c.toList.take (xs.length*S')++news++c.toList.drop (xs.length*S'+news.length)).toArray) o' 0 (xs.length+ys.length) (xs.length+ys.length) b S' cap' u (xs++ys) _
     h1 (by grind) Zb hT.at' (by grind) hroom Za Za
    grind
   ·have hold: ∀w':World,w'.heap=w.heap->(Builtin.firstCells S' xs.length (.slice (some ⟨b,0,none⟩) xs.length cap')).run P w'= .ok (c.toList.take (xs.length*S')).toArray w':=fun w' hw' =>
     WH (news:=c.toList.take (xs.length*S')) (n:=xs.length) (S:=S') (w:=w) (by simp;omega) (fun j q hj=>by
      grind [Addr.add_lit,World.cell?]) w' hw'
    have hrun:=Yc (ty:=o.type) hu hs src hie hzz (a:=some ⟨b,0,none⟩) (n:=xs.length) (cap:=cap') (olds:=c.toList.take (xs.length*S')) (by simp;omega) hold Za Za hbn hby';have hcap:=grownCap_ge w (xs.length+ys.length) cap' e;have hcm:=grownCap_le_maxLen w (xs.length+ys.length) cap' e (by unfold maxLen;omega);have hp:=Pushed.drewAlloc w ((c.toList.take (xs.length*S')).toArray++news.toArray++Builtin.zeroCells zz.cells (grownCap w (xs.length+ys.length) cap' e-(xs.length+ys.length))) e
    have hol:(c.toList.take (xs.length*S')).length=xs.length*S':=by simp;omega
    have hsize:((c.toList.take (xs.length*S')).toArray++news.toArray++Builtin.zeroCells zz.cells (grownCap w (xs.length+ys.length) cap' e-(xs.length+ys.length))).size=grownCap w (xs.length+ys.length) cap' e*S':=by
     simp only [Array.size_append,List.size_toArray,size_zeroCells,src.len,z1,hzl,hol,<- Nat.add_mul]
     grind
    have g:=Xg (xs':=xs++ys) hr hH hp.os hp.tape hp.output (fun c0 t0 hc0=>absurd (Array.getElem?_eq_some_iff.1 hc0).1 (Nat.lt_irrefl _)) Zb hp.new (fun k hk _=>hp.old hk) (.inr ⟨rfl,hp.size,by simp;omega⟩) hsize (by simp;omega) hcm
     (fun i q hi=>by
      grind)
     (by
      have eqc:(c.toList.take (xs.length*S')).toArray++news.toArray++Builtin.zeroCells zz.cells (grownCap w (xs.length+ys.length) cap' e-(xs.length+ys.length))=(c.toList.take (xs.length*S')++news++(Builtin.zeroCells zz.cells (grownCap w (xs.length+ys.length) cap' e-(xs.length+ys.length))).toList).toArray:=Zb
      rw [eqc];refine VN rfl hol src.len hSx hSy (fun i q j r hi hj=> ?_) src.rel (fun k hk=>by rw [YT,if_pos Za]) (fun k hk=>by rw [YT,if_neg Za,if_pos (by have:=src.len;omega)];grind);have hl:=hSx i q hi;have hlt:=(List.getElem?_eq_some_iff.1 hi).1;have hjl:=(List.getElem?_eq_some_iff.1 hj).1;have hle2:(i+1)*S'<=xs.length*S':=Nat.mul_le_mul_right _ Za;rw [Nat.add_mul,Nat.one_mul] at hle2
      grind [Array.getD_eq_getD_getElem?])
    refine ⟨_,_,_,hrun,g,?_⟩
    have:=RV.sl (F:=F) (H:=H.set o' (.elems S' (xs++ys))) (ι:=ι.set o' (some w.heap.size)) (w:=w.drew.alloc (.cells ((c.toList.take (xs.length*S')).toArray++news.toArray++Builtin.zeroCells zz.cells (grownCap w (xs.length+ys.length) cap' e-(xs.length+ys.length))) e)) o' 0 (xs.length+ys.length) (xs.length+ys.length) w.heap.size S' (grownCap w (xs.length+ys.length) cap' e) e (xs++ys) _
     (by grind) (by grind) Zb hp.new (by grind) hcap Za Za
    grind
 ·cases hz
def WR (P:Program):Nat->TypeId->PV->Bool
 | 0,_,_=>false
 | d+1,t,k=>match P.underlying t,k with
  | some (.int _),.int _ _=>true
  | some (.struct fs), .agg cs => fs.toList.all fun f => f.name == "_" || (match apart P f.type cs f.offset with | some x => WR P d f.type x | none => false)
  | some (.array n e),.agg cs=>match XA P e with
   | some m=>(List.range n).all fun i=>match apart P e cs (i*m) with | some x=>WR P d e x | none=>false
   | none=>false
  | _,_=>false
theorem Ke {P:Program} : ∀(d:Nat) (t:TypeId) (k:PV),WR P d t k=true-> ∀D,d<=D-> ∀X w v (em:Bool),RP X w k v->(Instr.checkKey em D t v).run P w= .ok () w
 | 0,_,_,h,_,_=>by simp [WR] at h
 | d+1,t,k,h,D,hD=>by
  obtain ⟨D,rfl⟩: ∃e,D=e+1:=⟨D-1,Za⟩;intro X w v em hv;have ih: ∀t k,WR P d t k=true-> ∀X w v (em:Bool),RP X w k v->(Instr.checkKey em D t v).run P w= .ok () w:=fun t k h=>Ke d t k h D Za;unfold WR at h
  split at h
  ·simp_all [Instr.checkKey,run_underlying]
  ·rename_i fs cs hu
   cases hv with | agg _ u hs hr =>
   rw [Instr.checkKey];simp only [Sem.run_bind,run_underlying hu,Result.andThen_ok];rw [<- Array.forIn_toList];rw [List.all_eq_true] at h;generalize fs.toList=L at h
   induction L with
   | nil=>simp
   | cons f L ihL =>
    have hf:=h f Zb;have hL:=ihL fun g hg=>h g (by simp [hg])
    by_cases hn : f.name = "_"
    ·grind
    ·have hf:(match apart P f.type cs f.offset with | some x=>WR P d f.type x | none=>false)=true:=by grind
     split at hf
     ·rename_i x hx;obtain ⟨a,e1,r1⟩:=X1 hx hs hr;have e2:=ih f.type x hf X w a em r1
      simp_all
     ·cases hf
  ·rename_i n e cs hu
   split at h
   ·rename_i m hm
    cases hv with | agg _ u hs hr =>
    rw [Instr.checkKey];simp only [Sem.run_bind,run_underlying hu,Result.andThen_ok];simp only [Std.Legacy.Range.forIn_eq_forIn_range',Std.Legacy.Range.size,Nat.sub_zero,Nat.add_one_sub_one,Nat.div_one];rw [List.all_eq_true,List.range_eq_range'] at h;generalize List.range' 0 n=L at h
    induction L with
    | nil=>simp
    | cons i L ihL =>
     have hf:=h i Zb;have hL:=ihL fun g hg=>h g (by simp [hg])
     split at hf
     ·rename_i x hx;obtain ⟨a,e1,r1⟩:=X1 hx hs hr;have e2:=ih e x hf X w a em r1
      simp_all [ZR]
     ·cases hf
   ·cases h
  ·cases h
def U8 : List PV->Option (List (IntKind×Int))
 | []=>some []
 | .int k n::r=>(U8 r).map ((k,n):: ·)
 | _::_=>none
def Jq (l:List (IntKind×Int)):Value:= .agg (l.map fun p=> .int p.1 p.2).toArray
theorem Ka : ∀ {cs:List PV} {l:List (IntKind×Int)},U8 cs=some l->cs=l.map fun p=> .int p.1 p.2
 | [],l,h=>by grind [U8]
 | c::cs,l,h=>by
  unfold U8 at h
  split at h
  ·grind
  ·rename_i k n r he;simp only [List.cons.injEq] at he;obtain ⟨rfl,rfl⟩:=he;simp only [Option.map_eq_some_iff] at h;obtain ⟨l',h1,rfl⟩:=h;rw [Ka h1];rfl
  ·cases h
theorem Bj {X w cs l v} (h:U8 cs=some l) (hv:RP X w (.agg cs) v):v=Jq l:=by
 have e:=Ka h
 cases hv with | agg _ u hs hr =>
 unfold Jq
 congr 1
 apply Array.ext
 ·grind
 ·intro j h1 h2
  have hj:j<l.length:=by grind
  have hc:cs[j]? =some (.int (l[j]).1 (l[j]).2):=by grind
  have:=(hr j _ hc).int_inv
  simp_all
theorem Ck : ∀ {l m:List (IntKind×Int)},(l.map fun p=>Value.int p.1 p.2)=(m.map fun p=>Value.int p.1 p.2)->l=m
 | [],[],_=>rfl
 | [],_::_,h=>by simp at h
 | _::_,[],h=>by simp at h
 | (a,b)::l,(c,d)::m,h=>by
  simp only [List.map_cons,List.cons.injEq,Value.int.injEq] at h;rw [Ck h.2,h.1.1,h.1.2]
theorem Ho {l m} :Jq l=Jq m↔l=m :=
 ⟨fun h=>Ck (by grind [Jq]),fun h=>by rw [h]⟩
theorem Ep {P:Program} {w:World} {l} :(Instr.keyThatStays (Jq l) (Jq l)).run P w= .ok (Jq l) w:=by
 have:Instr.sameBits 10000 (Jq l) (Jq l)=true:=by
  unfold Jq Instr.sameBits;simp only [beq_self_eq_true,Bool.true_and,List.all_eq_true];intro p hp;obtain ⟨i,hi⟩:=List.mem_iff_getElem?.1 hp;simp only [List.getElem?_zip_eq_some] at hi;obtain ⟨h1,h2⟩:=hi;rw [h1] at h2;simp only [Option.some.injEq] at h2;simp only [List.getElem?_map,Option.map_eq_some_iff] at h1
  grind [Instr.sameBits]
 simp [Instr.keyThatStays,this]
section maps
def mkey (P:Program) (kt:TypeId) (k:PV):Bool:=match P.underlying kt,k with
 | some (.int j),.int j' _=>decide (j'=j)
 | some .string,.str _=>true
 | some .bool,.bool _=>true
 | some (.struct _),.agg cs=>WR P 9 kt (.agg cs)&&(U8 cs).isSome
 | _,_=>false
def Hd : PV->PV->Bool
 | .int _ a,.int _ b=>decide (a=b)
 | .str a,.str b=>decide (a=b)
 | .bool a,.bool b=>a==b
 | .agg a,.agg b=>decide (U8 a=U8 b)
 | _,_=>false
def kpair (P:Program) (kt:TypeId):PV->PV->Bool
 | .agg a,.agg b=>Wn P 9 kt (.agg a) (.agg b)==some (Hd (.agg a) (.agg b))
 | _,_=>true
def Vx (k:PV):List (PV×PV)->Nat->Option (Nat×PV)
 | [],_=>none
 | (k',x)::r,i=>if Hd k k'=true then some (i,x) else Vx k r (i+1)
theorem Yk {P kt k} (h:mkey P kt k=true):(∃d,P.underlying kt=some d/\(∀fs,d≠ .struct fs)/\ ∀ {X w v},RP X w k v->Go.MapKept.IsKey d v)\/ ∃fs cs l,P.underlying kt=some (.struct fs)/\k= .agg cs/\U8 cs=some l/\WR P 9 kt (.agg cs)=true:=by
 unfold mkey at h
 split at h
 ·rename_i j j' n hu;simp at h;subst h;exact .inl ⟨_,hu,Zb,fun h=>by cases h;rfl⟩
 ·rename_i s hu;exact .inl ⟨_,hu,Zb,fun h=>by cases h;simp [Go.MapKept.IsKey]⟩
 ·rename_i b hu;exact .inl ⟨_,hu,Zb,fun h=>by cases h;simp [Go.MapKept.IsKey]⟩
 ·rename_i fs cs hu;simp only [Bool.and_eq_true,Option.isSome_iff_exists] at h
  grind
 ·cases h
theorem Nt {P kt k k'} (h:mkey P kt k=true) (h':mkey P kt k'=true) {X w v X' w' v'} (hv:RP X w k v) (hv':RP X' w' k' v'):Hd k k'=true↔v=v':=by
 unfold mkey at h h'
 split at h
 ·rename_i j j' n hu;rw [hu] at h'
  cases k'<;>simp at h'
  simp at h;subst h;subst h'
  cases hv;cases hv'
  simp [Hd]
 ·rename_i s hu;rw [hu] at h'
  cases k'<;>simp at h'
  cases hv;cases hv'
  simp [Hd]
 ·rename_i s hu;rw [hu] at h'
  cases k'<;>simp at h'
  cases hv;cases hv'
  simp [Hd]
 ·rename_i fs cs hu;rw [hu] at h'
  cases k'<;>simp at h'
  rename_i cs';simp only [Bool.and_eq_true,Option.isSome_iff_exists] at h;obtain ⟨_,l,h2⟩:=h;obtain ⟨_,h4⟩:=h';obtain ⟨l',h4⟩:=Option.isSome_iff_exists.1 h4;rw [Bj h2 hv,Bj h4 hv',Ho];simp [Hd,h2,h4]
 ·cases h
theorem Aj {P kt k X w v} (hk:mkey P kt k=true) (hv:RP X w k v): ∀(es:List (PV×PV)) (l:List MapEntry) (n:Nat),l.length=es.length->(∀(i:Nat) (k' x:PV),es[i]? =some (k',x)->mkey P kt k'=true/\kpair P kt k k'=true/\ ∃e,l[i]? =some e/\RP X w k' e.key/\RP X w x e.val) ->
  ∃r,(∀d,P.underlying kt=some d->(∀fs,d≠ .struct fs)->Instr.findNow d v l n=some r)/\((∃fs,P.underlying kt=some (.struct fs))->(Instr.findAsking kt v l n).run P w= .ok r w) /\
  match Vx k es n with
  | none=>r=none
  | some (i,x)=>n<=i/\ ∃e k',l[i-n]? =some e/\es[i-n]? =some (k',x)/\e.key=v/\r=some (i,e.val)
 | [],l,n,hl,_=>by
  simp_all [Instr.findNow,Instr.findAsking,Vx]
 | (k',x)::es,[],n,hl,_=>by simp at hl
 | (k',x)::es,e::l,n,hl,h=>by
  obtain ⟨h1,hp,e0,he,h2,h3⟩:=h 0 k' x rfl;simp at he;subst he;have hq:=Nt hk h1 hv h2
  obtain ⟨r,i1,i2,i3⟩:=Aj hk hv es l (n+1) (by grind) fun i k'' x' hi=>by
   obtain ⟨q1,q0,e',q2,q3⟩:=h (i+1) k'' x' (by grind)
   grind
  have now: ∀d,P.underlying kt=some d->(∀fs,d≠ .struct fs)->Instr.sameNow d v e.key=some (Hd k k'):=fun d hd hs=>by
   obtain ⟨d1,hd1,_,hk1⟩:=(Yk hk).resolve_right (by grind);obtain ⟨d2,hd2,_,hk2⟩:=(Yk h1).resolve_right (by grind);rw [hd] at hd1 hd2;simp at hd1 hd2;subst hd1;subst hd2;obtain ⟨q,hq1,hiff⟩:=Go.MapKept.sameNow_of_keys (hk1 hv) (hk2 h2)
   grind
  have ask:(∃fs,P.underlying kt=some (.struct fs))->(Op.equal kt v e.key).run P w= .ok (Hd k k') w:=fun ⟨fs,hd⟩=>by
   have g1: ∃cs,k= .agg cs:=by
    grind [Yk]
   have g2: ∃cs,k'= .agg cs:=by
    rcases Yk h1 with ⟨d,hd1,hs,_⟩ | ⟨_,cs,_,_,e1,_⟩
    ·grind
    grind
   obtain ⟨a,rfl⟩:=g1;obtain ⟨b,rfl⟩:=g2;simp only [kpair,beq_iff_eq] at hp;exact Qd 9 kt _ _ _ hp 10000 Za X w v e.key hv h2
  simp only [Vx]
  by_cases hc:Hd k k'=true
  ·rw [if_pos hc];rw [hc] at now ask;exact ⟨some (n,e.val),fun d hd hs=>by grind [Instr.findNow],fun hs=>by simp [Instr.findAsking,ask hs],Nat.le_refl _,e,k',Zb,Zb,(hq.1 hc).symm,rfl⟩
  ·rw [if_neg hc]
   have hcf:Hd k k'=false:=by grind
   rw [hcf] at now ask;refine ⟨r,fun d hd hs=>by grind [Instr.findNow],fun hs=>by simp_all [Instr.findAsking],?_⟩
   split
   ·grind
   grind
theorem GC {P kt k X w v} (hk:mkey P kt k=true) (hv:RP X w k v) {es:List (PV×PV)} {l:List MapEntry} (hl:l.length=es.length) (h: ∀(i:Nat) (k' x:PV),es[i]? =some (k',x)->mkey P kt k'=true/\kpair P kt k k'=true/\ ∃e,l[i]? =some e/\RP X w k' e.key/\RP X w x e.val) :
  match Vx k es 0 with
  | none=>(Instr.findKey kt v l).run P w= .ok none w
  | some (i,x)=> ∃e k',l[i]? =some e/\es[i]? =some (k',x)/\e.key=v/\(Instr.findKey kt v l).run P w= .ok (some (i,e.val)) w:=by
 obtain ⟨r,h1,h2,h3⟩:=Aj hk hv es l 0 hl h
 have hf:(Instr.findKey kt v l).run P w= .ok r w:=by
  grind [Yk,Go.MapKept.run_findKey,run_findKey_eq]
 grind
theorem Yr {F:Nat->Prop} {H:List Obj} {ι:List (Option Nat)} {w:World} (hr:Rel F H ι w) {o b k k':Nat} {es es':List (PV×PV)} {a a':Array MapEntry} (hH:H[o]? =some (.map es)) (hb:ι[o]? =some (some b)) (h0:w.heap[b]? =some (.map a k))
  (hm:MRep (Own F ι) w es' a' k'):Good F H ι w (H.set o (.map es')) ι { w with heap:=w.heap.setIfInBounds b (.map a' k') } :=by
 have holt:o<H.length:=(List.getElem?_eq_some_iff.1 hH).1;obtain ⟨hat,hoth⟩:=Go.MapKept.heap_set (o':= .map a' k') h0;have hown: ∀q,some q ∉ ι->(w.heap.setIfInBounds b (.map a' k'))[q]? =w.heap[q]? :=fun q hq=>hoth q (fun e=>hq (by grind));have hkeep:Keeps (Own F ι) w (Own F ι) { w with heap:=w.heap.setIfInBounds b (.map a' k') } :=fun q hq hs=>⟨hq,by grind,hown q (fun h=>hq (.inr h))⟩
 have hx:HX H ι w (H.set o (.map es')) ι { w with heap:=w.heap.setIfInBounds b (.map a' k') } :=fun i x hi=>by
  grind
 have hne: ∀ {i b2:Nat},o≠i->ι[i]? =some (some b2)->b2≠b:=fun hio h e=>hio (by subst e;exact hr.inj o _ _ hb h);refine Good.up hr.env ⟨⟨by simp [hr.len],fun q hq=>by simpa using hr.fin q hq,hr.inj,fun i q hi=>by simpa using hr.avo i q hi,fun i cs hi=> ?_,fun i S xs hi=> ?_,fun i es2 hi=> ?_,?_⟩,rfl,Tp.rfl,rfl,fun q c1 t1 h1=> .inr ⟨c1,?_,rfl⟩,Zb,fun q _ ho=>hown q ho,fun q _ h=>h,hx⟩
 ·by_cases hio:o=i
  ·grind
  ·rw [List.getElem?_set_ne hio] at hi;obtain ⟨b2,c2,t2,h1,h2,h3,h4⟩:=hr.cel i cs hi;exact ⟨b2,c2,t2,h1,by grind,h3,fun j x hj=>(h4 j x hj).ext hkeep hx⟩
 ·by_cases hio:o=i
  ·grind
  ·rw [List.getElem?_set_ne hio] at hi;rcases hr.elm i S xs hi with ⟨h1,h2⟩ | ⟨b2,c2,t2,cap,h1,h2,h3,h4,h5,h6,h7⟩
   ·grind
   ·exact .inr ⟨b2,c2,t2,cap,h1,by grind,h3,h4,h5,h6,fun i x j y hi hj=>(h7 i x j y hi hj).ext hkeep⟩
 ·by_cases hio:o=i
  ·subst hio;simp [holt] at hi;subst hi;exact ⟨b,a',k',hb,hat,hm.ext hkeep⟩
  ·rw [List.getElem?_set_ne hio] at hi;obtain ⟨b2,a2,k2,h1,h2,h3⟩:=hr.mpr i es2 hi;exact ⟨b2,a2,k2,h1,by grind,h3.ext hkeep⟩
 ·refine Yn hr (fun i T E r bs hi=> ?_) (fun i ob hi hs=> ?_)
  ·grind
  ·have hio:o≠i:=fun e=>by subst e;rw [hH] at hi;simp at hi;subst hi;cases hs
   grind
 grind
theorem A0 {F:Nat->Prop} {H:List Obj} {ι:List (Option Nat)} {w:World} (hr:Rel F H ι w):Good F H ι w (H++ [.map []]) (ι++ [some w.heap.size]) (w.alloc (.map #[] 0)):=by
 have hlen:=hr.len;obtain ⟨hnew,hold0⟩:=Go.MapKept.heap_alloc w (.map #[] 0)
 have hsz:(w.alloc (.map #[] 0)).heap.size=w.heap.size+1:=Zb
 have hold: ∀i b,ι[i]? =some (some b)->b<w.heap.size:=fun i b h=>(hr.avo i b h).2
 have hkeep:Keeps (Own F ι) w (Own F (ι++ [some w.heap.size])) (w.alloc (.map #[] 0)):=fun b hb hs=>by
  refine ⟨?_,Za,hold0 b hs⟩;rintro (h | h)
  ·exact hb (.inl h)
  ·simp at h;rcases h with h | h
   ·exact hb (.inr h)
   ·omega
 have hx:HX H ι w (H++ [.map []]) (ι++ [some w.heap.size]) (w.alloc (.map #[] 0)):=fun o x ho=>by
  grind
 have hrv: ∀ {x v},RV F H ι w x v->RV F (H++ [.map []]) (ι++ [some w.heap.size]) (w.alloc (.map #[] 0)) x v:=fun h=>h.ext hkeep hx;refine Good.up hr.env ⟨⟨by simp [hlen],fun b hb=>by rw [hsz];have:=hr.fin b hb;omega,?_,?_,?_,?_,?_,?_⟩,rfl,Tp.rfl,rfl,fun b c0 t0 h0=> .inr ⟨c0,by grind,rfl⟩,Za,fun b hb _=>hold0 b hb,?_,hx⟩
 ·intro i j b hi hj;rcases Zm hi with ⟨_,hi⟩ | ⟨hi,e⟩<;>rcases Zm hj with ⟨_,hj⟩ | ⟨hj,e'⟩
  ·exact hr.inj i j b hi hj
  ·grind
  ·grind
  ·omega
 ·intro i b hi;rcases Zm hi with ⟨_,hi⟩ | ⟨hi,e⟩
  ·have:=hr.avo i b hi;grind
  ·simp at e;subst e;exact ⟨fun h=>by have:=hr.fin _ h;omega,Za⟩
 ·intro o cs ho;rcases Zm ho with ⟨hlt,ho⟩ | ⟨hlt,e⟩
  ·obtain ⟨b,c',t',h1,h2,h3,h4⟩:=hr.cel o cs ho
   grind
  ·cases e
 ·intro o S xs ho;rcases Zm ho with ⟨hlt,ho⟩ | ⟨hlt,e⟩
  ·rcases hr.elm o S xs ho with ⟨h1,h2⟩ | ⟨b,c',t',cap,h1,h2,h3,h4,h5,h6,h7⟩
   ·grind
   ·exact .inr ⟨b,c',t',cap,by grind,by grind,h3,h4,h5,h6,fun i x j y hi hj=>(h7 i x j y hi hj).ext hkeep⟩
  ·cases e
 ·intro o es ho;rcases Zm ho with ⟨hlt,ho⟩ | ⟨hlt,e⟩
  ·obtain ⟨b,a',k,h1,h2,h3⟩:=hr.mpr o es ho;exact ⟨b,a',k,by grind,by grind,h3.ext hkeep⟩
  ·simp at e;subst e;subst hlt;exact ⟨w.heap.size,#[],0,by grind,hnew,⟨rfl,rfl⟩,fun i k x hi=>by simp at hi⟩
 ·exact Yn hr (fun o T E r bs ho=>by
   grind) (fun i ob hi _=>by
   grind)
 grind
end maps
section mapOps
def JX (P:Program) (H:List Obj) (kt:TypeId) (kv:PV) (o:Nat):Option (List (PV×PV)):=match oat H o with
 | .map es=>if mkey P kt kv=true/\(es.all fun e=>mkey P kt e.1&&kpair P kt kv e.1)=true then some es else none
 | _=>none
def KP (P:Program) (H:List Obj) (t:TypeId) (x k:V) (ok:Bool):Option (V×List Obj) :=
 match P.underlying t with
 | some (.map kt et)=>match x,k with
  | .mp o,.p kv=>(JX P H kt kv o).bind fun es=>match Vx kv es 0 with
    | some q=>some (if ok=true then .tup [.p q.2,.p (.bool true)] else .p q.2,H)
    | none=>(Wz P et).map fun z=>(if ok=true then .tup [.p z,.p (.bool false)] else .p z,H)
  | _,_=>none
 | _=>none
def NE (kv vv:PV) (es:List (PV×PV)):List (PV×PV):=match Vx kv es 0 with
 | some q=>es.set q.1 (kv,vv)
 | none=>es++ [(kv,vv)]
def KQ (P:Program) (H:List Obj) (t:TypeId) (x k v:V):Option (V×List Obj) :=
 match P.underlying t with
 | some (.map kt _)=>match x,k,v with
  | .mp o,.p kv,.p vv=>(JX P H kt kv o).map fun es=>(.junk,H.set o (.map (NE kv vv es)))
  | _,_,_=>none
 | _=>none
def AG (P:Program) (H:List Obj) (t:TypeId) (x k:V):Option (V×List Obj) :=
 match P.underlying t with
 | some (.map kt et)=>match x,k with
  | .mp o,.p kv=>(JX P H kt kv o).bind fun es=>match Vx kv es 0 with
    | some q=>some (.tup [.p q.2,.p (.int .i64 (q.1:Nat))],H.set o (.map (es.set q.1 (kv,q.2))))
    | none=>(Wz P et).map fun z=>(.tup [.p z,.p (.int .i64 (es.length:Nat))],H.set o (.map (es++ [(kv,z)])))
  | _,_=>none
 | _=>none
def VM (H:List Obj) (x s v:V):Option (V×List Obj) :=
 match x,s,v with
 | .mp o,.p (.int _ i),.p vv=>match oat H o with
  | .map es=>match (if 0<=i then es[i.toNat]? else none) with
   | some q=>some (.junk,H.set o (.map (es.set i.toNat (q.1,vv))))
   | none=>none
  | _=>none
 | _,_,_=>none
structure MapIs (P:Program) (F:Nat->Prop) (H:List Obj) (ι:List (Option Nat)) (w:World) (kt:TypeId) (kv:PV) (o:Nat) (es:List (PV×PV)) (u:Value) where
 b:Nat
 a:Array MapEntry
 n:Nat
 hu:u= .map (some b)
 hι:ι[o]? =some (some b)
 hH:H[o]? =some (.map es)
 hb:w.heap[b]? =some (.map a n)
 rep:MRep (Own F ι) w es a n
 isk:mkey P kt kv=true
 keys: ∀(i:Nat) (k x:PV),es[i]? =some (k,x)->mkey P kt k=true/\kpair P kt kv k=true
theorem JY {P F H ι w kt kv o es u} (hr:Rel F H ι w) (hm:JX P H kt kv o=some es) (hv:RV F H ι w (.mp o) u):Nonempty (MapIs P F H ι w kt kv o es u):=by
 unfold JX at hm
 split at hm
 rotate_left
 ·cases hm
 rename_i es' ho
 split at hm
 rotate_left
 ·cases hm
 rename_i hc;simp at hm;subst hm;have hH:=ZI ho Zb
 cases hv with
 | mp _ b es2 h hH2 =>
  rw [hH] at hH2;simp at hH2;subst hH2;obtain ⟨b',a,n,h1,h2,h3⟩:=hr.mpr o _ hH;rw [h] at h1;simp at h1;subst h1
  exact ⟨⟨b,a,n,rfl,h,hH,h2,h3,hc.1,fun i k x hi=>by
   grind⟩⟩
 | mpD _ _ h=>grind
theorem MapIs.find {P F H ι w kt kv o es u} (M:MapIs P F H ι w kt kv o es u) {v} (hv:RP (Own F ι) w kv v) :
  match Vx kv es 0 with
  | none=>(Instr.findKey kt v M.a.toList).run P w= .ok none w
  | some (i,x)=> ∃e k',M.a[i]? =some e/\es[i]? =some (k',x)/\e.key=v/\e.born=i/\RP (Own F ι) w x e.val/\(Instr.findKey kt v M.a.toList).run P w= .ok (some (i,e.val)) w:=by
 have:=GC M.isk hv (es:=es) (l:=M.a.toList) (by simpa using M.rep.1.1) fun i k' x hi=>by
  obtain ⟨e,h1,_,h2,h3⟩:=M.rep.2 i k' x hi;exact ⟨(M.keys i k' x hi).1,(M.keys i k' x hi).2,e,by grind,h2,h3⟩
 split
 ·grind
 ·rename_i i x hm;rw [hm] at this;obtain ⟨e,k',h1,h2,h3,h4⟩:=this;obtain ⟨e',q1,q2,q3,q4⟩:=M.rep.2 i k' x h2
  grind
theorem A5 {P F H ι w kt kv o es u} (M:MapIs P F H ι w kt kv o es u) {v} (hv:RP (Own F ι) w kv v):(∀e,(Instr.checkKey e 10000 kt v).run P w= .ok () w)/\(Instr.keyThatStays v v).run P w= .ok v w:=by
 rcases Yk M.isk with ⟨d,hd,_,hk⟩ | ⟨fs,cs,l,hu,rfl,h1,h2⟩
 ·grind [Go.MapKept.run_checkKey,Go.MapKept.run_keyThatStays]
 ·refine ⟨fun e=>Ke 9 kt _ h2 10000 Za _ w v e hv,?_⟩;rw [Bj h1 hv];exact Ep
theorem CO {P:Program} {w:World} {et z} (h:Wz P et=some z): ∃v,(zeroValue et).run P w= .ok v w/\ ∀X,RP X w z v:=by
 have h0:=h;unfold Wz at h;simp only [Option.bind_eq_some_iff] at h;obtain ⟨v,⟨i,hi,hz⟩,hc⟩:=h;exact ⟨v,by simp [zeroValue,typeInfo,hi,hz],fun X=>Qc (P:=P) (e:=et) (by simp [hi,hz]) h0⟩
theorem MRep.put {X w es a n} (h:MRep X w es a n) {i:Nat} {k x:PV} {e:MapEntry} (he:a[i]? =some e) {f:MapEntry->MapEntry} (hb:(f e).born=e.born) (hk:RP X w k (f e).key) (hx:RP X w x (f e).val):MRep X w (es.set i (k,x)) (a.modify i f) n:=by
 have hi:i<a.size:=(Array.getElem?_eq_some_iff.1 he).1
 have hil:i<es.length:=by rw [<- h.1.1];exact hi
 refine ⟨⟨by simpa using h.1.1,by simpa using h.1.2⟩,fun j k' x' hj=> ?_⟩;rw [List.getElem?_set] at hj
 split at hj
 ·rename_i e1;subst e1;simp [] at hj;obtain ⟨rfl,rfl⟩:=hj;obtain ⟨e0,h1,h2,_,_⟩:=h.2 i (es[i]).1 (es[i]).2 (by simp [hil])
  grind
 ·rename_i e1;obtain ⟨e0,h1,h2,h3,h4⟩:=h.2 j k' x' hj
  grind
theorem MRep.push {X w es a n} (h:MRep X w es a n) {k x:PV} {u v:Value} (hk:RP X w k u) (hx:RP X w x v):MRep X w (es++ [(k,x)]) (a.push { key:=u,val:=v,born:=n }) (n+1):=by
 refine ⟨⟨by simp [h.1.1],by simp [h.1.2]⟩,fun j k' x' hj=> ?_⟩
 by_cases hlt:j<es.length
 ·rw [List.getElem?_append_left hlt] at hj;obtain ⟨e0,h1,h2,h3,h4⟩:=h.2 j k' x' hj
  grind
 ·rw [List.getElem?_append_right Za] at hj
  have:j=es.length:=by
   grind
  subst this;simp at hj;obtain ⟨rfl,rfl⟩:=hj;exact ⟨⟨u,v,n⟩,by rw [<- h.1.1];simp,h.1.2,hk,hx⟩
theorem Cz {P:Program} {o:Oper} {fr:List V} {H:List Obj} (t:TypeId) (h:o.op= .makeMap t none):OpS P o fr H (.mp H.length) (H++ [.map []]):=fun F ι a w hr hf=>by
 have g:=A0 hr;exact ⟨_,.map (some w.heap.size),_,_,by simp_all [execOp,Instr.makeMap],.inl rfl,g,.mp _ _ [] (by rw [<- hr.len];simp) Zb⟩
theorem Ld {P:Program} {o:Oper} {fr:List V} {H H':List Obj} (t:TypeId) (x k:Operand) (ok:Bool) (y:V) (h:o.op= .lookup t x k ok) (hz:KP P H t (ev fr x) (ev fr k) ok=some (y,H')):OpS P o fr H y H':=fun F ι a w hr hf=>by
 unfold KP at hz
 split at hz
 rotate_left
 ·cases hz
 rename_i kt et hu
 split at hz
 rotate_left
 ·cases hz
 rename_i ob kv hx hk;obtain ⟨es,hm,hz⟩:=Option.bind_eq_some_iff.1 hz;have hxv:=hf.ev x;rw [hx] at hxv;have hkv:=hf.ev k;rw [hk] at hkv
 cases hkv with | p _ _ hkv =>
 obtain ⟨M⟩:=JY hr hm hxv;have hfd:=M.find hkv;obtain ⟨hck,_⟩:=A5 M hkv
 split at hz
 ·rename_i q hq;obtain ⟨i,v⟩:=q;rw [hq] at hfd;simp only at hfd;obtain ⟨e,k',h1,h2,h3,h4,h5,h6⟩:=hfd;have hfk:=h6;simp at hz;obtain ⟨rfl,rfl⟩:=hz
  cases ok with
  | true=>exact ⟨_,.tuple #[e.val,.bool true],ι,w,by simp [execOp,h,Instr.lookup,run_underlying hu,M.hu,Go.MapKept.run_getObj_map M.hb,hck,hfk,Result.andThen],.inl rfl,Good.refl hr,.tup _ _ rfl (fun j c hj=>by
    cases j with
    | zero=>simp at hj;subst hj;exact .p _ _ h5
    | succ j=>cases j with
     | zero=>simp at hj;subst hj;exact .p _ _ (.bool _)
     | succ j=>simp at hj)⟩
  | false=>exact ⟨_,e.val,ι,w,by simp [execOp,h,Instr.lookup,run_underlying hu,M.hu,Go.MapKept.run_getObj_map M.hb,hck,hfk,Result.andThen],.inl rfl,Good.refl hr,.p _ _ h5⟩
 ·rename_i hq;rw [hq] at hfd;simp only at hfd;have hfk:=hfd;obtain ⟨z,hzv,hz⟩:=Option.map_eq_some_iff.1 hz;simp at hz;obtain ⟨rfl,rfl⟩:=hz;obtain ⟨zv,z1,z2⟩:=CO (w:=w) hzv
  cases ok with
  | true=>exact ⟨_,.tuple #[zv,.bool false],ι,w,by simp [execOp,h,Instr.lookup,run_underlying hu,M.hu,Go.MapKept.run_getObj_map M.hb,hck,hfk,z1,Result.andThen],.inl rfl,Good.refl hr,.tup _ _ rfl (fun j c hj=>by
    cases j with
    | zero=>simp at hj;subst hj;exact .p _ _ (z2 _)
    | succ j=>cases j with
     | zero=>simp at hj;subst hj;exact .p _ _ (.bool _)
     | succ j=>simp at hj)⟩
  | false=>exact ⟨_,zv,ι,w,by simp [execOp,h,Instr.lookup,run_underlying hu,M.hu,Go.MapKept.run_getObj_map M.hb,hck,hfk,z1,Result.andThen],.inl rfl,Good.refl hr,.p _ _ (z2 _)⟩
theorem Lf {P:Program} {o:Oper} {fr:List V} {H H':List Obj} (t:TypeId) (x k v:Operand) (y:V) (h:o.op= .mapUpdate t x k v) (hz:KQ P H t (ev fr x) (ev fr k) (ev fr v)=some (y,H')):OpS P o fr H y H':=fun F ι a w hr hf=>by
 unfold KQ at hz
 split at hz
 rotate_left
 ·cases hz
 rename_i kt et hu
 split at hz
 rotate_left
 ·cases hz
 rename_i ob kv vv hx hk hv;obtain ⟨es,hm,hz⟩:=Option.map_eq_some_iff.1 hz;simp at hz;obtain ⟨rfl,rfl⟩:=hz;have hxv:=hf.ev x;rw [hx] at hxv;have hkv:=hf.ev k;rw [hk] at hkv
 cases hkv with | p _ _ hkv =>
 have hvv:=hf.ev v;rw [hv] at hvv
 cases hvv with | p _ _ hvv =>
 obtain ⟨M⟩:=JY hr hm hxv;have hfd:=M.find hkv;obtain ⟨hck,hst⟩:=A5 M hkv;unfold NE
 split
 ·rename_i q hq;obtain ⟨i,x0⟩:=q;rw [hq] at hfd;simp only at hfd;obtain ⟨e,k',h1,h2,h3,h4,h5,h6⟩:=hfd;have hfk:=h6;have g:=Yr hr M.hH M.hι M.hb (M.rep.put h1 (f:=fun e=> { e with key:=a.eval k,val:=a.eval v }) rfl hkv hvv);exact ⟨.skip,undef,ι,_,by simp [execOp,h,Instr.mapUpdate,run_underlying hu,M.hu,Go.MapKept.run_getObj_map M.hb,hck,hfk,h1,h3,hst,Go.MapKept.run_setObj_map _ M.hb,Result.andThen],.inr ⟨rfl,rfl⟩,g,.junk _⟩
 ·rename_i hq;rw [hq] at hfd;simp only at hfd;have hfk:=hfd;have g:=Yr hr M.hH M.hι M.hb (M.rep.push hkv hvv);exact ⟨.skip,undef,ι,_,by simp [execOp,h,Instr.mapUpdate,run_underlying hu,M.hu,Go.MapKept.run_getObj_map M.hb,hck,hfk,Go.MapKept.run_setObj_map _ M.hb,Result.andThen],.inr ⟨rfl,rfl⟩,g,.junk _⟩
theorem DU {P:Program} {o:Oper} {fr:List V} {H H':List Obj} (t:TypeId) (x k:Operand) (y:V) (h:o.op= .mapEntry t x k) (hz:AG P H t (ev fr x) (ev fr k)=some (y,H')):OpS P o fr H y H':=fun F ι a w hr hf=>by
 unfold AG at hz
 split at hz
 rotate_left
 ·cases hz
 rename_i kt et hu
 split at hz
 rotate_left
 ·cases hz
 rename_i ob kv hx hk;obtain ⟨es,hm,hz⟩:=Option.bind_eq_some_iff.1 hz;have hxv:=hf.ev x;rw [hx] at hxv;have hkv:=hf.ev k;rw [hk] at hkv
 cases hkv with | p _ _ hkv =>
 obtain ⟨M⟩:=JY hr hm hxv;have hfd:=M.find hkv;obtain ⟨hck,hst⟩:=A5 M hkv
 have pair: ∀ {H2:List Obj} {w2:World} {p1 p2:PV} {v1 v2:Value},RP (Own F ι) w2 p1 v1->RP (Own F ι) w2 p2 v2->RV F H2 ι w2 (.tup [.p p1,.p p2]) (.tuple #[v1,v2]):=fun h1 h2=> .tup _ _ rfl (fun j c hj=>by
  cases j with
  | zero=>simp at hj;subst hj;exact .p _ _ h1
  | succ j=>cases j with
   | zero=>simp at hj;subst hj;exact .p _ _ h2
   | succ j=>simp at hj)
 split at hz
 ·rename_i q hq;obtain ⟨i,x0⟩:=q;rw [hq] at hfd;simp only at hfd;obtain ⟨e,k',h1,h2,h3,h4,h5,h6⟩:=hfd;have hfk:=h6;simp at hz;obtain ⟨rfl,rfl⟩:=hz;have g:=Yr hr M.hH M.hι M.hb (M.rep.put h1 (f:=fun e=> { e with key:=a.eval k }) rfl hkv h5);exact ⟨.value (.tuple #[e.val,goInt (i:Nat)]),_,ι,_,by simp [execOp,h,Instr.mapEntry,run_underlying hu,M.hu,Go.MapKept.run_getObj_map M.hb,hck,hfk,h1,h3,h4,hst,Go.MapKept.run_setObj_map _ M.hb,Result.andThen],.inl rfl,g,pair (h5.ext g.keeps) (.int _ _)⟩
 ·rename_i hq;rw [hq] at hfd;simp only at hfd;have hfk:=hfd;obtain ⟨z,hzv,hz⟩:=Option.map_eq_some_iff.1 hz;simp at hz;obtain ⟨rfl,rfl⟩:=hz;obtain ⟨zv,z1,z2⟩:=CO (w:=w) hzv;have g:=Yr hr M.hH M.hι M.hb (M.rep.push hkv (z2 _));exact ⟨.value (.tuple #[zv,goInt M.n]),_,ι,_,by simp [execOp,h,Instr.mapEntry,run_underlying hu,M.hu,Go.MapKept.run_getObj_map M.hb,hck,hfk,z1,Go.MapKept.run_setObj_map _ M.hb,Result.andThen],.inl rfl,g,pair ((z2 _).ext g.keeps) (by rw [M.rep.1.2];exact .int _ _)⟩
theorem DV {P:Program} {o:Oper} {fr:List V} {H H':List Obj} (t:TypeId) (x s v:Operand) (y:V) (h:o.op= .entryStore t x s v) (hz:VM H (ev fr x) (ev fr s) (ev fr v)=some (y,H')):OpS P o fr H y H':=fun F ι a w hr hf=>by
 unfold VM at hz
 split at hz
 rotate_left
 ·cases hz
 rename_i ob kk i vv hx hs hv
 split at hz
 rotate_left
 ·cases hz
 rename_i es ho;have hH:=ZI ho Zb
 split at hz
 rotate_left
 ·cases hz
 rename_i q hq;simp at hz;obtain ⟨rfl,rfl⟩:=hz
 split at hq
 rotate_left
 ·cases hq
 rename_i h0;have hxv:=hf.ev x;rw [hx] at hxv;have hsv:=hf.ev s;rw [hs] at hsv
 cases hsv with | p _ _ hsv =>
 have hvv:=hf.ev v;rw [hv] at hvv
 cases hvv with | p _ _ hvv =>
 generalize hxe:a.eval x=xv at hxv
 cases hxv with
 | mpD _ _ hd=>grind
 | mp _ b es2 h1 hH2 =>
 rw [hH] at hH2;simp at hH2;subst hH2;obtain ⟨b',m,n,e1,e2,e3⟩:=hr.mpr ob _ hH;rw [h1] at e1;simp at e1;subst e1;obtain ⟨k0,x0⟩:=q;obtain ⟨e,q1,q2,q3,q4⟩:=e3.2 i.toNat k0 x0 hq
 have hfi:m.findIdx? (fun e=>(e.born:Int)==i)=some i.toNat:=by
  have hlt:=(Array.getElem?_eq_some_iff.1 q1).1;rw [Array.findIdx?_eq_some_iff_getElem]
  have hb: ∀j (hj:j<m.size),(m[j]).born=j:=fun j hj=>by
   obtain ⟨e',p1,p2,_,_⟩:=e3.2 j (es[j]'(by rw [<- e3.1.1];exact hj)).1 (es[j]'(by rw [<- e3.1.1];exact hj)).2 (by grind)
   grind
  grind
 have g:=Yr hr hH h1 e2 (e3.put q1 (k:=k0) (x:=vv) (f:=fun e=> { e with val:=a.eval v }) rfl q3 hvv);exact ⟨.skip,undef,ι,_,by simp [execOp,h,Instr.entryStore,asInt,asIntOf,hsv.int_inv,hxe,Go.MapKept.run_getObj_map e2,hfi,Go.MapKept.run_setObj_map _ e2,Result.andThen],.inr ⟨rfl,rfl⟩,g,.junk _⟩
end mapOps
def Dj (P:Program) (H:List Obj) (t:TypeId) (x:V):Option (V×List Obj) :=
 match P.underlying t with
 | some (.slice e)=>match Wz P e,x with
  | some z,.sl o off len tot=>match oat H o with
   | .elems S xs=>if z.cells.length=S/\z.cells.all (·.one)=true/\xs.length=tot/\off+len<=tot then some (.tup [],J6 H o (.elems S (xs.take off++List.replicate len z++xs.drop (off+len)))) else none
   | _=>none
  | _,_=>none
 | _=>none
theorem GH {P:Program} {o:Oper} {fr:List V} {H H':List Obj} (t:TypeId) (x:Operand) (v:V) (h:o.op= .call { callee:= .builtin .clear,args:= #[x],argTypes:= #[t] })
  (hz:Dj P H t (ev fr x)=some (v,H')):OpS P o fr H v H':=fun F ι a w hr hf=>by
 have hx:=hf.ev x
 suffices hh: ∃u ι' w',(Builtin.clear_ #[t] o.type #[a.eval x]).run P w= .ok u w'/\Good F H ι w H' ι' w'/\RV F H' ι' w' v u by
  obtain ⟨u,ι',w',e,g,r⟩:=hh;exact ⟨_,u,ι',w',by simp [execOp,h,resolve,invoke,builtin,e],.inl rfl,g,r⟩
 generalize ev fr x=X at hx hz;unfold Dj at hz
 split at hz
 rotate_left
 ·cases hz
 rename_i e hu
 split at hz
 rotate_left
 ·cases hz
 rename_i z o' off len tot hzv
 split at hz
 rotate_left
 ·cases hz
 rename_i S xs ho
 split at hz
 rotate_left
 ·cases hz
 rename_i hc;obtain ⟨hS,hz1,htl,hle⟩:=hc;simp only [Option.some.injEq,Prod.mk.injEq] at hz;obtain ⟨rfl,rfl⟩:=hz;have hH:=ZI ho Zb;rw [J7]
 by_cases h0:len=0
 ·subst h0
  have e0:xs.take off++List.replicate 0 z++xs.drop (off+0)=xs:=Zb
  have hol:=(List.getElem?_eq_some_iff.1 hH).1
  have e1:H.set o' (.elems S xs)=H:=by
   apply List.ext_getElem?
   grind
  rw [e0,e1];refine ⟨.tuple #[],ι,w,?_,Good.refl hr,.tup [] #[] Zb Zb⟩
  obtain ⟨ad,cap,e⟩: ∃ad cap,a.eval x= .slice ad 0 cap:=by
   generalize a.eval x=vv at hx
   cases hx with
   | slNil=>simp
   | sl=>simp
   | slD _ _ _ _ _ hd=>grind
   | slS _ _ _ _ _ S2 xs2 hd hne=>grind
   | slC _ _ _ _ _ _ hd=>simp
  cases ad<;>simp [Builtin.clear_,run_underlying hu,e]
 ·obtain ⟨zz,hzz⟩: ∃zz,((P.info? e).bind (·.zero))=some zz:=by
   grind [Wz,Option.bind_eq_some_iff]
  have hrz:RP (Own F ι) w z zz:=Qc hzz hzv;obtain ⟨z1,z2⟩:=YQ hrz hz1;simp only [Option.bind_eq_some_iff] at hzz;obtain ⟨ie,hie,hzz⟩:=hzz;rw [hS] at z1;rcases hr.elm o' S xs hH with ⟨_,rfl⟩ | ⟨b,c,u,cap0,h1,h2,h3,h4,h5,h6,h7⟩
  ·grind
  obtain ⟨cap,e2⟩: ∃cap,a.eval x= .slice (some ⟨b,off*S,none⟩) len cap:=by
   generalize a.eval x=vv at hx
   cases hx with
   | slNil=>omega
   | sl _ _ _ _ b2 S2 cap2 t2 xs2 c2 hι hH2 ht2 hw2 hcap hl hlen hm =>
    simp_all
   | slD _ _ _ _ _ hd=>grind
   | slS _ _ _ _ _ S2 xs2 hd hne=>grind
   | slC _ _ _ _ _ _ hd=>grind
  obtain ⟨news,hnews⟩: ∃news,news=(Builtin.zeroCells zz.cells len).toList:=⟨_,rfl⟩
  have hlenN:news.length=len*S:=by grind [Builtin.zeroCells]
  have hnew: ∀q,q<len*S->news.getD q undef=zz.cells.getD (q%S) undef:=fun q hq=>by
   have hS0:0<S:=by grind
   simp_all [Nat.mod_lt,Builtin.zeroCells]
  have hone: ∀v∈news,v.oneCell'=true:=fun v hv=>by
   obtain ⟨q,hq⟩:=List.mem_iff_getElem?.1 hv;have hlt:=(List.getElem?_eq_some_iff.1 hq).1
   have hS0:0<S:=by grind
   have hm:=Nat.mod_lt q hS0;have e9:=hnew q Za
   have e10:news.getD q undef=v:=by grind
   rw [e10] at e9
   have hg:z.cells[q%S]? =some (z.cells[q%S]'(Za)):=by simp [hS,hm]
   rw [e9];exact (z2 _ _ hg).oneCell (List.all_eq_true.1 hz1 _ (List.getElem_mem _))
  have hfit:off*S+news.length<=c.size:=by
   rw [hlenN,h3,<- Nat.add_mul]
   grind [Nat.mul_le_mul_right]
  have hrun:=run_storeCells_at P b (off*S) u news 0 c w h2 Za hone;simp only [Nat.add_zero] at hrun;have hT:Turned w (w.setRow b (c.toList.take (off*S)++news++c.toList.drop (off*S+news.length)).toArray) b _ u:=Turned.setRow h2
  have hxl:(xs.take off++List.replicate len z++xs.drop (off+len)).length=xs.length:=by simp;omega
  have hcl: ∀(i:Nat) (x:PV),(xs.take off++List.replicate len z++xs.drop (off+len))[i]? =some x->x.cells.length=S:=fun i x hi=>by
   grind
  have g:=Xg (w':=w.setRow b (c.toList.take (off*S)++news++c.toList.drop (off*S+news.length)).toArray) (cap:=cap0)
   (xs':=xs.take off++List.replicate len z++xs.drop (off+len)) hr hH hT.os hT.tape hT.output (fun c0 t0 hc0=>by grind) Zb hT.at' (fun k _ hk=>hT.other k hk)
   (.inl ⟨h1,.inl ⟨hxl,fun c0 t0 hc0=>by grind⟩⟩)
   (by simp;omega) Za h5 hcl
   (fun i x j y hi hj=>by
    have hjl:j<x.cells.length:=(List.getElem?_eq_some_iff.1 hj).1;have hxS:=hcl i x hi;have hil:=(List.getElem?_eq_some_iff.1 hi).1;rw [hxl] at hil;rw [YT];simp only [List.length_take,Array.length_toList];rw [Nat.min_eq_left Za,hlenN]
    by_cases c1:i<off
    ·have q1:(i+1)*S<=off*S:=Nat.mul_le_mul_right _ c1;rw [Nat.add_mul,Nat.one_mul] at q1
     have hi':xs[i]? =some x:=by
      grind
     have:=h7 i x j y hi' hj;rw [if_pos Za,List.getD_eq_getElem?_getD,List.getElem?_take_of_lt Za,Array.getElem?_toList];rwa [Array.getD_eq_getD_getElem?] at this
    ·by_cases c2:i<off+len
     ·have q1:off*S<=i*S:=Nat.mul_le_mul_right _ Za;have q2:(i+1)*S<=(off+len)*S:=Nat.mul_le_mul_right _ c2;rw [Nat.add_mul,Nat.one_mul,Nat.add_mul] at q2;rw [if_neg Za,if_pos Za]
      have hi':z=x:=by
       grind
      subst hi'
      have e9:i*S+j-off*S=j+(i-off)*S:=by rw [Nat.sub_mul];omega
      rw [hnew _ Za,e9,Nat.add_mul_mod_self_right,Nat.mod_eq_of_lt Za]
      grind
     ·have q1:(off+len)*S<=i*S:=Nat.mul_le_mul_right _ Za;rw [Nat.add_mul] at q1;rw [if_neg Za,if_neg Za]
      have hi':xs[i]? =some x:=by
       rw [List.getElem?_append_right (by simp;omega),List.getElem?_drop] at hi;rw [<- hi]
       congr 1
       simp;omega
      have:=h7 i x j y hi' hj;rw [List.getD_eq_getElem?_getD,List.getElem?_drop,Array.getElem?_toList,<- Array.getD_eq_getD_getElem?]
      have e9:off*S+len*S+(i*S+j-off*S-len*S)=i*S+j:=Za
      grind)
  refine ⟨.tuple #[],_,_,?_,g,.tup [] #[] Zb Zb⟩;obtain ⟨l',rfl⟩: ∃l',len=l'+1:=⟨len-1,Za⟩;simp [Builtin.clear_,run_underlying hu,e2,zeroValue,typeInfo,hie,hzz,<- hnews,hrun]
end Go.AM
namespace Go.AM
open Go.RowKit
theorem UB {F H ι w o off len tot v S xs} (X:Nat->Prop) (hX: ∀b,ι[o]? =some (some b)-> ¬X b) (hk:Keeps (Own F ι) w X w) (hr:Rel F H ι w) (hH:H[o]? =some (.elems S xs)) (ht:xs.length=tot) (hlen:off+len<=tot) (hv:RV F H ι w (.sl o off len tot) v) :
  RP X w (.list false ((xs.take (off+len)).drop off)) v:=by
 have hl:((xs.take (off+len)).drop off).length=len:=by simp;omega
 cases hv with
 | slNil _ _ a _ _=>simp;exact .emp _ a 0 (fun h=>by cases h) (by simp [maxLen]) (fun h=>Za)
 | sl _ _ _ _ b S2 cap t2 xs2 c hb hH2 ht2 hw hcap hl2 hlen2 hm =>
  rw [hH] at hH2;simp at hH2;obtain ⟨rfl,rfl⟩:=hH2;rcases hr.elm o S xs hH with ⟨h1,_⟩ | ⟨b2,c2,t3,cap2,f1,f2,f3,f4,f5,f6,f7⟩
  ·grind
  ·have:b2=b:=by grind
   subst this;rw [hw] at f2;simp at f2;obtain ⟨rfl,rfl⟩:=f2
   have hget: ∀(i:Nat) (x:PV),((xs.take (off+len)).drop off)[i]? =some x->xs[off+i]? =some x:=fun i x hi=>by
    grind
   have:=RP.list (X:=X) (w:=w) false ((xs.take (off+len)).drop off) b2 (off*S) cap S (fun i j=>c.getD ((off+i)*S+j) undef) (hX b2 hb) (Array.getElem?_eq_some_iff.1 hw).1 Za Za (fun h=>by cases h)
    (fun i x hi=>f6 _ x (hget i x hi))
    (fun i x j q hi hj=>by
     have hx:=hget i x hi;have hl:=f6 _ x hx;have hlt2:=(List.getElem?_eq_some_iff.1 hx).1;have hjl:=(List.getElem?_eq_some_iff.1 hj).1;have hle:(off+i+1)*S<=cap2*S:=Nat.mul_le_mul_right _ Za;rw [Nat.add_mul (off+i),Nat.one_mul] at hle
     have hsz:(off+i)*S+j<c.size:=Za
     simp_all [Nat.add_mul,World.cell?]) (fun i x j q hi hj=>(f7 _ x j q (hget i x hi) hj).ext hk)
   grind
 | slD _ _ _ _ _ hd=>grind
 | slS _ _ _ _ _ S2 xs2 hd hne=>grind
 | slC _ _ _ _ _ _ hd=>grind
def Xd : List PV->Option (List UInt8)
 | []=>some []
 | .int .u8 n::r=>(Xd r).map (UInt8.ofNat n.toNat:: ·)
 | _=>none
theorem UP : ∀(xs:List PV) (bs:List UInt8),Xd xs=some bs-> ∃ns:List Int,xs=ns.map (.int .u8)/\bs=ns.map fun n=>UInt8.ofNat n.toNat
 | [],bs,h=>by simp [Xd] at h;simp_all
 | x::r,bs,h=>by
  unfold Xd at h
  split at h
  ·grind
  ·rename_i n r' he;simp only [List.cons.injEq] at he;obtain ⟨rfl,rfl⟩:=he;simp only [Option.map_eq_some_iff] at h;obtain ⟨bs',h1,rfl⟩:=h;obtain ⟨ns,e1,e2⟩:=UP r bs' h1;exact ⟨n::ns,by simp [e1],by simp [e2]⟩
  ·cases h
theorem JM : ∀(ns:List Int) (s:ByteArray),ns.foldl (fun r n=>r.push (UInt8.ofNat n.toNat)) s=⟨(s.data.toList++ns.map fun n=>UInt8.ofNat n.toNat).toArray⟩
 | [],s=>Zb
 | n::ns,s=>by
  rw [List.foldl_cons,JM ns];apply ByteArray.ext;simp [ByteArray.push]
theorem Bl {P:Program} {X w cl xs v bs} (h:RP X w (.list cl xs) v) (hb:Xd xs=some bs):(∃a l c,v= .slice a l c)/\(Conv.bytesToString v).run P w= .ok (.string ⟨bs.toArray⟩) w:=by
 obtain ⟨ns,rfl,rfl⟩:=UP _ _ hb;generalize hxs:ns.map (PV.int .u8)=xs at h
 cases h with
 | nils =>
  have:ns= []:=by simpa using hxs
  subst this;exact ⟨⟨_,_,_,rfl⟩,by rfl⟩
 | emp _ a cap hc hm ha =>
  have:ns= []:=by simpa using hxs
  subst this;refine ⟨⟨_,_,_,rfl⟩,?_⟩
  cases a with
  | none=>rfl
  | some ad =>
   rfl
 | list _ _ b off cap S u hX hb' hc hm hcl hS hu hr =>
  subst hxs;refine ⟨⟨_,_,_,rfl⟩,?_⟩
  have hl:=run_loadCells_list (P:=P) w ⟨b,off,none⟩ (ns.map (Value.int .u8)) (fun j v hj=>by
   simp only [List.getElem?_map,Option.map_eq_some_iff] at hj;obtain ⟨n,hn,rfl⟩:=hj
   have hx:(ns.map (PV.int .u8))[j]? =some (.int .u8 n):=by simp [hn]
   have hS1:S=1:=by grind [PV.cells]
   have e1:=hu j _ 0 (.int .u8 n) hx (by rfl);have e2:=(hr j _ 0 (.int .u8 n) hx (by rfl)).int_inv
   grind [Addr.add_lit])
  rw [List.length_map] at hl;rw [List.length_map,run_bytesToString (ns:=ns) w _ _ _ hl,JM]
  rfl
def Qs (P:Program) (H:List Obj) (s t:TypeId) (x:V):Option PV :=
 match P.underlying s,P.underlying t with
 | some (.slice e),some .string=>match P.underlying e,x with
  | some (.int .u8),.p (.list _ xs)=>(Xd xs).map .str
  | some (.int .u8),.sl o off len tot=>match oat H o with
   | .elems _ xs=>if xs.length=tot/\off+len<=tot then (Xd ((xs.take (off+len)).drop off)).map .str else none
   | _=>none
  | _,_=>none
 | _,_=>none
theorem D6 {P:Program} {o:Oper} {fr:List V} {H:List Obj} (s t:TypeId) (x:Operand) (y:PV) (h:o.op= .convert s t x) (hz:Qs P H s t (ev fr x)=some y):PureOp P o fr H (.p y):=fun F ι a w hr hf=>by
 have hx:=hf.ev x;unfold Qs at hz
 split at hz
 rotate_left
 ·cases hz
 rename_i e hs ht
 have go: ∀ {X cl xs bs},RP X w (.list cl xs) (a.eval x)->P.underlying e=some (.int .u8)->Xd xs=some bs-> ∃v,(execOp a.eval o).run P w= .ok (.value v) w/\RV F H ι w (.p (.str bs)) v:=fun {X cl xs bs} hp he hb=>by
  obtain ⟨⟨ad,l,c,ev'⟩,e2⟩:=Bl (P:=P) hp hb;refine ⟨.string ⟨bs.toArray⟩,?_,.p _ _ (.str _)⟩
  simp_all [execOp,run_convert_bytes_string]
 split at hz
 ·rename_i cl xs he hv;simp only [Option.map_eq_some_iff] at hz;obtain ⟨bs,hb,rfl⟩:=hz;rw [hv] at hx
  cases hx with | p _ _ hp=>grind
 ·rename_i o' off len tot he hv
  split at hz
  ·rename_i S xs ho
   split at hz
   ·rename_i hc;simp only [Option.map_eq_some_iff] at hz;obtain ⟨bs,hb,rfl⟩:=hz;rw [hv] at hx;exact go (UB (fun _=>False) (fun _ _ h=>h) (fun b _ hs=>⟨fun h=>h,hs,rfl⟩) hr (ZI ho Zb) hc.1 hc.2 hx) he hb
   ·cases hz
  ·cases hz
 ·cases hz
def ZG (P:Program) (op:Op) (fr:List V) (H:List Obj):Option V :=
 match op with
 | .build t ps=>Jn P H t (ps.toList.map fun x=>(x.1,ev fr x.2))
 | .convert s t x=>match Qs P H s t (ev fr x) with | some y=>some (.p y) | none=>Xc P (.convert s t x) fr H
 | op=>Xc P op fr H
theorem AI {P:Program} {o:Oper} {fr:List V} {H:List Obj} {y:V} (hz:ZG P o.op fr H=some y):PureOp P o fr H y:=by
 unfold ZG at hz
 grind [D4,D6,BL]
def Yg (P:Program) (op:Op) (fr:List V) (H:List Obj):Option (V×List Obj) :=
 match op with
 | .alloc t=>(ZW P t).map fun zs=>(.ptr H.length 0,H++ [.cells (zs.map .p)])
 | .box _ x=>(vc H (ev fr x)).map fun cs=>(.ptr H.length 0,H++ [.cells cs])
 | .store t x y=>match XA P t,vc H (ev fr y) with
  | some n,some cs=>(Ut H n (ev fr x) cs).map fun H'=>(.junk,H')
  | _,_=>none
 | .buildSlice t n ps=>match P.underlying t with
  | some (.slice e)=>match (P.info? e).bind (·.zero) with
   | some _=>Dk P H t n (ps.toList.map fun x=>(x.1,ev fr x.2))
   | none=>none
  | _=>none
 | .makeSlice t x y=>match P.underlying t with
  | some (.slice e)=>match Wz P e with
   | some z=>if z.cells.all (·.one)=true then EF P H t (ev fr x) (ev fr y) else none
   | none=>none
  | _=>none
 | .call { callee:= .builtin .append,args:=azs,argTypes:=ts } =>match azs.toList,ts.toList with
  | [x,y],[t,t2]=>YH P H t t2 (ev fr x) (ev fr y)
  | _,_=>none
 | .call { callee:= .builtin .clear,args:=azs,argTypes:=ts } =>match azs.toList,ts.toList with
  | [x],[t]=>Dj P H t (ev fr x)
  | _,_=>none
 | .makeMap _ none=>some (.mp H.length,H++ [.map []])
 | .lookup t x k ok=>KP P H t (ev fr x) (ev fr k) ok
 | .mapUpdate t x k v=>KQ P H t (ev fr x) (ev fr k) (ev fr v)
 | .mapEntry t x k=>AG P H t (ev fr x) (ev fr k)
 | .entryStore _ x s v=>VM H (ev fr x) (ev fr s) (ev fr v)
 | _=>none
theorem Do {P:Program} {o:Oper} {fr:List V} {H H':List Obj} {y:V} (hz:Yg P o.op fr H=some (y,H')):OpS P o fr H y H':=by
 unfold Yg at hz
 split at hz
 ·rename_i t h;simp only [Option.map_eq_some_iff,Prod.mk.injEq] at hz;obtain ⟨zs,h1,rfl,rfl⟩:=hz
  grind [GG]
 ·rename_i t x h;simp only [Option.map_eq_some_iff,Prod.mk.injEq] at hz;obtain ⟨cs,h1,rfl,rfl⟩:=hz
  grind [NI]
 ·rename_i t x y' h
  split at hz
  ·rename_i n cs h1 h2;simp only [Option.map_eq_some_iff,Prod.mk.injEq] at hz;obtain ⟨H2,h3,rfl,rfl⟩:=hz
   grind [GJ]
  ·cases hz
 ·grind [NJ]
 ·grind [Le]
 ·rename_i azs ts h
  split at hz
  ·rename_i x y' t t2 e1 e2;obtain ⟨azs⟩:=azs;obtain ⟨ts⟩:=ts
   grind [Fq]
  ·cases hz
 ·rename_i azs ts h
  split at hz
  ·rename_i x t e1 e2;obtain ⟨azs⟩:=azs;obtain ⟨ts⟩:=ts
   grind [GH]
  ·cases hz
 ·rename_i t h;simp at hz;obtain ⟨rfl,rfl⟩:=hz;exact Cz t h
 ·grind [Ld]
 ·grind [Lf]
 ·grind [DU]
 ·grind [DV]
 ·cases hz
def FW (P:Program) (op:Op) (fr:List V) (H:List Obj):Option (V×List Obj) :=
 match ZG P op fr H with
 | some x=>some (x,H)
 | none=>Yg P op fr H
theorem FX {P:Program} {o:Oper} {fr:List V} {H H':List Obj} {y:V} (hz:FW P o.op fr H=some (y,H')):OpS P o fr H y H':=by
 unfold FW at hz
 split at hz
 ·rename_i x h;simp at hz;obtain ⟨rfl,rfl⟩:=hz;exact (AI h).ops
 ·exact Do hz
def X6 : Op->Option (Operand×List Operand)
 | .call { callee:= .value f,args:=azs,.. } =>some (f,azs.toList)
 | _=>none
def uB (F:Nat->Prop) (H:List Obj) (ι:List (Option Nat)) (w:World) (xs:List V) (vs:Array Value):Prop :=
 vs.size=xs.length/\ ∀(j:Nat) (c:V),xs[j]? =some c->RV F H ι w c (vs.getD j undef)
def Zh (P:Program) (g:FuncId):Prop:= ∀(args:Array Value) (w:World),(callFunc g args).run P w= .ok (.enter g args) w
def ACalls (P:Program) (g:FuncId) (args:List V) (H:List Obj) (Q:V->List Obj->Prop):Prop :=
 Zh P g/\ ∀F ι w vs,Rel F H ι w->uB F H ι w args vs->Calls P g vs w fun e w'=> ∃x H' ι' v,e= .returned v/\Q x H'/\Good F H ι w H' ι' w'/\RV F H' ι' w' x v
theorem ACalls.mono {P g args H Q Q'} (h:ACalls P g args H Q) (hq: ∀x H',Q x H'->Q' x H'):ACalls P g args H Q' :=
 ⟨h.1,fun F ι w vs hr hv=>(h.2 F ι w vs hr hv).mono fun _ _ ⟨x,H',ι',v,e,q,g,r⟩=>⟨x,H',ι',v,e,hq x H' q,g,r⟩⟩
def QS (P:Program) (f:V) (args:List V) (H:List Obj) (K:V->List Obj->Prop):Prop :=
 match f with
 | .fn (.func g) fs cs=>ACalls P g (fs++args++cs) H K
 | .p (.fn g)=>ACalls P g args H K
 | _=>False
theorem Mg {P:Program} {o:Oper} {fr:List V} {H:List Obj} {f:Operand} {azs:List Operand} {K:V->List Obj->Prop} (ho:X6 o.op=some (f,azs)) (h:QS P (ev fr f) (azs.map (ev fr)) H K)
  {F ι a w} (hr:Rel F H ι w) (hf:Fr F H ι w fr a) {next:Act->World->Prop} {Q:Exit->Act->World->Prop}
  (hn: ∀x H' ι' v w',K x H'->Good F H ι w H' ι' w'->RV F H' ι' w' x v->next (a.put o.dst v) w'):o.wp P a w next Q:=by
 have key: ∀(g:FuncId) (fs cs:List V),RV F H ι w (.fn (.func g) fs cs) (a.eval f)->ACalls P g (fs++azs.map (ev fr)++cs) H K->o.wp P a w next Q:=fun g fs cs hv hA=>by
  clear h;unfold X6 at ho
  split at ho
  rotate_left
  ·cases ho
  rename_i f' as' ts hop;simp at ho;obtain ⟨rfl,rfl⟩:=ho;generalize hfv:a.eval f'=fv at hv
  cases hv with
  | fn _ _ _ a1 a2 hs ht hr1 hq1 =>
   obtain ⟨hfun,hcall⟩:=hA
   have hargs:uB F H ι w (fs++as'.toList.map (ev fr)++cs) (a1++as'.map a.eval++a2):=by
    refine ⟨by simp [hs,ht],fun j c hj=> ?_⟩
    by_cases h1:j<fs.length
    ·rw [List.append_assoc,List.getElem?_append_left h1] at hj
     have e:(a1++as'.map a.eval++a2).getD j undef=a1.getD j undef:=by
      simp_all [Array.getElem?_append_left]
     grind
    ·by_cases h2:j<fs.length+as'.size
     ·rw [List.append_assoc,List.getElem?_append_right Za,List.getElem?_append_left (by simp;omega)] at hj;simp only [List.getElem?_map,Option.map_eq_some_iff] at hj;obtain ⟨y,hy,rfl⟩:=hj
      have e:(a1++as'.map a.eval++a2).getD j undef=a.eval y:=by
       simp only [Array.getD_eq_getD_getElem?]
       grind
      rw [e];exact hf.ev y
     ·rw [List.getElem?_append_right (by simp;omega)] at hj
      have e:(a1++as'.map a.eval++a2).getD j undef=a2.getD (j-(fs++as'.toList.map (ev fr)).length) undef:=by
       simp only [Array.getD_eq_getD_getElem?]
       grind
      grind
   have hc:=hcall F ι w _ hr hargs;unfold Oper.wp
   have hrun:(execOp a.eval o).run P w= .ok (.enter g (a1++as'.map a.eval++a2)) w:=by
    simp [execOp,hop,resolve,Deferred.ofValue,hfv,invoke];exact hfun _ _
   rw [hrun,Oper.upon_enter];refine hc.mono fun e w' ⟨x,H',ι',v,he,q,gd,r⟩=> ?_
   grind
 have hv:=hf.ev f;unfold QS at h
 split at h
 ·grind
 ·rename_i g hfn;rw [hfn] at hv;refine key g [] [] ?_ (by simpa using h)
  cases hv with
  | p _ _ hv =>
   generalize a.eval f=fv at hv
   cases hv
   exact .fn _ _ _ _ _ rfl rfl (fun j c h=>by simp at h) (fun j c h=>by simp at h)
 grind
def Zo (P:Program) (o:Oper) (fr:List V) (H:List Obj) (K:V->List Obj->Prop):Prop :=
 match X6 o.op with
 | some (f,azs)=>QS P (ev fr f) (azs.map (ev fr)) H K
 | none=>match FW P o.op fr H with
  | some (x,H')=>K x H'
  | none=>False
theorem VJ {P:Program} {o:Oper} {fr:List V} {H:List Obj} {K:V->List Obj->Prop} (h:Zo P o fr H K) {F ι a w} (hr:Rel F H ι w) (hf:Fr F H ι w fr a) {next:Act->World->Prop} {Q:Exit->Act->World->Prop}
  (hn: ∀x H' ι' v w',K x H'->Good F H ι w H' ι' w'->RV F H' ι' w' x v->next (a.put o.dst v) w'):o.wp P a w next Q:=by
 unfold Zo at h
 split at h
 ·grind [Mg]
 ·split at h
  ·rename_i x H' ha;obtain ⟨nx,v,ι',w',e,e2,g,r⟩:=FX ha F ι a w hr hf;unfold Oper.wp;rw [e];rcases e2 with rfl | ⟨rfl,rfl⟩
   ·exact hn x H' ι' v w' h g r
   ·exact hn x H' ι' undef w' h g r
  grind
def KC (fr:List V) (ds:List (Option Nat)) (j:Nat):V :=
 match ds[j]? with
 | some (some d)=>gt fr d
 | _=> .junk
def ZT (x:V) (b:Bool) (A B:Prop):Prop :=
 match x with
 | .p (.bool c)=>(c=b->A)/\(c≠b->B)
 | .tup []=>B
 | _=>False
def Xm (P:Program) (ds:List (Option Nat)):List Oper->List V->List Obj->(List V->List Obj->Prop)->Prop
 | [],fr,H,K=>K fr H
 | o::r,fr,H,K=>match o.guard with
  | none=>Zo P o fr H fun x H'=>Xm P ds r (W0 fr o.dst x) H' K
  | some (j,b)=>ZT (KC fr ds j) b (Zo P o fr H fun x H'=>Xm P ds r (W0 fr o.dst x) H' K) (Xm P ds r (W0 fr o.dst (.tup [])) H K)
theorem Y9 {F H ι w fr a} (hf:Fr F H ι w fr a) {ops:Array Oper} {j:Nat} {c:Bool} (h:KC fr (ops.toList.map (·.dst)) j= .p (.bool c)):yielded ops a.tmps j=some c:=by
 unfold KC at h
 split at h
 ·rename_i d hd;simp only [List.getElem?_map,Array.getElem?_toList,Option.map_eq_some_iff] at hd;obtain ⟨o,ho,hd⟩:=hd;have hv:=hf.get d;rw [h] at hv
  cases hv with | p _ _ hv =>
  have e:=hv.bool_inv
  have hlt:d<a.tmps.size:=by
   grind [undef]
  simp_all [yielded]
 ·cases h
theorem Ye {F H ι w fr a} (hf:Fr F H ι w fr a) {ops:Array Oper} {j:Nat} (h:KC fr (ops.toList.map (·.dst)) j= .tup []):yielded ops a.tmps j=none:=by
 unfold KC at h
 split at h
 ·rename_i d hd;simp only [List.getElem?_map,Array.getElem?_toList,Option.map_eq_some_iff] at hd;obtain ⟨o,ho,hd⟩:=hd;have hv:=hf.get d;rw [h] at hv;unfold yielded;simp only [ho,Option.bind_some,hd]
  cases ht:a.tmps[d]? with
  | none=>rfl
  | some v =>
   rw [Array.getD_eq_getD_getElem?,ht] at hv;simp only [Option.getD_some] at hv
   cases hv
   rfl
 ·cases h
theorem Yp {F H ι w} :RV F H ι w (.tup []) undef:= .tup [] #[] rfl (fun j c hj=>by simp at hj)
theorem Z6 {P:Program} {ops:Array Oper} {Q:Exit->Act->World->Prop} : ∀(l:List Oper) (fr:List V) (H:List Obj) (K:List V->List Obj->Prop),Xm P (ops.toList.map (·.dst)) l fr H K ->
  ∀F ι a w,Rel F H ι w->Fr F H ι w fr a ->
   (∀fr' H' ι' a' w',K fr' H'->Good F H ι w H' ι' w'->Fr F H' ι' w' fr' a'->Q .normal a' w')->wpList P ops Q l a w
 | [],fr,H,K,h,F,ι,a,w,hr,hf,hq=>hq fr H ι a w h (Good.refl hr) hf
 | o::l,fr,H,K,h,F,ι,a,w,hr,hf,hq=>by
  have step: ∀ {fr:List V} {a:Act},Fr F H ι w fr a->Zo P o fr H (fun x H'=>Xm P (ops.toList.map (·.dst)) l (W0 fr o.dst x) H' K)->o.wp P a w (wpList P ops Q l) Q:=fun hf h =>
   VJ h hr hf fun x H' ι' v w' hk g r=>Z6 l _ H' K hk F ι' _ w' g.rel ((g.fr hf).put o.dst r)
    fun fr' H2 ι2 a' w2 k2 g2 f2=>hq fr' H2 ι2 a' w2 k2 (g.trans g2) f2
  simp only [Xm] at h;simp only [wpList]
  split at h
  ·rename_i hg
   have hw:Region.wanted o (yielded ops a.tmps)=true:=by simp [Region.wanted,hg]
   rw [if_pos hw];exact .inl (step hf h)
  ·rename_i j b hg;unfold ZT at h
   split at h
   rotate_left
   ·rename_i hc;have hy:=Ye hf hc
    have hw: ¬(Region.wanted o (yielded ops a.tmps)=true):=by simp [Region.wanted,hg,hy]
    rw [if_neg hw];exact Z6 l _ H K h F ι _ w hr (hf.put o.dst Yp) hq
   ·exact h.elim
   rename_i c hc;have hy:=Y9 hf hc
   by_cases hcb:c=b
   ·have hw:Region.wanted o (yielded ops a.tmps)=true:=by simp [Region.wanted,hg,hy,hcb]
    rw [if_pos hw];exact .inl (step hf (h.1 hcb))
   ·have hw: ¬(Region.wanted o (yielded ops a.tmps)=true):=by simp [Region.wanted,hg,hy,hcb]
    rw [if_neg hw];exact Z6 l _ H K (h.2 hcb) F ι _ w hr (hf.put o.dst Yp) hq
def AWP (P:Program) (c:Code) (fr:List V) (H:List Obj) (Q:Exit->List V->List Obj->Prop):Prop :=
 ∀F ι a w,Rel F H ι w->Fr F H ι w fr a->c.wp P (fun e a' w'=> ∃fr' H' ι',Q e fr' H'/\Good F H ι w H' ι' w'/\Fr F H' ι' w' fr' a') a w
theorem AWP.mono {P c fr H Q Q'} (h:AWP P c fr H Q) (hq: ∀e fr H,Q e fr H->Q' e fr H):AWP P c fr H Q':=fun F ι a w hr hf =>
 wp_mono (h F ι a w hr hf) fun _ _ _ ⟨fr',H',ι',q,g,f⟩=>⟨fr',H',ι',hq _ _ _ q,g,f⟩
theorem Ds {P id} {ops:Array Oper} {fr H Q} (h:Xm P (ops.toList.map (·.dst)) ops.toList fr H (Q .normal)):AWP P (.region id ops false) fr H Q:=fun F ι a w hr hf =>
 wp_region_list (Z6 _ fr H _ h F ι a w hr hf fun fr' H' ι' _ _ k g f=>⟨fr',H',ι',k,g,f⟩)
theorem HG {P fr H Q} (h:Q .normal fr H):AWP P .skip fr H Q:=fun F ι a w hr hf=>wp_skip ⟨fr,H,ι,h,Good.refl hr,hf⟩
theorem HF {P fr H Q id} (h:Q (.exit id) fr H):AWP P (.exit id) fr H Q:=fun F ι a w hr hf=>wp_exit ⟨fr,H,ι,h,Good.refl hr,hf⟩
theorem MS {P fr H Q} (h:Q .ret fr H):AWP P .ret fr H Q:=fun F ι a w hr hf=>wp_ret ⟨fr,H,ι,h,Good.refl hr,hf⟩
def WO (A:List V->List Obj->Prop) (Q:Exit->List V->List Obj->Prop):Exit->List V->List Obj->Prop
 | .normal,fr,H=>A fr H
 | e,fr,H=>Q e fr H
theorem Z0 {P x y fr H Q} (h:AWP P x fr H (WO (fun fr H=>AWP P y fr H Q) Q)):AWP P (.seq x y) fr H Q:=fun F ι a w hr hf=>by
 refine wp_seq (wp_mono (h F ι a w hr hf) ?_);rintro e a' w' ⟨fr',H',ι',q,g,f⟩
 cases e with
 | normal =>
  refine wp_mono (q F ι' a' w' g.rel f) ?_;rintro e2 a2 w2 ⟨fr2,H2,ι2,q2,g2,f2⟩;exact ⟨fr2,H2,ι2,q2,g.trans g2,f2⟩
 | exit id=>exact ⟨fr',H',ι',q,g,f⟩
 | goto l=>exact ⟨fr',H',ι',q,g,f⟩
 | ret=>exact ⟨fr',H',ι',q,g,f⟩
 | panic ch=>exact ⟨fr',H',ι',q,g,f⟩
 | outgrown=>exact ⟨fr',H',ι',q,g,f⟩
def Wr (id:Nat) (Q:Exit->List V->List Obj->Prop):Exit->List V->List Obj->Prop
 | .exit id',fr,H=>if id'=id then Q .normal fr H else Q (.exit id') fr H
 | e,fr,H=>Q e fr H
theorem F7 {P id c fr H Q} (h:AWP P c fr H (Wr id Q)):AWP P (.block id c) fr H Q:=fun F ι a w hr hf=>by
 refine wp_block (wp_mono (h F ι a w hr hf) ?_);rintro e a' w' ⟨fr',H',ι',q,g,f⟩
 cases e with
 | exit id' =>
  simp only [Exit.inBlock]
  by_cases Cj:id'=id
  ·simp only [Wr,Cj,if_true] at q ⊢;grind
  ·simp only [Wr,Cj,if_false] at q ⊢;grind
 | normal=>exact ⟨fr',H',ι',q,g,f⟩
 | goto l=>exact ⟨fr',H',ι',q,g,f⟩
 | ret=>exact ⟨fr',H',ι',q,g,f⟩
 | panic ch=>exact ⟨fr',H',ι',q,g,f⟩
 | outgrown=>exact ⟨fr',H',ι',q,g,f⟩
def YB (x:V) (A B:Prop):Prop :=
 match x with
 | .p (.bool b)=>(b=true->A)/\(b=false->B)
 | _=>False
theorem HE {P c x y fr H Q} (h:YB (ev fr c) (AWP P x fr H Q) (AWP P y fr H Q)):AWP P (.cond c x y) fr H Q:=fun F ι a w hr hf=>by
 unfold YB at h
 split at h
 rotate_left
 ·exact h.elim
 rename_i b hb;have hv:=hf.ev c;rw [hb] at hv
 cases hv with | p _ _ hv =>
 exact wp_cond_split hv.bool_inv (fun e=>h.1 e F ι a w hr hf) (fun e=>h.2 e F ι a w hr hf)
def Cj : Code->Option Nat
 | .region id _ _=>some id
 | .seq x _=>Cj x
 | .block _ c=>Cj c
 | _=>none
def WV (cuts:List Nat) (P:Program):Code->List V->List Obj->(Exit->List V->List Obj->Prop)->Prop
 | .skip,fr,H,Q=>Q .normal fr H
 | .region id ops d,fr,H,Q=>if d then AWP P (.region id ops true) fr H Q else Xm P (ops.toList.map (·.dst)) ops.toList fr H (Q .normal)
 | .seq x y,fr,H,Q=>if (match Cj x with | some i=>cuts.contains i | none=>false)=true then AWP P (.seq x y) fr H Q else WV cuts P x fr H (WO (fun fr H=>WV cuts P y fr H Q) Q)
 | .cond c x y,fr,H,Q=>YB (ev fr c) (WV cuts P x fr H Q) (WV cuts P y fr H Q)
 | .block id c,fr,H,Q=>WV cuts P c fr H (Wr id Q)
 | .exit id,fr,H,Q=>Q (.exit id) fr H
 | .ret,fr,H,Q=>Q .ret fr H
 | c,fr,H,Q=>AWP P c fr H Q
theorem FQ {x:V} {A B A' B':Prop} (h:YB x A B) (ha:A->A') (hb:B->B'):YB x A' B':=by
 unfold YB at *
 grind
theorem Zd (cuts:List Nat) {P:Program} : ∀(c:Code) (fr:List V) (H:List Obj) (Q:Exit->List V->List Obj->Prop),WV cuts P c fr H Q->AWP P c fr H Q
 | .skip,fr,H,Q,h=>HG h
 | .region id ops d,fr,H,Q,h=>by
  grind [Ds,WV]
 | .seq x y,fr,H,Q,h=>by
  rw [WV] at h;generalize (match Cj x with | some i=>cuts.contains i | none=>false)=b at h
  cases b
  rotate_left
  ·simpa using h
  ·simp only [Bool.false_eq_true,if_false] at h
   exact Z0 ((Zd cuts x fr H _ h).mono fun e fr H hq=>by
    cases e with
    | normal=>exact Zd cuts y fr H Q hq
    | _=>exact hq)
 | .cond c x y,fr,H,Q,h=>HE (FQ h (Zd cuts x fr H Q) (Zd cuts y fr H Q))
 | .block id c,fr,H,Q,h=>F7 (Zd cuts c fr H _ h)
 | .exit id,fr,H,Q,h=>HF h
 | .ret,fr,H,Q,h=>MS h
 | .loop c,fr,H,Q,h=>h
 | .rangeFunc _ _ _ _,fr,H,Q,h=>h
 | .scope c,fr,H,Q,h=>h
 | .label _,fr,H,Q,h=>h
 | .goto _,fr,H,Q,h=>h
 | .refuse _,fr,H,Q,h=>h
end Go.AM
namespace Go.AM
open Go.RowKit
def Weak (n0:Nat) (fr:List V) (H:List Obj) (fr':List V) (H':List Obj):Prop :=
 ∀F ι a w,Rel F H ι w->Fr F H ι w fr a-> ∃ι',Rel F H' ι' w/\Fr F H' ι' w fr' a/\ ∀H0 ι0 w0,H0.length<=n0->Good F H0 ι0 w0 H ι w->Good F H0 ι0 w0 H' ι' w
theorem Weak.refl (n0 fr H):Weak n0 fr H fr H:=fun _ ι _ _ hr hf=>⟨ι,hr,hf,fun _ _ _ _ h=>h⟩
theorem Weak.trans {n0 fr H fr' H' fr'' H''} (h:Weak n0 fr H fr' H') (k:Weak n0 fr' H' fr'' H''):Weak n0 fr H fr'' H'':=fun F ι a w hr hf=>by
 obtain ⟨ι',r,f,g⟩:=h F ι a w hr hf;obtain ⟨ι'',r2,f2,g2⟩:=k F ι' a w r f
 grind
theorem Zr {P c fr H fr' H' Q} (h:Weak H.length fr H fr' H') (k:AWP P c fr' H' Q):AWP P c fr H Q:=fun F ι a w hr hf=>by
 obtain ⟨ι',r,f,g⟩:=h F ι a w hr hf;refine wp_mono (k F ι' a w r f) ?_;rintro e a' w' ⟨fr2,H2,ι2,q,g2,f2⟩;exact ⟨fr2,H2,ι2,q,(g H ι w (Nat.le_refl _) (Good.refl hr)).trans g2,f2⟩
theorem BS {P c fr H Q} {I:Type} (R:I->Prop) (st:I->List V) (hs:I->List Obj) (μ:I->Nat) (i0:I) (hR:R i0) (h0:Weak H.length fr H (st i0) (hs i0))
  (round: ∀i,R i->AWP P c (st i) (hs i) (WO (fun fr' H'=> ∃i',R i'/\μ i'<μ i/\Weak H.length fr' H' (st i') (hs i')) Q)):AWP P (.loop c) fr H Q:=fun F ι a w hr hf=>by
 obtain ⟨ι0,r0,f0,g0⟩:=h0 F ι a w hr hf;refine wp_loop_ghost (fun n a' w'=> ∃i,R i/\μ i=n/\ ∃ι',Rel F (hs i) ι' w'/\Fr F (hs i) ι' w' (st i) a'/\Good F H ι w (hs i) ι' w') (μ i0) ⟨i0,hR,rfl,ι0,r0,f0,g0 H ι w (Nat.le_refl _) (Good.refl hr)⟩ ?_;rintro n a1 w1 ⟨i,hi,rfl,ι1,r1,f1,g1⟩;refine wp_mono (round i hi F ι1 a1 w1 r1 f1) ?_;rintro e a2 w2 ⟨fr2,H2,ι2,q,g2,f2⟩
 cases e with
 | normal =>
  obtain ⟨i',hi',hμ,hw⟩:=q;obtain ⟨ι3,r3,f3,g3⟩:=hw F ι2 a2 w2 g2.rel f2;exact ⟨μ i',hμ,i',hi',rfl,ι3,r3,f3,g3 H ι w (Nat.le_refl _) (g1.trans g2)⟩
 | exit id=>exact ⟨fr2,H2,ι2,q,g1.trans g2,f2⟩
 | goto l=>exact ⟨fr2,H2,ι2,q,g1.trans g2,f2⟩
 | ret=>exact ⟨fr2,H2,ι2,q,g1.trans g2,f2⟩
 | panic ch=>exact ⟨fr2,H2,ι2,q,g1.trans g2,f2⟩
 | outgrown=>exact ⟨fr2,H2,ι2,q,g1.trans g2,f2⟩
mutual
/-- all objects that a value leads to are below n -/
def refB (n:Nat):V->Bool
 | .p _=>true
 | .agg cs=>ZE n cs
 | .fn _ a b=>ZE n a&&ZE n b
 | .ptr o _=>decide (o<n)
 | .ep o _ _ _=>decide (o<n)
 | .sl o _ _ _=>decide (o<n)
 | .lp _ _=>true
 | .tup cs=>ZE n cs
 | .mp o=>decide (o<n)
 | .bp o=>decide (o<n)
 | .err=>true
 | .junk=>true
def ZE (n:Nat):List V->Bool
 | []=>true
 | x::l=>refB n x&&ZE n l
end
theorem ZO {n:Nat} : ∀ {l:List V},ZE n l=true-> ∀(j:Nat) (x:V),l[j]? =some x->refB n x=true
 | [],_,j,x,h=>by simp at h
 | y::l,hh,j,x,h=>by
  simp [ZE] at hh
  cases j with
  | zero=>simp at h;subst h;exact hh.1
  | succ j=>exact ZO hh.2 j x (by simpa using h)
theorem RV.cut {F H ι w n x v} (hr:Rel F H ι w) (h:RV F H ι w x v) (hn:refB n x=true):RV F (H.take n) (ι.take n) w x v:=by
 have hX:Keeps (Own F ι) w (Own F (ι.take n)) w:=fun b hb hs=>⟨fun h=>hb (h.imp id (List.mem_of_mem_take)),hs,rfl⟩;have gi: ∀ {o:Nat},o<n->(ι.take n)[o]? =ι[o]? :=fun h=>List.getElem?_take_of_lt h;have gH: ∀ {o:Nat},o<n->(H.take n)[o]? =H[o]? :=fun h=>List.getElem?_take_of_lt h
 induction h with
 | p x v h=>exact .p _ _ (h.ext hX)
 | agg cs a hs _ ih=>exact .agg cs a hs fun j c hj=>ih j c hj (ZO (by simpa [refB] using hn) j c hj)
 | fn f cs ds a e hs ht _ _ ih1 ih2 =>
  simp [refB] at hn;exact .fn f cs ds a e hs ht (fun j c hj=>ih1 j c hj (ZO hn.1 j c hj)) (fun j c hj=>ih2 j c hj (ZO hn.2 j c hj))
 | tup cs a hs _ ih=>exact .tup cs a hs fun j c hj=>ih j c hj (ZO (by simpa [refB] using hn) j c hj)
 | ptr o off b cs h hH=>simp [refB] at hn;exact .ptr _ _ b cs (by rw [gi hn];exact h) (by rw [gH hn];exact hH)
 | ep o i j tot b S xs h hH ht=>simp [refB] at hn;exact .ep _ _ _ _ b S xs (by rw [gi hn];exact h) (by rw [gH hn];exact hH) ht
 | slNil o S a h hH=>simp [refB] at hn;exact .slNil _ S a (by rw [gi hn];exact h) (by rw [gH hn];exact hH)
 | sl o off len tot b S cap t xs c h hH ht hw hcap hl hlen hm=>simp [refB] at hn;exact .sl _ _ _ _ b S cap t xs c (by rw [gi hn];exact h) (by rw [gH hn];exact hH) ht hw hcap hl hlen hm
 | lp x j b off u hX' hb hu hq=>exact .lp x j b off u (hX b hX' hb).1 hb hu (fun j c hj=>(hq j c hj).ext hX)
 | mp o b es h hH=>simp [refB] at hn;exact .mp _ b es (by rw [gi hn];exact h) (by rw [gH hn];exact hH)
 | mpD o v h=>simp [refB] at hn;exact .mpD _ _ (by rw [gH hn];exact h)
 | bp o b T E r bs h hH=>simp [refB] at hn;exact .bp _ b T E r bs (by rw [gi hn];exact h) (by rw [gH hn];exact hH)
 | bpD o v h=>simp [refB] at hn;exact .bpD _ _ (by rw [gH hn];exact h)
 | err t p=>exact .err t p
 | junk v=>exact .junk v
 | ptrD o off v h=>simp [refB] at hn;exact .ptrD _ _ _ (by rw [gH hn];exact h)
 | epD o i j tot v h=>simp [refB] at hn;exact .epD _ _ _ _ _ (by rw [gH hn];exact h)
 | slD o off len tot v h=>simp [refB] at hn;exact .slD _ _ _ _ _ (by rw [gH hn];exact h)
 | epS o i j tot v S xs h hne=>simp [refB] at hn;exact .epS _ _ _ _ _ S xs (by rw [gH hn];exact h) hne
 | slS o off len tot v S xs h hne=>simp [refB] at hn;exact .slS _ _ _ _ _ S xs (by rw [gH hn];exact h) hne
 | slC o tot b cap cs h hH hl hm=>simp [refB] at hn;exact .slC _ _ b cap cs (by rw [gi hn];exact h) (by rw [gH hn];exact hH) hl hm
def Mp (H:List Obj) (n:Nat):V->Option PV
 | .sl o off len tot=>match oat H o with
  | .elems _ xs=>if n<=o/\xs.length=tot/\off+len<=tot then some (.list false ((xs.take (off+len)).drop off)) else none
  | _=>none
 | _=>none
def Kz (H:List Obj) (n:Nat) (x x':V):Prop:=x'= .junk\/(x'=x/\refB n x=true)\/ ∃y,Mp H n x=some y/\x'= .p y
def FM (H:List Obj) (n:Nat):List V->List V->Prop
 | [],[]=>True
 | x::l,x'::l'=>Kz H n x x'/\FM H n l l'
 | _,_=>False
def Jc (H:List Obj) (n:Nat) (x x':Obj):Prop :=
 match x,x' with
 | .cells cs,.cells cs'=>FM H n cs cs'
 | .elems S xs,.elems S' xs'=>S=S'/\xs=xs'
 | .map es,.map es'=>es=es'
 | .bld T E r bs,.bld T' E' r' bs'=>(T=T'/\E=E'/\r=r'/\bs=bs')/\r<n
 | .dead,.dead=>True
 | _,_=>False
def Da (H:List Obj) (n:Nat):List Obj->List Obj->Prop
 | _,[]=>True
 | x::l,x'::l'=>Jc H n x x'/\Da H n l l'
 | [],_::_=>False
theorem Bs {H n} : ∀ {l l':List V},FM H n l l'->l'.length=l.length/\ ∀(j:Nat) (x':V),l'[j]? =some x'-> ∃x,l[j]? =some x/\Kz H n x x'
 | [],[],_=>⟨rfl,fun j x h=>by simp at h⟩
 | y::l,y'::l',h=>by
  obtain ⟨e,hh⟩:=Bs h.2;refine ⟨by simp [e],fun j x' hj=> ?_⟩
  cases j with
  | zero=>simp at hj;subst hj;exact ⟨y,Zb,h.1⟩
  | succ j=>obtain ⟨x,h1,h2⟩:=hh j x' (by simpa using hj);exact ⟨x,by simpa using h1,h2⟩
 | [],_::_,h=>h.elim
 | _::_,[],h=>h.elim
theorem FN {H n} : ∀ {l l':List Obj},Da H n l l'-> ∀(j:Nat) (x':Obj),l'[j]? =some x'-> ∃x,l[j]? =some x/\Jc H n x x'
 | _,[],_,j,x',h=>by simp at h
 | y::l,y'::l',h,j,x',hj=>by
  cases j with
  | zero=>simp at hj;subst hj;exact ⟨y,Zb,h.1⟩
  | succ j=>obtain ⟨x,h1,h2⟩:=FN h.2 j x' (by simpa using hj);exact ⟨x,by simpa using h1,h2⟩
 | [],_::_,h,_,_,_=>h.elim
theorem Weak.of {n0 fr H fr' H'} (hn:n0<=H'.length) (hf:FM H H'.length fr fr') (hh:Da H H'.length H H') (hl:H'.length<=H.length):Weak n0 fr H fr' H':=fun F ι a w hr hfr=>by
 have hH': ∀(o:Nat) (x':Obj),H'[o]? =some x'-> ∃x,H[o]? =some x/\Jc H H'.length x x':=FN hh;have gi: ∀ {o:Nat},o<H'.length->(ι.take H'.length)[o]? =ι[o]? :=fun h=>List.getElem?_take_of_lt h;have hX:Keeps (Own F ι) w (Own F (ι.take H'.length)) w:=fun b hb hs=>⟨fun h=>hb (h.imp id (List.mem_of_mem_take)),hs,rfl⟩
 -- one value
 have hval: ∀ {x x' v},RV F H ι w x v->Kz H H'.length x x'->RV F (H.take H'.length) (ι.take H'.length) w x' v:=fun {x x' v} hv hw=>by
  rcases hw with rfl | ⟨rfl,hb⟩ | ⟨y,hy,rfl⟩
  ·exact .junk _
  ·exact hv.cut hr hb
  ·unfold Mp at hy
   split at hy
   ·rename_i o off len tot
    split at hy
    ·rename_i S xs ho;have hHo:=ZI ho Zb
     split at hy
     ·rename_i hc;simp at hy;subst hy;refine .p _ _ (UB _ (fun b hb h=> ?_) hX hr hHo hc.2.1 hc.2.2 hv);rcases h with h | h
      ·exact (hr.avo o b hb).1 h
      ·obtain ⟨i,hi⟩:=List.mem_iff_getElem?.1 h;have hlt:=(List.getElem?_eq_some_iff.1 hi).1;simp at hlt;rw [List.getElem?_take_of_lt Za] at hi;have:=hr.inj i o b hi hb;omega
     ·cases hy
    ·cases hy
   ·cases hy
 -- from the cut heap to H'
 have hHX:HX (H.take H'.length) (ι.take H'.length) w H' (ι.take H'.length) w:=fun o ob ho=>by
  have hlt:=(List.getElem?_eq_some_iff.1 ho).1;simp at hlt;rw [List.getElem?_take_of_lt Za] at ho;obtain ⟨x,h1,h2⟩:=hH' o (H'[o]'(Za)) Zb;rw [ho] at h1;simp at h1;subst h1
  have e':H'[o]? =some (H'[o]'(Za)):=Zb
  generalize H'[o]'(Za)=x' at h2 e'
  cases ob<;>cases x'<;>simp only [Jc] at h2
  ·grind
  ·grind
  ·grind
  ·grind
  grind
 have hval2: ∀ {x x' v},RV F H ι w x v->Kz H H'.length x x'->RV F H' (ι.take H'.length) w x' v:=fun hv hw=>(hval hv hw).ext (Keeps.refl _ _) hHX
 have hrel:Rel F H' (ι.take H'.length) w:=by
  refine ⟨⟨by have:=hr.len;simp;omega,hr.fin,fun i j b hi hj=> ?_,fun i b hi=> ?_,fun o cs ho=> ?_,fun o S xs ho=> ?_,fun o es ho=> ?_,fun o T E r bs ho=> ?_⟩,hr.env.le fun b hb=>hb.imp id fun h=>List.mem_of_mem_take h⟩
  ·have h1:=(List.getElem?_eq_some_iff.1 hi).1;have h2:=(List.getElem?_eq_some_iff.1 hj).1;simp at h1 h2;rw [gi Za] at hi;rw [gi Za] at hj;exact hr.inj i j b hi hj
  ·have h1:=(List.getElem?_eq_some_iff.1 hi).1;simp at h1;rw [gi Za] at hi;exact hr.avo i b hi
  ·obtain ⟨x,h1,h2⟩:=hH' o _ ho;have hlt:=(List.getElem?_eq_some_iff.1 ho).1
   cases x<;>simp only [Jc] at h2
   rename_i cs0;obtain ⟨b,c,t,e1,e2,e3,e4⟩:=hr.cel o cs0 h1;obtain ⟨g1,g2⟩:=Bs h2
   grind
  ·obtain ⟨x,h1,h2⟩:=hH' o _ ho;have hlt:=(List.getElem?_eq_some_iff.1 ho).1
   cases x<;>simp only [Jc] at h2
   obtain ⟨rfl,rfl⟩:=h2;rcases hr.elm o _ _ h1 with ⟨e1,e2⟩ | ⟨b,c,t,cap,e1,e2,e3,e4,e5,e6,e7⟩
   ·grind
   ·exact .inr ⟨b,c,t,cap,by grind,e2,e3,e4,e5,e6,fun i x j y hi hj=>(e7 i x j y hi hj).ext hX⟩
  ·obtain ⟨x,h1,h2⟩:=hH' o _ ho;have hlt:=(List.getElem?_eq_some_iff.1 ho).1
   cases x<;>simp only [Jc] at h2
   subst h2;obtain ⟨b,a',k,e1,e2,e3⟩:=hr.mpr o _ h1;exact ⟨b,a',k,by grind,e2,e3.ext hX⟩
  ·obtain ⟨x,h1,h2⟩:=hH' o _ ho;have hlt:=(List.getElem?_eq_some_iff.1 ho).1
   cases x<;>simp only [Jc] at h2
   obtain ⟨hq,hrl⟩:=h2;rw [hq.2.2.1] at hrl;have e':=List.getElem?_eq_getElem hrl;obtain ⟨y,p1,p2⟩:=hH' _ _ e';generalize H'[r]'hrl=z at p2 e';obtain ⟨rfl,rfl,rfl,rfl⟩:=hq;obtain ⟨d0,d1,b,go,e1,e2,e3⟩:=hr.bldr o _ _ _ _ h1
   grind [Jc]
 obtain ⟨q1,q2⟩:=Bs hf;refine ⟨ι.take H'.length,hrel,⟨by have:=hfr.1;omega,hfr.2.1,fun i x' hi=> ?_⟩,fun H0 ι0 w0 hl0 hg=> ?_⟩
 ·obtain ⟨x,p1,p2⟩:=q2 i x' hi;exact hval2 (hfr.2.2 i x p1) p2
 ·refine ⟨hrel,hg.os,hg.tape,hg.output,fun b c t h=>(hg.shape b c t h).imp (fun h=>⟨h.1,fun h2=>h.2 (List.mem_of_mem_take h2)⟩) id,hg.size,hg.keep,fun b hb ho h=>hg.own b hb ho (List.mem_of_mem_take h),fun o ob ho=> ?_⟩;have hlt:=(List.getElem?_eq_some_iff.1 ho).1
  have hlt2:o<H'.length:=Za
  have e1:=hg.hx o ob ho;obtain ⟨x,p1,p2⟩:=hH' o H'[o] Zb
  have e':H'[o]? =some H'[o]:=Zb
  generalize H'[o]=x' at p2 e';rcases e1 with e1 | e1
  ·grind [Jc]
  ·cases ob with
   | dead=>exact e1.elim
   | cells cs =>
    obtain ⟨⟨cs',e2⟩,e3⟩:=e1;rw [e2] at p1;simp at p1;subst p1
    cases x'<;>simp only [Jc] at p2
    grind
   | map es =>
    obtain ⟨⟨es',e2⟩,e3⟩:=e1;rw [e2] at p1;simp at p1;subst p1
    cases x'<;>simp only [Jc] at p2
    grind
   | bld T E r bs =>
    obtain ⟨⟨bs',e2⟩,e3⟩:=e1;rw [e2] at p1;simp at p1;subst p1
    cases x'<;>simp only [Jc] at p2
    grind
   | elems S xs =>
    obtain ⟨xs',e2,e3⟩:=e1;rw [e2] at p1;simp at p1;subst p1
    cases x'<;>simp only [Jc] at p2
    grind
theorem Weak.nil {n0 fr H} (t S:Nat) (h:gt fr t= .p (.list true [])) (hn:n0<=H.length):Weak n0 fr H (pt fr t (.sl H.length 0 0 0)) (H++ [.elems S []]):=fun F ι a w hr hf=>by
 have g:=WX hr S;refine ⟨ι++ [none],g.rel,?_,fun H0 ι0 w0 _ hg=>hg.trans g⟩;have hv:=hf.get t;rw [h] at hv;have hf':=g.fr hf;obtain ⟨h1,h2,h3⟩:=hf';refine ⟨by simp [YG,h1],h2,fun i x hi=> ?_⟩;rw [YG,List.getElem?_set] at hi
 split at hi
 ·rename_i e;subst e
  split at hi
  ·simp at hi;subst hi
   cases hv with | p _ _ hv =>
   generalize a.tmps.getD t undef=v at hv
   cases hv with
   | nils=>exact .slNil _ S none (by rw [<- hr.len];simp) Zb
   | emp _ ad cap hc hm ha=>rw [hc rfl];exact .slNil _ S ad (by rw [<- hr.len];simp) Zb
   | list _ _ b off cap S' u hX hb hc hm hcl =>
    have:cap=0:=by grind
    subst this;exact .slNil _ S _ (by rw [<- hr.len];simp) Zb
  ·cases hi
 grind
end Go.AM
namespace Go.AM
open Go.RowKit
def GT (P:Program) (fr:List V) (H:List Obj):ResultVar->Option V
 | .tmp t=>some (gt fr t)
 | .cell a t=>UL P H t (gt fr a)
def Xx (P:Program) (fr:List V) (H:List Obj):List ResultVar->Option (List V)
 | []=>some []
 | r::l=>match GT P fr H r,Xx P fr H l with
  | some x,some xs=>some (x::xs)
  | _,_=>none
def Wx : List V->V
 | [x]=>x
 | xs=> .tup xs
def UA (P:Program) (rs:List ResultVar) (Q:V->List Obj->Prop):Exit->List V->List Obj->Prop
 | .normal,fr,H=>match Xx P fr H rs with | some xs=>Q (Wx xs) H | none=>False
 | .ret,fr,H=>match Xx P fr H rs with | some xs=>Q (Wx xs) H | none=>False
 | _,_,_=>False
theorem LR {P F H ι w fr a r x} (hr:Rel F H ι w) (hf:Fr F H ι w fr a) (h:GT P fr H r=some x) :
  ∃v,(match r with
   | .tmp t=>pure (a.tmps.getD t undef)
   | .cell b t=>do loadVar t (<- asAddr (a.tmps.getD b undef)):Sem Value).run P w= .ok v w/\RV F H ι w x v:=by
 cases r with
 | tmp t=>simp [GT] at h;subst h;exact ⟨_,rfl,hf.get t⟩
 | cell b t =>
  simp only [GT] at h;obtain ⟨u,e,r⟩:=Ar h hr (hf.get b);refine ⟨u,?_,r⟩
  show (do loadVar t (<- asAddr (a.tmps.getD b undef)):Sem Value).run P w=_
  generalize a.tmps.getD b undef=v at e ⊢
  cases v<;>try (simp [Instr.loadAt,Instr.sureAddr,stuck] at e;done)
  rename_i o
  cases o with
  | none=>simp_all [Instr.loadAt,Instr.sureAddr]
  | some ad=>grind [Instr.loadAt,Instr.sureAddr,asAddr]
theorem Kh {P F H ι w fr a} (hr:Rel F H ι w) (hf:Fr F H ι w fr a): ∀(rs:List ResultVar) (xs:List V),Xx P fr H rs=some xs ->
  ∃vs:List Value,((rs.mapM fun
   | .tmp t=>pure (a.tmps.getD t undef)
   | .cell b t=>do loadVar t (<- asAddr (a.tmps.getD b undef)):Sem (List Value))).run P w= .ok vs w/\vs.length=xs.length/\ ∀(j:Nat) (x:V),xs[j]? =some x-> ∃v,vs[j]? =some v/\RV F H ι w x v
 | [],xs,h=>by simp [Xx] at h;simp_all
 | r::l,xs,h=>by
  simp only [Xx] at h
  split at h
  ·rename_i x xs' h1 h2;simp at h;subst h;obtain ⟨v,e,rv⟩:=LR (P:=P) hr hf h1;obtain ⟨vs,e2,hl,hv⟩:=Kh hr hf l xs' h2;refine ⟨v::vs,?_,by simp [hl],fun j y hj=> ?_⟩
   ·rw [List.mapM_cons];simp only [Sem.run_bind,e,e2,Result.andThen_ok,Sem.run_pure]
   ·cases j with
    | zero=>simp at hj;subst hj;exact ⟨v,Zb,rv⟩
    | succ j=>obtain ⟨u,h1,h2⟩:=hv j y (by simpa using hj);exact ⟨u,by simpa using h1,h2⟩
  ·cases h
theorem Q3 {P F H ι w fr a} {fn:Func} {xs:List V} (hr:Rel F H ι w) (hf:Fr F H ι w fr a) (h:Xx P fr H fn.results.toList=some xs) :
  ∃v,(results fn a.tmps).run P w= .ok v w/\RV F H ι w (Wx xs) v:=by
 obtain ⟨vs,e,hl,hv⟩:=Kh hr hf _ _ h
 have hvs:vs.toArray.size=xs.length:=Za
 have hget: ∀(j:Nat) (c:V),xs[j]? =some c->RV F H ι w c (vs.toArray.getD j undef):=fun j c hj=>by
  obtain ⟨v,e1,e2⟩:=hv j c hj
  simp_all
 refine ⟨if h:vs.toArray.size=1 then vs.toArray[0] else .tuple vs.toArray,?_,?_⟩
 ·unfold results;simp only [Array.mapM_eq_mapM_toList,Sem.run_bind,Sem.run_map,Sem.run_pure]
  erw [e]
  rfl
 ·match xs,hvs,hget with
  | [],hvs,hget=>simp at hvs;subst hvs;exact .tup _ _ rfl (fun j c hj=>by simp at hj)
  | [x],hvs,hget =>
   have:=hget 0 x rfl
   split
   ·rename_i h1;simpa [Array.getD,h1,Wx] using this
   grind
  | x::y::l,hvs,hget =>
   split
   ·grind
   ·exact .tup _ _ hvs hget
theorem Xb {P:Program} {g:FuncId} {fn:Func} {c:Code} {args:List V} {H:List Obj} {Q:V->List Obj->Prop} (hf:P.funcs[g]? =some fn) (hb:fn.body=some c) (hg:Zh P g)
  (h:AWP P c (args++List.replicate (fn.ntmps-args.length) .junk) H (UA P fn.results.toList Q)):ACalls P g args H Q:=by
 refine ⟨hg,fun F ι w vs hr hv=> ?_⟩;refine calls_of_wp hf hb ?_
 have hfr:Fr F H ι w (args++List.replicate (fn.ntmps-args.length) .junk) { tmps:=vs++Array.replicate (fn.ntmps-vs.size) undef,defers:= [] } :=by
  refine ⟨by simp [hv.1],rfl,fun i x hi=> ?_⟩
  by_cases hlt:i<args.length
  ·rw [List.getElem?_append_left hlt] at hi
   have e:(vs++Array.replicate (fn.ntmps-vs.size) undef).getD i undef=vs.getD i undef:=by
    simp only [Array.getD_eq_getD_getElem?]
    grind
   simp only [e];exact hv.2 i x hi
  ·rw [List.getElem?_append_right Za] at hi
   have:x= .junk:=by
    grind
   subst this;exact .junk _
 refine wp_mono (h F ι _ w hr hfr) ?_;rintro e a' w' ⟨fr',H',ι',q,g,f⟩
 cases e with
 | normal =>
  simp only [UA] at q
  split at q
  ·rename_i xs hx;obtain ⟨v,e1,e2⟩:=Q3 (P:=P) g.rel f hx;exact ⟨f.2.1,v,e1,_,H',ι',v,rfl,q,g,e2⟩
  grind
 | ret =>
  simp only [UA] at q
  split at q
  ·rename_i xs hx;obtain ⟨v,e1,e2⟩:=Q3 (P:=P) g.rel f hx;exact ⟨f.2.1,v,e1,_,H',ι',v,rfl,q,g,e2⟩
  grind
 | exit id=>exact q.elim
 | goto l=>exact q.elim
 | panic ch=>exact q.elim
 | outgrown=>exact q.elim
mutual
/-- a value of a heap that is laid behind n objects -/
def Vb (n:Nat):V->V
 | .p x=> .p x
 | .agg cs=> .agg (Wf n cs)
 | .fn f a b=> .fn f (Wf n a) (Wf n b)
 | .ptr o off=> .ptr (n+o) off
 | .ep o i j tot=> .ep (n+o) i j tot
 | .sl o off len tot=> .sl (n+o) off len tot
 | .lp x j=> .lp x j
 | .tup cs=> .tup (Wf n cs)
 | .mp o=> .mp (n+o)
 | .bp o=> .bp (n+o)
 | .err=> .err
 | .junk=> .junk
def Wf (n:Nat):List V->List V
 | []=> []
 | x::l=>Vb n x::Wf n l
end
def WA (n:Nat):Obj->Obj
 | .cells cs=> .cells (Wf n cs)
 | .elems S xs=> .elems S xs
 | .map es=> .map es
 | .bld T E r bs=> .bld T E (n+r) bs
 | .dead=> .dead
theorem ZS (n:Nat): ∀(l:List V),Wf n l=l.map (Vb n)
 | []=>rfl
 | x::l=>by simp [Wf,ZS n l]
theorem Xo {F:Nat->Prop} {ι ι1:List (Option Nat)} :Own (Own F ι) ι1=Own F (ι++ι1):=by
 funext b
 simp [Own,or_assoc]
theorem RV.sh {F H ι H1 ι1 w x v} (hl:ι.length=H.length) (h:RV (Own F ι) H1 ι1 w x v):RV F (H++H1.map (WA H.length)) (ι++ι1) w (Vb H.length x) v:=by
 have gi: ∀(o:Nat),(ι++ι1)[H.length+o]? =ι1[o]? :=fun o=>by rw [List.getElem?_append_right Za];congr 1;omega
 have gH: ∀(o:Nat) (x:Obj),H1[o]? =some x->(H++H1.map (WA H.length))[H.length+o]? =some (WA H.length x):=fun o x h=>by
  rw [List.getElem?_append_right Za];rw [show H.length+o-H.length=o by omega];simp [h]
 have sub: ∀ {cs:List V} {a:Array Value},(∀(j:Nat) (c:V),cs[j]? =some c->RV F (H++H1.map (WA H.length)) (ι++ι1) w (Vb H.length c) (a.getD j undef))-> ∀(j:Nat) (c:V),(Wf H.length cs)[j]? =some c->RV F (H++H1.map (WA H.length)) (ι++ι1) w c (a.getD j undef):=fun h j c hj=>by
  rw [ZS] at hj;simp only [List.getElem?_map,Option.map_eq_some_iff] at hj;obtain ⟨c',h1,rfl⟩:=hj;exact h j c' h1
 induction h with
 | p x v h=>rw [Xo] at h;exact .p _ _ h
 | agg cs a hs _ ih=>exact .agg _ a (by simp [ZS,hs]) (sub ih)
 | fn f cs ds a e hs ht _ _ ih1 ih2=>exact .fn f _ _ a e (by simp [ZS,hs]) (by simp [ZS,ht]) (sub ih1) (sub ih2)
 | tup cs a hs _ ih=>exact .tup _ a (by simp [ZS,hs]) (sub ih)
 | ptr o off b cs h hH=>exact .ptr _ _ b _ (by rw [gi];exact h) (gH _ _ hH)
 | ep o i j tot b S xs h hH ht=>exact .ep _ _ _ _ b S xs (by rw [gi];exact h) (gH _ _ hH) ht
 | slNil o S a h hH=>exact .slNil _ S a (by rw [gi];exact h) (gH _ _ hH)
 | sl o off len tot b S cap t xs c h hH ht hw hcap hl hlen hm=>exact .sl _ _ _ _ b S cap t xs c (by rw [gi];exact h) (gH _ _ hH) ht hw hcap hl hlen hm
 | lp x j b off u hX hb hu hr=>rw [Xo] at hX hr;exact .lp x j b off u hX hb hu hr
 | mp o b es h hH=>exact .mp _ b es (by rw [gi];exact h) (gH _ _ hH)
 | mpD o v h=>exact .mpD _ _ (gH _ _ h)
 | bp o b T E r bs h hH=>exact .bp _ b T E _ bs (by rw [gi];exact h) (gH _ _ hH)
 | bpD o v h=>exact .bpD _ _ (gH _ _ h)
 | err t p=>exact .err t p
 | junk v=>exact .junk v
 | ptrD o off v h=>exact .ptrD _ _ _ (gH _ _ h)
 | epD o i j tot v h=>exact .epD _ _ _ _ _ (gH _ _ h)
 | slD o off len tot v h=>exact .slD _ _ _ _ _ (gH _ _ h)
 | epS o i j tot v S xs h hne=>exact .epS _ _ _ _ _ S xs (gH _ _ h) hne
 | slS o off len tot v S xs h hne=>exact .slS _ _ _ _ _ S xs (gH _ _ h) hne
 | slC o tot b cap cs h hH hl hm=>exact .slC _ _ b cap _ (by rw [gi];exact h) (gH _ _ hH) hl hm
theorem Good.behind {F H ι w H1 ι1 w'} (hr:Rel F H ι w) (g:Good (Own F ι) [] [] w H1 ι1 w'):Good F H ι w (H++H1.map (WA H.length)) (ι++ι1) w':=by
 have hkeep: ∀b,b<w.heap.size->w'.heap[b]? =w.heap[b]? :=fun b hb=>g.keep b hb Zb;have hnew: ∀b,some b∈ι1-> ¬b<w.heap.size:=fun b hb hlt=>g.own b hlt Zb hb
 have hlen: ∀ {o:Nat} {x:Obj},(H++H1.map (WA H.length))[o]? =some x->(o<H.length/\H[o]? =some x)\/(∃o1 x1,o=H.length+o1/\H1[o1]? =some x1/\x=WA H.length x1):=fun {o x} h=>by
  grind
 have gi: ∀(o:Nat),(ι++ι1)[H.length+o]? =ι1[o]? :=fun o=>by have:=hr.len;grind
 have gl: ∀ {o:Nat},o<H.length->(ι++ι1)[o]? =ι[o]? :=fun h=>List.getElem?_append_left (by rw [hr.len];exact h)
 have hKeeps:Keeps (Own F ι) w (Own F (ι++ι1)) w':=fun b hb hs=>⟨fun h=>by
  rcases h with h | h
  ·exact hb (.inl h)
  ·rcases List.mem_append.1 h with h | h
   ·exact hb (.inr h)
   grind,by grind,hkeep b hs⟩
 have hHX:HX H ι w (H++H1.map (WA H.length)) (ι++ι1) w':=fun o ob ho=>by
  grind
 have hmem: ∀ {i b:Nat},ι[i]? =some (some b)->some b∈ι:=fun h=>List.mem_of_getElem? h
 have old: ∀ {i b:Nat},(ι++ι1)[i]? =some (some b)->(i<H.length/\ι[i]? =some (some b))\/ ∃i1,i=H.length+i1/\ι1[i1]? =some (some b):=fun {i b} h=>by
  by_cases hlt:i<H.length
  ·grind
  ·exact .inr ⟨i-H.length,Za,by grind⟩
 refine Good.up hr.env ⟨⟨?_,?_,?_,?_,?_,?_,?_,?_⟩,g.os,g.tape,g.output,fun b c t h=>(g.shape b c t h).imp (fun h=>absurd h.1 Zb) id,g.size,fun b hb _=>hkeep b hb,fun b hb ho h=> ?_,hHX⟩
 ·have:=hr.len;have:=g.rel.len;simp;omega
 ·intro b hb;have:=hr.fin b hb;grind
 ·intro i j b hi hj;rcases old hi with ⟨h1,h2⟩ | ⟨i1,rfl,h2⟩<;>rcases old hj with ⟨k1,k2⟩ | ⟨j1,rfl,k2⟩
  ·exact hr.inj i j b h2 k2
  ·exact absurd (.inr (hmem h2)) (g.rel.avo j1 b k2).1
  ·exact absurd (.inr (hmem k2)) (g.rel.avo i1 b h2).1
  ·rw [g.rel.inj i1 j1 b h2 k2]
 ·intro i b hi;rcases old hi with ⟨h1,h2⟩ | ⟨i1,rfl,h2⟩
  ·obtain ⟨a1,a2⟩:=hr.avo i b h2
   grind
  ·obtain ⟨a1,a2⟩:=g.rel.avo i1 b h2;exact ⟨fun h=>a1 (.inl h),a2⟩
 ·intro o cs ho;rcases hlen ho with ⟨h1,h2⟩ | ⟨o1,x1,rfl,h2,h3⟩
  ·obtain ⟨b,c,t,e1,e2,e3,e4⟩:=hr.cel o cs h2;exact ⟨b,c,t,by grind,by grind,e3,fun j x hj=>(e4 j x hj).ext hKeeps hHX⟩
  ·cases x1<;>simp [WA] at h3
   subst h3;obtain ⟨b,c,t,e1,e2,e3,e4⟩:=g.rel.cel o1 _ h2;refine ⟨b,c,t,by grind,e2,by simp [ZS,e3],fun j x hj=> ?_⟩;rw [ZS] at hj;simp only [List.getElem?_map,Option.map_eq_some_iff] at hj;obtain ⟨x',h4,rfl⟩:=hj;exact (e4 j x' h4).sh hr.len
 ·intro o S xs ho;rcases hlen ho with ⟨h1,h2⟩ | ⟨o1,x1,rfl,h2,h3⟩
  ·rcases hr.elm o S xs h2 with ⟨e1,e2⟩ | ⟨b,c,t,cap,e1,e2,e3,e4,e5,e6,e7⟩
   ·grind
   ·exact .inr ⟨b,c,t,cap,by grind,by grind,e3,e4,e5,e6,fun i x j y hi hj=>(e7 i x j y hi hj).ext hKeeps⟩
  ·cases x1<;>simp [WA] at h3
   obtain ⟨rfl,rfl⟩:=h3;rcases g.rel.elm o1 _ _ h2 with ⟨e1,e2⟩ | ⟨b,c,t,cap,e1,e2,e3,e4,e5,e6,e7⟩
   ·grind
   ·exact .inr ⟨b,c,t,cap,by grind,e2,e3,e4,e5,e6,fun i x j y hi hj=>by grind [Xo]⟩
 ·intro o es ho;rcases hlen ho with ⟨h1,h2⟩ | ⟨o1,x1,rfl,h2,h3⟩
  ·obtain ⟨b,a',k,e1,e2,e3⟩:=hr.mpr o es h2;exact ⟨b,a',k,by grind,by grind,e3.ext hKeeps⟩
  ·cases x1<;>simp [WA] at h3
   subst h3;obtain ⟨b,a',k,e1,e2,e3⟩:=g.rel.mpr o1 _ h2
   grind [Xo]
 ·intro o T E r bs ho;rcases hlen ho with ⟨h1,h2⟩ | ⟨o1,x1,rfl,h2,h3⟩
  ·obtain ⟨d0,d,b,go,e1,e2,e3⟩:=hr.bldr o T E r bs h2;have hrl:=(List.getElem?_eq_some_iff.1 d).1;exact ⟨Za,by grind,b,go,by grind,by grind,e3.ext (hkeep b (hr.avo o b e1).2) fun g hg=>hkeep g (hr.avo r g (by rw [e2,hg])).2⟩
  ·cases x1<;>simp [WA] at h3
   obtain ⟨rfl,rfl,rfl,rfl⟩:=h3;obtain ⟨d0,d,b,go,e1,e2,e3⟩:=g.rel.bldr o1 _ _ _ _ h2;refine ⟨Za,?_,b,go,by grind,by grind,e3⟩;rw [List.getElem?_append_right Za,Nat.add_sub_cancel_left,List.getElem?_map,d]
   rfl
 grind
theorem RV.lift {F H ι w x v} (h:RV F H ι w x v) (hn:refB 0 x=true):RV (Own F ι) [] [] w x v:=by
 have sub: ∀ {cs:List V},ZE 0 cs=true-> ∀(j:Nat) (c:V),cs[j]? =some c->refB 0 c=true:=fun h=>ZO h
 induction h with
 | p x v h=>refine .p _ _ ?_;rw [Xo,List.append_nil];exact h
 | agg cs a hs _ ih=>exact .agg cs a hs fun j c hj=>ih j c hj (ZO (by simpa [refB] using hn) j c hj)
 | fn f cs ds a e hs ht _ _ ih1 ih2 =>
  simp [refB] at hn;exact .fn f cs ds a e hs ht (fun j c hj=>ih1 j c hj (ZO hn.1 j c hj)) (fun j c hj=>ih2 j c hj (ZO hn.2 j c hj))
 | tup cs a hs _ ih=>exact .tup cs a hs fun j c hj=>ih j c hj (ZO (by simpa [refB] using hn) j c hj)
 | ptr o off b cs h hH=>simp [refB] at hn
 | ep o i j tot b S xs h hH ht=>simp [refB] at hn
 | slNil o S a h hH=>simp [refB] at hn
 | sl o off len tot b S cap t xs c h hH ht hw hcap hl hlen hm=>simp [refB] at hn
 | lp x j b off u hX' hb hu hq=>exact .lp x j b off u (by rw [Xo,List.append_nil];exact hX') hb hu (fun j c hj=>by rw [Xo,List.append_nil];exact hq j c hj)
 | mp o b es h hH=>simp [refB] at hn
 | mpD o v h=>simp [refB] at hn
 | bp o b T E r bs h hH=>simp [refB] at hn
 | bpD o v h=>simp [refB] at hn
 | err t p=>exact .err t p
 | junk v=>exact .junk v
 | ptrD o off v h=>simp [refB] at hn
 | epD o i j tot v h=>simp [refB] at hn
 | slD o off len tot v h=>simp [refB] at hn
 | epS o i j tot v S xs h hne=>simp [refB] at hn
 | slS o off len tot v S xs h hne=>simp [refB] at hn
 | slC o tot b cap cs h hH hl hm=>simp [refB] at hn
theorem ACalls.behind {P g} {args:List V} {Q:V->List Obj->Prop} (ha:ZE 0 args=true) (h:ACalls P g args [] Q) (H:List Obj):ACalls P g args H fun x H'=> ∃y H1,Q y H1/\x=Vb H.length y/\H'=H++H1.map (WA H.length):=by
 refine ⟨h.1,fun F ι w vs hr hv=> ?_⟩
 have hr0:Rel (Own F ι) [] [] w:=by
  refine ⟨⟨rfl,fun b hb=> ?_,fun i j b hi _=>by simp at hi,fun i b hi=>by simp at hi,fun o cs ho=>by simp at ho,fun o S xs ho=>by simp at ho,fun o es ho=>by simp at ho,fun o T E r bs ho=>by simp at ho⟩,hr.env.fresh⟩;rcases hb with hb | hb
  ·exact hr.fin b hb
  ·obtain ⟨i,hi⟩:=List.mem_iff_getElem?.1 hb;exact (hr.avo i b hi).2
 have hv0:uB (Own F ι) [] [] w args vs:=⟨hv.1,fun j c hj=>(hv.2 j c hj).lift (ZO ha j c hj)⟩;refine (h.2 _ _ _ _ hr0 hv0).mono ?_;rintro e w' ⟨x,H1,ι1,v,rfl,q,gd,rv⟩;exact ⟨_,_,_,v,rfl,⟨x,H1,q,rfl,rfl⟩,gd.behind hr,rv.sh hr.len⟩
end Go.AM
namespace Go.AM
open Go.RowKit
theorem Keeps.same {X:Nat->Prop} {w w':World} (h:w'.heap=w.heap):Keeps X w X w':=fun b hb hs=>⟨hb,by grind,by rw [h]⟩
theorem HX.same {H ι w w'} (h:w'.heap=w.heap):HX H ι w H ι w':=fun o ob ho=>by
 grind
theorem Rel.same {F H ι w w'} (h:w'.heap=w.heap) (hr:Rel F H ι w):Rel F H ι w':=by
 refine ⟨⟨hr.len,by rw [h];exact hr.fin,hr.inj,by rw [h];exact hr.avo,fun o cs ho=> ?_,fun o S xs ho=> ?_,fun o es ho=>by obtain ⟨b,a',k,e1,e2,e3⟩:=hr.mpr o es ho;exact ⟨b,a',k,e1,by grind,e3.ext (Keeps.same h)⟩,
  Yn hr (fun _ _ _ _ _ h=>h) fun _ _ _ _=>⟨rfl,rfl,fun _ _=>by rw [h]⟩⟩,hr.env.of (by grind) (fun b _ _=>by rw [h]) fun _ _ h=>h⟩
 ·obtain ⟨b,c,t,e1,e2,e3,e4⟩:=hr.cel o cs ho;exact ⟨b,c,t,e1,by grind,e3,fun j x hj=>(e4 j x hj).ext (Keeps.same h) (HX.same h)⟩
 ·rcases hr.elm o S xs ho with e | ⟨b,c,t,cap,e1,e2,e3,e4,e5,e6,e7⟩
  ·exact .inl e
  ·exact .inr ⟨b,c,t,cap,e1,by grind,e3,e4,e5,e6,fun i x j y hi hj=>(e7 i x j y hi hj).ext (Keeps.same h)⟩
theorem Good.drew {F H ι w} (hr:Rel F H ι w):Good F H ι w H ι { w with drawn:=w.drawn+1 } :=
 ⟨Rel.same (w:=w) (w':= { w with drawn:=w.drawn+1 }) rfl hr,rfl,Tp.of rfl (Nat.le_succ _),rfl,fun _ c _ h=> .inr ⟨c,h,rfl⟩,Nat.le_refl _,fun _ _ _=>rfl,fun _ _ h=>h,HX.same (w:=w) (w':= { w with drawn:=w.drawn+1 }) rfl⟩
def WZ (P:Program) (t:TypeId):Option Nat:=match P.underlying t with
  | some (.slice e)=>match (P.info? e).bind (·.zero) with
   | some _=>match XO P t with | some (none,S)=>some S | _=>none
   | none=>none
  | _=>none
def EE (S:Option Nat) (H:List Obj) (n:Nat) (l:List (Nat×V)):Option PV:=match S with
 | some S=>if n=l.length/\n*S<=16777216/\0<S then (WJ H S 0 l).map (.list false) else none
 | none=>none
def Zs (P:Program) (o:Oper) (fr:List V) (H:List Obj) (K:V->List Obj->Prop):Prop :=
 match o.op with
 | .buildSlice t n ps=>match (EE (WZ P t) H n (ps.toList.map fun x=>(x.1,ev fr x.2))).map V.p with
  | some x=>K x H
  | none=>False
 | .call { callee:= .builtin .append,args:=azs,argTypes:=ts } =>match azs.toList,ts.toList with
  | [x,y],[t,t2]=> ∃S zs,YH P H t t2 (ev fr x) (ev fr y)=some (.sl H.length 0 zs.length zs.length,H++ [.elems S zs])/\K (.p (.list false zs)) H
  | _,_=>False
 | _=>Zo P o fr H K
theorem Keeps.grow {X:Nat->Prop} {w w':World} (hs:w.heap.size<=w'.heap.size) (h: ∀b,b<w.heap.size->w'.heap[b]? =w.heap[b]?):Keeps X w X w':=fun b hb hb2=>⟨hb,Za,h b hb2⟩
theorem HX.grow {F H ι w w'} (hr:Rel F H ι w) (h: ∀b,b<w.heap.size->w'.heap[b]? =w.heap[b]?):HX H ι w H ι w':=fun o ob ho=>by
 grind
theorem Rel.grow {F H ι w w'} (hs:w.heap.size<=w'.heap.size) (h: ∀b,b<w.heap.size->w'.heap[b]? =w.heap[b]?) (hr:Rel F H ι w):Rel F H ι w':=by
 refine ⟨⟨hr.len,fun b hb=>by have:=hr.fin b hb;omega,hr.inj,fun i b hi=>⟨(hr.avo i b hi).1,by have:=(hr.avo i b hi).2;omega⟩,fun o cs ho=> ?_,fun o S xs ho=> ?_,fun o es ho=>by obtain ⟨b,a',k,e1,e2,e3⟩:=hr.mpr o es ho;exact ⟨b,a',k,e1,by grind,e3.ext (Keeps.grow hs h)⟩,
  Yn hr (fun _ _ _ _ _ h=>h) fun i _ _ _=>⟨rfl,rfl,fun b hb=>h b (hr.avo i b hb).2⟩⟩,hr.env.of hs (fun b hb _=>h b hb) fun _ _ h=>h⟩
 ·obtain ⟨b,c,t,e1,e2,e3,e4⟩:=hr.cel o cs ho;exact ⟨b,c,t,e1,by grind,e3,fun j x hj=>(e4 j x hj).ext (Keeps.grow hs h) (HX.grow hr h)⟩
 ·rcases hr.elm o S xs ho with e | ⟨b,c,t,cap,e1,e2,e3,e4,e5,e6,e7⟩
  ·exact .inl e
  ·exact .inr ⟨b,c,t,cap,e1,by grind,e3,e4,e5,e6,fun i x j y hi hj=>(e7 i x j y hi hj).ext (Keeps.grow hs h)⟩
theorem RV.refs {F H ι w x v} (h:RV F H ι w x v):refB H.length x=true:=by
 have lt: ∀ {o:Nat} {ob:Obj},H[o]? =some ob->o<H.length:=fun h=>(List.getElem?_eq_some_iff.1 h).1
 have all: ∀(cs:List V),(∀(j:Nat) (c:V),cs[j]? =some c->refB H.length c=true)->ZE H.length cs=true:=by
  intro cs
  induction cs with
  | nil=>intro _;simp [ZE]
  | cons c cs ih=>intro h;simp [ZE,h 0 c Zb,ih fun j x hj=>h (j+1) x (by simpa using hj)]
 induction h with
 | p=>simp [refB]
 | agg cs a hs _ ih=>simp only [refB];exact all cs ih
 | fn f cs ds a e hs ht _ _ ih1 ih2=>simp only [refB,Bool.and_eq_true];exact ⟨all cs ih1,all ds ih2⟩
 | tup cs a hs _ ih=>simp only [refB];exact all cs ih
 | lp=>simp [refB]
 | err=>simp [refB]
 | junk=>simp [refB]
 | _=>simp only [refB,decide_eq_true_eq];exact lt (by assumption)
theorem C9 {H:List Obj} {n:Nat} : ∀(l:List V),(∀(j:Nat) (c:V),l[j]? =some c->refB n c=true)->FM H n l l
 | [],_=>trivial
 | c::l,h=>⟨.inr (.inl ⟨rfl,h 0 c Zb⟩),C9 l fun j x hj=>h (j+1) x (by grind)⟩
theorem Db {H:List Obj} {n:Nat} : ∀(l r:List Obj),(∀(j:Nat) (cs:List V),l[j]? =some (.cells cs)-> ∀(i:Nat) (c:V),cs[i]? =some c->refB n c=true)->(∀(j T E q:Nat) (bs:List UInt8),l[j]? =some (.bld T E q bs)->q<n)->Da H n (l++r) l
 | [],r,_,_=>by grind [Da]
 | x::l,r,h,h2=>by
  refine ⟨?_,Db l r (fun j cs hj=>h (j+1) cs (by grind)) fun j T E q bs hj=>h2 (j+1) T E q bs (by grind)⟩
  cases x with
  | cells cs=>exact C9 cs (h 0 cs Zb)
  | elems S xs=>exact ⟨rfl,rfl⟩
  | map es=>rfl
  | bld T E q bs=>exact ⟨⟨rfl,rfl,rfl,rfl⟩,h2 0 T E q bs Zb⟩
  | dead=>trivial
theorem OpS.freeze {P o fr H x ob} {z:PV} (h:OpS P o fr H x (H++ [ob])) (hz:Mp (H++ [ob]) H.length x=some z):OpS P o fr H (.p z) H:=fun F ι a w hr hf=>by
 obtain ⟨nx,v,ι',w',e,e2,g,r⟩:=h F ι a w hr hf
 have hw:Weak H.length [x] (H++ [ob]) [.p z] H:=Weak.of (Nat.le_refl _) ⟨.inr (.inr ⟨z,hz,rfl⟩),trivial⟩
  (Db H [ob] (fun j cs hj i c hi=>by
   obtain ⟨b,c',t,_,_,_,h4⟩:=hr.cel j cs hj
   exact (h4 i c hi).refs) fun j T E q bs hj=>(List.getElem?_eq_some_iff.1 (hr.bldr j T E q bs hj).2.1).1) Zb
 obtain ⟨ι2,r2,f2,g2⟩:=hw F ι' { tmps:= #[v],defers:= [] } w' g.rel ⟨rfl,rfl,fun i y hi=>by
  cases i with
  | zero=>simp_all
  | succ i=>simp at hi⟩
 have:=f2.get 0;exact ⟨nx,v,ι2,w',e,e2,g2 H ι w (Nat.le_refl _) g,by simp_all [gt]⟩
theorem Mh {P:Program} {o:Oper} {fr:List V} {H H':List Obj} {x:V} (h:OpS P o fr H x H') {F ι a w} (hr:Rel F H ι w) (hf:Fr F H ι w fr a) {next:Act->World->Prop} {Q:Exit->Act->World->Prop}
  (hn: ∀ι' v w',Good F H ι w H' ι' w'->RV F H' ι' w' x v->next (a.put o.dst v) w'):o.wp P a w next Q:=by
 obtain ⟨nx,v,ι',w',e,e2,g,r⟩:=h F ι a w hr hf;unfold Oper.wp;rw [e];rcases e2 with rfl | ⟨rfl,rfl⟩
 ·exact hn ι' v w' g r
 ·exact hn ι' undef w' g r
theorem QQ {P:Program} {o:Oper} {fr:List V} {H:List Obj} {K:V->List Obj->Prop} (h:Zs P o fr H K) {F ι a w} (hr:Rel F H ι w) (hf:Fr F H ι w fr a) {next:Act->World->Prop} {Q:Exit->Act->World->Prop}
  (hn: ∀x H' ι' v w',K x H'->Good F H ι w H' ι' w'->RV F H' ι' w' x v->next (a.put o.dst v) w'):o.wp P a w next Q:=by
 unfold Zs at h
 split at h
 rotate_left
 ·rename_i azs ts ho
  split at h
  ·rename_i x y t t2 e1 e2;obtain ⟨azs⟩:=azs;obtain ⟨ts⟩:=ts;simp at e1 e2;subst e1;subst e2;obtain ⟨S,zs,hz,hk⟩:=h
   have hops:=(Fq t t2 x y _ ho hz).freeze (z:= .list false zs) (by
    grind [DT,Mp])
   grind [Mh]
  grind
 ·grind [VJ]
 rename_i t n ps ho
 split at h
 rotate_left
 ·exact h.elim
 rename_i x hx;simp only [Option.map_eq_some_iff] at hx;obtain ⟨x,hx,rfl⟩:=hx;unfold EE at hx
 split at hx
 rotate_left
 ·cases hx
 rename_i S hS
 split at hx
 rotate_left
 ·cases hx
 rename_i hc;simp only [Option.map_eq_some_iff] at hx;obtain ⟨xs,hl,rfl⟩:=hx;unfold WZ at hS
 split at hS
 rotate_left
 ·cases hS
 rename_i e hu
 split at hS
 rotate_left
 ·cases hS
 rename_i z hze
 split at hS
 rotate_left
 ·cases hS
 rename_i S' ht;simp at hS;subst hS
 have hz:Dk P H t n (ps.toList.map fun x=>(x.1,ev fr x.2))=some (.sl H.length 0 n n,H++ [.elems S' xs]):=by
  simp only [Dk,ht]
  grind
 obtain ⟨S2,xs2,_,he,hlen,_,k⟩:=Cy t n ps _ ho e z hu hze hz;simp at he;obtain ⟨rfl,rfl⟩:=he;obtain ⟨a',t',k1,k2,k3⟩:=k F ι a w hr hf;have hp:=Pushed.alloc w a' t'
 have hsz:w.heap.size<=(w.alloc (.cells a' t')).heap.size:=Zb
 have hold: ∀b,b<w.heap.size->(w.alloc (.cells a' t')).heap[b]? =w.heap[b]? :=fun b hb=>hp.old hb
 have hnew: ∀b,Own F ι b->b<w.heap.size:=fun b hb=>by
  rcases hb with hb | hb
  ·exact hr.fin b hb
  ·obtain ⟨i,hi⟩:=List.mem_iff_getElem?.1 hb;exact (hr.avo i b hi).2
 have hι:(ι++ [some w.heap.size])[H.length]? =some (some w.heap.size):=by rw [<- hr.len];simp
 have rp:=UB (S:=S') (xs:=xs) (off:=0) (len:=n) (tot:=n) (Own F ι) (fun b hb h=>by
  grind) (fun b hb hs=>⟨fun h=>hb (h.imp id fun h=>by simp [h]),hs,rfl⟩) k2.rel Zb hlen Za k3
 have hxs:(xs.take (0+n)).drop 0=xs:=by grind
 rw [hxs] at rp;have g:Good F H ι w H ι (w.alloc (.cells a' t')):=⟨hr.grow hsz hold,k2.os,k2.tape,k2.output,fun b c t h=>(k2.shape b c t h).imp (fun h=>⟨h.1,fun h2=>h.2 (List.mem_append_left _ h2)⟩) id,k2.size,fun b hb _=>hold b hb,fun b _ h=>h,HX.grow hr hold⟩;unfold Oper.wp;rw [k1];exact hn _ H ι _ _ h g (.p _ _ rp)
def Zz (i:Nat) (o:Oper):List Nat:=(o.after.toList.filter fun e=>Region.binds .any e&&decide (e.on<i)).map (·.on)
def Zx (ds:List (Option Nat)) (vals:List V):List Nat->List V->List V
 | [],fr=>fr
 | j::l,fr=>match ds[j]?,vals[j]? with
  | some (some d),some v=>Zx ds vals l (pt fr d v)
  | _,_=>Zx ds vals l fr
def ZD : List (Option Nat)->List V->List V
 | [],fr=>fr
 | some d::l,fr=>ZD l (pt fr d .junk)
 | none::l,fr=>ZD l fr
def hd (P:Program) (ds:List (Option Nat)) (frJ:List V) (H:List Obj) (K:List V->Prop):Nat->List Oper->List V->Prop
 | _,[],vals=>K vals
 | i,o::r,vals=>match o.guard with
  | none=> ∃y,Zs P o (Zx ds vals (Zz i o) frJ) H (fun x H'=>x=y/\H'=H)/\hd P ds frJ H K (i+1) r (vals++ [y])
  | some (j,b)=>ZT (KC (Zx ds vals (Zz i o) frJ) ds j) b
    (∃y,Zs P o (Zx ds vals (Zz i o) frJ) H (fun x H'=>x=y/\H'=H)/\hd P ds frJ H K (i+1) r (vals++ [y]))
    (hd P ds frJ H K (i+1) r (vals++ [.tup []]))
def By (P:Program) (ds:List (Option Nat)) (frJ:List V) (H:List Obj) (vals:List V) (i:Nat) (o:Oper):Prop :=
 ∃y,vals[i]? =some y/\match o.guard with
  | none=>Zs P o (Zx ds vals (Zz i o) frJ) H (fun x H'=>x=y/\H'=H)
  | some (j,b)=>(∃c,KC (Zx ds vals (Zz i o) frJ) ds j= .p (.bool c)/\(c=b->Zs P o (Zx ds vals (Zz i o) frJ) H (fun x H'=>x=y/\H'=H))/\(c≠b->y= .tup []))\/(KC (Zx ds vals (Zz i o) frJ) ds j= .tup []/\y= .tup [])
theorem QB {ds:List (Option Nat)} {vals ys:List V} : ∀(l:List Nat) (fr:List V),(∀j∈l,j<vals.length)->Zx ds (vals++ys) l fr=Zx ds vals l fr
 | [],fr,_=>rfl
 | j::l,fr,h=>by
  have hj:=h j Zb;have e:(vals++ys)[j]? =vals[j]? :=List.getElem?_append_left hj;simp only [Zx,e]
  split
  ·exact QB l _ fun k hk=>h k (by simp [hk])
  ·exact QB l _ fun k hk=>h k (by simp [hk])
theorem X0 {i:Nat} {o:Oper} : ∀j∈Zz i o,j<i:=fun j hj=>by
 simp [Zz] at hj;omega
theorem UV {P ds frJ H} {K:List V->Prop} : ∀(l:List Oper) (i:Nat) (vals:List V),vals.length=i->hd P ds frJ H K i l vals ->
  ∃ys:List V,ys.length=l.length/\K (vals++ys)/\ ∀(k:Nat) (o:Oper),l[k]? =some o->By P ds frJ H (vals++ys) (i+k) o
 | [],i,vals,_,h=>⟨[],rfl,by grind [hd],fun k o hk=>by simp at hk⟩
 | o::l,i,vals,hl,h=>by
  have step: ∀y,hd P ds frJ H K (i+1) l (vals++ [y])->(match o.guard with
    | none=>Zs P o (Zx ds vals (Zz i o) frJ) H (fun x H'=>x=y/\H'=H)
    | some (j,b)=>(∃c,KC (Zx ds vals (Zz i o) frJ) ds j= .p (.bool c)/\(c=b->Zs P o (Zx ds vals (Zz i o) frJ) H (fun x H'=>x=y/\H'=H))/\(c≠b->y= .tup []))\/(KC (Zx ds vals (Zz i o) frJ) ds j= .tup []/\y= .tup [])) ->
    ∃ys:List V,ys.length=(o::l).length/\K (vals++ys)/\ ∀(k:Nat) (o':Oper),(o::l)[k]? =some o'->By P ds frJ H (vals++ys) (i+k) o':=fun y hy ho=>by
   obtain ⟨ys,e1,e2,e3⟩:=UV l (i+1) (vals++ [y]) (by simp [hl]) hy;refine ⟨y::ys,by simp [e1],by simpa using e2,fun k o' hk=> ?_⟩
   cases k with
   | zero =>
    simp at hk;subst hk;refine ⟨y,by simp [<- hl],?_⟩
    have e:Zx ds (vals++y::ys) (Zz (i+0) o) frJ=Zx ds vals (Zz i o) frJ:=QB _ _ fun j hj=>by rw [hl];exact X0 j hj
    rw [e];exact ho
   | succ k =>
    have:=e3 k o' (by simpa using hk);rw [show i+1+k=i+(k+1) by omega] at this;simpa using this
  simp only [hd] at h
  split at h
  ·grind
  ·rename_i j b hg;unfold ZT at h
   split at h
   rotate_left
   ·grind
   ·exact h.elim
   rename_i c hc
   by_cases hcb:c=b
   ·grind
   grind
theorem JQ {ds:List (Option Nat)} {vals:List V} {t:Nat} {x:V} : ∀(l:List Nat) (fr:List V),(Zx ds vals l fr)[t]? =some x->(∃j∈l,vals[j]? =some x/\ds[j]? =some (some t))\/fr[t]? =some x
 | [],fr,h=> .inr h
 | j::l,fr,h=>by
  simp only [Zx] at h
  split at h
  ·rename_i d v h1 h2;rcases JQ l _ h with ⟨k,hk,h3⟩ | h3
   ·exact .inl ⟨k,by simp [hk],h3⟩
   ·rw [YG,List.getElem?_set] at h3
    split at h3
    ·rename_i e
     split at h3
     ·simp at h3;subst h3;subst e;exact .inl ⟨j,Zb,h2,h1⟩
     ·cases h3
    ·exact .inr h3
  ·rcases JQ l _ h with ⟨k,hk,h3⟩ | h3
   ·exact .inl ⟨k,by simp [hk],h3⟩
   ·exact .inr h3
theorem Xk {ds:List (Option Nat)} {vals:List V} : ∀(l:List Nat) (fr:List V),(Zx ds vals l fr).length=fr.length
 | [],_=>rfl
 | j::l,fr=>by
  simp only [Zx]
  split
  ·rw [Xk l];simp [YG]
  ·exact Xk l fr
theorem QA {t:Nat} {x:V} : ∀(l:List (Option Nat)) (fr:List V),(ZD l fr)[t]? =some x->x= .junk\/(some t ∉ l/\fr[t]? =some x)
 | [],fr,h=> .inr ⟨Zb,h⟩
 | some d::l,fr,h=>by
  simp only [ZD] at h;rcases QA l _ h with h1 | ⟨h1,h2⟩
  ·exact .inl h1
  ·rw [YG,List.getElem?_set] at h2
   split at h2
   ·split at h2
    ·simp at h2;exact .inl h2.symm
    ·cases h2
   ·rename_i hne;exact .inr ⟨by simp;exact ⟨fun h=>hne h.symm,h1⟩,h2⟩
 | none::l,fr,h=>by
  simp only [ZD] at h;rcases QA l _ h with h1 | ⟨h1,h2⟩
  ·exact .inl h1
  ·exact .inr ⟨by simpa using h1,h2⟩
theorem Xv : ∀(l:List (Option Nat)) (fr:List V),(ZD l fr).length=fr.length
 | [],_=>rfl
 | some d::l,fr=>by simp only [ZD];rw [Xv l];simp [YG]
 | none::l,fr=>Xv l fr
def H7 (ops:Array Oper) (n:Nat):Bool :=
 (List.range n).all fun i=>match ops[i]? with
  | some o=>o.after.all fun e=> !Region.binds .any e||decide (e.on<i)
  | none=>true
def WU (ds:List (Option Nat)) (n:Nat):Bool :=
 (List.range n).all fun i=>(List.range n).all fun j=>decide (i=j)||match ds[i]?,ds[j]? with
  | some (some a),some (some b)=>decide (a≠b)
  | _,_=>true
def YF (ops:Array Oper) (n:Nat):Bool :=
 decide (n<=ops.size)&&(decide (n=ops.size)||(Region.sinkB .any ops n&&Region.chainB .any ops n))&&H7 ops n&&WU (ops.toList.map (·.dst)) n &&
  Region.seqB .any ops (ops.size-n) n (Array.replicate n true++Array.replicate (ops.size-n) false)
structure Mid (F:Nat->Prop) (H:List Obj) (ds:List (Option Nat)) (fr vals:List V) (n:Nat) (listed:Array Bool) (ι:List (Option Nat)) (a:Act) (w:World):Prop where
 rel:Rel F H ι w
 size:a.tmps.size=fr.length
 defers:a.defers= []
 old: ∀(t:Nat) (x:V),fr[t]? =some x->some t ∉ ds.take n->RV F H ι w x (a.tmps.getD t undef)
 new: ∀(j d:Nat) (x:V),j<n->listed.getD j false=true->ds[j]? =some (some d)->vals[j]? =some x->d<fr.length->RV F H ι w x (a.tmps.getD d undef)
theorem Mid.fr {F H ds fr vals n listed ι a w} (m:Mid F H ds fr vals n listed ι a w) (l:List Nat) (hl: ∀j∈l,j<n/\listed.getD j false=true) :
  Fr F H ι w (Zx ds vals l (ZD (ds.take n) fr)) a:=by
 refine ⟨by rw [Xk,Xv];exact m.size,m.defers,fun t x hx=> ?_⟩;have hlt:=(List.getElem?_eq_some_iff.1 hx).1;rw [Xk,Xv] at hlt;rcases JQ _ _ hx with ⟨j,hj,h1,h2⟩ | h1
 ·exact m.new j t x (hl j hj).1 (hl j hj).2 h2 h1 hlt
 ·rcases QA _ _ h1 with rfl | ⟨h2,h3⟩
  ·exact .junk _
  ·exact m.old t x h3 h2
theorem Mid.put {F H ds fr vals n listed ι a w ι' w' i d x v} (m:Mid F H ds fr vals n listed ι a w) (hap:WU ds n=true) (g:Good F H ι w H ι' w') (hi:i<n) (hdi:ds[i]? =some d) (hx:vals[i]? =some x) (hv:RV F H ι' w' x v) :
  Mid F H ds fr vals n (listed.setIfInBounds i true) ι' (a.put d v) w':=by
 refine ⟨g.rel,?_,?_,fun t y ht hn=> ?_,fun j e y hj hl hd hy hlt=> ?_⟩
 ·cases d<;>simp [Act.put,m.size]
 ·cases d<;>exact m.defers
 ·have:=g.rv (m.old t y ht hn)
  cases d with
  | none=>exact this
  | some d =>
   have hne:d≠t:=fun h=>hn (by
    subst h;rw [List.mem_iff_getElem?]
    exact ⟨i,by grind⟩)
   have e:((a.put (some d) v).tmps).getD t undef=a.tmps.getD t undef:=by
    simp [Act.put,Array.getD_eq_getD_getElem?,Array.getElem?_setIfInBounds_ne hne]
   rw [e];exact this
 ·by_cases hij:j=i
  ·subst hij;rw [hdi] at hd;simp at hd;subst hd;rw [hx] at hy;simp at hy;subst hy
   have:e<a.tmps.size:=by rw [m.size];exact hlt
   simpa [Act.put,Array.getD,this] using hv
  ·have hl':listed.getD j false=true:=by rwa [getD_set_ne false (fun h=>hij h.symm)] at hl
   have:=g.rv (m.new j e y hj hl' hd hy hlt)
   cases d with
   | none=>exact this
   | some d =>
    have hne:d≠e:=fun h=>by
     subst h;have:=List.all_eq_true.1 (List.all_eq_true.1 hap i (List.mem_range.2 hi)) j (List.mem_range.2 hj)
     grind
    have e':((a.put (some d) v).tmps).getD e undef=a.tmps.getD e undef:=by
     simp [Act.put,Array.getD_eq_getD_getElem?,Array.getElem?_setIfInBounds_ne hne]
    rw [e'];exact this
theorem Ez {P:Program} {ops:Array Oper} {Q:Exit->Act->World->Prop} {F H fr vals} {n:Nat} (hB:YF ops n=true) (hvl:vals.length=n)
  (hok: ∀(i:Nat) (o:Oper),i<n->ops[i]? =some o->By P (ops.toList.map (·.dst)) (ZD ((ops.toList.map (·.dst)).take n) fr) H vals i o) {ι0 w0}
  (ht: ∀ι a w,Good F H ι0 w0 H ι w->Fr F H ι w (Zx (ops.toList.map (·.dst)) vals (List.range n) (ZD ((ops.toList.map (·.dst)).take n) fr)) a->wpList P ops Q (ops.toList.drop n) a w) :
  ∀(m:Nat) (listed:Array Bool) (ι:List (Option Nat)) (a:Act) (w:World),HeadInv .any ops n listed->((List.range n).filter fun i=> !listed.getD i false).length=m ->
   Mid F H (ops.toList.map (·.dst)) fr vals n listed ι a w->Good F H ι0 w0 H ι w->wpAny P .any ops Q (m+(ops.size-n)) listed a w:=by
 simp only [YF,Bool.and_eq_true,decide_eq_true_eq,Bool.or_eq_true] at hB;obtain ⟨⟨⟨⟨hn,hsc⟩,hea⟩,hap⟩,hseq⟩:=hB;intro m
 induction m with
 | zero =>
  intro listed ι a w inv hm mid gd
  have Z7: ∀i,i<n->listed.getD i false=true:=fun i hi=>by
   simp_all
  have hl:listed=Array.replicate n true++Array.replicate (ops.size-n) false:=by
   refine Array.ext (by simp [inv.size];omega) fun i h1 h2=> ?_
   by_cases hi:i<n
   ·have:=Z7 i hi
    simp_all
   ·have:=inv.tail i Za (by grind)
    simp_all
  have hw:=ht ι a w gd (mid.fr (List.range n) fun j hj=>⟨List.mem_range.1 hj,Z7 j (List.mem_range.1 hj)⟩);have:=wpAny_of_seq (md:= .any) (Q':=Q) (ops.toList.drop n) n listed a w (fun j=>Zb) (by grind) hw
  grind
 | succ m ih =>
  intro listed ι a w inv hm mid gd
  -- one that is ready
  have hun: ∃i,i<n/\listed.getD i false=false:=by
   cases hf:(List.range n).filter fun i=> !listed.getD i false with
   | nil=>grind
   | cons i l =>
    have:i∈(List.range n).filter fun i=> !listed.getD i false:=by rw [hf];simp
    grind
  have hsz: ∀ {i},i<n->i<listed.size:=fun h=>by rw [inv.size];omega
  have hready:Region.ready .any ops listed≠ []:=by
   obtain ⟨i,hi,hu⟩:=hun
   -- the least
   have: ∃i,i<n/\listed.getD i false=false/\ ∀j,j<i->listed.getD j false=true:=by
    induction i using Nat.strongRecOn with
    | _ i ihh =>
     grind
   obtain ⟨i,hi,hu,hmin⟩:=this;intro h0
   have:i∈Region.ready .any ops listed:=by
    have hlt:i<ops.size:=Za
    refine mem_ready.2 ⟨getD_in (hsz hi) hu,ops[i],by simp [hlt],fun e he hb=> ?_⟩;have h1:=List.all_eq_true.1 hea i (List.mem_range.2 hi)
    grind [Array.all_eq_true_iff_forall_mem]
   grind
  rw [show m+1+(ops.size-n)=(m+(ops.size-n))+1 by omega];refine ⟨fun h0=>absurd h0 hready,fun i hi=> ?_⟩
  have hin:i<n:=by
   rcases hsc with h | ⟨hs,hc⟩
   ·grind [mem_ready]
   ·rcases Nat.lt_or_ge i n with h | h
    ·exact h
    ·obtain ⟨k,hk,hu⟩:=hun
     by_cases hne:n<ops.size
     ·exact absurd hi (tail_waits hs hc hne inv _ k rfl hk (getD_in (hsz hk) hu) i h)
     grind [mem_ready]
  obtain ⟨hiu,o,ho,Z7⟩:=mem_ready.1 hi;obtain ⟨y,hy,hok'⟩:=hok i o hin ho
  have hds:(ops.toList.map (·.dst))[i]? =some o.dst:=by simp [ho]
  have hfr:Fr F H ι w (Zx (ops.toList.map (·.dst)) vals (Zz i o) (ZD ((ops.toList.map (·.dst)).take n) fr)) a:=mid.fr _ fun j hj=>by
   refine ⟨by have:=X0 j hj;omega,?_⟩;simp [Zz] at hj
   grind
  have hcount:((List.range n).filter fun k=> !(listed.setIfInBounds i true).getD k false).length=m:=by
   have e:((List.range n).filter fun k=> !(listed.setIfInBounds i true).getD k false)=((List.range n).filter fun k=> !listed.getD k false).filter (fun k=>k≠i):=by
    rw [List.filter_filter];refine List.filter_congr fun k hk=> ?_
    by_cases hki:k=i
    ·simp_all
    ·rw [getD_set_ne false (fun h=>hki h.symm)];simp [hki]
   rw [e]
   have hmem:i∈(List.range n).filter fun k=> !listed.getD k false:=by
    grind
   have hnd:((List.range n).filter fun k=> !listed.getD k false).Nodup:=List.nodup_range.filter _;have:=List.Nodup.erase_eq_filter hnd i
   grind
  have next: ∀ι' v w',Good F H ι w H ι' w'->RV F H ι' w' y v->wpAny P .any ops Q (m+(ops.size-n)) (listed.setIfInBounds i true) (a.put o.dst v) w':=fun ι' v w' g r =>
   ih _ ι' _ w' (inv.set hi hin) hcount (mid.put hap g hin hds hy r) (gd.trans g)
  have run:Zs P o (Zx (ops.toList.map (·.dst)) vals (Zz i o) (ZD ((ops.toList.map (·.dst)).take n) fr)) H (fun x H'=>x=y/\H'=H)->o.wp P a w (wpAny P .any ops Q (m+(ops.size-n)) (listed.setIfInBounds i true)) Q:=fun h =>
   QQ h mid.rel hfr fun x H' ι' v w' hk g r=>by
    grind
  unfold wpOp;simp only [ho]
  split at hok'
  ·simp_all [Region.wanted]
  ·rename_i j b hg;rcases hok' with ⟨c,hc,h1,h2⟩ | ⟨hc,hyt⟩
   rotate_left
   ·have hyl:=Ye hfr hc
    have hw: ¬(Region.wanted o (yielded ops a.tmps)=true):=by grind [Region.wanted]
    rw [if_neg hw];exact next ι undef w (Good.refl mid.rel) (by grind [Yp])
   have hyl:=Y9 hfr hc
   by_cases hcb:c=b
   ·simp_all [Region.wanted]
   ·have hw: ¬(Region.wanted o (yielded ops a.tmps)=true):=by grind [Region.wanted]
    rw [if_neg hw];exact next ι undef w (Good.refl mid.rel) (by grind [Yp])
theorem F9 {P:Program} {id:Nat} {ops:Array Oper} {fr:List V} {H:List Obj} {Q:Exit->List V->List Obj->Prop} (n:Nat) (hm:P.follows .mixedOrders=true) (hB:YF ops n=true)
  (h:hd P (ops.toList.map (·.dst)) (ZD ((ops.toList.map (·.dst)).take n) fr) H
   (fun vals=>Xm P (ops.toList.map (·.dst)) (ops.toList.drop n) (Zx (ops.toList.map (·.dst)) vals (List.range n) (ZD ((ops.toList.map (·.dst)).take n) fr)) H (Q .normal)) 0 (ops.toList.take n) []) :
  AWP P (.region id ops true) fr H Q:=fun F ι a w hr hf=>by
 refine wp_region_any hm ?_
 have hn:n<=ops.size:=by
  simp_all [YF]
 obtain ⟨ys,h1,h2,h3⟩:=UV _ 0 [] rfl h;simp only [List.nil_append] at h2 h3
 have hlen:ys.length=n:=by grind
 have g0:=Good.drew hr;have hf0:=g0.fr hf
 have:=Ez (Q:=fun e a' w'=> ∃fr' H' ι',Q e fr' H'/\Good F H ι w H' ι' w'/\Fr F H' ι' w' fr' a') (F:=F) (fr:=fr) (vals:=ys) (P:=P) (ι0:=ι) (w0:= { w with drawn:=w.drawn+1 }) hB hlen
  (fun i o hi ho=>by
   grind)
  (fun ι1 a1 w1 g1 f1=>Z6 _ _ H _ h2 F ι1 a1 w1 g1.rel f1 fun fr' H' ι' a' w' k g f=>⟨fr',H',ι',k,g0.trans (g1.trans g),f⟩)
  n (Array.replicate ops.size false) ι a { w with drawn:=w.drawn+1 }
  ⟨Zb,fun j oj _ hl=>(by grind [getD_replicate_false]),fun t _ ht=>getD_in (by grind) (getD_replicate_false _ _)⟩
  (by
   grind [List.filter_eq_self,getD_replicate_false])
  ⟨g0.rel,hf0.1,hf0.2.1,fun t x ht _=>hf0.2.2 t x ht,fun j d x _ hl=>by grind [getD_replicate_false]⟩
  (Good.refl g0.rel)
 grind
end Go.AM
