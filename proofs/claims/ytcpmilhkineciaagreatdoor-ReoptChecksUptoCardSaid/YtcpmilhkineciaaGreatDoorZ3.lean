/- Declarations that the closing texts need, part 3: joined by tools/slim.py. -/
import Derived.Test.YtcpmilhkineciaaGreatDoorZ2
import Derived.Deep.LoopGhost
import Derived.MapKept
import Derived.StillTail
import Derived.WideKeyRuns
set_option linter.unusedVariables false
set_option linter.unusedSimpArgs false
namespace Go.AM
open Go.RowKit
def ZwU : Obj->Bool
 | .map _=>true
 | _=>false
def V.one (H:List Obj):V->Bool
 | .p x=>x.one
 | .fn _ _ _=>true
 | .lp _ _=>true
 | .ptr o off=>Ya H (.ptr o off)
 | .ep o i j tot=>Ya H (.ep o i j tot)
 | .sl o _ _ tot=>match oat H o with | .elems _ xs=>decide (xs.length=tot) | .cells _=>true | _=>false
 | .mp o=>ZwU (oat H o)
 | _=>false
theorem RV.oneCell {F H ι w x v} (h:RV F H ι w x v) (h1:x.one H=true):v.oneCell'=true:=by
 unfold V.one at h1
 split at h1
 ·cases h with | p _ _ h=>exact h.oneCell h1
 ·cases h;rfl
 ·cases h;rfl
 ·obtain ⟨b,off,rfl,_⟩:=X9 h1 h;rfl
 ·obtain ⟨b,off,rfl,_⟩:=X9 h1 h;rfl
 ·split at h1
  ·rename_i S xs ho;have hH:=Zz ho (by simp);simp at h1
   cases h with
   | slNil=>rfl
   | sl=>rfl
   | slD _ _ _ _ _ hd=>rw [hH] at hd;cases hd
   | slS _ _ _ _ _ S2 xs2 hd hne=>rw [hH] at hd;simp at hd;obtain ⟨_,rfl⟩:=hd;omega
   | slC _ _ _ _ _ _ hd=>rw [hH] at hd;cases hd
  ·rename_i cs ho;have hH:=Zz ho (by simp)
   cases h with
   | slC=>rfl
   | slNil _ _ _ _ hd=>rw [hH] at hd;cases hd
   | sl _ _ _ _ _ _ _ _ _ _ _ hd=>rw [hH] at hd;cases hd
   | slD _ _ _ _ _ hd=>rw [hH] at hd;cases hd
   | slS _ _ _ _ _ S2 xs2 hd hne=>rw [hH] at hd;cases hd
  ·cases h1
 ·rename_i o
  cases h with
  | mp=>rfl
  | mpD _ _ hd =>
   cases ho:oat H o with
   | map es=>rw [Zz ho (by simp)] at hd;cases hd
   | _=>rw [ho] at h1;cases h1
 ·cases h1
theorem cells_one {v:Value} (h:v.oneCell'=true):v.cells= #[v]:=by cases v<;>simp_all [Value.oneCell',Value.cells]
def vc (H:List Obj):V->Option (List V)
 | .p (.agg cs)=>if cs.all (·.one) then some (cs.map .p) else none
 | .agg cs=>if cs.all (V.one H) then some cs else none
 | x=>if x.one H then some [x] else none
theorem V6 {F H ι w x v cs} (h:vc H x=some cs) (hv:RV F H ι w x v):v.cells.size=cs.length/\ ∀(j:Nat) (c:V),cs[j]? =some c->RV F H ι w c (v.cells.getD j undef)/\(v.cells.getD j undef).oneCell'=true:=by
 unfold vc at h
 split at h
 ·rename_i ps
  split at h
  ·rename_i ha;simp at h;subst h
   cases hv with | p _ _ hv =>
   obtain ⟨a,rfl,hs,hr⟩:=hv.agg_inv;refine ⟨by simpa [Value.cells] using hs,fun j c hj=> ?_⟩;simp only [List.getElem?_map,Option.map_eq_some_iff] at hj;obtain ⟨y,hy,rfl⟩:=hj;have:=hr j y hy;exact ⟨.p _ _ this,this.oneCell (List.all_eq_true.1 ha y (List.mem_iff_getElem?.2 ⟨j,hy⟩))⟩
  ·cases h
 ·rename_i ps
  split at h
  ·rename_i ha;simp at h;subst h
   cases hv with
   | agg _ a hs hr =>
    refine ⟨by simpa [Value.cells] using hs,fun j c hj=> ?_⟩;have:=hr j c hj;exact ⟨this,this.oneCell (List.all_eq_true.1 ha c (List.mem_iff_getElem?.2 ⟨j,hj⟩))⟩
  ·cases h
 ·split at h
  ·rename_i h1;simp at h;subst h;have ho:=hv.oneCell h1;rw [cells_one ho];refine ⟨by simp,fun j c hj=> ?_⟩
   cases j with
   | zero=>simp at hj;subst hj;exact ⟨by simpa using hv,by simpa using ho⟩
   | succ j=>simp at hj
  ·cases h
def Xb (P:Program) (t:TypeId):Option (List PV):=((P.info? t).bind (·.zero)).bind fun z=>cvs z.cells.toList
def OpS (P:Program) (o:Oper) (fr:List V) (H:List Obj) (x:V) (H':List Obj):Prop :=
 ∀F ι a w,Rel F H ι w->Fr F H ι w fr a-> ∃nx v ι' w',(execOp a.eval o).run P w= .ok nx w'/\(nx= .value v\/(nx= .skip/\v=undef))/\Good F H ι w H' ι' w'/\RV F H' ι' w' x v
theorem PureOp.ops {P o fr H x} (h:PureOp P o fr H x):OpS P o fr H x H:=fun F ι a w hr hf=>by
 obtain ⟨v,e,r⟩:=h F ι a w hr hf;exact ⟨_,v,ι,w,e,.inl rfl,Good.refl hr,r⟩
theorem Ze7 {P:Program} {o:Oper} {fr:List V} {H:List Obj} (t:TypeId) (zs:List PV) (h:o.op= .alloc t) (hz:Xb P t=some zs):OpS P o fr H (.ptr H.length 0) (H++ [.cells (zs.map .p)]):=fun F ι a w hr hf=>by
 unfold Xb at hz;simp only [Option.bind_eq_some_iff] at hz;obtain ⟨z,⟨i,hi,hz⟩,hc⟩:=hz;obtain ⟨c1,c2⟩:=ZaL (X:=Own F ι) (w:=w) _ _ hc
 have g:=X6 (H:=H) (t:=t) hr (Pushed.alloc w z.cells t) (.cells (zs.map .p)) ⟨by simpa using c1,fun j x hj=>by
  simp only [List.getElem?_map,Option.map_eq_some_iff] at hj;obtain ⟨y,hy,rfl⟩:=hj;have:=c2 j y hy;refine .p _ _ ?_
  simpa [Array.getD_eq_getD_getElem?] using this⟩
 refine ⟨_,.pointer (some ⟨w.heap.size,0,none⟩),_,_,?_,.inl rfl,g,.ptr _ 0 _ (zs.map .p) (by rw [<- hr.len];simp) (by simp)⟩;simp [execOp,h,Instr.alloc,zeroValue,typeInfo,hi,hz,newVar,newRow]
theorem Zky {P:Program} {o:Oper} {fr:List V} {H:List Obj} (t:TypeId) (x:Operand) (cs:List V) (h:o.op= .box t x) (hz:vc H (ev fr x)=some cs):OpS P o fr H (.ptr H.length 0) (H++ [.cells cs]):=fun F ι a w hr hf=>by
 obtain ⟨c1,c2⟩:=V6 hz (hf.ev x);have g:=X6 (H:=H) (t:=t) hr (Pushed.alloc w (a.eval x).cells t) (.cells cs) ⟨c1,fun j x hj=>(c2 j x hj).1⟩;refine ⟨_,.pointer (some ⟨w.heap.size,0,none⟩),_,_,?_,.inl rfl,g,.ptr _ 0 _ cs (by rw [<- hr.len];simp) (by simp)⟩;simp [execOp,h,Instr.box,newVar,newRow]
def spl {α:Type} :List α->Nat->List α->List α
 | [],_,_=> []
 | x::l,0,c::cs=>c::spl l 0 cs
 | x::l,0,[]=>x::l
 | x::l,n+1,cs=>x::spl l n cs
theorem WJ {α:Type} : ∀(l:List α) (n:Nat) (cs:List α),(spl l n cs).length=l.length
 | [],_,_=>by simp [spl]
 | x::l,0,c::cs=>by simp [spl,WJ l 0 cs]
 | x::l,0,[]=>by simp [spl]
 | x::l,n+1,cs=>by simp [spl,WJ l n cs]
theorem Vz {α:Type} : ∀(l:List α) (n:Nat) (cs:List α) (j:Nat) (x:α),n+cs.length<=l.length->(spl l n cs)[j]? =some x->(n<=j/\cs[j-n]? =some x)\/((j<n\/n+cs.length<=j)/\l[j]? =some x)
 | [],n,cs,j,x,_,h=>by simp [spl] at h
 | y::l,0,c::cs,j,x,hl,h=>by
  cases j with
  | zero=>simp [spl] at h;subst h;exact .inl ⟨by omega,by simp⟩
  | succ j =>
   simp only [spl,List.getElem?_cons_succ] at h;rcases Vz l 0 cs j x (by simp at hl ⊢;omega) h with ⟨_,h2⟩ | ⟨h1,h2⟩
   ·exact .inl ⟨by omega,by simpa using h2⟩
   ·exact .inr ⟨by simp at h1 ⊢;omega,by simpa using h2⟩
 | y::l,0,[],j,x,_,h=>by simp only [spl] at h;exact .inr ⟨.inr (by simp),h⟩
 | y::l,n+1,cs,j,x,hl,h=>by
  cases j with
  | zero=>simp [spl] at h;subst h;exact .inr ⟨.inl (by omega),by simp⟩
  | succ j =>
   simp only [spl,List.getElem?_cons_succ] at h;rcases Vz l n cs j x (by simp at hl;omega) h with ⟨h1,h2⟩ | ⟨h1,h2⟩
   ·exact .inl ⟨by omega,by rw [show j+1-(n+1)=j-n by omega];exact h2⟩
   ·exact .inr ⟨by omega,by simpa using h2⟩
theorem V2 {α:Type} {l:List α} {i:Nat} {x:α} (h:l[i]? =some x):l.set i x=l:=by
 apply List.ext_getElem?;intro j;rw [List.getElem?_set]
 split
 ·rename_i e;subst e;rw [h];simp [(List.getElem?_eq_some_iff.1 h).1]
 ·rfl
def ost : List Obj->Nat->Obj->List Obj
 | [],_,_=> []
 | _::l,0,x=>x::l
 | y::l,n+1,x=>y::ost l n x
theorem JK : ∀(l:List Obj) (n:Nat) (x:Obj),ost l n x=l.set n x
 | [],n,x=>by simp [ost]
 | y::l,0,x=>by simp [ost]
 | y::l,n+1,x=>by simp [ost,JK l n x]
def mkE (x:PV) (cs:List PV):PV:=match x with | .agg _=> .agg cs | _=>cs.headD .nilp
theorem Zdo {x:PV} {cs:List PV} (h:cs.length=x.cells.length) (h1: ∀c∈cs,c.one=true):(mkE x cs).cells=cs:=by
 unfold mkE
 split
 ·rfl
 ·rename_i hx
  have:x.cells= [x]:=by cases x<;>simp_all [PV.cells]
  rw [this] at h
  match cs,h with
  | [c],_=>simpa using PV.cells_one (h1 c (by simp))
def VS (H:List Obj) (n:Nat) (a:V) (cs:List V):Option (List Obj) :=
 if cs.length=n then
  match a with
  | .ptr o off=>match oat H o with
   | .cells old=>if off+n<=old.length then some (ost H o (.cells (spl old off cs))) else none
   | _=>none
  | .ep o i j tot=>match oat H o,U8 cs with
   | .elems S xs,some ps=>if xs.length=tot/\i<xs.length/\j+n<=(elt xs i).cells.length/\ps.all (·.one)=true/\(elt xs i).cells.all (·.one)=true then
     some (ost H o (.elems S (xs.set i (mkE (elt xs i) (spl (elt xs i).cells j ps))))) else none
   | _,_=>none
  | _=>none
 else none
theorem YI (cur vs:List Value) (o k:Nat) (h:o+vs.length<=cur.length):((cur.take o++vs++cur.drop (o+vs.length)).toArray).getD k undef=if o<=k/\k<o+vs.length then vs.getD (k-o) undef else cur.getD k undef:=by
 have hto:(cur.take o).length=o:=by simp;omega
 simp only [Array.getD_eq_getD_getElem?,List.getElem?_toArray,List.getD_eq_getElem?_getD]
 split
 ·rename_i hk;rw [List.append_assoc,List.getElem?_append_right (by omega),hto,List.getElem?_append_left (by omega)]
 ·rename_i hk
  by_cases hlt:k<o
  ·rw [List.append_assoc,List.getElem?_append_left (by omega),List.getElem?_take_of_lt hlt]
  ·rw [List.getElem?_append_right (by simp;omega),List.getElem?_drop]
   congr 2
   simp;omega
theorem VH {P:Program} {w:World} {b off n:Nat} {t u:TypeId} {cur:Array Value} {v:Value} (hs:tsz P t=some n) (hv:v.cells.size=n) (hg:w.heap[b]? =some (.cells cur u (0,0))) (hl:off+n<=cur.size)
  (h1: ∀j,j<n->(v.cells.getD j undef).oneCell'=true) :
  (Instr.storeAt t (.pointer (some ⟨b,off,none⟩)) v).run P w= .ok () (w.setRow b (cur.toList.take off++v.cells.toList++cur.toList.drop (off+v.cells.size)).toArray):=by
 have hst:=run_storeCells_at P b off u v.cells.toList 0 cur w hg (by simp;omega) (fun x hx=>by
  obtain ⟨j,hj⟩:=List.mem_iff_getElem?.1 hx;have:=h1 j (by have:=(List.getElem?_eq_some_iff.1 hj).1;simp at this;omega)
  have e:v.cells.getD j undef=x:=by simp at hj;simp [Array.getD_eq_getD_getElem?,hj]
  rwa [e] at this)
 simp only [Nat.add_zero] at hst;simp [Instr.storeAt,Instr.sureAddr,storeVar,ZT hs,hv,hst]
theorem Zfm {P:Program} {o:Oper} {fr:List V} {H H':List Obj} (t:TypeId) (x y:Operand) (n:Nat) (cs:List V) (h:o.op= .store t x y) (hs:tsz P t=some n) (hc:vc H (ev fr y)=some cs) (hz:VS H n (ev fr x) cs=some H'):OpS P o fr H .junk H':=fun F ι a w hr hf=>by
 obtain ⟨c1,c2⟩:=V6 hc (hf.ev y);have hx:=hf.ev x;unfold VS at hz
 split at hz
 rotate_left
 ·cases hz
 rename_i hlen;have hone: ∀j,j<n->((a.eval y).cells.getD j undef).oneCell'=true:=fun j hj=>(c2 j (cs[j]'(by omega)) (by simp)).2
 split at hz
 ·rename_i o' off he;rw [he] at hx
  split at hz
  ·rename_i old ho;have hH:=Zz ho (by simp)
   split at hz
   ·rename_i hle;simp at hz;subst hz;obtain ⟨b,c,u,h1,h2,h3,h4⟩:=hr.cel o' old hH;obtain ⟨b',off',e,_⟩:=X9 (by simp [Ya,ho]) hx
    have e2:a.eval x= .pointer (some ⟨b,off,none⟩):=by
     generalize a.eval x=v at hx e;subst e
     cases hx with
     | ptr _ _ b2 _ hb2 _=>rw [h1] at hb2;simp at hb2;subst hb2;rfl
     | ptrD _ _ _ hd=>rw [hH] at hd;cases hd
    have hrun:=VH (v:=a.eval y) (off:=off) hs (by omega) h2 (by omega) hone
    have g:=QU (cs':=spl old off cs) hr hH h1 h2 (Turned.setRow (c:=(c.toList.take off++(a.eval y).cells.toList++c.toList.drop (off+(a.eval y).cells.size)).toArray) h2)
     (by simp [WJ];omega) (by simp;omega) (fun j z hj=>by
      have hget:=YI c.toList (a.eval y).cells.toList off j (by simp;omega);simp only [Array.length_toList] at hget;rw [hget];rcases Vz old off cs j z (by omega) hj with ⟨p1,p2⟩ | ⟨p1,p2⟩
      ·have hlt:=(List.getElem?_eq_some_iff.1 p2).1;rw [if_pos (by omega)];simpa [Array.getD_eq_getD_getElem?] using (c2 _ z p2).1
      ·rw [if_neg (by omega)]
       simpa [Array.getD_eq_getD_getElem?] using h4 j z p2)
    refine ⟨_,undef,ι,_,?_,.inr ⟨rfl,rfl⟩,(by rw [JK];exact g),.junk _⟩;simp [execOp,h,e2,hrun]
   ·cases hz
  ·cases hz
 ·rename_i o' i j tot he;rw [he] at hx
  split at hz
  ·rename_i S xs ps ho hps;have hH:=Zz ho (by simp);have ecs:=Us _ _ hps
   split at hz
   ·rename_i hle;obtain ⟨ht,hi,hjn,XW,hall2⟩:=hle;simp at hz;subst hz;rcases hr.elm o' S xs hH with ⟨_,rfl⟩ | ⟨b,c,u,cap,h1,h2,h3,h4,h5,h6,h7⟩
    ·simp at hi
    have hxi:=Wg hi;have hS:=h6 i _ hxi
    have e2:a.eval x= .pointer (some ⟨b,i*S+j,none⟩):=by
     obtain ⟨b',off',e,_⟩:=X9 (by simp [Ya,ho,ht]) hx;generalize a.eval x=v at hx e;subst e
     cases hx with
     | ep _ _ _ _ b2 S2 xs2 hb2 hH2 _ =>
      rw [h1] at hb2;simp at hb2;subst hb2;rw [hH] at hH2;simp at hH2;obtain ⟨rfl,_⟩:=hH2;rfl
     | epD _ _ _ _ _ hd=>rw [hH] at hd;cases hd
     | epS _ _ _ _ _ S2 xs2 hd hne=>rw [hH] at hd;simp at hd;obtain ⟨_,rfl⟩:=hd;omega
    have hcap:(i+1)*S<=c.size:=by rw [h3];exact Nat.mul_le_mul_right _ (by omega)
    rw [Nat.add_mul,Nat.one_mul] at hcap;have hrun:=VH (v:=a.eval y) (off:=i*S+j) hs (by omega) h2 (by omega) hone;have hT:Turned w (w.setRow b (c.toList.take (i*S+j)++(a.eval y).cells.toList++c.toList.drop (i*S+j+(a.eval y).cells.size)).toArray) b _ u:=Turned.setRow h2
    have hlps:ps.length=n:=by have:=congrArg List.length ecs;simp at this;omega
    have hE:(mkE (elt xs i) (spl (elt xs i).cells j ps)).cells=spl (elt xs i).cells j ps:=Zdo (WJ _ _ _) (fun q hq=>by
     obtain ⟨m,hm⟩:=List.mem_iff_getElem?.1 hq;rcases Vz _ _ _ m q (by omega) hm with ⟨_,p2⟩ | ⟨_,p2⟩
     ·exact List.all_eq_true.1 XW q (List.mem_iff_getElem?.2 ⟨_,p2⟩)
     ·exact List.all_eq_true.1 hall2 q (List.mem_iff_getElem?.2 ⟨_,p2⟩))
    have g:=Z1 (w':=w.setRow b (c.toList.take (i*S+j)++(a.eval y).cells.toList++c.toList.drop (i*S+j+(a.eval y).cells.size)).toArray) (cap:=cap)
     (xs':=xs.set i (mkE (elt xs i) (spl (elt xs i).cells j ps))) hr hH hT.os hT.tape hT.output (fun c0 t0 hc0=>by rw [h2] at hc0;simp at hc0;obtain ⟨rfl,rfl⟩:=hc0;exact ⟨rfl,by simp;omega⟩) (by rw [hT.size];exact Nat.le_refl _) hT.at' (fun k _ hk=>hT.other k hk)
     (.inl ⟨h1,.inl ⟨by simp,fun c0 t0 hc0=>by rw [h2] at hc0;simp at hc0;obtain ⟨rfl,rfl⟩:=hc0;exact ⟨rfl,by simp;omega⟩⟩⟩)
     (by simp;omega) (by simpa using h4) h5
     (fun k z hk=>by
      rw [List.getElem?_set] at hk
      split at hk
      ·rename_i e;subst e;simp [hi] at hk;subst hk;rw [hE,WJ];exact hS
      ·exact h6 k z hk)
     (fun k z m q hk hm=>by
      have hget:=YI c.toList (a.eval y).cells.toList (i*S+j) (k*S+m) (by simp;omega);simp only [Array.length_toList] at hget;rw [hget];rw [List.getElem?_set] at hk
      split at hk
      ·rename_i e;subst e;simp [hi] at hk;subst hk;rw [hE] at hm
       have hmS:m<S:=by have:=(List.getElem?_eq_some_iff.1 hm).1;rw [WJ] at this;omega
       rcases Vz _ _ _ m q (by omega) hm with ⟨p1,p2⟩ | ⟨p1,p2⟩
       ·have hlt:=(List.getElem?_eq_some_iff.1 p2).1;rw [if_pos (by omega)];have:=(c2 (m-j) (.p q) (by rw [ecs];simp [p2])).1
        cases this with | p _ _ this =>
        rw [show i*S+m-(i*S+j)=m-j by omega];simpa [Array.getD_eq_getD_getElem?] using this
       ·rw [if_neg (by omega)];have:=h7 i _ m q hxi p2;simpa [Array.getD_eq_getD_getElem?] using this
      ·rename_i hki
       have hmS:m<S:=by have:=(List.getElem?_eq_some_iff.1 hm).1;have:=h6 k z hk;omega
       have hne: ¬(i*S+j<=k*S+m/\k*S+m<i*S+j+(a.eval y).cells.size):=by
        intro ⟨q1,q2⟩
        have hsz:(a.eval y).cells.size<=S-j:=by omega
        rcases Nat.lt_or_gt_of_ne hki with hlt | hgt
        ·have:(i+1)*S<=k*S:=Nat.mul_le_mul_right _ (by omega);rw [Nat.add_mul,Nat.one_mul] at this;omega
        ·have:(k+1)*S<=i*S:=Nat.mul_le_mul_right _ (by omega);rw [Nat.add_mul,Nat.one_mul] at this;omega
       rw [if_neg hne];have:=h7 k z m q hk hm
       simpa [Array.getD_eq_getD_getElem?] using this)
    have eι:ι.set o' (some b)=ι:=V2 h1;refine ⟨_,undef,ι,_,?_,.inr ⟨rfl,rfl⟩,(by rw [JK];rw [eι] at g;exact g),.junk _⟩;simp [execOp,h,e2,hrun]
   ·cases hz
  ·cases hz
 ·cases hz
end Go.AM
namespace Go.AM
open Go.RowKit
def plL (l:List (Nat×Nat)) (i:Nat):Option (Nat×Nat):=l[i]?
def plA (n i:Nat):Option (Nat×Nat):=some (i*n,n)
def tpl (P:Program) (t:TypeId):Option (Nat->Option (Nat×Nat)) :=
 match P.underlying t with
 | some (.array _ e)=>(P.info? e).map fun ie=>plA ie.size
 | some (.struct fs)=>(fs.toList.mapM (fun f=>(P.info? f.type).map fun i=>(f.offset,i.size))).map plL
 | _=>none
inductive PR (F:Nat->Prop) (H:List Obj) (ι:List (Option Nat)) (w:World):List (Nat×V)->List (Nat×Value)->Prop where
 | nil:PR F H ι w [] []
 | cons (i x v ps vs) (h:RV F H ι w x v) (t:PR F H ι w ps vs):PR F H ι w ((i,x)::ps) ((i,v)::vs)
def UQ (H:List Obj) (pl:Nat->Option (Nat×Nat)):List V->List (Nat×V)->Option (List V)
 | cs,[]=>some cs
 | cs,(i,v)::r=>match pl i,vc H v with
  | some (off,sz),some vs=>if vs.length=sz/\off+sz<=cs.length then UQ H pl (spl cs off vs) r else none
  | _,_=>none
def RVl (F:Nat->Prop) (H:List Obj) (ι:List (Option Nat)) (w:World) (cs:List V) (a:Array Value):Prop :=
 a.size=cs.length/\ ∀(j:Nat) (c:V),cs[j]? =some c->RV F H ι w c (a.getD j undef)
theorem XN (off:Nat): ∀(l:List Value) (i:Nat) (cells:Array Value),
  ((l.zipIdx i).foldl (fun cs (x:Value×Nat)=>cs.setIfInBounds (off+x.2) x.1) cells).size=cells.size /\
  ∀k,off+i+l.length<=cells.size->((l.zipIdx i).foldl (fun cs (x:Value×Nat)=>cs.setIfInBounds (off+x.2) x.1) cells).getD k undef=if off+i<=k/\k<off+i+l.length then l.getD (k-(off+i)) undef else cells.getD k undef
 | [],i,cells=>⟨by simp,fun k hk=>by simp;intro h1 h2;omega⟩
 | v::l,i,cells=>by
  obtain ⟨h1,h2⟩:=XN off l (i+1) (cells.setIfInBounds (off+i) v);refine ⟨by simpa using h1,fun k hk=> ?_⟩;simp only [List.zipIdx_cons,List.foldl_cons];rw [h2 k (by simp at hk ⊢;omega)]
  by_cases hk1:off+(i+1)<=k/\k<off+(i+1)+l.length
  ·rw [if_pos hk1,if_pos (by simp;omega)];rw [show k-(off+i)=(k-(off+(i+1)))+1 by omega];simp
  ·rw [if_neg hk1]
   by_cases hk2:k=off+i
   ·subst hk2;rw [if_pos (by simp)];simp at hk
    have:off+i<cells.size:=by omega
    simp [Array.getD_eq_getD_getElem?,this]
   ·rw [if_neg (by simp;omega)];simp [Array.getD_eq_getD_getElem?,Array.getElem?_setIfInBounds_ne (Ne.symm hk2)]
theorem Qs {F H ι w} (pl:Nat->Option (Nat×Nat)): ∀(ps:List (Nat×V)) (vs:List (Nat×Value)) (cs cs':List V) (a:Array Value),UQ H pl cs ps=some cs' ->
  PR F H ι w ps vs->RVl F H ι w cs a-> ∃a',Instr.fill pl a vs=some a'/\RVl F H ι w cs' a'
 | [],_,cs,cs',a,h,hp,hr=>by
  cases hp
  simp [UQ] at h;subst h;exact ⟨a,rfl,hr⟩
 | (i,v)::ps,_,cs,cs',a,h,hp,hr=>by
  cases hp with
  | cons _ _ u _ vs hv h2 =>
  simp only [UQ] at h
  split at h
  rotate_left
  ·cases h
  rename_i off sz us hpl hus
  split at h
  rotate_left
  ·cases h
  rename_i hle;obtain ⟨c1,c2⟩:=V6 hus hv;obtain ⟨r1,r2⟩:=hr;have hf:=XN off u.cells.toList 0 a
  have e2:(u.cells.zipIdx.foldl (fun cs (x:Value×Nat)=>match x with | (c,j)=>cs.setIfInBounds (off+j) c) a)=(u.cells.toList.zipIdx.foldl (fun cs (x:Value×Nat)=>cs.setIfInBounds (off+x.2) x.1) a):=by
   rw [<- Array.foldl_toList];simp
  obtain ⟨a',g1,g2⟩:=Qs pl ps vs (spl cs off us) cs' (u.cells.toList.zipIdx.foldl (fun cs (x:Value×Nat)=>cs.setIfInBounds (off+x.2) x.1) a) h h2 ⟨by rw [hf.1,r1,WJ],fun j c hj=>by
   rw [hf.2 j (by simp;omega)];simp only [Nat.add_zero,Array.length_toList];rcases Vz cs off us j c (by omega) hj with ⟨p1,p2⟩ | ⟨p1,p2⟩
   ·have hlt:=(List.getElem?_eq_some_iff.1 p2).1;rw [if_pos (by omega)];simpa [Array.getD_eq_getD_getElem?] using (c2 _ c p2).1
   ·rw [if_neg (by omega)]
    exact r2 j c p2⟩
  refine ⟨a',?_,g2⟩;simp only [Instr.fill,hpl];rw [if_neg (by simp;omega),<- g1,<- e2]
theorem Uv {F H ι w fr a} (hf:Fr F H ι w fr a): ∀(ps:List (Nat×Operand)),PR F H ι w (ps.map fun x=>(x.1,ev fr x.2)) (ps.map fun x=>(x.1,a.eval x.2))
 | []=> .nil
 | x::ps=> .cons _ _ _ _ _ (hf.ev x.2) (Uv hf ps)
def JY (P:Program) (H:List Obj) (t:TypeId) (ps:List (Nat×V)):Option V :=
 match Xb P t,tpl P t with
 | some zs,some pl=>(UQ H pl (zs.map .p) ps).map mkA
 | _,_=>none
theorem Zb9 {P:Program} {o:Oper} {fr:List V} {H:List Obj} (t:TypeId) (ps:Array (Nat×Operand)) (y:V) (h:o.op= .build t ps) (hz:JY P H t (ps.toList.map fun x=>(x.1,ev fr x.2))=some y):PureOp P o fr H y:=fun F ι a w hr hf=>by
 unfold JY at hz
 split at hz
 rotate_left
 ·cases hz
 rename_i zs pl hzs hpl;simp only [Option.map_eq_some_iff] at hz;obtain ⟨cs,hc,rfl⟩:=hz;unfold Xb at hzs;simp only [Option.bind_eq_some_iff] at hzs;obtain ⟨z,⟨i,hi,hz⟩,hzc⟩:=hzs;obtain ⟨c1,c2⟩:=ZaL (X:=Own F ι) (w:=w) _ _ hzc
 obtain ⟨a',e1,e2,e3⟩:=Qs (F:=F) (ι:=ι) (w:=w) pl _ _ _ cs z.cells hc (Uv hf ps.toList) ⟨by simpa using c1,fun j c hj=>by
  simp only [List.getElem?_map,Option.map_eq_some_iff] at hj;obtain ⟨y,hy,rfl⟩:=hj;have:=c2 j y hy;refine .p _ _ ?_
  simpa [Array.getD_eq_getD_getElem?] using this⟩
 refine ⟨.agg a',?_,Zdp e2 e3⟩
 have hb:P.built t ((ps.map fun (i,x)=>(i,a.eval x)).toList)=some a':=by
  have el:(ps.map fun (i,x)=>(i,a.eval x)).toList=ps.toList.map fun x=>(x.1,a.eval x.2):=by simp
  rw [el];unfold tpl at hpl;unfold Program.built
  split at hpl
  ·rename_i n e hu;simp only [Option.map_eq_some_iff] at hpl;obtain ⟨ie,hie,rfl⟩:=hpl;simp only [hi,hu,hz,hie];exact e1
  ·rename_i fs hu;simp only [Option.map_eq_some_iff] at hpl;obtain ⟨l,hl,rfl⟩:=hpl;simp only [hi,hu,hz,hl]
   have:(fun x=>l.toArray[x]?)=plL l:=by funext x;simp [plL]
   rw [this];exact e1
  ·cases hpl
 simp only [execOp,h,Sem.run_bind,run_build w t _ a' hb,Result.andThen_ok,Sem.run_pure]
def pvo : V->Option PV
 | .p x=>some x
 | .fn (.func f) [] []=>some (.fn f)
 | _=>none
theorem Zri {F H ι w v x u} (h:pvo v=some x) (hv:RV F H ι w v u):RV F H ι w (.p x) u:=by
 unfold pvo at h
 split at h
 ·simp at h;subst h;exact hv
 ·simp at h;subst h
  cases hv with
  | fn _ _ _ a e hs ht _ _ =>
   have ea:a= #[]:=Array.eq_empty_of_size_eq_zero (by simpa using hs);have ee:e= #[]:=Array.eq_empty_of_size_eq_zero (by simpa using ht);subst ea;subst ee;exact .p _ _ (.fn _)
 ·cases h
def U1 (H:List Obj) (S:Nat):Nat->List (Nat×V)->Option (List PV)
 | _,[]=>some []
 | k,(i,v)::r=>if i=k then match pvo v with
   | some x=>if x.cells.length=S/\x.cells.all (·.one)=true then (U1 H S (k+1) r).map (x:: ·) else none
   | none=>none
  else none
theorem Zbh {H:List Obj} {S:Nat} : ∀(ps:List (Nat×V)) (k:Nat) (xs:List PV),U1 H S k ps=some xs->xs.length=ps.length
 | [],k,xs,h=>by simp [U1] at h;simp [h]
 | (i,v)::ps,k,xs,h=>by
  simp only [U1] at h
  split at h
  rotate_left
  ·cases h
  split at h
  rotate_left
  ·cases h
  split at h
  rotate_left
  ·cases h
  simp only [Option.map_eq_some_iff] at h;obtain ⟨xs',h,rfl⟩:=h;simp [Zbh ps _ _ h]
theorem Za3 {F H ι w} {S n:Nat} : ∀(ps:List (Nat×V)) (vs:List (Nat×Value)) (k:Nat) (xs:List PV) (a:Array Value),U1 H S k ps=some xs->PR F H ι w ps vs->a.size=n*S->k+ps.length<=n ->
  ∃a',Instr.fill (fun i=>some (i*S,S)) a vs=some a'/\a'.size=n*S/\xs.length=ps.length/\(∀(i:Nat) (x:PV),xs[i]? =some x->x.cells.length=S) /\
   (∀q,q<k*S->a'.getD q undef=a.getD q undef) /\
   ∀(i:Nat) (x:PV) (j:Nat) (c:PV),xs[i]? =some x->x.cells[j]? =some c->RP (Own F ι) w c (a'.getD ((k+i)*S+j) undef)
 | [],_,k,xs,a,h,hp,hs,hk=>by
  cases hp
  simp [U1] at h;subst h;exact ⟨a,rfl,hs,rfl,by simp,fun _ _=>rfl,by simp⟩
 | (i,v)::ps,_,k,xs,a,h,hp,hs,hk=>by
  cases hp with
  | cons _ _ u _ vs hv h2 =>
  simp only [U1] at h
  split at h
  rotate_left
  ·cases h
  rename_i hik;subst hik
  split at h
  rotate_left
  ·cases h
  rename_i x hpv;have hv:=Zri hpv hv
  split at h
  rotate_left
  ·cases h
  rename_i hx;simp only [Option.map_eq_some_iff] at h;obtain ⟨xs',h,rfl⟩:=h;simp at hk;have hkS:(i+1)*S<=n*S:=Nat.mul_le_mul_right _ (by omega);rw [Nat.add_mul,Nat.one_mul] at hkS;obtain ⟨hx1,hx2⟩:=hx
  have hvc: ∃us,vc H (.p x)=some us/\us=x.cells.map .p:=by
   cases x with
   | agg cs=>exact ⟨cs.map .p,by simp only [vc];rw [if_pos (by simpa [PV.cells] using hx2)],rfl⟩
   | _=>exact ⟨_,by simp [vc,V.one,PV.one];rfl,by simp [PV.cells]⟩
  obtain ⟨us,hvc,hus⟩:=hvc;obtain ⟨c1,c2⟩:=V6 hvc hv
  have hulen:us.length=S:=by rw [hus];simpa using hx1
  have hf:=XN (i*S) u.cells.toList 0 a
  have e2:(u.cells.zipIdx.foldl (fun cs (x:Value×Nat)=>match x with | (c,j)=>cs.setIfInBounds (i*S+j) c) a)=(u.cells.toList.zipIdx.foldl (fun cs (x:Value×Nat)=>cs.setIfInBounds (i*S+x.2) x.1) a):=by
   rw [<- Array.foldl_toList];simp
  have hg:=hf.2;simp only [Nat.add_zero,Array.length_toList] at hg;obtain ⟨a',g1,g2,g3,g4,g5,g6⟩:=Za3 (n:=n) ps vs (i+1) xs' (u.cells.toList.zipIdx.foldl (fun cs (x:Value×Nat)=>cs.setIfInBounds (i*S+x.2) x.1) a) h h2 (by rw [hf.1];exact hs) (by omega);refine ⟨a',?_,g2,by simp [g3],?_,?_,?_⟩
  ·simp only [Instr.fill];rw [if_neg (by simp;omega),<- g1,<- e2]
  ·intro m y hm
   cases m with
   | zero=>simp at hm;subst hm;exact hx1
   | succ m=>exact g4 m y (by simpa using hm)
  ·intro q hq;rw [g5 q (by rw [Nat.add_mul];omega),hg q (by omega),if_neg (by omega)]
  ·intro m y j c hm hj
   cases m with
   | zero =>
    simp at hm;subst hm
    have hjS:j<S:=by have:=(List.getElem?_eq_some_iff.1 hj).1;omega
    have e3:=(c2 j (.p c) (by rw [hus];simp [hj])).1
    cases e3 with | p _ _ e3 =>
    simp only [Nat.add_zero];rw [g5 _ (by rw [Nat.add_mul,Nat.one_mul];omega),hg _ (by omega),if_pos (by omega)];rw [show i*S+j-i*S=j by omega];simpa [Array.getD_eq_getD_getElem?] using e3
   | succ m =>
    have:=g6 m y j c (by simpa using hm) hj;rwa [show i+1+m=i+(m+1) by omega] at this
def ZkT (P:Program) (H:List Obj) (t:TypeId) (n:Nat) (ps:List (Nat×V)):Option (V×List Obj) :=
 match We P t with
 | some (none,S)=>if n=ps.length/\n*S<=16777216/\0<S then (U1 H S 0 ps).map fun xs=>(.sl H.length 0 n n,H++ [.elems S xs]) else none
 | _=>none
theorem ZaZ {P:Program} {o:Oper} {fr:List V} {H H':List Obj} (t:TypeId) (n:Nat) (ps:Array (Nat×Operand)) (y:V) (h:o.op= .buildSlice t n ps) (e:TypeId) (z:Value) (hu:P.underlying t=some (.slice e)) (hze:((P.info? e).bind (·.zero))=some z)
  (hz:ZkT P H t n (ps.toList.map fun x=>(x.1,ev fr x.2))=some (y,H')): ∃S xs,y= .sl H.length 0 n n/\H'=H++ [.elems S xs]/\xs.length=n/\U1 H S 0 (ps.toList.map fun x=>(x.1,ev fr x.2))=some xs /\
  ∀F ι a w,Rel F H ι w->Fr F H ι w fr a-> ∃a' t',(execOp a.eval o).run P w= .ok (.value (.slice (some ⟨w.heap.size,0,none⟩) n n)) (w.alloc (.cells a' t'))/\Good F H ι w (H++ [.elems S xs]) (ι++ [some w.heap.size]) (w.alloc (.cells a' t')) /\
   RV F (H++ [.elems S xs]) (ι++ [some w.heap.size]) (w.alloc (.cells a' t')) (.sl H.length 0 n n) (.slice (some ⟨w.heap.size,0,none⟩) n n):=by
 unfold ZkT at hz
 split at hz
 rotate_left
 ·cases hz
 rename_i S ht;obtain ⟨e',hu',hs⟩:=Wn ht
 have:e'=e:=by rw [hu] at hu';simpa using hu'.symm
 subst this
 split at hz
 rotate_left
 ·cases hz
 rename_i hc;obtain ⟨hn,hn2,hS⟩:=hc;simp only [Option.map_eq_some_iff] at hz;obtain ⟨xs,hl,he⟩:=hz;simp at he;obtain ⟨rfl,rfl⟩:=he
 have hlen0:xs.length=n:=by rw [Zbh _ _ _ hl];simpa using hn.symm
 refine ⟨S,xs,rfl,rfl,hlen0,hl,fun F ι a w hr hf=> ?_⟩;obtain ⟨a',g1,g2,g3,g4,g5,g6⟩:=Za3 (n:=n) _ _ 0 xs ((Array.range (n*S)).map (z.cells[· %z.cells.size]!)) hl (Uv hf ps.toList) (by simp) (by simp at hn ⊢;omega)
 have hlen:xs.length=n:=by rw [g3,hn]
 have hnn:n<=16777216:=by have:=Nat.mul_le_mul_left n hS;omega
 have g:=X6 (H:=H) hr (Pushed.alloc w a' e') (.elems S xs) ⟨n,g2,by omega,by unfold maxLen;omega,g4,fun i x j c hi hj=>by have:=g6 i x j c hi hj;simpa using this⟩;refine ⟨a',e',?_,g,?_⟩
 ·have el:(ps.map fun (i,x)=>(i,a.eval x)).toList=ps.toList.map fun x=>(x.1,a.eval x.2):=by simp
  simp only [Option.bind_eq_some_iff] at hze;obtain ⟨ie,hie,hzz⟩:=hze
  by_cases h0:n*S=0
  ·rw [h0] at g1
   have e0:(Array.range 0).map (z.cells[· %z.cells.size]!)= #[]:=by simp [Array.range]
   rw [e0] at g1
   have e9:Array.range 0= #[]:=by simp [Array.range]
   simp [execOp,h,Instr.buildSlice,run_underlying hu,ZT hs,h0,e9,g1,newRow]
  ·have hgt: ¬(16777216<n*S):=by omega
   simp [execOp,h,Instr.buildSlice,run_underlying hu,ZT hs,h0,hgt,zeroValue,typeInfo,hie,hzz,g1,newRow]
 ·have:=RV.sl (F:=F) (w:=w.alloc (.cells a' e')) (H:=H++ [.elems S xs]) (ι:=ι++ [some w.heap.size]) H.length 0 n n w.heap.size S n e' xs a' (by rw [<- hr.len];simp) (by simp) hlen (Pushed.new (Pushed.alloc w a' e')) (by simpa using g2) (Nat.le_refl _) (by omega) (by unfold maxLen;omega);simpa using this
theorem ZkF {P:Program} {o:Oper} {fr:List V} {H H':List Obj} (t:TypeId) (n:Nat) (ps:Array (Nat×Operand)) (y:V) (h:o.op= .buildSlice t n ps) (e:TypeId) (z:Value) (hu:P.underlying t=some (.slice e)) (hze:((P.info? e).bind (·.zero))=some z)
  (hz:ZkT P H t n (ps.toList.map fun x=>(x.1,ev fr x.2))=some (y,H')):OpS P o fr H y H':=fun F ι a w hr hf=>by
 obtain ⟨S,xs,rfl,rfl,_,_,k⟩:=ZaZ t n ps y h e z hu hze hz;obtain ⟨a',t',k1,k2,k3⟩:=k F ι a w hr hf;exact ⟨_,_,_,_,k1,.inl rfl,k2,k3⟩
def VL (P:Program) (e:TypeId):Option PV:=((P.info? e).bind (·.zero)).bind fun z=>match cv z with | .p x=>some x | _=>none
def Zhw (P:Program) (H:List Obj) (t:TypeId) (x y:V):Option (V×List Obj) :=
 match P.underlying t with
 | some (.slice e)=>match tsz P e,VL P e,(P.info? e).map (·.bytes),x,y with
  | some S,some z,some by',.p (.int .i64 n),.p (.int .i64 m) =>
   if n=m/\0<=n/\(by':Int)*n<=281474976710656/\n<=281474976710656/\z.cells.length=S/\0<S then
    some (.sl H.length 0 n.toNat n.toNat,H++ [.elems S (List.replicate n.toNat z)]) else none
  | _,_,_,_,_=>none
 | _=>none
theorem Vo {X w P e z x} (hz:((P.info? e).bind (·.zero))=some z) (h:VL P e=some x):RP X w x z:=by
 unfold VL at h;rw [hz] at h;simp only [Option.bind_some] at h
 split at h
 ·rename_i y hy;simp at h;subst h;have:RV X [] [] w (cv z) z:=ZnB z;rw [hy] at this
  cases this with | p _ _ hh =>
  exact hh.ext fun b hb hs=>⟨fun h=>hb (.inl h),hs,rfl⟩
 ·cases h
theorem XT {X w} {z:Value} {x:PV} (h:RP X w x z) (hz:x.cells.all (·.one)=true):z.cells.size=x.cells.length/\ ∀(j:Nat) (c:PV),x.cells[j]? =some c->RP X w c (z.cells.getD j undef):=by
 cases x with
 | agg cs =>
  obtain ⟨a,rfl,h1,h2⟩:=h.agg_inv;exact ⟨by simpa [Value.cells,PV.cells] using h1,fun j c hj=>h2 j c hj⟩
 | _ =>
  have h1:=h.oneCell rfl;rw [cells_one h1];refine ⟨by simp [PV.cells],fun j c hj=> ?_⟩
  cases j with
  | zero=>simp [PV.cells] at hj;subst hj;simpa using h
  | succ j=>simp [PV.cells] at hj
theorem ZgM {P:Program} {o:Oper} {fr:List V} {H H':List Obj} (t:TypeId) (x y:Operand) (v:V) (h:o.op= .makeSlice t x y) (hone: ∀e z,P.underlying t=some (.slice e)->VL P e=some z->z.cells.all (·.one)=true)
  (hz:Zhw P H t (ev fr x) (ev fr y)=some (v,H')):OpS P o fr H v H':=fun F ι a w hr hf=>by
 have hx:=hf.ev x;have hy:=hf.ev y;generalize ev fr x=X at hx hz;generalize ev fr y=Y at hy hz;unfold Zhw at hz
 split at hz
 rotate_left
 ·cases hz
 rename_i e hu
 split at hz
 rotate_left
 ·cases hz
 rename_i S z by' n m hs hzv hb
 split at hz
 rotate_left
 ·cases hz
 rename_i hc;obtain ⟨rfl,hn,hby,hn2,hS,hS0⟩:=hc;simp at hz;obtain ⟨rfl,rfl⟩:=hz
 cases hx with | p _ _ hx=>cases hy with | p _ _ hy =>
 obtain ⟨n,rfl⟩:=Int.eq_ofNat_of_zero_le hn;have hone':=hone e z hu hzv
 obtain ⟨zz,hzz⟩: ∃zz,((P.info? e).bind (·.zero))=some zz:=by
  unfold VL at hzv;simp only [Option.bind_eq_some_iff] at hzv;obtain ⟨zz,h1,_⟩:=hzv;exact ⟨zz,by simpa [Option.bind_eq_some_iff] using h1⟩
 have hrz:RP (Own F ι) w z zz:=Vo hzz hzv;obtain ⟨z1,z2⟩:=XT hrz hone';simp only [Option.bind_eq_some_iff] at hzz;obtain ⟨ie,hie,hzz⟩:=hzz;simp [hie] at hb;simp only [Int.toNat_natCast]
 let arr:Array Value:=(Array.range (n*S)).map (zz.cells[· %zz.cells.size]!)
 have harr: ∀q,q<n*S->arr.getD q undef=zz.cells.getD (q%S) undef:=fun q hq=>by
  have:q%S<zz.cells.size:=by rw [z1,hS];exact Nat.mod_lt _ hS0
  simp [arr,Array.getD_eq_getD_getElem?,hq,z1,hS,getElem!_def];rw [Array.getElem?_eq_getElem this];rfl
 have g:=X6 (H:=H) hr (Pushed.alloc w arr e) (.elems S (List.replicate n z)) ⟨n,by simp [arr],by simp,by unfold maxLen;omega,(fun i q hi=>by
   rw [List.getElem?_replicate] at hi;split at hi
   ·simp at hi;subst hi;exact hS
   ·cases hi),fun i q j c hi hj=>by
   rw [List.getElem?_replicate] at hi;split at hi
   ·rename_i hin;simp at hi;subst hi;have hj':=(List.getElem?_eq_some_iff.1 hj).1;have hle:(i+1)*S<=n*S:=Nat.mul_le_mul_right _ (by omega);rw [Nat.add_mul,Nat.one_mul] at hle;rw [harr _ (by omega)]
    have:(i*S+j)%S=j:=by rw [Nat.mul_comm,Nat.mul_add_mod];exact Nat.mod_eq_of_lt (by omega)
    rw [this];exact z2 j c hj
   ·cases hi⟩
 refine ⟨_,.slice (some ⟨w.heap.size,0,none⟩) n n,_,_,?_,.inl rfl,g,?_⟩
 ·have hw:IntKind.i64.wrap (n:Int)=n:=IntWalk.i64_in _ (by omega)
  have h1: ¬((n:Int)<0):=by omega
  have h2: ¬(281474976710656<((ie.bytes:Int)*(n:Int))):=by rw [hb];omega
  by_cases h0:n*S=0
  ·have e9:Array.range 0= #[]:=by simp [Array.range]
   simp [execOp,h,hx.int_inv,hy.int_inv,Instr.makeSlice,asInt,asIntOf,run_underlying hu,typeInfo,hie,hw,h1,h2,ZT hs,h0,newRow,e9,arr]
  ·simp [execOp,h,hx.int_inv,hy.int_inv,Instr.makeSlice,asInt,asIntOf,run_underlying hu,typeInfo,hie,hw,h1,h2,ZT hs,h0,zeroValue,hzz,newRow,arr]
 ·have:=RV.sl (F:=F) (w:=w.alloc (.cells arr e)) (H:=H++ [.elems S (List.replicate n z)]) (ι:=ι++ [some w.heap.size]) H.length 0 n n w.heap.size S n e (List.replicate n z) arr (by rw [<- hr.len];simp) (by simp) (by simp) (Pushed.new (Pushed.alloc w arr e)) (by simp [arr]) (Nat.le_refl _) (by omega) (by unfold maxLen;omega);simpa using this
end Go.AM
namespace Go.AM
open Go.RowKit
def Zrx (S:Nat) (x:PV):Bool:=(x.cells.length==S)&&x.cells.all (·.one)
def okE (S:Nat) (xs:List PV):Bool:=xs.all (Zrx S)
def ZfK (P:Program) (H:List Obj) (t:TypeId) (y:V):Option (List PV) :=
 match P.underlying t,y with
 | some (.slice _),.p (.list _ ys)=>some ys
 | some (.slice _),.sl o off len tot=>match oat H o with
  | .elems _ xs=>if xs.length=tot/\off+len<=tot then some ((xs.take (off+len)).drop off) else none
  | _=>none
 | some .string,.p (.str s)=>some (s.map fun b=> .int .u8 b.toNat)
 | _,_=>none
structure Src (P:Program) (X:Nat->Prop) (w:World) (t:TypeId) (v:Value) (S:Nat) (ys:List PV) (news:List Value):Prop where
 len:news.length=ys.length*S
 ty:(P.underlying t=some .string)\/ ∃e,P.underlying t=some (.slice e)
 lenOf: ∀w',(Builtin.lenOf v).run P w'= .ok ys.length w'
 first: ∀w':World,w'.heap=w.heap->(Builtin.firstCells S ys.length v).run P w'= .ok news.toArray w'
 rel: ∀(i:Nat) (y:PV) (j:Nat) (c:PV),ys[i]? =some y->y.cells[j]? =some c->RP X w c (news.getD (i*S+j) undef)
theorem ZeG {w w':World} (h:w'.heap=w.heap) (a:Addr):w'.cell? a=w.cell? a:=by simp [World.cell?,h]
theorem V7 {P:Program} {w:World} {a:Addr} {n S len cap:Nat} {news:List Value} (hl:news.length=n*S) (hc: ∀(j:Nat) (u:Value),news[j]? =some u->w.cell? (a.add j)=some u) :
  ∀w':World,w'.heap=w.heap->(Builtin.firstCells S n (.slice (some a) len cap)).run P w'= .ok news.toArray w':=fun w' hw =>
 run_firstCells_some w' S n a len cap news hl (fun j u hj=>by rw [ZeG hw];exact hc j u hj)
theorem QL {w:World} {b off n S:Nat} {ys:List PV} {X:Nat->Prop} (u:Nat->Nat->Value) (hn:ys.length=n) (hS: ∀(i:Nat) (x:PV),ys[i]? =some x->x.cells.length=S)
  (hu: ∀(i:Nat) (x:PV) (j:Nat) (c:PV),ys[i]? =some x->x.cells[j]? =some c->w.cell? ⟨b,off+i*S+j,none⟩=some (u i j))
  (hr: ∀(i:Nat) (x:PV) (j:Nat) (c:PV),ys[i]? =some x->x.cells[j]? =some c->RP X w c (u i j)) (hS0:0<S) :
  ∃news:List Value,news.length=n*S/\(∀(j:Nat) (v:Value),news[j]? =some v->w.cell? ((⟨b,off,none⟩:Addr).add j)=some v) /\
   ∀(i:Nat) (y:PV) (j:Nat) (c:PV),ys[i]? =some y->y.cells[j]? =some c->RP X w c (news.getD (i*S+j) undef):=by
 refine ⟨(List.range (n*S)).map fun q=>u (q / S) (q%S),by simp,fun j v hj=> ?_,fun i y j c hi hj=> ?_⟩
 ·simp only [List.getElem?_map,Option.map_eq_some_iff] at hj;obtain ⟨q,hq,rfl⟩:=hj
  have hlt:j<n*S:=by have:=(List.getElem?_eq_some_iff.1 hq).1;simpa using this
  have:q=j:=by have:=(List.getElem?_eq_some_iff.1 hq).2;simpa using this.symm
  subst this;have h1:q / S<n:=(Nat.div_lt_iff_lt_mul hS0).2 hlt;have h2:q%S<S:=Nat.mod_lt _ hS0
  have hy:ys[q / S]? =some (ys[q / S]'(by omega)):=by simp [hn,h1]
  have hl:=hS _ _ hy;have:=hu (q / S) _ (q%S) _ hy (List.getElem?_eq_getElem (by omega));rw [Addr.add_lit];rw [show off+q / S*S+q%S=off+q by have:=Nat.div_add_mod q S;rw [Nat.mul_comm] at this;omega] at this;exact this
 ·have hlt:=(List.getElem?_eq_some_iff.1 hi).1;have hjl:=(List.getElem?_eq_some_iff.1 hj).1;have hl:=hS i y hi;have hle:(i+1)*S<=n*S:=Nat.mul_le_mul_right _ (by omega);rw [Nat.add_mul,Nat.one_mul] at hle
  have h1:(i*S+j) / S=i:=by rw [Nat.mul_comm,Nat.mul_add_div hS0,Nat.div_eq_of_lt (by omega)];omega
  have h2:(i*S+j)%S=j:=by rw [Nat.mul_comm,Nat.mul_add_mod];exact Nat.mod_eq_of_lt (by omega)
  have:((List.range (n*S)).map fun q=>u (q / S) (q%S)).getD (i*S+j) undef=u i j:=by
   simp [List.getD,(by omega:i*S+j<n*S),h1,h2]
  rw [this];exact hr i y j c hi hj
theorem Vu {S:Nat} {ys:List PV} (h:okE S ys=true) (i:Nat) (y:PV) (hi:ys[i]? =some y):y.cells.length=S/\ ∀c∈y.cells,c.one=true:=by
 have:=List.all_eq_true.1 h y (List.mem_iff_getElem?.2 ⟨i,hi⟩);simp [Zrx] at this;exact this
theorem Ziq {P:Program} {F H ι w t v S ys y} (h:ZfK P H t y=some ys) (hok:okE S ys=true) (hS:0<S) (hr:Rel F H ι w) (hv:RV F H ι w y v): ∃news,Src P (Own F ι) w t v S ys news:=by
 unfold ZfK at h
 split at h
 ·rename_i e cl ys' hu;simp at h;subst h
  cases hv with | p _ _ hv =>
  cases hv with
  | nils=>exact ⟨[],by simp,.inr ⟨_,hu⟩,fun w'=>rfl,fun w' _=>by simp [Builtin.firstCells],by simp⟩
  | emp _ a cap hc hm ha=>exact ⟨[],by simp,.inr ⟨_,hu⟩,fun w'=>rfl,fun w' _=>by cases a<;>simp [Builtin.firstCells,loadCells,loadCellsFrom],by simp⟩
  | list _ _ b off cap S' u hX hb hc hm hcl hS' hu' hr' =>
   by_cases h0:ys'.length=0
   ·have:ys'= []:=List.eq_nil_of_length_eq_zero h0;subst this;exact ⟨[],by simp,.inr ⟨_,hu⟩,fun w'=>rfl,fun w' _=>by simp [Builtin.firstCells,loadCells,loadCellsFrom],by simp⟩
   ·have hlt:0<ys'.length:=by omega
    have e0:=Wg hlt;have:S'=S:=(hS' 0 _ e0).symm.trans (Vu hok 0 _ e0).1;subst this;obtain ⟨news,n1,n2,n3⟩:=QL u rfl hS' hu' hr' hS;exact ⟨news,n1,.inr ⟨_,hu⟩,fun w'=>rfl,V7 n1 n2,n3⟩
 ·rename_i e o off len tot hu
  split at h
  rotate_left
  ·cases h
  rename_i S' xs ho;have hH:=Zz ho (by simp)
  split at h
  rotate_left
  ·cases h
  rename_i hc;simp at h;subst h
  have hlen:((xs.take (off+len)).drop off).length=len:=by simp;omega
  by_cases h0:len=0
  ·have e1:(xs.take (off+len)).drop off= []:=List.eq_nil_of_length_eq_zero (by omega);rw [e1];subst h0
   cases hv with
   | slNil _ _ a=>exact ⟨[],by simp,.inr ⟨_,hu⟩,fun w'=>rfl,fun w' _=>by cases a<;>simp [Builtin.firstCells,loadCells,loadCellsFrom],by simp⟩
   | sl=>exact ⟨[],by simp,.inr ⟨_,hu⟩,fun w'=>rfl,fun w' _=>by simp [Builtin.firstCells,loadCells,loadCellsFrom],by simp⟩
   | slD _ _ _ _ _ hd=>rw [hH] at hd;cases hd
   | slS _ _ _ _ _ S2 xs2 hd hne=>rw [hH] at hd;simp at hd;obtain ⟨_,rfl⟩:=hd;omega
   | slC _ _ _ _ _ _ hd=>rw [hH] at hd;cases hd
  ·obtain ⟨b,cap,c,t2,e1,e2,e3,e4,e5,e6,e7⟩:=hv.sl_inv hH hc.1 (by omega);rcases hr.elm o S' xs hH with ⟨_,rfl⟩ | ⟨b2,c2,t3,cap2,f1,f2,f3,f4,f5,f6,f7⟩
   ·simp at hc;omega
   ·have:b2=b:=by rw [e1] at f1;simpa using f1.symm
    subst this;rw [e3] at f2;simp at f2;obtain ⟨rfl,rfl⟩:=f2
    have hlt:0<((xs.take (off+len)).drop off).length:=by omega
    have hget: ∀(i:Nat) (x:PV),((xs.take (off+len)).drop off)[i]? =some x->xs[off+i]? =some x:=fun i x hi=>by
     rw [List.getElem?_drop,List.getElem?_take] at hi
     split at hi
     ·exact hi
     ·cases hi
    have e0:=Wg hlt;have:S'=S:=(f6 _ _ (hget 0 _ e0)).symm.trans (Vu hok 0 _ e0).1;subst this
    obtain ⟨news,n1,n2,n3⟩:=QL (w:=w) (b:=b2) (off:=off*S') (X:=Own F ι) (fun i j=>c.getD ((off+i)*S'+j) undef) hlen (fun i x hi=>f6 _ x (hget i x hi))
     (fun i x j q hi hj=>by
      have hx:=hget i x hi;have hl:=f6 _ x hx;have hlt2:=(List.getElem?_eq_some_iff.1 hx).1;have hjl:=(List.getElem?_eq_some_iff.1 hj).1;have hle:(off+i+1)*S'<=cap2*S':=Nat.mul_le_mul_right _ (by omega);rw [Nat.add_mul (off+i),Nat.one_mul] at hle
      have hsz:(off+i)*S'+j<c.size:=by rw [f3];omega
      rw [show off*S'+i*S'+j=(off+i)*S'+j by rw [Nat.add_mul]]
      simp [World.cell?,e3,Array.getD,hsz]) (fun i x j q hi hj=>f7 _ x j q (hget i x hi) hj) hS
    exact ⟨news,by rw [n1,hlen],.inr ⟨_,hu⟩,fun w'=>by rw [e2,hlen];rfl,by rw [e2,hlen];exact V7 n1 n2,n3⟩
 ·rename_i s hu;simp at h;subst h
  cases hv with | p _ _ hv =>
  rw [hv.str_inv]
  have hS1:s≠ []->S=1:=fun hs=>by
   cases s with
   | nil=>exact absurd rfl hs
   | cons c r =>
    have:=(Vu hok 0 (.int .u8 (c.toNat:Int)) (by simp)).1;simpa [PV.cells] using this.symm
  have hsz:(⟨s.toArray⟩:ByteArray).size=s.length:=by show s.toArray.size=_;simp
  refine ⟨s.map fun b=> .int .u8 b.toNat,?_,.inl hu,fun w'=> ?_,fun w' _=> ?_,fun i y j c hi hj=> ?_⟩
  ·by_cases h0:s= []
   ·subst h0;simp
   ·simp [hS1 h0]
  ·simp [Builtin.lenOf,hsz]
  ·have e:(⟨s.toArray⟩:ByteArray).extract 0 s.length=⟨s.toArray⟩:=by
    rw [W6 s 0 s.length (by omega) (Nat.le_refl _)];simp
   simp [Builtin.firstCells,e]
  ·simp only [List.getElem?_map,Option.map_eq_some_iff] at hi;obtain ⟨b,hb,rfl⟩:=hi
   have hne:s≠ []:=by rintro rfl;simp at hb
   cases j with
   | zero =>
    simp [PV.cells] at hj;subst hj;have hlt:=(List.getElem?_eq_some_iff.1 hb).1;have e:=(List.getElem?_eq_some_iff.1 hb).2;rw [hS1 hne];simp [List.getD,hlt,e];exact .int _ _
   | succ j=>simp [PV.cells] at hj
 ·cases h
section
variable {P : Program} {w : World} {X : Nat -> Prop} {t t2 ty e : TypeId} {S : Nat} {ys : List PV} {news : List Value} {sv : Value}
theorem Jb (ht:P.underlying t=some (.slice e)) (hs:tsz P e=some S) (hsrc:Src P X w t2 sv S ys news) {b n cap:Nat} {c:Array Value} {u:TypeId}
  (hg:w.heap[b]? =some (.cells c u (0,0))) (hroom:n+ys.length<=cap) (hfit:n*S+news.length<=c.size) (h1: ∀v∈news,v.oneCell'=true) :
  (Builtin.append_ #[t,t2] ty #[.slice (some ⟨b,0,none⟩) n cap,sv]).run P w= .ok (.slice (some ⟨b,0,none⟩) (n+ys.length) cap) (w.setRow b (c.toList.take (n*S)++news++c.toList.drop (n*S+news.length)).toArray):=by
 have hst:=run_storeCells_at P b (n*S) u news 0 c w hg (by simpa using hfit) h1;simp only [Nat.add_zero] at hst
 rcases hsrc.ty with hu2 | ⟨e2,hu2⟩ <;>
  simp [Builtin.append_,run_underlying ht,run_underlying hu2,ZT hs,hsrc.lenOf,hroom,hsrc.first w rfl,Addr.add_lit,hst]
theorem Ys (ht:P.underlying t=some (.slice e)) (hs:tsz P e=some S) (hsrc:Src P X w t2 sv S ys news) {i:TypeInfo} {z:Value} (hi:P.info? e=some i) (hz:i.zero=some z) {a:Option Addr} {n cap:Nat} {olds:List Value}
  (hol:olds.length=n*S) (hold: ∀w':World,w'.heap=w.heap->(Builtin.firstCells S n (.slice a n cap)).run P w'= .ok olds.toArray w') (hg:cap<n+ys.length) (h63:n+ys.length<=9223372036854775807) (hb0:(i.bytes:Int)≠0)
  (hbytes:(n+ys.length)*i.bytes<=140737488355328) :
  (Builtin.append_ #[t,t2] ty #[.slice a n cap,sv]).run P w= .ok (.slice (some ⟨w.heap.size,0,none⟩) (n+ys.length) (grownCap w (n+ys.length) cap e))
   (w.drew.alloc (.cells (olds.toArray++news.toArray++Builtin.zeroCells z.cells (grownCap w (n+ys.length) cap e-(n+ys.length))) e)):=by
 have hn: ¬(n+ys.length<=cap):=by omega
 have h63': ¬(9223372036854775807<((n:Int)+(ys.length:Int))):=by omega
 have hfit:=growslice_fits hg hbytes
 have h48': ¬(281474976710656<Builtin.nextslicecap (n+ys.length) cap*i.bytes):=by omega
 have e1:=hold w.drew rfl;have e2:=hsrc.first w.drew rfl
 rcases hsrc.ty with hu2 | ⟨e3,hu2⟩ <;>
  (simp [Builtin.append_,run_underlying ht,run_underlying hu2,ZT hs,hsrc.lenOf,hn,h63',h48',typeInfo,zeroValue,hi,hz,Question.forced,e1,e2,newRow,grownCap]
   try (congr 2;apply Array.ext';simp [List.append_assoc]))
end
end Go.AM
namespace Go.AM
open Go.RowKit
def VZ (P:Program) (H:List Obj) (t t2:TypeId) (x y:V):Option (V×List Obj) :=
 match P.underlying t with
 | some (.slice e)=>match tsz P e,VL P e,(P.info? e).map (·.bytes),ZfK P H t2 y with
  | some S,some z,some by',some ys =>
   if 0<S/\z.cells.length=S/\z.cells.all (·.one)=true/\by'≠0/\okE S ys=true then
    match x with
    | .p (.list cl xs)=>if cl=true/\okE S xs=true/\(xs= []\/0<ys.length)/\(xs.length+ys.length)*by'<=140737488355328/\xs.length+ys.length<=140737488355328 then
      some (.sl H.length 0 (xs.length+ys.length) (xs.length+ys.length),H++ [.elems S (xs++ys)]) else none
    | .sl o off len tot=>match oat H o with
     | .elems S' xs=>if S'=S/\off=0/\len=tot/\xs.length=tot/\(tot+ys.length)*by'<=140737488355328/\tot+ys.length<=140737488355328 then
       some (.sl o 0 (tot+ys.length) (tot+ys.length),ost H o (.elems S (xs++ys))) else none
     | _=>none
    | _=>none
   else none
  | _,_,_,_=>none
 | _=>none
theorem YD (o n z:List Value) (k:Nat):((o++n++z).toArray).getD k undef=if k<o.length then o.getD k undef else if k<o.length+n.length then n.getD (k-o.length) undef else z.getD (k-o.length-n.length) undef:=by
 simp only [Array.getD_eq_getD_getElem?,List.getElem?_toArray,List.getD_eq_getElem?_getD]
 split
 ·rename_i h;rw [List.append_assoc,List.getElem?_append_left h]
 ·split
  ·rw [List.append_assoc,List.getElem?_append_right (by omega),List.getElem?_append_left (by omega)]
  ·rw [List.getElem?_append_right (by simp;omega)]
   congr 2;simp;omega
theorem Zg0 {S:Nat} {ys:List PV} {news:List Value} {X w} (hok:okE S ys=true) (hl:news.length=ys.length*S) (hS:0<S)
  (hr: ∀(i:Nat) (y:PV) (j:Nat) (c:PV),ys[i]? =some y->y.cells[j]? =some c->RP X w c (news.getD (i*S+j) undef)): ∀v∈news,v.oneCell'=true:=fun v hv=>by
 obtain ⟨q,hq⟩:=List.mem_iff_getElem?.1 hv;have hlt:=(List.getElem?_eq_some_iff.1 hq).1;have h1:q / S<ys.length:=(Nat.div_lt_iff_lt_mul hS).2 (by omega);have h2:q%S<S:=Nat.mod_lt _ hS
 have hy:ys[q / S]? =some ys[q / S]:=by simp [h1]
 obtain ⟨o1,o2⟩:=Vu hok _ _ hy
 have hc:(ys[q / S]).cells[q%S]? =some ((ys[q / S]).cells[q%S]'(by omega)):=by simp [o1,h2]
 have:=hr _ _ _ _ hy hc
 have e:q / S*S+q%S=q:=by have:=Nat.div_add_mod q S;rw [Nat.mul_comm] at this;exact this
 rw [e] at this
 have e2:news.getD q undef=v:=by simp [List.getD,hq]
 rw [e2] at this;exact this.oneCell (o2 _ (List.getElem_mem _))
theorem WT {S n:Nat} {xs ys:List PV} {c:Array Value} {olds news:List Value} {X w} (hn:xs.length=n) (hol:olds.length=n*S) (hnl:news.length=ys.length*S) (hSx: ∀(i:Nat) (x:PV),xs[i]? =some x->x.cells.length=S) (hSy: ∀(i:Nat) (x:PV),ys[i]? =some x->x.cells.length=S)
  (ho: ∀(i:Nat) (y:PV) (j:Nat) (q:PV),xs[i]? =some y->y.cells[j]? =some q->RP X w q (olds.getD (i*S+j) undef))
  (hw: ∀(i:Nat) (y:PV) (j:Nat) (q:PV),ys[i]? =some y->y.cells[j]? =some q->RP X w q (news.getD (i*S+j) undef))
  (hc1: ∀k,k<n*S->c.getD k undef=olds.getD k undef) (hc2: ∀k,k<ys.length*S->c.getD (n*S+k) undef=news.getD k undef) :
  ∀(i:Nat) (x:PV) (j:Nat) (y:PV),(xs++ys)[i]? =some x->x.cells[j]? =some y->RP X w y (c.getD (i*S+j) undef):=fun i x j y hi hj=>by
 have hjl:=(List.getElem?_eq_some_iff.1 hj).1
 by_cases hlt:i<n
 ·rw [List.getElem?_append_left (by omega)] at hi;have hl:=hSx i x hi;have hle:(i+1)*S<=n*S:=Nat.mul_le_mul_right _ (by omega);rw [Nat.add_mul,Nat.one_mul] at hle;rw [hc1 _ (by omega)];exact ho i x j y hi hj
 ·rw [List.getElem?_append_right (by omega),hn] at hi;have hl:=hSy _ x hi;have hil:=(List.getElem?_eq_some_iff.1 hi).1;have hle:(i-n+1)*S<=ys.length*S:=Nat.mul_le_mul_right _ (by omega);rw [Nat.add_mul,Nat.one_mul] at hle
  have e:i*S+j=n*S+((i-n)*S+j):=by
   have:i*S=(n+(i-n))*S:=by congr 1;omega
   rw [this,Nat.add_mul];omega
  rw [e,hc2 _ (by omega)];exact hw _ x j y hi hj
theorem Zdu {P:Program} {o:Oper} {fr:List V} {H H':List Obj} (t t2:TypeId) (x y:Operand) (v:V) (h:o.op= .call { callee:= .builtin .append,args:= #[x,y],argTypes:= #[t,t2] })
  (hz:VZ P H t t2 (ev fr x) (ev fr y)=some (v,H')):OpS P o fr H v H':=fun F ι a w hr hf=>by
 have hx:=hf.ev x;have hy:=hf.ev y
 suffices hh: ∃u ι' w',(Builtin.append_ #[t,t2] o.type #[a.eval x,a.eval y]).run P w= .ok u w'/\Good F H ι w H' ι' w'/\RV F H' ι' w' v u by
  obtain ⟨u,ι',w',e,g,r⟩:=hh;exact ⟨_,u,ι',w',by simp [execOp,h,resolve,invoke,builtin,e],.inl rfl,g,r⟩
 generalize ev fr x=X at hx hz;generalize ev fr y=Y at hy hz;unfold VZ at hz
 split at hz
 rotate_left
 ·cases hz
 rename_i e hu
 split at hz
 rotate_left
 ·cases hz
 rename_i S z by' ys hs hzv hb hsrc
 split at hz
 rotate_left
 ·cases hz
 rename_i hc;obtain ⟨hS,hzl,hz1,hb0,hok⟩:=hc;obtain ⟨news,src⟩:=Ziq hsrc hok hS hr hy;have hone:=Zg0 hok src.len hS src.rel
 obtain ⟨zz,hzz⟩: ∃zz,((P.info? e).bind (·.zero))=some zz:=by
  unfold VL at hzv;simp only [Option.bind_eq_some_iff] at hzv;obtain ⟨zz,h1,_⟩:=hzv;exact ⟨zz,by simpa [Option.bind_eq_some_iff] using h1⟩
 have hrz:RP (Own F ι) w z zz:=Vo hzz hzv;obtain ⟨z1,z2⟩:=XT hrz hz1;simp only [Option.bind_eq_some_iff] at hzz;obtain ⟨ie,hie,hzz⟩:=hzz;simp [hie] at hb
 have hbn:(ie.bytes:Int)≠0:=by omega
 have hSy: ∀(i:Nat) (x:PV),ys[i]? =some x->x.cells.length=S:=fun i x hi=>(Vu hok i x hi).1
 split at hz
 ·rename_i cl xs
  split at hz
  rotate_left
  ·cases hz
  rename_i hc;obtain ⟨rfl,hokx,hne,hby,h63⟩:=hc;simp at hz;obtain ⟨rfl,rfl⟩:=hz
  have hby':(xs.length+ys.length)*ie.bytes<=140737488355328:=by rw [hb];exact hby
  cases hx with | p _ _ hx =>
  have hSx: ∀(i:Nat) (x:PV),xs[i]? =some x->x.cells.length=S:=fun i x hi=>(Vu hokx i x hi).1
  -- the value that came in: its elements, read azs a row
  obtain ⟨ad,ev',olds,o1,o2,o3⟩: ∃ad,a.eval x= .slice ad xs.length xs.length/\ ∃olds:List Value,olds.length=xs.length*S/\(∀w':World,w'.heap=w.heap->(Builtin.firstCells S xs.length (.slice ad xs.length xs.length)).run P w'= .ok olds.toArray w') /\
    ∀(i:Nat) (y:PV) (j:Nat) (q:PV),xs[i]? =some y->y.cells[j]? =some q->RP (Own F ι) w q (olds.getD (i*S+j) undef):=by
   generalize a.eval x=vv at hx
   cases hx with
   | nils=>exact ⟨none,rfl,[],by simp,fun w' _=>by simp [Builtin.firstCells],by simp⟩
   | emp _ ad cap hc hm ha=>exact ⟨ad,by simp [hc rfl],[],by simp,fun w' _=>by cases ad<;>simp [Builtin.firstCells,loadCells,loadCellsFrom],by simp⟩
   | list _ _ b off cap S' u hX hb' hc hm hcl hS' hu' hr' =>
    refine ⟨some ⟨b,off,none⟩,by rw [hcl rfl],?_⟩
    by_cases h0:xs.length=0
    ·have:xs= []:=List.eq_nil_of_length_eq_zero h0;subst this;exact ⟨[],by simp,fun w' _=>by simp [Builtin.firstCells,loadCells,loadCellsFrom],by simp⟩
    ·have e0:=Wg (xs:=xs) (i:=0) (by omega);have:S'=S:=(hS' 0 _ e0).symm.trans (hSx 0 _ e0);subst this;obtain ⟨olds,n1,n2,n3⟩:=QL u rfl hS' hu' hr' hS;exact ⟨olds,n1,V7 n1 n2,n3⟩
  rw [ev']
  by_cases hm:ys.length=0
  ·have hx0:xs= []:=hne.resolve_right (by omega);subst hx0;have hy0:ys= []:=List.eq_nil_of_length_eq_zero hm;subst hy0;have hn0:news= []:=List.eq_nil_of_length_eq_zero (by have:=src.len;simpa using this);subst hn0;refine ⟨.slice ad 0 0,ι++ [none],w,?_,Y6 hr S,.slNil _ S ad (by rw [<- hr.len];simp) (by simp)⟩;have e1:=src.first w rfl;simp at e1;have e3:=src.lenOf w;simp only [List.length_nil] at e3
   rcases src.ty with hu2 | ⟨e2,hu2⟩<;>cases ad <;>
    simp [Builtin.append_,run_underlying hu,run_underlying hu2,ZT hs,e3,e1,storeCells]
  ·have hrun:=Ys (ty:=o.type) hu hs src hie hzz o1 o2 (by omega) (by omega) hbn hby';have hcap:=grownCap_ge w (xs.length+ys.length) xs.length e;have hcm:=grownCap_le_maxLen w (xs.length+ys.length) xs.length e (by unfold maxLen;omega);refine ⟨_,ι++ [some w.heap.size],_,hrun,X6 hr (Pushed.drewAlloc w _ e) (.elems S (xs++ys)) ⟨grownCap w (xs.length+ys.length) xs.length e,?_,by simp;omega,hcm,?_,?_⟩,?_⟩
   ·simp only [Array.size_append,List.size_toArray,size_zeroCells,o1,src.len,z1,hzl,<- Nat.add_mul]
    congr 1;omega
   ·intro i q hi
    by_cases hlt:i<xs.length
    ·rw [List.getElem?_append_left hlt] at hi;exact hSx i q hi
    ·rw [List.getElem?_append_right (by omega)] at hi;exact hSy _ q hi
   ·have eqc:olds.toArray++news.toArray++Builtin.zeroCells zz.cells (grownCap w (xs.length+ys.length) xs.length e-(xs.length+ys.length))=(olds++news++(Builtin.zeroCells zz.cells (grownCap w (xs.length+ys.length) xs.length e-(xs.length+ys.length))).toList).toArray:=by apply Array.ext';simp
    rw [eqc];exact WT rfl o1 src.len hSx hSy o3 src.rel (fun k hk=>by rw [YD,if_pos (by omega)]) (fun k hk=>by rw [YD,if_neg (by omega),if_pos (by have:=src.len;omega)];congr 1;omega)
   ·have:=RV.sl (F:=F) (H:=H++ [.elems S (xs++ys)]) (ι:=ι++ [some w.heap.size]) (w:=w.drew.alloc (.cells (olds.toArray++news.toArray++Builtin.zeroCells zz.cells (grownCap w (xs.length+ys.length) xs.length e-(xs.length+ys.length))) e)) H.length 0 (xs.length+ys.length) (xs.length+ys.length) w.heap.size S (grownCap w (xs.length+ys.length) xs.length e) e (xs++ys) _ (by rw [<- hr.len];simp) (by simp) (by simp) (Pushed.new (Pushed.drewAlloc w _ e))
     (by simp only [Array.size_append,List.size_toArray,size_zeroCells,o1,src.len,z1,hzl,<- Nat.add_mul];congr 1;omega) hcap (by omega) (by omega)
    simpa using this
 ·rename_i o' off len tot
  split at hz
  rotate_left
  ·cases hz
  rename_i S' xs ho;have hH:=Zz ho (by simp)
  split at hz
  rotate_left
  ·cases hz
  rename_i hc;obtain ⟨rfl,rfl,rfl,rfl,hby,h63⟩:=hc;simp at hz;obtain ⟨rfl,rfl⟩:=hz
  have hby':(xs.length+ys.length)*ie.bytes<=140737488355328:=by rw [hb];exact hby
  rw [JK];rcases hr.elm o' S' xs hH with ⟨hi0,rfl⟩ | ⟨b,c,u,cap,h1,h2,h3,h4,h5,h6,h7⟩
  ·-- no block yet
   obtain ⟨ad,ev'⟩: ∃ad:Option Addr,a.eval x= .slice ad 0 0:=by
    generalize a.eval x=vv at hx;generalize hL:([]:List PV).length=L at hx
    cases hx with
    | slNil _ _ ad=>exact ⟨ad,rfl⟩
    | sl _ _ _ _ b _ _ _ _ _ hb2=>rw [hi0] at hb2;cases hb2
    | slD _ _ _ _ _ hd=>rw [hH] at hd;cases hd
    | slS _ _ _ _ _ S2 xs2 hd hne=>rw [hH] at hd;simp at hd;obtain ⟨_,e9⟩:=hd;subst e9;simp at hne
    | slC _ _ _ _ _ _ hd=>rw [hH] at hd;cases hd
   rw [ev']
   by_cases hm:ys.length=0
   ·have hy0:ys= []:=List.eq_nil_of_length_eq_zero hm;subst hy0;have hn0:news= []:=List.eq_nil_of_length_eq_zero (by have:=src.len;simpa using this);subst hn0;have e1:=src.first w rfl;simp at e1;have eH:H.set o' (.elems S' ([]++ []))=H:=V2 (by simpa using hH);refine ⟨.slice ad 0 0,ι,w,?_,by rw [eH];exact Good.refl hr,by rw [eH];exact .slNil _ S' ad hi0 hH⟩;have e3:=src.lenOf w;simp only [List.length_nil] at e3
    rcases src.ty with hu2 | ⟨e2,hu2⟩<;>cases ad <;>
     simp [Builtin.append_,run_underlying hu,run_underlying hu2,ZT hs,e3,e1,storeCells]
   ·simp only [List.length_nil,Nat.zero_add,List.nil_append] at hby' h63 ⊢;have hrun:=Ys (ty:=o.type) hu hs src hie hzz (a:=ad) (n:=0) (cap:=0) (olds:= []) (by simp) (fun w' _=>by cases ad<;>simp [Builtin.firstCells,loadCells,loadCellsFrom]) (by omega) (by omega) hbn (by simpa using hby');simp only [Nat.zero_add] at hrun;have hcap:=grownCap_ge w ys.length 0 e;have hcm:=grownCap_le_maxLen w ys.length 0 e (by unfold maxLen;omega);have hp:=Pushed.drewAlloc w (([]:List Value).toArray++news.toArray++Builtin.zeroCells zz.cells (grownCap w ys.length 0 e-ys.length)) e
    have hsize:(([]:List Value).toArray++news.toArray++Builtin.zeroCells zz.cells (grownCap w ys.length 0 e-ys.length)).size=grownCap w ys.length 0 e*S':=by
     simp only [Array.size_append,List.size_toArray,size_zeroCells,src.len,z1,hzl,List.length_nil,Nat.zero_add,<- Nat.add_mul]
     congr 1;omega
    have g:=Z1 (xs':=ys) hr hH hp.os hp.tape hp.output (fun c0 t0 hc0=>absurd (Array.getElem?_eq_some_iff.1 hc0).1 (Nat.lt_irrefl _)) (by rw [hp.size];omega) hp.new (fun k hk _=>hp.old hk) (.inr ⟨rfl,hp.size,by simp;omega⟩) hsize hcap hcm hSy
     (by
      have eqc:([]:List Value).toArray++news.toArray++Builtin.zeroCells zz.cells (grownCap w ys.length 0 e-ys.length)=([]++news++(Builtin.zeroCells zz.cells (grownCap w ys.length 0 e-ys.length)).toList).toArray:=by apply Array.ext';simp
      rw [eqc];have:=WT (X:=Own F ι) (w:=w) (c:=([]++news++(Builtin.zeroCells zz.cells (grownCap w ys.length 0 e-ys.length)).toList).toArray) (xs:= []) (olds:= []) (n:=0) rfl (by simp) src.len (by simp) hSy (by simp) src.rel (fun k hk=>by omega) (fun k hk=>by rw [YD,if_neg (by simp),if_pos (by have:=src.len;simp;omega)];simp)
      simpa using this)
    refine ⟨_,_,_,hrun,g,?_⟩
    have:=RV.sl (F:=F) (H:=H.set o' (.elems S' ys)) (ι:=ι.set o' (some w.heap.size)) (w:=w.drew.alloc (.cells (([]:List Value).toArray++news.toArray++Builtin.zeroCells zz.cells (grownCap w ys.length 0 e-ys.length)) e)) o' 0 ys.length ys.length w.heap.size S' (grownCap w ys.length 0 e) e ys _
     (by have:=(List.getElem?_eq_some_iff.1 hi0).1;simp [this]) (by have:=(List.getElem?_eq_some_iff.1 hH).1;simp [this]) rfl hp.new (by simpa using hsize) hcap (by omega) (by omega)
    simpa using this
  ·obtain ⟨cap',ev',hcs,hle⟩: ∃cap',a.eval x= .slice (some ⟨b,0,none⟩) xs.length cap'/\c.size=cap'*S'/\xs.length<=cap'/\cap'<=maxLen:=by
    generalize a.eval x=vv at hx;generalize hL:xs.length=L at hx
    cases hx with
    | slNil _ _ _ hi2=>rw [h1] at hi2;cases hi2
    | sl _ _ _ _ b2 S2 cap2 t3 xs2 c2 hb2 hH2 ht2 hw2 hcap2 hl2 hlen2 hm2 =>
     rw [h1] at hb2;simp at hb2;subst hb2;rw [hH] at hH2;simp at hH2;obtain ⟨rfl,rfl⟩:=hH2;rw [h2] at hw2;simp at hw2;obtain ⟨rfl,rfl⟩:=hw2;exact ⟨cap2,by simp [hL],by simpa using hcap2,by omega,by omega⟩
    | slD _ _ _ _ _ hd=>rw [hH] at hd;cases hd
    | slS _ _ _ _ _ S2 xs2 hd hne=>rw [hH] at hd;simp at hd;obtain ⟨_,rfl⟩:=hd;omega
    | slC _ _ _ _ _ _ hd=>rw [hH] at hd;cases hd
   have hcc:cap'=cap:=Nat.eq_of_mul_eq_mul_right hS (by rw [<- hcs,h3]);subst hcc;rw [ev'];have hSx: ∀(i:Nat) (x:PV),xs[i]? =some x->x.cells.length=S':=h6
   have hnS:xs.length*S'<=c.size:=by rw [h3];exact Nat.mul_le_mul_right _ h4
   by_cases hroom:xs.length+ys.length<=cap'
   ·have hfit:xs.length*S'+news.length<=c.size:=by rw [src.len,h3,<- Nat.add_mul];exact Nat.mul_le_mul_right _ hroom
    have hrun:=Jb (ty:=o.type) hu hs src h2 hroom hfit hone;have hT:Turned w (w.setRow b (c.toList.take (xs.length*S')++news++c.toList.drop (xs.length*S'+news.length)).toArray) b _ u:=Turned.setRow h2
    have hsize:((c.toList.take (xs.length*S')++news++c.toList.drop (xs.length*S'+news.length)).toArray).size=c.size:=by simp;omega
    have g:=Z1 (xs':=xs++ys) (cap:=cap') hr hH hT.os hT.tape hT.output (fun c0 t0 hc0=>by rw [h2] at hc0;simp at hc0;obtain ⟨rfl,rfl⟩:=hc0;exact ⟨rfl,hsize⟩) (by rw [hT.size];exact Nat.le_refl _) hT.at' (fun k _ hk=>hT.other k hk)
     (.inl ⟨h1,by
      by_cases hm:ys.length=0
      ·exact .inl ⟨by simp [hm],fun c0 t0 hc0=>by rw [h2] at hc0;simp at hc0;obtain ⟨rfl,rfl⟩:=hc0;exact ⟨rfl,hsize⟩⟩
      ·exact .inr (by simp;omega)⟩)
     (by rw [hsize,h3]) (by simpa using hroom) h5
     (fun i q hi=>by
      by_cases hlt:i<xs.length
      ·rw [List.getElem?_append_left hlt] at hi;exact hSx i q hi
      ·rw [List.getElem?_append_right (by omega)] at hi;exact hSy _ q hi)
     (by
      refine WT (olds:=c.toList.take (xs.length*S')) rfl (by simp;omega) src.len hSx hSy (fun i q j r hi hj=> ?_) src.rel (fun k hk=> ?_) (fun k hk=> ?_)
      ·have hl:=hSx i q hi;have hlt:=(List.getElem?_eq_some_iff.1 hi).1;have hjl:=(List.getElem?_eq_some_iff.1 hj).1;have hle2:(i+1)*S'<=xs.length*S':=Nat.mul_le_mul_right _ (by omega);rw [Nat.add_mul,Nat.one_mul] at hle2;have:=h7 i q j r hi hj
       have e9:(c.toList.take (xs.length*S')).getD (i*S'+j) undef=c.getD (i*S'+j) undef:=by
        simp only [List.getD_eq_getElem?_getD,Array.getD_eq_getD_getElem?];rw [List.getElem?_take_of_lt (by omega)];simp
       rw [e9];exact this
      ·rw [YI _ _ _ _ (by simpa using hfit),if_neg (by omega)];simp only [List.getD_eq_getElem?_getD];rw [List.getElem?_take_of_lt (by omega)]
      ·rw [YI _ _ _ _ (by simpa using hfit),if_pos (by have:=src.len;omega)]
       congr 1;omega)
    have eι:ι.set o' (some b)=ι:=V2 h1;rw [eι] at g;refine ⟨_,ι,_,hrun,g,?_⟩
    have:=RV.sl (F:=F) (H:=H.set o' (.elems S' (xs++ys))) (ι:=ι) (w:=w.setRow b (c.toList.take (xs.length*S')++news++c.toList.drop (xs.length*S'+news.length)).toArray) o' 0 (xs.length+ys.length) (xs.length+ys.length) b S' cap' u (xs++ys) _
     h1 (by have:=(List.getElem?_eq_some_iff.1 hH).1;simp [this]) (by simp) hT.at' (by rw [hsize,h3];simp) hroom (by omega) (by omega)
    simpa using this
   ·have hold: ∀w':World,w'.heap=w.heap->(Builtin.firstCells S' xs.length (.slice (some ⟨b,0,none⟩) xs.length cap')).run P w'= .ok (c.toList.take (xs.length*S')).toArray w':=fun w' hw' =>
     V7 (news:=c.toList.take (xs.length*S')) (n:=xs.length) (S:=S') (w:=w) (by simp;omega) (fun j q hj=>by
      have hlt:=(List.getElem?_eq_some_iff.1 hj).1;simp at hlt;rw [List.getElem?_take_of_lt (by omega)] at hj;rw [Addr.add_lit]
      simpa [World.cell?,h2] using hj) w' hw'
    have hrun:=Ys (ty:=o.type) hu hs src hie hzz (a:=some ⟨b,0,none⟩) (n:=xs.length) (cap:=cap') (olds:=c.toList.take (xs.length*S')) (by simp;omega) hold (by omega) (by omega) hbn hby';have hcap:=grownCap_ge w (xs.length+ys.length) cap' e;have hcm:=grownCap_le_maxLen w (xs.length+ys.length) cap' e (by unfold maxLen;omega);have hp:=Pushed.drewAlloc w ((c.toList.take (xs.length*S')).toArray++news.toArray++Builtin.zeroCells zz.cells (grownCap w (xs.length+ys.length) cap' e-(xs.length+ys.length))) e
    have hol:(c.toList.take (xs.length*S')).length=xs.length*S':=by simp;omega
    have hsize:((c.toList.take (xs.length*S')).toArray++news.toArray++Builtin.zeroCells zz.cells (grownCap w (xs.length+ys.length) cap' e-(xs.length+ys.length))).size=grownCap w (xs.length+ys.length) cap' e*S':=by
     simp only [Array.size_append,List.size_toArray,size_zeroCells,src.len,z1,hzl,hol,<- Nat.add_mul]
     congr 1;omega
    have g:=Z1 (xs':=xs++ys) hr hH hp.os hp.tape hp.output (fun c0 t0 hc0=>absurd (Array.getElem?_eq_some_iff.1 hc0).1 (Nat.lt_irrefl _)) (by rw [hp.size];omega) hp.new (fun k hk _=>hp.old hk) (.inr ⟨rfl,hp.size,by simp;omega⟩) hsize (by simp;omega) hcm
     (fun i q hi=>by
      by_cases hlt:i<xs.length
      ·rw [List.getElem?_append_left hlt] at hi;exact hSx i q hi
      ·rw [List.getElem?_append_right (by omega)] at hi;exact hSy _ q hi)
     (by
      have eqc:(c.toList.take (xs.length*S')).toArray++news.toArray++Builtin.zeroCells zz.cells (grownCap w (xs.length+ys.length) cap' e-(xs.length+ys.length))=(c.toList.take (xs.length*S')++news++(Builtin.zeroCells zz.cells (grownCap w (xs.length+ys.length) cap' e-(xs.length+ys.length))).toList).toArray:=by apply Array.ext';simp
      rw [eqc];refine WT rfl hol src.len hSx hSy (fun i q j r hi hj=> ?_) src.rel (fun k hk=>by rw [YD,if_pos (by omega)]) (fun k hk=>by rw [YD,if_neg (by omega),if_pos (by have:=src.len;omega)];congr 1;omega);have hl:=hSx i q hi;have hlt:=(List.getElem?_eq_some_iff.1 hi).1;have hjl:=(List.getElem?_eq_some_iff.1 hj).1;have hle2:(i+1)*S'<=xs.length*S':=Nat.mul_le_mul_right _ (by omega);rw [Nat.add_mul,Nat.one_mul] at hle2;have:=h7 i q j r hi hj
      have e9:(c.toList.take (xs.length*S')).getD (i*S'+j) undef=c.getD (i*S'+j) undef:=by
       simp only [List.getD_eq_getElem?_getD,Array.getD_eq_getD_getElem?];rw [List.getElem?_take_of_lt (by omega)];simp
      rw [e9];exact this)
    refine ⟨_,_,_,hrun,g,?_⟩
    have:=RV.sl (F:=F) (H:=H.set o' (.elems S' (xs++ys))) (ι:=ι.set o' (some w.heap.size)) (w:=w.drew.alloc (.cells ((c.toList.take (xs.length*S')).toArray++news.toArray++Builtin.zeroCells zz.cells (grownCap w (xs.length+ys.length) cap' e-(xs.length+ys.length))) e)) o' 0 (xs.length+ys.length) (xs.length+ys.length) w.heap.size S' (grownCap w (xs.length+ys.length) cap' e) e (xs++ys) _
     (by have:=(List.getElem?_eq_some_iff.1 h1).1;simp [this]) (by have:=(List.getElem?_eq_some_iff.1 hH).1;simp [this]) (by simp) hp.new (by simpa using hsize) hcap (by omega) (by omega)
    simpa using this
 ·cases hz
def W4 (P:Program):Nat->TypeId->PV->Bool
 | 0,_,_=>false
 | d+1,t,k=>match P.underlying t,k with
  | some (.int _),.int _ _=>true
  | some (.struct fs), .agg cs => fs.toList.all fun f => f.name == "_" || (match apart P f.type cs f.offset with | some x => W4 P d f.type x | none => false)
  | some (.array n e),.agg cs=>match tsz P e with
   | some m=>(List.range n).all fun i=>match apart P e cs (i*m) with | some x=>W4 P d e x | none=>false
   | none=>false
  | _,_=>false
theorem Qe {P:Program} : ∀(d:Nat) (t:TypeId) (k:PV),W4 P d t k=true-> ∀D,d<=D-> ∀X w v (em:Bool),RP X w k v->(Instr.checkKey em D t v).run P w= .ok () w
 | 0,_,_,h,_,_=>by simp [W4] at h
 | d+1,t,k,h,D,hD=>by
  obtain ⟨D,rfl⟩: ∃e,D=e+1:=⟨D-1,by omega⟩;intro X w v em hv;have ih: ∀t k,W4 P d t k=true-> ∀X w v (em:Bool),RP X w k v->(Instr.checkKey em D t v).run P w= .ok () w:=fun t k h=>Qe d t k h D (by omega);unfold W4 at h
  split at h
  ·rename_i q k' n hu;rw [hv.int_inv];simp [Instr.checkKey,run_underlying hu]
  ·rename_i fs cs hu
   cases hv with | agg _ u hs hr =>
   rw [Instr.checkKey];simp only [Sem.run_bind,run_underlying hu,Result.andThen_ok];rw [<- Array.forIn_toList];rw [List.all_eq_true] at h;generalize fs.toList=L at h
   induction L with
   | nil=>simp
   | cons f L ihL =>
    have hf:=h f (by simp);have hL:=ihL fun g hg=>h g (by simp [hg])
    by_cases hn : f.name = "_"
    ·rw [List.forIn_cons];simp only [Sem.run_bind,hn,ne_eq,not_true_eq_false,if_false,Result.andThen_ok,Sem.run_pure];exact hL
    ·have hf:(match apart P f.type cs f.offset with | some x=>W4 P d f.type x | none=>false)=true:=by simpa [hn] using hf
     split at hf
     ·rename_i x hx;obtain ⟨a,e1,r1⟩:=XV hx hs hr;have e2:=ih f.type x hf X w a em r1;simp only [List.forIn_cons,Sem.run_bind,hn,ne_eq,not_false_eq_true,if_true,Result.andThen_ok,e1,e2,Sem.run_pure];exact hL
     ·cases hf
  ·rename_i n e cs hu
   split at h
   ·rename_i m hm
    cases hv with | agg _ u hs hr =>
    rw [Instr.checkKey];simp only [Sem.run_bind,run_underlying hu,Result.andThen_ok];simp only [Std.Legacy.Range.forIn_eq_forIn_range',Std.Legacy.Range.size,Nat.sub_zero,Nat.add_one_sub_one,Nat.div_one];rw [List.all_eq_true,List.range_eq_range'] at h;generalize List.range' 0 n=L at h
    induction L with
    | nil=>simp
    | cons i L ihL =>
     have hf:=h i (by simp);have hL:=ihL fun g hg=>h g (by simp [hg])
     split at hf
     ·rename_i x hx;obtain ⟨a,e1,r1⟩:=XV hx hs hr;have e2:=ih e x hf X w a em r1;simp only [List.forIn_cons,Sem.run_bind,ZT hm,Result.andThen_ok,e1,e2,Sem.run_pure];exact hL
     ·cases hf
   ·cases h
  ·cases h
def Jo : List PV->Option (List (IntKind×Int))
 | []=>some []
 | .int k n::r=>(Jo r).map ((k,n):: ·)
 | _::_=>none
def Zfs (l:List (IntKind×Int)):Value:= .agg (l.map fun p=> .int p.1 p.2).toArray
theorem Qk : ∀ {cs:List PV} {l:List (IntKind×Int)},Jo cs=some l->cs=l.map fun p=> .int p.1 p.2
 | [],l,h=>by simp [Jo] at h;subst h;rfl
 | c::cs,l,h=>by
  unfold Jo at h
  split at h
  ·cases ‹_::_= []›
  ·rename_i k n r he;simp only [List.cons.injEq] at he;obtain ⟨rfl,rfl⟩:=he;simp only [Option.map_eq_some_iff] at h;obtain ⟨l',h1,rfl⟩:=h;rw [Qk h1];rfl
  ·cases h
theorem Zau {X w cs l v} (h:Jo cs=some l) (hv:RP X w (.agg cs) v):v=Zfs l:=by
 have e:=Qk h
 cases hv with | agg _ u hs hr =>
 unfold Zfs
 congr 1
 apply Array.ext
 ·rw [hs,e];simp
 ·intro j h1 h2
  have hj:j<l.length:=by simpa using h2
  have hc:cs[j]? =some (.int (l[j]).1 (l[j]).2):=by rw [e];simp [hj]
  have:=(hr j _ hc).int_inv;rw [Array.getD_eq_getD_getElem?,Array.getElem?_eq_getElem h1] at this;simpa using this
theorem Za0 : ∀ {l m:List (IntKind×Int)},(l.map fun p=>Value.int p.1 p.2)=(m.map fun p=>Value.int p.1 p.2)->l=m
 | [],[],_=>rfl
 | [],_::_,h=>by simp at h
 | _::_,[],h=>by simp at h
 | (a,b)::l,(c,d)::m,h=>by
  simp only [List.map_cons,List.cons.injEq,Value.int.injEq] at h;rw [Za0 h.2,h.1.1,h.1.2]
theorem ZhQ {l m} :Zfs l=Zfs m↔l=m :=
 ⟨fun h=>Za0 (by simpa [Zfs] using h),fun h=>by rw [h]⟩
theorem Zcy {P:Program} {w:World} {l} :(Instr.keyThatStays (Zfs l) (Zfs l)).run P w= .ok (Zfs l) w:=by
 have:Instr.sameBits 10000 (Zfs l) (Zfs l)=true:=by
  unfold Zfs Instr.sameBits;simp only [beq_self_eq_true,Bool.true_and,List.all_eq_true];intro p hp;obtain ⟨i,hi⟩:=List.mem_iff_getElem?.1 hp;simp only [List.getElem?_zip_eq_some] at hi;obtain ⟨h1,h2⟩:=hi;rw [h1] at h2;simp only [Option.some.injEq] at h2;simp only [List.toList_toArray,List.getElem?_map,Option.map_eq_some_iff] at h1;obtain ⟨q,_,hq⟩:=h1;rw [<- h2,<- hq];simp [Instr.sameBits]
 simp [Instr.keyThatStays,this]
section maps
def mkey (P:Program) (kt:TypeId) (k:PV):Bool:=match P.underlying kt,k with
 | some (.int j),.int j' _=>decide (j'=j)
 | some .string,.str _=>true
 | some .bool,.bool _=>true
 | some (.struct _),.agg cs=>W4 P 9 kt (.agg cs)&&(Jo cs).isSome
 | _,_=>false
def keq : PV->PV->Bool
 | .int _ a,.int _ b=>decide (a=b)
 | .str a,.str b=>decide (a=b)
 | .bool a,.bool b=>a==b
 | .agg a,.agg b=>decide (Jo a=Jo b)
 | _,_=>false
def kpair (P:Program) (kt:TypeId):PV->PV->Bool
 | .agg a,.agg b=>UZ P 9 kt (.agg a) (.agg b)==some (keq (.agg a) (.agg b))
 | _,_=>true
def V0 (k:PV):List (PV×PV)->Nat->Option (Nat×PV)
 | [],_=>none
 | (k',x)::r,i=>if keq k k'=true then some (i,x) else V0 k r (i+1)
theorem X5 {P kt k} (h:mkey P kt k=true):(∃d,P.underlying kt=some d/\(∀fs,d≠ .struct fs)/\ ∀ {X w v},RP X w k v->Go.MapKept.IsKey d v)\/ ∃fs cs l,P.underlying kt=some (.struct fs)/\k= .agg cs/\Jo cs=some l/\W4 P 9 kt (.agg cs)=true:=by
 unfold mkey at h
 split at h
 ·rename_i j j' n hu;simp at h;subst h;exact .inl ⟨_,hu,by simp,fun h=>by cases h;simp [Go.MapKept.IsKey]⟩
 ·rename_i s hu;exact .inl ⟨_,hu,by simp,fun h=>by cases h;simp [Go.MapKept.IsKey]⟩
 ·rename_i b hu;exact .inl ⟨_,hu,by simp,fun h=>by cases h;simp [Go.MapKept.IsKey]⟩
 ·rename_i fs cs hu;simp only [Bool.and_eq_true,Option.isSome_iff_exists] at h;obtain ⟨h1,l,h2⟩:=h;exact .inr ⟨fs,cs,l,hu,rfl,h2,h1⟩
 ·cases h
theorem ZjO {P kt k k'} (h:mkey P kt k=true) (h':mkey P kt k'=true) {X w v X' w' v'} (hv:RP X w k v) (hv':RP X' w' k' v'):keq k k'=true↔v=v':=by
 unfold mkey at h h'
 split at h
 ·rename_i j j' n hu;rw [hu] at h'
  cases k'<;>simp at h'
  simp at h;subst h;subst h'
  cases hv;cases hv'
  simp [keq]
 ·rename_i s hu;rw [hu] at h'
  cases k'<;>simp at h'
  cases hv;cases hv'
  simp [keq]
 ·rename_i s hu;rw [hu] at h'
  cases k'<;>simp at h'
  cases hv;cases hv'
  simp [keq]
 ·rename_i fs cs hu;rw [hu] at h'
  cases k'<;>simp at h'
  rename_i cs';simp only [Bool.and_eq_true,Option.isSome_iff_exists] at h;obtain ⟨_,l,h2⟩:=h;obtain ⟨_,h4⟩:=h';obtain ⟨l',h4⟩:=Option.isSome_iff_exists.1 h4;rw [Zau h2 hv,Zau h4 hv',ZhQ];simp [keq,h2,h4]
 ·cases h
theorem KD {P kt k X w v} (hk:mkey P kt k=true) (hv:RP X w k v): ∀(es:List (PV×PV)) (l:List MapEntry) (n:Nat),l.length=es.length->(∀(i:Nat) (k' x:PV),es[i]? =some (k',x)->mkey P kt k'=true/\kpair P kt k k'=true/\ ∃e,l[i]? =some e/\RP X w k' e.key/\RP X w x e.val) ->
  ∃r,(∀d,P.underlying kt=some d->(∀fs,d≠ .struct fs)->Instr.findNow d v l n=some r)/\((∃fs,P.underlying kt=some (.struct fs))->(Instr.findAsking kt v l n).run P w= .ok r w) /\
  match V0 k es n with
  | none=>r=none
  | some (i,x)=>n<=i/\ ∃e k',l[i-n]? =some e/\es[i-n]? =some (k',x)/\e.key=v/\r=some (i,e.val)
 | [],l,n,hl,_=>by
  have:l= []:=List.eq_nil_of_length_eq_zero hl;subst this;exact ⟨none,fun d _ _=>by simp [Instr.findNow],fun _=>by simp [Instr.findAsking],by simp [V0]⟩
 | (k',x)::es,[],n,hl,_=>by simp at hl
 | (k',x)::es,e::l,n,hl,h=>by
  obtain ⟨h1,hp,e0,he,h2,h3⟩:=h 0 k' x rfl;simp at he;subst he;have hq:=ZjO hk h1 hv h2
  obtain ⟨r,i1,i2,i3⟩:=KD hk hv es l (n+1) (by simpa using hl) fun i k'' x' hi=>by
   obtain ⟨q1,q0,e',q2,q3⟩:=h (i+1) k'' x' (by simpa using hi);exact ⟨q1,q0,e',by simpa using q2,q3⟩
  have now: ∀d,P.underlying kt=some d->(∀fs,d≠ .struct fs)->Instr.sameNow d v e.key=some (keq k k'):=fun d hd hs=>by
   obtain ⟨d1,hd1,_,hk1⟩:=(X5 hk).resolve_right (by rintro ⟨fs,_,_,hu,_⟩;rw [hd] at hu;simp at hu;exact hs fs hu);obtain ⟨d2,hd2,_,hk2⟩:=(X5 h1).resolve_right (by rintro ⟨fs,_,_,hu,_⟩;rw [hd] at hu;simp at hu;exact hs fs hu);rw [hd] at hd1 hd2;simp at hd1 hd2;subst hd1;subst hd2;obtain ⟨q,hq1,hiff⟩:=Go.MapKept.sameNow_of_keys (hk1 hv) (hk2 h2);rw [hq1];congr 1;rw [Bool.eq_iff_iff,hiff,hq]
  have ask:(∃fs,P.underlying kt=some (.struct fs))->(Op.equal kt v e.key).run P w= .ok (keq k k') w:=fun ⟨fs,hd⟩=>by
   have g1: ∃cs,k= .agg cs:=by
    rcases X5 hk with ⟨d,hd1,hs,_⟩ | ⟨_,cs,_,_,e1,_⟩
    ·rw [hd] at hd1;simp at hd1;exact absurd hd1.symm (hs fs)
    ·exact ⟨cs,e1⟩
   have g2: ∃cs,k'= .agg cs:=by
    rcases X5 h1 with ⟨d,hd1,hs,_⟩ | ⟨_,cs,_,_,e1,_⟩
    ·rw [hd] at hd1;simp at hd1;exact absurd hd1.symm (hs fs)
    ·exact ⟨cs,e1⟩
   obtain ⟨a,rfl⟩:=g1;obtain ⟨b,rfl⟩:=g2;simp only [kpair,beq_iff_eq] at hp;exact Ue 9 kt _ _ _ hp 10000 (by omega) X w v e.key hv h2
  simp only [V0]
  by_cases hc:keq k k'=true
  ·rw [if_pos hc];rw [hc] at now ask;exact ⟨some (n,e.val),fun d hd hs=>by simp [Instr.findNow,now d hd hs],fun hs=>by simp [Instr.findAsking,ask hs],Nat.le_refl _,e,k',by simp,by simp,(hq.1 hc).symm,rfl⟩
  ·rw [if_neg hc]
   have hcf:keq k k'=false:=by simpa using hc
   rw [hcf] at now ask;refine ⟨r,fun d hd hs=>by simp [Instr.findNow,now d hd hs,i1 d hd hs],fun hs=>by simp [Instr.findAsking,ask hs,i2 hs],?_⟩
   split
   ·rename_i hm;rw [hm] at i3;exact i3
   ·rename_i i x' hm;rw [hm] at i3;simp only at i3;obtain ⟨q0,e',k'',q1,q2,q3,q4⟩:=i3;refine ⟨by omega,e',k'',?_,?_,q3,q4⟩
    ·rw [show i-n=(i-(n+1))+1 by omega];simpa using q1
    ·rw [show i-n=(i-(n+1))+1 by omega];simpa using q2
theorem Zey {P kt k X w v} (hk:mkey P kt k=true) (hv:RP X w k v) {es:List (PV×PV)} {l:List MapEntry} (hl:l.length=es.length) (h: ∀(i:Nat) (k' x:PV),es[i]? =some (k',x)->mkey P kt k'=true/\kpair P kt k k'=true/\ ∃e,l[i]? =some e/\RP X w k' e.key/\RP X w x e.val) :
  match V0 k es 0 with
  | none=>(Instr.findKey kt v l).run P w= .ok none w
  | some (i,x)=> ∃e k',l[i]? =some e/\es[i]? =some (k',x)/\e.key=v/\(Instr.findKey kt v l).run P w= .ok (some (i,e.val)) w:=by
 obtain ⟨r,h1,h2,h3⟩:=KD hk hv es l 0 hl h
 have hf:(Instr.findKey kt v l).run P w= .ok r w:=by
  rcases X5 hk with ⟨d,hd,hs,_⟩ | ⟨fs,_,_,hu,_⟩
  ·exact Go.MapKept.run_findKey hd (h1 d hd hs)
  ·rw [run_findKey_eq w (by rw [hu])];exact h2 ⟨fs,hu⟩
 split
 ·rename_i hm;rw [hm] at h3;rw [hf,h3]
 ·rename_i i x hm;rw [hm] at h3;simp only [Nat.sub_zero] at h3;obtain ⟨_,e,k',q1,q2,q3,q4⟩:=h3;exact ⟨e,k',q1,q2,q3,by rw [hf,q4]⟩
theorem X7 {F:Nat->Prop} {H:List Obj} {ι:List (Option Nat)} {w:World} (hr:Rel F H ι w) {o b k k':Nat} {es es':List (PV×PV)} {a a':Array MapEntry} (hH:H[o]? =some (.map es)) (hb:ι[o]? =some (some b)) (h0:w.heap[b]? =some (.map a k))
  (hm:MRep (Own F ι) w es' a' k'):Good F H ι w (H.set o (.map es')) ι { w with heap:=w.heap.setIfInBounds b (.map a' k') } :=by
 have holt:o<H.length:=(List.getElem?_eq_some_iff.1 hH).1;obtain ⟨hat,hoth⟩:=Go.MapKept.heap_set (o':= .map a' k') h0;have hown: ∀q,some q ∉ ι->(w.heap.setIfInBounds b (.map a' k'))[q]? =w.heap[q]? :=fun q hq=>hoth q (fun e=>hq (by rw [e];exact List.mem_of_getElem? hb));have hkeep:Keeps (Own F ι) w (Own F ι) { w with heap:=w.heap.setIfInBounds b (.map a' k') } :=fun q hq hs=>⟨hq,by simpa using hs,hown q (fun h=>hq (.inr h))⟩
 have hx:HX H ι w (H.set o (.map es')) ι { w with heap:=w.heap.setIfInBounds b (.map a' k') } :=fun i x hi=>by
  by_cases hio:o=i
  ·subst hio;rw [hH] at hi;simp at hi;subst hi;exact .inr ⟨⟨es',by simp [holt]⟩,rfl⟩
  ·have e1:(H.set o (.map es'))[i]? =some x:=by rw [List.getElem?_set_ne hio];exact hi
   cases x with
   | dead=>exact .inl e1
   | cells cs=>exact .inr ⟨⟨_,e1⟩,rfl⟩
   | map es=>exact .inr ⟨⟨_,e1⟩,rfl⟩
   | bld T E r bs=>exact .inr ⟨⟨_,e1⟩,rfl⟩
   | elems S xs =>
    refine .inr ⟨_,e1,.inr ⟨rfl,rfl,fun b2 c2 t2 hb2 hc2=>⟨c2,?_,rfl⟩⟩⟩
    show (w.heap.setIfInBounds b (.map a' k'))[b2]? =_
    rw [hoth b2 (fun e=>hio (by subst e;exact hr.inj o i _ hb hb2))];exact hc2
 have hne: ∀ {i b2:Nat},o≠i->ι[i]? =some (some b2)->b2≠b:=fun hio h e=>hio (by subst e;exact hr.inj o _ _ hb h);refine Good.up hr.env ⟨⟨by simp [hr.len],fun q hq=>by simpa using hr.fin q hq,hr.inj,fun i q hi=>by simpa using hr.avo i q hi,fun i cs hi=> ?_,fun i S xs hi=> ?_,fun i es2 hi=> ?_,?_⟩,rfl,Tp.rfl,rfl,fun q c1 t1 h1=> .inr ⟨c1,?_,rfl⟩,by simp,fun q _ ho=>hown q ho,fun q _ h=>h,hx⟩
 ·by_cases hio:o=i
  ·subst hio;simp [holt] at hi
  ·rw [List.getElem?_set_ne hio] at hi;obtain ⟨b2,c2,t2,h1,h2,h3,h4⟩:=hr.cel i cs hi;exact ⟨b2,c2,t2,h1,by rw [<- h2];exact hoth b2 (hne hio h1),h3,fun j x hj=>(h4 j x hj).ext hkeep hx⟩
 ·by_cases hio:o=i
  ·subst hio;simp [holt] at hi
  ·rw [List.getElem?_set_ne hio] at hi;rcases hr.elm i S xs hi with ⟨h1,h2⟩ | ⟨b2,c2,t2,cap,h1,h2,h3,h4,h5,h6,h7⟩
   ·exact .inl ⟨h1,h2⟩
   ·exact .inr ⟨b2,c2,t2,cap,h1,by rw [<- h2];exact hoth b2 (hne hio h1),h3,h4,h5,h6,fun i x j y hi hj=>(h7 i x j y hi hj).ext hkeep⟩
 ·by_cases hio:o=i
  ·subst hio;simp [holt] at hi;subst hi;exact ⟨b,a',k',hb,hat,hm.ext hkeep⟩
  ·rw [List.getElem?_set_ne hio] at hi;obtain ⟨b2,a2,k2,h1,h2,h3⟩:=hr.mpr i es2 hi;exact ⟨b2,a2,k2,h1,by rw [<- h2];exact hoth b2 (hne hio h1),h3.ext hkeep⟩
 ·refine Yr hr (fun i T E r bs hi=> ?_) (fun i ob hi hs=> ?_)
  ·by_cases hio:o=i
   ·subst hio;simp [holt] at hi
   ·rw [List.getElem?_set_ne hio] at hi;exact hi
  ·have hio:o≠i:=fun e=>by subst e;rw [hH] at hi;simp at hi;subst hi;cases hs
   exact ⟨List.getElem?_set_ne hio,rfl,fun q hq=>hoth q (hne hio hq)⟩
 ·show (w.heap.setIfInBounds b (.map a' k'))[q]? =_
  rw [hoth q (fun e=>by subst e;rw [h0] at h1;cases h1)];exact h1
theorem JP {F:Nat->Prop} {H:List Obj} {ι:List (Option Nat)} {w:World} (hr:Rel F H ι w):Good F H ι w (H++ [.map []]) (ι++ [some w.heap.size]) (w.alloc (.map #[] 0)):=by
 have hlen:=hr.len;obtain ⟨hnew,hold0⟩:=Go.MapKept.heap_alloc w (.map #[] 0)
 have hsz:(w.alloc (.map #[] 0)).heap.size=w.heap.size+1:=by show (w.heap.push _).size=_;simp
 have hold: ∀i b,ι[i]? =some (some b)->b<w.heap.size:=fun i b h=>(hr.avo i b h).2
 have hkeep:Keeps (Own F ι) w (Own F (ι++ [some w.heap.size])) (w.alloc (.map #[] 0)):=fun b hb hs=>by
  refine ⟨?_,by rw [hsz];omega,hold0 b hs⟩;rintro (h | h)
  ·exact hb (.inl h)
  ·simp at h;rcases h with h | h
   ·exact hb (.inr h)
   ·omega
 have hx:HX H ι w (H++ [.map []]) (ι++ [some w.heap.size]) (w.alloc (.map #[] 0)):=fun o x ho=>by
  have hlt:o<H.length:=(List.getElem?_eq_some_iff.1 ho).1
  have e1:(H++ [Obj.map []])[o]? =some x:=by rw [Zj hlt];exact ho
  have e2:(ι++ [some w.heap.size])[o]? =ι[o]? :=Zj (by omega)
  cases x with
  | dead=>exact .inl e1
  | cells cs=>exact .inr ⟨⟨_,e1⟩,e2⟩
  | map es=>exact .inr ⟨⟨_,e1⟩,e2⟩
  | bld T E r bs=>exact .inr ⟨⟨_,e1⟩,e2⟩
  | elems S xs=>exact .inr ⟨_,e1,.inr ⟨rfl,e2,fun b c t hb hc=>⟨c,by rw [hold0 b (hold _ _ hb)];exact hc,rfl⟩⟩⟩
 have hrv: ∀ {x v},RV F H ι w x v->RV F (H++ [.map []]) (ι++ [some w.heap.size]) (w.alloc (.map #[] 0)) x v:=fun h=>h.ext hkeep hx;refine Good.up hr.env ⟨⟨by simp [hlen],fun b hb=>by rw [hsz];have:=hr.fin b hb;omega,?_,?_,?_,?_,?_,?_⟩,rfl,Tp.rfl,rfl,fun b c0 t0 h0=> .inr ⟨c0,by rw [hold0 b (Array.getElem?_eq_some_iff.1 h0).1];exact h0,rfl⟩,by rw [hsz];omega,fun b hb _=>hold0 b hb,?_,hx⟩
 ·intro i j b hi hj;rcases Zk hi with ⟨_,hi⟩ | ⟨hi,e⟩<;>rcases Zk hj with ⟨_,hj⟩ | ⟨hj,e'⟩
  ·exact hr.inj i j b hi hj
  ·simp at e';have:=hold _ _ hi;omega
  ·simp at e;have:=hold _ _ hj;omega
  ·omega
 ·intro i b hi;rcases Zk hi with ⟨_,hi⟩ | ⟨hi,e⟩
  ·have:=hr.avo i b hi;exact ⟨this.1,by rw [hsz];omega⟩
  ·simp at e;subst e;exact ⟨fun h=>by have:=hr.fin _ h;omega,by rw [hsz];omega⟩
 ·intro o cs ho;rcases Zk ho with ⟨hlt,ho⟩ | ⟨hlt,e⟩
  ·obtain ⟨b,c',t',h1,h2,h3,h4⟩:=hr.cel o cs ho;exact ⟨b,c',t',by rw [Zj (by omega)];exact h1,by rw [hold0 b (hold _ _ h1)];exact h2,h3,fun j x hj=>hrv (h4 j x hj)⟩
  ·cases e
 ·intro o S xs ho;rcases Zk ho with ⟨hlt,ho⟩ | ⟨hlt,e⟩
  ·rcases hr.elm o S xs ho with ⟨h1,h2⟩ | ⟨b,c',t',cap,h1,h2,h3,h4,h5,h6,h7⟩
   ·exact .inl ⟨by rw [Zj (by omega)];exact h1,h2⟩
   ·exact .inr ⟨b,c',t',cap,by rw [Zj (by omega)];exact h1,by rw [hold0 b (hold _ _ h1)];exact h2,h3,h4,h5,h6,fun i x j y hi hj=>(h7 i x j y hi hj).ext hkeep⟩
  ·cases e
 ·intro o es ho;rcases Zk ho with ⟨hlt,ho⟩ | ⟨hlt,e⟩
  ·obtain ⟨b,a',k,h1,h2,h3⟩:=hr.mpr o es ho;exact ⟨b,a',k,by rw [Zj (by omega)];exact h1,by rw [hold0 b (hold _ _ h1)];exact h2,h3.ext hkeep⟩
  ·simp at e;subst e;subst hlt;exact ⟨w.heap.size,#[],0,by rw [<- hlen,XR],hnew,⟨rfl,rfl⟩,fun i k x hi=>by simp at hi⟩
 ·exact Yr hr (fun o T E r bs ho=>by
   rcases Zk ho with ⟨_,ho⟩ | ⟨_,e⟩
   ·exact ho
   ·cases e) (fun i ob hi _=>by
   have hlt:=(List.getElem?_eq_some_iff.1 hi).1
   exact ⟨Zj hlt,Zj (by omega),fun b hb=>hold0 b (hold _ _ hb)⟩)
 ·intro b hb ho h;simp at h;rcases h with h | h
  ·exact ho h
  ·omega
end maps
section mapOps
def Zac (P:Program) (H:List Obj) (kt:TypeId) (kv:PV) (o:Nat):Option (List (PV×PV)):=match oat H o with
 | .map es=>if mkey P kt kv=true/\(es.all fun e=>mkey P kt e.1&&kpair P kt kv e.1)=true then some es else none
 | _=>none
def ZcO (P:Program) (H:List Obj) (t:TypeId) (x k:V) (ok:Bool):Option (V×List Obj) :=
 match P.underlying t with
 | some (.map kt et)=>match x,k with
  | .mp o,.p kv=>(Zac P H kt kv o).bind fun es=>match V0 kv es 0 with
    | some q=>some (if ok=true then .tup [.p q.2,.p (.bool true)] else .p q.2,H)
    | none=>(VL P et).map fun z=>(if ok=true then .tup [.p z,.p (.bool false)] else .p z,H)
  | _,_=>none
 | _=>none
def ZsG (kv vv:PV) (es:List (PV×PV)):List (PV×PV):=match V0 kv es 0 with
 | some q=>es.set q.1 (kv,vv)
 | none=>es++ [(kv,vv)]
def Zb1 (P:Program) (H:List Obj) (t:TypeId) (x k v:V):Option (V×List Obj) :=
 match P.underlying t with
 | some (.map kt _)=>match x,k,v with
  | .mp o,.p kv,.p vv=>(Zac P H kt kv o).map fun es=>(.junk,H.set o (.map (ZsG kv vv es)))
  | _,_,_=>none
 | _=>none
def KT (P:Program) (H:List Obj) (t:TypeId) (x k:V):Option (V×List Obj) :=
 match P.underlying t with
 | some (.map kt et)=>match x,k with
  | .mp o,.p kv=>(Zac P H kt kv o).bind fun es=>match V0 kv es 0 with
    | some q=>some (.tup [.p q.2,.p (.int .i64 (q.1:Nat))],H.set o (.map (es.set q.1 (kv,q.2))))
    | none=>(VL P et).map fun z=>(.tup [.p z,.p (.int .i64 (es.length:Nat))],H.set o (.map (es++ [(kv,z)])))
  | _,_=>none
 | _=>none
def Vk (H:List Obj) (x s v:V):Option (V×List Obj) :=
 match x,s,v with
 | .mp o,.p (.int _ i),.p vv=>match oat H o with
  | .map es=>match (if 0<=i then es[i.toNat]? else none) with
   | some q=>some (.junk,H.set o (.map (es.set i.toNat (q.1,vv))))
   | none=>none
  | _=>none
 | _,_,_=>none
structure MapIs (P:Program) (F:Nat->Prop) (H:List Obj) (ι:List (Option Nat)) (w:World) (kt:TypeId) (kv:PV) (o:Nat) (es:List (PV×PV)) (u:Value) where
 b:Nat
 a:Array MapEntry
 n:Nat
 hu:u= .map (some b)
 hι:ι[o]? =some (some b)
 hH:H[o]? =some (.map es)
 hb:w.heap[b]? =some (.map a n)
 rep:MRep (Own F ι) w es a n
 isk:mkey P kt kv=true
 keys: ∀(i:Nat) (k x:PV),es[i]? =some (k,x)->mkey P kt k=true/\kpair P kt kv k=true
theorem QM {P F H ι w kt kv o es u} (hr:Rel F H ι w) (hm:Zac P H kt kv o=some es) (hv:RV F H ι w (.mp o) u):Nonempty (MapIs P F H ι w kt kv o es u):=by
 unfold Zac at hm
 split at hm
 rotate_left
 ·cases hm
 rename_i es' ho
 split at hm
 rotate_left
 ·cases hm
 rename_i hc;simp at hm;subst hm;have hH:=Zz ho (by simp)
 cases hv with
 | mp _ b es2 h hH2 =>
  rw [hH] at hH2;simp at hH2;subst hH2;obtain ⟨b',a,n,h1,h2,h3⟩:=hr.mpr o _ hH;rw [h] at h1;simp at h1;subst h1
  exact ⟨⟨b,a,n,rfl,h,hH,h2,h3,hc.1,fun i k x hi=>by
   have:=List.all_eq_true.1 hc.2 (k,x) (List.mem_of_getElem? hi)
   simpa using this⟩⟩
 | mpD _ _ h=>rw [hH] at h;cases h
theorem MapIs.find {P F H ι w kt kv o es u} (M:MapIs P F H ι w kt kv o es u) {v} (hv:RP (Own F ι) w kv v) :
  match V0 kv es 0 with
  | none=>(Instr.findKey kt v M.a.toList).run P w= .ok none w
  | some (i,x)=> ∃e k',M.a[i]? =some e/\es[i]? =some (k',x)/\e.key=v/\e.born=i/\RP (Own F ι) w x e.val/\(Instr.findKey kt v M.a.toList).run P w= .ok (some (i,e.val)) w:=by
 have:=Zey M.isk hv (es:=es) (l:=M.a.toList) (by simpa using M.rep.1.1) fun i k' x hi=>by
  obtain ⟨e,h1,_,h2,h3⟩:=M.rep.2 i k' x hi;exact ⟨(M.keys i k' x hi).1,(M.keys i k' x hi).2,e,by simpa using h1,h2,h3⟩
 split
 ·rename_i hm;rw [hm] at this;exact this
 ·rename_i i x hm;rw [hm] at this;obtain ⟨e,k',h1,h2,h3,h4⟩:=this;obtain ⟨e',q1,q2,q3,q4⟩:=M.rep.2 i k' x h2
  have:e'=e:=by simp at h1;rw [h1] at q1;simpa using q1.symm
  subst this;exact ⟨e',k',by simpa using h1,h2,h3,q2,q4,h4⟩
theorem K4 {P F H ι w kt kv o es u} (M:MapIs P F H ι w kt kv o es u) {v} (hv:RP (Own F ι) w kv v):(∀e,(Instr.checkKey e 10000 kt v).run P w= .ok () w)/\(Instr.keyThatStays v v).run P w= .ok v w:=by
 rcases X5 M.isk with ⟨d,hd,_,hk⟩ | ⟨fs,cs,l,hu,rfl,h1,h2⟩
 ·exact ⟨fun e=>Go.MapKept.run_checkKey hd (hk hv) e 9999,Go.MapKept.run_keyThatStays (d:=d) (hk hv)⟩
 ·refine ⟨fun e=>Qe 9 kt _ h2 10000 (by omega) _ w v e hv,?_⟩;rw [Zau h1 hv];exact Zcy
theorem ZbQ {P:Program} {w:World} {et z} (h:VL P et=some z): ∃v,(zeroValue et).run P w= .ok v w/\ ∀X,RP X w z v:=by
 have h0:=h;unfold VL at h;simp only [Option.bind_eq_some_iff] at h;obtain ⟨v,⟨i,hi,hz⟩,hc⟩:=h;exact ⟨v,by simp [zeroValue,typeInfo,hi,hz],fun X=>Vo (P:=P) (e:=et) (by simp [hi,hz]) h0⟩
theorem MRep.put {X w es a n} (h:MRep X w es a n) {i:Nat} {k x:PV} {e:MapEntry} (he:a[i]? =some e) {f:MapEntry->MapEntry} (hb:(f e).born=e.born) (hk:RP X w k (f e).key) (hx:RP X w x (f e).val):MRep X w (es.set i (k,x)) (a.modify i f) n:=by
 have hi:i<a.size:=(Array.getElem?_eq_some_iff.1 he).1
 have hil:i<es.length:=by rw [<- h.1.1];exact hi
 refine ⟨⟨by simpa using h.1.1,by simpa using h.1.2⟩,fun j k' x' hj=> ?_⟩;rw [List.getElem?_set] at hj
 split at hj
 ·rename_i e1;subst e1;simp [hil] at hj;obtain ⟨rfl,rfl⟩:=hj;obtain ⟨e0,h1,h2,_,_⟩:=h.2 i (es[i]).1 (es[i]).2 (by simp [hil]);rw [he] at h1;simp at h1;subst h1;exact ⟨f e,by rw [Array.getElem?_modify];simp [he],hb.trans h2,hk,hx⟩
 ·rename_i e1;obtain ⟨e0,h1,h2,h3,h4⟩:=h.2 j k' x' hj;exact ⟨e0,by rw [Array.getElem?_modify,if_neg e1];exact h1,h2,h3,h4⟩
theorem MRep.push {X w es a n} (h:MRep X w es a n) {k x:PV} {u v:Value} (hk:RP X w k u) (hx:RP X w x v):MRep X w (es++ [(k,x)]) (a.push { key:=u,val:=v,born:=n }) (n+1):=by
 refine ⟨⟨by simp [h.1.1],by simp [h.1.2]⟩,fun j k' x' hj=> ?_⟩
 by_cases hlt:j<es.length
 ·rw [List.getElem?_append_left hlt] at hj;obtain ⟨e0,h1,h2,h3,h4⟩:=h.2 j k' x' hj;exact ⟨e0,by rw [Array.getElem?_push,if_neg (by rw [h.1.1];omega)];exact h1,h2,h3,h4⟩
 ·rw [List.getElem?_append_right (by omega)] at hj
  have:j=es.length:=by
   have:=(List.getElem?_eq_some_iff.1 hj).1;simp at this;omega
  subst this;simp at hj;obtain ⟨rfl,rfl⟩:=hj;exact ⟨⟨u,v,n⟩,by rw [<- h.1.1];simp,h.1.2,hk,hx⟩
theorem K1 {P:Program} {o:Oper} {fr:List V} {H:List Obj} (t:TypeId) (h:o.op= .makeMap t none):OpS P o fr H (.mp H.length) (H++ [.map []]):=fun F ι a w hr hf=>by
 have g:=JP hr;exact ⟨_,.map (some w.heap.size),_,_,by simp [execOp,h,Instr.makeMap,newObj,Sem.run],.inl rfl,g,.mp _ _ [] (by rw [<- hr.len];simp) (by simp)⟩
theorem Zgw {P:Program} {o:Oper} {fr:List V} {H H':List Obj} (t:TypeId) (x k:Operand) (ok:Bool) (y:V) (h:o.op= .lookup t x k ok) (hz:ZcO P H t (ev fr x) (ev fr k) ok=some (y,H')):OpS P o fr H y H':=fun F ι a w hr hf=>by
 unfold ZcO at hz
 split at hz
 rotate_left
 ·cases hz
 rename_i kt et hu
 split at hz
 rotate_left
 ·cases hz
 rename_i ob kv hx hk;obtain ⟨es,hm,hz⟩:=Option.bind_eq_some_iff.1 hz;have hxv:=hf.ev x;rw [hx] at hxv;have hkv:=hf.ev k;rw [hk] at hkv
 cases hkv with | p _ _ hkv =>
 obtain ⟨M⟩:=QM hr hm hxv;have hfd:=M.find hkv;obtain ⟨hck,_⟩:=K4 M hkv
 split at hz
 ·rename_i q hq;obtain ⟨i,v⟩:=q;rw [hq] at hfd;simp only at hfd;obtain ⟨e,k',h1,h2,h3,h4,h5,h6⟩:=hfd;have hfk:=h6;simp at hz;obtain ⟨rfl,rfl⟩:=hz
  cases ok with
  | true=>exact ⟨_,.tuple #[e.val,.bool true],ι,w,by simp [execOp,h,Instr.lookup,run_underlying hu,M.hu,Go.MapKept.run_getObj_map M.hb,hck,hfk,Result.andThen],.inl rfl,Good.refl hr,.tup _ _ rfl (fun j c hj=>by
    cases j with
    | zero=>simp at hj;subst hj;exact .p _ _ h5
    | succ j=>cases j with
     | zero=>simp at hj;subst hj;exact .p _ _ (.bool _)
     | succ j=>simp at hj)⟩
  | false=>exact ⟨_,e.val,ι,w,by simp [execOp,h,Instr.lookup,run_underlying hu,M.hu,Go.MapKept.run_getObj_map M.hb,hck,hfk,Result.andThen],.inl rfl,Good.refl hr,.p _ _ h5⟩
 ·rename_i hq;rw [hq] at hfd;simp only at hfd;have hfk:=hfd;obtain ⟨z,hzv,hz⟩:=Option.map_eq_some_iff.1 hz;simp at hz;obtain ⟨rfl,rfl⟩:=hz;obtain ⟨zv,z1,z2⟩:=ZbQ (w:=w) hzv
  cases ok with
  | true=>exact ⟨_,.tuple #[zv,.bool false],ι,w,by simp [execOp,h,Instr.lookup,run_underlying hu,M.hu,Go.MapKept.run_getObj_map M.hb,hck,hfk,z1,Result.andThen],.inl rfl,Good.refl hr,.tup _ _ rfl (fun j c hj=>by
    cases j with
    | zero=>simp at hj;subst hj;exact .p _ _ (z2 _)
    | succ j=>cases j with
     | zero=>simp at hj;subst hj;exact .p _ _ (.bool _)
     | succ j=>simp at hj)⟩
  | false=>exact ⟨_,zv,ι,w,by simp [execOp,h,Instr.lookup,run_underlying hu,M.hu,Go.MapKept.run_getObj_map M.hb,hck,hfk,z1,Result.andThen],.inl rfl,Good.refl hr,.p _ _ (z2 _)⟩
theorem ZgE {P:Program} {o:Oper} {fr:List V} {H H':List Obj} (t:TypeId) (x k v:Operand) (y:V) (h:o.op= .mapUpdate t x k v) (hz:Zb1 P H t (ev fr x) (ev fr k) (ev fr v)=some (y,H')):OpS P o fr H y H':=fun F ι a w hr hf=>by
 unfold Zb1 at hz
 split at hz
 rotate_left
 ·cases hz
 rename_i kt et hu
 split at hz
 rotate_left
 ·cases hz
 rename_i ob kv vv hx hk hv;obtain ⟨es,hm,hz⟩:=Option.map_eq_some_iff.1 hz;simp at hz;obtain ⟨rfl,rfl⟩:=hz;have hxv:=hf.ev x;rw [hx] at hxv;have hkv:=hf.ev k;rw [hk] at hkv
 cases hkv with | p _ _ hkv =>
 have hvv:=hf.ev v;rw [hv] at hvv
 cases hvv with | p _ _ hvv =>
 obtain ⟨M⟩:=QM hr hm hxv;have hfd:=M.find hkv;obtain ⟨hck,hst⟩:=K4 M hkv;unfold ZsG
 split
 ·rename_i q hq;obtain ⟨i,x0⟩:=q;rw [hq] at hfd;simp only at hfd;obtain ⟨e,k',h1,h2,h3,h4,h5,h6⟩:=hfd;have hfk:=h6;have g:=X7 hr M.hH M.hι M.hb (M.rep.put h1 (f:=fun e=> { e with key:=a.eval k,val:=a.eval v }) rfl hkv hvv);exact ⟨.skip,undef,ι,_,by simp [execOp,h,Instr.mapUpdate,run_underlying hu,M.hu,Go.MapKept.run_getObj_map M.hb,hck,hfk,h1,h3,hst,Go.MapKept.run_setObj_map _ M.hb,Result.andThen],.inr ⟨rfl,rfl⟩,g,.junk _⟩
 ·rename_i hq;rw [hq] at hfd;simp only at hfd;have hfk:=hfd;have g:=X7 hr M.hH M.hι M.hb (M.rep.push hkv hvv);exact ⟨.skip,undef,ι,_,by simp [execOp,h,Instr.mapUpdate,run_underlying hu,M.hu,Go.MapKept.run_getObj_map M.hb,hck,hfk,Go.MapKept.run_setObj_map _ M.hb,Result.andThen],.inr ⟨rfl,rfl⟩,g,.junk _⟩
theorem Zb3 {P:Program} {o:Oper} {fr:List V} {H H':List Obj} (t:TypeId) (x k:Operand) (y:V) (h:o.op= .mapEntry t x k) (hz:KT P H t (ev fr x) (ev fr k)=some (y,H')):OpS P o fr H y H':=fun F ι a w hr hf=>by
 unfold KT at hz
 split at hz
 rotate_left
 ·cases hz
 rename_i kt et hu
 split at hz
 rotate_left
 ·cases hz
 rename_i ob kv hx hk;obtain ⟨es,hm,hz⟩:=Option.bind_eq_some_iff.1 hz;have hxv:=hf.ev x;rw [hx] at hxv;have hkv:=hf.ev k;rw [hk] at hkv
 cases hkv with | p _ _ hkv =>
 obtain ⟨M⟩:=QM hr hm hxv;have hfd:=M.find hkv;obtain ⟨hck,hst⟩:=K4 M hkv
 have pair: ∀ {H2:List Obj} {w2:World} {p1 p2:PV} {v1 v2:Value},RP (Own F ι) w2 p1 v1->RP (Own F ι) w2 p2 v2->RV F H2 ι w2 (.tup [.p p1,.p p2]) (.tuple #[v1,v2]):=fun h1 h2=> .tup _ _ rfl (fun j c hj=>by
  cases j with
  | zero=>simp at hj;subst hj;exact .p _ _ h1
  | succ j=>cases j with
   | zero=>simp at hj;subst hj;exact .p _ _ h2
   | succ j=>simp at hj)
 split at hz
 ·rename_i q hq;obtain ⟨i,x0⟩:=q;rw [hq] at hfd;simp only at hfd;obtain ⟨e,k',h1,h2,h3,h4,h5,h6⟩:=hfd;have hfk:=h6;simp at hz;obtain ⟨rfl,rfl⟩:=hz;have g:=X7 hr M.hH M.hι M.hb (M.rep.put h1 (f:=fun e=> { e with key:=a.eval k }) rfl hkv h5);exact ⟨.value (.tuple #[e.val,goInt (i:Nat)]),_,ι,_,by simp [execOp,h,Instr.mapEntry,run_underlying hu,M.hu,Go.MapKept.run_getObj_map M.hb,hck,hfk,h1,h3,h4,hst,Go.MapKept.run_setObj_map _ M.hb,Result.andThen],.inl rfl,g,pair (h5.ext g.keeps) (.int _ _)⟩
 ·rename_i hq;rw [hq] at hfd;simp only at hfd;have hfk:=hfd;obtain ⟨z,hzv,hz⟩:=Option.map_eq_some_iff.1 hz;simp at hz;obtain ⟨rfl,rfl⟩:=hz;obtain ⟨zv,z1,z2⟩:=ZbQ (w:=w) hzv;have g:=X7 hr M.hH M.hι M.hb (M.rep.push hkv (z2 _));exact ⟨.value (.tuple #[zv,goInt M.n]),_,ι,_,by simp [execOp,h,Instr.mapEntry,run_underlying hu,M.hu,Go.MapKept.run_getObj_map M.hb,hck,hfk,z1,Go.MapKept.run_setObj_map _ M.hb,Result.andThen],.inl rfl,g,pair ((z2 _).ext g.keeps) (by rw [M.rep.1.2];exact .int _ _)⟩
theorem Zcb {P:Program} {o:Oper} {fr:List V} {H H':List Obj} (t:TypeId) (x s v:Operand) (y:V) (h:o.op= .entryStore t x s v) (hz:Vk H (ev fr x) (ev fr s) (ev fr v)=some (y,H')):OpS P o fr H y H':=fun F ι a w hr hf=>by
 unfold Vk at hz
 split at hz
 rotate_left
 ·cases hz
 rename_i ob kk i vv hx hs hv
 split at hz
 rotate_left
 ·cases hz
 rename_i es ho;have hH:=Zz ho (by simp)
 split at hz
 rotate_left
 ·cases hz
 rename_i q hq;simp at hz;obtain ⟨rfl,rfl⟩:=hz
 split at hq
 rotate_left
 ·cases hq
 rename_i h0;have hxv:=hf.ev x;rw [hx] at hxv;have hsv:=hf.ev s;rw [hs] at hsv
 cases hsv with | p _ _ hsv =>
 have hvv:=hf.ev v;rw [hv] at hvv
 cases hvv with | p _ _ hvv =>
 generalize hxe:a.eval x=xv at hxv
 cases hxv with
 | mpD _ _ hd=>rw [hH] at hd;cases hd
 | mp _ b es2 h1 hH2 =>
 rw [hH] at hH2;simp at hH2;subst hH2;obtain ⟨b',m,n,e1,e2,e3⟩:=hr.mpr ob _ hH;rw [h1] at e1;simp at e1;subst e1;obtain ⟨k0,x0⟩:=q;obtain ⟨e,q1,q2,q3,q4⟩:=e3.2 i.toNat k0 x0 hq
 have hfi:m.findIdx? (fun e=>(e.born:Int)==i)=some i.toNat:=by
  have hlt:=(Array.getElem?_eq_some_iff.1 q1).1;rw [Array.findIdx?_eq_some_iff_getElem]
  have hb: ∀j (hj:j<m.size),(m[j]).born=j:=fun j hj=>by
   obtain ⟨e',p1,p2,_,_⟩:=e3.2 j (es[j]'(by rw [<- e3.1.1];exact hj)).1 (es[j]'(by rw [<- e3.1.1];exact hj)).2 (by simp [<- e3.1.1,hj]);simp [hj] at p1;rw [p1];exact p2
  refine ⟨hlt,by simp [hb _ hlt];omega,fun j hj=> ?_⟩;simp [hb j (by omega)];omega
 have g:=X7 hr hH h1 e2 (e3.put q1 (k:=k0) (x:=vv) (f:=fun e=> { e with val:=a.eval v }) rfl q3 hvv);exact ⟨.skip,undef,ι,_,by simp [execOp,h,Instr.entryStore,asInt,asIntOf,hsv.int_inv,hxe,Go.MapKept.run_getObj_map e2,hfi,Go.MapKept.run_setObj_map _ e2,Result.andThen],.inr ⟨rfl,rfl⟩,g,.junk _⟩
end mapOps
def Zfu (P:Program) (H:List Obj) (t:TypeId) (x:V):Option (V×List Obj) :=
 match P.underlying t with
 | some (.slice e)=>match VL P e,x with
  | some z,.sl o off len tot=>match oat H o with
   | .elems S xs=>if z.cells.length=S/\z.cells.all (·.one)=true/\xs.length=tot/\off+len<=tot then some (.tup [],ost H o (.elems S (xs.take off++List.replicate len z++xs.drop (off+len)))) else none
   | _=>none
  | _,_=>none
 | _=>none
theorem Zdc {P : Program} {o : Oper} {fr : List V} {H H' : List Obj} (t : TypeId) (x : Operand) (v : V) (h : o.op = .call { callee := .builtin .clear, args := #[x], argTypes := #[t] })
    (hz : Zfu P H t (ev fr x) = some (v, H')) : OpS P o fr H v H' := fun F ι a w hr hf => by
  have hx := hf.ev x
  suffices hh : ∃ u ι' w', (Builtin.clear_ #[t] o.type #[a.eval x]).run P w = .ok u w' /\ Good F H ι w H' ι' w' /\ RV F H' ι' w' v u by
    obtain ⟨u, ι', w', e, g, r⟩ := hh;exact ⟨_, u, ι', w', by simp [execOp, h, resolve, invoke, builtin, e], .inl rfl, g, r⟩
  generalize ev fr x = X at hx hz;unfold Zfu at hz
  split at hz
  rotate_left
  · cases hz
  rename_i e hu
  split at hz
  rotate_left
  · cases hz
  rename_i z o' off len tot hzv
  split at hz
  rotate_left
  · cases hz
  rename_i S xs ho
  split at hz
  rotate_left
  · cases hz
  rename_i hc;obtain ⟨hS, hz1, htl, hle⟩ := hc;simp only [Option.some.injEq, Prod.mk.injEq] at hz;obtain ⟨rfl, rfl⟩ := hz;have hH := Zz ho (by simp);rw [JK]
  by_cases h0 : len = 0
  · subst h0
    have e0 : xs.take off ++ List.replicate 0 z ++ xs.drop (off + 0) = xs := by simp
    have hol := (List.getElem?_eq_some_iff.1 hH).1
    have e1 : H.set o' (.elems S xs) = H := by
      apply List.ext_getElem?;intro i;rw [List.getElem?_set]
      split
      · rename_i hi; subst hi; exact hH.symm
      · rfl
    rw [e0, e1];refine ⟨.tuple #[], ι, w, ?_, Good.refl hr, .tup [] #[] (by simp) (by simp)⟩
    obtain ⟨ad, cap, e⟩ : ∃ ad cap, a.eval x = .slice ad 0 cap := by
      generalize a.eval x = vv at hx
      cases hx with
      | slNil => exact ⟨_, _, rfl⟩
      | sl => exact ⟨_, _, rfl⟩
      | slD _ _ _ _ _ hd => rw [hH] at hd; cases hd
      | slS _ _ _ _ _ S2 xs2 hd hne => rw [hH] at hd; simp at hd; obtain ⟨_, rfl⟩ := hd; omega
      | slC _ _ _ _ _ _ hd => rw [hH] at hd; cases hd
    cases ad <;> simp [Builtin.clear_, run_underlying hu, e]
  · obtain ⟨zz, hzz⟩ : ∃ zz, ((P.info? e).bind (·.zero)) = some zz := by
      unfold VL at hzv;simp only [Option.bind_eq_some_iff] at hzv;obtain ⟨zz, h1, _⟩ := hzv;exact ⟨zz, by simpa [Option.bind_eq_some_iff] using h1⟩
    have hrz : RP (Own F ι) w z zz := Vo hzz hzv;obtain ⟨z1, z2⟩ := XT hrz hz1;simp only [Option.bind_eq_some_iff] at hzz;obtain ⟨ie, hie, hzz⟩ := hzz;rw [hS] at z1;rcases hr.elm o' S xs hH with ⟨_, rfl⟩ | ⟨b, c, u, cap0, h1, h2, h3, h4, h5, h6, h7⟩
    · simp at htl; omega
    obtain ⟨cap, e2⟩ : ∃ cap, a.eval x = .slice (some ⟨b, off * S, none⟩) len cap := by
      generalize a.eval x = vv at hx
      cases hx with
      | slNil => omega
      | sl _ _ _ _ b2 S2 cap2 t2 xs2 c2 hι hH2 ht2 hw2 hcap hl hlen hm =>
        rw [h1] at hι; simp at hι; subst hι;rw [hH] at hH2; simp at hH2; obtain ⟨rfl, rfl⟩ := hH2;exact ⟨_, rfl⟩
      | slD _ _ _ _ _ hd => rw [hH] at hd; cases hd
      | slS _ _ _ _ _ S2 xs2 hd hne => rw [hH] at hd; simp at hd; obtain ⟨_, rfl⟩ := hd; omega
      | slC _ _ _ _ _ _ hd => rw [hH] at hd; cases hd
    obtain ⟨news, hnews⟩ : ∃ news, news = (Builtin.zeroCells zz.cells len).toList := ⟨_, rfl⟩
    have hlenN : news.length = len * S := by rw [hnews]; simp [Builtin.zeroCells, z1]
    have hnew : ∀ q, q < len * S -> news.getD q undef = zz.cells.getD (q % S) undef := fun q hq => by
      have hS0 : 0 < S := by rcases Nat.eq_zero_or_pos S with h | h; · subst h; simp at hq
                             · exact h
      have hm := Nat.mod_lt q hS0;rw [hnews];simp [Builtin.zeroCells, z1, List.getD_eq_getElem?_getD, hq, Array.getD_eq_getD_getElem?, hm, getElem!_def]
    have hone : ∀ v ∈ news, v.oneCell' = true := fun v hv => by
      obtain ⟨q, hq⟩ := List.mem_iff_getElem?.1 hv;have hlt := (List.getElem?_eq_some_iff.1 hq).1
      have hS0 : 0 < S := by rcases Nat.eq_zero_or_pos S with h | h; · rw [h, Nat.mul_zero] at hlenN; omega
                             · exact h
      have hm := Nat.mod_lt q hS0;have e9 := hnew q (by rw [<- hlenN]; exact hlt)
      have e10 : news.getD q undef = v := by simp [List.getD, hq]
      rw [e10] at e9
      have hg : z.cells[q % S]? = some (z.cells[q % S]'(by omega)) := by simp [hS, hm]
      rw [e9];exact (z2 _ _ hg).oneCell (List.all_eq_true.1 hz1 _ (List.getElem_mem _))
    have hfit : off * S + news.length <= c.size := by
      rw [hlenN, h3, <- Nat.add_mul];exact Nat.mul_le_mul_right _ (by omega)
    have hrun := run_storeCells_at P b (off * S) u news 0 c w h2 (by simpa using hfit) hone;simp only [Nat.add_zero] at hrun;have hT : Turned w (w.setRow b (c.toList.take (off * S) ++ news ++ c.toList.drop (off * S + news.length)).toArray) b _ u := Turned.setRow h2
    have hxl : (xs.take off ++ List.replicate len z ++ xs.drop (off + len)).length = xs.length := by simp; omega
    have hcl : ∀ (i : Nat) (x : PV), (xs.take off ++ List.replicate len z ++ xs.drop (off + len))[i]? = some x -> x.cells.length = S := fun i x hi => by
      have hm := List.mem_of_getElem? hi;simp only [List.mem_append, List.mem_replicate] at hm;rcases hm with (hm | ⟨_, rfl⟩) | hm
      · obtain ⟨j, hj⟩ := List.mem_iff_getElem?.1 (List.mem_of_mem_take hm); exact h6 j x hj
      · exact hS
      · obtain ⟨j, hj⟩ := List.mem_iff_getElem?.1 (List.mem_of_mem_drop hm); exact h6 j x hj
    have g := Z1 (w' := w.setRow b (c.toList.take (off * S) ++ news ++ c.toList.drop (off * S + news.length)).toArray) (cap := cap0)
      (xs' := xs.take off ++ List.replicate len z ++ xs.drop (off + len)) hr hH hT.os hT.tape hT.output (fun c0 t0 hc0 => by rw [h2] at hc0; simp at hc0; obtain ⟨rfl, rfl⟩ := hc0; exact ⟨rfl, by simp; omega⟩) (by rw [hT.size]; exact Nat.le_refl _) hT.at' (fun k _ hk => hT.other k hk)
      (.inl ⟨h1, .inl ⟨hxl, fun c0 t0 hc0 => by rw [h2] at hc0; simp at hc0; obtain ⟨rfl, rfl⟩ := hc0; exact ⟨rfl, by simp; omega⟩⟩⟩)
      (by simp; omega) (by rw [hxl]; exact h4) h5 hcl
      (fun i x j y hi hj => by
        have hjl : j < x.cells.length := (List.getElem?_eq_some_iff.1 hj).1;have hxS := hcl i x hi;have hil := (List.getElem?_eq_some_iff.1 hi).1;rw [hxl] at hil;rw [YD];simp only [List.length_take, Array.length_toList];rw [Nat.min_eq_left (by omega), hlenN]
        by_cases c1 : i < off
        · have q1 : (i + 1) * S <= off * S := Nat.mul_le_mul_right _ c1
          rw [Nat.add_mul, Nat.one_mul] at q1
          have hi' : xs[i]? = some x := by
            rw [List.append_assoc, List.getElem?_append_left (by simp; omega), List.getElem?_take_of_lt c1] at hi;exact hi
          have := h7 i x j y hi' hj;rw [if_pos (by omega), List.getD_eq_getElem?_getD, List.getElem?_take_of_lt (by omega), Array.getElem?_toList];rwa [Array.getD_eq_getD_getElem?] at this
        · by_cases c2 : i < off + len
          · have q1 : off * S <= i * S := Nat.mul_le_mul_right _ (by omega)
            have q2 : (i + 1) * S <= (off + len) * S := Nat.mul_le_mul_right _ c2;rw [Nat.add_mul, Nat.one_mul, Nat.add_mul] at q2;rw [if_neg (by omega), if_pos (by omega)]
            have hi' : z = x := by
              rw [List.append_assoc, List.getElem?_append_right (by simp; omega), List.getElem?_append_left (by simp; omega), List.getElem?_replicate] at hi
              split at hi
              · simpa using hi
              · cases hi
            subst hi'
            have e9 : i * S + j - off * S = j + (i - off) * S := by rw [Nat.sub_mul]; omega
            rw [hnew _ (by omega), e9, Nat.add_mul_mod_self_right, Nat.mod_eq_of_lt (by omega)];exact z2 j y hj
          · have q1 : (off + len) * S <= i * S := Nat.mul_le_mul_right _ (by omega)
            rw [Nat.add_mul] at q1;rw [if_neg (by omega), if_neg (by omega)]
            have hi' : xs[i]? = some x := by
              rw [List.getElem?_append_right (by simp; omega), List.getElem?_drop] at hi;rw [<- hi]
              congr 1
              simp;omega
            have := h7 i x j y hi' hj;rw [List.getD_eq_getElem?_getD, List.getElem?_drop, Array.getElem?_toList, <- Array.getD_eq_getD_getElem?]
            have e9 : off * S + len * S + (i * S + j - off * S - len * S) = i * S + j := by omega
            rw [e9]
            exact this)
    refine ⟨.tuple #[], _, _, ?_, g, .tup [] #[] (by simp) (by simp)⟩;obtain ⟨l', rfl⟩ : ∃ l', len = l' + 1 := ⟨len - 1, by omega⟩;simp [Builtin.clear_, run_underlying hu, e2, zeroValue, typeInfo, hie, hzz, <- hnews, hrun]
end Go.AM
namespace Go.AM
open Go.RowKit
theorem Qw {F H ι w o off len tot v S xs} (X:Nat->Prop) (hX: ∀b,ι[o]? =some (some b)-> ¬X b) (hk:Keeps (Own F ι) w X w) (hr:Rel F H ι w) (hH:H[o]? =some (.elems S xs)) (ht:xs.length=tot) (hlen:off+len<=tot) (hv:RV F H ι w (.sl o off len tot) v) :
  RP X w (.list false ((xs.take (off+len)).drop off)) v:=by
 have hl:((xs.take (off+len)).drop off).length=len:=by simp;omega
 cases hv with
 | slNil _ _ a _ _=>simp;exact .emp _ a 0 (fun h=>by cases h) (by simp [maxLen]) (fun h=>by omega)
 | sl _ _ _ _ b S2 cap t2 xs2 c hb hH2 ht2 hw hcap hl2 hlen2 hm =>
  rw [hH] at hH2;simp at hH2;obtain ⟨rfl,rfl⟩:=hH2;rcases hr.elm o S xs hH with ⟨h1,_⟩ | ⟨b2,c2,t3,cap2,f1,f2,f3,f4,f5,f6,f7⟩
  ·rw [h1] at hb;cases hb
  ·have:b2=b:=by rw [hb] at f1;simpa using f1.symm
   subst this;rw [hw] at f2;simp at f2;obtain ⟨rfl,rfl⟩:=f2
   have hget: ∀(i:Nat) (x:PV),((xs.take (off+len)).drop off)[i]? =some x->xs[off+i]? =some x:=fun i x hi=>by
    rw [List.getElem?_drop,List.getElem?_take] at hi
    split at hi
    ·exact hi
    ·cases hi
   have:=RP.list (X:=X) (w:=w) false ((xs.take (off+len)).drop off) b2 (off*S) cap S (fun i j=>c.getD ((off+i)*S+j) undef) (hX b2 hb) (Array.getElem?_eq_some_iff.1 hw).1 (by omega) (by omega) (fun h=>by cases h)
    (fun i x hi=>f6 _ x (hget i x hi))
    (fun i x j q hi hj=>by
     have hx:=hget i x hi;have hl:=f6 _ x hx;have hlt2:=(List.getElem?_eq_some_iff.1 hx).1;have hjl:=(List.getElem?_eq_some_iff.1 hj).1;have hle:(off+i+1)*S<=cap2*S:=Nat.mul_le_mul_right _ (by omega);rw [Nat.add_mul (off+i),Nat.one_mul] at hle
     have hsz:(off+i)*S+j<c.size:=by rw [f3];omega
     rw [show off*S+i*S+j=(off+i)*S+j by rw [Nat.add_mul]]
     simp [World.cell?,hw,Array.getD,hsz]) (fun i x j q hi hj=>(f7 _ x j q (hget i x hi) hj).ext hk)
   rw [hl] at this;exact this
 | slD _ _ _ _ _ hd=>rw [hH] at hd;cases hd
 | slS _ _ _ _ _ S2 xs2 hd hne=>rw [hH] at hd;simp at hd;obtain ⟨_,rfl⟩:=hd;omega
 | slC _ _ _ _ _ _ hd=>rw [hH] at hd;cases hd
def Xo : List PV->Option (List UInt8)
 | []=>some []
 | .int .u8 n::r=>(Xo r).map (UInt8.ofNat n.toNat:: ·)
 | _=>none
theorem VO : ∀(xs:List PV) (bs:List UInt8),Xo xs=some bs-> ∃ns:List Int,xs=ns.map (.int .u8)/\bs=ns.map fun n=>UInt8.ofNat n.toNat
 | [],bs,h=>by simp [Xo] at h;exact ⟨[],rfl,by simp [h]⟩
 | x::r,bs,h=>by
  unfold Xo at h
  split at h
  ·cases ‹_::_= []›
  ·rename_i n r' he;simp only [List.cons.injEq] at he;obtain ⟨rfl,rfl⟩:=he;simp only [Option.map_eq_some_iff] at h;obtain ⟨bs',h1,rfl⟩:=h;obtain ⟨ns,e1,e2⟩:=VO r bs' h1;exact ⟨n::ns,by simp [e1],by simp [e2]⟩
  ·cases h
theorem Qc : ∀(ns:List Int) (s:ByteArray),ns.foldl (fun r n=>r.push (UInt8.ofNat n.toNat)) s=⟨(s.data.toList++ns.map fun n=>UInt8.ofNat n.toNat).toArray⟩
 | [],s=>by simp
 | n::ns,s=>by
  rw [List.foldl_cons,Qc ns];apply ByteArray.ext;simp [ByteArray.push]
theorem Ki {P:Program} {X w cl xs v bs} (h:RP X w (.list cl xs) v) (hb:Xo xs=some bs):(∃a l c,v= .slice a l c)/\(Conv.bytesToString v).run P w= .ok (.string ⟨bs.toArray⟩) w:=by
 obtain ⟨ns,rfl,rfl⟩:=VO _ _ hb;generalize hxs:ns.map (PV.int .u8)=xs at h
 cases h with
 | nils =>
  have:ns= []:=by simpa using hxs
  subst this;exact ⟨⟨_,_,_,rfl⟩,by simp [Conv.bytesToString];rfl⟩
 | emp _ a cap hc hm ha =>
  have:ns= []:=by simpa using hxs
  subst this;refine ⟨⟨_,_,_,rfl⟩,?_⟩
  cases a with
  | none=>simp [Conv.bytesToString];rfl
  | some ad =>
   have hl:=run_loadCells_list (P:=P) w ad [] (fun j u hj=>by simp at hj);rw [run_bytesToString (ns:= []) w ad 0 cap hl]
   rfl
 | list _ _ b off cap S u hX hb' hc hm hcl hS hu hr =>
  subst hxs;refine ⟨⟨_,_,_,rfl⟩,?_⟩
  have hl:=run_loadCells_list (P:=P) w ⟨b,off,none⟩ (ns.map (Value.int .u8)) (fun j v hj=>by
   simp only [List.getElem?_map,Option.map_eq_some_iff] at hj;obtain ⟨n,hn,rfl⟩:=hj
   have hx:(ns.map (PV.int .u8))[j]? =some (.int .u8 n):=by simp [hn]
   have hS1:S=1:=by have:=hS j _ hx;simpa [PV.cells] using this.symm
   have e1:=hu j _ 0 (.int .u8 n) hx (by simp [PV.cells]);have e2:=(hr j _ 0 (.int .u8 n) hx (by simp [PV.cells])).int_inv;rw [e2] at e1;rw [Addr.add_lit];subst hS1
   simpa using e1)
  rw [List.length_map] at hl;rw [List.length_map,run_bytesToString (ns:=ns) w _ _ _ hl,Qc]
  rfl
def Qh (P:Program) (H:List Obj) (s t:TypeId) (x:V):Option PV :=
 match P.underlying s,P.underlying t with
 | some (.slice e),some .string=>match P.underlying e,x with
  | some (.int .u8),.p (.list _ xs)=>(Xo xs).map .str
  | some (.int .u8),.sl o off len tot=>match oat H o with
   | .elems _ xs=>if xs.length=tot/\off+len<=tot then (Xo ((xs.take (off+len)).drop off)).map .str else none
   | _=>none
  | _,_=>none
 | _,_=>none
theorem Zcd {P:Program} {o:Oper} {fr:List V} {H:List Obj} (s t:TypeId) (x:Operand) (y:PV) (h:o.op= .convert s t x) (hz:Qh P H s t (ev fr x)=some y):PureOp P o fr H (.p y):=fun F ι a w hr hf=>by
 have hx:=hf.ev x;unfold Qh at hz
 split at hz
 rotate_left
 ·cases hz
 rename_i e hs ht
 have go: ∀ {X cl xs bs},RP X w (.list cl xs) (a.eval x)->P.underlying e=some (.int .u8)->Xo xs=some bs-> ∃v,(execOp a.eval o).run P w= .ok (.value v) w/\RV F H ι w (.p (.str bs)) v:=fun {X cl xs bs} hp he hb=>by
  obtain ⟨⟨ad,l,c,ev'⟩,e2⟩:=Ki (P:=P) hp hb;refine ⟨.string ⟨bs.toArray⟩,?_,.p _ _ (.str _)⟩;rw [ev'] at e2;simp [execOp,h,ev',run_convert_bytes_string w s t e ad l c hs he ht,e2]
 split at hz
 ·rename_i cl xs he hv;simp only [Option.map_eq_some_iff] at hz;obtain ⟨bs,hb,rfl⟩:=hz;rw [hv] at hx
  cases hx with | p _ _ hp=>exact go hp he hb
 ·rename_i o' off len tot he hv
  split at hz
  ·rename_i S xs ho
   split at hz
   ·rename_i hc;simp only [Option.map_eq_some_iff] at hz;obtain ⟨bs,hb,rfl⟩:=hz;rw [hv] at hx;exact go (Qw (fun _=>False) (fun _ _ h=>h) (fun b _ hs=>⟨fun h=>h,hs,rfl⟩) hr (Zz ho (by simp)) hc.1 hc.2 hx) he hb
   ·cases hz
  ·cases hz
 ·cases hz
def ZC (P:Program) (op:Op) (fr:List V) (H:List Obj):Option V :=
 match op with
 | .build t ps=>JY P H t (ps.toList.map fun x=>(x.1,ev fr x.2))
 | .convert s t x=>match Qh P H s t (ev fr x) with | some y=>some (.p y) | none=>Xk P (.convert s t x) fr H
 | op=>Xk P op fr H
theorem J2 {P:Program} {o:Oper} {fr:List V} {H:List Obj} {y:V} (hz:ZC P o.op fr H=some y):PureOp P o fr H y:=by
 unfold ZC at hz
 split at hz
 ·rename_i t ps h;exact Zb9 t ps y h hz
 ·rename_i s t x h
  split at hz
  ·rename_i z hb;simp at hz;subst hz;exact Zcd s t x z h hb
  ·rw [<- h] at hz;exact UC hz
 ·exact UC hz
def Wd (P:Program) (op:Op) (fr:List V) (H:List Obj):Option (V×List Obj) :=
 match op with
 | .alloc t=>(Xb P t).map fun zs=>(.ptr H.length 0,H++ [.cells (zs.map .p)])
 | .box _ x=>(vc H (ev fr x)).map fun cs=>(.ptr H.length 0,H++ [.cells cs])
 | .store t x y=>match tsz P t,vc H (ev fr y) with
  | some n,some cs=>(VS H n (ev fr x) cs).map fun H'=>(.junk,H')
  | _,_=>none
 | .buildSlice t n ps=>match P.underlying t with
  | some (.slice e)=>match (P.info? e).bind (·.zero) with
   | some _=>ZkT P H t n (ps.toList.map fun x=>(x.1,ev fr x.2))
   | none=>none
  | _=>none
 | .makeSlice t x y=>match P.underlying t with
  | some (.slice e)=>match VL P e with
   | some z=>if z.cells.all (·.one)=true then Zhw P H t (ev fr x) (ev fr y) else none
   | none=>none
  | _=>none
 | .call { callee:= .builtin .append,args:=azs,argTypes:=ts } =>match azs.toList,ts.toList with
  | [x,y],[t,t2]=>VZ P H t t2 (ev fr x) (ev fr y)
  | _,_=>none
 | .call { callee:= .builtin .clear,args:=azs,argTypes:=ts } =>match azs.toList,ts.toList with
  | [x],[t]=>Zfu P H t (ev fr x)
  | _,_=>none
 | .makeMap _ none=>some (.mp H.length,H++ [.map []])
 | .lookup t x k ok=>ZcO P H t (ev fr x) (ev fr k) ok
 | .mapUpdate t x k v=>Zb1 P H t (ev fr x) (ev fr k) (ev fr v)
 | .mapEntry t x k=>KT P H t (ev fr x) (ev fr k)
 | .entryStore _ x s v=>Vk H (ev fr x) (ev fr s) (ev fr v)
 | _=>none
theorem Zcp {P:Program} {o:Oper} {fr:List V} {H H':List Obj} {y:V} (hz:Wd P o.op fr H=some (y,H')):OpS P o fr H y H':=by
 unfold Wd at hz
 split at hz
 ·rename_i t h;simp only [Option.map_eq_some_iff,Prod.mk.injEq] at hz;obtain ⟨zs,h1,rfl,rfl⟩:=hz;exact Ze7 t zs h h1
 ·rename_i t x h;simp only [Option.map_eq_some_iff,Prod.mk.injEq] at hz;obtain ⟨cs,h1,rfl,rfl⟩:=hz;exact Zky t x cs h h1
 ·rename_i t x y' h
  split at hz
  ·rename_i n cs h1 h2;simp only [Option.map_eq_some_iff,Prod.mk.injEq] at hz;obtain ⟨H2,h3,rfl,rfl⟩:=hz;exact Zfm t x y' n cs h h1 h2 h3
  ·cases hz
 ·rename_i t n ps h
  split at hz
  ·rename_i e hu
   split at hz
   ·rename_i z hze;exact ZkF t n ps y h e z hu hze hz
   ·cases hz
  ·cases hz
 ·rename_i t x y' h
  split at hz
  ·rename_i e hu
   split at hz
   ·rename_i z hzv
    split at hz
    ·rename_i hone
     exact ZgM t x y' y h (fun e' z' hu' hz'=>by
      rw [hu] at hu';simp at hu';subst hu'
      rw [hzv] at hz';simp at hz';subst hz';exact hone) hz
    ·cases hz
   ·cases hz
  ·cases hz
 ·rename_i azs ts h
  split at hz
  ·rename_i x y' t t2 e1 e2;obtain ⟨azs⟩:=azs;obtain ⟨ts⟩:=ts;simp at e1 e2;subst e1;subst e2;exact Zdu t t2 x y' y h hz
  ·cases hz
 ·rename_i azs ts h
  split at hz
  ·rename_i x t e1 e2;obtain ⟨azs⟩:=azs;obtain ⟨ts⟩:=ts;simp at e1 e2;subst e1;subst e2;exact Zdc t x y h hz
  ·cases hz
 ·rename_i t h;simp at hz;obtain ⟨rfl,rfl⟩:=hz;exact K1 t h
 ·rename_i t x k ok h;exact Zgw t x k ok y h hz
 ·rename_i t x k v h;exact ZgE t x k v y h hz
 ·rename_i t x k h;exact Zb3 t x k y h hz
 ·rename_i t x s v h;exact Zcb t x s v y h hz
 ·cases hz
def aop (P:Program) (op:Op) (fr:List V) (H:List Obj):Option (V×List Obj) :=
 match ZC P op fr H with
 | some x=>some (x,H)
 | none=>Wd P op fr H
theorem Zdg {P:Program} {o:Oper} {fr:List V} {H H':List Obj} {y:V} (hz:aop P o.op fr H=some (y,H')):OpS P o fr H y H':=by
 unfold aop at hz
 split at hz
 ·rename_i x h;simp at hz;obtain ⟨rfl,rfl⟩:=hz;exact (J2 h).ops
 ·exact Zcp hz
def Xr : Op->Option (Operand×List Operand)
 | .call { callee:= .value f,args:=azs,.. } =>some (f,azs.toList)
 | _=>none
def RVs (F:Nat->Prop) (H:List Obj) (ι:List (Option Nat)) (w:World) (xs:List V) (vs:Array Value):Prop :=
 vs.size=xs.length/\ ∀(j:Nat) (c:V),xs[j]? =some c->RV F H ι w c (vs.getD j undef)
def Zi (P:Program) (g:FuncId):Prop:= ∀(args:Array Value) (w:World),(callFunc g args).run P w= .ok (.enter g args) w
def ACalls (P:Program) (g:FuncId) (args:List V) (H:List Obj) (Q:V->List Obj->Prop):Prop :=
 Zi P g/\ ∀F ι w vs,Rel F H ι w->RVs F H ι w args vs->Calls P g vs w fun e w'=> ∃x H' ι' v,e= .returned v/\Q x H'/\Good F H ι w H' ι' w'/\RV F H' ι' w' x v
theorem ACalls.mono {P g args H Q Q'} (h:ACalls P g args H Q) (hq: ∀x H',Q x H'->Q' x H'):ACalls P g args H Q' :=
 ⟨h.1,fun F ι w vs hr hv=>(h.2 F ι w vs hr hv).mono fun _ _ ⟨x,H',ι',v,e,q,g,r⟩=>⟨x,H',ι',v,e,hq x H' q,g,r⟩⟩
def U0 (P:Program) (f:V) (args:List V) (H:List Obj) (K:V->List Obj->Prop):Prop :=
 match f with
 | .fn (.func g) fs cs=>ACalls P g (fs++args++cs) H K
 | .p (.fn g)=>ACalls P g args H K
 | _=>False
theorem ZfU {P:Program} {o:Oper} {fr:List V} {H:List Obj} {f:Operand} {azs:List Operand} {K:V->List Obj->Prop} (ho:Xr o.op=some (f,azs)) (h:U0 P (ev fr f) (azs.map (ev fr)) H K)
  {F ι a w} (hr:Rel F H ι w) (hf:Fr F H ι w fr a) {next:Act->World->Prop} {Q:Exit->Act->World->Prop}
  (hn: ∀x H' ι' v w',K x H'->Good F H ι w H' ι' w'->RV F H' ι' w' x v->next (a.put o.dst v) w'):o.wp P a w next Q:=by
 have key: ∀(g:FuncId) (fs cs:List V),RV F H ι w (.fn (.func g) fs cs) (a.eval f)->ACalls P g (fs++azs.map (ev fr)++cs) H K->o.wp P a w next Q:=fun g fs cs hv hA=>by
  clear h;unfold Xr at ho
  split at ho
  rotate_left
  ·cases ho
  rename_i f' as' ts hop;simp at ho;obtain ⟨rfl,rfl⟩:=ho;generalize hfv:a.eval f'=fv at hv
  cases hv with
  | fn _ _ _ a1 a2 hs ht hr1 hq1 =>
   obtain ⟨hfun,hcall⟩:=hA
   have hargs:RVs F H ι w (fs++as'.toList.map (ev fr)++cs) (a1++as'.map a.eval++a2):=by
    refine ⟨by simp [hs,ht],fun j c hj=> ?_⟩
    by_cases h1:j<fs.length
    ·rw [List.append_assoc,List.getElem?_append_left h1] at hj
     have e:(a1++as'.map a.eval++a2).getD j undef=a1.getD j undef:=by
      simp only [Array.getD_eq_getD_getElem?];rw [Array.append_assoc,Array.getElem?_append_left (by omega)]
     rw [e];exact hr1 j c hj
    ·by_cases h2:j<fs.length+as'.size
     ·rw [List.append_assoc,List.getElem?_append_right (by omega),List.getElem?_append_left (by simp;omega)] at hj;simp only [List.getElem?_map,Option.map_eq_some_iff] at hj;obtain ⟨y,hy,rfl⟩:=hj
      have e:(a1++as'.map a.eval++a2).getD j undef=a.eval y:=by
       simp only [Array.getD_eq_getD_getElem?];rw [Array.append_assoc,Array.getElem?_append_right (by omega),Array.getElem?_append_left (by simp;omega),hs];simp at hy;simp [hy]
      rw [e];exact hf.ev y
     ·rw [List.getElem?_append_right (by simp;omega)] at hj
      have e:(a1++as'.map a.eval++a2).getD j undef=a2.getD (j-(fs++as'.toList.map (ev fr)).length) undef:=by
       simp only [Array.getD_eq_getD_getElem?];rw [Array.getElem?_append_right (by simp;omega)];simp [hs]
      rw [e];exact hq1 _ c hj
   have hc:=hcall F ι w _ hr hargs;unfold Oper.wp
   have hrun:(execOp a.eval o).run P w= .ok (.enter g (a1++as'.map a.eval++a2)) w:=by
    simp [execOp,hop,resolve,Deferred.ofValue,hfv,invoke];exact hfun _ _
   rw [hrun,Oper.upon_enter];refine hc.mono fun e w' ⟨x,H',ι',v,he,q,gd,r⟩=> ?_;subst he;exact hn x H' ι' v w' q gd r
 have hv:=hf.ev f;unfold U0 at h
 split at h
 ·rename_i g fs cs hfn;rw [hfn] at hv;exact key g fs cs hv h
 ·rename_i g hfn;rw [hfn] at hv;refine key g [] [] ?_ (by simpa using h)
  cases hv with
  | p _ _ hv =>
   generalize a.eval f=fv at hv
   cases hv
   exact .fn _ _ _ _ _ rfl rfl (fun j c h=>by simp at h) (fun j c h=>by simp at h)
 ·exact h.elim
def Zq (P:Program) (o:Oper) (fr:List V) (H:List Obj) (K:V->List Obj->Prop):Prop :=
 match Xr o.op with
 | some (f,azs)=>U0 P (ev fr f) (azs.map (ev fr)) H K
 | none=>match aop P o.op fr H with
  | some (x,H')=>K x H'
  | none=>False
theorem YH {P:Program} {o:Oper} {fr:List V} {H:List Obj} {K:V->List Obj->Prop} (h:Zq P o fr H K) {F ι a w} (hr:Rel F H ι w) (hf:Fr F H ι w fr a) {next:Act->World->Prop} {Q:Exit->Act->World->Prop}
  (hn: ∀x H' ι' v w',K x H'->Good F H ι w H' ι' w'->RV F H' ι' w' x v->next (a.put o.dst v) w'):o.wp P a w next Q:=by
 unfold Zq at h
 split at h
 ·rename_i f azs ho;exact ZfU ho h hr hf hn
 ·split at h
  ·rename_i x H' ha;obtain ⟨nx,v,ι',w',e,e2,g,r⟩:=Zdg ha F ι a w hr hf;unfold Oper.wp;rw [e];rcases e2 with rfl | ⟨rfl,rfl⟩
   ·exact hn x H' ι' v w' h g r
   ·exact hn x H' ι' undef w' h g r
  ·exact h.elim
def gAt (fr:List V) (ds:List (Option Nat)) (j:Nat):V :=
 match ds[j]? with
 | some (some d)=>gt fr d
 | _=> .junk
def ZX (x:V) (b:Bool) (A B:Prop):Prop :=
 match x with
 | .p (.bool c)=>(c=b->A)/\(c≠b->B)
 | .tup []=>B
 | _=>False
def Yo (P:Program) (ds:List (Option Nat)):List Oper->List V->List Obj->(List V->List Obj->Prop)->Prop
 | [],fr,H,K=>K fr H
 | o::r,fr,H,K=>match o.guard with
  | none=>Zq P o fr H fun x H'=>Yo P ds r (ptO fr o.dst x) H' K
  | some (j,b)=>ZX (gAt fr ds j) b (Zq P o fr H fun x H'=>Yo P ds r (ptO fr o.dst x) H' K) (Yo P ds r (ptO fr o.dst (.tup [])) H K)
theorem XP {F H ι w fr a} (hf:Fr F H ι w fr a) {ops:Array Oper} {j:Nat} {c:Bool} (h:gAt fr (ops.toList.map (·.dst)) j= .p (.bool c)):yielded ops a.tmps j=some c:=by
 unfold gAt at h
 split at h
 ·rename_i d hd;simp only [List.getElem?_map,Array.getElem?_toList,Option.map_eq_some_iff] at hd;obtain ⟨o,ho,hd⟩:=hd;have hv:=hf.get d;rw [h] at hv
  cases hv with | p _ _ hv =>
  have e:=hv.bool_inv
  have hlt:d<a.tmps.size:=by
   rcases Nat.lt_or_ge d a.tmps.size with h1 | h1
   ·exact h1
   ·rw [Array.getD_eq_getD_getElem?,Array.getElem?_eq_none h1] at e;simp [undef] at e
  have e2:a.tmps[d]? =some (.bool c):=by
   rw [Array.getElem?_eq_getElem hlt];rw [Array.getD_eq_getD_getElem?,Array.getElem?_eq_getElem hlt] at e;simpa using e
  unfold yielded;simp [ho,hd,e2]
 ·cases h
theorem Xj {F H ι w fr a} (hf:Fr F H ι w fr a) {ops:Array Oper} {j:Nat} (h:gAt fr (ops.toList.map (·.dst)) j= .tup []):yielded ops a.tmps j=none:=by
 unfold gAt at h
 split at h
 ·rename_i d hd;simp only [List.getElem?_map,Array.getElem?_toList,Option.map_eq_some_iff] at hd;obtain ⟨o,ho,hd⟩:=hd;have hv:=hf.get d;rw [h] at hv;unfold yielded;simp only [ho,Option.bind_some,hd]
  cases ht:a.tmps[d]? with
  | none=>rfl
  | some v =>
   rw [Array.getD_eq_getD_getElem?,ht] at hv;simp only [Option.getD_some] at hv
   cases hv
   rfl
 ·cases h
theorem XB {F H ι w} :RV F H ι w (.tup []) undef:= .tup [] #[] rfl (fun j c hj=>by simp at hj)
theorem Z4 {P:Program} {ops:Array Oper} {Q:Exit->Act->World->Prop} : ∀(l:List Oper) (fr:List V) (H:List Obj) (K:List V->List Obj->Prop),Yo P (ops.toList.map (·.dst)) l fr H K ->
  ∀F ι a w,Rel F H ι w->Fr F H ι w fr a ->
   (∀fr' H' ι' a' w',K fr' H'->Good F H ι w H' ι' w'->Fr F H' ι' w' fr' a'->Q .normal a' w')->wpList P ops Q l a w
 | [],fr,H,K,h,F,ι,a,w,hr,hf,hq=>hq fr H ι a w h (Good.refl hr) hf
 | o::l,fr,H,K,h,F,ι,a,w,hr,hf,hq=>by
  have step: ∀ {fr:List V} {a:Act},Fr F H ι w fr a->Zq P o fr H (fun x H'=>Yo P (ops.toList.map (·.dst)) l (ptO fr o.dst x) H' K)->o.wp P a w (wpList P ops Q l) Q:=fun hf h =>
   YH h hr hf fun x H' ι' v w' hk g r=>Z4 l _ H' K hk F ι' _ w' g.rel ((g.fr hf).put o.dst r)
    fun fr' H2 ι2 a' w2 k2 g2 f2=>hq fr' H2 ι2 a' w2 k2 (g.trans g2) f2
  simp only [Yo] at h;simp only [wpList]
  split at h
  ·rename_i hg
   have hw:Region.wanted o (yielded ops a.tmps)=true:=by simp [Region.wanted,hg]
   rw [if_pos hw];exact .inl (step hf h)
  ·rename_i j b hg;unfold ZX at h
   split at h
   rotate_left
   ·rename_i hc;have hy:=Xj hf hc
    have hw: ¬(Region.wanted o (yielded ops a.tmps)=true):=by simp [Region.wanted,hg,hy]
    rw [if_neg hw];exact Z4 l _ H K h F ι _ w hr (hf.put o.dst XB) hq
   ·exact h.elim
   rename_i c hc;have hy:=XP hf hc
   by_cases hcb:c=b
   ·have hw:Region.wanted o (yielded ops a.tmps)=true:=by simp [Region.wanted,hg,hy,hcb]
    rw [if_pos hw];exact .inl (step hf (h.1 hcb))
   ·have hw: ¬(Region.wanted o (yielded ops a.tmps)=true):=by simp [Region.wanted,hg,hy,hcb]
    rw [if_neg hw];exact Z4 l _ H K (h.2 hcb) F ι _ w hr (hf.put o.dst XB) hq
def AWP (P:Program) (c:Code) (fr:List V) (H:List Obj) (Q:Exit->List V->List Obj->Prop):Prop :=
 ∀F ι a w,Rel F H ι w->Fr F H ι w fr a->c.wp P (fun e a' w'=> ∃fr' H' ι',Q e fr' H'/\Good F H ι w H' ι' w'/\Fr F H' ι' w' fr' a') a w
theorem AWP.mono {P c fr H Q Q'} (h:AWP P c fr H Q) (hq: ∀e fr H,Q e fr H->Q' e fr H):AWP P c fr H Q':=fun F ι a w hr hf =>
 wp_mono (h F ι a w hr hf) fun _ _ _ ⟨fr',H',ι',q,g,f⟩=>⟨fr',H',ι',hq _ _ _ q,g,f⟩
theorem ZcF {P id} {ops:Array Oper} {fr H Q} (h:Yo P (ops.toList.map (·.dst)) ops.toList fr H (Q .normal)):AWP P (.region id ops false) fr H Q:=fun F ι a w hr hf =>
 wp_region_list (Z4 _ fr H _ h F ι a w hr hf fun fr' H' ι' _ _ k g f=>⟨fr',H',ι',k,g,f⟩)
theorem Zbs {P fr H Q} (h:Q .normal fr H):AWP P .skip fr H Q:=fun F ι a w hr hf=>wp_skip ⟨fr,H,ι,h,Good.refl hr,hf⟩
theorem Zbb {P fr H Q id} (h:Q (.exit id) fr H):AWP P (.exit id) fr H Q:=fun F ι a w hr hf=>wp_exit ⟨fr,H,ι,h,Good.refl hr,hf⟩
theorem Ze1 {P fr H Q} (h:Q .ret fr H):AWP P .ret fr H Q:=fun F ι a w hr hf=>wp_ret ⟨fr,H,ι,h,Good.refl hr,hf⟩
def Vq (A:List V->List Obj->Prop) (Q:Exit->List V->List Obj->Prop):Exit->List V->List Obj->Prop
 | .normal,fr,H=>A fr H
 | e,fr,H=>Q e fr H
theorem Wz {P x y fr H Q} (h:AWP P x fr H (Vq (fun fr H=>AWP P y fr H Q) Q)):AWP P (.seq x y) fr H Q:=fun F ι a w hr hf=>by
 refine wp_seq (wp_mono (h F ι a w hr hf) ?_);rintro e a' w' ⟨fr',H',ι',q,g,f⟩
 cases e with
 | normal =>
  refine wp_mono (q F ι' a' w' g.rel f) ?_;rintro e2 a2 w2 ⟨fr2,H2,ι2,q2,g2,f2⟩;exact ⟨fr2,H2,ι2,q2,g.trans g2,f2⟩
 | exit id=>exact ⟨fr',H',ι',q,g,f⟩
 | goto l=>exact ⟨fr',H',ι',q,g,f⟩
 | ret=>exact ⟨fr',H',ι',q,g,f⟩
 | panic ch=>exact ⟨fr',H',ι',q,g,f⟩
 | outgrown=>exact ⟨fr',H',ι',q,g,f⟩
def Y2 (id:Nat) (Q:Exit->List V->List Obj->Prop):Exit->List V->List Obj->Prop
 | .exit id',fr,H=>if id'=id then Q .normal fr H else Q (.exit id') fr H
 | e,fr,H=>Q e fr H
theorem Kj {P id c fr H Q} (h:AWP P c fr H (Y2 id Q)):AWP P (.block id c) fr H Q:=fun F ι a w hr hf=>by
 refine wp_block (wp_mono (h F ι a w hr hf) ?_);rintro e a' w' ⟨fr',H',ι',q,g,f⟩
 cases e with
 | exit id' =>
  simp only [Exit.inBlock]
  by_cases hid:id'=id
  ·simp only [Y2,hid,if_true] at q ⊢;exact ⟨fr',H',ι',q,g,f⟩
  ·simp only [Y2,hid,if_false] at q ⊢;exact ⟨fr',H',ι',q,g,f⟩
 | normal=>exact ⟨fr',H',ι',q,g,f⟩
 | goto l=>exact ⟨fr',H',ι',q,g,f⟩
 | ret=>exact ⟨fr',H',ι',q,g,f⟩
 | panic ch=>exact ⟨fr',H',ι',q,g,f⟩
 | outgrown=>exact ⟨fr',H',ι',q,g,f⟩
def Wq (x:V) (A B:Prop):Prop :=
 match x with
 | .p (.bool b)=>(b=true->A)/\(b=false->B)
 | _=>False
theorem Za9 {P c x y fr H Q} (h:Wq (ev fr c) (AWP P x fr H Q) (AWP P y fr H Q)):AWP P (.cond c x y) fr H Q:=fun F ι a w hr hf=>by
 unfold Wq at h
 split at h
 rotate_left
 ·exact h.elim
 rename_i b hb;have hv:=hf.ev c;rw [hb] at hv
 cases hv with | p _ _ hv =>
 exact wp_cond_split hv.bool_inv (fun e=>h.1 e F ι a w hr hf) (fun e=>h.2 e F ι a w hr hf)
def hid : Code->Option Nat
 | .region id _ _=>some id
 | .seq x _=>hid x
 | .block _ c=>hid c
 | _=>none
def awp (cuts:List Nat) (P:Program):Code->List V->List Obj->(Exit->List V->List Obj->Prop)->Prop
 | .skip,fr,H,Q=>Q .normal fr H
 | .region id ops d,fr,H,Q=>if d then AWP P (.region id ops true) fr H Q else Yo P (ops.toList.map (·.dst)) ops.toList fr H (Q .normal)
 | .seq x y,fr,H,Q=>if (match hid x with | some i=>cuts.contains i | none=>false)=true then AWP P (.seq x y) fr H Q else awp cuts P x fr H (Vq (fun fr H=>awp cuts P y fr H Q) Q)
 | .cond c x y,fr,H,Q=>Wq (ev fr c) (awp cuts P x fr H Q) (awp cuts P y fr H Q)
 | .block id c,fr,H,Q=>awp cuts P c fr H (Y2 id Q)
 | .exit id,fr,H,Q=>Q (.exit id) fr H
 | .ret,fr,H,Q=>Q .ret fr H
 | c,fr,H,Q=>AWP P c fr H Q
theorem Zd3 {x:V} {A B A' B':Prop} (h:Wq x A B) (ha:A->A') (hb:B->B'):Wq x A' B':=by
 unfold Wq at *
 split at h
 ·exact ⟨fun e=>ha (h.1 e),fun e=>hb (h.2 e)⟩
 ·exact h.elim
theorem Zc (cuts:List Nat) {P:Program} : ∀(c:Code) (fr:List V) (H:List Obj) (Q:Exit->List V->List Obj->Prop),awp cuts P c fr H Q->AWP P c fr H Q
 | .skip,fr,H,Q,h=>Zbs h
 | .region id ops d,fr,H,Q,h=>by
  cases d
  ·exact ZcF (by simpa [awp] using h)
  ·simpa [awp] using h
 | .seq x y,fr,H,Q,h=>by
  rw [awp] at h;generalize (match hid x with | some i=>cuts.contains i | none=>false)=b at h
  cases b
  rotate_left
  ·simpa using h
  ·simp only [Bool.false_eq_true,if_false] at h
   exact Wz ((Zc cuts x fr H _ h).mono fun e fr H hq=>by
    cases e with
    | normal=>exact Zc cuts y fr H Q hq
    | _=>exact hq)
 | .cond c x y,fr,H,Q,h=>Za9 (Zd3 h (Zc cuts x fr H Q) (Zc cuts y fr H Q))
 | .block id c,fr,H,Q,h=>Kj (Zc cuts c fr H _ h)
 | .exit id,fr,H,Q,h=>Zbb h
 | .ret,fr,H,Q,h=>Ze1 h
 | .loop c,fr,H,Q,h=>h
 | .rangeFunc _ _ _ _,fr,H,Q,h=>h
 | .scope c,fr,H,Q,h=>h
 | .label _,fr,H,Q,h=>h
 | .goto _,fr,H,Q,h=>h
 | .refuse _,fr,H,Q,h=>h
end Go.AM
namespace Go.AM
open Go.RowKit
def Weak (n0:Nat) (fr:List V) (H:List Obj) (fr':List V) (H':List Obj):Prop :=
 ∀F ι a w,Rel F H ι w->Fr F H ι w fr a-> ∃ι',Rel F H' ι' w/\Fr F H' ι' w fr' a/\ ∀H0 ι0 w0,H0.length<=n0->Good F H0 ι0 w0 H ι w->Good F H0 ι0 w0 H' ι' w
theorem Weak.refl (n0 fr H):Weak n0 fr H fr H:=fun _ ι _ _ hr hf=>⟨ι,hr,hf,fun _ _ _ _ h=>h⟩
theorem Weak.trans {n0 fr H fr' H' fr'' H''} (h:Weak n0 fr H fr' H') (k:Weak n0 fr' H' fr'' H''):Weak n0 fr H fr'' H'':=fun F ι a w hr hf=>by
 obtain ⟨ι',r,f,g⟩:=h F ι a w hr hf;obtain ⟨ι'',r2,f2,g2⟩:=k F ι' a w r f;exact ⟨ι'',r2,f2,fun H0 ι0 w0 hl hg=>g2 H0 ι0 w0 hl (g H0 ι0 w0 hl hg)⟩
theorem Zs {P c fr H fr' H' Q} (h:Weak H.length fr H fr' H') (k:AWP P c fr' H' Q):AWP P c fr H Q:=fun F ι a w hr hf=>by
 obtain ⟨ι',r,f,g⟩:=h F ι a w hr hf;refine wp_mono (k F ι' a w r f) ?_;rintro e a' w' ⟨fr2,H2,ι2,q,g2,f2⟩;exact ⟨fr2,H2,ι2,q,(g H ι w (Nat.le_refl _) (Good.refl hr)).trans g2,f2⟩
theorem ZaS {P c fr H Q} {I:Type} (R:I->Prop) (st:I->List V) (hs:I->List Obj) (μ:I->Nat) (i0:I) (hR:R i0) (h0:Weak H.length fr H (st i0) (hs i0))
  (round: ∀i,R i->AWP P c (st i) (hs i) (Vq (fun fr' H'=> ∃i',R i'/\μ i'<μ i/\Weak H.length fr' H' (st i') (hs i')) Q)):AWP P (.loop c) fr H Q:=fun F ι a w hr hf=>by
 obtain ⟨ι0,r0,f0,g0⟩:=h0 F ι a w hr hf;refine wp_loop_ghost (fun n a' w'=> ∃i,R i/\μ i=n/\ ∃ι',Rel F (hs i) ι' w'/\Fr F (hs i) ι' w' (st i) a'/\Good F H ι w (hs i) ι' w') (μ i0) ⟨i0,hR,rfl,ι0,r0,f0,g0 H ι w (Nat.le_refl _) (Good.refl hr)⟩ ?_;rintro n a1 w1 ⟨i,hi,rfl,ι1,r1,f1,g1⟩;refine wp_mono (round i hi F ι1 a1 w1 r1 f1) ?_;rintro e a2 w2 ⟨fr2,H2,ι2,q,g2,f2⟩
 cases e with
 | normal =>
  obtain ⟨i',hi',hμ,hw⟩:=q;obtain ⟨ι3,r3,f3,g3⟩:=hw F ι2 a2 w2 g2.rel f2;exact ⟨μ i',hμ,i',hi',rfl,ι3,r3,f3,g3 H ι w (Nat.le_refl _) (g1.trans g2)⟩
 | exit id=>exact ⟨fr2,H2,ι2,q,g1.trans g2,f2⟩
 | goto l=>exact ⟨fr2,H2,ι2,q,g1.trans g2,f2⟩
 | ret=>exact ⟨fr2,H2,ι2,q,g1.trans g2,f2⟩
 | panic ch=>exact ⟨fr2,H2,ι2,q,g1.trans g2,f2⟩
 | outgrown=>exact ⟨fr2,H2,ι2,q,g1.trans g2,f2⟩
mutual
/-- all objects that a value leads to are below n -/
def refB (n:Nat):V->Bool
 | .p _=>true
 | .agg cs=>ZJ n cs
 | .fn _ a b=>ZJ n a&&ZJ n b
 | .ptr o _=>decide (o<n)
 | .ep o _ _ _=>decide (o<n)
 | .sl o _ _ _=>decide (o<n)
 | .lp _ _=>true
 | .tup cs=>ZJ n cs
 | .mp o=>decide (o<n)
 | .bp o=>decide (o<n)
 | .junk=>true
def ZJ (n:Nat):List V->Bool
 | []=>true
 | x::l=>refB n x&&ZJ n l
end
theorem ZH {n:Nat} : ∀ {l:List V},ZJ n l=true-> ∀(j:Nat) (x:V),l[j]? =some x->refB n x=true
 | [],_,j,x,h=>by simp at h
 | y::l,hh,j,x,h=>by
  simp [ZJ] at hh
  cases j with
  | zero=>simp at h;subst h;exact hh.1
  | succ j=>exact ZH hh.2 j x (by simpa using h)
theorem RV.cut {F H ι w n x v} (hr:Rel F H ι w) (h:RV F H ι w x v) (hn:refB n x=true):RV F (H.take n) (ι.take n) w x v:=by
 have hX:Keeps (Own F ι) w (Own F (ι.take n)) w:=fun b hb hs=>⟨fun h=>hb (h.imp id (List.mem_of_mem_take)),hs,rfl⟩;have gi: ∀ {o:Nat},o<n->(ι.take n)[o]? =ι[o]? :=fun h=>List.getElem?_take_of_lt h;have gH: ∀ {o:Nat},o<n->(H.take n)[o]? =H[o]? :=fun h=>List.getElem?_take_of_lt h
 induction h with
 | p x v h=>exact .p _ _ (h.ext hX)
 | agg cs a hs _ ih=>exact .agg cs a hs fun j c hj=>ih j c hj (ZH (by simpa [refB] using hn) j c hj)
 | fn f cs ds a e hs ht _ _ ih1 ih2 =>
  simp [refB] at hn;exact .fn f cs ds a e hs ht (fun j c hj=>ih1 j c hj (ZH hn.1 j c hj)) (fun j c hj=>ih2 j c hj (ZH hn.2 j c hj))
 | tup cs a hs _ ih=>exact .tup cs a hs fun j c hj=>ih j c hj (ZH (by simpa [refB] using hn) j c hj)
 | ptr o off b cs h hH=>simp [refB] at hn;exact .ptr _ _ b cs (by rw [gi hn];exact h) (by rw [gH hn];exact hH)
 | ep o i j tot b S xs h hH ht=>simp [refB] at hn;exact .ep _ _ _ _ b S xs (by rw [gi hn];exact h) (by rw [gH hn];exact hH) ht
 | slNil o S a h hH=>simp [refB] at hn;exact .slNil _ S a (by rw [gi hn];exact h) (by rw [gH hn];exact hH)
 | sl o off len tot b S cap t xs c h hH ht hw hcap hl hlen hm=>simp [refB] at hn;exact .sl _ _ _ _ b S cap t xs c (by rw [gi hn];exact h) (by rw [gH hn];exact hH) ht hw hcap hl hlen hm
 | lp x j b off u hX' hb hu hq=>exact .lp x j b off u (hX b hX' hb).1 hb hu (fun j c hj=>(hq j c hj).ext hX)
 | mp o b es h hH=>simp [refB] at hn;exact .mp _ b es (by rw [gi hn];exact h) (by rw [gH hn];exact hH)
 | mpD o v h=>simp [refB] at hn;exact .mpD _ _ (by rw [gH hn];exact h)
 | bp o b T E r bs h hH=>simp [refB] at hn;exact .bp _ b T E r bs (by rw [gi hn];exact h) (by rw [gH hn];exact hH)
 | bpD o v h=>simp [refB] at hn;exact .bpD _ _ (by rw [gH hn];exact h)
 | junk v=>exact .junk v
 | ptrD o off v h=>simp [refB] at hn;exact .ptrD _ _ _ (by rw [gH hn];exact h)
 | epD o i j tot v h=>simp [refB] at hn;exact .epD _ _ _ _ _ (by rw [gH hn];exact h)
 | slD o off len tot v h=>simp [refB] at hn;exact .slD _ _ _ _ _ (by rw [gH hn];exact h)
 | epS o i j tot v S xs h hne=>simp [refB] at hn;exact .epS _ _ _ _ _ S xs (by rw [gH hn];exact h) hne
 | slS o off len tot v S xs h hne=>simp [refB] at hn;exact .slS _ _ _ _ _ S xs (by rw [gH hn];exact h) hne
 | slC o tot b cap cs h hH hl hm=>simp [refB] at hn;exact .slC _ _ b cap cs (by rw [gi hn];exact h) (by rw [gH hn];exact hH) hl hm
def frz (H:List Obj) (n:Nat):V->Option PV
 | .sl o off len tot=>match oat H o with
  | .elems _ xs=>if n<=o/\xs.length=tot/\off+len<=tot then some (.list false ((xs.take (off+len)).drop off)) else none
  | _=>none
 | _=>none
def wkV (H:List Obj) (n:Nat) (x x':V):Prop:=x'= .junk\/(x'=x/\refB n x=true)\/ ∃y,frz H n x=some y/\x'= .p y
def wkF (H:List Obj) (n:Nat):List V->List V->Prop
 | [],[]=>True
 | x::l,x'::l'=>wkV H n x x'/\wkF H n l l'
 | _,_=>False
def wkO (H:List Obj) (n:Nat) (x x':Obj):Prop :=
 match x,x' with
 | .cells cs,.cells cs'=>wkF H n cs cs'
 | .elems S xs,.elems S' xs'=>S=S'/\xs=xs'
 | .map es,.map es'=>es=es'
 | .bld T E r bs,.bld T' E' r' bs'=>(T=T'/\E=E'/\r=r'/\bs=bs')/\r<n
 | .dead,.dead=>True
 | _,_=>False
def wkH (H:List Obj) (n:Nat):List Obj->List Obj->Prop
 | _,[]=>True
 | x::l,x'::l'=>wkO H n x x'/\wkH H n l l'
 | [],_::_=>False
theorem Zag {H n} : ∀ {l l':List V},wkF H n l l'->l'.length=l.length/\ ∀(j:Nat) (x':V),l'[j]? =some x'-> ∃x,l[j]? =some x/\wkV H n x x'
 | [],[],_=>⟨rfl,fun j x h=>by simp at h⟩
 | y::l,y'::l',h=>by
  obtain ⟨e,hh⟩:=Zag h.2;refine ⟨by simp [e],fun j x' hj=> ?_⟩
  cases j with
  | zero=>simp at hj;subst hj;exact ⟨y,by simp,h.1⟩
  | succ j=>obtain ⟨x,h1,h2⟩:=hh j x' (by simpa using hj);exact ⟨x,by simpa using h1,h2⟩
 | [],_::_,h=>h.elim
 | _::_,[],h=>h.elim
theorem ZeH {H n} : ∀ {l l':List Obj},wkH H n l l'-> ∀(j:Nat) (x':Obj),l'[j]? =some x'-> ∃x,l[j]? =some x/\wkO H n x x'
 | _,[],_,j,x',h=>by simp at h
 | y::l,y'::l',h,j,x',hj=>by
  cases j with
  | zero=>simp at hj;subst hj;exact ⟨y,by simp,h.1⟩
  | succ j=>obtain ⟨x,h1,h2⟩:=ZeH h.2 j x' (by simpa using hj);exact ⟨x,by simpa using h1,h2⟩
 | [],_::_,h,_,_,_=>h.elim
theorem Weak.of {n0 fr H fr' H'} (hn:n0<=H'.length) (hf:wkF H H'.length fr fr') (hh:wkH H H'.length H H') (hl:H'.length<=H.length):Weak n0 fr H fr' H':=fun F ι a w hr hfr=>by
 have hH': ∀(o:Nat) (x':Obj),H'[o]? =some x'-> ∃x,H[o]? =some x/\wkO H H'.length x x':=ZeH hh;have gi: ∀ {o:Nat},o<H'.length->(ι.take H'.length)[o]? =ι[o]? :=fun h=>List.getElem?_take_of_lt h;have hX:Keeps (Own F ι) w (Own F (ι.take H'.length)) w:=fun b hb hs=>⟨fun h=>hb (h.imp id (List.mem_of_mem_take)),hs,rfl⟩
 -- one value
 have hval: ∀ {x x' v},RV F H ι w x v->wkV H H'.length x x'->RV F (H.take H'.length) (ι.take H'.length) w x' v:=fun {x x' v} hv hw=>by
  rcases hw with rfl | ⟨rfl,hb⟩ | ⟨y,hy,rfl⟩
  ·exact .junk _
  ·exact hv.cut hr hb
  ·unfold frz at hy
   split at hy
   ·rename_i o off len tot
    split at hy
    ·rename_i S xs ho;have hHo:=Zz ho (by simp)
     split at hy
     ·rename_i hc;simp at hy;subst hy;refine .p _ _ (Qw _ (fun b hb h=> ?_) hX hr hHo hc.2.1 hc.2.2 hv);rcases h with h | h
      ·exact (hr.avo o b hb).1 h
      ·obtain ⟨i,hi⟩:=List.mem_iff_getElem?.1 h;have hlt:=(List.getElem?_eq_some_iff.1 hi).1;simp at hlt;rw [List.getElem?_take_of_lt (by omega)] at hi;have:=hr.inj i o b hi hb;omega
     ·cases hy
    ·cases hy
   ·cases hy
 -- from the cut heap to H'
 have hHX:HX (H.take H'.length) (ι.take H'.length) w H' (ι.take H'.length) w:=fun o ob ho=>by
  have hlt:=(List.getElem?_eq_some_iff.1 ho).1;simp at hlt;rw [List.getElem?_take_of_lt (by omega)] at ho;obtain ⟨x,h1,h2⟩:=hH' o (H'[o]'(by omega)) (by simp);rw [ho] at h1;simp at h1;subst h1
  have e':H'[o]? =some (H'[o]'(by omega)):=by simp
  generalize H'[o]'(by omega)=x' at h2 e'
  cases ob<;>cases x'<;>simp only [wkO] at h2
  ·exact .inr ⟨⟨_,e'⟩,rfl⟩
  ·obtain ⟨rfl,rfl⟩:=h2;exact .inr ⟨_,e',.inr ⟨rfl,rfl,fun b c t _ hc=>⟨c,hc,rfl⟩⟩⟩
  ·exact .inr ⟨⟨_,e'⟩,rfl⟩
  ·obtain ⟨⟨rfl,rfl,rfl,rfl⟩,_⟩:=h2;exact .inr ⟨⟨_,e'⟩,rfl⟩
  ·exact .inl e'
 have hval2: ∀ {x x' v},RV F H ι w x v->wkV H H'.length x x'->RV F H' (ι.take H'.length) w x' v:=fun hv hw=>(hval hv hw).ext (Keeps.refl _ _) hHX
 have hrel:Rel F H' (ι.take H'.length) w:=by
  refine ⟨⟨by have:=hr.len;simp;omega,hr.fin,fun i j b hi hj=> ?_,fun i b hi=> ?_,fun o cs ho=> ?_,fun o S xs ho=> ?_,fun o es ho=> ?_,fun o T E r bs ho=> ?_⟩,hr.env.le fun b hb=>hb.imp id fun h=>List.mem_of_mem_take h⟩
  ·have h1:=(List.getElem?_eq_some_iff.1 hi).1;have h2:=(List.getElem?_eq_some_iff.1 hj).1;simp at h1 h2;rw [gi (by omega)] at hi;rw [gi (by omega)] at hj;exact hr.inj i j b hi hj
  ·have h1:=(List.getElem?_eq_some_iff.1 hi).1;simp at h1;rw [gi (by omega)] at hi;exact hr.avo i b hi
  ·obtain ⟨x,h1,h2⟩:=hH' o _ ho;have hlt:=(List.getElem?_eq_some_iff.1 ho).1
   cases x<;>simp only [wkO] at h2
   rename_i cs0;obtain ⟨b,c,t,e1,e2,e3,e4⟩:=hr.cel o cs0 h1;obtain ⟨g1,g2⟩:=Zag h2;exact ⟨b,c,t,by rw [gi hlt];exact e1,e2,by omega,fun j x' hj=>by obtain ⟨x,p1,p2⟩:=g2 j x' hj;exact hval2 (e4 j x p1) p2⟩
  ·obtain ⟨x,h1,h2⟩:=hH' o _ ho;have hlt:=(List.getElem?_eq_some_iff.1 ho).1
   cases x<;>simp only [wkO] at h2
   obtain ⟨rfl,rfl⟩:=h2;rcases hr.elm o _ _ h1 with ⟨e1,e2⟩ | ⟨b,c,t,cap,e1,e2,e3,e4,e5,e6,e7⟩
   ·exact .inl ⟨by rw [gi hlt];exact e1,e2⟩
   ·exact .inr ⟨b,c,t,cap,by rw [gi hlt];exact e1,e2,e3,e4,e5,e6,fun i x j y hi hj=>(e7 i x j y hi hj).ext hX⟩
  ·obtain ⟨x,h1,h2⟩:=hH' o _ ho;have hlt:=(List.getElem?_eq_some_iff.1 ho).1
   cases x<;>simp only [wkO] at h2
   subst h2;obtain ⟨b,a',k,e1,e2,e3⟩:=hr.mpr o _ h1;exact ⟨b,a',k,by rw [gi hlt];exact e1,e2,e3.ext hX⟩
  ·obtain ⟨x,h1,h2⟩:=hH' o _ ho;have hlt:=(List.getElem?_eq_some_iff.1 ho).1
   cases x<;>simp only [wkO] at h2
   obtain ⟨hq,hrl⟩:=h2;rw [hq.2.2.1] at hrl;have e':=List.getElem?_eq_getElem hrl;obtain ⟨y,p1,p2⟩:=hH' _ _ e';generalize H'[r]'hrl=z at p2 e';obtain ⟨rfl,rfl,rfl,rfl⟩:=hq;obtain ⟨d0,d1,b,go,e1,e2,e3⟩:=hr.bldr o _ _ _ _ h1;rw [d1] at p1;simp at p1;subst p1
   cases z<;>simp only [wkO] at p2
   exact ⟨d0,e',b,go,by rw [gi hlt];exact e1,by rw [gi hrl];exact e2,e3⟩
 obtain ⟨q1,q2⟩:=Zag hf;refine ⟨ι.take H'.length,hrel,⟨by have:=hfr.1;omega,hfr.2.1,fun i x' hi=> ?_⟩,fun H0 ι0 w0 hl0 hg=> ?_⟩
 ·obtain ⟨x,p1,p2⟩:=q2 i x' hi;exact hval2 (hfr.2.2 i x p1) p2
 ·refine ⟨hrel,hg.os,hg.tape,hg.output,fun b c t h=>(hg.shape b c t h).imp (fun h=>⟨h.1,fun h2=>h.2 (List.mem_of_mem_take h2)⟩) id,hg.size,hg.keep,fun b hb ho h=>hg.own b hb ho (List.mem_of_mem_take h),fun o ob ho=> ?_⟩;have hlt:=(List.getElem?_eq_some_iff.1 ho).1
  have hlt2:o<H'.length:=by omega
  have e1:=hg.hx o ob ho;obtain ⟨x,p1,p2⟩:=hH' o H'[o] (by simp)
  have e':H'[o]? =some H'[o]:=by simp
  generalize H'[o]=x' at p2 e';rcases e1 with e1 | e1
  ·rw [e1] at p1;simp at p1;subst p1
   cases x'<;>simp only [wkO] at p2
   exact .inl e'
  ·cases ob with
   | dead=>exact e1.elim
   | cells cs =>
    obtain ⟨⟨cs',e2⟩,e3⟩:=e1;rw [e2] at p1;simp at p1;subst p1
    cases x'<;>simp only [wkO] at p2
    exact .inr ⟨⟨_,e'⟩,by rw [gi hlt2];exact e3⟩
   | map es =>
    obtain ⟨⟨es',e2⟩,e3⟩:=e1;rw [e2] at p1;simp at p1;subst p1
    cases x'<;>simp only [wkO] at p2
    exact .inr ⟨⟨_,e'⟩,by rw [gi hlt2];exact e3⟩
   | bld T E r bs =>
    obtain ⟨⟨bs',e2⟩,e3⟩:=e1;rw [e2] at p1;simp at p1;subst p1
    cases x'<;>simp only [wkO] at p2
    obtain ⟨⟨rfl,rfl,rfl,rfl⟩,_⟩:=p2;exact .inr ⟨⟨_,e'⟩,by rw [gi hlt2];exact e3⟩
   | elems S xs =>
    obtain ⟨xs',e2,e3⟩:=e1;rw [e2] at p1;simp at p1;subst p1
    cases x'<;>simp only [wkO] at p2
    obtain ⟨rfl,rfl⟩:=p2;exact .inr ⟨_,e',by rw [gi hlt2];exact e3⟩
theorem Weak.nil {n0 fr H} (t S:Nat) (h:gt fr t= .p (.list true [])) (hn:n0<=H.length):Weak n0 fr H (pt fr t (.sl H.length 0 0 0)) (H++ [.elems S []]):=fun F ι a w hr hf=>by
 have g:=Y6 hr S;refine ⟨ι++ [none],g.rel,?_,fun H0 ι0 w0 _ hg=>hg.trans g⟩;have hv:=hf.get t;rw [h] at hv;have hf':=g.fr hf;obtain ⟨h1,h2,h3⟩:=hf';refine ⟨by simp [Wo,h1],h2,fun i x hi=> ?_⟩;rw [Wo,List.getElem?_set] at hi
 split at hi
 ·rename_i e;subst e
  split at hi
  ·simp at hi;subst hi
   cases hv with | p _ _ hv =>
   generalize a.tmps.getD t undef=v at hv
   cases hv with
   | nils=>exact .slNil _ S none (by rw [<- hr.len];simp) (by simp)
   | emp _ ad cap hc hm ha=>rw [hc rfl];exact .slNil _ S ad (by rw [<- hr.len];simp) (by simp)
   | list _ _ b off cap S' u hX hb hc hm hcl =>
    have:cap=0:=by simpa using hcl rfl
    subst this;exact .slNil _ S _ (by rw [<- hr.len];simp) (by simp)
  ·cases hi
 ·exact h3 i x hi
end Go.AM
namespace Go.AM
open Go.RowKit
def Zk3 (P:Program) (fr:List V) (H:List Obj):ResultVar->Option V
 | .tmp t=>some (gt fr t)
 | .cell a t=>VD P H t (gt fr a)
def Xw (P:Program) (fr:List V) (H:List Obj):List ResultVar->Option (List V)
 | []=>some []
 | r::l=>match Zk3 P fr H r,Xw P fr H l with
  | some x,some xs=>some (x::xs)
  | _,_=>none
def YO : List V->V
 | [x]=>x
 | xs=> .tup xs
def KL (P:Program) (rs:List ResultVar) (Q:V->List Obj->Prop):Exit->List V->List Obj->Prop
 | .normal,fr,H=>match Xw P fr H rs with | some xs=>Q (YO xs) H | none=>False
 | .ret,fr,H=>match Xw P fr H rs with | some xs=>Q (YO xs) H | none=>False
 | _,_,_=>False
theorem ZgH {P F H ι w fr a r x} (hr:Rel F H ι w) (hf:Fr F H ι w fr a) (h:Zk3 P fr H r=some x) :
  ∃v,(match r with
   | .tmp t=>pure (a.tmps.getD t undef)
   | .cell b t=>do loadVar t (<- asAddr (a.tmps.getD b undef)):Sem Value).run P w= .ok v w/\RV F H ι w x v:=by
 cases r with
 | tmp t=>simp [Zk3] at h;subst h;exact ⟨_,rfl,hf.get t⟩
 | cell b t =>
  simp only [Zk3] at h;obtain ⟨u,e,r⟩:=Kd h hr (hf.get b);refine ⟨u,?_,r⟩
  show (do loadVar t (<- asAddr (a.tmps.getD b undef)):Sem Value).run P w=_
  generalize a.tmps.getD b undef=v at e ⊢
  cases v<;>try (simp [Instr.loadAt,Instr.sureAddr,stuck] at e;done)
  rename_i o
  cases o with
  | none=>simp [Instr.loadAt,Instr.sureAddr,stuck] at e
  | some ad=>simpa [Instr.loadAt,Instr.sureAddr,asAddr] using e
theorem Qn {P F H ι w fr a} (hr:Rel F H ι w) (hf:Fr F H ι w fr a): ∀(rs:List ResultVar) (xs:List V),Xw P fr H rs=some xs ->
  ∃vs:List Value,((rs.mapM fun
   | .tmp t=>pure (a.tmps.getD t undef)
   | .cell b t=>do loadVar t (<- asAddr (a.tmps.getD b undef)):Sem (List Value))).run P w= .ok vs w/\vs.length=xs.length/\ ∀(j:Nat) (x:V),xs[j]? =some x-> ∃v,vs[j]? =some v/\RV F H ι w x v
 | [],xs,h=>by simp [Xw] at h;subst h;exact ⟨[],rfl,rfl,fun j x hj=>by simp at hj⟩
 | r::l,xs,h=>by
  simp only [Xw] at h
  split at h
  ·rename_i x xs' h1 h2;simp at h;subst h;obtain ⟨v,e,rv⟩:=ZgH (P:=P) hr hf h1;obtain ⟨vs,e2,hl,hv⟩:=Qn hr hf l xs' h2;refine ⟨v::vs,?_,by simp [hl],fun j y hj=> ?_⟩
   ·rw [List.mapM_cons];simp only [Sem.run_bind,e,e2,Result.andThen_ok,Sem.run_pure]
   ·cases j with
    | zero=>simp at hj;subst hj;exact ⟨v,by simp,rv⟩
    | succ j=>obtain ⟨u,h1,h2⟩:=hv j y (by simpa using hj);exact ⟨u,by simpa using h1,h2⟩
  ·cases h
theorem UN {P F H ι w fr a} {fn:Func} {xs:List V} (hr:Rel F H ι w) (hf:Fr F H ι w fr a) (h:Xw P fr H fn.results.toList=some xs) :
  ∃v,(results fn a.tmps).run P w= .ok v w/\RV F H ι w (YO xs) v:=by
 obtain ⟨vs,e,hl,hv⟩:=Qn hr hf _ _ h
 have hvs:vs.toArray.size=xs.length:=by simpa using hl
 have hget: ∀(j:Nat) (c:V),xs[j]? =some c->RV F H ι w c (vs.toArray.getD j undef):=fun j c hj=>by
  obtain ⟨v,e1,e2⟩:=hv j c hj
  have:vs.toArray.getD j undef=v:=by simp [e1]
  rw [this];exact e2
 refine ⟨if h:vs.toArray.size=1 then vs.toArray[0] else .tuple vs.toArray,?_,?_⟩
 ·unfold results;simp only [Array.mapM_eq_mapM_toList,Sem.run_bind,Sem.run_map,Result.andThen_ok,Sem.run_pure]
  erw [e]
  rfl
 ·match xs,hvs,hget with
  | [],hvs,hget=>simp at hvs;subst hvs;exact .tup _ _ rfl (fun j c hj=>by simp at hj)
  | [x],hvs,hget =>
   have:=hget 0 x rfl
   split
   ·rename_i h1;simpa [Array.getD,h1,YO] using this
   ·rename_i h1;exact absurd hvs h1
  | x::y::l,hvs,hget =>
   split
   ·rename_i h1;simp [hvs] at h1
   ·exact .tup _ _ hvs hget
theorem Z3 {P:Program} {g:FuncId} {fn:Func} {c:Code} {args:List V} {H:List Obj} {Q:V->List Obj->Prop} (hf:P.funcs[g]? =some fn) (hb:fn.body=some c) (hg:Zi P g)
  (h:AWP P c (args++List.replicate (fn.ntmps-args.length) .junk) H (KL P fn.results.toList Q)):ACalls P g args H Q:=by
 refine ⟨hg,fun F ι w vs hr hv=> ?_⟩;refine calls_of_wp hf hb ?_
 have hfr:Fr F H ι w (args++List.replicate (fn.ntmps-args.length) .junk) { tmps:=vs++Array.replicate (fn.ntmps-vs.size) undef,defers:= [] } :=by
  refine ⟨by simp [hv.1],rfl,fun i x hi=> ?_⟩
  by_cases hlt:i<args.length
  ·rw [List.getElem?_append_left hlt] at hi
   have e:(vs++Array.replicate (fn.ntmps-vs.size) undef).getD i undef=vs.getD i undef:=by
    simp only [Array.getD_eq_getD_getElem?];rw [Array.getElem?_append_left (by rw [hv.1];exact hlt)]
   simp only [e];exact hv.2 i x hi
  ·rw [List.getElem?_append_right (by omega)] at hi
   have:x= .junk:=by
    rw [List.getElem?_replicate] at hi
    split at hi
    ·simpa using hi.symm
    ·cases hi
   subst this;exact .junk _
 refine wp_mono (h F ι _ w hr hfr) ?_;rintro e a' w' ⟨fr',H',ι',q,g,f⟩
 cases e with
 | normal =>
  simp only [KL] at q
  split at q
  ·rename_i xs hx;obtain ⟨v,e1,e2⟩:=UN (P:=P) g.rel f hx;exact ⟨f.2.1,v,e1,_,H',ι',v,rfl,q,g,e2⟩
  ·exact q.elim
 | ret =>
  simp only [KL] at q
  split at q
  ·rename_i xs hx;obtain ⟨v,e1,e2⟩:=UN (P:=P) g.rel f hx;exact ⟨f.2.1,v,e1,_,H',ι',v,rfl,q,g,e2⟩
  ·exact q.elim
 | exit id=>exact q.elim
 | goto l=>exact q.elim
 | panic ch=>exact q.elim
 | outgrown=>exact q.elim
mutual
/-- a value of a heap that is laid behind n objects -/
def shV (n:Nat):V->V
 | .p x=> .p x
 | .agg cs=> .agg (shVs n cs)
 | .fn f a b=> .fn f (shVs n a) (shVs n b)
 | .ptr o off=> .ptr (n+o) off
 | .ep o i j tot=> .ep (n+o) i j tot
 | .sl o off len tot=> .sl (n+o) off len tot
 | .lp x j=> .lp x j
 | .tup cs=> .tup (shVs n cs)
 | .mp o=> .mp (n+o)
 | .bp o=> .bp (n+o)
 | .junk=> .junk
def shVs (n:Nat):List V->List V
 | []=> []
 | x::l=>shV n x::shVs n l
end
def shO (n:Nat):Obj->Obj
 | .cells cs=> .cells (shVs n cs)
 | .elems S xs=> .elems S xs
 | .map es=> .map es
 | .bld T E r bs=> .bld T E (n+r) bs
 | .dead=> .dead
theorem YX (n:Nat): ∀(l:List V),shVs n l=l.map (shV n)
 | []=>rfl
 | x::l=>by simp [shVs,YX n l]
theorem WA {F:Nat->Prop} {ι ι1:List (Option Nat)} :Own (Own F ι) ι1=Own F (ι++ι1):=by
 funext b
 simp [Own,or_assoc]
theorem RV.sh {F H ι H1 ι1 w x v} (hl:ι.length=H.length) (h:RV (Own F ι) H1 ι1 w x v):RV F (H++H1.map (shO H.length)) (ι++ι1) w (shV H.length x) v:=by
 have gi: ∀(o:Nat),(ι++ι1)[H.length+o]? =ι1[o]? :=fun o=>by rw [List.getElem?_append_right (by omega)];congr 1;omega
 have gH: ∀(o:Nat) (x:Obj),H1[o]? =some x->(H++H1.map (shO H.length))[H.length+o]? =some (shO H.length x):=fun o x h=>by
  rw [List.getElem?_append_right (by omega)];rw [show H.length+o-H.length=o by omega];simp [h]
 have sub: ∀ {cs:List V} {a:Array Value},(∀(j:Nat) (c:V),cs[j]? =some c->RV F (H++H1.map (shO H.length)) (ι++ι1) w (shV H.length c) (a.getD j undef))-> ∀(j:Nat) (c:V),(shVs H.length cs)[j]? =some c->RV F (H++H1.map (shO H.length)) (ι++ι1) w c (a.getD j undef):=fun h j c hj=>by
  rw [YX] at hj;simp only [List.getElem?_map,Option.map_eq_some_iff] at hj;obtain ⟨c',h1,rfl⟩:=hj;exact h j c' h1
 induction h with
 | p x v h=>rw [WA] at h;exact .p _ _ h
 | agg cs a hs _ ih=>exact .agg _ a (by simp [YX,hs]) (sub ih)
 | fn f cs ds a e hs ht _ _ ih1 ih2=>exact .fn f _ _ a e (by simp [YX,hs]) (by simp [YX,ht]) (sub ih1) (sub ih2)
 | tup cs a hs _ ih=>exact .tup _ a (by simp [YX,hs]) (sub ih)
 | ptr o off b cs h hH=>exact .ptr _ _ b _ (by rw [gi];exact h) (gH _ _ hH)
 | ep o i j tot b S xs h hH ht=>exact .ep _ _ _ _ b S xs (by rw [gi];exact h) (gH _ _ hH) ht
 | slNil o S a h hH=>exact .slNil _ S a (by rw [gi];exact h) (gH _ _ hH)
 | sl o off len tot b S cap t xs c h hH ht hw hcap hl hlen hm=>exact .sl _ _ _ _ b S cap t xs c (by rw [gi];exact h) (gH _ _ hH) ht hw hcap hl hlen hm
 | lp x j b off u hX hb hu hr=>rw [WA] at hX hr;exact .lp x j b off u hX hb hu hr
 | mp o b es h hH=>exact .mp _ b es (by rw [gi];exact h) (gH _ _ hH)
 | mpD o v h=>exact .mpD _ _ (gH _ _ h)
 | bp o b T E r bs h hH=>exact .bp _ b T E _ bs (by rw [gi];exact h) (gH _ _ hH)
 | bpD o v h=>exact .bpD _ _ (gH _ _ h)
 | junk v=>exact .junk v
 | ptrD o off v h=>exact .ptrD _ _ _ (gH _ _ h)
 | epD o i j tot v h=>exact .epD _ _ _ _ _ (gH _ _ h)
 | slD o off len tot v h=>exact .slD _ _ _ _ _ (gH _ _ h)
 | epS o i j tot v S xs h hne=>exact .epS _ _ _ _ _ S xs (gH _ _ h) hne
 | slS o off len tot v S xs h hne=>exact .slS _ _ _ _ _ S xs (gH _ _ h) hne
 | slC o tot b cap cs h hH hl hm=>exact .slC _ _ b cap _ (by rw [gi];exact h) (gH _ _ hH) hl hm
theorem Good.behind {F H ι w H1 ι1 w'} (hr:Rel F H ι w) (g:Good (Own F ι) [] [] w H1 ι1 w'):Good F H ι w (H++H1.map (shO H.length)) (ι++ι1) w':=by
 have hkeep: ∀b,b<w.heap.size->w'.heap[b]? =w.heap[b]? :=fun b hb=>g.keep b hb (by simp);have hnew: ∀b,some b∈ι1-> ¬b<w.heap.size:=fun b hb hlt=>g.own b hlt (by simp) hb
 have hlen: ∀ {o:Nat} {x:Obj},(H++H1.map (shO H.length))[o]? =some x->(o<H.length/\H[o]? =some x)\/(∃o1 x1,o=H.length+o1/\H1[o1]? =some x1/\x=shO H.length x1):=fun {o x} h=>by
  by_cases hlt:o<H.length
  ·rw [List.getElem?_append_left hlt] at h;exact .inl ⟨hlt,h⟩
  ·rw [List.getElem?_append_right (by omega)] at h;simp only [List.getElem?_map,Option.map_eq_some_iff] at h;obtain ⟨x1,h1,rfl⟩:=h;exact .inr ⟨o-H.length,x1,by omega,h1,rfl⟩
 have gi: ∀(o:Nat),(ι++ι1)[H.length+o]? =ι1[o]? :=fun o=>by have:=hr.len;rw [List.getElem?_append_right (by omega)];congr 1;omega
 have gl: ∀ {o:Nat},o<H.length->(ι++ι1)[o]? =ι[o]? :=fun h=>List.getElem?_append_left (by rw [hr.len];exact h)
 have hKeeps:Keeps (Own F ι) w (Own F (ι++ι1)) w':=fun b hb hs=>⟨fun h=>by
  rcases h with h | h
  ·exact hb (.inl h)
  ·rcases List.mem_append.1 h with h | h
   ·exact hb (.inr h)
   ·exact hnew b h hs,by have:=g.size;omega,hkeep b hs⟩
 have hHX:HX H ι w (H++H1.map (shO H.length)) (ι++ι1) w':=fun o ob ho=>by
  have hlt:=(List.getElem?_eq_some_iff.1 ho).1
  have e:(H++H1.map (shO H.length))[o]? =some ob:=by rw [List.getElem?_append_left hlt];exact ho
  cases ob with
  | dead=>exact .inl e
  | cells cs=>exact .inr ⟨⟨_,e⟩,gl hlt⟩
  | map es=>exact .inr ⟨⟨_,e⟩,gl hlt⟩
  | bld T E r bs=>exact .inr ⟨⟨_,e⟩,gl hlt⟩
  | elems S xs=>exact .inr ⟨_,e,.inr ⟨rfl,gl hlt,fun b c t hb hc=>⟨c,by rw [hkeep b (hr.avo o b hb).2];exact hc,rfl⟩⟩⟩
 have hmem: ∀ {i b:Nat},ι[i]? =some (some b)->some b∈ι:=fun h=>List.mem_of_getElem? h
 have old: ∀ {i b:Nat},(ι++ι1)[i]? =some (some b)->(i<H.length/\ι[i]? =some (some b))\/ ∃i1,i=H.length+i1/\ι1[i1]? =some (some b):=fun {i b} h=>by
  by_cases hlt:i<H.length
  ·rw [gl hlt] at h;exact .inl ⟨hlt,h⟩
  ·exact .inr ⟨i-H.length,by omega,by rw [<- gi,show H.length+(i-H.length)=i by omega];exact h⟩
 refine Good.up hr.env ⟨⟨?_,?_,?_,?_,?_,?_,?_,?_⟩,g.os,g.tape,g.output,fun b c t h=>(g.shape b c t h).imp (fun h=>absurd h.1 (by simp)) id,g.size,fun b hb _=>hkeep b hb,fun b hb ho h=> ?_,hHX⟩
 ·have:=hr.len;have:=g.rel.len;simp;omega
 ·intro b hb;have:=hr.fin b hb;have:=g.size;omega
 ·intro i j b hi hj;rcases old hi with ⟨h1,h2⟩ | ⟨i1,rfl,h2⟩<;>rcases old hj with ⟨k1,k2⟩ | ⟨j1,rfl,k2⟩
  ·exact hr.inj i j b h2 k2
  ·exact absurd (.inr (hmem h2)) (g.rel.avo j1 b k2).1
  ·exact absurd (.inr (hmem k2)) (g.rel.avo i1 b h2).1
  ·rw [g.rel.inj i1 j1 b h2 k2]
 ·intro i b hi;rcases old hi with ⟨h1,h2⟩ | ⟨i1,rfl,h2⟩
  ·obtain ⟨a1,a2⟩:=hr.avo i b h2;have:=g.size;exact ⟨a1,by omega⟩
  ·obtain ⟨a1,a2⟩:=g.rel.avo i1 b h2;exact ⟨fun h=>a1 (.inl h),a2⟩
 ·intro o cs ho;rcases hlen ho with ⟨h1,h2⟩ | ⟨o1,x1,rfl,h2,h3⟩
  ·obtain ⟨b,c,t,e1,e2,e3,e4⟩:=hr.cel o cs h2;exact ⟨b,c,t,by rw [gl h1];exact e1,by rw [hkeep b (hr.avo o b e1).2];exact e2,e3,fun j x hj=>(e4 j x hj).ext hKeeps hHX⟩
  ·cases x1<;>simp [shO] at h3
   subst h3;obtain ⟨b,c,t,e1,e2,e3,e4⟩:=g.rel.cel o1 _ h2;refine ⟨b,c,t,by rw [gi];exact e1,e2,by simp [YX,e3],fun j x hj=> ?_⟩;rw [YX] at hj;simp only [List.getElem?_map,Option.map_eq_some_iff] at hj;obtain ⟨x',h4,rfl⟩:=hj;exact (e4 j x' h4).sh hr.len
 ·intro o S xs ho;rcases hlen ho with ⟨h1,h2⟩ | ⟨o1,x1,rfl,h2,h3⟩
  ·rcases hr.elm o S xs h2 with ⟨e1,e2⟩ | ⟨b,c,t,cap,e1,e2,e3,e4,e5,e6,e7⟩
   ·exact .inl ⟨by rw [gl h1];exact e1,e2⟩
   ·exact .inr ⟨b,c,t,cap,by rw [gl h1];exact e1,by rw [hkeep b (hr.avo o b e1).2];exact e2,e3,e4,e5,e6,fun i x j y hi hj=>(e7 i x j y hi hj).ext hKeeps⟩
  ·cases x1<;>simp [shO] at h3
   obtain ⟨rfl,rfl⟩:=h3;rcases g.rel.elm o1 _ _ h2 with ⟨e1,e2⟩ | ⟨b,c,t,cap,e1,e2,e3,e4,e5,e6,e7⟩
   ·exact .inl ⟨by rw [gi];exact e1,e2⟩
   ·exact .inr ⟨b,c,t,cap,by rw [gi];exact e1,e2,e3,e4,e5,e6,fun i x j y hi hj=>by have:=e7 i x j y hi hj;rw [WA] at this;exact this⟩
 ·intro o es ho;rcases hlen ho with ⟨h1,h2⟩ | ⟨o1,x1,rfl,h2,h3⟩
  ·obtain ⟨b,a',k,e1,e2,e3⟩:=hr.mpr o es h2;exact ⟨b,a',k,by rw [gl h1];exact e1,by rw [hkeep b (hr.avo o b e1).2];exact e2,e3.ext hKeeps⟩
  ·cases x1<;>simp [shO] at h3
   subst h3;obtain ⟨b,a',k,e1,e2,e3⟩:=g.rel.mpr o1 _ h2;rw [WA] at e3;exact ⟨b,a',k,by rw [gi];exact e1,e2,e3⟩
 ·intro o T E r bs ho;rcases hlen ho with ⟨h1,h2⟩ | ⟨o1,x1,rfl,h2,h3⟩
  ·obtain ⟨d0,d,b,go,e1,e2,e3⟩:=hr.bldr o T E r bs h2;have hrl:=(List.getElem?_eq_some_iff.1 d).1;exact ⟨by omega,by rw [List.getElem?_append_left hrl];exact d,b,go,by rw [gl h1];exact e1,by rw [gl hrl];exact e2,e3.ext (hkeep b (hr.avo o b e1).2) fun g hg=>hkeep g (hr.avo r g (by rw [e2,hg])).2⟩
  ·cases x1<;>simp [shO] at h3
   obtain ⟨rfl,rfl,rfl,rfl⟩:=h3;obtain ⟨d0,d,b,go,e1,e2,e3⟩:=g.rel.bldr o1 _ _ _ _ h2;refine ⟨by omega,?_,b,go,by rw [gi];exact e1,by rw [gi];exact e2,e3⟩;rw [List.getElem?_append_right (by omega),Nat.add_sub_cancel_left,List.getElem?_map,d]
   rfl
 ·rcases List.mem_append.1 h with h | h
  ·exact ho h
  ·exact hnew b h hb
theorem RV.lift {F H ι w x v} (h:RV F H ι w x v) (hn:refB 0 x=true):RV (Own F ι) [] [] w x v:=by
 have sub: ∀ {cs:List V},ZJ 0 cs=true-> ∀(j:Nat) (c:V),cs[j]? =some c->refB 0 c=true:=fun h=>ZH h
 induction h with
 | p x v h=>refine .p _ _ ?_;rw [WA,List.append_nil];exact h
 | agg cs a hs _ ih=>exact .agg cs a hs fun j c hj=>ih j c hj (ZH (by simpa [refB] using hn) j c hj)
 | fn f cs ds a e hs ht _ _ ih1 ih2 =>
  simp [refB] at hn;exact .fn f cs ds a e hs ht (fun j c hj=>ih1 j c hj (ZH hn.1 j c hj)) (fun j c hj=>ih2 j c hj (ZH hn.2 j c hj))
 | tup cs a hs _ ih=>exact .tup cs a hs fun j c hj=>ih j c hj (ZH (by simpa [refB] using hn) j c hj)
 | ptr o off b cs h hH=>simp [refB] at hn
 | ep o i j tot b S xs h hH ht=>simp [refB] at hn
 | slNil o S a h hH=>simp [refB] at hn
 | sl o off len tot b S cap t xs c h hH ht hw hcap hl hlen hm=>simp [refB] at hn
 | lp x j b off u hX' hb hu hq=>exact .lp x j b off u (by rw [WA,List.append_nil];exact hX') hb hu (fun j c hj=>by rw [WA,List.append_nil];exact hq j c hj)
 | mp o b es h hH=>simp [refB] at hn
 | mpD o v h=>simp [refB] at hn
 | bp o b T E r bs h hH=>simp [refB] at hn
 | bpD o v h=>simp [refB] at hn
 | junk v=>exact .junk v
 | ptrD o off v h=>simp [refB] at hn
 | epD o i j tot v h=>simp [refB] at hn
 | slD o off len tot v h=>simp [refB] at hn
 | epS o i j tot v S xs h hne=>simp [refB] at hn
 | slS o off len tot v S xs h hne=>simp [refB] at hn
 | slC o tot b cap cs h hH hl hm=>simp [refB] at hn
theorem ACalls.behind {P g} {args:List V} {Q:V->List Obj->Prop} (ha:ZJ 0 args=true) (h:ACalls P g args [] Q) (H:List Obj):ACalls P g args H fun x H'=> ∃y H1,Q y H1/\x=shV H.length y/\H'=H++H1.map (shO H.length):=by
 refine ⟨h.1,fun F ι w vs hr hv=> ?_⟩
 have hr0:Rel (Own F ι) [] [] w:=by
  refine ⟨⟨rfl,fun b hb=> ?_,fun i j b hi _=>by simp at hi,fun i b hi=>by simp at hi,fun o cs ho=>by simp at ho,fun o S xs ho=>by simp at ho,fun o es ho=>by simp at ho,fun o T E r bs ho=>by simp at ho⟩,hr.env.fresh⟩;rcases hb with hb | hb
  ·exact hr.fin b hb
  ·obtain ⟨i,hi⟩:=List.mem_iff_getElem?.1 hb;exact (hr.avo i b hi).2
 have hv0:RVs (Own F ι) [] [] w args vs:=⟨hv.1,fun j c hj=>(hv.2 j c hj).lift (ZH ha j c hj)⟩;refine (h.2 _ _ _ _ hr0 hv0).mono ?_;rintro e w' ⟨x,H1,ι1,v,rfl,q,gd,rv⟩;exact ⟨_,_,_,v,rfl,⟨x,H1,q,rfl,rfl⟩,gd.behind hr,rv.sh hr.len⟩
end Go.AM
namespace Go.AM
open Go.RowKit
theorem Keeps.same {X:Nat->Prop} {w w':World} (h:w'.heap=w.heap):Keeps X w X w':=fun b hb hs=>⟨hb,by rw [h];exact hs,by rw [h]⟩
theorem HX.same {H ι w w'} (h:w'.heap=w.heap):HX H ι w H ι w':=fun o ob ho=>by
 cases ob with
 | dead=>exact .inl ho
 | cells cs=>exact .inr ⟨⟨_,ho⟩,rfl⟩
 | map es=>exact .inr ⟨⟨_,ho⟩,rfl⟩
 | bld T E r bs=>exact .inr ⟨⟨_,ho⟩,rfl⟩
 | elems S xs=>exact .inr ⟨_,ho,.inr ⟨rfl,rfl,fun b c t _ h2=>⟨c,by rw [h];exact h2,rfl⟩⟩⟩
theorem Rel.same {F H ι w w'} (h:w'.heap=w.heap) (hr:Rel F H ι w):Rel F H ι w':=by
 refine ⟨⟨hr.len,by rw [h];exact hr.fin,hr.inj,by rw [h];exact hr.avo,fun o cs ho=> ?_,fun o S xs ho=> ?_,fun o es ho=>by obtain ⟨b,a',k,e1,e2,e3⟩:=hr.mpr o es ho;exact ⟨b,a',k,e1,by rw [h];exact e2,e3.ext (Keeps.same h)⟩,
  Yr hr (fun _ _ _ _ _ h=>h) fun _ _ _ _=>⟨rfl,rfl,fun _ _=>by rw [h]⟩⟩,hr.env.of (by rw [h];exact Nat.le_refl _) (fun b _ _=>by rw [h]) fun _ _ h=>h⟩
 ·obtain ⟨b,c,t,e1,e2,e3,e4⟩:=hr.cel o cs ho;exact ⟨b,c,t,e1,by rw [h];exact e2,e3,fun j x hj=>(e4 j x hj).ext (Keeps.same h) (HX.same h)⟩
 ·rcases hr.elm o S xs ho with e | ⟨b,c,t,cap,e1,e2,e3,e4,e5,e6,e7⟩
  ·exact .inl e
  ·exact .inr ⟨b,c,t,cap,e1,by rw [h];exact e2,e3,e4,e5,e6,fun i x j y hi hj=>(e7 i x j y hi hj).ext (Keeps.same h)⟩
theorem Good.drew {F H ι w} (hr:Rel F H ι w):Good F H ι w H ι { w with drawn:=w.drawn+1 } :=
 ⟨Rel.same (w:=w) (w':= { w with drawn:=w.drawn+1 }) rfl hr,rfl,Tp.of rfl (Nat.le_succ _),rfl,fun _ c _ h=> .inr ⟨c,h,rfl⟩,Nat.le_refl _,fun _ _ _=>rfl,fun _ _ h=>h,HX.same (w:=w) (w':= { w with drawn:=w.drawn+1 }) rfl⟩
def Jd (P:Program) (t:TypeId):Option Nat:=match P.underlying t with
  | some (.slice e)=>match (P.info? e).bind (·.zero) with
   | some _=>match We P t with | some (none,S)=>some S | _=>none
   | none=>none
  | _=>none
def ZcC (S:Option Nat) (H:List Obj) (n:Nat) (l:List (Nat×V)):Option PV:=match S with
 | some S=>if n=l.length/\n*S<=16777216/\0<S then (U1 H S 0 l).map (.list false) else none
 | none=>none
def Zr (P:Program) (o:Oper) (fr:List V) (H:List Obj) (K:V->List Obj->Prop):Prop :=
 match o.op with
 | .buildSlice t n ps=>match (ZcC (Jd P t) H n (ps.toList.map fun x=>(x.1,ev fr x.2))).map V.p with
  | some x=>K x H
  | none=>False
 | .call { callee:= .builtin .append,args:=azs,argTypes:=ts } =>match azs.toList,ts.toList with
  | [x,y],[t,t2]=> ∃S zs,VZ P H t t2 (ev fr x) (ev fr y)=some (.sl H.length 0 zs.length zs.length,H++ [.elems S zs])/\K (.p (.list false zs)) H
  | _,_=>False
 | _=>Zq P o fr H K
theorem Keeps.grow {X:Nat->Prop} {w w':World} (hs:w.heap.size<=w'.heap.size) (h: ∀b,b<w.heap.size->w'.heap[b]? =w.heap[b]?):Keeps X w X w':=fun b hb hb2=>⟨hb,by omega,h b hb2⟩
theorem HX.grow {F H ι w w'} (hr:Rel F H ι w) (h: ∀b,b<w.heap.size->w'.heap[b]? =w.heap[b]?):HX H ι w H ι w':=fun o ob ho=>by
 cases ob with
 | dead=>exact .inl ho
 | cells cs=>exact .inr ⟨⟨_,ho⟩,rfl⟩
 | map es=>exact .inr ⟨⟨_,ho⟩,rfl⟩
 | bld T E r bs=>exact .inr ⟨⟨_,ho⟩,rfl⟩
 | elems S xs=>exact .inr ⟨_,ho,.inr ⟨rfl,rfl,fun b c t h1 h2=>⟨c,by rw [h b (hr.avo o b h1).2];exact h2,rfl⟩⟩⟩
theorem Rel.grow {F H ι w w'} (hs:w.heap.size<=w'.heap.size) (h: ∀b,b<w.heap.size->w'.heap[b]? =w.heap[b]?) (hr:Rel F H ι w):Rel F H ι w':=by
 refine ⟨⟨hr.len,fun b hb=>by have:=hr.fin b hb;omega,hr.inj,fun i b hi=>⟨(hr.avo i b hi).1,by have:=(hr.avo i b hi).2;omega⟩,fun o cs ho=> ?_,fun o S xs ho=> ?_,fun o es ho=>by obtain ⟨b,a',k,e1,e2,e3⟩:=hr.mpr o es ho;exact ⟨b,a',k,e1,by rw [h b (hr.avo o b e1).2];exact e2,e3.ext (Keeps.grow hs h)⟩,
  Yr hr (fun _ _ _ _ _ h=>h) fun i _ _ _=>⟨rfl,rfl,fun b hb=>h b (hr.avo i b hb).2⟩⟩,hr.env.of hs (fun b hb _=>h b hb) fun _ _ h=>h⟩
 ·obtain ⟨b,c,t,e1,e2,e3,e4⟩:=hr.cel o cs ho;exact ⟨b,c,t,e1,by rw [h b (hr.avo o b e1).2];exact e2,e3,fun j x hj=>(e4 j x hj).ext (Keeps.grow hs h) (HX.grow hr h)⟩
 ·rcases hr.elm o S xs ho with e | ⟨b,c,t,cap,e1,e2,e3,e4,e5,e6,e7⟩
  ·exact .inl e
  ·exact .inr ⟨b,c,t,cap,e1,by rw [h b (hr.avo o b e1).2];exact e2,e3,e4,e5,e6,fun i x j y hi hj=>(e7 i x j y hi hj).ext (Keeps.grow hs h)⟩
theorem RV.refs {F H ι w x v} (h:RV F H ι w x v):refB H.length x=true:=by
 have lt: ∀ {o:Nat} {ob:Obj},H[o]? =some ob->o<H.length:=fun h=>(List.getElem?_eq_some_iff.1 h).1
 have all: ∀(cs:List V),(∀(j:Nat) (c:V),cs[j]? =some c->refB H.length c=true)->ZJ H.length cs=true:=by
  intro cs
  induction cs with
  | nil=>intro _;simp [ZJ]
  | cons c cs ih=>intro h;simp [ZJ,h 0 c (by simp),ih fun j x hj=>h (j+1) x (by simpa using hj)]
 induction h with
 | p=>simp [refB]
 | agg cs a hs _ ih=>simp only [refB];exact all cs ih
 | fn f cs ds a e hs ht _ _ ih1 ih2=>simp only [refB,Bool.and_eq_true];exact ⟨all cs ih1,all ds ih2⟩
 | tup cs a hs _ ih=>simp only [refB];exact all cs ih
 | lp=>simp [refB]
 | junk=>simp [refB]
 | _=>simp only [refB,decide_eq_true_eq];exact lt (by assumption)
theorem ZbJ {H:List Obj} {n:Nat} : ∀(l:List V),(∀(j:Nat) (c:V),l[j]? =some c->refB n c=true)->wkF H n l l
 | [],_=>trivial
 | c::l,h=>⟨.inr (.inl ⟨rfl,h 0 c (by simp)⟩),ZbJ l fun j x hj=>h (j+1) x (by simpa using hj)⟩
theorem Jq {H:List Obj} {n:Nat} : ∀(l r:List Obj),(∀(j:Nat) (cs:List V),l[j]? =some (.cells cs)-> ∀(i:Nat) (c:V),cs[i]? =some c->refB n c=true)->(∀(j T E q:Nat) (bs:List UInt8),l[j]? =some (.bld T E q bs)->q<n)->wkH H n (l++r) l
 | [],r,_,_=>by cases r<;>simp [wkH]
 | x::l,r,h,h2=>by
  refine ⟨?_,Jq l r (fun j cs hj=>h (j+1) cs (by simpa using hj)) fun j T E q bs hj=>h2 (j+1) T E q bs (by simpa using hj)⟩
  cases x with
  | cells cs=>exact ZbJ cs (h 0 cs (by simp))
  | elems S xs=>exact ⟨rfl,rfl⟩
  | map es=>rfl
  | bld T E q bs=>exact ⟨⟨rfl,rfl,rfl,rfl⟩,h2 0 T E q bs (by simp)⟩
  | dead=>trivial
theorem OpS.freeze {P o fr H x ob} {z:PV} (h:OpS P o fr H x (H++ [ob])) (hz:frz (H++ [ob]) H.length x=some z):OpS P o fr H (.p z) H:=fun F ι a w hr hf=>by
 obtain ⟨nx,v,ι',w',e,e2,g,r⟩:=h F ι a w hr hf
 have hw:Weak H.length [x] (H++ [ob]) [.p z] H:=Weak.of (Nat.le_refl _) ⟨.inr (.inr ⟨z,hz,rfl⟩),trivial⟩
  (Jq H [ob] (fun j cs hj i c hi=>by
   obtain ⟨b,c',t,_,_,_,h4⟩:=hr.cel j cs hj
   exact (h4 i c hi).refs) fun j T E q bs hj=>(List.getElem?_eq_some_iff.1 (hr.bldr j T E q bs hj).2.1).1) (by simp)
 obtain ⟨ι2,r2,f2,g2⟩:=hw F ι' { tmps:= #[v],defers:= [] } w' g.rel ⟨rfl,rfl,fun i y hi=>by
  cases i with
  | zero=>simp at hi;subst hi;simpa using r
  | succ i=>simp at hi⟩
 have:=f2.get 0;exact ⟨nx,v,ι2,w',e,e2,g2 H ι w (Nat.le_refl _) g,by simpa [gt] using this⟩
theorem Zh1 {P:Program} {o:Oper} {fr:List V} {H H':List Obj} {x:V} (h:OpS P o fr H x H') {F ι a w} (hr:Rel F H ι w) (hf:Fr F H ι w fr a) {next:Act->World->Prop} {Q:Exit->Act->World->Prop}
  (hn: ∀ι' v w',Good F H ι w H' ι' w'->RV F H' ι' w' x v->next (a.put o.dst v) w'):o.wp P a w next Q:=by
 obtain ⟨nx,v,ι',w',e,e2,g,r⟩:=h F ι a w hr hf;unfold Oper.wp;rw [e];rcases e2 with rfl | ⟨rfl,rfl⟩
 ·exact hn ι' v w' g r
 ·exact hn ι' undef w' g r
theorem Uw {P:Program} {o:Oper} {fr:List V} {H:List Obj} {K:V->List Obj->Prop} (h:Zr P o fr H K) {F ι a w} (hr:Rel F H ι w) (hf:Fr F H ι w fr a) {next:Act->World->Prop} {Q:Exit->Act->World->Prop}
  (hn: ∀x H' ι' v w',K x H'->Good F H ι w H' ι' w'->RV F H' ι' w' x v->next (a.put o.dst v) w'):o.wp P a w next Q:=by
 unfold Zr at h
 split at h
 rotate_left
 ·rename_i azs ts ho
  split at h
  ·rename_i x y t t2 e1 e2;obtain ⟨azs⟩:=azs;obtain ⟨ts⟩:=ts;simp at e1 e2;subst e1;subst e2;obtain ⟨S,zs,hz,hk⟩:=h
   have hops:=(Zdu t t2 x y _ ho hz).freeze (z:= .list false zs) (by
    have e:oat (H++ [Obj.elems S zs]) H.length= .elems S zs:=by rw [Zel];simp
    simp only [frz,e]
    simp)
   exact Zh1 hops hr hf fun ι' v w' g r=>hn _ _ ι' v w' hk g r
  ·exact h.elim
 ·exact YH h hr hf hn
 rename_i t n ps ho
 split at h
 rotate_left
 ·exact h.elim
 rename_i x hx;simp only [Option.map_eq_some_iff] at hx;obtain ⟨x,hx,rfl⟩:=hx;unfold ZcC at hx
 split at hx
 rotate_left
 ·cases hx
 rename_i S hS
 split at hx
 rotate_left
 ·cases hx
 rename_i hc;simp only [Option.map_eq_some_iff] at hx;obtain ⟨xs,hl,rfl⟩:=hx;unfold Jd at hS
 split at hS
 rotate_left
 ·cases hS
 rename_i e hu
 split at hS
 rotate_left
 ·cases hS
 rename_i z hze
 split at hS
 rotate_left
 ·cases hS
 rename_i S' ht;simp at hS;subst hS
 have hz:ZkT P H t n (ps.toList.map fun x=>(x.1,ev fr x.2))=some (.sl H.length 0 n n,H++ [.elems S' xs]):=by
  simp only [ZkT,ht];rw [if_pos hc,hl];rfl
 obtain ⟨S2,xs2,_,he,hlen,_,k⟩:=ZaZ t n ps _ ho e z hu hze hz;simp at he;obtain ⟨rfl,rfl⟩:=he;obtain ⟨a',t',k1,k2,k3⟩:=k F ι a w hr hf;have hp:=Pushed.alloc w a' t'
 have hsz:w.heap.size<=(w.alloc (.cells a' t')).heap.size:=by rw [hp.size];omega
 have hold: ∀b,b<w.heap.size->(w.alloc (.cells a' t')).heap[b]? =w.heap[b]? :=fun b hb=>hp.old hb
 have hnew: ∀b,Own F ι b->b<w.heap.size:=fun b hb=>by
  rcases hb with hb | hb
  ·exact hr.fin b hb
  ·obtain ⟨i,hi⟩:=List.mem_iff_getElem?.1 hb;exact (hr.avo i b hi).2
 have hι:(ι++ [some w.heap.size])[H.length]? =some (some w.heap.size):=by rw [<- hr.len];simp
 have rp:=Qw (S:=S') (xs:=xs) (off:=0) (len:=n) (tot:=n) (Own F ι) (fun b hb h=>by
  rw [hι] at hb;simp at hb;subst hb
  have:=hnew _ h;omega) (fun b hb hs=>⟨fun h=>hb (h.imp id fun h=>by simp [h]),hs,rfl⟩) k2.rel (by simp) hlen (by omega) k3
 have hxs:(xs.take (0+n)).drop 0=xs:=by simp [<- hlen]
 rw [hxs] at rp;have g:Good F H ι w H ι (w.alloc (.cells a' t')):=⟨hr.grow hsz hold,k2.os,k2.tape,k2.output,fun b c t h=>(k2.shape b c t h).imp (fun h=>⟨h.1,fun h2=>h.2 (List.mem_append_left _ h2)⟩) id,k2.size,fun b hb _=>hold b hb,fun b _ h=>h,HX.grow hr hold⟩;unfold Oper.wp;rw [k1];exact hn _ H ι _ _ h g (.p _ _ rp)
def Zw (i:Nat) (o:Oper):List Nat:=(o.after.toList.filter fun e=>Region.binds .any e&&decide (e.on<i)).map (·.on)
def ZV (ds:List (Option Nat)) (vals:List V):List Nat->List V->List V
 | [],fr=>fr
 | j::l,fr=>match ds[j]?,vals[j]? with
  | some (some d),some v=>ZV ds vals l (pt fr d v)
  | _,_=>ZV ds vals l fr
def ZU : List (Option Nat)->List V->List V
 | [],fr=>fr
 | some d::l,fr=>ZU l (pt fr d .junk)
 | none::l,fr=>ZU l fr
def hd (P:Program) (ds:List (Option Nat)) (frJ:List V) (H:List Obj) (K:List V->Prop):Nat->List Oper->List V->Prop
 | _,[],vals=>K vals
 | i,o::r,vals=>match o.guard with
  | none=> ∃y,Zr P o (ZV ds vals (Zw i o) frJ) H (fun x H'=>x=y/\H'=H)/\hd P ds frJ H K (i+1) r (vals++ [y])
  | some (j,b)=>ZX (gAt (ZV ds vals (Zw i o) frJ) ds j) b
    (∃y,Zr P o (ZV ds vals (Zw i o) frJ) H (fun x H'=>x=y/\H'=H)/\hd P ds frJ H K (i+1) r (vals++ [y]))
    (hd P ds frJ H K (i+1) r (vals++ [.tup []]))
def ZfO (P:Program) (ds:List (Option Nat)) (frJ:List V) (H:List Obj) (vals:List V) (i:Nat) (o:Oper):Prop :=
 ∃y,vals[i]? =some y/\match o.guard with
  | none=>Zr P o (ZV ds vals (Zw i o) frJ) H (fun x H'=>x=y/\H'=H)
  | some (j,b)=>(∃c,gAt (ZV ds vals (Zw i o) frJ) ds j= .p (.bool c)/\(c=b->Zr P o (ZV ds vals (Zw i o) frJ) H (fun x H'=>x=y/\H'=H))/\(c≠b->y= .tup []))\/(gAt (ZV ds vals (Zw i o) frJ) ds j= .tup []/\y= .tup [])
theorem UJ {ds:List (Option Nat)} {vals ys:List V} : ∀(l:List Nat) (fr:List V),(∀j∈l,j<vals.length)->ZV ds (vals++ys) l fr=ZV ds vals l fr
 | [],fr,_=>rfl
 | j::l,fr,h=>by
  have hj:=h j (by simp);have e:(vals++ys)[j]? =vals[j]? :=List.getElem?_append_left hj;simp only [ZV,e]
  split
  ·exact UJ l _ fun k hk=>h k (by simp [hk])
  ·exact UJ l _ fun k hk=>h k (by simp [hk])
theorem XG {i:Nat} {o:Oper} : ∀j∈Zw i o,j<i:=fun j hj=>by
 simp [Zw] at hj;obtain ⟨e,⟨_,_,h⟩,rfl⟩:=hj;exact h
theorem Uj {P ds frJ H} {K:List V->Prop} : ∀(l:List Oper) (i:Nat) (vals:List V),vals.length=i->hd P ds frJ H K i l vals ->
  ∃ys:List V,ys.length=l.length/\K (vals++ys)/\ ∀(k:Nat) (o:Oper),l[k]? =some o->ZfO P ds frJ H (vals++ys) (i+k) o
 | [],i,vals,_,h=>⟨[],rfl,by simpa [hd] using h,fun k o hk=>by simp at hk⟩
 | o::l,i,vals,hl,h=>by
  have step: ∀y,hd P ds frJ H K (i+1) l (vals++ [y])->(match o.guard with
    | none=>Zr P o (ZV ds vals (Zw i o) frJ) H (fun x H'=>x=y/\H'=H)
    | some (j,b)=>(∃c,gAt (ZV ds vals (Zw i o) frJ) ds j= .p (.bool c)/\(c=b->Zr P o (ZV ds vals (Zw i o) frJ) H (fun x H'=>x=y/\H'=H))/\(c≠b->y= .tup []))\/(gAt (ZV ds vals (Zw i o) frJ) ds j= .tup []/\y= .tup [])) ->
    ∃ys:List V,ys.length=(o::l).length/\K (vals++ys)/\ ∀(k:Nat) (o':Oper),(o::l)[k]? =some o'->ZfO P ds frJ H (vals++ys) (i+k) o':=fun y hy ho=>by
   obtain ⟨ys,e1,e2,e3⟩:=Uj l (i+1) (vals++ [y]) (by simp [hl]) hy;refine ⟨y::ys,by simp [e1],by simpa using e2,fun k o' hk=> ?_⟩
   cases k with
   | zero =>
    simp at hk;subst hk;refine ⟨y,by simp [<- hl],?_⟩
    have e:ZV ds (vals++y::ys) (Zw (i+0) o) frJ=ZV ds vals (Zw i o) frJ:=UJ _ _ fun j hj=>by rw [hl];exact XG j hj
    rw [e];exact ho
   | succ k =>
    have:=e3 k o' (by simpa using hk);rw [show i+1+k=i+(k+1) by omega] at this;simpa using this
  simp only [hd] at h
  split at h
  ·rename_i hg;obtain ⟨y,h1,h2⟩:=h;exact step y h2 (by simp only [hg];exact h1)
  ·rename_i j b hg;unfold ZX at h
   split at h
   rotate_left
   ·rename_i hc;exact step (.tup []) h (by simp only [hg];exact .inr ⟨hc,trivial⟩)
   ·exact h.elim
   rename_i c hc
   by_cases hcb:c=b
   ·obtain ⟨y,h1,h2⟩:=h.1 hcb;exact step y h2 (by simp only [hg];exact .inl ⟨c,hc,fun _=>h1,fun h=>absurd hcb h⟩)
   ·exact step (.tup []) (h.2 hcb) (by simp only [hg];exact .inl ⟨c,hc,fun h=>absurd h hcb,fun _=>trivial⟩)
theorem Qz {ds:List (Option Nat)} {vals:List V} {t:Nat} {x:V} : ∀(l:List Nat) (fr:List V),(ZV ds vals l fr)[t]? =some x->(∃j∈l,vals[j]? =some x/\ds[j]? =some (some t))\/fr[t]? =some x
 | [],fr,h=> .inr h
 | j::l,fr,h=>by
  simp only [ZV] at h
  split at h
  ·rename_i d v h1 h2;rcases Qz l _ h with ⟨k,hk,h3⟩ | h3
   ·exact .inl ⟨k,by simp [hk],h3⟩
   ·rw [Wo,List.getElem?_set] at h3
    split at h3
    ·rename_i e
     split at h3
     ·simp at h3;subst h3;subst e;exact .inl ⟨j,by simp,h2,h1⟩
     ·cases h3
    ·exact .inr h3
  ·rcases Qz l _ h with ⟨k,hk,h3⟩ | h3
   ·exact .inl ⟨k,by simp [hk],h3⟩
   ·exact .inr h3
theorem ZY {ds:List (Option Nat)} {vals:List V} : ∀(l:List Nat) (fr:List V),(ZV ds vals l fr).length=fr.length
 | [],_=>rfl
 | j::l,fr=>by
  simp only [ZV]
  split
  ·rw [ZY l];simp [Wo]
  ·exact ZY l fr
theorem UK {t:Nat} {x:V} : ∀(l:List (Option Nat)) (fr:List V),(ZU l fr)[t]? =some x->x= .junk\/(some t ∉ l/\fr[t]? =some x)
 | [],fr,h=> .inr ⟨by simp,h⟩
 | some d::l,fr,h=>by
  simp only [ZU] at h;rcases UK l _ h with h1 | ⟨h1,h2⟩
  ·exact .inl h1
  ·rw [Wo,List.getElem?_set] at h2
   split at h2
   ·split at h2
    ·simp at h2;exact .inl h2.symm
    ·cases h2
   ·rename_i hne;exact .inr ⟨by simp;exact ⟨fun h=>hne h.symm,h1⟩,h2⟩
 | none::l,fr,h=>by
  simp only [ZU] at h;rcases UK l _ h with h1 | ⟨h1,h2⟩
  ·exact .inl h1
  ·exact .inr ⟨by simpa using h1,h2⟩
theorem ZP : ∀(l:List (Option Nat)) (fr:List V),(ZU l fr).length=fr.length
 | [],_=>rfl
 | some d::l,fr=>by simp only [ZU];rw [ZP l];simp [Wo]
 | none::l,fr=>ZP l fr
def Zg3 (ops:Array Oper) (n:Nat):Bool :=
 (List.range n).all fun i=>match ops[i]? with
  | some o=>o.after.all fun e=> !Region.binds .any e||decide (e.on<i)
  | none=>true
def WX (ds:List (Option Nat)) (n:Nat):Bool :=
 (List.range n).all fun i=>(List.range n).all fun j=>decide (i=j)||match ds[i]?,ds[j]? with
  | some (some a),some (some b)=>decide (a≠b)
  | _,_=>true
def YY (ops:Array Oper) (n:Nat):Bool :=
 decide (n<=ops.size)&&(decide (n=ops.size)||(Region.sinkB .any ops n&&Region.chainB .any ops n))&&Zg3 ops n&&WX (ops.toList.map (·.dst)) n &&
  Region.seqB .any ops (ops.size-n) n (Array.replicate n true++Array.replicate (ops.size-n) false)
structure Mid (F:Nat->Prop) (H:List Obj) (ds:List (Option Nat)) (fr vals:List V) (n:Nat) (listed:Array Bool) (ι:List (Option Nat)) (a:Act) (w:World):Prop where
 rel:Rel F H ι w
 size:a.tmps.size=fr.length
 defers:a.defers= []
 old: ∀(t:Nat) (x:V),fr[t]? =some x->some t ∉ ds.take n->RV F H ι w x (a.tmps.getD t undef)
 new: ∀(j d:Nat) (x:V),j<n->listed.getD j false=true->ds[j]? =some (some d)->vals[j]? =some x->d<fr.length->RV F H ι w x (a.tmps.getD d undef)
theorem Mid.fr {F H ds fr vals n listed ι a w} (m:Mid F H ds fr vals n listed ι a w) (l:List Nat) (hl: ∀j∈l,j<n/\listed.getD j false=true) :
  Fr F H ι w (ZV ds vals l (ZU (ds.take n) fr)) a:=by
 refine ⟨by rw [ZY,ZP];exact m.size,m.defers,fun t x hx=> ?_⟩;have hlt:=(List.getElem?_eq_some_iff.1 hx).1;rw [ZY,ZP] at hlt;rcases Qz _ _ hx with ⟨j,hj,h1,h2⟩ | h1
 ·exact m.new j t x (hl j hj).1 (hl j hj).2 h2 h1 hlt
 ·rcases UK _ _ h1 with rfl | ⟨h2,h3⟩
  ·exact .junk _
  ·exact m.old t x h3 h2
theorem Mid.put {F H ds fr vals n listed ι a w ι' w' i d x v} (m:Mid F H ds fr vals n listed ι a w) (hap:WX ds n=true) (g:Good F H ι w H ι' w') (hi:i<n) (hdi:ds[i]? =some d) (hx:vals[i]? =some x) (hv:RV F H ι' w' x v) :
  Mid F H ds fr vals n (listed.setIfInBounds i true) ι' (a.put d v) w':=by
 refine ⟨g.rel,?_,?_,fun t y ht hn=> ?_,fun j e y hj hl hd hy hlt=> ?_⟩
 ·cases d<;>simp [Act.put,m.size]
 ·cases d<;>exact m.defers
 ·have:=g.rv (m.old t y ht hn)
  cases d with
  | none=>exact this
  | some d =>
   have hne:d≠t:=fun h=>hn (by
    subst h;rw [List.mem_iff_getElem?]
    exact ⟨i,by rw [List.getElem?_take_of_lt hi];exact hdi⟩)
   have e:((a.put (some d) v).tmps).getD t undef=a.tmps.getD t undef:=by
    simp [Act.put,Array.getD_eq_getD_getElem?,Array.getElem?_setIfInBounds_ne hne]
   rw [e];exact this
 ·by_cases hij:j=i
  ·subst hij;rw [hdi] at hd;simp at hd;subst hd;rw [hx] at hy;simp at hy;subst hy
   have:e<a.tmps.size:=by rw [m.size];exact hlt
   simpa [Act.put,Array.getD,this] using hv
  ·have hl':listed.getD j false=true:=by rwa [getD_set_ne false (fun h=>hij h.symm)] at hl
   have:=g.rv (m.new j e y hj hl' hd hy hlt)
   cases d with
   | none=>exact this
   | some d =>
    have hne:d≠e:=fun h=>by
     subst h;have:=List.all_eq_true.1 (List.all_eq_true.1 hap i (List.mem_range.2 hi)) j (List.mem_range.2 hj);simp [hdi,hd,Ne.symm hij] at this
    have e':((a.put (some d) v).tmps).getD e undef=a.tmps.getD e undef:=by
     simp [Act.put,Array.getD_eq_getD_getElem?,Array.getElem?_setIfInBounds_ne hne]
    rw [e'];exact this
theorem Zb4 {P:Program} {ops:Array Oper} {Q:Exit->Act->World->Prop} {F H fr vals} {n:Nat} (hB:YY ops n=true) (hvl:vals.length=n)
  (hok: ∀(i:Nat) (o:Oper),i<n->ops[i]? =some o->ZfO P (ops.toList.map (·.dst)) (ZU ((ops.toList.map (·.dst)).take n) fr) H vals i o) {ι0 w0}
  (ht: ∀ι a w,Good F H ι0 w0 H ι w->Fr F H ι w (ZV (ops.toList.map (·.dst)) vals (List.range n) (ZU ((ops.toList.map (·.dst)).take n) fr)) a->wpList P ops Q (ops.toList.drop n) a w) :
  ∀(m:Nat) (listed:Array Bool) (ι:List (Option Nat)) (a:Act) (w:World),HeadInv .any ops n listed->((List.range n).filter fun i=> !listed.getD i false).length=m ->
   Mid F H (ops.toList.map (·.dst)) fr vals n listed ι a w->Good F H ι0 w0 H ι w->wpAny P .any ops Q (m+(ops.size-n)) listed a w:=by
 simp only [YY,Bool.and_eq_true,decide_eq_true_eq,Bool.or_eq_true] at hB;obtain ⟨⟨⟨⟨hn,hsc⟩,hea⟩,hap⟩,hseq⟩:=hB;intro m
 induction m with
 | zero =>
  intro listed ι a w inv hm mid gd
  have XW: ∀i,i<n->listed.getD i false=true:=fun i hi=>by
   have h0:=List.eq_nil_of_length_eq_zero hm
   have:i ∉ (List.range n).filter fun i=> !listed.getD i false:=by rw [h0];simp
   simp only [List.mem_filter,List.mem_range,not_and,Bool.not_eq_true',Bool.not_eq_false] at this;exact this hi
  have hl:listed=Array.replicate n true++Array.replicate (ops.size-n) false:=by
   refine Array.ext (by simp [inv.size];omega) fun i h1 h2=> ?_
   by_cases hi:i<n
   ·have:=XW i hi;rw [Array.getElem_append_left (by simpa using hi)];simp [h1] at this;simp [this]
   ·have:=inv.tail i (by omega) (by rw [<- inv.size];exact h1);rw [Array.getElem_append_right (by simp;omega)];simp [h1] at this;simp [this]
  have hw:=ht ι a w gd (mid.fr (List.range n) fun j hj=>⟨List.mem_range.1 hj,XW j (List.mem_range.1 hj)⟩);have:=wpAny_of_seq (md:= .any) (Q':=Q) (ops.toList.drop n) n listed a w (fun j=>by simp [List.getElem?_drop]) (by rw [hl];simpa using hseq) hw;simpa using this
 | succ m ih =>
  intro listed ι a w inv hm mid gd
  -- one that is ready
  have hun: ∃i,i<n/\listed.getD i false=false:=by
   cases hf:(List.range n).filter fun i=> !listed.getD i false with
   | nil=>rw [hf] at hm;simp at hm
   | cons i l =>
    have:i∈(List.range n).filter fun i=> !listed.getD i false:=by rw [hf];simp
    simp only [List.mem_filter,List.mem_range,Bool.not_eq_true'] at this;exact ⟨i,this⟩
  have hsz: ∀ {i},i<n->i<listed.size:=fun h=>by rw [inv.size];omega
  have hready:Region.ready .any ops listed≠ []:=by
   obtain ⟨i,hi,hu⟩:=hun
   -- the least
   have: ∃i,i<n/\listed.getD i false=false/\ ∀j,j<i->listed.getD j false=true:=by
    induction i using Nat.strongRecOn with
    | _ i ihh =>
     by_cases hex: ∃j,j<i/\listed.getD j false=false
     ·obtain ⟨j,hj,hju⟩:=hex;exact ihh j hj (by omega) hju
     ·exact ⟨i,hi,hu,fun j hj=>by
       cases hb:listed.getD j false with
       | true=>rfl
       | false=>exact absurd ⟨j,hj,hb⟩ hex⟩
   obtain ⟨i,hi,hu,hmin⟩:=this;intro h0
   have:i∈Region.ready .any ops listed:=by
    have hlt:i<ops.size:=by omega
    refine mem_ready.2 ⟨getD_in (hsz hi) hu,ops[i],by simp [hlt],fun e he hb=> ?_⟩;have h1:=List.all_eq_true.1 hea i (List.mem_range.2 hi);simp only [hlt,Array.getElem?_eq_getElem,Array.all_eq_true_iff_forall_mem] at h1;have:=h1 e he;simp [hb] at this;exact hmin _ this
   rw [h0] at this
   cases this
  rw [show m+1+(ops.size-n)=(m+(ops.size-n))+1 by omega];refine ⟨fun h0=>absurd h0 hready,fun i hi=> ?_⟩
  have hin:i<n:=by
   rcases hsc with h | ⟨hs,hc⟩
   ·obtain ⟨_,o,ho,_⟩:=mem_ready.1 hi;have:=(Array.getElem?_eq_some_iff.1 ho).1;omega
   ·rcases Nat.lt_or_ge i n with h | h
    ·exact h
    ·obtain ⟨k,hk,hu⟩:=hun
     by_cases hne:n<ops.size
     ·exact absurd hi (tail_waits hs hc hne inv _ k rfl hk (getD_in (hsz hk) hu) i h)
     ·obtain ⟨_,o,ho,_⟩:=mem_ready.1 hi;have:=(Array.getElem?_eq_some_iff.1 ho).1;omega
  obtain ⟨hiu,o,ho,XW⟩:=mem_ready.1 hi;obtain ⟨y,hy,hok'⟩:=hok i o hin ho
  have hds:(ops.toList.map (·.dst))[i]? =some o.dst:=by simp [ho]
  have hfr:Fr F H ι w (ZV (ops.toList.map (·.dst)) vals (Zw i o) (ZU ((ops.toList.map (·.dst)).take n) fr)) a:=mid.fr _ fun j hj=>by
   refine ⟨by have:=XG j hj;omega,?_⟩;simp [Zw] at hj;obtain ⟨e,⟨he,hb,_⟩,rfl⟩:=hj;exact XW e he hb
  have hcount:((List.range n).filter fun k=> !(listed.setIfInBounds i true).getD k false).length=m:=by
   have e:((List.range n).filter fun k=> !(listed.setIfInBounds i true).getD k false)=((List.range n).filter fun k=> !listed.getD k false).filter (fun k=>k≠i):=by
    rw [List.filter_filter];refine List.filter_congr fun k hk=> ?_
    by_cases hki:k=i
    ·subst hki;simp [hsz hin]
    ·rw [getD_set_ne false (fun h=>hki h.symm)];simp [hki]
   rw [e]
   have hmem:i∈(List.range n).filter fun k=> !listed.getD k false:=by
    simp only [List.mem_filter,List.mem_range,Bool.not_eq_true'];exact ⟨hin,getD_both hiu⟩
   have hnd:((List.range n).filter fun k=> !listed.getD k false).Nodup:=List.nodup_range.filter _;have:=List.Nodup.erase_eq_filter hnd i
   have e2:(((List.range n).filter fun k=> !listed.getD k false).filter (fun k=>k≠i))=((List.range n).filter fun k=> !listed.getD k false).erase i:=by
    rw [this];refine List.filter_congr fun k _=> ?_
    by_cases h:k=i<;>simp [h,bne]
   rw [e2,List.length_erase_of_mem hmem,hm]
   rfl
  have next: ∀ι' v w',Good F H ι w H ι' w'->RV F H ι' w' y v->wpAny P .any ops Q (m+(ops.size-n)) (listed.setIfInBounds i true) (a.put o.dst v) w':=fun ι' v w' g r =>
   ih _ ι' _ w' (inv.set hi hin) hcount (mid.put hap g hin hds hy r) (gd.trans g)
  have run:Zr P o (ZV (ops.toList.map (·.dst)) vals (Zw i o) (ZU ((ops.toList.map (·.dst)).take n) fr)) H (fun x H'=>x=y/\H'=H)->o.wp P a w (wpAny P .any ops Q (m+(ops.size-n)) (listed.setIfInBounds i true)) Q:=fun h =>
   Uw h mid.rel hfr fun x H' ι' v w' hk g r=>by
    obtain ⟨rfl,rfl⟩:=hk;exact next ι' v w' g r
  unfold wpOp;simp only [ho]
  split at hok'
  ·rename_i hg
   have hw:Region.wanted o (yielded ops a.tmps)=true:=by simp [Region.wanted,hg]
   rw [if_pos hw];exact .inl (run hok')
  ·rename_i j b hg;rcases hok' with ⟨c,hc,h1,h2⟩ | ⟨hc,hyt⟩
   rotate_left
   ·have hyl:=Xj hfr hc
    have hw: ¬(Region.wanted o (yielded ops a.tmps)=true):=by simp [Region.wanted,hg,hyl]
    rw [if_neg hw];exact next ι undef w (Good.refl mid.rel) (by rw [hyt];exact XB)
   have hyl:=XP hfr hc
   by_cases hcb:c=b
   ·have hw:Region.wanted o (yielded ops a.tmps)=true:=by simp [Region.wanted,hg,hyl,hcb]
    rw [if_pos hw];exact .inl (run (h1 hcb))
   ·have hw: ¬(Region.wanted o (yielded ops a.tmps)=true):=by simp [Region.wanted,hg,hyl,hcb]
    rw [if_neg hw];exact next ι undef w (Good.refl mid.rel) (by rw [h2 hcb];exact XB)
theorem Zdv {P:Program} {id:Nat} {ops:Array Oper} {fr:List V} {H:List Obj} {Q:Exit->List V->List Obj->Prop} (n:Nat) (hm:P.follows .mixedOrders=true) (hB:YY ops n=true)
  (h:hd P (ops.toList.map (·.dst)) (ZU ((ops.toList.map (·.dst)).take n) fr) H
   (fun vals=>Yo P (ops.toList.map (·.dst)) (ops.toList.drop n) (ZV (ops.toList.map (·.dst)) vals (List.range n) (ZU ((ops.toList.map (·.dst)).take n) fr)) H (Q .normal)) 0 (ops.toList.take n) []) :
  AWP P (.region id ops true) fr H Q:=fun F ι a w hr hf=>by
 refine wp_region_any hm ?_
 have hn:n<=ops.size:=by
  simp only [YY,Bool.and_eq_true,decide_eq_true_eq] at hB;exact hB.1.1.1.1
 obtain ⟨ys,h1,h2,h3⟩:=Uj _ 0 [] rfl h;simp only [List.nil_append] at h2 h3
 have hlen:ys.length=n:=by rw [h1];simp;omega
 have g0:=Good.drew hr;have hf0:=g0.fr hf
 have:=Zb4 (Q:=fun e a' w'=> ∃fr' H' ι',Q e fr' H'/\Good F H ι w H' ι' w'/\Fr F H' ι' w' fr' a') (F:=F) (fr:=fr) (vals:=ys) (P:=P) (ι0:=ι) (w0:= { w with drawn:=w.drawn+1 }) hB hlen
  (fun i o hi ho=>by
   have:=h3 i o (by rw [List.getElem?_take_of_lt hi];simpa using ho)
   rwa [Nat.zero_add] at this)
  (fun ι1 a1 w1 g1 f1=>Z4 _ _ H _ h2 F ι1 a1 w1 g1.rel f1 fun fr' H' ι' a' w' k g f=>⟨fr',H',ι',k,g0.trans (g1.trans g),f⟩)
  n (Array.replicate ops.size false) ι a { w with drawn:=w.drawn+1 }
  ⟨by simp,fun j oj _ hl=>(by rw [getD_replicate_false] at hl;cases hl),fun t _ ht=>getD_in (by simpa using ht) (getD_replicate_false _ _)⟩
  (by
   rw [List.filter_eq_self.2 (fun i _=>by rw [getD_replicate_false];rfl)]
   simp)
  ⟨g0.rel,hf0.1,hf0.2.1,fun t x ht _=>hf0.2.2 t x ht,fun j d x _ hl=>by rw [getD_replicate_false] at hl;cases hl⟩
  (Good.refl g0.rel)
 rwa [show n+(ops.size-n)=ops.size by omega] at this
end Go.AM
