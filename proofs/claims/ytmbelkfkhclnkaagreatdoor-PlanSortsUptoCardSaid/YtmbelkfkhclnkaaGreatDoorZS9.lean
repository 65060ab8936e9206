/- Declarations that the closing texts need, part 9: joined by tools/slim.py. -/
import Derived.Test.YtmbelkfkhclnkaaGreatDoorZS8
import Derived.Laws.IdiomCopy
set_option linter.unusedVariables false
set_option linter.unusedSimpArgs false
namespace Go.AM
open Go.RowKit
theorem Lc {P:Program} {o:Oper} {fr:List V} {H:List Obj} {t t2 e:TypeId} {x y:Operand} {ob n:Nat} {c:Bool} {xs ys:List PV} (h:o.op= .call { callee:= .builtin .copy,args:= #[x,y],argTypes:= #[t,t2] })
  (hu:P.underlying t=some (.slice e)) (hs:(P.info? e).map (·.size)=some 1) (hx:ev fr x= .sl ob 0 n n) (hy:ev fr y= .p (.list c ys)) (hH:H[ob]? =some (.elems 1 xs)) (hn:xs.length=n) (hle:ys.length<=n) (hone: ∀q∈ys,q.one=true) :
  OpS P o fr H (.p (.int .i64 (ys.length:Nat))) (H.set ob (.elems 1 (ys++xs.drop ys.length))):=fun F ι a w hr hf=>by
 have h1:=hf.ev x;have h2:=hf.ev y;rw [hx] at h1;rw [hy] at h2
 cases h2 with | p _ _ h2 =>
 have hgo: ∀k:Nat,goInt k= .int .i64 (k:Int):=fun k=>rfl
 have same:ys= []->H.set ob (.elems 1 (ys++xs.drop ys.length))=H:=fun h=>by grind [Qk]
 have none': ∀(d s:Option Addr) (dl dc sl sc:Nat),a.eval x= .slice d dl dc->a.eval y= .slice s sl sc->Nat.min sl dl=0->ys= [] ->
   ∃nx v ι' w',(execOp a.eval o).run P w= .ok nx w'/\(nx= .value v\/(nx= .skip/\v=undef))/\Good F H ι w (H.set ob (.elems 1 (ys++xs.drop ys.length))) ι' w'/\RV F (H.set ob (.elems 1 (ys++xs.drop ys.length))) ι' w' (.p (.int .i64 (ys.length:Nat))) v:=fun d s dl dc sl sc e1 e2 h0 hys=>by
  have hrun:=run_copy_none (P:=P) w t t2 o.type e d s dl dc sl sc hu hs h0;rw [same hys];subst hys;exact ⟨_,.int .i64 0,ι,w,by simp [execOp,h,resolve,invoke,builtin,e1,e2,hrun];rfl,.inl rfl,Good.refl hr,.p _ _ (.int _ _)⟩
 generalize hxe:a.eval x=vx at h1;generalize hye:a.eval y=vy at h2
 cases h1 with
 | slNil _ S ad hi hH2 =>
  rw [hH] at hH2;simp at hH2;obtain ⟨rfl,rfl⟩:=hH2;have hys:ys= []:=List.eq_nil_of_length_eq_zero Za
  cases h2 with
  | nils=>grind
  | emp=>grind
  | list=>grind
 | sl _ _ _ _ b S cap ty xs2 cc hb hH2 ht hw hcap hl hlen hm =>
  rw [hH] at hH2;simp at hH2;obtain ⟨rfl,rfl⟩:=hH2;rcases hr.elm ob 1 xs hH with ⟨e1,e2⟩ | ⟨b2,c2,t3,cap2,f1,f2,f3,f4,f5,f6,f7⟩
  ·grind
  ·have:b2=b:=by grind
   subst this;rw [hw] at f2;simp at f2;obtain ⟨rfl,rfl⟩:=f2
   have hkey: ∀(sa:Addr) (sc:Nat) (us:List Value),a.eval y= .slice (some sa) ys.length sc->us.length=ys.length->(∀j v,us[j]? =some v->w.cell? (sa.add j)=some v)->(∀v∈us,v.oneCell'=true)->(∀(j:Nat) (q:PV),ys[j]? =some q->RP (Own F ι) w q (us.getD j undef)) ->
     ∃nx v ι' w',(execOp a.eval o).run P w= .ok nx w'/\(nx= .value v\/(nx= .skip/\v=undef))/\Good F H ι w (H.set ob (.elems 1 (ys++xs.drop ys.length))) ι' w'/\RV F (H.set ob (.elems 1 (ys++xs.drop ys.length))) ι' w' (.p (.int .i64 (ys.length:Nat))) v:=fun sa sc us he hul hcell hone' hrp=>by
    have hmin:us.length=Nat.min ys.length n:=by grind
    have hrun:=run_copy_row P w t t2 o.type e b2 0 n cap sa ys.length sc cc ty us hu hs hw hmin hcell Za hone';have hT:Turned w (w.setRow b2 (cc.toList.take 0++us++cc.toList.drop (0+us.length)).toArray) b2 _ ty:=Turned.setRow hw
    have hsz:(cc.toList.take 0++us++cc.toList.drop (0+us.length)).toArray.size=cc.size:=by simp;omega
    have g:=Xg (w':=w.setRow b2 (cc.toList.take 0++us++cc.toList.drop (0+us.length)).toArray) (cap:=cap2) (xs':=ys++xs.drop ys.length) hr hH hT.os hT.tape hT.output
     (fun c0 t0 hc0=>by grind) Zb hT.at' (fun k _ hk=>hT.other k hk)
     (.inl ⟨hb,.inl ⟨by simp;omega,fun c0 t0 hc0=>by grind⟩⟩) Za (by simp;omega) f5
     (fun i q hi=>by
      grind [PV.cells_one])
     (fun i q j z hi hj=>by
      have hq1:q.cells.length=1:=by
       grind [PV.cells_one]
      have hj0:j=0:=by grind
      subst hj0
      by_cases hlt:i<ys.length
      ·rw [List.getElem?_append_left hlt] at hi;have hq:=hone q (List.mem_of_getElem? hi);rw [PV.cells_one hq] at hj;simp at hj;subst hj
       have e1:(cc.toList.take 0++us++cc.toList.drop (0+us.length)).toArray.getD (i*1+0) undef=us.getD i undef:=by
        simp [Array.getD_eq_getD_getElem?,List.getElem?_append_left (show i<us.length by omega),List.getD_eq_getElem?_getD]
       grind
      ·rw [List.getElem?_append_right Za,List.getElem?_drop] at hi;have:=f7 _ q 0 z hi hj
       have e1:(cc.toList.take 0++us++cc.toList.drop (0+us.length)).toArray.getD (i*1+0) undef=cc.getD ((ys.length+(i-ys.length))*1+0) undef:=by
        simp only [Array.getD_eq_getD_getElem?,List.getElem?_toArray,List.take_zero,List.nil_append,Nat.zero_add,Nat.mul_one,Nat.add_zero]
        grind
       grind)
    have hio:ι.set ob (some b2)=ι:=by
     refine List.ext_getElem? fun i=> ?_
     grind
    rw [hio] at g;exact ⟨_,.int .i64 (ys.length:Nat),ι,_,by simp [execOp,h,resolve,invoke,builtin,hxe,he,hrun,hgo,hul],.inl rfl,g,.p _ _ (.int _ _)⟩
   cases h2 with
   | nils=>grind
   | emp=>grind
   | list _ _ b3 off cap3 S3 u hX hb3 hc3 hm3 hcl hS hu3 hr3 =>
    have hcell: ∀(j:Nat) (q:PV),ys[j]? =some q->w.cell? ⟨b3,off+j,none⟩=some (u j 0)/\RP (Own F ι) w q (u j 0):=fun j q hq=>by
     have h1:=hone q (List.mem_of_getElem? hq)
     have hS1:S3=1:=by grind [PV.cells_one]
     have e1:=hu3 j q 0 q hq (by rw [PV.cells_one h1];rfl)
     grind [PV.cells_one]
    refine hkey ⟨b3,off,none⟩ cap3 ((List.range ys.length).map fun i=>u i 0) hye Zb (fun j v hj=> ?_) (fun v hv=> ?_) (fun j q hq=> ?_)
    ·rw [Addr.add_lit];simp only [List.getElem?_map,Option.map_eq_some_iff] at hj;obtain ⟨i,hi,rfl⟩:=hj
     have hlt:j<ys.length:=by grind
     rw [List.getElem?_range hlt] at hi;simp at hi;subst hi;exact (hcell j ys[j] Zb).1
    ·obtain ⟨i,hi,rfl⟩:=List.mem_map.1 hv
     have hlt:i<ys.length:=by grind
     exact (hcell i ys[i] Zb).2.oneCell (hone _ (List.getElem_mem hlt))
    grind

 | slD _ _ _ _ _ hd=>grind
 | slS _ _ _ _ _ S2 xs2 hd hne=>grind
 | slC _ _ _ _ _ _ hd=>grind
theorem Jf (n:Nat) {P:Program} {id:Nat} {l:List Oper} {o:Oper} {fr:List V} {H:List Obj} {Q:Exit->List V->List Obj->Prop} (ho:l=l.take n++o::l.drop (n+1)) (hg:o.guard=none)
  (h:Xm P (l.map (·.dst)) (l.take n) fr H fun fr' H'=> ∃y H2,OpS P o fr' H' y H2/\Xm P (l.map (·.dst)) (l.drop (n+1)) (W0 fr' o.dst y) H2 (Q .normal)):AWP P (.region id (List.toArray l) false) fr H Q:=by
 intro F ι a w hr hf;refine wp_region_list ?_;have key:=XH (P:=P) (ops:=List.toArray l) (Q:=fun e a' w'=> ∃fr' H' ι',Q e fr' H'/\Good F H ι w H' ι' w'/\Fr F H' ι' w' fr' a') (r:=o::l.drop (n+1)) (l.take n) fr H _ (by simpa using h) F ι a w hr hf ?_
 ·grind
 ·rintro fr' H' ι' a' w' ⟨y,H2,hp,hk⟩ g f;simp only [wpList]
  have hw:Region.wanted o (yielded (List.toArray l) a'.tmps)=true:=by simp [Region.wanted,hg]
  rw [if_pos hw];refine .inl ?_;refine Mh hp g.rel f fun ι2 v w2 g2 hrv=> ?_;exact Z6 (P:=P) (ops:=List.toArray l) _ _ H2 _ Za F ι2 _ w2 g2.rel ((g2.fr f).put o.dst hrv) fun fr2 H3 ι3 a3 w3 k3 g3 f3=>⟨fr2,H3,ι3,k3,(g.trans g2).trans g3,f3⟩
def UW : Op->Bool
 | .move _=>true
 | .assign _=>true
 | .binOp _ _ _ _ _=>true
 | .unOp _ _ _=>true
 | .pick _ _ _=>true
 | _=>false
theorem Ug {P:Program} {o:Oper} (h:UW o.op=true) {fr:List V} {H H2:List Obj} {y:V} (k:Zs P o fr H (fun x H'=>x=y/\H'=H)):Zs P o fr H2 (fun x H'=>x=y/\H'=H2):=by
 have key: ∀(f:List Obj->Option V),(∀A B,f A=f B)->(match (match f H with | some x=>some (x,H) | none=>(none:Option (V×List Obj))) with | some (x,H')=>x=y/\H'=H | none=>False)->(match (match f H2 with | some x=>some (x,H2) | none=>(none:Option (V×List Obj))) with | some (x,H')=>x=y/\H'=H2 | none=>False):=fun f hf hk=>by
  rw [hf H2 H]
  cases hfh:f H with
  | none=>grind
  | some x=>grind
 unfold Zs Zo at k ⊢
 cases hop:o.op with
 | move x=>rw [hop] at k;simp only [X6,FW,ZG,Xc] at k ⊢;omega
 | assign x=>rw [hop] at k;simp only [X6,FW,ZG,Xc] at k ⊢;omega
 | binOp a b c d e =>
  grind [X6,FW,ZG,Xc,Yg]
 | unOp a b c =>
  grind [X6,FW,ZG,Xc,Yg]
 | pick c x z =>
  grind [X6,FW,ZG,Xc,Yg]
 | _=>rw [hop] at h;cases h
theorem Ci {P:Program} {ds:List (Option Nat)} {fr vals:List V} {H H2:List Obj} {i:Nat} {o:Oper} (h:UW o.op=true) (k:By P ds fr H vals i o):By P ds fr H2 vals i o:=by
 obtain ⟨y,h1,h2⟩:=k;refine ⟨y,h1,?_⟩
 split at h2
 ·exact Ug h h2
 ·rcases h2 with ⟨c,q1,q2,q3⟩ | q
  ·exact .inl ⟨c,q1,fun e=>Ug h (q2 e),q3⟩
  grind
def Ky (l:List Oper):Nat->Nat->Nat->Bool
 | 0,_,_=>false
 | f+1,i,m=>(Zz m (ZK l m)).any fun j=>decide (j=i)||Ky l f i j
theorem Uq {l:List Oper} {ops:Array Oper} (hol:ops.toList=l) {n:Nat} {listed:Array Bool} (inv:HeadInv .any ops n listed): ∀(f i m:Nat),m<l.length->Ky l f i m=true->(∀j∈Zz m (ZK l m),listed.getD j false=true)->listed.getD i false=true
 | 0,_,_,_,h,_=>by cases h
 | f+1,i,m,hm,h,hd=>by
  rw [Ky,List.any_eq_true] at h;obtain ⟨j,hj,h⟩:=h;rw [Bool.or_eq_true] at h;rcases h with h | h
  ·grind
  ·have hjm:j<m:=X0 j hj
   have hjl:j<l.length:=Za
   refine Uq hol inv f i j hjl h fun k hk=> ?_
   have ho:ops[j]? =some (ZK l j):=by
    grind [U1]
   simp [Zz] at hk;obtain ⟨e,⟨he,hb,_⟩,rfl⟩:=hk;exact inv.closed j _ ho (hd j hj) e he hb
def JU (P:Program) (l:List Oper):Nat->List Nat->List V->List Obj->(List V->List Obj->Prop)->Prop
 | 0,_,fr,H,K=>K fr H
 | n+1,rem,fr,H,K=> ∀m∈Ww l rem,∃y H',Zo P (ZK l m) fr H (fun x H2=>x=y/\H2=H')/\JU P l n (rem.erase m) (W0 fr (ZK l m).dst y) H' K
def gK (P:Program) (F:Nat->Prop) (H:List Obj) (l:List Oper) (ms:List Nat) (bs:List V) (K:List V->List Obj->Prop) (ds:List (Option Nat)) (fr vals:List V) (n:Nat) (ι0:List (Option Nat)) (w0:World) (listed:Array Bool) (a:Act) (w:World):Prop :=
 ∃(rem:List Nat) (dn:List (Nat×V)) (L:List Obj),((∀m∈ms,m∈rem)->L=H)/\rem.Nodup/\(∀m∈rem,m∈ms)/\(∀m∈ms,listed.getD m false=decide (m ∉ rem))/\(∀p∈dn,p.1∈ms/\p.1 ∉ rem)/\JU P l rem.length rem (D2 l dn bs) L K /\
  ∃ι,Mid F L ds fr vals n listed ι a w/\Good F H ι0 w0 L ι w /\
   ∀p∈dn,∀d,(ZK l p.1).dst=some d->d<fr.length->RV F L ι w p.2 (a.tmps.getD d undef)
theorem Dd {P:Program} {ops:Array Oper} {Q:Exit->Act->World->Prop} {F H fr vals} {n:Nat} {l:List Oper} {ms:List Nat} {K:List V->List Obj->Prop} (hol:ops.toList=l) (hB:YF ops n=true) (hvl:vals.length=n)
  (hms: ∀m∈ms,m<n/\ops[m]? =some (ZK l m)/\(ZK l m).guard=none/\vals[m]? =some .junk)
  (hrd: ∀m∈ms,∀t∈Wb (ZK l m).op,∀j,j<n->(ops.toList.map (·.dst))[j]? =some (some t)->j∈Zz m (ZK l m))
  (hev: ∀i,i<n->i ∉ ms->UW (ZK l i).op=true\/ ∀m∈ms,Ky l n i m=true)
  (hok: ∀(i:Nat) (o:Oper),i<n->i ∉ ms->ops[i]? =some o->By P (ops.toList.map (·.dst)) (ZD ((ops.toList.map (·.dst)).take n) fr) H vals i o) {ι0 w0}
  (ht: ∀fr' L ι a w,K fr' L->Good F H ι0 w0 L ι w->Fr F L ι w fr' a->wpList P ops Q (ops.toList.drop n) a w) :
  ∀(u:Nat) (listed:Array Bool) (a:Act) (w:World),HeadInv .any ops n listed->((List.range n).filter fun i=> !listed.getD i false).length=u ->
   gK P F H l ms (Zx (ops.toList.map (·.dst)) vals (List.range n) (ZD ((ops.toList.map (·.dst)).take n) fr)) K (ops.toList.map (·.dst)) fr vals n ι0 w0 listed a w->wpAny P .any ops Q (u+(ops.size-n)) listed a w:=by
 simp only [YF,Bool.and_eq_true,decide_eq_true_eq,Bool.or_eq_true] at hB;obtain ⟨⟨⟨⟨hn,hsc⟩,hea⟩,hap⟩,hseq⟩:=hB
 have hdl:n<=(ops.toList.map (·.dst)).length:=by grind
 -- the frame at late operations done, azs far azs is listed
 have frAt: ∀ {dn:List (Nat×V)} {L:List Obj} {listed:Array Bool} {ι:List (Option Nat)} {a:Act} {w:World} (ls:List Nat),(∀j∈ls,j<n/\listed.getD j false=true)->Mid F L (ops.toList.map (·.dst)) fr vals n listed ι a w ->
   (∀p∈dn,∀d,(ZK l p.1).dst=some d->d<fr.length->RV F L ι w p.2 (a.tmps.getD d undef)) ->
   Fr F L ι w (D2 l dn (Zx (ops.toList.map (·.dst)) vals ls (ZD ((ops.toList.map (·.dst)).take n) fr))) a:=fun {dn L listed ι a w} ls hls mid slot=>by
  obtain ⟨f1,f2,f3⟩:=mid.fr ls hls;refine ⟨by rw [U9];exact f1,f2,fun t x hx=> ?_⟩;rcases Bh l dn _ hx with ⟨p,h1,h2,rfl,h4⟩ | h1
  ·grind [Xk,Xv]
  grind
 intro u
 induction u with
 | zero =>
  intro listed a w inv hm mid
  have Z7: ∀i,i<n->listed.getD i false=true:=fun i hi=>by
   have h0:=List.eq_nil_of_length_eq_zero hm
   have:i ∉ (List.range n).filter fun i=> !listed.getD i false:=by rw [h0];simp
   grind
  have hl:listed=Array.replicate n true++Array.replicate (ops.size-n) false:=by
   refine Array.ext (by simp [inv.size];omega) fun i h1 h2=> ?_
   by_cases hi:i<n
   ·have:=Z7 i hi;rw [Array.getElem_append_left (by grind)];simp [h1] at this;simp [this]
   ·have:=inv.tail i Za (by grind);rw [Array.getElem_append_right (by simp;omega)];simp [h1] at this;simp [this]
  obtain ⟨rem,dn,L,hLH,hnd,hrm,hst,hdn,hlt,ι,mid,gd,slot⟩:=mid
  have hs:rem= []:=by
   cases rem with
   | nil=>rfl
   | cons m r =>
    have h1:=hst m (hrm m Zb)
    grind
  subst hs;have hw:=ht _ L ι a w hlt gd (frAt (List.range n) (fun j hj=>⟨List.mem_range.1 hj,Z7 j (List.mem_range.1 hj)⟩) mid slot);have:=wpAny_of_seq (md:= .any) (Q':=Q) (ops.toList.drop n) n listed a w (fun j=>Zb) (by grind) hw
  grind
 | succ u ih =>
  intro listed a w inv hm mid
  have hun: ∃i,i<n/\listed.getD i false=false:=by
   cases hf:(List.range n).filter fun i=> !listed.getD i false with
   | nil=>grind
   | cons i l =>
    have:i∈(List.range n).filter fun i=> !listed.getD i false:=by rw [hf];simp
    grind
  have hsz: ∀ {i},i<n->i<listed.size:=fun h=>by rw [inv.size];omega
  have hready:Region.ready .any ops listed≠ []:=by
   obtain ⟨i,hi,hu⟩:=hun
   have: ∃i,i<n/\listed.getD i false=false/\ ∀j,j<i->listed.getD j false=true:=by
    induction i using Nat.strongRecOn with
    | _ i ihh =>
     by_cases hex: ∃j,j<i/\listed.getD j false=false
     ·obtain ⟨j,hj,hju⟩:=hex;exact ihh j hj Za hju
     grind
   obtain ⟨i,hi,hu,hmin⟩:=this;intro h0
   have:i∈Region.ready .any ops listed:=by
    have hlt:i<ops.size:=Za
    refine mem_ready.2 ⟨getD_in (hsz hi) hu,ops[i],by simp [hlt],fun e he hb=> ?_⟩;have h1:=List.all_eq_true.1 hea i (List.mem_range.2 hi)
    grind [Array.all_eq_true_iff_forall_mem]
   grind
  rw [show u+1+(ops.size-n)=(u+(ops.size-n))+1 by omega];refine ⟨fun h0=>absurd h0 hready,fun i hi=> ?_⟩
  have hin:i<n:=by
   rcases hsc with h | ⟨hs,hc⟩
   ·obtain ⟨_,o,ho,_⟩:=mem_ready.1 hi
    grind
   ·rcases Nat.lt_or_ge i n with h | h
    ·exact h
    ·obtain ⟨k,hk,hu⟩:=hun
     by_cases hne:n<ops.size
     ·exact absurd hi (tail_waits hs hc hne inv _ k rfl hk (getD_in (hsz hk) hu) i h)
     grind [mem_ready]
  obtain ⟨hiu,o,ho,Z7⟩:=mem_ready.1 hi
  have hds:(ops.toList.map (·.dst))[i]? =some o.dst:=by simp [ho]
  have hdeps: ∀j∈Zz i o,j<n/\listed.getD j false=true:=fun j hj=>by
   refine ⟨by have:=X0 j hj;omega,?_⟩;simp [Zz] at hj
   grind
  have hcount:((List.range n).filter fun k=> !(listed.setIfInBounds i true).getD k false).length=u:=by
   have e:((List.range n).filter fun k=> !(listed.setIfInBounds i true).getD k false)=((List.range n).filter fun k=> !listed.getD k false).filter (fun k=>k≠i):=by
    rw [List.filter_filter];refine List.filter_congr fun k hk=> ?_
    by_cases hki:k=i
    ·subst hki;simp [hsz hin]
    ·rw [getD_set_ne false (fun h=>hki h.symm)];simp [hki]
   rw [e]
   have hmem:i∈(List.range n).filter fun k=> !listed.getD k false:=by
    grind
   have hnd:((List.range n).filter fun k=> !listed.getD k false).Nodup:=List.nodup_range.filter _;have:=List.Nodup.erase_eq_filter hnd i
   grind
  have next: ∀v w',gK P F H l ms (Zx (ops.toList.map (·.dst)) vals (List.range n) (ZD ((ops.toList.map (·.dst)).take n) fr)) K (ops.toList.map (·.dst)) fr vals n ι0 w0 (listed.setIfInBounds i true) (a.put o.dst v) w'->wpAny P .any ops Q (u+(ops.size-n)) (listed.setIfInBounds i true) (a.put o.dst v) w':=fun v w' h =>
   ih _ _ w' (inv.set hi hin) hcount h
  have hiu2:listed.getD i false=false:=getD_both hiu;obtain ⟨rem,dn,L,hLH,hnd,hrm,hst,hdn,hlt,ι,mid,gd,slot⟩:=mid
  -- a slot that this operation does not write
  have hoth: ∀ {e:Nat} {v:Value},o.dst≠some e->((a.put o.dst v).tmps).getD e undef=a.tmps.getD e undef:=fun {e v} hne=>by
   cases hdst:o.dst with
   | none=>rfl
   | some d =>
    have hne2:d≠e:=fun h=>hne (by rw [hdst,h]);simp [Act.put,Array.getD_eq_getD_getElem?,Array.getElem?_setIfInBounds_ne hne2]
  have hapart: ∀ {j e:Nat},j<n->j≠i->(ops.toList.map (·.dst))[j]? =some (some e)->o.dst≠some e:=fun {j e} hj hji hd h=>by
   have:=List.all_eq_true.1 (List.all_eq_true.1 hap i (List.mem_range.2 hin)) j (List.mem_range.2 hj)
   grind
  have hdm: ∀m∈ms,(ops.toList.map (·.dst))[m]? =some (ZK l m).dst:=fun m hm=>by
   grind
  unfold wpOp;simp only [ho]
  by_cases him:i∈ms
  ·-- a late one
   obtain ⟨_,hom,hgm,hvm⟩:=hms i him;rw [hom] at ho;simp at ho;subst ho
   have hir:i∈rem:=by
    grind
   have hrl:i∈Ww l rem:=by
    rw [Ww,List.mem_filter]
    grind
   obtain ⟨k,hk⟩: ∃k,rem.length=k+1:=⟨rem.length-1,by grind⟩;rw [hk] at hlt;obtain ⟨y,L',hstep,hlt'⟩:=hlt i hrl
   let ls:=(List.range n).filter fun j=>listed.getD j false
   have hls: ∀j∈ls,j<n/\listed.getD j false=true:=fun j hj=>by grind
   have hfr:=frAt (dn:=dn) (L:=L) ls hls mid slot
   have hag:W6 (Wb (ZK l i).op) (Zx (ops.toList.map (·.dst)) vals ls (ZD ((ops.toList.map (·.dst)).take n) fr)) (Zx (ops.toList.map (·.dst)) vals (List.range n) (ZD ((ops.toList.map (·.dst)).take n) fr)) :=
    Jx hap hdl hvl (fun j hj=>(hls j hj).1) fun t ht j hj hd=>by
     have:=hdeps j (hrd i him t ht j hj hd);simpa [ls] using this
   have hl:=(Vk (QI l (by simp [Xk]) hag dn)).2 hstep
   have hw:Region.wanted (ZK l i) (yielded ops a.tmps)=true:=by simp [Region.wanted,hgm]
   rw [if_pos hw];refine .inl (VJ hl gd.rel hfr fun x H' ι' v w' hk g r=> ?_);obtain ⟨hx,rfl⟩:=hk;subst hx;have trans: ∀ {x:V} {v:Value},RV F L ι w x v->RV F H' ι' w' x v:=fun {x v} h=>g.rv h
   have Zx: ∀m∈ms,(listed.setIfInBounds i true).getD m false=decide (m ∉ rem.erase i):=fun m hm=>by
    by_cases e:m=i
    ·subst e;simp [hsz hin,hnd.not_mem_erase]
    ·rw [getD_set_ne false (fun h=>e h.symm),hst m hm]
     grind
   have hpi: ∀p∈dn,p.1≠i:=fun p hp e=>(hdn p hp).2 (e ▸ hir);refine next v w' ⟨rem.erase i,(i,x)::dn,H',fun Z7=>absurd (Z7 i him) hnd.not_mem_erase,hnd.erase i,fun m hm=>hrm m (List.mem_of_mem_erase hm),Zx,fun p hp=> ?_,?_,ι',⟨g.rel,?_,?_,fun t z ht' hnt=> ?_,fun j e z hj hlj hd hz hlt=> ?_⟩,gd.trans g,fun p hp d hd hlt=> ?_⟩
   ·rcases List.mem_cons.1 hp with rfl | hp
    ·grind
    grind
   ·have:(rem.erase i).length=k:=by grind
    rw [this];exact hlt'
   ·cases (ZK l i).dst<;>simp [Act.put,mid.size]
   ·cases (ZK l i).dst<;>exact mid.defers
   ·rw [hoth (fun e=>hnt (by
     rw [List.mem_iff_getElem?]
     exact ⟨i,by grind⟩))]
    exact trans (mid.old t z ht' hnt)
   ·by_cases hij:j=i
    ·subst hij;rw [hvm] at hz;simp at hz;subst hz;exact .junk _
    ·have hl':listed.getD j false=true:=by rwa [getD_set_ne false (fun h=>hij h.symm)] at hlj
     rw [hoth (hapart hj hij hd)];exact trans (mid.new j e z hj hl' hd hz hlt)
   ·rcases List.mem_cons.1 hp with rfl | hp
    ·simp only at hd;rw [hd]
     have:d<a.tmps.size:=by rw [mid.size];exact hlt
     have e2:((a.put (some d) v).tmps).getD d undef=v:=by simp [Act.put,Array.getD,this]
     grind
    ·have hpm:=(hdn p hp).1;rw [hoth (hapart (hms _ hpm).1 (hpi p hp) (by grind))];exact g.rv (slot p hp d hd hlt)
  ·-- another
   have hil:i<l.length:=by grind
   have hlo:ZK l i=o:=by
    have e:ops[i]? =some (ZK l i):=by
     rw [<- Array.getElem?_toList,hol,U1,List.getD_eq_getElem?_getD,List.getElem?_eq_getElem hil];rfl
    grind
   have hokL:By P (ops.toList.map (·.dst)) (ZD ((ops.toList.map (·.dst)).take n) fr) L vals i o:=by
    by_cases Z7: ∀m∈ms,m∈rem
    ·rw [hLH Z7];grind
    ·rcases hev i hin him with h | h
     ·exact Ci (by grind) (hok i o hin him ho)
     ·exfalso;refine Z7 fun m hm=>Classical.byContradiction fun hnr=> ?_;have h1:=hst m hm;rw [decide_eq_true hnr] at h1
      have hml:m<l.length:=by grind
      have:=Uq hol inv n i m hml (h m hm) fun j hj=>by
       simp [Zz] at hj;obtain ⟨e,⟨he,hb,_⟩,rfl⟩:=hj;exact inv.closed m _ (hms m hm).2.1 h1 e he hb
      grind
   obtain ⟨z,hz,hok'⟩:=hokL;have hfr:=mid.fr _ hdeps
   have next': ∀ι' v w',Good F L ι w L ι' w'->RV F L ι' w' z v->wpAny P .any ops Q (u+(ops.size-n)) (listed.setIfInBounds i true) (a.put o.dst v) w':=fun ι' v w' g r=>by
    refine next v w' ⟨rem,dn,L,hLH,hnd,hrm,fun m hm=> ?_,hdn,hlt,ι',mid.put hap g hin hds hz r,gd.trans g,fun p hp d hd hlt=> ?_⟩
    ·rw [getD_set_ne false (fun (e:i=m)=>him (e ▸ hm))];grind
    ·have hpm:=(hdn p hp).1;rw [hoth (hapart (hms _ hpm).1 (fun h=>him (h ▸ hpm)) (by grind))];exact g.rv (slot p hp d hd hlt)
   have run:Zs P o (Zx (ops.toList.map (·.dst)) vals (Zz i o) (ZD ((ops.toList.map (·.dst)).take n) fr)) L (fun x H'=>x=z/\H'=L)->o.wp P a w (wpAny P .any ops Q (u+(ops.size-n)) (listed.setIfInBounds i true)) Q:=fun h =>
    QQ h mid.rel hfr fun x H' ι' v w' hk g r=>by
     grind
   split at hok'
   ·rename_i hg
    have hw:Region.wanted o (yielded ops a.tmps)=true:=by simp [Region.wanted,hg]
    grind
   ·rename_i j b hg;rcases hok' with ⟨c,hc,h1,h2⟩ | ⟨hc,hyt⟩
    rotate_left
    ·have hyl:=Ye hfr hc
     have hw: ¬(Region.wanted o (yielded ops a.tmps)=true):=by grind [Region.wanted]
     rw [if_neg hw];exact next' ι undef w (Good.refl mid.rel) (by grind [Yp])
    have hyl:=Y9 hfr hc
    by_cases hcb:c=b
    ·have hw:Region.wanted o (yielded ops a.tmps)=true:=by grind [Region.wanted]
     grind
    ·have hw: ¬(Region.wanted o (yielded ops a.tmps)=true):=by grind [Region.wanted]
     rw [if_neg hw];exact next' ι undef w (Good.refl mid.rel) (by grind [Yp])
def evB (l:List Oper) (n:Nat) (ms:List Nat):Bool:=(List.range n).all fun i=>ms.contains i||UW (ZK l i).op||ms.all fun m=>Ky l n i m
theorem Dr (ms:List Nat) {P:Program} {id:Nat} {l:List Oper} {fr:List V} {H:List Obj} {Q:Exit->List V->List Obj->Prop} {t} (n:Nat) (hm:P.follows .mixedOrders=true) (hB:YF (List.toArray l) n=true) (hR:Uz (List.toArray (YN ms l)) n=true) (hL:A2 l n ms=true) (hE:evB l n ms=true) (hfl:fr.length<=1000000)
  (h:hs P (l.map (·.dst)) H (Zp (fun fr'=>JU P l ms.length ms (Fa fr') H (Zp (fun fr2 L=>Xm P (l.map (·.dst)) (l.drop n) fr2 L (Zp (Q .normal) ⟨⟩)) ⟨⟩)) ⟨⟩) ((YN ms l).take n) (Fa fr)) :
  AWP P (.region id (Zp (List.toArray l) t) true) fr H Q:=fun F ι a w hr hf=>by
 refine wp_region_any hm ?_;have hB':=hB;simp only [YF,Bool.and_eq_true,decide_eq_true_eq] at hB';obtain ⟨⟨⟨⟨hn,_⟩,_⟩,hap⟩,_⟩:=hB'
 have hn2:n<=l.length:=Za
 simp only [A2,Bool.and_eq_true,List.all_eq_true,decide_eq_true_eq] at hL;obtain ⟨hL1,hL3⟩:=hL;have hds:(YN ms l).map (·.dst)=l.map (·.dst):=J1 ms l;have hh:=E8 (P:=P) (H:=H) (ops:=List.toArray (YN ms l)) (n:=n) (fr:=fr) (K:=fun fr'=>JU P l ms.length ms fr' H (fun fr2 L=>Xm P (l.map (·.dst)) (l.drop n) fr2 L (Q .normal))) (by grind [J2]) (by grind) hR _ 0 [] (Nat.zero_le _) rfl (by simp;rfl) (by simp_all [Zx,Zp,Fa]);obtain ⟨ys,h1,⟨h2a,h2b⟩,h3⟩:=UV _ 0 [] rfl hh;simp only [List.nil_append,hds] at h2a h2b h3;have hlen:ys.length=n:=h2a
 have g0:=Good.drew hr;have hf0:=g0.fr hf;have hget: ∀k,k<n->((YN ms l).take n)[k]? =(YN ms l)[k]? :=fun k hk=>List.getElem?_take_of_lt hk;have hjl:(ZD ((l.map (·.dst)).take n) fr).length=fr.length:=Xv _ _
 have hlat: ∀m∈ms,m<n/\l[m]? =some (ZK l m)/\(ZK l m).guard=none:=fun m hm=>by
  obtain ⟨⟨h4,h5⟩,h6,_⟩:=hL1 m hm;exact ⟨h4,by grind [U1],by simpa using h6⟩
 have hvm: ∀m∈ms,ys[m]? =some .junk:=fun m hm=>by
  obtain ⟨q1,q2,q3⟩:=hlat m hm;obtain ⟨z,hy,hk⟩:=h3 m (Va (ZK l m)) (by grind [Jh]);rw [Nat.zero_add] at hy;have e1:(Va (ZK l m)).guard=none:=q3;rw [e1] at hk;simp only [Va,Zs,Zo,Xc,X6,FW,ZG] at hk
  have hk2:gt (Zx (l.map (·.dst)) ys (Zz (0+m) { ZK l m with op:= .move (.tmp 1000000) }) (ZD ((l.map (·.dst)).take n) fr)) 1000000=z:=by grind [ev]
  grind [DI,Xk]
 have hfin:Zx (l.map (·.dst)) ys (List.range n) (ZD ((l.map (·.dst)).take n) fr)=Zx (l.map (·.dst)) ys (List.range n) fr:=JP hap (by grind) hlen
 have:=Dd (Q:=fun e a' w'=> ∃fr' H' ι',Q e fr' H'/\Good F H ι w H' ι' w'/\Fr F H' ι' w' fr' a') (F:=F) (fr:=fr) (vals:=ys) (P:=P) (H:=H) (l:=l) (ms:=ms) (K:=fun fr2 L=>Xm P (l.map (·.dst)) (l.drop n) fr2 L (Q .normal)) (ops:=List.toArray l) (ι0:=ι) (w0:= { w with drawn:=w.drawn+1 }) rfl hB hlen
  (fun m hm=>⟨(hlat m hm).1,by grind,(hlat m hm).2.2,hvm m hm⟩)
  (fun m hm t ht j hj hd=>by
   obtain ⟨_,_,h5⟩:=hL1 m hm;have h6:=h5 t ht j (List.mem_range.2 hj);simp only at hd;rw [hd] at h6
   grind)
  (fun i hi him=>by
   have:=List.all_eq_true.1 hE i (List.mem_range.2 hi)
   grind)
  (fun i o hi him ho=>by
   have:=h3 i o (by
    grind [U2])
   grind)
  (fun fr2 L ι1 a1 w1 k1 g1 f1=>Z6 (P:=P) (ops:=List.toArray l) _ _ L _ k1 F ι1 a1 w1 g1.rel f1 fun fr' H' ι' a' w' k g f=>⟨fr',H',ι',k,g0.trans (g1.trans g),f⟩)
  n (Array.replicate l.length false) a { w with drawn:=w.drawn+1 }
  ⟨Zb,fun j oj _ hl=>(by grind [getD_replicate_false]),fun t _ ht=>getD_in (by grind) (getD_replicate_false _ _)⟩
  (by
   grind [List.filter_eq_self,getD_replicate_false])
  ⟨ms,[],H,fun _=>rfl,hL3,fun m hm=>hm,fun m hm=>by grind [getD_replicate_false],fun p hp=>(by cases hp),by
    grind [D2],ι,⟨g0.rel,hf0.1,hf0.2.1,fun t x ht _=>hf0.2.2 t x ht,fun j d x _ hl=>by grind [getD_replicate_false]⟩,Good.refl g0.rel,fun p hp=>(by cases hp)⟩
 grind [Zp]
theorem Nv {P l rem fr H K} (h:K fr H):JU P l 0 rem fr H K:=h
theorem Gw {P l n rem fr H K} (m:Nat) (y:V) (H':List Obj) (hr:Ww l rem= [m]) (h:Zo P (ZK l m) fr H (fun x H2=>x=y/\H2=H')) (k:JU P l n (rem.erase m) (W0 fr (ZK l m).dst y) H' K):JU P l (n+1) rem fr H K:=fun m' hm'=>by
 grind
end Go.AM
