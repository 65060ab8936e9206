/- Declarations that the closing texts need, part 19: joined by tools/slim.py. -/
import Derived.Test.YtmbelkfkhclnkaaGreatDoorYT18
import Derived.Shelf.Strings.OnBuilder
set_option linter.unusedVariables false
set_option linter.unusedSimpArgs false
namespace Go.Proofs.YtmbelkfkhclnkaaGreatDoor.K
open Go Go.AM Go.Proofs Go.Shelf Go.RowKit
set_option maxRecDepth 8000
set_option maxHeartbeats 8000000
theorem UU : Builder.Extra Tryz.prog layJoin_ren:= {
 sizeBuilder:=Zh,liesBuilder:=Zh,
 t5:=Tryz.underlying5,a5:=Tryz.isAgg5,z5:=Tryz.sizeOf5,v5:=Tryz.zeroValue5,
 infoByte:=Zh,cellsByte:=Zh,sizeByte:=Zh,neB5:=by decide }
theorem nY (xs:List (List UInt8)):(xs.map fun s=>(⟨s.toArray⟩:ByteArray)).map (fun x=>x.data.toList)=xs:=by
 rw [List.map_map];rw [show ((fun x:ByteArray=>x.data.toList)∘fun s:List UInt8=>(⟨s.toArray⟩:ByteArray))=id from funext fun s=>Zb,List.map_id]
theorem OQ (xs:List (List UInt8)) (c:Bool) (sep:List UInt8) (hx:xs.length<=1048576) (hl:(Z0 xs sep).length<=140737488355328) :
  PC 91 [.p (.list c (xs.map Y0)),.p (.str sep)] (.str (Z0 xs sep)):=by
 refine ⟨bE,fun F ι w vs hr hv=> ?_⟩;obtain ⟨h1,h2⟩:=hv;have e0:=h2 0 _ rfl;have e1:=QM (h2 1 _ rfl)
 have hvs:vs= #[vs.getD 0 undef,.string ⟨sep.toArray⟩]:=by
  apply Array.ext
  ·simpa using h1
  ·intro i h3 h4
   have:i=0\/i=1:=by simp at h4;omega
   rcases this with rfl | rfl
   ·simp [Array.getD,h3]
   ·have:vs.getD 1 undef=vs[1]:=by simp [Array.getD,h3]
    rw [<- this,e1];rfl
 have hι:ι= []:=List.eq_nil_of_length_eq_zero hr.len;subst hι;rw [hvs];generalize vs.getD 0 undef=v at e0;clear hvs h1 h2 e1 vs
 have fin: ∀ {w' e},e=Ending.returned (.string ⟨(Z0 xs sep).toArray⟩)/\Below w.heap.size w w'-> ∃x H' ι' v,e= .returned v/\(x=V.p (.str (Z0 xs sep))/\H'= [])/\Go.AM.Good F [] [] w H' ι' w'/\RV F H' ι' w' x v:=by
  rintro w' e ⟨rfl,hb⟩;exact ⟨_,_,[],_,rfl,⟨rfl,rfl⟩,Qm hr.env hr.fin hb,.p _ _ (.str _)⟩
 have none: ∀a cap,xs= []->Calls Tryz.prog 91 #[.slice a 0 cap,.string ⟨sep.toArray⟩] w fun e w'=> ∃x H' ι' v,e= .returned v/\(x=V.p (.str (Z0 xs sep))/\H'= [])/\Go.AM.Good F [] [] w H' ι' w'/\RV F H' ι' w' x v:=fun a cap he=>by
  refine (Any.strings_Join_none VI UU a cap ⟨sep.toArray⟩ w).mono ?_;rintro e w' ⟨he2,rfl⟩;refine fin ⟨?_,Below.refl _ _⟩;rw [he2,he];rfl
 cases e0 with | p _ _ h =>
 generalize hm:xs.map Y0=ys at h
 cases h with
 | nils=>exact none _ _ (by simpa using hm)
 | emp=>exact none _ _ (by simpa using hm)
 | list cl xs2 b off cap S u hX hb hc hm2 hcl hS hu hr2 =>
  subst hm;rw [List.length_map];have key:=Any.strings_Join VI UU b off cap (xs.map fun s=>⟨s.toArray⟩) ⟨sep.toArray⟩ w ?_ hb (by rw [List.length_map];omega) (by simpa using hc) ?_
  ·rw [List.length_map] at key;refine key.mono fun e w' h=>fin ?_;rw [nY] at h;simpa [Z0] using h
  ·intro j x hj;rw [List.getElem?_map,Option.map_eq_some_iff] at hj;obtain ⟨t,ht,rfl⟩:=hj
   have hj2:(xs.map Y0)[j]? =some (Y0 t):=by rw [List.getElem?_map,ht];rfl
   have hc0:(Y0 t).cells[0]? =some (.str t):=rfl
   have hS1:S=1:=by rw [<- hS j _ hj2];rfl
   have g1:=hu j _ 0 _ hj2 hc0;have g2:=(hr2 j _ 0 _ hj2 hc0).str_inv;rw [g2,hS1,Nat.mul_one,Nat.add_zero] at g1;exact g1
  ·rw [nY];simpa [Z0] using hl
set_option maxRecDepth 100000
theorem bO : Lays.n166 Tryz.prog layJoin_ren:= { VI with }
theorem OT : Lays.n169 Tryz.prog layJoin_ren:= { VI with }
theorem Cs {P:Program} {ρ:Ren} (L:Lays.n166 P ρ) (X:Builder.Extra P ρ) {n:Nat} {p v:Value} {b:Nat} {xs:List Value} {w:World} (s:List UInt8) (hs:s≠ []) (hbk:w.heap[b]? =some (.cells #[p,v] (ρ.t 72) (0,0))) (hp:p= .pointer none\/p= .pointer (some ⟨b,0,none⟩)) (hne:v.ownBlock≠some b)
  (hown:w.ownsRow 0 (ρ.t 5) 1 v n xs) (hb:n+s.length<=140737488355328) :
  Calls P (ρ.f 166) #[.pointer (some ⟨b,0,none⟩),.string ⟨s.toArray⟩] w fun e w'=>e= .returned (.tuple #[.int .i64 s.length,.nilIface]) /\
   ∃v' w1 w2,Turned w w1 b #[.pointer (some ⟨b,0,none⟩),v] (ρ.t 72)/\Grew w1 w2 v.ownBlock v'.ownBlock/\w2.ownsRow 0 (ρ.t 5) 1 v' (n+s.length) (xs++s.map fun x=> .int .u8 x.toNat)/\w'=w2.setCell ⟨b,1,none⟩ v':=by
 obtain ⟨i0,hi,hz0,hz1,hz2⟩:=info_parts X.infoByte;have mixed:=L.mixed;have t72:=L.t72;have a72:=L.a72;have z72:=L.z72;have v72:=L.v72;have u72:=run_underlying L.t72;have t70:=L.t70;have a70:=L.a70;have z70:=L.z70;have v70:=L.v70;have u70:=run_underlying L.t70;have t37:=L.t37;have a37:=L.a37;have z37:=L.z37;have v37:=L.v37;have u37:=run_underlying L.t37;have t3:=L.t3;have a3:=L.a3;have z3:=L.z3;have v3:=L.v3;have u3:=run_underlying L.t3;have t9:=L.t9;have a9:=L.a9;have z9:=L.z9;have v9:=L.v9;have u9:=run_underlying L.t9
 have t4:=L.t4;have a4:=L.a4;have z4:=L.z4;have v4:=L.v4;have u4:=run_underlying L.t4;have t164:=L.t164;have a164:=L.a164;have z164:=L.z164;have v164:=L.v164;have u164:=run_underlying L.t164
 have hcc:Calls P (ρ.f 240) #[.pointer (some ⟨b,0,none⟩)] w fun e w1=>e= .returned (.tuple #[])/\Turned w w1 b #[.pointer (some ⟨b,0,none⟩),v] (ρ.t 72):=by
  rcases hp with rfl | rfl
  ·refine (Any.Builder_copyCheck_fresh { L with } X.toX72 b w (by rw [Lib.cell_of_heap hbk];rfl) (by show w.shape? b=_;simp [World.shape?,hbk]) (Lib.frozen_of_heap hbk 0)).mono ?_;rintro e w' ⟨rfl,rfl⟩;exact ⟨rfl,rfl,⟨rfl,.inr trivial⟩,rfl,Nat.le_refl _,by simp [World.setCell],by simp [World.setCell,Array.getElem?_modify,hbk],fun k hk=>Below.heap_setCell _ _ _ _ (fun e=>hk (by simpa using e))⟩
  ·refine (Any.Builder_copyCheck_used { L with } X.toX72 b w (by rw [Lib.cell_of_heap hbk];rfl)).mono ?_;rintro e w' ⟨rfl,rfl⟩;exact ⟨rfl,rfl,⟨rfl,.inr trivial⟩,rfl,Nat.le_refl _,rfl,hbk,fun _ _=>rfl⟩
 have e240: ∀args w,(callFunc (ρ.f 240) args).run P w= .ok (.enter (ρ.f 240) args) w:=enters_of L.f240 Zh rfl
 go_enter L.f166,Body.n166_ntmps _
 go_wp2_with (go_at_fn (ρ.f 240);refine hcc.mono ?_)
 rintro e w1 ⟨rfl,hT⟩
 have c0:w1.cell? ⟨b,0,none⟩=some (.pointer (some ⟨b,0,none⟩)):=by rw [Lib.cell_of_heap hT.at'];rfl
 have c1:w1.cell? ⟨b,1,none⟩=some v:=by rw [Lib.cell_of_heap hT.at'];rfl
 have hown1:w1.ownsRow 0 (ρ.t 5) 1 v n xs:=by
  rcases hown with ⟨o1,o2 | ⟨g,cap,cur,o2,o3,o4,o5⟩⟩
  ·exact ⟨o1,.inl o2⟩
  ·exact ⟨o1,.inr ⟨g,cap,cur,o2,o3,by rw [hT.other g (fun e=>hne (by rw [o2,e];rfl))];exact o4,o5⟩⟩
 go_wp2_with (at_builtin;refine Bc rfl _ _ _ _ rfl (ρ.t 5) i0 L.t37 L.t9 hi hz0 hz1 hz2 v n xs rfl hown1 s hs rfl hb ?_)
 intro v' w2 hown' hG;have hlt:b<w1.heap.size:=(Array.getElem?_eq_some_iff.1 hT.at').1
 have hb2:w2.heap[b]? =some (.cells #[.pointer (some ⟨b,0,none⟩),v] (ρ.t 72) (0,0)):=by
  rw [hG.old b hlt (fun e=>hne e.symm)];exact hT.at'
 have d0:w2.cell? ⟨b,0,none⟩=some (.pointer (some ⟨b,0,none⟩)):=by rw [Lib.cell_of_heap hb2];rfl
 have d1:w2.cell? ⟨b,1,none⟩=some v:=by rw [Lib.cell_of_heap hb2];rfl
 have f1:w2.frozen? ⟨b,1,none⟩=false:=Lib.frozen_of_heap hb2 1
 obtain ⟨ao,n',cap,rfl⟩: ∃ao n' cap,v'= .slice ao n' cap:=by
  rcases hown'.2 with ⟨hv,_⟩ | ⟨g,cap,cur,hv,_⟩
  ·exact ⟨_,_,_,hv⟩
  ·exact ⟨_,_,_,hv⟩
 go_wp2
 go_ret2
 exact ⟨Zb,_,w1,w2,hT,hG,hown',rfl⟩
theorem Hr {H:List AM.Obj} {o r:Nat} {bs:List UInt8} (hH:H[o]? =some (.bld 77 5 r bs)) (s:List UInt8) (hs:s≠ []) (hl:bs.length+s.length<=140737488355328) :
  ACalls Tryz.prog 31 [.bp o,.p (.str s)] H fun x H'=>x= .tup [.p (.int .i64 s.length),.p .nili]/\H'=H.set o (.bld 77 5 r (bs++s)):=by
 refine ⟨aB,fun F ι w vs hr hv=> ?_⟩;obtain ⟨h1,h2⟩:=hv;have e0:=h2 0 _ rfl;have e1:=QM (h2 1 _ rfl);obtain ⟨hor,hrd,b,go,q1,q2,p,v,w1,w2,w3,w4⟩:=hr.bldr o _ _ r bs hH
 have e0':vs.getD 0 undef= .pointer (some ⟨b,0,none⟩):=by
  generalize vs.getD 0 undef=x at e0
  cases e0 with
  | bp _ b2 T2 E2 r2 bs2 h hH2=>rw [q1] at h;simp at h;rw [h]
  | bpD _ _ h=>rw [hH] at h;cases h
 have hvs:vs= #[.pointer (some ⟨b,0,none⟩),.string ⟨s.toArray⟩]:=by
  apply Array.ext
  ·simpa using h1
  ·intro i h3 h4
   have:i=0\/i=1:=by simp at h4;omega
   rcases this with rfl | rfl
   ·have:vs.getD 0 undef=vs[0]:=by simp [Array.getD,h3]
    rw [<- this,e0'];rfl
   ·have:vs.getD 1 undef=vs[1]:=by simp [Array.getD,h3]
    rw [<- this,e1];rfl
 subst w3
 have hne:v.ownBlock≠some b:=fun e=>by have:=hr.inj o r b q1 (by rw [q2,e]);omega
 rw [hvs];refine (Cs bO UU s hs w1 w2 hne w4 hl).mono ?_;rintro e w' ⟨rfl,v',wa,wb,hT,hG,ho,rfl⟩;refine ⟨_,_,_,_,rfl,⟨rfl,rfl⟩,Jr (bs':=bs++s) hr hH q1 q2 w1 hT hG (by rw [List.length_append,List.map_append];exact ho) hne,.tup _ _ rfl fun j c hj=> ?_⟩
 match j,hj with
 | 0,hj=>simp at hj;subst hj;exact .p _ _ (.int _ _)
 | 1,hj=>simp at hj;subst hj;exact .p _ _ .nili
 | j+2,hj=>simp at hj
theorem Bv {P:Program} {ρ:Ren} (L:Lays.n169 P ρ) (X:Builder.Extra P ρ) {p v:Value} {b:Nat} {l:List UInt8} {w:World} (h0:l≠ []) (hbk:w.heap[b]? =some (.cells #[p,v] (ρ.t 72) (0,0))) (hown:w.ownsRow 0 (ρ.t 5) 1 v l.length (l.map fun x=> .int .u8 x.toNat)) :
  Calls P (ρ.f 169) #[.pointer (some ⟨b,0,none⟩)] w fun e w'=>e= .returned (.string ⟨l.toArray⟩)/\ ∃g n,v.ownBlock=some g/\w'=w.drew.freeze ⟨g,0,none⟩ n:=by
 have hl0:l.length≠0:=by simpa using h0
 obtain ⟨g,cap,cur,rfl,hg,hnc,hcm,hcs,htake⟩: ∃g cap cur,v= .slice (some ⟨g,0,none⟩) l.length cap/\w.heap[g]? =some (.cells cur (ρ.t 5) (0,0))/\l.length<=cap/\cap<=maxLen/\cur.size=cap*1/\cur.toList.take (l.length*1)=l.map fun x=>Value.int .u8 x.toNat:=by
  rcases hown.2 with ⟨_,hz⟩ | ⟨g,cap,cur,hv,_,r⟩
  ·exact absurd hz hl0
  ·exact ⟨g,cap,cur,hv,r⟩
 have c1:w.drew.cell? ⟨b,1,none⟩=some (.slice (some ⟨g,0,none⟩) l.length cap):=by
  have:w.drew.heap[b]? =some (.cells #[p,.slice (some ⟨g,0,none⟩) l.length cap] (ρ.t 72) (0,0)):=hbk;rw [Lib.cell_of_heap this];rfl
 have hSD:(Builtin.unsafeSliceData_ #[(ρ.t 37)] (ρ.t 127) #[.slice (some ⟨g,0,none⟩) l.length cap]).run P w.drew= .ok (.pointer (some ⟨g,0,none⟩)) w.drew :=
  Lib.run_unsafeSliceData_row _ _ _ _ _ _ Za
 have hUS:(Builtin.unsafeString_ #[(ρ.t 127),(ρ.t 3)] (ρ.t 9) #[.pointer (some ⟨g,0,none⟩),.int .i64 l.length]).run P w.drew= .ok (.string ⟨l.toArray⟩) (w.drew.freeze ⟨g,0,none⟩ l.length):=by
  refine Lib.run_unsafeString_row w.drew (ρ.t 127) (ρ.t 3) (ρ.t 9) (ρ.t 5) L.t127 X.cellsByte g cur.size (by have hg':w.drew.heap[g]? =some (.cells cur (ρ.t 5) (0,0)):=hg;simp [World.shape?,hg']) l h0 Za (by unfold maxLen at hcm;omega) ?_;intro j x hx;have:=hown.cells (g:=g) rfl j (.int .u8 x.toNat) (by simp [hx]);exact this
 have mixed:=L.mixed;have t72:=L.t72;have a72:=L.a72;have z72:=L.z72;have v72:=L.v72;have u72:=run_underlying L.t72;have t70:=L.t70;have a70:=L.a70;have z70:=L.z70;have v70:=L.v70;have u70:=run_underlying L.t70;have t37:=L.t37;have a37:=L.a37;have z37:=L.z37;have v37:=L.v37;have u37:=run_underlying L.t37;have t127:=L.t127;have a127:=L.a127;have z127:=L.z127;have v127:=L.v127;have u127:=run_underlying L.t127;have t3:=L.t3;have a3:=L.a3;have z3:=L.z3;have v3:=L.v3;have u3:=run_underlying L.t3;have t9:=L.t9;have a9:=L.a9;have z9:=L.z9;have v9:=L.v9;have u9:=run_underlying L.t9
 have t5:=X.t5;have a5:=X.a5;have z5:=X.z5;have v5:=X.v5;have u5:=run_underlying X.t5
 go_enter L.f169,Body.n169_ntmps _
 go_wp2
 go_region_o
 all_goals (go_wp2;go_ret;exact ⟨rfl,g,_,rfl,rfl⟩)
theorem Fj {H:List AM.Obj} {o r:Nat} {bs:List UInt8} (hH:H[o]? =some (.bld 77 5 r bs)) (hs:bs≠ []) :
  ACalls Tryz.prog 33 [.bp o] H fun x H'=>x= .p (.str bs)/\H'=H.set o .dead:=by
 refine ⟨aC,fun F ι w vs hr hv=> ?_⟩;obtain ⟨h1,h2⟩:=hv;have e0:=h2 0 _ rfl;obtain ⟨hor,hrd,b,go,q1,q2,p,v,w1,w2,w3,w4⟩:=hr.bldr o _ _ r bs hH
 have e0':vs.getD 0 undef= .pointer (some ⟨b,0,none⟩):=by
  generalize vs.getD 0 undef=x at e0
  cases e0 with
  | bp _ b2 T2 E2 r2 bs2 h hH2=>rw [q1] at h;simp at h;rw [h]
  | bpD _ _ h=>rw [hH] at h;cases h
 have hvs:vs= #[.pointer (some ⟨b,0,none⟩)]:=by
  apply Array.ext
  ·simpa using h1
  ·intro i h3 h4
   have:i=0:=by simp at h4;omega
   subst this
   have:vs.getD 0 undef=vs[0]:=by simp [Array.getD,h3]
   rw [<- this,e0'];rfl
 rw [hvs];refine (Bv OT UU hs w1 w4).mono ?_;rintro e w' ⟨rfl,g,n,hg,rfl⟩;refine ⟨_,_,_,_,rfl,⟨rfl,rfl⟩,Ae hr hH q1 q2 ?_ ?_ ?_ ?_ ?_,.p _ _ (.str _)⟩
 ·unfold World.freeze;split<;>rfl
 ·refine ⟨?_,.inr trivial⟩;unfold World.freeze;split<;>rfl
 ·unfold World.freeze;split<;>rfl
 ·unfold World.freeze
  split
  ·exact Nat.le_refl _
  ·show w.heap.size<=(Array.modify w.heap _ _).size
   rw [Array.size_modify];exact Nat.le_refl _
 ·intro k hk hne;have:k≠g:=fun e=>hne (by rw [<- w3,hg,e]);unfold World.freeze
  split
  ·rfl
  ·simp only [Array.getElem?_modify];rw [if_neg (fun e=>this e.symm)]
   rfl
end Go.Proofs.YtmbelkfkhclnkaaGreatDoor.K
namespace Go.AM
open Go.RowKit
theorem Grew.afterAlloc {w w2:World} {ob:Go.Obj} {go go':Option Nat} (h:Grew (w.alloc ob) w2 go go'):Grew w w2 go go':=by
 have sz:(w.alloc ob).heap.size=w.heap.size+1:=by show (w.heap.push ob).size=_;simp
 have old: ∀k,k<w.heap.size->(w.alloc ob).heap[k]? =w.heap[k]? :=fun k hk=>by
  show (w.heap.push ob)[k]? =_
  rw [Array.getElem?_push,if_neg Za]
 refine ⟨h.os,h.tape.trans (Tp.of rfl (Nat.le_refl _)),h.output,by have:=h.size;omega,fun k hk hg=>by rw [h.old k Za hg,old k hk],fun g hg=> ?_,fun g c t hg hw=>h.shape g c t hg (by rw [old g (Array.getElem?_eq_some_iff.1 hw).1];exact hw)⟩;obtain ⟨h1,h2⟩:=h.new g hg;exact ⟨h1,h2.imp id fun h=>Za⟩
theorem Az {P:Program} {o:Oper} {a:Act} {w:World} {K:Act->World->Prop} {Q:Exit->Act->World->Prop} {t e:TypeId} {x:Operand} {n:Int} {i:TypeInfo} (ho:o.op= .buildSlice t 1 #[(0,x)]) (ht:P.underlying t=some (.slice e)) (hi:P.info? e=some i) (hz:i.zero=some (.int .u8 0)) (hs:i.size=1) (hx:a.eval x= .int .u8 n)
  (h:K (a.put o.dst (.slice (some ⟨w.heap.size,0,none⟩) 1 1)) (w.alloc (.cells #[.int .u8 n] e))):Oper.wp P o a w K Q:=by
 have h1:(sizeOf e).run P w= .ok 1 w:=ZI (by simp [Xq,hi,hs])
 have hr:(execOp a.eval o).run P w= .ok (.value (.slice (some ⟨w.heap.size,0,none⟩) 1 1)) (w.alloc (.cells #[.int .u8 n] e)):=by
  have e1:Array.range 1= #[0]:=by decide
  have hc: ∀m,(Value.int IntKind.u8 m).cells= #[Value.int IntKind.u8 m]:=fun _=>rfl;simp [execOp,ho,Instr.buildSlice,run_underlying ht,h1,zeroValue,typeInfo,hi,hz,newRow,Instr.fill,hx,e1,hc]
 unfold Oper.wp;rw [hr];exact h
theorem KA {P:Program} {w:World} {ops:Array Oper} {rest:List Oper} {o:Oper} {a:Act} {Q:Exit->Act->World->Prop} (hgd:o.guard=none) (sl x:Operand) (t:TypeId)
  (ho:o.op= .call { callee:= .builtin .append,args:= #[sl,x],argTypes:= #[t,t] }) (e:TypeId) (i:TypeInfo) (ht:P.underlying t=some (.slice e)) (hi:P.info? e=some i) (hz:i.zero=some (.int .u8 0)) (hs1:i.size=1) (hby:i.bytes=1)
  (v:Value) (n:Nat) (xs:List Value) (hs:a.eval sl=v) (hown:w.ownsRow 0 e 1 v n xs) (c:UInt8) (ad:Addr) (hx:a.eval x= .slice (some ad) 1 1) (hc:w.cell? ad=some (.int .u8 c.toNat)) (hb:n+1<=140737488355328)
  (h: ∀v' w',w'.ownsRow 0 e 1 v' (n+1) (xs++ [.int .u8 c.toNat])->Grew w w' v.ownBlock v'.ownBlock->wpList P ops Q rest (a.put o.dst v') w'):wpList P ops Q (o::rest) a w:=by
 refine wpList_plain hgd fun K hK=> ?_
 have hsrc:Src P (fun _=>False) w t (.slice (some ad) 1 1) 1 ([c].map fun b=>PV.int .u8 b.toNat) ([c].map fun b=>Value.int .u8 b.toNat):=by
  refine ⟨rfl,.inr ⟨e,ht⟩,fun w'=>by simp [Builtin.lenOf],fun w' hw=>YV (w:=w) Zb (fun j u hj=> ?_) w' hw,fun i y j d hi hj=> ?_⟩
  ·cases j with
   | zero=>simp at hj;subst hj;simpa [Addr.add] using hc
   | succ j=>simp at hj
  ·cases i with
   | zero =>
    simp at hi;subst hi
    cases j with
    | zero=>simp [PV.cells] at hj;subst hj;exact .int _ _
    | succ j=>simp [PV.cells] at hj
   | succ i=>simp at hi
 obtain ⟨v',w',hr,h2,h3⟩:=AO (P:=P) (ty:=o.type) ht hi hz hs1 hby hown [c] Zb hsrc hb;unfold Oper.wp execOp;simp only [ho,resolve,invoke,builtin,Sem.run_bind,Sem.run_pure,Result.andThen_ok,List.map_toArray,List.map_cons,List.map_nil,hs,hx,hr];exact hK _ _ (h v' w' h2 h3)
end Go.AM
namespace Go.Proofs.YtmbelkfkhclnkaaGreatDoor.K
open Go Go.AM Go.Proofs Go.Shelf Go.RowKit
set_option maxRecDepth 100000
set_option maxHeartbeats 8000000
def wbR : Ren:=⟨fun | 167=>90 | n=>layJoin_ren.f n,layJoin_ren.t,layJoin_ren.g⟩
theorem bN : Lays.n167 Tryz.prog wbR:= { VI with
 f167:=Tryz.func90.trans (congrArg some Zh),
 t5:=Tryz.underlying5,a5:=Tryz.isAgg5,z5:=Tryz.sizeOf5,v5:=Tryz.zeroValue5 }
theorem TP : Builder.Extra Tryz.prog wbR:= {
 sizeBuilder:=Zh,liesBuilder:=Zh,
 t5:=Tryz.underlying5,a5:=Tryz.isAgg5,z5:=Tryz.sizeOf5,v5:=Tryz.zeroValue5,
 infoByte:=Zh,cellsByte:=Zh,sizeByte:=Zh,neB5:=by decide }
theorem A6 {P:Program} {ρ:Ren} (L:Lays.n167 P ρ) (X:Builder.Extra P ρ) {n:Nat} {p v:Value} {b:Nat} {xs:List Value} {w:World} (c:UInt8) (hbk:w.heap[b]? =some (.cells #[p,v] (ρ.t 72) (0,0))) (hp:p= .pointer none\/p= .pointer (some ⟨b,0,none⟩)) (hne:v.ownBlock≠some b)
  (hown:w.ownsRow 0 (ρ.t 5) 1 v n xs) (hb:n+1<=140737488355328) :
  Calls P (ρ.f 167) #[.pointer (some ⟨b,0,none⟩),.int .u8 c.toNat] w fun e w'=>e= .returned .nilIface /\
   ∃v' w1 w2,Turned w w1 b #[.pointer (some ⟨b,0,none⟩),v] (ρ.t 72)/\Grew w1 w2 v.ownBlock v'.ownBlock/\w2.ownsRow 0 (ρ.t 5) 1 v' (n+1) (xs++ [.int .u8 c.toNat])/\w'=w2.setCell ⟨b,1,none⟩ v':=by
 obtain ⟨i0,hi,hz0,hz1,hz2⟩:=info_parts X.infoByte;have mixed:=L.mixed;have t72:=L.t72;have a72:=L.a72;have z72:=L.z72;have v72:=L.v72;have u72:=run_underlying L.t72;have t70:=L.t70;have a70:=L.a70;have z70:=L.z70;have v70:=L.v70;have u70:=run_underlying L.t70;have t5:=L.t5;have a5:=L.a5;have z5:=L.z5;have v5:=L.v5;have u5:=run_underlying L.t5;have t37:=L.t37;have a37:=L.a37;have z37:=L.z37;have v37:=L.v37;have u37:=run_underlying L.t37;have t9:=L.t9;have a9:=L.a9;have z9:=L.z9;have v9:=L.v9;have u9:=run_underlying L.t9
 have t4:=L.t4;have a4:=L.a4;have z4:=L.z4;have v4:=L.v4;have u4:=run_underlying L.t4;have t164:=L.t164;have a164:=L.a164;have z164:=L.z164;have v164:=L.v164;have u164:=run_underlying L.t164
 have hcc:Calls P (ρ.f 240) #[.pointer (some ⟨b,0,none⟩)] w fun e w1=>e= .returned (.tuple #[])/\Turned w w1 b #[.pointer (some ⟨b,0,none⟩),v] (ρ.t 72):=by
  rcases hp with rfl | rfl
  ·refine (Any.Builder_copyCheck_fresh { L with } X.toX72 b w (by rw [Lib.cell_of_heap hbk];rfl) (by show w.shape? b=_;simp [World.shape?,hbk]) (Lib.frozen_of_heap hbk 0)).mono ?_;rintro e w' ⟨rfl,rfl⟩;exact ⟨rfl,rfl,⟨rfl,.inr trivial⟩,rfl,Nat.le_refl _,by simp [World.setCell],by simp [World.setCell,Array.getElem?_modify,hbk],fun k hk=>Below.heap_setCell _ _ _ _ (fun e=>hk (by simpa using e))⟩
  ·refine (Any.Builder_copyCheck_used { L with } X.toX72 b w (by rw [Lib.cell_of_heap hbk];rfl)).mono ?_;rintro e w' ⟨rfl,rfl⟩;exact ⟨rfl,rfl,⟨rfl,.inr trivial⟩,rfl,Nat.le_refl _,rfl,hbk,fun _ _=>rfl⟩
 have e240: ∀args w,(callFunc (ρ.f 240) args).run P w= .ok (.enter (ρ.f 240) args) w:=enters_of L.f240 Zh rfl
 go_enter L.f167,Body.n167_ntmps _
 go_wp2_with (go_at_fn (ρ.f 240);refine hcc.mono ?_)
 rintro e w1 ⟨rfl,hT⟩
 have c0:w1.cell? ⟨b,0,none⟩=some (.pointer (some ⟨b,0,none⟩)):=by rw [Lib.cell_of_heap hT.at'];rfl
 have c1:w1.cell? ⟨b,1,none⟩=some v:=by rw [Lib.cell_of_heap hT.at'];rfl
 have hblt:b<w1.heap.size:=(Array.getElem?_eq_some_iff.1 hT.at').1
 have hown1:w1.ownsRow 0 (ρ.t 5) 1 v n xs:=by
  rcases hown with ⟨o1,o2 | ⟨g,cap,cur,o2,o3,o4,o5⟩⟩
  ·exact ⟨o1,.inl o2⟩
  ·exact ⟨o1,.inr ⟨g,cap,cur,o2,o3,by rw [hT.other g (fun e=>hne (by rw [o2,e];rfl))];exact o4,o5⟩⟩
 go_wp2
 refine Az (e:=ρ.t 5) rfl L.t37 hi hz0 hz1 rfl ?_
 go_wp2_with (at_builtin;refine KA rfl _ _ _ rfl (ρ.t 5) i0 L.t37 hi hz0 hz1 hz2 v n xs rfl (hown1.alloc _) c ⟨w1.heap.size,0,none⟩ rfl Zb hb ?_)
 intro v' w2 hown' hG;have hG:=hG.afterAlloc
 have hb2:w2.heap[b]? =some (.cells #[.pointer (some ⟨b,0,none⟩),v] (ρ.t 72) (0,0)):=by
  rw [hG.old b hblt (fun e=>hne e.symm)];exact hT.at'
 have d0:w2.cell? ⟨b,0,none⟩=some (.pointer (some ⟨b,0,none⟩)):=by rw [Lib.cell_of_heap hb2];rfl
 have d1:w2.cell? ⟨b,1,none⟩=some v:=by rw [Lib.cell_of_heap hb2];rfl
 have f1:w2.frozen? ⟨b,1,none⟩=false:=Lib.frozen_of_heap hb2 1
 obtain ⟨ao,n',cap,rfl⟩: ∃ao n' cap,v'= .slice ao n' cap:=by
  rcases hown'.2 with ⟨hv,_⟩ | ⟨g,cap,cur,hv,_⟩
  ·exact ⟨_,_,_,hv⟩
  ·exact ⟨_,_,_,hv⟩
 go_wp2
 go_ret
 exact ⟨rfl,_,w1,w2,hT,hG,hown',rfl⟩
theorem Du {H:List AM.Obj} {o r:Nat} {bs:List UInt8} (hH:H[o]? =some (.bld 77 5 r bs)) (c:UInt8) (hl:bs.length+1<=140737488355328) :
  ACalls Tryz.prog 90 [.bp o,.p (.int .u8 (c.toNat:Nat))] H fun x H'=>x= .p .nili/\H'=H.set o (.bld 77 5 r (bs++ [c])):=by
 refine ⟨bD,fun F ι w vs hr hv=> ?_⟩;obtain ⟨h1,h2⟩:=hv;have e0:=h2 0 _ rfl;have e1:=Ca (h2 1 _ rfl);obtain ⟨hor,hrd,b,go,q1,q2,p,v,w1,w2,w3,w4⟩:=hr.bldr o _ _ r bs hH
 have e0':vs.getD 0 undef= .pointer (some ⟨b,0,none⟩):=by
  generalize vs.getD 0 undef=x at e0
  cases e0 with
  | bp _ b2 T2 E2 r2 bs2 h hH2=>rw [q1] at h;simp at h;rw [h]
  | bpD _ _ h=>rw [hH] at h;cases h
 have hvs:vs= #[.pointer (some ⟨b,0,none⟩),.int .u8 c.toNat]:=by
  apply Array.ext
  ·simpa using h1
  ·intro i h3 h4
   have:i=0\/i=1:=by simp at h4;omega
   rcases this with rfl | rfl
   ·have:vs.getD 0 undef=vs[0]:=by simp [Array.getD,h3]
    rw [<- this,e0'];rfl
   ·have:vs.getD 1 undef=vs[1]:=by simp [Array.getD,h3]
    rw [<- this,e1];rfl
 subst w3
 have hne:v.ownBlock≠some b:=fun e=>by have:=hr.inj o r b q1 (by rw [q2,e]);omega
 rw [hvs];refine (A6 bN TP c w1 w2 hne w4 hl).mono ?_;rintro e w' ⟨rfl,v',wa,wb,hT,hG,ho,rfl⟩;exact ⟨_,_,_,_,rfl,⟨rfl,rfl⟩,Jr (bs':=bs++ [c]) hr hH q1 q2 w1 hT hG (by rw [List.length_append,List.map_append];exact ho) hne,.p _ _ .nili⟩
end Go.Proofs.YtmbelkfkhclnkaaGreatDoor.K
namespace Go.Proofs.YtmbelkfkhclnkaaGreatDoor.K
open Go Go.AM Go.Proofs
set_option maxRecDepth 8000
set_option maxHeartbeats 8000000
theorem Mf {g:FuncId} {args:List V} {a:PV} {H:List AM.Obj} {K:V->List AM.Obj->Prop} (h:ACalls Tryz.prog g args [] fun x H'=>x= .tup [.p a,.err]/\H'= []) (k:K (.tup [.p a,.err]) H) (ha:Zx 0 args=true:=by rfl):ACalls Tryz.prog g args H K :=
 (h.behind ha H).mono fun x H' hq=>by
  obtain ⟨y,H1,⟨rfl,rfl⟩,rfl,rfl⟩:=hq;simpa [Bf,Wv] using k
theorem VN (s:List UInt8) (hs:s.length<=1048576):PT 93 [.p (.str s)] [.p (.int .i64 (ZG s).1),.p (.int .i64 (ZG s).2)]:=by
 have htl:(Zl s).length<=1048576:=by
  unfold Zl
  split
  ·rw [List.length_drop];omega
  ·omega
 have hat:=fun h0 h h1=>Gv (s:=s) h0 h h1
 have hnum:ZG s=if Zl s= []\/((nth (Zl s) 0).toNat=48/\s≠ [48]) then (0,3) else if (Zl s).all Z4=false then (0,3) else ZG s:=by
  by_cases h1:Zl s= []\/((nth (Zl s) 0).toNat=48/\s≠ [48])
  ·rw [if_pos h1,ZG,if_pos h1]
  ·rw [if_neg h1]
   by_cases h2:(Zl s).all Z4=false
   ·rw [if_pos h2,ZG,if_neg h1,if_pos h2]
   ·rw [if_neg h2]
 generalize ZG s=N at *
 rw [hnum];clear hnum;refine Zd [11] Tryz.func93 rfl bF ?_;simp (disch:=omega) only [Tryz.f93,go_sem,seval];refine (Lv s Za).use ?_;simp (disch:=omega) only [go_sem,seval]
 generalize Zl s=d at *
 have hdl:d= []\/0<d.length:=by cases d<;>simp
 rcases hdl with he | hdl
 ·subst he;rw [if_pos (.inl rfl)];refine gF ?_ ?_<;>intro h1<;>simp (disch:=omega) only [Sh.out h1,go_sem,seval]
  ·exact we
  ·simp at h1
 ·have hne: ¬d= []:=List.length_pos_iff.1 hdl;have hb:=Vj (nth d 0);refine gF ?_ ?_<;>intro h1<;>simp (disch:=omega) only [Sh.out h1,go_sem,seval]
  ·exact absurd h1 hne
  ·refine gT ?_ ?_<;>intro h2<;>simp (disch:=omega) only [Sh.out h2,go_sem,seval]
   ·refine cD ?_ ?_<;>intro h3<;>simp (disch:=omega) only [Sh.out h3,go_sem,seval]
    ·rw [if_pos (.inr ⟨Za,h3⟩)];exact we
    ·rw [if_neg (by rintro (e | e);exact hne e;exact e.2 (by simpa using h3))];refine Zz [11] [0,4,22] (fun k:Nat=> [(23,.p (.int .i64 k))]) (fun _=> []) (fun k=>k<=d.length/\ ∀j,j<k->Z4 (nth d j)=true) (fun k=>d.length-k) 0 Zb (Weak.mk ?_) ?_
     ·simp (disch:=omega) only [go_sem,seval]
     ·rintro k ⟨hk,hno⟩;simp (disch:=omega) only [go_sem,seval];refine cD ?_ ?_<;>intro h7<;>simp (disch:=omega) only [Sh.out h7,go_sem,seval]
      ·have hk2:k<d.length:=Za
       have hbk:=Vj (nth d k);have cd:PC 129 [.p (.int .u8 ((nth d k).toNat:Nat))] (.bool (Z4 (nth d k))):=A1 _ Za;refine (cd).use ?_;simp (disch:=omega) only [go_sem,seval]
       cases hd:Z4 (nth d k) with
       | false =>
        have ZO:d.all Z4=false:=List.all_eq_false.2 ⟨_,Zq hk2,by rw [hd];simp⟩;rw [if_pos ZO];simp (disch:=omega) only [hd,Bool.not_false,go_sem,seval];exact we
       | true =>
        simp (disch:=omega) only [hd,Bool.not_true,Bool.false_eq_true,go_sem,seval];exact ⟨k+1,⟨Za,Zn.2 ⟨hno,hd⟩⟩,Za,wk⟩
      ·have ZO:d.all Z4=true:=by
        rw [List.all_eq_true];intro b hb;obtain ⟨j,hj,rfl⟩:=List.mem_iff_getElem.1 hb;rw [<- Zg hj];exact hno j Za
       rw [if_neg (by rw [ZO];simp)];rcases hat hne ZO (fun e=>e.2 (by simpa using h3)) with ⟨n,hn,hN⟩ | ⟨hn,hN⟩
       ·rw [hN];refine Yj (CH s n Za hn) ?_;simp (disch:=omega) only [go_sem,seval];refine ZW (ZW (Vz 1 rfl rfl ?_));refine ⟨_,Da rfl Zh rfl,?_⟩;rintro _ rfl;simp (disch:=omega) only [go_sem,seval];refine Ze [] _ _ _ _ ?_;simp (disch:=omega) only [go_sem,seval];refine Ze [] _ _ _ _ ?_;simp (disch:=omega) only [go_sem,seval];exact we
       ·rw [hN];refine Mf (CI s Za hn) ?_;simp (disch:=omega) only [go_sem,seval];refine ZW (ZW (Vz 1 rfl rfl ?_));refine ⟨_,C9 rfl Zh rfl,?_⟩;rintro _ rfl;simp (disch:=omega) only [go_sem,seval];refine Ze [] _ _ _ _ ?_;simp (disch:=omega) only [go_sem,seval];exact we
   ·rw [if_neg (by rintro (e | e);exact hne e;omega)];refine Zz [11] [0,4,22] (fun k:Nat=> [(23,.p (.int .i64 k))]) (fun _=> []) (fun k=>k<=d.length/\ ∀j,j<k->Z4 (nth d j)=true) (fun k=>d.length-k) 0 Zb (Weak.mk ?_) ?_
    ·simp (disch:=omega) only [go_sem,seval]
    ·rintro k ⟨hk,hno⟩;simp (disch:=omega) only [go_sem,seval];refine cD ?_ ?_<;>intro h7<;>simp (disch:=omega) only [Sh.out h7,go_sem,seval]
     ·have hk2:k<d.length:=Za
      have hbk:=Vj (nth d k);have cd:PC 129 [.p (.int .u8 ((nth d k).toNat:Nat))] (.bool (Z4 (nth d k))):=A1 _ Za;refine (cd).use ?_;simp (disch:=omega) only [go_sem,seval]
      cases hd:Z4 (nth d k) with
      | false =>
       have ZO:d.all Z4=false:=List.all_eq_false.2 ⟨_,Zq hk2,by rw [hd];simp⟩;rw [if_pos ZO];simp (disch:=omega) only [hd,Bool.not_false,go_sem,seval];exact we
      | true =>
       simp (disch:=omega) only [hd,Bool.not_true,Bool.false_eq_true,go_sem,seval];exact ⟨k+1,⟨Za,Zn.2 ⟨hno,hd⟩⟩,Za,wk⟩
     ·have ZO:d.all Z4=true:=by
       rw [List.all_eq_true];intro b hb;obtain ⟨j,hj,rfl⟩:=List.mem_iff_getElem.1 hb;rw [<- Zg hj];exact hno j Za
      rw [if_neg (by rw [ZO];simp)];rcases hat hne ZO (fun e=>Za) with ⟨n,hn,hN⟩ | ⟨hn,hN⟩
      ·rw [hN];refine Yj (CH s n Za hn) ?_;simp (disch:=omega) only [go_sem,seval];refine ZW (ZW (Vz 1 rfl rfl ?_));refine ⟨_,Da rfl Zh rfl,?_⟩;rintro _ rfl;simp (disch:=omega) only [go_sem,seval];refine Ze [] _ _ _ _ ?_;simp (disch:=omega) only [go_sem,seval];refine Ze [] _ _ _ _ ?_;simp (disch:=omega) only [go_sem,seval];exact we
      ·rw [hN];refine Mf (CI s Za hn) ?_;simp (disch:=omega) only [go_sem,seval];refine ZW (ZW (Vz 1 rfl rfl ?_));refine ⟨_,C9 rfl Zh rfl,?_⟩;rintro _ rfl;simp (disch:=omega) only [go_sem,seval];refine Ze [] _ _ _ _ ?_;simp (disch:=omega) only [go_sem,seval];exact we
def XI (s:List UInt8):Vis×Bool :=
 if s= []\/((nth s 0).toNat≠43/\(nth s 0).toNat≠45) then (⟨0,false⟩,false)
 else (⟨(ZG (s.drop 1)).1,decide (((nth s 0).toNat:Int)=45)⟩,decide ((ZG (s.drop 1)).2=0))
theorem AG (s:List UInt8) (hs:s.length<=1048576):PT 95 [.p (.str s)] [.p (ZR (XI s).1),.p (.bool (XI s).2)]:=by
 refine Zd [] Tryz.func95 rfl bH ?_;simp (disch:=omega) only [Tryz.f95,go_sem,seval];unfold XI
 have hsl:s= []\/0<s.length:=by cases s<;>simp
 rcases hsl with he | hsl
 ·subst he;rw [if_pos (.inl rfl)];refine gF ?_ ?_<;>intro h1<;>simp (disch:=omega) only [Sh.out h1,go_sem,seval]
  ·exact we
  ·simp at h1
 ·have hne: ¬s= []:=List.length_pos_iff.1 hsl;have hb:=Vj (nth s 0);have cn:=VN (s.drop 1) (by rw [List.length_drop];omega);refine gF ?_ ?_<;>intro h1<;>simp (disch:=omega) only [Sh.out h1,go_sem,seval]
  ·exact absurd h1 hne
  ·refine gT ?_ ?_<;>intro h2<;>simp (disch:=omega) only [Sh.out h2,go_sem,seval]
   ·refine cD ?_ ?_<;>intro h3<;>simp (disch:=omega) only [Sh.out h3,go_sem,seval]
    ·rw [if_pos (.inr ⟨Za,Za⟩)];exact we
    ·rw [if_neg (by rintro (e | e);exact hne e;omega),List.take_length];refine Yj cn ?_;simp (disch:=omega) only [go_sem,seval];exact we
   ·rw [if_neg (by rintro (e | e);exact hne e;omega),List.take_length];refine Yj cn ?_;simp (disch:=omega) only [go_sem,seval];exact we
def Bd (b:UInt8):Bool:=decide ((b.toNat:Int)=121)||decide ((b.toNat:Int)=110)
def yB (b:UInt8):Bool:=decide ((b.toNat:Int)=121)
def UO (s:List UInt8):Option (Bool×List Bool):=if s= [46] then some (true,[]) else if s.all Bd=true then (if s= [] then none else some (false,s.map yB)) else none
def Pd (s:List UInt8):V:=match UO s with
 | some (c,l)=> .tup [.p (.list c (l.map eB)),.p (.bool true)]
 | none=> .tup [.p (.list true []),.p (.bool false)]
theorem AE (s:List UInt8) (hs:s.length<=1048576) (hne:s≠ []):ACalls Tryz.prog 94 [.p (.str s)] [] fun y H'=>y=Pd s/\H'= []:=by
 refine Zd [11] Tryz.func94 rfl bG ?_;simp (disch:=omega) only [Tryz.f94,go_sem,seval];unfold Pd UO;refine cD ?_ ?_<;>intro h1<;>simp (disch:=omega) only [Sh.out h1,go_sem,seval]
 ·exact we (by simp (disch:=omega) only [List.map_nil,go_sem,seval])
 ·rw [if_neg h1];refine Zz [11] [0,9] (fun k:Nat=> [(4,.sl 0 0 k k),(10,.p (.int .i64 k))]) (fun k=> [.elems 1 (((s.take k).map yB).map eB)]) (fun k=>k<=s.length/\ ∀j,j<k->Bd (nth s j)=true) (fun k=>s.length-k) 0 Zb (Weak.ofNil 4 1 rfl Zb (Weak.mk ?_)) ?_
  ·simp (disch:=omega) only [List.take_zero,List.map_nil,go_sem,seval]
  ·rintro k ⟨hk,hno⟩;simp (disch:=omega) only [go_sem,seval];refine cD ?_ ?_<;>intro h2<;>simp (disch:=omega) only [Sh.out h2,go_sem,seval]
   ·have hk2:k<s.length:=Za
    have hb:=Vj (nth s k)
    have hl:(s.take k).length=k:=by simp;omega
    have hnx:((s.take (k+1)).map yB).map eB=((s.take k).map yB).map eB++ [.bool (decide (((nth s k).toNat:Int)=121))]:=by
     rw [List.take_succ_eq_append_getElem hk2,List.map_append,List.map_append,Zg hk2];rfl
    have bad:Bd (nth s k)=false-> ¬s.all Bd=true:=fun h e=>by
     rw [List.all_eq_true] at e;rw [e _ (Zq hk2)] at h;simp at h
    refine gT ?_ ?_<;>intro h3<;>simp (disch:=omega) only [Sh.out h3,go_sem,seval]
    ·refine cD ?_ ?_<;>intro h4<;>simp (disch:=omega) only [Sh.out h4,go_sem,seval]
     ·rw [if_neg (bad (by unfold Bd;rw [decide_eq_false h3,decide_eq_false h4];rfl))];exact we
     ·rw [if_pos ⟨hl,Za,Za⟩];simp (disch:=omega) only [go_sem,seval];exact ⟨k+1,⟨Za,Zn.2 ⟨hno,by unfold Bd;simp;omega⟩⟩,Za,Weak.mk (by simp (disch:=omega) only [hnx,hl,go_sem,seval])⟩
    ·rw [if_pos ⟨hl,Za,Za⟩];simp (disch:=omega) only [go_sem,seval];exact ⟨k+1,⟨Za,Zn.2 ⟨hno,by unfold Bd;simp;omega⟩⟩,Za,Weak.mk (by simp (disch:=omega) only [hnx,hl,go_sem,seval])⟩
   ·have hkl:k=s.length:=Za
    subst hkl
    have ZO:s.all Bd=true:=by
     rw [List.all_eq_true];intro b hb;obtain ⟨j,hj,rfl⟩:=List.mem_iff_getElem.1 hb;rw [<- Zg hj];exact hno j hj
    have hpos:=List.length_pos_iff.2 hne;rw [if_pos ZO,if_neg hne];rw [List.take_length];refine Zs (Weak.fz (o:=0) (by rfl)) ?_;refine Ze [] _ _ _ _ ?_;simp (disch:=omega) only [List.map_cons,List.map_nil,List.set_cons_succ,List.set_cons_zero,go_sem,seval];rw [show decide (0<(s.length:Int))=true from decide_eq_true Za];exact we
@[go_sem] theorem P4 (l:List (List UInt8)):U4 1 (l.map Y0)=true:=Vw (f:=Y0) (S:=1) (fun _=>rfl) l
def unsW : List UInt8:= [117,110,115,101,114,118,101,100]
def Ei (s:List UInt8):Bool:=decide ((ZG s).2=0)
def YD (l:List (List UInt8)):Option (List Int):=if l= []\/nth l 0≠unsW then none else if (l.drop 1).all Ei=true then some ((l.drop 1).map fun s=>(ZG s).1) else none
def Jy (l:List (List UInt8)):V:=match YD l with
 | some m=> .tup [.p (.list false (m.map eI)),.p (.bool true)]
 | none=> .tup [.p (.list true []),.p (.bool false)]
theorem B4 (l:List (List UInt8)) (c:Bool) (hl:l.length<=1048576) (hw: ∀s∈l,s.length<=1048576):ACalls Tryz.prog 46 [.p (.list c (l.map Y0))] [] fun y H'=>y=Jy l/\H'= []:=by
 refine Zd [12] Tryz.func46 rfl aK ?_;simp (disch:=omega) only [Tryz.f46,go_sem,seval];unfold Jy YD
 have hll:l= []\/0<l.length:=by cases l<;>simp
 rcases hll with he | hll
 ·subst he;rw [if_pos (.inl rfl)];refine gF ?_ ?_<;>intro h1<;>simp (disch:=omega) only [Sh.out h1,go_sem,seval]
  ·exact we
  ·exact absurd Zb h1
 ·have hne: ¬l= []:=List.length_pos_iff.1 hll;refine gF ?_ ?_<;>intro h1<;>simp (disch:=omega) only [Sh.out h1,go_sem,seval]
  ·omega
  ·refine cD ?_ ?_<;>intro h2<;>simp (disch:=omega) only [Sh.out h2,go_sem,seval]
   ·rw [if_pos (.inr h2)];exact we
   ·rw [if_neg (by rintro (e | e);exact hne e;exact h2 e)];have hdl:(l.drop 1).length=l.length-1:=List.length_drop;have hwd: ∀s∈l.drop 1,s.length<=1048576:=fun s h=>hw s (List.mem_of_mem_drop h);rw [List.take_length]
    generalize l.drop 1=r at *
    refine Zz [12] [19,20] (fun k:Nat=> [(4,.sl 0 0 k k),(21,.p (.int .i64 k))]) (fun k=> [.elems 1 (((r.take k).map fun s=>(ZG s).1).map eI)]) (fun k=>k<=r.length/\ ∀j,j<k->Ei (nth r j)=true) (fun k=>r.length-k) 0 Zb (Weak.ofNil 4 1 rfl Zb (Weak.mk ?_)) ?_
    ·simp (disch:=omega) only [List.take_zero,List.map_nil,go_sem,seval]
    ·rintro k ⟨hk,hno⟩;simp (disch:=omega) only [go_sem,seval];refine cD ?_ ?_<;>intro h3<;>simp (disch:=omega) only [Sh.out h3,go_sem,seval]
     ·have hk2:k<r.length:=Za
      have h18:=hwd _ (Zq hk2)
      have hkl:(r.take k).length=k:=by simp;omega
      have hnx:((r.take (k+1)).map fun s=>(ZG s).1).map eI=((r.take k).map fun s=>(ZG s).1).map eI++ [.int .i64 (ZG (nth r k)).1]:=by
       rw [List.take_succ_eq_append_getElem hk2,List.map_append,List.map_append,Zg hk2];rfl
      refine Yj (VN (nth r k) h18) ?_;simp (disch:=omega) only [go_sem,seval];refine cD ?_ ?_<;>intro h4<;>simp (disch:=omega) only [Sh.out h4,go_sem,seval]
      ·have hb: ¬r.all Ei=true:=fun e=>by
        rw [List.all_eq_true] at e;have:=e _ (Zq hk2);simp only [Ei,decide_eq_true_eq] at this;exact h4 this
       rw [if_neg hb];exact we
      ·rw [if_pos ⟨hkl,Za,Za⟩];simp (disch:=omega) only [go_sem,seval];exact ⟨k+1,⟨Za,Zn.2 ⟨hno,by simp only [Ei,decide_eq_true_eq];omega⟩⟩,Za,Weak.mk (by simp (disch:=omega) only [hnx,hkl,go_sem,seval])⟩
     ·have hkl:k=r.length:=Za
      subst hkl
      have ZO:r.all Ei=true:=by
       rw [List.all_eq_true];intro b hb;obtain ⟨j,hj,rfl⟩:=List.mem_iff_getElem.1 hb;rw [<- Zg hj];exact hno j hj
      rw [if_pos ZO,List.take_length];refine Zs (Weak.fz (o:=0) (by rfl)) ?_;refine Ze [] _ _ _ _ ?_;simp (disch:=omega) only [List.map_cons,List.map_nil,List.set_cons_succ,List.set_cons_zero,go_sem,seval];exact we
def rteW : List UInt8:= [114,111,117,116,101]
def Ya : Rte:=⟨0,0,true,[],true,[]⟩
def BR (s:List UInt8):Bool:=(XI s).2
def Xx (l:List (List UInt8)):Bool:=decide ((ZG (nth l 1)).2=0)&&decide ((ZG (nth l 2)).2=0)
def VT (l:List (List UInt8)):Option Rte :=
 if l.length<4\/nth l 0≠rteW then none
 else match UO (nth l 3) with
  | none=>none
  | some (c,rs)=>if Xx l=true then (if (l.drop 4).all BR=true then some ⟨(ZG (nth l 1)).1,(ZG (nth l 2)).1,c,rs,false,(l.drop 4).map fun s=>(XI s).1⟩ else none) else none
def Ez (l:List (List UInt8)):V:=match VT l with
 | some r=> .tup [.p (X1 r),.p (.bool true)]
 | none=> .tup [.p (X1 Ya),.p (.bool false)]
theorem AF (l:List (List UInt8)) (c:Bool) (hl:l.length<=1048576) (hw: ∀s∈l,s.length<=1048576/\s≠ []):ACalls Tryz.prog 47 [.p (.list c (l.map Y0))] [] fun y H'=>y=Ez l/\H'= []:=by
 refine Zd [19] Tryz.func47 rfl aL ?_;simp (disch:=omega) only [Tryz.f47,go_sem,seval];unfold Ez VT;refine gF ?_ ?_<;>intro h1<;>simp (disch:=omega) only [Sh.out h1,go_sem,seval]
 ·rw [if_pos (.inl Za)];exact we (by simp (disch:=omega) only [Ya,List.map_nil,go_sem,seval])
 ·have h4:4<=l.length:=Za
  have n1:=hw _ (Zq (show 1<l.length by omega));have n2:=hw _ (Zq (show 2<l.length by omega));have n3:=hw _ (Zq (show 3<l.length by omega));have w5:rteW= [114,111,117,116,101]:=rfl;refine cD ?_ ?_<;>intro h2<;>simp (disch:=omega) only [Sh.out h2,go_sem,seval]
  ·rw [if_pos (.inr h2)];exact we (by simp (disch:=omega) only [Ya,List.map_nil,go_sem,seval])
  ·rw [if_neg (by rintro (e | e);omega;exact h2 e)];refine Yj (VN (nth l 1) n1.1) ?_;simp (disch:=omega) only [go_sem,seval];refine Yj (VN (nth l 2) n2.1) ?_;simp (disch:=omega) only [go_sem,seval];have cr:=AE (nth l 3) Za n3.2;unfold Pd at cr
   cases hr:UO (nth l 3) with
   | none =>
    rw [hr] at cr;refine Yj cr ?_;simp (disch:=omega) only [go_sem,seval];exact we (by simp (disch:=omega) only [Ya,List.map_nil,go_sem,seval])
   | some q =>
    obtain ⟨cc,rs⟩:=q;rw [hr] at cr;refine Yj cr ?_;simp (disch:=omega) only [go_sem,seval];refine gF ?_ ?_<;>intro h5<;>simp (disch:=omega) only [Sh.out h5,go_sem,seval]
    ·have hb: ¬Xx l=true:=by unfold Xx;rw [decide_eq_false h5];simp
     rw [if_neg hb];exact we (by simp (disch:=omega) only [Ya,List.map_nil,go_sem,seval])
    ·refine cD ?_ ?_<;>intro h6<;>simp (disch:=omega) only [Sh.out h6,go_sem,seval]
     ·have hb: ¬Xx l=true:=by unfold Xx;rw [decide_eq_false h6];simp
      rw [if_neg hb];exact we (by simp (disch:=omega) only [Ya,List.map_nil,go_sem,seval])
     ·have hb:Xx l=true:=by unfold Xx;simp;omega
      rw [if_pos hb];have hdl:(l.drop 4).length=l.length-4:=List.length_drop;have hwd: ∀s∈l.drop 4,s.length<=1048576:=fun s h=>(hw s (List.mem_of_mem_drop h)).1;rw [List.take_length]
      generalize l.drop 4=r at *
      generalize (ZG (nth l 1)).1=x1 at *
      generalize (ZG (nth l 2)).1=x2 at *
      refine Zz [19] [2,4,58,59] (fun k:Nat=> [(60,.p (.int .i64 k))]) (fun k=> [ZE Ya,.cells [.p (.int .i64 x1),.p (.int .i64 x2),.p (.list cc (rs.map eB)),.sl 2 0 k k],.elems 2 (((r.take k).map fun s=>(XI s).1).map ZR)]) (fun k=>k<=r.length/\ ∀j,j<k->BR (nth r j)=true) (fun k=>r.length-k) 0 Zb ((Weak.nilC (o:=1) (j:=3) 2 rfl rfl Zb).trans (Weak.mk ?_)) ?_
      ·simp (disch:=omega) only [ZE,Ya,List.map_nil,List.take_zero,List.set_cons_succ,List.set_cons_zero,List.cons_append,List.nil_append,go_sem,seval]
      ·rintro k ⟨hk,hno⟩;simp (disch:=omega) only [ZE,Ya,List.map_nil,go_sem,seval];refine cD ?_ ?_<;>intro h7<;>simp (disch:=omega) only [Sh.out h7,go_sem,seval]
       ·have hk2:k<r.length:=Za
        have h18:=hwd _ (Zq hk2)
        have hkl:(r.take k).length=k:=by simp;omega
        have hnx:((r.take (k+1)).map fun s=>(XI s).1).map ZR=((r.take k).map fun s=>(XI s).1).map ZR++ [ZR (XI (nth r k)).1]:=by
         rw [List.take_succ_eq_append_getElem hk2,List.map_append,List.map_append,Zg hk2];rfl
        refine Yj (AG (nth r k) Za) ?_;simp (disch:=omega) only [go_sem,seval]
        cases hv:(XI (nth r k)).2 with
        | false =>
         have hb: ¬r.all BR=true:=fun e=>by
          rw [List.all_eq_true] at e;have:=e _ (Zq hk2);simp only [BR,hv] at this
          cases this
         rw [if_neg hb];simp (disch:=omega) only [hv,Bool.not_false,go_sem,seval];exact we (by simp (disch:=omega) only [Ya,List.map_nil,go_sem,seval])
        | true =>
         simp (disch:=omega) only [hv,Bool.not_true,Bool.false_eq_true,go_sem,seval];rw [if_pos ⟨hkl,Za,Za⟩];simp (disch:=omega) only [hkl,go_sem,seval];exact ⟨k+1,⟨Za,Zn.2 ⟨hno,hv⟩⟩,Za,Weak.mk (by simp (disch:=omega) only [ZE,Ya,List.map_nil,hnx,hkl,go_sem,seval])⟩
       ·have hkl:k=r.length:=Za
        subst hkl
        have ZO:r.all BR=true:=by
         rw [List.all_eq_true];intro b hb;obtain ⟨j,hj,rfl⟩:=List.mem_iff_getElem.1 hb;rw [<- Zg hj];exact hno j hj
        rw [if_pos ZO,List.take_length];refine Zs (Weak.fz (o:=2) (by rfl)) ?_;refine Ze [] _ _ _ _ ?_;simp (disch:=omega) only [List.map_cons,List.map_nil,List.set_cons_succ,List.set_cons_zero,go_sem,seval];exact we
theorem Dx {s:List UInt8} (h0:s≠ []) (h: ∀b∈s,Wq b=true):ZT s=true:=by
 rw [ZT,decide_eq_true h0,Bool.true_and,List.all_eq_true];exact h
theorem Hn {s:List UInt8} (h:ZT s=true): ∀b∈s,Wq b=true:=by
 simp only [ZT,Bool.and_eq_true,List.all_eq_true] at h;exact h.2
theorem G1 {s:List UInt8} {q:Bool×List Bool} (h:UO s=some q):ZT s=true:=by
 unfold UO at h
 split at h
 ·rename_i e;subst e;decide
 ·split at h
  ·rename_i ha
   split at h
   ·cases h
   ·rename_i h0;refine Dx h0 fun b hb=> ?_;rw [List.all_eq_true] at ha;have:=ha b hb
    simp only [Bd,Wq,Bool.or_eq_true,Bool.and_eq_true,decide_eq_true_eq] at *
    omega
  ·cases h
theorem Hl {s:List UInt8} (h:(XI s).2=true):ZT s=true:=by
 unfold XI at h
 split at h
 ·cases h
 ·rename_i h1;simp only [decide_eq_true_eq] at h
  cases s with
  | nil=>exact absurd (.inl rfl) h1
  | cons b l =>
   refine Dx Zb fun c hc=> ?_;rcases List.mem_cons.1 hc with rfl | hc
   ·have h2:(c.toNat=43\/c.toNat=45):=by
     by_cases e:c.toNat=43
     ·exact .inl e
     ·by_cases e2:c.toNat=45
      ·exact .inr e2
      ·exact absurd (.inr ⟨e,e2⟩) h1
    simp only [Wq,Bool.and_eq_true,decide_eq_true_eq];omega
   ·exact Hn (VM h) c hc
theorem YY {α:Type} [Inhabited α] {l:List α} {w:α} (h:w∈l):w=nth l 0\/w∈l.drop 1:=by
 cases l with
 | nil=>cases h
 | cons b r=>exact List.mem_cons.1 h
theorem BN {ws:List (List UInt8)} {us:List Int} (h:YD ws=some us): ∀w∈ws,ZT w=true:=fun w hw=>by
 unfold YD at h
 split at h
 ·cases h
 ·rename_i h1
  split at h
  ·rename_i ha;rcases YY hw with rfl | hw
   ·have:nth ws 0=unsW:=Classical.byContradiction fun e=>h1 (.inr e);rw [this];decide
   ·rw [List.all_eq_true] at ha;have:=ha w hw;simp only [Ei,decide_eq_true_eq] at this;exact VM this
  ·cases h
theorem Ys {α:Type} [Inhabited α] (l:List α) (i j:Nat):nth (l.drop i) j=nth l (i+j):=by
 simp [nth]
theorem EA {ws:List (List UInt8)} {r:Rte} (h:VT ws=some r): ∀w∈ws,ZT w=true:=fun w hw=>by
 unfold VT at h
 split at h
 ·cases h
 ·rename_i h1
  split at h
  ·cases h
  ·rename_i c rs hr
   split at h
   ·rename_i hh
    split at h
    ·rename_i ha;simp only [Xx,Bool.and_eq_true,decide_eq_true_eq] at hh;rcases YY hw with rfl | hw
     ·have:nth ws 0=rteW:=Classical.byContradiction fun e=>h1 (.inr e);rw [this];decide
     ·rcases YY hw with rfl | hw
      ·rw [Ys];exact VM hh.1
      ·rw [List.drop_drop] at hw;rcases YY hw with rfl | hw
       ·rw [Ys];exact VM hh.2
       ·rw [List.drop_drop] at hw;rcases YY hw with rfl | hw
        ·rw [Ys];exact G1 hr
        ·rw [List.drop_drop] at hw;rw [List.all_eq_true] at ha;exact Hl (ha w hw)
    ·cases h
   ·cases h
theorem LC {o:Option (List (List UInt8))} (h:Wds [] o):o=some []:=by
 generalize e:([]:List UInt8)=s at h
 cases h with
 | nil=>rfl
 | bad _ h=>exact absurd e.symm h
 | whole _ h=>exact absurd e.symm h
 | bad2 _ n _ _ h2=>subst e;simp at h2
 | cons _ n _ _ _ h2=>subst e;simp at h2
theorem Hm {α:Type} {s:List UInt8} {o:Option (List (List UInt8))} (h:Wds s o) {f:List (List UInt8)->Option α} (hf: ∀ {ws r},f ws=some r-> ∀w∈ws,ZT w=true) (h0:f []=none):o.bind f=f (Xc s):=by
 cases hs:f (Xc s) with
 | some r=>rw [dX h (hf hs)];exact hs
 | none =>
  cases o with
  | none=>rfl
  | some ws =>
   show f ws=none
   cases hw:f ws with
   | none=>rfl
   | some r =>
    exfalso
    by_cases e:s= []
    ·subst e;rw [Option.some.inj (LC h),h0] at hw;cases hw
    ·rw [dW h ws rfl e (hf hw),hw] at hs;cases hs
def YB : Pln:=⟨true,[],true,[]⟩
def X3 : Nat->Int->List Rte->List UInt8->Pln×Int×Int
 | 0,n,_,_=>(YB,n,3)
 | f+1,n,rs,s=>if (Xm s 10).2.2=false then (YB,n,3) else match YD (Xc (Xm s 10).1) with
  | some us=>if (Xm s 10).2.1≠ [] then (YB,n,3) else (⟨false,rs,false,us⟩,0,0)
  | none=>match VT (Xc (Xm s 10).1) with
   | none=>(YB,n,3)
   | some r=>X3 f (n+1) (rs++ [r]) (Xm s 10).2.1
def UM (q:Pln×Int×Int):V:= .tup [.p (Qg q.1),.p (.int .i64 q.2.1),.p (.int .i64 q.2.2)]
theorem Fw {s:List UInt8} (h: ¬(Xm s 10).2.2=false):(Xm s 10).2.1.length<s.length/\(Xm s 10).1.length<=s.length:=by
 have hb:=WJ 10 s
 unfold Xm at *
 split at h
 ·rename_i hh;rw [if_pos hh];simp only [List.length_drop,List.length_take];omega
 ·exact absurd rfl h
theorem Ic (s:List UInt8):(Xm s 10).1.length<=s.length:=by
 unfold Xm
 split
 ·simp only [List.length_take];omega
 ·exact Nat.le_refl _
theorem Jo (l:List UInt8) (b:UInt8) (a:Nat):ZF a (l++ [b])=ZF a l*10+(b.toNat-48):=by simp [ZF]
theorem K4 {l:List UInt8} (h:l.all Z4=true) (h0:l≠ []) (h1:(nth l 0).toNat≠48):0<ZF 0 l:=by
 cases l with
 | nil=>exact absurd rfl h0
 | cons b r =>
  have hd:=h;simp only [List.all_cons,Bool.and_eq_true,Z4,decide_eq_true_eq] at hd;have h1:b.toNat≠48:=h1;have:=UT r (0*10+(b.toNat-48));have e:ZF 0 (b::r)=ZF (0*10+(b.toNat-48)) r:=rfl;omega
theorem Qe : ∀(n:Nat) (l:List UInt8),l.length=n+1->l.all Z4=true->(nth l 0).toNat≠48->QS (ZF 0 l)=l
 | n,l,hl,h,h1=>by
  obtain ⟨r,b,rfl⟩: ∃r b,l=r++ [b]:=⟨l.dropLast,l.getLast (by intro e;rw [e] at hl;simp at hl),(List.dropLast_concat_getLast _).symm⟩;rw [List.all_append,Bool.and_eq_true] at h
  have hb:Z4 b=true:=by simpa using h.2
  simp only [Z4,Bool.and_eq_true,decide_eq_true_eq] at hb
  have hu:UInt8.ofNat (48+(b.toNat-48))=b:=by
   apply UInt8.toNat_inj.1;rw [Pv Za];omega
  rw [Jo]
  cases n with
  | zero =>
   have:r= []:=by simpa using hl
   subst this;rw [show ZF 0 []*10+(b.toNat-48)=b.toNat-48 by simp [ZF],QS,dif_pos Za,hu];rfl
  | succ n =>
   have hr:r.length=n+1:=by simpa using hl
   have hn:nth (r++ [b]) 0=nth r 0:=by
    cases r with
    | nil=>simp at hr
    | cons=>rfl
   rw [hn] at h1;have hp:=K4 h.1 (by intro e;rw [e] at hr;simp at hr) h1;have ih:=Qe n r hr h.1 h1;rw [QS,dif_neg Za,show (ZF 0 r*10+(b.toNat-48)) / 10=ZF 0 r by omega,show (ZF 0 r*10+(b.toNat-48))%10=b.toNat-48 by omega,ih,hu]
theorem VL {s:List UInt8} (h:(ZG s).2=0):Uc (ZG s).1=s/\eR (ZG s).1:=by
 unfold ZG at h ⊢
 split at h
 ·exact absurd h (by decide)
 ·rename_i h1;rw [if_neg h1];have h0:Zl s≠ []:=fun e=>h1 (.inl e)
  split at h
  ·exact absurd h (by decide)
  ·rename_i h2;rw [if_neg h2]
   have h2:(Zl s).all Z4=true:=by simpa using h2
   split at h
   ·rename_i h3;rw [if_pos h3]
    split at h
    ·rename_i h4;rw [if_pos h4]
     have hs:s=45::Zl s:=by
      unfold Zl;rw [if_pos h3]
      cases s with
      | nil=>simp at h3
      | cons b l=>simp at h3;subst h3;rfl
     have h48:(nth (Zl s) 0).toNat≠48:=fun e=>h1 (.inr ⟨e,fun e2=>by rw [e2] at h3;exact absurd h3 (by decide)⟩);have hp:=K4 h2 h0 h48;have hb:=Qe ((Zl s).length-1) _ (by have:=List.length_pos_iff.2 h0;omega) h2 h48;refine ⟨?_,⟨by simp only;omega,by simp only;omega⟩⟩;simp only;rw [Uc,if_pos Za,show (-(ZF 0 (Zl s):Int)).natAbs=ZF 0 (Zl s) by omega,hb];exact hs.symm
    ·exact absurd h (by decide)
   ·rename_i h3;rw [if_neg h3]
    split at h
    ·rename_i h4;rw [if_pos h4]
     have hs:Zl s=s:=by rw [Zl,if_neg h3]
     rw [hs] at h0 h1 h2 h4 ⊢;refine ⟨?_,⟨by simp only;omega,by simp only;omega⟩⟩;simp only;rw [Uc,if_neg Za,show ((ZF 0 s:Nat):Int).natAbs=ZF 0 s by omega]
     by_cases h5:s= [48]
     ·subst h5;exact Fz
     ·exact Qe (s.length-1) _ (by have:=List.length_pos_iff.2 h0;omega) h2 fun e=>h1 (.inr ⟨e,h5⟩)
    ·exact absurd h (by decide)
theorem Ds {s:List UInt8} (h:(XI s).2=true):Uy (XI s).1=s/\okD (XI s).1.order:=by
 unfold XI at h ⊢
 split at h
 ·cases h
 ·rename_i h1;rw [if_neg h1];simp only [decide_eq_true_eq] at h
  cases s with
  | nil=>exact absurd (.inl rfl) h1
  | cons b l =>
   obtain ⟨hn,hi⟩:=VL h;refine ⟨?_,hi⟩
   show (if decide ((b.toNat:Int)=45)=true then [45] else [43])++Uc (ZG l).1=b::l
   have hn:Uc (ZG l).1=l:=hn;rw [hn]
   by_cases e:b.toNat=45
   ·have:b=45:=UInt8.toNat_inj.1 e;subst this;rfl
   ·have e2:b.toNat=43:=Classical.byContradiction fun e2=>h1 (.inr ⟨e2,e⟩);have:b=43:=UInt8.toNat_inj.1 e2;subst this;rfl
theorem Lh {s:List UInt8} {c:Bool} {l:List Bool} (h:UO s=some (c,l)):QH l=s:=by
 unfold UO at h
 split at h
 ·rename_i e
  cases h
  rw [e];rfl
 ·split at h
  ·rename_i ha
   split at h
   ·cases h
   ·rename_i h0
    cases h
    rw [QH,if_neg (by simpa using h0),List.map_map]
    have: ∀b∈s,((fun b:Bool=>if b=true then (121:UInt8) else 110)∘yB) b=id b:=fun b hb=>by
     rw [List.all_eq_true] at ha;have:=ha b hb;simp only [Bd,Bool.or_eq_true,decide_eq_true_eq] at this
     show (if yB b=true then (121:UInt8) else 110)=b
     unfold yB
     by_cases e:b.toNat=121
     ·have:b=121:=UInt8.toNat_inj.1 e;subst this;rfl
     ·have:b=110:=UInt8.toNat_inj.1 (by show b.toNat=110;omega);subst this;rfl
    rw [List.map_congr_left this,List.map_id]
  ·cases h
def Mg (r:Rte):Prop:=okD r.typ/\okD r.start/\ ∀v∈r.visits,okD v.order
theorem Lj {ws:List (List UInt8)} {r:Rte} (h:VT ws=some r):YG r++r.visits.map Uy=ws/\Mg r:=by
 unfold VT at h
 split at h
 ·cases h
 ·rename_i h1
  split at h
  ·cases h
  ·rename_i c rs hr
   split at h
   ·rename_i hh
    split at h
    ·rename_i ha
     cases h
     simp only [Xx,Bool.and_eq_true,decide_eq_true_eq] at hh;have hw:nth ws 0=rteW:=Classical.byContradiction fun e=>h1 (.inr e);have hl: ¬ws.length<4:=fun e=>h1 (.inl e)
     match ws,hl with
     | [],hl=>exact absurd (by decide) hl
     | [_],hl=>exact absurd Zb hl
     | [_,_],hl=>exact absurd Zb hl
     | [_,_,_],hl=>exact absurd Zb hl
     | a::b::d::e::t,_ =>
      have hw:a=rteW:=hw;have n1:=VL (show (ZG b).2=0 from hh.1);have n2:=VL (show (ZG d).2=0 from hh.2);have n3:=Lh (show UO e=some (c,rs) from hr);have ha: ∀w∈t,(XI w).2=true:=fun w hw=>(List.all_eq_true.1 ha) w hw;refine ⟨?_,n1.2,n2.2,fun v hv=> ?_⟩
      ·show [[114,111,117,116,101],Uc (ZG b).1,Uc (ZG d).1,QH rs]++(t.map fun s=>(XI s).1).map Uy=a::b::d::e::t
       rw [n1.1,n2.1,n3,hw,List.map_map];have: ∀w∈t,(Uy∘fun s=>(XI s).1) w=id w:=fun w hw=>(Ds (ha w hw)).1;rw [List.map_congr_left this,List.map_id];rfl
      ·obtain ⟨w,hw,rfl⟩:=List.mem_map.1 (show v∈t.map fun s=>(XI s).1 from hv);exact (Ds (ha w hw)).2
    ·cases h
   ·cases h
theorem Gi {ws:List (List UInt8)} {us:List Int} (h:YD ws=some us): [UK]++us.map VB=ws/\ ∀u∈us,okD u:=by
 unfold YD at h
 split at h
 ·cases h
 ·rename_i h1
  split at h
  ·rename_i ha
   cases h
   have hw:nth ws 0=unsW:=Classical.byContradiction fun e=>h1 (.inr e)
   cases ws with
   | nil=>exact absurd (.inl rfl) h1
   | cons a t =>
    have hw:a=unsW:=hw
    have ha: ∀w∈t,(ZG w).2=0:=fun w hw=>by
     have:=(List.all_eq_true.1 ha) w hw;simpa only [Ei,decide_eq_true_eq] using this
    refine ⟨?_,fun u hu=> ?_⟩
    ·show UK::(t.map fun s=>(ZG s).1).map VB=a::t
     rw [hw,List.map_map];have: ∀w∈t,(VB∘fun s=>(ZG s).1) w=id w:=fun w hw=>(VL (ha w hw)).1;rw [List.map_congr_left this,List.map_id];rfl
    ·obtain ⟨w,hw,rfl⟩:=List.mem_map.1 (show u∈t.map fun s=>(ZG s).1 from hu);exact (VL (ha w hw)).2
  ·cases h
theorem Ui (x y:List UInt8) (r:List (List UInt8)):Z0 (x::y::r) [32]=x++32::Z0 (y::r) [32]:=by
 rw [Wc,Wc];simp [Lib.joinTail]
theorem Ju (x:List UInt8):Z0 [x] [32]=x:=by rw [Wc];simp [Lib.joinTail]
theorem He (s:List UInt8):Xc s≠ []:=by
 rw [X9]
 split<;>simp
theorem Qp : ∀(n:Nat) (s:List UInt8),s.length<=n->Z0 (Xc s) [32]=s
 | n,s,hn=>by
  rw [X9]
  split
  ·exact Ju s
  ·rename_i h;have hle:=Ug s;have hsp:=BL s Za
   cases n with
   | zero=>omega
   | succ n =>
    have ih:=Qp n (s.drop (Wb s+1)) (by rw [List.length_drop];omega)
    cases hc:Xc (s.drop (Wb s+1)) with
    | nil=>exact absurd hc (He _)
    | cons y r =>
     rw [hc] at ih;rw [Ui,ih]
     have h1:s.drop (Wb s)=nth s (Wb s)::s.drop (Wb s+1):=by
      rw [List.drop_eq_getElem_cons Za,Zg Za]
     rw [<- hsp,<- h1,List.take_append_drop]
theorem VG (b:UInt8) (l:List UInt8) (c:UInt8):Lib.indexByte (b::l) c=if b=c then 0 else if Lib.indexByte l c= -1 then-1 else Lib.indexByte l c+1:=by
 rw [Lib.indexByte];simp
theorem Gd (c:UInt8): ∀s:List UInt8,0<=Lib.indexByte s c->nth s (Lib.indexByte s c).toNat=c
 | [],h=>by simp [Lib.indexByte] at h
 | b::l,h=>by
  have hb:=WJ c l;rw [VG] at h ⊢
  by_cases e:b=c
  ·rw [if_pos e];exact e
  ·rw [if_neg e] at h ⊢
   by_cases e2:Lib.indexByte l c= -1
   ·rw [if_pos e2] at h;omega
   ·rw [if_neg e2];have ih:=Gd c l Za;rw [show (Lib.indexByte l c+1).toNat=(Lib.indexByte l c).toNat+1 by omega];exact ih
theorem Gf (c:UInt8): ∀(a r:List UInt8),c ∉ a->Lib.indexByte (a++c::r) c=a.length
 | [],r,_=>by rw [List.nil_append,VG,if_pos rfl];rfl
 | b::l,r,h=>by
  have ih:=Gf c l r fun e=>h (by simp [e]);rw [List.cons_append,VG,if_neg (fun e=>h (by simp [e])),ih,if_neg Za];simp
theorem Ge (c:UInt8): ∀(a:List UInt8),c ∉ a->Lib.indexByte a c= -1
 | [],_=>rfl
 | b::l,h=>by rw [VG,if_neg (fun e=>h (by simp [e])),Ge c l fun e=>h (by simp [e]),if_pos rfl]
theorem If {a r:List UInt8} {c:UInt8} (h:c ∉ a):Xm (a++c::r) c=(a,r,true):=by
 have e:=Gf c a r h;rw [Xm,e,if_pos Za];simp only [Int.toNat_natCast,List.take_left];rw [show a.length+1=(a++ [c]).length by simp,show a++c::r=(a++ [c])++r by simp,List.drop_left]
theorem Ie {a:List UInt8} {c:UInt8} (h:c ∉ a):Xm a c=(a,[],false):=by
 rw [Xm,Ge c a h,if_neg Za]
theorem Ib {s:List UInt8} {c:UInt8} (h:(Xm s c).2.2=true):s=(Xm s c).1++c::(Xm s c).2.1:=by
 have hb:=WJ c s
 unfold Xm at *
 split at h
 ·rename_i h1;rw [if_pos h1];have ha:=Gd c s h1
  have h2:s.drop (Lib.indexByte s c).toNat=nth s (Lib.indexByte s c).toNat::s.drop ((Lib.indexByte s c).toNat+1):=by
   rw [List.drop_eq_getElem_cons Za,Zg Za]
  simp only;rw [ha] at h2;rw [<- h2,List.take_append_drop]
 ·cases h
theorem Dg : ∀(f:Nat) (n:Int) (rs:List Rte) (s:List UInt8) (p:Pln) (m:Int),X3 f n rs s=(p,m,0) ->
  Dj p=(rs.map XD).flatten++s/\((∀r∈rs,Mg r)-> ∀r∈p.routes,Mg r)/\ ∀u∈p.unserved,okD u
 | 0,n,rs,s,p,m,h=>by
  have:=congrArg (fun q=>q.2.2) h;exact absurd this (by simp [X3])
 | f+1,n,rs,s,p,m,h=>by
  rw [X3] at h
  split at h
  ·exact absurd (congrArg (fun q=>q.2.2) h) Zb
  ·rename_i h1;have hs:=Ib (s:=s) (c:=10) (by simpa using h1)
   split at h
   ·rename_i us hu
    split at h
    ·exact absurd (congrArg (fun q=>q.2.2) h) Zb
    ·rename_i h2
     have h2:(Xm s 10).2.1= []:=by simpa using h2
     have e:(⟨false,rs,false,us⟩:Pln)=p:=congrArg (fun q=>q.1) h;subst e;obtain ⟨l1,l2⟩:=Gi hu;refine ⟨?_,fun hr=>hr,l2⟩
     show (rs.map XD).flatten++(Z0 ([UK]++us.map VB) [32]++ [10])=_
     rw [l1,Qp _ _ (Nat.le_refl _)];rw [h2] at hs;rw [<- hs]
   ·rename_i hu
    split at h
    ·exact absurd (congrArg (fun q=>q.2.2) h) Zb
    ·rename_i r hr;obtain ⟨r1,r2⟩:=Lj hr;obtain ⟨i1,i2,i3⟩:=Dg f _ _ _ _ _ h;refine ⟨?_,fun hq=>i2 fun q hq2=> ?_,i3⟩
     ·have hl:XD r=(Xm s 10).1++ [10]:=by rw [XD,r1,Qp _ _ (Nat.le_refl _)]
      rw [i1,List.map_append,List.flatten_append];simp only [List.map_cons,List.map_nil,List.flatten_cons,List.flatten_nil,List.append_nil,hl,List.append_assoc];rw [List.singleton_append,<- hs]
     ·rcases List.mem_append.1 hq2 with hq2 | hq2
      ·exact hq q hq2
      ·simp only [List.mem_cons,List.not_mem_nil,or_false] at hq2;subst hq2;exact r2
theorem CU {α:Type} : ∀ {L:List (List α)} {x:List α},x∈L->x.length<=L.flatten.length
 | y::L,x,h=>by
  rw [List.flatten_cons,List.length_append];rcases List.mem_cons.1 h with rfl | h
  ·omega
  ·have:=CU h;omega
theorem Ab {α:Type} : ∀ {L:List (List α)},(∀x∈L,x≠ [])->L.length<=L.flatten.length
 | [],_=>Zb
 | y::L,h=>by
  have h1:=List.length_pos_iff.2 (h y Zb);have:=Ab (L:=L) fun x hx=>h x (by simp [hx]);rw [List.flatten_cons,List.length_append,List.length_cons];omega
theorem Aj : ∀ {ws:List (List UInt8)} {w:List UInt8},w∈ws->w.length<=(Z0 ws [32]).length
 | [x],w,h=>by
  rw [Ju];simp only [List.mem_cons,List.not_mem_nil,or_false] at h;subst h;omega
 | x::y::r,w,h=>by
  rw [Ui,List.length_append,List.length_cons];rcases List.mem_cons.1 h with rfl | h
  ·omega
  ·have:=Aj h;omega
theorem Uh : ∀(ws:List (List UInt8)),ws.length<=(Z0 ws [32]).length+1
 | []=>Zb
 | [x]=>Zb
 | x::y::r=>by
  have:=Uh (y::r);rw [Ui]
  simp only [List.length_append,List.length_cons] at *
  omega
theorem IG (r:Rte):r.visits.length<=(XD r).length/\r.rests.length<=(XD r).length:=by
 have h1:=Uh (YG r++r.visits.map Uy);have h2:=Aj (ws:=YG r++r.visits.map Uy) (w:=QH r.rests) (by simp [YG])
 have h3:r.rests.length<=(QH r.rests).length:=by
  unfold QH
  split
  ·rename_i e;simp [e]
  ·simp
 simp only [List.length_append,List.length_map,YG,List.length_cons,List.length_nil] at h1 h2;rw [XD,List.length_append];simp only [List.length_cons,List.length_nil,YG];omega
theorem cJ (p:Pln):p.routes.length<=(Dj p).length/\p.unserved.length<=(Dj p).length/\ ∀r∈p.routes,r.visits.length<=(Dj p).length/\r.rests.length<=(Dj p).length:=by
 have h1:=Ab (L:=p.routes.map XD) fun x hx=>by
  obtain ⟨r,_,rfl⟩:=List.mem_map.1 hx;simp [XD]
 have h2:=Uh ([UK]++p.unserved.map VB);simp only [List.length_append,List.length_map,List.length_cons,List.length_nil] at h1 h2;refine ⟨by rw [Dj,List.length_append];omega,by rw [Dj,Nf,List.length_append,List.length_append];simp only [List.length_cons,List.length_nil];omega,fun r hr=> ?_⟩;have h3:=CU (List.mem_map_of_mem (f:=XD) hr);have h4:=IG r;rw [Dj,List.length_append];omega
theorem O3 {f:Nat} {n:Int} {s:List UInt8} {p:Pln} {m:Int} (h:X3 f n [] s=(p,m,0)) (hs:s.length<=4096):Dj p=s/\PrOk p:=by
 obtain ⟨h1,h2,h3⟩:=Dg f n [] s p m h
 have h1:Dj p=s:=by simpa using h1
 obtain ⟨g1,g2,g3⟩:=cJ p;rw [h1] at g1 g2 g3
 have h2:=h2 fun r hr=>by cases hr
 exact ⟨h1,Za,Za,fun r hr=>⟨by have:=g3 r hr;omega,(h2 r hr).1,(h2 r hr).2.1,by have:=g3 r hr;show _<=_;omega,(h2 r hr).2.2⟩,h3⟩
theorem GN : ∀(f:Nat) (n:Int) (rs:List Rte) (s:List UInt8),(X3 f n rs s).2.2=0\/((X3 f n rs s).1=YB/\(X3 f n rs s).2.2=3)
 | 0,n,rs,s=> .inr ⟨rfl,rfl⟩
 | f+1,n,rs,s=>by
  rw [X3]
  split
  ·exact .inr ⟨rfl,rfl⟩
  ·split
   ·split
    ·exact .inr ⟨rfl,rfl⟩
    ·exact .inl rfl
   ·split
    ·exact .inr ⟨rfl,rfl⟩
    ·exact GN f _ _ _
theorem CO {s:List UInt8} {m i:Nat} (h1:m<=i) (h2:i<s.length):s.drop m=(s.take i).drop m++nth s i::s.drop (i+1):=by
 have h3:s.drop i=nth s i::s.drop (i+1):=by rw [List.drop_eq_getElem_cons h2,Zg h2]
 rw [<- h3,<- List.drop_append_of_le_length (by rw [List.length_take];omega),List.take_append_drop]
theorem Kn {s:List UInt8} {m i:Nat} {c:UInt8} (h2:i<=s.length) (hno: ∀j,m<=j->j<i->nth s j≠c):c ∉ (s.take i).drop m:=fun h=>by
 obtain ⟨j,hj,e⟩:=List.mem_iff_getElem.1 h;rw [List.length_drop,List.length_take] at hj;rw [List.getElem_drop,List.getElem_take] at e;have:=hno (m+j) Za Za;rw [Zg Za] at this;exact this e
theorem Pi {s:List UInt8} {m i:Nat} (h1:m<=i) (h2:i<s.length) (hno: ∀j,m<=j->j<i->nth s j≠32) (h:nth s i=32):Xc (s.drop m)=(s.take i).drop m::Xc (s.drop (i+1)):=by
 have hn:=Kn (c:=32) (Nat.le_of_lt h2) hno;rw [CO h1 h2,h,X9,Gg _ _ hn,if_neg Zb];rw [List.take_left,show ((s.take i).drop m).length+1=((s.take i).drop m++ [32]).length by simp,show (s.take i).drop m++32::s.drop (i+1)=((s.take i).drop m++ [32])++s.drop (i+1) by simp,List.drop_left]
theorem Ln {s:List UInt8} {m:Nat} (hno: ∀j,m<=j->j<s.length->nth s j≠32):Xc (s.drop m)= [s.drop m]:=by
 have hn:=Kn (c:=32) (Nat.le_refl _) hno;rw [List.take_length] at hn;rw [X9,Kj _ hn,if_pos rfl]
theorem Na {s:List UInt8} {m i:Nat} (h1:m<=i) (h2:i<s.length) (hno: ∀j,m<=j->j<i->nth s j≠10) (h:nth s i=10):Xm (s.drop m) 10=((s.take i).drop m,s.drop (i+1),true):=by
 rw [CO h1 h2,h];exact If (Kn (Nat.le_of_lt h2) hno)
theorem Ig {s:List UInt8} {m:Nat} (hno: ∀j,m<=j->j<s.length->nth s j≠10):Xm (s.drop m) 10=(s.drop m,[],false):=by
 have hn:=Kn (c:=10) (Nat.le_refl _) hno;rw [List.take_length] at hn;exact Ie hn
theorem XY : ∀(n:Nat) (s:List UInt8),s.length<=n->(Xc s).length<=s.length+1/\ ∀w∈Xc s,w.length<=s.length
 | n,s,hn=>by
  rw [X9]
  split
  ·refine ⟨Zb,fun w hw=> ?_⟩;simp only [List.mem_cons,List.not_mem_nil,or_false] at hw;subst hw;omega
  ·rename_i h;have hle:=Ug s
   cases n with
   | zero=>omega
   | succ n =>
    have ih:=XY n (s.drop (Wb s+1)) (by rw [List.length_drop];omega);rw [List.length_drop] at ih;refine ⟨by rw [List.length_cons];omega,fun w hw=> ?_⟩;rcases List.mem_cons.1 hw with rfl | hw
    ·rw [List.length_take];omega
    ·have:=ih.2 w hw;omega
theorem Bx (l:List UInt8) (k:Nat):ZF 0 l=ZF (ZF 0 (l.take k)) (l.drop k):=by
 conv=>lhs;rw [<- List.take_append_drop k l]
 simp only [ZF,List.foldl_append]
theorem DY (l:List UInt8) (k:Nat):ZF 0 (l.take k)<=ZF 0 l:=by
 rw [Bx l k];exact UT _ _
theorem DX {l:List UInt8} {k:Nat} (h:k<l.length):ZF 0 (l.take (k+1))=ZF 0 (l.take k)*10+((nth l k).toNat-48):=by
 rw [List.take_succ_eq_append_getElem h,Jo,Zg h]
theorem Gw {s:List UInt8} (h0:Zl s≠ []) (h1: ¬((nth (Zl s) 0).toNat=48/\s≠ [48])) (h:(Zl s).all Z4=true) :
  ZG s=if s.take 1= [45] then (if ZF 0 (Zl s)<=9223372036854775808 then (-(ZF 0 (Zl s):Int),0) else (0,4)) else if ZF 0 (Zl s)<9223372036854775808 then ((ZF 0 (Zl s):Int),0) else (0,4):=by
 unfold ZG;rw [if_neg (by rintro (e | e);exact h0 e;exact h1 e),if_neg (by simp [h])]
theorem IU {s:List UInt8} {k:Nat} (h0:Zl s≠ []) (h1: ¬((nth (Zl s) 0).toNat=48/\s≠ [48])) (h:(Zl s).all Z4=true) (hb:9223372036854775808<ZF 0 ((Zl s).take k)):ZG s=(0,4):=by
 have:=DY (Zl s) k;rw [Gw h0 h1 h]
 split
 ·rw [if_neg Za]
 ·rw [if_neg Za]
theorem dA (s:List UInt8):s.take 1= [45]↔0<s.length/\(nth s 0).toNat=45:=by
 cases s with
 | nil=>simp
 | cons b l =>
  rw [List.take_succ_cons,List.take_zero,List.cons.injEq]
  constructor
  ·rintro ⟨rfl,_⟩;exact ⟨Zb,rfl⟩
  ·rintro ⟨_,h⟩;exact ⟨UInt8.toNat_inj.1 h,rfl⟩
theorem II {a:Nat} {d:Int} (h0:0<=d) (h9:d<=9): -(a:Int)<Int.tdiv (-9223372036854775808+d) 10↔9223372036854775808<(a:Int)*10+d:=by
 rw [show (-9223372036854775808+d:Int)= -(9223372036854775808-d) by omega,Int.neg_tdiv,Int.tdiv_eq_ediv_of_nonneg Za];omega
theorem IJ {d:Int} (h0:0<=d) (h9:d<=9): -9223372036854775808<=Int.tdiv (-9223372036854775808+d) 10/\Int.tdiv (-9223372036854775808+d) 10<=0:=by
 rw [show (-9223372036854775808+d:Int)= -(9223372036854775808-d) by omega,Int.neg_tdiv,Int.tdiv_eq_ediv_of_nonneg Za];omega
theorem Nc (c:UInt8):W2 c=Z4 c:=by
 have:=Vj c;rw [Bool.eq_iff_iff];simp [W2,Z4];omega
theorem Ii (c:UInt8):PC 120 [.p (.int .u8 (c.toNat:Nat))] (.bool (Z4 c)):=by
 rw [<- Nc];exact Il c
theorem Wd (s:List UInt8) (hs:s.length<=1048576):PT 81 [.p (.str s)] [.p (.int .i64 (ZG s).1),.p (.int .i64 (ZG s).2)]:=by
 have ht1:=dA s;refine Zd [2] Tryz.func81 rfl aV ?_;simp (disch:=omega) only [Tryz.f81,go_sem,seval];refine X0 [0] (fun m:Nat=> [(4,.p (.int .i64 m))]) (fun _=> []) (fun m=>m<=s.length/\((m=1/\s.take 1= [45])\/(m=0/\ ¬s.take 1= [45]))) ?_ ?_
 ·simp (disch:=omega) only [go_sem,seval];refine gT ?_ ?_<;>intro h1<;>simp (disch:=omega) only [Sh.out h1,go_sem,seval]
  ·refine cD ?_ ?_<;>intro h2<;>simp (disch:=omega) only [Sh.out h2,go_sem,seval]
   ·exact ⟨1,⟨Za,.inl ⟨rfl,ht1.2 ⟨Za,Za⟩⟩⟩,wk⟩
   ·exact ⟨0,⟨Za,.inr ⟨rfl,fun e=>h2 (by have:=(ht1.1 e).2;omega)⟩⟩,wk⟩
  ·exact ⟨0,⟨Za,.inr ⟨rfl,fun e=>by have:=(ht1.1 e).1;omega⟩⟩,wk⟩
 ·rintro m ⟨hml,hm⟩
  have hm1:m<=1:=Za
  have hd:Zl s=s.drop m:=by
   rcases hm with ⟨rfl,e⟩ | ⟨rfl,e⟩
   ·rw [Zl,if_pos e]
   ·rw [Zl,if_neg e,List.drop_zero]
  have hdl:(Zl s).length=s.length-m:=by rw [hd,List.length_drop]
  have hn: ∀k,nth (Zl s) k=nth s (m+k):=fun k=>by rw [hd,Ys]
  have bad1:Zl s= []\/((nth (Zl s) 0).toNat=48/\s≠ [48])->ZG s=(0,3):=fun h=>by rw [ZG,if_pos h]
  have one: ¬ 1<s.length->0<s.length->(nth s m).toNat=48->m+1<=s.length->s= [48]:=fun a b c d=>by
   have:m=0:=Za
   subst this
   match s,a,b with
   | [x],_,_=>rw [UInt8.toNat_inj.1 (show x.toNat=(48:UInt8).toNat from c)]
   | x::y::r,a,_=>exact absurd Zb a
  refine Ze [] _ _ _ _ ?_;simp (disch:=omega) only [go_sem,seval];refine gF ?_ ?_<;>intro h3<;>simp (disch:=omega) only [Sh.out h3,go_sem,seval]
  ·rw [bad1 (.inl (List.eq_nil_of_length_eq_zero Za))];exact we
  ·have h0:Zl s≠ []:=fun e=>by rw [e] at hdl;simp at hdl;omega
   refine gT ?_ ?_<;>intro h4<;>simp (disch:=omega) only [Sh.out h4,go_sem,seval];refine cD ?_ ?_<;>intro h5<;>simp (disch:=omega) only [Sh.out h5,go_sem,seval]
   ·rw [bad1 (.inr ⟨by rw [hn,Nat.add_zero];omega,fun e=>by rw [e] at h5;simp at h5⟩)];exact we
   all_goals
    have h1: ¬((nth (Zl s) 0).toNat=48/\s≠ [48]):=by
     rw [hn,Nat.add_zero]
     first
      | exact fun e=>e.2 (one Za Za Za Za)
      | exact fun e=>Za
    refine Zm [0,4] (fun i:Nat=> [(5,.p (.int .i64 i))]) (fun _=> []) (fun i=>m<=i/\i<=s.length/\ ∀j,m<=j->j<i->Z4 (nth s j)=true) (fun i=>s.length-i) m ⟨Nat.le_refl _,hml,fun j a b=>Za⟩ (Weak.mk ?_) ?_
    ·simp (disch:=omega) only [go_sem,seval]
    ·rintro i ⟨hi1,hi2,hno⟩;simp (disch:=omega) only [go_sem,seval];refine cD ?_ ?_<;>intro h6<;>simp (disch:=omega) only [Sh.out h6,go_sem,seval]
     ·have hi3:i<s.length:=Za
      refine (Ii (nth s i)).use ?_;simp (disch:=omega) only [go_sem,seval]
      cases hdg:Z4 (nth s i) with
      | false =>
       have ZO:(Zl s).all Z4=false:=List.all_eq_false.2 ⟨_,Zq (i:=i-m) Za,by rw [hn,show m+(i-m)=i by omega,hdg];simp⟩
       have e3:ZG s=(0,3):=by rw [ZG,if_neg (by rintro (e | e);exact h0 e;exact h1 e),if_pos ZO]
       rw [e3];simp (disch:=omega) only [hdg,Bool.not_false,go_sem,seval];exact we
      | true =>
       simp (disch:=omega) only [hdg,Bool.not_true,Bool.false_eq_true,go_sem,seval];exact ⟨i+1,⟨Za,Za,fun j a b=>if e:j=i then by rw [e];exact hdg else hno j a Za⟩,Za,wk⟩
     ·have ZO:(Zl s).all Z4=true:=by
       rw [List.all_eq_true];intro b hb;obtain ⟨j,hj,rfl⟩:=List.mem_iff_getElem.1 hb;rw [<- Zg hj,hn];exact hno _ Za Za
      have hnum:=Gw h0 h1 ZO;have hbig:=fun k=>IU (k:=k) h0 h1 ZO;have hstep:=fun k (h:k<(Zl s).length)=>DX h
      have htk:ZF 0 ((Zl s).take (s.length-m))=ZF 0 (Zl s):=by rw [List.take_of_length_le Za]
      have hz:ZF 0 ((Zl s).take (m-m))=0:=by rw [Nat.sub_self];rfl
      refine Zm [0,4] (fun i:Nat=> [(6,.p (.int .i64 (-(ZF 0 ((Zl s).take (i-m)):Int)))),(7,.p (.int .i64 i))]) (fun _=> []) (fun i=>m<=i/\i<=s.length/\ZF 0 ((Zl s).take (i-m))<=9223372036854775808) (fun i=>s.length-i) m ⟨Nat.le_refl _,hml,Za⟩ (Weak.mk ?_) ?_
      ·simp (disch:=omega) only [hz,Int.natCast_zero,Int.neg_zero,go_sem,seval]
      ·rintro i ⟨hi1,hi2,ha⟩;simp (disch:=omega) only [go_sem,seval];refine cD ?_ ?_<;>intro h7<;>simp (disch:=omega) only [Sh.out h7,go_sem,seval]
       ·have hi3:i<s.length:=Za
        have hst:=hstep (i-m) Za;have hdg:=List.all_eq_true.1 ZO _ (Zq (i:=i-m) Za);rw [hn,show m+(i-m)=i by omega] at hst hdg;rw [show i-m+1=i+1-m by omega] at hst;have hbg:=hbig (i+1-m);simp only [Z4,Bool.and_eq_true,decide_eq_true_eq] at hdg
        generalize ZF 0 ((Zl s).take (i-m))=a at *
        generalize ha2:ZF 0 ((Zl s).take (i+1-m))=a2 at *
        have hlow:=II (a:=a) (d:=((nth s i).toNat:Int)-48) Za Za;have hrng:=IJ (d:=((nth s i).toNat:Int)-48) Za Za
        generalize hT:Int.tdiv (-9223372036854775808+(((nth s i).toNat:Int)-48)) 10=T at *
        simp (disch:=omega) only [hT,go_sem,seval];refine cD ?_ ?_<;>intro h8<;>simp (disch:=omega) only [Sh.out h8,go_sem,seval]
        ·have h9:=hlow.1 h8;rw [hbg Za];exact we
        ·have h9: ¬ 9223372036854775808<(a:Int)*10+(((nth s i).toNat:Int)-48):=fun e=>h8 (hlow.2 e)
         have e9:10* -(a:Int)-(((nth s i).toNat:Int)-48)= -(a2:Int):=Za
         exact ⟨i+1,⟨Za,Za,by rw [ha2];omega⟩,Za,Weak.mk (by simp (disch:=omega) only [ha2,e9,Int.natCast_add,Int.natCast_one,go_sem,seval])⟩
       ·have his:i=s.length:=Za
        subst his;rw [htk] at ha ⊢
        generalize ZF 0 (Zl s)=a at *
        rcases hm with ⟨rfl,e⟩ | ⟨rfl,e⟩
        ·rw [hnum,if_pos e,if_pos ha];simp (disch:=omega) only [go_sem,seval];exact we
        ·rw [hnum,if_neg e];simp (disch:=omega) only [go_sem,seval];refine cD ?_ ?_<;>intro h8<;>simp (disch:=omega) only [Sh.out h8,go_sem,seval]
         ·rw [if_neg Za];exact we
         ·rw [if_pos Za];simp (disch:=omega) only [show (0- -(a:Int))=a from Za,go_sem,seval];exact we
theorem EE (s:List UInt8) (hs:s.length<=1048576):PC 49 [.p (.str s)] (.list false ((Xc s).map Y0)):=by
 refine Zd [9] Tryz.func49 rfl aN ?_;simp (disch:=omega) only [Tryz.f49,go_sem,seval]
 refine Zz [9] [0] (fun q:Nat×Nat×List (List UInt8)=> [(3,.sl 0 0 q.2.2.length q.2.2.length),(4,.p (.int .i64 q.2.1)),(5,.p (.int .i64 q.1))]) (fun q=> [.elems 1 (q.2.2.map Y0)])
  (fun q=>q.2.2.length<=q.1/\((q.1<=s.length/\q.2.1<=q.1/\(∀j,q.2.1<=j->j<q.1->nth s j≠32)/\Xc s=q.2.2++Xc (s.drop q.2.1))\/(q.1=s.length+1/\Xc s=q.2.2))) (fun q=>s.length+1-q.1) (0,0,[]) ⟨Zb,.inl ⟨Zb,Zb,fun j a b=>by simp at b,Zb⟩⟩ (Weak.ofNil 3 1 rfl Zb (Weak.mk ?_)) ?_
 ·simp (disch:=omega) only [List.map_nil,List.length_nil,go_sem,seval]
 ·rintro ⟨i,m,o⟩ ⟨hol,hi⟩;simp only at hol hi;simp (disch:=omega) only [go_sem,seval];refine cD ?_ ?_<;>intro h1<;>simp (disch:=omega) only [Sh.out h1,go_sem,seval]
  ·rcases hi with ⟨hi1,hi2,hno,he⟩ | ⟨hi1,_⟩
   ·refine gF ?_ ?_<;>intro h2<;>simp (disch:=omega) only [Sh.out h2,go_sem,seval]
    ·have his:i=s.length:=Za
     subst his;have hsp:=Ln hno;refine ⟨(s.length+1,s.length+1,o++ [s.drop m]),⟨by simp;omega,.inr ⟨rfl,by rw [he,hsp]⟩⟩,Zb,Weak.mk ?_⟩;simp (disch:=omega) only [List.take_length,List.map_append,List.map_cons,List.map_nil,List.length_append,List.length_cons,List.length_nil,go_sem,seval]
    ·have hi3:i<s.length:=Za
     refine cD ?_ ?_<;>intro h3<;>simp (disch:=omega) only [Sh.out h3,go_sem,seval]
     ·have h3':nth s i=32:=UInt8.toNat_inj.1 (by show (nth s i).toNat=32;omega);have hsp:=Pi hi2 hi3 hno h3';refine ⟨(i+1,i+1,o++ [(s.take i).drop m]),⟨by simp;omega,.inl ⟨by simp only;omega,Zb,fun j a b=>by simp only at a b;omega,by rw [he,hsp];simp⟩⟩,by simp only;omega,Weak.mk ?_⟩;simp (disch:=omega) only [List.map_append,List.map_cons,List.map_nil,List.length_append,List.length_cons,List.length_nil,go_sem,seval]
     ·refine ⟨(i+1,m,o),⟨by simp only;omega,.inl ⟨by simp only;omega,by simp only;omega,fun j a b=> ?_,he⟩⟩,by simp only;omega,wk⟩;simp only at a b
      by_cases e:j=i
      ·subst e;exact fun e=>h3 (by rw [e];rfl)
      ·exact hno j a Za
   ·omega
  ·rcases hi with ⟨hi1,_⟩ | ⟨_,he⟩
   ·omega
   ·rw [he];refine Zs (Weak.fz (o:=0) (by rfl)) ?_;refine Ze [] _ _ _ _ ?_;simp (disch:=omega) only [List.map_cons,List.map_nil,List.set_cons_succ,List.set_cons_zero,go_sem,seval];exact we
def B7 (s:List UInt8):V:=match UO s with
 | some (c,l)=> .tup [.p (.list c (l.map eB)),.p (.bool true)]
 | none=>if s= [] then .tup [.p (.list false []),.p (.bool false)] else .tup [.p (.list true []),.p (.bool false)]
theorem Ey (s:List UInt8) (hs:s.length<=1048576):ACalls Tryz.prog 96 [.p (.str s)] [] fun y H'=>y=B7 s/\H'= []:=by
 refine Zd [10] Tryz.func96 rfl bI ?_;simp (disch:=omega) only [Tryz.f96,go_sem,seval];unfold B7 UO;refine cD ?_ ?_<;>intro h1<;>simp (disch:=omega) only [Sh.out h1,go_sem,seval]
 ·exact we (by simp (disch:=omega) only [h1,List.map_nil,go_sem,seval])
 ·rw [if_neg h1];refine Zz [10] [0] (fun k:Nat=> [(4,.sl 0 0 k k),(5,.p (.int .i64 k))]) (fun k=> [.elems 1 (((s.take k).map yB).map eB)]) (fun k=>k<=s.length/\ ∀j,j<k->Bd (nth s j)=true) (fun k=>s.length-k) 0 Zb (Weak.ofNil 4 1 rfl Zb (Weak.mk ?_)) ?_
  ·simp (disch:=omega) only [List.take_zero,List.map_nil,go_sem,seval]
  ·rintro k ⟨hk,hno⟩;simp (disch:=omega) only [go_sem,seval];refine cD ?_ ?_<;>intro h2<;>simp (disch:=omega) only [Sh.out h2,go_sem,seval]
   ·have hk2:k<s.length:=Za
    have hne:s≠ []:=List.length_pos_iff.1 Za;have hb:=Vj (nth s k)
    have hl:(s.take k).length=k:=by simp;omega
    have hnx:((s.take (k+1)).map yB).map eB=((s.take k).map yB).map eB++ [.bool (decide (((nth s k).toNat:Int)=121))]:=by
     rw [List.take_succ_eq_append_getElem hk2,List.map_append,List.map_append,Zg hk2];rfl
    have bad:Bd (nth s k)=false-> ¬s.all Bd=true:=fun h e=>by
     rw [List.all_eq_true] at e;rw [e _ (Zq hk2)] at h;simp at h
    refine gT ?_ ?_<;>intro h3<;>simp (disch:=omega) only [Sh.out h3,go_sem,seval]
    ·refine cD ?_ ?_<;>intro h4<;>simp (disch:=omega) only [Sh.out h4,go_sem,seval]
     ·rw [if_neg (bad (by unfold Bd;rw [decide_eq_false h3,decide_eq_false h4];rfl))];simp only;rw [if_neg hne];exact we
     ·rw [if_pos ⟨hl,Za,Za⟩];simp (disch:=omega) only [go_sem,seval];exact ⟨k+1,⟨Za,Zn.2 ⟨hno,by unfold Bd;simp;omega⟩⟩,Za,Weak.mk (by simp (disch:=omega) only [hnx,hl,go_sem,seval])⟩
    ·rw [if_pos ⟨hl,Za,Za⟩];simp (disch:=omega) only [go_sem,seval];exact ⟨k+1,⟨Za,Zn.2 ⟨hno,by unfold Bd;simp;omega⟩⟩,Za,Weak.mk (by simp (disch:=omega) only [hnx,hl,go_sem,seval])⟩
   ·have hkl:k=s.length:=Za
    subst hkl
    have ZO:s.all Bd=true:=by
     rw [List.all_eq_true];intro b hb;obtain ⟨j,hj,rfl⟩:=List.mem_iff_getElem.1 hb;rw [<- Zg hj];exact hno j hj
    rw [if_pos ZO];rw [List.take_length];refine Zs (Weak.fz (o:=0) (by rfl)) ?_;refine Ze [] _ _ _ _ ?_;simp (disch:=omega) only [List.map_cons,List.map_nil,List.set_cons_succ,List.set_cons_zero,go_sem,seval]
    by_cases hne:s= []
    ·subst hne;exact we (by simp (disch:=omega) only [List.map_nil,List.length_nil,go_sem,seval])
    ·have hpos:=List.length_pos_iff.2 hne;rw [if_neg hne,show decide (0<(s.length:Int))=true from decide_eq_true Za];exact we
theorem Gh (l:List (List UInt8)) (c:Bool) (hne:l≠ []) (hl:l.length<=1048576) (hw: ∀s∈l,s.length<=1048576):ACalls Tryz.prog 50 [.p (.list c (l.map Y0))] [] fun y H'=>y=Jy l/\H'= []:=by
 refine Zd [11] Tryz.func50 rfl aO ?_;have hll:0<l.length:=List.length_pos_iff.2 hne;simp (disch:=omega) only [Tryz.f50,go_sem,seval];unfold Jy YD;refine cD ?_ ?_<;>intro h2<;>simp (disch:=omega) only [Sh.out h2,go_sem,seval]
 ·rw [if_pos (.inr h2)];exact we
 ·rw [if_neg (by rintro (e | e);exact hne e;exact h2 e)];have hdl:(l.drop 1).length=l.length-1:=List.length_drop;have hwd: ∀s∈l.drop 1,s.length<=1048576:=fun s h=>hw s (List.mem_of_mem_drop h)
  have hnd: ∀k,nth (l.drop 1) k=nth l (k+1):=fun k=>by rw [Ys,Nat.add_comm]
  generalize l.drop 1=r at *
  refine Zz [11] [0] (fun k:Nat=> [(4,.sl 0 0 k k),(5,.p (.int .i64 (k+1)))]) (fun k=> [.elems 1 (((r.take k).map fun s=>(ZG s).1).map eI)]) (fun k=>k<=r.length/\ ∀j,j<k->Ei (nth r j)=true) (fun k=>r.length-k) 0 Zb (Weak.ofNil 4 1 rfl Zb (Weak.mk ?_)) ?_
  ·simp (disch:=omega) only [List.take_zero,List.map_nil,go_sem,seval]
  ·rintro k ⟨hk,hno⟩;simp (disch:=omega) only [go_sem,seval];refine cD ?_ ?_<;>intro h3<;>simp (disch:=omega) only [Sh.out h3,go_sem,seval]
   ·have hk2:k<r.length:=Za
    have h18:=hwd _ (Zq hk2)
    have hkl:(r.take k).length=k:=by simp;omega
    have hnx:((r.take (k+1)).map fun s=>(ZG s).1).map eI=((r.take k).map fun s=>(ZG s).1).map eI++ [.int .i64 (ZG (nth r k)).1]:=by
     rw [List.take_succ_eq_append_getElem hk2,List.map_append,List.map_append,Zg hk2];rfl
    have cn:=Wd (nth r k) h18;rw [hnd] at cn hnx;refine Yj cn ?_;simp (disch:=omega) only [go_sem,seval];refine cD ?_ ?_<;>intro h4<;>simp (disch:=omega) only [Sh.out h4,go_sem,seval]
    ·have hb: ¬r.all Ei=true:=fun e=>by
      rw [List.all_eq_true] at e;have:=e _ (Zq hk2);simp only [Ei,decide_eq_true_eq] at this;rw [hnd] at this;exact h4 this
     rw [if_neg hb];exact we
    ·rw [if_pos ⟨hkl,Za,Za⟩];simp (disch:=omega) only [go_sem,seval];exact ⟨k+1,⟨Za,Zn.2 ⟨hno,by simp only [Ei,decide_eq_true_eq,hnd];omega⟩⟩,Za,Weak.mk (by simp (disch:=omega) only [hnx,hkl,go_sem,seval])⟩
   ·have hkl:k=r.length:=Za
    subst hkl
    have ZO:r.all Ei=true:=by
     rw [List.all_eq_true];intro b hb;obtain ⟨j,hj,rfl⟩:=List.mem_iff_getElem.1 hb;rw [<- Zg hj];exact hno j hj
    rw [if_pos ZO,List.take_length];refine Zs (Weak.fz (o:=0) (by rfl)) ?_;refine Ze [] _ _ _ _ ?_;simp (disch:=omega) only [List.map_cons,List.map_nil,List.set_cons_succ,List.set_cons_zero,go_sem,seval];exact we
theorem IV {s:List UInt8} (h:s.length<2):BR s=false:=by
 match s,h with
 | [],_=>rfl
 | [b],_ =>
  unfold BR XI
  split
  ·rfl
  ·show decide ((ZG []).2=0)=false
   rfl
 | _::_::_,h=>exact absurd h Zb
theorem GX (l:List (List UInt8)) (c:Bool) (hl:l.length<=1048576) (hw: ∀s∈l,s.length<=1048576):ACalls Tryz.prog 51 [.p (.list c (l.map Y0))] [] fun y H'=>y=Ez l/\H'= []:=by
 refine Zd [18] Tryz.func51 rfl aP ?_;simp (disch:=omega) only [Tryz.f51,go_sem,seval];unfold Ez VT;refine gF ?_ ?_<;>intro h1<;>simp (disch:=omega) only [Sh.out h1,go_sem,seval]
 ·rw [if_pos (.inl Za)];exact we (by simp (disch:=omega) only [Ya,List.map_nil,go_sem,seval])
 ·have h4:4<=l.length:=Za
  have n1:=hw _ (Zq (show 1<l.length by omega));have n2:=hw _ (Zq (show 2<l.length by omega));have n3:=hw _ (Zq (show 3<l.length by omega));have w5:rteW= [114,111,117,116,101]:=rfl;refine cD ?_ ?_<;>intro h2<;>simp (disch:=omega) only [Sh.out h2,go_sem,seval]
  ·rw [if_pos (.inr h2)];exact we (by simp (disch:=omega) only [Ya,List.map_nil,go_sem,seval])
  ·rw [if_neg (by rintro (e | e);omega;exact h2 e)];refine Yj (Wd (nth l 1) n1) ?_;simp (disch:=omega) only [go_sem,seval];refine Yj (Wd (nth l 2) n2) ?_;simp (disch:=omega) only [go_sem,seval];have cr:=Ey (nth l 3) Za;unfold B7 at cr
   cases hr:UO (nth l 3) with
   | none =>
    rw [hr] at cr
    by_cases he:nth l 3= []
    all_goals
     first
      | rw [if_pos he] at cr
      | rw [if_neg he] at cr
     refine Yj cr ?_;simp (disch:=omega) only [go_sem,seval];refine gF ?_ ?_<;>intro h5<;>simp (disch:=omega) only [Sh.out h5,go_sem,seval]
     ·exact we (by simp (disch:=omega) only [Ya,List.map_nil,go_sem,seval])
     ·refine gF ?_ ?_<;>intro h6<;>simp (disch:=omega) only [Sh.out h6,go_sem,seval]
      ·exact we (by simp (disch:=omega) only [Ya,List.map_nil,go_sem,seval])
      ·exact we (by simp (disch:=omega) only [Ya,List.map_nil,go_sem,seval])
   | some q =>
    obtain ⟨cc,rs⟩:=q;rw [hr] at cr;refine Yj cr ?_;simp (disch:=omega) only [go_sem,seval];refine gF ?_ ?_<;>intro h5<;>simp (disch:=omega) only [Sh.out h5,go_sem,seval]
    ·have hb: ¬Xx l=true:=by unfold Xx;rw [decide_eq_false h5];simp
     rw [if_neg hb];exact we (by simp (disch:=omega) only [Ya,List.map_nil,go_sem,seval])
    ·refine gF ?_ ?_<;>intro h6<;>simp (disch:=omega) only [Sh.out h6,go_sem,seval]
     ·have hb: ¬Xx l=true:=by unfold Xx;rw [decide_eq_false h6];simp
      rw [if_neg hb];exact we (by simp (disch:=omega) only [Ya,List.map_nil,go_sem,seval])
     ·have hb:Xx l=true:=by unfold Xx;simp;omega
      rw [if_pos hb];have hdl:(l.drop 4).length=l.length-4:=List.length_drop;have hwd: ∀s∈l.drop 4,s.length<=1048576:=fun s h=>hw s (List.mem_of_mem_drop h)
      have hnd: ∀k,nth (l.drop 4) k=nth l (k+4):=fun k=>by rw [Ys,Nat.add_comm]
      generalize l.drop 4=r at *
      generalize (ZG (nth l 1)).1=x1 at *
      generalize (ZG (nth l 2)).1=x2 at *
      refine Zz [18] [0,2,10] (fun i:Nat=> [(11,.p (.int .i64 i))]) (fun i=> [ZE Ya,.cells [.p (.int .i64 x1),.p (.int .i64 x2),.p (.list cc (rs.map eB)),.sl 2 0 (i-4) (i-4)],.elems 2 (((r.take (i-4)).map fun s=>(XI s).1).map ZR)]) (fun i=>4<=i/\i<=l.length/\ ∀j,j<i-4->BR (nth r j)=true) (fun i=>l.length-i) 4 ⟨Nat.le_refl _,h4,fun j hj=>Za⟩ ((Weak.nilC (o:=1) (j:=3) 2 rfl rfl Zb).trans (Weak.mk ?_)) ?_
      ·simp (disch:=omega) only [ZE,Ya,Nat.sub_self,List.map_nil,List.take_zero,List.set_cons_succ,List.set_cons_zero,List.cons_append,List.nil_append,go_sem,seval]
      ·rintro i ⟨hi4,hil,hno⟩;obtain ⟨k,hke⟩: ∃k,k=i-4:=⟨_,rfl⟩
       have hik:k+4=i:=Za
       rw [<- hke] at hno ⊢
       have hk:k<=r.length:=Za
       simp (disch:=omega) only [ZE,Ya,List.map_nil,go_sem,seval];refine cD ?_ ?_<;>intro h7<;>simp (disch:=omega) only [Sh.out h7,go_sem,seval]
       ·have hk2:k<r.length:=Za
        have h18:=hwd _ (Zq hk2)
        have hkl:(r.take k).length=k:=by simp;omega
        have hnx:((r.take (k+1)).map fun s=>(XI s).1).map ZR=((r.take k).map fun s=>(XI s).1).map ZR++ [ZR (XI (nth r k)).1]:=by
         rw [List.take_succ_eq_append_getElem hk2,List.map_append,List.map_append,Zg hk2];rfl
        have bad:BR (nth r k)=false-> ¬r.all BR=true:=fun h e=>by
         rw [List.all_eq_true] at e;rw [e _ (Zq hk2)] at h;cases h
        have hnk:=hnd k;rw [hik] at hnk;rw [hnk] at hnx h18 bad;have hwl: ∀w:List UInt8,w.length<2->BR w=false:=fun w h=>IV h;have hb:=Vj (nth (nth l i) 0);have hvv: ∀w:List UInt8,XI w=if w= []\/((nth w 0).toNat≠43/\(nth w 0).toNat≠45) then (⟨0,false⟩,false) else (⟨(ZG (w.drop 1)).1,decide (((nth w 0).toNat:Int)=45)⟩,decide ((ZG (w.drop 1)).2=0)):=fun w=>rfl
        have hi1:i+1-4=k+1:=Za
        refine gF ?_ ?_<;>intro h8<;>simp (disch:=omega) only [Sh.out h8,go_sem,seval]
        ·rw [if_neg (bad (hwl (nth l i) Za))];exact we (by simp (disch:=omega) only [Ya,List.map_nil,go_sem,seval])
        ·have hwne: ¬(nth l i)= []:=fun e=>by rw [e] at h8;simp at h8
         have cn:=Wd ((nth l i).drop 1) (by rw [List.length_drop];omega)
         have good:((nth (nth l i) 0).toNat=43\/(nth (nth l i) 0).toNat=45)->XI (nth l i)=(⟨(ZG ((nth l i).drop 1)).1,decide (((nth (nth l i) 0).toNat:Int)=45)⟩,decide ((ZG ((nth l i).drop 1)).2=0)):=fun h=>by
          rw [hvv,if_neg (by rintro (e | e);exact hwne e;omega)]
         refine gT ?_ ?_<;>intro h9<;>simp (disch:=omega) only [Sh.out h9,go_sem,seval];refine cD ?_ ?_<;>intro h10<;>simp (disch:=omega) only [Sh.out h10,go_sem,seval]
         ·have:BR (nth l i)=false:=by
           show (XI (nth l i)).2=false
           rw [hvv,if_pos (.inr ⟨Za,Za⟩)]
          rw [if_neg (bad this)];exact we (by simp (disch:=omega) only [Ya,List.map_nil,go_sem,seval])
         all_goals
          have hv:=good Za;rw [hv] at hnx;rw [List.take_length];refine Yj cn ?_;simp (disch:=omega) only [go_sem,seval];refine cD ?_ ?_<;>intro h11<;>simp (disch:=omega) only [Sh.out h11,go_sem,seval]
          ·have:BR (nth l i)=false:=by
            show (XI (nth l i)).2=false
            rw [hv];exact decide_eq_false h11
           rw [if_neg (bad this)];exact we (by simp (disch:=omega) only [Ya,List.map_nil,go_sem,seval])
          ·have hok:BR (nth l i)=true:=by
            show (XI (nth l i)).2=true
            rw [hv];exact decide_eq_true Za
           refine Xg 11 mixed Zh Zh ?_;simp (disch:=omega) only [go_sem,seval];simp (disch:=omega) only [hkl,go_sem,seval];rw [if_pos ⟨Za,Za⟩];simp (disch:=omega) only [hkl,eq_self,decide_true,go_sem,seval];exact ⟨i+1,⟨Za,Za,by rw [hi1];exact Zn.2 ⟨hno,by rw [hnk];exact hok⟩⟩,Za,Weak.mk (by simp (disch:=omega) only [ZE,Ya,List.map_nil,hi1,hnx,hkl,go_sem,seval])⟩
       ·have hkl:k=r.length:=Za
        rw [hkl] at hno ⊢
        have ZO:r.all BR=true:=by
         rw [List.all_eq_true];intro b hb;obtain ⟨j,hj,rfl⟩:=List.mem_iff_getElem.1 hb;rw [<- Zg hj];exact hno j hj
        rw [if_pos ZO,List.take_length];refine Zs (Weak.fz (o:=2) (by rfl)) ?_;refine Ze [] _ _ _ _ ?_;simp (disch:=omega) only [List.map_cons,List.map_nil,List.set_cons_succ,List.set_cons_zero,go_sem,seval];exact we
theorem Eo (s:List UInt8) (hs:s.length<=65536):ACalls Tryz.prog 21 [.p (.str s)] [] fun y H'=>y=UM (X3 (s.length+1) 1 [] s)/\H'= []:=by
 obtain ⟨Z,hZ⟩: ∃Z,Z=X3 (s.length+1) 1 [] s:=⟨_,rfl⟩;rw [<- hZ];refine Zd [15] Tryz.func21 rfl T9 ?_;simp (disch:=omega) only [Tryz.f21,go_sem,seval];refine cD ?_ ?_<;>intro h0<;>simp (disch:=omega) only [Sh.out h0,go_sem,seval]
 ·omega
 ·refine Zz [15] [0,2,5] (fun q:Nat×Nat×List Rte=> [(6,.p (.int .i64 q.2.1)),(7,.p (.int .i64 ((q.2.2.length:Int)+1))),(8,.p (.int .i64 q.1))])
   (fun q=> [Zy YB,.cells [.sl 2 0 q.2.2.length q.2.2.length,.p (.list true [])],.elems 4 (q.2.2.map X1)])
   (fun q=>q.1<=s.length/\q.2.1<=q.1/\q.2.2.length<=q.2.1/\(∀j,q.2.1<=j->j<q.1->nth s j≠10)/\Z=X3 (s.length+1-q.2.2.length) ((q.2.2.length:Int)+1) q.2.2 (s.drop q.2.1)) (fun q=>s.length-q.1) (0,0,[]) ⟨Zb,Zb,Zb,fun j a b=>by simp at b,by simpa using hZ⟩ ((Weak.nilC (o:=1) (j:=0) 4 rfl rfl Zb).trans (Weak.mk ?_)) ?_
  ·simp (disch:=omega) only [Zy,YB,List.map_nil,List.length_nil,List.set_cons_succ,List.set_cons_zero,List.cons_append,List.nil_append,go_sem,seval]
  ·rintro ⟨i,m,rs⟩ ⟨hi,hm,hr,hno,h5⟩;simp only at hi hm hr hno h5;rw [h5];obtain ⟨f,hf⟩: ∃f,s.length+1-rs.length=f+1:=⟨s.length-rs.length,Za⟩;rw [hf] at h5 ⊢;simp (disch:=omega) only [Zy,YB,List.map_nil,go_sem,seval];refine cD ?_ ?_<;>intro h1<;>simp (disch:=omega) only [Sh.out h1,go_sem,seval]
   ·have hi3:i<s.length:=Za
    refine cD ?_ ?_<;>intro h2<;>simp (disch:=omega) only [Sh.out h2,go_sem,seval]
    ·refine ⟨(i+1,m,rs),⟨by first | omega | (simp only;omega) | simp only,by first | omega | (simp only;omega) | simp only,hr,fun j a b=> ?_,by first | (simp only;rw [hf];exact h5) | (simp only;rw [hf])⟩,by first | omega | (simp only;omega) | simp only,Weak.mk (by simp (disch:=omega) only [Zy,YB,List.map_nil,go_sem,seval])⟩;simp only at a b
     by_cases e:j=i
     ·subst e;exact fun e=>h2 (by rw [e];rfl)
     ·exact hno j a Za
    ·have h2':nth s i=10:=UInt8.toNat_inj.1 (by show (nth s i).toNat=10;omega);have hc:=Na hm hi3 hno h2';rw [X3,hc] at h5;rw [X3,hc];simp only at h5 ⊢;rw [if_neg Zb] at h5 ⊢
     have hwl:((s.take i).drop m).length<=s.length:=by rw [List.length_drop,List.length_take];omega
     have hsl:=XY _ ((s.take i).drop m) (Nat.le_refl _);have hsn:=He ((s.take i).drop m);have cw:=EE ((s.take i).drop m) Za
     generalize (s.take i).drop m=w at *
     have hdl:(s.drop (i+1)).length=s.length-(i+1):=List.length_drop;refine (cw).use ?_;simp (disch:=omega) only [go_sem,seval];have cl:=Gh (Xc w) false hsn Za (fun u hu=>by have:=hsl.2 u hu;omega);have crt:=GX (Xc w) false Za (fun u hu=>by have:=hsl.2 u hu;omega);unfold Jy at cl;unfold Ez at crt
     cases hu:YD (Xc w) with
     | some us =>
      rw [hu] at cl h5;simp only at h5 ⊢;refine Yj cl ?_;simp (disch:=omega) only [go_sem,seval];refine cD ?_ ?_<;>intro h6<;>simp (disch:=omega) only [Sh.out h6,go_sem,seval]
      ·have hne:s.drop (i+1)≠ []:=fun e=>by rw [e] at hdl;simp at hdl;omega
       rw [if_pos hne];exact we (by simp (disch:=omega) only [UM,YB,List.map_nil,go_sem,seval])
      ·have he:s.drop (i+1)= []:=List.eq_nil_of_length_eq_zero Za;rw [if_neg (by simpa using he)];refine Zs (Weak.fz (o:=2) (by rfl)) ?_;refine Ze [] _ _ _ _ ?_;simp (disch:=omega) only [List.map_cons,List.map_nil,List.set_cons_succ,List.set_cons_zero,go_sem,seval];exact we (by simp (disch:=omega) only [UM,go_sem,seval])
     | none =>
      rw [hu] at cl h5;simp only at h5 ⊢;refine Yj cl ?_;simp (disch:=omega) only [go_sem,seval]
      cases hr2:VT (Xc w) with
      | none =>
       rw [hr2] at crt h5;simp only;refine Yj crt ?_;simp (disch:=omega) only [go_sem,seval];exact we (by simp (disch:=omega) only [UM,YB,List.map_nil,go_sem,seval])
      | some r =>
       rw [hr2] at crt h5;simp only at h5 ⊢;refine Yj crt ?_;simp (disch:=omega) only [go_sem,seval];refine ⟨(i+1,i+1,rs++ [r]),⟨by first | omega | (simp only;omega) | simp only,Nat.le_refl _,by simp;omega,fun j a b=>by simp only at a b;omega,?_⟩,by first | omega | (simp only;omega) | simp only,Weak.mk (by simp (disch:=omega) only [Zy,YB,List.map_nil,List.length_append,List.length_cons,List.length_nil,List.map_append,List.map_cons,go_sem,seval])⟩;simp only [List.length_append,List.length_cons,List.length_nil];rw [show s.length+1-(rs.length+(0+1))=f by omega,show (((rs.length+(0+1):Nat):Int)+1)=(rs.length:Int)+1+1 by omega]
   ·have his:i=s.length:=Za
    subst his;have hc:=Ig hno;rw [X3,hc];simp only;rw [if_pos trivial];exact we (by simp (disch:=omega) only [UM,YB,List.map_nil,go_sem,seval])
set_option maxRecDepth 60000
theorem WY (n:Int) (h:okD n):PC 40 [.p (.int .i64 n)] (.str (VB n)):=by
 refine Zc Tryz.func40 rfl aG ?_;simp (disch:=omega) only [Tryz.f40,go_sem,seval];refine (IB n h).use ?_;simp (disch:=omega) only [go_sem,seval]
 rfl
theorem Dq (xs:List (List UInt8)) (c:Bool) (hx:xs.length<=1048576) (hl:(Z0 xs [32]).length<=140737488355328) :
  PC 42 [.p (.list c (xs.map Y0))] (.str (Z0 xs [32])):=by
 refine Zc Tryz.func42 rfl aI ?_;simp (disch:=omega) only [Tryz.f42,go_sem,seval];refine (OQ xs c [32] hx hl).use ?_;simp (disch:=omega) only [go_sem,seval]
theorem rests_c (l:List Bool) (c:Bool) (h:okR l):PC 41 [.p (.list c (l.map eB))] (.str (QH l)):=by
 have h:l.length<=4096:=h;refine Y3 [3] Tryz.func41 rfl aH ?_;simp (disch:=omega) only [Tryz.f41,go_sem,seval];refine cD ?_ ?_<;>intro h1<;>simp (disch:=omega) only [Sh.out h1,go_sem,seval]
 ·have:l= []:=List.length_eq_zero_iff.1 Za;subst this;rfl
 ·have hne:l≠ []:=fun e=>h1 (by rw [e];rfl);refine ZW (US 0 rfl rfl ?_);simp (disch:=omega) only [go_sem,seval];refine ⟨_,_,Dd 77 5 rfl Zh,?_⟩;simp (disch:=omega) only [go_sem,seval];refine Ze [] _ _ _ _ ?_;simp (disch:=omega) only [go_sem,seval];refine Zm [3,9,10] (fun k:Nat=> [(11,.p (.int .i64 k))]) (fun k=> [.bld 77 5 1 ((l.take k).map Px),.dead]) (fun k=>k<=l.length) (fun k=>l.length-k) 0 Zb (Weak.mk ?_) ?_
  ·simp (disch:=omega) only [List.take_zero,List.map_nil,go_sem,seval]
  ·intro k hk;simp (disch:=omega) only [go_sem,seval];refine cD ?_ ?_<;>intro h2<;>simp (disch:=omega) only [Sh.out h2,go_sem,seval]
   ·have hk2:k<l.length:=Za
    have hnx:(l.take (k+1)).map Px=(l.take k).map Px++ [Px (nth l k)]:=by rw [List.take_succ_eq_append_getElem hk2,Zg hk2,List.map_append];rfl
    have hsz:((l.take k).map Px).length+1<=140737488355328:=by rw [List.length_map,List.length_take];omega
    cases hb:nth l k with
    | true =>
     simp (disch:=omega) only [hb,go_sem,seval];refine (Du (o:=0) (r:=1) rfl 121 hsz).mono ?_;rintro x H' ⟨rfl,rfl⟩;simp (disch:=omega) only [go_sem,seval];exact ⟨k+1,Za,Za,Weak.mk (by simp (disch:=omega) only [hnx,hb,Px,List.set_cons_zero,go_sem,seval])⟩
    | false =>
     simp (disch:=omega) only [hb,Bool.false_eq_true,go_sem,seval];refine (Du (o:=0) (r:=1) rfl 110 hsz).mono ?_;rintro x H' ⟨rfl,rfl⟩;simp (disch:=omega) only [go_sem,seval];exact ⟨k+1,Za,Za,Weak.mk (by simp (disch:=omega) only [hnx,hb,Px,Bool.false_eq_true,List.set_cons_zero,go_sem,seval])⟩
   ·have hkl:k=l.length:=Za
    subst hkl;rw [List.take_length];refine (Fj (o:=0) (r:=1) rfl (by simpa using hne)).mono ?_;rintro x H' ⟨rfl,rfl⟩;simp (disch:=omega) only [go_sem,seval];rw [QH,if_neg hne];rfl
def Li (r:Rte):AM.Obj:= .cells [.p (.int .i64 r.typ),.p (.int .i64 r.start),.p (.list r.rests_c (r.rests.map eB)),.p (.list r.visits_c (r.visits.map ZR))]
theorem Dk (p:Pln) (h:PrOk p):PC 17 [.p (Qg p)] (.str (Dj p)):=by
 obtain ⟨hr,hu,hb,hv⟩:=id h;have hll:=Eb h;refine Y3 [1] Tryz.func17 rfl T6 ?_;simp (disch:=omega) only [Tryz.f17,go_sem,seval];refine ZW (US 0 rfl rfl ?_);simp (disch:=omega) only [go_sem,seval];refine ⟨_,_,Dd 77 5 rfl Zh,?_⟩;simp (disch:=omega) only [go_sem,seval];refine Ze [] _ _ _ _ ?_;simp (disch:=omega) only [go_sem,seval];refine Zm [1,3,14,15] (fun k:Nat=> [(16,.p (.int .i64 k))]) (fun k=> [Zy p,.bld 77 5 2 (((p.routes.take k).map XD).flatten),.dead]) (fun k=>k<=p.routes.length) (fun k=>p.routes.length-k) 0 Zb (Weak.mk ?_) ?_
 ·simp (disch:=omega) only [Zy,List.take_zero,List.map_nil,List.flatten_nil,go_sem,seval]
 ·intro k hk;simp (disch:=omega) only [Zy,go_sem,seval];refine cD ?_ ?_<;>intro h1<;>simp (disch:=omega) only [Sh.out h1,go_sem,seval]
  ·have hk2:k<p.routes.length:=Za
   have hm:=Zq hk2;obtain ⟨b1,b2,b3,b4,b5⟩:=hb _ hm;refine Xg 9 mixed Zh Zh ?_;simp (disch:=omega) only [go_sem,seval];refine ZQ (WY (nth p.routes k).typ b2) ?_;simp (disch:=omega) only [go_sem,seval];refine ZQ (WY (nth p.routes k).start b3) ?_;simp (disch:=omega) only [go_sem,seval];refine ZQ (rests_c (nth p.routes k).rests _ b4) ?_;simp (disch:=omega) only [go_sem,seval];refine Zm [1,3,14,15,16,31,32] (fun q:Nat=> [(33,.p (.int .i64 q)),(6,.sl 4 0 (W9 (nth p.routes k) q).length (W9 (nth p.routes k) q).length)]) (fun q=> [Zy p,.bld 77 5 2 (((p.routes.take k).map XD).flatten),.dead,Li (nth p.routes k),.elems 1 ((W9 (nth p.routes k) q).map Y0)]) (fun q=>q<=(nth p.routes k).visits.length) (fun q=>(nth p.routes k).visits.length-q) 0 Zb (Weak.mk ?_) ?_
   ·simp (disch:=omega) only [Zy,Li,go_sem,seval];simp [W9,YG,UX]
   ·intro q hq;simp (disch:=omega) only [Zy,Li,go_sem,seval];have hwl:=Gl hq;refine cD ?_ ?_<;>intro h2<;>simp (disch:=omega) only [Sh.out h2,go_sem,seval]
    ·have hq2:q<(nth p.routes k).visits.length:=Za
     have hmv:=Zq hq2;have hdo:=b5 _ hmv;have hsn:=Ea hq2;have hvd:Uy (nth (nth p.routes k).visits q)=(if (nth (nth p.routes k).visits q).drp=true then [45] else [43])++VB (nth (nth p.routes k).visits q).order:=rfl
     generalize (nth (nth p.routes k).visits q)=v at *
     have hdl:=WB hdo
     generalize hd:v.drp=d at *
     cases d
     all_goals
      simp (disch:=omega) only [go_sem,seval];refine (WY v.order hdo).use ?_;simp (disch:=omega) only [go_sem,seval];rw [QN (by simp;omega)];simp (disch:=omega) only [go_sem,seval];refine ⟨q+1,Za,Za,Weak.mk ?_⟩;simp (disch:=omega) only [Zy,Li,hsn,hvd,List.map_append,List.map_cons,List.map_nil,List.length_append,List.length_cons,List.length_nil,UX,go_sem,seval]
    ·have hql:q=(nth p.routes k).visits.length:=Za
     subst hql;have hfl:=Jz (hb _ hm)
     have hls:XD (nth p.routes k)=Z0 (W9 (nth p.routes k) (nth p.routes k).visits.length) [32]++ [10]:=by rw [W9,List.take_length];rfl
     have hln:(Z0 (W9 (nth p.routes k) (nth p.routes k).visits.length) [32]).length<=16797700:=by rw [W9,List.take_length];exact hfl
     have hkl:=hll k
     have htk:(p.routes.take (k+1)).map XD=(p.routes.take k).map XD++ [XD (nth p.routes k)]:=by rw [List.take_succ_eq_append_getElem hk2,Zg hk2,List.map_append];rfl
     refine ACalls.view (Dq (W9 (nth p.routes k) (nth p.routes k).visits.length) false Za Za) (by simp [Pw,vw,Xo,V2]<;>rfl) (by rfl) ?_;simp (disch:=omega) only [go_sem,seval];rw [QN (by simp;omega)];simp (disch:=omega) only [go_sem,seval];refine (Hr (o:=1) (r:=2) rfl (Z0 (W9 (nth p.routes k) (nth p.routes k).visits.length) [32]++ [10]) Zb (by simp only [List.length_append,List.length_cons,List.length_nil];omega)).mono ?_;rintro x H' ⟨rfl,rfl⟩;simp (disch:=omega) only [go_sem,seval];refine ⟨k+1,Za,Za,Weak.mk ?_⟩
     simp (disch:=omega) only [Zy,htk,hls,List.flatten_append,List.flatten_cons,List.flatten_nil,List.append_nil,List.set_cons_succ,List.set_cons_zero,go_sem,seval]
  ·have hkl:k=p.routes.length:=Za
   subst hkl
   rw [List.take_length] at *
   have hll:=hll p.routes.length;rw [List.take_length] at hll;refine Zm [3,55,56] (fun q:Nat=> [(57,.p (.int .i64 q)),(10,.sl 3 0 (Vd p q).length (Vd p q).length)]) (fun q=> [Zy p,.bld 77 5 2 ((p.routes.map XD).flatten),.dead,.elems 1 ((Vd p q).map Y0)]) (fun q=>q<=p.unserved.length) (fun q=>p.unserved.length-q) 0 Zb (Weak.mk ?_) ?_
   ·simp (disch:=omega) only [Zy,go_sem,seval];simp [Vd,UK,UX]
   ·intro q hq;simp (disch:=omega) only [Zy,go_sem,seval];have hwl:=Hi hq;refine cD ?_ ?_<;>intro h2<;>simp (disch:=omega) only [Sh.out h2,go_sem,seval]
    ·have hq2:q<p.unserved.length:=Za
     have hdo:=hv _ (Zq hq2);have hsn:=ED hq2
     generalize (nth p.unserved q)=v at *
     refine (WY v hdo).use ?_;simp (disch:=omega) only [go_sem,seval];refine ⟨q+1,Za,Za,Weak.mk ?_⟩;simp (disch:=omega) only [Zy,hsn,List.map_append,List.map_cons,List.map_nil,List.length_append,List.length_cons,List.length_nil,UX,go_sem,seval]
    ·have hql:q=p.unserved.length:=Za
     subst hql
     have hes:Nf p=Z0 (Vd p p.unserved.length) [32]++ [10]:=by rw [Vd,List.take_length];rfl
     have hln:(Z0 (Vd p p.unserved.length) [32]).length<=4097*65:=by
      have:=Jt (sep:= [32]) (B:=64) (xs:=Vd p p.unserved.length) fun s hs=>by
       rcases List.mem_append.1 hs with hs | hs
       ·simp only [UK,List.mem_cons,List.not_mem_nil,or_false] at hs;subst hs;simp
       ·rw [List.take_length] at hs;obtain ⟨v,hv2,rfl⟩:=List.mem_map.1 hs;have:=WB (hv v hv2);omega
      rw [hwl] at this;simp only [List.length_cons,List.length_nil] at this;omega
     refine ACalls.view (Dq (Vd p p.unserved.length) false Za Za) (by simp [Pw,vw,Xo,V2]<;>rfl) (by rfl) ?_;simp (disch:=omega) only [go_sem,seval];rw [QN (by simp;omega)];simp (disch:=omega) only [go_sem,seval];refine (Hr (o:=1) (r:=2) rfl (Z0 (Vd p p.unserved.length) [32]++ [10]) Zb (by simp only [List.length_append,List.length_cons,List.length_nil];omega)).mono ?_;rintro x H' ⟨rfl,rfl⟩;simp (disch:=omega) only [List.set_cons_succ,List.set_cons_zero,go_sem,seval];refine (Fj (o:=1) (r:=2) rfl Zb).mono ?_
     rintro x H' ⟨rfl,rfl⟩;simp (disch:=omega) only [go_sem,seval];rw [Dj,hes]
theorem Dh (s:List UInt8) (hs:s.length<=65536):ACalls Tryz.prog 19 [.p (.str s)] [] fun y H'=>y=UM (X3 (s.length+1) 1 [] s)/\H'= []:=by
 obtain ⟨Z,hZ⟩: ∃Z,Z=X3 (s.length+1) 1 [] s:=⟨_,rfl⟩;rw [<- hZ];refine Zd [16] Tryz.func19 rfl T7 ?_;simp (disch:=omega) only [Tryz.f19,go_sem,seval];refine cD ?_ ?_<;>intro h0<;>simp (disch:=omega) only [Sh.out h0,go_sem,seval]
 ·omega
 ·refine Zz [16] [2,5] (fun q:Nat×List UInt8×List Rte=> [(0,.p (.str q.2.1)),(6,.p (.int .i64 ((q.1:Int)+1)))])
   (fun q=> [Zy YB,.cells [.sl 2 0 q.2.2.length q.2.2.length,.p (.list true [])],.elems 4 (q.2.2.map X1)])
   (fun q=>q.1+q.2.1.length<=s.length/\q.2.2.length=q.1/\Z=X3 (s.length+1-q.1) ((q.1:Int)+1) q.2.2 q.2.1) (fun q=>q.2.1.length) (0,s,[]) ⟨Zb,Zb,by simpa using hZ⟩ ((Weak.nilC (o:=1) (j:=0) 4 rfl rfl Zb).trans (Weak.mk ?_)) ?_
  ·simp (disch:=omega) only [Zy,YB,List.map_nil,List.length_nil,List.set_cons_succ,List.set_cons_zero,List.cons_append,List.nil_append,go_sem,seval]
  ·rintro ⟨k,t,rs⟩ ⟨h1,h2,h5⟩;simp only at h1 h2 h5;rw [h5];obtain ⟨f,hf⟩: ∃f,s.length+1-k=f+1:=⟨s.length-k,Za⟩;rw [hf] at h5 ⊢;have hcl:= @Fw t;simp (disch:=omega) only [Zy,YB,List.map_nil,go_sem,seval];refine Ux (TL t 10 Za) ?_;simp (disch:=omega) only [go_sem,seval];have hle:=Ic t;have cw:=Ho (Xm t 10).1 Za;rw [X3] at h5;rw [X3]
   generalize (Xm t 10).1=c1 at *
   generalize (Xm t 10).2.1=c2 at *
   generalize (Xm t 10).2.2=c3 at *
   refine mX cw fun o hw=> ?_;have hl:=Hm hw (fun h=>BN h) (f:=YD) rfl;have hr:=Hm hw (fun h=>EA h) (f:=VT) rfl
   cases o with
   | none =>
    have hl:none=YD (Xc c1):=hl;have hr:none=VT (Xc c1):=hr;rw [<- hl,<- hr]
    cases c3 with
    | false =>
     rw [if_pos rfl];simp (disch:=omega) only [Wi,Bool.not_false,go_sem,seval];exact we (by simp (disch:=omega) only [UM,YB,List.map_nil,go_sem,seval])
    | true =>
     rw [if_neg Zb];simp (disch:=omega) only [Wi,Bool.not_true,go_sem,seval];exact we (by simp (disch:=omega) only [UM,YB,List.map_nil,go_sem,seval])
   | some ws =>
    have hl:YD ws=YD (Xc c1):=hl;have hr:VT ws=VT (Xc c1):=hr;rw [<- hl,<- hr] at h5;rw [<- hl,<- hr]
    cases c3 with
    | false =>
     rw [if_pos rfl];simp (disch:=omega) only [Wi,Bool.not_false,go_sem,seval];exact we (by simp (disch:=omega) only [UM,YB,List.map_nil,go_sem,seval])
    | true =>
     rw [if_neg Zb];obtain ⟨hwl,hwm⟩:=LB hw ws rfl;simp (disch:=omega) only [Wi,Bool.not_true,go_sem,seval];have hlt:=(hcl Zb).1;have cl:=B4 ws false Za (fun w hw=>by have:=hwm w hw;omega);have crt:=AF ws false Za (fun w hw=>⟨by have:=hwm w hw;omega,(hwm w hw).1⟩);unfold Jy at cl;unfold Ez at crt
     cases hu:YD ws with
     | some us =>
      rw [hu] at cl;refine Yj cl ?_;simp (disch:=omega) only [go_sem,seval];refine cD ?_ ?_<;>intro h6<;>simp (disch:=omega) only [Sh.out h6,go_sem,seval]
      ·rw [if_pos h6];exact we (by simp (disch:=omega) only [UM,YB,List.map_nil,go_sem,seval])
      ·rw [if_neg h6];refine Zs (Weak.fz (o:=2) (by rfl)) ?_;refine Ze [] _ _ _ _ ?_;simp (disch:=omega) only [List.map_cons,List.map_nil,List.set_cons_succ,List.set_cons_zero,go_sem,seval];exact we (by simp (disch:=omega) only [UM,go_sem,seval])
     | none =>
      rw [hu] at cl;refine Yj cl ?_;simp (disch:=omega) only [go_sem,seval]
      cases hr:VT ws with
      | none =>
       rw [hr] at crt;refine Yj crt ?_;simp (disch:=omega) only [go_sem,seval];exact we (by simp (disch:=omega) only [UM,YB,List.map_nil,go_sem,seval])
      | some r =>
       rw [hr] at crt;refine Yj crt ?_;simp (disch:=omega) only [go_sem,seval]
       exact ⟨(k+1,c2,rs++ [r]),⟨by simp only;omega,by simp only [List.length_append,List.length_cons,List.length_nil];omega,by
        simp only
        rw [show s.length+1-(k+1)=f by omega,show (((k+1:Nat):Int)+1)=(k:Int)+1+1 by omega]⟩,by simp only;omega,Weak.mk (by simp (disch:=omega) only [Zy,YB,List.map_nil,List.length_append,List.length_cons,List.length_nil,List.map_append,List.map_cons,go_sem,seval])⟩
def kQ (p:Pln):Prop:=p.routes.length<=1048576/\p.unserved.length<=1048576/\ ∀r∈p.routes,Ur r
theorem Ak (haw:PC 16 [] (.bool true)) (s:List UInt8) (hs:s.length<=1048576) :
  PC 6 [.p (.str s)] (.bool true):=by
 refine Y3 [] Tryz.func6 rfl kC ?_;simp (disch:=omega) only [Tryz.f6,go_sem,seval];refine cD ?_ ?_<;>intro h1<;>simp (disch:=omega) only [Sh.out h1,go_sem,seval]
 ·refine (haw).use ?_;simp (disch:=omega) only [go_sem,seval]
 ·have c1:=Dh s Za;have c2:=Eo s Za;have hno:=GN (s.length+1) 1 [] s;have hok:(X3 (s.length+1) 1 [] s).2.2=0->Dj (X3 (s.length+1) 1 [] s).1=s/\PrOk (X3 (s.length+1) 1 [] s).1:=fun h=>O3 (m:=(X3 (s.length+1) 1 [] s).2.1) (Prod.ext rfl (Prod.ext rfl h)) Za
  generalize X3 (s.length+1) 1 [] s=Q at *
  obtain ⟨q,n,e⟩:=Q;simp only at hno hok;have hsm:VX q q=true:=JO rfl (fun k _=>Us.2 ⟨rfl,rfl,rfl,rfl⟩) rfl
  have hB:kQ q:=by
   rcases hno with h | ⟨rfl,_⟩
   ·obtain ⟨_,o1,o2,o3,_⟩:=hok h;exact ⟨Za,Za,fun r hr=>by obtain ⟨a1,_,_,a4,_⟩:=o3 r hr;have a4:_<=_:=a4;exact ⟨Za,Za⟩⟩
   ·exact ⟨by decide,by decide,fun r hr=>by cases hr⟩
  have c4:=Ha q q hB hB;rw [hsm] at c4;refine Ux c1 ?_;simp (disch:=omega) only [go_sem,seval];refine Ux c2 ?_;simp (disch:=omega) only [decide_true,eq_self,go_sem,seval];refine (c4).use ?_;simp (disch:=omega) only [go_sem,seval];rcases hno with h | ⟨_,h⟩
  ·subst h;obtain ⟨o1,o2⟩:=hok rfl;have c5:=Dk q o2;rw [o1] at c5;simp (disch:=omega) only [go_sem,seval];refine (c5).use ?_;simp (disch:=omega) only [go_sem,seval];refine (haw).use ?_;simp (disch:=omega) only [go_sem,seval]
  ·subst h;simp (disch:=omega) only [go_sem,seval];refine (haw).use ?_;simp (disch:=omega) only [go_sem,seval]
def awkS : List UInt8:= [114,111,117,116,101,32,48,32,48,32,46,32,43,50,32,45,50,10,117,110,115,101,114,118,101,100,32,48,32,49,10]
def DN : Pln:=⟨false,[⟨0,0,true,[],false,[⟨2,false⟩,⟨2,true⟩]⟩],false,[0,1]⟩
theorem H5 : X3 (awkS.length+1) 1 [] awkS=(DN,0,0):=Zh
theorem BV : PT 19 [.p (.str awkS)] [.p (Qg DN),.p (.int .i64 0),.p (.int .i64 0)]:=by
 have h:=Dh awkS (by decide);rw [H5] at h;exact h
def awkQ : Pln:=⟨false,[⟨0,0,true,[],false,[⟨2,false⟩,⟨2,true⟩]⟩],false,[0,1]⟩
theorem H7 : Dj awkQ=awkS:=Zh
theorem Fc : PrOk awkQ:=by
 refine ⟨by decide,by decide,fun r hr=> ?_,fun u hu=> ?_⟩
 ·simp only [awkQ,List.mem_cons,List.not_mem_nil,or_false] at hr;subst hr;refine ⟨by decide,⟨by decide,by decide⟩,⟨by decide,by decide⟩,Nat.zero_le _,fun v hv=> ?_⟩;simp only [List.mem_cons,List.not_mem_nil,or_false] at hv;rcases hv with rfl | rfl<;>exact ⟨by decide,by decide⟩
 ·simp only [awkQ,List.mem_cons,List.not_mem_nil,or_false] at hu;rcases hu with rfl | rfl<;>exact ⟨by decide,by decide⟩
theorem Fe : VX awkQ DN=true:=rfl
theorem CJ (q:Pln) (h:q=awkQ\/q=DN):q.routes.length<=1048576/\q.unserved.length<=1048576/\ ∀r∈q.routes,Ur r:=by
 rcases h with rfl | rfl
 all_goals
  refine ⟨by decide,by decide,fun r hr=> ?_⟩;simp only [awkQ,DN,List.mem_cons,List.not_mem_nil,or_false] at hr;subst hr;exact ⟨by decide,by decide⟩
theorem DM : PC 16 [] (.bool true):=by
 refine Zd [1] Tryz.func16 rfl T5 ?_;simp (disch:=omega) only [Tryz.f16,go_sem,seval];refine ZW (KW 3 3 ?_);simp (disch:=omega) only [go_sem,seval];refine ⟨_,_,Weak.fz (o:=0) (by rfl),?_⟩;simp (disch:=omega) only [List.map_cons,List.map_nil,List.set_cons_succ,List.set_cons_zero,List.cons_append,List.nil_append,go_sem,seval];refine ⟨_,_,(Weak.fz (o:=1) (by rfl)).trans (Weak.fz (o:=2) (by rfl)),?_⟩;simp (disch:=omega) only [List.map_cons,List.map_nil,List.set_cons_succ,List.set_cons_zero,List.cons_append,List.nil_append,go_sem,seval];refine Ze [] _ _ _ _ ?_
 simp (disch:=omega) only [go_sem,seval];refine Hj BV ?_;simp (disch:=omega) only [go_sem,seval];refine (Dk awkQ Fc).use ?_;rw [H7];simp (disch:=omega) only [awkS,decide_true,go_sem,seval];refine (I6 awkQ DN (CJ _ (.inl rfl)) (CJ _ (.inr rfl))).use ?_;rw [Fe];simp (disch:=omega) only [go_sem,seval];refine (MX).use ?_;simp (disch:=omega) only [go_sem,seval];refine (O1 bareI Py MW (by decide) (by decide) (by simp [Py])).use ?_;rw [Fp];simp (disch:=omega) only [go_sem,seval];exact we
theorem Q2 (s:List UInt8) (hs:s.length<=1048576):PC 6 [.p (.str s)] (.bool true):=Ak DM s hs
end Go.Proofs.YtmbelkfkhclnkaaGreatDoor.K
