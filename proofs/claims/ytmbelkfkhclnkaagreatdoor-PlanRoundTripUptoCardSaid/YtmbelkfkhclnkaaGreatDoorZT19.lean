/- Declarations that the closing texts need, part 19: joined by tools/slim.py. -/
import Derived.Test.YtmbelkfkhclnkaaGreatDoorZT18
import Derived.Shelf.Strings.OnBuilder
set_option linter.unusedVariables false
set_option linter.unusedSimpArgs false
namespace Go.Proofs.YtmbelkfkhclnkaaGreatDoor.K
open Go Go.AM Go.Proofs Go.Shelf Go.RowKit
set_option maxRecDepth 8000
set_option maxHeartbeats 8000000
theorem U7 : Builder.Extra Tryz.prog layJoin_ren:= {
 sizeBuilder:=Zg,liesBuilder:=Zg,
 t5:=Tryz.underlying5,a5:=Tryz.isAgg5,z5:=Tryz.sizeOf5,v5:=Tryz.zeroValue5,
 infoByte:=Zg,cellsByte:=Zg,sizeByte:=Zg,neB5:=by decide }
theorem pL (xs:List (List UInt8)):(xs.map fun s=>(⟨s.toArray⟩:ByteArray)).map (fun x=>x.data.toList)=xs:=by
 rw [List.map_map];rw [show ((fun x:ByteArray=>x.data.toList)∘fun s:List UInt8=>(⟨s.toArray⟩:ByteArray))=id from funext fun s=>Zb,List.map_id]
theorem Pb (xs:List (List UInt8)) (c:Bool) (sep:List UInt8) (hx:xs.length<=1048576) (hl:(Zw xs sep).length<=140737488355328) :
  PC 91 [.p (.list c (xs.map Vg)),.p (.str sep)] (.str (Zw xs sep)):=by
 refine ⟨cJ,fun F ι w vs hr hv=> ?_⟩;obtain ⟨h1,h2⟩:=hv;have e0:=h2 0 _ rfl;have e1:=Q3 (h2 1 _ rfl)
 have hvs:vs= #[vs.getD 0 undef,.string ⟨sep.toArray⟩]:=by
  apply Array.ext
  ·simpa using h1
  ·intro i h3 h4
   have:i=0\/i=1:=by simp at h4;omega
   rcases this with rfl | rfl
   ·simp [Array.getD,h3]
   ·have:vs.getD 1 undef=vs[1]:=by simp [Array.getD,h3]
    rw [<- this,e1];rfl
 have hι:ι= []:=List.eq_nil_of_length_eq_zero hr.len;subst hι;rw [hvs];generalize vs.getD 0 undef=v at e0;clear hvs h1 h2 e1 vs
 have fin: ∀ {w' e},e=Ending.returned (.string ⟨(Zw xs sep).toArray⟩)/\Below w.heap.size w w'-> ∃x H' ι' v,e= .returned v/\(x=V.p (.str (Zw xs sep))/\H'= [])/\Go.AM.Good F [] [] w H' ι' w'/\RV F H' ι' w' x v:=by
  rintro w' e ⟨rfl,hb⟩;exact ⟨_,_,[],_,rfl,⟨rfl,rfl⟩,QB hr.env hr.fin hb,.p _ _ (.str _)⟩
 have none: ∀a cap,xs= []->Calls Tryz.prog 91 #[.slice a 0 cap,.string ⟨sep.toArray⟩] w fun e w'=> ∃x H' ι' v,e= .returned v/\(x=V.p (.str (Zw xs sep))/\H'= [])/\Go.AM.Good F [] [] w H' ι' w'/\RV F H' ι' w' x v:=fun a cap he=>by
  refine (Any.strings_Join_none VN U7 a cap ⟨sep.toArray⟩ w).mono ?_;rintro e w' ⟨he2,rfl⟩;refine fin ⟨?_,Below.refl _ _⟩;rw [he2,he];rfl
 cases e0 with | p _ _ h =>
 generalize hm:xs.map Vg=ys at h
 cases h with
 | nils=>exact none _ _ (by simpa using hm)
 | emp=>exact none _ _ (by simpa using hm)
 | list cl xs2 b off cap S u hX hb hc hm2 hcl hS hu hr2 =>
  subst hm;rw [List.length_map];have key:=Any.strings_Join VN U7 b off cap (xs.map fun s=>⟨s.toArray⟩) ⟨sep.toArray⟩ w ?_ hb (by rw [List.length_map];omega) (by simpa using hc) ?_
  ·rw [List.length_map] at key;refine key.mono fun e w' h=>fin ?_;rw [pL] at h;simpa [Zw] using h
  ·intro j x hj;rw [List.getElem?_map,Option.map_eq_some_iff] at hj;obtain ⟨t,ht,rfl⟩:=hj
   have hj2:(xs.map Vg)[j]? =some (Vg t):=by rw [List.getElem?_map,ht];rfl
   have hc0:(Vg t).cells[0]? =some (.str t):=rfl
   have hS1:S=1:=by rw [<- hS j _ hj2];rfl
   have g1:=hu j _ 0 _ hj2 hc0;have g2:=(hr2 j _ 0 _ hj2 hc0).str_inv;rw [g2,hS1,Nat.mul_one,Nat.add_zero] at g1;exact g1
  ·rw [pL];simpa [Zw] using hl
set_option maxRecDepth 100000
theorem cS : Lays.n166 Tryz.prog layJoin_ren:= { VN with }
theorem Pe : Lays.n169 Tryz.prog layJoin_ren:= { VN with }
theorem CP {P:Program} {ρ:Ren} (L:Lays.n166 P ρ) (X:Builder.Extra P ρ) {n:Nat} {p v:Value} {b:Nat} {xs:List Value} {w:World} (s:List UInt8) (hs:s≠ []) (hbk:w.heap[b]? =some (.cells #[p,v] (ρ.t 72) (0,0))) (hp:p= .pointer none\/p= .pointer (some ⟨b,0,none⟩)) (hne:v.ownBlock≠some b)
  (hown:w.ownsRow 0 (ρ.t 5) 1 v n xs) (hb:n+s.length<=140737488355328) :
  Calls P (ρ.f 166) #[.pointer (some ⟨b,0,none⟩),.string ⟨s.toArray⟩] w fun e w'=>e= .returned (.tuple #[.int .i64 s.length,.nilIface]) /\
   ∃v' w1 w2,Turned w w1 b #[.pointer (some ⟨b,0,none⟩),v] (ρ.t 72)/\Grew w1 w2 v.ownBlock v'.ownBlock/\w2.ownsRow 0 (ρ.t 5) 1 v' (n+s.length) (xs++s.map fun x=> .int .u8 x.toNat)/\w'=w2.setCell ⟨b,1,none⟩ v':=by
 obtain ⟨i0,hi,hz0,hz1,hz2⟩:=info_parts X.infoByte;have mixed:=L.mixed;have t72:=L.t72;have a72:=L.a72;have z72:=L.z72;have v72:=L.v72;have u72:=run_underlying L.t72;have t70:=L.t70;have a70:=L.a70;have z70:=L.z70;have v70:=L.v70;have u70:=run_underlying L.t70;have t37:=L.t37;have a37:=L.a37;have z37:=L.z37;have v37:=L.v37;have u37:=run_underlying L.t37;have t3:=L.t3;have a3:=L.a3;have z3:=L.z3;have v3:=L.v3;have u3:=run_underlying L.t3;have t9:=L.t9;have a9:=L.a9;have z9:=L.z9;have v9:=L.v9;have u9:=run_underlying L.t9
 have t4:=L.t4;have a4:=L.a4;have z4:=L.z4;have v4:=L.v4;have u4:=run_underlying L.t4;have t164:=L.t164;have a164:=L.a164;have z164:=L.z164;have v164:=L.v164;have u164:=run_underlying L.t164
 have hcc:Calls P (ρ.f 240) #[.pointer (some ⟨b,0,none⟩)] w fun e w1=>e= .returned (.tuple #[])/\Turned w w1 b #[.pointer (some ⟨b,0,none⟩),v] (ρ.t 72):=by
  rcases hp with rfl | rfl
  ·refine (Any.Builder_copyCheck_fresh { L with } X.toX72 b w (by rw [Lib.cell_of_heap hbk];rfl) (by show w.shape? b=_;simp [World.shape?,hbk]) (Lib.frozen_of_heap hbk 0)).mono ?_;rintro e w' ⟨rfl,rfl⟩;exact ⟨rfl,rfl,⟨rfl,.inr trivial⟩,rfl,Nat.le_refl _,by simp [World.setCell],by simp [World.setCell,Array.getElem?_modify,hbk],fun k hk=>Below.heap_setCell _ _ _ _ (fun e=>hk (by simpa using e))⟩
  ·refine (Any.Builder_copyCheck_used { L with } X.toX72 b w (by rw [Lib.cell_of_heap hbk];rfl)).mono ?_;rintro e w' ⟨rfl,rfl⟩;exact ⟨rfl,rfl,⟨rfl,.inr trivial⟩,rfl,Nat.le_refl _,rfl,hbk,fun _ _=>rfl⟩
 have e240: ∀args w,(callFunc (ρ.f 240) args).run P w= .ok (.enter (ρ.f 240) args) w:=enters_of L.f240 Zg rfl
 go_enter L.f166,Body.n166_ntmps _
 go_wp2_with (go_at_fn (ρ.f 240);refine hcc.mono ?_)
 rintro e w1 ⟨rfl,hT⟩
 have c0:w1.cell? ⟨b,0,none⟩=some (.pointer (some ⟨b,0,none⟩)):=by rw [Lib.cell_of_heap hT.at'];rfl
 have c1:w1.cell? ⟨b,1,none⟩=some v:=by rw [Lib.cell_of_heap hT.at'];rfl
 have hown1:w1.ownsRow 0 (ρ.t 5) 1 v n xs:=by
  rcases hown with ⟨o1,o2 | ⟨g,cap,cur,o2,o3,o4,o5⟩⟩
  ·exact ⟨o1,.inl o2⟩
  ·exact ⟨o1,.inr ⟨g,cap,cur,o2,o3,by rw [hT.other g (fun e=>hne (by rw [o2,e];rfl))];exact o4,o5⟩⟩
 go_wp2_with (at_builtin;refine BB rfl _ _ _ _ rfl (ρ.t 5) i0 L.t37 L.t9 hi hz0 hz1 hz2 v n xs rfl hown1 s hs rfl hb ?_)
 intro v' w2 hown' hG;have hlt:b<w1.heap.size:=(Array.getElem?_eq_some_iff.1 hT.at').1
 have hb2:w2.heap[b]? =some (.cells #[.pointer (some ⟨b,0,none⟩),v] (ρ.t 72) (0,0)):=by
  rw [hG.old b hlt (fun e=>hne e.symm)];exact hT.at'
 have d0:w2.cell? ⟨b,0,none⟩=some (.pointer (some ⟨b,0,none⟩)):=by rw [Lib.cell_of_heap hb2];rfl
 have d1:w2.cell? ⟨b,1,none⟩=some v:=by rw [Lib.cell_of_heap hb2];rfl
 have f1:w2.frozen? ⟨b,1,none⟩=false:=Lib.frozen_of_heap hb2 1
 obtain ⟨ao,n',cap,rfl⟩: ∃ao n' cap,v'= .slice ao n' cap:=by
  rcases hown'.2 with ⟨hv,_⟩ | ⟨g,cap,cur,hv,_⟩
  ·exact ⟨_,_,_,hv⟩
  ·exact ⟨_,_,_,hv⟩
 go_wp2
 go_ret2
 exact ⟨Zb,_,w1,w2,hT,hG,hown',rfl⟩
theorem HN {H:List AM.Obj} {o r:Nat} {bs:List UInt8} (hH:H[o]? =some (.bld 77 5 r bs)) (s:List UInt8) (hs:s≠ []) (hl:bs.length+s.length<=140737488355328) :
  ACalls Tryz.prog 31 [.bp o,.p (.str s)] H fun x H'=>x= .tup [.p (.int .i64 s.length),.p .nili]/\H'=H.set o (.bld 77 5 r (bs++s)):=by
 refine ⟨bG,fun F ι w vs hr hv=> ?_⟩;obtain ⟨h1,h2⟩:=hv;have e0:=h2 0 _ rfl;have e1:=Q3 (h2 1 _ rfl);obtain ⟨hor,hrd,b,go,q1,q2,p,v,w1,w2,w3,w4⟩:=hr.bldr o _ _ r bs hH
 have e0':vs.getD 0 undef= .pointer (some ⟨b,0,none⟩):=by
  generalize vs.getD 0 undef=x at e0
  cases e0 with
  | bp _ b2 T2 E2 r2 bs2 h hH2=>rw [q1] at h;simp at h;rw [h]
  | bpD _ _ h=>rw [hH] at h;cases h
 have hvs:vs= #[.pointer (some ⟨b,0,none⟩),.string ⟨s.toArray⟩]:=by
  apply Array.ext
  ·simpa using h1
  ·intro i h3 h4
   have:i=0\/i=1:=by simp at h4;omega
   rcases this with rfl | rfl
   ·have:vs.getD 0 undef=vs[0]:=by simp [Array.getD,h3]
    rw [<- this,e0'];rfl
   ·have:vs.getD 1 undef=vs[1]:=by simp [Array.getD,h3]
    rw [<- this,e1];rfl
 subst w3
 have hne:v.ownBlock≠some b:=fun e=>by have:=hr.inj o r b q1 (by rw [q2,e]);omega
 rw [hvs];refine (CP cS U7 s hs w1 w2 hne w4 hl).mono ?_;rintro e w' ⟨rfl,v',wa,wb,hT,hG,ho,rfl⟩;refine ⟨_,_,_,_,rfl,⟨rfl,rfl⟩,JB (bs':=bs++s) hr hH q1 q2 w1 hT hG (by rw [List.length_append,List.map_append];exact ho) hne,.tup _ _ rfl fun j c hj=> ?_⟩
 match j,hj with
 | 0,hj=>simp at hj;subst hj;exact .p _ _ (.int _ _)
 | 1,hj=>simp at hj;subst hj;exact .p _ _ .nili
 | j+2,hj=>simp at hj
theorem BT {P:Program} {ρ:Ren} (L:Lays.n169 P ρ) (X:Builder.Extra P ρ) {p v:Value} {b:Nat} {l:List UInt8} {w:World} (h0:l≠ []) (hbk:w.heap[b]? =some (.cells #[p,v] (ρ.t 72) (0,0))) (hown:w.ownsRow 0 (ρ.t 5) 1 v l.length (l.map fun x=> .int .u8 x.toNat)) :
  Calls P (ρ.f 169) #[.pointer (some ⟨b,0,none⟩)] w fun e w'=>e= .returned (.string ⟨l.toArray⟩)/\ ∃g n,v.ownBlock=some g/\w'=w.drew.freeze ⟨g,0,none⟩ n:=by
 have hl0:l.length≠0:=by simpa using h0
 obtain ⟨g,cap,cur,rfl,hg,hnc,hcm,hcs,htake⟩: ∃g cap cur,v= .slice (some ⟨g,0,none⟩) l.length cap/\w.heap[g]? =some (.cells cur (ρ.t 5) (0,0))/\l.length<=cap/\cap<=maxLen/\cur.size=cap*1/\cur.toList.take (l.length*1)=l.map fun x=>Value.int .u8 x.toNat:=by
  rcases hown.2 with ⟨_,hz⟩ | ⟨g,cap,cur,hv,_,r⟩
  ·exact absurd hz hl0
  ·exact ⟨g,cap,cur,hv,r⟩
 have c1:w.drew.cell? ⟨b,1,none⟩=some (.slice (some ⟨g,0,none⟩) l.length cap):=by
  have:w.drew.heap[b]? =some (.cells #[p,.slice (some ⟨g,0,none⟩) l.length cap] (ρ.t 72) (0,0)):=hbk;rw [Lib.cell_of_heap this];rfl
 have hSD:(Builtin.unsafeSliceData_ #[(ρ.t 37)] (ρ.t 127) #[.slice (some ⟨g,0,none⟩) l.length cap]).run P w.drew= .ok (.pointer (some ⟨g,0,none⟩)) w.drew :=
  Lib.run_unsafeSliceData_row _ _ _ _ _ _ Za
 have hUS:(Builtin.unsafeString_ #[(ρ.t 127),(ρ.t 3)] (ρ.t 9) #[.pointer (some ⟨g,0,none⟩),.int .i64 l.length]).run P w.drew= .ok (.string ⟨l.toArray⟩) (w.drew.freeze ⟨g,0,none⟩ l.length):=by
  refine Lib.run_unsafeString_row w.drew (ρ.t 127) (ρ.t 3) (ρ.t 9) (ρ.t 5) L.t127 X.cellsByte g cur.size (by have hg':w.drew.heap[g]? =some (.cells cur (ρ.t 5) (0,0)):=hg;simp [World.shape?,hg']) l h0 Za (by unfold maxLen at hcm;omega) ?_;intro j x hx;have:=hown.cells (g:=g) rfl j (.int .u8 x.toNat) (by simp [hx]);exact this
 have mixed:=L.mixed;have t72:=L.t72;have a72:=L.a72;have z72:=L.z72;have v72:=L.v72;have u72:=run_underlying L.t72;have t70:=L.t70;have a70:=L.a70;have z70:=L.z70;have v70:=L.v70;have u70:=run_underlying L.t70;have t37:=L.t37;have a37:=L.a37;have z37:=L.z37;have v37:=L.v37;have u37:=run_underlying L.t37;have t127:=L.t127;have a127:=L.a127;have z127:=L.z127;have v127:=L.v127;have u127:=run_underlying L.t127;have t3:=L.t3;have a3:=L.a3;have z3:=L.z3;have v3:=L.v3;have u3:=run_underlying L.t3;have t9:=L.t9;have a9:=L.a9;have z9:=L.z9;have v9:=L.v9;have u9:=run_underlying L.t9
 have t5:=X.t5;have a5:=X.a5;have z5:=X.z5;have v5:=X.v5;have u5:=run_underlying X.t5
 go_enter L.f169,Body.n169_ntmps _
 go_wp2
 go_region_o
 all_goals (go_wp2;go_ret;exact ⟨rfl,g,_,rfl,rfl⟩)
theorem FD {H:List AM.Obj} {o r:Nat} {bs:List UInt8} (hH:H[o]? =some (.bld 77 5 r bs)) (hs:bs≠ []) :
  ACalls Tryz.prog 33 [.bp o] H fun x H'=>x= .p (.str bs)/\H'=H.set o .dead:=by
 refine ⟨bH,fun F ι w vs hr hv=> ?_⟩;obtain ⟨h1,h2⟩:=hv;have e0:=h2 0 _ rfl;obtain ⟨hor,hrd,b,go,q1,q2,p,v,w1,w2,w3,w4⟩:=hr.bldr o _ _ r bs hH
 have e0':vs.getD 0 undef= .pointer (some ⟨b,0,none⟩):=by
  generalize vs.getD 0 undef=x at e0
  cases e0 with
  | bp _ b2 T2 E2 r2 bs2 h hH2=>rw [q1] at h;simp at h;rw [h]
  | bpD _ _ h=>rw [hH] at h;cases h
 have hvs:vs= #[.pointer (some ⟨b,0,none⟩)]:=by
  apply Array.ext
  ·simpa using h1
  ·intro i h3 h4
   have:i=0:=by simp at h4;omega
   subst this
   have:vs.getD 0 undef=vs[0]:=by simp [Array.getD,h3]
   rw [<- this,e0'];rfl
 rw [hvs];refine (BT Pe U7 hs w1 w4).mono ?_;rintro e w' ⟨rfl,g,n,hg,rfl⟩;refine ⟨_,_,_,_,rfl,⟨rfl,rfl⟩,Ay hr hH q1 q2 ?_ ?_ ?_ ?_ ?_,.p _ _ (.str _)⟩
 ·unfold World.freeze;split<;>rfl
 ·refine ⟨?_,.inr trivial⟩;unfold World.freeze;split<;>rfl
 ·unfold World.freeze;split<;>rfl
 ·unfold World.freeze
  split
  ·exact Nat.le_refl _
  ·show w.heap.size<=(Array.modify w.heap _ _).size
   rw [Array.size_modify];exact Nat.le_refl _
 ·intro k hk hne;have:k≠g:=fun e=>hne (by rw [<- w3,hg,e]);unfold World.freeze
  split
  ·rfl
  ·simp only [Array.getElem?_modify];rw [if_neg (fun e=>this e.symm)]
   rfl
end Go.Proofs.YtmbelkfkhclnkaaGreatDoor.K
namespace Go.AM
open Go.RowKit
theorem Grew.afterAlloc {w w2:World} {ob:Go.Obj} {go go':Option Nat} (h:Grew (w.alloc ob) w2 go go'):Grew w w2 go go':=by
 have sz:(w.alloc ob).heap.size=w.heap.size+1:=by show (w.heap.push ob).size=_;simp
 have old: ∀k,k<w.heap.size->(w.alloc ob).heap[k]? =w.heap[k]? :=fun k hk=>by
  show (w.heap.push ob)[k]? =_
  rw [Array.getElem?_push,if_neg Za]
 refine ⟨h.os,h.tape.trans (Tp.of rfl (Nat.le_refl _)),h.output,by have:=h.size;omega,fun k hk hg=>by rw [h.old k Za hg,old k hk],fun g hg=> ?_,fun g c t hg hw=>h.shape g c t hg (by rw [old g (Array.getElem?_eq_some_iff.1 hw).1];exact hw)⟩;obtain ⟨h1,h2⟩:=h.new g hg;exact ⟨h1,h2.imp id fun h=>Za⟩
theorem AV {P:Program} {o:Oper} {a:Act} {w:World} {K:Act->World->Prop} {Q:Exit->Act->World->Prop} {t e:TypeId} {x:Operand} {n:Int} {i:TypeInfo} (ho:o.op= .buildSlice t 1 #[(0,x)]) (ht:P.underlying t=some (.slice e)) (hi:P.info? e=some i) (hz:i.zero=some (.int .u8 0)) (hs:i.size=1) (hx:a.eval x= .int .u8 n)
  (h:K (a.put o.dst (.slice (some ⟨w.heap.size,0,none⟩) 1 1)) (w.alloc (.cells #[.int .u8 n] e))):Oper.wp P o a w K Q:=by
 have h1:(sizeOf e).run P w= .ok 1 w:=ZH (by simp [Xq,hi,hs])
 have hr:(execOp a.eval o).run P w= .ok (.value (.slice (some ⟨w.heap.size,0,none⟩) 1 1)) (w.alloc (.cells #[.int .u8 n] e)):=by
  have e1:Array.range 1= #[0]:=by decide
  have hc: ∀m,(Value.int IntKind.u8 m).cells= #[Value.int IntKind.u8 m]:=fun _=>rfl;simp [execOp,ho,Instr.buildSlice,run_underlying ht,h1,zeroValue,typeInfo,hi,hz,newRow,Instr.fill,hx,e1,hc]
 unfold Oper.wp;rw [hr];exact h
theorem KQ {P:Program} {w:World} {ops:Array Oper} {rest:List Oper} {o:Oper} {a:Act} {Q:Exit->Act->World->Prop} (hgd:o.guard=none) (sl x:Operand) (t:TypeId)
  (ho:o.op= .call { callee:= .builtin .append,args:= #[sl,x],argTypes:= #[t,t] }) (e:TypeId) (i:TypeInfo) (ht:P.underlying t=some (.slice e)) (hi:P.info? e=some i) (hz:i.zero=some (.int .u8 0)) (hs1:i.size=1) (hby:i.bytes=1)
  (v:Value) (n:Nat) (xs:List Value) (hs:a.eval sl=v) (hown:w.ownsRow 0 e 1 v n xs) (c:UInt8) (ad:Addr) (hx:a.eval x= .slice (some ad) 1 1) (hc:w.cell? ad=some (.int .u8 c.toNat)) (hb:n+1<=140737488355328)
  (h: ∀v' w',w'.ownsRow 0 e 1 v' (n+1) (xs++ [.int .u8 c.toNat])->Grew w w' v.ownBlock v'.ownBlock->wpList P ops Q rest (a.put o.dst v') w'):wpList P ops Q (o::rest) a w:=by
 refine wpList_plain hgd fun K hK=> ?_
 have hsrc:Src P (fun _=>False) w t (.slice (some ad) 1 1) 1 ([c].map fun b=>PV.int .u8 b.toNat) ([c].map fun b=>Value.int .u8 b.toNat):=by
  refine ⟨rfl,.inr ⟨e,ht⟩,fun w'=>by simp [Builtin.lenOf],fun w' hw=>YZ (w:=w) Zb (fun j u hj=> ?_) w' hw,fun i y j d hi hj=> ?_⟩
  ·cases j with
   | zero=>simp at hj;subst hj;simpa [Addr.add] using hc
   | succ j=>simp at hj
  ·cases i with
   | zero =>
    simp at hi;subst hi
    cases j with
    | zero=>simp [PV.cells] at hj;subst hj;exact .int _ _
    | succ j=>simp [PV.cells] at hj
   | succ i=>simp at hi
 obtain ⟨v',w',hr,h2,h3⟩:=Ba (P:=P) (ty:=o.type) ht hi hz hs1 hby hown [c] Zb hsrc hb;unfold Oper.wp execOp;simp only [ho,resolve,invoke,builtin,Sem.run_bind,Sem.run_pure,Result.andThen_ok,List.map_toArray,List.map_cons,List.map_nil,hs,hx,hr];exact hK _ _ (h v' w' h2 h3)
end Go.AM
namespace Go.Proofs.YtmbelkfkhclnkaaGreatDoor.K
open Go Go.AM Go.Proofs Go.Shelf Go.RowKit
set_option maxRecDepth 100000
set_option maxHeartbeats 8000000
def wbR : Ren:=⟨fun | 167=>90 | n=>layJoin_ren.f n,layJoin_ren.t,layJoin_ren.g⟩
theorem cR : Lays.n167 Tryz.prog wbR:= { VN with
 f167:=Tryz.func90.trans (congrArg some Zg),
 t5:=Tryz.underlying5,a5:=Tryz.isAgg5,z5:=Tryz.sizeOf5,v5:=Tryz.zeroValue5 }
theorem aK : Builder.Extra Tryz.prog wbR:= {
 sizeBuilder:=Zg,liesBuilder:=Zg,
 t5:=Tryz.underlying5,a5:=Tryz.isAgg5,z5:=Tryz.sizeOf5,v5:=Tryz.zeroValue5,
 infoByte:=Zg,cellsByte:=Zg,sizeByte:=Zg,neB5:=by decide }
theorem Bu {P:Program} {ρ:Ren} (L:Lays.n167 P ρ) (X:Builder.Extra P ρ) {n:Nat} {p v:Value} {b:Nat} {xs:List Value} {w:World} (c:UInt8) (hbk:w.heap[b]? =some (.cells #[p,v] (ρ.t 72) (0,0))) (hp:p= .pointer none\/p= .pointer (some ⟨b,0,none⟩)) (hne:v.ownBlock≠some b)
  (hown:w.ownsRow 0 (ρ.t 5) 1 v n xs) (hb:n+1<=140737488355328) :
  Calls P (ρ.f 167) #[.pointer (some ⟨b,0,none⟩),.int .u8 c.toNat] w fun e w'=>e= .returned .nilIface /\
   ∃v' w1 w2,Turned w w1 b #[.pointer (some ⟨b,0,none⟩),v] (ρ.t 72)/\Grew w1 w2 v.ownBlock v'.ownBlock/\w2.ownsRow 0 (ρ.t 5) 1 v' (n+1) (xs++ [.int .u8 c.toNat])/\w'=w2.setCell ⟨b,1,none⟩ v':=by
 obtain ⟨i0,hi,hz0,hz1,hz2⟩:=info_parts X.infoByte;have mixed:=L.mixed;have t72:=L.t72;have a72:=L.a72;have z72:=L.z72;have v72:=L.v72;have u72:=run_underlying L.t72;have t70:=L.t70;have a70:=L.a70;have z70:=L.z70;have v70:=L.v70;have u70:=run_underlying L.t70;have t5:=L.t5;have a5:=L.a5;have z5:=L.z5;have v5:=L.v5;have u5:=run_underlying L.t5;have t37:=L.t37;have a37:=L.a37;have z37:=L.z37;have v37:=L.v37;have u37:=run_underlying L.t37;have t9:=L.t9;have a9:=L.a9;have z9:=L.z9;have v9:=L.v9;have u9:=run_underlying L.t9
 have t4:=L.t4;have a4:=L.a4;have z4:=L.z4;have v4:=L.v4;have u4:=run_underlying L.t4;have t164:=L.t164;have a164:=L.a164;have z164:=L.z164;have v164:=L.v164;have u164:=run_underlying L.t164
 have hcc:Calls P (ρ.f 240) #[.pointer (some ⟨b,0,none⟩)] w fun e w1=>e= .returned (.tuple #[])/\Turned w w1 b #[.pointer (some ⟨b,0,none⟩),v] (ρ.t 72):=by
  rcases hp with rfl | rfl
  ·refine (Any.Builder_copyCheck_fresh { L with } X.toX72 b w (by rw [Lib.cell_of_heap hbk];rfl) (by show w.shape? b=_;simp [World.shape?,hbk]) (Lib.frozen_of_heap hbk 0)).mono ?_;rintro e w' ⟨rfl,rfl⟩;exact ⟨rfl,rfl,⟨rfl,.inr trivial⟩,rfl,Nat.le_refl _,by simp [World.setCell],by simp [World.setCell,Array.getElem?_modify,hbk],fun k hk=>Below.heap_setCell _ _ _ _ (fun e=>hk (by simpa using e))⟩
  ·refine (Any.Builder_copyCheck_used { L with } X.toX72 b w (by rw [Lib.cell_of_heap hbk];rfl)).mono ?_;rintro e w' ⟨rfl,rfl⟩;exact ⟨rfl,rfl,⟨rfl,.inr trivial⟩,rfl,Nat.le_refl _,rfl,hbk,fun _ _=>rfl⟩
 have e240: ∀args w,(callFunc (ρ.f 240) args).run P w= .ok (.enter (ρ.f 240) args) w:=enters_of L.f240 Zg rfl
 go_enter L.f167,Body.n167_ntmps _
 go_wp2_with (go_at_fn (ρ.f 240);refine hcc.mono ?_)
 rintro e w1 ⟨rfl,hT⟩
 have c0:w1.cell? ⟨b,0,none⟩=some (.pointer (some ⟨b,0,none⟩)):=by rw [Lib.cell_of_heap hT.at'];rfl
 have c1:w1.cell? ⟨b,1,none⟩=some v:=by rw [Lib.cell_of_heap hT.at'];rfl
 have hblt:b<w1.heap.size:=(Array.getElem?_eq_some_iff.1 hT.at').1
 have hown1:w1.ownsRow 0 (ρ.t 5) 1 v n xs:=by
  rcases hown with ⟨o1,o2 | ⟨g,cap,cur,o2,o3,o4,o5⟩⟩
  ·exact ⟨o1,.inl o2⟩
  ·exact ⟨o1,.inr ⟨g,cap,cur,o2,o3,by rw [hT.other g (fun e=>hne (by rw [o2,e];rfl))];exact o4,o5⟩⟩
 go_wp2
 refine AV (e:=ρ.t 5) rfl L.t37 hi hz0 hz1 rfl ?_
 go_wp2_with (at_builtin;refine KQ rfl _ _ _ rfl (ρ.t 5) i0 L.t37 hi hz0 hz1 hz2 v n xs rfl (hown1.alloc _) c ⟨w1.heap.size,0,none⟩ rfl Zb hb ?_)
 intro v' w2 hown' hG;have hG:=hG.afterAlloc
 have hb2:w2.heap[b]? =some (.cells #[.pointer (some ⟨b,0,none⟩),v] (ρ.t 72) (0,0)):=by
  rw [hG.old b hblt (fun e=>hne e.symm)];exact hT.at'
 have d0:w2.cell? ⟨b,0,none⟩=some (.pointer (some ⟨b,0,none⟩)):=by rw [Lib.cell_of_heap hb2];rfl
 have d1:w2.cell? ⟨b,1,none⟩=some v:=by rw [Lib.cell_of_heap hb2];rfl
 have f1:w2.frozen? ⟨b,1,none⟩=false:=Lib.frozen_of_heap hb2 1
 obtain ⟨ao,n',cap,rfl⟩: ∃ao n' cap,v'= .slice ao n' cap:=by
  rcases hown'.2 with ⟨hv,_⟩ | ⟨g,cap,cur,hv,_⟩
  ·exact ⟨_,_,_,hv⟩
  ·exact ⟨_,_,_,hv⟩
 go_wp2
 go_ret
 exact ⟨rfl,_,w1,w2,hT,hG,hown',rfl⟩
theorem DP {H:List AM.Obj} {o r:Nat} {bs:List UInt8} (hH:H[o]? =some (.bld 77 5 r bs)) (c:UInt8) (hl:bs.length+1<=140737488355328) :
  ACalls Tryz.prog 90 [.bp o,.p (.int .u8 (c.toNat:Nat))] H fun x H'=>x= .p .nili/\H'=H.set o (.bld 77 5 r (bs++ [c])):=by
 refine ⟨cI,fun F ι w vs hr hv=> ?_⟩;obtain ⟨h1,h2⟩:=hv;have e0:=h2 0 _ rfl;have e1:=Cw (h2 1 _ rfl);obtain ⟨hor,hrd,b,go,q1,q2,p,v,w1,w2,w3,w4⟩:=hr.bldr o _ _ r bs hH
 have e0':vs.getD 0 undef= .pointer (some ⟨b,0,none⟩):=by
  generalize vs.getD 0 undef=x at e0
  cases e0 with
  | bp _ b2 T2 E2 r2 bs2 h hH2=>rw [q1] at h;simp at h;rw [h]
  | bpD _ _ h=>rw [hH] at h;cases h
 have hvs:vs= #[.pointer (some ⟨b,0,none⟩),.int .u8 c.toNat]:=by
  apply Array.ext
  ·simpa using h1
  ·intro i h3 h4
   have:i=0\/i=1:=by simp at h4;omega
   rcases this with rfl | rfl
   ·have:vs.getD 0 undef=vs[0]:=by simp [Array.getD,h3]
    rw [<- this,e0'];rfl
   ·have:vs.getD 1 undef=vs[1]:=by simp [Array.getD,h3]
    rw [<- this,e1];rfl
 subst w3
 have hne:v.ownBlock≠some b:=fun e=>by have:=hr.inj o r b q1 (by rw [q2,e]);omega
 rw [hvs];refine (Bu cR aK c w1 w2 hne w4 hl).mono ?_;rintro e w' ⟨rfl,v',wa,wb,hT,hG,ho,rfl⟩;exact ⟨_,_,_,_,rfl,⟨rfl,rfl⟩,JB (bs':=bs++ [c]) hr hH q1 q2 w1 hT hG (by rw [List.length_append,List.map_append];exact ho) hne,.p _ _ .nili⟩
end Go.Proofs.YtmbelkfkhclnkaaGreatDoor.K
namespace Go.Proofs.YtmbelkfkhclnkaaGreatDoor.K
open Go Go.AM Go.Proofs
set_option maxRecDepth 8000
set_option maxHeartbeats 8000000
theorem ME {g:FuncId} {args:List V} {a:PV} {H:List AM.Obj} {K:V->List AM.Obj->Prop} (h:ACalls Tryz.prog g args [] fun x H'=>x= .tup [.p a,.err]/\H'= []) (k:K (.tup [.p a,.err]) H) (ha:ZA 0 args=true:=by rfl):ACalls Tryz.prog g args H K :=
 (h.behind ha H).mono fun x H' hq=>by
  obtain ⟨y,H1,⟨rfl,rfl⟩,rfl,rfl⟩:=hq;simpa [Bh,Wu] using k
theorem VT (s:List UInt8) (hs:s.length<=1048576):PT 93 [.p (.str s)] [.p (.int .i64 (ZE s).1),.p (.int .i64 (ZE s).2)]:=by
 have htl:(Zr s).length<=1048576:=by
  unfold Zr
  split
  ·rw [List.length_drop];omega
  ·omega
 have hat:=fun h0 h h1=>GR (s:=s) h0 h h1
 have hnum:ZE s=if Zr s= []\/((nth (Zr s) 0).toNat=48/\s≠ [48]) then (0,3) else if (Zr s).all Xw=false then (0,3) else ZE s:=by
  by_cases h1:Zr s= []\/((nth (Zr s) 0).toNat=48/\s≠ [48])
  ·rw [if_pos h1,ZE,if_pos h1]
  ·rw [if_neg h1]
   by_cases h2:(Zr s).all Xw=false
   ·rw [if_pos h2,ZE,if_neg h1,if_pos h2]
   ·rw [if_neg h2]
 generalize ZE s=N at *
 rw [hnum];clear hnum;refine Zd [11] Tryz.func93 rfl cK ?_;simp (disch:=omega) only [Tryz.f93,go_sem,seval];refine (LQ s Za).use ?_;simp (disch:=omega) only [go_sem,seval]
 generalize Zr s=d at *
 have hdl:d= []\/0<d.length:=by cases d<;>simp
 rcases hdl with he | hdl
 ·subst he;rw [if_pos (.inl rfl)];refine gF ?_ ?_<;>intro h1<;>simp (disch:=omega) only [Sh.out h1,go_sem,seval]
  ·exact we
  ·simp at h1
 ·have hne: ¬d= []:=List.length_pos_iff.1 hdl;have hb:=Q8 (nth d 0);refine gF ?_ ?_<;>intro h1<;>simp (disch:=omega) only [Sh.out h1,go_sem,seval]
  ·exact absurd h1 hne
  ·refine gT ?_ ?_<;>intro h2<;>simp (disch:=omega) only [Sh.out h2,go_sem,seval]
   ·refine cD ?_ ?_<;>intro h3<;>simp (disch:=omega) only [Sh.out h3,go_sem,seval]
    ·rw [if_pos (.inr ⟨Za,h3⟩)];exact we
    ·rw [if_neg (by rintro (e | e);exact hne e;exact e.2 (by simpa using h3))];refine ZI [11] [0,4,22] (fun k:Nat=> [(23,.p (.int .i64 k))]) (fun _=> []) (fun k=>k<=d.length/\ ∀j,j<k->Xw (nth d j)=true) (fun k=>d.length-k) 0 Zb (Weak.mk ?_) ?_
     ·simp (disch:=omega) only [go_sem,seval]
     ·rintro k ⟨hk,hno⟩;simp (disch:=omega) only [go_sem,seval];refine cD ?_ ?_<;>intro h7<;>simp (disch:=omega) only [Sh.out h7,go_sem,seval]
      ·have hk2:k<d.length:=Za
       have hbk:=Q8 (nth d k);have cd:PC 129 [.p (.int .u8 ((nth d k).toNat:Nat))] (.bool (Xw (nth d k))):=Bo _ Za;refine (cd).use ?_;simp (disch:=omega) only [go_sem,seval]
       cases hd:Xw (nth d k) with
       | false =>
        have Z5:d.all Xw=false:=List.all_eq_false.2 ⟨_,Zp hk2,by rw [hd];simp⟩;rw [if_pos Z5];simp (disch:=omega) only [hd,Bool.not_false,go_sem,seval];exact we
       | true =>
        simp (disch:=omega) only [hd,Bool.not_true,Bool.false_eq_true,go_sem,seval];exact ⟨k+1,⟨Za,Zo.2 ⟨hno,hd⟩⟩,Za,wk⟩
      ·have Z5:d.all Xw=true:=by
        rw [List.all_eq_true];intro b hb;obtain ⟨j,hj,rfl⟩:=List.mem_iff_getElem.1 hb;rw [<- Zh hj];exact hno j Za
       rw [if_neg (by rw [Z5];simp)];rcases hat hne Z5 (fun e=>e.2 (by simpa using h3)) with ⟨n,hn,hN⟩ | ⟨hn,hN⟩
       ·rw [hN];refine V9 (C2 s n Za hn) ?_;simp (disch:=omega) only [go_sem,seval];refine ZX (ZX (VG 1 rfl rfl ?_));refine ⟨_,Dx rfl Zg rfl,?_⟩;rintro _ rfl;simp (disch:=omega) only [go_sem,seval];refine Ze [] _ _ _ _ ?_;simp (disch:=omega) only [go_sem,seval];refine Ze [] _ _ _ _ ?_;simp (disch:=omega) only [go_sem,seval];exact we
       ·rw [hN];refine ME (C3 s Za hn) ?_;simp (disch:=omega) only [go_sem,seval];refine ZX (ZX (VG 1 rfl rfl ?_));refine ⟨_,Dw rfl Zg rfl,?_⟩;rintro _ rfl;simp (disch:=omega) only [go_sem,seval];refine Ze [] _ _ _ _ ?_;simp (disch:=omega) only [go_sem,seval];exact we
   ·rw [if_neg (by rintro (e | e);exact hne e;omega)];refine ZI [11] [0,4,22] (fun k:Nat=> [(23,.p (.int .i64 k))]) (fun _=> []) (fun k=>k<=d.length/\ ∀j,j<k->Xw (nth d j)=true) (fun k=>d.length-k) 0 Zb (Weak.mk ?_) ?_
    ·simp (disch:=omega) only [go_sem,seval]
    ·rintro k ⟨hk,hno⟩;simp (disch:=omega) only [go_sem,seval];refine cD ?_ ?_<;>intro h7<;>simp (disch:=omega) only [Sh.out h7,go_sem,seval]
     ·have hk2:k<d.length:=Za
      have hbk:=Q8 (nth d k);have cd:PC 129 [.p (.int .u8 ((nth d k).toNat:Nat))] (.bool (Xw (nth d k))):=Bo _ Za;refine (cd).use ?_;simp (disch:=omega) only [go_sem,seval]
      cases hd:Xw (nth d k) with
      | false =>
       have Z5:d.all Xw=false:=List.all_eq_false.2 ⟨_,Zp hk2,by rw [hd];simp⟩;rw [if_pos Z5];simp (disch:=omega) only [hd,Bool.not_false,go_sem,seval];exact we
      | true =>
       simp (disch:=omega) only [hd,Bool.not_true,Bool.false_eq_true,go_sem,seval];exact ⟨k+1,⟨Za,Zo.2 ⟨hno,hd⟩⟩,Za,wk⟩
     ·have Z5:d.all Xw=true:=by
       rw [List.all_eq_true];intro b hb;obtain ⟨j,hj,rfl⟩:=List.mem_iff_getElem.1 hb;rw [<- Zh hj];exact hno j Za
      rw [if_neg (by rw [Z5];simp)];rcases hat hne Z5 (fun e=>Za) with ⟨n,hn,hN⟩ | ⟨hn,hN⟩
      ·rw [hN];refine V9 (C2 s n Za hn) ?_;simp (disch:=omega) only [go_sem,seval];refine ZX (ZX (VG 1 rfl rfl ?_));refine ⟨_,Dx rfl Zg rfl,?_⟩;rintro _ rfl;simp (disch:=omega) only [go_sem,seval];refine Ze [] _ _ _ _ ?_;simp (disch:=omega) only [go_sem,seval];refine Ze [] _ _ _ _ ?_;simp (disch:=omega) only [go_sem,seval];exact we
      ·rw [hN];refine ME (C3 s Za hn) ?_;simp (disch:=omega) only [go_sem,seval];refine ZX (ZX (VG 1 rfl rfl ?_));refine ⟨_,Dw rfl Zg rfl,?_⟩;rintro _ rfl;simp (disch:=omega) only [go_sem,seval];refine Ze [] _ _ _ _ ?_;simp (disch:=omega) only [go_sem,seval];exact we
def XM (s:List UInt8):Vis×Bool :=
 if s= []\/((nth s 0).toNat≠43/\(nth s 0).toNat≠45) then (⟨0,false⟩,false)
 else (⟨(ZE (s.drop 1)).1,decide (((nth s 0).toNat:Int)=45)⟩,decide ((ZE (s.drop 1)).2=0))
theorem A2 (s:List UInt8) (hs:s.length<=1048576):PT 95 [.p (.str s)] [.p (ZW (XM s).1),.p (.bool (XM s).2)]:=by
 refine Zd [] Tryz.func95 rfl cM ?_;simp (disch:=omega) only [Tryz.f95,go_sem,seval];unfold XM
 have hsl:s= []\/0<s.length:=by cases s<;>simp
 rcases hsl with he | hsl
 ·subst he;rw [if_pos (.inl rfl)];refine gF ?_ ?_<;>intro h1<;>simp (disch:=omega) only [Sh.out h1,go_sem,seval]
  ·exact we
  ·simp at h1
 ·have hne: ¬s= []:=List.length_pos_iff.1 hsl;have hb:=Q8 (nth s 0);have cn:=VT (s.drop 1) (by rw [List.length_drop];omega);refine gF ?_ ?_<;>intro h1<;>simp (disch:=omega) only [Sh.out h1,go_sem,seval]
  ·exact absurd h1 hne
  ·refine gT ?_ ?_<;>intro h2<;>simp (disch:=omega) only [Sh.out h2,go_sem,seval]
   ·refine cD ?_ ?_<;>intro h3<;>simp (disch:=omega) only [Sh.out h3,go_sem,seval]
    ·rw [if_pos (.inr ⟨Za,Za⟩)];exact we
    ·rw [if_neg (by rintro (e | e);exact hne e;omega),List.take_length];refine V9 cn ?_;simp (disch:=omega) only [go_sem,seval];exact we
   ·rw [if_neg (by rintro (e | e);exact hne e;omega),List.take_length];refine V9 cn ?_;simp (disch:=omega) only [go_sem,seval];exact we
def HO (b:UInt8):Bool:=decide ((b.toNat:Int)=121)||decide ((b.toNat:Int)=110)
def yB (b:UInt8):Bool:=decide ((b.toNat:Int)=121)
def U0 (s:List UInt8):Option (Bool×List Bool):=if s= [46] then some (true,[]) else if s.all HO=true then (if s= [] then none else some (false,s.map yB)) else none
def PA (s:List UInt8):V:=match U0 s with
 | some (c,l)=> .tup [.p (.list c (l.map eB)),.p (.bool true)]
 | none=> .tup [.p (.list true []),.p (.bool false)]
theorem A0 (s:List UInt8) (hs:s.length<=1048576) (hne:s≠ []):ACalls Tryz.prog 94 [.p (.str s)] [] fun y H'=>y=PA s/\H'= []:=by
 refine Zd [11] Tryz.func94 rfl cL ?_;simp (disch:=omega) only [Tryz.f94,go_sem,seval];unfold PA U0;refine cD ?_ ?_<;>intro h1<;>simp (disch:=omega) only [Sh.out h1,go_sem,seval]
 ·exact we (by simp (disch:=omega) only [List.map_nil,go_sem,seval])
 ·rw [if_neg h1];refine ZI [11] [0,9] (fun k:Nat=> [(4,.sl 0 0 k k),(10,.p (.int .i64 k))]) (fun k=> [.elems 1 (((s.take k).map yB).map eB)]) (fun k=>k<=s.length/\ ∀j,j<k->HO (nth s j)=true) (fun k=>s.length-k) 0 Zb (Weak.ofNil 4 1 rfl Zb (Weak.mk ?_)) ?_
  ·simp (disch:=omega) only [List.take_zero,List.map_nil,go_sem,seval]
  ·rintro k ⟨hk,hno⟩;simp (disch:=omega) only [go_sem,seval];refine cD ?_ ?_<;>intro h2<;>simp (disch:=omega) only [Sh.out h2,go_sem,seval]
   ·have hk2:k<s.length:=Za
    have hb:=Q8 (nth s k)
    have hl:(s.take k).length=k:=by simp;omega
    have hnx:((s.take (k+1)).map yB).map eB=((s.take k).map yB).map eB++ [.bool (decide (((nth s k).toNat:Int)=121))]:=by
     rw [List.take_succ_eq_append_getElem hk2,List.map_append,List.map_append,Zh hk2];rfl
    have bad:HO (nth s k)=false-> ¬s.all HO=true:=fun h e=>by
     rw [List.all_eq_true] at e;rw [e _ (Zp hk2)] at h;simp at h
    refine gT ?_ ?_<;>intro h3<;>simp (disch:=omega) only [Sh.out h3,go_sem,seval]
    ·refine cD ?_ ?_<;>intro h4<;>simp (disch:=omega) only [Sh.out h4,go_sem,seval]
     ·rw [if_neg (bad (by unfold HO;rw [decide_eq_false h3,decide_eq_false h4];rfl))];exact we
     ·rw [if_pos ⟨hl,Za,Za⟩];simp (disch:=omega) only [go_sem,seval];exact ⟨k+1,⟨Za,Zo.2 ⟨hno,by unfold HO;simp;omega⟩⟩,Za,Weak.mk (by simp (disch:=omega) only [hnx,hl,go_sem,seval])⟩
    ·rw [if_pos ⟨hl,Za,Za⟩];simp (disch:=omega) only [go_sem,seval];exact ⟨k+1,⟨Za,Zo.2 ⟨hno,by unfold HO;simp;omega⟩⟩,Za,Weak.mk (by simp (disch:=omega) only [hnx,hl,go_sem,seval])⟩
   ·have hkl:k=s.length:=Za
    subst hkl
    have Z5:s.all HO=true:=by
     rw [List.all_eq_true];intro b hb;obtain ⟨j,hj,rfl⟩:=List.mem_iff_getElem.1 hb;rw [<- Zh hj];exact hno j hj
    have hpos:=List.length_pos_iff.2 hne;rw [if_pos Z5,if_neg hne];rw [List.take_length];refine Zz (Weak.fz (o:=0) (by rfl)) ?_;refine Ze [] _ _ _ _ ?_;simp (disch:=omega) only [List.map_cons,List.map_nil,List.set_cons_succ,List.set_cons_zero,go_sem,seval];rw [show decide (0<(s.length:Int))=true from decide_eq_true Za];exact we
@[go_sem] theorem Rq (l:List (List UInt8)):Qi 1 (l.map Vg)=true:=VD (f:=Vg) (S:=1) (fun _=>rfl) l
def unsW : List UInt8:= [117,110,115,101,114,118,101,100]
def HZ (s:List UInt8):Bool:=decide ((ZE s).2=0)
def XX (l:List (List UInt8)):Option (List Int):=if l= []\/nth l 0≠unsW then none else if (l.drop 1).all HZ=true then some ((l.drop 1).map fun s=>(ZE s).1) else none
def GB (l:List (List UInt8)):V:=match XX l with
 | some m=> .tup [.p (.list false (m.map eI)),.p (.bool true)]
 | none=> .tup [.p (.list true []),.p (.bool false)]
theorem Cr (l:List (List UInt8)) (c:Bool) (hl:l.length<=1048576) (hw: ∀s∈l,s.length<=1048576):ACalls Tryz.prog 46 [.p (.list c (l.map Vg))] [] fun y H'=>y=GB l/\H'= []:=by
 refine Zd [12] Tryz.func46 rfl bR ?_;simp (disch:=omega) only [Tryz.f46,go_sem,seval];unfold GB XX
 have hll:l= []\/0<l.length:=by cases l<;>simp
 rcases hll with he | hll
 ·subst he;rw [if_pos (.inl rfl)];refine gF ?_ ?_<;>intro h1<;>simp (disch:=omega) only [Sh.out h1,go_sem,seval]
  ·exact we
  ·exact absurd Zb h1
 ·have hne: ¬l= []:=List.length_pos_iff.1 hll;refine gF ?_ ?_<;>intro h1<;>simp (disch:=omega) only [Sh.out h1,go_sem,seval]
  ·omega
  ·refine cD ?_ ?_<;>intro h2<;>simp (disch:=omega) only [Sh.out h2,go_sem,seval]
   ·rw [if_pos (.inr h2)];exact we
   ·rw [if_neg (by rintro (e | e);exact hne e;exact h2 e)];have hdl:(l.drop 1).length=l.length-1:=List.length_drop;have hwd: ∀s∈l.drop 1,s.length<=1048576:=fun s h=>hw s (List.mem_of_mem_drop h);rw [List.take_length]
    generalize l.drop 1=r at *
    refine ZI [12] [19,20] (fun k:Nat=> [(4,.sl 0 0 k k),(21,.p (.int .i64 k))]) (fun k=> [.elems 1 (((r.take k).map fun s=>(ZE s).1).map eI)]) (fun k=>k<=r.length/\ ∀j,j<k->HZ (nth r j)=true) (fun k=>r.length-k) 0 Zb (Weak.ofNil 4 1 rfl Zb (Weak.mk ?_)) ?_
    ·simp (disch:=omega) only [List.take_zero,List.map_nil,go_sem,seval]
    ·rintro k ⟨hk,hno⟩;simp (disch:=omega) only [go_sem,seval];refine cD ?_ ?_<;>intro h3<;>simp (disch:=omega) only [Sh.out h3,go_sem,seval]
     ·have hk2:k<r.length:=Za
      have h18:=hwd _ (Zp hk2)
      have hkl:(r.take k).length=k:=by simp;omega
      have hnx:((r.take (k+1)).map fun s=>(ZE s).1).map eI=((r.take k).map fun s=>(ZE s).1).map eI++ [.int .i64 (ZE (nth r k)).1]:=by
       rw [List.take_succ_eq_append_getElem hk2,List.map_append,List.map_append,Zh hk2];rfl
      refine V9 (VT (nth r k) h18) ?_;simp (disch:=omega) only [go_sem,seval];refine cD ?_ ?_<;>intro h4<;>simp (disch:=omega) only [Sh.out h4,go_sem,seval]
      ·have hb: ¬r.all HZ=true:=fun e=>by
        rw [List.all_eq_true] at e;have:=e _ (Zp hk2);simp only [HZ,decide_eq_true_eq] at this;exact h4 this
       rw [if_neg hb];exact we
      ·rw [if_pos ⟨hkl,Za,Za⟩];simp (disch:=omega) only [go_sem,seval];exact ⟨k+1,⟨Za,Zo.2 ⟨hno,by simp only [HZ,decide_eq_true_eq];omega⟩⟩,Za,Weak.mk (by simp (disch:=omega) only [hnx,hkl,go_sem,seval])⟩
     ·have hkl:k=r.length:=Za
      subst hkl
      have Z5:r.all HZ=true:=by
       rw [List.all_eq_true];intro b hb;obtain ⟨j,hj,rfl⟩:=List.mem_iff_getElem.1 hb;rw [<- Zh hj];exact hno j hj
      rw [if_pos Z5,List.take_length];refine Zz (Weak.fz (o:=0) (by rfl)) ?_;refine Ze [] _ _ _ _ ?_;simp (disch:=omega) only [List.map_cons,List.map_nil,List.set_cons_succ,List.set_cons_zero,go_sem,seval];exact we
def rteW : List UInt8:= [114,111,117,116,101]
def Jb : Rte:=⟨0,0,true,[],true,[]⟩
def Pk (s:List UInt8):Bool:=(XM s).2
def YQ (l:List (List UInt8)):Bool:=decide ((ZE (nth l 1)).2=0)&&decide ((ZE (nth l 2)).2=0)
def Vy (l:List (List UInt8)):Option Rte :=
 if l.length<4\/nth l 0≠rteW then none
 else match U0 (nth l 3) with
  | none=>none
  | some (c,rs)=>if YQ l=true then (if (l.drop 4).all Pk=true then some ⟨(ZE (nth l 1)).1,(ZE (nth l 2)).1,c,rs,false,(l.drop 4).map fun s=>(XM s).1⟩ else none) else none
def PB (l:List (List UInt8)):V:=match Vy l with
 | some r=> .tup [.p (XS r),.p (.bool true)]
 | none=> .tup [.p (XS Jb),.p (.bool false)]
theorem A1 (l:List (List UInt8)) (c:Bool) (hl:l.length<=1048576) (hw: ∀s∈l,s.length<=1048576/\s≠ []):ACalls Tryz.prog 47 [.p (.list c (l.map Vg))] [] fun y H'=>y=PB l/\H'= []:=by
 refine Zd [19] Tryz.func47 rfl bS ?_;simp (disch:=omega) only [Tryz.f47,go_sem,seval];unfold PB Vy;refine gF ?_ ?_<;>intro h1<;>simp (disch:=omega) only [Sh.out h1,go_sem,seval]
 ·rw [if_pos (.inl Za)];exact we (by simp (disch:=omega) only [Jb,List.map_nil,go_sem,seval])
 ·have h4:4<=l.length:=Za
  have n1:=hw _ (Zp (show 1<l.length by omega));have n2:=hw _ (Zp (show 2<l.length by omega));have n3:=hw _ (Zp (show 3<l.length by omega));have w5:rteW= [114,111,117,116,101]:=rfl;refine cD ?_ ?_<;>intro h2<;>simp (disch:=omega) only [Sh.out h2,go_sem,seval]
  ·rw [if_pos (.inr h2)];exact we (by simp (disch:=omega) only [Jb,List.map_nil,go_sem,seval])
  ·rw [if_neg (by rintro (e | e);omega;exact h2 e)];refine V9 (VT (nth l 1) n1.1) ?_;simp (disch:=omega) only [go_sem,seval];refine V9 (VT (nth l 2) n2.1) ?_;simp (disch:=omega) only [go_sem,seval];have cr:=A0 (nth l 3) Za n3.2;unfold PA at cr
   cases hr:U0 (nth l 3) with
   | none =>
    rw [hr] at cr;refine V9 cr ?_;simp (disch:=omega) only [go_sem,seval];exact we (by simp (disch:=omega) only [Jb,List.map_nil,go_sem,seval])
   | some q =>
    obtain ⟨cc,rs⟩:=q;rw [hr] at cr;refine V9 cr ?_;simp (disch:=omega) only [go_sem,seval];refine gF ?_ ?_<;>intro h5<;>simp (disch:=omega) only [Sh.out h5,go_sem,seval]
    ·have hb: ¬YQ l=true:=by unfold YQ;rw [decide_eq_false h5];simp
     rw [if_neg hb];exact we (by simp (disch:=omega) only [Jb,List.map_nil,go_sem,seval])
    ·refine cD ?_ ?_<;>intro h6<;>simp (disch:=omega) only [Sh.out h6,go_sem,seval]
     ·have hb: ¬YQ l=true:=by unfold YQ;rw [decide_eq_false h6];simp
      rw [if_neg hb];exact we (by simp (disch:=omega) only [Jb,List.map_nil,go_sem,seval])
     ·have hb:YQ l=true:=by unfold YQ;simp;omega
      rw [if_pos hb];have hdl:(l.drop 4).length=l.length-4:=List.length_drop;have hwd: ∀s∈l.drop 4,s.length<=1048576:=fun s h=>(hw s (List.mem_of_mem_drop h)).1;rw [List.take_length]
      generalize l.drop 4=r at *
      generalize (ZE (nth l 1)).1=x1 at *
      generalize (ZE (nth l 2)).1=x2 at *
      refine ZI [19] [2,4,58,59] (fun k:Nat=> [(60,.p (.int .i64 k))]) (fun k=> [Zy Jb,.cells [.p (.int .i64 x1),.p (.int .i64 x2),.p (.list cc (rs.map eB)),.sl 2 0 k k],.elems 2 (((r.take k).map fun s=>(XM s).1).map ZW)]) (fun k=>k<=r.length/\ ∀j,j<k->Pk (nth r j)=true) (fun k=>r.length-k) 0 Zb ((Weak.nilC (o:=1) (j:=3) 2 rfl rfl Zb).trans (Weak.mk ?_)) ?_
      ·simp (disch:=omega) only [Zy,Jb,List.map_nil,List.take_zero,List.set_cons_succ,List.set_cons_zero,List.cons_append,List.nil_append,go_sem,seval]
      ·rintro k ⟨hk,hno⟩;simp (disch:=omega) only [Zy,Jb,List.map_nil,go_sem,seval];refine cD ?_ ?_<;>intro h7<;>simp (disch:=omega) only [Sh.out h7,go_sem,seval]
       ·have hk2:k<r.length:=Za
        have h18:=hwd _ (Zp hk2)
        have hkl:(r.take k).length=k:=by simp;omega
        have hnx:((r.take (k+1)).map fun s=>(XM s).1).map ZW=((r.take k).map fun s=>(XM s).1).map ZW++ [ZW (XM (nth r k)).1]:=by
         rw [List.take_succ_eq_append_getElem hk2,List.map_append,List.map_append,Zh hk2];rfl
        refine V9 (A2 (nth r k) Za) ?_;simp (disch:=omega) only [go_sem,seval]
        cases hv:(XM (nth r k)).2 with
        | false =>
         have hb: ¬r.all Pk=true:=fun e=>by
          rw [List.all_eq_true] at e;have:=e _ (Zp hk2);simp only [Pk,hv] at this
          cases this
         rw [if_neg hb];simp (disch:=omega) only [hv,Bool.not_false,go_sem,seval];exact we (by simp (disch:=omega) only [Jb,List.map_nil,go_sem,seval])
        | true =>
         simp (disch:=omega) only [hv,Bool.not_true,Bool.false_eq_true,go_sem,seval];rw [if_pos ⟨hkl,Za,Za⟩];simp (disch:=omega) only [hkl,go_sem,seval];exact ⟨k+1,⟨Za,Zo.2 ⟨hno,hv⟩⟩,Za,Weak.mk (by simp (disch:=omega) only [Zy,Jb,List.map_nil,hnx,hkl,go_sem,seval])⟩
       ·have hkl:k=r.length:=Za
        subst hkl
        have Z5:r.all Pk=true:=by
         rw [List.all_eq_true];intro b hb;obtain ⟨j,hj,rfl⟩:=List.mem_iff_getElem.1 hb;rw [<- Zh hj];exact hno j hj
        rw [if_pos Z5,List.take_length];refine Zz (Weak.fz (o:=2) (by rfl)) ?_;refine Ze [] _ _ _ _ ?_;simp (disch:=omega) only [List.map_cons,List.map_nil,List.set_cons_succ,List.set_cons_zero,go_sem,seval];exact we
theorem DS {s:List UInt8} (h0:s≠ []) (h: ∀b∈s,Wq b=true):ZS s=true:=by
 rw [ZS,decide_eq_true h0,Bool.true_and,List.all_eq_true];exact h
theorem Bz {s:List UInt8} (h:ZS s=true): ∀b∈s,Wq b=true:=by
 simp only [ZS,Bool.and_eq_true,List.all_eq_true] at h;exact h.2
theorem Hl {s:List UInt8} {q:Bool×List Bool} (h:U0 s=some q):ZS s=true:=by
 unfold U0 at h
 split at h
 ·rename_i e;subst e;decide
 ·split at h
  ·rename_i ha
   split at h
   ·cases h
   ·rename_i h0;refine DS h0 fun b hb=> ?_;rw [List.all_eq_true] at ha;have:=ha b hb
    simp only [HO,Wq,Bool.or_eq_true,Bool.and_eq_true,decide_eq_true_eq] at *
    omega
  ·cases h
theorem HI {s:List UInt8} (h:(XM s).2=true):ZS s=true:=by
 unfold XM at h
 split at h
 ·cases h
 ·rename_i h1;simp only [decide_eq_true_eq] at h
  cases s with
  | nil=>exact absurd (.inl rfl) h1
  | cons b l =>
   refine DS Zb fun c hc=> ?_;rcases List.mem_cons.1 hc with rfl | hc
   ·have h2:(c.toNat=43\/c.toNat=45):=by
     by_cases e:c.toNat=43
     ·exact .inl e
     ·by_cases e2:c.toNat=45
      ·exact .inr e2
      ·exact absurd (.inr ⟨e,e2⟩) h1
    simp only [Wq,Bool.and_eq_true,decide_eq_true_eq];omega
   ·exact Bz (VS h) c hc
theorem Y0 {α:Type} [Inhabited α] {l:List α} {w:α} (h:w∈l):w=nth l 0\/w∈l.drop 1:=by
 cases l with
 | nil=>cases h
 | cons b r=>exact List.mem_cons.1 h
theorem QI {ws:List (List UInt8)} {us:List Int} (h:XX ws=some us): ∀w∈ws,ZS w=true:=fun w hw=>by
 unfold XX at h
 split at h
 ·cases h
 ·rename_i h1
  split at h
  ·rename_i ha;rcases Y0 hw with rfl | hw
   ·have:nth ws 0=unsW:=Classical.byContradiction fun e=>h1 (.inr e);rw [this];decide
   ·rw [List.all_eq_true] at ha;have:=ha w hw;simp only [HZ,decide_eq_true_eq] at this;exact VS this
  ·cases h
theorem Ut {α:Type} [Inhabited α] (l:List α) (i j:Nat):nth (l.drop i) j=nth l (i+j):=by
 simp [nth]
theorem JX {ws:List (List UInt8)} {r:Rte} (h:Vy ws=some r): ∀w∈ws,ZS w=true:=fun w hw=>by
 unfold Vy at h
 split at h
 ·cases h
 ·rename_i h1
  split at h
  ·cases h
  ·rename_i c rs hr
   split at h
   ·rename_i hh
    split at h
    ·rename_i ha;simp only [YQ,Bool.and_eq_true,decide_eq_true_eq] at hh;rcases Y0 hw with rfl | hw
     ·have:nth ws 0=rteW:=Classical.byContradiction fun e=>h1 (.inr e);rw [this];decide
     ·rcases Y0 hw with rfl | hw
      ·rw [Ut];exact VS hh.1
      ·rw [List.drop_drop] at hw;rcases Y0 hw with rfl | hw
       ·rw [Ut];exact VS hh.2
       ·rw [List.drop_drop] at hw;rcases Y0 hw with rfl | hw
        ·rw [Ut];exact Hl hr
        ·rw [List.drop_drop] at hw;rw [List.all_eq_true] at ha;exact HI (ha w hw)
    ·cases h
   ·cases h
theorem LY {o:Option (List (List UInt8))} (h:Wds [] o):o=some []:=by
 generalize e:([]:List UInt8)=s at h
 cases h with
 | nil=>rfl
 | bad _ h=>exact absurd e.symm h
 | whole _ h=>exact absurd e.symm h
 | bad2 _ n _ _ h2=>subst e;simp at h2
 | cons _ n _ _ _ h2=>subst e;simp at h2
theorem HJ {α:Type} {s:List UInt8} {o:Option (List (List UInt8))} (h:Wds s o) {f:List (List UInt8)->Option α} (hf: ∀ {ws r},f ws=some r-> ∀w∈ws,ZS w=true) (h0:f []=none):o.bind f=f (Xt s):=by
 cases hs:f (Xt s) with
 | some r=>rw [fG h (hf hs)];exact hs
 | none =>
  cases o with
  | none=>rfl
  | some ws =>
   show f ws=none
   cases hw:f ws with
   | none=>rfl
   | some r =>
    exfalso
    by_cases e:s= []
    ·subst e;rw [Option.some.inj (LY h),h0] at hw;cases hw
    ·rw [fF h ws rfl e (hf hw),hw] at hs;cases hs
def UN : Pln:=⟨true,[],true,[]⟩
def Vx : Nat->Int->List Rte->List UInt8->Pln×Int×Int
 | 0,n,_,_=>(UN,n,3)
 | f+1,n,rs,s=>if (Xv s 10).2.2=false then (UN,n,3) else match XX (Xt (Xv s 10).1) with
  | some us=>if (Xv s 10).2.1≠ [] then (UN,n,3) else (⟨false,rs,false,us⟩,0,0)
  | none=>match Vy (Xt (Xv s 10).1) with
   | none=>(UN,n,3)
   | some r=>Vx f (n+1) (rs++ [r]) (Xv s 10).2.1
def Ch (q:Pln×Int×Int):V:= .tup [.p (Va q.1),.p (.int .i64 q.2.1),.p (.int .i64 q.2.2)]
theorem FO {s:List UInt8} (h: ¬(Xv s 10).2.2=false):(Xv s 10).2.1.length<s.length/\(Xv s 10).1.length<=s.length:=by
 have hb:=WH 10 s
 unfold Xv at *
 split at h
 ·rename_i hh;rw [if_pos hh];simp only [List.length_drop,List.length_take];omega
 ·exact absurd rfl h
theorem IA (s:List UInt8):(Xv s 10).1.length<=s.length:=by
 unfold Xv
 split
 ·simp only [List.length_take];omega
 ·exact Nat.le_refl _
theorem Ei (l:List UInt8) (b:UInt8) (a:Nat):Z1 a (l++ [b])=Z1 a l*10+(b.toNat-48):=by simp [Z1]
theorem Al {l:List UInt8} (h:l.all Xw=true) (h0:l≠ []) (h1:(nth l 0).toNat≠48):0<Z1 0 l:=by
 cases l with
 | nil=>exact absurd rfl h0
 | cons b r =>
  have hd:=h;simp only [List.all_cons,Bool.and_eq_true,Xw,decide_eq_true_eq] at hd;have h1:b.toNat≠48:=h1;have:=Ks r (0*10+(b.toNat-48));have e:Z1 0 (b::r)=Z1 (0*10+(b.toNat-48)) r:=rfl;omega
theorem Qs : ∀(n:Nat) (l:List UInt8),l.length=n+1->l.all Xw=true->(nth l 0).toNat≠48->dec (Z1 0 l)=l
 | n,l,hl,h,h1=>by
  obtain ⟨r,b,rfl⟩: ∃r b,l=r++ [b]:=⟨l.dropLast,l.getLast (by intro e;rw [e] at hl;simp at hl),(List.dropLast_concat_getLast _).symm⟩;rw [List.all_append,Bool.and_eq_true] at h
  have hb:Xw b=true:=by simpa using h.2
  simp only [Xw,Bool.and_eq_true,decide_eq_true_eq] at hb
  have hu:UInt8.ofNat (48+(b.toNat-48))=b:=by
   apply UInt8.toNat_inj.1;rw [CJ Za];omega
  rw [Ei]
  cases n with
  | zero =>
   have:r= []:=by simpa using hl
   subst this;rw [show Z1 0 []*10+(b.toNat-48)=b.toNat-48 by simp [Z1],dec,dif_pos Za,hu];rfl
  | succ n =>
   have hr:r.length=n+1:=by simpa using hl
   have hn:nth (r++ [b]) 0=nth r 0:=by
    cases r with
    | nil=>simp at hr
    | cons=>rfl
   rw [hn] at h1;have hp:=Al h.1 (by intro e;rw [e] at hr;simp at hr) h1;have ih:=Qs n r hr h.1 h1;rw [dec,dif_neg Za,show (Z1 0 r*10+(b.toNat-48)) / 10=Z1 0 r by omega,show (Z1 0 r*10+(b.toNat-48))%10=b.toNat-48 by omega,ih,hu]
theorem VQ {s:List UInt8} (h:(ZE s).2=0):Xr (ZE s).1=s/\EW (ZE s).1:=by
 unfold ZE at h ⊢
 split at h
 ·exact absurd h (by decide)
 ·rename_i h1;rw [if_neg h1];have h0:Zr s≠ []:=fun e=>h1 (.inl e)
  split at h
  ·exact absurd h (by decide)
  ·rename_i h2;rw [if_neg h2]
   have h2:(Zr s).all Xw=true:=by simpa using h2
   split at h
   ·rename_i h3;rw [if_pos h3]
    split at h
    ·rename_i h4;rw [if_pos h4]
     have hs:s=45::Zr s:=by
      unfold Zr;rw [if_pos h3]
      cases s with
      | nil=>simp at h3
      | cons b l=>simp at h3;subst h3;rfl
     have h48:(nth (Zr s) 0).toNat≠48:=fun e=>h1 (.inr ⟨e,fun e2=>by rw [e2] at h3;exact absurd h3 (by decide)⟩);have hp:=Al h2 h0 h48;have hb:=Qs ((Zr s).length-1) _ (by have:=List.length_pos_iff.2 h0;omega) h2 h48;refine ⟨?_,⟨by simp only;omega,by simp only;omega⟩⟩;simp only;rw [Xr,if_pos Za,show (-(Z1 0 (Zr s):Int)).natAbs=Z1 0 (Zr s) by omega,hb];exact hs.symm
    ·exact absurd h (by decide)
   ·rename_i h3;rw [if_neg h3]
    split at h
    ·rename_i h4;rw [if_pos h4]
     have hs:Zr s=s:=by rw [Zr,if_neg h3]
     rw [hs] at h0 h1 h2 h4 ⊢;refine ⟨?_,⟨by simp only;omega,by simp only;omega⟩⟩;simp only;rw [Xr,if_neg Za,show ((Z1 0 s:Nat):Int).natAbs=Z1 0 s by omega]
     by_cases h5:s= [48]
     ·subst h5;exact Am
     ·exact Qs (s.length-1) _ (by have:=List.length_pos_iff.2 h0;omega) h2 fun e=>h1 (.inr ⟨e,h5⟩)
    ·exact absurd h (by decide)
theorem DN {s:List UInt8} (h:(XM s).2=true):visS (XM s).1=s/\okD (XM s).1.order:=by
 unfold XM at h ⊢
 split at h
 ·cases h
 ·rename_i h1;rw [if_neg h1];simp only [decide_eq_true_eq] at h
  cases s with
  | nil=>exact absurd (.inl rfl) h1
  | cons b l =>
   obtain ⟨hn,hi⟩:=VQ h;refine ⟨?_,hi⟩
   show (if decide ((b.toNat:Int)=45)=true then [45] else [43])++Xr (ZE l).1=b::l
   have hn:Xr (ZE l).1=l:=hn;rw [hn]
   by_cases e:b.toNat=45
   ·have:b=45:=UInt8.toNat_inj.1 e;subst this;rfl
   ·have e2:b.toNat=43:=Classical.byContradiction fun e2=>h1 (.inr ⟨e2,e⟩);have:b=43:=UInt8.toNat_inj.1 e2;subst this;rfl
theorem LB {s:List UInt8} {c:Bool} {l:List Bool} (h:U0 s=some (c,l)):YF l=s:=by
 unfold U0 at h
 split at h
 ·rename_i e
  cases h
  rw [e];rfl
 ·split at h
  ·rename_i ha
   split at h
   ·cases h
   ·rename_i h0
    cases h
    rw [YF,if_neg (by simpa using h0),List.map_map]
    have: ∀b∈s,((fun b:Bool=>if b=true then (121:UInt8) else 110)∘yB) b=id b:=fun b hb=>by
     rw [List.all_eq_true] at ha;have:=ha b hb;simp only [HO,Bool.or_eq_true,decide_eq_true_eq] at this
     show (if yB b=true then (121:UInt8) else 110)=b
     unfold yB
     by_cases e:b.toNat=121
     ·have:b=121:=UInt8.toNat_inj.1 e;subst this;rfl
     ·have:b=110:=UInt8.toNat_inj.1 (by show b.toNat=110;omega);subst this;rfl
    rw [List.map_congr_left this,List.map_id]
  ·cases h
def KU (r:Rte):Prop:=okD r.typ/\okD r.start/\ ∀v∈r.visits,okD v.order
theorem LD {ws:List (List UInt8)} {r:Rte} (h:Vy ws=some r):Z4 r++r.visits.map visS=ws/\KU r:=by
 unfold Vy at h
 split at h
 ·cases h
 ·rename_i h1
  split at h
  ·cases h
  ·rename_i c rs hr
   split at h
   ·rename_i hh
    split at h
    ·rename_i ha
     cases h
     simp only [YQ,Bool.and_eq_true,decide_eq_true_eq] at hh;have hw:nth ws 0=rteW:=Classical.byContradiction fun e=>h1 (.inr e);have hl: ¬ws.length<4:=fun e=>h1 (.inl e)
     match ws,hl with
     | [],hl=>exact absurd (by decide) hl
     | [_],hl=>exact absurd Zb hl
     | [_,_],hl=>exact absurd Zb hl
     | [_,_,_],hl=>exact absurd Zb hl
     | a::b::d::e::t,_ =>
      have hw:a=rteW:=hw;have n1:=VQ (show (ZE b).2=0 from hh.1);have n2:=VQ (show (ZE d).2=0 from hh.2);have n3:=LB (show U0 e=some (c,rs) from hr);have ha: ∀w∈t,(XM w).2=true:=fun w hw=>(List.all_eq_true.1 ha) w hw;refine ⟨?_,n1.2,n2.2,fun v hv=> ?_⟩
      ·show [[114,111,117,116,101],Xr (ZE b).1,Xr (ZE d).1,YF rs]++(t.map fun s=>(XM s).1).map visS=a::b::d::e::t
       rw [n1.1,n2.1,n3,hw,List.map_map];have: ∀w∈t,(visS∘fun s=>(XM s).1) w=id w:=fun w hw=>(DN (ha w hw)).1;rw [List.map_congr_left this,List.map_id];rfl
      ·obtain ⟨w,hw,rfl⟩:=List.mem_map.1 (show v∈t.map fun s=>(XM s).1 from hv);exact (DN (ha w hw)).2
    ·cases h
   ·cases h
theorem GC {ws:List (List UInt8)} {us:List Int} (h:XX ws=some us): [unsWd]++us.map decS=ws/\ ∀u∈us,okD u:=by
 unfold XX at h
 split at h
 ·cases h
 ·rename_i h1
  split at h
  ·rename_i ha
   cases h
   have hw:nth ws 0=unsW:=Classical.byContradiction fun e=>h1 (.inr e)
   cases ws with
   | nil=>exact absurd (.inl rfl) h1
   | cons a t =>
    have hw:a=unsW:=hw
    have ha: ∀w∈t,(ZE w).2=0:=fun w hw=>by
     have:=(List.all_eq_true.1 ha) w hw;simpa only [HZ,decide_eq_true_eq] using this
    refine ⟨?_,fun u hu=> ?_⟩
    ·show unsWd::(t.map fun s=>(ZE s).1).map decS=a::t
     rw [hw,List.map_map];have: ∀w∈t,(decS∘fun s=>(ZE s).1) w=id w:=fun w hw=>(VQ (ha w hw)).1;rw [List.map_congr_left this,List.map_id];rfl
    ·obtain ⟨w,hw,rfl⟩:=List.mem_map.1 (show u∈t.map fun s=>(ZE s).1 from hu);exact (VQ (ha w hw)).2
  ·cases h
theorem W3 (x y:List UInt8) (r:List (List UInt8)):Zw (x::y::r) [32]=x++32::Zw (y::r) [32]:=by
 rw [X1,X1];simp [Lib.joinTail]
theorem Uo (x:List UInt8):Zw [x] [32]=x:=by rw [X1];simp [Lib.joinTail]
theorem PH (s:List UInt8):Xt s≠ []:=by
 rw [Yd]
 split<;>simp
theorem QG : ∀(n:Nat) (s:List UInt8),s.length<=n->Zw (Xt s) [32]=s
 | n,s,hn=>by
  rw [Yd]
  split
  ·exact Uo s
  ·rename_i h;have hle:=Um s;have hsp:=B8 s Za
   cases n with
   | zero=>omega
   | succ n =>
    have ih:=QG n (s.drop (Wb s+1)) (by rw [List.length_drop];omega)
    cases hc:Xt (s.drop (Wb s+1)) with
    | nil=>exact absurd hc (PH _)
    | cons y r =>
     rw [hc] at ih;rw [W3,ih]
     have h1:s.drop (Wb s)=nth s (Wb s)::s.drop (Wb s+1):=by
      rw [List.drop_eq_getElem_cons Za,Zh Za]
     rw [<- hsp,<- h1,List.take_append_drop]
theorem QF (b:UInt8) (l:List UInt8) (c:UInt8):Lib.indexByte (b::l) c=if b=c then 0 else if Lib.indexByte l c= -1 then-1 else Lib.indexByte l c+1:=by
 rw [Lib.indexByte];simp
theorem Gy (c:UInt8): ∀s:List UInt8,0<=Lib.indexByte s c->nth s (Lib.indexByte s c).toNat=c
 | [],h=>by simp [Lib.indexByte] at h
 | b::l,h=>by
  have hb:=WH c l;rw [QF] at h ⊢
  by_cases e:b=c
  ·rw [if_pos e];exact e
  ·rw [if_neg e] at h ⊢
   by_cases e2:Lib.indexByte l c= -1
   ·rw [if_pos e2] at h;omega
   ·rw [if_neg e2];have ih:=Gy c l Za;rw [show (Lib.indexByte l c+1).toNat=(Lib.indexByte l c).toNat+1 by omega];exact ih
theorem Gz (c:UInt8): ∀(a r:List UInt8),c ∉ a->Lib.indexByte (a++c::r) c=a.length
 | [],r,_=>by rw [List.nil_append,QF,if_pos rfl];rfl
 | b::l,r,h=>by
  have ih:=Gz c l r fun e=>h (by simp [e]);rw [List.cons_append,QF,if_neg (fun e=>h (by simp [e])),ih,if_neg Za];simp
theorem C7 {a r:List UInt8} {c:UInt8} (h:c ∉ a):Xv (a++c::r) c=(a,r,true):=by
 have e:=Gz c a r h;rw [Xv,e,if_pos Za];simp only [Int.toNat_natCast,List.take_left];rw [show a.length+1=(a++ [c]).length by simp,show a++c::r=(a++ [c])++r by simp,List.drop_left]
theorem Iz {s:List UInt8} {c:UInt8} (h:(Xv s c).2.2=true):s=(Xv s c).1++c::(Xv s c).2.1:=by
 have hb:=WH c s
 unfold Xv at *
 split at h
 ·rename_i h1;rw [if_pos h1];have ha:=Gy c s h1
  have h2:s.drop (Lib.indexByte s c).toNat=nth s (Lib.indexByte s c).toNat::s.drop ((Lib.indexByte s c).toNat+1):=by
   rw [List.drop_eq_getElem_cons Za,Zh Za]
  simp only;rw [ha] at h2;rw [<- h2,List.take_append_drop]
 ·cases h
theorem Lq : ∀(f:Nat) (n:Int) (rs:List Rte) (s:List UInt8) (p:Pln) (m:Int),Vx f n rs s=(p,m,0) ->
  Jf p=(rs.map ZO).flatten++s/\((∀r∈rs,KU r)-> ∀r∈p.routes,KU r)/\ ∀u∈p.unserved,okD u
 | 0,n,rs,s,p,m,h=>by
  have:=congrArg (fun q=>q.2.2) h;exact absurd this (by simp [Vx])
 | f+1,n,rs,s,p,m,h=>by
  rw [Vx] at h
  split at h
  ·exact absurd (congrArg (fun q=>q.2.2) h) Zb
  ·rename_i h1;have hs:=Iz (s:=s) (c:=10) (by simpa using h1)
   split at h
   ·rename_i us hu
    split at h
    ·exact absurd (congrArg (fun q=>q.2.2) h) Zb
    ·rename_i h2
     have h2:(Xv s 10).2.1= []:=by simpa using h2
     have e:(⟨false,rs,false,us⟩:Pln)=p:=congrArg (fun q=>q.1) h;subst e;obtain ⟨l1,l2⟩:=GC hu;refine ⟨?_,fun hr=>hr,l2⟩
     show (rs.map ZO).flatten++(Zw ([unsWd]++us.map decS) [32]++ [10])=_
     rw [l1,QG _ _ (Nat.le_refl _)];rw [h2] at hs;rw [<- hs]
   ·rename_i hu
    split at h
    ·exact absurd (congrArg (fun q=>q.2.2) h) Zb
    ·rename_i r hr;obtain ⟨r1,r2⟩:=LD hr;obtain ⟨i1,i2,i3⟩:=Lq f _ _ _ _ _ h;refine ⟨?_,fun hq=>i2 fun q hq2=> ?_,i3⟩
     ·have hl:ZO r=(Xv s 10).1++ [10]:=by rw [ZO,r1,QG _ _ (Nat.le_refl _)]
      rw [i1,List.map_append,List.flatten_append];simp only [List.map_cons,List.map_nil,List.flatten_cons,List.flatten_nil,List.append_nil,hl,List.append_assoc];rw [List.singleton_append,<- hs]
     ·rcases List.mem_append.1 hq2 with hq2 | hq2
      ·exact hq q hq2
      ·simp only [List.mem_cons,List.not_mem_nil,or_false] at hq2;subst hq2;exact r2
theorem Dg {α:Type} : ∀ {L:List (List α)} {x:List α},x∈L->x.length<=L.flatten.length
 | y::L,x,h=>by
  rw [List.flatten_cons,List.length_append];rcases List.mem_cons.1 h with rfl | h
  ·omega
  ·have:=Dg h;omega
theorem Av {α:Type} : ∀ {L:List (List α)},(∀x∈L,x≠ [])->L.length<=L.flatten.length
 | [],_=>Zb
 | y::L,h=>by
  have h1:=List.length_pos_iff.2 (h y Zb);have:=Av (L:=L) fun x hx=>h x (by simp [hx]);rw [List.flatten_cons,List.length_append,List.length_cons];omega
theorem AD : ∀ {ws:List (List UInt8)} {w:List UInt8},w∈ws->w.length<=(Zw ws [32]).length
 | [x],w,h=>by
  rw [Uo];simp only [List.mem_cons,List.not_mem_nil,or_false] at h;subst h;omega
 | x::y::r,w,h=>by
  rw [W3,List.length_append,List.length_cons];rcases List.mem_cons.1 h with rfl | h
  ·omega
  ·have:=AD h;omega
theorem Un : ∀(ws:List (List UInt8)),ws.length<=(Zw ws [32]).length+1
 | []=>Zb
 | [x]=>Zb
 | x::y::r=>by
  have:=Un (y::r);rw [W3]
  simp only [List.length_append,List.length_cons] at *
  omega
theorem I4 (r:Rte):r.visits.length<=(ZO r).length/\r.rests.length<=(ZO r).length:=by
 have h1:=Un (Z4 r++r.visits.map visS);have h2:=AD (ws:=Z4 r++r.visits.map visS) (w:=YF r.rests) (by simp [Z4])
 have h3:r.rests.length<=(YF r.rests).length:=by
  unfold YF
  split
  ·rename_i e;simp [e]
  ·simp
 simp only [List.length_append,List.length_map,Z4,List.length_cons,List.length_nil] at h1 h2;rw [ZO,List.length_append];simp only [List.length_cons,List.length_nil,Z4];omega
theorem dN (p:Pln):p.routes.length<=(Jf p).length/\p.unserved.length<=(Jf p).length/\ ∀r∈p.routes,r.visits.length<=(Jf p).length/\r.rests.length<=(Jf p).length:=by
 have h1:=Av (L:=p.routes.map ZO) fun x hx=>by
  obtain ⟨r,_,rfl⟩:=List.mem_map.1 hx;simp [ZO]
 have h2:=Un ([unsWd]++p.unserved.map decS);simp only [List.length_append,List.length_map,List.length_cons,List.length_nil] at h1 h2;refine ⟨by rw [Jf,List.length_append];omega,by rw [Jf,Ap,List.length_append,List.length_append];simp only [List.length_cons,List.length_nil];omega,fun r hr=> ?_⟩;have h3:=Dg (List.mem_map_of_mem (f:=ZO) hr);have h4:=I4 r;rw [Jf,List.length_append];omega
def ED (r:Rte):Rte:=⟨r.typ,r.start,decide (r.rests= []),r.rests,false,r.visits⟩
def KD (p:Pln):Pln:=⟨false,p.routes.map ED,false,p.unserved⟩
theorem AL {b:UInt8} : ∀ {ws:List (List UInt8)},b∈Zw ws [32]->b=32\/ ∃w∈ws,b∈w
 | [],h=>by simp [Zw,Lib.join_nil] at h
 | [x],h=>by rw [Uo] at h;exact .inr ⟨x,Zb,h⟩
 | x::y::r,h=>by
  rw [W3] at h;rcases List.mem_append.1 h with h | h
  ·exact .inr ⟨x,Zb,h⟩
  ·rcases List.mem_cons.1 h with h | h
   ·exact .inl h
   ·rcases AL h with h | ⟨w,hw,h⟩
    ·exact .inl h
    ·exact .inr ⟨w,by simp [List.mem_cons.1 hw],h⟩
theorem Nu {w:List UInt8} (h:ZS w=true):10 ∉ w:=fun e=>by
 have:=Bz h 10 e;exact absurd this (by decide)
theorem Do {ws:List (List UInt8)} (h: ∀w∈ws,ZS w=true):10 ∉ Zw ws [32]:=fun e=>by
 rcases AL e with e | ⟨w,hw,e⟩
 ·exact absurd e (by decide)
 ·exact Nu (h w hw) e
theorem Bt {v:Vis} (h:okD v.order):XM (visS v)=(v,true):=by
 obtain ⟨o,d⟩:=v;have hn:ZE (Xr o)=(o,0):=VR h
 cases d with
 | true =>
  show XM (45::Xr o)=_
  unfold XM;rw [if_neg (by rintro (e | e);cases e;exact e.2 rfl)]
  show (Vis.mk (ZE (Xr o)).1 _,decide ((ZE (Xr o)).2=0))=_
  rw [hn];rfl
 | false =>
  show XM (43::Xr o)=_
  unfold XM;rw [if_neg (by rintro (e | e);cases e;exact e.1 rfl)]
  show (Vis.mk (ZE (Xr o)).1 _,decide ((ZE (Xr o)).2=0))=_
  rw [hn];rfl
theorem Hk (l:List Bool):U0 (YF l)=some (decide (l= []),l):=by
 unfold YF
 split
 ·rename_i e;subst e;rfl
 ·rename_i h
  have Z5:(l.map fun b=>if b=true then (121:UInt8) else 110).all HO=true:=by
   rw [List.all_eq_true];intro b hb;obtain ⟨q,_,rfl⟩:=List.mem_map.1 hb
   cases q<;>rfl
  have h46: ¬(l.map fun b=>if b=true then (121:UInt8) else 110)= [46]:=fun e=>by rw [e] at Z5;exact absurd Z5 (by decide)
  rw [U0,if_neg h46,if_pos Z5,if_neg (by simpa using h),decide_eq_false h,List.map_map]
  have: ∀b∈l,(yB∘fun b=>if b=true then (121:UInt8) else 110) b=id b:=fun b _=>by cases b<;>rfl
  rw [List.map_congr_left this,List.map_id]
theorem Hm {r:Rte} (h:KU r):Vy (Z4 r++r.visits.map visS)=some (ED r):=by
 obtain ⟨h1,h2,h3⟩:=h;have e1:ZE (decS r.typ)=(r.typ,0):=VR h1;have e2:ZE (decS r.start)=(r.start,0):=VR h2;have e3:=Hk r.rests
 have e4:(r.visits.map visS).all Pk=true:=by
  rw [List.all_eq_true];intro w hw;obtain ⟨v,hv,rfl⟩:=List.mem_map.1 hw
  show (XM (visS v)).2=true
  rw [Bt (h3 v hv)]
 have e5:(r.visits.map visS).map (fun s=>(XM s).1)=r.visits:=by
  rw [List.map_map]
  have: ∀v∈r.visits,((fun s=>(XM s).1)∘visS) v=id v:=fun v hv=>by
   show (XM (visS v)).1=v
   rw [Bt (h3 v hv)]
  rw [List.map_congr_left this,List.map_id]
 show Vy (rteW::decS r.typ::decS r.start::YF r.rests::r.visits.map visS)=_
 generalize r.visits.map visS=vs at *
 unfold Vy;rw [if_neg (by rintro (e | e);simp at e;omega;exact e rfl)]
 show (match U0 (YF r.rests) with | none=>none | some (c,rs)=>if YQ (rteW::decS r.typ::decS r.start::YF r.rests::vs)=true then (if vs.all Pk=true then some (Rte.mk (ZE (decS r.typ)).1 (ZE (decS r.start)).1 c rs false (vs.map fun s=>(XM s).1)) else none) else none)=_
 rw [e3];simp only;rw [if_pos (by show (decide ((ZE (decS r.typ)).2=0)&&decide ((ZE (decS r.start)).2=0))=true;rw [e1,e2];rfl),if_pos e4,e5,e1,e2];rfl
theorem Ew {us:List Int} (h: ∀u∈us,okD u):XX ([unsWd]++us.map decS)=some us:=by
 have e4:(us.map decS).all HZ=true:=by
  rw [List.all_eq_true];intro w hw;obtain ⟨v,hv,rfl⟩:=List.mem_map.1 hw;have e:ZE (decS v)=(v,0):=VR (h v hv)
  show decide ((ZE (decS v)).2=0)=true
  rw [e];rfl
 have e5:(us.map decS).map (fun s=>(ZE s).1)=us:=by
  rw [List.map_map]
  have: ∀v∈us,((fun s=>(ZE s).1)∘decS) v=id v:=fun v hv=>by
   have e:ZE (decS v)=(v,0):=VR (h v hv)
   show (ZE (decS v)).1=v
   rw [e]
  rw [List.map_congr_left this,List.map_id]
 show XX (unsW::us.map decS)=_
 generalize us.map decS=vs at *
 unfold XX;rw [if_neg (by rintro (e | e);cases e;exact e rfl)]
 show (if vs.all HZ=true then some (vs.map fun s=>(ZE s).1) else none)=_
 rw [if_pos e4,e5]
theorem Hn {r:Rte} {vs:List (List UInt8)} :XX (Z4 r++vs)=none:=by
 show XX (rteW::_)=none
 unfold XX;rw [if_pos (.inr (by show rteW≠unsW;decide))]
theorem AZ (p:Pln) (hu: ∀u∈p.unserved,okD u): ∀(f:Nat) (rs' rs:List Rte) (n:Int),rs'.length<f->(∀r∈rs',KU r) ->
  Vx f n rs ((rs'.map ZO).flatten++Ap p)=(⟨false,rs++rs'.map ED,false,p.unserved⟩,0,0)
 | 0,rs',rs,n,h,_=>Za
 | f+1,[],rs,n,_,_=>by
  have hl:=Ew hu;have h1:=QI hl;have h2:10 ∉ Zw ([unsWd]++p.unserved.map decS) [32]:=Do h1;have h3:Xt (Zw ([unsWd]++p.unserved.map decS) [32])= [unsWd]++p.unserved.map decS:=Q5 _ Zb fun w hw=>BU (h1 w hw);have h4:Xv (Zw ([unsWd]++p.unserved.map decS) [32]++ [10]) 10=(Zw ([unsWd]++p.unserved.map decS) [32],[],true):=C7 h2
  show Vx (f+1) n rs ([]++(Zw ([unsWd]++p.unserved.map decS) [32]++ [10]))=_
  rw [List.nil_append,Vx,h4];simp only;rw [if_neg Zb,h3,hl];simp
 | f+1,r::rs',rs,n,h,hr=>by
  have hn:=hr r Zb;have hl:=Hm hn;have h1:=JX hl;have h2:10 ∉ Zw (Z4 r++r.visits.map visS) [32]:=Do h1;have h3:Xt (Zw (Z4 r++r.visits.map visS) [32])=Z4 r++r.visits.map visS:=Q5 _ (by simp [Z4]) fun w hw=>BU (h1 w hw);have h4:Xv (Zw (Z4 r++r.visits.map visS) [32]++10::((rs'.map ZO).flatten++Ap p)) 10=(Zw (Z4 r++r.visits.map visS) [32],(rs'.map ZO).flatten++Ap p,true):=C7 h2;have ih:=AZ p hu f rs' (rs++ [ED r]) (n+1) (by simp at h;omega) fun q hq=>hr q (by simp [hq])
  rw [List.map_cons,List.flatten_cons,ZO,List.append_assoc,List.append_assoc,List.singleton_append,Vx,h4];simp only;rw [if_neg Zb,h3,Hn,hl];simp only;rw [ih];simp
theorem Pp {p:Pln} (hr: ∀r∈p.routes,KU r) (hu: ∀u∈p.unserved,okD u):Vx ((Jf p).length+1) 1 [] (Jf p)=(KD p,0,0):=by
 have h:=AZ p hu ((Jf p).length+1) p.routes [] 1 (by have:=(dN p).1;omega) hr;rw [Jf] at h ⊢;rw [h];rfl
theorem dO {p:Pln} (h1:p.routes.length<=12) (h2:p.unserved.length<=24) (h3: ∀r∈p.routes,KU r/\r.visits.length<=24/\r.rests.length<=24) (h4: ∀u∈p.unserved,okD u):(Jf p).length<=65536:=by
 have hline: ∀r∈p.routes,(ZO r).length<=701:=fun r hr=>by
  obtain ⟨⟨n1,n2,n3⟩,hv,hs⟩:=h3 r hr
  have:=W2 (sep:= [32]) (B:=24) (xs:=Z4 r++r.visits.map visS) fun s hs2=>by
   rcases List.mem_append.1 hs2 with hs2 | hs2
   ·simp only [Z4,List.mem_cons,List.not_mem_nil,or_false] at hs2;rcases hs2 with rfl | rfl | rfl | rfl
    ·simp
    ·have:=Xi n1;omega
    ·have:=Xi n2;omega
    ·unfold YF
     split
     ·simp
     ·rw [List.length_map];exact hs
   ·obtain ⟨v,hv,rfl⟩:=List.mem_map.1 hs2;have:=Xi (n3 v hv);rw [visS,List.length_append]
    split<;>simp<;>omega
  simp only [List.length_append,List.length_map,Z4,List.length_cons,List.length_nil] at this;rw [ZO,List.length_append];simp only [List.length_cons,List.length_nil,Z4];omega
 have hfl: ∀L:List Rte,(∀r∈L,(ZO r).length<=701)->((L.map ZO).flatten).length<=L.length*701:=fun L=>by
  induction L with
  | nil=>intro _;simp
  | cons r L ih =>
   intro h;have i1:=ih fun q hq=>h q (by simp [hq]);have i2:=h r Zb;rw [List.map_cons,List.flatten_cons,List.length_append,List.length_cons];omega
 have hf:=hfl p.routes hline
 have he:=W2 (sep:= [32]) (B:=24) (xs:= [unsWd]++p.unserved.map decS) fun s hs=>by
  rcases List.mem_append.1 hs with hs | hs
  ·simp only [unsWd,List.mem_cons,List.not_mem_nil,or_false] at hs;subst hs;simp
  ·obtain ⟨v,hv,rfl⟩:=List.mem_map.1 hs;have:=Xi (h4 v hv);omega
 simp only [List.length_append,List.length_map,List.length_cons,List.length_nil] at he;rw [Jf,Ap,List.length_append,List.length_append];simp only [List.length_cons,List.length_nil];omega
theorem GQ (p:Pln):V3 p (KD p)=true :=
 J0 (by simp [KD]) (fun k hk=>by
  have:nth (KD p).routes k=ED (nth p.routes k):=by simp [KD,nth,hk]
  rw [this];exact UI.2 ⟨rfl,rfl,rfl,rfl⟩) rfl
theorem Yo : ∀(n:Nat) (s:List UInt8),s.length<=n->(Xt s).length<=s.length+1/\ ∀w∈Xt s,w.length<=s.length
 | n,s,hn=>by
  rw [Yd]
  split
  ·refine ⟨Zb,fun w hw=> ?_⟩;simp only [List.mem_cons,List.not_mem_nil,or_false] at hw;subst hw;omega
  ·rename_i h;have hle:=Um s
   cases n with
   | zero=>omega
   | succ n =>
    have ih:=Yo n (s.drop (Wb s+1)) (by rw [List.length_drop];omega);rw [List.length_drop] at ih;refine ⟨by rw [List.length_cons];omega,fun w hw=> ?_⟩;rcases List.mem_cons.1 hw with rfl | hw
    ·rw [List.length_take];omega
    ·have:=ih.2 w hw;omega
set_option maxRecDepth 60000
def JI (r:Rte):List UInt8:=Zw (Z4 r++r.visits.map visS) [32]
theorem I3 (r:Rte):ZO r=JI r++ [10]:=rfl
def Vu (r:Rte):List UInt8:= [114,111,117,116,101,32]++Xr r.typ++ [32]++Xr r.start++ [32]
def Vv (r:Rte) (k:Nat):List UInt8:=Vu r++YF r.rests++Lib.joinTail [32] ((r.visits.take k).map visS)
theorem GF (r:Rte):Vv r r.visits.length=JI r:=by
 rw [Vv,List.take_length,JI,Z4,List.cons_append,X1];simp [Lib.joinTail,Vu,decS]
theorem J4 (L:List (List UInt8)) (x:List UInt8):Lib.joinTail [32] (L++ [x])=Lib.joinTail [32] L++32::x:=by simp [Lib.joinTail]
theorem JG {r:Rte} {k:Nat} (h:k<r.visits.length):Vv r (k+1)=Vv r k++(32::visS (nth r.visits k)):=by
 rw [Vv,Vv,List.take_succ_eq_append_getElem h,Zh h,List.map_append,List.map_cons,List.map_nil,J4];simp
theorem JH (r:Rte):Vv r 0=Vu r++YF r.rests:=by simp [Vv,Lib.joinTail]
def fX (r:Rte):Prop:=r.visits.length<=4096/\okD r.typ/\okD r.start/\okR r.rests/\ ∀v∈r.visits,okD v.order
theorem AE {r:Rte} (h:fX r):(Vu r).length<=48:=by
 have h1:=YA _ h.2.1;have h2:=YA _ h.2.2.1;simp only [Vu,List.length_append,List.length_cons,List.length_nil];omega
theorem HH {v:Vis} (h:okD v.order):(visS v).length<=21:=by
 have:=Xi h;rw [visS,List.length_append]
 split<;>simp<;>omega
theorem GG {r:Rte} (h:fX r) (k:Nat):(Vv r k).length<=4200+k*22:=by
 induction k with
 | zero =>
  have h1:=AE h;have h2:=A4 h.2.2.2.1;rw [JH,List.length_append];omega
 | succ k ih =>
  by_cases hk:k<r.visits.length
  ·have:=HH (h.2.2.2.2 _ (Zp hk));rw [JG hk,List.length_append,List.length_cons];omega
  ·have e:Vv r (k+1)=Vv r k:=by rw [Vv,Vv,List.take_of_length_le Za,List.take_of_length_le Za]
   rw [e];omega
theorem Ho {l:List Bool} :l≠ []->YF l=l.map ynU:=fun h=>by rw [YF,if_neg h];rfl
theorem GI (r:Rte) (h:fX r):PC 43 [.p (XS r)] (.str (JI r)):=by
 obtain ⟨hv,ht,hst,hr,ho⟩:=id h;have hr:r.rests.length<=4096:=hr;have hP:=AE h;have hlt:=YA _ ht;have hls:=YA _ hst;have hQ:=GG h;obtain ⟨B,hB⟩: ∃B:List UInt8,B=if r.rests= [] then [46] else []:=⟨_,rfl⟩
 have hB1:B.length<=1:=by rw [hB];split<;>simp
 have hB2:B++r.rests.map ynU=YF r.rests:=by
  rw [hB]
  by_cases e:r.rests= []
  ·rw [if_pos e,e];rfl
  ·rw [if_neg e,Ho e];rfl
 refine Yj [2] Tryz.func43 rfl bO ?_;simp (disch:=omega) only [Tryz.f43,go_sem,seval];refine Yl ?_;simp (disch:=omega) only [go_sem,seval];refine ZN (U6 r.typ ht) ?_;simp (disch:=omega) only [go_sem,seval];rw [ZK (by simp;omega)];simp (disch:=omega) only [go_sem,seval];rw [ZK (by simp;omega)];simp (disch:=omega) only [go_sem,seval];refine ZN (U6 r.start hst) ?_;simp (disch:=omega) only [go_sem,seval];rw [ZK (by simp;omega)];simp (disch:=omega) only [go_sem,seval];rw [ZK (by simp;omega)]
 simp (disch:=omega) only [go_sem,seval]
 have hPe:114::111::117::116::101::32::(Xr r.typ++ [32]++Xr r.start++ [32])=Vu r:=by simp [Vu]
 have hPe2:114::111::117::116::101::32::(Xr r.typ++ [32]++Xr r.start++ [32]++ [46])=Vu r++ [46]:=by simp [Vu]
 refine XN [1] (fun _:Unit=> [(3,.p (.str (Vu r++B)))]) (fun _=> [Zy r]) (fun _=>True) ?_ ?_
 ·simp (disch:=omega) only [Zy,go_sem,seval];refine cD ?_ ?_<;>intro h1<;>simp (disch:=omega) only [Sh.out h1,go_sem,seval]
  ·have e:r.rests= []:=List.length_eq_zero_iff.1 Za;rw [hB,if_pos e];rw [ZK (by simp;omega)];simp (disch:=omega) only [go_sem,seval];exact ⟨(),Weak.mk (by simp (disch:=omega) only [Zy,hPe2,go_sem,seval])⟩
  ·have e: ¬r.rests= []:=fun e=>h1 (by rw [e];rfl);rw [hB,if_neg e];exact ⟨(),Weak.mk (by simp (disch:=omega) only [Zy,hPe,List.append_nil,go_sem,seval])⟩
 ·intro _ _;refine Ze [] _ _ _ _ ?_;simp (disch:=omega) only [Zy,go_sem,seval];refine Zl [1] (fun k:Nat=> [(3,.p (.str (Vu r++B++(r.rests.take k).map ynU))),(4,.p (.int .i64 k))]) (fun _=> [Zy r]) (fun k=>k<=r.rests.length) (fun k=>r.rests.length-k) 0 Zb (Weak.mk ?_) ?_
  ·simp (disch:=omega) only [Zy,List.take_zero,List.map_nil,List.append_nil,go_sem,seval]
  ·intro k hk;simp (disch:=omega) only [Zy,go_sem,seval]
   have hlk:(Vu r++B++(r.rests.take k).map ynU).length<=4146:=by
    simp only [List.length_append,List.length_map,List.length_take];omega
   refine cD ?_ ?_<;>intro h2<;>simp (disch:=omega) only [Sh.out h2,go_sem,seval]
   ·have hk2:k<r.rests.length:=Za
    have hnx:Vu r++B++(r.rests.take (k+1)).map ynU=(Vu r++B++(r.rests.take k).map ynU)++ [ynU (nth r.rests k)]:=by
     rw [List.take_succ_eq_append_getElem hk2,Zh hk2,List.map_append,List.map_cons,List.map_nil,List.append_assoc];simp
    generalize Vu r++B++(r.rests.take k).map ynU=S at *
    cases hb:nth r.rests k with
    | true =>
     simp (disch:=omega) only [hb,go_sem,seval];rw [ZK (by simp;omega)];simp (disch:=omega) only [go_sem,seval];exact ⟨k+1,Za,Za,Weak.mk (by simp (disch:=omega) only [Zy,hnx,hb,ynU,go_sem,seval])⟩
    | false =>
     simp (disch:=omega) only [hb,Bool.false_eq_true,go_sem,seval];rw [ZK (by simp;omega)];simp (disch:=omega) only [go_sem,seval];exact ⟨k+1,Za,Za,Weak.mk (by simp (disch:=omega) only [Zy,hnx,hb,ynU,Bool.false_eq_true,go_sem,seval])⟩
   ·have hkl:k=r.rests.length:=Za
    subst hkl
    rw [List.take_length,List.append_assoc,hB2] at *
    refine Zl [1] (fun k:Nat=> [(3,.p (.str (Vv r k))),(5,.p (.int .i64 k))]) (fun _=> [Zy r]) (fun k=>k<=r.visits.length) (fun k=>r.visits.length-k) 0 Zb (Weak.mk ?_) ?_
    ·simp (disch:=omega) only [Zy,JH,go_sem,seval]
    ·intro k hk;simp (disch:=omega) only [Zy,go_sem,seval];refine cD ?_ ?_<;>intro h3<;>simp (disch:=omega) only [Sh.out h3,go_sem,seval]
     ·have hk2:k<r.visits.length:=Za
      have hdo:okD (nth r.visits k).order:=ho _ (Zp hk2);have hnx:=JG hk2;have hql:=hQ k;have hvs:visS (nth r.visits k)=(if (nth r.visits k).drp=true then [45] else [43])++Xr (nth r.visits k).order:=rfl;have hdl:=YA _ hdo
      generalize Vv r k=S at *
      generalize hd:(nth r.visits k).drp=d at *
      cases d
      all_goals
       simp (disch:=omega) only [hd,go_sem,seval];rw [ZK (by simp;omega)];simp (disch:=omega) only [go_sem,seval];refine (U6 (nth r.visits k).order hdo).use ?_;simp (disch:=omega) only [go_sem,seval];rw [ZK (by simp;omega)];simp (disch:=omega) only [go_sem,seval];exact ⟨k+1,Za,Za,Weak.mk (by simp (disch:=omega) only [Zy,hnx,hvs,List.append_assoc,List.cons_append,List.nil_append,go_sem,seval])⟩
     ·have hkl:k=r.visits.length:=Za
      subst hkl;rw [GF]
theorem EL (p:Pln) (h:PrOk p):PC 18 [.p (Va p)] (.str (Jf p)):=by
 obtain ⟨hr,hu,hb,hv⟩:=id h;have hll:=JJ h;refine Zc Tryz.func18 rfl bC ?_;simp (disch:=omega) only [Tryz.f18,go_sem,seval];refine Zl [1] (fun k:Nat=> [(3,.p (.str (((p.routes.take k).map ZO).flatten))),(4,.p (.int .i64 k))]) (fun _=> [Zv p]) (fun k=>k<=p.routes.length) (fun k=>p.routes.length-k) 0 Zb (Weak.mk ?_) ?_
 ·simp (disch:=omega) only [Zv,List.take_zero,List.map_nil,List.flatten_nil,go_sem,seval]
 ·intro k hk;simp (disch:=omega) only [Zv,go_sem,seval];refine cD ?_ ?_<;>intro h1<;>simp (disch:=omega) only [Sh.out h1,go_sem,seval]
  ·have hk2:k<p.routes.length:=Za
   have hm:fX (nth p.routes k):=hb _ (Zp hk2);have hkl:=hll k;have hln:(JI (nth p.routes k)).length<=16797700:=Uq hm
   have htk:((p.routes.take (k+1)).map ZO).flatten=((p.routes.take k).map ZO).flatten++JI (nth p.routes k)++ [10]:=by
    rw [List.take_succ_eq_append_getElem hk2,Zh hk2,List.map_append,List.flatten_append];simp [I3]
   refine (GI (nth p.routes k) hm).use ?_;simp (disch:=omega) only [go_sem,seval]
   generalize ((p.routes.take k).map ZO).flatten=S at *
   rw [ZK (by simp;omega)];simp (disch:=omega) only [go_sem,seval];exact ⟨k+1,Za,Za,Weak.mk (by simp (disch:=omega) only [Zv,htk,go_sem,seval])⟩
  ·have hkl:k=p.routes.length:=Za
   subst hkl;have hll:=hll p.routes.length
   rw [List.take_length] at *
   have hfin:Jf p=(p.routes.map ZO).flatten++unsWd++Lib.joinTail [32] (p.unserved.map decS)++ [10]:=by
    rw [Jf,Ap,List.singleton_append,X1];simp
   generalize (p.routes.map ZO).flatten=S at *
   rw [ZK (by simp;omega)];simp (disch:=omega) only [go_sem,seval]
   have hjl: ∀q,(Lib.joinTail [32] ((p.unserved.take q).map decS)).length<=4096*22:=fun q=>by
    have:=Wc (sep:= [32]) (B:=21) ((p.unserved.take q).map decS) fun s hs=>by
     obtain ⟨v,hv2,rfl⟩:=List.mem_map.1 hs;have:=Xi (hv v (List.mem_of_mem_take hv2));omega
    simp only [List.length_map,List.length_take,List.length_cons,List.length_nil] at this;omega
   refine Zl [1] (fun k:Nat=> [(3,.p (.str (S++unsWd++Lib.joinTail [32] ((p.unserved.take k).map decS)))),(5,.p (.int .i64 k))]) (fun _=> [Zv p]) (fun k=>k<=p.unserved.length) (fun k=>p.unserved.length-k) 0 Zb (Weak.mk ?_) ?_
   ·simp (disch:=omega) only [Zv,List.take_zero,List.map_nil,Lib.joinTail,List.flatten_nil,List.append_nil,unsWd,go_sem,seval]
   ·intro k hk;simp (disch:=omega) only [Zv,go_sem,seval];have hjk:=hjl k;have hul:unsWd.length=8:=rfl
    have hSk:(S++unsWd++Lib.joinTail [32] ((p.unserved.take k).map decS)).length<=4096*16797701+8+4096*22:=by
     simp only [List.length_append];omega
    refine cD ?_ ?_<;>intro h2<;>simp (disch:=omega) only [Sh.out h2,go_sem,seval]
    ·have hk2:k<p.unserved.length:=Za
     have hdo:okD (nth p.unserved k):=hv _ (Zp hk2);have hdl:=YA _ hdo
     have hnx:S++unsWd++Lib.joinTail [32] ((p.unserved.take (k+1)).map decS)=(S++unsWd++Lib.joinTail [32] ((p.unserved.take k).map decS))++ [32]++Xr (nth p.unserved k):=by
      rw [List.take_succ_eq_append_getElem hk2,Zh hk2,List.map_append,List.map_cons,List.map_nil,J4];simp [decS]
     generalize S++unsWd++Lib.joinTail [32] ((p.unserved.take k).map decS)=S2 at *
     rw [ZK (by simp;omega)];simp (disch:=omega) only [go_sem,seval];refine (U6 (nth p.unserved k) hdo).use ?_;simp (disch:=omega) only [go_sem,seval];rw [ZK (by simp;omega)];simp (disch:=omega) only [go_sem,seval];exact ⟨k+1,Za,Za,Weak.mk (by simp (disch:=omega) only [Zv,hnx,go_sem,seval])⟩
    ·have hkl:k=p.unserved.length:=Za
     subst hkl
     rw [List.take_length] at *
     rw [ZK (by simp;omega)];simp (disch:=omega) only [go_sem,seval];rw [hfin]
theorem WY (n:Int) (h:okD n):PC 40 [.p (.int .i64 n)] (.str (decS n)):=by
 refine Zc Tryz.func40 rfl bL ?_;simp (disch:=omega) only [Tryz.f40,go_sem,seval];refine (IY n h).use ?_;simp (disch:=omega) only [go_sem,seval]
 rfl
theorem DL (xs:List (List UInt8)) (c:Bool) (hx:xs.length<=1048576) (hl:(Zw xs [32]).length<=140737488355328) :
  PC 42 [.p (.list c (xs.map Vg))] (.str (Zw xs [32])):=by
 refine Zc Tryz.func42 rfl bN ?_;simp (disch:=omega) only [Tryz.f42,go_sem,seval];refine (Pb xs c [32] hx hl).use ?_;simp (disch:=omega) only [go_sem,seval]
theorem rests_c (l:List Bool) (c:Bool) (h:okR l):PC 41 [.p (.list c (l.map eB))] (.str (YF l)):=by
 have h:l.length<=4096:=h;refine Yj [3] Tryz.func41 rfl bM ?_;simp (disch:=omega) only [Tryz.f41,go_sem,seval];refine cD ?_ ?_<;>intro h1<;>simp (disch:=omega) only [Sh.out h1,go_sem,seval]
 ·have:l= []:=List.length_eq_zero_iff.1 Za;subst this;rfl
 ·have hne:l≠ []:=fun e=>h1 (by rw [e];rfl);refine ZX (U5 0 rfl rfl ?_);simp (disch:=omega) only [go_sem,seval];refine ⟨_,_,Dz 77 5 rfl Zg,?_⟩;simp (disch:=omega) only [go_sem,seval];refine Ze [] _ _ _ _ ?_;simp (disch:=omega) only [go_sem,seval];refine Zl [3,9,10] (fun k:Nat=> [(11,.p (.int .i64 k))]) (fun k=> [.bld 77 5 1 ((l.take k).map ynU),.dead]) (fun k=>k<=l.length) (fun k=>l.length-k) 0 Zb (Weak.mk ?_) ?_
  ·simp (disch:=omega) only [List.take_zero,List.map_nil,go_sem,seval]
  ·intro k hk;simp (disch:=omega) only [go_sem,seval];refine cD ?_ ?_<;>intro h2<;>simp (disch:=omega) only [Sh.out h2,go_sem,seval]
   ·have hk2:k<l.length:=Za
    have hnx:(l.take (k+1)).map ynU=(l.take k).map ynU++ [ynU (nth l k)]:=by rw [List.take_succ_eq_append_getElem hk2,Zh hk2,List.map_append];rfl
    have hsz:((l.take k).map ynU).length+1<=140737488355328:=by rw [List.length_map,List.length_take];omega
    cases hb:nth l k with
    | true =>
     simp (disch:=omega) only [hb,go_sem,seval];refine (DP (o:=0) (r:=1) rfl 121 hsz).mono ?_;rintro x H' ⟨rfl,rfl⟩;simp (disch:=omega) only [go_sem,seval];exact ⟨k+1,Za,Za,Weak.mk (by simp (disch:=omega) only [hnx,hb,ynU,List.set_cons_zero,go_sem,seval])⟩
    | false =>
     simp (disch:=omega) only [hb,Bool.false_eq_true,go_sem,seval];refine (DP (o:=0) (r:=1) rfl 110 hsz).mono ?_;rintro x H' ⟨rfl,rfl⟩;simp (disch:=omega) only [go_sem,seval];exact ⟨k+1,Za,Za,Weak.mk (by simp (disch:=omega) only [hnx,hb,ynU,Bool.false_eq_true,List.set_cons_zero,go_sem,seval])⟩
   ·have hkl:k=l.length:=Za
    subst hkl;rw [List.take_length];refine (FD (o:=0) (r:=1) rfl (by simpa using hne)).mono ?_;rintro x H' ⟨rfl,rfl⟩;simp (disch:=omega) only [go_sem,seval];rw [YF,if_neg hne];rfl
def LC (r:Rte):AM.Obj:= .cells [.p (.int .i64 r.typ),.p (.int .i64 r.start),.p (.list r.rests_c (r.rests.map eB)),.p (.list r.visits_c (r.visits.map ZW))]
theorem DF (p:Pln) (h:PrOk p):PC 17 [.p (Va p)] (.str (Jf p)):=by
 obtain ⟨hr,hu,hb,hv⟩:=id h;have hll:=JJ h;refine Yj [1] Tryz.func17 rfl bB ?_;simp (disch:=omega) only [Tryz.f17,go_sem,seval];refine ZX (U5 0 rfl rfl ?_);simp (disch:=omega) only [go_sem,seval];refine ⟨_,_,Dz 77 5 rfl Zg,?_⟩;simp (disch:=omega) only [go_sem,seval];refine Ze [] _ _ _ _ ?_;simp (disch:=omega) only [go_sem,seval];refine Zl [1,3,14,15] (fun k:Nat=> [(16,.p (.int .i64 k))]) (fun k=> [Zv p,.bld 77 5 2 (((p.routes.take k).map ZO).flatten),.dead]) (fun k=>k<=p.routes.length) (fun k=>p.routes.length-k) 0 Zb (Weak.mk ?_) ?_
 ·simp (disch:=omega) only [Zv,List.take_zero,List.map_nil,List.flatten_nil,go_sem,seval]
 ·intro k hk;simp (disch:=omega) only [Zv,go_sem,seval];refine cD ?_ ?_<;>intro h1<;>simp (disch:=omega) only [Sh.out h1,go_sem,seval]
  ·have hk2:k<p.routes.length:=Za
   have hm:=Zp hk2;obtain ⟨b1,b2,b3,b4,b5⟩:=hb _ hm;refine XB 9 mixed Zg Zg ?_;simp (disch:=omega) only [go_sem,seval];refine ZN (WY (nth p.routes k).typ b2) ?_;simp (disch:=omega) only [go_sem,seval];refine ZN (WY (nth p.routes k).start b3) ?_;simp (disch:=omega) only [go_sem,seval];refine ZN (rests_c (nth p.routes k).rests _ b4) ?_;simp (disch:=omega) only [go_sem,seval];refine Zl [1,3,14,15,16,31,32] (fun q:Nat=> [(33,.p (.int .i64 q)),(6,.sl 4 0 (Vb (nth p.routes k) q).length (Vb (nth p.routes k) q).length)]) (fun q=> [Zv p,.bld 77 5 2 (((p.routes.take k).map ZO).flatten),.dead,LC (nth p.routes k),.elems 1 ((Vb (nth p.routes k) q).map Vg)]) (fun q=>q<=(nth p.routes k).visits.length) (fun q=>(nth p.routes k).visits.length-q) 0 Zb (Weak.mk ?_) ?_
   ·simp (disch:=omega) only [Zv,LC,go_sem,seval];simp [Vb,Z4,Qb]
   ·intro q hq;simp (disch:=omega) only [Zv,LC,go_sem,seval];have hwl:=GH hq;refine cD ?_ ?_<;>intro h2<;>simp (disch:=omega) only [Sh.out h2,go_sem,seval]
    ·have hq2:q<(nth p.routes k).visits.length:=Za
     have hmv:=Zp hq2;have hdo:=b5 _ hmv;have hsn:=Ex hq2;have hvd:visS (nth (nth p.routes k).visits q)=(if (nth (nth p.routes k).visits q).drp=true then [45] else [43])++decS (nth (nth p.routes k).visits q).order:=rfl
     generalize (nth (nth p.routes k).visits q)=v at *
     have hdl:=Xi hdo
     generalize hd:v.drp=d at *
     cases d
     all_goals
      simp (disch:=omega) only [go_sem,seval];refine (WY v.order hdo).use ?_;simp (disch:=omega) only [go_sem,seval];rw [ZK (by simp;omega)];simp (disch:=omega) only [go_sem,seval];refine ⟨q+1,Za,Za,Weak.mk ?_⟩;simp (disch:=omega) only [Zv,LC,hsn,hvd,List.map_append,List.map_cons,List.map_nil,List.length_append,List.length_cons,List.length_nil,Qb,go_sem,seval]
    ·have hql:q=(nth p.routes k).visits.length:=Za
     subst hql;have hfl:=Uq (hb _ hm)
     have hls:ZO (nth p.routes k)=Zw (Vb (nth p.routes k) (nth p.routes k).visits.length) [32]++ [10]:=by rw [Vb,List.take_length];rfl
     have hln:(Zw (Vb (nth p.routes k) (nth p.routes k).visits.length) [32]).length<=16797700:=by rw [Vb,List.take_length];exact hfl
     have hkl:=hll k
     have htk:(p.routes.take (k+1)).map ZO=(p.routes.take k).map ZO++ [ZO (nth p.routes k)]:=by rw [List.take_succ_eq_append_getElem hk2,Zh hk2,List.map_append];rfl
     refine ACalls.view (DL (Vb (nth p.routes k) (nth p.routes k).visits.length) false Za Za) (by simp [PW,vw,Xn,V8]<;>rfl) (by rfl) ?_;simp (disch:=omega) only [go_sem,seval];rw [ZK (by simp;omega)];simp (disch:=omega) only [go_sem,seval];refine (HN (o:=1) (r:=2) rfl (Zw (Vb (nth p.routes k) (nth p.routes k).visits.length) [32]++ [10]) Zb (by simp only [List.length_append,List.length_cons,List.length_nil];omega)).mono ?_;rintro x H' ⟨rfl,rfl⟩;simp (disch:=omega) only [go_sem,seval];refine ⟨k+1,Za,Za,Weak.mk ?_⟩
     simp (disch:=omega) only [Zv,htk,hls,List.flatten_append,List.flatten_cons,List.flatten_nil,List.append_nil,List.set_cons_succ,List.set_cons_zero,go_sem,seval]
  ·have hkl:k=p.routes.length:=Za
   subst hkl
   rw [List.take_length] at *
   have hll:=hll p.routes.length;rw [List.take_length] at hll;refine Zl [3,55,56] (fun q:Nat=> [(57,.p (.int .i64 q)),(10,.sl 3 0 (Vh p q).length (Vh p q).length)]) (fun q=> [Zv p,.bld 77 5 2 ((p.routes.map ZO).flatten),.dead,.elems 1 ((Vh p q).map Vg)]) (fun q=>q<=p.unserved.length) (fun q=>p.unserved.length-q) 0 Zb (Weak.mk ?_) ?_
   ·simp (disch:=omega) only [Zv,go_sem,seval];simp [Vh,unsWd,Qb]
   ·intro q hq;simp (disch:=omega) only [Zv,go_sem,seval];have hwl:=HE hq;refine cD ?_ ?_<;>intro h2<;>simp (disch:=omega) only [Sh.out h2,go_sem,seval]
    ·have hq2:q<p.unserved.length:=Za
     have hdo:=hv _ (Zp hq2);have hsn:=EV hq2
     generalize (nth p.unserved q)=v at *
     refine (WY v hdo).use ?_;simp (disch:=omega) only [go_sem,seval];refine ⟨q+1,Za,Za,Weak.mk ?_⟩;simp (disch:=omega) only [Zv,hsn,List.map_append,List.map_cons,List.map_nil,List.length_append,List.length_cons,List.length_nil,Qb,go_sem,seval]
    ·have hql:q=p.unserved.length:=Za
     subst hql
     have hes:Ap p=Zw (Vh p p.unserved.length) [32]++ [10]:=by rw [Vh,List.take_length];rfl
     have hln:(Zw (Vh p p.unserved.length) [32]).length<=4097*65:=by
      have:=W2 (sep:= [32]) (B:=64) (xs:=Vh p p.unserved.length) fun s hs=>by
       rcases List.mem_append.1 hs with hs | hs
       ·simp only [unsWd,List.mem_cons,List.not_mem_nil,or_false] at hs;subst hs;simp
       ·rw [List.take_length] at hs;obtain ⟨v,hv2,rfl⟩:=List.mem_map.1 hs;have:=Xi (hv v hv2);omega
      rw [hwl] at this;simp only [List.length_cons,List.length_nil] at this;omega
     refine ACalls.view (DL (Vh p p.unserved.length) false Za Za) (by simp [PW,vw,Xn,V8]<;>rfl) (by rfl) ?_;simp (disch:=omega) only [go_sem,seval];rw [ZK (by simp;omega)];simp (disch:=omega) only [go_sem,seval];refine (HN (o:=1) (r:=2) rfl (Zw (Vh p p.unserved.length) [32]++ [10]) Zb (by simp only [List.length_append,List.length_cons,List.length_nil];omega)).mono ?_;rintro x H' ⟨rfl,rfl⟩;simp (disch:=omega) only [List.set_cons_succ,List.set_cons_zero,go_sem,seval];refine (FD (o:=1) (r:=2) rfl Zb).mono ?_
     rintro x H' ⟨rfl,rfl⟩;simp (disch:=omega) only [go_sem,seval];rw [Jf,hes]
theorem DC (s:List UInt8) (hs:s.length<=65536):ACalls Tryz.prog 19 [.p (.str s)] [] fun y H'=>y=Ch (Vx (s.length+1) 1 [] s)/\H'= []:=by
 obtain ⟨Z,hZ⟩: ∃Z,Z=Vx (s.length+1) 1 [] s:=⟨_,rfl⟩;rw [<- hZ];refine Zd [16] Tryz.func19 rfl bD ?_;simp (disch:=omega) only [Tryz.f19,go_sem,seval];refine cD ?_ ?_<;>intro h0<;>simp (disch:=omega) only [Sh.out h0,go_sem,seval]
 ·omega
 ·refine ZI [16] [2,5] (fun q:Nat×List UInt8×List Rte=> [(0,.p (.str q.2.1)),(6,.p (.int .i64 ((q.1:Int)+1)))])
   (fun q=> [Zv UN,.cells [.sl 2 0 q.2.2.length q.2.2.length,.p (.list true [])],.elems 4 (q.2.2.map XS)])
   (fun q=>q.1+q.2.1.length<=s.length/\q.2.2.length=q.1/\Z=Vx (s.length+1-q.1) ((q.1:Int)+1) q.2.2 q.2.1) (fun q=>q.2.1.length) (0,s,[]) ⟨Zb,Zb,by simpa using hZ⟩ ((Weak.nilC (o:=1) (j:=0) 4 rfl rfl Zb).trans (Weak.mk ?_)) ?_
  ·simp (disch:=omega) only [Zv,UN,List.map_nil,List.length_nil,List.set_cons_succ,List.set_cons_zero,List.cons_append,List.nil_append,go_sem,seval]
  ·rintro ⟨k,t,rs⟩ ⟨h1,h2,h5⟩;simp only at h1 h2 h5;rw [h5];obtain ⟨f,hf⟩: ∃f,s.length+1-k=f+1:=⟨s.length-k,Za⟩;rw [hf] at h5 ⊢;have hcl:= @FO t;simp (disch:=omega) only [Zv,UN,List.map_nil,go_sem,seval];refine Q9 (aG t 10 Za) ?_;simp (disch:=omega) only [go_sem,seval];have hle:=IA t;have cw:=HK (Xv t 10).1 Za;rw [Vx] at h5;rw [Vx]
   generalize (Xv t 10).1=c1 at *
   generalize (Xv t 10).2.1=c2 at *
   generalize (Xv t 10).2.2=c3 at *
   refine oJ cw fun o hw=> ?_;have hl:=HJ hw (fun h=>QI h) (f:=XX) rfl;have hr:=HJ hw (fun h=>JX h) (f:=Vy) rfl
   cases o with
   | none =>
    have hl:none=XX (Xt c1):=hl;have hr:none=Vy (Xt c1):=hr;rw [<- hl,<- hr]
    cases c3 with
    | false =>
     rw [if_pos rfl];simp (disch:=omega) only [Wi,Bool.not_false,go_sem,seval];exact we (by simp (disch:=omega) only [Ch,UN,List.map_nil,go_sem,seval])
    | true =>
     rw [if_neg Zb];simp (disch:=omega) only [Wi,Bool.not_true,go_sem,seval];exact we (by simp (disch:=omega) only [Ch,UN,List.map_nil,go_sem,seval])
   | some ws =>
    have hl:XX ws=XX (Xt c1):=hl;have hr:Vy ws=Vy (Xt c1):=hr;rw [<- hl,<- hr] at h5;rw [<- hl,<- hr]
    cases c3 with
    | false =>
     rw [if_pos rfl];simp (disch:=omega) only [Wi,Bool.not_false,go_sem,seval];exact we (by simp (disch:=omega) only [Ch,UN,List.map_nil,go_sem,seval])
    | true =>
     rw [if_neg Zb];obtain ⟨hwl,hwm⟩:=LX hw ws rfl;simp (disch:=omega) only [Wi,Bool.not_true,go_sem,seval];have hlt:=(hcl Zb).1;have cl:=Cr ws false Za (fun w hw=>by have:=hwm w hw;omega);have crt:=A1 ws false Za (fun w hw=>⟨by have:=hwm w hw;omega,(hwm w hw).1⟩);unfold GB at cl;unfold PB at crt
     cases hu:XX ws with
     | some us =>
      rw [hu] at cl;refine V9 cl ?_;simp (disch:=omega) only [go_sem,seval];refine cD ?_ ?_<;>intro h6<;>simp (disch:=omega) only [Sh.out h6,go_sem,seval]
      ·rw [if_pos h6];exact we (by simp (disch:=omega) only [Ch,UN,List.map_nil,go_sem,seval])
      ·rw [if_neg h6];refine Zz (Weak.fz (o:=2) (by rfl)) ?_;refine Ze [] _ _ _ _ ?_;simp (disch:=omega) only [List.map_cons,List.map_nil,List.set_cons_succ,List.set_cons_zero,go_sem,seval];exact we (by simp (disch:=omega) only [Ch,go_sem,seval])
     | none =>
      rw [hu] at cl;refine V9 cl ?_;simp (disch:=omega) only [go_sem,seval]
      cases hr:Vy ws with
      | none =>
       rw [hr] at crt;refine V9 crt ?_;simp (disch:=omega) only [go_sem,seval];exact we (by simp (disch:=omega) only [Ch,UN,List.map_nil,go_sem,seval])
      | some r =>
       rw [hr] at crt;refine V9 crt ?_;simp (disch:=omega) only [go_sem,seval]
       exact ⟨(k+1,c2,rs++ [r]),⟨by simp only;omega,by simp only [List.length_append,List.length_cons,List.length_nil];omega,by
        simp only
        rw [show s.length+1-(k+1)=f by omega,show (((k+1:Nat):Int)+1)=(k:Int)+1+1 by omega]⟩,by simp only;omega,Weak.mk (by simp (disch:=omega) only [Zv,UN,List.map_nil,List.length_append,List.length_cons,List.length_nil,List.map_append,List.map_cons,go_sem,seval])⟩
theorem Lu {p:Pln} (hp:p.wf 1048576):(∀r∈p.routes,KU r)/\ ∀u∈p.unserved,okD u :=
 ⟨fun r hr=>⟨(hp.2.1 r hr).1,(hp.2.1 r hr).2.1,fun v hv=>(hp.2.1 r hr).2.2.2.2.2 v hv⟩,hp.2.2.2⟩
theorem Ca (haw:PC 16 [] (.bool true)) (p:Pln) (hp:p.wf 1048576) :
  PC 5 [.p (Va p)] (.bool true):=by
 have hr:=hp.1;have hb:=DE hp;have hu:=hp.2.2.1;refine Yj [] Tryz.func5 rfl lO ?_;simp (disch:=omega) only [Tryz.f5,go_sem,seval];refine (FZ p hp).useV fun b hbf=> ?_;simp (disch:=omega) only [go_sem,seval]
 cases b with
 | false =>
  simp (disch:=omega) only [Bool.not_false,go_sem,seval];refine (haw).use ?_;simp (disch:=omega) only [go_sem,seval]
 | true =>
  simp (disch:=omega) only [Bool.not_true,go_sem,seval];obtain ⟨f1,f2,f3⟩:=hbf rfl;obtain ⟨n1,n2⟩:=Lu hp;have hok:PrOk p:=⟨Za,Za,fun r hr=>⟨by have:=f3 r hr;omega,(n1 r hr).1,(n1 r hr).2.1,by have:=f3 r hr;show _<=_;omega,(n1 r hr).2.2⟩,n2⟩;have hle:=dO f1 f2 (fun r hr=>⟨n1 r hr,f3 r hr⟩) n2;have c1:=DF p hok;have c2:=EL p hok;have c3:=DC (Jf p) hle;rw [Pp n1 n2] at c3;have hsm:=GQ p
  have c4:=Hw p (KD p) ⟨Za,Za,hb⟩ ⟨by simp [KD];omega,by simp [KD];omega,fun r hr=>by
   obtain ⟨q,hq,rfl⟩:=List.mem_map.1 (show r∈p.routes.map ED from hr)
   exact hb q hq⟩
  rw [hsm] at c4
  generalize KD p=q at *
  generalize Jf p=s at *
  refine (c1).use ?_;simp (disch:=omega) only [go_sem,seval];refine (c2).use ?_;simp (disch:=omega) only [go_sem,seval];refine Q9 c3 ?_;simp (disch:=omega) only [go_sem,seval];refine (c4).use ?_;simp (disch:=omega) only [go_sem,seval];refine (haw).use ?_;simp (disch:=omega) only [go_sem,seval]
def awkS : List UInt8:= [114,111,117,116,101,32,48,32,48,32,46,32,43,50,32,45,50,10,117,110,115,101,114,118,101,100,32,48,32,49,10]
def D8 : Pln:=⟨false,[⟨0,0,true,[],false,[⟨2,false⟩,⟨2,true⟩]⟩],false,[0,1]⟩
theorem Iu : Vx (awkS.length+1) 1 [] awkS=(D8,0,0):=Zg
theorem Ci : PT 19 [.p (.str awkS)] [.p (Va D8),.p (.int .i64 0),.p (.int .i64 0)]:=by
 have h:=DC awkS (by decide);rw [Iu] at h;exact h
def awkQ : Pln:=⟨false,[⟨0,0,true,[],false,[⟨2,false⟩,⟨2,true⟩]⟩],false,[0,1]⟩
theorem Iv : Jf awkQ=awkS:=Zg
theorem Fx : PrOk awkQ:=by
 refine ⟨by decide,by decide,fun r hr=> ?_,fun u hu=> ?_⟩
 ·simp only [awkQ,List.mem_cons,List.not_mem_nil,or_false] at hr;subst hr;refine ⟨by decide,⟨by decide,by decide⟩,⟨by decide,by decide⟩,Nat.zero_le _,fun v hv=> ?_⟩;simp only [List.mem_cons,List.not_mem_nil,or_false] at hv;rcases hv with rfl | rfl<;>exact ⟨by decide,by decide⟩
 ·simp only [awkQ,List.mem_cons,List.not_mem_nil,or_false] at hu;rcases hu with rfl | rfl<;>exact ⟨by decide,by decide⟩
theorem Fy : V3 awkQ D8=true:=rfl
theorem C4 (q:Pln) (h:q=awkQ\/q=D8):q.routes.length<=1048576/\q.unserved.length<=1048576/\ ∀r∈q.routes,UH r:=by
 rcases h with rfl | rfl
 all_goals
  refine ⟨by decide,by decide,fun r hr=> ?_⟩;simp only [awkQ,D8,List.mem_cons,List.not_mem_nil,or_false] at hr;subst hr;exact ⟨by decide,by decide⟩
theorem D7 : PC 16 [] (.bool true):=by
 refine Zd [1] Tryz.func16 rfl bA ?_;simp (disch:=omega) only [Tryz.f16,go_sem,seval];refine ZX (Ad 3 3 ?_);simp (disch:=omega) only [go_sem,seval];refine ⟨_,_,Weak.fz (o:=0) (by rfl),?_⟩;simp (disch:=omega) only [List.map_cons,List.map_nil,List.set_cons_succ,List.set_cons_zero,List.cons_append,List.nil_append,go_sem,seval];refine ⟨_,_,(Weak.fz (o:=1) (by rfl)).trans (Weak.fz (o:=2) (by rfl)),?_⟩;simp (disch:=omega) only [List.map_cons,List.map_nil,List.set_cons_succ,List.set_cons_zero,List.cons_append,List.nil_append,go_sem,seval];refine Ze [] _ _ _ _ ?_
 simp (disch:=omega) only [go_sem,seval];refine HF Ci ?_;simp (disch:=omega) only [go_sem,seval];refine (DF awkQ Fx).use ?_;rw [Iv];simp (disch:=omega) only [awkS,decide_true,go_sem,seval];refine (Lo awkQ D8 (C4 _ (.inl rfl)) (C4 _ (.inr rfl))).use ?_;rw [Fy];simp (disch:=omega) only [go_sem,seval];refine (Nm).use ?_;simp (disch:=omega) only [go_sem,seval];refine (Pn bareI PX Nl (by decide) (by decide) (by simp [PX])).use ?_;rw [FI];simp (disch:=omega) only [go_sem,seval];exact we
theorem Kz (p:Pln) (hp:p.wf 1048576):PC 5 [.p (Va p)] (.bool true):=Ca D7 p hp
end Go.Proofs.YtmbelkfkhclnkaaGreatDoor.K
