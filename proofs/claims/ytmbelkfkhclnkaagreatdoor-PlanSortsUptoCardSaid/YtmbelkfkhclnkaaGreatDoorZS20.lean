/- Declarations that the closing texts need, part 20: joined by tools/slim.py. -/
import Derived.Test.YtmbelkfkhclnkaaGreatDoorZS19
import Derived.Shelf.Strings.OnBuilder
set_option linter.unusedVariables false
set_option linter.unusedSimpArgs false
namespace Go.Proofs.YtmbelkfkhclnkaaGreatDoor.K
open Go Go.AM Go.Proofs Go.Shelf Go.RowKit
set_option maxRecDepth 8000
set_option maxHeartbeats 8000000
theorem Jg : Builder.Extra Tryz.prog layJoin_ren:= {
 sizeBuilder:=Ze,liesBuilder:=Ze,
 t5:=Tryz.underlying5,a5:=Tryz.isAgg5,z5:=Tryz.sizeOf5,v5:=Tryz.zeroValue5,
 infoByte:=Ze,cellsByte:=Ze,sizeByte:=Ze,neB5:=by decide }
theorem zF (xs:List (List UInt8)):(xs.map fun s=>(⟨s.toArray⟩:ByteArray)).map (fun x=>x.data.toList)=xs:=by
 rw [List.map_map];rw [show ((fun x:ByteArray=>x.data.toList)∘fun s:List UInt8=>(⟨s.toArray⟩:ByteArray))=id from funext fun s=>Zb,List.map_id]
theorem Tv (xs:List (List UInt8)) (c:Bool) (sep:List UInt8) (hx:xs.length<=1048576) (hl:(XS xs sep).length<=140737488355328) :
  PC 91 [.p (.list c (xs.map Ua)),.p (.str sep)] (.str (XS xs sep)):=by
 refine ⟨mT,fun F ι w vs hr hv=> ?_⟩;obtain ⟨h1,h2⟩:=hv;have e0:=h2 0 _ rfl;have e1:=Ki (h2 1 _ rfl)
 have hvs:vs= #[vs.getD 0 undef,.string ⟨sep.toArray⟩]:=by
  apply Array.ext
  ·simpa using h1
  ·intro i h3 h4
   have:i=0\/i=1:=by simp at h4;omega
   rcases this with rfl | rfl
   ·simp [Array.getD,h3]
   ·have:vs.getD 1 undef=vs[1]:=by simp [Array.getD,h3]
    rw [<- this,e1];rfl
 have hι:ι= []:=List.eq_nil_of_length_eq_zero hr.len;subst hι;rw [hvs];generalize vs.getD 0 undef=v at e0;clear hvs h1 h2 e1 vs
 have fin: ∀ {w' e},e=Ending.returned (.string ⟨(XS xs sep).toArray⟩)/\Below w.heap.size w w'-> ∃x H' ι' v,e= .returned v/\(x=V.p (.str (XS xs sep))/\H'= [])/\Go.AM.Good F [] [] w H' ι' w'/\RV F H' ι' w' x v:=by
  rintro w' e ⟨rfl,hb⟩;exact ⟨_,_,[],_,rfl,⟨rfl,rfl⟩,JO hr.env hr.fin hb,.p _ _ (.str _)⟩
 have none: ∀a cap,xs= []->Calls Tryz.prog 91 #[.slice a 0 cap,.string ⟨sep.toArray⟩] w fun e w'=> ∃x H' ι' v,e= .returned v/\(x=V.p (.str (XS xs sep))/\H'= [])/\Go.AM.Good F [] [] w H' ι' w'/\RV F H' ι' w' x v:=fun a cap he=>by
  refine (Any.strings_Join_none UZ Jg a cap ⟨sep.toArray⟩ w).mono ?_;rintro e w' ⟨he2,rfl⟩;refine fin ⟨?_,Below.refl _ _⟩;rw [he2,he];rfl
 cases e0 with | p _ _ h =>
 generalize hm:xs.map Ua=ys at h
 cases h with
 | nils=>exact none _ _ (by simpa using hm)
 | emp=>exact none _ _ (by simpa using hm)
 | list cl xs2 b off cap S u hX hb hc hm2 hcl hS hu hr2 =>
  subst hm;rw [List.length_map];have key:=Any.strings_Join UZ Jg b off cap (xs.map fun s=>⟨s.toArray⟩) ⟨sep.toArray⟩ w ?_ hb (by rw [List.length_map];omega) (by simpa using hc) ?_
  ·rw [List.length_map] at key;refine key.mono fun e w' h=>fin ?_;rw [zF] at h;simpa [XS] using h
  ·intro j x hj;rw [List.getElem?_map,Option.map_eq_some_iff] at hj;obtain ⟨t,ht,rfl⟩:=hj
   have hj2:(xs.map Ua)[j]? =some (Ua t):=by rw [List.getElem?_map,ht];rfl
   have hc0:(Ua t).cells[0]? =some (.str t):=rfl
   have hS1:S=1:=by rw [<- hS j _ hj2];rfl
   have g1:=hu j _ 0 _ hj2 hc0;have g2:=(hr2 j _ 0 _ hj2 hc0).str_inv;rw [g2,hS1,Nat.mul_one,Nat.add_zero] at g1;exact g1
  ·rw [zF];simpa [XS] using hl
set_option maxRecDepth 100000
theorem nF : Lays.n166 Tryz.prog layJoin_ren:= { UZ with }
theorem Ty : Lays.n169 Tryz.prog layJoin_ren:= { UZ with }
theorem EA {P:Program} {ρ:Ren} (L:Lays.n166 P ρ) (X:Builder.Extra P ρ) {n:Nat} {p v:Value} {b:Nat} {xs:List Value} {w:World} (s:List UInt8) (hs:s≠ []) (hbk:w.heap[b]? =some (.cells #[p,v] (ρ.t 72) (0,0))) (hp:p= .pointer none\/p= .pointer (some ⟨b,0,none⟩)) (hne:v.ownBlock≠some b)
  (hown:w.ownsRow 0 (ρ.t 5) 1 v n xs) (hb:n+s.length<=140737488355328) :
  Calls P (ρ.f 166) #[.pointer (some ⟨b,0,none⟩),.string ⟨s.toArray⟩] w fun e w'=>e= .returned (.tuple #[.int .i64 s.length,.nilIface]) /\
   ∃v' w1 w2,Turned w w1 b #[.pointer (some ⟨b,0,none⟩),v] (ρ.t 72)/\Grew w1 w2 v.ownBlock v'.ownBlock/\w2.ownsRow 0 (ρ.t 5) 1 v' (n+s.length) (xs++s.map fun x=> .int .u8 x.toNat)/\w'=w2.setCell ⟨b,1,none⟩ v':=by
 obtain ⟨i0,hi,hz0,hz1,hz2⟩:=info_parts X.infoByte;have mixed:=L.mixed;have t72:=L.t72;have a72:=L.a72;have z72:=L.z72;have v72:=L.v72;have u72:=run_underlying L.t72;have t70:=L.t70;have a70:=L.a70;have z70:=L.z70;have v70:=L.v70;have u70:=run_underlying L.t70;have t37:=L.t37;have a37:=L.a37;have z37:=L.z37;have v37:=L.v37;have u37:=run_underlying L.t37;have t3:=L.t3;have a3:=L.a3;have z3:=L.z3;have v3:=L.v3;have u3:=run_underlying L.t3;have t9:=L.t9;have a9:=L.a9;have z9:=L.z9;have v9:=L.v9;have u9:=run_underlying L.t9
 have t4:=L.t4;have a4:=L.a4;have z4:=L.z4;have v4:=L.v4;have u4:=run_underlying L.t4;have t164:=L.t164;have a164:=L.a164;have z164:=L.z164;have v164:=L.v164;have u164:=run_underlying L.t164
 have hcc:Calls P (ρ.f 240) #[.pointer (some ⟨b,0,none⟩)] w fun e w1=>e= .returned (.tuple #[])/\Turned w w1 b #[.pointer (some ⟨b,0,none⟩),v] (ρ.t 72):=by
  rcases hp with rfl | rfl
  ·refine (Any.Builder_copyCheck_fresh { L with } X.toX72 b w (by rw [Lib.cell_of_heap hbk];rfl) (by show w.shape? b=_;simp [World.shape?,hbk]) (Lib.frozen_of_heap hbk 0)).mono ?_;rintro e w' ⟨rfl,rfl⟩;exact ⟨rfl,rfl,⟨rfl,.inr trivial⟩,rfl,Nat.le_refl _,by simp [World.setCell],by simp [World.setCell,Array.getElem?_modify,hbk],fun k hk=>Below.heap_setCell _ _ _ _ (fun e=>hk (by simpa using e))⟩
  ·refine (Any.Builder_copyCheck_used { L with } X.toX72 b w (by rw [Lib.cell_of_heap hbk];rfl)).mono ?_;rintro e w' ⟨rfl,rfl⟩;exact ⟨rfl,rfl,⟨rfl,.inr trivial⟩,rfl,Nat.le_refl _,rfl,hbk,fun _ _=>rfl⟩
 have e240: ∀args w,(callFunc (ρ.f 240) args).run P w= .ok (.enter (ρ.f 240) args) w:=enters_of L.f240 Ze rfl
 go_enter L.f166,Body.n166_ntmps _
 go_wp2_with (go_at_fn (ρ.f 240);refine hcc.mono ?_)
 rintro e w1 ⟨rfl,hT⟩
 have c0:w1.cell? ⟨b,0,none⟩=some (.pointer (some ⟨b,0,none⟩)):=by rw [Lib.cell_of_heap hT.at'];rfl
 have c1:w1.cell? ⟨b,1,none⟩=some v:=by rw [Lib.cell_of_heap hT.at'];rfl
 have hown1:w1.ownsRow 0 (ρ.t 5) 1 v n xs:=by
  rcases hown with ⟨o1,o2 | ⟨g,cap,cur,o2,o3,o4,o5⟩⟩
  ·exact ⟨o1,.inl o2⟩
  ·exact ⟨o1,.inr ⟨g,cap,cur,o2,o3,by rw [hT.other g (fun e=>hne (by rw [o2,e];rfl))];exact o4,o5⟩⟩
 go_wp2_with (at_builtin;refine Df rfl _ _ _ _ rfl (ρ.t 5) i0 L.t37 L.t9 hi hz0 hz1 hz2 v n xs rfl hown1 s hs rfl hb ?_)
 intro v' w2 hown' hG;have hlt:b<w1.heap.size:=(Array.getElem?_eq_some_iff.1 hT.at').1
 have hb2:w2.heap[b]? =some (.cells #[.pointer (some ⟨b,0,none⟩),v] (ρ.t 72) (0,0)):=by
  rw [hG.old b hlt (fun e=>hne e.symm)];exact hT.at'
 have d0:w2.cell? ⟨b,0,none⟩=some (.pointer (some ⟨b,0,none⟩)):=by rw [Lib.cell_of_heap hb2];rfl
 have d1:w2.cell? ⟨b,1,none⟩=some v:=by rw [Lib.cell_of_heap hb2];rfl
 have f1:w2.frozen? ⟨b,1,none⟩=false:=Lib.frozen_of_heap hb2 1
 obtain ⟨ao,n',cap,rfl⟩: ∃ao n' cap,v'= .slice ao n' cap:=by
  rcases hown'.2 with ⟨hv,_⟩ | ⟨g,cap,cur,hv,_⟩
  ·exact ⟨_,_,_,hv⟩
  ·exact ⟨_,_,_,hv⟩
 go_wp2
 go_ret2
 exact ⟨Zb,_,w1,w2,hT,hG,hown',rfl⟩
theorem Mi {H:List AM.Obj} {o r:Nat} {bs:List UInt8} (hH:H[o]? =some (.bld 77 5 r bs)) (s:List UInt8) (hs:s≠ []) (hl:bs.length+s.length<=140737488355328) :
  ACalls Tryz.prog 31 [.bp o,.p (.str s)] H fun x H'=>x= .tup [.p (.int .i64 s.length),.p .nili]/\H'=H.set o (.bld 77 5 r (bs++s)):=by
 refine ⟨lC,fun F ι w vs hr hv=> ?_⟩;obtain ⟨h1,h2⟩:=hv;have e0:=h2 0 _ rfl;have e1:=Ki (h2 1 _ rfl);obtain ⟨hor,hrd,b,go,q1,q2,p,v,w1,w2,w3,w4⟩:=hr.bldr o _ _ r bs hH
 have e0':vs.getD 0 undef= .pointer (some ⟨b,0,none⟩):=by
  generalize vs.getD 0 undef=x at e0
  cases e0 with
  | bp _ b2 T2 E2 r2 bs2 h hH2=>rw [q1] at h;simp at h;rw [h]
  | bpD _ _ h=>rw [hH] at h;cases h
 have hvs:vs= #[.pointer (some ⟨b,0,none⟩),.string ⟨s.toArray⟩]:=by
  apply Array.ext
  ·simpa using h1
  ·intro i h3 h4
   have:i=0\/i=1:=by simp at h4;omega
   rcases this with rfl | rfl
   ·have:vs.getD 0 undef=vs[0]:=by simp [Array.getD,h3]
    rw [<- this,e0'];rfl
   ·have:vs.getD 1 undef=vs[1]:=by simp [Array.getD,h3]
    rw [<- this,e1];rfl
 subst w3
 have hne:v.ownBlock≠some b:=fun e=>by have:=hr.inj o r b q1 (by rw [q2,e]);omega
 rw [hvs];refine (EA nF Jg s hs w1 w2 hne w4 hl).mono ?_;rintro e w' ⟨rfl,v',wa,wb,hT,hG,ho,rfl⟩;refine ⟨_,_,_,_,rfl,⟨rfl,rfl⟩,K7 (bs':=bs++s) hr hH q1 q2 w1 hT hG (by rw [List.length_append,List.map_append];exact ho) hne,.tup _ _ rfl fun j c hj=> ?_⟩
 match j,hj with
 | 0,hj=>simp at hj;subst hj;exact .p _ _ (.int _ _)
 | 1,hj=>simp at hj;subst hj;exact .p _ _ .nili
 | j+2,hj=>simp at hj
theorem Dw {P:Program} {ρ:Ren} (L:Lays.n169 P ρ) (X:Builder.Extra P ρ) {p v:Value} {b:Nat} {l:List UInt8} {w:World} (h0:l≠ []) (hbk:w.heap[b]? =some (.cells #[p,v] (ρ.t 72) (0,0))) (hown:w.ownsRow 0 (ρ.t 5) 1 v l.length (l.map fun x=> .int .u8 x.toNat)) :
  Calls P (ρ.f 169) #[.pointer (some ⟨b,0,none⟩)] w fun e w'=>e= .returned (.string ⟨l.toArray⟩)/\ ∃g n,v.ownBlock=some g/\w'=w.drew.freeze ⟨g,0,none⟩ n:=by
 have hl0:l.length≠0:=by simpa using h0
 obtain ⟨g,cap,cur,rfl,hg,hnc,hcm,hcs,htake⟩: ∃g cap cur,v= .slice (some ⟨g,0,none⟩) l.length cap/\w.heap[g]? =some (.cells cur (ρ.t 5) (0,0))/\l.length<=cap/\cap<=maxLen/\cur.size=cap*1/\cur.toList.take (l.length*1)=l.map fun x=>Value.int .u8 x.toNat:=by
  rcases hown.2 with ⟨_,hz⟩ | ⟨g,cap,cur,hv,_,r⟩
  ·exact absurd hz hl0
  ·exact ⟨g,cap,cur,hv,r⟩
 have c1:w.drew.cell? ⟨b,1,none⟩=some (.slice (some ⟨g,0,none⟩) l.length cap):=by
  have:w.drew.heap[b]? =some (.cells #[p,.slice (some ⟨g,0,none⟩) l.length cap] (ρ.t 72) (0,0)):=hbk;rw [Lib.cell_of_heap this];rfl
 have hSD:(Builtin.unsafeSliceData_ #[(ρ.t 37)] (ρ.t 127) #[.slice (some ⟨g,0,none⟩) l.length cap]).run P w.drew= .ok (.pointer (some ⟨g,0,none⟩)) w.drew :=
  Lib.run_unsafeSliceData_row _ _ _ _ _ _ Za
 have hUS:(Builtin.unsafeString_ #[(ρ.t 127),(ρ.t 3)] (ρ.t 9) #[.pointer (some ⟨g,0,none⟩),.int .i64 l.length]).run P w.drew= .ok (.string ⟨l.toArray⟩) (w.drew.freeze ⟨g,0,none⟩ l.length):=by
  refine Lib.run_unsafeString_row w.drew (ρ.t 127) (ρ.t 3) (ρ.t 9) (ρ.t 5) L.t127 X.cellsByte g cur.size (by have hg':w.drew.heap[g]? =some (.cells cur (ρ.t 5) (0,0)):=hg;simp [World.shape?,hg']) l h0 Za (by unfold maxLen at hcm;omega) ?_;intro j x hx;have:=hown.cells (g:=g) rfl j (.int .u8 x.toNat) (by simp [hx]);exact this
 have mixed:=L.mixed;have t72:=L.t72;have a72:=L.a72;have z72:=L.z72;have v72:=L.v72;have u72:=run_underlying L.t72;have t70:=L.t70;have a70:=L.a70;have z70:=L.z70;have v70:=L.v70;have u70:=run_underlying L.t70;have t37:=L.t37;have a37:=L.a37;have z37:=L.z37;have v37:=L.v37;have u37:=run_underlying L.t37;have t127:=L.t127;have a127:=L.a127;have z127:=L.z127;have v127:=L.v127;have u127:=run_underlying L.t127;have t3:=L.t3;have a3:=L.a3;have z3:=L.z3;have v3:=L.v3;have u3:=run_underlying L.t3;have t9:=L.t9;have a9:=L.a9;have z9:=L.z9;have v9:=L.v9;have u9:=run_underlying L.t9
 have t5:=X.t5;have a5:=X.a5;have z5:=X.z5;have v5:=X.v5;have u5:=run_underlying X.t5
 go_enter L.f169,Body.n169_ntmps _
 go_wp2
 go_region_o
 all_goals (go_wp2;go_ret;exact ⟨rfl,g,_,rfl,rfl⟩)
theorem HI {H:List AM.Obj} {o r:Nat} {bs:List UInt8} (hH:H[o]? =some (.bld 77 5 r bs)) (hs:bs≠ []) :
  ACalls Tryz.prog 33 [.bp o] H fun x H'=>x= .p (.str bs)/\H'=H.set o .dead:=by
 refine ⟨lD,fun F ι w vs hr hv=> ?_⟩;obtain ⟨h1,h2⟩:=hv;have e0:=h2 0 _ rfl;obtain ⟨hor,hrd,b,go,q1,q2,p,v,w1,w2,w3,w4⟩:=hr.bldr o _ _ r bs hH
 have e0':vs.getD 0 undef= .pointer (some ⟨b,0,none⟩):=by
  generalize vs.getD 0 undef=x at e0
  cases e0 with
  | bp _ b2 T2 E2 r2 bs2 h hH2=>rw [q1] at h;simp at h;rw [h]
  | bpD _ _ h=>rw [hH] at h;cases h
 have hvs:vs= #[.pointer (some ⟨b,0,none⟩)]:=by
  apply Array.ext
  ·simpa using h1
  ·intro i h3 h4
   have:i=0:=by simp at h4;omega
   subst this
   have:vs.getD 0 undef=vs[0]:=by simp [Array.getD,h3]
   rw [<- this,e0'];rfl
 rw [hvs];refine (Dw Ty Jg hs w1 w4).mono ?_;rintro e w' ⟨rfl,g,n,hg,rfl⟩;refine ⟨_,_,_,_,rfl,⟨rfl,rfl⟩,Cf hr hH q1 q2 ?_ ?_ ?_ ?_ ?_,.p _ _ (.str _)⟩
 ·unfold World.freeze;split<;>rfl
 ·refine ⟨?_,.inr trivial⟩;unfold World.freeze;split<;>rfl
 ·unfold World.freeze;split<;>rfl
 ·unfold World.freeze
  split
  ·exact Nat.le_refl _
  ·show w.heap.size<=(Array.modify w.heap _ _).size
   rw [Array.size_modify];exact Nat.le_refl _
 ·intro k hk hne;have:k≠g:=fun e=>hne (by rw [<- w3,hg,e]);unfold World.freeze
  split
  ·rfl
  ·simp only [Array.getElem?_modify];rw [if_neg (fun e=>this e.symm)]
   rfl
end Go.Proofs.YtmbelkfkhclnkaaGreatDoor.K
namespace Go.AM
open Go.RowKit
theorem Grew.afterAlloc {w w2:World} {ob:Go.Obj} {go go':Option Nat} (h:Grew (w.alloc ob) w2 go go'):Grew w w2 go go':=by
 have sz:(w.alloc ob).heap.size=w.heap.size+1:=by show (w.heap.push ob).size=_;simp
 have old: ∀k,k<w.heap.size->(w.alloc ob).heap[k]? =w.heap[k]? :=fun k hk=>by
  show (w.heap.push ob)[k]? =_
  rw [Array.getElem?_push,if_neg Za]
 refine ⟨h.os,h.tape.trans (Tp.of rfl (Nat.le_refl _)),h.output,by have:=h.size;omega,fun k hk hg=>by rw [h.old k Za hg,old k hk],fun g hg=> ?_,fun g c t hg hw=>h.shape g c t hg (by rw [old g (Array.getElem?_eq_some_iff.1 hw).1];exact hw)⟩;obtain ⟨h1,h2⟩:=h.new g hg;exact ⟨h1,h2.imp id fun h=>Za⟩
theorem Cx {P:Program} {o:Oper} {a:Act} {w:World} {K:Act->World->Prop} {Q:Exit->Act->World->Prop} {t e:TypeId} {x:Operand} {n:Int} {i:TypeInfo} (ho:o.op= .buildSlice t 1 #[(0,x)]) (ht:P.underlying t=some (.slice e)) (hi:P.info? e=some i) (hz:i.zero=some (.int .u8 0)) (hs:i.size=1) (hx:a.eval x= .int .u8 n)
  (h:K (a.put o.dst (.slice (some ⟨w.heap.size,0,none⟩) 1 1)) (w.alloc (.cells #[.int .u8 n] e))):Oper.wp P o a w K Q:=by
 have h1:(sizeOf e).run P w= .ok 1 w:=ZR (by simp [XA,hi,hs])
 have hr:(execOp a.eval o).run P w= .ok (.value (.slice (some ⟨w.heap.size,0,none⟩) 1 1)) (w.alloc (.cells #[.int .u8 n] e)):=by
  have e1:Array.range 1= #[0]:=by decide
  have hc: ∀m,(Value.int IntKind.u8 m).cells= #[Value.int IntKind.u8 m]:=fun _=>rfl;simp [execOp,ho,Instr.buildSlice,run_underlying ht,h1,zeroValue,typeInfo,hi,hz,newRow,Instr.fill,hx,e1,hc]
 unfold Oper.wp;rw [hr];exact h
theorem Bt {P:Program} {w:World} {ops:Array Oper} {rest:List Oper} {o:Oper} {a:Act} {Q:Exit->Act->World->Prop} (hgd:o.guard=none) (sl x:Operand) (t:TypeId)
  (ho:o.op= .call { callee:= .builtin .append,args:= #[sl,x],argTypes:= #[t,t] }) (e:TypeId) (i:TypeInfo) (ht:P.underlying t=some (.slice e)) (hi:P.info? e=some i) (hz:i.zero=some (.int .u8 0)) (hs1:i.size=1) (hby:i.bytes=1)
  (v:Value) (n:Nat) (xs:List Value) (hs:a.eval sl=v) (hown:w.ownsRow 0 e 1 v n xs) (c:UInt8) (ad:Addr) (hx:a.eval x= .slice (some ad) 1 1) (hc:w.cell? ad=some (.int .u8 c.toNat)) (hb:n+1<=140737488355328)
  (h: ∀v' w',w'.ownsRow 0 e 1 v' (n+1) (xs++ [.int .u8 c.toNat])->Grew w w' v.ownBlock v'.ownBlock->wpList P ops Q rest (a.put o.dst v') w'):wpList P ops Q (o::rest) a w:=by
 refine wpList_plain hgd fun K hK=> ?_
 have hsrc:Src P (fun _=>False) w t (.slice (some ad) 1 1) 1 ([c].map fun b=>PV.int .u8 b.toNat) ([c].map fun b=>Value.int .u8 b.toNat):=by
  refine ⟨rfl,.inr ⟨e,ht⟩,fun w'=>by simp [Builtin.lenOf],fun w' hw=>WH (w:=w) Zb (fun j u hj=> ?_) w' hw,fun i y j d hi hj=> ?_⟩
  ·cases j with
   | zero=>simp at hj;subst hj;simpa [Addr.add] using hc
   | succ j=>simp at hj
  ·cases i with
   | zero =>
    simp at hi;subst hi
    cases j with
    | zero=>simp [PV.cells] at hj;subst hj;exact .int _ _
    | succ j=>simp [PV.cells] at hj
   | succ i=>simp at hi
 obtain ⟨v',w',hr,h2,h3⟩:=CN (P:=P) (ty:=o.type) ht hi hz hs1 hby hown [c] Zb hsrc hb;unfold Oper.wp execOp;simp only [ho,resolve,invoke,builtin,Sem.run_bind,Sem.run_pure,Result.andThen_ok,List.map_toArray,List.map_cons,List.map_nil,hs,hx,hr];exact hK _ _ (h v' w' h2 h3)
end Go.AM
namespace Go.Proofs.YtmbelkfkhclnkaaGreatDoor.K
open Go Go.AM Go.Proofs Go.Shelf Go.RowKit
set_option maxRecDepth 100000
set_option maxHeartbeats 8000000
def wbR : Ren:=⟨fun | 167=>90 | n=>layJoin_ren.f n,layJoin_ren.t,layJoin_ren.g⟩
theorem nE : Lays.n167 Tryz.prog wbR:= { UZ with
 f167:=Tryz.func90.trans (congrArg some Ze),
 t5:=Tryz.underlying5,a5:=Tryz.isAgg5,z5:=Tryz.sizeOf5,v5:=Tryz.zeroValue5 }
theorem kC : Builder.Extra Tryz.prog wbR:= {
 sizeBuilder:=Ze,liesBuilder:=Ze,
 t5:=Tryz.underlying5,a5:=Tryz.isAgg5,z5:=Tryz.sizeOf5,v5:=Tryz.zeroValue5,
 infoByte:=Ze,cellsByte:=Ze,sizeByte:=Ze,neB5:=by decide }
theorem C7 {P:Program} {ρ:Ren} (L:Lays.n167 P ρ) (X:Builder.Extra P ρ) {n:Nat} {p v:Value} {b:Nat} {xs:List Value} {w:World} (c:UInt8) (hbk:w.heap[b]? =some (.cells #[p,v] (ρ.t 72) (0,0))) (hp:p= .pointer none\/p= .pointer (some ⟨b,0,none⟩)) (hne:v.ownBlock≠some b)
  (hown:w.ownsRow 0 (ρ.t 5) 1 v n xs) (hb:n+1<=140737488355328) :
  Calls P (ρ.f 167) #[.pointer (some ⟨b,0,none⟩),.int .u8 c.toNat] w fun e w'=>e= .returned .nilIface /\
   ∃v' w1 w2,Turned w w1 b #[.pointer (some ⟨b,0,none⟩),v] (ρ.t 72)/\Grew w1 w2 v.ownBlock v'.ownBlock/\w2.ownsRow 0 (ρ.t 5) 1 v' (n+1) (xs++ [.int .u8 c.toNat])/\w'=w2.setCell ⟨b,1,none⟩ v':=by
 obtain ⟨i0,hi,hz0,hz1,hz2⟩:=info_parts X.infoByte;have mixed:=L.mixed;have t72:=L.t72;have a72:=L.a72;have z72:=L.z72;have v72:=L.v72;have u72:=run_underlying L.t72;have t70:=L.t70;have a70:=L.a70;have z70:=L.z70;have v70:=L.v70;have u70:=run_underlying L.t70;have t5:=L.t5;have a5:=L.a5;have z5:=L.z5;have v5:=L.v5;have u5:=run_underlying L.t5;have t37:=L.t37;have a37:=L.a37;have z37:=L.z37;have v37:=L.v37;have u37:=run_underlying L.t37;have t9:=L.t9;have a9:=L.a9;have z9:=L.z9;have v9:=L.v9;have u9:=run_underlying L.t9
 have t4:=L.t4;have a4:=L.a4;have z4:=L.z4;have v4:=L.v4;have u4:=run_underlying L.t4;have t164:=L.t164;have a164:=L.a164;have z164:=L.z164;have v164:=L.v164;have u164:=run_underlying L.t164
 have hcc:Calls P (ρ.f 240) #[.pointer (some ⟨b,0,none⟩)] w fun e w1=>e= .returned (.tuple #[])/\Turned w w1 b #[.pointer (some ⟨b,0,none⟩),v] (ρ.t 72):=by
  rcases hp with rfl | rfl
  ·refine (Any.Builder_copyCheck_fresh { L with } X.toX72 b w (by rw [Lib.cell_of_heap hbk];rfl) (by show w.shape? b=_;simp [World.shape?,hbk]) (Lib.frozen_of_heap hbk 0)).mono ?_;rintro e w' ⟨rfl,rfl⟩;exact ⟨rfl,rfl,⟨rfl,.inr trivial⟩,rfl,Nat.le_refl _,by simp [World.setCell],by simp [World.setCell,Array.getElem?_modify,hbk],fun k hk=>Below.heap_setCell _ _ _ _ (fun e=>hk (by simpa using e))⟩
  ·refine (Any.Builder_copyCheck_used { L with } X.toX72 b w (by rw [Lib.cell_of_heap hbk];rfl)).mono ?_;rintro e w' ⟨rfl,rfl⟩;exact ⟨rfl,rfl,⟨rfl,.inr trivial⟩,rfl,Nat.le_refl _,rfl,hbk,fun _ _=>rfl⟩
 have e240: ∀args w,(callFunc (ρ.f 240) args).run P w= .ok (.enter (ρ.f 240) args) w:=enters_of L.f240 Ze rfl
 go_enter L.f167,Body.n167_ntmps _
 go_wp2_with (go_at_fn (ρ.f 240);refine hcc.mono ?_)
 rintro e w1 ⟨rfl,hT⟩
 have c0:w1.cell? ⟨b,0,none⟩=some (.pointer (some ⟨b,0,none⟩)):=by rw [Lib.cell_of_heap hT.at'];rfl
 have c1:w1.cell? ⟨b,1,none⟩=some v:=by rw [Lib.cell_of_heap hT.at'];rfl
 have hblt:b<w1.heap.size:=(Array.getElem?_eq_some_iff.1 hT.at').1
 have hown1:w1.ownsRow 0 (ρ.t 5) 1 v n xs:=by
  rcases hown with ⟨o1,o2 | ⟨g,cap,cur,o2,o3,o4,o5⟩⟩
  ·exact ⟨o1,.inl o2⟩
  ·exact ⟨o1,.inr ⟨g,cap,cur,o2,o3,by rw [hT.other g (fun e=>hne (by rw [o2,e];rfl))];exact o4,o5⟩⟩
 go_wp2
 refine Cx (e:=ρ.t 5) rfl L.t37 hi hz0 hz1 rfl ?_
 go_wp2_with (at_builtin;refine Bt rfl _ _ _ rfl (ρ.t 5) i0 L.t37 hi hz0 hz1 hz2 v n xs rfl (hown1.alloc _) c ⟨w1.heap.size,0,none⟩ rfl Zb hb ?_)
 intro v' w2 hown' hG;have hG:=hG.afterAlloc
 have hb2:w2.heap[b]? =some (.cells #[.pointer (some ⟨b,0,none⟩),v] (ρ.t 72) (0,0)):=by
  rw [hG.old b hblt (fun e=>hne e.symm)];exact hT.at'
 have d0:w2.cell? ⟨b,0,none⟩=some (.pointer (some ⟨b,0,none⟩)):=by rw [Lib.cell_of_heap hb2];rfl
 have d1:w2.cell? ⟨b,1,none⟩=some v:=by rw [Lib.cell_of_heap hb2];rfl
 have f1:w2.frozen? ⟨b,1,none⟩=false:=Lib.frozen_of_heap hb2 1
 obtain ⟨ao,n',cap,rfl⟩: ∃ao n' cap,v'= .slice ao n' cap:=by
  rcases hown'.2 with ⟨hv,_⟩ | ⟨g,cap,cur,hv,_⟩
  ·exact ⟨_,_,_,hv⟩
  ·exact ⟨_,_,_,hv⟩
 go_wp2
 go_ret
 exact ⟨rfl,_,w1,w2,hT,hG,hown',rfl⟩
theorem FL {H:List AM.Obj} {o r:Nat} {bs:List UInt8} (hH:H[o]? =some (.bld 77 5 r bs)) (c:UInt8) (hl:bs.length+1<=140737488355328) :
  ACalls Tryz.prog 90 [.bp o,.p (.int .u8 (c.toNat:Nat))] H fun x H'=>x= .p .nili/\H'=H.set o (.bld 77 5 r (bs++ [c])):=by
 refine ⟨mS,fun F ι w vs hr hv=> ?_⟩;obtain ⟨h1,h2⟩:=hv;have e0:=h2 0 _ rfl;have e1:=Eh (h2 1 _ rfl);obtain ⟨hor,hrd,b,go,q1,q2,p,v,w1,w2,w3,w4⟩:=hr.bldr o _ _ r bs hH
 have e0':vs.getD 0 undef= .pointer (some ⟨b,0,none⟩):=by
  generalize vs.getD 0 undef=x at e0
  cases e0 with
  | bp _ b2 T2 E2 r2 bs2 h hH2=>rw [q1] at h;simp at h;rw [h]
  | bpD _ _ h=>rw [hH] at h;cases h
 have hvs:vs= #[.pointer (some ⟨b,0,none⟩),.int .u8 c.toNat]:=by
  apply Array.ext
  ·simpa using h1
  ·intro i h3 h4
   have:i=0\/i=1:=by simp at h4;omega
   rcases this with rfl | rfl
   ·have:vs.getD 0 undef=vs[0]:=by simp [Array.getD,h3]
    rw [<- this,e0'];rfl
   ·have:vs.getD 1 undef=vs[1]:=by simp [Array.getD,h3]
    rw [<- this,e1];rfl
 subst w3
 have hne:v.ownBlock≠some b:=fun e=>by have:=hr.inj o r b q1 (by rw [q2,e]);omega
 rw [hvs];refine (C7 nE kC c w1 w2 hne w4 hl).mono ?_;rintro e w' ⟨rfl,v',wa,wb,hT,hG,ho,rfl⟩;exact ⟨_,_,_,_,rfl,⟨rfl,rfl⟩,K7 (bs':=bs++ [c]) hr hH q1 q2 w1 hT hG (by rw [List.length_append,List.map_append];exact ho) hne,.p _ _ .nili⟩
end Go.Proofs.YtmbelkfkhclnkaaGreatDoor.K
namespace Go.Proofs.YtmbelkfkhclnkaaGreatDoor.K
open Go Go.AM Go.Proofs
set_option maxRecDepth 60000
set_option maxHeartbeats 8000000
theorem VQ (n:Int) (h:okD n):PC 40 [.p (.int .i64 n)] (.str (AW n)):=by
 refine Zc Tryz.func40 rfl lH ?_;simp (disch:=omega) only [Tryz.f40,go_sem,seval];refine (Nq n h).use ?_;simp (disch:=omega) only [go_sem,seval]
 rfl
theorem FH (xs:List (List UInt8)) (c:Bool) (hx:xs.length<=1048576) (hl:(XS xs [32]).length<=140737488355328) :
  PC 42 [.p (.list c (xs.map Ua))] (.str (XS xs [32])):=by
 refine Zc Tryz.func42 rfl lJ ?_;simp (disch:=omega) only [Tryz.f42,go_sem,seval];refine (Tv xs c [32] hx hl).use ?_;simp (disch:=omega) only [go_sem,seval]
theorem rests_c (l:List Bool) (c:Bool) (h:okR l):PC 41 [.p (.list c (l.map eB))] (.str (LM l)):=by
 have h:l.length<=4096:=h;refine WQ [3] Tryz.func41 rfl lI ?_;simp (disch:=omega) only [Tryz.f41,go_sem,seval];refine cD ?_ ?_<;>intro h1<;>simp (disch:=omega) only [Sh.out h1,go_sem,seval]
 ·have:l= []:=List.length_eq_zero_iff.1 Za;subst this;rfl
 ·have hne:l≠ []:=fun e=>h1 (by rw [e];rfl);refine Z0 (Jf 0 rfl rfl ?_);simp (disch:=omega) only [go_sem,seval];refine ⟨_,_,Fs 77 5 rfl Ze,?_⟩;simp (disch:=omega) only [go_sem,seval];refine Zd [] _ _ _ _ ?_;simp (disch:=omega) only [go_sem,seval];refine Zj [3,9,10] (fun k:Nat=> [(11,.p (.int .i64 k))]) (fun k=> [.bld 77 5 1 ((l.take k).map aC),.dead]) (fun k=>k<=l.length) (fun k=>l.length-k) 0 Zb (Weak.mk ?_) ?_
  ·simp (disch:=omega) only [List.take_zero,List.map_nil,go_sem,seval]
  ·intro k hk;simp (disch:=omega) only [go_sem,seval];refine cD ?_ ?_<;>intro h2<;>simp (disch:=omega) only [Sh.out h2,go_sem,seval]
   ·have hk2:k<l.length:=Za
    have hnx:(l.take (k+1)).map aC=(l.take k).map aC++ [aC (nth l k)]:=by rw [List.take_succ_eq_append_getElem hk2,Zi hk2,List.map_append];rfl
    have hsz:((l.take k).map aC).length+1<=140737488355328:=by rw [List.length_map,List.length_take];omega
    cases hb:nth l k with
    | true =>
     simp (disch:=omega) only [hb,go_sem,seval];refine (FL (o:=0) (r:=1) rfl 121 hsz).mono ?_;rintro x H' ⟨rfl,rfl⟩;simp (disch:=omega) only [go_sem,seval];exact ⟨k+1,Za,Za,Weak.mk (by simp (disch:=omega) only [hnx,hb,aC,List.set_cons_zero,go_sem,seval])⟩
    | false =>
     simp (disch:=omega) only [hb,Bool.false_eq_true,go_sem,seval];refine (FL (o:=0) (r:=1) rfl 110 hsz).mono ?_;rintro x H' ⟨rfl,rfl⟩;simp (disch:=omega) only [go_sem,seval];exact ⟨k+1,Za,Za,Weak.mk (by simp (disch:=omega) only [hnx,hb,aC,Bool.false_eq_true,List.set_cons_zero,go_sem,seval])⟩
   ·have hkl:k=l.length:=Za
    subst hkl;rw [List.take_length];refine (HI (o:=0) (r:=1) rfl (by simpa using hne)).mono ?_;rintro x H' ⟨rfl,rfl⟩;simp (disch:=omega) only [go_sem,seval];rw [LM,if_neg hne];rfl
def N6 (r:Rte):AM.Obj:= .cells [.p (.int .i64 r.typ),.p (.int .i64 r.start),.p (.list r.rests_c (r.rests.map eB)),.p (.list r.visits_c (r.visits.map ZV))]
theorem NZ (p:Pln) (h:PrOk p):PC 17 [.p (Ws p)] (.str (vT p)):=by
 obtain ⟨hr,hu,hb,hv⟩:=id h;have hll:=Gy h;refine WQ [1] Tryz.func17 rfl kU ?_;simp (disch:=omega) only [Tryz.f17,go_sem,seval];refine Z0 (Jf 0 rfl rfl ?_);simp (disch:=omega) only [go_sem,seval];refine ⟨_,_,Fs 77 5 rfl Ze,?_⟩;simp (disch:=omega) only [go_sem,seval];refine Zd [] _ _ _ _ ?_;simp (disch:=omega) only [go_sem,seval];refine Zj [1,3,14,15] (fun k:Nat=> [(16,.p (.int .i64 k))]) (fun k=> [Zw p,.bld 77 5 2 (((p.routes.take k).map Uk).flatten),.dead]) (fun k=>k<=p.routes.length) (fun k=>p.routes.length-k) 0 Zb (Weak.mk ?_) ?_
 ·simp (disch:=omega) only [Zw,List.take_zero,List.map_nil,List.flatten_nil,go_sem,seval]
 ·intro k hk;simp (disch:=omega) only [Zw,go_sem,seval];refine cD ?_ ?_<;>intro h1<;>simp (disch:=omega) only [Sh.out h1,go_sem,seval]
  ·have hk2:k<p.routes.length:=Za
   have hm:=Zu hk2;obtain ⟨b1,b2,b3,b4,b5⟩:=hb _ hm;refine Zv 9 mixed Ze Ze ?_;simp (disch:=omega) only [go_sem,seval];refine Zn (VQ (nth p.routes k).typ b2) ?_;simp (disch:=omega) only [go_sem,seval];refine Zn (VQ (nth p.routes k).start b3) ?_;simp (disch:=omega) only [go_sem,seval];refine Zn (rests_c (nth p.routes k).rests _ b4) ?_;simp (disch:=omega) only [go_sem,seval];refine Zj [1,3,14,15,16,31,32] (fun q:Nat=> [(33,.p (.int .i64 q)),(6,.sl 4 0 (V4 (nth p.routes k) q).length (V4 (nth p.routes k) q).length)]) (fun q=> [Zw p,.bld 77 5 2 (((p.routes.take k).map Uk).flatten),.dead,N6 (nth p.routes k),.elems 1 ((V4 (nth p.routes k) q).map Ua)]) (fun q=>q<=(nth p.routes k).visits.length) (fun q=>(nth p.routes k).visits.length-q) 0 Zb (Weak.mk ?_) ?_
   ·simp (disch:=omega) only [Zw,N6,go_sem,seval];simp [V4,Q2,Jl]
   ·intro q hq;simp (disch:=omega) only [Zw,N6,go_sem,seval];have hwl:=IZ hq;refine cD ?_ ?_<;>intro h2<;>simp (disch:=omega) only [Sh.out h2,go_sem,seval]
    ·have hq2:q<(nth p.routes k).visits.length:=Za
     have hmv:=Zu hq2;have hdo:=b5 _ hmv;have hsn:=Gx hq2;have hvd:Eu (nth (nth p.routes k).visits q)=(if (nth (nth p.routes k).visits q).drp=true then [45] else [43])++AW (nth (nth p.routes k).visits q).order:=rfl
     generalize (nth (nth p.routes k).visits q)=v at *
     have hdl:=Vn hdo
     generalize hd:v.drp=d at *
     cases d
     all_goals
      simp (disch:=omega) only [go_sem,seval];refine (VQ v.order hdo).use ?_;simp (disch:=omega) only [go_sem,seval];rw [Qh (by simp;omega)];simp (disch:=omega) only [go_sem,seval];refine ⟨q+1,Za,Za,Weak.mk ?_⟩;simp (disch:=omega) only [Zw,N6,hsn,hvd,List.map_append,List.map_cons,List.map_nil,List.length_append,List.length_cons,List.length_nil,Jl,go_sem,seval]
    ·have hql:q=(nth p.routes k).visits.length:=Za
     subst hql;have hfl:=Ae (hb _ hm)
     have hls:Uk (nth p.routes k)=XS (V4 (nth p.routes k) (nth p.routes k).visits.length) [32]++ [10]:=by rw [V4,List.take_length];rfl
     have hln:(XS (V4 (nth p.routes k) (nth p.routes k).visits.length) [32]).length<=16797700:=by rw [V4,List.take_length];exact hfl
     have hkl:=hll k
     have htk:(p.routes.take (k+1)).map Uk=(p.routes.take k).map Uk++ [Uk (nth p.routes k)]:=by rw [List.take_succ_eq_append_getElem hk2,Zi hk2,List.map_append];rfl
     refine ACalls.view (FH (V4 (nth p.routes k) (nth p.routes k).visits.length) false Za Za) (by simp [aB,vw,oat,Qp]<;>rfl) (by rfl) ?_;simp (disch:=omega) only [go_sem,seval];rw [Qh (by simp;omega)];simp (disch:=omega) only [go_sem,seval];refine (Mi (o:=1) (r:=2) rfl (XS (V4 (nth p.routes k) (nth p.routes k).visits.length) [32]++ [10]) Zb (by simp only [List.length_append,List.length_cons,List.length_nil];omega)).mono ?_;rintro x H' ⟨rfl,rfl⟩;simp (disch:=omega) only [go_sem,seval];refine ⟨k+1,Za,Za,Weak.mk ?_⟩
     simp (disch:=omega) only [Zw,htk,hls,List.flatten_append,List.flatten_cons,List.flatten_nil,List.append_nil,List.set_cons_succ,List.set_cons_zero,go_sem,seval]
  ·have hkl:k=p.routes.length:=Za
   subst hkl
   rw [List.take_length] at *
   have hll:=hll p.routes.length;rw [List.take_length] at hll;refine Zj [3,55,56] (fun q:Nat=> [(57,.p (.int .i64 q)),(10,.sl 3 0 (Ub p q).length (Ub p q).length)]) (fun q=> [Zw p,.bld 77 5 2 ((p.routes.map Uk).flatten),.dead,.elems 1 ((Ub p q).map Ua)]) (fun q=>q<=p.unserved.length) (fun q=>p.unserved.length-q) 0 Zb (Weak.mk ?_) ?_
   ·simp (disch:=omega) only [Zw,go_sem,seval];simp [Ub,FI,Jl]
   ·intro q hq;simp (disch:=omega) only [Zw,go_sem,seval];have hwl:=Ma hq;refine cD ?_ ?_<;>intro h2<;>simp (disch:=omega) only [Sh.out h2,go_sem,seval]
    ·have hq2:q<p.unserved.length:=Za
     have hdo:=hv _ (Zu hq2);have hsn:=G6 hq2
     generalize (nth p.unserved q)=v at *
     refine (VQ v hdo).use ?_;simp (disch:=omega) only [go_sem,seval];refine ⟨q+1,Za,Za,Weak.mk ?_⟩;simp (disch:=omega) only [Zw,hsn,List.map_append,List.map_cons,List.map_nil,List.length_append,List.length_cons,List.length_nil,Jl,go_sem,seval]
    ·have hql:q=p.unserved.length:=Za
     subst hql
     have hes:jZ p=XS (Ub p p.unserved.length) [32]++ [10]:=by rw [Ub,List.take_length];rfl
     have hln:(XS (Ub p p.unserved.length) [32]).length<=4097*65:=by
      have:=K9 (sep:= [32]) (B:=64) (xs:=Ub p p.unserved.length) fun s hs=>by
       rcases List.mem_append.1 hs with hs | hs
       ·simp only [FI,List.mem_cons,List.not_mem_nil,or_false] at hs;subst hs;simp
       ·rw [List.take_length] at hs;obtain ⟨v,hv2,rfl⟩:=List.mem_map.1 hs;have:=Vn (hv v hv2);omega
      rw [hwl] at this;simp only [List.length_cons,List.length_nil] at this;omega
     refine ACalls.view (FH (Ub p p.unserved.length) false Za Za) (by simp [aB,vw,oat,Qp]<;>rfl) (by rfl) ?_;simp (disch:=omega) only [go_sem,seval];rw [Qh (by simp;omega)];simp (disch:=omega) only [go_sem,seval];refine (Mi (o:=1) (r:=2) rfl (XS (Ub p p.unserved.length) [32]++ [10]) Zb (by simp only [List.length_append,List.length_cons,List.length_nil];omega)).mono ?_;rintro x H' ⟨rfl,rfl⟩;simp (disch:=omega) only [List.set_cons_succ,List.set_cons_zero,go_sem,seval];refine (HI (o:=1) (r:=2) rfl Zb).mono ?_
     rintro x H' ⟨rfl,rfl⟩;simp (disch:=omega) only [go_sem,seval];rw [vT,hes]
theorem Pf {g:FuncId} {args:List V} {a:PV} {H:List AM.Obj} {K:V->List AM.Obj->Prop} (h:ACalls Tryz.prog g args [] fun x H'=>x= .tup [.p a,.err]/\H'= []) (k:K (.tup [.p a,.err]) H) (ha:ZE 0 args=true:=by rfl):ACalls Tryz.prog g args H K :=
 (h.behind ha H).mono fun x H' hq=>by
  obtain ⟨y,H1,⟨rfl,rfl⟩,rfl,rfl⟩:=hq;simpa [Vb,Wf] using k
theorem U4 (s:List UInt8) (hs:s.length<=1048576):PT 93 [.p (.str s)] [.p (.int .i64 (Yl s).1),.p (.int .i64 (Yl s).2)]:=by
 have htl:(ZM s).length<=1048576:=by
  unfold ZM
  split
  ·rw [List.length_drop];omega
  ·omega
 have hat:=fun h0 h h1=>I7 (s:=s) h0 h h1
 have hnum:Yl s=if ZM s= []\/((nth (ZM s) 0).toNat=48/\s≠ [48]) then (0,3) else if (ZM s).all Y4=false then (0,3) else Yl s:=by
  by_cases h1:ZM s= []\/((nth (ZM s) 0).toNat=48/\s≠ [48])
  ·rw [if_pos h1,Yl,if_pos h1]
  ·rw [if_neg h1]
   by_cases h2:(ZM s).all Y4=false
   ·rw [if_pos h2,Yl,if_neg h1,if_pos h2]
   ·rw [if_neg h2]
 generalize Yl s=N at *
 rw [hnum];clear hnum;refine Zg [11] Tryz.func93 rfl mU ?_;simp (disch:=omega) only [Tryz.f93,go_sem,seval];refine (Oi s Za).use ?_;simp (disch:=omega) only [go_sem,seval]
 generalize ZM s=d at *
 have hdl:d= []\/0<d.length:=by cases d<;>simp
 rcases hdl with he | hdl
 ·subst he;rw [if_pos (.inl rfl)];refine gF ?_ ?_<;>intro h1<;>simp (disch:=omega) only [Sh.out h1,go_sem,seval]
  ·exact we
  ·simp at h1
 ·have hne: ¬d= []:=List.length_pos_iff.1 hdl;have hb:=Kx (nth d 0);refine gF ?_ ?_<;>intro h1<;>simp (disch:=omega) only [Sh.out h1,go_sem,seval]
  ·exact absurd h1 hne
  ·refine gT ?_ ?_<;>intro h2<;>simp (disch:=omega) only [Sh.out h2,go_sem,seval]
   ·refine cD ?_ ?_<;>intro h3<;>simp (disch:=omega) only [Sh.out h3,go_sem,seval]
    ·rw [if_pos (.inr ⟨Za,h3⟩)];exact we
    ·rw [if_neg (by rintro (e | e);exact hne e;exact e.2 (by simpa using h3))];refine ZH [11] [0,4,22] (fun k:Nat=> [(23,.p (.int .i64 k))]) (fun _=> []) (fun k=>k<=d.length/\ ∀j,j<k->Y4 (nth d j)=true) (fun k=>d.length-k) 0 Zb (Weak.mk ?_) ?_
     ·simp (disch:=omega) only [go_sem,seval]
     ·rintro k ⟨hk,hno⟩;simp (disch:=omega) only [go_sem,seval];refine cD ?_ ?_<;>intro h7<;>simp (disch:=omega) only [Sh.out h7,go_sem,seval]
      ·have hk2:k<d.length:=Za
       have hbk:=Kx (nth d k);have cd:PC 129 [.p (.int .u8 ((nth d k).toNat:Nat))] (.bool (Y4 (nth d k))):=C3 _ Za;refine (cd).use ?_;simp (disch:=omega) only [go_sem,seval]
       cases hd:Y4 (nth d k) with
       | false =>
        have Z7:d.all Y4=false:=List.all_eq_false.2 ⟨_,Zu hk2,by rw [hd];simp⟩;rw [if_pos Z7];simp (disch:=omega) only [hd,Bool.not_false,go_sem,seval];exact we
       | true =>
        simp (disch:=omega) only [hd,Bool.not_true,Bool.false_eq_true,go_sem,seval];exact ⟨k+1,⟨Za,Zl.2 ⟨hno,hd⟩⟩,Za,wk⟩
      ·have Z7:d.all Y4=true:=by
        rw [List.all_eq_true];intro b hb;obtain ⟨j,hj,rfl⟩:=List.mem_iff_getElem.1 hb;rw [<- Zi hj];exact hno j Za
       rw [if_neg (by rw [Z7];simp)];rcases hat hne Z7 (fun e=>e.2 (by simpa using h3)) with ⟨n,hn,hN⟩ | ⟨hn,hN⟩
       ·rw [hN];refine W4 (EO s n Za hn) ?_;simp (disch:=omega) only [go_sem,seval];refine Z0 (Z0 (UN 1 rfl rfl ?_));refine ⟨_,Fp rfl Ze rfl,?_⟩;rintro _ rfl;simp (disch:=omega) only [go_sem,seval];refine Zd [] _ _ _ _ ?_;simp (disch:=omega) only [go_sem,seval];refine Zd [] _ _ _ _ ?_;simp (disch:=omega) only [go_sem,seval];exact we
       ·rw [hN];refine Pf (EP s Za hn) ?_;simp (disch:=omega) only [go_sem,seval];refine Z0 (Z0 (UN 1 rfl rfl ?_));refine ⟨_,Fo rfl Ze rfl,?_⟩;rintro _ rfl;simp (disch:=omega) only [go_sem,seval];refine Zd [] _ _ _ _ ?_;simp (disch:=omega) only [go_sem,seval];exact we
   ·rw [if_neg (by rintro (e | e);exact hne e;omega)];refine ZH [11] [0,4,22] (fun k:Nat=> [(23,.p (.int .i64 k))]) (fun _=> []) (fun k=>k<=d.length/\ ∀j,j<k->Y4 (nth d j)=true) (fun k=>d.length-k) 0 Zb (Weak.mk ?_) ?_
    ·simp (disch:=omega) only [go_sem,seval]
    ·rintro k ⟨hk,hno⟩;simp (disch:=omega) only [go_sem,seval];refine cD ?_ ?_<;>intro h7<;>simp (disch:=omega) only [Sh.out h7,go_sem,seval]
     ·have hk2:k<d.length:=Za
      have hbk:=Kx (nth d k);have cd:PC 129 [.p (.int .u8 ((nth d k).toNat:Nat))] (.bool (Y4 (nth d k))):=C3 _ Za;refine (cd).use ?_;simp (disch:=omega) only [go_sem,seval]
      cases hd:Y4 (nth d k) with
      | false =>
       have Z7:d.all Y4=false:=List.all_eq_false.2 ⟨_,Zu hk2,by rw [hd];simp⟩;rw [if_pos Z7];simp (disch:=omega) only [hd,Bool.not_false,go_sem,seval];exact we
      | true =>
       simp (disch:=omega) only [hd,Bool.not_true,Bool.false_eq_true,go_sem,seval];exact ⟨k+1,⟨Za,Zl.2 ⟨hno,hd⟩⟩,Za,wk⟩
     ·have Z7:d.all Y4=true:=by
       rw [List.all_eq_true];intro b hb;obtain ⟨j,hj,rfl⟩:=List.mem_iff_getElem.1 hb;rw [<- Zi hj];exact hno j Za
      rw [if_neg (by rw [Z7];simp)];rcases hat hne Z7 (fun e=>Za) with ⟨n,hn,hN⟩ | ⟨hn,hN⟩
      ·rw [hN];refine W4 (EO s n Za hn) ?_;simp (disch:=omega) only [go_sem,seval];refine Z0 (Z0 (UN 1 rfl rfl ?_));refine ⟨_,Fp rfl Ze rfl,?_⟩;rintro _ rfl;simp (disch:=omega) only [go_sem,seval];refine Zd [] _ _ _ _ ?_;simp (disch:=omega) only [go_sem,seval];refine Zd [] _ _ _ _ ?_;simp (disch:=omega) only [go_sem,seval];exact we
      ·rw [hN];refine Pf (EP s Za hn) ?_;simp (disch:=omega) only [go_sem,seval];refine Z0 (Z0 (UN 1 rfl rfl ?_));refine ⟨_,Fo rfl Ze rfl,?_⟩;rintro _ rfl;simp (disch:=omega) only [go_sem,seval];refine Zd [] _ _ _ _ ?_;simp (disch:=omega) only [go_sem,seval];exact we
def Jb (s:List UInt8):Vis×Bool :=
 if s= []\/((nth s 0).toNat≠43/\(nth s 0).toNat≠45) then (⟨0,false⟩,false)
 else (⟨(Yl (s.drop 1)).1,decide (((nth s 0).toNat:Int)=45)⟩,decide ((Yl (s.drop 1)).2=0))
theorem CG (s:List UInt8) (hs:s.length<=1048576):PT 95 [.p (.str s)] [.p (ZV (Jb s).1),.p (.bool (Jb s).2)]:=by
 refine Zg [] Tryz.func95 rfl mW ?_;simp (disch:=omega) only [Tryz.f95,go_sem,seval];unfold Jb
 have hsl:s= []\/0<s.length:=by cases s<;>simp
 rcases hsl with he | hsl
 ·subst he;rw [if_pos (.inl rfl)];refine gF ?_ ?_<;>intro h1<;>simp (disch:=omega) only [Sh.out h1,go_sem,seval]
  ·exact we
  ·simp at h1
 ·have hne: ¬s= []:=List.length_pos_iff.1 hsl;have hb:=Kx (nth s 0);have cn:=U4 (s.drop 1) (by rw [List.length_drop];omega);refine gF ?_ ?_<;>intro h1<;>simp (disch:=omega) only [Sh.out h1,go_sem,seval]
  ·exact absurd h1 hne
  ·refine gT ?_ ?_<;>intro h2<;>simp (disch:=omega) only [Sh.out h2,go_sem,seval]
   ·refine cD ?_ ?_<;>intro h3<;>simp (disch:=omega) only [Sh.out h3,go_sem,seval]
    ·rw [if_pos (.inr ⟨Za,Za⟩)];exact we
    ·rw [if_neg (by rintro (e | e);exact hne e;omega),List.take_length];refine W4 cn ?_;simp (disch:=omega) only [go_sem,seval];exact we
   ·rw [if_neg (by rintro (e | e);exact hne e;omega),List.take_length];refine W4 cn ?_;simp (disch:=omega) only [go_sem,seval];exact we
def Ow (b:UInt8):Bool:=decide ((b.toNat:Int)=121)||decide ((b.toNat:Int)=110)
def yB (b:UInt8):Bool:=decide ((b.toNat:Int)=121)
def GV (s:List UInt8):Option (Bool×List Bool):=if s= [46] then some (true,[]) else if s.all Ow=true then (if s= [] then none else some (false,s.map yB)) else none
def TV (s:List UInt8):V:=match GV s with
 | some (c,l)=> .tup [.p (.list c (l.map eB)),.p (.bool true)]
 | none=> .tup [.p (.list true []),.p (.bool false)]
theorem CE (s:List UInt8) (hs:s.length<=1048576) (hne:s≠ []):ACalls Tryz.prog 94 [.p (.str s)] [] fun y H'=>y=TV s/\H'= []:=by
 refine Zg [11] Tryz.func94 rfl mV ?_;simp (disch:=omega) only [Tryz.f94,go_sem,seval];unfold TV GV;refine cD ?_ ?_<;>intro h1<;>simp (disch:=omega) only [Sh.out h1,go_sem,seval]
 ·exact we (by simp (disch:=omega) only [List.map_nil,go_sem,seval])
 ·rw [if_neg h1];refine ZH [11] [0,9] (fun k:Nat=> [(4,.sl 0 0 k k),(10,.p (.int .i64 k))]) (fun k=> [.elems 1 (((s.take k).map yB).map eB)]) (fun k=>k<=s.length/\ ∀j,j<k->Ow (nth s j)=true) (fun k=>s.length-k) 0 Zb (Weak.ofNil 4 1 rfl Zb (Weak.mk ?_)) ?_
  ·simp (disch:=omega) only [List.take_zero,List.map_nil,go_sem,seval]
  ·rintro k ⟨hk,hno⟩;simp (disch:=omega) only [go_sem,seval];refine cD ?_ ?_<;>intro h2<;>simp (disch:=omega) only [Sh.out h2,go_sem,seval]
   ·have hk2:k<s.length:=Za
    have hb:=Kx (nth s k)
    have hl:(s.take k).length=k:=by simp;omega
    have hnx:((s.take (k+1)).map yB).map eB=((s.take k).map yB).map eB++ [.bool (decide (((nth s k).toNat:Int)=121))]:=by
     rw [List.take_succ_eq_append_getElem hk2,List.map_append,List.map_append,Zi hk2];rfl
    have bad:Ow (nth s k)=false-> ¬s.all Ow=true:=fun h e=>by
     rw [List.all_eq_true] at e;rw [e _ (Zu hk2)] at h;simp at h
    refine gT ?_ ?_<;>intro h3<;>simp (disch:=omega) only [Sh.out h3,go_sem,seval]
    ·refine cD ?_ ?_<;>intro h4<;>simp (disch:=omega) only [Sh.out h4,go_sem,seval]
     ·rw [if_neg (bad (by unfold Ow;rw [decide_eq_false h3,decide_eq_false h4];rfl))];exact we
     ·rw [if_pos ⟨hl,Za,Za⟩];simp (disch:=omega) only [go_sem,seval];exact ⟨k+1,⟨Za,Zl.2 ⟨hno,by unfold Ow;simp;omega⟩⟩,Za,Weak.mk (by simp (disch:=omega) only [hnx,hl,go_sem,seval])⟩
    ·rw [if_pos ⟨hl,Za,Za⟩];simp (disch:=omega) only [go_sem,seval];exact ⟨k+1,⟨Za,Zl.2 ⟨hno,by unfold Ow;simp;omega⟩⟩,Za,Weak.mk (by simp (disch:=omega) only [hnx,hl,go_sem,seval])⟩
   ·have hkl:k=s.length:=Za
    subst hkl
    have Z7:s.all Ow=true:=by
     rw [List.all_eq_true];intro b hb;obtain ⟨j,hj,rfl⟩:=List.mem_iff_getElem.1 hb;rw [<- Zi hj];exact hno j hj
    have hpos:=List.length_pos_iff.2 hne;rw [if_pos Z7,if_neg hne];rw [List.take_length];refine Zr (Weak.fz (o:=0) (by rfl)) ?_;refine Zd [] _ _ _ _ ?_;simp (disch:=omega) only [List.map_cons,List.map_nil,List.set_cons_succ,List.set_cons_zero,go_sem,seval];rw [show decide (0<(s.length:Int))=true from decide_eq_true Za];exact we
@[go_sem] theorem bG (l:List (List UInt8)):Js 1 (l.map Ua)=true:=UK (f:=Ua) (S:=1) (fun _=>rfl) l
def unsW : List UInt8:= [117,110,115,101,114,118,101,100]
def TE (s:List UInt8):Bool:=decide ((Yl s).2=0)
def Uj (l:List (List UInt8)):Option (List Int):=if l= []\/nth l 0≠unsW then none else if (l.drop 1).all TE=true then some ((l.drop 1).map fun s=>(Yl s).1) else none
def IV (l:List (List UInt8)):V:=match Uj l with
 | some m=> .tup [.p (.list false (m.map eI)),.p (.bool true)]
 | none=> .tup [.p (.list true []),.p (.bool false)]
theorem Ec (l:List (List UInt8)) (c:Bool) (hl:l.length<=1048576) (hw: ∀s∈l,s.length<=1048576):ACalls Tryz.prog 46 [.p (.list c (l.map Ua))] [] fun y H'=>y=IV l/\H'= []:=by
 refine Zg [12] Tryz.func46 rfl lM ?_;simp (disch:=omega) only [Tryz.f46,go_sem,seval];unfold IV Uj
 have hll:l= []\/0<l.length:=by cases l<;>simp
 rcases hll with he | hll
 ·subst he;rw [if_pos (.inl rfl)];refine gF ?_ ?_<;>intro h1<;>simp (disch:=omega) only [Sh.out h1,go_sem,seval]
  ·exact we
  ·exact absurd Zb h1
 ·have hne: ¬l= []:=List.length_pos_iff.1 hll;refine gF ?_ ?_<;>intro h1<;>simp (disch:=omega) only [Sh.out h1,go_sem,seval]
  ·omega
  ·refine cD ?_ ?_<;>intro h2<;>simp (disch:=omega) only [Sh.out h2,go_sem,seval]
   ·rw [if_pos (.inr h2)];exact we
   ·rw [if_neg (by rintro (e | e);exact hne e;exact h2 e)];have hdl:(l.drop 1).length=l.length-1:=List.length_drop;have hwd: ∀s∈l.drop 1,s.length<=1048576:=fun s h=>hw s (List.mem_of_mem_drop h);rw [List.take_length]
    generalize l.drop 1=r at *
    refine ZH [12] [19,20] (fun k:Nat=> [(4,.sl 0 0 k k),(21,.p (.int .i64 k))]) (fun k=> [.elems 1 (((r.take k).map fun s=>(Yl s).1).map eI)]) (fun k=>k<=r.length/\ ∀j,j<k->TE (nth r j)=true) (fun k=>r.length-k) 0 Zb (Weak.ofNil 4 1 rfl Zb (Weak.mk ?_)) ?_
    ·simp (disch:=omega) only [List.take_zero,List.map_nil,go_sem,seval]
    ·rintro k ⟨hk,hno⟩;simp (disch:=omega) only [go_sem,seval];refine cD ?_ ?_<;>intro h3<;>simp (disch:=omega) only [Sh.out h3,go_sem,seval]
     ·have hk2:k<r.length:=Za
      have h18:=hwd _ (Zu hk2)
      have hkl:(r.take k).length=k:=by simp;omega
      have hnx:((r.take (k+1)).map fun s=>(Yl s).1).map eI=((r.take k).map fun s=>(Yl s).1).map eI++ [.int .i64 (Yl (nth r k)).1]:=by
       rw [List.take_succ_eq_append_getElem hk2,List.map_append,List.map_append,Zi hk2];rfl
      refine W4 (U4 (nth r k) h18) ?_;simp (disch:=omega) only [go_sem,seval];refine cD ?_ ?_<;>intro h4<;>simp (disch:=omega) only [Sh.out h4,go_sem,seval]
      ·have hb: ¬r.all TE=true:=fun e=>by
        rw [List.all_eq_true] at e;have:=e _ (Zu hk2);simp only [TE,decide_eq_true_eq] at this;exact h4 this
       rw [if_neg hb];exact we
      ·rw [if_pos ⟨hkl,Za,Za⟩];simp (disch:=omega) only [go_sem,seval];exact ⟨k+1,⟨Za,Zl.2 ⟨hno,by simp only [TE,decide_eq_true_eq];omega⟩⟩,Za,Weak.mk (by simp (disch:=omega) only [hnx,hkl,go_sem,seval])⟩
     ·have hkl:k=r.length:=Za
      subst hkl
      have Z7:r.all TE=true:=by
       rw [List.all_eq_true];intro b hb;obtain ⟨j,hj,rfl⟩:=List.mem_iff_getElem.1 hb;rw [<- Zi hj];exact hno j hj
      rw [if_pos Z7,List.take_length];refine Zr (Weak.fz (o:=0) (by rfl)) ?_;refine Zd [] _ _ _ _ ?_;simp (disch:=omega) only [List.map_cons,List.map_nil,List.set_cons_succ,List.set_cons_zero,go_sem,seval];exact we
def rteW : List UInt8:= [114,111,117,116,101]
def KA : Rte:=⟨0,0,true,[],true,[]⟩
def nU (s:List UInt8):Bool:=(Jb s).2
def Vv (l:List (List UInt8)):Bool:=decide ((Yl (nth l 1)).2=0)&&decide ((Yl (nth l 2)).2=0)
def KL (l:List (List UInt8)):Option Rte :=
 if l.length<4\/nth l 0≠rteW then none
 else match GV (nth l 3) with
  | none=>none
  | some (c,rs)=>if Vv l=true then (if (l.drop 4).all nU=true then some ⟨(Yl (nth l 1)).1,(Yl (nth l 2)).1,c,rs,false,(l.drop 4).map fun s=>(Jb s).1⟩ else none) else none
def TW (l:List (List UInt8)):V:=match KL l with
 | some r=> .tup [.p (eRte r),.p (.bool true)]
 | none=> .tup [.p (eRte KA),.p (.bool false)]
theorem CF (l:List (List UInt8)) (c:Bool) (hl:l.length<=1048576) (hw: ∀s∈l,s.length<=1048576/\s≠ []):ACalls Tryz.prog 47 [.p (.list c (l.map Ua))] [] fun y H'=>y=TW l/\H'= []:=by
 refine Zg [19] Tryz.func47 rfl lN ?_;simp (disch:=omega) only [Tryz.f47,go_sem,seval];unfold TW KL;refine gF ?_ ?_<;>intro h1<;>simp (disch:=omega) only [Sh.out h1,go_sem,seval]
 ·rw [if_pos (.inl Za)];exact we (by simp (disch:=omega) only [KA,List.map_nil,go_sem,seval])
 ·have h4:4<=l.length:=Za
  have n1:=hw _ (Zu (show 1<l.length by omega));have n2:=hw _ (Zu (show 2<l.length by omega));have n3:=hw _ (Zu (show 3<l.length by omega));have w5:rteW= [114,111,117,116,101]:=rfl;refine cD ?_ ?_<;>intro h2<;>simp (disch:=omega) only [Sh.out h2,go_sem,seval]
  ·rw [if_pos (.inr h2)];exact we (by simp (disch:=omega) only [KA,List.map_nil,go_sem,seval])
  ·rw [if_neg (by rintro (e | e);omega;exact h2 e)];refine W4 (U4 (nth l 1) n1.1) ?_;simp (disch:=omega) only [go_sem,seval];refine W4 (U4 (nth l 2) n2.1) ?_;simp (disch:=omega) only [go_sem,seval];have cr:=CE (nth l 3) Za n3.2;unfold TV at cr
   cases hr:GV (nth l 3) with
   | none =>
    rw [hr] at cr;refine W4 cr ?_;simp (disch:=omega) only [go_sem,seval];exact we (by simp (disch:=omega) only [KA,List.map_nil,go_sem,seval])
   | some q =>
    obtain ⟨cc,rs⟩:=q;rw [hr] at cr;refine W4 cr ?_;simp (disch:=omega) only [go_sem,seval];refine gF ?_ ?_<;>intro h5<;>simp (disch:=omega) only [Sh.out h5,go_sem,seval]
    ·have hb: ¬Vv l=true:=by unfold Vv;rw [decide_eq_false h5];simp
     rw [if_neg hb];exact we (by simp (disch:=omega) only [KA,List.map_nil,go_sem,seval])
    ·refine cD ?_ ?_<;>intro h6<;>simp (disch:=omega) only [Sh.out h6,go_sem,seval]
     ·have hb: ¬Vv l=true:=by unfold Vv;rw [decide_eq_false h6];simp
      rw [if_neg hb];exact we (by simp (disch:=omega) only [KA,List.map_nil,go_sem,seval])
     ·have hb:Vv l=true:=by unfold Vv;simp;omega
      rw [if_pos hb];have hdl:(l.drop 4).length=l.length-4:=List.length_drop;have hwd: ∀s∈l.drop 4,s.length<=1048576:=fun s h=>(hw s (List.mem_of_mem_drop h)).1;rw [List.take_length]
      generalize l.drop 4=r at *
      generalize (Yl (nth l 1)).1=x1 at *
      generalize (Yl (nth l 2)).1=x2 at *
      refine ZH [19] [2,4,58,59] (fun k:Nat=> [(60,.p (.int .i64 k))]) (fun k=> [ZN KA,.cells [.p (.int .i64 x1),.p (.int .i64 x2),.p (.list cc (rs.map eB)),.sl 2 0 k k],.elems 2 (((r.take k).map fun s=>(Jb s).1).map ZV)]) (fun k=>k<=r.length/\ ∀j,j<k->nU (nth r j)=true) (fun k=>r.length-k) 0 Zb ((Weak.nilC (o:=1) (j:=3) 2 rfl rfl Zb).trans (Weak.mk ?_)) ?_
      ·simp (disch:=omega) only [ZN,KA,List.map_nil,List.take_zero,List.set_cons_succ,List.set_cons_zero,List.cons_append,List.nil_append,go_sem,seval]
      ·rintro k ⟨hk,hno⟩;simp (disch:=omega) only [ZN,KA,List.map_nil,go_sem,seval];refine cD ?_ ?_<;>intro h7<;>simp (disch:=omega) only [Sh.out h7,go_sem,seval]
       ·have hk2:k<r.length:=Za
        have h18:=hwd _ (Zu hk2)
        have hkl:(r.take k).length=k:=by simp;omega
        have hnx:((r.take (k+1)).map fun s=>(Jb s).1).map ZV=((r.take k).map fun s=>(Jb s).1).map ZV++ [ZV (Jb (nth r k)).1]:=by
         rw [List.take_succ_eq_append_getElem hk2,List.map_append,List.map_append,Zi hk2];rfl
        refine W4 (CG (nth r k) Za) ?_;simp (disch:=omega) only [go_sem,seval]
        cases hv:(Jb (nth r k)).2 with
        | false =>
         have hb: ¬r.all nU=true:=fun e=>by
          rw [List.all_eq_true] at e;have:=e _ (Zu hk2);simp only [nU,hv] at this
          cases this
         rw [if_neg hb];simp (disch:=omega) only [hv,Bool.not_false,go_sem,seval];exact we (by simp (disch:=omega) only [KA,List.map_nil,go_sem,seval])
        | true =>
         simp (disch:=omega) only [hv,Bool.not_true,Bool.false_eq_true,go_sem,seval];rw [if_pos ⟨hkl,Za,Za⟩];simp (disch:=omega) only [hkl,go_sem,seval];exact ⟨k+1,⟨Za,Zl.2 ⟨hno,hv⟩⟩,Za,Weak.mk (by simp (disch:=omega) only [ZN,KA,List.map_nil,hnx,hkl,go_sem,seval])⟩
       ·have hkl:k=r.length:=Za
        subst hkl
        have Z7:r.all nU=true:=by
         rw [List.all_eq_true];intro b hb;obtain ⟨j,hj,rfl⟩:=List.mem_iff_getElem.1 hb;rw [<- Zi hj];exact hno j hj
        rw [if_pos Z7,List.take_length];refine Zr (Weak.fz (o:=2) (by rfl)) ?_;refine Zd [] _ _ _ _ ?_;simp (disch:=omega) only [List.map_cons,List.map_nil,List.set_cons_succ,List.set_cons_zero,go_sem,seval];exact we
theorem FO {s:List UInt8} (h0:s≠ []) (h: ∀b∈s,Vc b=true):Xa s=true:=by
 rw [Xa,decide_eq_true h0,Bool.true_and,List.all_eq_true];exact h
theorem Me {s:List UInt8} (h:Xa s=true): ∀b∈s,Vc b=true:=by
 simp only [Xa,Bool.and_eq_true,List.all_eq_true] at h;exact h.2
theorem LL {s:List UInt8} {q:Bool×List Bool} (h:GV s=some q):Xa s=true:=by
 unfold GV at h
 split at h
 ·rename_i e;subst e;decide
 ·split at h
  ·rename_i ha
   split at h
   ·cases h
   ·rename_i h0;refine FO h0 fun b hb=> ?_;rw [List.all_eq_true] at ha;have:=ha b hb
    simp only [Ow,Vc,Bool.or_eq_true,Bool.and_eq_true,decide_eq_true_eq] at *
    omega
  ·cases h
theorem Mc {s:List UInt8} (h:(Jb s).2=true):Xa s=true:=by
 unfold Jb at h
 split at h
 ·cases h
 ·rename_i h1;simp only [decide_eq_true_eq] at h
  cases s with
  | nil=>exact absurd (.inl rfl) h1
  | cons b l =>
   refine FO Zb fun c hc=> ?_;rcases List.mem_cons.1 hc with rfl | hc
   ·have h2:(c.toNat=43\/c.toNat=45):=by
     by_cases e:c.toNat=43
     ·exact .inl e
     ·by_cases e2:c.toNat=45
      ·exact .inr e2
      ·exact absurd (.inr ⟨e,e2⟩) h1
    simp only [Vc,Bool.and_eq_true,decide_eq_true_eq];omega
   ·exact Me (U3 h) c hc
theorem WK {α:Type} [Inhabited α] {l:List α} {w:α} (h:w∈l):w=nth l 0\/w∈l.drop 1:=by
 cases l with
 | nil=>cases h
 | cons b r=>exact List.mem_cons.1 h
theorem DN {ws:List (List UInt8)} {us:List Int} (h:Uj ws=some us): ∀w∈ws,Xa w=true:=fun w hw=>by
 unfold Uj at h
 split at h
 ·cases h
 ·rename_i h1
  split at h
  ·rename_i ha;rcases WK hw with rfl | hw
   ·have:nth ws 0=unsW:=Classical.byContradiction fun e=>h1 (.inr e);rw [this];decide
   ·rw [List.all_eq_true] at ha;have:=ha w hw;simp only [TE,decide_eq_true_eq] at this;exact U3 this
  ·cases h
theorem QF {α:Type} [Inhabited α] (l:List α) (i j:Nat):nth (l.drop i) j=nth l (i+j):=by
 simp [nth]
theorem GW {ws:List (List UInt8)} {r:Rte} (h:KL ws=some r): ∀w∈ws,Xa w=true:=fun w hw=>by
 unfold KL at h
 split at h
 ·cases h
 ·rename_i h1
  split at h
  ·cases h
  ·rename_i c rs hr
   split at h
   ·rename_i hh
    split at h
    ·rename_i ha;simp only [Vv,Bool.and_eq_true,decide_eq_true_eq] at hh;rcases WK hw with rfl | hw
     ·have:nth ws 0=rteW:=Classical.byContradiction fun e=>h1 (.inr e);rw [this];decide
     ·rcases WK hw with rfl | hw
      ·rw [QF];exact U3 hh.1
      ·rw [List.drop_drop] at hw;rcases WK hw with rfl | hw
       ·rw [QF];exact U3 hh.2
       ·rw [List.drop_drop] at hw;rcases WK hw with rfl | hw
        ·rw [QF];exact LL hr
        ·rw [List.drop_drop] at hw;rw [List.all_eq_true] at ha;exact Mc (ha w hw)
    ·cases h
   ·cases h
theorem Ov {o:Option (List (List UInt8))} (h:Wds [] o):o=some []:=by
 generalize e:([]:List UInt8)=s at h
 cases h with
 | nil=>rfl
 | bad _ h=>exact absurd e.symm h
 | whole _ h=>exact absurd e.symm h
 | bad2 _ n _ _ h2=>subst e;simp at h2
 | cons _ n _ _ _ h2=>subst e;simp at h2
theorem Md {α:Type} {s:List UInt8} {o:Option (List (List UInt8))} (h:Wds s o) {f:List (List UInt8)->Option α} (hf: ∀ {ws r},f ws=some r-> ∀w∈ws,Xa w=true) (h0:f []=none):o.bind f=f (Yf s):=by
 cases hs:f (Yf s) with
 | some r=>rw [pR h (hf hs)];exact hs
 | none =>
  cases o with
  | none=>rfl
  | some ws =>
   show f ws=none
   cases hw:f ws with
   | none=>rfl
   | some r =>
    exfalso
    by_cases e:s= []
    ·subst e;rw [Option.some.inj (Ov h),h0] at hw;cases hw
    ·rw [pQ h ws rfl e (hf hw),hw] at hs;cases hs
def QR : Pln:=⟨true,[],true,[]⟩
def DY : Nat->Int->List Rte->List UInt8->Pln×Int×Int
 | 0,n,_,_=>(QR,n,3)
 | f+1,n,rs,s=>if (Wd s 10).2.2=false then (QR,n,3) else match Uj (Yf (Wd s 10).1) with
  | some us=>if (Wd s 10).2.1≠ [] then (QR,n,3) else (⟨false,rs,false,us⟩,0,0)
  | none=>match KL (Yf (Wd s 10).1) with
   | none=>(QR,n,3)
   | some r=>DY f (n+1) (rs++ [r]) (Wd s 10).2.1
def DZ (q:Pln×Int×Int):V:= .tup [.p (Ws q.1),.p (.int .i64 q.2.1),.p (.int .i64 q.2.2)]
theorem HY {s:List UInt8} (h: ¬(Wd s 10).2.2=false):(Wd s 10).2.1.length<s.length/\(Wd s 10).1.length<=s.length:=by
 have hb:=QC 10 s
 unfold Wd at *
 split at h
 ·rename_i hh;rw [if_pos hh];simp only [List.length_drop,List.length_take];omega
 ·exact absurd rfl h
theorem MY (s:List UInt8):(Wd s 10).1.length<=s.length:=by
 unfold Wd
 split
 ·simp only [List.length_take];omega
 ·exact Nat.le_refl _
theorem NU (s:List UInt8) (hs:s.length<=65536):ACalls Tryz.prog 19 [.p (.str s)] [] fun y H'=>y=DZ (DY (s.length+1) 1 [] s)/\H'= []:=by
 obtain ⟨Z,hZ⟩: ∃Z,Z=DY (s.length+1) 1 [] s:=⟨_,rfl⟩;rw [<- hZ];refine Zg [16] Tryz.func19 rfl kV ?_;simp (disch:=omega) only [Tryz.f19,go_sem,seval];refine cD ?_ ?_<;>intro h0<;>simp (disch:=omega) only [Sh.out h0,go_sem,seval]
 ·omega
 ·refine ZH [16] [2,5] (fun q:Nat×List UInt8×List Rte=> [(0,.p (.str q.2.1)),(6,.p (.int .i64 ((q.1:Int)+1)))])
   (fun q=> [Zw QR,.cells [.sl 2 0 q.2.2.length q.2.2.length,.p (.list true [])],.elems 4 (q.2.2.map eRte)])
   (fun q=>q.1+q.2.1.length<=s.length/\q.2.2.length=q.1/\Z=DY (s.length+1-q.1) ((q.1:Int)+1) q.2.2 q.2.1) (fun q=>q.2.1.length) (0,s,[]) ⟨Zb,Zb,by simpa using hZ⟩ ((Weak.nilC (o:=1) (j:=0) 4 rfl rfl Zb).trans (Weak.mk ?_)) ?_
  ·simp (disch:=omega) only [Zw,QR,List.map_nil,List.length_nil,List.set_cons_succ,List.set_cons_zero,List.cons_append,List.nil_append,go_sem,seval]
  ·rintro ⟨k,t,rs⟩ ⟨h1,h2,h5⟩;simp only at h1 h2 h5;rw [h5];obtain ⟨f,hf⟩: ∃f,s.length+1-k=f+1:=⟨s.length-k,Za⟩;rw [hf] at h5 ⊢;have hcl:= @HY t;simp (disch:=omega) only [Zw,QR,List.map_nil,go_sem,seval];refine Bp (jX t 10 Za) ?_;simp (disch:=omega) only [go_sem,seval];have hle:=MY t;have cw:=Mf (Wd t 10).1 Za;rw [DY] at h5;rw [DY]
   generalize (Wd t 10).1=c1 at *
   generalize (Wd t 10).2.1=c2 at *
   generalize (Wd t 10).2.2=c3 at *
   refine yG cw fun o hw=> ?_;have hl:=Md hw (fun h=>DN h) (f:=Uj) rfl;have hr:=Md hw (fun h=>GW h) (f:=KL) rfl
   cases o with
   | none =>
    have hl:none=Uj (Yf c1):=hl;have hr:none=KL (Yf c1):=hr;rw [<- hl,<- hr]
    cases c3 with
    | false =>
     rw [if_pos rfl];simp (disch:=omega) only [W5,Bool.not_false,go_sem,seval];exact we (by simp (disch:=omega) only [DZ,QR,List.map_nil,go_sem,seval])
    | true =>
     rw [if_neg Zb];simp (disch:=omega) only [W5,Bool.not_true,go_sem,seval];exact we (by simp (disch:=omega) only [DZ,QR,List.map_nil,go_sem,seval])
   | some ws =>
    have hl:Uj ws=Uj (Yf c1):=hl;have hr:KL ws=KL (Yf c1):=hr;rw [<- hl,<- hr] at h5;rw [<- hl,<- hr]
    cases c3 with
    | false =>
     rw [if_pos rfl];simp (disch:=omega) only [W5,Bool.not_false,go_sem,seval];exact we (by simp (disch:=omega) only [DZ,QR,List.map_nil,go_sem,seval])
    | true =>
     rw [if_neg Zb];obtain ⟨hwl,hwm⟩:=Ou hw ws rfl;simp (disch:=omega) only [W5,Bool.not_true,go_sem,seval];have hlt:=(hcl Zb).1;have cl:=Ec ws false Za (fun w hw=>by have:=hwm w hw;omega);have crt:=CF ws false Za (fun w hw=>⟨by have:=hwm w hw;omega,(hwm w hw).1⟩);unfold IV at cl;unfold TW at crt
     cases hu:Uj ws with
     | some us =>
      rw [hu] at cl;refine W4 cl ?_;simp (disch:=omega) only [go_sem,seval];refine cD ?_ ?_<;>intro h6<;>simp (disch:=omega) only [Sh.out h6,go_sem,seval]
      ·rw [if_pos h6];exact we (by simp (disch:=omega) only [DZ,QR,List.map_nil,go_sem,seval])
      ·rw [if_neg h6];refine Zr (Weak.fz (o:=2) (by rfl)) ?_;refine Zd [] _ _ _ _ ?_;simp (disch:=omega) only [List.map_cons,List.map_nil,List.set_cons_succ,List.set_cons_zero,go_sem,seval];exact we (by simp (disch:=omega) only [DZ,go_sem,seval])
     | none =>
      rw [hu] at cl;refine W4 cl ?_;simp (disch:=omega) only [go_sem,seval]
      cases hr:KL ws with
      | none =>
       rw [hr] at crt;refine W4 crt ?_;simp (disch:=omega) only [go_sem,seval];exact we (by simp (disch:=omega) only [DZ,QR,List.map_nil,go_sem,seval])
      | some r =>
       rw [hr] at crt;refine W4 crt ?_;simp (disch:=omega) only [go_sem,seval]
       exact ⟨(k+1,c2,rs++ [r]),⟨by simp only;omega,by simp only [List.length_append,List.length_cons,List.length_nil];omega,by
        simp only
        rw [show s.length+1-(k+1)=f by omega,show (((k+1:Nat):Int)+1)=(k:Int)+1+1 by omega]⟩,by simp only;omega,Weak.mk (by simp (disch:=omega) only [Zw,QR,List.map_nil,List.length_append,List.length_cons,List.length_nil,List.map_append,List.map_cons,go_sem,seval])⟩
def awkS : List UInt8:= [114,111,117,116,101,32,48,32,48,32,46,32,43,50,32,45,50,10,117,110,115,101,114,118,101,100,32,48,32,49,10]
def F6 : Pln:=⟨false,[⟨0,0,true,[],false,[⟨2,false⟩,⟨2,true⟩]⟩],false,[0,1]⟩
theorem MQ : DY (awkS.length+1) 1 [] awkS=(F6,0,0):=Ze
theorem D0 : PT 19 [.p (.str awkS)] [.p (Ws F6),.p (.int .i64 0),.p (.int .i64 0)]:=by
 have h:=NU awkS (by decide);rw [MQ] at h;exact h
def awkQ : Pln:=⟨false,[⟨0,0,true,[],false,[⟨2,false⟩,⟨2,true⟩]⟩],false,[0,1]⟩
theorem MR : vT awkQ=awkS:=Ze
theorem HC : PrOk awkQ:=by
 refine ⟨by decide,by decide,fun r hr=> ?_,fun u hu=> ?_⟩
 ·simp only [awkQ,List.mem_cons,List.not_mem_nil,or_false] at hr;subst hr;refine ⟨by decide,⟨by decide,by decide⟩,⟨by decide,by decide⟩,Nat.zero_le _,fun v hv=> ?_⟩;simp only [List.mem_cons,List.not_mem_nil,or_false] at hv;rcases hv with rfl | rfl<;>exact ⟨by decide,by decide⟩
 ·simp only [awkQ,List.mem_cons,List.not_mem_nil,or_false] at hu;rcases hu with rfl | rfl<;>exact ⟨by decide,by decide⟩
theorem HD : Um awkQ F6=true:=rfl
theorem EQ (q:Pln) (h:q=awkQ\/q=F6):q.routes.length<=1048576/\q.unserved.length<=1048576/\ ∀r∈q.routes,Vf r:=by
 rcases h with rfl | rfl
 all_goals
  refine ⟨by decide,by decide,fun r hr=> ?_⟩;simp only [awkQ,F6,List.mem_cons,List.not_mem_nil,or_false] at hr;subst hr;exact ⟨by decide,by decide⟩
theorem F5 : PC 16 [] (.bool true):=by
 refine Zg [1] Tryz.func16 rfl kT ?_;simp (disch:=omega) only [Tryz.f16,go_sem,seval];refine Z0 (BT 3 3 ?_);simp (disch:=omega) only [go_sem,seval];refine ⟨_,_,Weak.fz (o:=0) (by rfl),?_⟩;simp (disch:=omega) only [List.map_cons,List.map_nil,List.set_cons_succ,List.set_cons_zero,List.cons_append,List.nil_append,go_sem,seval];refine ⟨_,_,(Weak.fz (o:=1) (by rfl)).trans (Weak.fz (o:=2) (by rfl)),?_⟩;simp (disch:=omega) only [List.map_cons,List.map_nil,List.set_cons_succ,List.set_cons_zero,List.cons_append,List.nil_append,go_sem,seval];refine Zd [] _ _ _ _ ?_
 simp (disch:=omega) only [go_sem,seval];refine FJ D0 ?_;simp (disch:=omega) only [go_sem,seval];refine (NZ awkQ HC).use ?_;rw [MR];simp (disch:=omega) only [awkS,decide_true,go_sem,seval];refine (A8 awkQ F6 (EQ _ (.inl rfl)) (EQ _ (.inr rfl))).use ?_;rw [HD];simp (disch:=omega) only [go_sem,seval];refine (P2).use ?_;simp (disch:=omega) only [go_sem,seval];refine (Lj bareI aD P1 (by decide) (by decide) (by simp [aD])).use ?_;rw [HO];simp (disch:=omega) only [go_sem,seval];exact we
end Go.Proofs.YtmbelkfkhclnkaaGreatDoor.K
