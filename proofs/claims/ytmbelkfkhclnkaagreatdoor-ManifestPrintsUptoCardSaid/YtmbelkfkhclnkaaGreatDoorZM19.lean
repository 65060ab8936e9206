/- Declarations that the closing texts need, part 19: joined by tools/slim.py. -/
import Derived.Test.YtmbelkfkhclnkaaGreatDoorZM18
import Derived.Shelf.Strings.OnBuilder
set_option linter.unusedVariables false
set_option linter.unusedSimpArgs false
namespace Go.Proofs.YtmbelkfkhclnkaaGreatDoor.K
open Go Go.AM Go.Proofs Go.Shelf Go.RowKit
set_option maxRecDepth 8000
set_option maxHeartbeats 8000000
theorem Wf : Builder.Extra Tryz.prog layJoin_ren:= {
 sizeBuilder:=Zg,liesBuilder:=Zg,
 t5:=Tryz.underlying5,a5:=Tryz.isAgg5,z5:=Tryz.sizeOf5,v5:=Tryz.zeroValue5,
 infoByte:=Zg,cellsByte:=Zg,sizeByte:=Zg,neB5:=by decide }
theorem rC (xs:List (List UInt8)):(xs.map fun s=>(⟨s.toArray⟩:ByteArray)).map (fun x=>x.data.toList)=xs:=by
 rw [List.map_map];rw [show ((fun x:ByteArray=>x.data.toList)∘fun s:List UInt8=>(⟨s.toArray⟩:ByteArray))=id from funext fun s=>Zb,List.map_id]
theorem Pj (xs:List (List UInt8)) (c:Bool) (sep:List UInt8) (hx:xs.length<=1048576) (hl:(Zz xs sep).length<=140737488355328) :
  PC 91 [.p (.list c (xs.map WY)),.p (.str sep)] (.str (Zz xs sep)):=by
 refine ⟨cZ,fun F ι w vs hr hv=> ?_⟩;obtain ⟨h1,h2⟩:=hv;have e0:=h2 0 _ rfl;have e1:=QR (h2 1 _ rfl)
 have hvs:vs= #[vs.getD 0 undef,.string ⟨sep.toArray⟩]:=by
  apply Array.ext
  ·simpa using h1
  ·intro i h3 h4
   have:i=0\/i=1:=by simp at h4;omega
   rcases this with rfl | rfl
   ·simp [Array.getD,h3]
   ·have:vs.getD 1 undef=vs[1]:=by simp [Array.getD,h3]
    rw [<- this,e1];rfl
 have hι:ι= []:=List.eq_nil_of_length_eq_zero hr.len;subst hι;rw [hvs];generalize vs.getD 0 undef=v at e0;clear hvs h1 h2 e1 vs
 have fin: ∀ {w' e},e=Ending.returned (.string ⟨(Zz xs sep).toArray⟩)/\Below w.heap.size w w'-> ∃x H' ι' v,e= .returned v/\(x=V.p (.str (Zz xs sep))/\H'= [])/\Go.AM.Good F [] [] w H' ι' w'/\RV F H' ι' w' x v:=by
  rintro w' e ⟨rfl,hb⟩;exact ⟨_,_,[],_,rfl,⟨rfl,rfl⟩,Qm hr.env hr.fin hb,.p _ _ (.str _)⟩
 have none: ∀a cap,xs= []->Calls Tryz.prog 91 #[.slice a 0 cap,.string ⟨sep.toArray⟩] w fun e w'=> ∃x H' ι' v,e= .returned v/\(x=V.p (.str (Zz xs sep))/\H'= [])/\Go.AM.Good F [] [] w H' ι' w'/\RV F H' ι' w' x v:=fun a cap he=>by
  refine (Any.strings_Join_none VI Wf a cap ⟨sep.toArray⟩ w).mono ?_;rintro e w' ⟨he2,rfl⟩;refine fin ⟨?_,Below.refl _ _⟩;rw [he2,he];rfl
 cases e0 with | p _ _ h =>
 generalize hm:xs.map WY=ys at h
 cases h with
 | nils=>exact none _ _ (by simpa using hm)
 | emp=>exact none _ _ (by simpa using hm)
 | list cl xs2 b off cap S u hX hb hc hm2 hcl hS hu hr2 =>
  subst hm;rw [List.length_map];have key:=Any.strings_Join VI Wf b off cap (xs.map fun s=>⟨s.toArray⟩) ⟨sep.toArray⟩ w ?_ hb (by rw [List.length_map];omega) (by simpa using hc) ?_
  ·rw [List.length_map] at key;refine key.mono fun e w' h=>fin ?_;rw [rC] at h;simpa [Zz] using h
  ·intro j x hj;rw [List.getElem?_map,Option.map_eq_some_iff] at hj;obtain ⟨t,ht,rfl⟩:=hj
   have hj2:(xs.map WY)[j]? =some (WY t):=by rw [List.getElem?_map,ht];rfl
   have hc0:(WY t).cells[0]? =some (.str t):=rfl
   have hS1:S=1:=by rw [<- hS j _ hj2];rfl
   have g1:=hu j _ 0 _ hj2 hc0;have g2:=(hr2 j _ 0 _ hj2 hc0).str_inv;rw [g2,hS1,Nat.mul_one,Nat.add_zero] at g1;exact g1
  ·rw [rC];simpa [Zz] using hl
set_option maxRecDepth 100000
theorem dG : Lays.n166 Tryz.prog layJoin_ren:= { VI with }
theorem Ks : Lays.n169 Tryz.prog layJoin_ren:= { VI with }
theorem CN {P:Program} {ρ:Ren} (L:Lays.n166 P ρ) (X:Builder.Extra P ρ) {n:Nat} {p v:Value} {b:Nat} {xs:List Value} {w:World} (s:List UInt8) (hs:s≠ []) (hbk:w.heap[b]? =some (.cells #[p,v] (ρ.t 72) (0,0))) (hp:p= .pointer none\/p= .pointer (some ⟨b,0,none⟩)) (hne:v.ownBlock≠some b)
  (hown:w.ownsRow 0 (ρ.t 5) 1 v n xs) (hb:n+s.length<=140737488355328) :
  Calls P (ρ.f 166) #[.pointer (some ⟨b,0,none⟩),.string ⟨s.toArray⟩] w fun e w'=>e= .returned (.tuple #[.int .i64 s.length,.nilIface]) /\
   ∃v' w1 w2,Turned w w1 b #[.pointer (some ⟨b,0,none⟩),v] (ρ.t 72)/\Grew w1 w2 v.ownBlock v'.ownBlock/\w2.ownsRow 0 (ρ.t 5) 1 v' (n+s.length) (xs++s.map fun x=> .int .u8 x.toNat)/\w'=w2.setCell ⟨b,1,none⟩ v':=by
 obtain ⟨i0,hi,hz0,hz1,hz2⟩:=info_parts X.infoByte;have mixed:=L.mixed;have t72:=L.t72;have a72:=L.a72;have z72:=L.z72;have v72:=L.v72;have u72:=run_underlying L.t72;have t70:=L.t70;have a70:=L.a70;have z70:=L.z70;have v70:=L.v70;have u70:=run_underlying L.t70;have t37:=L.t37;have a37:=L.a37;have z37:=L.z37;have v37:=L.v37;have u37:=run_underlying L.t37;have t3:=L.t3;have a3:=L.a3;have z3:=L.z3;have v3:=L.v3;have u3:=run_underlying L.t3;have t9:=L.t9;have a9:=L.a9;have z9:=L.z9;have v9:=L.v9;have u9:=run_underlying L.t9
 have t4:=L.t4;have a4:=L.a4;have z4:=L.z4;have v4:=L.v4;have u4:=run_underlying L.t4;have t164:=L.t164;have a164:=L.a164;have z164:=L.z164;have v164:=L.v164;have u164:=run_underlying L.t164
 have hcc:Calls P (ρ.f 240) #[.pointer (some ⟨b,0,none⟩)] w fun e w1=>e= .returned (.tuple #[])/\Turned w w1 b #[.pointer (some ⟨b,0,none⟩),v] (ρ.t 72):=by
  rcases hp with rfl | rfl
  ·refine (Any.Builder_copyCheck_fresh { L with } X.toX72 b w (by rw [Lib.cell_of_heap hbk];rfl) (by show w.shape? b=_;simp [World.shape?,hbk]) (Lib.frozen_of_heap hbk 0)).mono ?_;rintro e w' ⟨rfl,rfl⟩;exact ⟨rfl,rfl,⟨rfl,.inr trivial⟩,rfl,Nat.le_refl _,by simp [World.setCell],by simp [World.setCell,Array.getElem?_modify,hbk],fun k hk=>Below.heap_setCell _ _ _ _ (fun e=>hk (by simpa using e))⟩
  ·refine (Any.Builder_copyCheck_used { L with } X.toX72 b w (by rw [Lib.cell_of_heap hbk];rfl)).mono ?_;rintro e w' ⟨rfl,rfl⟩;exact ⟨rfl,rfl,⟨rfl,.inr trivial⟩,rfl,Nat.le_refl _,rfl,hbk,fun _ _=>rfl⟩
 have e240: ∀args w,(callFunc (ρ.f 240) args).run P w= .ok (.enter (ρ.f 240) args) w:=enters_of L.f240 Zg rfl
 go_enter L.f166,Body.n166_ntmps _
 go_wp2_with (go_at_fn (ρ.f 240);refine hcc.mono ?_)
 rintro e w1 ⟨rfl,hT⟩
 have c0:w1.cell? ⟨b,0,none⟩=some (.pointer (some ⟨b,0,none⟩)):=by rw [Lib.cell_of_heap hT.at'];rfl
 have c1:w1.cell? ⟨b,1,none⟩=some v:=by rw [Lib.cell_of_heap hT.at'];rfl
 have hown1:w1.ownsRow 0 (ρ.t 5) 1 v n xs:=by
  rcases hown with ⟨o1,o2 | ⟨g,cap,cur,o2,o3,o4,o5⟩⟩
  ·exact ⟨o1,.inl o2⟩
  ·exact ⟨o1,.inr ⟨g,cap,cur,o2,o3,by rw [hT.other g (fun e=>hne (by rw [o2,e];rfl))];exact o4,o5⟩⟩
 go_wp2_with (at_builtin;refine Bu rfl _ _ _ _ rfl (ρ.t 5) i0 L.t37 L.t9 hi hz0 hz1 hz2 v n xs rfl hown1 s hs rfl hb ?_)
 intro v' w2 hown' hG;have hlt:b<w1.heap.size:=(Array.getElem?_eq_some_iff.1 hT.at').1
 have hb2:w2.heap[b]? =some (.cells #[.pointer (some ⟨b,0,none⟩),v] (ρ.t 72) (0,0)):=by
  rw [hG.old b hlt (fun e=>hne e.symm)];exact hT.at'
 have d0:w2.cell? ⟨b,0,none⟩=some (.pointer (some ⟨b,0,none⟩)):=by rw [Lib.cell_of_heap hb2];rfl
 have d1:w2.cell? ⟨b,1,none⟩=some v:=by rw [Lib.cell_of_heap hb2];rfl
 have f1:w2.frozen? ⟨b,1,none⟩=false:=Lib.frozen_of_heap hb2 1
 obtain ⟨ao,n',cap,rfl⟩: ∃ao n' cap,v'= .slice ao n' cap:=by
  rcases hown'.2 with ⟨hv,_⟩ | ⟨g,cap,cur,hv,_⟩
  ·exact ⟨_,_,_,hv⟩
  ·exact ⟨_,_,_,hv⟩
 go_wp2
 go_ret2
 exact ⟨Zb,_,w1,w2,hT,hG,hown',rfl⟩
theorem Rc {H:List AM.Obj} {o r:Nat} {bs:List UInt8} (hH:H[o]? =some (.bld 77 5 r bs)) (s:List UInt8) (hs:s≠ []) (hl:bs.length+s.length<=140737488355328) :
  ACalls Tryz.prog 31 [.bp o,.p (.str s)] H fun x H'=>x= .tup [.p (.int .i64 s.length),.p .nili]/\H'=H.set o (.bld 77 5 r (bs++s)):=by
 refine ⟨cE,fun F ι w vs hr hv=> ?_⟩;obtain ⟨h1,h2⟩:=hv;have e0:=h2 0 _ rfl;have e1:=QR (h2 1 _ rfl);obtain ⟨hor,hrd,b,go,q1,q2,p,v,w1,w2,w3,w4⟩:=hr.bldr o _ _ r bs hH
 have e0':vs.getD 0 undef= .pointer (some ⟨b,0,none⟩):=by
  generalize vs.getD 0 undef=x at e0
  cases e0 with
  | bp _ b2 T2 E2 r2 bs2 h hH2=>rw [q1] at h;simp at h;rw [h]
  | bpD _ _ h=>rw [hH] at h;cases h
 have hvs:vs= #[.pointer (some ⟨b,0,none⟩),.string ⟨s.toArray⟩]:=by
  apply Array.ext
  ·simpa using h1
  ·intro i h3 h4
   have:i=0\/i=1:=by simp at h4;omega
   rcases this with rfl | rfl
   ·have:vs.getD 0 undef=vs[0]:=by simp [Array.getD,h3]
    rw [<- this,e0'];rfl
   ·have:vs.getD 1 undef=vs[1]:=by simp [Array.getD,h3]
    rw [<- this,e1];rfl
 subst w3
 have hne:v.ownBlock≠some b:=fun e=>by have:=hr.inj o r b q1 (by rw [q2,e]);omega
 rw [hvs];refine (CN dG Wf s hs w1 w2 hne w4 hl).mono ?_;rintro e w' ⟨rfl,v',wa,wb,hT,hG,ho,rfl⟩;refine ⟨_,_,_,_,rfl,⟨rfl,rfl⟩,Jr (bs':=bs++s) hr hH q1 q2 w1 hT hG (by rw [List.length_append,List.map_append];exact ho) hne,.tup _ _ rfl fun j c hj=> ?_⟩
 match j,hj with
 | 0,hj=>simp at hj;subst hj;exact .p _ _ (.int _ _)
 | 1,hj=>simp at hj;subst hj;exact .p _ _ .nili
 | j+2,hj=>simp at hj
theorem BO {P:Program} {ρ:Ren} (L:Lays.n169 P ρ) (X:Builder.Extra P ρ) {p v:Value} {b:Nat} {l:List UInt8} {w:World} (h0:l≠ []) (hbk:w.heap[b]? =some (.cells #[p,v] (ρ.t 72) (0,0))) (hown:w.ownsRow 0 (ρ.t 5) 1 v l.length (l.map fun x=> .int .u8 x.toNat)) :
  Calls P (ρ.f 169) #[.pointer (some ⟨b,0,none⟩)] w fun e w'=>e= .returned (.string ⟨l.toArray⟩)/\ ∃g n,v.ownBlock=some g/\w'=w.drew.freeze ⟨g,0,none⟩ n:=by
 have hl0:l.length≠0:=by simpa using h0
 obtain ⟨g,cap,cur,rfl,hg,hnc,hcm,hcs,htake⟩: ∃g cap cur,v= .slice (some ⟨g,0,none⟩) l.length cap/\w.heap[g]? =some (.cells cur (ρ.t 5) (0,0))/\l.length<=cap/\cap<=maxLen/\cur.size=cap*1/\cur.toList.take (l.length*1)=l.map fun x=>Value.int .u8 x.toNat:=by
  rcases hown.2 with ⟨_,hz⟩ | ⟨g,cap,cur,hv,_,r⟩
  ·exact absurd hz hl0
  ·exact ⟨g,cap,cur,hv,r⟩
 have c1:w.drew.cell? ⟨b,1,none⟩=some (.slice (some ⟨g,0,none⟩) l.length cap):=by
  have:w.drew.heap[b]? =some (.cells #[p,.slice (some ⟨g,0,none⟩) l.length cap] (ρ.t 72) (0,0)):=hbk;rw [Lib.cell_of_heap this];rfl
 have hSD:(Builtin.unsafeSliceData_ #[(ρ.t 37)] (ρ.t 127) #[.slice (some ⟨g,0,none⟩) l.length cap]).run P w.drew= .ok (.pointer (some ⟨g,0,none⟩)) w.drew :=
  Lib.run_unsafeSliceData_row _ _ _ _ _ _ Za
 have hUS:(Builtin.unsafeString_ #[(ρ.t 127),(ρ.t 3)] (ρ.t 9) #[.pointer (some ⟨g,0,none⟩),.int .i64 l.length]).run P w.drew= .ok (.string ⟨l.toArray⟩) (w.drew.freeze ⟨g,0,none⟩ l.length):=by
  refine Lib.run_unsafeString_row w.drew (ρ.t 127) (ρ.t 3) (ρ.t 9) (ρ.t 5) L.t127 X.cellsByte g cur.size (by have hg':w.drew.heap[g]? =some (.cells cur (ρ.t 5) (0,0)):=hg;simp [World.shape?,hg']) l h0 Za (by unfold maxLen at hcm;omega) ?_;intro j x hx;have:=hown.cells (g:=g) rfl j (.int .u8 x.toNat) (by simp [hx]);exact this
 have mixed:=L.mixed;have t72:=L.t72;have a72:=L.a72;have z72:=L.z72;have v72:=L.v72;have u72:=run_underlying L.t72;have t70:=L.t70;have a70:=L.a70;have z70:=L.z70;have v70:=L.v70;have u70:=run_underlying L.t70;have t37:=L.t37;have a37:=L.a37;have z37:=L.z37;have v37:=L.v37;have u37:=run_underlying L.t37;have t127:=L.t127;have a127:=L.a127;have z127:=L.z127;have v127:=L.v127;have u127:=run_underlying L.t127;have t3:=L.t3;have a3:=L.a3;have z3:=L.z3;have v3:=L.v3;have u3:=run_underlying L.t3;have t9:=L.t9;have a9:=L.a9;have z9:=L.z9;have v9:=L.v9;have u9:=run_underlying L.t9
 have t5:=X.t5;have a5:=X.a5;have z5:=X.z5;have v5:=X.v5;have u5:=run_underlying X.t5
 go_enter L.f169,Body.n169_ntmps _
 go_wp2
 go_region_o
 all_goals (go_wp2;go_ret;exact ⟨rfl,g,_,rfl,rfl⟩)
theorem FD {H:List AM.Obj} {o r:Nat} {bs:List UInt8} (hH:H[o]? =some (.bld 77 5 r bs)) (hs:bs≠ []) :
  ACalls Tryz.prog 33 [.bp o] H fun x H'=>x= .p (.str bs)/\H'=H.set o .dead:=by
 refine ⟨My,fun F ι w vs hr hv=> ?_⟩;obtain ⟨h1,h2⟩:=hv;have e0:=h2 0 _ rfl;obtain ⟨hor,hrd,b,go,q1,q2,p,v,w1,w2,w3,w4⟩:=hr.bldr o _ _ r bs hH
 have e0':vs.getD 0 undef= .pointer (some ⟨b,0,none⟩):=by
  generalize vs.getD 0 undef=x at e0
  cases e0 with
  | bp _ b2 T2 E2 r2 bs2 h hH2=>rw [q1] at h;simp at h;rw [h]
  | bpD _ _ h=>rw [hH] at h;cases h
 have hvs:vs= #[.pointer (some ⟨b,0,none⟩)]:=by
  apply Array.ext
  ·simpa using h1
  ·intro i h3 h4
   have:i=0:=by simp at h4;omega
   subst this
   have:vs.getD 0 undef=vs[0]:=by simp [Array.getD,h3]
   rw [<- this,e0'];rfl
 rw [hvs];refine (BO Ks Wf hs w1 w4).mono ?_;rintro e w' ⟨rfl,g,n,hg,rfl⟩;refine ⟨_,_,_,_,rfl,⟨rfl,rfl⟩,Uz hr hH q1 q2 ?_ ?_ ?_ ?_ ?_,.p _ _ (.str _)⟩
 ·unfold World.freeze;split<;>rfl
 ·refine ⟨?_,.inr trivial⟩;unfold World.freeze;split<;>rfl
 ·unfold World.freeze;split<;>rfl
 ·unfold World.freeze
  split
  ·exact Nat.le_refl _
  ·show w.heap.size<=(Array.modify w.heap _ _).size
   rw [Array.size_modify];exact Nat.le_refl _
 ·intro k hk hne;have:k≠g:=fun e=>hne (by rw [<- w3,hg,e]);unfold World.freeze
  split
  ·rfl
  ·simp only [Array.getElem?_modify];rw [if_neg (fun e=>this e.symm)]
   rfl
theorem Ir {H:List AM.Obj} {o r:Nat} (hH:H[o]? =some (.bld 77 5 r [])) :
  ACalls Tryz.prog 33 [.bp o] H fun x H'=>x= .p (.str [])/\H'=H.set o .dead:=by
 refine ⟨My,fun F ι w vs hr hv=> ?_⟩;obtain ⟨h1,h2⟩:=hv;have e0:=h2 0 _ rfl;obtain ⟨hor,hrd,b,go,q1,q2,p,v,w1,w2,w3,w4⟩:=hr.bldr o _ _ r [] hH
 have e0':vs.getD 0 undef= .pointer (some ⟨b,0,none⟩):=by
  generalize vs.getD 0 undef=x at e0
  cases e0 with
  | bp _ b2 T2 E2 r2 bs2 h hH2=>rw [q1] at h;simp at h;rw [h]
  | bpD _ _ h=>rw [hH] at h;cases h
 have hvs:vs= #[.pointer (some ⟨b,0,none⟩)]:=by
  apply Array.ext
  ·simpa using h1
  ·intro i h3 h4
   have:i=0:=by simp at h4;omega
   subst this
   have:vs.getD 0 undef=vs[0]:=by simp [Array.getD,h3]
   rw [<- this,e0'];rfl
 rw [hvs]
 have key:Calls Tryz.prog 33 #[.pointer (some ⟨b,0,none⟩)] w fun e w'=>e= .returned (.string ⟨#[]⟩)/\Below w.heap.size w w':=by
  rcases w4.2 with ⟨rfl,_⟩ | ⟨g,cap,cur,rfl,hbg,hg,_⟩
  ·exact Any.Builder_String_nil Ks Wf _ b p w w1
  ·by_cases hc0:cap=0
   ·subst hc0;exact Any.Builder_String_noroom Ks Wf _ b g p cur w (Nat.le_refl _) w1 hg
   ·exact Any.Builder_String_room Ks Wf _ b g cap p w hc0 w1
 refine key.mono ?_;rintro e w' ⟨rfl,hb⟩;exact ⟨_,_,_,_,rfl,⟨rfl,rfl⟩,Uz hr hH q1 q2 hb.os ⟨hb.tape,.inr trivial⟩ hb.output hb.size (fun k hk _=>hb.block k hk),.p _ _ (.str _)⟩
theorem Is {H:List AM.Obj} {o r:Nat} {bs:List UInt8} (hH:H[o]? =some (.bld 77 5 r bs)) :
  ACalls Tryz.prog 33 [.bp o] H fun x H'=>x= .p (.str bs)/\H'=H.set o .dead:=by
 by_cases h:bs= []
 ·subst h;exact Ir hH
 ·exact FD hH h
end Go.Proofs.YtmbelkfkhclnkaaGreatDoor.K
namespace Go.AM
open Go.RowKit
theorem Grew.afterAlloc {w w2:World} {ob:Go.Obj} {go go':Option Nat} (h:Grew (w.alloc ob) w2 go go'):Grew w w2 go go':=by
 have sz:(w.alloc ob).heap.size=w.heap.size+1:=by show (w.heap.push ob).size=_;simp
 have old: ∀k,k<w.heap.size->(w.alloc ob).heap[k]? =w.heap[k]? :=fun k hk=>by
  show (w.heap.push ob)[k]? =_
  rw [Array.getElem?_push,if_neg Za]
 refine ⟨h.os,h.tape.trans (Tp.of rfl (Nat.le_refl _)),h.output,by have:=h.size;omega,fun k hk hg=>by rw [h.old k Za hg,old k hk],fun g hg=> ?_,fun g c t hg hw=>h.shape g c t hg (by rw [old g (Array.getElem?_eq_some_iff.1 hw).1];exact hw)⟩;obtain ⟨h1,h2⟩:=h.new g hg;exact ⟨h1,h2.imp id fun h=>Za⟩
theorem AO {P:Program} {o:Oper} {a:Act} {w:World} {K:Act->World->Prop} {Q:Exit->Act->World->Prop} {t e:TypeId} {x:Operand} {n:Int} {i:TypeInfo} (ho:o.op= .buildSlice t 1 #[(0,x)]) (ht:P.underlying t=some (.slice e)) (hi:P.info? e=some i) (hz:i.zero=some (.int .u8 0)) (hs:i.size=1) (hx:a.eval x= .int .u8 n)
  (h:K (a.put o.dst (.slice (some ⟨w.heap.size,0,none⟩) 1 1)) (w.alloc (.cells #[.int .u8 n] e))):Oper.wp P o a w K Q:=by
 have h1:(sizeOf e).run P w= .ok 1 w:=ZC (by simp [Xi,hi,hs])
 have hr:(execOp a.eval o).run P w= .ok (.value (.slice (some ⟨w.heap.size,0,none⟩) 1 1)) (w.alloc (.cells #[.int .u8 n] e)):=by
  have e1:Array.range 1= #[0]:=by decide
  have hc: ∀m,(Value.int IntKind.u8 m).cells= #[Value.int IntKind.u8 m]:=fun _=>rfl;simp [execOp,ho,Instr.buildSlice,run_underlying ht,h1,zeroValue,typeInfo,hi,hz,newRow,Instr.fill,hx,e1,hc]
 unfold Oper.wp;rw [hr];exact h
theorem KN {P:Program} {w:World} {ops:Array Oper} {rest:List Oper} {o:Oper} {a:Act} {Q:Exit->Act->World->Prop} (hgd:o.guard=none) (sl x:Operand) (t:TypeId)
  (ho:o.op= .call { callee:= .builtin .append,args:= #[sl,x],argTypes:= #[t,t] }) (e:TypeId) (i:TypeInfo) (ht:P.underlying t=some (.slice e)) (hi:P.info? e=some i) (hz:i.zero=some (.int .u8 0)) (hs1:i.size=1) (hby:i.bytes=1)
  (v:Value) (n:Nat) (xs:List Value) (hs:a.eval sl=v) (hown:w.ownsRow 0 e 1 v n xs) (c:UInt8) (ad:Addr) (hx:a.eval x= .slice (some ad) 1 1) (hc:w.cell? ad=some (.int .u8 c.toNat)) (hb:n+1<=140737488355328)
  (h: ∀v' w',w'.ownsRow 0 e 1 v' (n+1) (xs++ [.int .u8 c.toNat])->Grew w w' v.ownBlock v'.ownBlock->wpList P ops Q rest (a.put o.dst v') w'):wpList P ops Q (o::rest) a w:=by
 refine wpList_plain hgd fun K hK=> ?_
 have hsrc:Src P (fun _=>False) w t (.slice (some ad) 1 1) 1 ([c].map fun b=>PV.int .u8 b.toNat) ([c].map fun b=>Value.int .u8 b.toNat):=by
  refine ⟨rfl,.inr ⟨e,ht⟩,fun w'=>by simp [Builtin.lenOf],fun w' hw=>Y0 (w:=w) Zb (fun j u hj=> ?_) w' hw,fun i y j d hi hj=> ?_⟩
  ·cases j with
   | zero=>simp at hj;subst hj;simpa [Addr.add] using hc
   | succ j=>simp at hj
  ·cases i with
   | zero =>
    simp at hi;subst hi
    cases j with
    | zero=>simp [PV.cells] at hj;subst hj;exact .int _ _
    | succ j=>simp [PV.cells] at hj
   | succ i=>simp at hi
 obtain ⟨v',w',hr,h2,h3⟩:=A3 (P:=P) (ty:=o.type) ht hi hz hs1 hby hown [c] Zb hsrc hb;unfold Oper.wp execOp;simp only [ho,resolve,invoke,builtin,Sem.run_bind,Sem.run_pure,Result.andThen_ok,List.map_toArray,List.map_cons,List.map_nil,hs,hx,hr];exact hK _ _ (h v' w' h2 h3)
end Go.AM
namespace Go.Proofs.YtmbelkfkhclnkaaGreatDoor.K
open Go Go.AM Go.Proofs Go.Shelf Go.RowKit
set_option maxRecDepth 100000
set_option maxHeartbeats 8000000
def wbR : Ren:=⟨fun | 167=>90 | n=>layJoin_ren.f n,layJoin_ren.t,layJoin_ren.g⟩
theorem dF : Lays.n167 Tryz.prog wbR:= { VI with
 f167:=Tryz.func90.trans (congrArg some Zg),
 t5:=Tryz.underlying5,a5:=Tryz.isAgg5,z5:=Tryz.sizeOf5,v5:=Tryz.zeroValue5 }
theorem bB : Builder.Extra Tryz.prog wbR:= {
 sizeBuilder:=Zg,liesBuilder:=Zg,
 t5:=Tryz.underlying5,a5:=Tryz.isAgg5,z5:=Tryz.sizeOf5,v5:=Tryz.zeroValue5,
 infoByte:=Zg,cellsByte:=Zg,sizeByte:=Zg,neB5:=by decide }
theorem Bo {P:Program} {ρ:Ren} (L:Lays.n167 P ρ) (X:Builder.Extra P ρ) {n:Nat} {p v:Value} {b:Nat} {xs:List Value} {w:World} (c:UInt8) (hbk:w.heap[b]? =some (.cells #[p,v] (ρ.t 72) (0,0))) (hp:p= .pointer none\/p= .pointer (some ⟨b,0,none⟩)) (hne:v.ownBlock≠some b)
  (hown:w.ownsRow 0 (ρ.t 5) 1 v n xs) (hb:n+1<=140737488355328) :
  Calls P (ρ.f 167) #[.pointer (some ⟨b,0,none⟩),.int .u8 c.toNat] w fun e w'=>e= .returned .nilIface /\
   ∃v' w1 w2,Turned w w1 b #[.pointer (some ⟨b,0,none⟩),v] (ρ.t 72)/\Grew w1 w2 v.ownBlock v'.ownBlock/\w2.ownsRow 0 (ρ.t 5) 1 v' (n+1) (xs++ [.int .u8 c.toNat])/\w'=w2.setCell ⟨b,1,none⟩ v':=by
 obtain ⟨i0,hi,hz0,hz1,hz2⟩:=info_parts X.infoByte;have mixed:=L.mixed;have t72:=L.t72;have a72:=L.a72;have z72:=L.z72;have v72:=L.v72;have u72:=run_underlying L.t72;have t70:=L.t70;have a70:=L.a70;have z70:=L.z70;have v70:=L.v70;have u70:=run_underlying L.t70;have t5:=L.t5;have a5:=L.a5;have z5:=L.z5;have v5:=L.v5;have u5:=run_underlying L.t5;have t37:=L.t37;have a37:=L.a37;have z37:=L.z37;have v37:=L.v37;have u37:=run_underlying L.t37;have t9:=L.t9;have a9:=L.a9;have z9:=L.z9;have v9:=L.v9;have u9:=run_underlying L.t9
 have t4:=L.t4;have a4:=L.a4;have z4:=L.z4;have v4:=L.v4;have u4:=run_underlying L.t4;have t164:=L.t164;have a164:=L.a164;have z164:=L.z164;have v164:=L.v164;have u164:=run_underlying L.t164
 have hcc:Calls P (ρ.f 240) #[.pointer (some ⟨b,0,none⟩)] w fun e w1=>e= .returned (.tuple #[])/\Turned w w1 b #[.pointer (some ⟨b,0,none⟩),v] (ρ.t 72):=by
  rcases hp with rfl | rfl
  ·refine (Any.Builder_copyCheck_fresh { L with } X.toX72 b w (by rw [Lib.cell_of_heap hbk];rfl) (by show w.shape? b=_;simp [World.shape?,hbk]) (Lib.frozen_of_heap hbk 0)).mono ?_;rintro e w' ⟨rfl,rfl⟩;exact ⟨rfl,rfl,⟨rfl,.inr trivial⟩,rfl,Nat.le_refl _,by simp [World.setCell],by simp [World.setCell,Array.getElem?_modify,hbk],fun k hk=>Below.heap_setCell _ _ _ _ (fun e=>hk (by simpa using e))⟩
  ·refine (Any.Builder_copyCheck_used { L with } X.toX72 b w (by rw [Lib.cell_of_heap hbk];rfl)).mono ?_;rintro e w' ⟨rfl,rfl⟩;exact ⟨rfl,rfl,⟨rfl,.inr trivial⟩,rfl,Nat.le_refl _,rfl,hbk,fun _ _=>rfl⟩
 have e240: ∀args w,(callFunc (ρ.f 240) args).run P w= .ok (.enter (ρ.f 240) args) w:=enters_of L.f240 Zg rfl
 go_enter L.f167,Body.n167_ntmps _
 go_wp2_with (go_at_fn (ρ.f 240);refine hcc.mono ?_)
 rintro e w1 ⟨rfl,hT⟩
 have c0:w1.cell? ⟨b,0,none⟩=some (.pointer (some ⟨b,0,none⟩)):=by rw [Lib.cell_of_heap hT.at'];rfl
 have c1:w1.cell? ⟨b,1,none⟩=some v:=by rw [Lib.cell_of_heap hT.at'];rfl
 have hblt:b<w1.heap.size:=(Array.getElem?_eq_some_iff.1 hT.at').1
 have hown1:w1.ownsRow 0 (ρ.t 5) 1 v n xs:=by
  rcases hown with ⟨o1,o2 | ⟨g,cap,cur,o2,o3,o4,o5⟩⟩
  ·exact ⟨o1,.inl o2⟩
  ·exact ⟨o1,.inr ⟨g,cap,cur,o2,o3,by rw [hT.other g (fun e=>hne (by rw [o2,e];rfl))];exact o4,o5⟩⟩
 go_wp2
 refine AO (e:=ρ.t 5) rfl L.t37 hi hz0 hz1 rfl ?_
 go_wp2_with (at_builtin;refine KN rfl _ _ _ rfl (ρ.t 5) i0 L.t37 hi hz0 hz1 hz2 v n xs rfl (hown1.alloc _) c ⟨w1.heap.size,0,none⟩ rfl Zb hb ?_)
 intro v' w2 hown' hG;have hG:=hG.afterAlloc
 have hb2:w2.heap[b]? =some (.cells #[.pointer (some ⟨b,0,none⟩),v] (ρ.t 72) (0,0)):=by
  rw [hG.old b hblt (fun e=>hne e.symm)];exact hT.at'
 have d0:w2.cell? ⟨b,0,none⟩=some (.pointer (some ⟨b,0,none⟩)):=by rw [Lib.cell_of_heap hb2];rfl
 have d1:w2.cell? ⟨b,1,none⟩=some v:=by rw [Lib.cell_of_heap hb2];rfl
 have f1:w2.frozen? ⟨b,1,none⟩=false:=Lib.frozen_of_heap hb2 1
 obtain ⟨ao,n',cap,rfl⟩: ∃ao n' cap,v'= .slice ao n' cap:=by
  rcases hown'.2 with ⟨hv,_⟩ | ⟨g,cap,cur,hv,_⟩
  ·exact ⟨_,_,_,hv⟩
  ·exact ⟨_,_,_,hv⟩
 go_wp2
 go_ret
 exact ⟨rfl,_,w1,w2,hT,hG,hown',rfl⟩
theorem DJ {H:List AM.Obj} {o r:Nat} {bs:List UInt8} (hH:H[o]? =some (.bld 77 5 r bs)) (c:UInt8) (hl:bs.length+1<=140737488355328) :
  ACalls Tryz.prog 90 [.bp o,.p (.int .u8 (c.toNat:Nat))] H fun x H'=>x= .p .nili/\H'=H.set o (.bld 77 5 r (bs++ [c])):=by
 refine ⟨cY,fun F ι w vs hr hv=> ?_⟩;obtain ⟨h1,h2⟩:=hv;have e0:=h2 0 _ rfl;have e1:=Cv (h2 1 _ rfl);obtain ⟨hor,hrd,b,go,q1,q2,p,v,w1,w2,w3,w4⟩:=hr.bldr o _ _ r bs hH
 have e0':vs.getD 0 undef= .pointer (some ⟨b,0,none⟩):=by
  generalize vs.getD 0 undef=x at e0
  cases e0 with
  | bp _ b2 T2 E2 r2 bs2 h hH2=>rw [q1] at h;simp at h;rw [h]
  | bpD _ _ h=>rw [hH] at h;cases h
 have hvs:vs= #[.pointer (some ⟨b,0,none⟩),.int .u8 c.toNat]:=by
  apply Array.ext
  ·simpa using h1
  ·intro i h3 h4
   have:i=0\/i=1:=by simp at h4;omega
   rcases this with rfl | rfl
   ·have:vs.getD 0 undef=vs[0]:=by simp [Array.getD,h3]
    rw [<- this,e0'];rfl
   ·have:vs.getD 1 undef=vs[1]:=by simp [Array.getD,h3]
    rw [<- this,e1];rfl
 subst w3
 have hne:v.ownBlock≠some b:=fun e=>by have:=hr.inj o r b q1 (by rw [q2,e]);omega
 rw [hvs];refine (Bo dF bB c w1 w2 hne w4 hl).mono ?_;rintro e w' ⟨rfl,v',wa,wb,hT,hG,ho,rfl⟩;exact ⟨_,_,_,_,rfl,⟨rfl,rfl⟩,Jr (bs':=bs++ [c]) hr hH q1 q2 w1 hT hG (by rw [List.length_append,List.map_append];exact ho) hne,.p _ _ .nili⟩
end Go.Proofs.YtmbelkfkhclnkaaGreatDoor.K
namespace Go.Proofs.YtmbelkfkhclnkaaGreatDoor.K
open Go Go.AM Go.Proofs
set_option maxRecDepth 8000
set_option maxHeartbeats 8000000
theorem MO {g:FuncId} {args:List V} {a:PV} {H:List AM.Obj} {K:V->List AM.Obj->Prop} (h:ACalls Tryz.prog g args [] fun x H'=>x= .tup [.p a,.err]/\H'= []) (k:K (.tup [.p a,.err]) H) (ha:Zw 0 args=true:=by rfl):ACalls Tryz.prog g args H K :=
 (h.behind ha H).mono fun x H' hq=>by
  obtain ⟨y,H1,⟨rfl,rfl⟩,rfl,rfl⟩:=hq;simpa [Bc,Wl] using k
theorem GR (s:List UInt8) (hs:s.length<=1048576):PT 93 [.p (.str s)] [.p (.int .i64 (Xj s).1),.p (.int .i64 (Xj s).2)]:=by
 have htl:(Zu s).length<=1048576:=by
  unfold Zu
  split
  ·rw [List.length_drop];omega
  ·omega
 have hat:=fun h0 h h1=>GQ (s:=s) h0 h h1
 have hnum:Xj s=if Zu s= []\/((nth (Zu s) 0).toNat=48/\s≠ [48]) then (0,3) else if (Zu s).all X0=false then (0,3) else Xj s:=by
  by_cases h1:Zu s= []\/((nth (Zu s) 0).toNat=48/\s≠ [48])
  ·rw [if_pos h1,Xj,if_pos h1]
  ·rw [if_neg h1]
   by_cases h2:(Zu s).all X0=false
   ·rw [if_pos h2,Xj,if_neg h1,if_pos h2]
   ·rw [if_neg h2]
 generalize Xj s=N at *
 rw [hnum];clear hnum;refine Ze [11] Tryz.func93 rfl dA ?_;simp (disch:=omega) only [Tryz.f93,go_sem,seval];refine (LY s Za).use ?_;simp (disch:=omega) only [go_sem,seval]
 generalize Zu s=d at *
 have hdl:d= []\/0<d.length:=by cases d<;>simp
 rcases hdl with he | hdl
 ·subst he;rw [if_pos (.inl rfl)];refine gF ?_ ?_<;>intro h1<;>simp (disch:=omega) only [Sh.out h1,go_sem,seval]
  ·exact we
  ·simp at h1
 ·have hne: ¬d= []:=List.length_pos_iff.1 hdl;have hb:=Bn (nth d 0);refine gF ?_ ?_<;>intro h1<;>simp (disch:=omega) only [Sh.out h1,go_sem,seval]
  ·exact absurd h1 hne
  ·refine gT ?_ ?_<;>intro h2<;>simp (disch:=omega) only [Sh.out h2,go_sem,seval]
   ·refine cD ?_ ?_<;>intro h3<;>simp (disch:=omega) only [Sh.out h3,go_sem,seval]
    ·rw [if_pos (.inr ⟨Za,h3⟩)];exact we
    ·rw [if_neg (by rintro (e | e);exact hne e;exact e.2 (by simpa using h3))];refine ZR [11] [0,4,22] (fun k:Nat=> [(23,.p (.int .i64 k))]) (fun _=> []) (fun k=>k<=d.length/\ ∀j,j<k->X0 (nth d j)=true) (fun k=>d.length-k) 0 Zb (Weak.mk ?_) ?_
     ·simp (disch:=omega) only [go_sem,seval]
     ·rintro k ⟨hk,hno⟩;simp (disch:=omega) only [go_sem,seval];refine cD ?_ ?_<;>intro h7<;>simp (disch:=omega) only [Sh.out h7,go_sem,seval]
      ·have hk2:k<d.length:=Za
       have hbk:=Bn (nth d k);have cd:PC 129 [.p (.int .u8 ((nth d k).toNat:Nat))] (.bool (X0 (nth d k))):=Bk _ Za;refine (cd).use ?_;simp (disch:=omega) only [go_sem,seval]
       cases hd:X0 (nth d k) with
       | false =>
        have XV:d.all X0=false:=List.all_eq_false.2 ⟨_,Zq hk2,by rw [hd];simp⟩;rw [if_pos XV];simp (disch:=omega) only [hd,Bool.not_false,go_sem,seval];exact we
       | true =>
        simp (disch:=omega) only [hd,Bool.not_true,Bool.false_eq_true,go_sem,seval];exact ⟨k+1,⟨Za,ZF.2 ⟨hno,hd⟩⟩,Za,wk⟩
      ·have XV:d.all X0=true:=by
        rw [List.all_eq_true];intro b hb;obtain ⟨j,hj,rfl⟩:=List.mem_iff_getElem.1 hb;rw [<- Zh hj];exact hno j Za
       rw [if_neg (by rw [XV];simp)];rcases hat hne XV (fun e=>e.2 (by simpa using h3)) with ⟨n,hn,hN⟩ | ⟨hn,hN⟩
       ·rw [hN];refine Jf (C1 s n Za hn) ?_;simp (disch:=omega) only [go_sem,seval];refine ZJ (ZJ (VA 1 rfl rfl ?_));refine ⟨_,Dt rfl Zg rfl,?_⟩;rintro _ rfl;simp (disch:=omega) only [go_sem,seval];refine Zd [] _ _ _ _ ?_;simp (disch:=omega) only [go_sem,seval];refine Zd [] _ _ _ _ ?_;simp (disch:=omega) only [go_sem,seval];exact we
       ·rw [hN];refine MO (C2 s Za hn) ?_;simp (disch:=omega) only [go_sem,seval];refine ZJ (ZJ (VA 1 rfl rfl ?_));refine ⟨_,Ds rfl Zg rfl,?_⟩;rintro _ rfl;simp (disch:=omega) only [go_sem,seval];refine Zd [] _ _ _ _ ?_;simp (disch:=omega) only [go_sem,seval];exact we
   ·rw [if_neg (by rintro (e | e);exact hne e;omega)];refine ZR [11] [0,4,22] (fun k:Nat=> [(23,.p (.int .i64 k))]) (fun _=> []) (fun k=>k<=d.length/\ ∀j,j<k->X0 (nth d j)=true) (fun k=>d.length-k) 0 Zb (Weak.mk ?_) ?_
    ·simp (disch:=omega) only [go_sem,seval]
    ·rintro k ⟨hk,hno⟩;simp (disch:=omega) only [go_sem,seval];refine cD ?_ ?_<;>intro h7<;>simp (disch:=omega) only [Sh.out h7,go_sem,seval]
     ·have hk2:k<d.length:=Za
      have hbk:=Bn (nth d k);have cd:PC 129 [.p (.int .u8 ((nth d k).toNat:Nat))] (.bool (X0 (nth d k))):=Bk _ Za;refine (cd).use ?_;simp (disch:=omega) only [go_sem,seval]
      cases hd:X0 (nth d k) with
      | false =>
       have XV:d.all X0=false:=List.all_eq_false.2 ⟨_,Zq hk2,by rw [hd];simp⟩;rw [if_pos XV];simp (disch:=omega) only [hd,Bool.not_false,go_sem,seval];exact we
      | true =>
       simp (disch:=omega) only [hd,Bool.not_true,Bool.false_eq_true,go_sem,seval];exact ⟨k+1,⟨Za,ZF.2 ⟨hno,hd⟩⟩,Za,wk⟩
     ·have XV:d.all X0=true:=by
       rw [List.all_eq_true];intro b hb;obtain ⟨j,hj,rfl⟩:=List.mem_iff_getElem.1 hb;rw [<- Zh hj];exact hno j Za
      rw [if_neg (by rw [XV];simp)];rcases hat hne XV (fun e=>Za) with ⟨n,hn,hN⟩ | ⟨hn,hN⟩
      ·rw [hN];refine Jf (C1 s n Za hn) ?_;simp (disch:=omega) only [go_sem,seval];refine ZJ (ZJ (VA 1 rfl rfl ?_));refine ⟨_,Dt rfl Zg rfl,?_⟩;rintro _ rfl;simp (disch:=omega) only [go_sem,seval];refine Zd [] _ _ _ _ ?_;simp (disch:=omega) only [go_sem,seval];refine Zd [] _ _ _ _ ?_;simp (disch:=omega) only [go_sem,seval];exact we
      ·rw [hN];refine MO (C2 s Za hn) ?_;simp (disch:=omega) only [go_sem,seval];refine ZJ (ZJ (VA 1 rfl rfl ?_));refine ⟨_,Ds rfl Zg rfl,?_⟩;rintro _ rfl;simp (disch:=omega) only [go_sem,seval];refine Zd [] _ _ _ _ ?_;simp (disch:=omega) only [go_sem,seval];exact we
@[go_sem] theorem RF (l:List (List UInt8)):U4 1 (l.map WY)=true:=Vx (f:=WY) (S:=1) (fun _=>rfl) l
def Up (s:List UInt8):Bool:=decide ((Xj s).2=0)
theorem HC {s:List UInt8} (h:Z5 s=true): ∀b∈s,Vn b=true:=by
 simp only [Z5,Bool.and_eq_true,List.all_eq_true] at h;exact h.2
theorem L7 {o:Option (List (List UInt8))} (h:Wds [] o):o=some []:=by
 generalize e:([]:List UInt8)=s at h
 cases h with
 | nil=>rfl
 | bad _ h=>exact absurd e.symm h
 | whole _ h=>exact absurd e.symm h
 | bad2 _ n _ _ h2=>subst e;simp at h2
 | cons _ n _ _ _ h2=>subst e;simp at h2
theorem Rb {α:Type} {s:List UInt8} {o:Option (List (List UInt8))} (h:Wds s o) {f:List (List UInt8)->Option α} (hf: ∀ {ws r},f ws=some r-> ∀w∈ws,Z5 w=true) (h0:f []=none):o.bind f=f (Xy s):=by
 cases hs:f (Xy s) with
 | some r=>rw [gK h (hf hs)];exact hs
 | none =>
  cases o with
  | none=>rfl
  | some ws =>
   show f ws=none
   cases hw:f ws with
   | none=>rfl
   | some r =>
    exfalso
    by_cases e:s= []
    ·subst e;rw [Option.some.inj (L7 h),h0] at hw;cases hw
    ·rw [gJ h ws rfl e (hf hw),hw] at hs;cases hs
theorem FL {s:List UInt8} (h: ¬(Yy s 10).2.2=false):(Yy s 10).2.1.length<s.length/\(Yy s 10).1.length<=s.length:=by
 have hb:=Uj 10 s
 unfold Yy at *
 split at h
 ·rename_i hh;rw [if_pos hh];simp only [List.length_drop,List.length_take];omega
 ·exact absurd rfl h
theorem It (s:List UInt8):(Yy s 10).1.length<=s.length:=by
 unfold Yy
 split
 ·simp only [List.length_take];omega
 ·exact Nat.le_refl _
theorem Jv (x y:List UInt8) (r:List (List UInt8)):Zz (x::y::r) [32]=x++32::Zz (y::r) [32]:=by
 rw [YA,YA];simp [Lib.joinTail]
theorem Em (x:List UInt8):Zz [x] [32]=x:=by rw [YA];simp [Lib.joinTail]
theorem Av (b:UInt8) (l:List UInt8) (c:UInt8):Lib.indexByte (b::l) c=if b=c then 0 else if Lib.indexByte l c= -1 then-1 else Lib.indexByte l c+1:=by
 rw [Lib.indexByte];simp
theorem Gr (c:UInt8): ∀(a r:List UInt8),c ∉ a->Lib.indexByte (a++c::r) c=a.length
 | [],r,_=>by rw [List.nil_append,Av,if_pos rfl];rfl
 | b::l,r,h=>by
  have ih:=Gr c l r fun e=>h (by simp [e]);rw [List.cons_append,Av,if_neg (fun e=>h (by simp [e])),ih,if_neg Za];simp
theorem Iu {a r:List UInt8} {c:UInt8} (h:c ∉ a):Yy (a++c::r) c=(a,r,true):=by
 have e:=Gr c a r h;rw [Yy,e,if_pos Za];simp only [Int.toNat_natCast,List.take_left];rw [show a.length+1=(a++ [c]).length by simp,show a++c::r=(a++ [c])++r by simp,List.drop_left]
theorem Db {α:Type} : ∀ {L:List (List α)} {x:List α},x∈L->x.length<=L.flatten.length
 | y::L,x,h=>by
  rw [List.flatten_cons,List.length_append];rcases List.mem_cons.1 h with rfl | h
  ·omega
  ·have:=Db h;omega
theorem Al {α:Type} : ∀ {L:List (List α)},(∀x∈L,x≠ [])->L.length<=L.flatten.length
 | [],_=>Zb
 | y::L,h=>by
  have h1:=List.length_pos_iff.2 (h y Zb);have:=Al (L:=L) fun x hx=>h x (by simp [hx]);rw [List.flatten_cons,List.length_append,List.length_cons];omega
theorem Ju : ∀(ws:List (List UInt8)),ws.length<=(Zz ws [32]).length+1
 | []=>Zb
 | [x]=>Zb
 | x::y::r=>by
  have:=Ju (y::r);rw [Jv]
  simp only [List.length_append,List.length_cons] at *
  omega
theorem AE {b:UInt8} : ∀ {ws:List (List UInt8)},b∈Zz ws [32]->b=32\/ ∃w∈ws,b∈w
 | [],h=>by simp [Zz,Lib.join_nil] at h
 | [x],h=>by rw [Em] at h;exact .inr ⟨x,Zb,h⟩
 | x::y::r,h=>by
  rw [Jv] at h;rcases List.mem_append.1 h with h | h
  ·exact .inr ⟨x,Zb,h⟩
  ·rcases List.mem_cons.1 h with h | h
   ·exact .inl h
   ·rcases AE h with h | ⟨w,hw,h⟩
    ·exact .inl h
    ·exact .inr ⟨w,by simp [List.mem_cons.1 hw],h⟩
theorem ND {w:List UInt8} (h:Z5 w=true):10 ∉ w:=fun e=>by
 have:=HC h 10 e;exact absurd this (by decide)
theorem IU {ws:List (List UInt8)} (h: ∀w∈ws,Z5 w=true):10 ∉ Zz ws [32]:=fun e=>by
 rcases AE e with e | ⟨w,hw,e⟩
 ·exact absurd e (by decide)
 ·exact ND (h w hw) e
def rowW : List UInt8:= [114,111,119]
def NR : List UInt8:= [103,111]
def Y5 : List UInt8:= [114,101,115,116]
def Ye (s:List UInt8):Int:=(Xj s).1
def KO : Row:=⟨0,⟨0,false⟩,0,⟨0,0,0,false⟩,true,[]⟩
def Hr (ws:List (List UInt8)):Bool :=
 Up (nth ws 1)&&(decide (nth ws 2= [43])||decide (nth ws 2= [45]))&&((ws.take 8).drop 3).all Up&&(decide (nth ws 8=NR)||decide (nth ws 8=Y5))&&(ws.drop 9).all Up
def Bx (ws:List (List UInt8)):Option Row :=
 if ws.length<9\/nth ws 0≠rowW then none
 else if Hr ws=true then some ⟨Ye (nth ws 1),⟨Ye (nth ws 3),decide (nth ws 2= [45])⟩,Ye (nth ws 4),⟨Ye (nth ws 5),Ye (nth ws 6),Ye (nth ws 7),decide (nth ws 8=Y5)⟩,false,(ws.drop 9).map Ye⟩
 else none
def Hs (o:Option Row):V:=match o with
 | some r=> .tup [.p (Xu r),.p (.bool true)]
 | none=> .tup [.p (Xu KO),.p (.bool false)]
def Jb : Nat->Int->List Row->List UInt8->(Bool×List Row)×Int×Int
 | 0,n,_,_=>((true,[]),n,3)
 | f+1,n,rs,s=>if s= [] then ((false,rs),0,0) else if (Yy s 10).2.2=false then ((true,[]),n,3) else match Bx (Xy (Yy s 10).1) with
  | none=>((true,[]),n,3)
  | some r=>Jb f (n+1) (rs++ [r]) (Yy s 10).2.1
def AV (q:(Bool×List Row)×Int×Int):V:= .tup [.p (.list q.1.1 (q.1.2.map Xu)),.p (.int .i64 q.2.1),.p (.int .i64 q.2.2)]
theorem Pr {ws:List (List UInt8)} (h: ¬ws.length<9): ∃a b c d e f g i j t,ws=a::b::c::d::e::f::g::i::j::t:=by
 match ws,h with
 | [],h=>exact absurd (by decide) h
 | [_],h=>exact absurd Zb h
 | [_,_],h=>exact absurd Zb h
 | [_,_,_],h=>exact absurd Zb h
 | [_,_,_,_],h=>exact absurd Zb h
 | [_,_,_,_,_],h=>exact absurd Zb h
 | [_,_,_,_,_,_],h=>exact absurd Zb h
 | [_,_,_,_,_,_,_],h=>exact absurd Zb h
 | [_,_,_,_,_,_,_,_],h=>exact absurd Zb h
 | a::b::c::d::e::f::g::i::j::t,_=>exact ⟨a,b,c,d,e,f,g,i,j,t,rfl⟩
theorem Lc {w:List UInt8} :Up w=true↔(Xj w).2=0:=by simp [Up]
theorem A5 {a b c d e f g i j:List UInt8} {t:List (List UInt8)} :Hr (a::b::c::d::e::f::g::i::j::t)=true ↔
  (Xj b).2=0/\(c= [43]\/c= [45])/\((Xj d).2=0/\(Xj e).2=0/\(Xj f).2=0/\(Xj g).2=0/\(Xj i).2=0)/\(j=NR\/j=Y5)/\ ∀w∈t,(Xj w).2=0:=by
 show (Up b&&(decide (c= [43])||decide (c= [45]))&& [d,e,f,g,i].all Up&&(decide (j=NR)||decide (j=Y5))&&t.all Up)=true↔_
 simp only [Bool.and_eq_true,Bool.or_eq_true,decide_eq_true_eq,List.all_eq_true,Lc,List.mem_cons,List.not_mem_nil,or_false,forall_eq_or_imp,forall_eq]
 constructor
 ·rintro ⟨⟨⟨⟨h1,h2⟩,h3⟩,h4⟩,h5⟩;exact ⟨h1,h2,h3,h4,h5⟩
 ·rintro ⟨h1,h2,h3,h4,h5⟩;exact ⟨⟨⟨⟨h1,h2⟩,h3⟩,h4⟩,h5⟩
theorem MK {a b c d e f g i j:List UInt8} {t:List (List UInt8)} :Bx (a::b::c::d::e::f::g::i::j::t) =
  if a=rowW/\Hr (a::b::c::d::e::f::g::i::j::t)=true then some ⟨Ye b,⟨Ye d,decide (c= [45])⟩,Ye e,⟨Ye f,Ye g,Ye i,decide (j=Y5)⟩,false,t.map Ye⟩ else none:=by
 unfold Bx
 by_cases h:a=rowW
 ·rw [if_neg (by rintro (e | e);simp at e;omega;exact e h)]
  by_cases h2:Hr (a::b::c::d::e::f::g::i::j::t)=true
  ·rw [if_pos h2,if_pos ⟨h,h2⟩];rfl
  ·rw [if_neg h2,if_neg fun e=>h2 e.2]
 ·rw [if_pos (.inr h),if_neg fun e=>h e.1]
theorem Lz {ws:List (List UInt8)} {r:Row} (h:Bx ws=some r): ∃b c d e f g i j t,ws=rowW::b::c::d::e::f::g::i::j::t /\
  ((Xj b).2=0/\(c= [43]\/c= [45])/\((Xj d).2=0/\(Xj e).2=0/\(Xj f).2=0/\(Xj g).2=0/\(Xj i).2=0)/\(j=NR\/j=Y5)/\ ∀w∈t,(Xj w).2=0) /\
  r=⟨Ye b,⟨Ye d,decide (c= [45])⟩,Ye e,⟨Ye f,Ye g,Ye i,decide (j=Y5)⟩,false,t.map Ye⟩:=by
 have hl: ¬ws.length<9:=fun e=>by rw [Bx,if_pos (.inl e)] at h;cases h
 obtain ⟨a,b,c,d,e,f,g,i,j,t,rfl⟩:=Pr hl;rw [MK] at h
 split at h
 ·rename_i h1;obtain ⟨rfl,h1⟩:=h1;exact ⟨b,c,d,e,f,g,i,j,t,rfl,A5.1 h1,(Option.some.inj h).symm⟩
 ·cases h
theorem A6 {ws:List (List UInt8)} {r:Row} (h:Bx ws=some r): ∀w∈ws,Z5 w=true:=by
 obtain ⟨b,c,d,e,f,g,i,j,t,rfl,⟨h1,h2,⟨h3,h4,h5,h6,h7⟩,h8,h9⟩,_⟩:=Lz h;intro w hw;simp only [List.mem_cons] at hw;rcases hw with rfl | rfl | rfl | rfl | rfl | rfl | rfl | rfl | rfl | hw
 ·decide
 ·exact YC h1
 ·rcases h2 with rfl | rfl<;>decide
 ·exact YC h3
 ·exact YC h4
 ·exact YC h5
 ·exact YC h6
 ·exact YC h7
 ·rcases h8 with rfl | rfl<;>decide
 ·exact YC (h9 w hw)
def By (r:Row):Prop:=okD r.rt/\(∀n∈rowNs r,okD n)/\ ∀n∈r.load,okD n
theorem JS (r:Row):ZV r r.load.length= [rowW,decS r.rt,(if r.v.drp=true then [45] else [43]),decS r.v.order,decS r.place,decS r.tm.arr,decS r.tm.beg,decS r.tm.dep,XR r]++r.load.map decS:=by
 rw [ZV,List.take_length];rfl
def Kv (r:Row):Row:=⟨r.rt,r.v,r.place,r.tm,false,r.load⟩
theorem Ly {r:Row} (h:By r):Bx (ZV r r.load.length)=some (Kv r):=by
 obtain ⟨h1,h2,h3⟩:=h;have num: ∀n,okD n->Xj (decS n)=(n,0):=fun n h=>I9 h;have e1:=num _ h1;have e2:=num _ (h2 r.v.order (by simp [rowNs]));have e3:=num _ (h2 r.place (by simp [rowNs]));have e4:=num _ (h2 r.tm.arr (by simp [rowNs]));have e5:=num _ (h2 r.tm.beg (by simp [rowNs]));have e6:=num _ (h2 r.tm.dep (by simp [rowNs]))
 have el:(r.load.map decS).map Ye=r.load:=by
  rw [List.map_map]
  have: ∀w∈r.load,(Ye∘decS) w=id w:=fun w hw=>by
   show (Xj (decS w)).1=w
   rw [num w (h3 w hw)]
  rw [List.map_congr_left this,List.map_id]
 have ok:Hr (rowW::decS r.rt::(if r.v.drp=true then [45] else [43])::decS r.v.order::decS r.place::decS r.tm.arr::decS r.tm.beg::decS r.tm.dep::XR r::r.load.map decS)=true:=by
  refine A5.2 ⟨by rw [e1],?_,⟨by rw [e2],by rw [e3],by rw [e4],by rw [e5],by rw [e6]⟩,?_,fun w hw=> ?_⟩
  ·split
   ·exact .inr rfl
   ·exact .inl rfl
  ·unfold XR
   split
   ·exact .inr rfl
   ·exact .inl rfl
  ·obtain ⟨n,hn,rfl⟩:=List.mem_map.1 hw;rw [num n (h3 n hn)]
 rw [JS]
 show Bx (rowW::decS r.rt::(if r.v.drp=true then [45] else [43])::decS r.v.order::decS r.place::decS r.tm.arr::decS r.tm.beg::decS r.tm.dep::XR r::r.load.map decS)=_
 rw [MK,if_pos ⟨rfl,ok⟩,el];unfold Ye;rw [e1,e2,e3,e4,e5,e6]
 have d1:decide ((if r.v.drp=true then ([45]:List UInt8) else [43])= [45])=r.v.drp:=by
  cases r.v.drp<;>rfl
 have d2:decide (XR r=Y5)=r.tm.rest:=by
  unfold XR
  cases r.tm.rest<;>rfl
 rw [d1,d2];rfl
theorem Gw (r:Row):ZY r=Zz (ZV r r.load.length) [32]++ [10]:=rfl
theorem Gx (r:Row):r.load.length<=(ZY r).length:=by
 have h1:=Ju (ZV r r.load.length);rw [Y6 (Nat.le_refl _)] at h1;rw [Gw,List.length_append];simp only [List.length_cons,List.length_nil];omega
theorem PE (l:List Row):l.length<=(JK l).length/\ ∀r∈l,r.load.length<=(JK l).length:=by
 have h1:=Al (L:=l.map ZY) fun x hx=>by
  obtain ⟨r,_,rfl⟩:=List.mem_map.1 hx;simp [ZY]
 rw [List.length_map] at h1;refine ⟨h1,fun r hr=> ?_⟩;have h3:=Db (List.mem_map_of_mem (f:=ZY) hr);have h4:=Gx r;rw [JK];omega
theorem JI : ∀(f:Nat) (l rs:List Row) (n:Int),l.length<f->(∀r∈l,By r)->Jb f n rs (JK l)=((false,rs++l.map Kv),0,0)
 | 0,l,rs,n,h,_=>Za
 | f+1,[],rs,n,_,_=>by
  show Jb (f+1) n rs []=_
  rw [Jb,if_pos rfl];simp
 | f+1,r::l,rs,n,h,hr=>by
  have hl:=Ly (hr r Zb);have h1:=A6 hl;have h2:10 ∉ Zz (ZV r r.load.length) [32]:=IU h1;have h3:Xy (Zz (ZV r r.load.length) [32])=ZV r r.load.length:=Bg _ (by intro e;have:=Y6 (r:=r) (Nat.le_refl _);rw [e] at this;simp only [List.length_nil] at this;omega) fun w hw=>FI (h1 w hw);have h4:Yy (Zz (ZV r r.load.length) [32]++10::JK l) 10=(Zz (ZV r r.load.length) [32],JK l,true):=Iu h2;have ih:=JI f l (rs++ [Kv r]) (n+1) (by simp at h;omega) fun q hq=>hr q (by simp [hq])
  have e:JK (r::l)=Zz (ZV r r.load.length) [32]++10::JK l:=by
   rw [JK,List.map_cons,List.flatten_cons,ZY,List.append_assoc];rfl
  rw [e,Jb,if_neg Zb,h4];simp only;rw [if_neg Zb,h3,hl];simp only;rw [ih];simp
theorem Ln {l:List Row} (h: ∀r∈l,By r):Jb ((JK l).length+1) 1 [] (JK l)=((false,l.map Kv),0,0):=by
 rw [JI _ l [] 1 (by have:=(PE l).1;omega) h];rfl
theorem PF {l:List Row} (h1:l.length<=20) (h2: ∀r∈l,By r/\r.load.length<=10):(JK l).length<=65536:=by
 have hline: ∀r∈l,(ZY r).length<=400:=fun r hr=>by
  obtain ⟨⟨n1,n2,n3⟩,hv⟩:=h2 r hr
  have:=Jt (sep:= [32]) (B:=20) (xs:=ZV r r.load.length) fun s hs=>by
   simp only [ZV,YL,AX,List.append_assoc,List.mem_append,List.mem_cons,List.not_mem_nil,or_false,List.mem_map] at hs;rcases hs with (rfl | rfl | rfl) | ⟨n,hn,rfl⟩ | rfl | ⟨n,hn,rfl⟩
   ·simp
   ·have:=YY n1;omega
   ·split<;>simp
   ·have:=YY (n2 n (List.mem_of_mem_take hn));omega
   ·rw [XR];split<;>simp
   ·have:=YY (n3 n (List.mem_of_mem_take hn));omega
  rw [Y6 (Nat.le_refl _)] at this;rw [ZY,List.length_append]
  simp only [List.length_cons,List.length_nil] at *
  omega
 have hfl: ∀L:List Row,(∀r∈L,(ZY r).length<=400)->((L.map ZY).flatten).length<=L.length*400:=fun L=>by
  induction L with
  | nil=>intro _;simp
  | cons r L ih =>
   intro h;have i1:=ih fun q hq=>h q (by simp [hq]);have i2:=h r Zb;rw [List.map_cons,List.flatten_cons,List.length_append,List.length_cons];omega
 have hf:=hfl l hline;rw [JK];omega
theorem Iz {s:List UInt8} {m i:Nat} (h1:m<=i) (h2:i<s.length):s.drop m=(s.take i).drop m++nth s i::s.drop (i+1):=by
 have h3:s.drop i=nth s i::s.drop (i+1):=by rw [List.drop_eq_getElem_cons h2,Zh h2]
 rw [<- h3,<- List.drop_append_of_le_length (by rw [List.length_take];omega),List.take_append_drop]
theorem GL {s:List UInt8} {m i:Nat} {c:UInt8} (h2:i<=s.length) (hno: ∀j,m<=j->j<i->nth s j≠c):c ∉ (s.take i).drop m:=fun h=>by
 obtain ⟨j,hj,e⟩:=List.mem_iff_getElem.1 h;rw [List.length_drop,List.length_take] at hj;rw [List.getElem_drop,List.getElem_take] at e;have:=hno (m+j) Za Za;rw [Zh Za] at this;exact this e
theorem PX {s:List UInt8} {m i:Nat} (h1:m<=i) (h2:i<s.length) (hno: ∀j,m<=j->j<i->nth s j≠32) (h:nth s i=32):Xy (s.drop m)=(s.take i).drop m::Xy (s.drop (i+1)):=by
 have hn:=GL (c:=32) (Nat.le_of_lt h2) hno;rw [Iz h1 h2,h,X8,B3 _ _ hn,if_neg Zb];rw [List.take_left,show ((s.take i).drop m).length+1=((s.take i).drop m++ [32]).length by simp,show (s.take i).drop m++32::s.drop (i+1)=((s.take i).drop m++ [32])++s.drop (i+1) by simp,List.drop_left]
theorem LM {s:List UInt8} {m:Nat} (hno: ∀j,m<=j->j<s.length->nth s j≠32):Xy (s.drop m)= [s.drop m]:=by
 have hn:=GL (c:=32) (Nat.le_refl _) hno;rw [List.take_length] at hn;rw [X8,UR _ hn,if_pos rfl]
theorem Yj : ∀(n:Nat) (s:List UInt8),s.length<=n->(Xy s).length<=s.length+1/\ ∀w∈Xy s,w.length<=s.length
 | n,s,hn=>by
  rw [X8]
  split
  ·refine ⟨Zb,fun w hw=> ?_⟩;simp only [List.mem_cons,List.not_mem_nil,or_false] at hw;subst hw;omega
  ·rename_i h;have hle:=Qr s
   cases n with
   | zero=>omega
   | succ n =>
    have ih:=Yj n (s.drop (W8 s+1)) (by rw [List.length_drop];omega);rw [List.length_drop] at ih;refine ⟨by rw [List.length_cons];omega,fun w hw=> ?_⟩;rcases List.mem_cons.1 hw with rfl | hw
    ·rw [List.length_take];omega
    ·have:=ih.2 w hw;omega
set_option maxRecDepth 60000
def Cb (l:List (List UInt8)):(Bool×List Int)×Bool:=if l.all Up=true then ((false,l.map Ye),true) else ((true,[]),false)
theorem Uo (r:List (List UInt8)) (c:Bool) (hl:r.length<=1048576) (hwd: ∀s∈r,s.length<=1048576):PT 78 [.p (.list c (r.map WY))] [.p (.list (Cb r).1.1 ((Cb r).1.2.map eI)),.p (.bool (Cb r).2)]:=by
 refine Ze [10] Tryz.func78 rfl cV ?_;simp (disch:=omega) only [Tryz.f78,go_sem,seval];unfold Cb;refine ZR [10] [9,10] (fun k:Nat=> [(4,.sl 0 0 k k),(11,.p (.int .i64 k))]) (fun k=> [.elems 1 (((r.take k).map Ye).map eI)]) (fun k=>k<=r.length/\ ∀j,j<k->Up (nth r j)=true) (fun k=>r.length-k) 0 Zb (Weak.ofNil 4 1 rfl Zb (Weak.mk ?_)) ?_
 ·simp (disch:=omega) only [List.take_zero,List.map_nil,go_sem,seval]
 ·rintro k ⟨hk,hno⟩;simp (disch:=omega) only [go_sem,seval];refine cD ?_ ?_<;>intro h3<;>simp (disch:=omega) only [Sh.out h3,go_sem,seval]
  ·have hk2:k<r.length:=Za
   have h18:=hwd _ (Zq hk2)
   have hkl:(r.take k).length=k:=by simp;omega
   have hnx:((r.take (k+1)).map Ye).map eI=((r.take k).map Ye).map eI++ [.int .i64 (Xj (nth r k)).1]:=by
    rw [List.take_succ_eq_append_getElem hk2,List.map_append,List.map_append,Zh hk2];rfl
   refine Jf (GR (nth r k) h18) ?_;simp (disch:=omega) only [go_sem,seval];refine cD ?_ ?_<;>intro h4<;>simp (disch:=omega) only [Sh.out h4,go_sem,seval]
   ·have hb: ¬r.all Up=true:=fun e=>by
     rw [List.all_eq_true] at e;have:=e _ (Zq hk2);simp only [Up,decide_eq_true_eq] at this;exact h4 this
    rw [if_neg hb];exact we (by simp (disch:=omega) only [List.map_nil,go_sem,seval])
   ·rw [if_pos ⟨hkl,Za,Za⟩];simp (disch:=omega) only [go_sem,seval];exact ⟨k+1,⟨Za,ZF.2 ⟨hno,by simp only [Up,decide_eq_true_eq];omega⟩⟩,Za,Weak.mk (by simp (disch:=omega) only [hnx,hkl,go_sem,seval])⟩
  ·have hkl:k=r.length:=Za
   subst hkl
   have XV:r.all Up=true:=by
    rw [List.all_eq_true];intro b hb;obtain ⟨j,hj,rfl⟩:=List.mem_iff_getElem.1 hb;rw [<- Zh hj];exact hno j hj
   rw [if_pos XV,List.take_length];refine Zp (Weak.fz (o:=0) (by rfl)) ?_;refine Zd [] _ _ _ _ ?_;simp (disch:=omega) only [List.map_cons,List.map_nil,List.set_cons_succ,List.set_cons_zero,go_sem,seval];exact we
theorem QC (l:List (List UInt8)): ∃f L,Cb l=((f,L),l.all Up)/\(l.all Up=true->f=false/\L=l.map Ye):=by
 unfold Cb
 cases l.all Up with
 | true=>exact ⟨_,_,rfl,fun _=>⟨rfl,rfl⟩⟩
 | false=>exact ⟨_,_,rfl,fun h=>by cases h⟩
theorem GP (w:List UInt8): ∃f L,Cb [w]=((f,L),Up w)/\(Up w=true->f=false/\L= [Ye w]):=by
 have h:=QC [w];rwa [show [w].all Up=Up w by simp] at h
theorem Ab (s no yes:List UInt8):PT 79 [.p (.str s),.p (.str no),.p (.str yes)] [.p (.bool (decide (s=yes))),.p (.bool (decide (s=no)||decide (s=yes)))]:=by
 refine Ze [] Tryz.func79 rfl cW ?_;simp (disch:=omega) only [Tryz.f79,go_sem,seval]
 by_cases h:s=no
 ·simp (disch:=omega) only [h,decide_true,eq_self,Bool.true_or,go_sem,seval];exact we
 ·simp (disch:=omega) only [h,decide_false,Bool.false_or,go_sem,seval];exact we
theorem nK {ws:List (List UInt8)} (h: ¬ws.length<9):(ws.take 2).drop 1= [nth ws 1]:=by
 obtain ⟨a,b,c,d,e,f,g,i,j,t,rfl⟩:=Pr h
 rfl
theorem eT {ws:List (List UInt8)} (h: ¬ws.length<9):(ws.take 8).drop 3= [nth ws 3,nth ws 4,nth ws 5,nth ws 6,nth ws 7]:=by
 obtain ⟨a,b,c,d,e,f,g,i,j,t,rfl⟩:=Pr h
 rfl
theorem PN {ws:List (List UInt8)} (h: ¬ws.length<9) (h0:nth ws 0=rowW):Bx ws=if Up (nth ws 1)&&(decide (nth ws 2= [43])||decide (nth ws 2= [45]))&&([nth ws 3,nth ws 4,nth ws 5,nth ws 6,nth ws 7]).all Up&&(decide (nth ws 8=NR)||decide (nth ws 8=Y5))&&(ws.drop 9).all Up then some ⟨Ye (nth ws 1),⟨Ye (nth ws 3),decide (nth ws 2= [45])⟩,Ye (nth ws 4),⟨Ye (nth ws 5),Ye (nth ws 6),Ye (nth ws 7),decide (nth ws 8=Y5)⟩,false,(ws.drop 9).map Ye⟩ else none:=by
 rw [Bx,if_neg (by rintro (e | e);exact h e;exact e h0),<- eT h];rfl
theorem Po (s:List UInt8) (hs:s.length<=65536):ACalls Tryz.prog 35 [.p (.str s)] [] fun y H'=>y=Hs (Bx (Xy s))/\H'= []:=by
 refine Ze [] Tryz.func35 rfl cH ?_;simp (disch:=omega) only [Tryz.f35,go_sem,seval];refine qB (HD s Za) fun o hw=> ?_;have hr:=Rb hw (fun h=>A6 h) (f:=Bx) (by rw [Bx,if_pos (.inl (by decide))]);rw [<- hr]
 cases o with
 | none =>
  simp (disch:=omega) only [WZ,Option.bind_none,go_sem,seval];exact we (by simp (disch:=omega) only [Hs,KO,List.map_nil,go_sem,seval])
 | some ws =>
  obtain ⟨hwl,hwm⟩:=L6 hw ws rfl;rw [Option.bind_some];clear hr hw;simp (disch:=omega) only [WZ,go_sem,seval];refine gF ?_ ?_<;>intro h1<;>simp (disch:=omega) only [Sh.out h1,go_sem,seval]
  ·rw [Bx,if_pos (.inl Za)];exact we (by simp (disch:=omega) only [Hs,KO,List.map_nil,go_sem,seval])
  ·have h9: ¬ws.length<9:=Za
   refine cD ?_ ?_<;>intro h2<;>simp (disch:=omega) only [Sh.out h2,go_sem,seval]
   ·rw [Bx,if_pos (.inr h2)];exact we (by simp (disch:=omega) only [Hs,KO,List.map_nil,go_sem,seval])
   ·have h0:nth ws 0=rowW:=by simpa [rowW] using h2
    rw [PN h9 h0]
    have hb: ∀k,k<ws.length->(nth ws k).length<=1048576:=fun k hk=>by have:=hwm _ (Zq hk);omega
    have e1:=nK h9;have e2:=eT h9;have n1:=Uo [nth ws 1] false Zb (fun w hw=>by simp at hw;subst hw;exact hb 1 Za)
    have n2:=Uo [nth ws 3,nth ws 4,nth ws 5,nth ws 6,nth ws 7] false Zb (fun w hw=>by
     simp only [List.mem_cons,List.not_mem_nil,or_false] at hw
     rcases hw with rfl | rfl | rfl | rfl | rfl<;>exact hb _ Za)
    have n3:=Uo (ws.drop 9) false (by rw [List.length_drop];omega) (fun w hw=>by have:=hwm w (List.mem_of_mem_drop hw);omega);have c1:=Ab (nth ws 2) [43] [45];have c2:=Ab (nth ws 8) NR Y5;obtain ⟨f1,L1,q1,g1⟩:=GP (nth ws 1);obtain ⟨f2,L2,q2,g2⟩:=QC [nth ws 3,nth ws 4,nth ws 5,nth ws 6,nth ws 7];obtain ⟨f3,L3,q3,g3⟩:=QC (ws.drop 9);rw [q1] at n1;rw [q2] at n2;rw [q3] at n3;generalize Up (nth ws 1)=b1 at n1 g1 ⊢;generalize [nth ws 3,nth ws 4,nth ws 5,nth ws 6,nth ws 7].all Up=b3 at n2 g2 ⊢;generalize (ws.drop 9).all Up=b5 at n3 g3 ⊢
    generalize (decide (nth ws 2= [43])||decide (nth ws 2= [45]))=b2 at c1 ⊢;generalize decide (nth ws 2= [45])=d2 at c1 ⊢;generalize (decide (nth ws 8=NR)||decide (nth ws 8=Y5))=b4 at c2 ⊢;generalize decide (nth ws 8=Y5)=d4 at c2 ⊢;generalize hL3:(ws.drop 9).map Ye=N3 at g3 ⊢;have hg2: [nth ws 3,nth ws 4,nth ws 5,nth ws 6,nth ws 7].map Ye= [Ye (nth ws 3),Ye (nth ws 4),Ye (nth ws 5),Ye (nth ws 6),Ye (nth ws 7)]:=rfl;rw [hg2] at g2;generalize Ye (nth ws 1)=x1 at g1 ⊢;generalize Ye (nth ws 3)=x3 at g2 ⊢;generalize Ye (nth ws 4)=x4 at g2 ⊢
    generalize Ye (nth ws 5)=x5 at g2 ⊢;generalize Ye (nth ws 6)=x6 at g2 ⊢;generalize Ye (nth ws 7)=x7 at g2 ⊢
    try rw [e1]
    refine Jf n1 ?_;simp (disch:=omega) only [go_sem,seval];refine Jf c1 ?_;simp (disch:=omega) only [go_sem,seval]
    try rw [e2]
    refine Jf n2 ?_;simp (disch:=omega) only [go_sem,seval];refine Jf c2 ?_;simp (disch:=omega) only [go_sem,seval];rw [List.take_length];refine Jf n3 ?_;simp (disch:=omega) only [go_sem,seval]
    cases b1 with
    | false =>
     rw [if_neg Zb];simp (disch:=omega) only [Bool.not_false,go_sem,seval];exact we (by simp (disch:=omega) only [Hs,KO,List.map_nil,go_sem,seval])
    | true =>
     cases b2 with
     | false =>
      rw [if_neg Zb];simp (disch:=omega) only [Bool.not_false,Bool.not_true,go_sem,seval];exact we (by simp (disch:=omega) only [Hs,KO,List.map_nil,go_sem,seval])
     | true =>
      cases b3 with
      | false =>
       rw [if_neg Zb];simp (disch:=omega) only [Bool.not_false,Bool.not_true,go_sem,seval];exact we (by simp (disch:=omega) only [Hs,KO,List.map_nil,go_sem,seval])
      | true =>
       cases b4 with
       | false =>
        rw [if_neg Zb];simp (disch:=omega) only [Bool.not_false,Bool.not_true,go_sem,seval];exact we (by simp (disch:=omega) only [Hs,KO,List.map_nil,go_sem,seval])
       | true =>
        cases b5 with
        | false =>
         rw [if_neg Zb];simp (disch:=omega) only [Bool.not_false,Bool.not_true,go_sem,seval];exact we (by simp (disch:=omega) only [Hs,KO,List.map_nil,go_sem,seval])
        | true =>
         obtain ⟨rfl,k1⟩:=g1 rfl;obtain ⟨rfl,k2⟩:=g2 rfl;obtain ⟨rfl,rfl⟩:=g3 rfl
         have l1:L1.length=1:=by rw [k1];rfl
         have l2:L2.length=5:=by rw [k2];rfl
         have v1:nth L1 0=x1:=by rw [k1];rfl
         have v3:nth L2 0=x3:=by rw [k2];rfl
         have v4:nth L2 1=x4:=by rw [k2];rfl
         have v5:nth L2 2=x5:=by rw [k2];rfl
         have v6:nth L2 3=x6:=by rw [k2];rfl
         have v7:nth L2 4=x7:=by rw [k2];rfl
         rw [if_pos (show (true&&true&&true&&true&&true)=true from rfl)];simp (disch:=omega) only [Bool.not_true,go_sem,seval];refine XC 23 mixed Zg Zg ?_;simp (disch:=omega) only [l1,l2,v1,v3,v4,v5,v6,v7,go_sem,seval];exact we (by simp (disch:=omega) only [Hs,go_sem,seval])
theorem Gy (s:List UInt8) (hs:s.length<=65536):ACalls Tryz.prog 10 [.p (.str s)] [] fun y H'=>y=AV (Jb (s.length+1) 1 [] s)/\H'= []:=by
 obtain ⟨Z,hZ⟩: ∃Z,Z=Jb (s.length+1) 1 [] s:=⟨_,rfl⟩;rw [<- hZ];refine Ze [13] Tryz.func10 rfl bS ?_;simp (disch:=omega) only [Tryz.f10,go_sem,seval];refine cD ?_ ?_<;>intro h0<;>simp (disch:=omega) only [Sh.out h0,go_sem,seval]
 ·omega
 ·refine ZR [13] [] (fun q:List UInt8×List Row=> [(0,.p (.str q.1)),(5,.sl 0 0 q.2.length q.2.length),(6,.p (.int .i64 ((q.2.length:Int)+1)))])
   (fun q=> [.elems 9 (q.2.map Xu)])
   (fun q=>q.2.length+q.1.length<=s.length/\Z=Jb (s.length+1-q.2.length) ((q.2.length:Int)+1) q.2 q.1) (fun q=>q.1.length) (s,[]) ⟨Zb,by simpa using hZ⟩ (Weak.ofNil 5 9 rfl Zb (Weak.mk ?_)) ?_
  ·simp (disch:=omega) only [List.map_nil,List.length_nil,go_sem,seval]
  ·rintro ⟨t,rs⟩ ⟨h1,h5⟩;simp only at h1 h5;rw [h5];obtain ⟨f,hf⟩: ∃f,s.length+1-rs.length=f+1:=⟨s.length-rs.length,Za⟩;rw [hf] at h5 ⊢;have hcl:= @FL t;have hle:=It t;rw [Jb] at h5 ⊢;simp (disch:=omega) only [go_sem,seval]
   have htl:t= []\/0<t.length:=by cases t<;>simp
   rcases htl with he | htl
   ·subst he;refine cD ?_ ?_<;>intro h6<;>simp (disch:=omega) only [Sh.out h6,go_sem,seval]
    ·simp at h6
    ·refine Zp (Weak.fz (o:=0) (by rfl)) ?_;refine Zd [] _ _ _ _ ?_;simp (disch:=omega) only [List.map_cons,List.map_nil,List.set_cons_succ,List.set_cons_zero,go_sem,seval];exact we (by simp (disch:=omega) only [AV,go_sem,seval])
   ·have hne: ¬t= []:=List.length_pos_iff.1 htl;rw [if_neg hne] at h5 ⊢;refine cD ?_ ?_<;>intro h6<;>simp (disch:=omega) only [Sh.out h6,go_sem,seval]
    ·refine QX (aW t 10 Za) ?_;simp (disch:=omega) only [go_sem,seval];have cr:=Po (Yy t 10).1 Za
     generalize (Yy t 10).1=c1 at *
     generalize (Yy t 10).2.1=c2 at *
     generalize (Yy t 10).2.2=c3 at *
     unfold Hs at cr
     cases hr:Bx (Xy c1) with
     | none =>
      rw [hr] at cr;simp only
      have e3:(if c3=false then ((true,([]:List Row)),(rs.length:Int)+1,(3:Int)) else ((true,[]),(rs.length:Int)+1,3))=((true,[]),(rs.length:Int)+1,3):=by split<;>rfl
      rw [e3];refine Jf cr ?_
      cases c3
      all_goals
       simp (disch:=omega) only [Bool.not_false,Bool.not_true,go_sem,seval];exact we (by simp (disch:=omega) only [AV,List.map_nil,go_sem,seval])
     | some r =>
      rw [hr] at cr h5;simp only at h5 ⊢;refine Jf cr ?_
      cases c3 with
      | false =>
       rw [if_pos rfl];simp (disch:=omega) only [Bool.not_false,go_sem,seval];exact we (by simp (disch:=omega) only [AV,List.map_nil,go_sem,seval])
      | true =>
       rw [if_neg Zb] at h5 ⊢;have hlt:=(hcl Zb).1;simp (disch:=omega) only [Bool.not_true,go_sem,seval]
       exact ⟨(c2,rs++ [r]),⟨by simp;omega,by
        simp only [List.length_append,List.length_cons,List.length_nil]
        rw [show s.length+1-(rs.length+(0+1))=f by omega,show (((rs.length+(0+1):Nat):Int)+1)=(rs.length:Int)+1+1 by omega]⟩,by first | omega | (simp only;omega) | simp only,Weak.mk (by simp (disch:=omega) only [List.length_append,List.length_cons,List.length_nil,List.map_append,List.map_cons,List.map_nil,go_sem,seval])⟩
    ·exact absurd hne (by simpa using h6)
theorem Tr (s:List UInt8) (hs:s.length<=1048576):PC 80 [.p (.str s)] (.list false ((Xy s).map WY)):=by
 refine Ze [9] Tryz.func80 rfl cX ?_;simp (disch:=omega) only [Tryz.f80,go_sem,seval]
 refine ZR [9] [0] (fun q:Nat×Nat×List (List UInt8)=> [(3,.sl 0 0 q.2.2.length q.2.2.length),(4,.p (.int .i64 q.2.1)),(5,.p (.int .i64 q.1))]) (fun q=> [.elems 1 (q.2.2.map WY)])
  (fun q=>q.2.2.length<=q.1/\((q.1<=s.length/\q.2.1<=q.1/\(∀j,q.2.1<=j->j<q.1->nth s j≠32)/\Xy s=q.2.2++Xy (s.drop q.2.1))\/(q.1=s.length+1/\Xy s=q.2.2))) (fun q=>s.length+1-q.1) (0,0,[]) ⟨Zb,.inl ⟨Zb,Zb,fun j a b=>by simp at b,Zb⟩⟩ (Weak.ofNil 3 1 rfl Zb (Weak.mk ?_)) ?_
 ·simp (disch:=omega) only [List.map_nil,List.length_nil,go_sem,seval]
 ·rintro ⟨i,m,o⟩ ⟨hol,hi⟩;simp only at hol hi;simp (disch:=omega) only [go_sem,seval];refine cD ?_ ?_<;>intro h1<;>simp (disch:=omega) only [Sh.out h1,go_sem,seval]
  ·rcases hi with ⟨hi1,hi2,hno,he⟩ | ⟨hi1,_⟩
   ·refine gF ?_ ?_<;>intro h2<;>simp (disch:=omega) only [Sh.out h2,go_sem,seval]
    ·have his:i=s.length:=Za
     subst his;have hsp:=LM hno;refine ⟨(s.length+1,s.length+1,o++ [s.drop m]),⟨by simp;omega,.inr ⟨rfl,by rw [he,hsp]⟩⟩,Zb,Weak.mk ?_⟩;simp (disch:=omega) only [List.take_length,List.map_append,List.map_cons,List.map_nil,List.length_append,List.length_cons,List.length_nil,go_sem,seval]
    ·have hi3:i<s.length:=Za
     refine cD ?_ ?_<;>intro h3<;>simp (disch:=omega) only [Sh.out h3,go_sem,seval]
     ·have h3':nth s i=32:=UInt8.toNat_inj.1 (by show (nth s i).toNat=32;omega);have hsp:=PX hi2 hi3 hno h3';refine ⟨(i+1,i+1,o++ [(s.take i).drop m]),⟨by simp;omega,.inl ⟨by first | omega | (simp only;omega) | simp only,Zb,fun j a b=>by simp only at a b;omega,by rw [he,hsp];simp⟩⟩,by first | omega | (simp only;omega) | simp only,Weak.mk ?_⟩;simp (disch:=omega) only [List.map_append,List.map_cons,List.map_nil,List.length_append,List.length_cons,List.length_nil,go_sem,seval]
     ·refine ⟨(i+1,m,o),⟨by first | omega | (simp only;omega) | simp only,.inl ⟨by first | omega | (simp only;omega) | simp only,by first | omega | (simp only;omega) | simp only,fun j a b=> ?_,he⟩⟩,by first | omega | (simp only;omega) | simp only,wk⟩;simp only at a b
      by_cases e:j=i
      ·subst e;exact fun e=>h3 (by rw [e];rfl)
      ·exact hno j a Za
   ·omega
  ·rcases hi with ⟨hi1,_⟩ | ⟨_,he⟩
   ·omega
   ·rw [he];refine Zp (Weak.fz (o:=0) (by rfl)) ?_;refine Zd [] _ _ _ _ ?_;simp (disch:=omega) only [List.map_cons,List.map_nil,List.set_cons_succ,List.set_cons_zero,go_sem,seval];exact we
def Uk (r:Row):List UInt8:=Zz (ZV r r.load.length) [32]
theorem IX (r:Row):ZY r=Uk r++ [10]:=rfl
def EU (r:Row):List UInt8:=if r.v.drp=true then [45] else [43]
def Yd (r:Row) (k:Nat):List UInt8:= [114,111,119,32]++X7 r.rt++ [32]++EU r++ [32]++X7 r.v.order++ [32]++X7 r.place++ [32]++X7 r.tm.arr++ [32]++X7 r.tm.beg++ [32]++X7 r.tm.dep++ [32]++XR r++Lib.joinTail [32] ((r.load.take k).map decS)
theorem CF (L:List (List UInt8)) (x:List UInt8):Lib.joinTail [32] (L++ [x])=Lib.joinTail [32] L++32::x:=by simp [Lib.joinTail]
theorem Er (r:Row):Yd r r.load.length=Uk r:=by
 rw [Yd,List.take_length,Uk,JS]
 show _=Zz (rowW::([decS r.rt,(if r.v.drp=true then [45] else [43]),decS r.v.order,decS r.place,decS r.tm.arr,decS r.tm.beg,decS r.tm.dep,XR r]++r.load.map decS)) [32]
 rw [YA];simp [Lib.joinTail,decS,rowW,EU]
theorem Qt {r:Row} {k:Nat} (h:k<r.load.length):Yd r (k+1)=Yd r k++ [32]++X7 (nth r.load k):=by
 rw [Yd,Yd,List.take_succ_eq_append_getElem h,Zh h,List.map_append,List.map_cons,List.map_nil,CF];simp [decS]
theorem Es {r:Row} (h:RowPr r) (k:Nat):(Yd r k).length<=200+k*21:=by
 induction k with
 | zero =>
  have h1:=ZS _ h.rt;have h2:=ZS _ (h.ns r.v.order (by simp [rowNs]));have h3:=ZS _ (h.ns r.place (by simp [rowNs]));have h4:=ZS _ (h.ns r.tm.arr (by simp [rowNs]));have h5:=ZS _ (h.ns r.tm.beg (by simp [rowNs]));have h6:=ZS _ (h.ns r.tm.dep (by simp [rowNs]))
  have h7:(EU r).length=1:=by unfold EU;split<;>rfl
  have h8:(XR r).length<=4:=by unfold XR;split<;>simp
  simp only [Yd,List.length_append,List.length_cons,List.length_nil,List.take_zero,List.map_nil,Lib.joinTail,List.flatten_nil];omega
 | succ k ih =>
  by_cases hk:k<r.load.length
  ·have:=ZS _ (h.load _ (Zq hk));rw [Qt hk,List.length_append,List.length_append];simp only [List.length_cons,List.length_nil];omega
  ·have e:Yd r (k+1)=Yd r k:=by rw [Yd,Yd,List.take_of_length_le Za,List.take_of_length_le Za]
   rw [e];omega
theorem Gv (r:Row) (h:RowPr r):PC 36 [.p (Xu r)] (.str (Uk r)):=by
 have hQ:=Es h;have n1:=h.rt;have n2:okD r.v.order:=h.ns _ (by simp [rowNs]);have n3:okD r.place:=h.ns _ (by simp [rowNs]);have n4:okD r.tm.arr:=h.ns _ (by simp [rowNs]);have n5:okD r.tm.beg:=h.ns _ (by simp [rowNs]);have n6:okD r.tm.dep:=h.ns _ (by simp [rowNs]);have l1:=ZS _ n1;have l2:=ZS _ n2;have l3:=ZS _ n3;have l4:=ZS _ n4;have l5:=ZS _ n5;have l6:=ZS _ n6;have hll:=h.len
 have hq0:Yd r 0= [114,111,119,32]++X7 r.rt++ [32]++EU r++ [32]++X7 r.v.order++ [32]++X7 r.place++ [32]++X7 r.tm.arr++ [32]++X7 r.tm.beg++ [32]++X7 r.tm.dep++ [32]++XR r:=by simp [Yd,Lib.joinTail]
 have hsg:EU r=if r.v.drp=true then [45] else [43]:=rfl;have hrs:XR r=if r.tm.rest=true then [114,101,115,116] else [103,111]:=rfl;refine Zc Tryz.func36 rfl cI ?_;simp (disch:=omega) only [Tryz.f36,go_sem,seval]
 generalize hd:r.v.drp=d at *
 generalize ht:r.tm.rest=t at *
 cases d<;>cases t
 all_goals
  simp (disch:=omega) only [go_sem,seval];refine WK ?_;simp (disch:=omega) only [go_sem,seval];refine ZK (Wd r.rt n1) ?_;simp (disch:=omega) only [go_sem,seval]
  repeat (rw [Xr (by first | (simp;done) | (simp;omega))];try simp (disch:=omega) only [go_sem,seval])
  refine ZK (Wd r.v.order n2) ?_;simp (disch:=omega) only [go_sem,seval]
  repeat (rw [Xr (by first | (simp;done) | (simp;omega))];try simp (disch:=omega) only [go_sem,seval])
  refine ZK (Wd r.place n3) ?_;simp (disch:=omega) only [go_sem,seval]
  repeat (rw [Xr (by first | (simp;done) | (simp;omega))];try simp (disch:=omega) only [go_sem,seval])
  refine ZK (Wd r.tm.arr n4) ?_;simp (disch:=omega) only [go_sem,seval]
  repeat (rw [Xr (by first | (simp;done) | (simp;omega))];try simp (disch:=omega) only [go_sem,seval])
  refine ZK (Wd r.tm.beg n5) ?_;simp (disch:=omega) only [go_sem,seval]
  repeat (rw [Xr (by first | (simp;done) | (simp;omega))];try simp (disch:=omega) only [go_sem,seval])
  refine ZK (Wd r.tm.dep n6) ?_;simp (disch:=omega) only [go_sem,seval]
  repeat (rw [Xr (by first | (simp;done) | (simp;omega))];try simp (disch:=omega) only [go_sem,seval])
  refine Zn [1] (fun k:Nat=> [(5,.p (.str (Yd r k))),(6,.p (.int .i64 k))]) (fun _=> [Wu r]) (fun k=>k<=r.load.length) (fun k=>r.load.length-k) 0 Zb (Weak.mk ?_) ?_
  ·simp (disch:=omega) only [Wu,hd,ht,go_sem,seval];simp [hq0,hsg,hrs]
  ·intro k hk;simp (disch:=omega) only [Wu,hd,ht,go_sem,seval];have hqk:=hQ k;refine cD ?_ ?_<;>intro h2<;>simp (disch:=omega) only [Sh.out h2,go_sem,seval]
   ·have hk2:k<r.load.length:=Za
    have hdo:okD (nth r.load k):=h.load _ (Zq hk2);have hdl:=ZS _ hdo;have hnx:=Qt hk2
    generalize Yd r k=S at *
    rw [Xr (by simp;omega)];simp (disch:=omega) only [go_sem,seval];refine (Wd (nth r.load k) hdo).use ?_;simp (disch:=omega) only [go_sem,seval];rw [Xr (by simp;omega)];simp (disch:=omega) only [go_sem,seval];exact ⟨k+1,Za,Za,Weak.mk (by simp (disch:=omega) only [Wu,hd,ht,hnx,go_sem,seval])⟩
   ·have hkl:k=r.load.length:=Za
    subst hkl;rw [Er]
theorem EK (l:List Row) (c:Bool) (hl:l.length<=4096) (h: ∀r∈l,RowPr r):PC 11 [.p (.list c (l.map Xu))] (.str (JK l)):=by
 have hll: ∀k:Nat,(((l.take k).map ZY).flatten).length<=k*266826:=fun k=>by
  induction k with
  | zero=>simp
  | succ k ih =>
   by_cases hk:k<l.length
   ·rw [List.take_succ_eq_append_getElem hk,List.map_append,List.flatten_append,List.length_append];have:=Y3 (h _ (List.getElem_mem hk))
    simp only [List.map_cons,List.map_nil,List.flatten_cons,List.flatten_nil,List.append_nil,ZY,List.length_append,List.length_cons,List.length_nil] at *
    omega
   ·rw [List.take_of_length_le Za] at ih ⊢;exact Nat.le_trans ih (Nat.mul_le_mul_right _ (Nat.le_succ k))
 refine Zc Tryz.func11 rfl bT ?_;simp (disch:=omega) only [Tryz.f11,go_sem,seval];refine Zn [0] (fun k:Nat=> [(3,.p (.str (((l.take k).map ZY).flatten))),(4,.p (.int .i64 k))]) (fun _=> []) (fun k=>k<=l.length) (fun k=>l.length-k) 0 Zb (Weak.mk ?_) ?_
 ·simp (disch:=omega) only [List.take_zero,List.map_nil,List.flatten_nil,go_sem,seval]
 ·intro k hk;simp (disch:=omega) only [go_sem,seval];refine cD ?_ ?_<;>intro h1<;>simp (disch:=omega) only [Sh.out h1,go_sem,seval]
  ·have hk2:k<l.length:=Za
   have hm:=h _ (Zq hk2);have hkl:=hll k;have hln:(Uk (nth l k)).length<=266825:=Y3 hm
   have htk:((l.take (k+1)).map ZY).flatten=((l.take k).map ZY).flatten++Uk (nth l k)++ [10]:=by
    rw [List.take_succ_eq_append_getElem hk2,Zh hk2,List.map_append,List.flatten_append];simp [IX]
   refine (Gv (nth l k) hm).use ?_;simp (disch:=omega) only [go_sem,seval]
   generalize ((l.take k).map ZY).flatten=S at *
   rw [Xr (by simp;omega)];simp (disch:=omega) only [go_sem,seval];exact ⟨k+1,Za,Za,Weak.mk (by simp (disch:=omega) only [htk,go_sem,seval])⟩
  ·have hkl:k=l.length:=Za
   subst hkl;rw [List.take_length,JK]
theorem Ue (n:Int) (h:okD n):PC 40 [.p (.int .i64 n)] (.str (decS n)):=by
 refine Zc Tryz.func40 rfl cJ ?_;simp (disch:=omega) only [Tryz.f40,go_sem,seval];refine (IR n h).use ?_;simp (disch:=omega) only [go_sem,seval]
 rfl
theorem LU (xs:List (List UInt8)) (c:Bool) (hx:xs.length<=1048576) (hl:(Zz xs [32]).length<=140737488355328) :
  PC 42 [.p (.list c (xs.map WY))] (.str (Zz xs [32])):=by
 refine Zc Tryz.func42 rfl cL ?_;simp (disch:=omega) only [Tryz.f42,go_sem,seval];refine (Pj xs c [32] hx hl).use ?_;simp (disch:=omega) only [go_sem,seval]
theorem rests_c (l:List Bool) (c:Bool) (h:tC l):PC 41 [.p (.list c (l.map eB))] (.str (eJ l)):=by
 have h:l.length<=4096:=h;refine Vv [3] Tryz.func41 rfl cK ?_;simp (disch:=omega) only [Tryz.f41,go_sem,seval];refine cD ?_ ?_<;>intro h1<;>simp (disch:=omega) only [Sh.out h1,go_sem,seval]
 ·have:l= []:=List.length_eq_zero_iff.1 Za;subst this;rfl
 ·have hne:l≠ []:=fun e=>h1 (by rw [e];rfl);refine ZJ (UO 0 rfl rfl ?_);simp (disch:=omega) only [go_sem,seval];refine ⟨_,_,Dv 77 5 rfl Zg,?_⟩;simp (disch:=omega) only [go_sem,seval];refine Zd [] _ _ _ _ ?_;simp (disch:=omega) only [go_sem,seval];refine Zn [3,9,10] (fun k:Nat=> [(11,.p (.int .i64 k))]) (fun k=> [.bld 77 5 1 ((l.take k).map Re),.dead]) (fun k=>k<=l.length) (fun k=>l.length-k) 0 Zb (Weak.mk ?_) ?_
  ·simp (disch:=omega) only [List.take_zero,List.map_nil,go_sem,seval]
  ·intro k hk;simp (disch:=omega) only [go_sem,seval];refine cD ?_ ?_<;>intro h2<;>simp (disch:=omega) only [Sh.out h2,go_sem,seval]
   ·have hk2:k<l.length:=Za
    have hnx:(l.take (k+1)).map Re=(l.take k).map Re++ [Re (nth l k)]:=by rw [List.take_succ_eq_append_getElem hk2,Zh hk2,List.map_append];rfl
    have hsz:((l.take k).map Re).length+1<=140737488355328:=by rw [List.length_map,List.length_take];omega
    cases hb:nth l k with
    | true =>
     simp (disch:=omega) only [hb,go_sem,seval];refine (DJ (o:=0) (r:=1) rfl 121 hsz).mono ?_;rintro x H' ⟨rfl,rfl⟩;simp (disch:=omega) only [go_sem,seval];exact ⟨k+1,Za,Za,Weak.mk (by simp (disch:=omega) only [hnx,hb,Re,List.set_cons_zero,go_sem,seval])⟩
    | false =>
     simp (disch:=omega) only [hb,Bool.false_eq_true,go_sem,seval];refine (DJ (o:=0) (r:=1) rfl 110 hsz).mono ?_;rintro x H' ⟨rfl,rfl⟩;simp (disch:=omega) only [go_sem,seval];exact ⟨k+1,Za,Za,Weak.mk (by simp (disch:=omega) only [hnx,hb,Re,Bool.false_eq_true,List.set_cons_zero,go_sem,seval])⟩
   ·have hkl:k=l.length:=Za
    subst hkl;rw [List.take_length];refine (FD (o:=0) (r:=1) rfl (by simpa using hne)).mono ?_;rintro x H' ⟨rfl,rfl⟩;simp (disch:=omega) only [go_sem,seval];rw [eJ,if_neg hne];rfl
theorem Pm (r:Row) (h:RowPr r):PC 32 [.p (Xu r)] (.str (ZY r)):=by
 refine Zc Tryz.func32 rfl cF ?_;simp (disch:=omega) only [Tryz.f32,go_sem,seval];have hl:=h.len;have hll:=Y3 h;have hds:(if r.v.drp=true then ([45]:List UInt8) else [43])=(if r.v.drp=true then [45] else [43]):=rfl;have hhd:AX r= [[114,111,119],decS r.rt,if r.v.drp=true then [45] else [43]]:=rfl;have hrs:XR r=if r.tm.rest=true then [114,101,115,116] else [103,111]:=rfl
 generalize hd:r.v.drp=d at *
 generalize ht:r.tm.rest=t at *
 cases d<;>cases t
 all_goals
  simp (disch:=omega) only [go_sem,seval];refine (Ue r.rt h.rt).use ?_;simp (disch:=omega) only [go_sem,seval];refine Zn [1,4,35,36] (fun q:Nat=> [(37,.p (.int .i64 q)),(5,.sl 1 0 (YL r q).length (YL r q).length)]) (fun q=> [Wu r,.elems 1 ((YL r q).map WY),.elems 1 ((rowNs r).map eI)]) (fun q=>q<=5) (fun q=>5-q) 0 Zb (Weak.mk ?_) ?_
  ·simp (disch:=omega) only [Wu,hd,ht,go_sem,seval];simp [YL,hhd,rowNs,UW,aX]
  ·intro q hq;simp (disch:=omega) only [Wu,hd,ht,go_sem,seval];have hwl:=JR (r:=r) hq;refine cD ?_ ?_<;>intro h1<;>simp (disch:=omega) only [Sh.out h1,go_sem,seval]
   ·have hq2:q<(rowNs r).length:=by rw [ES];omega
    have hdo:=h.ns _ (Zq hq2);have hsn:=Cq hq2;have h5:(rowNs r).length=5:=rfl;have he:WC ((rowNs r).map eI) q=eI (nth (rowNs r) q):=UP hq2
    generalize (nth (rowNs r) q)=n at *
    simp (disch:=first | omega | (simp only [List.length_cons,List.length_nil,List.length_append,List.length_map,List.length_take,List.length_drop]<;>omega)) only [h5,go_sem,seval];rw [he,if_pos ⟨Za,by simp [eI,PV.cells]⟩];simp (disch:=omega) only [PV.cells,List.take_succ_cons,List.take_zero,List.map_cons,List.map_nil,go_sem,seval];refine (Ue n hdo).use ?_;simp (disch:=omega) only [go_sem,seval];refine ⟨q+1,Za,Za,Weak.mk ?_⟩;simp (disch:=omega) only [Wu,hd,ht,hsn,List.map_append,List.map_cons,List.map_nil,List.length_append,List.length_cons,List.length_nil,UW,go_sem,seval]
   ·have hq5:q=5:=Za
    subst hq5;have hz:=Cs (r:=r);rw [hrs] at hz;refine Zn [52,53] (fun q:Nat=> [(54,.p (.int .i64 q)),(5,.sl 1 0 (ZV r q).length (ZV r q).length)]) (fun q=> [Wu r,.elems 1 ((ZV r q).map WY),.elems 1 ((rowNs r).map eI),.elems 1 [.str (XR r)]]) (fun q=>q<=r.load.length) (fun q=>r.load.length-q) 0 Zb (Weak.mk ?_) ?_
    ·simp (disch:=omega) only [Wu,hd,ht,hz,hrs,List.map_append,List.map_cons,List.map_nil,List.length_append,List.length_cons,List.length_nil,UW,go_sem,seval]
    ·intro q hq;simp (disch:=omega) only [Wu,hd,ht,go_sem,seval];have hwl:=Y6 hq;refine cD ?_ ?_<;>intro h2<;>simp (disch:=omega) only [Sh.out h2,go_sem,seval]
     ·have hq2:q<r.load.length:=Za
      have hdo:=h.load _ (Zq hq2);have hsn:=Cr hq2
      generalize (nth r.load q)=n at *
      refine (Ue n hdo).use ?_;simp (disch:=omega) only [go_sem,seval];refine ⟨q+1,Za,Za,Weak.mk ?_⟩;simp (disch:=omega) only [Wu,hd,ht,hsn,List.map_append,List.map_cons,List.map_nil,List.length_append,List.length_cons,List.length_nil,UW,go_sem,seval]
     ·have hql:q=r.load.length:=Za
      subst hql;refine ACalls.view (LU (ZV r r.load.length) false Za Za) (by simp [Tn,vw,Xt,KI]<;>rfl) (by rfl) ?_;simp (disch:=omega) only [go_sem,seval];rw [Xr (by simp;omega)];simp (disch:=omega) only [go_sem,seval];rw [ZY]
theorem Az (l:List Row) (c:Bool) (hl:l.length<=4096) (h: ∀r∈l,RowPr r):PC 9 [.p (.list c (l.map Xu))] (.str (JK l)):=by
 have hll: ∀k:Nat,(((l.take k).map ZY).flatten).length<=k*266826:=fun k=>by
  induction k with
  | zero=>simp
  | succ k ih =>
   by_cases hk:k<l.length
   ·rw [List.take_succ_eq_append_getElem hk,List.map_append,List.flatten_append,List.length_append];have:=Y3 (h _ (List.getElem_mem hk))
    simp only [List.map_cons,List.map_nil,List.flatten_cons,List.flatten_nil,List.append_nil,ZY,List.length_append,List.length_cons,List.length_nil] at *
    omega
   ·rw [List.take_of_length_le Za] at ih ⊢;exact Nat.le_trans ih (Nat.mul_le_mul_right _ (Nat.le_succ k))
 refine Vv [1] Tryz.func9 rfl mP ?_;simp (disch:=omega) only [Tryz.f9,go_sem,seval];refine ZJ (UO 0 rfl rfl ?_);simp (disch:=omega) only [go_sem,seval];refine ⟨_,_,Dv 77 5 rfl Zg,?_⟩;simp (disch:=omega) only [go_sem,seval];refine Zd [] _ _ _ _ ?_;simp (disch:=omega) only [go_sem,seval];refine Zn [3,6,7] (fun k:Nat=> [(8,.p (.int .i64 k))]) (fun k=> [.bld 77 5 1 (((l.take k).map ZY).flatten),.dead]) (fun k=>k<=l.length) (fun k=>l.length-k) 0 Zb (Weak.mk ?_) ?_
 ·simp (disch:=omega) only [List.take_zero,List.map_nil,List.flatten_nil,go_sem,seval]
 ·intro k hk;simp (disch:=omega) only [go_sem,seval];refine cD ?_ ?_<;>intro h1<;>simp (disch:=omega) only [Sh.out h1,go_sem,seval]
  ·have hk2:k<l.length:=Za
   have hm:=h _ (Zq hk2);have hkl:=hll k;have hln:=Y3 hm
   have htk:(l.take (k+1)).map ZY=(l.take k).map ZY++ [ZY (nth l k)]:=by rw [List.take_succ_eq_append_getElem hk2,Zh hk2,List.map_append];rfl
   refine (Pm (nth l k) hm).use ?_;simp (disch:=omega) only [go_sem,seval];refine (Rc (o:=0) (r:=1) rfl (ZY (nth l k)) (by simp [ZY]) (by simp only [ZY,List.length_append,List.length_cons,List.length_nil];omega)).mono ?_;rintro x H' ⟨rfl,rfl⟩;simp (disch:=omega) only [go_sem,seval];refine ⟨k+1,Za,Za,Weak.mk ?_⟩;simp (disch:=omega) only [htk,List.flatten_append,List.flatten_cons,List.flatten_nil,List.append_nil,List.set_cons_succ,List.set_cons_zero,go_sem,seval]
  ·have hkl:k=l.length:=Za
   subst hkl;rw [List.take_length];refine (Is (o:=0) (r:=1) rfl).mono ?_;rintro x H' ⟨rfl,rfl⟩;simp (disch:=omega) only [go_sem,seval];rw [JK]
def eN : Typ:= { name:= [118],count:=1,src:=0,dst:=0,cap_c:=false,cap:= [5],cls:=100,drive:=100,opn:=0,rest:=0,skills:=0,fixed:=0,perMile:=0,perTick:=0,prof:=0 }
def eM : Ord:= { name:= [111],load_c:=false,load:= [1],pick:=⟨-1,0,0,0⟩,drp:=⟨1,30,40,2⟩,skills:=0,penalty:= -1,split:=1,last:= -1,now:= -1,off:=false }
def PO (a b:Int):Arc:= { src:=a,dst:=b,prof:=0,miles:=5,travel_c:=false,travel:= [⟨0,10⟩],slow_c:=true,slow:= [] }
def samX : Inst:= { net:= { places_c:=false,places:= [[65],[66]],arcs_c:=false,arcs:= [PO 0 1,PO 1 0] },types_c:=false,types:= [eN],orders_c:=false,orders:= [eM],apart_c:=true,apart:= [],before_c:=true,before:= [] }
def samP : Pln:=⟨false,[⟨0,0,true,[],false,[⟨0,true⟩]⟩],true,[]⟩
theorem DB : InstOk samX := by
  refine ⟨⟨⟨⟨by decide, fun i hi => ?_⟩, by decide⟩, fun i hi => ?_⟩, ⟨rfl, fun i hi => ?_⟩, AS.1 (by rfl), rfl⟩
  · match i, hi with
    | 0, _ => exact ⟨rfl, fun k hk => Za⟩
    | 1, _ => exact ⟨rfl, fun k hk => by have : k = 0 := Za
                                         subst this; decide⟩
  · match i, hi with
    | 0, _ => unfold CU YD PG KG; decide
    | 1, _ => unfold CU YD PG KG; decide
  · have : i = 0 := by simp [samX] at hi; omega
    subst this;exact ⟨⟨⟨⟨⟨⟨⟨⟨rfl, fun j hj => Za⟩, rfl⟩, rfl, rfl⟩, rfl⟩, rfl⟩, rfl, by decide⟩, rfl, rfl⟩, rfl, rfl, rfl, rfl⟩
theorem UV : YG samX samP.routes=0:=Zg
def samL : List Int:= [0]
def samM : List Row:= [⟨0,⟨0,true⟩,1,⟨10,30,32,false⟩,false,samL⟩]
theorem LH : YB samX samP.routes samP.routes.length=samM:=Zg
theorem PP : (YB samX samP.routes samP.routes.length).filter (Bh samX 31)=samM:=Zg
theorem LF : E4 samX 31 samP.routes samP.routes.length=0:=Zg
theorem LG : E4 samX 41 samP.routes samP.routes.length=1:=Zg
theorem KD : Ja samX samP.routes samP.routes.length=10/\Jg samX samP.routes samP.routes.length=42/\Jd samX samP.routes samP.routes.length=0:=⟨Zg,Zg,Zg⟩
theorem Cw : PT 27 [] [.p (XQ samX),.p (Eb samP)]:=by
 refine Ze [1,2,3,4,5] Tryz.func27 rfl bX ?_;simp (disch:=omega) only [Tryz.f27,go_sem,seval];refine ZJ (Kd 1 ?_);simp (disch:=omega) only [go_sem,seval];refine ⟨_,_,Weak.fz (o:=2) (by rfl),?_⟩;simp (disch:=omega) only [List.map_cons,List.map_nil,List.set_cons_succ,List.set_cons_zero,List.cons_append,List.nil_append,go_sem,seval];refine Zd [2,3,4,5] _ _ _ _ ?_;simp (disch:=omega) only [go_sem,seval];refine ZJ (Qa 2 3 ?_);simp (disch:=omega) only [go_sem,seval];refine ⟨_,_,Weak.fz (o:=4) (by rfl),?_⟩;simp (disch:=omega) only [List.map_cons,List.map_nil,List.set_cons_succ,List.set_cons_zero,List.cons_append,List.nil_append,go_sem,seval]
 refine ⟨_,_,Weak.fz (o:=5) (by rfl),?_⟩;simp (disch:=omega) only [List.map_cons,List.map_nil,List.set_cons_succ,List.set_cons_zero,List.cons_append,List.nil_append,go_sem,seval];refine Zd [3,4,5] _ _ _ _ ?_;simp (disch:=omega) only [go_sem,seval];refine ZJ (Kd 1 ?_);simp (disch:=omega) only [go_sem,seval];refine ⟨_,_,Weak.fz (o:=7) (by rfl),?_⟩;simp (disch:=omega) only [List.map_cons,List.map_nil,List.set_cons_succ,List.set_cons_zero,List.cons_append,List.nil_append,go_sem,seval];refine Zd [4,5] _ _ _ _ ?_;simp (disch:=omega) only [go_sem,seval]
 refine ZJ (Kd 1 ?_);simp (disch:=omega) only [go_sem,seval];refine ⟨_,_,Weak.fz (o:=9) (by rfl),?_⟩;simp (disch:=omega) only [List.map_cons,List.map_nil,List.set_cons_succ,List.set_cons_zero,List.cons_append,List.nil_append,go_sem,seval];refine Zd [5] _ _ _ _ ?_;simp (disch:=omega) only [go_sem,seval];refine Zp (Weak.fz (o:=6) (by rfl)) ?_;refine Zp (Weak.fz (o:=8) (by rfl)) ?_;refine Zp (Weak.fz (o:=10) (by rfl)) ?_;refine ZJ (Qa 3 2 ?_);simp (disch:=omega) only [List.map_cons,List.map_nil,List.set_cons_succ,List.set_cons_zero,List.cons_append,List.nil_append,go_sem,seval]
 refine ⟨_,_,Weak.fz (o:=11) (by rfl),?_⟩;simp (disch:=omega) only [List.map_cons,List.map_nil,List.set_cons_succ,List.set_cons_zero,List.cons_append,List.nil_append,go_sem,seval];refine ⟨_,_,Weak.fz (o:=12) (by rfl),?_⟩;simp (disch:=omega) only [List.map_cons,List.map_nil,List.set_cons_succ,List.set_cons_zero,List.cons_append,List.nil_append,go_sem,seval];refine Zd [] _ _ _ _ ?_;simp (disch:=omega) only [go_sem,seval];exact we (by simp (disch:=omega) only [samX,samP,eN,eM,PO,List.map_cons,List.map_nil,go_sem,seval])
theorem gE {g:FuncId} {args:List V} {a b c d:PV} {H:List AM.Obj} {K:V->List AM.Obj->Prop} (h:ACalls Tryz.prog g args [] fun x H'=>x= .tup [.p a,.p b,.p c,.p d]/\H'= []) (k:K (.tup [.p a,.p b,.p c,.p d]) H) (ha:Zw 0 args=true:=by rfl):ACalls Tryz.prog g args H K :=
 (h.behind ha H).mono fun x H' hq=>by
  obtain ⟨y,H1,⟨rfl,rfl⟩,rfl,rfl⟩:=hq;simpa [Bc,Wl] using k
def LB : List Row:= [⟨0,⟨2,true⟩,1,⟨10,30,32,false⟩,false,[4,0]⟩]
theorem LD : JK LB= [114,111,119,32,48,32,45,32,50,32,49,32,49,48,32,51,48,32,51,50,32,103,111,32,52,32,48,10]:=Zg
theorem LC : ∀r∈LB,RowPr r:=fun r hr=>by
 simp only [LB,List.mem_cons,List.not_mem_nil,or_false] at hr;subst hr;refine ⟨⟨by decide,by decide⟩,fun n hn=> ?_,fun n hn=> ?_,by decide⟩
 ·simp only [rowNs,List.mem_cons,List.not_mem_nil,or_false] at hn;rcases hn with rfl | rfl | rfl | rfl | rfl<;>exact ⟨by decide,by decide⟩
 ·simp only [List.mem_cons,List.not_mem_nil,or_false] at hn;rcases hn with rfl | rfl<;>exact ⟨by decide,by decide⟩
theorem LA : ∀r∈samP.routes,Hj r:=fun r hr=>by
 simp only [samP,List.mem_cons,List.not_mem_nil,or_false] at hr;subst hr;exact ⟨by decide,by decide⟩
theorem BV : PC 8 [] (.bool true):=by
 have hl:samP.routes.length<=1048576:=by decide
 have cR:=IY samX samP DB hl LA;rw [Pn,if_pos UV,LH] at cR;have cA:=ME samX samP 31 DB hl LA;rw [aM,if_neg Za,if_pos UV,PP,LF] at cA;have cB:=ME samX samP 41 DB hl LA;rw [aM,if_neg Za,if_pos UV,LG] at cB;have cT:=Eu samX samP DB hl LA;rw [P7,if_pos UV,KD.1,KD.2.1,KD.2.2] at cT;refine Ze [8] Tryz.func8 rfl mO ?_;simp (disch:=omega) only [Tryz.f8,go_sem,seval];refine ZZ Cw ?_;simp (disch:=omega) only [go_sem,seval];refine ZZ cR ?_;simp (disch:=omega) only [go_sem,seval]
 refine QX cA ?_;simp (disch:=omega) only [go_sem,seval];refine QX cB ?_;simp (disch:=omega) only [go_sem,seval];refine gE cT ?_;have hM1:samM.length=1:=rfl;have hM2:nth samM 0=⟨0,⟨0,true⟩,1,⟨10,30,32,false⟩,false,samL⟩:=rfl;have hM3:samL.length=1:=rfl;have hM4:nth samL 0=0:=rfl;simp (disch:=omega) only [hM1,go_sem,seval];refine ZJ (Qa 3 2 ?_);simp (disch:=omega) only [go_sem,seval];refine ⟨_,_,Weak.fz (o:=2) (by rfl),?_⟩;simp (disch:=omega) only [List.map_cons,List.map_nil,List.set_cons_succ,List.set_cons_zero,List.cons_append,List.nil_append,go_sem,seval]
 refine ⟨_,_,Weak.fz (o:=3) (by rfl),?_⟩;simp (disch:=omega) only [List.map_cons,List.map_nil,List.set_cons_succ,List.set_cons_zero,List.cons_append,List.nil_append,go_sem,seval];refine (Az LB false (by decide) LC).use ?_;rw [LD];simp (disch:=omega) only [decide_true,hM1,hM2,hM3,hM4,go_sem,seval];refine Zd [] _ _ _ _ ?_;simp (disch:=omega) only [go_sem,seval];exact we
theorem Lq (l:List Row) (c:Bool) (hl:l.length<=1073741824):PC 13 [.p (.list c (l.map Xu))] (.list false (l.map Xu)):=by
 refine Ze [2,7] Tryz.func13 rfl bW ?_;simp (disch:=omega) only [Tryz.f13,go_sem,seval];refine Zp (Weak.nil 3 9 (by rfl) Zb) ?_;refine Zd [7] _ _ _ _ ?_;simp (disch:=omega) only [List.set_cons_succ,List.set_cons_zero,List.cons_append,List.nil_append,List.length_cons,List.length_nil,go_sem,seval];refine Zn [6,7] (fun k:Nat=> [(3,.sl 0 0 k k),(8,.p (.int .i64 k))]) (fun k=> [.elems 9 ((l.take k).map Xu)]) (fun k=>k<=l.length) (fun k=>l.length-k) 0 Zb (Weak.mk ?_) ?_
 ·simp (disch:=omega) only [List.take_zero,List.map_nil,go_sem,seval]
 ·intro k hk;simp (disch:=omega) only [go_sem,seval];refine cD ?_ ?_<;>intro h1<;>simp (disch:=omega) only [Sh.out h1,go_sem,seval]
  ·have hk2:k<l.length:=Za
   have ht:l.take (k+1)=l.take k++ [nth l k]:=by rw [List.take_succ_eq_append_getElem hk2,Zh hk2]
   have htl:(l.take k).length=k:=by simp;omega
   simp (disch:=omega) only [htl,go_sem,seval];rw [if_pos ⟨Za,Za⟩];simp (disch:=omega) only [go_sem,seval];refine ⟨k+1,Za,Za,Weak.mk ?_⟩;simp (disch:=omega) only [ht,htl,List.map_append,List.map_cons,List.map_nil,List.length_append,List.length_cons,List.length_nil,go_sem,seval]
  ·have hkl:k=l.length:=Za
   subst hkl;rw [List.take_length];refine Zp (Weak.fz (o:=0) (by rfl)) ?_;refine Zd [] _ _ _ _ ?_;simp (disch:=omega) only [List.map_cons,List.map_nil,List.set_cons_succ,List.set_cons_zero,List.length_map,eq_self,go_sem,seval];exact we
theorem ET (l m:List Row) (c d:Bool) (hm:m.length=l.length) (hq: ∀k,k<l.length-> ∃x,nth m k= { nth l k with load_c:=x }) (hl:l.length<=1073741824) (hb: ∀r∈l,r.load.length<=1048576) :
  PC 12 [.p (.list c (l.map Xu)),.p (.list d (m.map Xu))] (.bool true):=by
 refine Zc Tryz.func12 rfl bV ?_;simp (disch:=omega) only [Tryz.f12,hm,go_sem,seval];refine Zn [0,1] (fun k:Nat=> [(5,.p (.int .i64 k))]) (fun _=> []) (fun k=>k<=l.length) (fun k=>l.length-k) 0 Zb (Weak.mk ?_) ?_
 ·simp (disch:=omega) only [go_sem,seval]
 ·intro k hk;simp (disch:=omega) only [go_sem,seval];refine cD ?_ ?_<;>intro h1<;>simp (disch:=omega) only [Sh.out h1,go_sem,seval]
  ·have hk2:k<l.length:=Za
   have hbk:=hb _ (Zq hk2);obtain ⟨x,hx⟩:=hq k hk2;generalize hrr:nth l k=r at hbk hx ⊢;refine WK ?_;simp (maxSteps:=3000000) (disch:=omega) only [hx,hrr,decide_true,Bool.not_true,go_sem,seval];refine Zn [0,1,5] (fun q:Nat=> [(6,.p (.int .i64 q))]) (fun _=> []) (fun q=>q<=r.load.length) (fun q=>r.load.length-q) 0 Zb (Weak.mk ?_) ?_
   ·simp (disch:=omega) only [go_sem,seval]
   ·intro q hq;simp (disch:=omega) only [hrr,hx,go_sem,seval];refine cD ?_ ?_<;>intro h2<;>simp (disch:=omega) only [Sh.out h2,go_sem,seval]
    ·have hq2:q<r.load.length:=Za
     refine WK ?_;simp (disch:=omega) only [hrr,hx,go_sem,seval];exact ⟨q+1,Za,Za,wk⟩
    ·exact ⟨k+1,Za,Za,wk⟩
theorem Kq (l:List Row) (c:Bool) (hl:l.length<=1048576) (hw: ∀r∈l,By r/\r.load.length<=1048576) :
  PC 3 [.p (.list c (l.map Xu))] (.bool true):=by
 refine Ze [11] Tryz.func3 rfl mN ?_;simp (disch:=omega) only [Tryz.f3,go_sem,seval];refine cD ?_ ?_<;>intro h1<;>simp (disch:=omega) only [Sh.out h1,go_sem,seval]
 ·refine (BV).use ?_;simp (disch:=omega) only [go_sem,seval];exact we
 ·refine ZR [11] [0,14,15] (fun k:Nat=> [(3,.sl 0 0 k k),(16,.p (.int .i64 k))]) (fun k=> [.elems 9 ((l.take k).map Xu)]) (fun k=>k<=l.length/\ ∀j,j<k->(nth l j).load.length<=10) (fun k=>l.length-k) 0 Zb (Weak.ofNil 3 9 rfl Zb (Weak.mk ?_)) ?_
  ·simp (disch:=omega) only [List.take_zero,List.map_nil,go_sem,seval]
  ·rintro k ⟨hk,hno⟩;simp (disch:=omega) only [go_sem,seval];refine cD ?_ ?_<;>intro h2<;>simp (disch:=omega) only [Sh.out h2,go_sem,seval]
   ·have hk2:k<l.length:=Za
    have hwk:=(hw _ (Zq hk2)).2
    have ht:(l.take (k+1)).map Xu=(l.take k).map Xu++ [Xu (nth l k)]:=by rw [List.take_succ_eq_append_getElem hk2,Zh hk2,List.map_append];rfl
    have htl:(l.take k).length=k:=by simp;omega
    refine cD ?_ ?_<;>intro h3<;>simp (disch:=omega) only [Sh.out h3,go_sem,seval]
    ·refine (BV).use ?_;simp (disch:=omega) only [go_sem,seval];exact we
    ·rw [if_pos ⟨htl,Za,Za⟩];simp (disch:=omega) only [go_sem,seval];exact ⟨k+1,⟨Za,ZF.2 ⟨hno,Za⟩⟩,Za,Weak.mk (by simp (disch:=omega) only [ht,htl,go_sem,seval])⟩
   ·have hkl:k=l.length:=Za
    subst hkl;rw [List.take_length]
    have hten: ∀r∈l,r.load.length<=10:=fun r hr=>by
     obtain ⟨j,hj,rfl⟩:=List.mem_iff_getElem.1 hr;rw [<- Zh hj];exact hno j hj
    have hnum: ∀r∈l,By r:=fun r hr=>(hw r hr).1;have hpr: ∀r∈l,RowPr r:=fun r hr=>⟨(hnum r hr).1,(hnum r hr).2.1,(hnum r hr).2.2,by have:=hten r hr;omega⟩;have hle:=PF Za fun r hr=>⟨hnum r hr,hten r hr⟩;have c1:=Az l false Za hpr;have c2:=Gy (JK l) hle;rw [Ln hnum] at c2;unfold AV at c2;have c3:=EK l c Za hpr;have c4:=Lq (l.map Kv) false (by simp;omega)
    have c5:=ET (l.map Kv) l false c Zb (fun k hk=>⟨(nth l k).load_c,by
     have hk:k<l.length:=by simpa using hk
     have e:nth (l.map Kv) k=Kv (nth l k):=by simp [nth,hk]
     rw [e];rfl⟩) (by simp;omega) (fun r hr=>by
     obtain ⟨q,hq,rfl⟩:=List.mem_map.1 hr
     exact (hw q hq).2)
    generalize l.map Kv=m at *
    generalize JK l=s at *
    refine Zp (Weak.fz (o:=0) (by rfl)) ?_;refine Zd [] _ _ _ _ ?_;simp (disch:=omega) only [List.map_cons,List.map_nil,List.set_cons_succ,List.set_cons_zero,go_sem,seval];refine (c1).use ?_;simp (disch:=omega) only [go_sem,seval];refine QX c2 ?_;simp (disch:=omega) only [go_sem,seval];refine (c3).use ?_;simp (disch:=omega) only [go_sem,seval];refine (c4).use ?_;simp (disch:=omega) only [go_sem,seval];refine (c5).use ?_;simp (disch:=omega) only [go_sem,seval];refine (BV).use ?_;simp (disch:=omega) only [go_sem,seval];exact we
theorem mT {α:Type} {l:List α} (h:l.length=9): ∃a0 a1 a2 a3 a4 a5 a6 a7 a8,l= [a0,a1,a2,a3,a4,a5,a6,a7,a8]:=by
 match l,h with
 | [a0,a1,a2,a3,a4,a5,a6,a7,a8],_=>exact ⟨_,_,_,_,_,_,_,_,_,rfl⟩
def lS (r:Row):List PV:= [.int .i64 r.rt,.int .i64 r.v.order,.bool r.v.drp,.int .i64 r.place,.int .i64 r.tm.arr,.int .i64 r.tm.beg,.int .i64 r.tm.dep,.bool r.tm.rest,.list r.load_c (r.load.map eI)]
def Row.wf (B:Nat) (r:Row):Prop:=By r/\r.load.length<=B
theorem FY {B m cs} (h:XJ Tryz.prog B m 31 cs): ∃x:Row,cs=lS x/\x.wf B:=by
 obtain ⟨h1,m',h2⟩:=Qi MH aT h;obtain ⟨a0,a1,a2,a3,a4,a5,a6,a7,a8,rfl⟩:=mT h1;obtain ⟨n0,e0,w0⟩:=Yz Tryz.underlying3 (h2 (0,3) Zb);obtain ⟨n1,e1,w1⟩:=F1 (h2 (1,26) Zb);obtain ⟨n2,e2,w2⟩:=Yz Tryz.underlying3 (h2 (3,3) Zb);obtain ⟨n3,e3,w3⟩:=FZ (h2 (4,28) Zb);obtain ⟨y4,e4,w4,_,z4⟩:=Qj Tryz.underlying29 (h2 (8,29) Zb);obtain ⟨n4,rfl,u4⟩:=FX z4;simp [aS,Mt,Mu,NA,aR,aQ] at e0 e1 e2 e3 e4;subst e0;obtain ⟨rfl,rfl⟩:=e1;subst e2;obtain ⟨rfl,rfl,rfl,rfl⟩:=e3;subst e4
 refine ⟨⟨n0,n1,n2,n3,false,n4⟩,rfl,⟨Vq w0,fun n hn=> ?_,u4⟩,by simpa using w4⟩;simp only [rowNs,List.mem_cons,List.not_mem_nil,or_false] at hn;rcases hn with rfl | rfl | rfl | rfl | rfl
 ·exact w1
 ·exact Vq w2
 ·exact w3.1
 ·exact w3.2.1
 ·exact w3.2.2
theorem II {B v} (h:FitV Tryz.prog B 31 v): ∃x:Row,v=Xu x/\x.wf B:=by
 obtain ⟨k,cs,h,e⟩:=h.out;obtain ⟨x,rfl,hw⟩:=FY h;exact ⟨x,e.trans (by rw [VS,if_pos (QI MH)];rfl),hw⟩
theorem FW {B x} (h:FitV Tryz.prog B 22 x): ∃l:List Row,x= .list false (l.map Xu)/\l.length<=B/\ ∀r∈l,r.wf B:=by
 obtain ⟨xs,rfl,h1,_,h2⟩:=Eg Tryz.underlying22 h;obtain ⟨l,rfl,h3⟩:=Kz (f:=Xu) fun y hy=>II (h2 y hy);exact ⟨l,rfl,by simpa using h1,h3⟩
end Go.Proofs.YtmbelkfkhclnkaaGreatDoor.K
