/- Declarations that the closing texts need, part 18: joined by tools/slim.py. -/
import Derived.Test.YtmbelkfkhclnkaaGreatDoorYM17
import Derived.Shelf.Strings.OnBuilder
set_option linter.unusedVariables false
set_option linter.unusedSimpArgs false
namespace Go.Proofs.YtmbelkfkhclnkaaGreatDoor.K
open Go Go.AM Go.Proofs Go.Shelf Go.RowKit
set_option maxRecDepth 8000
set_option maxHeartbeats 8000000
theorem Wc : Builder.Extra Tryz.prog layJoin_ren:= {
 sizeBuilder:=Zh,liesBuilder:=Zh,
 t5:=Tryz.underlying5,a5:=Tryz.isAgg5,z5:=Tryz.sizeOf5,v5:=Tryz.zeroValue5,
 infoByte:=Zh,cellsByte:=Zh,sizeByte:=Zh,neB5:=by decide }
theorem rA (xs:List (List UInt8)):(xs.map fun s=>(⟨s.toArray⟩:ByteArray)).map (fun x=>x.data.toList)=xs:=by
 rw [List.map_map];rw [show ((fun x:ByteArray=>x.data.toList)∘fun s:List UInt8=>(⟨s.toArray⟩:ByteArray))=id from funext fun s=>Zb,List.map_id]
theorem Po (xs:List (List UInt8)) (c:Bool) (sep:List UInt8) (hx:xs.length<=1048576) (hl:(XI xs sep).length<=140737488355328) :
  PC 91 [.p (.list c (xs.map WW)),.p (.str sep)] (.str (XI xs sep)):=by
 refine ⟨dC,fun F ι w vs hr hv=> ?_⟩;obtain ⟨h1,h2⟩:=hv;have e0:=h2 0 _ rfl;have e1:=QX (h2 1 _ rfl)
 have hvs:vs= #[vs.getD 0 undef,.string ⟨sep.toArray⟩]:=by
  apply Array.ext
  ·simpa using h1
  ·intro i h3 h4
   have:i=0\/i=1:=by simp at h4;omega
   rcases this with rfl | rfl
   ·simp [Array.getD,h3]
   ·have:vs.getD 1 undef=vs[1]:=by simp [Array.getD,h3]
    rw [<- this,e1];rfl
 have hι:ι= []:=List.eq_nil_of_length_eq_zero hr.len;subst hι;rw [hvs];generalize vs.getD 0 undef=v at e0;clear hvs h1 h2 e1 vs
 have fin: ∀ {w' e},e=Ending.returned (.string ⟨(XI xs sep).toArray⟩)/\Below w.heap.size w w'-> ∃x H' ι' v,e= .returned v/\(x=V.p (.str (XI xs sep))/\H'= [])/\Go.AM.Good F [] [] w H' ι' w'/\RV F H' ι' w' x v:=by
  rintro w' e ⟨rfl,hb⟩;exact ⟨_,_,[],_,rfl,⟨rfl,rfl⟩,Qt hr.env hr.fin hb,.p _ _ (.str _)⟩
 have none: ∀a cap,xs= []->Calls Tryz.prog 91 #[.slice a 0 cap,.string ⟨sep.toArray⟩] w fun e w'=> ∃x H' ι' v,e= .returned v/\(x=V.p (.str (XI xs sep))/\H'= [])/\Go.AM.Good F [] [] w H' ι' w'/\RV F H' ι' w' x v:=fun a cap he=>by
  refine (Any.strings_Join_none VK Wc a cap ⟨sep.toArray⟩ w).mono ?_;rintro e w' ⟨he2,rfl⟩;refine fin ⟨?_,Below.refl _ _⟩;rw [he2,he];rfl
 cases e0 with | p _ _ h =>
 generalize hm:xs.map WW=ys at h
 cases h with
 | nils=>exact none _ _ (by simpa using hm)
 | emp=>exact none _ _ (by simpa using hm)
 | list cl xs2 b off cap S u hX hb hc hm2 hcl hS hu hr2 =>
  subst hm;rw [List.length_map];have key:=Any.strings_Join VK Wc b off cap (xs.map fun s=>⟨s.toArray⟩) ⟨sep.toArray⟩ w ?_ hb (by rw [List.length_map];omega) (by simpa using hc) ?_
  ·rw [List.length_map] at key;refine key.mono fun e w' h=>fin ?_;rw [rA] at h;simpa [XI] using h
  ·intro j x hj;rw [List.getElem?_map,Option.map_eq_some_iff] at hj;obtain ⟨t,ht,rfl⟩:=hj
   have hj2:(xs.map WW)[j]? =some (WW t):=by rw [List.getElem?_map,ht];rfl
   have hc0:(WW t).cells[0]? =some (.str t):=rfl
   have hS1:S=1:=by rw [<- hS j _ hj2];rfl
   have g1:=hu j _ 0 _ hj2 hc0;have g2:=(hr2 j _ 0 _ hj2 hc0).str_inv;rw [g2,hS1,Nat.mul_one,Nat.add_zero] at g1;exact g1
  ·rw [rA];simpa [XI] using hl
set_option maxRecDepth 100000
theorem dJ : Lays.n166 Tryz.prog layJoin_ren:= { VK with }
theorem Ky : Lays.n169 Tryz.prog layJoin_ren:= { VK with }
theorem CR {P:Program} {ρ:Ren} (L:Lays.n166 P ρ) (X:Builder.Extra P ρ) {n:Nat} {p v:Value} {b:Nat} {xs:List Value} {w:World} (s:List UInt8) (hs:s≠ []) (hbk:w.heap[b]? =some (.cells #[p,v] (ρ.t 72) (0,0))) (hp:p= .pointer none\/p= .pointer (some ⟨b,0,none⟩)) (hne:v.ownBlock≠some b)
  (hown:w.ownsRow 0 (ρ.t 5) 1 v n xs) (hb:n+s.length<=140737488355328) :
  Calls P (ρ.f 166) #[.pointer (some ⟨b,0,none⟩),.string ⟨s.toArray⟩] w fun e w'=>e= .returned (.tuple #[.int .i64 s.length,.nilIface]) /\
   ∃v' w1 w2,Turned w w1 b #[.pointer (some ⟨b,0,none⟩),v] (ρ.t 72)/\Grew w1 w2 v.ownBlock v'.ownBlock/\w2.ownsRow 0 (ρ.t 5) 1 v' (n+s.length) (xs++s.map fun x=> .int .u8 x.toNat)/\w'=w2.setCell ⟨b,1,none⟩ v':=by
 obtain ⟨i0,hi,hz0,hz1,hz2⟩:=info_parts X.infoByte;have mixed:=L.mixed;have t72:=L.t72;have a72:=L.a72;have z72:=L.z72;have v72:=L.v72;have u72:=run_underlying L.t72;have t70:=L.t70;have a70:=L.a70;have z70:=L.z70;have v70:=L.v70;have u70:=run_underlying L.t70;have t37:=L.t37;have a37:=L.a37;have z37:=L.z37;have v37:=L.v37;have u37:=run_underlying L.t37;have t3:=L.t3;have a3:=L.a3;have z3:=L.z3;have v3:=L.v3;have u3:=run_underlying L.t3;have t9:=L.t9;have a9:=L.a9;have z9:=L.z9;have v9:=L.v9;have u9:=run_underlying L.t9
 have t4:=L.t4;have a4:=L.a4;have z4:=L.z4;have v4:=L.v4;have u4:=run_underlying L.t4;have t164:=L.t164;have a164:=L.a164;have z164:=L.z164;have v164:=L.v164;have u164:=run_underlying L.t164
 have hcc:Calls P (ρ.f 240) #[.pointer (some ⟨b,0,none⟩)] w fun e w1=>e= .returned (.tuple #[])/\Turned w w1 b #[.pointer (some ⟨b,0,none⟩),v] (ρ.t 72):=by
  rcases hp with rfl | rfl
  ·refine (Any.Builder_copyCheck_fresh { L with } X.toX72 b w (by rw [Lib.cell_of_heap hbk];rfl) (by show w.shape? b=_;simp [World.shape?,hbk]) (Lib.frozen_of_heap hbk 0)).mono ?_;rintro e w' ⟨rfl,rfl⟩;exact ⟨rfl,rfl,⟨rfl,.inr trivial⟩,rfl,Nat.le_refl _,by simp [World.setCell],by simp [World.setCell,Array.getElem?_modify,hbk],fun k hk=>Below.heap_setCell _ _ _ _ (fun e=>hk (by simpa using e))⟩
  ·refine (Any.Builder_copyCheck_used { L with } X.toX72 b w (by rw [Lib.cell_of_heap hbk];rfl)).mono ?_;rintro e w' ⟨rfl,rfl⟩;exact ⟨rfl,rfl,⟨rfl,.inr trivial⟩,rfl,Nat.le_refl _,rfl,hbk,fun _ _=>rfl⟩
 have e240: ∀args w,(callFunc (ρ.f 240) args).run P w= .ok (.enter (ρ.f 240) args) w:=enters_of L.f240 Zh rfl
 go_enter L.f166,Body.n166_ntmps _
 go_wp2_with (go_at_fn (ρ.f 240);refine hcc.mono ?_)
 rintro e w1 ⟨rfl,hT⟩
 have c0:w1.cell? ⟨b,0,none⟩=some (.pointer (some ⟨b,0,none⟩)):=by rw [Lib.cell_of_heap hT.at'];rfl
 have c1:w1.cell? ⟨b,1,none⟩=some v:=by rw [Lib.cell_of_heap hT.at'];rfl
 have hown1:w1.ownsRow 0 (ρ.t 5) 1 v n xs:=by
  rcases hown with ⟨o1,o2 | ⟨g,cap,cur,o2,o3,o4,o5⟩⟩
  ·exact ⟨o1,.inl o2⟩
  ·exact ⟨o1,.inr ⟨g,cap,cur,o2,o3,by rw [hT.other g (fun e=>hne (by rw [o2,e];rfl))];exact o4,o5⟩⟩
 go_wp2_with (at_builtin;refine Bw rfl _ _ _ _ rfl (ρ.t 5) i0 L.t37 L.t9 hi hz0 hz1 hz2 v n xs rfl hown1 s hs rfl hb ?_)
 intro v' w2 hown' hG;have hlt:b<w1.heap.size:=(Array.getElem?_eq_some_iff.1 hT.at').1
 have hb2:w2.heap[b]? =some (.cells #[.pointer (some ⟨b,0,none⟩),v] (ρ.t 72) (0,0)):=by
  rw [hG.old b hlt (fun e=>hne e.symm)];exact hT.at'
 have d0:w2.cell? ⟨b,0,none⟩=some (.pointer (some ⟨b,0,none⟩)):=by rw [Lib.cell_of_heap hb2];rfl
 have d1:w2.cell? ⟨b,1,none⟩=some v:=by rw [Lib.cell_of_heap hb2];rfl
 have f1:w2.frozen? ⟨b,1,none⟩=false:=Lib.frozen_of_heap hb2 1
 obtain ⟨ao,n',cap,rfl⟩: ∃ao n' cap,v'= .slice ao n' cap:=by
  rcases hown'.2 with ⟨hv,_⟩ | ⟨g,cap,cur,hv,_⟩
  ·exact ⟨_,_,_,hv⟩
  ·exact ⟨_,_,_,hv⟩
 go_wp2
 go_ret2
 exact ⟨Zb,_,w1,w2,hT,hG,hown',rfl⟩
theorem Rl {H:List AM.Obj} {o r:Nat} {bs:List UInt8} (hH:H[o]? =some (.bld 77 5 r bs)) (s:List UInt8) (hs:s≠ []) (hl:bs.length+s.length<=140737488355328) :
  ACalls Tryz.prog 31 [.bp o,.p (.str s)] H fun x H'=>x= .tup [.p (.int .i64 s.length),.p .nili]/\H'=H.set o (.bld 77 5 r (bs++s)):=by
 refine ⟨cH,fun F ι w vs hr hv=> ?_⟩;obtain ⟨h1,h2⟩:=hv;have e0:=h2 0 _ rfl;have e1:=QX (h2 1 _ rfl);obtain ⟨hor,hrd,b,go,q1,q2,p,v,w1,w2,w3,w4⟩:=hr.bldr o _ _ r bs hH
 have e0':vs.getD 0 undef= .pointer (some ⟨b,0,none⟩):=by
  generalize vs.getD 0 undef=x at e0
  cases e0 with
  | bp _ b2 T2 E2 r2 bs2 h hH2=>rw [q1] at h;simp at h;rw [h]
  | bpD _ _ h=>rw [hH] at h;cases h
 have hvs:vs= #[.pointer (some ⟨b,0,none⟩),.string ⟨s.toArray⟩]:=by
  apply Array.ext
  ·simpa using h1
  ·intro i h3 h4
   have:i=0\/i=1:=by simp at h4;omega
   rcases this with rfl | rfl
   ·have:vs.getD 0 undef=vs[0]:=by simp [Array.getD,h3]
    rw [<- this,e0'];rfl
   ·have:vs.getD 1 undef=vs[1]:=by simp [Array.getD,h3]
    rw [<- this,e1];rfl
 subst w3
 have hne:v.ownBlock≠some b:=fun e=>by have:=hr.inj o r b q1 (by rw [q2,e]);omega
 rw [hvs];refine (CR dJ Wc s hs w1 w2 hne w4 hl).mono ?_;rintro e w' ⟨rfl,v',wa,wb,hT,hG,ho,rfl⟩;refine ⟨_,_,_,_,rfl,⟨rfl,rfl⟩,Jw (bs':=bs++s) hr hH q1 q2 w1 hT hG (by rw [List.length_append,List.map_append];exact ho) hne,.tup _ _ rfl fun j c hj=> ?_⟩
 match j,hj with
 | 0,hj=>simp at hj;subst hj;exact .p _ _ (.int _ _)
 | 1,hj=>simp at hj;subst hj;exact .p _ _ .nili
 | j+2,hj=>simp at hj
theorem BN {P:Program} {ρ:Ren} (L:Lays.n169 P ρ) (X:Builder.Extra P ρ) {p v:Value} {b:Nat} {l:List UInt8} {w:World} (h0:l≠ []) (hbk:w.heap[b]? =some (.cells #[p,v] (ρ.t 72) (0,0))) (hown:w.ownsRow 0 (ρ.t 5) 1 v l.length (l.map fun x=> .int .u8 x.toNat)) :
  Calls P (ρ.f 169) #[.pointer (some ⟨b,0,none⟩)] w fun e w'=>e= .returned (.string ⟨l.toArray⟩)/\ ∃g n,v.ownBlock=some g/\w'=w.drew.freeze ⟨g,0,none⟩ n:=by
 have hl0:l.length≠0:=by simpa using h0
 obtain ⟨g,cap,cur,rfl,hg,hnc,hcm,hcs,htake⟩: ∃g cap cur,v= .slice (some ⟨g,0,none⟩) l.length cap/\w.heap[g]? =some (.cells cur (ρ.t 5) (0,0))/\l.length<=cap/\cap<=maxLen/\cur.size=cap*1/\cur.toList.take (l.length*1)=l.map fun x=>Value.int .u8 x.toNat:=by
  rcases hown.2 with ⟨_,hz⟩ | ⟨g,cap,cur,hv,_,r⟩
  ·exact absurd hz hl0
  ·exact ⟨g,cap,cur,hv,r⟩
 have c1:w.drew.cell? ⟨b,1,none⟩=some (.slice (some ⟨g,0,none⟩) l.length cap):=by
  have:w.drew.heap[b]? =some (.cells #[p,.slice (some ⟨g,0,none⟩) l.length cap] (ρ.t 72) (0,0)):=hbk;rw [Lib.cell_of_heap this];rfl
 have hSD:(Builtin.unsafeSliceData_ #[(ρ.t 37)] (ρ.t 127) #[.slice (some ⟨g,0,none⟩) l.length cap]).run P w.drew= .ok (.pointer (some ⟨g,0,none⟩)) w.drew :=
  Lib.run_unsafeSliceData_row _ _ _ _ _ _ Za
 have hUS:(Builtin.unsafeString_ #[(ρ.t 127),(ρ.t 3)] (ρ.t 9) #[.pointer (some ⟨g,0,none⟩),.int .i64 l.length]).run P w.drew= .ok (.string ⟨l.toArray⟩) (w.drew.freeze ⟨g,0,none⟩ l.length):=by
  refine Lib.run_unsafeString_row w.drew (ρ.t 127) (ρ.t 3) (ρ.t 9) (ρ.t 5) L.t127 X.cellsByte g cur.size (by have hg':w.drew.heap[g]? =some (.cells cur (ρ.t 5) (0,0)):=hg;simp [World.shape?,hg']) l h0 Za (by unfold maxLen at hcm;omega) ?_;intro j x hx;have:=hown.cells (g:=g) rfl j (.int .u8 x.toNat) (by simp [hx]);exact this
 have mixed:=L.mixed;have t72:=L.t72;have a72:=L.a72;have z72:=L.z72;have v72:=L.v72;have u72:=run_underlying L.t72;have t70:=L.t70;have a70:=L.a70;have z70:=L.z70;have v70:=L.v70;have u70:=run_underlying L.t70;have t37:=L.t37;have a37:=L.a37;have z37:=L.z37;have v37:=L.v37;have u37:=run_underlying L.t37;have t127:=L.t127;have a127:=L.a127;have z127:=L.z127;have v127:=L.v127;have u127:=run_underlying L.t127;have t3:=L.t3;have a3:=L.a3;have z3:=L.z3;have v3:=L.v3;have u3:=run_underlying L.t3;have t9:=L.t9;have a9:=L.a9;have z9:=L.z9;have v9:=L.v9;have u9:=run_underlying L.t9
 have t5:=X.t5;have a5:=X.a5;have z5:=X.z5;have v5:=X.v5;have u5:=run_underlying X.t5
 go_enter L.f169,Body.n169_ntmps _
 go_wp2
 go_region_o
 all_goals (go_wp2;go_ret;exact ⟨rfl,g,_,rfl,rfl⟩)
theorem FS {H:List AM.Obj} {o r:Nat} {bs:List UInt8} (hH:H[o]? =some (.bld 77 5 r bs)) (hs:bs≠ []) :
  ACalls Tryz.prog 33 [.bp o] H fun x H'=>x= .p (.str bs)/\H'=H.set o .dead:=by
 refine ⟨MH,fun F ι w vs hr hv=> ?_⟩;obtain ⟨h1,h2⟩:=hv;have e0:=h2 0 _ rfl;obtain ⟨hor,hrd,b,go,q1,q2,p,v,w1,w2,w3,w4⟩:=hr.bldr o _ _ r bs hH
 have e0':vs.getD 0 undef= .pointer (some ⟨b,0,none⟩):=by
  generalize vs.getD 0 undef=x at e0
  cases e0 with
  | bp _ b2 T2 E2 r2 bs2 h hH2=>rw [q1] at h;simp at h;rw [h]
  | bpD _ _ h=>rw [hH] at h;cases h
 have hvs:vs= #[.pointer (some ⟨b,0,none⟩)]:=by
  apply Array.ext
  ·simpa using h1
  ·intro i h3 h4
   have:i=0:=by simp at h4;omega
   subst this
   have:vs.getD 0 undef=vs[0]:=by simp [Array.getD,h3]
   rw [<- this,e0'];rfl
 rw [hvs];refine (BN Ky Wc hs w1 w4).mono ?_;rintro e w' ⟨rfl,g,n,hg,rfl⟩;refine ⟨_,_,_,_,rfl,⟨rfl,rfl⟩,UC hr hH q1 q2 ?_ ?_ ?_ ?_ ?_,.p _ _ (.str _)⟩
 ·unfold World.freeze;split<;>rfl
 ·refine ⟨?_,.inr trivial⟩;unfold World.freeze;split<;>rfl
 ·unfold World.freeze;split<;>rfl
 ·unfold World.freeze
  split
  ·exact Nat.le_refl _
  ·show w.heap.size<=(Array.modify w.heap _ _).size
   rw [Array.size_modify];exact Nat.le_refl _
 ·intro k hk hne;have:k≠g:=fun e=>hne (by rw [<- w3,hg,e]);unfold World.freeze
  split
  ·rfl
  ·simp only [Array.getElem?_modify];rw [if_neg (fun e=>this e.symm)]
   rfl
theorem IE {H:List AM.Obj} {o r:Nat} (hH:H[o]? =some (.bld 77 5 r [])) :
  ACalls Tryz.prog 33 [.bp o] H fun x H'=>x= .p (.str [])/\H'=H.set o .dead:=by
 refine ⟨MH,fun F ι w vs hr hv=> ?_⟩;obtain ⟨h1,h2⟩:=hv;have e0:=h2 0 _ rfl;obtain ⟨hor,hrd,b,go,q1,q2,p,v,w1,w2,w3,w4⟩:=hr.bldr o _ _ r [] hH
 have e0':vs.getD 0 undef= .pointer (some ⟨b,0,none⟩):=by
  generalize vs.getD 0 undef=x at e0
  cases e0 with
  | bp _ b2 T2 E2 r2 bs2 h hH2=>rw [q1] at h;simp at h;rw [h]
  | bpD _ _ h=>rw [hH] at h;cases h
 have hvs:vs= #[.pointer (some ⟨b,0,none⟩)]:=by
  apply Array.ext
  ·simpa using h1
  ·intro i h3 h4
   have:i=0:=by simp at h4;omega
   subst this
   have:vs.getD 0 undef=vs[0]:=by simp [Array.getD,h3]
   rw [<- this,e0'];rfl
 rw [hvs]
 have key:Calls Tryz.prog 33 #[.pointer (some ⟨b,0,none⟩)] w fun e w'=>e= .returned (.string ⟨#[]⟩)/\Below w.heap.size w w':=by
  rcases w4.2 with ⟨rfl,_⟩ | ⟨g,cap,cur,rfl,hbg,hg,_⟩
  ·exact Any.Builder_String_nil Ky Wc _ b p w w1
  ·by_cases hc0:cap=0
   ·subst hc0;exact Any.Builder_String_noroom Ky Wc _ b g p cur w (Nat.le_refl _) w1 hg
   ·exact Any.Builder_String_room Ky Wc _ b g cap p w hc0 w1
 refine key.mono ?_;rintro e w' ⟨rfl,hb⟩;exact ⟨_,_,_,_,rfl,⟨rfl,rfl⟩,UC hr hH q1 q2 hb.os ⟨hb.tape,.inr trivial⟩ hb.output hb.size (fun k hk _=>hb.block k hk),.p _ _ (.str _)⟩
theorem IF {H:List AM.Obj} {o r:Nat} {bs:List UInt8} (hH:H[o]? =some (.bld 77 5 r bs)) :
  ACalls Tryz.prog 33 [.bp o] H fun x H'=>x= .p (.str bs)/\H'=H.set o .dead:=by
 by_cases h:bs= []
 ·subst h;exact IE hH
 ·exact FS hH h
end Go.Proofs.YtmbelkfkhclnkaaGreatDoor.K
namespace Go.AM
open Go.RowKit
theorem Grew.afterAlloc {w w2:World} {ob:Go.Obj} {go go':Option Nat} (h:Grew (w.alloc ob) w2 go go'):Grew w w2 go go':=by
 have sz:(w.alloc ob).heap.size=w.heap.size+1:=by show (w.heap.push ob).size=_;simp
 have old: ∀k,k<w.heap.size->(w.alloc ob).heap[k]? =w.heap[k]? :=fun k hk=>by
  show (w.heap.push ob)[k]? =_
  rw [Array.getElem?_push,if_neg Za]
 refine ⟨h.os,h.tape.trans (Tp.of rfl (Nat.le_refl _)),h.output,by have:=h.size;omega,fun k hk hg=>by rw [h.old k Za hg,old k hk],fun g hg=> ?_,fun g c t hg hw=>h.shape g c t hg (by rw [old g (Array.getElem?_eq_some_iff.1 hw).1];exact hw)⟩;obtain ⟨h1,h2⟩:=h.new g hg;exact ⟨h1,h2.imp id fun h=>Za⟩
theorem AP {P:Program} {o:Oper} {a:Act} {w:World} {K:Act->World->Prop} {Q:Exit->Act->World->Prop} {t e:TypeId} {x:Operand} {n:Int} {i:TypeInfo} (ho:o.op= .buildSlice t 1 #[(0,x)]) (ht:P.underlying t=some (.slice e)) (hi:P.info? e=some i) (hz:i.zero=some (.int .u8 0)) (hs:i.size=1) (hx:a.eval x= .int .u8 n)
  (h:K (a.put o.dst (.slice (some ⟨w.heap.size,0,none⟩) 1 1)) (w.alloc (.cells #[.int .u8 n] e))):Oper.wp P o a w K Q:=by
 have h1:(sizeOf e).run P w= .ok 1 w:=ZD (by simp [Xk,hi,hs])
 have hr:(execOp a.eval o).run P w= .ok (.value (.slice (some ⟨w.heap.size,0,none⟩) 1 1)) (w.alloc (.cells #[.int .u8 n] e)):=by
  have e1:Array.range 1= #[0]:=by decide
  have hc: ∀m,(Value.int IntKind.u8 m).cells= #[Value.int IntKind.u8 m]:=fun _=>rfl;simp [execOp,ho,Instr.buildSlice,run_underlying ht,h1,zeroValue,typeInfo,hi,hz,newRow,Instr.fill,hx,e1,hc]
 unfold Oper.wp;rw [hr];exact h
theorem KT {P:Program} {w:World} {ops:Array Oper} {rest:List Oper} {o:Oper} {a:Act} {Q:Exit->Act->World->Prop} (hgd:o.guard=none) (sl x:Operand) (t:TypeId)
  (ho:o.op= .call { callee:= .builtin .append,args:= #[sl,x],argTypes:= #[t,t] }) (e:TypeId) (i:TypeInfo) (ht:P.underlying t=some (.slice e)) (hi:P.info? e=some i) (hz:i.zero=some (.int .u8 0)) (hs1:i.size=1) (hby:i.bytes=1)
  (v:Value) (n:Nat) (xs:List Value) (hs:a.eval sl=v) (hown:w.ownsRow 0 e 1 v n xs) (c:UInt8) (ad:Addr) (hx:a.eval x= .slice (some ad) 1 1) (hc:w.cell? ad=some (.int .u8 c.toNat)) (hb:n+1<=140737488355328)
  (h: ∀v' w',w'.ownsRow 0 e 1 v' (n+1) (xs++ [.int .u8 c.toNat])->Grew w w' v.ownBlock v'.ownBlock->wpList P ops Q rest (a.put o.dst v') w'):wpList P ops Q (o::rest) a w:=by
 refine wpList_plain hgd fun K hK=> ?_
 have hsrc:Src P (fun _=>False) w t (.slice (some ad) 1 1) 1 ([c].map fun b=>PV.int .u8 b.toNat) ([c].map fun b=>Value.int .u8 b.toNat):=by
  refine ⟨rfl,.inr ⟨e,ht⟩,fun w'=>by simp [Builtin.lenOf],fun w' hw=>YX (w:=w) Zb (fun j u hj=> ?_) w' hw,fun i y j d hi hj=> ?_⟩
  ·cases j with
   | zero=>simp at hj;subst hj;simpa [Addr.add] using hc
   | succ j=>simp at hj
  ·cases i with
   | zero =>
    simp at hi;subst hi
    cases j with
    | zero=>simp [PV.cells] at hj;subst hj;exact .int _ _
    | succ j=>simp [PV.cells] at hj
   | succ i=>simp at hi
 obtain ⟨v',w',hr,h2,h3⟩:=A5 (P:=P) (ty:=o.type) ht hi hz hs1 hby hown [c] Zb hsrc hb;unfold Oper.wp execOp;simp only [ho,resolve,invoke,builtin,Sem.run_bind,Sem.run_pure,Result.andThen_ok,List.map_toArray,List.map_cons,List.map_nil,hs,hx,hr];exact hK _ _ (h v' w' h2 h3)
end Go.AM
namespace Go.Proofs.YtmbelkfkhclnkaaGreatDoor.K
open Go Go.AM Go.Proofs Go.Shelf Go.RowKit
set_option maxRecDepth 100000
set_option maxHeartbeats 8000000
def wbR : Ren:=⟨fun | 167=>90 | n=>layJoin_ren.f n,layJoin_ren.t,layJoin_ren.g⟩
theorem dI : Lays.n167 Tryz.prog wbR:= { VK with
 f167:=Tryz.func90.trans (congrArg some Zh),
 t5:=Tryz.underlying5,a5:=Tryz.isAgg5,z5:=Tryz.sizeOf5,v5:=Tryz.zeroValue5 }
theorem bF : Builder.Extra Tryz.prog wbR:= {
 sizeBuilder:=Zh,liesBuilder:=Zh,
 t5:=Tryz.underlying5,a5:=Tryz.isAgg5,z5:=Tryz.sizeOf5,v5:=Tryz.zeroValue5,
 infoByte:=Zh,cellsByte:=Zh,sizeByte:=Zh,neB5:=by decide }
theorem Bp {P:Program} {ρ:Ren} (L:Lays.n167 P ρ) (X:Builder.Extra P ρ) {n:Nat} {p v:Value} {b:Nat} {xs:List Value} {w:World} (c:UInt8) (hbk:w.heap[b]? =some (.cells #[p,v] (ρ.t 72) (0,0))) (hp:p= .pointer none\/p= .pointer (some ⟨b,0,none⟩)) (hne:v.ownBlock≠some b)
  (hown:w.ownsRow 0 (ρ.t 5) 1 v n xs) (hb:n+1<=140737488355328) :
  Calls P (ρ.f 167) #[.pointer (some ⟨b,0,none⟩),.int .u8 c.toNat] w fun e w'=>e= .returned .nilIface /\
   ∃v' w1 w2,Turned w w1 b #[.pointer (some ⟨b,0,none⟩),v] (ρ.t 72)/\Grew w1 w2 v.ownBlock v'.ownBlock/\w2.ownsRow 0 (ρ.t 5) 1 v' (n+1) (xs++ [.int .u8 c.toNat])/\w'=w2.setCell ⟨b,1,none⟩ v':=by
 obtain ⟨i0,hi,hz0,hz1,hz2⟩:=info_parts X.infoByte;have mixed:=L.mixed;have t72:=L.t72;have a72:=L.a72;have z72:=L.z72;have v72:=L.v72;have u72:=run_underlying L.t72;have t70:=L.t70;have a70:=L.a70;have z70:=L.z70;have v70:=L.v70;have u70:=run_underlying L.t70;have t5:=L.t5;have a5:=L.a5;have z5:=L.z5;have v5:=L.v5;have u5:=run_underlying L.t5;have t37:=L.t37;have a37:=L.a37;have z37:=L.z37;have v37:=L.v37;have u37:=run_underlying L.t37;have t9:=L.t9;have a9:=L.a9;have z9:=L.z9;have v9:=L.v9;have u9:=run_underlying L.t9
 have t4:=L.t4;have a4:=L.a4;have z4:=L.z4;have v4:=L.v4;have u4:=run_underlying L.t4;have t164:=L.t164;have a164:=L.a164;have z164:=L.z164;have v164:=L.v164;have u164:=run_underlying L.t164
 have hcc:Calls P (ρ.f 240) #[.pointer (some ⟨b,0,none⟩)] w fun e w1=>e= .returned (.tuple #[])/\Turned w w1 b #[.pointer (some ⟨b,0,none⟩),v] (ρ.t 72):=by
  rcases hp with rfl | rfl
  ·refine (Any.Builder_copyCheck_fresh { L with } X.toX72 b w (by rw [Lib.cell_of_heap hbk];rfl) (by show w.shape? b=_;simp [World.shape?,hbk]) (Lib.frozen_of_heap hbk 0)).mono ?_;rintro e w' ⟨rfl,rfl⟩;exact ⟨rfl,rfl,⟨rfl,.inr trivial⟩,rfl,Nat.le_refl _,by simp [World.setCell],by simp [World.setCell,Array.getElem?_modify,hbk],fun k hk=>Below.heap_setCell _ _ _ _ (fun e=>hk (by simpa using e))⟩
  ·refine (Any.Builder_copyCheck_used { L with } X.toX72 b w (by rw [Lib.cell_of_heap hbk];rfl)).mono ?_;rintro e w' ⟨rfl,rfl⟩;exact ⟨rfl,rfl,⟨rfl,.inr trivial⟩,rfl,Nat.le_refl _,rfl,hbk,fun _ _=>rfl⟩
 have e240: ∀args w,(callFunc (ρ.f 240) args).run P w= .ok (.enter (ρ.f 240) args) w:=enters_of L.f240 Zh rfl
 go_enter L.f167,Body.n167_ntmps _
 go_wp2_with (go_at_fn (ρ.f 240);refine hcc.mono ?_)
 rintro e w1 ⟨rfl,hT⟩
 have c0:w1.cell? ⟨b,0,none⟩=some (.pointer (some ⟨b,0,none⟩)):=by rw [Lib.cell_of_heap hT.at'];rfl
 have c1:w1.cell? ⟨b,1,none⟩=some v:=by rw [Lib.cell_of_heap hT.at'];rfl
 have hblt:b<w1.heap.size:=(Array.getElem?_eq_some_iff.1 hT.at').1
 have hown1:w1.ownsRow 0 (ρ.t 5) 1 v n xs:=by
  rcases hown with ⟨o1,o2 | ⟨g,cap,cur,o2,o3,o4,o5⟩⟩
  ·exact ⟨o1,.inl o2⟩
  ·exact ⟨o1,.inr ⟨g,cap,cur,o2,o3,by rw [hT.other g (fun e=>hne (by rw [o2,e];rfl))];exact o4,o5⟩⟩
 go_wp2
 refine AP (e:=ρ.t 5) rfl L.t37 hi hz0 hz1 rfl ?_
 go_wp2_with (at_builtin;refine KT rfl _ _ _ rfl (ρ.t 5) i0 L.t37 hi hz0 hz1 hz2 v n xs rfl (hown1.alloc _) c ⟨w1.heap.size,0,none⟩ rfl Zb hb ?_)
 intro v' w2 hown' hG;have hG:=hG.afterAlloc
 have hb2:w2.heap[b]? =some (.cells #[.pointer (some ⟨b,0,none⟩),v] (ρ.t 72) (0,0)):=by
  rw [hG.old b hblt (fun e=>hne e.symm)];exact hT.at'
 have d0:w2.cell? ⟨b,0,none⟩=some (.pointer (some ⟨b,0,none⟩)):=by rw [Lib.cell_of_heap hb2];rfl
 have d1:w2.cell? ⟨b,1,none⟩=some v:=by rw [Lib.cell_of_heap hb2];rfl
 have f1:w2.frozen? ⟨b,1,none⟩=false:=Lib.frozen_of_heap hb2 1
 obtain ⟨ao,n',cap,rfl⟩: ∃ao n' cap,v'= .slice ao n' cap:=by
  rcases hown'.2 with ⟨hv,_⟩ | ⟨g,cap,cur,hv,_⟩
  ·exact ⟨_,_,_,hv⟩
  ·exact ⟨_,_,_,hv⟩
 go_wp2
 go_ret
 exact ⟨rfl,_,w1,w2,hT,hG,hown',rfl⟩
theorem DV {H:List AM.Obj} {o r:Nat} {bs:List UInt8} (hH:H[o]? =some (.bld 77 5 r bs)) (c:UInt8) (hl:bs.length+1<=140737488355328) :
  ACalls Tryz.prog 90 [.bp o,.p (.int .u8 (c.toNat:Nat))] H fun x H'=>x= .p .nili/\H'=H.set o (.bld 77 5 r (bs++ [c])):=by
 refine ⟨dB,fun F ι w vs hr hv=> ?_⟩;obtain ⟨h1,h2⟩:=hv;have e0:=h2 0 _ rfl;have e1:=CA (h2 1 _ rfl);obtain ⟨hor,hrd,b,go,q1,q2,p,v,w1,w2,w3,w4⟩:=hr.bldr o _ _ r bs hH
 have e0':vs.getD 0 undef= .pointer (some ⟨b,0,none⟩):=by
  generalize vs.getD 0 undef=x at e0
  cases e0 with
  | bp _ b2 T2 E2 r2 bs2 h hH2=>rw [q1] at h;simp at h;rw [h]
  | bpD _ _ h=>rw [hH] at h;cases h
 have hvs:vs= #[.pointer (some ⟨b,0,none⟩),.int .u8 c.toNat]:=by
  apply Array.ext
  ·simpa using h1
  ·intro i h3 h4
   have:i=0\/i=1:=by simp at h4;omega
   rcases this with rfl | rfl
   ·have:vs.getD 0 undef=vs[0]:=by simp [Array.getD,h3]
    rw [<- this,e0'];rfl
   ·have:vs.getD 1 undef=vs[1]:=by simp [Array.getD,h3]
    rw [<- this,e1];rfl
 subst w3
 have hne:v.ownBlock≠some b:=fun e=>by have:=hr.inj o r b q1 (by rw [q2,e]);omega
 rw [hvs];refine (Bp dI bF c w1 w2 hne w4 hl).mono ?_;rintro e w' ⟨rfl,v',wa,wb,hT,hG,ho,rfl⟩;exact ⟨_,_,_,_,rfl,⟨rfl,rfl⟩,Jw (bs':=bs++ [c]) hr hH q1 q2 w1 hT hG (by rw [List.length_append,List.map_append];exact ho) hne,.p _ _ .nili⟩
end Go.Proofs.YtmbelkfkhclnkaaGreatDoor.K
namespace Go.Proofs.YtmbelkfkhclnkaaGreatDoor.K
open Go Go.AM Go.Proofs
set_option maxRecDepth 8000
set_option maxHeartbeats 8000000
theorem MV {g:FuncId} {args:List V} {a:PV} {H:List AM.Obj} {K:V->List AM.Obj->Prop} (h:ACalls Tryz.prog g args [] fun x H'=>x= .tup [.p a,.err]/\H'= []) (k:K (.tup [.p a,.err]) H) (ha:Zy 0 args=true:=by rfl):ACalls Tryz.prog g args H K :=
 (h.behind ha H).mono fun x H' hq=>by
  obtain ⟨y,H1,⟨rfl,rfl⟩,rfl,rfl⟩:=hq;simpa [Bf,Wl] using k
theorem G2 (s:List UInt8) (hs:s.length<=1048576):PT 93 [.p (.str s)] [.p (.int .i64 (ZP s).1),.p (.int .i64 (ZP s).2)]:=by
 have htl:(Zj s).length<=1048576:=by
  unfold Zj
  split
  ·rw [List.length_drop];omega
  ·omega
 have hat:=fun h0 h h1=>G0 (s:=s) h0 h h1
 have hnum:ZP s=if Zj s= []\/((nth (Zj s) 0).toNat=48/\s≠ [48]) then (0,3) else if (Zj s).all Z8=false then (0,3) else ZP s:=by
  by_cases h1:Zj s= []\/((nth (Zj s) 0).toNat=48/\s≠ [48])
  ·rw [if_pos h1,ZP,if_pos h1]
  ·rw [if_neg h1]
   by_cases h2:(Zj s).all Z8=false
   ·rw [if_pos h2,ZP,if_neg h1,if_pos h2]
   ·rw [if_neg h2]
 generalize ZP s=N at *
 rw [hnum];clear hnum;refine Ze [11] Tryz.func93 rfl dD ?_;simp (disch:=omega) only [Tryz.f93,go_sem,seval];refine (Mb s Za).use ?_;simp (disch:=omega) only [go_sem,seval]
 generalize Zj s=d at *
 have hdl:d= []\/0<d.length:=by cases d<;>simp
 rcases hdl with he | hdl
 ·subst he;rw [if_pos (.inl rfl)];refine gF ?_ ?_<;>intro h1<;>simp (disch:=omega) only [Sh.out h1,go_sem,seval]
  ·exact we
  ·simp at h1
 ·have hne: ¬d= []:=List.length_pos_iff.1 hdl;have hb:=J3 (nth d 0);refine gF ?_ ?_<;>intro h1<;>simp (disch:=omega) only [Sh.out h1,go_sem,seval]
  ·exact absurd h1 hne
  ·refine gT ?_ ?_<;>intro h2<;>simp (disch:=omega) only [Sh.out h2,go_sem,seval]
   ·refine cD ?_ ?_<;>intro h3<;>simp (disch:=omega) only [Sh.out h3,go_sem,seval]
    ·rw [if_pos (.inr ⟨Za,h3⟩)];exact we
    ·rw [if_neg (by rintro (e | e);exact hne e;exact e.2 (by simpa using h3))];refine ZR [11] [0,4,22] (fun k:Nat=> [(23,.p (.int .i64 k))]) (fun _=> []) (fun k=>k<=d.length/\ ∀j,j<k->Z8 (nth d j)=true) (fun k=>d.length-k) 0 Zb (Weak.mk ?_) ?_
     ·simp (disch:=omega) only [go_sem,seval]
     ·rintro k ⟨hk,hno⟩;simp (disch:=omega) only [go_sem,seval];refine cD ?_ ?_<;>intro h7<;>simp (disch:=omega) only [Sh.out h7,go_sem,seval]
      ·have hk2:k<d.length:=Za
       have hbk:=J3 (nth d k);have cd:PC 129 [.p (.int .u8 ((nth d k).toNat:Nat))] (.bool (Z8 (nth d k))):=Bm _ Za;refine (cd).use ?_;simp (disch:=omega) only [go_sem,seval]
       cases hd:Z8 (nth d k) with
       | false =>
        have Xe:d.all Z8=false:=List.all_eq_false.2 ⟨_,Zr hk2,by rw [hd];simp⟩;rw [if_pos Xe];simp (disch:=omega) only [hd,Bool.not_false,go_sem,seval];exact we
       | true =>
        simp (disch:=omega) only [hd,Bool.not_true,Bool.false_eq_true,go_sem,seval];exact ⟨k+1,⟨Za,ZL.2 ⟨hno,hd⟩⟩,Za,wk⟩
      ·have Xe:d.all Z8=true:=by
        rw [List.all_eq_true];intro b hb;obtain ⟨j,hj,rfl⟩:=List.mem_iff_getElem.1 hb;rw [<- Zg hj];exact hno j Za
       rw [if_neg (by rw [Xe];simp)];rcases hat hne Xe (fun e=>e.2 (by simpa using h3)) with ⟨n,hn,hN⟩ | ⟨hn,hN⟩
       ·rw [hN];refine Ux (C6 s n Za hn) ?_;simp (disch:=omega) only [go_sem,seval];refine ZI (ZI (Vz 1 rfl rfl ?_));refine ⟨_,Dy rfl Zh rfl,?_⟩;rintro _ rfl;simp (disch:=omega) only [go_sem,seval];refine Zc [] _ _ _ _ ?_;simp (disch:=omega) only [go_sem,seval];refine Zc [] _ _ _ _ ?_;simp (disch:=omega) only [go_sem,seval];exact we
       ·rw [hN];refine MV (C7 s Za hn) ?_;simp (disch:=omega) only [go_sem,seval];refine ZI (ZI (Vz 1 rfl rfl ?_));refine ⟨_,Dx rfl Zh rfl,?_⟩;rintro _ rfl;simp (disch:=omega) only [go_sem,seval];refine Zc [] _ _ _ _ ?_;simp (disch:=omega) only [go_sem,seval];exact we
   ·rw [if_neg (by rintro (e | e);exact hne e;omega)];refine ZR [11] [0,4,22] (fun k:Nat=> [(23,.p (.int .i64 k))]) (fun _=> []) (fun k=>k<=d.length/\ ∀j,j<k->Z8 (nth d j)=true) (fun k=>d.length-k) 0 Zb (Weak.mk ?_) ?_
    ·simp (disch:=omega) only [go_sem,seval]
    ·rintro k ⟨hk,hno⟩;simp (disch:=omega) only [go_sem,seval];refine cD ?_ ?_<;>intro h7<;>simp (disch:=omega) only [Sh.out h7,go_sem,seval]
     ·have hk2:k<d.length:=Za
      have hbk:=J3 (nth d k);have cd:PC 129 [.p (.int .u8 ((nth d k).toNat:Nat))] (.bool (Z8 (nth d k))):=Bm _ Za;refine (cd).use ?_;simp (disch:=omega) only [go_sem,seval]
      cases hd:Z8 (nth d k) with
      | false =>
       have Xe:d.all Z8=false:=List.all_eq_false.2 ⟨_,Zr hk2,by rw [hd];simp⟩;rw [if_pos Xe];simp (disch:=omega) only [hd,Bool.not_false,go_sem,seval];exact we
      | true =>
       simp (disch:=omega) only [hd,Bool.not_true,Bool.false_eq_true,go_sem,seval];exact ⟨k+1,⟨Za,ZL.2 ⟨hno,hd⟩⟩,Za,wk⟩
     ·have Xe:d.all Z8=true:=by
       rw [List.all_eq_true];intro b hb;obtain ⟨j,hj,rfl⟩:=List.mem_iff_getElem.1 hb;rw [<- Zg hj];exact hno j Za
      rw [if_neg (by rw [Xe];simp)];rcases hat hne Xe (fun e=>Za) with ⟨n,hn,hN⟩ | ⟨hn,hN⟩
      ·rw [hN];refine Ux (C6 s n Za hn) ?_;simp (disch:=omega) only [go_sem,seval];refine ZI (ZI (Vz 1 rfl rfl ?_));refine ⟨_,Dy rfl Zh rfl,?_⟩;rintro _ rfl;simp (disch:=omega) only [go_sem,seval];refine Zc [] _ _ _ _ ?_;simp (disch:=omega) only [go_sem,seval];refine Zc [] _ _ _ _ ?_;simp (disch:=omega) only [go_sem,seval];exact we
      ·rw [hN];refine MV (C7 s Za hn) ?_;simp (disch:=omega) only [go_sem,seval];refine ZI (ZI (Vz 1 rfl rfl ?_));refine ⟨_,Dx rfl Zh rfl,?_⟩;rintro _ rfl;simp (disch:=omega) only [go_sem,seval];refine Zc [] _ _ _ _ ?_;simp (disch:=omega) only [go_sem,seval];exact we
@[go_sem] theorem RN (l:List (List UInt8)):UO 1 (l.map WW)=true:=WE (f:=WW) (S:=1) (fun _=>rfl) l
def Vf (s:List UInt8):Bool:=decide ((ZP s).2=0)
theorem EQ {α:Type} [Inhabited α] (l:List α) (i j:Nat):nth (l.drop i) j=nth l (i+j):=by
 simp [nth]
theorem Mh {o:Option (List (List UInt8))} (h:Wds [] o):o=some []:=by
 generalize e:([]:List UInt8)=s at h
 cases h with
 | nil=>rfl
 | bad _ h=>exact absurd e.symm h
 | whole _ h=>exact absurd e.symm h
 | bad2 _ n _ _ h2=>subst e;simp at h2
 | cons _ n _ _ _ h2=>subst e;simp at h2
theorem Rk {α:Type} {s:List UInt8} {o:Option (List (List UInt8))} (h:Wds s o) {f:List (List UInt8)->Option α} (hf: ∀ {ws r},f ws=some r-> ∀w∈ws,Xt w=true) (h0:f []=none):o.bind f=f (Xs s):=by
 cases hs:f (Xs s) with
 | some r=>rw [gM h (hf hs)];exact hs
 | none =>
  cases o with
  | none=>rfl
  | some ws =>
   show f ws=none
   cases hw:f ws with
   | none=>rfl
   | some r =>
    exfalso
    by_cases e:s= []
    ·subst e;rw [Option.some.inj (Mh h),h0] at hw;cases hw
    ·rw [gL h ws rfl e (hf hw),hw] at hs;cases hs
theorem FZ {s:List UInt8} (h: ¬(XD s 10).2.2=false):(XD s 10).2.1.length<s.length/\(XD s 10).1.length<=s.length:=by
 have hb:=WM 10 s
 unfold XD at *
 split at h
 ·rename_i hh;rw [if_pos hh];simp only [List.length_drop,List.length_take];omega
 ·exact absurd rfl h
theorem II (s:List UInt8):(XD s 10).1.length<=s.length:=by
 unfold XD
 split
 ·simp only [List.length_take];omega
 ·exact Nat.le_refl _
theorem Jt (l:List UInt8) (b:UInt8) (a:Nat):Zz a (l++ [b])=Zz a l*10+(b.toNat-48):=by simp [Zz]
theorem Aj {l:List UInt8} (h:l.all Z8=true) (h0:l≠ []) (h1:(nth l 0).toNat≠48):0<Zz 0 l:=by
 cases l with
 | nil=>exact absurd rfl h0
 | cons b r =>
  have hd:=h;simp only [List.all_cons,Bool.and_eq_true,Z8,decide_eq_true_eq] at hd;have h1:b.toNat≠48:=h1;have:=UW r (0*10+(b.toNat-48));have e:Zz 0 (b::r)=Zz (0*10+(b.toNat-48)) r:=rfl;omega
theorem Qm : ∀(n:Nat) (l:List UInt8),l.length=n+1->l.all Z8=true->(nth l 0).toNat≠48->Q6 (Zz 0 l)=l
 | n,l,hl,h,h1=>by
  obtain ⟨r,b,rfl⟩: ∃r b,l=r++ [b]:=⟨l.dropLast,l.getLast (by intro e;rw [e] at hl;simp at hl),(List.dropLast_concat_getLast _).symm⟩;rw [List.all_append,Bool.and_eq_true] at h
  have hb:Z8 b=true:=by simpa using h.2
  simp only [Z8,Bool.and_eq_true,decide_eq_true_eq] at hb
  have hu:UInt8.ofNat (48+(b.toNat-48))=b:=by
   apply UInt8.toNat_inj.1;rw [Ri Za];omega
  rw [Jt]
  cases n with
  | zero =>
   have:r= []:=by simpa using hl
   subst this;rw [show Zz 0 []*10+(b.toNat-48)=b.toNat-48 by simp [Zz],Q6,dif_pos Za,hu];rfl
  | succ n =>
   have hr:r.length=n+1:=by simpa using hl
   have hn:nth (r++ [b]) 0=nth r 0:=by
    cases r with
    | nil=>simp at hr
    | cons=>rfl
   rw [hn] at h1;have hp:=Aj h.1 (by intro e;rw [e] at hr;simp at hr) h1;have ih:=Qm n r hr h.1 h1;rw [Q6,dif_neg Za,show (Zz 0 r*10+(b.toNat-48)) / 10=Zz 0 r by omega,show (Zz 0 r*10+(b.toNat-48))%10=b.toNat-48 by omega,ih,hu]
theorem YJ {s:List UInt8} (h:(ZP s).2=0):Ve (ZP s).1=s/\hU (ZP s).1:=by
 unfold ZP at h ⊢
 split at h
 ·exact absurd h (by decide)
 ·rename_i h1;rw [if_neg h1];have h0:Zj s≠ []:=fun e=>h1 (.inl e)
  split at h
  ·exact absurd h (by decide)
  ·rename_i h2;rw [if_neg h2]
   have h2:(Zj s).all Z8=true:=by simpa using h2
   split at h
   ·rename_i h3;rw [if_pos h3]
    split at h
    ·rename_i h4;rw [if_pos h4]
     have hs:s=45::Zj s:=by
      unfold Zj;rw [if_pos h3]
      cases s with
      | nil=>simp at h3
      | cons b l=>simp at h3;subst h3;rfl
     have h48:(nth (Zj s) 0).toNat≠48:=fun e=>h1 (.inr ⟨e,fun e2=>by rw [e2] at h3;exact absurd h3 (by decide)⟩);have hp:=Aj h2 h0 h48;have hb:=Qm ((Zj s).length-1) _ (by have:=List.length_pos_iff.2 h0;omega) h2 h48;refine ⟨?_,⟨by simp only;omega,by simp only;omega⟩⟩;simp only;rw [Ve,if_pos Za,show (-(Zz 0 (Zj s):Int)).natAbs=Zz 0 (Zj s) by omega,hb];exact hs.symm
    ·exact absurd h (by decide)
   ·rename_i h3;rw [if_neg h3]
    split at h
    ·rename_i h4;rw [if_pos h4]
     have hs:Zj s=s:=by rw [Zj,if_neg h3]
     rw [hs] at h0 h1 h2 h4 ⊢;refine ⟨?_,⟨by simp only;omega,by simp only;omega⟩⟩;simp only;rw [Ve,if_neg Za,show ((Zz 0 s:Nat):Int).natAbs=Zz 0 s by omega]
     by_cases h5:s= [48]
     ·subst h5;exact F3
     ·exact Qm (s.length-1) _ (by have:=List.length_pos_iff.2 h0;omega) h2 fun e=>h1 (.inr ⟨e,h5⟩)
    ·exact absurd h (by decide)
theorem JA (x y:List UInt8) (r:List (List UInt8)):XI (x::y::r) [32]=x++32::XI (y::r) [32]:=by
 rw [Wh,Wh];simp [Lib.joinTail]
theorem EC (x:List UInt8):XI [x] [32]=x:=by rw [Wh];simp [Lib.joinTail]
theorem P4 (s:List UInt8):Xs s≠ []:=by
 rw [Yc]
 split<;>simp
theorem Az : ∀(n:Nat) (s:List UInt8),s.length<=n->XI (Xs s) [32]=s
 | n,s,hn=>by
  rw [Yc]
  split
  ·exact EC s
  ·rename_i h;have hle:=Ul s;have hsp:=B5 s Za
   cases n with
   | zero=>omega
   | succ n =>
    have ih:=Az n (s.drop (Wg s+1)) (by rw [List.length_drop];omega)
    cases hc:Xs (s.drop (Wg s+1)) with
    | nil=>exact absurd hc (P4 _)
    | cons y r =>
     rw [hc] at ih;rw [JA,ih]
     have h1:s.drop (Wg s)=nth s (Wg s)::s.drop (Wg s+1):=by
      rw [List.drop_eq_getElem_cons Za,Zg Za]
     rw [<- hsp,<- h1,List.take_append_drop]
theorem VI (b:UInt8) (l:List UInt8) (c:UInt8):Lib.indexByte (b::l) c=if b=c then 0 else if Lib.indexByte l c= -1 then-1 else Lib.indexByte l c+1:=by
 rw [Lib.indexByte];simp
theorem GA (c:UInt8): ∀s:List UInt8,0<=Lib.indexByte s c->nth s (Lib.indexByte s c).toNat=c
 | [],h=>by simp [Lib.indexByte] at h
 | b::l,h=>by
  have hb:=WM c l;rw [VI] at h ⊢
  by_cases e:b=c
  ·rw [if_pos e];exact e
  ·rw [if_neg e] at h ⊢
   by_cases e2:Lib.indexByte l c= -1
   ·rw [if_pos e2] at h;omega
   ·rw [if_neg e2];have ih:=GA c l Za;rw [show (Lib.indexByte l c+1).toNat=(Lib.indexByte l c).toNat+1 by omega];exact ih
theorem GC (c:UInt8): ∀(a r:List UInt8),c ∉ a->Lib.indexByte (a++c::r) c=a.length
 | [],r,_=>by rw [List.nil_append,VI,if_pos rfl];rfl
 | b::l,r,h=>by
  have ih:=GC c l r fun e=>h (by simp [e]);rw [List.cons_append,VI,if_neg (fun e=>h (by simp [e])),ih,if_neg Za];simp
theorem GB (c:UInt8): ∀(a:List UInt8),c ∉ a->Lib.indexByte a c= -1
 | [],_=>rfl
 | b::l,h=>by rw [VI,if_neg (fun e=>h (by simp [e])),GB c l fun e=>h (by simp [e]),if_pos rfl]
theorem IK {a r:List UInt8} {c:UInt8} (h:c ∉ a):XD (a++c::r) c=(a,r,true):=by
 have e:=GC c a r h;rw [XD,e,if_pos Za];simp only [Int.toNat_natCast,List.take_left];rw [show a.length+1=(a++ [c]).length by simp,show a++c::r=(a++ [c])++r by simp,List.drop_left]
theorem IJ {a:List UInt8} {c:UInt8} (h:c ∉ a):XD a c=(a,[],false):=by
 rw [XD,GB c a h,if_neg Za]
theorem IG {s:List UInt8} {c:UInt8} (h:(XD s c).2.2=true):s=(XD s c).1++c::(XD s c).2.1:=by
 have hb:=WM c s
 unfold XD at *
 split at h
 ·rename_i h1;rw [if_pos h1];have ha:=GA c s h1
  have h2:s.drop (Lib.indexByte s c).toNat=nth s (Lib.indexByte s c).toNat::s.drop ((Lib.indexByte s c).toNat+1):=by
   rw [List.drop_eq_getElem_cons Za,Zg Za]
  simp only;rw [ha] at h2;rw [<- h2,List.take_append_drop]
 ·cases h
theorem Dh {α:Type} : ∀ {L:List (List α)} {x:List α},x∈L->x.length<=L.flatten.length
 | y::L,x,h=>by
  rw [List.flatten_cons,List.length_append];rcases List.mem_cons.1 h with rfl | h
  ·omega
  ·have:=Dh h;omega
theorem Ar {α:Type} : ∀ {L:List (List α)},(∀x∈L,x≠ [])->L.length<=L.flatten.length
 | [],_=>Zb
 | y::L,h=>by
  have h1:=List.length_pos_iff.2 (h y Zb);have:=Ar (L:=L) fun x hx=>h x (by simp [hx]);rw [List.flatten_cons,List.length_append,List.length_cons];omega
theorem Jz : ∀(ws:List (List UInt8)),ws.length<=(XI ws [32]).length+1
 | []=>Zb
 | [x]=>Zb
 | x::y::r=>by
  have:=Jz (y::r);rw [JA]
  simp only [List.length_append,List.length_cons] at *
  omega
def rowW : List UInt8:= [114,111,119]
def Ex : List UInt8:= [103,111]
def XA : List UInt8:= [114,101,115,116]
def nmF (s:List UInt8):Int:=(ZP s).1
def V8 : Row:=⟨0,⟨0,false⟩,0,⟨0,0,0,false⟩,true,[]⟩
def A7 (ws:List (List UInt8)):Bool :=
 Vf (nth ws 1)&&(decide (nth ws 2= [43])||decide (nth ws 2= [45]))&&((ws.take 8).drop 3).all Vf&&(decide (nth ws 8=Ex)||decide (nth ws 8=XA))&&(ws.drop 9).all Vf
def US (ws:List (List UInt8)):Option Row :=
 if ws.length<9\/nth ws 0≠rowW then none
 else if A7 ws=true then some ⟨nmF (nth ws 1),⟨nmF (nth ws 3),decide (nth ws 2= [45])⟩,nmF (nth ws 4),⟨nmF (nth ws 5),nmF (nth ws 6),nmF (nth ws 7),decide (nth ws 8=XA)⟩,false,(ws.drop 9).map nmF⟩
 else none
def JY (o:Option Row):V:=match o with
 | some r=> .tup [.p (X4 r),.p (.bool true)]
 | none=> .tup [.p (X4 V8),.p (.bool false)]
def XS : Nat->Int->List Row->List UInt8->(Bool×List Row)×Int×Int
 | 0,n,_,_=>((true,[]),n,3)
 | f+1,n,rs,s=>if s= [] then ((false,rs),0,0) else if (XD s 10).2.2=false then ((true,[]),n,3) else match US (Xs (XD s 10).1) with
  | none=>((true,[]),n,3)
  | some r=>XS f (n+1) (rs++ [r]) (XD s 10).2.1
def VW (q:(Bool×List Row)×Int×Int):V:= .tup [.p (.list q.1.1 (q.1.2.map X4)),.p (.int .i64 q.2.1),.p (.int .i64 q.2.2)]
theorem Cd {ws:List (List UInt8)} (h: ¬ws.length<9): ∃a b c d e f g i j t,ws=a::b::c::d::e::f::g::i::j::t:=by
 match ws,h with
 | [],h=>exact absurd (by decide) h
 | [_],h=>exact absurd Zb h
 | [_,_],h=>exact absurd Zb h
 | [_,_,_],h=>exact absurd Zb h
 | [_,_,_,_],h=>exact absurd Zb h
 | [_,_,_,_,_],h=>exact absurd Zb h
 | [_,_,_,_,_,_],h=>exact absurd Zb h
 | [_,_,_,_,_,_,_],h=>exact absurd Zb h
 | [_,_,_,_,_,_,_,_],h=>exact absurd Zb h
 | a::b::c::d::e::f::g::i::j::t,_=>exact ⟨a,b,c,d,e,f,g,i,j,t,rfl⟩
theorem XO {w:List UInt8} :Vf w=true↔(ZP w).2=0:=by simp [Vf]
theorem QZ {a b c d e f g i j:List UInt8} {t:List (List UInt8)} :A7 (a::b::c::d::e::f::g::i::j::t)=true ↔
  (ZP b).2=0/\(c= [43]\/c= [45])/\((ZP d).2=0/\(ZP e).2=0/\(ZP f).2=0/\(ZP g).2=0/\(ZP i).2=0)/\(j=Ex\/j=XA)/\ ∀w∈t,(ZP w).2=0:=by
 show (Vf b&&(decide (c= [43])||decide (c= [45]))&& [d,e,f,g,i].all Vf&&(decide (j=Ex)||decide (j=XA))&&t.all Vf)=true↔_
 simp only [Bool.and_eq_true,Bool.or_eq_true,decide_eq_true_eq,List.all_eq_true,XO,List.mem_cons,List.not_mem_nil,or_false,forall_eq_or_imp,forall_eq]
 constructor
 ·rintro ⟨⟨⟨⟨h1,h2⟩,h3⟩,h4⟩,h5⟩;exact ⟨h1,h2,h3,h4,h5⟩
 ·rintro ⟨h1,h2,h3,h4,h5⟩;exact ⟨⟨⟨⟨h1,h2⟩,h3⟩,h4⟩,h5⟩
theorem eM {a b c d e f g i j:List UInt8} {t:List (List UInt8)} :US (a::b::c::d::e::f::g::i::j::t) =
  if a=rowW/\A7 (a::b::c::d::e::f::g::i::j::t)=true then some ⟨nmF b,⟨nmF d,decide (c= [45])⟩,nmF e,⟨nmF f,nmF g,nmF i,decide (j=XA)⟩,false,t.map nmF⟩ else none:=by
 unfold US
 by_cases h:a=rowW
 ·rw [if_neg (by rintro (e | e);simp at e;omega;exact e h)]
  by_cases h2:A7 (a::b::c::d::e::f::g::i::j::t)=true
  ·rw [if_pos h2,if_pos ⟨h,h2⟩];rfl
  ·rw [if_neg h2,if_neg fun e=>h2 e.2]
 ·rw [if_pos (.inr h),if_neg fun e=>h e.1]
theorem DM {ws:List (List UInt8)} {r:Row} (h:US ws=some r): ∃b c d e f g i j t,ws=rowW::b::c::d::e::f::g::i::j::t /\
  ((ZP b).2=0/\(c= [43]\/c= [45])/\((ZP d).2=0/\(ZP e).2=0/\(ZP f).2=0/\(ZP g).2=0/\(ZP i).2=0)/\(j=Ex\/j=XA)/\ ∀w∈t,(ZP w).2=0) /\
  r=⟨nmF b,⟨nmF d,decide (c= [45])⟩,nmF e,⟨nmF f,nmF g,nmF i,decide (j=XA)⟩,false,t.map nmF⟩:=by
 have hl: ¬ws.length<9:=fun e=>by rw [US,if_pos (.inl e)] at h;cases h
 obtain ⟨a,b,c,d,e,f,g,i,j,t,rfl⟩:=Cd hl;rw [eM] at h
 split at h
 ·rename_i h1;obtain ⟨rfl,h1⟩:=h1;exact ⟨b,c,d,e,f,g,i,j,t,rfl,QZ.1 h1,(Option.some.inj h).symm⟩
 ·cases h
theorem HE {ws:List (List UInt8)} {r:Row} (h:US ws=some r): ∀w∈ws,Xt w=true:=by
 obtain ⟨b,c,d,e,f,g,i,j,t,rfl,⟨h1,h2,⟨h3,h4,h5,h6,h7⟩,h8,h9⟩,_⟩:=DM h;intro w hw;simp only [List.mem_cons] at hw;rcases hw with rfl | rfl | rfl | rfl | rfl | rfl | rfl | rfl | rfl | hw
 ·decide
 ·exact Yz h1
 ·rcases h2 with rfl | rfl<;>decide
 ·exact Yz h3
 ·exact Yz h4
 ·exact Yz h5
 ·exact Yz h6
 ·exact Yz h7
 ·rcases h8 with rfl | rfl<;>decide
 ·exact Yz (h9 w hw)
def MW (r:Row):Prop:=okD r.rt/\(∀n∈rowNs r,okD n)/\ ∀n∈r.load,okD n
theorem E8 (r:Row):XB r r.load.length= [rowW,decS r.rt,(if r.v.drp=true then [45] else [43]),decS r.v.order,decS r.place,decS r.tm.arr,decS r.tm.beg,decS r.tm.dep,JV r]++r.load.map decS:=by
 rw [XB,List.take_length];rfl
theorem PQ {ws:List (List UInt8)} {r:Row} (h:US ws=some r):XB r r.load.length=ws/\MW r:=by
 obtain ⟨b,c,d,e,f,g,i,j,t,rfl,⟨h1,h2,⟨h3,h4,h5,h6,h7⟩,h8,h9⟩,rfl⟩:=DM h;have n1:=YJ h1;have n3:=YJ h3;have n4:=YJ h4;have n5:=YJ h5;have n6:=YJ h6;have n7:=YJ h7;refine ⟨?_,n1.2,fun n hn=> ?_,fun n hn=> ?_⟩
 ·rw [E8]
  have e9:(t.map nmF).map decS=t:=by
   rw [List.map_map];have: ∀w∈t,(decS∘nmF) w=id w:=fun w hw=>(YJ (h9 w hw)).1;rw [List.map_congr_left this,List.map_id]
  have e2:(if decide (c= [45])=true then [45] else [43])=c:=by
   rcases h2 with rfl | rfl<;>rfl
  have e8:(if decide (j=XA)=true then [114,101,115,116] else [103,111])=j:=by
   rcases h8 with rfl | rfl<;>rfl
  show [rowW,Ve (ZP b).1,(if decide (c= [45])=true then [45] else [43]),Ve (ZP d).1,Ve (ZP e).1,Ve (ZP f).1,Ve (ZP g).1,Ve (ZP i).1,(if decide (j=XA)=true then [114,101,115,116] else [103,111])]++(t.map nmF).map decS=_
  rw [n1.1,n3.1,n4.1,n5.1,n6.1,n7.1,e2,e8,e9];rfl
 ·simp only [rowNs,List.mem_cons,List.not_mem_nil,or_false] at hn;rcases hn with rfl | rfl | rfl | rfl | rfl
  ·exact n3.2
  ·exact n4.2
  ·exact n5.2
  ·exact n6.2
  ·exact n7.2
 ·obtain ⟨w,hw,rfl⟩:=List.mem_map.1 (show n∈t.map nmF from hn);exact (YJ (h9 w hw)).2
theorem AA (r:Row):XV r=XI (XB r r.load.length) [32]++ [10]:=rfl
theorem AW : ∀(f:Nat) (n:Int) (rs:List Row) (s:List UInt8) (c:Bool) (l:List Row) (m:Int),XS f n rs s=((c,l),m,0)->DF l=DF rs++s/\((∀r∈rs,MW r)-> ∀r∈l,MW r)
 | 0,n,rs,s,c,l,m,h=>by
  exact absurd (congrArg (fun q=>q.2.2) h) (by simp [XS])
 | f+1,n,rs,s,c,l,m,h=>by
  rw [XS] at h
  split at h
  ·rename_i h0;have e:rs=l:=congrArg (fun q=>q.1.2) h;subst e;rw [h0];exact ⟨Zb,fun h=>h⟩
  ·split at h
   ·exact absurd (congrArg (fun q=>q.2.2) h) Zb
   ·rename_i h1;have hs:=IG (s:=s) (c:=10) (by simpa using h1)
    split at h
    ·exact absurd (congrArg (fun q=>q.2.2) h) Zb
    ·rename_i r hr;obtain ⟨r1,r2⟩:=PQ hr;obtain ⟨i1,i2⟩:=AW f _ _ _ _ _ _ h;refine ⟨?_,fun hq=>i2 fun q hq2=> ?_⟩
     ·have hl:XV r=(XD s 10).1++ [10]:=by rw [AA,r1,Az _ _ (Nat.le_refl _)]
      rw [i1,DF,DF,List.map_append,List.flatten_append];simp only [List.map_cons,List.map_nil,List.flatten_cons,List.flatten_nil,List.append_nil,hl,List.append_assoc];rw [List.singleton_append,<- hs]
     ·rcases List.mem_append.1 hq2 with hq2 | hq2
      ·exact hq q hq2
      ·simp only [List.mem_cons,List.not_mem_nil,or_false] at hq2;subst hq2;exact r2
theorem GH (r:Row):r.load.length<=(XV r).length:=by
 have h1:=Jz (XB r r.load.length);rw [Uu (Nat.le_refl _)] at h1;rw [AA,List.length_append];simp only [List.length_cons,List.length_nil];omega
theorem PI (l:List Row):l.length<=(DF l).length/\ ∀r∈l,r.load.length<=(DF l).length:=by
 have h1:=Ar (L:=l.map XV) fun x hx=>by
  obtain ⟨r,_,rfl⟩:=List.mem_map.1 hx;simp [XV]
 rw [List.length_map] at h1;refine ⟨h1,fun r hr=> ?_⟩;have h3:=Dh (List.mem_map_of_mem (f:=XV) hr);have h4:=GH r;rw [DF];omega
theorem LC {f:Nat} {n:Int} {s:List UInt8} {c:Bool} {l:List Row} {m:Int} (h:XS f n [] s=((c,l),m,0)) (hs:s.length<=4096):DF l=s/\l.length<=4096/\ ∀r∈l,RowPr r:=by
 obtain ⟨h1,h2⟩:=AW f n [] s c l m h
 have h1:DF l=s:=by simpa [DF] using h1
 obtain ⟨g1,g2⟩:=PI l;rw [h1] at g1 g2
 have h2:=h2 fun r hr=>by cases hr
 exact ⟨h1,Za,fun r hr=>⟨(h2 r hr).1,(h2 r hr).2.1,(h2 r hr).2.2,by have:=g2 r hr;omega⟩⟩
theorem DD : ∀(f:Nat) (n:Int) (rs:List Row) (s:List UInt8),((XS f n rs s).1.1=false/\(XS f n rs s).2.2=0)\/((XS f n rs s).1=(true,[])/\(XS f n rs s).2.2=3)
 | 0,n,rs,s=> .inr ⟨rfl,rfl⟩
 | f+1,n,rs,s=>by
  rw [XS]
  split
  ·exact .inl ⟨rfl,rfl⟩
  ·split
   ·exact .inr ⟨rfl,rfl⟩
   ·split
    ·exact .inr ⟨rfl,rfl⟩
    ·exact DD f _ _ _
theorem Dd {s:List UInt8} {m i:Nat} (h1:m<=i) (h2:i<s.length):s.drop m=(s.take i).drop m++nth s i::s.drop (i+1):=by
 have h3:s.drop i=nth s i::s.drop (i+1):=by rw [List.drop_eq_getElem_cons h2,Zg h2]
 rw [<- h3,<- List.drop_append_of_le_length (by rw [List.length_take];omega),List.take_append_drop]
theorem KB {s:List UInt8} {m i:Nat} {c:UInt8} (h2:i<=s.length) (hno: ∀j,m<=j->j<i->nth s j≠c):c ∉ (s.take i).drop m:=fun h=>by
 obtain ⟨j,hj,e⟩:=List.mem_iff_getElem.1 h;rw [List.length_drop,List.length_take] at hj;rw [List.getElem_drop,List.getElem_take] at e;have:=hno (m+j) Za Za;rw [Zg Za] at this;exact this e
theorem P3 {s:List UInt8} {m i:Nat} (h1:m<=i) (h2:i<s.length) (hno: ∀j,m<=j->j<i->nth s j≠32) (h:nth s i=32):Xs (s.drop m)=(s.take i).drop m::Xs (s.drop (i+1)):=by
 have hn:=KB (c:=32) (Nat.le_of_lt h2) hno;rw [Dd h1 h2,h,Yc,GD _ _ hn,if_neg Zb];rw [List.take_left,show ((s.take i).drop m).length+1=((s.take i).drop m++ [32]).length by simp,show (s.take i).drop m++32::s.drop (i+1)=((s.take i).drop m++ [32])++s.drop (i+1) by simp,List.drop_left]
theorem LX {s:List UInt8} {m:Nat} (hno: ∀j,m<=j->j<s.length->nth s j≠32):Xs (s.drop m)= [s.drop m]:=by
 have hn:=KB (c:=32) (Nat.le_refl _) hno;rw [List.take_length] at hn;rw [Yc,Ku _ hn,if_pos rfl]
theorem NM {s:List UInt8} {m i:Nat} (h1:m<=i) (h2:i<s.length) (hno: ∀j,m<=j->j<i->nth s j≠10) (h:nth s i=10):XD (s.drop m) 10=((s.take i).drop m,s.drop (i+1),true):=by
 rw [Dd h1 h2,h];exact IK (KB (Nat.le_of_lt h2) hno)
theorem IL {s:List UInt8} {m:Nat} (hno: ∀j,m<=j->j<s.length->nth s j≠10):XD (s.drop m) 10=(s.drop m,[],false):=by
 have hn:=KB (c:=10) (Nat.le_refl _) hno;rw [List.take_length] at hn;exact IJ hn
theorem X3 : ∀(n:Nat) (s:List UInt8),s.length<=n->(Xs s).length<=s.length+1/\ ∀w∈Xs s,w.length<=s.length
 | n,s,hn=>by
  rw [Yc]
  split
  ·refine ⟨Zb,fun w hw=> ?_⟩;simp only [List.mem_cons,List.not_mem_nil,or_false] at hw;subst hw;omega
  ·rename_i h;have hle:=Ul s
   cases n with
   | zero=>omega
   | succ n =>
    have ih:=X3 n (s.drop (Wg s+1)) (by rw [List.length_drop];omega);rw [List.length_drop] at ih;refine ⟨by rw [List.length_cons];omega,fun w hw=> ?_⟩;rcases List.mem_cons.1 hw with rfl | hw
    ·rw [List.length_take];omega
    ·have:=ih.2 w hw;omega
theorem BP (l:List UInt8) (k:Nat):Zz 0 l=Zz (Zz 0 (l.take k)) (l.drop k):=by
 conv=>lhs;rw [<- List.take_append_drop k l]
 simp only [Zz,List.foldl_append]
theorem Eo (l:List UInt8) (k:Nat):Zz 0 (l.take k)<=Zz 0 l:=by
 rw [BP l k];exact UW _ _
theorem En {l:List UInt8} {k:Nat} (h:k<l.length):Zz 0 (l.take (k+1))=Zz 0 (l.take k)*10+((nth l k).toNat-48):=by
 rw [List.take_succ_eq_append_getElem h,Jt,Zg h]
theorem G1 {s:List UInt8} (h0:Zj s≠ []) (h1: ¬((nth (Zj s) 0).toNat=48/\s≠ [48])) (h:(Zj s).all Z8=true) :
  ZP s=if s.take 1= [45] then (if Zz 0 (Zj s)<=9223372036854775808 then (-(Zz 0 (Zj s):Int),0) else (0,4)) else if Zz 0 (Zj s)<9223372036854775808 then ((Zz 0 (Zj s):Int),0) else (0,4):=by
 unfold ZP;rw [if_neg (by rintro (e | e);exact h0 e;exact h1 e),if_neg (by simp [h])]
theorem Lo {s:List UInt8} {k:Nat} (h0:Zj s≠ []) (h1: ¬((nth (Zj s) 0).toNat=48/\s≠ [48])) (h:(Zj s).all Z8=true) (hb:9223372036854775808<Zz 0 ((Zj s).take k)):ZP s=(0,4):=by
 have:=Eo (Zj s) k;rw [G1 h0 h1 h]
 split
 ·rw [if_neg Za]
 ·rw [if_neg Za]
set_option maxRecDepth 60000
def Cf (l:List (List UInt8)):(Bool×List Int)×Bool:=if l.all Vf=true then ((false,l.map nmF),true) else ((true,[]),false)
theorem Uq (r:List (List UInt8)) (c:Bool) (hl:r.length<=1048576) (hwd: ∀s∈r,s.length<=1048576):PT 78 [.p (.list c (r.map WW))] [.p (.list (Cf r).1.1 ((Cf r).1.2.map eI)),.p (.bool (Cf r).2)]:=by
 refine Ze [10] Tryz.func78 rfl cX ?_;simp (disch:=omega) only [Tryz.f78,go_sem,seval];unfold Cf;refine ZR [10] [9,10] (fun k:Nat=> [(4,.sl 0 0 k k),(11,.p (.int .i64 k))]) (fun k=> [.elems 1 (((r.take k).map nmF).map eI)]) (fun k=>k<=r.length/\ ∀j,j<k->Vf (nth r j)=true) (fun k=>r.length-k) 0 Zb (Weak.ofNil 4 1 rfl Zb (Weak.mk ?_)) ?_
 ·simp (disch:=omega) only [List.take_zero,List.map_nil,go_sem,seval]
 ·rintro k ⟨hk,hno⟩;simp (disch:=omega) only [go_sem,seval];refine cD ?_ ?_<;>intro h3<;>simp (disch:=omega) only [Sh.out h3,go_sem,seval]
  ·have hk2:k<r.length:=Za
   have h18:=hwd _ (Zr hk2)
   have hkl:(r.take k).length=k:=by simp;omega
   have hnx:((r.take (k+1)).map nmF).map eI=((r.take k).map nmF).map eI++ [.int .i64 (ZP (nth r k)).1]:=by
    rw [List.take_succ_eq_append_getElem hk2,List.map_append,List.map_append,Zg hk2];rfl
   refine Ux (G2 (nth r k) h18) ?_;simp (disch:=omega) only [go_sem,seval];refine cD ?_ ?_<;>intro h4<;>simp (disch:=omega) only [Sh.out h4,go_sem,seval]
   ·have hb: ¬r.all Vf=true:=fun e=>by
     rw [List.all_eq_true] at e;have:=e _ (Zr hk2);simp only [Vf,decide_eq_true_eq] at this;exact h4 this
    rw [if_neg hb];exact we (by simp (disch:=omega) only [List.map_nil,go_sem,seval])
   ·rw [if_pos ⟨hkl,Za,Za⟩];simp (disch:=omega) only [go_sem,seval];exact ⟨k+1,⟨Za,ZL.2 ⟨hno,by simp only [Vf,decide_eq_true_eq];omega⟩⟩,Za,Weak.mk (by simp (disch:=omega) only [hnx,hkl,go_sem,seval])⟩
  ·have hkl:k=r.length:=Za
   subst hkl
   have Xe:r.all Vf=true:=by
    rw [List.all_eq_true];intro b hb;obtain ⟨j,hj,rfl⟩:=List.mem_iff_getElem.1 hb;rw [<- Zg hj];exact hno j hj
   rw [if_pos Xe,List.take_length];refine Zp (Weak.fz (o:=0) (by rfl)) ?_;refine Zc [] _ _ _ _ ?_;simp (disch:=omega) only [List.map_cons,List.map_nil,List.set_cons_succ,List.set_cons_zero,go_sem,seval];exact we
theorem QI (l:List (List UInt8)): ∃f L,Cf l=((f,L),l.all Vf)/\(l.all Vf=true->f=false/\L=l.map nmF):=by
 unfold Cf
 cases l.all Vf with
 | true=>exact ⟨_,_,rfl,fun _=>⟨rfl,rfl⟩⟩
 | false=>exact ⟨_,_,rfl,fun h=>by cases h⟩
theorem GZ (w:List UInt8): ∃f L,Cf [w]=((f,L),Vf w)/\(Vf w=true->f=false/\L= [nmF w]):=by
 have h:=QI [w];rwa [show [w].all Vf=Vf w by simp] at h
theorem Ag (s no yes:List UInt8):PT 79 [.p (.str s),.p (.str no),.p (.str yes)] [.p (.bool (decide (s=yes))),.p (.bool (decide (s=no)||decide (s=yes)))]:=by
 refine Ze [] Tryz.func79 rfl cY ?_;simp (disch:=omega) only [Tryz.f79,go_sem,seval]
 by_cases h:s=no
 ·simp (disch:=omega) only [h,decide_true,eq_self,Bool.true_or,go_sem,seval];exact we
 ·simp (disch:=omega) only [h,decide_false,Bool.false_or,go_sem,seval];exact we
theorem eU {ws:List (List UInt8)} (h: ¬ws.length<9):(ws.take 2).drop 1= [nth ws 1]:=by
 obtain ⟨a,b,c,d,e,f,g,i,j,t,rfl⟩:=Cd h
 rfl
theorem P1 {ws:List (List UInt8)} (h: ¬ws.length<9):(ws.take 8).drop 3= [nth ws 3,nth ws 4,nth ws 5,nth ws 6,nth ws 7]:=by
 obtain ⟨a,b,c,d,e,f,g,i,j,t,rfl⟩:=Cd h
 rfl
theorem PS {ws:List (List UInt8)} (h: ¬ws.length<9) (h0:nth ws 0=rowW):US ws=if Vf (nth ws 1)&&(decide (nth ws 2= [43])||decide (nth ws 2= [45]))&&([nth ws 3,nth ws 4,nth ws 5,nth ws 6,nth ws 7]).all Vf&&(decide (nth ws 8=Ex)||decide (nth ws 8=XA))&&(ws.drop 9).all Vf then some ⟨nmF (nth ws 1),⟨nmF (nth ws 3),decide (nth ws 2= [45])⟩,nmF (nth ws 4),⟨nmF (nth ws 5),nmF (nth ws 6),nmF (nth ws 7),decide (nth ws 8=XA)⟩,false,(ws.drop 9).map nmF⟩ else none:=by
 rw [US,if_neg (by rintro (e | e);exact h e;exact e h0),<- P1 h];rfl
def Vm : AM.Obj:= .cells [.p (.int .i64 0),.p (.int .i64 0),.p (.bool false),.p (.int .i64 0),.p (.int .i64 0),.p (.int .i64 0),.p (.int .i64 0),.p (.bool false),.p (.list true [])]
theorem Pu (s:List UInt8) (hs:s.length<=65536):ACalls Tryz.prog 35 [.p (.str s)] [] fun y H'=>y=JY (US (Xs s))/\H'= []:=by
 refine Ze [] Tryz.func35 rfl cK ?_;simp (disch:=omega) only [Tryz.f35,go_sem,seval];refine pZ (HP s Za) fun o hw=> ?_;have hr:=Rk hw (fun h=>HE h) (f:=US) (by rw [US,if_pos (.inl (by decide))]);rw [<- hr]
 cases o with
 | none =>
  simp (disch:=omega) only [WY,Option.bind_none,go_sem,seval];exact we (by simp (disch:=omega) only [JY,V8,List.map_nil,go_sem,seval])
 | some ws =>
  obtain ⟨hwl,hwm⟩:=Mg hw ws rfl;rw [Option.bind_some];clear hr hw;simp (disch:=omega) only [WY,go_sem,seval];refine gF ?_ ?_<;>intro h1<;>simp (disch:=omega) only [Sh.out h1,go_sem,seval]
  ·rw [US,if_pos (.inl Za)];exact we (by simp (disch:=omega) only [JY,V8,List.map_nil,go_sem,seval])
  ·have h9: ¬ws.length<9:=Za
   refine cD ?_ ?_<;>intro h2<;>simp (disch:=omega) only [Sh.out h2,go_sem,seval]
   ·rw [US,if_pos (.inr h2)];exact we (by simp (disch:=omega) only [JY,V8,List.map_nil,go_sem,seval])
   ·have h0:nth ws 0=rowW:=by simpa [rowW] using h2
    rw [PS h9 h0]
    have hb: ∀k,k<ws.length->(nth ws k).length<=1048576:=fun k hk=>by have:=hwm _ (Zr hk);omega
    have e1:=eU h9;have e2:=P1 h9;have n1:=Uq [nth ws 1] false Zb (fun w hw=>by simp at hw;subst hw;exact hb 1 Za)
    have n2:=Uq [nth ws 3,nth ws 4,nth ws 5,nth ws 6,nth ws 7] false Zb (fun w hw=>by
     simp only [List.mem_cons,List.not_mem_nil,or_false] at hw
     rcases hw with rfl | rfl | rfl | rfl | rfl<;>exact hb _ Za)
    have n3:=Uq (ws.drop 9) false (by rw [List.length_drop];omega) (fun w hw=>by have:=hwm w (List.mem_of_mem_drop hw);omega);have c1:=Ag (nth ws 2) [43] [45];have c2:=Ag (nth ws 8) Ex XA;obtain ⟨f1,L1,q1,g1⟩:=GZ (nth ws 1);obtain ⟨f2,L2,q2,g2⟩:=QI [nth ws 3,nth ws 4,nth ws 5,nth ws 6,nth ws 7];obtain ⟨f3,L3,q3,g3⟩:=QI (ws.drop 9);rw [q1] at n1;rw [q2] at n2;rw [q3] at n3;generalize Vf (nth ws 1)=b1 at n1 g1 ⊢;generalize [nth ws 3,nth ws 4,nth ws 5,nth ws 6,nth ws 7].all Vf=b3 at n2 g2 ⊢;generalize (ws.drop 9).all Vf=b5 at n3 g3 ⊢
    generalize (decide (nth ws 2= [43])||decide (nth ws 2= [45]))=b2 at c1 ⊢;generalize decide (nth ws 2= [45])=d2 at c1 ⊢;generalize (decide (nth ws 8=Ex)||decide (nth ws 8=XA))=b4 at c2 ⊢;generalize decide (nth ws 8=XA)=d4 at c2 ⊢;generalize hL3:(ws.drop 9).map nmF=N3 at g3 ⊢;have hg2: [nth ws 3,nth ws 4,nth ws 5,nth ws 6,nth ws 7].map nmF= [nmF (nth ws 3),nmF (nth ws 4),nmF (nth ws 5),nmF (nth ws 6),nmF (nth ws 7)]:=rfl;rw [hg2] at g2;generalize nmF (nth ws 1)=x1 at g1 ⊢;generalize nmF (nth ws 3)=x3 at g2 ⊢;generalize nmF (nth ws 4)=x4 at g2 ⊢
    generalize nmF (nth ws 5)=x5 at g2 ⊢;generalize nmF (nth ws 6)=x6 at g2 ⊢;generalize nmF (nth ws 7)=x7 at g2 ⊢
    try rw [e1]
    refine Ux n1 ?_;simp (disch:=omega) only [go_sem,seval];refine Ux c1 ?_;simp (disch:=omega) only [go_sem,seval]
    try rw [e2]
    refine Ux n2 ?_;simp (disch:=omega) only [go_sem,seval];refine Ux c2 ?_;simp (disch:=omega) only [go_sem,seval];rw [List.take_length];refine Ux n3 ?_;simp (disch:=omega) only [go_sem,seval]
    cases b1 with
    | false =>
     rw [if_neg Zb];simp (disch:=omega) only [Bool.not_false,go_sem,seval];exact we (by simp (disch:=omega) only [JY,V8,List.map_nil,go_sem,seval])
    | true =>
     cases b2 with
     | false =>
      rw [if_neg Zb];simp (disch:=omega) only [Bool.not_false,Bool.not_true,go_sem,seval];exact we (by simp (disch:=omega) only [JY,V8,List.map_nil,go_sem,seval])
     | true =>
      cases b3 with
      | false =>
       rw [if_neg Zb];simp (disch:=omega) only [Bool.not_false,Bool.not_true,go_sem,seval];exact we (by simp (disch:=omega) only [JY,V8,List.map_nil,go_sem,seval])
      | true =>
       cases b4 with
       | false =>
        rw [if_neg Zb];simp (disch:=omega) only [Bool.not_false,Bool.not_true,go_sem,seval];exact we (by simp (disch:=omega) only [JY,V8,List.map_nil,go_sem,seval])
       | true =>
        cases b5 with
        | false =>
         rw [if_neg Zb];simp (disch:=omega) only [Bool.not_false,Bool.not_true,go_sem,seval];exact we (by simp (disch:=omega) only [JY,V8,List.map_nil,go_sem,seval])
        | true =>
         obtain ⟨rfl,k1⟩:=g1 rfl;obtain ⟨rfl,k2⟩:=g2 rfl;obtain ⟨rfl,rfl⟩:=g3 rfl
         have l1:L1.length=1:=by rw [k1];rfl
         have l2:L2.length=5:=by rw [k2];rfl
         have v1:nth L1 0=x1:=by rw [k1];rfl
         have v3:nth L2 0=x3:=by rw [k2];rfl
         have v4:nth L2 1=x4:=by rw [k2];rfl
         have v5:nth L2 2=x5:=by rw [k2];rfl
         have v6:nth L2 3=x6:=by rw [k2];rfl
         have v7:nth L2 4=x7:=by rw [k2];rfl
         rw [if_pos (show (true&&true&&true&&true&&true)=true from rfl)];simp (disch:=omega) only [Bool.not_true,go_sem,seval];refine Z7 23 mixed Zh Zh ?_;simp (disch:=omega) only [l1,l2,v1,v3,v4,v5,v6,v7,go_sem,seval];exact we (by simp (disch:=omega) only [JY,go_sem,seval])
theorem GI (s:List UInt8) (hs:s.length<=65536):ACalls Tryz.prog 10 [.p (.str s)] [] fun y H'=>y=VW (XS (s.length+1) 1 [] s)/\H'= []:=by
 obtain ⟨Z,hZ⟩: ∃Z,Z=XS (s.length+1) 1 [] s:=⟨_,rfl⟩;rw [<- hZ];refine Ze [13] Tryz.func10 rfl bX ?_;simp (disch:=omega) only [Tryz.f10,go_sem,seval];refine cD ?_ ?_<;>intro h0<;>simp (disch:=omega) only [Sh.out h0,go_sem,seval]
 ·omega
 ·refine ZR [13] [] (fun q:List UInt8×List Row=> [(0,.p (.str q.1)),(5,.sl 0 0 q.2.length q.2.length),(6,.p (.int .i64 ((q.2.length:Int)+1)))])
   (fun q=> [.elems 9 (q.2.map X4)])
   (fun q=>q.2.length+q.1.length<=s.length/\Z=XS (s.length+1-q.2.length) ((q.2.length:Int)+1) q.2 q.1) (fun q=>q.1.length) (s,[]) ⟨Zb,by simpa using hZ⟩ (Weak.ofNil 5 9 rfl Zb (Weak.mk ?_)) ?_
  ·simp (disch:=omega) only [List.map_nil,List.length_nil,go_sem,seval]
  ·rintro ⟨t,rs⟩ ⟨h1,h5⟩;simp only at h1 h5;rw [h5];obtain ⟨f,hf⟩: ∃f,s.length+1-rs.length=f+1:=⟨s.length-rs.length,Za⟩;rw [hf] at h5 ⊢;have hcl:= @FZ t;have hle:=II t;rw [XS] at h5 ⊢;simp (disch:=omega) only [go_sem,seval]
   have htl:t= []\/0<t.length:=by cases t<;>simp
   rcases htl with he | htl
   ·subst he;refine cD ?_ ?_<;>intro h6<;>simp (disch:=omega) only [Sh.out h6,go_sem,seval]
    ·simp at h6
    ·refine Zp (Weak.fz (o:=0) (by rfl)) ?_;refine Zc [] _ _ _ _ ?_;simp (disch:=omega) only [List.map_cons,List.map_nil,List.set_cons_succ,List.set_cons_zero,go_sem,seval];exact we (by simp (disch:=omega) only [VW,go_sem,seval])
   ·have hne: ¬t= []:=List.length_pos_iff.1 htl;rw [if_neg hne] at h5 ⊢;refine cD ?_ ?_<;>intro h6<;>simp (disch:=omega) only [Sh.out h6,go_sem,seval]
    ·refine Uy (bA t 10 Za) ?_;simp (disch:=omega) only [go_sem,seval];have cr:=Pu (XD t 10).1 Za
     generalize (XD t 10).1=c1 at *
     generalize (XD t 10).2.1=c2 at *
     generalize (XD t 10).2.2=c3 at *
     unfold JY at cr
     cases hr:US (Xs c1) with
     | none =>
      rw [hr] at cr;simp only
      have e3:(if c3=false then ((true,([]:List Row)),(rs.length:Int)+1,(3:Int)) else ((true,[]),(rs.length:Int)+1,3))=((true,[]),(rs.length:Int)+1,3):=by split<;>rfl
      rw [e3];refine Ux cr ?_
      cases c3
      all_goals
       simp (disch:=omega) only [Bool.not_false,Bool.not_true,go_sem,seval];exact we (by simp (disch:=omega) only [VW,List.map_nil,go_sem,seval])
     | some r =>
      rw [hr] at cr h5;simp only at h5 ⊢;refine Ux cr ?_
      cases c3 with
      | false =>
       rw [if_pos rfl];simp (disch:=omega) only [Bool.not_false,go_sem,seval];exact we (by simp (disch:=omega) only [VW,List.map_nil,go_sem,seval])
      | true =>
       rw [if_neg Zb] at h5 ⊢;have hlt:=(hcl Zb).1;simp (disch:=omega) only [Bool.not_true,go_sem,seval]
       exact ⟨(c2,rs++ [r]),⟨by simp;omega,by
        simp only [List.length_append,List.length_cons,List.length_nil]
        rw [show s.length+1-(rs.length+(0+1))=f by omega,show (((rs.length+(0+1):Nat):Int)+1)=(rs.length:Int)+1+1 by omega]⟩,by first | omega | (simp only;omega) | simp only,Weak.mk (by simp (disch:=omega) only [List.length_append,List.length_cons,List.length_nil,List.map_append,List.map_cons,List.map_nil,go_sem,seval])⟩
    ·exact absurd hne (by simpa using h6)
theorem fB (s:List UInt8):s.take 1= [45]↔0<s.length/\(nth s 0).toNat=45:=by
 cases s with
 | nil=>simp
 | cons b l =>
  rw [List.take_succ_cons,List.take_zero,List.cons.injEq]
  constructor
  ·rintro ⟨rfl,_⟩;exact ⟨Zb,rfl⟩
  ·rintro ⟨_,h⟩;exact ⟨UInt8.toNat_inj.1 h,rfl⟩
theorem Lb {a:Nat} {d:Int} (h0:0<=d) (h9:d<=9): -(a:Int)<Int.tdiv (-9223372036854775808+d) 10↔9223372036854775808<(a:Int)*10+d:=by
 rw [show (-9223372036854775808+d:Int)= -(9223372036854775808-d) by omega,Int.neg_tdiv,Int.tdiv_eq_ediv_of_nonneg Za];omega
theorem Lc {d:Int} (h0:0<=d) (h9:d<=9): -9223372036854775808<=Int.tdiv (-9223372036854775808+d) 10/\Int.tdiv (-9223372036854775808+d) 10<=0:=by
 rw [show (-9223372036854775808+d:Int)= -(9223372036854775808-d) by omega,Int.neg_tdiv,Int.tdiv_eq_ediv_of_nonneg Za];omega
theorem NO (c:UInt8):W7 c=Z8 c:=by
 have:=J3 c;rw [Bool.eq_iff_iff];simp [W7,Z8];omega
theorem IN (c:UInt8):PC 120 [.p (.int .u8 (c.toNat:Nat))] (.bool (Z8 c)):=by
 rw [<- NO];exact IR c
theorem Cg (s:List UInt8) (hs:s.length<=1048576):PT 81 [.p (.str s)] [.p (.int .i64 (ZP s).1),.p (.int .i64 (ZP s).2)]:=by
 have ht1:=fB s;refine Ze [2] Tryz.func81 rfl dA ?_;simp (disch:=omega) only [Tryz.f81,go_sem,seval];refine XK [0] (fun m:Nat=> [(4,.p (.int .i64 m))]) (fun _=> []) (fun m=>m<=s.length/\((m=1/\s.take 1= [45])\/(m=0/\ ¬s.take 1= [45]))) ?_ ?_
 ·simp (disch:=omega) only [go_sem,seval];refine gT ?_ ?_<;>intro h1<;>simp (disch:=omega) only [Sh.out h1,go_sem,seval]
  ·refine cD ?_ ?_<;>intro h2<;>simp (disch:=omega) only [Sh.out h2,go_sem,seval]
   ·exact ⟨1,⟨Za,.inl ⟨rfl,ht1.2 ⟨Za,Za⟩⟩⟩,wk⟩
   ·exact ⟨0,⟨Za,.inr ⟨rfl,fun e=>h2 (by have:=(ht1.1 e).2;omega)⟩⟩,wk⟩
  ·exact ⟨0,⟨Za,.inr ⟨rfl,fun e=>by have:=(ht1.1 e).1;omega⟩⟩,wk⟩
 ·rintro m ⟨hml,hm⟩
  have hm1:m<=1:=Za
  have hd:Zj s=s.drop m:=by
   rcases hm with ⟨rfl,e⟩ | ⟨rfl,e⟩
   ·rw [Zj,if_pos e]
   ·rw [Zj,if_neg e,List.drop_zero]
  have hdl:(Zj s).length=s.length-m:=by rw [hd,List.length_drop]
  have hn: ∀k,nth (Zj s) k=nth s (m+k):=fun k=>by rw [hd,EQ]
  have bad1:Zj s= []\/((nth (Zj s) 0).toNat=48/\s≠ [48])->ZP s=(0,3):=fun h=>by rw [ZP,if_pos h]
  have one: ¬ 1<s.length->0<s.length->(nth s m).toNat=48->m+1<=s.length->s= [48]:=fun a b c d=>by
   have:m=0:=Za
   subst this
   match s,a,b with
   | [x],_,_=>rw [UInt8.toNat_inj.1 (show x.toNat=(48:UInt8).toNat from c)]
   | x::y::r,a,_=>exact absurd Zb a
  refine Zc [] _ _ _ _ ?_;simp (disch:=omega) only [go_sem,seval];refine gF ?_ ?_<;>intro h3<;>simp (disch:=omega) only [Sh.out h3,go_sem,seval]
  ·rw [bad1 (.inl (List.eq_nil_of_length_eq_zero Za))];exact we
  ·have h0:Zj s≠ []:=fun e=>by rw [e] at hdl;simp at hdl;omega
   refine gT ?_ ?_<;>intro h4<;>simp (disch:=omega) only [Sh.out h4,go_sem,seval];refine cD ?_ ?_<;>intro h5<;>simp (disch:=omega) only [Sh.out h5,go_sem,seval]
   ·rw [bad1 (.inr ⟨by rw [hn,Nat.add_zero];omega,fun e=>by rw [e] at h5;simp at h5⟩)];exact we
   all_goals
    have h1: ¬((nth (Zj s) 0).toNat=48/\s≠ [48]):=by
     rw [hn,Nat.add_zero]
     first
      | exact fun e=>e.2 (one Za Za Za Za)
      | exact fun e=>Za
    refine Zo [0,4] (fun i:Nat=> [(5,.p (.int .i64 i))]) (fun _=> []) (fun i=>m<=i/\i<=s.length/\ ∀j,m<=j->j<i->Z8 (nth s j)=true) (fun i=>s.length-i) m ⟨Nat.le_refl _,hml,fun j a b=>Za⟩ (Weak.mk ?_) ?_
    ·simp (disch:=omega) only [go_sem,seval]
    ·rintro i ⟨hi1,hi2,hno⟩;simp (disch:=omega) only [go_sem,seval];refine cD ?_ ?_<;>intro h6<;>simp (disch:=omega) only [Sh.out h6,go_sem,seval]
     ·have hi3:i<s.length:=Za
      refine (IN (nth s i)).use ?_;simp (disch:=omega) only [go_sem,seval]
      cases hdg:Z8 (nth s i) with
      | false =>
       have Xe:(Zj s).all Z8=false:=List.all_eq_false.2 ⟨_,Zr (i:=i-m) Za,by rw [hn,show m+(i-m)=i by omega,hdg];simp⟩
       have e3:ZP s=(0,3):=by rw [ZP,if_neg (by rintro (e | e);exact h0 e;exact h1 e),if_pos Xe]
       rw [e3];simp (disch:=omega) only [hdg,Bool.not_false,go_sem,seval];exact we
      | true =>
       simp (disch:=omega) only [hdg,Bool.not_true,Bool.false_eq_true,go_sem,seval];exact ⟨i+1,⟨Za,Za,fun j a b=>if e:j=i then by rw [e];exact hdg else hno j a Za⟩,Za,wk⟩
     ·have Xe:(Zj s).all Z8=true:=by
       rw [List.all_eq_true];intro b hb;obtain ⟨j,hj,rfl⟩:=List.mem_iff_getElem.1 hb;rw [<- Zg hj,hn];exact hno _ Za Za
      have hnum:=G1 h0 h1 Xe;have hbig:=fun k=>Lo (k:=k) h0 h1 Xe;have hstep:=fun k (h:k<(Zj s).length)=>En h
      have htk:Zz 0 ((Zj s).take (s.length-m))=Zz 0 (Zj s):=by rw [List.take_of_length_le Za]
      have hz:Zz 0 ((Zj s).take (m-m))=0:=by rw [Nat.sub_self];rfl
      refine Zo [0,4] (fun i:Nat=> [(6,.p (.int .i64 (-(Zz 0 ((Zj s).take (i-m)):Int)))),(7,.p (.int .i64 i))]) (fun _=> []) (fun i=>m<=i/\i<=s.length/\Zz 0 ((Zj s).take (i-m))<=9223372036854775808) (fun i=>s.length-i) m ⟨Nat.le_refl _,hml,Za⟩ (Weak.mk ?_) ?_
      ·simp (disch:=omega) only [hz,Int.natCast_zero,Int.neg_zero,go_sem,seval]
      ·rintro i ⟨hi1,hi2,ha⟩;simp (disch:=omega) only [go_sem,seval];refine cD ?_ ?_<;>intro h7<;>simp (disch:=omega) only [Sh.out h7,go_sem,seval]
       ·have hi3:i<s.length:=Za
        have hst:=hstep (i-m) Za;have hdg:=List.all_eq_true.1 Xe _ (Zr (i:=i-m) Za);rw [hn,show m+(i-m)=i by omega] at hst hdg;rw [show i-m+1=i+1-m by omega] at hst;have hbg:=hbig (i+1-m);simp only [Z8,Bool.and_eq_true,decide_eq_true_eq] at hdg
        generalize Zz 0 ((Zj s).take (i-m))=a at *
        generalize ha2:Zz 0 ((Zj s).take (i+1-m))=a2 at *
        have hlow:=Lb (a:=a) (d:=((nth s i).toNat:Int)-48) Za Za;have hrng:=Lc (d:=((nth s i).toNat:Int)-48) Za Za
        generalize hT:Int.tdiv (-9223372036854775808+(((nth s i).toNat:Int)-48)) 10=T at *
        simp (disch:=omega) only [hT,go_sem,seval];refine cD ?_ ?_<;>intro h8<;>simp (disch:=omega) only [Sh.out h8,go_sem,seval]
        ·have h9:=hlow.1 h8;rw [hbg Za];exact we
        ·have h9: ¬ 9223372036854775808<(a:Int)*10+(((nth s i).toNat:Int)-48):=fun e=>h8 (hlow.2 e)
         have e9:10* -(a:Int)-(((nth s i).toNat:Int)-48)= -(a2:Int):=Za
         exact ⟨i+1,⟨Za,Za,by rw [ha2];omega⟩,Za,Weak.mk (by simp (disch:=omega) only [ha2,e9,Int.natCast_add,Int.natCast_one,go_sem,seval])⟩
       ·have his:i=s.length:=Za
        subst his;rw [htk] at ha ⊢
        generalize Zz 0 (Zj s)=a at *
        rcases hm with ⟨rfl,e⟩ | ⟨rfl,e⟩
        ·rw [hnum,if_pos e,if_pos ha];simp (disch:=omega) only [go_sem,seval];exact we
        ·rw [hnum,if_neg e];simp (disch:=omega) only [go_sem,seval];refine cD ?_ ?_<;>intro h8<;>simp (disch:=omega) only [Sh.out h8,go_sem,seval]
         ·rw [if_neg Za];exact we
         ·rw [if_pos Za];simp (disch:=omega) only [show (0- -(a:Int))=a from Za,go_sem,seval];exact we
theorem Fe (s:List UInt8) (hs:s.length<=1048576):PC 80 [.p (.str s)] (.list false ((Xs s).map WW)):=by
 refine Ze [9] Tryz.func80 rfl cZ ?_;simp (disch:=omega) only [Tryz.f80,go_sem,seval]
 refine ZR [9] [0] (fun q:Nat×Nat×List (List UInt8)=> [(3,.sl 0 0 q.2.2.length q.2.2.length),(4,.p (.int .i64 q.2.1)),(5,.p (.int .i64 q.1))]) (fun q=> [.elems 1 (q.2.2.map WW)])
  (fun q=>q.2.2.length<=q.1/\((q.1<=s.length/\q.2.1<=q.1/\(∀j,q.2.1<=j->j<q.1->nth s j≠32)/\Xs s=q.2.2++Xs (s.drop q.2.1))\/(q.1=s.length+1/\Xs s=q.2.2))) (fun q=>s.length+1-q.1) (0,0,[]) ⟨Zb,.inl ⟨Zb,Zb,fun j a b=>by simp at b,Zb⟩⟩ (Weak.ofNil 3 1 rfl Zb (Weak.mk ?_)) ?_
 ·simp (disch:=omega) only [List.map_nil,List.length_nil,go_sem,seval]
 ·rintro ⟨i,m,o⟩ ⟨hol,hi⟩;simp only at hol hi;simp (disch:=omega) only [go_sem,seval];refine cD ?_ ?_<;>intro h1<;>simp (disch:=omega) only [Sh.out h1,go_sem,seval]
  ·rcases hi with ⟨hi1,hi2,hno,he⟩ | ⟨hi1,_⟩
   ·refine gF ?_ ?_<;>intro h2<;>simp (disch:=omega) only [Sh.out h2,go_sem,seval]
    ·have his:i=s.length:=Za
     subst his;have hsp:=LX hno;refine ⟨(s.length+1,s.length+1,o++ [s.drop m]),⟨by simp;omega,.inr ⟨rfl,by rw [he,hsp]⟩⟩,Zb,Weak.mk ?_⟩;simp (disch:=omega) only [List.take_length,List.map_append,List.map_cons,List.map_nil,List.length_append,List.length_cons,List.length_nil,go_sem,seval]
    ·have hi3:i<s.length:=Za
     refine cD ?_ ?_<;>intro h3<;>simp (disch:=omega) only [Sh.out h3,go_sem,seval]
     ·have h3':nth s i=32:=UInt8.toNat_inj.1 (by show (nth s i).toNat=32;omega);have hsp:=P3 hi2 hi3 hno h3';refine ⟨(i+1,i+1,o++ [(s.take i).drop m]),⟨by simp;omega,.inl ⟨by first | omega | (simp only;omega) | simp only,Zb,fun j a b=>by simp only at a b;omega,by rw [he,hsp];simp⟩⟩,by first | omega | (simp only;omega) | simp only,Weak.mk ?_⟩;simp (disch:=omega) only [List.map_append,List.map_cons,List.map_nil,List.length_append,List.length_cons,List.length_nil,go_sem,seval]
     ·refine ⟨(i+1,m,o),⟨by first | omega | (simp only;omega) | simp only,.inl ⟨by first | omega | (simp only;omega) | simp only,by first | omega | (simp only;omega) | simp only,fun j a b=> ?_,he⟩⟩,by first | omega | (simp only;omega) | simp only,wk⟩;simp only at a b
      by_cases e:j=i
      ·subst e;exact fun e=>h3 (by rw [e];rfl)
      ·exact hno j a Za
   ·omega
  ·rcases hi with ⟨hi1,_⟩ | ⟨_,he⟩
   ·omega
   ·rw [he];refine Zp (Weak.fz (o:=0) (by rfl)) ?_;refine Zc [] _ _ _ _ ?_;simp (disch:=omega) only [List.map_cons,List.map_nil,List.set_cons_succ,List.set_cons_zero,go_sem,seval];exact we
def Wx (ws:List (List UInt8)) (i:Nat):List (List UInt8):=((ws.take i).take 2).drop 1++((ws.take i).take 8).drop 3++(ws.take i).drop 9
theorem Bb {ws:List (List UInt8)} (h: ¬ws.length<9):Wx ws 1= []:=by
 obtain ⟨a,b,c,d,e,f,g,i,j,t,rfl⟩:=Cd h
 rfl
theorem Ba {ws:List (List UInt8)} (h: ¬ws.length<9):Wx ws ws.length= [nth ws 1]++ [nth ws 3,nth ws 4,nth ws 5,nth ws 6,nth ws 7]++ws.drop 9:=by
 rw [Wx,List.take_length,eU h,P1 h]
theorem E9 {ws:List (List UInt8)} (h: ¬ws.length<9) {i:Nat} (h1:1<=i) (hi:i<ws.length):Wx ws (i+1)=if i=2\/i=8 then Wx ws i else Wx ws i++ [nth ws i]:=by
 obtain ⟨a,b,c,d,e,f,g,x,j,t,rfl⟩:=Cd h
 match i,h1 with
 | 1,_=>rfl
 | 2,_=>rfl
 | 3,_=>rfl
 | 4,_=>rfl
 | 5,_=>rfl
 | 6,_=>rfl
 | 7,_=>rfl
 | 8,_=>rfl
 | k+9,_ =>
  have hk:k<t.length:=by simp at hi;omega
  rw [if_neg Za]
  show [b]++ [d,e,f,g,x]++t.take (k+1)=([b]++ [d,e,f,g,x]++t.take k)++ [nth t k]
  rw [List.take_succ_eq_append_getElem hk,Zg hk,<- List.append_assoc]
theorem HI (ws:List (List UInt8)) (i:Nat):(Wx ws i).length<=6+ws.length:=by
 simp only [Wx,List.length_append,List.length_drop,List.length_take];omega
theorem EX (s:List UInt8) (hs:s.length<=65536) (hread: ∀t:List UInt8,t.length<=s.length->ACalls Tryz.prog 37 [.p (.str t)] [] fun y H'=>y=JY (US (Xs t))/\H'= []) :
  ACalls Tryz.prog 14 [.p (.str s)] [] fun y H'=>y=VW (XS (s.length+1) 1 [] s)/\H'= []:=by
 obtain ⟨Z,hZ⟩: ∃Z,Z=XS (s.length+1) 1 [] s:=⟨_,rfl⟩;rw [<- hZ];refine Ze [16] Tryz.func14 rfl bZ ?_;simp (disch:=omega) only [Tryz.f14,go_sem,seval];refine cD ?_ ?_<;>intro h0<;>simp (disch:=omega) only [Sh.out h0,go_sem,seval]
 ·omega
 ·refine ZR [16] [0] (fun q:Nat×Nat×List Row=> [(5,.sl 0 0 q.2.2.length q.2.2.length),(6,.p (.int .i64 q.2.1)),(7,.p (.int .i64 q.1))])
   (fun q=> [.elems 9 (q.2.2.map X4)])
   (fun q=>q.1<=s.length/\q.2.1<=q.1/\q.2.2.length<=q.2.1/\(∀j,q.2.1<=j->j<q.1->nth s j≠10)/\Z=XS (s.length+1-q.2.2.length) ((q.2.2.length:Int)+1) q.2.2 (s.drop q.2.1)) (fun q=>s.length-q.1) (0,0,[]) ⟨Zb,Zb,Zb,fun j a b=>by simp at b,by simpa using hZ⟩ (Weak.ofNil 5 9 rfl Zb (Weak.mk ?_)) ?_
  ·simp (disch:=omega) only [List.map_nil,List.length_nil,go_sem,seval]
  ·rintro ⟨i,m,rs⟩ ⟨hi,hm,hr,hno,h5⟩;simp only at hi hm hr hno h5;rw [h5];obtain ⟨f,hf⟩: ∃f,s.length+1-rs.length=f+1:=⟨s.length-rs.length,Za⟩;rw [hf] at h5 ⊢;simp (disch:=omega) only [go_sem,seval];refine cD ?_ ?_<;>intro h1<;>simp (disch:=omega) only [Sh.out h1,go_sem,seval]
   ·have hi3:i<s.length:=Za
    refine cD ?_ ?_<;>intro h2<;>simp (disch:=omega) only [Sh.out h2,go_sem,seval]
    ·refine ⟨(i+1,m,rs),⟨by first | omega | (simp only;omega) | simp only,by first | omega | (simp only;omega) | simp only,hr,fun j a b=> ?_,by first | (simp only;rw [hf];exact h5) | (simp only;rw [hf])⟩,by first | omega | (simp only;omega) | simp only,wk⟩;simp only at a b
     by_cases e:j=i
     ·subst e;exact fun e=>h2 (by rw [e];rfl)
     ·exact hno j a Za
    ·have h2':nth s i=10:=UInt8.toNat_inj.1 (by show (nth s i).toNat=10;omega);have hc:=NM hm hi3 hno h2'
     have hne: ¬s.drop m= []:=fun e=>by
      have:=congrArg List.length e;rw [List.length_drop] at this;simp at this;omega
     rw [XS,if_neg hne,hc] at h5;rw [XS,if_neg hne,hc];simp only at h5 ⊢;rw [if_neg Zb] at h5 ⊢;have cr:=hread ((s.take i).drop m) (by rw [List.length_drop,List.length_take];omega);unfold JY at cr
     cases hr2:US (Xs ((s.take i).drop m)) with
     | none =>
      rw [hr2] at cr h5;simp only;refine Ux cr ?_;simp (disch:=omega) only [go_sem,seval];exact we (by simp (disch:=omega) only [VW,List.map_nil,go_sem,seval])
     | some r =>
      rw [hr2] at cr h5;simp only at h5 ⊢;refine Ux cr ?_;simp (disch:=omega) only [go_sem,seval];refine ⟨(i+1,i+1,rs++ [r]),⟨by first | omega | (simp only;omega) | simp only,Nat.le_refl _,by simp;omega,fun j a b=>by simp only at a b;omega,?_⟩,by first | omega | (simp only;omega) | simp only,Weak.mk (by simp (disch:=omega) only [List.length_append,List.length_cons,List.length_nil,List.map_append,List.map_cons,go_sem,seval])⟩;simp only [List.length_append,List.length_cons,List.length_nil];rw [show s.length+1-(rs.length+(0+1))=f by omega,show (((rs.length+(0+1):Nat):Int)+1)=(rs.length:Int)+1+1 by omega]
   ·have his:i=s.length:=Za
    subst his;refine cD ?_ ?_<;>intro h3<;>simp (disch:=omega) only [Sh.out h3,go_sem,seval]
    ·have hne: ¬s.drop m= []:=fun e=>by
      have:=congrArg List.length e;rw [List.length_drop] at this;simp at this;omega
     have hc:=IL hno;rw [XS,if_neg hne,hc];simp only;rw [if_pos trivial];exact we (by simp (disch:=omega) only [VW,List.map_nil,go_sem,seval])
    ·have he:s.drop m= []:=List.drop_of_length_le Za;rw [XS,if_pos he];refine Zp (Weak.fz (o:=0) (by rfl)) ?_;refine Zc [] _ _ _ _ ?_;simp (disch:=omega) only [List.map_cons,List.map_nil,List.set_cons_succ,List.set_cons_zero,go_sem,seval];exact we (by simp (disch:=omega) only [VW,go_sem,seval])
theorem PU {ws:List (List UInt8)} (h: ¬ws.length<9) (hok:A7 ws=true) {i:Nat} (h1:1<=i) (hi:i<ws.length) (h2: ¬(i=2\/i=8)):Vf (nth ws i)=true:=by
 obtain ⟨a,b,c,d,e,f,g,x,j,t,rfl⟩:=Cd h;obtain ⟨q1,_,⟨q3,q4,q5,q6,q7⟩,_,q9⟩:=QZ.1 hok
 match i,h1,h2 with
 | 1,_,_=>exact XO.2 q1
 | 2,_,h2=>exact absurd (.inl rfl) h2
 | 3,_,_=>exact XO.2 q3
 | 4,_,_=>exact XO.2 q4
 | 5,_,_=>exact XO.2 q5
 | 6,_,_=>exact XO.2 q6
 | 7,_,_=>exact XO.2 q7
 | 8,_,h2=>exact absurd (.inr rfl) h2
 | k+9,_,_ =>
  have hk:k<t.length:=by simp at hi;omega
  show Vf (nth t k)=true
  exact XO.2 (q9 _ (Zr hk))
theorem HD {ws:List (List UInt8)} (h:A7 ws=true->False):US ws=none:=by
 by_cases a:ws.length<9\/nth ws 0≠rowW
 ·rw [US,if_pos a]
 ·rw [US,if_neg a,if_neg h]
theorem QY {ws:List (List UInt8)} (h: ¬ws.length<9):A7 ws=true↔(∀w∈Wx ws ws.length,Vf w=true)/\(nth ws 2= [43]\/nth ws 2= [45])/\(nth ws 8=Ex\/nth ws 8=XA):=by
 rw [Ba h];obtain ⟨a,b,c,d,e,f,g,x,j,t,rfl⟩:=Cd h;rw [QZ]
 show _↔(∀w∈ [b]++ [d,e,f,g,x]++t,Vf w=true)/\(c= [43]\/c= [45])/\(j=Ex\/j=XA)
 simp only [List.cons_append,List.nil_append,List.mem_cons,forall_eq_or_imp,XO]
 constructor
 ·rintro ⟨h1,h2,⟨h3,h4,h5,h6,h7⟩,h8,h9⟩;exact ⟨⟨h1,h3,h4,h5,h6,h7,h9⟩,h2,h8⟩
 ·rintro ⟨⟨h1,h3,h4,h5,h6,h7,h9⟩,h2,h8⟩;exact ⟨h1,h2,⟨h3,h4,h5,h6,h7⟩,h8,h9⟩
theorem Hr (s:List UInt8) (hs:s.length<=65536):ACalls Tryz.prog 37 [.p (.str s)] [] fun y H'=>y=JY (US (Xs s))/\H'= []:=by
 have hsl:=X3 _ s (Nat.le_refl _);refine Ze [2,13,15,16] Tryz.func37 rfl cL ?_;simp (disch:=omega) only [Tryz.f37,go_sem,seval];refine (Fe s Za).use ?_;simp (disch:=omega) only [go_sem,seval]
 generalize Xs s=ws at *
 have hw5:Ex= [103,111]:=rfl;have hw6:XA= [114,101,115,116]:=rfl;have hw7:rowW= [114,111,119]:=rfl;refine XK [2,4] (fun _:Unit=> []) (fun _=> [Vm]) (fun _=> ¬ws.length<9/\nth ws 0=rowW/\(nth ws 2= [43]\/nth ws 2= [45])/\(nth ws 8=Ex\/nth ws 8=XA)) ?_ ?_
 ·simp (disch:=omega) only [go_sem,seval];refine gF ?_ ?_<;>intro h1<;>simp (disch:=omega) only [Sh.out h1,go_sem,seval]
  ·rw [US,if_pos (.inl Za)];exact we (by simp (disch:=omega) only [JY,V8,List.map_nil,go_sem,seval])
  ·refine gF ?_ ?_<;>intro h2<;>simp (disch:=omega) only [Sh.out h2,go_sem,seval]
   ·rw [US,if_pos (.inr h2)];exact we (by simp (disch:=omega) only [JY,V8,List.map_nil,go_sem,seval])
   ·have h9: ¬ws.length<9:=Za
    have h0:nth ws 0=rowW:=by simpa [rowW] using h2
    have d1:(([43]:List UInt8)= [45])=False:=eq_false (by decide);have d2:(([45]:List UInt8)= [43])=False:=eq_false (by decide);have d3:(([103,111]:List UInt8)= [114,101,115,116])=False:=eq_false (by decide);have d4:(([114,101,115,116]:List UInt8)= [103,111])=False:=eq_false (by decide)
    by_cases c2:nth ws 2= [43]\/nth ws 2= [45]
    ·by_cases c8:nth ws 8=Ex\/nth ws 8=XA
     ·rcases c2 with a | a<;>rcases c8 with b | b
      all_goals
       have b':=b;simp only [hw5,hw6] at b';simp (disch:=omega) only [a,b',d1,d2,d3,d4,eq_self,decide_true,decide_false,not_true_eq_false,not_false_eq_true,go_sem,seval];refine ⟨(),?_,Weak.mk (by simp (disch:=omega) only [Vm,go_sem,seval])⟩
       first
        | exact ⟨h9,h0,by simp [a],by simp [b]⟩
        | (simp [Ex,XA];exact ⟨Za,h0⟩)
     ·rw [HD fun e=>c8 ((QY h9).1 e).2.2];have b1: ¬nth ws 8= [103,111]:=fun e=>c8 (.inl e);have b2: ¬nth ws 8= [114,101,115,116]:=fun e=>c8 (.inr e);rcases c2 with a | a
      all_goals
       simp (disch:=omega) only [a,b1,b2,d1,d2,eq_self,decide_true,decide_false,not_true_eq_false,not_false_eq_true,go_sem,seval];exact we (by simp (disch:=omega) only [JY,V8,List.map_nil,go_sem,seval])
    ·rw [HD fun e=>c2 ((QY h9).1 e).2.1];have b1: ¬nth ws 2= [43]:=fun e=>c2 (.inl e);have b2: ¬nth ws 2= [45]:=fun e=>c2 (.inr e);simp (disch:=omega) only [b1,b2,decide_true,decide_false,not_true_eq_false,not_false_eq_true,go_sem,seval];exact we (by simp (disch:=omega) only [JY,V8,List.map_nil,go_sem,seval])
 ·rintro _ ⟨h9,h0,h2,h8⟩;refine Zc [13,15,16] _ _ _ _ ?_;simp (disch:=omega) only [Vm,go_sem,seval];refine ZR [13,15,16] [2,4] (fun i:Nat=> [(5,.sl 1 0 (Wx ws i).length (Wx ws i).length),(6,.p (.int .i64 i))]) (fun i=> [Vm,.elems 1 (((Wx ws i).map nmF).map eI)]) (fun i=>1<=i/\i<=ws.length/\ ∀w∈Wx ws i,Vf w=true) (fun i=>ws.length-i) 1 ⟨Nat.le_refl _,Za,fun w hw=>by rw [Bb h9] at hw;cases hw⟩ (Weak.ofNil 5 1 rfl Zb (Weak.mk ?_)) ?_
  ·simp (disch:=omega) only [Vm,Bb h9,List.map_nil,List.length_nil,go_sem,seval]
  ·rintro i ⟨hi1,hi2,hno⟩;have hsl2:=HI ws i;simp (disch:=omega) only [Vm,go_sem,seval];refine cD ?_ ?_<;>intro h3<;>simp (disch:=omega) only [Sh.out h3,go_sem,seval]
   ·have hi3:i<ws.length:=Za
    have hsu:=E9 h9 hi1 hi3
    by_cases h28:i=2\/i=8
    ·rw [if_pos h28] at hsu;refine gF ?_ ?_<;>intro h4<;>simp (disch:=omega) only [Sh.out h4,go_sem,seval]
     ·exact ⟨i+1,⟨Za,Za,by rw [hsu];exact hno⟩,Za,Weak.mk (by simp (disch:=omega) only [Vm,hsu,go_sem,seval])⟩
     ·refine cD ?_ ?_<;>intro h5<;>simp (disch:=omega) only [Sh.out h5,go_sem,seval]
      ·exact ⟨i+1,⟨Za,Za,by rw [hsu];exact hno⟩,Za,Weak.mk (by simp (disch:=omega) only [Vm,hsu,go_sem,seval])⟩
      ·omega
    ·rw [if_neg h28] at hsu;refine gF ?_ ?_<;>intro h4<;>simp (disch:=omega) only [Sh.out h4,go_sem,seval]
     ·omega
     ·refine cD ?_ ?_<;>intro h5<;>simp (disch:=omega) only [Sh.out h5,go_sem,seval]
      ·omega
      ·refine Ux (Cg (nth ws i) (by have:=hsl.2 _ (Zr hi3);omega)) ?_;simp (disch:=omega) only [go_sem,seval];refine cD ?_ ?_<;>intro h6<;>simp (disch:=omega) only [Sh.out h6,go_sem,seval]
       ·rw [HD fun e=>by have:=XO.1 (PU h9 e hi1 hi3 h28);exact h6 this];exact we (by simp (disch:=omega) only [JY,V8,List.map_nil,go_sem,seval])
       ·have hok:Vf (nth ws i)=true:=XO.2 Za;rw [if_pos ⟨Za,Za⟩];simp (disch:=omega) only [go_sem,seval];refine ⟨i+1,⟨Za,Za,?_⟩,Za,Weak.mk ?_⟩
        ·rw [hsu];intro w hw;rcases List.mem_append.1 hw with hw | hw
         ·exact hno w hw
         ·simp only [List.mem_cons,List.not_mem_nil,or_false] at hw;subst hw;exact hok
        ·simp (disch:=omega) only [Vm,hsu,nmF,List.map_append,List.map_cons,List.map_nil,List.length_append,List.length_cons,List.length_nil,go_sem,seval]
   ·have hil:i=ws.length:=Za
    subst hil;have hok:A7 ws=true:=(QY h9).2 ⟨hno,h2,h8⟩;have hsa:=Ba h9
    have hlen:(Wx ws ws.length).length<=131080:=Za
    have hex:US ws=some ⟨nmF (nth ws 1),⟨nmF (nth ws 3),decide (nth ws 2= [45])⟩,nmF (nth ws 4),⟨nmF (nth ws 5),nmF (nth ws 6),nmF (nth ws 7),decide (nth ws 8=XA)⟩,false,(ws.drop 9).map nmF⟩:=by
     rw [US,if_neg (by rintro (e | e);exact h9 e;exact e h0),if_pos hok]
    rw [hex]
    have hN:((Wx ws ws.length).map nmF)= [nmF (nth ws 1)]++ [nmF (nth ws 3),nmF (nth ws 4),nmF (nth ws 5),nmF (nth ws 6),nmF (nth ws 7)]++(ws.drop 9).map nmF:=by rw [hsa];simp
    have hNl:(Wx ws ws.length).length=((Wx ws ws.length).map nmF).length:=by rw [List.length_map]
    rw [hNl]
    generalize (Wx ws ws.length).map nmF=N at *
    generalize (ws.drop 9).map nmF=N3 at *
    generalize nmF (nth ws 1)=x1 at *
    generalize nmF (nth ws 3)=x3 at *
    generalize nmF (nth ws 4)=x4 at *
    generalize nmF (nth ws 5)=x5 at *
    generalize nmF (nth ws 6)=x6 at *
    generalize nmF (nth ws 7)=x7 at *
    have l6:N.length=N3.length+6:=by rw [hN];simp
    have v1:nth N 0=x1:=by rw [hN];rfl
    have v3:nth N 1=x3:=by rw [hN];rfl
    have v4:nth N 2=x4:=by rw [hN];rfl
    have v5:nth N 3=x5:=by rw [hN];rfl
    have v6:nth N 4=x6:=by rw [hN];rfl
    have v7:nth N 5=x7:=by rw [hN];rfl
    have v8:N.drop 6=N3:=by rw [hN];rfl
    simp only [Zn];refine Zp (Weak.fz (o:=1) (by rfl)) ?_;refine Zc [15,16] _ _ _ _ ?_;simp (disch:=omega) only [List.map_cons,List.map_nil,List.set_cons_succ,List.set_cons_zero,Vm,go_sem,seval];refine BI [15] 16 mixed Zh Zh Zh Zb ?_;simp (disch:=omega) only [l6,v1,v3,v4,v5,v6,v7,go_sem,seval];refine B7 _ _ (by simp (disch:=omega) only [go_sem,seval];exact ⟨rfl,rfl⟩) ?_;simp (disch:=omega) only [go_sem,seval];refine Z7 13 mixed Zh Zh ?_;simp (disch:=omega) only [l6,v1,v3,v4,v5,v6,v7,go_sem,seval]
    refine Zp (Weak.nilC (o:=2) (j:=8) 1 (by rfl) (by rfl) Zb) ?_;refine Zc [16] _ _ _ _ ?_;simp (disch:=omega) only [List.set_cons_succ,List.set_cons_zero,List.cons_append,List.nil_append,go_sem,seval];refine Z7 (t:=⟨⟩) 4 mixed Zh Zh ?_;simp (disch:=omega) only [v8,List.take_length,go_sem,seval];refine Zp (Weak.fz (o:=3) (by rfl)) ?_;refine Zc [] _ _ _ _ ?_;simp (disch:=omega) only [List.map_cons,List.map_nil,List.set_cons_succ,List.set_cons_zero,go_sem,seval];exact we (by simp (disch:=omega) only [JY,hw6,go_sem,seval])
theorem Ug (n:Int) (h:okD n):PC 40 [.p (.int .i64 n)] (.str (decS n)):=by
 refine Zd Tryz.func40 rfl cM ?_;simp (disch:=omega) only [Tryz.f40,go_sem,seval];refine (I6 n h).use ?_;simp (disch:=omega) only [go_sem,seval]
 rfl
theorem L7 (xs:List (List UInt8)) (c:Bool) (hx:xs.length<=1048576) (hl:(XI xs [32]).length<=140737488355328) :
  PC 42 [.p (.list c (xs.map WW))] (.str (XI xs [32])):=by
 refine Zd Tryz.func42 rfl cO ?_;simp (disch:=omega) only [Tryz.f42,go_sem,seval];refine (Po xs c [32] hx hl).use ?_;simp (disch:=omega) only [go_sem,seval]
theorem rests_c (l:List Bool) (c:Bool) (h:tA l):PC 41 [.p (.list c (l.map eB))] (.str (eJ l)):=by
 have h:l.length<=4096:=h;refine Y6 [3] Tryz.func41 rfl cN ?_;simp (disch:=omega) only [Tryz.f41,go_sem,seval];refine cD ?_ ?_<;>intro h1<;>simp (disch:=omega) only [Sh.out h1,go_sem,seval]
 ·have:l= []:=List.length_eq_zero_iff.1 Za;subst this;rfl
 ·have hne:l≠ []:=fun e=>h1 (by rw [e];rfl);refine ZI (UV 0 rfl rfl ?_);simp (disch:=omega) only [go_sem,seval];refine ⟨_,_,DA 77 5 rfl Zh,?_⟩;simp (disch:=omega) only [go_sem,seval];refine Zc [] _ _ _ _ ?_;simp (disch:=omega) only [go_sem,seval];refine Zo [3,9,10] (fun k:Nat=> [(11,.p (.int .i64 k))]) (fun k=> [.bld 77 5 1 ((l.take k).map Rm),.dead]) (fun k=>k<=l.length) (fun k=>l.length-k) 0 Zb (Weak.mk ?_) ?_
  ·simp (disch:=omega) only [List.take_zero,List.map_nil,go_sem,seval]
  ·intro k hk;simp (disch:=omega) only [go_sem,seval];refine cD ?_ ?_<;>intro h2<;>simp (disch:=omega) only [Sh.out h2,go_sem,seval]
   ·have hk2:k<l.length:=Za
    have hnx:(l.take (k+1)).map Rm=(l.take k).map Rm++ [Rm (nth l k)]:=by rw [List.take_succ_eq_append_getElem hk2,Zg hk2,List.map_append];rfl
    have hsz:((l.take k).map Rm).length+1<=140737488355328:=by rw [List.length_map,List.length_take];omega
    cases hb:nth l k with
    | true =>
     simp (disch:=omega) only [hb,go_sem,seval];refine (DV (o:=0) (r:=1) rfl 121 hsz).mono ?_;rintro x H' ⟨rfl,rfl⟩;simp (disch:=omega) only [go_sem,seval];exact ⟨k+1,Za,Za,Weak.mk (by simp (disch:=omega) only [hnx,hb,Rm,List.set_cons_zero,go_sem,seval])⟩
    | false =>
     simp (disch:=omega) only [hb,Bool.false_eq_true,go_sem,seval];refine (DV (o:=0) (r:=1) rfl 110 hsz).mono ?_;rintro x H' ⟨rfl,rfl⟩;simp (disch:=omega) only [go_sem,seval];exact ⟨k+1,Za,Za,Weak.mk (by simp (disch:=omega) only [hnx,hb,Rm,Bool.false_eq_true,List.set_cons_zero,go_sem,seval])⟩
   ·have hkl:k=l.length:=Za
    subst hkl;rw [List.take_length];refine (FS (o:=0) (r:=1) rfl (by simpa using hne)).mono ?_;rintro x H' ⟨rfl,rfl⟩;simp (disch:=omega) only [go_sem,seval];rw [eJ,if_neg hne];rfl
theorem Pr (r:Row) (h:RowPr r):PC 32 [.p (X4 r)] (.str (XV r)):=by
 refine Zd Tryz.func32 rfl cI ?_;simp (disch:=omega) only [Tryz.f32,go_sem,seval];have hl:=h.len;have hll:=Um h;have hds:(if r.v.drp=true then ([45]:List UInt8) else [43])=(if r.v.drp=true then [45] else [43]):=rfl;have hhd:DK r= [[114,111,119],decS r.rt,if r.v.drp=true then [45] else [43]]:=rfl;have hrs:JV r=if r.tm.rest=true then [114,101,115,116] else [103,111]:=rfl
 generalize hd:r.v.drp=d at *
 generalize ht:r.tm.rest=t at *
 cases d<;>cases t
 all_goals
  simp (disch:=omega) only [go_sem,seval];refine (Ug r.rt h.rt).use ?_;simp (disch:=omega) only [go_sem,seval];refine Zo [1,4,35,36] (fun q:Nat=> [(37,.p (.int .i64 q)),(5,.sl 1 0 (Y2 r q).length (Y2 r q).length)]) (fun q=> [UH r,.elems 1 ((Y2 r q).map WW),.elems 1 ((rowNs r).map eI)]) (fun q=>q<=5) (fun q=>5-q) 0 Zb (Weak.mk ?_) ?_
  ·simp (disch:=omega) only [UH,hd,ht,go_sem,seval];simp [Y2,hhd,rowNs,U4,bB]
  ·intro q hq;simp (disch:=omega) only [UH,hd,ht,go_sem,seval];have hwl:=JW (r:=r) hq;refine cD ?_ ?_<;>intro h1<;>simp (disch:=omega) only [Sh.out h1,go_sem,seval]
   ·have hq2:q<(rowNs r).length:=by rw [E7];omega
    have hdo:=h.ns _ (Zr hq2);have hsn:=Cv hq2;have h5:(rowNs r).length=5:=rfl;have he:WA ((rowNs r).map eI) q=eI (nth (rowNs r) q):=UX hq2
    generalize (nth (rowNs r) q)=n at *
    simp (disch:=first | omega | (simp only [List.length_cons,List.length_nil,List.length_append,List.length_map,List.length_take,List.length_drop]<;>omega)) only [h5,go_sem,seval];rw [he,if_pos ⟨Za,by simp [eI,PV.cells]⟩];simp (disch:=omega) only [PV.cells,List.take_succ_cons,List.take_zero,List.map_cons,List.map_nil,go_sem,seval];refine (Ug n hdo).use ?_;simp (disch:=omega) only [go_sem,seval];refine ⟨q+1,Za,Za,Weak.mk ?_⟩;simp (disch:=omega) only [UH,hd,ht,hsn,List.map_append,List.map_cons,List.map_nil,List.length_append,List.length_cons,List.length_nil,U4,go_sem,seval]
   ·have hq5:q=5:=Za
    subst hq5;have hz:=Cx (r:=r);rw [hrs] at hz;refine Zo [52,53] (fun q:Nat=> [(54,.p (.int .i64 q)),(5,.sl 1 0 (XB r q).length (XB r q).length)]) (fun q=> [UH r,.elems 1 ((XB r q).map WW),.elems 1 ((rowNs r).map eI),.elems 1 [.str (JV r)]]) (fun q=>q<=r.load.length) (fun q=>r.load.length-q) 0 Zb (Weak.mk ?_) ?_
    ·simp (disch:=omega) only [UH,hd,ht,hz,hrs,List.map_append,List.map_cons,List.map_nil,List.length_append,List.length_cons,List.length_nil,U4,go_sem,seval]
    ·intro q hq;simp (disch:=omega) only [UH,hd,ht,go_sem,seval];have hwl:=Uu hq;refine cD ?_ ?_<;>intro h2<;>simp (disch:=omega) only [Sh.out h2,go_sem,seval]
     ·have hq2:q<r.load.length:=Za
      have hdo:=h.load _ (Zr hq2);have hsn:=Cw hq2
      generalize (nth r.load q)=n at *
      refine (Ug n hdo).use ?_;simp (disch:=omega) only [go_sem,seval];refine ⟨q+1,Za,Za,Weak.mk ?_⟩;simp (disch:=omega) only [UH,hd,ht,hsn,List.map_append,List.map_cons,List.map_nil,List.length_append,List.length_cons,List.length_nil,U4,go_sem,seval]
     ·have hql:q=r.load.length:=Za
      subst hql;refine ACalls.view (L7 (XB r r.load.length) false Za Za) (by simp [Ty,vw,Xv,KO]<;>rfl) (by rfl) ?_;simp (disch:=omega) only [go_sem,seval];rw [HH (by simp;omega)];simp (disch:=omega) only [go_sem,seval];rw [XV]
theorem AE (l:List Row) (c:Bool) (hl:l.length<=4096) (h: ∀r∈l,RowPr r):PC 9 [.p (.list c (l.map X4))] (.str (DF l)):=by
 have hll: ∀k:Nat,(((l.take k).map XV).flatten).length<=k*266826:=fun k=>by
  induction k with
  | zero=>simp
  | succ k ih =>
   by_cases hk:k<l.length
   ·rw [List.take_succ_eq_append_getElem hk,List.map_append,List.flatten_append,List.length_append];have:=Um (h _ (List.getElem_mem hk))
    simp only [List.map_cons,List.map_nil,List.flatten_cons,List.flatten_nil,List.append_nil,XV,List.length_append,List.length_cons,List.length_nil] at *
    omega
   ·rw [List.take_of_length_le Za] at ih ⊢;exact Nat.le_trans ih (Nat.mul_le_mul_right _ (Nat.le_succ k))
 refine Y6 [1] Tryz.func9 rfl mQ ?_;simp (disch:=omega) only [Tryz.f9,go_sem,seval];refine ZI (UV 0 rfl rfl ?_);simp (disch:=omega) only [go_sem,seval];refine ⟨_,_,DA 77 5 rfl Zh,?_⟩;simp (disch:=omega) only [go_sem,seval];refine Zc [] _ _ _ _ ?_;simp (disch:=omega) only [go_sem,seval];refine Zo [3,6,7] (fun k:Nat=> [(8,.p (.int .i64 k))]) (fun k=> [.bld 77 5 1 (((l.take k).map XV).flatten),.dead]) (fun k=>k<=l.length) (fun k=>l.length-k) 0 Zb (Weak.mk ?_) ?_
 ·simp (disch:=omega) only [List.take_zero,List.map_nil,List.flatten_nil,go_sem,seval]
 ·intro k hk;simp (disch:=omega) only [go_sem,seval];refine cD ?_ ?_<;>intro h1<;>simp (disch:=omega) only [Sh.out h1,go_sem,seval]
  ·have hk2:k<l.length:=Za
   have hm:=h _ (Zr hk2);have hkl:=hll k;have hln:=Um hm
   have htk:(l.take (k+1)).map XV=(l.take k).map XV++ [XV (nth l k)]:=by rw [List.take_succ_eq_append_getElem hk2,Zg hk2,List.map_append];rfl
   refine (Pr (nth l k) hm).use ?_;simp (disch:=omega) only [go_sem,seval];refine (Rl (o:=0) (r:=1) rfl (XV (nth l k)) (by simp [XV]) (by simp only [XV,List.length_append,List.length_cons,List.length_nil];omega)).mono ?_;rintro x H' ⟨rfl,rfl⟩;simp (disch:=omega) only [go_sem,seval];refine ⟨k+1,Za,Za,Weak.mk ?_⟩;simp (disch:=omega) only [htk,List.flatten_append,List.flatten_cons,List.flatten_nil,List.append_nil,List.set_cons_succ,List.set_cons_zero,go_sem,seval]
  ·have hkl:k=l.length:=Za
   subst hkl;rw [List.take_length];refine (IF (o:=0) (r:=1) rfl).mono ?_;rintro x H' ⟨rfl,rfl⟩;simp (disch:=omega) only [go_sem,seval];rw [DF]
def eO : Typ:= { name:= [118],count:=1,src:=0,dst:=0,cap_c:=false,cap:= [5],cls:=100,drive:=100,opn:=0,rest:=0,skills:=0,fixed:=0,perMile:=0,perTick:=0,prof:=0 }
def eN : Ord:= { name:= [111],load_c:=false,load:= [1],pick:=⟨-1,0,0,0⟩,drp:=⟨1,30,40,2⟩,skills:=0,penalty:= -1,split:=1,last:= -1,now:= -1,off:=false }
def PW (a b:Int):Arc:= { src:=a,dst:=b,prof:=0,miles:=5,travel_c:=false,travel:= [⟨0,10⟩],slow_c:=true,slow:= [] }
def samX : Inst:= { net:= { places_c:=false,places:= [[65],[66]],arcs_c:=false,arcs:= [PW 0 1,PW 1 0] },types_c:=false,types:= [eO],orders_c:=false,orders:= [eN],apart_c:=true,apart:= [],before_c:=true,before:= [] }
def samP : Pln:=⟨false,[⟨0,0,true,[],false,[⟨0,true⟩]⟩],true,[]⟩
theorem DN : InstOk samX := by
  refine ⟨⟨⟨⟨by decide, fun i hi => ?_⟩, by decide⟩, fun i hi => ?_⟩, ⟨rfl, fun i hi => ?_⟩, AT.1 (by rfl), rfl⟩
  · match i, hi with
    | 0, _ => exact ⟨rfl, fun k hk => Za⟩
    | 1, _ => exact ⟨rfl, fun k hk => by have : k = 0 := Za
                                         subst this; decide⟩
  · match i, hi with
    | 0, _ => unfold CZ YB PJ KM; decide
    | 1, _ => unfold CZ YB PJ KM; decide
  · have : i = 0 := by simp [samX] at hi; omega
    subst this;exact ⟨⟨⟨⟨⟨⟨⟨⟨rfl, fun j hj => Za⟩, rfl⟩, rfl, rfl⟩, rfl⟩, rfl⟩, rfl, by decide⟩, rfl, rfl⟩, rfl, rfl, rfl, rfl⟩
theorem U3 : YF samX samP.routes=0:=Zh
def samL : List Int:= [0]
def samM : List Row:= [⟨0,⟨0,true⟩,1,⟨10,30,32,false⟩,false,samL⟩]
theorem LS : Yy samX samP.routes samP.routes.length=samM:=Zh
theorem PX : (Yy samX samP.routes samP.routes.length).filter (Bj samX 31)=samM:=Zh
theorem LQ : Fk samX 31 samP.routes samP.routes.length=0:=Zh
theorem LR : Fk samX 41 samP.routes samP.routes.length=1:=Zh
theorem KJ : Jh samX samP.routes samP.routes.length=10/\Jl samX samP.routes samP.routes.length=42/\Jj samX samP.routes samP.routes.length=0:=⟨Zh,Zh,Zh⟩
theorem CB : PT 27 [] [.p (XU samX),.p (Ep samP)]:=by
 refine Ze [1,2,3,4,5] Tryz.func27 rfl cC ?_;simp (disch:=omega) only [Tryz.f27,go_sem,seval];refine ZI (Ki 1 ?_);simp (disch:=omega) only [go_sem,seval];refine ⟨_,_,Weak.fz (o:=2) (by rfl),?_⟩;simp (disch:=omega) only [List.map_cons,List.map_nil,List.set_cons_succ,List.set_cons_zero,List.cons_append,List.nil_append,go_sem,seval];refine Zc [2,3,4,5] _ _ _ _ ?_;simp (disch:=omega) only [go_sem,seval];refine ZI (Qh 2 3 ?_);simp (disch:=omega) only [go_sem,seval];refine ⟨_,_,Weak.fz (o:=4) (by rfl),?_⟩;simp (disch:=omega) only [List.map_cons,List.map_nil,List.set_cons_succ,List.set_cons_zero,List.cons_append,List.nil_append,go_sem,seval]
 refine ⟨_,_,Weak.fz (o:=5) (by rfl),?_⟩;simp (disch:=omega) only [List.map_cons,List.map_nil,List.set_cons_succ,List.set_cons_zero,List.cons_append,List.nil_append,go_sem,seval];refine Zc [3,4,5] _ _ _ _ ?_;simp (disch:=omega) only [go_sem,seval];refine ZI (Ki 1 ?_);simp (disch:=omega) only [go_sem,seval];refine ⟨_,_,Weak.fz (o:=7) (by rfl),?_⟩;simp (disch:=omega) only [List.map_cons,List.map_nil,List.set_cons_succ,List.set_cons_zero,List.cons_append,List.nil_append,go_sem,seval];refine Zc [4,5] _ _ _ _ ?_;simp (disch:=omega) only [go_sem,seval]
 refine ZI (Ki 1 ?_);simp (disch:=omega) only [go_sem,seval];refine ⟨_,_,Weak.fz (o:=9) (by rfl),?_⟩;simp (disch:=omega) only [List.map_cons,List.map_nil,List.set_cons_succ,List.set_cons_zero,List.cons_append,List.nil_append,go_sem,seval];refine Zc [5] _ _ _ _ ?_;simp (disch:=omega) only [go_sem,seval];refine Zp (Weak.fz (o:=6) (by rfl)) ?_;refine Zp (Weak.fz (o:=8) (by rfl)) ?_;refine Zp (Weak.fz (o:=10) (by rfl)) ?_;refine ZI (Qh 3 2 ?_);simp (disch:=omega) only [List.map_cons,List.map_nil,List.set_cons_succ,List.set_cons_zero,List.cons_append,List.nil_append,go_sem,seval]
 refine ⟨_,_,Weak.fz (o:=11) (by rfl),?_⟩;simp (disch:=omega) only [List.map_cons,List.map_nil,List.set_cons_succ,List.set_cons_zero,List.cons_append,List.nil_append,go_sem,seval];refine ⟨_,_,Weak.fz (o:=12) (by rfl),?_⟩;simp (disch:=omega) only [List.map_cons,List.map_nil,List.set_cons_succ,List.set_cons_zero,List.cons_append,List.nil_append,go_sem,seval];refine Zc [] _ _ _ _ ?_;simp (disch:=omega) only [go_sem,seval];exact we (by simp (disch:=omega) only [samX,samP,eO,eN,PW,List.map_cons,List.map_nil,go_sem,seval])
theorem gI {g:FuncId} {args:List V} {a b c d:PV} {H:List AM.Obj} {K:V->List AM.Obj->Prop} (h:ACalls Tryz.prog g args [] fun x H'=>x= .tup [.p a,.p b,.p c,.p d]/\H'= []) (k:K (.tup [.p a,.p b,.p c,.p d]) H) (ha:Zy 0 args=true:=by rfl):ACalls Tryz.prog g args H K :=
 (h.behind ha H).mono fun x H' hq=>by
  obtain ⟨y,H1,⟨rfl,rfl⟩,rfl,rfl⟩:=hq;simpa [Bf,Wl] using k
def LN : List Row:= [⟨0,⟨2,true⟩,1,⟨10,30,32,false⟩,false,[4,0]⟩]
theorem LP : DF LN= [114,111,119,32,48,32,45,32,50,32,49,32,49,48,32,51,48,32,51,50,32,103,111,32,52,32,48,10]:=Zh
theorem LO : ∀r∈LN,RowPr r:=fun r hr=>by
 simp only [LN,List.mem_cons,List.not_mem_nil,or_false] at hr;subst hr;refine ⟨⟨by decide,by decide⟩,fun n hn=> ?_,fun n hn=> ?_,by decide⟩
 ·simp only [rowNs,List.mem_cons,List.not_mem_nil,or_false] at hn;rcases hn with rfl | rfl | rfl | rfl | rfl<;>exact ⟨by decide,by decide⟩
 ·simp only [List.mem_cons,List.not_mem_nil,or_false] at hn;rcases hn with rfl | rfl<;>exact ⟨by decide,by decide⟩
theorem LM : ∀r∈samP.routes,Hv r:=fun r hr=>by
 simp only [samP,List.mem_cons,List.not_mem_nil,or_false] at hr;subst hr;exact ⟨by decide,by decide⟩
theorem BW : PC 8 [] (.bool true):=by
 have hl:samP.routes.length<=1048576:=by decide
 have cR:=Ld samX samP DN hl LM;rw [Ps,if_pos U3,LS] at cR;have cA:=MN samX samP 31 DN hl LM;rw [aV,if_neg Za,if_pos U3,PX,LQ] at cA;have cB:=MN samX samP 41 DN hl LM;rw [aV,if_neg Za,if_pos U3,LR] at cB;have cT:=EH samX samP DN hl LM;rw [Rf,if_pos U3,KJ.1,KJ.2.1,KJ.2.2] at cT;refine Ze [8] Tryz.func8 rfl mP ?_;simp (disch:=omega) only [Tryz.f8,go_sem,seval];refine ZV CB ?_;simp (disch:=omega) only [go_sem,seval];refine ZV cR ?_;simp (disch:=omega) only [go_sem,seval]
 refine Uy cA ?_;simp (disch:=omega) only [go_sem,seval];refine Uy cB ?_;simp (disch:=omega) only [go_sem,seval];refine gI cT ?_;have hM1:samM.length=1:=rfl;have hM2:nth samM 0=⟨0,⟨0,true⟩,1,⟨10,30,32,false⟩,false,samL⟩:=rfl;have hM3:samL.length=1:=rfl;have hM4:nth samL 0=0:=rfl;simp (disch:=omega) only [hM1,go_sem,seval];refine ZI (Qh 3 2 ?_);simp (disch:=omega) only [go_sem,seval];refine ⟨_,_,Weak.fz (o:=2) (by rfl),?_⟩;simp (disch:=omega) only [List.map_cons,List.map_nil,List.set_cons_succ,List.set_cons_zero,List.cons_append,List.nil_append,go_sem,seval]
 refine ⟨_,_,Weak.fz (o:=3) (by rfl),?_⟩;simp (disch:=omega) only [List.map_cons,List.map_nil,List.set_cons_succ,List.set_cons_zero,List.cons_append,List.nil_append,go_sem,seval];refine (AE LN false (by decide) LO).use ?_;rw [LP];simp (disch:=omega) only [decide_true,hM1,hM2,hM3,hM4,go_sem,seval];refine Zc [] _ _ _ _ ?_;simp (disch:=omega) only [go_sem,seval];exact we
theorem LG (l:List Row) (c:Bool) (hl:l.length<=1073741824):PC 13 [.p (.list c (l.map X4))] (.list false (l.map X4)):=by
 refine Ze [2,7] Tryz.func13 rfl bY ?_;simp (disch:=omega) only [Tryz.f13,go_sem,seval];refine Zp (Weak.nil 3 9 (by rfl) Zb) ?_;refine Zc [7] _ _ _ _ ?_;simp (disch:=omega) only [List.set_cons_succ,List.set_cons_zero,List.cons_append,List.nil_append,List.length_cons,List.length_nil,go_sem,seval];refine Zo [6,7] (fun k:Nat=> [(3,.sl 0 0 k k),(8,.p (.int .i64 k))]) (fun k=> [.elems 9 ((l.take k).map X4)]) (fun k=>k<=l.length) (fun k=>l.length-k) 0 Zb (Weak.mk ?_) ?_
 ·simp (disch:=omega) only [List.take_zero,List.map_nil,go_sem,seval]
 ·intro k hk;simp (disch:=omega) only [go_sem,seval];refine cD ?_ ?_<;>intro h1<;>simp (disch:=omega) only [Sh.out h1,go_sem,seval]
  ·have hk2:k<l.length:=Za
   have ht:l.take (k+1)=l.take k++ [nth l k]:=by rw [List.take_succ_eq_append_getElem hk2,Zg hk2]
   have htl:(l.take k).length=k:=by simp;omega
   simp (disch:=omega) only [htl,go_sem,seval];rw [if_pos ⟨Za,Za⟩];simp (disch:=omega) only [go_sem,seval];refine ⟨k+1,Za,Za,Weak.mk ?_⟩;simp (disch:=omega) only [ht,htl,List.map_append,List.map_cons,List.map_nil,List.length_append,List.length_cons,List.length_nil,go_sem,seval]
  ·have hkl:k=l.length:=Za
   subst hkl;rw [List.take_length];refine Zp (Weak.fz (o:=0) (by rfl)) ?_;refine Zc [] _ _ _ _ ?_;simp (disch:=omega) only [List.map_cons,List.map_nil,List.set_cons_succ,List.set_cons_zero,List.length_map,eq_self,go_sem,seval];exact we
theorem HG (l:List Row) (c d:Bool) (hl:l.length<=1073741824) (hb: ∀r∈l,r.load.length<=1048576) :
  PC 12 [.p (.list c (l.map X4)),.p (.list d (l.map X4))] (.bool true):=by
 refine Zd Tryz.func12 rfl MG ?_;simp (disch:=omega) only [Tryz.f12,go_sem,seval];refine Zo [0,1] (fun k:Nat=> [(5,.p (.int .i64 k))]) (fun _=> []) (fun k=>k<=l.length) (fun k=>l.length-k) 0 Zb (Weak.mk ?_) ?_
 ·simp (disch:=omega) only [go_sem,seval]
 ·intro k hk;simp (disch:=omega) only [go_sem,seval];refine cD ?_ ?_<;>intro h1<;>simp (disch:=omega) only [Sh.out h1,go_sem,seval]
  ·have hk2:k<l.length:=Za
   have hbk:=hb _ (Zr hk2);generalize hrr:nth l k=r at hbk ⊢;refine Wv ?_;simp (maxSteps:=3000000) (disch:=omega) only [decide_true,Bool.not_true,go_sem,seval];refine Zo [0,1,5] (fun q:Nat=> [(6,.p (.int .i64 q))]) (fun _=> []) (fun q=>q<=r.load.length) (fun q=>r.load.length-q) 0 Zb (Weak.mk ?_) ?_
   ·simp (disch:=omega) only [go_sem,seval]
   ·intro q hq;simp (disch:=omega) only [hrr,go_sem,seval];refine cD ?_ ?_<;>intro h2<;>simp (disch:=omega) only [Sh.out h2,go_sem,seval]
    ·have hq2:q<r.load.length:=Za
     refine Wv ?_;simp (disch:=omega) only [hrr,go_sem,seval];exact ⟨q+1,Za,Za,wk⟩
    ·exact ⟨k+1,Za,Za,wk⟩
theorem SD (l m:List Row) (c d:Bool) (hm:m.length=l.length) (hq: ∀k,k<l.length-> ∃x,nth m k= { nth l k with load_c:=x }) (hl:l.length<=1073741824) (hb: ∀r∈l,r.load.length<=1048576) :
  PC 12 [.p (.list c (l.map X4)),.p (.list d (m.map X4))] (.bool true):=by
 refine Zd Tryz.func12 rfl MG ?_;simp (disch:=omega) only [Tryz.f12,hm,go_sem,seval];refine Zo [0,1] (fun k:Nat=> [(5,.p (.int .i64 k))]) (fun _=> []) (fun k=>k<=l.length) (fun k=>l.length-k) 0 Zb (Weak.mk ?_) ?_
 ·simp (disch:=omega) only [go_sem,seval]
 ·intro k hk;simp (disch:=omega) only [go_sem,seval];refine cD ?_ ?_<;>intro h1<;>simp (disch:=omega) only [Sh.out h1,go_sem,seval]
  ·have hk2:k<l.length:=Za
   have hbk:=hb _ (Zr hk2);obtain ⟨x,hx⟩:=hq k hk2;generalize hrr:nth l k=r at hbk hx ⊢;refine Wv ?_;simp (maxSteps:=3000000) (disch:=omega) only [hx,hrr,decide_true,Bool.not_true,go_sem,seval];refine Zo [0,1,5] (fun q:Nat=> [(6,.p (.int .i64 q))]) (fun _=> []) (fun q=>q<=r.load.length) (fun q=>r.load.length-q) 0 Zb (Weak.mk ?_) ?_
   ·simp (disch:=omega) only [go_sem,seval]
   ·intro q hq;simp (disch:=omega) only [hrr,hx,go_sem,seval];refine cD ?_ ?_<;>intro h2<;>simp (disch:=omega) only [Sh.out h2,go_sem,seval]
    ·have hq2:q<r.load.length:=Za
     refine Wv ?_;simp (disch:=omega) only [hrr,hx,go_sem,seval];exact ⟨q+1,Za,Za,wk⟩
    ·exact ⟨k+1,Za,Za,wk⟩
theorem Kw (s:List UInt8) (hs:s.length<=1048576) :
  PC 4 [.p (.str s)] (.bool true):=by
 refine Y6 [] Tryz.func4 rfl mO ?_;simp (disch:=omega) only [Tryz.f4,go_sem,seval];refine cD ?_ ?_<;>intro h1<;>simp (disch:=omega) only [Sh.out h1,go_sem,seval]
 ·refine (BW).use ?_;simp (disch:=omega) only [go_sem,seval]
 ·have c1:=GI s Za;have c2:=EX s Za fun t ht=>Hr t Za;have hno:=DD (s.length+1) 1 [] s;have hok:(XS (s.length+1) 1 [] s).2.2=0->DF (XS (s.length+1) 1 [] s).1.2=s/\(XS (s.length+1) 1 [] s).1.2.length<=4096/\ ∀r∈(XS (s.length+1) 1 [] s).1.2,RowPr r:=fun h=>LC (c:=(XS (s.length+1) 1 [] s).1.1) (m:=(XS (s.length+1) 1 [] s).2.1) (Prod.ext rfl (Prod.ext rfl h)) Za;unfold VW at c1 c2
  generalize XS (s.length+1) 1 [] s=Q at *
  obtain ⟨⟨b,l⟩,n,e⟩:=Q;simp only at hno hok c1 c2
  have hB:l.length<=4096/\ ∀r∈l,r.load.length<=1048576:=by
   rcases hno with ⟨_,h⟩ | ⟨h,_⟩
   ·obtain ⟨_,o1,o2⟩:=hok h;exact ⟨o1,fun r hr=>by have:=(o2 r hr).len;omega⟩
   ·cases h
    exact ⟨by decide,fun r hr=>by cases hr⟩
  have c3:=LG l b Za;have c4:=HG l false b Za hB.2;refine Uy c1 ?_;simp (disch:=omega) only [go_sem,seval];refine Uy c2 ?_;simp (disch:=omega) only [decide_true,eq_self,go_sem,seval];refine (c3).use ?_;simp (disch:=omega) only [go_sem,seval];refine (c4).use ?_;simp (disch:=omega) only [go_sem,seval];rcases hno with ⟨_,h⟩ | ⟨_,h⟩
  ·subst h;obtain ⟨o1,o2,o3⟩:=hok rfl;have c5:=AE l b o2 o3;rw [o1] at c5;simp (disch:=omega) only [go_sem,seval];refine (c5).use ?_;simp (disch:=omega) only [go_sem,seval];refine (BW).use ?_;simp (disch:=omega) only [go_sem,seval]
  ·subst h;simp (disch:=omega) only [go_sem,seval];refine (BW).use ?_;simp (disch:=omega) only [go_sem,seval]
end Go.Proofs.YtmbelkfkhclnkaaGreatDoor.K
