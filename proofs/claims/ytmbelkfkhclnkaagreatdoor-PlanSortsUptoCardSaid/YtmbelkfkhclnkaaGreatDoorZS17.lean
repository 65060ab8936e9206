/- Declarations that the closing texts need, part 17: joined by tools/slim.py. -/
import Derived.Test.YtmbelkfkhclnkaaGreatDoorZS16
import Derived.LaidHandle
import Derived.LaidLaws
import Derived.Lib.LaidTab
import Derived.Test.YtmbelkfkhclnkaaGreatDoorTie
set_option linter.unusedVariables false
set_option linter.unusedSimpArgs false
namespace Go.Proofs.YtmbelkfkhclnkaaGreatDoor.K
open Go Go.AM Go.Proofs Go.ChangeShapes
section
variable {H : Type} {enc : TypeId × Value -> H}
theorem Ch {a:Assume} {C:Checked} {os:Os} {f:FuncId} {fn:Func} {s:OpenSpec} {k:(H:Type)->List (DataW H)->Bool} (hk:s.cond=some k) {F:Stop.Interp} {conds:List PathCond} {apart fresh handsOn again:Bool} {X:World->Prop}
  (own:ownKnob C.prog.godebug=none) (started:os.Started) (noInit:C.prog.inits.idxOf? f=none) (hfn:C.prog.funcs[f]? =some fn)
  (witness: ∃(w:World) (tape:Tape) (i:Input),w.os=os/\(w.forCall tape i).Shaped C.prog/\i.vars= []/\Input.okWide C.prog (w.forCall tape i) .any w.heap.size f i /\
   ((s.pre enc C.prog fn conds apart (w.forCall tape i).memory i.args/\X (w.forCall tape i).memory)/\sizedMet enc C.prog fn s apart (w.forCall tape i).memory i.args)/\a.holds C.prog (lone (Frame.enter C.prog f i.args .normal) [] (w.forCall tape i)))
  (contract: ∀(W:World) (base:Nat) (args:Array Value) (ds gs:List (DataW H)) (before:List MemPlace),
   (∀(j:Nat) t v,fn.params[j]? =some t->args[j]? =some v->Value.okWide C.prog W .any base t v) ->
   DataW.Whole enc C.prog fn.params.toList s.vars apart W args.toList ds gs before ->
   conds.all (PathCond.test C.prog ⟨fn.params.toList,ds,s.bare.plain.varTypes C.prog,gs⟩)=true->k H (ds++gs)=true ->
   a.holds C.prog (lone (Frame.enter C.prog f args .normal) [] W)->X W.memory ->
   Calls C.prog f args W fun e W'=> ∃v,e= .returned v/\(s.at F).post enc C.prog fn apart fresh handsOn again W args v W') :
  ReturnsInHanded a C os f .any (fun w args=>(s.pre enc C.prog fn conds apart w args/\X w)/\sizedMet enc C.prog fn s apart w args) ((s.at F).post enc C.prog fn apart fresh handsOn again):=by
 refine returnsInHanded_of_calls own started noInit witness ?_;intro w tape i _ _ _ hok hpre hholds;obtain ⟨_,_,_,fn',hfn',_,_,_,_,hval⟩:=hok;have e:fn'=fn:=Option.some.inj (hfn'.symm.trans hfn);subst e;obtain ⟨ds,gs,before,hw,hc,hkk⟩:=(OpenSpec.pre_some hk conds apart _ _).1 hpre.1.1;have hw':=DataW.Whole.of_heap (w':=w.forCall tape i) (by rfl) hw;refine (contract (w.forCall tape i) w.heap.size i.args ds gs before hval hw' hc hkk hholds hpre.1.2).mono fun e W' ⟨v,he,hp⟩=> ?_;subst he;exact ChangeSpec.post_blind hp
theorem Br {C:Checked} {os:Os} {f:FuncId} {fn:Func} {s:OpenSpec} {k:(H:Type)->List (DataW H)->Bool} (hk:s.cond=some k) {conds:List PathCond} {apart:Bool} {X:World->Prop} (modest:Bool) (w0:World) (args:Array Value) (fuel:Nat) (hos:w0.os=os)
  (hv:(w0.forCall (fun _ _=>0) ⟨#[],args,[]⟩).variablesB C.prog=true)
  (hr:((w0.forCall (fun _ _=>0) ⟨#[],args,[]⟩).heap.toList.drop C.prog.globals.size).take ((begin C.prog (fun _ _=>0) default).world.heap.size-C.prog.globals.size) =
   (begin C.prog (fun _ _=>0) default).world.heap.toList.drop C.prog.globals.size)
  (hok:Input.okWideB C.prog (w0.forCall (fun _ _=>0) ⟨#[],args,[]⟩) f ⟨#[],args,[]⟩=true)
  {x:List (DataW H)×List (DataW H)×List MemPlace} (hx:DataW.whole enc C.prog (w0.forCall (fun _ _=>0) ⟨#[],args,[]⟩).memory fn.params.toList s.vars apart args.toList fuel=some x)
  (hconds:conds.all (PathCond.test C.prog ⟨fn.params.toList,x.1,s.bare.plain.varTypes C.prog,x.2.1⟩)=true) (hkk:k H (x.1++x.2.1)=true)
  (hX:X (w0.forCall (fun _ _=>0) ⟨#[],args,[]⟩).memory)
  (hsz:s.bare.sizedB enc C.prog fn apart (w0.forCall (fun _ _=>0) ⟨#[],args,[]⟩).memory args fuel=true) :
  ∃(w:World) (tape:Tape) (i:Input),w.os=os/\(w.forCall tape i).Shaped C.prog/\i.vars= []/\Input.okWide C.prog (w.forCall tape i) .any w.heap.size f i /\
   ((s.pre enc C.prog fn conds apart (w.forCall tape i).memory i.args/\X (w.forCall tape i).memory)/\sizedMet enc C.prog fn s apart (w.forCall tape i).memory i.args)/\({ modest:=modest } :Assume).holds C.prog (lone (Frame.enter C.prog f i.args .normal) [] (w.forCall tape i)) :=
 ⟨w0,fun _ _=>0,⟨#[],args,[]⟩,hos,World.shaped_of_B hv hr,(Input.okWide_of_okWideB (base:=0) hok).1,(Input.okWide_of_okWideB hok).2,
  ⟨⟨(OpenSpec.pre_some hk conds apart _ _).2 ⟨x.1,x.2.1,x.2.2,DataW.Whole_of_whole hx,hconds,hkk⟩,hX⟩,sizedMet_of_sizedB hsz⟩,by
  simp only [Assume.holds]
  exact ⟨Zb,Zb,fun _=>Modest.zero,Zb,Zb⟩⟩
theorem Bn {P:Program} {W:World} {name:String} {k:IntKind} {zs:List Int} {g:Nat} {t e:TypeId} {n:Nat}
  (hg:P.globalNamed name=some g) (hty:(P.globals[g]?).map (·.type)=some t) (ht:P.underlying t=some (.array n e)) (he:P.underlying e=some (.int k)) (hce:P.cellsOf e=1) (hct:P.cellsOf t=n) :
  ∀ {l:List (String×DataW Unit)} {ps:List MemPlace},DataW.LaidVars P W l ps->(name,Lib.tabData k zs)∈l-> ∃t fz,W.heap[g]? =some (.cells (zs.map (Value.int k)).toArray t fz)
 | [],_,_,hm=>by cases hm
 | (nm,d)::r,ps,h,hm=>by
  obtain ⟨g',t',cs,fuel,p,q,hg',ht',hvar,hd,hr,_⟩:=h;rcases List.mem_cons.1 hm with hm | hm
  ·obtain ⟨rfl,rfl⟩:=Prod.mk.inj hm;obtain rfl:=Option.some.inj (hg.symm.trans hg');obtain rfl:=Option.some.inj (hty.symm.trans ht');have hc:=Lib.cells_of_tab ht he hce hct hd;simp only [World.var?,hg,Option.bind_some] at hvar
   split at hvar
   ·rename_i cs' t2 fz hw;simp at hvar;subst hvar;exact ⟨t2,fz,by rw [hw,<- hc]⟩
   ·cases hvar
  ·exact Bn hg hty ht he hce hct hr hm
end
def u8s (l:List Int):Array Value:=(l.map (Value.int .u8)).toArray
def xV (l:List Int):Array Value:=(l.map (Value.int .u64)).toArray
def oS : List Int:= [0,1,28,2,29,14,24,3,30,22,20,15,25,17,4,8,31,27,13,23,21,19,16,7,26,12,18,6,11,5,10,9]
def oT : List Int:= [0,1,56,2,57,49,28,3,61,58,42,50,38,29,17,4,62,47,59,36,45,43,51,22,53,39,33,30,24,18,12,5,63,55,48,27,60,41,37,16,46,35,44,21,52,32,23,11,54,26,40,15,34,20,31,10,25,14,19,9,13,8,7,6]
def oB : List Int:= [1,10,100,1000,10000,100000,1000000,10000000,100000000,1000000000,10000000000,100000000000,1000000000000,10000000000000,100000000000000,1000000000000000,10000000000000000,100000000000000000,1000000000000000000,10000000000000000000]
def IW (c:Array Value):_root_.Go.Obj->_root_.Go.Obj
 | .cells _ t frozen=> .cells c t frozen
 | o=>o
noncomputable def nB (os:Os):World :=
 let w0:=World.holding Tryz.prog os ⟨#[],#[],[]⟩
 { w0 with heap:=((w0.heap.modify 4 (IW (u8s oS))).modify 5 (IW (u8s oT))).modify 1 (IW (xV oB)) }
end Go.Proofs.YtmbelkfkhclnkaaGreatDoor.K
namespace Go.Proofs.YtmbelkfkhclnkaaGreatDoor.K
open Go Go.AM Go.Proofs Go.RowKit
def JT (P:Program) (fn:Func) (s:ChangeSpec) (c:OpenClaim):Bool :=
 c.wf (OpenSpec.ofChange s) &&
 fn.params.all (P.readableRec ·)&&namedTie P c.named s.vars &&
 (c.stops== [])&&(c.knobs== []) &&
 (c.maps==(fn.params.toList++s.plain.varTypes P).any (P.mapsRec ·))&&(c.ifaces==(fn.params.toList++s.plain.varTypes P).any (P.ifacesRec ·))&&(c.mapsOut==P.mapsAmong fn.resultTypes.toList) &&
 (c.loops==(fn.params.toList++s.plain.varTypes P).any (P.loopsFrom ·))&&(c.wideKeys==(fn.params.toList++s.plain.varTypes P++fn.resultTypes.toList).any (P.wideKeysFrom ·)) &&
 s.vars.all (P.varReadable ·)&&fn.resultTypes.all (fun t=>P.readableRec t&&decide (t<P.types.size))&&(c.ifacesOut==fn.resultTypes.toList.any (P.ifacesRec ·))&&(c.loopsOut==fn.resultTypes.toList.any (P.loopsFrom ·))&&(c.plainKeys==true)&&c.shortTexts.isNone&& !c.lifted&&(P.make==some c.make)&&(c.kinds==(if c.domain.isEmpty then [] else fn.params.toList.map fun t=>match P.underlying t with | some (.int k)=>some k | _=>none))&&(c.pinned==c.pinnedBy) &&
 (c.veiled==(fn.params.toList++s.plain.varTypes P++fn.resultTypes.toList).any (P.veiledRec ·))&&c.veiledFits P fn.params.toList (fn.params.toList++s.plain.varTypes P++fn.resultTypes.toList)
structure GlobB (P:Program):Prop where
 laid:laidOutB P=true
 maps:mapsRowed P=true
 stops:(P.stops== [])=true
 knobs:(P.stopKnobs== [])=true
 keys:P.plainKeys=true
 heard:P.stopsHeard=true
 enter:P.mayEnter=true
 lifts:P.liftsFinal=false
theorem Gt {P:Program} (g:GlobB P) {f:FuncId} {fn:Func} {s:ChangeSpec} {c:OpenClaim} (h1:(c.inPlace==P.inPlace f)=true) (h2:(c.unfollowed==P.unfollowed f)=true) (h3:(c.recurses==P.recurses f)=true) (h4:(c.named==P.varsNamed f)=true) (h5:JT P fn s c=true):joinedFacts P f fn s c=true:=by
 simp only [JT,Bool.and_eq_true] at h5;obtain ⟨⟨⟨⟨⟨⟨⟨⟨⟨⟨⟨⟨⟨⟨⟨⟨⟨⟨⟨⟨⟨a1,a2⟩,a3⟩,a4⟩,a5⟩,a6⟩,a7⟩,a8⟩,a9⟩,a10⟩,a11⟩,a12⟩,a13⟩,a14⟩,a15⟩,a16⟩,a17⟩,a18⟩,a19⟩,a20⟩,a21⟩,a22⟩:=h5;obtain ⟨g1,g2,g3,g4,g5,g6,g7,g8⟩:=g;simp only [joinedFacts,Bool.and_eq_true]
 and_intros<;>first | assumption | (rw [g5];exact a15) | (rw [g8];simpa using a17)
theorem Nm : laidOutB Tryz.prog=true:=Ze
theorem Nn : mapsRowed Tryz.prog=true:=Ze
theorem Nl : Tryz.prog.plainKeys=true:=Ze
theorem IF : Tryz.prog.stopsHeard=true:=Ze
theorem II : Tryz.prog.liftsFinal=false:=Ze
theorem IJ : (Tryz.prog.stops== [])=true:=Ze
theorem IG : (Tryz.prog.stopKnobs== [])=true:=Ze
theorem IE : Tryz.prog.mayEnter=true:=Ze
theorem kK : GlobB Tryz.prog:=⟨Nm,Nn,IJ,IG,Nl,IF,IE,II⟩
theorem A9 : (Rows.planSortsUptoRow.inPlace==Tryz.prog.inPlace 7)=true:=Ze
theorem Ba : (Rows.planSortsUptoRow.unfollowed==Tryz.prog.unfollowed 7)=true:=Ze
theorem Bb : (Rows.planSortsUptoRow.recurses==Tryz.prog.recurses 7)=true:=Ze
theorem Bc : (Rows.planSortsUptoRow.named==Tryz.prog.varsNamed 7)=true:=Ze
theorem Bd : Rows.planSortsUptoRow.wfByText (Rows.OpenSpec.upto Rows.planSortsSpec)=true:=Ze
theorem Be : false=Rows.planSortsUptoRow.goesBy Tryz.prog:=Ze
theorem planSorts_k3 : Tryz.prog.funcNamed "lorry/lorrylaw23.PlanSorts" = some 7 := by kernel_rfl
theorem Bf : Tryz.prog.mainIs = some (true, "80fe5eea182c748f304475dbe8dc5fda16e967ac494a9253f26acc6e8d80e050".toList) := by kernel_rfl
theorem Bg : true=Tryz.prog.looks []:=Ze
end Go.Proofs.YtmbelkfkhclnkaaGreatDoor.K
