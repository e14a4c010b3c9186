/- FnActParts: the law's function answers true for every input, and what came in reads as before. No condition. -/
import Derived.Test.YtblceimapaenlaaDoorRows
import Derived.Test.YtblceimapaenlaaDoorQFnActParts16
import Derived.Test.YtblceimapaenlaaDoorPureFnActParts
import Derived.Test.YtblceimapaenlaaDoorOpen
import Derived.Test.YtblceimapaenlaaDoorCards
import Derived.Test.YtblceimapaenlaaDoorTie
import Derived.Test.YtblceimapaenlaaDoorIto
import Derived.LaidMore
import Derived.Stop.Joined
import Derived.SevenTiedAt
import Derived.Lib.LaidTab
import Derived.WalkKit
import Derived.ProofKit
import Derived.OpenShut
import Derived.ShutString
import Derived.ChangeOld
import Derived.Below
import Derived.Carry
import Derived.KernelRfl
namespace Go.Proofs.YtblceimapaenlaaDoor.fnActParts
open Go.ChangeShapes Go.WideShapes Go.ChangeAt Go.RowKit Go.Proofs.YtblceimapaenlaaDoor.PFnActParts Go.Proofs.YtblceimapaenlaaDoorW.PrintWords
set_option linter.unusedVariables false
theorem own:ownKnob Tryd.prog.godebug=none:=by kernel_rfl
theorem laidOut:laidOutB Tryd.prog=true:=by kernel_rfl
open Go.WideMaps Go.WideElems
theorem gPow:Tryd.prog.globalNamed "internal/strconv.uint64pow10" =some 0:=by kernel_rfl
theorem tPow:(Tryd.prog.globals[0]?).map (·.type)=some 141:=by kernel_rfl
theorem dPow:(Rows.laid_internal_strconv_uint64pow10:DataW Unit)=Lib.tabData .u64 Lib.pow10Tab:=by kernel_rfl
theorem laidTab {W:World} (h:laidMetH Tryd.prog Rows.fnActPartsRow.laid W):Ito.Tab W:=by
 rw[MakeChecks.laidMetH_plain _ _ _ (by kernel_rfl)]at h
 obtain⟨ps,⟨g0,t0,cs0,f0,p0,q0,hg0,ht0,hv0,hd0,⟨g1,t1,cs1,f1,p1,q1,hg1,ht1,hv1,hd1,⟨g2,t2,cs2,f2,p2,q2,hg2,ht2,hv2,hd2,_,_⟩,_⟩,_⟩,_,_⟩:=h
 obtain rfl:=Option.some.inj (gPow.symm.trans hg2)
 obtain rfl:=Option.some.inj (tPow.symm.trans ht2)
 rw[dPow]at hd2
 unfold Ito.Tab Lib.TabIs
 rw[hv2,←Lib.cells_of_tab Tryd.underlying141 Tryd.underlying135 (by kernel_rfl) (by kernel_rfl) hd2]
theorem door_met (os:Os) (args:Array Value):laidMetH Tryd.prog Rows.fnActPartsRow.laid ((World.doorLaid Tryd.prog 400 os).forCall (fun _ _=>0) ⟨#[],args,[]⟩).memory:=
 laidMetH_of_parts3 (fuel:=8) (laidMet_of_run' 8 (by kernel_rfl) (by kernel_rfl)) (by kernel_rfl) (by kernel_rfl)
set_option maxRecDepth 100000 in
theorem lifted (os:Os) (started:os.Started) (H:Type) (enc:TypeId×Value→H):
  ReturnsInHanded {} Tryd.checked os 7 .any (fun w args=>(Rows.fnActPartsSpec.pre enc Tryd.prog Tryd.f7 [] false w args∧laidMetH Tryd.prog Rows.fnActPartsRow.laid w)∧sizedMet enc Tryd.prog Tryd.f7 (OpenSpec.ofChange Rows.fnActPartsSpec) false w args) (Rows.fnActPartsSpec.post enc Tryd.prog Tryd.f7 false true false false):=by
 refine returnsInHanded_of_change_and (C:=Tryd.checked) (X:=fun w _=>laidMetH Tryd.prog Rows.fnActPartsRow.laid w) (fun _ _ _ hh h=>h.of_heap hh) own started (by kernel_rfl) Tryd.func7
  (ChangeSpec.witness_shaped (enc:=enc) (C:=Tryd.checked) (os:=os) (X:=fun w _=>laidMetH Tryd.prog Rows.fnActPartsRow.laid w) false (World.doorLaid Tryd.prog 400 os) #[.slice none 0 0] 8 rfl (World.shaped_of_RefB (by kernel_rfl) (by kernel_rfl)) (by kernel_rfl) (by kernel_rfl) (by kernel_rfl) (door_met os _)) ?_
 intro W base args ds gs before hval0 hW _ _ hL _
 have hTab:=laidTab hL
 clear hL
 have hval:∀(j:Nat) t v,Tryd.f7.params[j]? =some t→args[j]? =some v→Value.okWide Tryd.prog W .any base t v:=hval0
 have hW':=hW
 obtain⟨p,q,hA0,hV,rfl,_,_⟩:=hW
 have hA:DataW.TrodAll enc Tryd.prog W 0 (fun _=>true) true Tryd.f7.params.toList args.toList ds p:=hA0
 rw[Tryd.params7]at hA hval
 obtain⟨v0,vs0,d0,ds0,p0,q0,hargs,rfl,rfl,h0,r0⟩:=trodAll_cons hA
 obtain⟨rfl,rfl,rfl⟩:=trodAll_nil r0
 obtain rfl:args= #[v0]:=by cases args;simp_all
 obtain⟨rfl,rfl⟩:=trodVars_none hV
 have k0:=h0
 have lt0:=OpenKit.trod_blocks k0
 obtain⟨fu0,hf0⟩:=h0
 obtain⟨x0,hK0,hg0⟩:=(OpenKit.opens_slice Tryd.underlying36 (by kernel_rfl) (OpenKit.opens_int Tryd.underlying5)) H enc W _ _ _ hf0
 obtain⟨_,_,hcs0,hc_0,hr_0⟩:=hK0
 obtain rfl:=OpenKit.slice_of Tryd.underlying36 (hval 0 36 v0 rfl rfl) hcs0
 obtain⟨k,hk⟩:=Pure.FnActParts x0 hg0
 clear hA0 hval0
 refine(laws_FnActParts.calls k _ _ x0 true W hr_0 hc_0 rfl hk hTab).mono fun e W' he=> ?_
 obtain⟨rfl,hb⟩:=he
 have bel:Below W.heap.size W W':=hb
 exact⟨_,rfl,_,_,_,[],_,[],hW',trodAll_mk1 (shut_bool Tryd.underlying4 _),(trodAll_cons_mk (Below.trod laidOut (by kernel_rfl) (of_decide_eq_true (by kernel_rfl)) k0 bel lt0) trodAll_mk0),rfl,bel.frame _,fun h=>by cases h⟩
theorem over:Rows.fnActPartsRow.holds Tryd.pinned (OpenSpec.ofChange Rows.fnActPartsSpec):=
 OpenClaim.holds_of_wide 7 Tryd.f7 rfl rfl rfl rfl rfl rfl rfl ⟨rfl,rfl,rfl,rfl,rfl⟩ rfl rfl rfl rfl rfl (by kernel_rfl) Tryd.func7 (by kernel_rfl)
  (of_decide_eq_true (by kernel_rfl)) (by unfold Func.isWrapper;first|(rw[if_pos (by decide+kernel)];kernel_rfl)|(rw[if_neg (by decide+kernel)];exact⟨rfl,rfl⟩))
  (fun os started H enc _=>lifted os started H enc)
end Go.Proofs.YtblceimapaenlaaDoor.fnActParts
namespace Go.Proofs.YtblceimapaenlaaDoor
theorem fnActParts_holds:Rows.FnActPartsCardSaid:=
 Claim7.holds_tied_plain_at .later [] [.data,.data,.data] true (true,"cfa7602e3b7ae49c4f0d0ff2f3f9571eb8b100f25dfa82f7b2a0c6c180371c45") false
  fnActParts.over (fun _ h=>by cases h) (by kernel_rfl) (fun _ h=>by cases h) fnActParts_row_tie rfl ⟨rfl,rfl⟩ (by kernel_rfl) rfl
  (fun f fn hf hfn=>by
   obtain rfl:f=7:=Option.some.inj ((show Tryd.prog.funcNamed "loop.example/g00987/laws.FnActParts" =some 7 by kernel_rfl).symm.trans hf)|>.symm
   obtain rfl:fn=Tryd.f7:=(Option.some.inj (Tryd.func7.symm.trans hfn)).symm
   exact⟨by kernel_rfl,fun j t ht=>by
    rw[Tryd.params7]at ht
    have hm:t ∈ [36]:=by simpa using Array.mem_of_getElem? ht
    have hall:([36].all fun u=> !Tryd.prog.wantsStandIn u)=true:=by kernel_rfl
    exact(show Tryd.prog.wantsStandIn t=false by simpa using List.all_eq_true.1 hall t hm)⟩)
  (by kernel_rfl)
#print axioms fnActParts_holds
end Go.Proofs.YtblceimapaenlaaDoor
