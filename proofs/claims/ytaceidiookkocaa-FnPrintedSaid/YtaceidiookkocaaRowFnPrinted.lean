/- FnPrinted: the law's function answers true for every input, and what came in reads as before. No condition. -/
import Derived.Test.YtaceidiookkocaaRows
import Derived.Test.YtaceidiookkocaaQFnPrinted8
import Derived.Test.YtaceidiookkocaaPureFnPrinted
import Derived.Test.YtaceidiookkocaaOpen
import Derived.WalkKit
import Derived.ProofKit
import Derived.OpenShut
import Derived.ShutString
import Derived.ChangeOld
import Derived.Below
import Derived.Carry
import Derived.KernelRfl
namespace Go.Proofs.Ytaceidiookkocaa.fnPrinted
open Go.ChangeShapes Go.WideShapes Go.ChangeAt Go.RowKit Go.Proofs.Ytaceidiookkocaa.PFnPrinted Go.Proofs.YtaceidiookkocaaW.PrintWords
set_option linter.unusedVariables false
theorem own:ownKnob Try.prog.godebug=none:=by kernel_rfl
theorem laidOut:laidOutB Try.prog=true:=by kernel_rfl
set_option maxRecDepth 100000 in
theorem lifted (os:Os) (started:os.Started) (H:Type) (enc:TypeId×Value→H):
  ReturnsInHanded {} Try.checked os 7 .any (Rows.fnPrintedSpec.pre6 enc Try.prog Try.f7 Rows.fnPrintedRow.domain false) (Rows.fnPrintedSpec.post enc Try.prog Try.f7 false true false false):=by
 refine returnsInHanded_of_change (C:=Try.checked) own started (by kernel_rfl) Try.func7
  (ChangeSpec.witness6 (enc:=enc) (C:=Try.checked) false ⟨#[],#[.slice none 0 0],[]⟩ 8 (by kernel_rfl) (by kernel_rfl) (by kernel_rfl) (by kernel_rfl)) ?_
 intro W base args ds gs before hval0 hW _ _
 have hval:∀(j:Nat) t v,Try.f7.params[j]? =some t→args[j]? =some v→Value.okWide Try.prog W .any base t v:=hval0
 have hW':=hW
 obtain⟨p,q,hA0,hV,rfl,_,_⟩:=hW
 have hA:DataW.TrodAll enc Try.prog W 0 (fun _=>true) true Try.f7.params.toList args.toList ds p:=hA0
 rw[Try.params7]at hA hval
 obtain⟨v0,vs0,d0,ds0,p0,q0,hargs,rfl,rfl,h0,r0⟩:=trodAll_cons hA
 obtain⟨rfl,rfl,rfl⟩:=trodAll_nil r0
 obtain rfl:args= #[v0]:=by cases args;simp_all
 obtain⟨rfl,rfl⟩:=trodVars_none hV
 have k0:=h0
 have lt0:=OpenKit.trod_blocks k0
 obtain⟨fu0,hf0⟩:=h0
 obtain⟨x0,hK0,hg0⟩:=(OpenKit.opens_slice Try.underlying34 (by kernel_rfl) (OpenKit.opens_int Try.underlying5)) H enc W _ _ _ hf0
 obtain⟨_,_,hcs0,hc_0,hr_0⟩:=hK0
 obtain rfl:=OpenKit.slice_of Try.underlying34 (hval 0 34 v0 rfl rfl) hcs0
 obtain⟨k,hk⟩:=Pure.FnPrinted x0 hg0
 clear hA0 hval0
 refine(laws_FnPrinted.calls k _ _ x0 true W hr_0 hc_0 rfl hk).mono fun e W' he=> ?_
 obtain⟨rfl,hb⟩:=he
 have bel:Below W.heap.size W W':=hb
 exact⟨_,rfl,_,_,_,[],_,[],hW',trodAll_mk1 (shut_bool Try.underlying4 _),(trodAll_cons_mk (Below.trod laidOut (by kernel_rfl) (of_decide_eq_true (by kernel_rfl)) k0 bel lt0) trodAll_mk0),rfl,bel.frame _,fun h=>by cases h⟩
theorem over:Rows.fnPrintedRow.holds Try.pinned (OpenSpec.ofChange Rows.fnPrintedSpec):=
 OpenClaim.holds_of_wide 7 Try.f7 rfl rfl rfl rfl rfl rfl rfl ⟨rfl,rfl,rfl,rfl,rfl⟩ rfl rfl rfl rfl rfl (by kernel_rfl) Try.func7 (by kernel_rfl)
  (of_decide_eq_true (by kernel_rfl)) (by unfold Func.isWrapper;first|(rw[if_pos (by decide+kernel)];kernel_rfl)|(rw[if_neg (by decide+kernel)];exact⟨rfl,rfl⟩))
  (fun os started H enc _=>lifted os started H enc)
end Go.Proofs.Ytaceidiookkocaa.fnPrinted
namespace Go.Proofs.Ytaceidiookkocaa
theorem fnPrinted_holds:Rows.FnPrintedSaid:=fnPrinted.over
#print axioms fnPrinted_holds
end Go.Proofs.Ytaceidiookkocaa
