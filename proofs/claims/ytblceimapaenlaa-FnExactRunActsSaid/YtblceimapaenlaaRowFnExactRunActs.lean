/- FnExactRunActs: the law's function answers true for every input, and what came in reads as before. No condition. -/
import Derived.Test.YtblceimapaenlaaRows
import Derived.Test.YtblceimapaenlaaQFnExactRunActs17
import Derived.Test.YtblceimapaenlaaPureFnExactRunActs
import Derived.Test.YtblceimapaenlaaOpen
import Derived.WalkKit
import Derived.ProofKit
import Derived.OpenShut
import Derived.ShutString
import Derived.ChangeOld
import Derived.Below
import Derived.Carry
import Derived.KernelRfl
namespace Go.Proofs.Ytblceimapaenlaa.fnExactRunActs
open Go.ChangeShapes Go.WideShapes Go.ChangeAt Go.RowKit Go.Proofs.Ytblceimapaenlaa.PFnExactRunActs Go.Proofs.YtblceimapaenlaaW.PrintWords
set_option linter.unusedVariables false
theorem own:ownKnob Try.prog.godebug=none:=by kernel_rfl
theorem laidOut:laidOutB Try.prog=true:=by kernel_rfl
set_option maxRecDepth 100000 in
theorem lifted (os:Os) (started:os.Started) (H:Type) (enc:TypeId×Value→H):
  ReturnsInHanded {} Try.checked os 8 .any (Rows.fnExactRunActsSpec.pre6 enc Try.prog Try.f8 Rows.fnExactRunActsRow.domain false) (Rows.fnExactRunActsSpec.post enc Try.prog Try.f8 false true false false):=by
 refine returnsInHanded_of_change (C:=Try.checked) own started (by kernel_rfl) Try.func8
  (ChangeSpec.witness6 (enc:=enc) (C:=Try.checked) false ⟨#[],#[.agg #[.slice none 0 0,.int .i64 0,.int .i64 0,.int .i64 0,.bool false,.int .i64 0,.bool false,.int .i64 0,.int .i64 0,.slice none 0 0,.slice none 0 0,.int .i64 0,.bool false,.int .i64 0],.slice none 0 0],[]⟩ 8 (by kernel_rfl) (by kernel_rfl) (by kernel_rfl) (by kernel_rfl)) ?_
 intro W base args ds gs before hval0 hW _ _
 have hval:∀(j:Nat) t v,Try.f8.params[j]? =some t→args[j]? =some v→Value.okWide Try.prog W .any base t v:=hval0
 have hW':=hW
 obtain⟨p,q,hA0,hV,rfl,_,_⟩:=hW
 have hA:DataW.TrodAll enc Try.prog W 0 (fun _=>true) true Try.f8.params.toList args.toList ds p:=hA0
 rw[Try.params8]at hA hval
 obtain⟨v0,vs0,d0,ds0,p0,q0,hargs,rfl,rfl,h0,r0⟩:=trodAll_cons hA
 obtain⟨v1,vs1,d1,ds1,p1,q1,rfl,rfl,rfl,h1,r1⟩:=trodAll_cons r0
 obtain⟨rfl,rfl,rfl⟩:=trodAll_nil r1
 obtain rfl:args= #[v0,v1]:=by cases args;simp_all
 obtain⟨rfl,rfl⟩:=trodVars_none hV
 have k0:=h0
 have lt0:=OpenKit.trod_blocks k0
 obtain⟨fu0,hf0⟩:=h0
 obtain⟨x0,hK0,hg0⟩:=(OpenKit.opens_struct (fun x=>x) (fun x=>x) (fun _=>rfl) Try.underlying29 (by kernel_rfl) (OpenKit.fs_cons rfl (by kernel_rfl) (OpenKit.opens_slice Try.underlying22 (by kernel_rfl) (OpenKit.opens_struct (fun x:S24=>(x.f0,x.f1,x.f2,x.f3,x.f4,x.f5)) (fun x=>⟨x.1,x.2.1,x.2.2.1,x.2.2.2.1,x.2.2.2.2.1,x.2.2.2.2.2⟩) (fun _=>rfl) Try.underlying24 (by kernel_rfl) (OpenKit.fs_cons rfl (by kernel_rfl) (OpenKit.opens_int Try.underlying3) (OpenKit.fs_cons rfl (by kernel_rfl) (OpenKit.opens_int Try.underlying3) (OpenKit.fs_cons rfl (by kernel_rfl) (OpenKit.opens_int Try.underlying3) (OpenKit.fs_cons rfl (by kernel_rfl) (OpenKit.opens_bool Try.underlying4) (OpenKit.fs_cons rfl (by kernel_rfl) (OpenKit.opens_int Try.underlying3) (OpenKit.fs_one rfl (by kernel_rfl) (OpenKit.opens_bool Try.underlying4))))))))) (OpenKit.fs_cons rfl (by kernel_rfl) (OpenKit.opens_struct (fun x=>x) (fun x=>x) (fun _=>rfl) Try.underlying24 (by kernel_rfl) (OpenKit.fs_cons rfl (by kernel_rfl) (OpenKit.opens_int Try.underlying3) (OpenKit.fs_cons rfl (by kernel_rfl) (OpenKit.opens_int Try.underlying3) (OpenKit.fs_cons rfl (by kernel_rfl) (OpenKit.opens_int Try.underlying3) (OpenKit.fs_cons rfl (by kernel_rfl) (OpenKit.opens_bool Try.underlying4) (OpenKit.fs_cons rfl (by kernel_rfl) (OpenKit.opens_int Try.underlying3) (OpenKit.fs_one rfl (by kernel_rfl) (OpenKit.opens_bool Try.underlying4)))))))) (OpenKit.fs_cons rfl (by kernel_rfl) (OpenKit.opens_struct (fun x=>x) (fun x=>x) (fun _=>rfl) Try.underlying27 (by kernel_rfl) (OpenKit.fs_cons rfl (by kernel_rfl) (OpenKit.opens_int Try.underlying3) (OpenKit.fs_cons rfl (by kernel_rfl) (OpenKit.opens_int Try.underlying3) (OpenKit.fs_cons rfl (by kernel_rfl) (OpenKit.opens_slice Try.underlying25 (by kernel_rfl) (OpenKit.opens_int Try.underlying3)) (OpenKit.fs_cons rfl (by kernel_rfl) (OpenKit.opens_slice Try.underlying25 (by kernel_rfl) (OpenKit.opens_int Try.underlying3)) (OpenKit.fs_cons rfl (by kernel_rfl) (OpenKit.opens_int Try.underlying3) (OpenKit.fs_one rfl (by kernel_rfl) (OpenKit.opens_bool Try.underlying4)))))))) (OpenKit.fs_one rfl (by kernel_rfl) (OpenKit.opens_int Try.underlying3)))))) H enc W _ _ _ hf0
 obtain⟨_,_,hcs0,⟨_,_,rfl,hc_0,hr_0⟩,⟨_,_,rfl,⟨_,_,rfl,rfl,⟨_,_,rfl,rfl,⟨_,_,rfl,rfl,⟨_,_,rfl,rfl,⟨_,_,rfl,rfl,rfl⟩⟩⟩⟩⟩,⟨_,_,rfl,⟨_,_,rfl,rfl,⟨_,_,rfl,rfl,⟨_,_,rfl,⟨_,_,rfl,hc_9,hr_9⟩,⟨_,_,rfl,⟨_,_,rfl,hc_10,hr_10⟩,⟨_,_,rfl,rfl,rfl⟩⟩⟩⟩⟩,rfl⟩⟩⟩:=hK0
 obtain rfl:=OpenKit.agg_of Try.underlying29 (hval 0 29 v0 rfl rfl) hcs0
 have k1:=h1
 have lt1:=OpenKit.trod_blocks k1
 obtain⟨fu1,hf1⟩:=h1
 obtain⟨x1,hK1,hg1⟩:=(OpenKit.opens_slice Try.underlying57 (by kernel_rfl) (OpenKit.opens_struct (fun x:S50=>(x.f0,x.f1,x.f2,x.f3)) (fun x=>⟨x.1,x.2.1,x.2.2.1,x.2.2.2⟩) (fun _=>rfl) Try.underlying50 (by kernel_rfl) (OpenKit.fs_cons rfl (by kernel_rfl) (OpenKit.opens_int Try.underlying3) (OpenKit.fs_cons rfl (by kernel_rfl) (OpenKit.opens_int Try.underlying3) (OpenKit.fs_cons rfl (by kernel_rfl) (OpenKit.opens_int Try.underlying3) (OpenKit.fs_one rfl (by kernel_rfl) (OpenKit.opens_int Try.underlying3))))))) H enc W _ _ _ hf1
 obtain⟨_,_,hcs1,hc_14,hr_14⟩:=hK1
 obtain rfl:=OpenKit.slice_of Try.underlying57 (hval 1 57 v1 rfl rfl) hcs1
 obtain⟨k,hk⟩:=Pure.FnExactRunActs x0.1 x0.2.1.1 x0.2.1.2.1 x0.2.1.2.2.1 x0.2.1.2.2.2.1 x0.2.1.2.2.2.2.1 x0.2.1.2.2.2.2.2 x0.2.2.1.1 x0.2.2.1.2.1 x0.2.2.1.2.2.1 x0.2.2.1.2.2.2.1 x0.2.2.1.2.2.2.2.1 x0.2.2.1.2.2.2.2.2 x0.2.2.2 x1 hg0.1 hg0.2.1.1 hg0.2.1.2.1 hg0.2.1.2.2.1 hg0.2.1.2.2.2.2.1 hg0.2.2.1.1 hg0.2.2.1.2.1 hg0.2.2.1.2.2.1 hg0.2.2.1.2.2.2.1 hg0.2.2.1.2.2.2.2.1 hg0.2.2.2 hg1
 clear hA0 hval0
 refine(laws_FnExactRunActs.calls k _ _ x0.1 x0.2.1.1 x0.2.1.2.1 x0.2.1.2.2.1 x0.2.1.2.2.2.1 x0.2.1.2.2.2.2.1 x0.2.1.2.2.2.2.2 x0.2.2.1.1 x0.2.2.1.2.1 _ _ x0.2.2.1.2.2.1 _ _ x0.2.2.1.2.2.2.1 x0.2.2.1.2.2.2.2.1 x0.2.2.1.2.2.2.2.2 x0.2.2.2 _ _ x1 true W hr_0 hc_0 hr_9 hc_9 hr_10 hc_10 hr_14 hc_14 rfl hk).mono fun e W' he=> ?_
 obtain⟨rfl,hb⟩:=he
 have bel:Below W.heap.size W W':=hb
 exact⟨_,rfl,_,_,_,[],_,[],hW',trodAll_mk1 (shut_bool Try.underlying4 _),(trodAll_cons_mk (Below.trod laidOut (by kernel_rfl) (of_decide_eq_true (by kernel_rfl)) k0 bel lt0) (trodAll_cons_mk (Below.trod laidOut (by kernel_rfl) (of_decide_eq_true (by kernel_rfl)) k1 bel lt1) trodAll_mk0)),rfl,bel.frame _,fun h=>by cases h⟩
theorem over:Rows.fnExactRunActsRow.holds Try.pinned (OpenSpec.ofChange Rows.fnExactRunActsSpec):=
 OpenClaim.holds_of_wide 8 Try.f8 rfl rfl rfl rfl rfl rfl rfl ⟨rfl,rfl,rfl,rfl,rfl⟩ rfl rfl rfl rfl rfl (by kernel_rfl) Try.func8 (by kernel_rfl)
  (of_decide_eq_true (by kernel_rfl)) (by unfold Func.isWrapper;first|(rw[if_pos (by decide+kernel)];kernel_rfl)|(rw[if_neg (by decide+kernel)];exact⟨rfl,rfl⟩))
  (fun os started H enc _=>lifted os started H enc)
end Go.Proofs.Ytblceimapaenlaa.fnExactRunActs
namespace Go.Proofs.Ytblceimapaenlaa
theorem fnExactRunActs_holds:Rows.FnExactRunActsSaid:=fnExactRunActs.over
#print axioms fnExactRunActs_holds
end Go.Proofs.Ytblceimapaenlaa
