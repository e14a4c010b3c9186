/- FnExactNewLine: the functions that the law reaches, each as a plain Lean function, and that a call does what it says. Made by a program of this work (wip/mp.py) out of the kit's print. No condition. -/
import Derived.Test.YtomhhbnnmjgcgaaQFnExactNewLine0
import Derived.Test.YtomhhbnnmjgcgaaQFnExactNewLine1
import Derived.Test.YtomhhbnnmjgcgaaQFnExactNewLine2
namespace Go.Proofs.Ytomhhbnnmjgcgaa.PFnExactNewLine
open Go.RowKit Go.Proofs.YtomhhbnnmjgcgaaW.PrintWords Go.Proofs.YtomhhbnnmjgcgaaW.PrintLast Go.Proofs.YtomhhbnnmjgcgaaW.PrintMore
attribute [local go_sem] max2_int min2_int max_two min_two max_three min_three max_four min_four
attribute [local go_sem] Fix.isSome_setCell
set_option linter.unusedVariables false
set_option linter.unusedSimpArgs false

/-! ### laws_FnExactNewLine: function 4 -/
mutual
def laws_FnExactNewLine.j0 : Nat → Int → Bool → Bool → Int → Int → List Int → List Int → Int → Bool → Int → Int → List Int → List Int → Int → Bool → Option (Bool)
  | 0, _, _, _, _, _, _, _, _, _, _, _, _, _, _, _ => none
  | k + 1, x0, x4, x29, x133000, x133001, x133002, x133003, x133004, x133005, x145000, x145001, x145002, x145003, x145004, x145005 => if x29 = true then (some false) else ((laws_markLine.f k x145000 x145001 x145002 x145003 x145004 x145005 1).bind fun bt146 => ((laws_heldLine.f k x145000 x145001 bt146.2.1 bt146.2.2 x145004 x145005 1).bind fun t149 => (if t149 < 0 then (some false) else (if t149 = bt146.1 then ((impl_NewLine.f x0).bind fun bt150 => ((laws_eqLine.f k bt150.1 bt150.2.1 bt150.2.2.1 bt150.2.2.2.1 bt150.2.2.2.2.1 bt150.2.2.2.2.2.1 x133000 x133001 x133002 x133003 x133004 x133005).bind fun t162 => (if t162 = true then (laws_FnExactNewLine.j1 k bt146.1 (bt150.2.2.2.2.2.2 != x4) x145000 x145001 bt146.2.1 bt146.2.2 x145004 x145005) else (laws_FnExactNewLine.j1 k bt146.1 true x145000 x145001 bt146.2.1 bt146.2.2 x145004 x145005)))) else (some false)))))
def laws_FnExactNewLine.j1 : Nat → Int → Bool → Int → Int → List Int → List Int → Int → Bool → Option (Bool)
  | 0, _, _, _, _, _, _, _, _ => none
  | k + 1, x7, x54, x145000, x145001, x145002, x145003, x145004, x145005 => if x54 = true then (some false) else ((laws_heldLine.f k x145000 x145001 x145002 x145003 x145004 x145005 1).bind fun t163 => (if t163 < 0 then (some false) else (if t163 = x7 then (some true) else (some false))))
end
def laws_FnExactNewLine.f (k : Nat) (a0 : Int) : Option (Bool) := (spec_NewLine.f a0).bind fun bt121 => ((impl_NewLine.f a0).bind fun bt133 => ((laws_eqLine.f k bt133.1 bt133.2.1 bt133.2.2.1 bt133.2.2.2.1 bt133.2.2.2.2.1 bt133.2.2.2.2.2.1 bt121.1 bt121.2.1 bt121.2.2.1 bt121.2.2.2.1 bt121.2.2.2.2.1 bt121.2.2.2.2.2.1).bind fun t145 => (if t145 = true then (laws_FnExactNewLine.j0 k a0 bt121.2.2.2.2.2.2 (bt133.2.2.2.2.2.2 != bt121.2.2.2.2.2.2) bt121.1 bt121.2.1 bt121.2.2.1 bt121.2.2.2.1 bt121.2.2.2.2.1 bt121.2.2.2.2.2.1 bt133.1 bt133.2.1 bt133.2.2.1 bt133.2.2.2.1 bt133.2.2.2.2.1 bt133.2.2.2.2.2.1) else (laws_FnExactNewLine.j0 k a0 bt121.2.2.2.2.2.2 true bt121.1 bt121.2.1 bt121.2.2.1 bt121.2.2.2.1 bt121.2.2.2.2.1 bt121.2.2.2.2.2.1 bt133.1 bt133.2.1 bt133.2.2.1 bt133.2.2.2.1 bt133.2.2.2.2.1 bt133.2.2.2.2.2.1))))
theorem laws_FnExactNewLine.mono_l : ∀ k, (∀ y0 y1 y2 y3 y4 y5 y6 y7 y8 y9 y10 y11 y12 y13 y14, LeO (laws_FnExactNewLine.j0 k y0 y1 y2 y3 y4 y5 y6 y7 y8 y9 y10 y11 y12 y13 y14) (laws_FnExactNewLine.j0 (k + 1) y0 y1 y2 y3 y4 y5 y6 y7 y8 y9 y10 y11 y12 y13 y14)) ∧ (∀ y0 y1 y2 y3 y4 y5 y6 y7, LeO (laws_FnExactNewLine.j1 k y0 y1 y2 y3 y4 y5 y6 y7) (laws_FnExactNewLine.j1 (k + 1) y0 y1 y2 y3 y4 y5 y6 y7))
  | 0 => ⟨fun _ _ _ _ _ _ _ _ _ _ _ _ _ _ _ r h => by simp [laws_FnExactNewLine.j0] at h, fun _ _ _ _ _ _ _ _ r h => by simp [laws_FnExactNewLine.j1] at h⟩
  | k + 1 => by
    obtain ⟨ih0, ih1⟩ := laws_FnExactNewLine.mono_l k
    refine ⟨?_, ?_⟩
    · intro y0 y1 y2 y3 y4 y5 y6 y7 y8 y9 y10 y11 y12 y13 y14
      unfold laws_FnExactNewLine.j0
      repeat' first
      | (with_reducible exact ih0 _ _ _ _ _ _ _ _ _ _ _ _ _ _ _)
      | (with_reducible exact ih1 _ _ _ _ _ _ _ _)
      | (with_reducible exact laws_eqLine.mono _ _ _ _ _ _ _ _ _ _ _ _ _)
      | (with_reducible exact laws_heldLine.mono _ _ _ _ _ _ _ _)
      | (with_reducible exact laws_markLine.mono _ _ _ _ _ _ _ _)
      | (with_reducible exact LeO.refl _)
      | (with_reducible exact LeO.none _)
      | (with_reducible refine LeO.ite ?_ ?_)
      | (with_reducible refine LeO.bind ?_ (fun _ => ?_))
      | exact ih0 _ _ _ _ _ _ _ _ _ _ _ _ _ _ _
      | exact ih1 _ _ _ _ _ _ _ _
      | exact laws_eqLine.mono _ _ _ _ _ _ _ _ _ _ _ _ _
      | exact laws_heldLine.mono _ _ _ _ _ _ _ _
      | exact laws_markLine.mono _ _ _ _ _ _ _ _
      | exact LeO.none _
      | refine LeO.ite ?_ ?_
      | refine LeO.bind ?_ (fun _ => ?_)
    · intro y0 y1 y2 y3 y4 y5 y6 y7
      unfold laws_FnExactNewLine.j1
      repeat' first
      | (with_reducible exact ih0 _ _ _ _ _ _ _ _ _ _ _ _ _ _ _)
      | (with_reducible exact ih1 _ _ _ _ _ _ _ _)
      | (with_reducible exact laws_eqLine.mono _ _ _ _ _ _ _ _ _ _ _ _ _)
      | (with_reducible exact laws_heldLine.mono _ _ _ _ _ _ _ _)
      | (with_reducible exact laws_markLine.mono _ _ _ _ _ _ _ _)
      | (with_reducible exact LeO.refl _)
      | (with_reducible exact LeO.none _)
      | (with_reducible refine LeO.ite ?_ ?_)
      | (with_reducible refine LeO.bind ?_ (fun _ => ?_))
      | exact ih0 _ _ _ _ _ _ _ _ _ _ _ _ _ _ _
      | exact ih1 _ _ _ _ _ _ _ _
      | exact laws_eqLine.mono _ _ _ _ _ _ _ _ _ _ _ _ _
      | exact laws_heldLine.mono _ _ _ _ _ _ _ _
      | exact laws_markLine.mono _ _ _ _ _ _ _ _
      | exact LeO.none _
      | refine LeO.ite ?_ ?_
      | refine LeO.bind ?_ (fun _ => ?_)
theorem laws_FnExactNewLine.mono : ∀ a0 k, LeO (laws_FnExactNewLine.f k a0) (laws_FnExactNewLine.f (k + 1) a0) := by
  intro a0 k
  obtain ⟨ih0, ih1⟩ := laws_FnExactNewLine.mono_l k
  unfold laws_FnExactNewLine.f
  repeat' first
      | (with_reducible exact ih0 _ _ _ _ _ _ _ _ _ _ _ _ _ _ _)
      | (with_reducible exact ih1 _ _ _ _ _ _ _ _)
      | (with_reducible exact laws_eqLine.mono _ _ _ _ _ _ _ _ _ _ _ _ _)
      | (with_reducible exact laws_heldLine.mono _ _ _ _ _ _ _ _)
      | (with_reducible exact laws_markLine.mono _ _ _ _ _ _ _ _)
      | (with_reducible exact LeO.refl _)
      | (with_reducible exact LeO.none _)
      | (with_reducible refine LeO.ite ?_ ?_)
      | (with_reducible refine LeO.bind ?_ (fun _ => ?_))
      | exact ih0 _ _ _ _ _ _ _ _ _ _ _ _ _ _ _
      | exact ih1 _ _ _ _ _ _ _ _
      | exact laws_eqLine.mono _ _ _ _ _ _ _ _ _ _ _ _ _
      | exact laws_heldLine.mono _ _ _ _ _ _ _ _
      | exact laws_markLine.mono _ _ _ _ _ _ _ _
      | exact LeO.none _
      | refine LeO.ite ?_ ?_
      | refine LeO.bind ?_ (fun _ => ?_)
set_option maxHeartbeats 8000000 in
set_option maxRecDepth 100000 in
theorem laws_FnExactNewLine.calls (k : Nat) (a0 : Int) (r : Bool) (w : World) (hT : r = true) (h : laws_FnExactNewLine.f k a0 = some r) :
    Calls Try.prog 4 #[.int .i64 a0] w fun e w' => e = .returned (.bool r) ∧ Below w.heap.size w w' := by
  have hu28 := Try.underlying28
  replace hT := Aside0.mk hT
  have HB := Aside0.mk (Below.refl w.heap.size w)
  have H : ((spec_NewLine.f a0).bind fun bt121 => ((impl_NewLine.f a0).bind fun bt133 => ((laws_eqLine.f k bt133.1 bt133.2.1 bt133.2.2.1 bt133.2.2.2.1 bt133.2.2.2.2.1 bt133.2.2.2.2.2.1 bt121.1 bt121.2.1 bt121.2.2.1 bt121.2.2.2.1 bt121.2.2.2.2.1 bt121.2.2.2.2.2.1).bind fun t145 => (if t145 = true then (laws_FnExactNewLine.j0 k a0 bt121.2.2.2.2.2.2 (bt133.2.2.2.2.2.2 != bt121.2.2.2.2.2.2) bt121.1 bt121.2.1 bt121.2.2.1 bt121.2.2.2.1 bt121.2.2.2.2.1 bt121.2.2.2.2.2.1 bt133.1 bt133.2.1 bt133.2.2.1 bt133.2.2.2.1 bt133.2.2.2.2.1 bt133.2.2.2.2.2.1) else (laws_FnExactNewLine.j0 k a0 bt121.2.2.2.2.2.2 true bt121.1 bt121.2.1 bt121.2.2.1 bt121.2.2.2.1 bt121.2.2.2.2.1 bt121.2.2.2.2.2.1 bt133.1 bt133.2.1 bt133.2.2.1 bt133.2.2.2.1 bt133.2.2.2.2.1 bt133.2.2.2.2.2.1))))) = some r := h
  clear h
  replace H := Option.bind_eq_some_iff.mp H
  obtain ⟨⟨t121, t122, t123, t126, t129, t130, t131⟩, A20, H⟩ := H
  replace H : ((impl_NewLine.f a0).bind fun bt133 => ((laws_eqLine.f k bt133.1 bt133.2.1 bt133.2.2.1 bt133.2.2.2.1 bt133.2.2.2.2.1 bt133.2.2.2.2.2.1 t121 t122 t123 t126 t129 t130).bind fun t145 => (if t145 = true then (laws_FnExactNewLine.j0 k a0 t131 (bt133.2.2.2.2.2.2 != t131) t121 t122 t123 t126 t129 t130 bt133.1 bt133.2.1 bt133.2.2.1 bt133.2.2.2.1 bt133.2.2.2.2.1 bt133.2.2.2.2.2.1) else (laws_FnExactNewLine.j0 k a0 t131 true t121 t122 t123 t126 t129 t130 bt133.1 bt133.2.1 bt133.2.2.1 bt133.2.2.2.1 bt133.2.2.2.2.1 bt133.2.2.2.2.2.1)))) = some r := H
  have A2 := Aside0.mk A20
  clear A20
  replace H := Option.bind_eq_some_iff.mp H
  obtain ⟨⟨t133, t134, t135, t138, t141, t142, t143⟩, A30, H⟩ := H
  replace H : ((laws_eqLine.f k t133 t134 t135 t138 t141 t142 t121 t122 t123 t126 t129 t130).bind fun t145 => (if t145 = true then (laws_FnExactNewLine.j0 k a0 t131 (t143 != t131) t121 t122 t123 t126 t129 t130 t133 t134 t135 t138 t141 t142) else (laws_FnExactNewLine.j0 k a0 t131 true t121 t122 t123 t126 t129 t130 t133 t134 t135 t138 t141 t142))) = some r := H
  have A3 := Aside0.mk A30
  clear A30
  have HC4 := Aside0.mk H
  clear H
  go_enter Try.func4, Try.ntmps4
  go_upto_region 3 with (first | ((with_reducible refine gate_callee (f := 18) rfl ?_); refine goesL_ (some 13) rfl rfl Try.func18 (by kernel_rfl) rfl #[.int .i64 a0] rfl (by (try simp only [List.map_toArray, List.map_cons, List.map_nil]); first | done | rfl | (simp only [List.length_drop, List.length_take]; rfl)) ?_; (with_reducible refine (spec_NewLine.calls a0 t121 t122 t123 t126 t129 t130 t131 _ A2.out).mono ?_); rintro e w5 ⟨v124, v127, rfl, ho0, ho1, hb⟩; refine ⟨_, rfl, ?_⟩; have n0_ := Aside0.mk (Kd.R_lower ho0 (below_size (by repeat (first | (with_reducible first | exact HB.out | apply below_alloc | apply pw_below_drewN | apply below_drew1) | exact HB.out)))); have n1_ := Aside0.mk (Kd.R_lower ho1 (below_size (by repeat (first | (with_reducible first | exact HB.out | apply below_alloc | apply pw_below_drewN | apply below_drew1) | exact HB.out)))); have n2_ := Aside0.mk (below_step (by repeat (first | (with_reducible first | exact HB.out | apply below_alloc | apply pw_below_drewN | apply below_drew1) | exact HB.out)) hb); clear HB; have HO125 := n0_; have HO128 := n1_; have HB := n2_; clear n0_ n1_ n2_; (try clear hb); (try clear hb2); (try clear hk); (try clear hi); (try clear ho0); (try clear ho1)) | ((with_reducible refine gate_dst (N := 3) rfl ?_); refine box_event ?hg (N := 3) ?hd (cs := #[.int .i64 0, .int .i64 0, .slice none 0 0, .slice none 0 0, .int .i64 0, .bool false]) (t := 28) ?hr ?_; (case hd => rfl); (case hg => rfl); (case hr => first | (go_simp; done) | (go_simp; rfl)); intro gb132 hg w6 hbox hb; have n0_ := Aside0.mk (Kd.R_below (by (with_reducible repeat (first | apply Kd.R_alloc | apply Kd.R_drewN | apply Kd.R_drew)); exact HO125.out) hb); have n1_ := Aside0.mk (Kd.R_below (by (with_reducible repeat (first | apply Kd.R_alloc | apply Kd.R_drewN | apply Kd.R_drew)); exact HO128.out) hb); have n2_ := Aside0.mk (below_step (by repeat (first | (with_reducible first | exact HB.out | apply below_alloc | apply pw_below_drewN | apply below_drew1) | exact HB.out)) hb); have n3_ := Aside0.mk (hbox); have n4_ := Aside0.mk ((by rw [hg]; exact (below_size (by repeat (first | (with_reducible first | exact HB.out | apply below_alloc | apply pw_below_drewN | apply below_drew1) | exact HB.out))) : w.heap.size ≤ gb132)); have n5_ := Aside0.mk ((by rw [hg]; exact (below_size (by repeat (first | (with_reducible first | exact HB.out | apply below_alloc | apply pw_below_drewN | apply below_drew1) | exact HB.out))) : w.heap.size ≤ gb132)); clear HO125; clear HO128; clear HB; have HO125 := n0_; have HO128 := n1_; have HB := n2_; have BK132 := n3_; have GW132 := n4_; have GE132 := n5_; clear n0_ n1_ n2_ n3_ n4_ n5_; clear hb hbox hg; have hcz7_0 : w6.cell? ⟨gb132, 0, none⟩ = some (.int .i64 0) := (blk_cell BK132.out 0).trans rfl; have hcz7_1 : w6.cell? ⟨gb132, 1, none⟩ = some (.int .i64 0) := (blk_cell BK132.out 1).trans rfl; have hcz7_2 : w6.cell? ⟨gb132, 2, none⟩ = some (.slice none 0 0) := (blk_cell BK132.out 2).trans rfl; have hcz7_3 : w6.cell? ⟨gb132, 3, none⟩ = some (.slice none 0 0) := (blk_cell BK132.out 3).trans rfl; have hcz7_4 : w6.cell? ⟨gb132, 4, none⟩ = some (.int .i64 0) := (blk_cell BK132.out 4).trans rfl; have hcz7_5 : w6.cell? ⟨gb132, 5, none⟩ = some (.bool false) := (blk_cell BK132.out 5).trans rfl; have hfz7_0 := blk_frozen BK132.out 0; have hfz7_1 := blk_frozen BK132.out 1; have hfz7_2 := blk_frozen BK132.out 2; have hfz7_3 := blk_frozen BK132.out 3; have hfz7_4 := blk_frozen BK132.out 4; have hfz7_5 := blk_frozen BK132.out 5; obtain ⟨Ao8, co8, eo8⟩ := Kd.R_slice HO125.out; subst eo8; obtain ⟨Ao9, co9, eo9⟩ := Kd.R_slice HO128.out; subst eo9) | ((with_reducible refine gate_callee (f := 13) rfl ?_); refine goesL_ (some 18) rfl rfl Try.func13 (by kernel_rfl) rfl #[.int .i64 a0] rfl (by (try simp only [List.map_toArray, List.map_cons, List.map_nil]); first | done | rfl | (simp only [List.length_drop, List.length_take]; rfl)) ?_; (with_reducible refine (impl_NewLine.calls a0 t133 t134 t135 t138 t141 t142 t143 _ A3.out).mono ?_); rintro e w10 ⟨v136, v139, rfl, ho0, ho1, hb⟩; refine ⟨_, rfl, ?_⟩; have n0_ := Aside0.mk (Kd.R_mono (Kd.R_told (Kd.R_told (Kd.R_old (by (with_reducible repeat (first | apply Kd.R_alloc | apply Kd.R_drewN | apply Kd.R_drew)); exact (Kd.R_mono (Kd.R_far (p := ⟨gb132, 5, none⟩) (Kd.R_far (p := ⟨gb132, 4, none⟩) (Kd.R_far (p := ⟨gb132, 3, none⟩) (Kd.R_far (p := ⟨gb132, 2, none⟩) (Kd.R_far (p := ⟨gb132, 1, none⟩) (Kd.R_far (p := ⟨gb132, 0, none⟩) (Kd.R_types HO125.out BK132.out (by decide)) (fun _ hk => hk.2) (.int .i64 t121)) (fun _ hk => hk.2) (.int .i64 t122)) (fun _ hk => hk.2) (.slice Ao8 t123.length co8)) (fun _ hk => hk.2) (.slice Ao9 t126.length co9)) (fun _ hk => hk.2) (.int .i64 t129)) (fun _ hk => hk.2) (.bool t130)) (fun _ h_ => h_.1))) hb) (Kd.R_base ho0)) (Kd.R_base ho1)) (fun _ h_ => h_.1)); have n1_ := Aside0.mk (Kd.R_mono (Kd.R_told (Kd.R_told (Kd.R_old (by (with_reducible repeat (first | apply Kd.R_alloc | apply Kd.R_drewN | apply Kd.R_drew)); exact (Kd.R_mono (Kd.R_far (p := ⟨gb132, 5, none⟩) (Kd.R_far (p := ⟨gb132, 4, none⟩) (Kd.R_far (p := ⟨gb132, 3, none⟩) (Kd.R_far (p := ⟨gb132, 2, none⟩) (Kd.R_far (p := ⟨gb132, 1, none⟩) (Kd.R_far (p := ⟨gb132, 0, none⟩) (Kd.R_types HO128.out BK132.out (by decide)) (fun _ hk => hk.2) (.int .i64 t121)) (fun _ hk => hk.2) (.int .i64 t122)) (fun _ hk => hk.2) (.slice Ao8 t123.length co8)) (fun _ hk => hk.2) (.slice Ao9 t126.length co9)) (fun _ hk => hk.2) (.int .i64 t129)) (fun _ hk => hk.2) (.bool t130)) (fun _ h_ => h_.1))) hb) (Kd.R_base ho0)) (Kd.R_base ho1)) (fun _ h_ => h_.1)); have n2_ := Aside0.mk (Kd.R_lower (Kd.R_new' (Kd.R_new' ho0 (Kd.R_lt (by (with_reducible repeat (first | apply Kd.R_alloc | apply Kd.R_drewN | apply Kd.R_drew)); exact (Kd.R_mono (Kd.R_far (p := ⟨gb132, 5, none⟩) (Kd.R_far (p := ⟨gb132, 4, none⟩) (Kd.R_far (p := ⟨gb132, 3, none⟩) (Kd.R_far (p := ⟨gb132, 2, none⟩) (Kd.R_far (p := ⟨gb132, 1, none⟩) (Kd.R_far (p := ⟨gb132, 0, none⟩) (Kd.R_types HO125.out BK132.out (by decide)) (fun _ hk => hk.2) (.int .i64 t121)) (fun _ hk => hk.2) (.int .i64 t122)) (fun _ hk => hk.2) (.slice Ao8 t123.length co8)) (fun _ hk => hk.2) (.slice Ao9 t126.length co9)) (fun _ hk => hk.2) (.int .i64 t129)) (fun _ hk => hk.2) (.bool t130)) (fun _ h_ => h_.1))))) (Kd.R_lt (by (with_reducible repeat (first | apply Kd.R_alloc | apply Kd.R_drewN | apply Kd.R_drew)); exact (Kd.R_mono (Kd.R_far (p := ⟨gb132, 5, none⟩) (Kd.R_far (p := ⟨gb132, 4, none⟩) (Kd.R_far (p := ⟨gb132, 3, none⟩) (Kd.R_far (p := ⟨gb132, 2, none⟩) (Kd.R_far (p := ⟨gb132, 1, none⟩) (Kd.R_far (p := ⟨gb132, 0, none⟩) (Kd.R_types HO128.out BK132.out (by decide)) (fun _ hk => hk.2) (.int .i64 t121)) (fun _ hk => hk.2) (.int .i64 t122)) (fun _ hk => hk.2) (.slice Ao8 t123.length co8)) (fun _ hk => hk.2) (.slice Ao9 t126.length co9)) (fun _ hk => hk.2) (.int .i64 t129)) (fun _ hk => hk.2) (.bool t130)) (fun _ h_ => h_.1))))) (below_size (by repeat (first | (with_reducible first | exact HB.out | apply below_alloc | apply pw_below_drewN | apply below_drew1 | refine below_set ?_ GE132.out) | exact HB.out)))); have n3_ := Aside0.mk (Kd.R_lower (Kd.R_new' (Kd.R_new' ho1 (Kd.R_lt (by (with_reducible repeat (first | apply Kd.R_alloc | apply Kd.R_drewN | apply Kd.R_drew)); exact (Kd.R_mono (Kd.R_far (p := ⟨gb132, 5, none⟩) (Kd.R_far (p := ⟨gb132, 4, none⟩) (Kd.R_far (p := ⟨gb132, 3, none⟩) (Kd.R_far (p := ⟨gb132, 2, none⟩) (Kd.R_far (p := ⟨gb132, 1, none⟩) (Kd.R_far (p := ⟨gb132, 0, none⟩) (Kd.R_types HO125.out BK132.out (by decide)) (fun _ hk => hk.2) (.int .i64 t121)) (fun _ hk => hk.2) (.int .i64 t122)) (fun _ hk => hk.2) (.slice Ao8 t123.length co8)) (fun _ hk => hk.2) (.slice Ao9 t126.length co9)) (fun _ hk => hk.2) (.int .i64 t129)) (fun _ hk => hk.2) (.bool t130)) (fun _ h_ => h_.1))))) (Kd.R_lt (by (with_reducible repeat (first | apply Kd.R_alloc | apply Kd.R_drewN | apply Kd.R_drew)); exact (Kd.R_mono (Kd.R_far (p := ⟨gb132, 5, none⟩) (Kd.R_far (p := ⟨gb132, 4, none⟩) (Kd.R_far (p := ⟨gb132, 3, none⟩) (Kd.R_far (p := ⟨gb132, 2, none⟩) (Kd.R_far (p := ⟨gb132, 1, none⟩) (Kd.R_far (p := ⟨gb132, 0, none⟩) (Kd.R_types HO128.out BK132.out (by decide)) (fun _ hk => hk.2) (.int .i64 t121)) (fun _ hk => hk.2) (.int .i64 t122)) (fun _ hk => hk.2) (.slice Ao8 t123.length co8)) (fun _ hk => hk.2) (.slice Ao9 t126.length co9)) (fun _ hk => hk.2) (.int .i64 t129)) (fun _ hk => hk.2) (.bool t130)) (fun _ h_ => h_.1))))) (below_size (by repeat (first | (with_reducible first | exact HB.out | apply below_alloc | apply pw_below_drewN | apply below_drew1 | refine below_set ?_ GE132.out) | exact HB.out)))); have n4_ := Aside0.mk (blk_below (g := gb132) (o := .cells #[.int .i64 t121, .int .i64 t122, .slice Ao8 t123.length co8, .slice Ao9 t126.length co9, .int .i64 t129, .bool t130] 28 (0, 0)) (by (with_reducible repeat (first | refine blk_drewN ?_ _ | refine blk_drew ?_ | refine blk_alloc ?_ _)); refine blk_put (cs := #[.int .i64 t121, .int .i64 t122, .slice Ao8 t123.length co8, .slice Ao9 t126.length co9, .int .i64 t129, .bool false]) ?_ 5 _ rfl; (with_reducible repeat (first | refine blk_drewN ?_ _ | refine blk_drew ?_ | refine blk_alloc ?_ _)); refine blk_put (cs := #[.int .i64 t121, .int .i64 t122, .slice Ao8 t123.length co8, .slice Ao9 t126.length co9, .int .i64 0, .bool false]) ?_ 4 _ rfl; (with_reducible repeat (first | refine blk_drewN ?_ _ | refine blk_drew ?_ | refine blk_alloc ?_ _)); refine blk_put (cs := #[.int .i64 t121, .int .i64 t122, .slice Ao8 t123.length co8, .slice none 0 0, .int .i64 0, .bool false]) ?_ 3 _ rfl; (with_reducible repeat (first | refine blk_drewN ?_ _ | refine blk_drew ?_ | refine blk_alloc ?_ _)); refine blk_put (cs := #[.int .i64 t121, .int .i64 t122, .slice none 0 0, .slice none 0 0, .int .i64 0, .bool false]) ?_ 2 _ rfl; (with_reducible repeat (first | refine blk_drewN ?_ _ | refine blk_drew ?_ | refine blk_alloc ?_ _)); refine blk_put (cs := #[.int .i64 t121, .int .i64 0, .slice none 0 0, .slice none 0 0, .int .i64 0, .bool false]) ?_ 1 _ rfl; (with_reducible repeat (first | refine blk_drewN ?_ _ | refine blk_drew ?_ | refine blk_alloc ?_ _)); refine blk_put (cs := #[.int .i64 0, .int .i64 0, .slice none 0 0, .slice none 0 0, .int .i64 0, .bool false]) ?_ 0 _ rfl; (with_reducible repeat (first | refine blk_drewN ?_ _ | refine blk_drew ?_ | refine blk_alloc ?_ _)); exact BK132.out) hb); have n5_ := Aside0.mk (below_step (by repeat (first | (with_reducible first | exact HB.out | apply below_alloc | apply pw_below_drewN | apply below_drew1 | refine below_set ?_ GE132.out) | exact HB.out)) hb); clear HO125; clear HO128; clear BK132; clear HB; have HO125 := n0_; have HO128 := n1_; have HO137 := n2_; have HO140 := n3_; have BK132 := n4_; have HB := n5_; clear n0_ n1_ n2_ n3_ n4_ n5_; (try clear hb); (try clear hb2); (try clear hk); (try clear hi); (try clear ho0); (try clear ho1)) | ((with_reducible refine gate_dst (N := 5) rfl ?_); refine box_event ?hg (N := 5) ?hd (cs := #[.int .i64 0, .int .i64 0, .slice none 0 0, .slice none 0 0, .int .i64 0, .bool false]) (t := 28) ?hr ?_; (case hd => rfl); (case hg => rfl); (case hr => first | (go_simp; done) | (go_simp; rfl)); intro gb144 hg w11 hbox hb; have n0_ := Aside0.mk (Kd.R_below (by (with_reducible repeat (first | apply Kd.R_alloc | apply Kd.R_drewN | apply Kd.R_drew)); exact HO125.out) hb); have n1_ := Aside0.mk (Kd.R_below (by (with_reducible repeat (first | apply Kd.R_alloc | apply Kd.R_drewN | apply Kd.R_drew)); exact HO128.out) hb); have n2_ := Aside0.mk (Kd.R_below (by (with_reducible repeat (first | apply Kd.R_alloc | apply Kd.R_drewN | apply Kd.R_drew)); exact HO137.out) hb); have n3_ := Aside0.mk (Kd.R_below (by (with_reducible repeat (first | apply Kd.R_alloc | apply Kd.R_drewN | apply Kd.R_drew)); exact HO140.out) hb); have n4_ := Aside0.mk (blk_below (g := gb132) (o := .cells #[.int .i64 t121, .int .i64 t122, .slice Ao8 t123.length co8, .slice Ao9 t126.length co9, .int .i64 t129, .bool t130] 28 (0, 0)) (by (with_reducible repeat (first | refine blk_drewN ?_ _ | refine blk_drew ?_ | refine blk_alloc ?_ _)); exact BK132.out) hb); have n5_ := Aside0.mk (below_step (by repeat (first | (with_reducible first | exact HB.out | apply below_alloc | apply pw_below_drewN | apply below_drew1 | refine below_set ?_ GE132.out) | exact HB.out)) hb); have n6_ := Aside0.mk (hbox); have n7_ := Aside0.mk ((by rw [hg]; exact (below_size (by repeat (first | (with_reducible first | exact HB.out | apply below_alloc | apply pw_below_drewN | apply below_drew1 | refine below_set ?_ GE132.out) | exact HB.out))) : w.heap.size ≤ gb144)); have n8_ := Aside0.mk ((by rw [hg]; exact (below_size (by repeat (first | (with_reducible first | exact HB.out | apply below_alloc | apply pw_below_drewN | apply below_drew1 | refine below_set ?_ GE132.out) | exact HB.out))) : w.heap.size ≤ gb144)); have n9_ := Aside0.mk ((by rw [hg]; exact Nat.ne_of_lt (blk_lt (g := gb132) (o := .cells #[.int .i64 t121, .int .i64 t122, .slice Ao8 t123.length co8, .slice Ao9 t126.length co9, .int .i64 t129, .bool t130] 28 (0, 0)) (by (with_reducible repeat (first | refine blk_drewN ?_ _ | refine blk_drew ?_ | refine blk_alloc ?_ _)); exact BK132.out)) : gb132 ≠ gb144)); have n10_ := Aside0.mk ((by rw [hg]; exact Nat.ne_of_gt (blk_lt (g := gb132) (o := .cells #[.int .i64 t121, .int .i64 t122, .slice Ao8 t123.length co8, .slice Ao9 t126.length co9, .int .i64 t129, .bool t130] 28 (0, 0)) (by (with_reducible repeat (first | refine blk_drewN ?_ _ | refine blk_drew ?_ | refine blk_alloc ?_ _)); exact BK132.out)) : gb144 ≠ gb132)); clear HO125; clear HO128; clear HO137; clear HO140; clear BK132; clear HB; have HO125 := n0_; have HO128 := n1_; have HO137 := n2_; have HO140 := n3_; have BK132 := n4_; have HB := n5_; have BK144 := n6_; have GW144 := n7_; have GE144 := n8_; have NB132_144 := n9_; have NB144_132 := n10_; clear n0_ n1_ n2_ n3_ n4_ n5_ n6_ n7_ n8_ n9_ n10_; clear hb hbox hg; have hnb12 := NB144_132.out; have hnc12 := NB132_144.out; have hcz13_0 : w11.cell? ⟨gb144, 0, none⟩ = some (.int .i64 0) := (blk_cell BK144.out 0).trans rfl; have hcz13_1 : w11.cell? ⟨gb144, 1, none⟩ = some (.int .i64 0) := (blk_cell BK144.out 1).trans rfl; have hcz13_2 : w11.cell? ⟨gb144, 2, none⟩ = some (.slice none 0 0) := (blk_cell BK144.out 2).trans rfl; have hcz13_3 : w11.cell? ⟨gb144, 3, none⟩ = some (.slice none 0 0) := (blk_cell BK144.out 3).trans rfl; have hcz13_4 : w11.cell? ⟨gb144, 4, none⟩ = some (.int .i64 0) := (blk_cell BK144.out 4).trans rfl; have hcz13_5 : w11.cell? ⟨gb144, 5, none⟩ = some (.bool false) := (blk_cell BK144.out 5).trans rfl; have hfz13_0 := blk_frozen BK144.out 0; have hfz13_1 := blk_frozen BK144.out 1; have hfz13_2 := blk_frozen BK144.out 2; have hfz13_3 := blk_frozen BK144.out 3; have hfz13_4 := blk_frozen BK144.out 4; have hfz13_5 := blk_frozen BK144.out 5; obtain ⟨Ao14, co14, eo14⟩ := Kd.R_slice HO137.out; subst eo14; obtain ⟨Ao15, co15, eo15⟩ := Kd.R_slice HO140.out; subst eo15))
  (try simp only [Act.put, List.setIfInBounds_toArray, List.set_cons_zero, List.set_cons_succ])
  go_cut [29] (fun v29 wc => ∃ (kq : Nat) (x29_3 : Bool), v29 = .bool x29_3 ∧ Aside0 (laws_FnExactNewLine.j0 kq a0 t131 x29_3 t121 t122 t123 t126 t129 t130 t133 t134 t135 t138 t141 t142 = some r) ∧ Aside0 (kq ≤ k) ∧ Aside0 (Kd.R (Kd.int .i64) 3 wc w.heap.size (fun k_ => some k_ ≠ ((.slice Ao9 t126.length co9) : Value).ownBlock ∧ some k_ ≠ ((.slice Ao14 t135.length co14) : Value).ownBlock ∧ some k_ ≠ ((.slice Ao15 t138.length co15) : Value).ownBlock) (.slice Ao8 t123.length co8) t123) ∧ Aside0 (Kd.R (Kd.int .i64) 3 wc w.heap.size (fun k_ => some k_ ≠ ((.slice Ao8 t123.length co8) : Value).ownBlock ∧ some k_ ≠ ((.slice Ao14 t135.length co14) : Value).ownBlock ∧ some k_ ≠ ((.slice Ao15 t138.length co15) : Value).ownBlock) (.slice Ao9 t126.length co9) t126) ∧ Aside0 (Kd.R (Kd.int .i64) 3 wc w.heap.size (fun k_ => some k_ ≠ ((.slice Ao8 t123.length co8) : Value).ownBlock ∧ some k_ ≠ ((.slice Ao9 t126.length co9) : Value).ownBlock ∧ some k_ ≠ ((.slice Ao15 t138.length co15) : Value).ownBlock) (.slice Ao14 t135.length co14) t135) ∧ Aside0 (Kd.R (Kd.int .i64) 3 wc w.heap.size (fun k_ => some k_ ≠ ((.slice Ao8 t123.length co8) : Value).ownBlock ∧ some k_ ≠ ((.slice Ao9 t126.length co9) : Value).ownBlock ∧ some k_ ≠ ((.slice Ao14 t135.length co14) : Value).ownBlock) (.slice Ao15 t138.length co15) t138) ∧ Aside0 (wc.heap[gb132]? = some (.cells #[.int .i64 t121, .int .i64 t122, (.slice Ao8 t123.length co8), (.slice Ao9 t126.length co9), .int .i64 t129, .bool t130] 28 (0, 0))) ∧ Aside0 (wc.heap[gb144]? = some (.cells #[.int .i64 t133, .int .i64 t134, (.slice Ao14 t135.length co14), (.slice Ao15 t138.length co15), .int .i64 t141, .bool t142] 28 (0, 0))) ∧ Aside0 (Below w.heap.size w wc))
  case first =>
    have H := HC4.out
    clear HC4
    replace H := Option.bind_eq_some_iff.mp H
    obtain ⟨t145, A160, H⟩ := H
    replace H : (if t145 = true then (laws_FnExactNewLine.j0 k a0 t131 (t143 != t131) t121 t122 t123 t126 t129 t130 t133 t134 t135 t138 t141 t142) else (laws_FnExactNewLine.j0 k a0 t131 true t121 t122 t123 t126 t129 t130 t133 t134 t135 t138 t141 t142)) = some r := H
    have A16 := Aside0.mk A160
    clear A160
    by_cases c17 : t145 = true
    · subst c17
      have H1 : (laws_FnExactNewLine.j0 k a0 t131 (t143 != t131) t121 t122 t123 t126 t129 t130 t133 t134 t135 t138 t141 t142) = some r := by rw [if_pos rfl] at H; exact H
      clear H
      have H := H1
      clear H1
      have H' := Aside0.mk H
      clear H
      have hnb18 := NB144_132.out
      have hnc18 := NB132_144.out
      have hcz19_0 : w11.cell? ⟨gb144, 0, none⟩ = some (.int .i64 0) := (blk_cell BK144.out 0).trans rfl
      have hcz19_1 : w11.cell? ⟨gb144, 1, none⟩ = some (.int .i64 0) := (blk_cell BK144.out 1).trans rfl
      have hcz19_2 : w11.cell? ⟨gb144, 2, none⟩ = some (.slice none 0 0) := (blk_cell BK144.out 2).trans rfl
      have hcz19_3 : w11.cell? ⟨gb144, 3, none⟩ = some (.slice none 0 0) := (blk_cell BK144.out 3).trans rfl
      have hcz19_4 : w11.cell? ⟨gb144, 4, none⟩ = some (.int .i64 0) := (blk_cell BK144.out 4).trans rfl
      have hcz19_5 : w11.cell? ⟨gb144, 5, none⟩ = some (.bool false) := (blk_cell BK144.out 5).trans rfl
      have hfz19_0 := blk_frozen BK144.out 0
      have hfz19_1 := blk_frozen BK144.out 1
      have hfz19_2 := blk_frozen BK144.out 2
      have hfz19_3 := blk_frozen BK144.out 3
      have hfz19_4 := blk_frozen BK144.out 4
      have hfz19_5 := blk_frozen BK144.out 5
      have hcz20_0 : w11.cell? ⟨gb132, 0, none⟩ = some (.int .i64 t121) := (blk_cell BK132.out 0).trans rfl
      have hcz20_1 : w11.cell? ⟨gb132, 1, none⟩ = some (.int .i64 t122) := (blk_cell BK132.out 1).trans rfl
      have hcz20_2 : w11.cell? ⟨gb132, 2, none⟩ = some (.slice Ao8 t123.length co8) := (blk_cell BK132.out 2).trans rfl
      have hcz20_3 : w11.cell? ⟨gb132, 3, none⟩ = some (.slice Ao9 t126.length co9) := (blk_cell BK132.out 3).trans rfl
      have hcz20_4 : w11.cell? ⟨gb132, 4, none⟩ = some (.int .i64 t129) := (blk_cell BK132.out 4).trans rfl
      have hcz20_5 : w11.cell? ⟨gb132, 5, none⟩ = some (.bool t130) := (blk_cell BK132.out 5).trans rfl
      have hfz20_0 := blk_frozen BK132.out 0
      have hfz20_1 := blk_frozen BK132.out 1
      have hfz20_2 := blk_frozen BK132.out 2
      have hfz20_3 := blk_frozen BK132.out 3
      have hfz20_4 := blk_frozen BK132.out 4
      have hfz20_5 := blk_frozen BK132.out 5
      go_wp2_with (first | ((with_reducible refine gate_callee (f := 19) rfl ?_); refine goesL_ (some 23) rfl rfl Try.func19 (by kernel_rfl) rfl #[.agg #[.int .i64 t133, .int .i64 t134, .slice Ao14 t135.length co14, .slice Ao15 t138.length co15, .int .i64 t141, .bool t142], .agg #[.int .i64 t121, .int .i64 t122, .slice Ao8 t123.length co8, .slice Ao9 t126.length co9, .int .i64 t129, .bool t130]] rfl (by (try simp only [List.map_toArray, List.map_cons, List.map_nil]); first | done | rfl | (simp only [List.length_drop, List.length_take]; rfl)) ?_; (with_reducible refine (laws_eqLine.calls k t133 t134 _ _ t135 _ _ t138 t141 t142 t121 t122 _ _ t123 _ _ t126 t129 t130 true _ ?side1 ?side2 ?side3 ?side4 ?side5 ?side6 ?side7 ?side8 A16.out).mono ?_); (case side1 => refine (Kd.R_reads' (e := 3) (base := w.heap.size) (ok := fun k_ => ((some k_ ≠ (.slice Ao15 t138.length co15 : Value).ownBlock ∧ some k_ ≠ (.slice Ao8 t123.length co8 : Value).ownBlock) ∧ some k_ ≠ (.slice Ao9 t126.length co9 : Value).ownBlock)) (n := t135.length) (c := co14) ?_).2.2; exact (by (with_reducible repeat (first | apply Kd.R_alloc | apply Kd.R_drewN | apply Kd.R_drew)); exact (Kd.R_mono (Kd.R_far (p := ⟨gb144, 5, none⟩) (Kd.R_far (p := ⟨gb144, 4, none⟩) (Kd.R_far (p := ⟨gb144, 3, none⟩) (Kd.R_far (p := ⟨gb144, 2, none⟩) (Kd.R_far (p := ⟨gb144, 1, none⟩) (Kd.R_far (p := ⟨gb144, 0, none⟩) (Kd.R_types HO137.out BK144.out (by decide)) (fun _ hk => hk.2) (.int .i64 t133)) (fun _ hk => hk.2) (.int .i64 t134)) (fun _ hk => hk.2) (.slice Ao14 t135.length co14)) (fun _ hk => hk.2) (.slice Ao15 t138.length co15)) (fun _ hk => hk.2) (.int .i64 t141)) (fun _ hk => hk.2) (.bool t142)) (fun _ h_ => h_.1)))); (case side2 => exact (Kd.R_reads' HO137.out).2.1); (case side3 => refine (Kd.R_reads' (e := 3) (base := w.heap.size) (ok := fun k_ => ((some k_ ≠ (.slice Ao14 t135.length co14 : Value).ownBlock ∧ some k_ ≠ (.slice Ao8 t123.length co8 : Value).ownBlock) ∧ some k_ ≠ (.slice Ao9 t126.length co9 : Value).ownBlock)) (n := t138.length) (c := co15) ?_).2.2; exact (by (with_reducible repeat (first | apply Kd.R_alloc | apply Kd.R_drewN | apply Kd.R_drew)); exact (Kd.R_mono (Kd.R_far (p := ⟨gb144, 5, none⟩) (Kd.R_far (p := ⟨gb144, 4, none⟩) (Kd.R_far (p := ⟨gb144, 3, none⟩) (Kd.R_far (p := ⟨gb144, 2, none⟩) (Kd.R_far (p := ⟨gb144, 1, none⟩) (Kd.R_far (p := ⟨gb144, 0, none⟩) (Kd.R_types HO140.out BK144.out (by decide)) (fun _ hk => hk.2) (.int .i64 t133)) (fun _ hk => hk.2) (.int .i64 t134)) (fun _ hk => hk.2) (.slice Ao14 t135.length co14)) (fun _ hk => hk.2) (.slice Ao15 t138.length co15)) (fun _ hk => hk.2) (.int .i64 t141)) (fun _ hk => hk.2) (.bool t142)) (fun _ h_ => h_.1)))); (case side4 => exact (Kd.R_reads' HO140.out).2.1); (case side5 => refine (Kd.R_reads' (e := 3) (base := w.heap.size) (ok := fun k_ => ((some k_ ≠ (.slice Ao9 t126.length co9 : Value).ownBlock ∧ some k_ ≠ (.slice Ao14 t135.length co14 : Value).ownBlock) ∧ some k_ ≠ (.slice Ao15 t138.length co15 : Value).ownBlock)) (n := t123.length) (c := co8) ?_).2.2; exact (by (with_reducible repeat (first | apply Kd.R_alloc | apply Kd.R_drewN | apply Kd.R_drew)); exact (Kd.R_mono (Kd.R_far (p := ⟨gb144, 5, none⟩) (Kd.R_far (p := ⟨gb144, 4, none⟩) (Kd.R_far (p := ⟨gb144, 3, none⟩) (Kd.R_far (p := ⟨gb144, 2, none⟩) (Kd.R_far (p := ⟨gb144, 1, none⟩) (Kd.R_far (p := ⟨gb144, 0, none⟩) (Kd.R_types HO125.out BK144.out (by decide)) (fun _ hk => hk.2) (.int .i64 t133)) (fun _ hk => hk.2) (.int .i64 t134)) (fun _ hk => hk.2) (.slice Ao14 t135.length co14)) (fun _ hk => hk.2) (.slice Ao15 t138.length co15)) (fun _ hk => hk.2) (.int .i64 t141)) (fun _ hk => hk.2) (.bool t142)) (fun _ h_ => h_.1)))); (case side6 => exact (Kd.R_reads' HO125.out).2.1); (case side7 => refine (Kd.R_reads' (e := 3) (base := w.heap.size) (ok := fun k_ => ((some k_ ≠ (.slice Ao8 t123.length co8 : Value).ownBlock ∧ some k_ ≠ (.slice Ao14 t135.length co14 : Value).ownBlock) ∧ some k_ ≠ (.slice Ao15 t138.length co15 : Value).ownBlock)) (n := t126.length) (c := co9) ?_).2.2; exact (by (with_reducible repeat (first | apply Kd.R_alloc | apply Kd.R_drewN | apply Kd.R_drew)); exact (Kd.R_mono (Kd.R_far (p := ⟨gb144, 5, none⟩) (Kd.R_far (p := ⟨gb144, 4, none⟩) (Kd.R_far (p := ⟨gb144, 3, none⟩) (Kd.R_far (p := ⟨gb144, 2, none⟩) (Kd.R_far (p := ⟨gb144, 1, none⟩) (Kd.R_far (p := ⟨gb144, 0, none⟩) (Kd.R_types HO128.out BK144.out (by decide)) (fun _ hk => hk.2) (.int .i64 t133)) (fun _ hk => hk.2) (.int .i64 t134)) (fun _ hk => hk.2) (.slice Ao14 t135.length co14)) (fun _ hk => hk.2) (.slice Ao15 t138.length co15)) (fun _ hk => hk.2) (.int .i64 t141)) (fun _ hk => hk.2) (.bool t142)) (fun _ h_ => h_.1)))); (case side8 => exact (Kd.R_reads' HO128.out).2.1); rintro e w21 ⟨rfl, hb⟩; refine ⟨_, rfl, ?_⟩; have n0_ := Aside0.mk (Kd.R_below (by (with_reducible repeat (first | apply Kd.R_alloc | apply Kd.R_drewN | apply Kd.R_drew)); exact (Kd.R_mono (Kd.R_far (p := ⟨gb144, 5, none⟩) (Kd.R_far (p := ⟨gb144, 4, none⟩) (Kd.R_far (p := ⟨gb144, 3, none⟩) (Kd.R_far (p := ⟨gb144, 2, none⟩) (Kd.R_far (p := ⟨gb144, 1, none⟩) (Kd.R_far (p := ⟨gb144, 0, none⟩) (Kd.R_types HO125.out BK144.out (by decide)) (fun _ hk => hk.2) (.int .i64 t133)) (fun _ hk => hk.2) (.int .i64 t134)) (fun _ hk => hk.2) (.slice Ao14 t135.length co14)) (fun _ hk => hk.2) (.slice Ao15 t138.length co15)) (fun _ hk => hk.2) (.int .i64 t141)) (fun _ hk => hk.2) (.bool t142)) (fun _ h_ => h_.1))) hb); have n1_ := Aside0.mk (Kd.R_below (by (with_reducible repeat (first | apply Kd.R_alloc | apply Kd.R_drewN | apply Kd.R_drew)); exact (Kd.R_mono (Kd.R_far (p := ⟨gb144, 5, none⟩) (Kd.R_far (p := ⟨gb144, 4, none⟩) (Kd.R_far (p := ⟨gb144, 3, none⟩) (Kd.R_far (p := ⟨gb144, 2, none⟩) (Kd.R_far (p := ⟨gb144, 1, none⟩) (Kd.R_far (p := ⟨gb144, 0, none⟩) (Kd.R_types HO128.out BK144.out (by decide)) (fun _ hk => hk.2) (.int .i64 t133)) (fun _ hk => hk.2) (.int .i64 t134)) (fun _ hk => hk.2) (.slice Ao14 t135.length co14)) (fun _ hk => hk.2) (.slice Ao15 t138.length co15)) (fun _ hk => hk.2) (.int .i64 t141)) (fun _ hk => hk.2) (.bool t142)) (fun _ h_ => h_.1))) hb); have n2_ := Aside0.mk (Kd.R_below (by (with_reducible repeat (first | apply Kd.R_alloc | apply Kd.R_drewN | apply Kd.R_drew)); exact (Kd.R_mono (Kd.R_far (p := ⟨gb144, 5, none⟩) (Kd.R_far (p := ⟨gb144, 4, none⟩) (Kd.R_far (p := ⟨gb144, 3, none⟩) (Kd.R_far (p := ⟨gb144, 2, none⟩) (Kd.R_far (p := ⟨gb144, 1, none⟩) (Kd.R_far (p := ⟨gb144, 0, none⟩) (Kd.R_types HO137.out BK144.out (by decide)) (fun _ hk => hk.2) (.int .i64 t133)) (fun _ hk => hk.2) (.int .i64 t134)) (fun _ hk => hk.2) (.slice Ao14 t135.length co14)) (fun _ hk => hk.2) (.slice Ao15 t138.length co15)) (fun _ hk => hk.2) (.int .i64 t141)) (fun _ hk => hk.2) (.bool t142)) (fun _ h_ => h_.1))) hb); have n3_ := Aside0.mk (Kd.R_below (by (with_reducible repeat (first | apply Kd.R_alloc | apply Kd.R_drewN | apply Kd.R_drew)); exact (Kd.R_mono (Kd.R_far (p := ⟨gb144, 5, none⟩) (Kd.R_far (p := ⟨gb144, 4, none⟩) (Kd.R_far (p := ⟨gb144, 3, none⟩) (Kd.R_far (p := ⟨gb144, 2, none⟩) (Kd.R_far (p := ⟨gb144, 1, none⟩) (Kd.R_far (p := ⟨gb144, 0, none⟩) (Kd.R_types HO140.out BK144.out (by decide)) (fun _ hk => hk.2) (.int .i64 t133)) (fun _ hk => hk.2) (.int .i64 t134)) (fun _ hk => hk.2) (.slice Ao14 t135.length co14)) (fun _ hk => hk.2) (.slice Ao15 t138.length co15)) (fun _ hk => hk.2) (.int .i64 t141)) (fun _ hk => hk.2) (.bool t142)) (fun _ h_ => h_.1))) hb); have n4_ := Aside0.mk (blk_below (g := gb132) (o := .cells #[.int .i64 t121, .int .i64 t122, .slice Ao8 t123.length co8, .slice Ao9 t126.length co9, .int .i64 t129, .bool t130] 28 (0, 0)) (by (with_reducible repeat (first | refine blk_drewN ?_ _ | refine blk_drew ?_ | refine blk_alloc ?_ _)); refine blk_far ?_ NB132_144.out _; (with_reducible repeat (first | refine blk_drewN ?_ _ | refine blk_drew ?_ | refine blk_alloc ?_ _)); refine blk_far ?_ NB132_144.out _; (with_reducible repeat (first | refine blk_drewN ?_ _ | refine blk_drew ?_ | refine blk_alloc ?_ _)); refine blk_far ?_ NB132_144.out _; (with_reducible repeat (first | refine blk_drewN ?_ _ | refine blk_drew ?_ | refine blk_alloc ?_ _)); refine blk_far ?_ NB132_144.out _; (with_reducible repeat (first | refine blk_drewN ?_ _ | refine blk_drew ?_ | refine blk_alloc ?_ _)); refine blk_far ?_ NB132_144.out _; (with_reducible repeat (first | refine blk_drewN ?_ _ | refine blk_drew ?_ | refine blk_alloc ?_ _)); refine blk_far ?_ NB132_144.out _; (with_reducible repeat (first | refine blk_drewN ?_ _ | refine blk_drew ?_ | refine blk_alloc ?_ _)); exact BK132.out) hb); have n5_ := Aside0.mk (blk_below (g := gb144) (o := .cells #[.int .i64 t133, .int .i64 t134, .slice Ao14 t135.length co14, .slice Ao15 t138.length co15, .int .i64 t141, .bool t142] 28 (0, 0)) (by (with_reducible repeat (first | refine blk_drewN ?_ _ | refine blk_drew ?_ | refine blk_alloc ?_ _)); refine blk_put (cs := #[.int .i64 t133, .int .i64 t134, .slice Ao14 t135.length co14, .slice Ao15 t138.length co15, .int .i64 t141, .bool false]) ?_ 5 _ rfl; (with_reducible repeat (first | refine blk_drewN ?_ _ | refine blk_drew ?_ | refine blk_alloc ?_ _)); refine blk_put (cs := #[.int .i64 t133, .int .i64 t134, .slice Ao14 t135.length co14, .slice Ao15 t138.length co15, .int .i64 0, .bool false]) ?_ 4 _ rfl; (with_reducible repeat (first | refine blk_drewN ?_ _ | refine blk_drew ?_ | refine blk_alloc ?_ _)); refine blk_put (cs := #[.int .i64 t133, .int .i64 t134, .slice Ao14 t135.length co14, .slice none 0 0, .int .i64 0, .bool false]) ?_ 3 _ rfl; (with_reducible repeat (first | refine blk_drewN ?_ _ | refine blk_drew ?_ | refine blk_alloc ?_ _)); refine blk_put (cs := #[.int .i64 t133, .int .i64 t134, .slice none 0 0, .slice none 0 0, .int .i64 0, .bool false]) ?_ 2 _ rfl; (with_reducible repeat (first | refine blk_drewN ?_ _ | refine blk_drew ?_ | refine blk_alloc ?_ _)); refine blk_put (cs := #[.int .i64 t133, .int .i64 0, .slice none 0 0, .slice none 0 0, .int .i64 0, .bool false]) ?_ 1 _ rfl; (with_reducible repeat (first | refine blk_drewN ?_ _ | refine blk_drew ?_ | refine blk_alloc ?_ _)); refine blk_put (cs := #[.int .i64 0, .int .i64 0, .slice none 0 0, .slice none 0 0, .int .i64 0, .bool false]) ?_ 0 _ rfl; (with_reducible repeat (first | refine blk_drewN ?_ _ | refine blk_drew ?_ | refine blk_alloc ?_ _)); exact BK144.out) hb); have n6_ := Aside0.mk (below_step (by repeat (first | (with_reducible first | exact HB.out | apply below_alloc | apply pw_below_drewN | apply below_drew1 | refine below_set ?_ GE132.out | refine below_set ?_ GE144.out) | exact HB.out)) hb); clear HO125; clear HO128; clear HO137; clear HO140; clear BK132; clear BK144; clear HB; have HO125 := n0_; have HO128 := n1_; have HO137 := n2_; have HO140 := n3_; have BK132 := n4_; have BK144 := n5_; have HB := n6_; clear n0_ n1_ n2_ n3_ n4_ n5_ n6_; (try clear hb); (try clear hb2); (try clear hk); (try clear hi)))
      go_meet
      case rel => exact ⟨_, ((t143 != t131)), (by first | rfl | (simp; done) | (simp [*]; done)), H', ⟨by first | omega | exact Nat.le_refl _⟩, ⟨by (with_reducible repeat (first | apply Kd.R_alloc | apply Kd.R_drewN | apply Kd.R_drew)); exact Kd.R_mono HO125.out (fun _ hk => ⟨hk.1.1, ⟨hk.1.2, hk.2⟩⟩)⟩, ⟨by (with_reducible repeat (first | apply Kd.R_alloc | apply Kd.R_drewN | apply Kd.R_drew)); exact Kd.R_mono HO128.out (fun _ hk => ⟨hk.1.1, ⟨hk.1.2, hk.2⟩⟩)⟩, ⟨by (with_reducible repeat (first | apply Kd.R_alloc | apply Kd.R_drewN | apply Kd.R_drew)); exact Kd.R_mono HO137.out (fun _ hk => ⟨hk.1.2, ⟨hk.2, hk.1.1⟩⟩)⟩, ⟨by (with_reducible repeat (first | apply Kd.R_alloc | apply Kd.R_drewN | apply Kd.R_drew)); exact Kd.R_mono HO140.out (fun _ hk => ⟨hk.1.2, ⟨hk.2, hk.1.1⟩⟩)⟩, ⟨by (with_reducible repeat (first | refine blk_drewN ?_ _ | refine blk_drew ?_ | refine blk_alloc ?_ _)); exact BK132.out⟩, ⟨by (with_reducible repeat (first | refine blk_drewN ?_ _ | refine blk_drew ?_ | refine blk_alloc ?_ _)); exact BK144.out⟩, ⟨by repeat (first | (with_reducible first | exact HB.out | apply below_alloc | apply pw_below_drewN | apply below_drew1 | refine below_set ?_ GE132.out | refine below_set ?_ GE144.out) | exact HB.out)⟩⟩
    · replace c17 := Bool.eq_false_iff.mpr c17
      subst c17
      have H1 : (laws_FnExactNewLine.j0 k a0 t131 true t121 t122 t123 t126 t129 t130 t133 t134 t135 t138 t141 t142) = some r := by rw [if_neg (show ¬ (false = true) by decide)] at H; exact H
      clear H
      have H := H1
      clear H1
      have H' := Aside0.mk H
      clear H
      have hnb22 := NB144_132.out
      have hnc22 := NB132_144.out
      have hcz23_0 : w11.cell? ⟨gb144, 0, none⟩ = some (.int .i64 0) := (blk_cell BK144.out 0).trans rfl
      have hcz23_1 : w11.cell? ⟨gb144, 1, none⟩ = some (.int .i64 0) := (blk_cell BK144.out 1).trans rfl
      have hcz23_2 : w11.cell? ⟨gb144, 2, none⟩ = some (.slice none 0 0) := (blk_cell BK144.out 2).trans rfl
      have hcz23_3 : w11.cell? ⟨gb144, 3, none⟩ = some (.slice none 0 0) := (blk_cell BK144.out 3).trans rfl
      have hcz23_4 : w11.cell? ⟨gb144, 4, none⟩ = some (.int .i64 0) := (blk_cell BK144.out 4).trans rfl
      have hcz23_5 : w11.cell? ⟨gb144, 5, none⟩ = some (.bool false) := (blk_cell BK144.out 5).trans rfl
      have hfz23_0 := blk_frozen BK144.out 0
      have hfz23_1 := blk_frozen BK144.out 1
      have hfz23_2 := blk_frozen BK144.out 2
      have hfz23_3 := blk_frozen BK144.out 3
      have hfz23_4 := blk_frozen BK144.out 4
      have hfz23_5 := blk_frozen BK144.out 5
      have hcz24_0 : w11.cell? ⟨gb132, 0, none⟩ = some (.int .i64 t121) := (blk_cell BK132.out 0).trans rfl
      have hcz24_1 : w11.cell? ⟨gb132, 1, none⟩ = some (.int .i64 t122) := (blk_cell BK132.out 1).trans rfl
      have hcz24_2 : w11.cell? ⟨gb132, 2, none⟩ = some (.slice Ao8 t123.length co8) := (blk_cell BK132.out 2).trans rfl
      have hcz24_3 : w11.cell? ⟨gb132, 3, none⟩ = some (.slice Ao9 t126.length co9) := (blk_cell BK132.out 3).trans rfl
      have hcz24_4 : w11.cell? ⟨gb132, 4, none⟩ = some (.int .i64 t129) := (blk_cell BK132.out 4).trans rfl
      have hcz24_5 : w11.cell? ⟨gb132, 5, none⟩ = some (.bool t130) := (blk_cell BK132.out 5).trans rfl
      have hfz24_0 := blk_frozen BK132.out 0
      have hfz24_1 := blk_frozen BK132.out 1
      have hfz24_2 := blk_frozen BK132.out 2
      have hfz24_3 := blk_frozen BK132.out 3
      have hfz24_4 := blk_frozen BK132.out 4
      have hfz24_5 := blk_frozen BK132.out 5
      go_wp2_with (first | ((with_reducible refine gate_callee (f := 19) rfl ?_); refine goesL_ (some 23) rfl rfl Try.func19 (by kernel_rfl) rfl #[.agg #[.int .i64 t133, .int .i64 t134, .slice Ao14 t135.length co14, .slice Ao15 t138.length co15, .int .i64 t141, .bool t142], .agg #[.int .i64 t121, .int .i64 t122, .slice Ao8 t123.length co8, .slice Ao9 t126.length co9, .int .i64 t129, .bool t130]] rfl (by (try simp only [List.map_toArray, List.map_cons, List.map_nil]); first | done | rfl | (simp only [List.length_drop, List.length_take]; rfl)) ?_; (with_reducible refine (laws_eqLine.calls k t133 t134 _ _ t135 _ _ t138 t141 t142 t121 t122 _ _ t123 _ _ t126 t129 t130 false _ ?side1 ?side2 ?side3 ?side4 ?side5 ?side6 ?side7 ?side8 A16.out).mono ?_); (case side1 => refine (Kd.R_reads' (e := 3) (base := w.heap.size) (ok := fun k_ => ((some k_ ≠ (.slice Ao15 t138.length co15 : Value).ownBlock ∧ some k_ ≠ (.slice Ao8 t123.length co8 : Value).ownBlock) ∧ some k_ ≠ (.slice Ao9 t126.length co9 : Value).ownBlock)) (n := t135.length) (c := co14) ?_).2.2; exact (by (with_reducible repeat (first | apply Kd.R_alloc | apply Kd.R_drewN | apply Kd.R_drew)); exact (Kd.R_mono (Kd.R_far (p := ⟨gb144, 5, none⟩) (Kd.R_far (p := ⟨gb144, 4, none⟩) (Kd.R_far (p := ⟨gb144, 3, none⟩) (Kd.R_far (p := ⟨gb144, 2, none⟩) (Kd.R_far (p := ⟨gb144, 1, none⟩) (Kd.R_far (p := ⟨gb144, 0, none⟩) (Kd.R_types HO137.out BK144.out (by decide)) (fun _ hk => hk.2) (.int .i64 t133)) (fun _ hk => hk.2) (.int .i64 t134)) (fun _ hk => hk.2) (.slice Ao14 t135.length co14)) (fun _ hk => hk.2) (.slice Ao15 t138.length co15)) (fun _ hk => hk.2) (.int .i64 t141)) (fun _ hk => hk.2) (.bool t142)) (fun _ h_ => h_.1)))); (case side2 => exact (Kd.R_reads' HO137.out).2.1); (case side3 => refine (Kd.R_reads' (e := 3) (base := w.heap.size) (ok := fun k_ => ((some k_ ≠ (.slice Ao14 t135.length co14 : Value).ownBlock ∧ some k_ ≠ (.slice Ao8 t123.length co8 : Value).ownBlock) ∧ some k_ ≠ (.slice Ao9 t126.length co9 : Value).ownBlock)) (n := t138.length) (c := co15) ?_).2.2; exact (by (with_reducible repeat (first | apply Kd.R_alloc | apply Kd.R_drewN | apply Kd.R_drew)); exact (Kd.R_mono (Kd.R_far (p := ⟨gb144, 5, none⟩) (Kd.R_far (p := ⟨gb144, 4, none⟩) (Kd.R_far (p := ⟨gb144, 3, none⟩) (Kd.R_far (p := ⟨gb144, 2, none⟩) (Kd.R_far (p := ⟨gb144, 1, none⟩) (Kd.R_far (p := ⟨gb144, 0, none⟩) (Kd.R_types HO140.out BK144.out (by decide)) (fun _ hk => hk.2) (.int .i64 t133)) (fun _ hk => hk.2) (.int .i64 t134)) (fun _ hk => hk.2) (.slice Ao14 t135.length co14)) (fun _ hk => hk.2) (.slice Ao15 t138.length co15)) (fun _ hk => hk.2) (.int .i64 t141)) (fun _ hk => hk.2) (.bool t142)) (fun _ h_ => h_.1)))); (case side4 => exact (Kd.R_reads' HO140.out).2.1); (case side5 => refine (Kd.R_reads' (e := 3) (base := w.heap.size) (ok := fun k_ => ((some k_ ≠ (.slice Ao9 t126.length co9 : Value).ownBlock ∧ some k_ ≠ (.slice Ao14 t135.length co14 : Value).ownBlock) ∧ some k_ ≠ (.slice Ao15 t138.length co15 : Value).ownBlock)) (n := t123.length) (c := co8) ?_).2.2; exact (by (with_reducible repeat (first | apply Kd.R_alloc | apply Kd.R_drewN | apply Kd.R_drew)); exact (Kd.R_mono (Kd.R_far (p := ⟨gb144, 5, none⟩) (Kd.R_far (p := ⟨gb144, 4, none⟩) (Kd.R_far (p := ⟨gb144, 3, none⟩) (Kd.R_far (p := ⟨gb144, 2, none⟩) (Kd.R_far (p := ⟨gb144, 1, none⟩) (Kd.R_far (p := ⟨gb144, 0, none⟩) (Kd.R_types HO125.out BK144.out (by decide)) (fun _ hk => hk.2) (.int .i64 t133)) (fun _ hk => hk.2) (.int .i64 t134)) (fun _ hk => hk.2) (.slice Ao14 t135.length co14)) (fun _ hk => hk.2) (.slice Ao15 t138.length co15)) (fun _ hk => hk.2) (.int .i64 t141)) (fun _ hk => hk.2) (.bool t142)) (fun _ h_ => h_.1)))); (case side6 => exact (Kd.R_reads' HO125.out).2.1); (case side7 => refine (Kd.R_reads' (e := 3) (base := w.heap.size) (ok := fun k_ => ((some k_ ≠ (.slice Ao8 t123.length co8 : Value).ownBlock ∧ some k_ ≠ (.slice Ao14 t135.length co14 : Value).ownBlock) ∧ some k_ ≠ (.slice Ao15 t138.length co15 : Value).ownBlock)) (n := t126.length) (c := co9) ?_).2.2; exact (by (with_reducible repeat (first | apply Kd.R_alloc | apply Kd.R_drewN | apply Kd.R_drew)); exact (Kd.R_mono (Kd.R_far (p := ⟨gb144, 5, none⟩) (Kd.R_far (p := ⟨gb144, 4, none⟩) (Kd.R_far (p := ⟨gb144, 3, none⟩) (Kd.R_far (p := ⟨gb144, 2, none⟩) (Kd.R_far (p := ⟨gb144, 1, none⟩) (Kd.R_far (p := ⟨gb144, 0, none⟩) (Kd.R_types HO128.out BK144.out (by decide)) (fun _ hk => hk.2) (.int .i64 t133)) (fun _ hk => hk.2) (.int .i64 t134)) (fun _ hk => hk.2) (.slice Ao14 t135.length co14)) (fun _ hk => hk.2) (.slice Ao15 t138.length co15)) (fun _ hk => hk.2) (.int .i64 t141)) (fun _ hk => hk.2) (.bool t142)) (fun _ h_ => h_.1)))); (case side8 => exact (Kd.R_reads' HO128.out).2.1); rintro e w25 ⟨rfl, hb⟩; refine ⟨_, rfl, ?_⟩; have n0_ := Aside0.mk (Kd.R_below (by (with_reducible repeat (first | apply Kd.R_alloc | apply Kd.R_drewN | apply Kd.R_drew)); exact (Kd.R_mono (Kd.R_far (p := ⟨gb144, 5, none⟩) (Kd.R_far (p := ⟨gb144, 4, none⟩) (Kd.R_far (p := ⟨gb144, 3, none⟩) (Kd.R_far (p := ⟨gb144, 2, none⟩) (Kd.R_far (p := ⟨gb144, 1, none⟩) (Kd.R_far (p := ⟨gb144, 0, none⟩) (Kd.R_types HO125.out BK144.out (by decide)) (fun _ hk => hk.2) (.int .i64 t133)) (fun _ hk => hk.2) (.int .i64 t134)) (fun _ hk => hk.2) (.slice Ao14 t135.length co14)) (fun _ hk => hk.2) (.slice Ao15 t138.length co15)) (fun _ hk => hk.2) (.int .i64 t141)) (fun _ hk => hk.2) (.bool t142)) (fun _ h_ => h_.1))) hb); have n1_ := Aside0.mk (Kd.R_below (by (with_reducible repeat (first | apply Kd.R_alloc | apply Kd.R_drewN | apply Kd.R_drew)); exact (Kd.R_mono (Kd.R_far (p := ⟨gb144, 5, none⟩) (Kd.R_far (p := ⟨gb144, 4, none⟩) (Kd.R_far (p := ⟨gb144, 3, none⟩) (Kd.R_far (p := ⟨gb144, 2, none⟩) (Kd.R_far (p := ⟨gb144, 1, none⟩) (Kd.R_far (p := ⟨gb144, 0, none⟩) (Kd.R_types HO128.out BK144.out (by decide)) (fun _ hk => hk.2) (.int .i64 t133)) (fun _ hk => hk.2) (.int .i64 t134)) (fun _ hk => hk.2) (.slice Ao14 t135.length co14)) (fun _ hk => hk.2) (.slice Ao15 t138.length co15)) (fun _ hk => hk.2) (.int .i64 t141)) (fun _ hk => hk.2) (.bool t142)) (fun _ h_ => h_.1))) hb); have n2_ := Aside0.mk (Kd.R_below (by (with_reducible repeat (first | apply Kd.R_alloc | apply Kd.R_drewN | apply Kd.R_drew)); exact (Kd.R_mono (Kd.R_far (p := ⟨gb144, 5, none⟩) (Kd.R_far (p := ⟨gb144, 4, none⟩) (Kd.R_far (p := ⟨gb144, 3, none⟩) (Kd.R_far (p := ⟨gb144, 2, none⟩) (Kd.R_far (p := ⟨gb144, 1, none⟩) (Kd.R_far (p := ⟨gb144, 0, none⟩) (Kd.R_types HO137.out BK144.out (by decide)) (fun _ hk => hk.2) (.int .i64 t133)) (fun _ hk => hk.2) (.int .i64 t134)) (fun _ hk => hk.2) (.slice Ao14 t135.length co14)) (fun _ hk => hk.2) (.slice Ao15 t138.length co15)) (fun _ hk => hk.2) (.int .i64 t141)) (fun _ hk => hk.2) (.bool t142)) (fun _ h_ => h_.1))) hb); have n3_ := Aside0.mk (Kd.R_below (by (with_reducible repeat (first | apply Kd.R_alloc | apply Kd.R_drewN | apply Kd.R_drew)); exact (Kd.R_mono (Kd.R_far (p := ⟨gb144, 5, none⟩) (Kd.R_far (p := ⟨gb144, 4, none⟩) (Kd.R_far (p := ⟨gb144, 3, none⟩) (Kd.R_far (p := ⟨gb144, 2, none⟩) (Kd.R_far (p := ⟨gb144, 1, none⟩) (Kd.R_far (p := ⟨gb144, 0, none⟩) (Kd.R_types HO140.out BK144.out (by decide)) (fun _ hk => hk.2) (.int .i64 t133)) (fun _ hk => hk.2) (.int .i64 t134)) (fun _ hk => hk.2) (.slice Ao14 t135.length co14)) (fun _ hk => hk.2) (.slice Ao15 t138.length co15)) (fun _ hk => hk.2) (.int .i64 t141)) (fun _ hk => hk.2) (.bool t142)) (fun _ h_ => h_.1))) hb); have n4_ := Aside0.mk (blk_below (g := gb132) (o := .cells #[.int .i64 t121, .int .i64 t122, .slice Ao8 t123.length co8, .slice Ao9 t126.length co9, .int .i64 t129, .bool t130] 28 (0, 0)) (by (with_reducible repeat (first | refine blk_drewN ?_ _ | refine blk_drew ?_ | refine blk_alloc ?_ _)); refine blk_far ?_ NB132_144.out _; (with_reducible repeat (first | refine blk_drewN ?_ _ | refine blk_drew ?_ | refine blk_alloc ?_ _)); refine blk_far ?_ NB132_144.out _; (with_reducible repeat (first | refine blk_drewN ?_ _ | refine blk_drew ?_ | refine blk_alloc ?_ _)); refine blk_far ?_ NB132_144.out _; (with_reducible repeat (first | refine blk_drewN ?_ _ | refine blk_drew ?_ | refine blk_alloc ?_ _)); refine blk_far ?_ NB132_144.out _; (with_reducible repeat (first | refine blk_drewN ?_ _ | refine blk_drew ?_ | refine blk_alloc ?_ _)); refine blk_far ?_ NB132_144.out _; (with_reducible repeat (first | refine blk_drewN ?_ _ | refine blk_drew ?_ | refine blk_alloc ?_ _)); refine blk_far ?_ NB132_144.out _; (with_reducible repeat (first | refine blk_drewN ?_ _ | refine blk_drew ?_ | refine blk_alloc ?_ _)); exact BK132.out) hb); have n5_ := Aside0.mk (blk_below (g := gb144) (o := .cells #[.int .i64 t133, .int .i64 t134, .slice Ao14 t135.length co14, .slice Ao15 t138.length co15, .int .i64 t141, .bool t142] 28 (0, 0)) (by (with_reducible repeat (first | refine blk_drewN ?_ _ | refine blk_drew ?_ | refine blk_alloc ?_ _)); refine blk_put (cs := #[.int .i64 t133, .int .i64 t134, .slice Ao14 t135.length co14, .slice Ao15 t138.length co15, .int .i64 t141, .bool false]) ?_ 5 _ rfl; (with_reducible repeat (first | refine blk_drewN ?_ _ | refine blk_drew ?_ | refine blk_alloc ?_ _)); refine blk_put (cs := #[.int .i64 t133, .int .i64 t134, .slice Ao14 t135.length co14, .slice Ao15 t138.length co15, .int .i64 0, .bool false]) ?_ 4 _ rfl; (with_reducible repeat (first | refine blk_drewN ?_ _ | refine blk_drew ?_ | refine blk_alloc ?_ _)); refine blk_put (cs := #[.int .i64 t133, .int .i64 t134, .slice Ao14 t135.length co14, .slice none 0 0, .int .i64 0, .bool false]) ?_ 3 _ rfl; (with_reducible repeat (first | refine blk_drewN ?_ _ | refine blk_drew ?_ | refine blk_alloc ?_ _)); refine blk_put (cs := #[.int .i64 t133, .int .i64 t134, .slice none 0 0, .slice none 0 0, .int .i64 0, .bool false]) ?_ 2 _ rfl; (with_reducible repeat (first | refine blk_drewN ?_ _ | refine blk_drew ?_ | refine blk_alloc ?_ _)); refine blk_put (cs := #[.int .i64 t133, .int .i64 0, .slice none 0 0, .slice none 0 0, .int .i64 0, .bool false]) ?_ 1 _ rfl; (with_reducible repeat (first | refine blk_drewN ?_ _ | refine blk_drew ?_ | refine blk_alloc ?_ _)); refine blk_put (cs := #[.int .i64 0, .int .i64 0, .slice none 0 0, .slice none 0 0, .int .i64 0, .bool false]) ?_ 0 _ rfl; (with_reducible repeat (first | refine blk_drewN ?_ _ | refine blk_drew ?_ | refine blk_alloc ?_ _)); exact BK144.out) hb); have n6_ := Aside0.mk (below_step (by repeat (first | (with_reducible first | exact HB.out | apply below_alloc | apply pw_below_drewN | apply below_drew1 | refine below_set ?_ GE132.out | refine below_set ?_ GE144.out) | exact HB.out)) hb); clear HO125; clear HO128; clear HO137; clear HO140; clear BK132; clear BK144; clear HB; have HO125 := n0_; have HO128 := n1_; have HO137 := n2_; have HO140 := n3_; have BK132 := n4_; have BK144 := n5_; have HB := n6_; clear n0_ n1_ n2_ n3_ n4_ n5_ n6_; (try clear hb); (try clear hb2); (try clear hk); (try clear hi)))
      go_meet
      case rel => exact ⟨_, (true), (by first | rfl | (simp; done) | (simp [*]; done)), H', ⟨by first | omega | exact Nat.le_refl _⟩, ⟨by (with_reducible repeat (first | apply Kd.R_alloc | apply Kd.R_drewN | apply Kd.R_drew)); exact Kd.R_mono HO125.out (fun _ hk => ⟨hk.1.1, ⟨hk.1.2, hk.2⟩⟩)⟩, ⟨by (with_reducible repeat (first | apply Kd.R_alloc | apply Kd.R_drewN | apply Kd.R_drew)); exact Kd.R_mono HO128.out (fun _ hk => ⟨hk.1.1, ⟨hk.1.2, hk.2⟩⟩)⟩, ⟨by (with_reducible repeat (first | apply Kd.R_alloc | apply Kd.R_drewN | apply Kd.R_drew)); exact Kd.R_mono HO137.out (fun _ hk => ⟨hk.1.2, ⟨hk.2, hk.1.1⟩⟩)⟩, ⟨by (with_reducible repeat (first | apply Kd.R_alloc | apply Kd.R_drewN | apply Kd.R_drew)); exact Kd.R_mono HO140.out (fun _ hk => ⟨hk.1.2, ⟨hk.2, hk.1.1⟩⟩)⟩, ⟨by (with_reducible repeat (first | refine blk_drewN ?_ _ | refine blk_drew ?_ | refine blk_alloc ?_ _)); exact BK132.out⟩, ⟨by (with_reducible repeat (first | refine blk_drewN ?_ _ | refine blk_drew ?_ | refine blk_alloc ?_ _)); exact BK144.out⟩, ⟨by repeat (first | (with_reducible first | exact HB.out | apply below_alloc | apply pw_below_drewN | apply below_drew1 | refine below_set ?_ GE132.out | refine below_set ?_ GE144.out) | exact HB.out)⟩⟩
  case rest =>
    clear HC4
    try clear c1
    try clear c2
    try clear p2
    try clear c4
    try clear c12
    try clear c13
    try clear c17
    try clear c18
    try clear c19
    try clear c22
    try clear hcz13_0
    try clear hcz13_1
    try clear hcz13_2
    try clear hcz13_3
    try clear hcz13_4
    try clear hcz13_5
    try clear hcz19_0
    try clear hcz19_1
    try clear hcz19_2
    try clear hcz19_3
    try clear hcz19_4
    try clear hcz19_5
    try clear hcz20_0
    try clear hcz20_1
    try clear hcz20_2
    try clear hcz20_3
    try clear hcz20_4
    try clear hcz20_5
    try clear hcz23_0
    try clear hcz23_1
    try clear hcz23_2
    try clear hcz23_3
    try clear hcz23_4
    try clear hcz23_5
    try clear hcz24_0
    try clear hcz24_1
    try clear hcz24_2
    try clear hcz24_3
    try clear hcz24_4
    try clear hcz24_5
    try clear hcz7_0
    try clear hcz7_1
    try clear hcz7_2
    try clear hcz7_3
    try clear hcz7_4
    try clear hcz7_5
    try clear hfz13_0
    try clear hfz13_1
    try clear hfz13_2
    try clear hfz13_3
    try clear hfz13_4
    try clear hfz13_5
    try clear hfz19_0
    try clear hfz19_1
    try clear hfz19_2
    try clear hfz19_3
    try clear hfz19_4
    try clear hfz19_5
    try clear hfz20_0
    try clear hfz20_1
    try clear hfz20_2
    try clear hfz20_3
    try clear hfz20_4
    try clear hfz20_5
    try clear hfz23_0
    try clear hfz23_1
    try clear hfz23_2
    try clear hfz23_3
    try clear hfz23_4
    try clear hfz23_5
    try clear hfz24_0
    try clear hfz24_1
    try clear hfz24_2
    try clear hfz24_3
    try clear hfz24_4
    try clear hfz24_5
    try clear hfz7_0
    try clear hfz7_1
    try clear hfz7_2
    try clear hfz7_3
    try clear hfz7_4
    try clear hfz7_5
    obtain ⟨kq, x29_3, rfl, HA, HJ3, HO_133002, HO_133003, HO_145002, HO_145003, BK132, BK144, HB⟩ := hcut
    cases kq with
    | zero => exact absurd HA.out (by simp [laws_FnExactNewLine.j0])
    | succ kj3 =>
      have H := HA.out
      clear HA
      simp only [laws_FnExactNewLine.j0] at H
      by_cases c26 : x29_3 = true
      · subst c26
        have H1 : (some false) = some r := by rw [if_pos rfl] at H; exact H
        clear H
        have H := H1
        clear H1
        exact absurd (hT.out ▸ H) (by simp)
      · replace c26 := Bool.eq_false_iff.mpr c26
        subst c26
        have H1 : ((laws_markLine.f kj3 t133 t134 t135 t138 t141 t142 1).bind fun bt146 => ((laws_heldLine.f kj3 t133 t134 bt146.2.1 bt146.2.2 t141 t142 1).bind fun t149 => (if t149 < 0 then (some false) else (if t149 = bt146.1 then ((impl_NewLine.f a0).bind fun bt150 => ((laws_eqLine.f kj3 bt150.1 bt150.2.1 bt150.2.2.1 bt150.2.2.2.1 bt150.2.2.2.2.1 bt150.2.2.2.2.2.1 t121 t122 t123 t126 t129 t130).bind fun t162 => (if t162 = true then (laws_FnExactNewLine.j1 kj3 bt146.1 (bt150.2.2.2.2.2.2 != t131) t133 t134 bt146.2.1 bt146.2.2 t141 t142) else (laws_FnExactNewLine.j1 kj3 bt146.1 true t133 t134 bt146.2.1 bt146.2.2 t141 t142)))) else (some false))))) = some r := by rw [if_neg (show ¬ (false = true) by decide)] at H; exact H
        clear H
        have H := H1
        clear H1
        replace H := Option.bind_eq_some_iff.mp H
        obtain ⟨⟨t146, t147, t148⟩, A270, H⟩ := H
        replace H : ((laws_heldLine.f kj3 t133 t134 t147 t148 t141 t142 1).bind fun t149 => (if t149 < 0 then (some false) else (if t149 = t146 then ((impl_NewLine.f a0).bind fun bt150 => ((laws_eqLine.f kj3 bt150.1 bt150.2.1 bt150.2.2.1 bt150.2.2.2.1 bt150.2.2.2.2.1 bt150.2.2.2.2.2.1 t121 t122 t123 t126 t129 t130).bind fun t162 => (if t162 = true then (laws_FnExactNewLine.j1 kj3 t146 (bt150.2.2.2.2.2.2 != t131) t133 t134 t147 t148 t141 t142) else (laws_FnExactNewLine.j1 kj3 t146 true t133 t134 t147 t148 t141 t142)))) else (some false)))) = some r := H
        have A27 := Aside0.mk A270
        clear A270
        replace H := Option.bind_eq_some_iff.mp H
        obtain ⟨t149, A280, H⟩ := H
        replace H : (if t149 < 0 then (some false) else (if t149 = t146 then ((impl_NewLine.f a0).bind fun bt150 => ((laws_eqLine.f kj3 bt150.1 bt150.2.1 bt150.2.2.1 bt150.2.2.2.1 bt150.2.2.2.2.1 bt150.2.2.2.2.2.1 t121 t122 t123 t126 t129 t130).bind fun t162 => (if t162 = true then (laws_FnExactNewLine.j1 kj3 t146 (bt150.2.2.2.2.2.2 != t131) t133 t134 t147 t148 t141 t142) else (laws_FnExactNewLine.j1 kj3 t146 true t133 t134 t147 t148 t141 t142)))) else (some false))) = some r := H
        have A28 := Aside0.mk A280
        clear A280
        by_cases c29 : t149 < 0
        · rw [if_pos c29] at H
          have c29b0 : decide (t149 < 0) = true := decide_eq_true c29
          clear c29
          exact absurd (hT.out ▸ H) (by simp)
        · rw [if_neg c29] at H
          have c29b0 : decide (t149 < 0) = false := decide_eq_false c29
          clear c29
          by_cases c30 : t149 = t146
          · rw [if_pos c30] at H
            have c30b0 : (t149 == t146) = true := beq_iff_eq.mpr c30
            have c30b1 : (t149 != t146) = false := bne_eq_false_iff_eq.mpr c30
            clear c30
            replace H := Option.bind_eq_some_iff.mp H
            obtain ⟨⟨t150, t151, t152, t155, t158, t159, t160⟩, A310, H⟩ := H
            replace H : ((laws_eqLine.f kj3 t150 t151 t152 t155 t158 t159 t121 t122 t123 t126 t129 t130).bind fun t162 => (if t162 = true then (laws_FnExactNewLine.j1 kj3 t146 (t160 != t131) t133 t134 t147 t148 t141 t142) else (laws_FnExactNewLine.j1 kj3 t146 true t133 t134 t147 t148 t141 t142))) = some r := H
            have A31 := Aside0.mk A310
            clear A310
            have HC32 := Aside0.mk H
            clear H
            have hnb33 := NB144_132.out
            have hnc33 := NB132_144.out
            have hcz34_0 : wc.cell? ⟨gb144, 0, none⟩ = some (.int .i64 t133) := (blk_cell BK144.out 0).trans rfl
            have hcz34_1 : wc.cell? ⟨gb144, 1, none⟩ = some (.int .i64 t134) := (blk_cell BK144.out 1).trans rfl
            have hcz34_2 : wc.cell? ⟨gb144, 2, none⟩ = some (.slice Ao14 t135.length co14) := (blk_cell BK144.out 2).trans rfl
            have hcz34_3 : wc.cell? ⟨gb144, 3, none⟩ = some (.slice Ao15 t138.length co15) := (blk_cell BK144.out 3).trans rfl
            have hcz34_4 : wc.cell? ⟨gb144, 4, none⟩ = some (.int .i64 t141) := (blk_cell BK144.out 4).trans rfl
            have hcz34_5 : wc.cell? ⟨gb144, 5, none⟩ = some (.bool t142) := (blk_cell BK144.out 5).trans rfl
            have hfz34_0 := blk_frozen BK144.out 0
            have hfz34_1 := blk_frozen BK144.out 1
            have hfz34_2 := blk_frozen BK144.out 2
            have hfz34_3 := blk_frozen BK144.out 3
            have hfz34_4 := blk_frozen BK144.out 4
            have hfz34_5 := blk_frozen BK144.out 5
            go_upto_region 14 with (first | ((with_reducible refine gate_callee (f := 20) rfl ?_); refine goesL_ (some 32) rfl rfl Try.func20 (by kernel_rfl) rfl #[.agg #[.int .i64 t133, .int .i64 t134, .slice Ao14 t135.length co14, .slice Ao15 t138.length co15, .int .i64 t141, .bool t142], .int .i64 1] rfl (by (try simp only [List.map_toArray, List.map_cons, List.map_nil]); first | done | rfl | (simp only [List.length_drop, List.length_take]; rfl)) ?_; (with_reducible refine (laws_markLine.calls kj3 t133 t134 (fun k_ => some k_ = (.slice Ao14 t135.length co14 : Value).ownBlock) (.slice Ao14 t135.length co14) t135 (fun k_ => some k_ = (.slice Ao15 t138.length co15 : Value).ownBlock) (.slice Ao15 t138.length co15) t138 t141 t142 1 t146 t147 t148 w _ ?side1 ?side2 ?side3 ?side4 ?side5 A27.out).mono ?_); (case side1 => repeat (first | (with_reducible first | exact HB.out | apply below_alloc | apply pw_below_drewN | apply below_drew1 | refine below_set ?_ GE132.out | refine below_set ?_ GE144.out) | exact HB.out)); (case side2 => exact Kd.R_tight rfl HO_145002.out); (case side3 => exact fun k_ e_ => (HO_145002.out.1 k_ e_.symm).2.2); (case side4 => exact Kd.R_tight rfl HO_145003.out); (case side5 => exact fun k_ e_ => (HO_145003.out.1 k_ e_.symm).2.2); rintro e w35 ⟨rfl, hy0, hy1, hb, hkp⟩; refine ⟨_, rfl, ?_⟩; have n0_ := Aside0.mk (Kd.R_mono (ok' := fun k_ => some k_ ≠ (.slice Ao9 t126.length co9 : Value).ownBlock ∧ some k_ ≠ (.slice Ao14 t135.length co14 : Value).ownBlock ∧ some k_ ≠ (.slice Ao15 t138.length co15 : Value).ownBlock) (Kd.R_keptB (HO_133002.out) hkp (fun k_ hk_ hs_ => Or.elim hs_ (fun e_ => (hk_.2.1) e_) (fun e_ => (hk_.2.2) e_))) (fun k_ hk_ => ⟨hk_.1.1, hk_.1.2.1, hk_.1.2.2⟩)); have n1_ := Aside0.mk (Kd.R_mono (ok' := fun k_ => some k_ ≠ (.slice Ao8 t123.length co8 : Value).ownBlock ∧ some k_ ≠ (.slice Ao14 t135.length co14 : Value).ownBlock ∧ some k_ ≠ (.slice Ao15 t138.length co15 : Value).ownBlock) (Kd.R_keptB (HO_133003.out) hkp (fun k_ hk_ hs_ => Or.elim hs_ (fun e_ => (hk_.2.1) e_) (fun e_ => (hk_.2.2) e_))) (fun k_ hk_ => ⟨hk_.1.1, hk_.1.2.1, hk_.1.2.2⟩)); have n2_ := Aside0.mk (Kd.R_reok rfl hy0 (fun k_ e_ => HO_145002.out.1 k_ e_)); have n3_ := Aside0.mk (Kd.R_reok rfl hy1 (fun k_ e_ => HO_145003.out.1 k_ e_)); have n4_ := Aside0.mk (blk_kept (by (with_reducible repeat (first | refine blk_drewN ?_ _ | refine blk_drew ?_ | refine blk_alloc ?_ _)); exact BK132.out) hkp (fun hs_ => Or.elim hs_ (fun e_ => (fun e_ => (Kd.R_ne HO_145002.out BK132.out (by decide)) e_) e_) (fun e_ => (fun e_ => (Kd.R_ne HO_145003.out BK132.out (by decide)) e_) e_))); have n5_ := Aside0.mk (blk_kept (by (with_reducible repeat (first | refine blk_drewN ?_ _ | refine blk_drew ?_ | refine blk_alloc ?_ _)); exact BK144.out) hkp (fun hs_ => Or.elim hs_ (fun e_ => (fun e_ => (Kd.R_ne HO_145002.out BK144.out (by decide)) e_) e_) (fun e_ => (fun e_ => (Kd.R_ne HO_145003.out BK144.out (by decide)) e_) e_))); have n6_ := Aside0.mk (hb); clear HO_133002; clear HO_133003; clear HO_145002; clear HO_145003; clear BK132; clear BK144; clear HB; have HO_133002 := n0_; have HO_133003 := n1_; have HO_145002 := n2_; have HO_145003 := n3_; have BK132 := n4_; have BK144 := n5_; have HB := n6_; clear n0_ n1_ n2_ n3_ n4_ n5_ n6_; (try clear hb); (try clear hkp); (try clear hy0); (try clear hy1); have hcz36_0 : w35.cell? ⟨gb144, 0, none⟩ = some (.int .i64 t133) := (blk_cell BK144.out 0).trans rfl; have hcz36_1 : w35.cell? ⟨gb144, 1, none⟩ = some (.int .i64 t134) := (blk_cell BK144.out 1).trans rfl; have hcz36_2 : w35.cell? ⟨gb144, 2, none⟩ = some (.slice Ao14 t135.length co14) := (blk_cell BK144.out 2).trans rfl; have hcz36_3 : w35.cell? ⟨gb144, 3, none⟩ = some (.slice Ao15 t138.length co15) := (blk_cell BK144.out 3).trans rfl; have hcz36_4 : w35.cell? ⟨gb144, 4, none⟩ = some (.int .i64 t141) := (blk_cell BK144.out 4).trans rfl; have hcz36_5 : w35.cell? ⟨gb144, 5, none⟩ = some (.bool t142) := (blk_cell BK144.out 5).trans rfl; have hfz36_0 := blk_frozen BK144.out 0; have hfz36_1 := blk_frozen BK144.out 1; have hfz36_2 := blk_frozen BK144.out 2; have hfz36_3 := blk_frozen BK144.out 3; have hfz36_4 := blk_frozen BK144.out 4; have hfz36_5 := blk_frozen BK144.out 5) | ((with_reducible refine gate_callee (f := 21) rfl ?_); refine goesL_ (some 35) rfl rfl Try.func21 (by kernel_rfl) rfl #[.agg #[.int .i64 t133, .int .i64 t134, .slice Ao14 t147.length co14, .slice Ao15 t148.length co15, .int .i64 t141, .bool t142], .int .i64 1] rfl (by (try simp only [List.map_toArray, List.map_cons, List.map_nil]); first | done | (rw [show t147.length = t135.length from (Kd.R_reads' HO_145002.out).1.symm, show t148.length = t138.length from (Kd.R_reads' HO_145003.out).1.symm] <;> rfl) | rfl | (simp only [List.length_drop, List.length_take]; rfl)) ?_; (with_reducible refine (laws_heldLine.calls kj3 t133 t134 _ _ t147 _ _ t148 t141 t142 1 t149 _ ?side1 ?side2 ?side3 ?side4 A28.out).mono ?_); (case side1 => repeat (first | exact (Kd.R_reads' HO_145002.out).2.2 | (with_reducible refine Kd.C_alloc ?_ _) | (with_reducible refine Kd.C_drewN ?_ _) | (with_reducible refine Kd.C_drew ?_))); (case side2 => rw [show t147.length = t135.length from (Kd.R_reads' HO_145002.out).1.symm]; exact (Kd.R_reads' HO_145002.out).2.1); (case side3 => repeat (first | exact (Kd.R_reads' HO_145003.out).2.2 | (with_reducible refine Kd.C_alloc ?_ _) | (with_reducible refine Kd.C_drewN ?_ _) | (with_reducible refine Kd.C_drew ?_))); (case side4 => rw [show t148.length = t138.length from (Kd.R_reads' HO_145003.out).1.symm]; exact (Kd.R_reads' HO_145003.out).2.1); rintro e w37 ⟨rfl, hb⟩; refine ⟨_, rfl, ?_⟩; have n0_ := Aside0.mk (Kd.R_below (by (with_reducible repeat (first | apply Kd.R_alloc | apply Kd.R_drewN | apply Kd.R_drew)); exact HO_133002.out) hb); have n1_ := Aside0.mk (Kd.R_below (by (with_reducible repeat (first | apply Kd.R_alloc | apply Kd.R_drewN | apply Kd.R_drew)); exact HO_133003.out) hb); have n2_ := Aside0.mk (Kd.R_below (by (with_reducible repeat (first | apply Kd.R_alloc | apply Kd.R_drewN | apply Kd.R_drew)); exact HO_145002.out) hb); have n3_ := Aside0.mk (Kd.R_below (by (with_reducible repeat (first | apply Kd.R_alloc | apply Kd.R_drewN | apply Kd.R_drew)); exact HO_145003.out) hb); have n4_ := Aside0.mk (blk_below (g := gb132) (o := .cells #[.int .i64 t121, .int .i64 t122, .slice Ao8 t123.length co8, .slice Ao9 t126.length co9, .int .i64 t129, .bool t130] 28 (0, 0)) (by (with_reducible repeat (first | refine blk_drewN ?_ _ | refine blk_drew ?_ | refine blk_alloc ?_ _)); exact BK132.out) hb); have n5_ := Aside0.mk (blk_below (g := gb144) (o := .cells #[.int .i64 t133, .int .i64 t134, .slice Ao14 t135.length co14, .slice Ao15 t138.length co15, .int .i64 t141, .bool t142] 28 (0, 0)) (by (with_reducible repeat (first | refine blk_drewN ?_ _ | refine blk_drew ?_ | refine blk_alloc ?_ _)); exact BK144.out) hb); have n6_ := Aside0.mk (below_step (by repeat (first | (with_reducible first | exact HB.out | apply below_alloc | apply pw_below_drewN | apply below_drew1 | refine below_set ?_ GE132.out | refine below_set ?_ GE144.out) | exact HB.out)) hb); clear HO_133002; clear HO_133003; clear HO_145002; clear HO_145003; clear BK132; clear BK144; clear HB; have HO_133002 := n0_; have HO_133003 := n1_; have HO_145002 := n2_; have HO_145003 := n3_; have BK132 := n4_; have BK144 := n5_; have HB := n6_; clear n0_ n1_ n2_ n3_ n4_ n5_ n6_; (try clear hb); (try clear hb2); (try clear hk); (try clear hi)) | ((with_reducible refine gate_callee (f := 13) rfl ?_); refine goesL_ (some 43) rfl rfl Try.func13 (by kernel_rfl) rfl #[.int .i64 a0] rfl (by (try simp only [List.map_toArray, List.map_cons, List.map_nil]); first | done | rfl | (simp only [List.length_drop, List.length_take]; rfl)) ?_; (with_reducible refine (impl_NewLine.calls a0 t150 t151 t152 t155 t158 t159 t160 _ A31.out).mono ?_); rintro e w38 ⟨v153, v156, rfl, ho0, ho1, hb⟩; refine ⟨_, rfl, ?_⟩; have n0_ := Aside0.mk (Kd.R_mono (Kd.R_told (Kd.R_told (Kd.R_old (by (with_reducible repeat (first | apply Kd.R_alloc | apply Kd.R_drewN | apply Kd.R_drew)); exact HO_133002.out) hb) (Kd.R_base ho0)) (Kd.R_base ho1)) (fun _ h_ => h_.1)); have n1_ := Aside0.mk (Kd.R_mono (Kd.R_told (Kd.R_told (Kd.R_old (by (with_reducible repeat (first | apply Kd.R_alloc | apply Kd.R_drewN | apply Kd.R_drew)); exact HO_133003.out) hb) (Kd.R_base ho0)) (Kd.R_base ho1)) (fun _ h_ => h_.1)); have n2_ := Aside0.mk (Kd.R_mono (Kd.R_told (Kd.R_told (Kd.R_old (by (with_reducible repeat (first | apply Kd.R_alloc | apply Kd.R_drewN | apply Kd.R_drew)); exact HO_145002.out) hb) (Kd.R_base ho0)) (Kd.R_base ho1)) (fun _ h_ => h_.1)); have n3_ := Aside0.mk (Kd.R_mono (Kd.R_told (Kd.R_told (Kd.R_old (by (with_reducible repeat (first | apply Kd.R_alloc | apply Kd.R_drewN | apply Kd.R_drew)); exact HO_145003.out) hb) (Kd.R_base ho0)) (Kd.R_base ho1)) (fun _ h_ => h_.1)); have n4_ := Aside0.mk (Kd.R_lower (Kd.R_new' (Kd.R_new' (Kd.R_new' (Kd.R_new' ho0 (Kd.R_lt (by (with_reducible repeat (first | apply Kd.R_alloc | apply Kd.R_drewN | apply Kd.R_drew)); exact HO_133002.out))) (Kd.R_lt (by (with_reducible repeat (first | apply Kd.R_alloc | apply Kd.R_drewN | apply Kd.R_drew)); exact HO_133003.out))) (Kd.R_lt (by (with_reducible repeat (first | apply Kd.R_alloc | apply Kd.R_drewN | apply Kd.R_drew)); exact HO_145002.out))) (Kd.R_lt (by (with_reducible repeat (first | apply Kd.R_alloc | apply Kd.R_drewN | apply Kd.R_drew)); exact HO_145003.out))) (below_size (by repeat (first | (with_reducible first | exact HB.out | apply below_alloc | apply pw_below_drewN | apply below_drew1 | refine below_set ?_ GE132.out | refine below_set ?_ GE144.out) | exact HB.out)))); have n5_ := Aside0.mk (Kd.R_lower (Kd.R_new' (Kd.R_new' (Kd.R_new' (Kd.R_new' ho1 (Kd.R_lt (by (with_reducible repeat (first | apply Kd.R_alloc | apply Kd.R_drewN | apply Kd.R_drew)); exact HO_133002.out))) (Kd.R_lt (by (with_reducible repeat (first | apply Kd.R_alloc | apply Kd.R_drewN | apply Kd.R_drew)); exact HO_133003.out))) (Kd.R_lt (by (with_reducible repeat (first | apply Kd.R_alloc | apply Kd.R_drewN | apply Kd.R_drew)); exact HO_145002.out))) (Kd.R_lt (by (with_reducible repeat (first | apply Kd.R_alloc | apply Kd.R_drewN | apply Kd.R_drew)); exact HO_145003.out))) (below_size (by repeat (first | (with_reducible first | exact HB.out | apply below_alloc | apply pw_below_drewN | apply below_drew1 | refine below_set ?_ GE132.out | refine below_set ?_ GE144.out) | exact HB.out)))); have n6_ := Aside0.mk (blk_below (g := gb132) (o := .cells #[.int .i64 t121, .int .i64 t122, .slice Ao8 t123.length co8, .slice Ao9 t126.length co9, .int .i64 t129, .bool t130] 28 (0, 0)) (by (with_reducible repeat (first | refine blk_drewN ?_ _ | refine blk_drew ?_ | refine blk_alloc ?_ _)); exact BK132.out) hb); have n7_ := Aside0.mk (blk_below (g := gb144) (o := .cells #[.int .i64 t133, .int .i64 t134, .slice Ao14 t135.length co14, .slice Ao15 t138.length co15, .int .i64 t141, .bool t142] 28 (0, 0)) (by (with_reducible repeat (first | refine blk_drewN ?_ _ | refine blk_drew ?_ | refine blk_alloc ?_ _)); exact BK144.out) hb); have n8_ := Aside0.mk (below_step (by repeat (first | (with_reducible first | exact HB.out | apply below_alloc | apply pw_below_drewN | apply below_drew1 | refine below_set ?_ GE132.out | refine below_set ?_ GE144.out) | exact HB.out)) hb); clear HO_133002; clear HO_133003; clear HO_145002; clear HO_145003; clear BK132; clear BK144; clear HB; have HO_133002 := n0_; have HO_133003 := n1_; have HO_145002 := n2_; have HO_145003 := n3_; have HO154 := n4_; have HO157 := n5_; have BK132 := n6_; have BK144 := n7_; have HB := n8_; clear n0_ n1_ n2_ n3_ n4_ n5_ n6_ n7_ n8_; (try clear hb); (try clear hb2); (try clear hk); (try clear hi); (try clear ho0); (try clear ho1)) | ((with_reducible refine gate_dst (N := 9) rfl ?_); refine box_event ?hg (N := 9) ?hd (cs := #[.int .i64 0, .int .i64 0, .slice none 0 0, .slice none 0 0, .int .i64 0, .bool false]) (t := 28) ?hr ?_; (case hd => rfl); (case hg => rfl); (case hr => first | (go_simp; done) | (go_simp; rfl)); intro gb161 hg w39 hbox hb; have n0_ := Aside0.mk (Kd.R_below (by (with_reducible repeat (first | apply Kd.R_alloc | apply Kd.R_drewN | apply Kd.R_drew)); exact HO_133002.out) hb); have n1_ := Aside0.mk (Kd.R_below (by (with_reducible repeat (first | apply Kd.R_alloc | apply Kd.R_drewN | apply Kd.R_drew)); exact HO_133003.out) hb); have n2_ := Aside0.mk (Kd.R_below (by (with_reducible repeat (first | apply Kd.R_alloc | apply Kd.R_drewN | apply Kd.R_drew)); exact HO_145002.out) hb); have n3_ := Aside0.mk (Kd.R_below (by (with_reducible repeat (first | apply Kd.R_alloc | apply Kd.R_drewN | apply Kd.R_drew)); exact HO_145003.out) hb); have n4_ := Aside0.mk (Kd.R_below (by (with_reducible repeat (first | apply Kd.R_alloc | apply Kd.R_drewN | apply Kd.R_drew)); exact HO154.out) hb); have n5_ := Aside0.mk (Kd.R_below (by (with_reducible repeat (first | apply Kd.R_alloc | apply Kd.R_drewN | apply Kd.R_drew)); exact HO157.out) hb); have n6_ := Aside0.mk (blk_below (g := gb132) (o := .cells #[.int .i64 t121, .int .i64 t122, .slice Ao8 t123.length co8, .slice Ao9 t126.length co9, .int .i64 t129, .bool t130] 28 (0, 0)) (by (with_reducible repeat (first | refine blk_drewN ?_ _ | refine blk_drew ?_ | refine blk_alloc ?_ _)); exact BK132.out) hb); have n7_ := Aside0.mk (blk_below (g := gb144) (o := .cells #[.int .i64 t133, .int .i64 t134, .slice Ao14 t135.length co14, .slice Ao15 t138.length co15, .int .i64 t141, .bool t142] 28 (0, 0)) (by (with_reducible repeat (first | refine blk_drewN ?_ _ | refine blk_drew ?_ | refine blk_alloc ?_ _)); exact BK144.out) hb); have n8_ := Aside0.mk (below_step (by repeat (first | (with_reducible first | exact HB.out | apply below_alloc | apply pw_below_drewN | apply below_drew1 | refine below_set ?_ GE132.out | refine below_set ?_ GE144.out) | exact HB.out)) hb); have n9_ := Aside0.mk (hbox); have n10_ := Aside0.mk ((by rw [hg]; exact (below_size (by repeat (first | (with_reducible first | exact HB.out | apply below_alloc | apply pw_below_drewN | apply below_drew1 | refine below_set ?_ GE132.out | refine below_set ?_ GE144.out) | exact HB.out))) : w.heap.size ≤ gb161)); have n11_ := Aside0.mk ((by rw [hg]; exact (below_size (by repeat (first | (with_reducible first | exact HB.out | apply below_alloc | apply pw_below_drewN | apply below_drew1 | refine below_set ?_ GE132.out | refine below_set ?_ GE144.out) | exact HB.out))) : w.heap.size ≤ gb161)); have n12_ := Aside0.mk ((by rw [hg]; exact Nat.ne_of_lt (blk_lt (g := gb132) (o := .cells #[.int .i64 t121, .int .i64 t122, .slice Ao8 t123.length co8, .slice Ao9 t126.length co9, .int .i64 t129, .bool t130] 28 (0, 0)) (by (with_reducible repeat (first | refine blk_drewN ?_ _ | refine blk_drew ?_ | refine blk_alloc ?_ _)); exact BK132.out)) : gb132 ≠ gb161)); have n13_ := Aside0.mk ((by rw [hg]; exact Nat.ne_of_gt (blk_lt (g := gb132) (o := .cells #[.int .i64 t121, .int .i64 t122, .slice Ao8 t123.length co8, .slice Ao9 t126.length co9, .int .i64 t129, .bool t130] 28 (0, 0)) (by (with_reducible repeat (first | refine blk_drewN ?_ _ | refine blk_drew ?_ | refine blk_alloc ?_ _)); exact BK132.out)) : gb161 ≠ gb132)); have n14_ := Aside0.mk ((by rw [hg]; exact Nat.ne_of_lt (blk_lt (g := gb144) (o := .cells #[.int .i64 t133, .int .i64 t134, .slice Ao14 t135.length co14, .slice Ao15 t138.length co15, .int .i64 t141, .bool t142] 28 (0, 0)) (by (with_reducible repeat (first | refine blk_drewN ?_ _ | refine blk_drew ?_ | refine blk_alloc ?_ _)); exact BK144.out)) : gb144 ≠ gb161)); have n15_ := Aside0.mk ((by rw [hg]; exact Nat.ne_of_gt (blk_lt (g := gb144) (o := .cells #[.int .i64 t133, .int .i64 t134, .slice Ao14 t135.length co14, .slice Ao15 t138.length co15, .int .i64 t141, .bool t142] 28 (0, 0)) (by (with_reducible repeat (first | refine blk_drewN ?_ _ | refine blk_drew ?_ | refine blk_alloc ?_ _)); exact BK144.out)) : gb161 ≠ gb144)); clear HO_133002; clear HO_133003; clear HO_145002; clear HO_145003; clear HO154; clear HO157; clear BK132; clear BK144; clear HB; have HO_133002 := n0_; have HO_133003 := n1_; have HO_145002 := n2_; have HO_145003 := n3_; have HO154 := n4_; have HO157 := n5_; have BK132 := n6_; have BK144 := n7_; have HB := n8_; have BK161 := n9_; have GW161 := n10_; have GE161 := n11_; have NB132_161 := n12_; have NB161_132 := n13_; have NB144_161 := n14_; have NB161_144 := n15_; clear n0_ n1_ n2_ n3_ n4_ n5_ n6_ n7_ n8_ n9_ n10_ n11_ n12_ n13_ n14_ n15_; clear hb hbox hg; have hnb40 := NB161_132.out; have hnc40 := NB132_161.out; have hnb41 := NB161_144.out; have hnc41 := NB144_161.out; have hcz42_0 : w39.cell? ⟨gb161, 0, none⟩ = some (.int .i64 0) := (blk_cell BK161.out 0).trans rfl; have hcz42_1 : w39.cell? ⟨gb161, 1, none⟩ = some (.int .i64 0) := (blk_cell BK161.out 1).trans rfl; have hcz42_2 : w39.cell? ⟨gb161, 2, none⟩ = some (.slice none 0 0) := (blk_cell BK161.out 2).trans rfl; have hcz42_3 : w39.cell? ⟨gb161, 3, none⟩ = some (.slice none 0 0) := (blk_cell BK161.out 3).trans rfl; have hcz42_4 : w39.cell? ⟨gb161, 4, none⟩ = some (.int .i64 0) := (blk_cell BK161.out 4).trans rfl; have hcz42_5 : w39.cell? ⟨gb161, 5, none⟩ = some (.bool false) := (blk_cell BK161.out 5).trans rfl; have hfz42_0 := blk_frozen BK161.out 0; have hfz42_1 := blk_frozen BK161.out 1; have hfz42_2 := blk_frozen BK161.out 2; have hfz42_3 := blk_frozen BK161.out 3; have hfz42_4 := blk_frozen BK161.out 4; have hfz42_5 := blk_frozen BK161.out 5; obtain ⟨Ao43, co43, eo43⟩ := Kd.R_slice HO154.out; subst eo43; obtain ⟨Ao44, co44, eo44⟩ := Kd.R_slice HO157.out; subst eo44))
            (try simp only [Act.put, List.setIfInBounds_toArray, List.set_cons_zero, List.set_cons_succ])
            go_cut [54] (fun v54 wc => ∃ (kq : Nat) (x54_31 : Bool), v54 = .bool x54_31 ∧ Aside0 (laws_FnExactNewLine.j1 kq t146 x54_31 t133 t134 t147 t148 t141 t142 = some r) ∧ Aside0 (kq ≤ kj3) ∧ Aside0 (Kd.R (Kd.int .i64) 3 wc w.heap.size (fun k_ => some k_ ≠ ((.slice Ao9 t126.length co9) : Value).ownBlock ∧ some k_ ≠ ((.slice Ao14 t135.length co14) : Value).ownBlock ∧ some k_ ≠ ((.slice Ao15 t138.length co15) : Value).ownBlock ∧ some k_ ≠ ((.slice Ao43 t152.length co43) : Value).ownBlock ∧ some k_ ≠ ((.slice Ao44 t155.length co44) : Value).ownBlock) (.slice Ao8 t123.length co8) t123) ∧ Aside0 (Kd.R (Kd.int .i64) 3 wc w.heap.size (fun k_ => some k_ ≠ ((.slice Ao8 t123.length co8) : Value).ownBlock ∧ some k_ ≠ ((.slice Ao14 t135.length co14) : Value).ownBlock ∧ some k_ ≠ ((.slice Ao15 t138.length co15) : Value).ownBlock ∧ some k_ ≠ ((.slice Ao43 t152.length co43) : Value).ownBlock ∧ some k_ ≠ ((.slice Ao44 t155.length co44) : Value).ownBlock) (.slice Ao9 t126.length co9) t126) ∧ Aside0 (Kd.R (Kd.int .i64) 3 wc w.heap.size (fun k_ => some k_ ≠ ((.slice Ao8 t123.length co8) : Value).ownBlock ∧ some k_ ≠ ((.slice Ao9 t126.length co9) : Value).ownBlock ∧ some k_ ≠ ((.slice Ao15 t138.length co15) : Value).ownBlock ∧ some k_ ≠ ((.slice Ao43 t152.length co43) : Value).ownBlock ∧ some k_ ≠ ((.slice Ao44 t155.length co44) : Value).ownBlock) (.slice Ao14 t135.length co14) t147) ∧ Aside0 (Kd.R (Kd.int .i64) 3 wc w.heap.size (fun k_ => some k_ ≠ ((.slice Ao8 t123.length co8) : Value).ownBlock ∧ some k_ ≠ ((.slice Ao9 t126.length co9) : Value).ownBlock ∧ some k_ ≠ ((.slice Ao14 t135.length co14) : Value).ownBlock ∧ some k_ ≠ ((.slice Ao43 t152.length co43) : Value).ownBlock ∧ some k_ ≠ ((.slice Ao44 t155.length co44) : Value).ownBlock) (.slice Ao15 t138.length co15) t148) ∧ Aside0 (Kd.R (Kd.int .i64) 3 wc w.heap.size (fun k_ => some k_ ≠ ((.slice Ao8 t123.length co8) : Value).ownBlock ∧ some k_ ≠ ((.slice Ao9 t126.length co9) : Value).ownBlock ∧ some k_ ≠ ((.slice Ao14 t135.length co14) : Value).ownBlock ∧ some k_ ≠ ((.slice Ao15 t138.length co15) : Value).ownBlock ∧ some k_ ≠ ((.slice Ao44 t155.length co44) : Value).ownBlock) (.slice Ao43 t152.length co43) t152) ∧ Aside0 (Kd.R (Kd.int .i64) 3 wc w.heap.size (fun k_ => some k_ ≠ ((.slice Ao8 t123.length co8) : Value).ownBlock ∧ some k_ ≠ ((.slice Ao9 t126.length co9) : Value).ownBlock ∧ some k_ ≠ ((.slice Ao14 t135.length co14) : Value).ownBlock ∧ some k_ ≠ ((.slice Ao15 t138.length co15) : Value).ownBlock ∧ some k_ ≠ ((.slice Ao43 t152.length co43) : Value).ownBlock) (.slice Ao44 t155.length co44) t155) ∧ Aside0 (wc.heap[gb132]? = some (.cells #[.int .i64 t121, .int .i64 t122, (.slice Ao8 t123.length co8), (.slice Ao9 t126.length co9), .int .i64 t129, .bool t130] 28 (0, 0))) ∧ Aside0 (wc.heap[gb144]? = some (.cells #[.int .i64 t133, .int .i64 t134, (.slice Ao14 t135.length co14), (.slice Ao15 t138.length co15), .int .i64 t141, .bool t142] 28 (0, 0))) ∧ Aside0 (wc.heap[gb161]? = some (.cells #[.int .i64 t150, .int .i64 t151, (.slice Ao43 t152.length co43), (.slice Ao44 t155.length co44), .int .i64 t158, .bool t159] 28 (0, 0))) ∧ Aside0 (Below w.heap.size w wc))
            case first =>
              have H := HC32.out
              clear HC32
              replace H := Option.bind_eq_some_iff.mp H
              obtain ⟨t162, A450, H⟩ := H
              replace H : (if t162 = true then (laws_FnExactNewLine.j1 kj3 t146 (t160 != t131) t133 t134 t147 t148 t141 t142) else (laws_FnExactNewLine.j1 kj3 t146 true t133 t134 t147 t148 t141 t142)) = some r := H
              have A45 := Aside0.mk A450
              clear A450
              by_cases c46 : t162 = true
              · subst c46
                have H1 : (laws_FnExactNewLine.j1 kj3 t146 (t160 != t131) t133 t134 t147 t148 t141 t142) = some r := by rw [if_pos rfl] at H; exact H
                clear H
                have H := H1
                clear H1
                have H' := Aside0.mk H
                clear H
                have hnb47 := NB161_132.out
                have hnc47 := NB132_161.out
                have hnb48 := NB161_144.out
                have hnc48 := NB144_161.out
                have hcz49_0 : w39.cell? ⟨gb161, 0, none⟩ = some (.int .i64 0) := (blk_cell BK161.out 0).trans rfl
                have hcz49_1 : w39.cell? ⟨gb161, 1, none⟩ = some (.int .i64 0) := (blk_cell BK161.out 1).trans rfl
                have hcz49_2 : w39.cell? ⟨gb161, 2, none⟩ = some (.slice none 0 0) := (blk_cell BK161.out 2).trans rfl
                have hcz49_3 : w39.cell? ⟨gb161, 3, none⟩ = some (.slice none 0 0) := (blk_cell BK161.out 3).trans rfl
                have hcz49_4 : w39.cell? ⟨gb161, 4, none⟩ = some (.int .i64 0) := (blk_cell BK161.out 4).trans rfl
                have hcz49_5 : w39.cell? ⟨gb161, 5, none⟩ = some (.bool false) := (blk_cell BK161.out 5).trans rfl
                have hfz49_0 := blk_frozen BK161.out 0
                have hfz49_1 := blk_frozen BK161.out 1
                have hfz49_2 := blk_frozen BK161.out 2
                have hfz49_3 := blk_frozen BK161.out 3
                have hfz49_4 := blk_frozen BK161.out 4
                have hfz49_5 := blk_frozen BK161.out 5
                have hnb50 := NB132_144.out
                have hnc50 := NB144_132.out
                have hcz51_0 : w39.cell? ⟨gb132, 0, none⟩ = some (.int .i64 t121) := (blk_cell BK132.out 0).trans rfl
                have hcz51_1 : w39.cell? ⟨gb132, 1, none⟩ = some (.int .i64 t122) := (blk_cell BK132.out 1).trans rfl
                have hcz51_2 : w39.cell? ⟨gb132, 2, none⟩ = some (.slice Ao8 t123.length co8) := (blk_cell BK132.out 2).trans rfl
                have hcz51_3 : w39.cell? ⟨gb132, 3, none⟩ = some (.slice Ao9 t126.length co9) := (blk_cell BK132.out 3).trans rfl
                have hcz51_4 : w39.cell? ⟨gb132, 4, none⟩ = some (.int .i64 t129) := (blk_cell BK132.out 4).trans rfl
                have hcz51_5 : w39.cell? ⟨gb132, 5, none⟩ = some (.bool t130) := (blk_cell BK132.out 5).trans rfl
                have hfz51_0 := blk_frozen BK132.out 0
                have hfz51_1 := blk_frozen BK132.out 1
                have hfz51_2 := blk_frozen BK132.out 2
                have hfz51_3 := blk_frozen BK132.out 3
                have hfz51_4 := blk_frozen BK132.out 4
                have hfz51_5 := blk_frozen BK132.out 5
                go_wp2_with (first | ((with_reducible refine gate_callee (f := 19) rfl ?_); refine goesL_ (some 48) rfl rfl Try.func19 (by kernel_rfl) rfl #[.agg #[.int .i64 t150, .int .i64 t151, .slice Ao43 t152.length co43, .slice Ao44 t155.length co44, .int .i64 t158, .bool t159], .agg #[.int .i64 t121, .int .i64 t122, .slice Ao8 t123.length co8, .slice Ao9 t126.length co9, .int .i64 t129, .bool t130]] rfl (by (try simp only [List.map_toArray, List.map_cons, List.map_nil]); first | done | rfl | (simp only [List.length_drop, List.length_take]; rfl)) ?_; (with_reducible refine (laws_eqLine.calls kj3 t150 t151 _ _ t152 _ _ t155 t158 t159 t121 t122 _ _ t123 _ _ t126 t129 t130 true _ ?side1 ?side2 ?side3 ?side4 ?side5 ?side6 ?side7 ?side8 A45.out).mono ?_); (case side1 => refine (Kd.R_reads' (e := 3) (base := w.heap.size) (ok := fun k_ => ((((some k_ ≠ (.slice Ao44 t155.length co44 : Value).ownBlock ∧ some k_ ≠ (.slice Ao8 t123.length co8 : Value).ownBlock) ∧ some k_ ≠ (.slice Ao9 t126.length co9 : Value).ownBlock) ∧ some k_ ≠ (.slice Ao14 t135.length co14 : Value).ownBlock) ∧ some k_ ≠ (.slice Ao15 t138.length co15 : Value).ownBlock)) (n := t152.length) (c := co43) ?_).2.2; exact (by (with_reducible repeat (first | apply Kd.R_alloc | apply Kd.R_drewN | apply Kd.R_drew)); exact (Kd.R_mono (Kd.R_far (p := ⟨gb161, 5, none⟩) (Kd.R_far (p := ⟨gb161, 4, none⟩) (Kd.R_far (p := ⟨gb161, 3, none⟩) (Kd.R_far (p := ⟨gb161, 2, none⟩) (Kd.R_far (p := ⟨gb161, 1, none⟩) (Kd.R_far (p := ⟨gb161, 0, none⟩) (Kd.R_types HO154.out BK161.out (by decide)) (fun _ hk => hk.2) (.int .i64 t150)) (fun _ hk => hk.2) (.int .i64 t151)) (fun _ hk => hk.2) (.slice Ao43 t152.length co43)) (fun _ hk => hk.2) (.slice Ao44 t155.length co44)) (fun _ hk => hk.2) (.int .i64 t158)) (fun _ hk => hk.2) (.bool t159)) (fun _ h_ => h_.1)))); (case side2 => exact (Kd.R_reads' HO154.out).2.1); (case side3 => refine (Kd.R_reads' (e := 3) (base := w.heap.size) (ok := fun k_ => ((((some k_ ≠ (.slice Ao43 t152.length co43 : Value).ownBlock ∧ some k_ ≠ (.slice Ao8 t123.length co8 : Value).ownBlock) ∧ some k_ ≠ (.slice Ao9 t126.length co9 : Value).ownBlock) ∧ some k_ ≠ (.slice Ao14 t135.length co14 : Value).ownBlock) ∧ some k_ ≠ (.slice Ao15 t138.length co15 : Value).ownBlock)) (n := t155.length) (c := co44) ?_).2.2; exact (by (with_reducible repeat (first | apply Kd.R_alloc | apply Kd.R_drewN | apply Kd.R_drew)); exact (Kd.R_mono (Kd.R_far (p := ⟨gb161, 5, none⟩) (Kd.R_far (p := ⟨gb161, 4, none⟩) (Kd.R_far (p := ⟨gb161, 3, none⟩) (Kd.R_far (p := ⟨gb161, 2, none⟩) (Kd.R_far (p := ⟨gb161, 1, none⟩) (Kd.R_far (p := ⟨gb161, 0, none⟩) (Kd.R_types HO157.out BK161.out (by decide)) (fun _ hk => hk.2) (.int .i64 t150)) (fun _ hk => hk.2) (.int .i64 t151)) (fun _ hk => hk.2) (.slice Ao43 t152.length co43)) (fun _ hk => hk.2) (.slice Ao44 t155.length co44)) (fun _ hk => hk.2) (.int .i64 t158)) (fun _ hk => hk.2) (.bool t159)) (fun _ h_ => h_.1)))); (case side4 => exact (Kd.R_reads' HO157.out).2.1); (case side5 => refine (Kd.R_reads' (e := 3) (base := w.heap.size) (ok := fun k_ => (((some k_ ≠ (.slice Ao9 t126.length co9 : Value).ownBlock ∧ (some k_ ≠ (.slice Ao14 t135.length co14 : Value).ownBlock ∧ some k_ ≠ (.slice Ao15 t138.length co15 : Value).ownBlock)) ∧ some k_ ≠ (.slice Ao43 t152.length co43 : Value).ownBlock) ∧ some k_ ≠ (.slice Ao44 t155.length co44 : Value).ownBlock)) (n := t123.length) (c := co8) ?_).2.2; exact (by (with_reducible repeat (first | apply Kd.R_alloc | apply Kd.R_drewN | apply Kd.R_drew)); exact (Kd.R_mono (Kd.R_far (p := ⟨gb161, 5, none⟩) (Kd.R_far (p := ⟨gb161, 4, none⟩) (Kd.R_far (p := ⟨gb161, 3, none⟩) (Kd.R_far (p := ⟨gb161, 2, none⟩) (Kd.R_far (p := ⟨gb161, 1, none⟩) (Kd.R_far (p := ⟨gb161, 0, none⟩) (Kd.R_types HO_133002.out BK161.out (by decide)) (fun _ hk => hk.2) (.int .i64 t150)) (fun _ hk => hk.2) (.int .i64 t151)) (fun _ hk => hk.2) (.slice Ao43 t152.length co43)) (fun _ hk => hk.2) (.slice Ao44 t155.length co44)) (fun _ hk => hk.2) (.int .i64 t158)) (fun _ hk => hk.2) (.bool t159)) (fun _ h_ => h_.1)))); (case side6 => exact (Kd.R_reads' HO_133002.out).2.1); (case side7 => refine (Kd.R_reads' (e := 3) (base := w.heap.size) (ok := fun k_ => (((some k_ ≠ (.slice Ao8 t123.length co8 : Value).ownBlock ∧ (some k_ ≠ (.slice Ao14 t135.length co14 : Value).ownBlock ∧ some k_ ≠ (.slice Ao15 t138.length co15 : Value).ownBlock)) ∧ some k_ ≠ (.slice Ao43 t152.length co43 : Value).ownBlock) ∧ some k_ ≠ (.slice Ao44 t155.length co44 : Value).ownBlock)) (n := t126.length) (c := co9) ?_).2.2; exact (by (with_reducible repeat (first | apply Kd.R_alloc | apply Kd.R_drewN | apply Kd.R_drew)); exact (Kd.R_mono (Kd.R_far (p := ⟨gb161, 5, none⟩) (Kd.R_far (p := ⟨gb161, 4, none⟩) (Kd.R_far (p := ⟨gb161, 3, none⟩) (Kd.R_far (p := ⟨gb161, 2, none⟩) (Kd.R_far (p := ⟨gb161, 1, none⟩) (Kd.R_far (p := ⟨gb161, 0, none⟩) (Kd.R_types HO_133003.out BK161.out (by decide)) (fun _ hk => hk.2) (.int .i64 t150)) (fun _ hk => hk.2) (.int .i64 t151)) (fun _ hk => hk.2) (.slice Ao43 t152.length co43)) (fun _ hk => hk.2) (.slice Ao44 t155.length co44)) (fun _ hk => hk.2) (.int .i64 t158)) (fun _ hk => hk.2) (.bool t159)) (fun _ h_ => h_.1)))); (case side8 => exact (Kd.R_reads' HO_133003.out).2.1); rintro e w52 ⟨rfl, hb⟩; refine ⟨_, rfl, ?_⟩; have n0_ := Aside0.mk (Kd.R_below (by (with_reducible repeat (first | apply Kd.R_alloc | apply Kd.R_drewN | apply Kd.R_drew)); exact (Kd.R_mono (Kd.R_far (p := ⟨gb161, 5, none⟩) (Kd.R_far (p := ⟨gb161, 4, none⟩) (Kd.R_far (p := ⟨gb161, 3, none⟩) (Kd.R_far (p := ⟨gb161, 2, none⟩) (Kd.R_far (p := ⟨gb161, 1, none⟩) (Kd.R_far (p := ⟨gb161, 0, none⟩) (Kd.R_types HO_133002.out BK161.out (by decide)) (fun _ hk => hk.2) (.int .i64 t150)) (fun _ hk => hk.2) (.int .i64 t151)) (fun _ hk => hk.2) (.slice Ao43 t152.length co43)) (fun _ hk => hk.2) (.slice Ao44 t155.length co44)) (fun _ hk => hk.2) (.int .i64 t158)) (fun _ hk => hk.2) (.bool t159)) (fun _ h_ => h_.1))) hb); have n1_ := Aside0.mk (Kd.R_below (by (with_reducible repeat (first | apply Kd.R_alloc | apply Kd.R_drewN | apply Kd.R_drew)); exact (Kd.R_mono (Kd.R_far (p := ⟨gb161, 5, none⟩) (Kd.R_far (p := ⟨gb161, 4, none⟩) (Kd.R_far (p := ⟨gb161, 3, none⟩) (Kd.R_far (p := ⟨gb161, 2, none⟩) (Kd.R_far (p := ⟨gb161, 1, none⟩) (Kd.R_far (p := ⟨gb161, 0, none⟩) (Kd.R_types HO_133003.out BK161.out (by decide)) (fun _ hk => hk.2) (.int .i64 t150)) (fun _ hk => hk.2) (.int .i64 t151)) (fun _ hk => hk.2) (.slice Ao43 t152.length co43)) (fun _ hk => hk.2) (.slice Ao44 t155.length co44)) (fun _ hk => hk.2) (.int .i64 t158)) (fun _ hk => hk.2) (.bool t159)) (fun _ h_ => h_.1))) hb); have n2_ := Aside0.mk (Kd.R_below (by (with_reducible repeat (first | apply Kd.R_alloc | apply Kd.R_drewN | apply Kd.R_drew)); exact (Kd.R_mono (Kd.R_far (p := ⟨gb161, 5, none⟩) (Kd.R_far (p := ⟨gb161, 4, none⟩) (Kd.R_far (p := ⟨gb161, 3, none⟩) (Kd.R_far (p := ⟨gb161, 2, none⟩) (Kd.R_far (p := ⟨gb161, 1, none⟩) (Kd.R_far (p := ⟨gb161, 0, none⟩) (Kd.R_types HO_145002.out BK161.out (by decide)) (fun _ hk => hk.2) (.int .i64 t150)) (fun _ hk => hk.2) (.int .i64 t151)) (fun _ hk => hk.2) (.slice Ao43 t152.length co43)) (fun _ hk => hk.2) (.slice Ao44 t155.length co44)) (fun _ hk => hk.2) (.int .i64 t158)) (fun _ hk => hk.2) (.bool t159)) (fun _ h_ => h_.1))) hb); have n3_ := Aside0.mk (Kd.R_below (by (with_reducible repeat (first | apply Kd.R_alloc | apply Kd.R_drewN | apply Kd.R_drew)); exact (Kd.R_mono (Kd.R_far (p := ⟨gb161, 5, none⟩) (Kd.R_far (p := ⟨gb161, 4, none⟩) (Kd.R_far (p := ⟨gb161, 3, none⟩) (Kd.R_far (p := ⟨gb161, 2, none⟩) (Kd.R_far (p := ⟨gb161, 1, none⟩) (Kd.R_far (p := ⟨gb161, 0, none⟩) (Kd.R_types HO_145003.out BK161.out (by decide)) (fun _ hk => hk.2) (.int .i64 t150)) (fun _ hk => hk.2) (.int .i64 t151)) (fun _ hk => hk.2) (.slice Ao43 t152.length co43)) (fun _ hk => hk.2) (.slice Ao44 t155.length co44)) (fun _ hk => hk.2) (.int .i64 t158)) (fun _ hk => hk.2) (.bool t159)) (fun _ h_ => h_.1))) hb); have n4_ := Aside0.mk (Kd.R_below (by (with_reducible repeat (first | apply Kd.R_alloc | apply Kd.R_drewN | apply Kd.R_drew)); exact (Kd.R_mono (Kd.R_far (p := ⟨gb161, 5, none⟩) (Kd.R_far (p := ⟨gb161, 4, none⟩) (Kd.R_far (p := ⟨gb161, 3, none⟩) (Kd.R_far (p := ⟨gb161, 2, none⟩) (Kd.R_far (p := ⟨gb161, 1, none⟩) (Kd.R_far (p := ⟨gb161, 0, none⟩) (Kd.R_types HO154.out BK161.out (by decide)) (fun _ hk => hk.2) (.int .i64 t150)) (fun _ hk => hk.2) (.int .i64 t151)) (fun _ hk => hk.2) (.slice Ao43 t152.length co43)) (fun _ hk => hk.2) (.slice Ao44 t155.length co44)) (fun _ hk => hk.2) (.int .i64 t158)) (fun _ hk => hk.2) (.bool t159)) (fun _ h_ => h_.1))) hb); have n5_ := Aside0.mk (Kd.R_below (by (with_reducible repeat (first | apply Kd.R_alloc | apply Kd.R_drewN | apply Kd.R_drew)); exact (Kd.R_mono (Kd.R_far (p := ⟨gb161, 5, none⟩) (Kd.R_far (p := ⟨gb161, 4, none⟩) (Kd.R_far (p := ⟨gb161, 3, none⟩) (Kd.R_far (p := ⟨gb161, 2, none⟩) (Kd.R_far (p := ⟨gb161, 1, none⟩) (Kd.R_far (p := ⟨gb161, 0, none⟩) (Kd.R_types HO157.out BK161.out (by decide)) (fun _ hk => hk.2) (.int .i64 t150)) (fun _ hk => hk.2) (.int .i64 t151)) (fun _ hk => hk.2) (.slice Ao43 t152.length co43)) (fun _ hk => hk.2) (.slice Ao44 t155.length co44)) (fun _ hk => hk.2) (.int .i64 t158)) (fun _ hk => hk.2) (.bool t159)) (fun _ h_ => h_.1))) hb); have n6_ := Aside0.mk (blk_below (g := gb132) (o := .cells #[.int .i64 t121, .int .i64 t122, .slice Ao8 t123.length co8, .slice Ao9 t126.length co9, .int .i64 t129, .bool t130] 28 (0, 0)) (by (with_reducible repeat (first | refine blk_drewN ?_ _ | refine blk_drew ?_ | refine blk_alloc ?_ _)); refine blk_far ?_ NB132_161.out _; (with_reducible repeat (first | refine blk_drewN ?_ _ | refine blk_drew ?_ | refine blk_alloc ?_ _)); refine blk_far ?_ NB132_161.out _; (with_reducible repeat (first | refine blk_drewN ?_ _ | refine blk_drew ?_ | refine blk_alloc ?_ _)); refine blk_far ?_ NB132_161.out _; (with_reducible repeat (first | refine blk_drewN ?_ _ | refine blk_drew ?_ | refine blk_alloc ?_ _)); refine blk_far ?_ NB132_161.out _; (with_reducible repeat (first | refine blk_drewN ?_ _ | refine blk_drew ?_ | refine blk_alloc ?_ _)); refine blk_far ?_ NB132_161.out _; (with_reducible repeat (first | refine blk_drewN ?_ _ | refine blk_drew ?_ | refine blk_alloc ?_ _)); refine blk_far ?_ NB132_161.out _; (with_reducible repeat (first | refine blk_drewN ?_ _ | refine blk_drew ?_ | refine blk_alloc ?_ _)); exact BK132.out) hb); have n7_ := Aside0.mk (blk_below (g := gb144) (o := .cells #[.int .i64 t133, .int .i64 t134, .slice Ao14 t135.length co14, .slice Ao15 t138.length co15, .int .i64 t141, .bool t142] 28 (0, 0)) (by (with_reducible repeat (first | refine blk_drewN ?_ _ | refine blk_drew ?_ | refine blk_alloc ?_ _)); refine blk_far ?_ NB144_161.out _; (with_reducible repeat (first | refine blk_drewN ?_ _ | refine blk_drew ?_ | refine blk_alloc ?_ _)); refine blk_far ?_ NB144_161.out _; (with_reducible repeat (first | refine blk_drewN ?_ _ | refine blk_drew ?_ | refine blk_alloc ?_ _)); refine blk_far ?_ NB144_161.out _; (with_reducible repeat (first | refine blk_drewN ?_ _ | refine blk_drew ?_ | refine blk_alloc ?_ _)); refine blk_far ?_ NB144_161.out _; (with_reducible repeat (first | refine blk_drewN ?_ _ | refine blk_drew ?_ | refine blk_alloc ?_ _)); refine blk_far ?_ NB144_161.out _; (with_reducible repeat (first | refine blk_drewN ?_ _ | refine blk_drew ?_ | refine blk_alloc ?_ _)); refine blk_far ?_ NB144_161.out _; (with_reducible repeat (first | refine blk_drewN ?_ _ | refine blk_drew ?_ | refine blk_alloc ?_ _)); exact BK144.out) hb); have n8_ := Aside0.mk (blk_below (g := gb161) (o := .cells #[.int .i64 t150, .int .i64 t151, .slice Ao43 t152.length co43, .slice Ao44 t155.length co44, .int .i64 t158, .bool t159] 28 (0, 0)) (by (with_reducible repeat (first | refine blk_drewN ?_ _ | refine blk_drew ?_ | refine blk_alloc ?_ _)); refine blk_put (cs := #[.int .i64 t150, .int .i64 t151, .slice Ao43 t152.length co43, .slice Ao44 t155.length co44, .int .i64 t158, .bool false]) ?_ 5 _ rfl; (with_reducible repeat (first | refine blk_drewN ?_ _ | refine blk_drew ?_ | refine blk_alloc ?_ _)); refine blk_put (cs := #[.int .i64 t150, .int .i64 t151, .slice Ao43 t152.length co43, .slice Ao44 t155.length co44, .int .i64 0, .bool false]) ?_ 4 _ rfl; (with_reducible repeat (first | refine blk_drewN ?_ _ | refine blk_drew ?_ | refine blk_alloc ?_ _)); refine blk_put (cs := #[.int .i64 t150, .int .i64 t151, .slice Ao43 t152.length co43, .slice none 0 0, .int .i64 0, .bool false]) ?_ 3 _ rfl; (with_reducible repeat (first | refine blk_drewN ?_ _ | refine blk_drew ?_ | refine blk_alloc ?_ _)); refine blk_put (cs := #[.int .i64 t150, .int .i64 t151, .slice none 0 0, .slice none 0 0, .int .i64 0, .bool false]) ?_ 2 _ rfl; (with_reducible repeat (first | refine blk_drewN ?_ _ | refine blk_drew ?_ | refine blk_alloc ?_ _)); refine blk_put (cs := #[.int .i64 t150, .int .i64 0, .slice none 0 0, .slice none 0 0, .int .i64 0, .bool false]) ?_ 1 _ rfl; (with_reducible repeat (first | refine blk_drewN ?_ _ | refine blk_drew ?_ | refine blk_alloc ?_ _)); refine blk_put (cs := #[.int .i64 0, .int .i64 0, .slice none 0 0, .slice none 0 0, .int .i64 0, .bool false]) ?_ 0 _ rfl; (with_reducible repeat (first | refine blk_drewN ?_ _ | refine blk_drew ?_ | refine blk_alloc ?_ _)); exact BK161.out) hb); have n9_ := Aside0.mk (below_step (by repeat (first | (with_reducible first | exact HB.out | apply below_alloc | apply pw_below_drewN | apply below_drew1 | refine below_set ?_ GE132.out | refine below_set ?_ GE144.out | refine below_set ?_ GE161.out) | exact HB.out)) hb); clear HO_133002; clear HO_133003; clear HO_145002; clear HO_145003; clear HO154; clear HO157; clear BK132; clear BK144; clear BK161; clear HB; have HO_133002 := n0_; have HO_133003 := n1_; have HO_145002 := n2_; have HO_145003 := n3_; have HO154 := n4_; have HO157 := n5_; have BK132 := n6_; have BK144 := n7_; have BK161 := n8_; have HB := n9_; clear n0_ n1_ n2_ n3_ n4_ n5_ n6_ n7_ n8_ n9_; (try clear hb); (try clear hb2); (try clear hk); (try clear hi)))
                go_meet
                case rel => exact ⟨_, ((t160 != t131)), (by first | rfl | (simp; done) | (simp [*]; done)), H', ⟨by have := HJ3.out; first | omega | exact Nat.le_refl _⟩, ⟨by (with_reducible repeat (first | apply Kd.R_alloc | apply Kd.R_drewN | apply Kd.R_drew)); exact Kd.R_mono HO_133002.out (fun _ hk => ⟨hk.1.1.1, ⟨hk.1.1.2.1, ⟨hk.1.1.2.2, ⟨hk.1.2, hk.2⟩⟩⟩⟩)⟩, ⟨by (with_reducible repeat (first | apply Kd.R_alloc | apply Kd.R_drewN | apply Kd.R_drew)); exact Kd.R_mono HO_133003.out (fun _ hk => ⟨hk.1.1.1, ⟨hk.1.1.2.1, ⟨hk.1.1.2.2, ⟨hk.1.2, hk.2⟩⟩⟩⟩)⟩, ⟨by (with_reducible repeat (first | apply Kd.R_alloc | apply Kd.R_drewN | apply Kd.R_drew)); exact Kd.R_mono HO_145002.out (fun _ hk => ⟨hk.1.1.1, ⟨hk.1.1.2.1, ⟨hk.1.1.2.2, ⟨hk.1.2, hk.2⟩⟩⟩⟩)⟩, ⟨by (with_reducible repeat (first | apply Kd.R_alloc | apply Kd.R_drewN | apply Kd.R_drew)); exact Kd.R_mono HO_145003.out (fun _ hk => ⟨hk.1.1.1, ⟨hk.1.1.2.1, ⟨hk.1.1.2.2, ⟨hk.1.2, hk.2⟩⟩⟩⟩)⟩, ⟨by (with_reducible repeat (first | apply Kd.R_alloc | apply Kd.R_drewN | apply Kd.R_drew)); exact Kd.R_mono HO154.out (fun _ hk => ⟨hk.1.1.1.2, ⟨hk.1.1.2, ⟨hk.1.2, ⟨hk.2, hk.1.1.1.1⟩⟩⟩⟩)⟩, ⟨by (with_reducible repeat (first | apply Kd.R_alloc | apply Kd.R_drewN | apply Kd.R_drew)); exact Kd.R_mono HO157.out (fun _ hk => ⟨hk.1.1.1.2, ⟨hk.1.1.2, ⟨hk.1.2, ⟨hk.2, hk.1.1.1.1⟩⟩⟩⟩)⟩, ⟨by (with_reducible repeat (first | refine blk_drewN ?_ _ | refine blk_drew ?_ | refine blk_alloc ?_ _)); exact BK132.out⟩, ⟨by (with_reducible repeat (first | refine blk_drewN ?_ _ | refine blk_drew ?_ | refine blk_alloc ?_ _)); exact BK144.out⟩, ⟨by (with_reducible repeat (first | refine blk_drewN ?_ _ | refine blk_drew ?_ | refine blk_alloc ?_ _)); exact BK161.out⟩, ⟨by repeat (first | (with_reducible first | exact HB.out | apply below_alloc | apply pw_below_drewN | apply below_drew1 | refine below_set ?_ GE132.out | refine below_set ?_ GE144.out | refine below_set ?_ GE161.out) | exact HB.out)⟩⟩
              · replace c46 := Bool.eq_false_iff.mpr c46
                subst c46
                have H1 : (laws_FnExactNewLine.j1 kj3 t146 true t133 t134 t147 t148 t141 t142) = some r := by rw [if_neg (show ¬ (false = true) by decide)] at H; exact H
                clear H
                have H := H1
                clear H1
                have H' := Aside0.mk H
                clear H
                have hnb53 := NB161_132.out
                have hnc53 := NB132_161.out
                have hnb54 := NB161_144.out
                have hnc54 := NB144_161.out
                have hcz55_0 : w39.cell? ⟨gb161, 0, none⟩ = some (.int .i64 0) := (blk_cell BK161.out 0).trans rfl
                have hcz55_1 : w39.cell? ⟨gb161, 1, none⟩ = some (.int .i64 0) := (blk_cell BK161.out 1).trans rfl
                have hcz55_2 : w39.cell? ⟨gb161, 2, none⟩ = some (.slice none 0 0) := (blk_cell BK161.out 2).trans rfl
                have hcz55_3 : w39.cell? ⟨gb161, 3, none⟩ = some (.slice none 0 0) := (blk_cell BK161.out 3).trans rfl
                have hcz55_4 : w39.cell? ⟨gb161, 4, none⟩ = some (.int .i64 0) := (blk_cell BK161.out 4).trans rfl
                have hcz55_5 : w39.cell? ⟨gb161, 5, none⟩ = some (.bool false) := (blk_cell BK161.out 5).trans rfl
                have hfz55_0 := blk_frozen BK161.out 0
                have hfz55_1 := blk_frozen BK161.out 1
                have hfz55_2 := blk_frozen BK161.out 2
                have hfz55_3 := blk_frozen BK161.out 3
                have hfz55_4 := blk_frozen BK161.out 4
                have hfz55_5 := blk_frozen BK161.out 5
                have hnb56 := NB132_144.out
                have hnc56 := NB144_132.out
                have hcz57_0 : w39.cell? ⟨gb132, 0, none⟩ = some (.int .i64 t121) := (blk_cell BK132.out 0).trans rfl
                have hcz57_1 : w39.cell? ⟨gb132, 1, none⟩ = some (.int .i64 t122) := (blk_cell BK132.out 1).trans rfl
                have hcz57_2 : w39.cell? ⟨gb132, 2, none⟩ = some (.slice Ao8 t123.length co8) := (blk_cell BK132.out 2).trans rfl
                have hcz57_3 : w39.cell? ⟨gb132, 3, none⟩ = some (.slice Ao9 t126.length co9) := (blk_cell BK132.out 3).trans rfl
                have hcz57_4 : w39.cell? ⟨gb132, 4, none⟩ = some (.int .i64 t129) := (blk_cell BK132.out 4).trans rfl
                have hcz57_5 : w39.cell? ⟨gb132, 5, none⟩ = some (.bool t130) := (blk_cell BK132.out 5).trans rfl
                have hfz57_0 := blk_frozen BK132.out 0
                have hfz57_1 := blk_frozen BK132.out 1
                have hfz57_2 := blk_frozen BK132.out 2
                have hfz57_3 := blk_frozen BK132.out 3
                have hfz57_4 := blk_frozen BK132.out 4
                have hfz57_5 := blk_frozen BK132.out 5
                go_wp2_with (first | ((with_reducible refine gate_callee (f := 19) rfl ?_); refine goesL_ (some 48) rfl rfl Try.func19 (by kernel_rfl) rfl #[.agg #[.int .i64 t150, .int .i64 t151, .slice Ao43 t152.length co43, .slice Ao44 t155.length co44, .int .i64 t158, .bool t159], .agg #[.int .i64 t121, .int .i64 t122, .slice Ao8 t123.length co8, .slice Ao9 t126.length co9, .int .i64 t129, .bool t130]] rfl (by (try simp only [List.map_toArray, List.map_cons, List.map_nil]); first | done | rfl | (simp only [List.length_drop, List.length_take]; rfl)) ?_; (with_reducible refine (laws_eqLine.calls kj3 t150 t151 _ _ t152 _ _ t155 t158 t159 t121 t122 _ _ t123 _ _ t126 t129 t130 false _ ?side1 ?side2 ?side3 ?side4 ?side5 ?side6 ?side7 ?side8 A45.out).mono ?_); (case side1 => refine (Kd.R_reads' (e := 3) (base := w.heap.size) (ok := fun k_ => ((((some k_ ≠ (.slice Ao44 t155.length co44 : Value).ownBlock ∧ some k_ ≠ (.slice Ao8 t123.length co8 : Value).ownBlock) ∧ some k_ ≠ (.slice Ao9 t126.length co9 : Value).ownBlock) ∧ some k_ ≠ (.slice Ao14 t135.length co14 : Value).ownBlock) ∧ some k_ ≠ (.slice Ao15 t138.length co15 : Value).ownBlock)) (n := t152.length) (c := co43) ?_).2.2; exact (by (with_reducible repeat (first | apply Kd.R_alloc | apply Kd.R_drewN | apply Kd.R_drew)); exact (Kd.R_mono (Kd.R_far (p := ⟨gb161, 5, none⟩) (Kd.R_far (p := ⟨gb161, 4, none⟩) (Kd.R_far (p := ⟨gb161, 3, none⟩) (Kd.R_far (p := ⟨gb161, 2, none⟩) (Kd.R_far (p := ⟨gb161, 1, none⟩) (Kd.R_far (p := ⟨gb161, 0, none⟩) (Kd.R_types HO154.out BK161.out (by decide)) (fun _ hk => hk.2) (.int .i64 t150)) (fun _ hk => hk.2) (.int .i64 t151)) (fun _ hk => hk.2) (.slice Ao43 t152.length co43)) (fun _ hk => hk.2) (.slice Ao44 t155.length co44)) (fun _ hk => hk.2) (.int .i64 t158)) (fun _ hk => hk.2) (.bool t159)) (fun _ h_ => h_.1)))); (case side2 => exact (Kd.R_reads' HO154.out).2.1); (case side3 => refine (Kd.R_reads' (e := 3) (base := w.heap.size) (ok := fun k_ => ((((some k_ ≠ (.slice Ao43 t152.length co43 : Value).ownBlock ∧ some k_ ≠ (.slice Ao8 t123.length co8 : Value).ownBlock) ∧ some k_ ≠ (.slice Ao9 t126.length co9 : Value).ownBlock) ∧ some k_ ≠ (.slice Ao14 t135.length co14 : Value).ownBlock) ∧ some k_ ≠ (.slice Ao15 t138.length co15 : Value).ownBlock)) (n := t155.length) (c := co44) ?_).2.2; exact (by (with_reducible repeat (first | apply Kd.R_alloc | apply Kd.R_drewN | apply Kd.R_drew)); exact (Kd.R_mono (Kd.R_far (p := ⟨gb161, 5, none⟩) (Kd.R_far (p := ⟨gb161, 4, none⟩) (Kd.R_far (p := ⟨gb161, 3, none⟩) (Kd.R_far (p := ⟨gb161, 2, none⟩) (Kd.R_far (p := ⟨gb161, 1, none⟩) (Kd.R_far (p := ⟨gb161, 0, none⟩) (Kd.R_types HO157.out BK161.out (by decide)) (fun _ hk => hk.2) (.int .i64 t150)) (fun _ hk => hk.2) (.int .i64 t151)) (fun _ hk => hk.2) (.slice Ao43 t152.length co43)) (fun _ hk => hk.2) (.slice Ao44 t155.length co44)) (fun _ hk => hk.2) (.int .i64 t158)) (fun _ hk => hk.2) (.bool t159)) (fun _ h_ => h_.1)))); (case side4 => exact (Kd.R_reads' HO157.out).2.1); (case side5 => refine (Kd.R_reads' (e := 3) (base := w.heap.size) (ok := fun k_ => (((some k_ ≠ (.slice Ao9 t126.length co9 : Value).ownBlock ∧ (some k_ ≠ (.slice Ao14 t135.length co14 : Value).ownBlock ∧ some k_ ≠ (.slice Ao15 t138.length co15 : Value).ownBlock)) ∧ some k_ ≠ (.slice Ao43 t152.length co43 : Value).ownBlock) ∧ some k_ ≠ (.slice Ao44 t155.length co44 : Value).ownBlock)) (n := t123.length) (c := co8) ?_).2.2; exact (by (with_reducible repeat (first | apply Kd.R_alloc | apply Kd.R_drewN | apply Kd.R_drew)); exact (Kd.R_mono (Kd.R_far (p := ⟨gb161, 5, none⟩) (Kd.R_far (p := ⟨gb161, 4, none⟩) (Kd.R_far (p := ⟨gb161, 3, none⟩) (Kd.R_far (p := ⟨gb161, 2, none⟩) (Kd.R_far (p := ⟨gb161, 1, none⟩) (Kd.R_far (p := ⟨gb161, 0, none⟩) (Kd.R_types HO_133002.out BK161.out (by decide)) (fun _ hk => hk.2) (.int .i64 t150)) (fun _ hk => hk.2) (.int .i64 t151)) (fun _ hk => hk.2) (.slice Ao43 t152.length co43)) (fun _ hk => hk.2) (.slice Ao44 t155.length co44)) (fun _ hk => hk.2) (.int .i64 t158)) (fun _ hk => hk.2) (.bool t159)) (fun _ h_ => h_.1)))); (case side6 => exact (Kd.R_reads' HO_133002.out).2.1); (case side7 => refine (Kd.R_reads' (e := 3) (base := w.heap.size) (ok := fun k_ => (((some k_ ≠ (.slice Ao8 t123.length co8 : Value).ownBlock ∧ (some k_ ≠ (.slice Ao14 t135.length co14 : Value).ownBlock ∧ some k_ ≠ (.slice Ao15 t138.length co15 : Value).ownBlock)) ∧ some k_ ≠ (.slice Ao43 t152.length co43 : Value).ownBlock) ∧ some k_ ≠ (.slice Ao44 t155.length co44 : Value).ownBlock)) (n := t126.length) (c := co9) ?_).2.2; exact (by (with_reducible repeat (first | apply Kd.R_alloc | apply Kd.R_drewN | apply Kd.R_drew)); exact (Kd.R_mono (Kd.R_far (p := ⟨gb161, 5, none⟩) (Kd.R_far (p := ⟨gb161, 4, none⟩) (Kd.R_far (p := ⟨gb161, 3, none⟩) (Kd.R_far (p := ⟨gb161, 2, none⟩) (Kd.R_far (p := ⟨gb161, 1, none⟩) (Kd.R_far (p := ⟨gb161, 0, none⟩) (Kd.R_types HO_133003.out BK161.out (by decide)) (fun _ hk => hk.2) (.int .i64 t150)) (fun _ hk => hk.2) (.int .i64 t151)) (fun _ hk => hk.2) (.slice Ao43 t152.length co43)) (fun _ hk => hk.2) (.slice Ao44 t155.length co44)) (fun _ hk => hk.2) (.int .i64 t158)) (fun _ hk => hk.2) (.bool t159)) (fun _ h_ => h_.1)))); (case side8 => exact (Kd.R_reads' HO_133003.out).2.1); rintro e w58 ⟨rfl, hb⟩; refine ⟨_, rfl, ?_⟩; have n0_ := Aside0.mk (Kd.R_below (by (with_reducible repeat (first | apply Kd.R_alloc | apply Kd.R_drewN | apply Kd.R_drew)); exact (Kd.R_mono (Kd.R_far (p := ⟨gb161, 5, none⟩) (Kd.R_far (p := ⟨gb161, 4, none⟩) (Kd.R_far (p := ⟨gb161, 3, none⟩) (Kd.R_far (p := ⟨gb161, 2, none⟩) (Kd.R_far (p := ⟨gb161, 1, none⟩) (Kd.R_far (p := ⟨gb161, 0, none⟩) (Kd.R_types HO_133002.out BK161.out (by decide)) (fun _ hk => hk.2) (.int .i64 t150)) (fun _ hk => hk.2) (.int .i64 t151)) (fun _ hk => hk.2) (.slice Ao43 t152.length co43)) (fun _ hk => hk.2) (.slice Ao44 t155.length co44)) (fun _ hk => hk.2) (.int .i64 t158)) (fun _ hk => hk.2) (.bool t159)) (fun _ h_ => h_.1))) hb); have n1_ := Aside0.mk (Kd.R_below (by (with_reducible repeat (first | apply Kd.R_alloc | apply Kd.R_drewN | apply Kd.R_drew)); exact (Kd.R_mono (Kd.R_far (p := ⟨gb161, 5, none⟩) (Kd.R_far (p := ⟨gb161, 4, none⟩) (Kd.R_far (p := ⟨gb161, 3, none⟩) (Kd.R_far (p := ⟨gb161, 2, none⟩) (Kd.R_far (p := ⟨gb161, 1, none⟩) (Kd.R_far (p := ⟨gb161, 0, none⟩) (Kd.R_types HO_133003.out BK161.out (by decide)) (fun _ hk => hk.2) (.int .i64 t150)) (fun _ hk => hk.2) (.int .i64 t151)) (fun _ hk => hk.2) (.slice Ao43 t152.length co43)) (fun _ hk => hk.2) (.slice Ao44 t155.length co44)) (fun _ hk => hk.2) (.int .i64 t158)) (fun _ hk => hk.2) (.bool t159)) (fun _ h_ => h_.1))) hb); have n2_ := Aside0.mk (Kd.R_below (by (with_reducible repeat (first | apply Kd.R_alloc | apply Kd.R_drewN | apply Kd.R_drew)); exact (Kd.R_mono (Kd.R_far (p := ⟨gb161, 5, none⟩) (Kd.R_far (p := ⟨gb161, 4, none⟩) (Kd.R_far (p := ⟨gb161, 3, none⟩) (Kd.R_far (p := ⟨gb161, 2, none⟩) (Kd.R_far (p := ⟨gb161, 1, none⟩) (Kd.R_far (p := ⟨gb161, 0, none⟩) (Kd.R_types HO_145002.out BK161.out (by decide)) (fun _ hk => hk.2) (.int .i64 t150)) (fun _ hk => hk.2) (.int .i64 t151)) (fun _ hk => hk.2) (.slice Ao43 t152.length co43)) (fun _ hk => hk.2) (.slice Ao44 t155.length co44)) (fun _ hk => hk.2) (.int .i64 t158)) (fun _ hk => hk.2) (.bool t159)) (fun _ h_ => h_.1))) hb); have n3_ := Aside0.mk (Kd.R_below (by (with_reducible repeat (first | apply Kd.R_alloc | apply Kd.R_drewN | apply Kd.R_drew)); exact (Kd.R_mono (Kd.R_far (p := ⟨gb161, 5, none⟩) (Kd.R_far (p := ⟨gb161, 4, none⟩) (Kd.R_far (p := ⟨gb161, 3, none⟩) (Kd.R_far (p := ⟨gb161, 2, none⟩) (Kd.R_far (p := ⟨gb161, 1, none⟩) (Kd.R_far (p := ⟨gb161, 0, none⟩) (Kd.R_types HO_145003.out BK161.out (by decide)) (fun _ hk => hk.2) (.int .i64 t150)) (fun _ hk => hk.2) (.int .i64 t151)) (fun _ hk => hk.2) (.slice Ao43 t152.length co43)) (fun _ hk => hk.2) (.slice Ao44 t155.length co44)) (fun _ hk => hk.2) (.int .i64 t158)) (fun _ hk => hk.2) (.bool t159)) (fun _ h_ => h_.1))) hb); have n4_ := Aside0.mk (Kd.R_below (by (with_reducible repeat (first | apply Kd.R_alloc | apply Kd.R_drewN | apply Kd.R_drew)); exact (Kd.R_mono (Kd.R_far (p := ⟨gb161, 5, none⟩) (Kd.R_far (p := ⟨gb161, 4, none⟩) (Kd.R_far (p := ⟨gb161, 3, none⟩) (Kd.R_far (p := ⟨gb161, 2, none⟩) (Kd.R_far (p := ⟨gb161, 1, none⟩) (Kd.R_far (p := ⟨gb161, 0, none⟩) (Kd.R_types HO154.out BK161.out (by decide)) (fun _ hk => hk.2) (.int .i64 t150)) (fun _ hk => hk.2) (.int .i64 t151)) (fun _ hk => hk.2) (.slice Ao43 t152.length co43)) (fun _ hk => hk.2) (.slice Ao44 t155.length co44)) (fun _ hk => hk.2) (.int .i64 t158)) (fun _ hk => hk.2) (.bool t159)) (fun _ h_ => h_.1))) hb); have n5_ := Aside0.mk (Kd.R_below (by (with_reducible repeat (first | apply Kd.R_alloc | apply Kd.R_drewN | apply Kd.R_drew)); exact (Kd.R_mono (Kd.R_far (p := ⟨gb161, 5, none⟩) (Kd.R_far (p := ⟨gb161, 4, none⟩) (Kd.R_far (p := ⟨gb161, 3, none⟩) (Kd.R_far (p := ⟨gb161, 2, none⟩) (Kd.R_far (p := ⟨gb161, 1, none⟩) (Kd.R_far (p := ⟨gb161, 0, none⟩) (Kd.R_types HO157.out BK161.out (by decide)) (fun _ hk => hk.2) (.int .i64 t150)) (fun _ hk => hk.2) (.int .i64 t151)) (fun _ hk => hk.2) (.slice Ao43 t152.length co43)) (fun _ hk => hk.2) (.slice Ao44 t155.length co44)) (fun _ hk => hk.2) (.int .i64 t158)) (fun _ hk => hk.2) (.bool t159)) (fun _ h_ => h_.1))) hb); have n6_ := Aside0.mk (blk_below (g := gb132) (o := .cells #[.int .i64 t121, .int .i64 t122, .slice Ao8 t123.length co8, .slice Ao9 t126.length co9, .int .i64 t129, .bool t130] 28 (0, 0)) (by (with_reducible repeat (first | refine blk_drewN ?_ _ | refine blk_drew ?_ | refine blk_alloc ?_ _)); refine blk_far ?_ NB132_161.out _; (with_reducible repeat (first | refine blk_drewN ?_ _ | refine blk_drew ?_ | refine blk_alloc ?_ _)); refine blk_far ?_ NB132_161.out _; (with_reducible repeat (first | refine blk_drewN ?_ _ | refine blk_drew ?_ | refine blk_alloc ?_ _)); refine blk_far ?_ NB132_161.out _; (with_reducible repeat (first | refine blk_drewN ?_ _ | refine blk_drew ?_ | refine blk_alloc ?_ _)); refine blk_far ?_ NB132_161.out _; (with_reducible repeat (first | refine blk_drewN ?_ _ | refine blk_drew ?_ | refine blk_alloc ?_ _)); refine blk_far ?_ NB132_161.out _; (with_reducible repeat (first | refine blk_drewN ?_ _ | refine blk_drew ?_ | refine blk_alloc ?_ _)); refine blk_far ?_ NB132_161.out _; (with_reducible repeat (first | refine blk_drewN ?_ _ | refine blk_drew ?_ | refine blk_alloc ?_ _)); exact BK132.out) hb); have n7_ := Aside0.mk (blk_below (g := gb144) (o := .cells #[.int .i64 t133, .int .i64 t134, .slice Ao14 t135.length co14, .slice Ao15 t138.length co15, .int .i64 t141, .bool t142] 28 (0, 0)) (by (with_reducible repeat (first | refine blk_drewN ?_ _ | refine blk_drew ?_ | refine blk_alloc ?_ _)); refine blk_far ?_ NB144_161.out _; (with_reducible repeat (first | refine blk_drewN ?_ _ | refine blk_drew ?_ | refine blk_alloc ?_ _)); refine blk_far ?_ NB144_161.out _; (with_reducible repeat (first | refine blk_drewN ?_ _ | refine blk_drew ?_ | refine blk_alloc ?_ _)); refine blk_far ?_ NB144_161.out _; (with_reducible repeat (first | refine blk_drewN ?_ _ | refine blk_drew ?_ | refine blk_alloc ?_ _)); refine blk_far ?_ NB144_161.out _; (with_reducible repeat (first | refine blk_drewN ?_ _ | refine blk_drew ?_ | refine blk_alloc ?_ _)); refine blk_far ?_ NB144_161.out _; (with_reducible repeat (first | refine blk_drewN ?_ _ | refine blk_drew ?_ | refine blk_alloc ?_ _)); refine blk_far ?_ NB144_161.out _; (with_reducible repeat (first | refine blk_drewN ?_ _ | refine blk_drew ?_ | refine blk_alloc ?_ _)); exact BK144.out) hb); have n8_ := Aside0.mk (blk_below (g := gb161) (o := .cells #[.int .i64 t150, .int .i64 t151, .slice Ao43 t152.length co43, .slice Ao44 t155.length co44, .int .i64 t158, .bool t159] 28 (0, 0)) (by (with_reducible repeat (first | refine blk_drewN ?_ _ | refine blk_drew ?_ | refine blk_alloc ?_ _)); refine blk_put (cs := #[.int .i64 t150, .int .i64 t151, .slice Ao43 t152.length co43, .slice Ao44 t155.length co44, .int .i64 t158, .bool false]) ?_ 5 _ rfl; (with_reducible repeat (first | refine blk_drewN ?_ _ | refine blk_drew ?_ | refine blk_alloc ?_ _)); refine blk_put (cs := #[.int .i64 t150, .int .i64 t151, .slice Ao43 t152.length co43, .slice Ao44 t155.length co44, .int .i64 0, .bool false]) ?_ 4 _ rfl; (with_reducible repeat (first | refine blk_drewN ?_ _ | refine blk_drew ?_ | refine blk_alloc ?_ _)); refine blk_put (cs := #[.int .i64 t150, .int .i64 t151, .slice Ao43 t152.length co43, .slice none 0 0, .int .i64 0, .bool false]) ?_ 3 _ rfl; (with_reducible repeat (first | refine blk_drewN ?_ _ | refine blk_drew ?_ | refine blk_alloc ?_ _)); refine blk_put (cs := #[.int .i64 t150, .int .i64 t151, .slice none 0 0, .slice none 0 0, .int .i64 0, .bool false]) ?_ 2 _ rfl; (with_reducible repeat (first | refine blk_drewN ?_ _ | refine blk_drew ?_ | refine blk_alloc ?_ _)); refine blk_put (cs := #[.int .i64 t150, .int .i64 0, .slice none 0 0, .slice none 0 0, .int .i64 0, .bool false]) ?_ 1 _ rfl; (with_reducible repeat (first | refine blk_drewN ?_ _ | refine blk_drew ?_ | refine blk_alloc ?_ _)); refine blk_put (cs := #[.int .i64 0, .int .i64 0, .slice none 0 0, .slice none 0 0, .int .i64 0, .bool false]) ?_ 0 _ rfl; (with_reducible repeat (first | refine blk_drewN ?_ _ | refine blk_drew ?_ | refine blk_alloc ?_ _)); exact BK161.out) hb); have n9_ := Aside0.mk (below_step (by repeat (first | (with_reducible first | exact HB.out | apply below_alloc | apply pw_below_drewN | apply below_drew1 | refine below_set ?_ GE132.out | refine below_set ?_ GE144.out | refine below_set ?_ GE161.out) | exact HB.out)) hb); clear HO_133002; clear HO_133003; clear HO_145002; clear HO_145003; clear HO154; clear HO157; clear BK132; clear BK144; clear BK161; clear HB; have HO_133002 := n0_; have HO_133003 := n1_; have HO_145002 := n2_; have HO_145003 := n3_; have HO154 := n4_; have HO157 := n5_; have BK132 := n6_; have BK144 := n7_; have BK161 := n8_; have HB := n9_; clear n0_ n1_ n2_ n3_ n4_ n5_ n6_ n7_ n8_ n9_; (try clear hb); (try clear hb2); (try clear hk); (try clear hi)))
                go_meet
                case rel => exact ⟨_, (true), (by first | rfl | (simp; done) | (simp [*]; done)), H', ⟨by have := HJ3.out; first | omega | exact Nat.le_refl _⟩, ⟨by (with_reducible repeat (first | apply Kd.R_alloc | apply Kd.R_drewN | apply Kd.R_drew)); exact Kd.R_mono HO_133002.out (fun _ hk => ⟨hk.1.1.1, ⟨hk.1.1.2.1, ⟨hk.1.1.2.2, ⟨hk.1.2, hk.2⟩⟩⟩⟩)⟩, ⟨by (with_reducible repeat (first | apply Kd.R_alloc | apply Kd.R_drewN | apply Kd.R_drew)); exact Kd.R_mono HO_133003.out (fun _ hk => ⟨hk.1.1.1, ⟨hk.1.1.2.1, ⟨hk.1.1.2.2, ⟨hk.1.2, hk.2⟩⟩⟩⟩)⟩, ⟨by (with_reducible repeat (first | apply Kd.R_alloc | apply Kd.R_drewN | apply Kd.R_drew)); exact Kd.R_mono HO_145002.out (fun _ hk => ⟨hk.1.1.1, ⟨hk.1.1.2.1, ⟨hk.1.1.2.2, ⟨hk.1.2, hk.2⟩⟩⟩⟩)⟩, ⟨by (with_reducible repeat (first | apply Kd.R_alloc | apply Kd.R_drewN | apply Kd.R_drew)); exact Kd.R_mono HO_145003.out (fun _ hk => ⟨hk.1.1.1, ⟨hk.1.1.2.1, ⟨hk.1.1.2.2, ⟨hk.1.2, hk.2⟩⟩⟩⟩)⟩, ⟨by (with_reducible repeat (first | apply Kd.R_alloc | apply Kd.R_drewN | apply Kd.R_drew)); exact Kd.R_mono HO154.out (fun _ hk => ⟨hk.1.1.1.2, ⟨hk.1.1.2, ⟨hk.1.2, ⟨hk.2, hk.1.1.1.1⟩⟩⟩⟩)⟩, ⟨by (with_reducible repeat (first | apply Kd.R_alloc | apply Kd.R_drewN | apply Kd.R_drew)); exact Kd.R_mono HO157.out (fun _ hk => ⟨hk.1.1.1.2, ⟨hk.1.1.2, ⟨hk.1.2, ⟨hk.2, hk.1.1.1.1⟩⟩⟩⟩)⟩, ⟨by (with_reducible repeat (first | refine blk_drewN ?_ _ | refine blk_drew ?_ | refine blk_alloc ?_ _)); exact BK132.out⟩, ⟨by (with_reducible repeat (first | refine blk_drewN ?_ _ | refine blk_drew ?_ | refine blk_alloc ?_ _)); exact BK144.out⟩, ⟨by (with_reducible repeat (first | refine blk_drewN ?_ _ | refine blk_drew ?_ | refine blk_alloc ?_ _)); exact BK161.out⟩, ⟨by repeat (first | (with_reducible first | exact HB.out | apply below_alloc | apply pw_below_drewN | apply below_drew1 | refine below_set ?_ GE132.out | refine below_set ?_ GE144.out | refine below_set ?_ GE161.out) | exact HB.out)⟩⟩
            case rest =>
              clear HC32
              try clear c1
              try clear c2
              try clear p2
              try clear c3
              try clear c4
              try clear c5
              try clear c12
              try clear c13
              try clear c17
              try clear c18
              try clear c19
              try clear c20
              try clear c21
              try clear c22
              try clear c26
              try clear c29
              try clear c29b0
              try clear c30
              try clear c30b0
              try clear c30b1
              try clear c33
              try clear c40
              try clear c41
              try clear c46
              try clear c47
              try clear c48
              try clear c50
              try clear c53
              try clear c54
              try clear c56
              try clear hcz13_0
              try clear hcz13_1
              try clear hcz13_2
              try clear hcz13_3
              try clear hcz13_4
              try clear hcz13_5
              try clear hcz19_0
              try clear hcz19_1
              try clear hcz19_2
              try clear hcz19_3
              try clear hcz19_4
              try clear hcz19_5
              try clear hcz20_0
              try clear hcz20_1
              try clear hcz20_2
              try clear hcz20_3
              try clear hcz20_4
              try clear hcz20_5
              try clear hcz23_0
              try clear hcz23_1
              try clear hcz23_2
              try clear hcz23_3
              try clear hcz23_4
              try clear hcz23_5
              try clear hcz24_0
              try clear hcz24_1
              try clear hcz24_2
              try clear hcz24_3
              try clear hcz24_4
              try clear hcz24_5
              try clear hcz34_0
              try clear hcz34_1
              try clear hcz34_2
              try clear hcz34_3
              try clear hcz34_4
              try clear hcz34_5
              try clear hcz36_0
              try clear hcz36_1
              try clear hcz36_2
              try clear hcz36_3
              try clear hcz36_4
              try clear hcz36_5
              try clear hcz42_0
              try clear hcz42_1
              try clear hcz42_2
              try clear hcz42_3
              try clear hcz42_4
              try clear hcz42_5
              try clear hcz49_0
              try clear hcz49_1
              try clear hcz49_2
              try clear hcz49_3
              try clear hcz49_4
              try clear hcz49_5
              try clear hcz51_0
              try clear hcz51_1
              try clear hcz51_2
              try clear hcz51_3
              try clear hcz51_4
              try clear hcz51_5
              try clear hcz55_0
              try clear hcz55_1
              try clear hcz55_2
              try clear hcz55_3
              try clear hcz55_4
              try clear hcz55_5
              try clear hcz57_0
              try clear hcz57_1
              try clear hcz57_2
              try clear hcz57_3
              try clear hcz57_4
              try clear hcz57_5
              try clear hcz7_0
              try clear hcz7_1
              try clear hcz7_2
              try clear hcz7_3
              try clear hcz7_4
              try clear hcz7_5
              try clear hfz13_0
              try clear hfz13_1
              try clear hfz13_2
              try clear hfz13_3
              try clear hfz13_4
              try clear hfz13_5
              try clear hfz19_0
              try clear hfz19_1
              try clear hfz19_2
              try clear hfz19_3
              try clear hfz19_4
              try clear hfz19_5
              try clear hfz20_0
              try clear hfz20_1
              try clear hfz20_2
              try clear hfz20_3
              try clear hfz20_4
              try clear hfz20_5
              try clear hfz23_0
              try clear hfz23_1
              try clear hfz23_2
              try clear hfz23_3
              try clear hfz23_4
              try clear hfz23_5
              try clear hfz24_0
              try clear hfz24_1
              try clear hfz24_2
              try clear hfz24_3
              try clear hfz24_4
              try clear hfz24_5
              try clear hfz34_0
              try clear hfz34_1
              try clear hfz34_2
              try clear hfz34_3
              try clear hfz34_4
              try clear hfz34_5
              try clear hfz36_0
              try clear hfz36_1
              try clear hfz36_2
              try clear hfz36_3
              try clear hfz36_4
              try clear hfz36_5
              try clear hfz42_0
              try clear hfz42_1
              try clear hfz42_2
              try clear hfz42_3
              try clear hfz42_4
              try clear hfz42_5
              try clear hfz49_0
              try clear hfz49_1
              try clear hfz49_2
              try clear hfz49_3
              try clear hfz49_4
              try clear hfz49_5
              try clear hfz51_0
              try clear hfz51_1
              try clear hfz51_2
              try clear hfz51_3
              try clear hfz51_4
              try clear hfz51_5
              try clear hfz55_0
              try clear hfz55_1
              try clear hfz55_2
              try clear hfz55_3
              try clear hfz55_4
              try clear hfz55_5
              try clear hfz57_0
              try clear hfz57_1
              try clear hfz57_2
              try clear hfz57_3
              try clear hfz57_4
              try clear hfz57_5
              try clear hfz7_0
              try clear hfz7_1
              try clear hfz7_2
              try clear hfz7_3
              try clear hfz7_4
              try clear hfz7_5
              try clear p2
              obtain ⟨kq, x54_31, rfl, HA, HJ31, HO_133002, HO_133003, HO_145002, HO_145003, HO_162002, HO_162003, BK132, BK144, BK161, HB⟩ := hcut
              have hl145002_31 := (Kd.R_reads' HO_145002.out).1
              rw [hl145002_31] at HO_145002
              (try simp only [hl145002_31])
              (try simp only [hl145002_31] at BK132)
              (try simp only [hl145002_31] at BK144)
              (try simp only [hl145002_31] at BK161)
              (try simp only [hl145002_31] at HO_133002)
              (try simp only [hl145002_31] at HO_133003)
              (try simp only [hl145002_31] at HO_145003)
              (try simp only [hl145002_31] at HO_162002)
              (try simp only [hl145002_31] at HO_162003)
              have hl145003_31 := (Kd.R_reads' HO_145003.out).1
              rw [hl145003_31] at HO_145003
              (try simp only [hl145003_31])
              (try simp only [hl145003_31] at BK132)
              (try simp only [hl145003_31] at BK144)
              (try simp only [hl145003_31] at BK161)
              (try simp only [hl145003_31] at HO_133002)
              (try simp only [hl145003_31] at HO_133003)
              (try simp only [hl145003_31] at HO_145002)
              (try simp only [hl145003_31] at HO_162002)
              (try simp only [hl145003_31] at HO_162003)
              cases kq with
              | zero => exact absurd HA.out (by simp [laws_FnExactNewLine.j1])
              | succ kj31 =>
                have H := HA.out
                clear HA
                simp only [laws_FnExactNewLine.j1] at H
                by_cases c59 : x54_31 = true
                · subst c59
                  have H1 : (some false) = some r := by rw [if_pos rfl] at H; exact H
                  clear H
                  have H := H1
                  clear H1
                  exact absurd (hT.out ▸ H) (by simp)
                · replace c59 := Bool.eq_false_iff.mpr c59
                  subst c59
                  have H1 : ((laws_heldLine.f kj31 t133 t134 t147 t148 t141 t142 1).bind fun t163 => (if t163 < 0 then (some false) else (if t163 = t146 then (some true) else (some false)))) = some r := by rw [if_neg (show ¬ (false = true) by decide)] at H; exact H
                  clear H
                  have H := H1
                  clear H1
                  replace H := Option.bind_eq_some_iff.mp H
                  obtain ⟨t163, A600, H⟩ := H
                  replace H : (if t163 < 0 then (some false) else (if t163 = t146 then (some true) else (some false))) = some r := H
                  have A60 := Aside0.mk A600
                  clear A600
                  by_cases c61 : t163 < 0
                  · rw [if_pos c61] at H
                    have c61b0 : decide (t163 < 0) = true := decide_eq_true c61
                    clear c61
                    exact absurd (hT.out ▸ H) (by simp)
                  · rw [if_neg c61] at H
                    have c61b0 : decide (t163 < 0) = false := decide_eq_false c61
                    clear c61
                    by_cases c62 : t163 = t146
                    · rw [if_pos c62] at H
                      have c62b0 : (t163 == t146) = true := beq_iff_eq.mpr c62
                      have c62b1 : (t163 != t146) = false := bne_eq_false_iff_eq.mpr c62
                      clear c62
                      obtain rfl := Option.some.inj H
                      have hnb63 := NB144_132.out
                      have hnc63 := NB132_144.out
                      have hnb64 := NB144_161.out
                      have hnc64 := NB161_144.out
                      have hcz65_0 : wc.cell? ⟨gb144, 0, none⟩ = some (.int .i64 t133) := (blk_cell BK144.out 0).trans rfl
                      have hcz65_1 : wc.cell? ⟨gb144, 1, none⟩ = some (.int .i64 t134) := (blk_cell BK144.out 1).trans rfl
                      have hcz65_2 : wc.cell? ⟨gb144, 2, none⟩ = some (.slice Ao14 t147.length co14) := (blk_cell BK144.out 2).trans rfl
                      have hcz65_3 : wc.cell? ⟨gb144, 3, none⟩ = some (.slice Ao15 t148.length co15) := (blk_cell BK144.out 3).trans rfl
                      have hcz65_4 : wc.cell? ⟨gb144, 4, none⟩ = some (.int .i64 t141) := (blk_cell BK144.out 4).trans rfl
                      have hcz65_5 : wc.cell? ⟨gb144, 5, none⟩ = some (.bool t142) := (blk_cell BK144.out 5).trans rfl
                      have hfz65_0 := blk_frozen BK144.out 0
                      have hfz65_1 := blk_frozen BK144.out 1
                      have hfz65_2 := blk_frozen BK144.out 2
                      have hfz65_3 := blk_frozen BK144.out 3
                      have hfz65_4 := blk_frozen BK144.out 4
                      have hfz65_5 := blk_frozen BK144.out 5
                      go_wp2_with (first | ((with_reducible refine gate_callee (f := 21) rfl ?_); refine goesL_ (some 57) rfl rfl Try.func21 (by kernel_rfl) rfl #[.agg #[.int .i64 t133, .int .i64 t134, .slice Ao14 t147.length co14, .slice Ao15 t148.length co15, .int .i64 t141, .bool t142], .int .i64 1] rfl (by (try simp only [List.map_toArray, List.map_cons, List.map_nil]); first | done | rfl | (simp only [List.length_drop, List.length_take]; rfl)) ?_; (with_reducible refine (laws_heldLine.calls kj31 t133 t134 _ _ t147 _ _ t148 t141 t142 1 t163 _ ?side1 ?side2 ?side3 ?side4 A60.out).mono ?_); (case side1 => repeat (first | exact (Kd.R_reads' HO_145002.out).2.2 | (with_reducible refine Kd.C_alloc ?_ _) | (with_reducible refine Kd.C_drewN ?_ _) | (with_reducible refine Kd.C_drew ?_))); (case side2 => exact (Kd.R_reads' HO_145002.out).2.1); (case side3 => repeat (first | exact (Kd.R_reads' HO_145003.out).2.2 | (with_reducible refine Kd.C_alloc ?_ _) | (with_reducible refine Kd.C_drewN ?_ _) | (with_reducible refine Kd.C_drew ?_))); (case side4 => exact (Kd.R_reads' HO_145003.out).2.1); rintro e w66 ⟨rfl, hb⟩; refine ⟨_, rfl, ?_⟩; have n0_ := Aside0.mk (Kd.R_below (by (with_reducible repeat (first | apply Kd.R_alloc | apply Kd.R_drewN | apply Kd.R_drew)); exact HO_133002.out) hb); have n1_ := Aside0.mk (Kd.R_below (by (with_reducible repeat (first | apply Kd.R_alloc | apply Kd.R_drewN | apply Kd.R_drew)); exact HO_133003.out) hb); have n2_ := Aside0.mk (Kd.R_below (by (with_reducible repeat (first | apply Kd.R_alloc | apply Kd.R_drewN | apply Kd.R_drew)); exact HO_145002.out) hb); have n3_ := Aside0.mk (Kd.R_below (by (with_reducible repeat (first | apply Kd.R_alloc | apply Kd.R_drewN | apply Kd.R_drew)); exact HO_145003.out) hb); have n4_ := Aside0.mk (Kd.R_below (by (with_reducible repeat (first | apply Kd.R_alloc | apply Kd.R_drewN | apply Kd.R_drew)); exact HO_162002.out) hb); have n5_ := Aside0.mk (Kd.R_below (by (with_reducible repeat (first | apply Kd.R_alloc | apply Kd.R_drewN | apply Kd.R_drew)); exact HO_162003.out) hb); have n6_ := Aside0.mk (blk_below (g := gb132) (o := .cells #[.int .i64 t121, .int .i64 t122, .slice Ao8 t123.length co8, .slice Ao9 t126.length co9, .int .i64 t129, .bool t130] 28 (0, 0)) (by (with_reducible repeat (first | refine blk_drewN ?_ _ | refine blk_drew ?_ | refine blk_alloc ?_ _)); exact BK132.out) hb); have n7_ := Aside0.mk (blk_below (g := gb144) (o := .cells #[.int .i64 t133, .int .i64 t134, .slice Ao14 t147.length co14, .slice Ao15 t148.length co15, .int .i64 t141, .bool t142] 28 (0, 0)) (by (with_reducible repeat (first | refine blk_drewN ?_ _ | refine blk_drew ?_ | refine blk_alloc ?_ _)); exact BK144.out) hb); have n8_ := Aside0.mk (blk_below (g := gb161) (o := .cells #[.int .i64 t150, .int .i64 t151, .slice Ao43 t152.length co43, .slice Ao44 t155.length co44, .int .i64 t158, .bool t159] 28 (0, 0)) (by (with_reducible repeat (first | refine blk_drewN ?_ _ | refine blk_drew ?_ | refine blk_alloc ?_ _)); exact BK161.out) hb); have n9_ := Aside0.mk (below_step (by repeat (first | (with_reducible first | exact HB.out | apply below_alloc | apply pw_below_drewN | apply below_drew1 | refine below_set ?_ GE132.out | refine below_set ?_ GE144.out | refine below_set ?_ GE161.out) | exact HB.out)) hb); clear HO_133002; clear HO_133003; clear HO_145002; clear HO_145003; clear HO_162002; clear HO_162003; clear BK132; clear BK144; clear BK161; clear HB; have HO_133002 := n0_; have HO_133003 := n1_; have HO_145002 := n2_; have HO_145003 := n3_; have HO_162002 := n4_; have HO_162003 := n5_; have BK132 := n6_; have BK144 := n7_; have BK161 := n8_; have HB := n9_; clear n0_ n1_ n2_ n3_ n4_ n5_ n6_ n7_ n8_ n9_; (try clear hb); (try clear hb2); (try clear hk); (try clear hi)))
                      go_ret
                      exact ⟨by first | rfl | (simp [errW_none, errW_some] <;> rfl) | (simp [*, errW_none, errW_some] <;> rfl), by repeat (first | (with_reducible first | exact HB.out | apply below_alloc | apply pw_below_drewN | apply below_drew1 | refine below_set ?_ GE132.out | refine below_set ?_ GE144.out | refine below_set ?_ GE161.out) | exact HB.out)⟩
                    · rw [if_neg c62] at H
                      have c62b0 : (t163 == t146) = false := beq_eq_false_iff_ne.mpr c62
                      have c62b1 : (t163 != t146) = true := bne_iff_ne.mpr c62
                      exact absurd (hT.out ▸ H) (by simp)
          · rw [if_neg c30] at H
            have c30b0 : (t149 == t146) = false := beq_eq_false_iff_ne.mpr c30
            have c30b1 : (t149 != t146) = true := bne_iff_ne.mpr c30
            exact absurd (hT.out ▸ H) (by simp)

end Go.Proofs.Ytomhhbnnmjgcgaa.PFnExactNewLine
