/- FnExactRunLine: the functions that the law reaches, each as a plain Lean function, and that a call does what it says. Made by a program of this work (wip/mp.py) out of the kit's print. No condition. -/
import Derived.Test.YtomhhbnnmjgcgaaQFnExactRunLine0
import Derived.Test.YtomhhbnnmjgcgaaQFnExactRunLine6
import Derived.Test.YtomhhbnnmjgcgaaQFnExactRunLine7
namespace Go.Proofs.Ytomhhbnnmjgcgaa.PFnExactRunLine
open Go.RowKit Go.Proofs.YtomhhbnnmjgcgaaW.PrintWords Go.Proofs.YtomhhbnnmjgcgaaW.PrintLast Go.Proofs.YtomhhbnnmjgcgaaW.PrintMore
attribute [local go_sem] max2_int min2_int max_two min_two max_three min_three max_four min_four
attribute [local go_sem] Fix.isSome_setCell
set_option linter.unusedVariables false
set_option linter.unusedSimpArgs false

/-! ### spec_RunLine: function 29 -/
mutual
def spec_RunLine.l0 : Nat → List Int → Int → Int → Int → Int → List Int → List Int → Int → Bool → Option (Int × Int × List Int × List Int × Int × Bool × Int)
  | 0, _, _, _, _, _, _, _, _, _ => none
  | k + 1, x1, x6, x8, x275000, x275001, x275002, x275003, x275004, x275005 => if x8 < (x1.length : Int) then (spec_RunLine.j1 k x1 x6 x8 (decide (x8 < 200)) x275000 x275001 x275002 x275003 x275004 x275005) else (spec_RunLine.j1 k x1 x6 x8 false x275000 x275001 x275002 x275003 x275004 x275005)
def spec_RunLine.j1 : Nat → List Int → Int → Int → Bool → Int → Int → List Int → List Int → Int → Bool → Option (Int × Int × List Int × List Int × Int × Bool × Int)
  | 0, _, _, _, _, _, _, _, _, _, _ => none
  | k + 1, x1, x6, x8, x20, x275000, x275001, x275002, x275003, x275004, x275005 => if x20 = true then (if 0 ≤ x8 then (if x8 < (x1.length : Int) then ((spec_LineStep.f k x275000 x275001 x275002 x275003 x275004 x275005 (rd x1 x8)).bind fun bt276 => (if bt276.2.2.2.2.2.2 = true then (spec_RunLine.l0 k x1 (wrap64 (x6 + 1)) (wrap64 (x8 + 1)) bt276.1 bt276.2.1 bt276.2.2.1 bt276.2.2.2.1 bt276.2.2.2.2.1 bt276.2.2.2.2.2.1) else (spec_RunLine.l0 k x1 x6 (wrap64 (x8 + 1)) bt276.1 bt276.2.1 bt276.2.2.1 bt276.2.2.2.1 bt276.2.2.2.2.1 bt276.2.2.2.2.2.1))) else (none)) else (none)) else (some (x275000, x275001, x275002, x275003, x275004, x275005, x6))
end
def spec_RunLine.f (k : Nat) (a0_0 : Int) (a0_1 : Int) (l0_2 : List Int) (l0_3 : List Int) (a0_4 : Int) (a0_5 : Bool) (l1 : List Int) : Option (Int × Int × List Int × List Int × Int × Bool × Int) := (spec_l37Copy.f a0_0 a0_1 l0_2 l0_3 a0_4 a0_5).bind fun bt264 => (spec_RunLine.l0 k l1 0 0 bt264.1 bt264.2.1 bt264.2.2.1 bt264.2.2.2.1 bt264.2.2.2.2.1 bt264.2.2.2.2.2)
theorem spec_RunLine.mono_l : ∀ k, (∀ y0 y1 y2 y3 y4 y5 y6 y7 y8, LeO (spec_RunLine.l0 k y0 y1 y2 y3 y4 y5 y6 y7 y8) (spec_RunLine.l0 (k + 1) y0 y1 y2 y3 y4 y5 y6 y7 y8)) ∧ (∀ y0 y1 y2 y3 y4 y5 y6 y7 y8 y9, LeO (spec_RunLine.j1 k y0 y1 y2 y3 y4 y5 y6 y7 y8 y9) (spec_RunLine.j1 (k + 1) y0 y1 y2 y3 y4 y5 y6 y7 y8 y9))
  | 0 => ⟨fun _ _ _ _ _ _ _ _ _ r h => by simp [spec_RunLine.l0] at h, fun _ _ _ _ _ _ _ _ _ _ r h => by simp [spec_RunLine.j1] at h⟩
  | k + 1 => by
    obtain ⟨ih0, ih1⟩ := spec_RunLine.mono_l k
    refine ⟨?_, ?_⟩
    · intro y0 y1 y2 y3 y4 y5 y6 y7 y8
      unfold spec_RunLine.l0
      repeat' first
      | (with_reducible exact ih0 _ _ _ _ _ _ _ _ _)
      | (with_reducible exact ih1 _ _ _ _ _ _ _ _ _ _)
      | (with_reducible exact spec_LineStep.mono _ _ _ _ _ _ _ _)
      | (with_reducible exact LeO.refl _)
      | (with_reducible exact LeO.none _)
      | (with_reducible refine LeO.ite ?_ ?_)
      | (with_reducible refine LeO.bind ?_ (fun _ => ?_))
      | exact ih0 _ _ _ _ _ _ _ _ _
      | exact ih1 _ _ _ _ _ _ _ _ _ _
      | exact spec_LineStep.mono _ _ _ _ _ _ _ _
      | exact LeO.none _
      | refine LeO.ite ?_ ?_
      | refine LeO.bind ?_ (fun _ => ?_)
    · intro y0 y1 y2 y3 y4 y5 y6 y7 y8 y9
      unfold spec_RunLine.j1
      repeat' first
      | (with_reducible exact ih0 _ _ _ _ _ _ _ _ _)
      | (with_reducible exact ih1 _ _ _ _ _ _ _ _ _ _)
      | (with_reducible exact spec_LineStep.mono _ _ _ _ _ _ _ _)
      | (with_reducible exact LeO.refl _)
      | (with_reducible exact LeO.none _)
      | (with_reducible refine LeO.ite ?_ ?_)
      | (with_reducible refine LeO.bind ?_ (fun _ => ?_))
      | exact ih0 _ _ _ _ _ _ _ _ _
      | exact ih1 _ _ _ _ _ _ _ _ _ _
      | exact spec_LineStep.mono _ _ _ _ _ _ _ _
      | exact LeO.none _
      | refine LeO.ite ?_ ?_
      | refine LeO.bind ?_ (fun _ => ?_)
theorem spec_RunLine.mono : ∀ a0 a1 a2 a3 a4 a5 a6 k, LeO (spec_RunLine.f k a0 a1 a2 a3 a4 a5 a6) (spec_RunLine.f (k + 1) a0 a1 a2 a3 a4 a5 a6) := by
  intro a0 a1 a2 a3 a4 a5 a6 k
  obtain ⟨ih0, ih1⟩ := spec_RunLine.mono_l k
  unfold spec_RunLine.f
  repeat' first
      | (with_reducible exact ih0 _ _ _ _ _ _ _ _ _)
      | (with_reducible exact ih1 _ _ _ _ _ _ _ _ _ _)
      | (with_reducible exact spec_LineStep.mono _ _ _ _ _ _ _ _)
      | (with_reducible exact LeO.refl _)
      | (with_reducible exact LeO.none _)
      | (with_reducible refine LeO.ite ?_ ?_)
      | (with_reducible refine LeO.bind ?_ (fun _ => ?_))
      | exact ih0 _ _ _ _ _ _ _ _ _
      | exact ih1 _ _ _ _ _ _ _ _ _ _
      | exact spec_LineStep.mono _ _ _ _ _ _ _ _
      | exact LeO.none _
      | refine LeO.ite ?_ ?_
      | refine LeO.bind ?_ (fun _ => ?_)
def spec_RunLine.T6 : Bool × List (List Nat × List Nat) := (true, [([], []), ([], []), ([], []), ([1, 2], [1, 2]), ([3], [3]), ([0, 4], [0, 4]), ([5], [5]), ([6], [6]), ([6], [6]), ([], []), ([9, 7, 5, 0, 1, 2, 3, 4, 5, 6, 7, 9], [7, 9]), ([8, 10, 0, 1, 2, 3, 4, 5, 6, 7, 8, 9, 10], [8])])
def spec_RunLine.B6 : List Nat := [0, 0, 0, 6, 14, 31, 63, 127, 127, 0, 767, 2047]
theorem spec_RunLine.tab6 : rtab .any (opsOf Try.f29 6) = spec_RunLine.T6 := by kernel_rfl
theorem spec_RunLine.bits6 : waitsOk spec_RunLine.T6.2 spec_RunLine.B6 = true := by kernel_rfl
set_option maxHeartbeats 8000000 in
set_option maxRecDepth 100000 in
theorem spec_RunLine.calls (k : Nat) (a0_0 : Int) (a0_1 : Int) (A0_2 : Option Addr) (c0_2 : Nat) (l0_2 : List Int) (A0_3 : Option Addr) (c0_3 : Nat) (l0_3 : List Int) (a0_4 : Int) (a0_5 : Bool) (A1 : Option Addr) (c1 : Nat) (l1 : List Int) (r1 : Int) (r2 : Int) (r3 : List Int) (r4 : List Int) (r5 : Int) (r6 : Bool) (r7 : Int) (w : World) (hr0_2 : Kd.C (Kd.int .i64) w A0_2 l0_2.length l0_2) (hc0_2 : l0_2.length ≤ c0_2) (hr0_3 : Kd.C (Kd.int .i64) w A0_3 l0_3.length l0_3) (hc0_3 : l0_3.length ≤ c0_3) (hr1 : Kd.C (Kd.int .i64) w A1 l1.length l1) (hc1 : l1.length ≤ c1) (h : spec_RunLine.f k a0_0 a0_1 l0_2 l0_3 a0_4 a0_5 l1 = some (r1, r2, r3, r4, r5, r6, r7)) :
    Calls Try.prog 29 #[.agg #[.int .i64 a0_0, .int .i64 a0_1, .slice A0_2 l0_2.length c0_2, .slice A0_3 l0_3.length c0_3, .int .i64 a0_4, .bool a0_5], .slice A1 l1.length c1] w fun e w' => ∃ v2_ v3_ : Value, e = .returned (.tuple #[.agg #[.int .i64 r1, .int .i64 r2, v2_, v3_, .int .i64 r5, .bool r6], .int .i64 r7]) ∧ Kd.Q (Kd.int .i64) 3 w' w.heap.size (fun k_ => some k_ ≠ (v3_ : Value).ownBlock) v2_ r3 ∧ Kd.R (Kd.int .i64) 3 w' w.heap.size (fun k_ => some k_ ≠ (v2_ : Value).ownBlock) v3_ r4 ∧ Below w.heap.size w w' := by
  have hu28 := Try.underlying28
  have HR0_2 := Aside0.mk hr0_2
  have HC0_2 := Aside0.mk hc0_2
  (try clear hr0_2); (try clear hc0_2)
  have HR0_3 := Aside0.mk hr0_3
  have HC0_3 := Aside0.mk hc0_3
  (try clear hr0_3); (try clear hc0_3)
  have HR1 := Aside0.mk hr1
  have HC1 := Aside0.mk hc1
  (try clear hr1); (try clear hc1)
  have HB := Aside0.mk (Below.refl w.heap.size w)
  have H : ((spec_l37Copy.f a0_0 a0_1 l0_2 l0_3 a0_4 a0_5).bind fun bt264 => (spec_RunLine.l0 k l1 0 0 bt264.1 bt264.2.1 bt264.2.2.1 bt264.2.2.2.1 bt264.2.2.2.2.1 bt264.2.2.2.2.2)) = some (r1, r2, r3, r4, r5, r6, r7) := h
  clear h
  replace H := Option.bind_eq_some_iff.mp H
  obtain ⟨⟨t264, t265, t266, t269, t272, t273⟩, A30, H⟩ := H
  replace H : (spec_RunLine.l0 k l1 0 0 t264 t265 t266 t269 t272 t273) = some (r1, r2, r3, r4, r5, r6, r7) := H
  have A3 := Aside0.mk A30
  clear A30
  have H' := Aside0.mk H
  clear H
  go_enter Try.func29, Try.ntmps29
  go_wp2_with (first | ((with_reducible refine gate_dst (N := 2) rfl ?_); refine box_event ?hg (N := 2) ?hd (cs := #[.int .i64 a0_0, .int .i64 a0_1, .slice A0_2 l0_2.length c0_2, .slice A0_3 l0_3.length c0_3, .int .i64 a0_4, .bool a0_5]) (t := 28) ?hr ?_; (case hd => rfl); (case hg => rfl); (case hr => first | (go_simp; done) | (go_simp; rfl)); intro gb262 hg w4 hbox hb; have n0_ := Aside0.mk (below_step Fix.uB hb); have n1_ := Aside0.mk (hbox); have n2_ := Aside0.mk ((by rw [hg]; exact (below_size Fix.uB) : w.heap.size ≤ gb262)); have n3_ := Aside0.mk ((by rw [hg]; exact (below_size Fix.uB) : w.heap.size ≤ gb262)); clear HB; have HB := n0_; have BK262 := n1_; have GW262 := n2_; have GE262 := n3_; clear n0_ n1_ n2_ n3_; clear hb hbox hg) | ((with_reducible refine gate_dst (N := 4) rfl ?_); refine box_event ?hg (N := 4) ?hd (cs := #[.int .i64 0, .int .i64 0, .slice none 0 0, .slice none 0 0, .int .i64 0, .bool false]) (t := 28) ?hr ?_; (case hd => rfl); (case hg => rfl); (case hr => first | (go_simp; done) | (go_simp; rfl)); intro gb263 hg w5 hbox hb; have n0_ := Aside0.mk (blk_below (g := gb262) (o := .cells #[.int .i64 a0_0, .int .i64 a0_1, .slice A0_2 l0_2.length c0_2, .slice A0_3 l0_3.length c0_3, .int .i64 a0_4, .bool a0_5] 28 (0, 0)) (Fix.uK BK262.out) hb); have n1_ := Aside0.mk (below_step Fix.uB hb); have n2_ := Aside0.mk (hbox); have n3_ := Aside0.mk ((by rw [hg]; exact (below_size Fix.uB) : w.heap.size ≤ gb263)); have n4_ := Aside0.mk ((by rw [hg]; exact (below_size Fix.uB) : w.heap.size ≤ gb263)); have n5_ := Aside0.mk ((by rw [hg]; exact Nat.ne_of_lt (blk_lt (g := gb262) (o := .cells #[.int .i64 a0_0, .int .i64 a0_1, .slice A0_2 l0_2.length c0_2, .slice A0_3 l0_3.length c0_3, .int .i64 a0_4, .bool a0_5] 28 (0, 0)) (Fix.uK BK262.out)) : gb262 ≠ gb263)); have n6_ := Aside0.mk ((by rw [hg]; exact Nat.ne_of_gt (blk_lt (g := gb262) (o := .cells #[.int .i64 a0_0, .int .i64 a0_1, .slice A0_2 l0_2.length c0_2, .slice A0_3 l0_3.length c0_3, .int .i64 a0_4, .bool a0_5] 28 (0, 0)) (Fix.uK BK262.out)) : gb263 ≠ gb262)); clear BK262; clear HB; have BK262 := n0_; have HB := n1_; have BK263 := n2_; have GW263 := n3_; have GE263 := n4_; have NB262_263 := n5_; have NB263_262 := n6_; clear n0_ n1_ n2_ n3_ n4_ n5_ n6_; clear hb hbox hg; have hnb6 := NB262_263.out; have hnc6 := NB263_262.out; obtain ⟨hcz7_0, hcz7_1, hcz7_2, hcz7_3, hcz7_4, hcz7_5, hfz7_0, hfz7_1, hfz7_2, hfz7_3, hfz7_4, hfz7_5⟩ := Fix.d6 BK262.out) | ((with_reducible refine gate_callee (f := 43) rfl ?_); refine goesL_ (some 12) rfl rfl Try.func43 (by kernel_rfl) rfl #[.agg #[.int .i64 a0_0, .int .i64 a0_1, .slice A0_2 l0_2.length c0_2, .slice A0_3 l0_3.length c0_3, .int .i64 a0_4, .bool a0_5]] rfl Fix.uA ?_; (with_reducible refine (spec_l37Copy.calls a0_0 a0_1 _ _ l0_2 _ _ l0_3 a0_4 a0_5 t264 t265 t266 t269 t272 t273 _ ?side1 ?side2 ?side3 ?side4 A3.out).mono ?_); (case side1 => exact Fix.uC (Kd.C_below HR0_2.out HB.out)); (case side2 => exact HC0_2.out); (case side3 => exact Fix.uC (Kd.C_below HR0_3.out HB.out)); (case side4 => exact HC0_3.out); rintro e w8 ⟨v267, v270, rfl, ho0, ho1, hb⟩; refine ⟨_, rfl, ?_⟩; have n0_ := Aside0.mk (Kd.R_lower ho0 (below_size Fix.uB)); have n1_ := Aside0.mk (Kd.R_lower ho1 (below_size Fix.uB)); have n2_ := Aside0.mk (blk_below (g := gb262) (o := .cells #[.int .i64 a0_0, .int .i64 a0_1, .slice A0_2 l0_2.length c0_2, .slice A0_3 l0_3.length c0_3, .int .i64 a0_4, .bool a0_5] 28 (0, 0)) (Fix.uK BK262.out) hb); have n3_ := Aside0.mk (blk_below (g := gb263) (o := .cells #[.int .i64 0, .int .i64 0, .slice none 0 0, .slice none 0 0, .int .i64 0, .bool false] 28 (0, 0)) (Fix.uK BK263.out) hb); have n4_ := Aside0.mk (below_step Fix.uB hb); clear BK262; clear BK263; clear HB; have HO268 := n0_; have HO271 := n1_; have BK262 := n2_; have BK263 := n3_; have HB := n4_; clear n0_ n1_ n2_ n3_ n4_; (try clear hb); (try clear hb2); (try clear hk); (try clear hi); (try clear ho0); (try clear ho1)) | ((with_reducible refine gate_dst (N := 7) rfl ?_); refine box_event ?hg (N := 7) ?hd (cs := #[.int .i64 0, .int .i64 0, .slice none 0 0, .slice none 0 0, .int .i64 0, .bool false]) (t := 28) ?hr ?_; (case hd => rfl); (case hg => rfl); (case hr => first | (go_simp; done) | (go_simp; rfl)); intro gb274 hg w9 hbox hb; have n0_ := Aside0.mk (Kd.R_below (Fix.uR HO268.out) hb); have n1_ := Aside0.mk (Kd.R_below (Fix.uR HO271.out) hb); have n2_ := Aside0.mk (blk_below (g := gb262) (o := .cells #[.int .i64 a0_0, .int .i64 a0_1, .slice A0_2 l0_2.length c0_2, .slice A0_3 l0_3.length c0_3, .int .i64 a0_4, .bool a0_5] 28 (0, 0)) (Fix.uK BK262.out) hb); have n3_ := Aside0.mk (blk_below (g := gb263) (o := .cells #[.int .i64 0, .int .i64 0, .slice none 0 0, .slice none 0 0, .int .i64 0, .bool false] 28 (0, 0)) (Fix.uK BK263.out) hb); have n4_ := Aside0.mk (below_step Fix.uB hb); have n5_ := Aside0.mk (hbox); have n6_ := Aside0.mk ((by rw [hg]; exact (below_size Fix.uB) : w.heap.size ≤ gb274)); have n7_ := Aside0.mk ((by rw [hg]; exact (below_size Fix.uB) : w.heap.size ≤ gb274)); have n8_ := Aside0.mk ((by rw [hg]; exact Nat.ne_of_lt (blk_lt (g := gb262) (o := .cells #[.int .i64 a0_0, .int .i64 a0_1, .slice A0_2 l0_2.length c0_2, .slice A0_3 l0_3.length c0_3, .int .i64 a0_4, .bool a0_5] 28 (0, 0)) (Fix.uK BK262.out)) : gb262 ≠ gb274)); have n9_ := Aside0.mk ((by rw [hg]; exact Nat.ne_of_gt (blk_lt (g := gb262) (o := .cells #[.int .i64 a0_0, .int .i64 a0_1, .slice A0_2 l0_2.length c0_2, .slice A0_3 l0_3.length c0_3, .int .i64 a0_4, .bool a0_5] 28 (0, 0)) (Fix.uK BK262.out)) : gb274 ≠ gb262)); have n10_ := Aside0.mk ((by rw [hg]; exact Nat.ne_of_lt (blk_lt (g := gb263) (o := .cells #[.int .i64 0, .int .i64 0, .slice none 0 0, .slice none 0 0, .int .i64 0, .bool false] 28 (0, 0)) (Fix.uK BK263.out)) : gb263 ≠ gb274)); have n11_ := Aside0.mk ((by rw [hg]; exact Nat.ne_of_gt (blk_lt (g := gb263) (o := .cells #[.int .i64 0, .int .i64 0, .slice none 0 0, .slice none 0 0, .int .i64 0, .bool false] 28 (0, 0)) (Fix.uK BK263.out)) : gb274 ≠ gb263)); clear HO268; clear HO271; clear BK262; clear BK263; clear HB; have HO268 := n0_; have HO271 := n1_; have BK262 := n2_; have BK263 := n3_; have HB := n4_; have BK274 := n5_; have GW274 := n6_; have GE274 := n7_; have NB262_274 := n8_; have NB274_262 := n9_; have NB263_274 := n10_; have NB274_263 := n11_; clear n0_ n1_ n2_ n3_ n4_ n5_ n6_ n7_ n8_ n9_ n10_ n11_; clear hb hbox hg; have hnb10 := NB274_262.out; have hnc10 := NB262_274.out; have hnb11 := NB274_263.out; have hnc11 := NB263_274.out; obtain ⟨hcz12_0, hcz12_1, hcz12_2, hcz12_3, hcz12_4, hcz12_5, hfz12_0, hfz12_1, hfz12_2, hfz12_3, hfz12_4, hfz12_5⟩ := Fix.d6 BK274.out; obtain ⟨Ao13, co13, eo13⟩ := Kd.R_slice HO268.out; subst eo13; obtain ⟨Ao14, co14, eo14⟩ := Kd.R_slice HO271.out; subst eo14))
  go_loopg [6, 8] k (fun kq v6 v8 w' => ∃ (x6_1 : Int) (x8_1 : Int) (x275000_1 : Int) (x275001_1 : Int) (x275002_1 : List Int) (x275003_1 : List Int) (x275004_1 : Int) (x275005_1 : Bool) (u275002 : Value) (u275003 : Value), v6 = .int .i64 x6_1 ∧ v8 = .int .i64 x8_1 ∧ Aside0 (spec_RunLine.l0 kq l1 x6_1 x8_1 x275000_1 x275001_1 x275002_1 x275003_1 x275004_1 x275005_1 = some (r1, r2, r3, r4, r5, r6, r7)) ∧ Aside0 (kq ≤ k) ∧ Aside0 (Kd.Q (Kd.int .i64) 3 w' w.heap.size (fun k_ => some k_ ≠ (u275003 : Value).ownBlock) u275002 x275002_1) ∧ Aside0 (Kd.R (Kd.int .i64) 3 w' w.heap.size (fun k_ => some k_ ≠ (u275002 : Value).ownBlock) u275003 x275003_1) ∧ Aside0 (w'.heap[gb262]? = some (.cells #[.int .i64 a0_0, .int .i64 a0_1, (.slice A0_2 l0_2.length c0_2), (.slice A0_3 l0_3.length c0_3), .int .i64 a0_4, .bool a0_5] 28 (0, 0))) ∧ Aside0 (w'.heap[gb263]? = some (.cells #[.int .i64 0, .int .i64 0, (.slice none 0 0), (.slice none 0 0), .int .i64 0, .bool false] 28 (0, 0))) ∧ Aside0 (w'.heap[gb274]? = some (.cells #[.int .i64 x275000_1, .int .i64 x275001_1, u275002, u275003, .int .i64 x275004_1, .bool x275005_1] 28 (0, 0))) ∧ Aside0 (Below w.heap.size w w'))
  case atStart => exact ⟨(0), (0), (t264), (t265), (t266), (t269), (t272), (t273), (.slice Ao13 t266.length co13), (.slice Ao14 t269.length co14), (by first | rfl | (simp; done) | (simp [*]; done)), (by first | rfl | (simp; done) | (simp [*]; done)), H', ⟨Nat.le_refl _⟩, ⟨Kd.Q_of_R (by (with_reducible repeat (first | apply Kd.R_alloc | apply Kd.R_drewN | apply Kd.R_drew)); exact Kd.R_mono (Fix.R_far6 (g := gb274) (Kd.R_types HO268.out BK274.out (by decide)) (fun _ hk => hk.2) _ _ _ _ _ _) (fun _ hk => hk.1))⟩, ⟨by (with_reducible repeat (first | apply Kd.R_alloc | apply Kd.R_drewN | apply Kd.R_drew)); exact Kd.R_mono (Fix.R_far6 (g := gb274) (Kd.R_types HO271.out BK274.out (by decide)) (fun _ hk => hk.2) _ _ _ _ _ _) (fun _ hk => hk.1)⟩, ⟨by (with_reducible repeat (first | refine Fix.kN ?_ _ | refine Fix.kD ?_ | refine Fix.kA ?_ _)); refine Fix.far6 ?_ NB262_274.out _ _ _ _ _ _; (with_reducible repeat (first | refine Fix.kN ?_ _ | refine Fix.kD ?_ | refine Fix.kA ?_ _)); exact BK262.out⟩, ⟨by (with_reducible repeat (first | refine Fix.kN ?_ _ | refine Fix.kD ?_ | refine Fix.kA ?_ _)); refine Fix.far6 ?_ NB263_274.out _ _ _ _ _ _; (with_reducible repeat (first | refine Fix.kN ?_ _ | refine Fix.kD ?_ | refine Fix.kA ?_ _)); exact BK263.out⟩, ⟨by (with_reducible repeat (first | refine Fix.kN ?_ _ | refine Fix.kD ?_ | refine Fix.kA ?_ _)); apply Fix.put6; (with_reducible repeat (first | refine Fix.kN ?_ _ | refine Fix.kD ?_ | refine Fix.kA ?_ _)); exact BK274.out⟩, ⟨Fix.uB⟩⟩
  case round =>
    clear H'
    try clear c1
    try clear c2
    try clear p2
    try clear c4
    try clear c6
    try clear c10
    try clear c11
    try clear hcz12_0
    try clear hcz12_1
    try clear hcz12_2
    try clear hcz12_3
    try clear hcz12_4
    try clear hcz12_5
    try clear hcz7_0
    try clear hcz7_1
    try clear hcz7_2
    try clear hcz7_3
    try clear hcz7_4
    try clear hcz7_5
    try clear hfz12_0
    try clear hfz12_1
    try clear hfz12_2
    try clear hfz12_3
    try clear hfz12_4
    try clear hfz12_5
    try clear hfz7_0
    try clear hfz7_1
    try clear hfz7_2
    try clear hfz7_3
    try clear hfz7_4
    try clear hfz7_5
    obtain ⟨x6_1, x8_1, x275000_1, x275001_1, x275002_1, x275003_1, x275004_1, x275005_1, u275002, u275003, rfl, rfl, HA, HK1, HO_275002, HO_275003, BK262, BK263, BK274, HB⟩ := hrel
    cases gk with
    | zero => exact absurd HA.out (by simp [spec_RunLine.l0])
    | succ k1 =>
      have H := HA.out
      clear HA
      simp only [spec_RunLine.l0] at H
      have HC15 := Aside0.mk H
      clear H
      go_upto_region 4 with (fail)
      go_cut [20] (fun v20 wc => ∃ (kq : Nat) (x20_14 : Bool), v20 = .bool x20_14 ∧ Aside0 (spec_RunLine.j1 kq l1 x6_1 x8_1 x20_14 x275000_1 x275001_1 x275002_1 x275003_1 x275004_1 x275005_1 = some (r1, r2, r3, r4, r5, r6, r7)) ∧ Aside0 (kq ≤ k1) ∧ Aside0 (Kd.Q (Kd.int .i64) 3 wc w.heap.size (fun k_ => some k_ ≠ (u275003 : Value).ownBlock) u275002 x275002_1) ∧ Aside0 (Kd.R (Kd.int .i64) 3 wc w.heap.size (fun k_ => some k_ ≠ (u275002 : Value).ownBlock) u275003 x275003_1) ∧ Aside0 (wc.heap[gb262]? = some (.cells #[.int .i64 a0_0, .int .i64 a0_1, (.slice A0_2 l0_2.length c0_2), (.slice A0_3 l0_3.length c0_3), .int .i64 a0_4, .bool a0_5] 28 (0, 0))) ∧ Aside0 (wc.heap[gb263]? = some (.cells #[.int .i64 0, .int .i64 0, (.slice none 0 0), (.slice none 0 0), .int .i64 0, .bool false] 28 (0, 0))) ∧ Aside0 (wc.heap[gb274]? = some (.cells #[.int .i64 x275000_1, .int .i64 x275001_1, u275002, u275003, .int .i64 x275004_1, .bool x275005_1] 28 (0, 0))) ∧ Aside0 (Below w.heap.size w wc))
      case first =>
        have H := HC15.out
        clear HC15
        by_cases c16 : x8_1 < (l1.length : Int)
        · rw [if_pos c16] at H
          have c16b0 : decide (x8_1 < (l1.length : Int)) = true := decide_eq_true c16
          clear c16
          (first | rw [c16b0] | (simp only [i64_w, i32_w]; rw [c16b0]) | skip)
          have H' := Aside0.mk H
          clear H
          go_wp2
          go_meet
          case rel => exact ⟨_, (decide (x8_1 < 200)), (by first | rfl | (simp; done) | (simp [*]; done)), H', ⟨by have := HK1.out; first | omega | exact Nat.le_refl _⟩, ⟨by (with_reducible repeat (first | apply Kd.Q_alloc | apply Kd.Q_drewN | apply Kd.Q_drew)); exact HO_275002.out⟩, ⟨by (with_reducible repeat (first | apply Kd.R_alloc | apply Kd.R_drewN | apply Kd.R_drew)); exact HO_275003.out⟩, ⟨by (with_reducible repeat (first | refine Fix.kN ?_ _ | refine Fix.kD ?_ | refine Fix.kA ?_ _)); exact BK262.out⟩, ⟨by (with_reducible repeat (first | refine Fix.kN ?_ _ | refine Fix.kD ?_ | refine Fix.kA ?_ _)); exact BK263.out⟩, ⟨by (with_reducible repeat (first | refine Fix.kN ?_ _ | refine Fix.kD ?_ | refine Fix.kA ?_ _)); exact BK274.out⟩, ⟨Fix.uB⟩⟩
        · rw [if_neg c16] at H
          have c16b0 : decide (x8_1 < (l1.length : Int)) = false := decide_eq_false c16
          clear c16
          (first | rw [c16b0] | (simp only [i64_w, i32_w]; rw [c16b0]) | skip)
          have H' := Aside0.mk H
          clear H
          go_wp2
          go_meet
          case rel => exact ⟨_, (false), (by first | rfl | (simp; done) | (simp [*]; done)), H', ⟨by have := HK1.out; first | omega | exact Nat.le_refl _⟩, ⟨by (with_reducible repeat (first | apply Kd.Q_alloc | apply Kd.Q_drewN | apply Kd.Q_drew)); exact HO_275002.out⟩, ⟨by (with_reducible repeat (first | apply Kd.R_alloc | apply Kd.R_drewN | apply Kd.R_drew)); exact HO_275003.out⟩, ⟨by (with_reducible repeat (first | refine Fix.kN ?_ _ | refine Fix.kD ?_ | refine Fix.kA ?_ _)); exact BK262.out⟩, ⟨by (with_reducible repeat (first | refine Fix.kN ?_ _ | refine Fix.kD ?_ | refine Fix.kA ?_ _)); exact BK263.out⟩, ⟨by (with_reducible repeat (first | refine Fix.kN ?_ _ | refine Fix.kD ?_ | refine Fix.kA ?_ _)); exact BK274.out⟩, ⟨Fix.uB⟩⟩
      case rest =>
        clear HC15
        try clear c1
        try clear c2
        try clear p2
        try clear c4
        try clear c6
        try clear c10
        try clear c11
        try clear c16
        try clear c16b0
        try clear hcz12_0
        try clear hcz12_1
        try clear hcz12_2
        try clear hcz12_3
        try clear hcz12_4
        try clear hcz12_5
        try clear hcz7_0
        try clear hcz7_1
        try clear hcz7_2
        try clear hcz7_3
        try clear hcz7_4
        try clear hcz7_5
        try clear hfz12_0
        try clear hfz12_1
        try clear hfz12_2
        try clear hfz12_3
        try clear hfz12_4
        try clear hfz12_5
        try clear hfz7_0
        try clear hfz7_1
        try clear hfz7_2
        try clear hfz7_3
        try clear hfz7_4
        try clear hfz7_5
        try clear p2
        obtain ⟨kq, x20_14, rfl, HA, HJ14, HO_275002, HO_275003, BK262, BK263, BK274, HB⟩ := hcut
        cases kq with
        | zero => exact absurd HA.out (by simp [spec_RunLine.j1])
        | succ kj14 =>
          have H := HA.out
          clear HA
          simp only [spec_RunLine.j1] at H
          by_cases c17 : x20_14 = true
          · subst c17
            have H1 : (if 0 ≤ x8_1 then (if x8_1 < (l1.length : Int) then ((spec_LineStep.f kj14 x275000_1 x275001_1 x275002_1 x275003_1 x275004_1 x275005_1 (rd l1 x8_1)).bind fun bt276 => (if bt276.2.2.2.2.2.2 = true then (spec_RunLine.l0 kj14 l1 (wrap64 (x6_1 + 1)) (wrap64 (x8_1 + 1)) bt276.1 bt276.2.1 bt276.2.2.1 bt276.2.2.2.1 bt276.2.2.2.2.1 bt276.2.2.2.2.2.1) else (spec_RunLine.l0 kj14 l1 x6_1 (wrap64 (x8_1 + 1)) bt276.1 bt276.2.1 bt276.2.2.1 bt276.2.2.2.1 bt276.2.2.2.2.1 bt276.2.2.2.2.2.1))) else (none)) else (none)) = some (r1, r2, r3, r4, r5, r6, r7) := by rw [if_pos rfl] at H; exact H
            clear H
            have H := H1
            clear H1
            by_cases c18 : 0 ≤ x8_1
            · rw [if_pos c18] at H
              have c18b0 : decide (0 ≤ x8_1) = true := decide_eq_true c18
              clear c18
              by_cases c19 : x8_1 < (l1.length : Int)
              · rw [if_pos c19] at H
                have c19b0 : decide (x8_1 < (l1.length : Int)) = true := decide_eq_true c19
                clear c19
                replace H := Option.bind_eq_some_iff.mp H
                obtain ⟨⟨t276, t277, t278, t281, t284, t285, t286⟩, A200, H⟩ := H
                replace H : (if t286 = true then (spec_RunLine.l0 kj14 l1 (wrap64 (x6_1 + 1)) (wrap64 (x8_1 + 1)) t276 t277 t278 t281 t284 t285) else (spec_RunLine.l0 kj14 l1 x6_1 (wrap64 (x8_1 + 1)) t276 t277 t278 t281 t284 t285)) = some (r1, r2, r3, r4, r5, r6, r7) := H
                have A20 := Aside0.mk A200
                clear A200
                by_cases c21 : t286 = true
                · subst c21
                  have H1 : (spec_RunLine.l0 kj14 l1 (wrap64 (x6_1 + 1)) (wrap64 (x8_1 + 1)) t276 t277 t278 t281 t284 t285) = some (r1, r2, r3, r4, r5, r6, r7) := by rw [if_pos rfl] at H; exact H
                  clear H
                  have H := H1
                  clear H1
                  have H' := Aside0.mk H
                  clear H
                  obtain ⟨Ao22, co22, eo22, _⟩ := Kd.Q_slice HO_275002.out
                  subst eo22
                  obtain ⟨Ao23, co23, eo23⟩ := Kd.R_slice HO_275003.out
                  subst eo23
                  try go_wp2
                  have n0_ := Aside0.mk (Kd.Q_drew HO_275002.out)
                  have n1_ := Aside0.mk (Kd.R_drew HO_275003.out)
                  have n2_ := Aside0.mk (blk_drew BK262.out)
                  have n3_ := Aside0.mk (blk_drew BK263.out)
                  have n4_ := Aside0.mk (blk_drew BK274.out)
                  have n5_ := Aside0.mk (below_drew1 HB.out)
                  clear HO_275002
                  clear HO_275003
                  clear BK262
                  clear BK263
                  clear BK274
                  clear HB
                  have HO_275002 := n0_
                  have HO_275003 := n1_
                  have BK262 := n2_
                  have BK263 := n3_
                  have BK274 := n4_
                  have HB := n5_
                  clear n0_ n1_ n2_ n3_ n4_ n5_
                  have p275 : 0 ≤ (x8_1 : Int) := of_decide_eq_true (by first | (with_reducible assumption) | assumption)
                  have q275 : x8_1 < (l1.length : Int) := of_decide_eq_true (by first | (with_reducible assumption) | assumption)
                  obtain ⟨ad275, e275, hx275_0⟩ := Kd.at_int HR1.out x8_1 p275 q275
                  have hw275_0 := hx275_0
                  cases e275
                  replace hx275_0 := (HB.out.cell (World.block_lt_of_cell? w _ hx275_0)).trans hx275_0
                  replace p275 := eq_true p275
                  replace q275 := eq_true q275
                  refine start_ (n := 12) (S := fun w' => w'.cell? ⟨gb274, 0, none⟩ = some (.int .i64 x275000_1) ∧ w'.cell? ⟨gb274, 1, none⟩ = some (.int .i64 x275001_1) ∧ w'.cell? ⟨gb274, 2, none⟩ = some (.slice Ao22 x275002_1.length co22) ∧ w'.cell? ⟨gb274, 3, none⟩ = some (.slice Ao23 x275003_1.length co23) ∧ w'.cell? ⟨gb274, 4, none⟩ = some (.int .i64 x275004_1) ∧ w'.cell? ⟨gb274, 5, none⟩ = some (.bool x275005_1) ∧ w'.cell? (ad275.add (x8_1).toNat) = some (.int .i64 (rd l1 x8_1))) (ds := []) #[false, false, false, false, false, false, false, false, false, false, false, false] (by kernel_rfl) rfl rfl ⟨(blk_cell BK274.out 0).trans rfl, (blk_cell BK274.out 1).trans rfl, (blk_cell BK274.out 2).trans rfl, (blk_cell BK274.out 3).trans rfl, (blk_cell BK274.out 4).trans rfl, (blk_cell BK274.out 5).trans rfl, ((HB.out.cell (World.block_lt_of_cell? w _ hw275_0)).trans hw275_0)⟩ (fun hHeld => ?_); refine with_tabW spec_RunLine.tab6 spec_RunLine.bits6 (fun HT_ HW_ => ?_)
                  generalize wc.drew = w24 at HO_275002 HO_275003 BK262 BK263 BK274 HB hx275_0 hHeld ⊢
                  refine pure_ (i := 1) (N := some 25) (v := ?_) (a' := ?_) #[false, true, false, false, false, false, false, false, false, false, false, false] rfl rfl (any_of HT_.out (by kernel_rfl)) (fun _ _ _ h => h) (Or.inl ⟨by rfl, ?_⟩) ?_ ?_
                  rotate_left
                  · intro w'
                    go_simp
                    with_reducible rfl
                  rotate_left
                  · simp only [Act.put, List.setIfInBounds_toArray, List.set_cons_zero, List.set_cons_succ, i64_w, i32_w]
                    rfl
                  refine pure_ (i := 2) (N := some 26) (v := ?_) (a' := ?_) #[false, true, true, false, false, false, false, false, false, false, false, false] rfl rfl (any_of HT_.out (by kernel_rfl)) (fun _ _ _ h => h) (Or.inl ⟨by rfl, ?_⟩) ?_ ?_
                  rotate_left
                  · intro w'
                    go_simp
                    with_reducible rfl
                  rotate_left
                  · simp only [Act.put, List.setIfInBounds_toArray, List.set_cons_zero, List.set_cons_succ, i64_w, i32_w]
                    rfl
                  refine pure_ (i := 3) (N := some 27) (v := ?_) (a' := ?_) #[false, true, true, true, false, false, false, false, false, false, false, false] rfl rfl (any_of HT_.out (by kernel_rfl)) (fun _ _ _ h => h) (Or.inl ⟨by rfl, ?_⟩) ?_ ?_
                  rotate_left
                  · intro w'
                    go_simp
                    with_reducible rfl
                  rotate_left
                  · simp only [Act.put, List.setIfInBounds_toArray, List.set_cons_zero, List.set_cons_succ, i64_w, i32_w]
                    rfl
                  refine take_ (i := 0) (N := some 24) (v := ?_) (a' := ?_) #[true, true, true, true, false, false, false, false, false, false, false, false] rfl rfl (take_ofW HT_.out HW_.out (by kernel_rfl)) (fun _ _ _ h => h) (Or.inl ⟨by rfl, ?_⟩) hHeld ?_ ?_
                  rotate_left
                  · rintro w' ⟨s0, s1, s2, s3, s4, s5, s6⟩
                    go_simp
                    with_reducible rfl
                  rotate_left
                  · simp only [Act.put, List.setIfInBounds_toArray, List.set_cons_zero, List.set_cons_succ, i64_w, i32_w]
                    rfl
                  refine take_ (i := 4) (N := some 28) (v := ?_) (a' := ?_) #[true, true, true, true, true, false, false, false, false, false, false, false] rfl rfl (take_ofW HT_.out HW_.out (by kernel_rfl)) (fun _ _ _ h => h) (Or.inl ⟨by rfl, ?_⟩) hHeld ?_ ?_
                  rotate_left
                  · rintro w' ⟨s0, s1, s2, s3, s4, s5, s6⟩
                    go_simp
                    with_reducible rfl
                  rotate_left
                  · simp only [Act.put, List.setIfInBounds_toArray, List.set_cons_zero, List.set_cons_succ, i64_w, i32_w]
                    rfl
                  refine join_ (σ := Value × Value × Nat) 2 #[true, true, true, true, true, true, true, true, true, true, false, false] (fun s_ => [(29, .tuple #[.agg #[.int .i64 t276, .int .i64 t277, s_.1, s_.2.1, .int .i64 t284, .bool t285], .bool true]), (9, .pointer (some ⟨s_.2.2, 0, none⟩)), (23, .tuple #[.agg #[.int .i64 t276, .int .i64 t277, s_.1, s_.2.1, .int .i64 t284, .bool t285], .bool true]), (30, .agg #[.int .i64 t276, .int .i64 t277, s_.1, s_.2.1, .int .i64 t284, .bool t285]), (31, .bool true)]) (fun s_ w' => (w'.cell? ⟨gb274, 0, none⟩ = some (.int .i64 x275000_1) ∧ w'.cell? ⟨gb274, 1, none⟩ = some (.int .i64 x275001_1) ∧ w'.cell? ⟨gb274, 2, none⟩ = some (.slice Ao22 x275002_1.length co22) ∧ w'.cell? ⟨gb274, 3, none⟩ = some (.slice Ao23 x275003_1.length co23) ∧ w'.cell? ⟨gb274, 4, none⟩ = some (.int .i64 x275004_1) ∧ w'.cell? ⟨gb274, 5, none⟩ = some (.bool x275005_1) ∧ w'.cell? (ad275.add (x8_1).toNat) = some (.int .i64 (rd l1 x8_1))) ∧ (Kd.Q (Kd.int .i64) 3 w' w.heap.size (fun k_ => some k_ ≠ (s_.2.1 : Value).ownBlock ∧ some k_ ≠ (.slice Ao22 x275002_1.length co22 : Value).ownBlock ∧ some k_ ≠ (.slice Ao23 x275003_1.length co23 : Value).ownBlock) s_.1 t278) ∧ (Kd.R (Kd.int .i64) 3 w' w.heap.size (fun k_ => some k_ ≠ (s_.1 : Value).ownBlock ∧ some k_ ≠ (.slice Ao22 x275002_1.length co22 : Value).ownBlock ∧ some k_ ≠ (.slice Ao23 x275003_1.length co23 : Value).ownBlock) s_.2.1 t281) ∧ (Kd.Q (Kd.int .i64) 3 w' w.heap.size (fun k_ => some k_ ≠ (s_.1 : Value).ownBlock ∧ some k_ ≠ (s_.2.1 : Value).ownBlock ∧ some k_ ≠ (.slice Ao23 x275003_1.length co23 : Value).ownBlock) (.slice Ao22 x275002_1.length co22) x275002_1) ∧ (Kd.R (Kd.int .i64) 3 w' w.heap.size (fun k_ => some k_ ≠ (s_.1 : Value).ownBlock ∧ some k_ ≠ (s_.2.1 : Value).ownBlock ∧ some k_ ≠ (.slice Ao22 x275002_1.length co22 : Value).ownBlock) (.slice Ao23 x275003_1.length co23) x275003_1) ∧ (w'.heap[gb262]? = some (.cells #[.int .i64 a0_0, .int .i64 a0_1, .slice A0_2 l0_2.length c0_2, .slice A0_3 l0_3.length c0_3, .int .i64 a0_4, .bool a0_5] 28 (0, 0))) ∧ (w'.heap[gb263]? = some (.cells #[.int .i64 0, .int .i64 0, .slice none 0 0, .slice none 0 0, .int .i64 0, .bool false] 28 (0, 0))) ∧ (w'.heap[gb274]? = some (.cells #[.int .i64 x275000_1, .int .i64 x275001_1, .slice Ao22 x275002_1.length co22, .slice Ao23 x275003_1.length co23, .int .i64 x275004_1, .bool x275005_1] 28 (0, 0))) ∧ (w'.heap[s_.2.2]? = some (.cells #[.int .i64 0, .int .i64 0, .slice none 0 0, .slice none 0 0, .int .i64 0, .bool false] 28 (0, 0))) ∧ (w.heap.size ≤ s_.2.2) ∧ (w.heap.size ≤ s_.2.2) ∧ (gb262 ≠ s_.2.2) ∧ (s_.2.2 ≠ gb262) ∧ (gb263 ≠ s_.2.2) ∧ (s_.2.2 ≠ gb263) ∧ (gb274 ≠ s_.2.2) ∧ (s_.2.2 ≠ gb274) ∧ (Below w.heap.size w w')) ?_ ?_
                  rotate_left
                  · intro hCont
                    refine two_ (i := 5) (j := 9) (Ni := some 29) (Nj := some 9) #[true, true, true, true, true, true, false, false, false, false, false, false] #[true, true, true, true, true, false, false, false, false, true, false, false] rfl rfl rfl rfl (two_of HT_.out (by kernel_rfl)) (by decide) (by decide) (fun K hK => ?_) (fun K hK => ?_)
                    · skip
                      refine goes_ Try.func28 (by kernel_rfl) rfl #[.agg #[.int .i64 x275000_1, .int .i64 x275001_1, .slice Ao22 x275002_1.length co22, .slice Ao23 x275003_1.length co23, .int .i64 x275004_1, .bool x275005_1], .int .i64 (rd l1 x8_1)] (by rfl) rfl rfl Fix.uA ?_
                      with_reducible refine (spec_LineStep.calls kj14 x275000_1 x275001_1 _ _ x275002_1 _ _ x275003_1 x275004_1 x275005_1 (rd l1 x8_1) t276 t277 t278 t281 t284 t285 true _ ?side1 ?side2 ?side3 ?side4 A20.out).mono ?_
                      (case side1 => exact Fix.uC (Kd.Q_reads' HO_275002.out).2.2)
                      (case side2 => exact (Kd.Q_reads' HO_275002.out).2.1)
                      (case side3 => exact Fix.uC (Kd.R_reads' HO_275003.out).2.2)
                      (case side4 => exact (Kd.R_reads' HO_275003.out).2.1)
                      rintro e w25 ⟨v279, v282, rfl, ho0, ho1, hb⟩
                      refine ⟨_, rfl, ?_⟩
                      have n0_ := Aside0.mk (Kd.Q_mono (Kd.Q_told (Kd.Q_told (Kd.Q_old (Fix.uQ HO_275002.out) hb) (Kd.Q_base ho0)) (Kd.R_base ho1)) (fun _ h_ => h_.1))
                      have n1_ := Aside0.mk (Kd.R_mono (Kd.R_told (Kd.R_told (Kd.R_old (Fix.uR HO_275003.out) hb) (Kd.Q_base ho0)) (Kd.R_base ho1)) (fun _ h_ => h_.1))
                      have n2_ := Aside0.mk (Kd.Q_lower (Kd.Q_new' (Kd.Q_new' ho0 (Kd.Q_lt (Fix.uQ HO_275002.out))) (Kd.R_lt (Fix.uR HO_275003.out))) (below_size Fix.uB))
                      have n3_ := Aside0.mk (Kd.R_lower (Kd.R_new' (Kd.R_new' ho1 (Kd.Q_lt (Fix.uQ HO_275002.out))) (Kd.R_lt (Fix.uR HO_275003.out))) (below_size Fix.uB))
                      have n4_ := Aside0.mk (blk_below (g := gb262) (o := .cells #[.int .i64 a0_0, .int .i64 a0_1, .slice A0_2 l0_2.length c0_2, .slice A0_3 l0_3.length c0_3, .int .i64 a0_4, .bool a0_5] 28 (0, 0)) (Fix.uK BK262.out) hb)
                      have n5_ := Aside0.mk (blk_below (g := gb263) (o := .cells #[.int .i64 0, .int .i64 0, .slice none 0 0, .slice none 0 0, .int .i64 0, .bool false] 28 (0, 0)) (Fix.uK BK263.out) hb)
                      have n6_ := Aside0.mk (blk_below (g := gb274) (o := .cells #[.int .i64 x275000_1, .int .i64 x275001_1, .slice Ao22 x275002_1.length co22, .slice Ao23 x275003_1.length co23, .int .i64 x275004_1, .bool x275005_1] 28 (0, 0)) (Fix.uK BK274.out) hb)
                      have n7_ := Aside0.mk (below_step Fix.uB hb)
                      clear HO_275002
                      clear HO_275003
                      clear BK262
                      clear BK263
                      clear BK274
                      clear HB
                      have HO_275002 := n0_
                      have HO_275003 := n1_
                      have HO280 := n2_
                      have HO283 := n3_
                      have BK262 := n4_
                      have BK263 := n5_
                      have BK274 := n6_
                      have HB := n7_
                      clear n0_ n1_ n2_ n3_ n4_ n5_ n6_ n7_
                      (try clear hb)
                      (try clear hb2)
                      (try clear hk)
                      (try clear hi)
                      (try clear ho0)
                      (try clear ho1)
                      refine hK.out _ _ ⟨(blk_cell BK274.out 0).trans rfl, (blk_cell BK274.out 1).trans rfl, (blk_cell BK274.out 2).trans rfl, (blk_cell BK274.out 3).trans rfl, (blk_cell BK274.out 4).trans rfl, (blk_cell BK274.out 5).trans rfl, ((HB.out.cell (World.block_lt_of_cell? w _ hw275_0)).trans hw275_0)⟩ (fun hHeld => ?_)
                      clear hK K
                      refine norm_ (a' := ?_) ?_ ?_
                      rotate_left
                      · show Act.put _ (some 29) _ = _
                        simp only [Act.put, List.setIfInBounds_toArray, List.set_cons_zero, List.set_cons_succ, i64_w, i32_w]
                        rfl
                      refine pure_ (i := 6) (N := some 23) (v := ?_) (a' := ?_) #[true, true, true, true, true, true, true, false, false, false, false, false] rfl rfl (any_of HT_.out (by kernel_rfl)) (fun _ _ _ h => h) (Or.inl ⟨by rfl, ?_⟩) ?_ ?_
                      rotate_left
                      · intro w'
                        go_simp
                        with_reducible rfl
                      rotate_left
                      · simp only [Act.put, List.setIfInBounds_toArray, List.set_cons_zero, List.set_cons_succ, i64_w, i32_w]
                        rfl
                      refine pure_ (i := 7) (N := some 30) (v := ?_) (a' := ?_) #[true, true, true, true, true, true, true, true, false, false, false, false] rfl rfl (any_of HT_.out (by kernel_rfl)) (fun _ _ _ h => h) (Or.inl ⟨by rfl, ?_⟩) ?_ ?_
                      rotate_left
                      · intro w'
                        go_simp
                        with_reducible rfl
                      rotate_left
                      · simp only [Act.put, List.setIfInBounds_toArray, List.set_cons_zero, List.set_cons_succ, i64_w, i32_w]
                        rfl
                      refine pure_ (i := 8) (N := some 31) (v := ?_) (a' := ?_) #[true, true, true, true, true, true, true, true, true, false, false, false] rfl rfl (any_of HT_.out (by kernel_rfl)) (fun _ _ _ h => h) (Or.inl ⟨by rfl, ?_⟩) ?_ ?_
                      rotate_left
                      · intro w'
                        go_simp
                        with_reducible rfl
                      rotate_left
                      · simp only [Act.put, List.setIfInBounds_toArray, List.set_cons_zero, List.set_cons_succ, i64_w, i32_w]
                        rfl
                      refine one_ (i := 9) (N := some 9) #[true, true, true, true, true, true, true, true, true, true, false, false] rfl rfl (one_of HT_.out (by kernel_rfl)) (by decide) (fun K hK => ?_)
                      refine box_step ?hg (N := 9) ?hd (cs := #[.int .i64 0, .int .i64 0, .slice none 0 0, .slice none 0 0, .int .i64 0, .bool false]) (t := 28) ?hr ?_; (case hd => rfl); (case hg => rfl); (case hr => first | (go_simp; done) | (go_simp; rfl))
                      intro gb287 hg w26 hbox hb
                      have n0_ := Aside0.mk (Kd.Q_below (Fix.uQ HO_275002.out) hb)
                      have n1_ := Aside0.mk (Kd.R_below (Fix.uR HO_275003.out) hb)
                      have n2_ := Aside0.mk (Kd.Q_below (Fix.uQ HO280.out) hb)
                      have n3_ := Aside0.mk (Kd.R_below (Fix.uR HO283.out) hb)
                      have n4_ := Aside0.mk (blk_below (g := gb262) (o := .cells #[.int .i64 a0_0, .int .i64 a0_1, .slice A0_2 l0_2.length c0_2, .slice A0_3 l0_3.length c0_3, .int .i64 a0_4, .bool a0_5] 28 (0, 0)) (Fix.uK BK262.out) hb)
                      have n5_ := Aside0.mk (blk_below (g := gb263) (o := .cells #[.int .i64 0, .int .i64 0, .slice none 0 0, .slice none 0 0, .int .i64 0, .bool false] 28 (0, 0)) (Fix.uK BK263.out) hb)
                      have n6_ := Aside0.mk (blk_below (g := gb274) (o := .cells #[.int .i64 x275000_1, .int .i64 x275001_1, .slice Ao22 x275002_1.length co22, .slice Ao23 x275003_1.length co23, .int .i64 x275004_1, .bool x275005_1] 28 (0, 0)) (Fix.uK BK274.out) hb)
                      have n7_ := Aside0.mk (below_step Fix.uB hb)
                      have n8_ := Aside0.mk (hbox)
                      have n9_ := Aside0.mk ((by rw [hg]; exact (below_size Fix.uB) : w.heap.size ≤ gb287))
                      have n10_ := Aside0.mk ((by rw [hg]; exact (below_size Fix.uB) : w.heap.size ≤ gb287))
                      have n11_ := Aside0.mk ((by rw [hg]; exact Nat.ne_of_lt (blk_lt (g := gb262) (o := .cells #[.int .i64 a0_0, .int .i64 a0_1, .slice A0_2 l0_2.length c0_2, .slice A0_3 l0_3.length c0_3, .int .i64 a0_4, .bool a0_5] 28 (0, 0)) (Fix.uK BK262.out)) : gb262 ≠ gb287))
                      have n12_ := Aside0.mk ((by rw [hg]; exact Nat.ne_of_gt (blk_lt (g := gb262) (o := .cells #[.int .i64 a0_0, .int .i64 a0_1, .slice A0_2 l0_2.length c0_2, .slice A0_3 l0_3.length c0_3, .int .i64 a0_4, .bool a0_5] 28 (0, 0)) (Fix.uK BK262.out)) : gb287 ≠ gb262))
                      have n13_ := Aside0.mk ((by rw [hg]; exact Nat.ne_of_lt (blk_lt (g := gb263) (o := .cells #[.int .i64 0, .int .i64 0, .slice none 0 0, .slice none 0 0, .int .i64 0, .bool false] 28 (0, 0)) (Fix.uK BK263.out)) : gb263 ≠ gb287))
                      have n14_ := Aside0.mk ((by rw [hg]; exact Nat.ne_of_gt (blk_lt (g := gb263) (o := .cells #[.int .i64 0, .int .i64 0, .slice none 0 0, .slice none 0 0, .int .i64 0, .bool false] 28 (0, 0)) (Fix.uK BK263.out)) : gb287 ≠ gb263))
                      have n15_ := Aside0.mk ((by rw [hg]; exact Nat.ne_of_lt (blk_lt (g := gb274) (o := .cells #[.int .i64 x275000_1, .int .i64 x275001_1, .slice Ao22 x275002_1.length co22, .slice Ao23 x275003_1.length co23, .int .i64 x275004_1, .bool x275005_1] 28 (0, 0)) (Fix.uK BK274.out)) : gb274 ≠ gb287))
                      have n16_ := Aside0.mk ((by rw [hg]; exact Nat.ne_of_gt (blk_lt (g := gb274) (o := .cells #[.int .i64 x275000_1, .int .i64 x275001_1, .slice Ao22 x275002_1.length co22, .slice Ao23 x275003_1.length co23, .int .i64 x275004_1, .bool x275005_1] 28 (0, 0)) (Fix.uK BK274.out)) : gb287 ≠ gb274))
                      clear HO_275002
                      clear HO_275003
                      clear HO280
                      clear HO283
                      clear BK262
                      clear BK263
                      clear BK274
                      clear HB
                      have HO_275002 := n0_
                      have HO_275003 := n1_
                      have HO280 := n2_
                      have HO283 := n3_
                      have BK262 := n4_
                      have BK263 := n5_
                      have BK274 := n6_
                      have HB := n7_
                      have BK287 := n8_
                      have GW287 := n9_
                      have GE287 := n10_
                      have NB262_287 := n11_
                      have NB287_262 := n12_
                      have NB263_287 := n13_
                      have NB287_263 := n14_
                      have NB274_287 := n15_
                      have NB287_274 := n16_
                      clear n0_ n1_ n2_ n3_ n4_ n5_ n6_ n7_ n8_ n9_ n10_ n11_ n12_ n13_ n14_ n15_ n16_
                      clear hb hbox hg
                      refine hK.out _ _ ⟨(blk_cell BK274.out 0).trans rfl, (blk_cell BK274.out 1).trans rfl, (blk_cell BK274.out 2).trans rfl, (blk_cell BK274.out 3).trans rfl, (blk_cell BK274.out 4).trans rfl, (blk_cell BK274.out 5).trans rfl, ((HB.out.cell (World.block_lt_of_cell? w _ hw275_0)).trans hw275_0)⟩ (fun hHeld => ?_)
                      clear hK K
                      refine norm_ (a' := ?_) ?_ ?_
                      rotate_left
                      · show Act.put _ (some 9) _ = _
                        simp only [Act.put, List.setIfInBounds_toArray, List.set_cons_zero, List.set_cons_succ, i64_w, i32_w]
                        rfl
                      exact norm_ (by simp only [putAll, Act.put, List.setIfInBounds_toArray, List.set_cons_zero, List.set_cons_succ]) (hCont (v279, v282, gb287) _ ⟨hHeld, (by (with_reducible repeat (first | apply Kd.Q_alloc | apply Kd.Q_drewN | apply Kd.Q_drew)); exact Kd.Q_mono HO280.out (fun _ hk => ⟨hk.1.1, ⟨hk.1.2, hk.2⟩⟩)), (by (with_reducible repeat (first | apply Kd.R_alloc | apply Kd.R_drewN | apply Kd.R_drew)); exact Kd.R_mono HO283.out (fun _ hk => ⟨hk.1.1, ⟨hk.1.2, hk.2⟩⟩)), (by (with_reducible repeat (first | apply Kd.Q_alloc | apply Kd.Q_drewN | apply Kd.Q_drew)); exact Kd.Q_mono HO_275002.out (fun _ hk => ⟨hk.1.2, ⟨hk.2, hk.1.1⟩⟩)), (by (with_reducible repeat (first | apply Kd.R_alloc | apply Kd.R_drewN | apply Kd.R_drew)); exact Kd.R_mono HO_275003.out (fun _ hk => ⟨hk.1.2, ⟨hk.2, hk.1.1⟩⟩)), (Fix.uK BK262.out), (Fix.uK BK263.out), (Fix.uK BK274.out), (Fix.uK BK287.out), GW287.out, GE287.out, NB262_287.out, NB287_262.out, NB263_287.out, NB287_263.out, NB274_287.out, NB287_274.out, Fix.uB⟩)
                    · skip
                      refine box_step ?hg (N := 9) ?hd (cs := #[.int .i64 0, .int .i64 0, .slice none 0 0, .slice none 0 0, .int .i64 0, .bool false]) (t := 28) ?hr ?_; (case hd => rfl); (case hg => rfl); (case hr => first | (go_simp; done) | (go_simp; rfl))
                      intro gb287 hg w25 hbox hb
                      have n0_ := Aside0.mk (Kd.Q_below (Fix.uQ HO_275002.out) hb)
                      have n1_ := Aside0.mk (Kd.R_below (Fix.uR HO_275003.out) hb)
                      have n2_ := Aside0.mk (blk_below (g := gb262) (o := .cells #[.int .i64 a0_0, .int .i64 a0_1, .slice A0_2 l0_2.length c0_2, .slice A0_3 l0_3.length c0_3, .int .i64 a0_4, .bool a0_5] 28 (0, 0)) (Fix.uK BK262.out) hb)
                      have n3_ := Aside0.mk (blk_below (g := gb263) (o := .cells #[.int .i64 0, .int .i64 0, .slice none 0 0, .slice none 0 0, .int .i64 0, .bool false] 28 (0, 0)) (Fix.uK BK263.out) hb)
                      have n4_ := Aside0.mk (blk_below (g := gb274) (o := .cells #[.int .i64 x275000_1, .int .i64 x275001_1, .slice Ao22 x275002_1.length co22, .slice Ao23 x275003_1.length co23, .int .i64 x275004_1, .bool x275005_1] 28 (0, 0)) (Fix.uK BK274.out) hb)
                      have n5_ := Aside0.mk (below_step Fix.uB hb)
                      have n6_ := Aside0.mk (hbox)
                      have n7_ := Aside0.mk ((by rw [hg]; exact (below_size Fix.uB) : w.heap.size ≤ gb287))
                      have n8_ := Aside0.mk ((by rw [hg]; exact (below_size Fix.uB) : w.heap.size ≤ gb287))
                      have n9_ := Aside0.mk ((by rw [hg]; exact Nat.ne_of_lt (blk_lt (g := gb262) (o := .cells #[.int .i64 a0_0, .int .i64 a0_1, .slice A0_2 l0_2.length c0_2, .slice A0_3 l0_3.length c0_3, .int .i64 a0_4, .bool a0_5] 28 (0, 0)) (Fix.uK BK262.out)) : gb262 ≠ gb287))
                      have n10_ := Aside0.mk ((by rw [hg]; exact Nat.ne_of_gt (blk_lt (g := gb262) (o := .cells #[.int .i64 a0_0, .int .i64 a0_1, .slice A0_2 l0_2.length c0_2, .slice A0_3 l0_3.length c0_3, .int .i64 a0_4, .bool a0_5] 28 (0, 0)) (Fix.uK BK262.out)) : gb287 ≠ gb262))
                      have n11_ := Aside0.mk ((by rw [hg]; exact Nat.ne_of_lt (blk_lt (g := gb263) (o := .cells #[.int .i64 0, .int .i64 0, .slice none 0 0, .slice none 0 0, .int .i64 0, .bool false] 28 (0, 0)) (Fix.uK BK263.out)) : gb263 ≠ gb287))
                      have n12_ := Aside0.mk ((by rw [hg]; exact Nat.ne_of_gt (blk_lt (g := gb263) (o := .cells #[.int .i64 0, .int .i64 0, .slice none 0 0, .slice none 0 0, .int .i64 0, .bool false] 28 (0, 0)) (Fix.uK BK263.out)) : gb287 ≠ gb263))
                      have n13_ := Aside0.mk ((by rw [hg]; exact Nat.ne_of_lt (blk_lt (g := gb274) (o := .cells #[.int .i64 x275000_1, .int .i64 x275001_1, .slice Ao22 x275002_1.length co22, .slice Ao23 x275003_1.length co23, .int .i64 x275004_1, .bool x275005_1] 28 (0, 0)) (Fix.uK BK274.out)) : gb274 ≠ gb287))
                      have n14_ := Aside0.mk ((by rw [hg]; exact Nat.ne_of_gt (blk_lt (g := gb274) (o := .cells #[.int .i64 x275000_1, .int .i64 x275001_1, .slice Ao22 x275002_1.length co22, .slice Ao23 x275003_1.length co23, .int .i64 x275004_1, .bool x275005_1] 28 (0, 0)) (Fix.uK BK274.out)) : gb287 ≠ gb274))
                      clear HO_275002
                      clear HO_275003
                      clear BK262
                      clear BK263
                      clear BK274
                      clear HB
                      have HO_275002 := n0_
                      have HO_275003 := n1_
                      have BK262 := n2_
                      have BK263 := n3_
                      have BK274 := n4_
                      have HB := n5_
                      have BK287 := n6_
                      have GW287 := n7_
                      have GE287 := n8_
                      have NB262_287 := n9_
                      have NB287_262 := n10_
                      have NB263_287 := n11_
                      have NB287_263 := n12_
                      have NB274_287 := n13_
                      have NB287_274 := n14_
                      clear n0_ n1_ n2_ n3_ n4_ n5_ n6_ n7_ n8_ n9_ n10_ n11_ n12_ n13_ n14_
                      clear hb hbox hg
                      refine hK.out _ _ ⟨(blk_cell BK274.out 0).trans rfl, (blk_cell BK274.out 1).trans rfl, (blk_cell BK274.out 2).trans rfl, (blk_cell BK274.out 3).trans rfl, (blk_cell BK274.out 4).trans rfl, (blk_cell BK274.out 5).trans rfl, ((HB.out.cell (World.block_lt_of_cell? w _ hw275_0)).trans hw275_0)⟩ (fun hHeld => ?_)
                      clear hK K
                      refine norm_ (a' := ?_) ?_ ?_
                      rotate_left
                      · show Act.put _ (some 9) _ = _
                        simp only [Act.put, List.setIfInBounds_toArray, List.set_cons_zero, List.set_cons_succ, i64_w, i32_w]
                        rfl
                      refine one_ (i := 5) (N := some 29) #[true, true, true, true, true, true, false, false, false, true, false, false] rfl rfl (one_of HT_.out (by kernel_rfl)) (by decide) (fun K hK => ?_)
                      refine goes_ Try.func28 (by kernel_rfl) rfl #[.agg #[.int .i64 x275000_1, .int .i64 x275001_1, .slice Ao22 x275002_1.length co22, .slice Ao23 x275003_1.length co23, .int .i64 x275004_1, .bool x275005_1], .int .i64 (rd l1 x8_1)] (by rfl) rfl rfl Fix.uA ?_
                      with_reducible refine (spec_LineStep.calls kj14 x275000_1 x275001_1 _ _ x275002_1 _ _ x275003_1 x275004_1 x275005_1 (rd l1 x8_1) t276 t277 t278 t281 t284 t285 true _ ?side1 ?side2 ?side3 ?side4 A20.out).mono ?_
                      (case side1 => exact Fix.uC (Kd.Q_reads' HO_275002.out).2.2)
                      (case side2 => exact (Kd.Q_reads' HO_275002.out).2.1)
                      (case side3 => exact Fix.uC (Kd.R_reads' HO_275003.out).2.2)
                      (case side4 => exact (Kd.R_reads' HO_275003.out).2.1)
                      rintro e w26 ⟨v279, v282, rfl, ho0, ho1, hb⟩
                      refine ⟨_, rfl, ?_⟩
                      have n0_ := Aside0.mk (Kd.Q_mono (Kd.Q_told (Kd.Q_told (Kd.Q_old (Fix.uQ HO_275002.out) hb) (Kd.Q_base ho0)) (Kd.R_base ho1)) (fun _ h_ => h_.1))
                      have n1_ := Aside0.mk (Kd.R_mono (Kd.R_told (Kd.R_told (Kd.R_old (Fix.uR HO_275003.out) hb) (Kd.Q_base ho0)) (Kd.R_base ho1)) (fun _ h_ => h_.1))
                      have n2_ := Aside0.mk (Kd.Q_lower (Kd.Q_new' (Kd.Q_new' ho0 (Kd.Q_lt (Fix.uQ HO_275002.out))) (Kd.R_lt (Fix.uR HO_275003.out))) (below_size Fix.uB))
                      have n3_ := Aside0.mk (Kd.R_lower (Kd.R_new' (Kd.R_new' ho1 (Kd.Q_lt (Fix.uQ HO_275002.out))) (Kd.R_lt (Fix.uR HO_275003.out))) (below_size Fix.uB))
                      have n4_ := Aside0.mk (blk_below (g := gb262) (o := .cells #[.int .i64 a0_0, .int .i64 a0_1, .slice A0_2 l0_2.length c0_2, .slice A0_3 l0_3.length c0_3, .int .i64 a0_4, .bool a0_5] 28 (0, 0)) (Fix.uK BK262.out) hb)
                      have n5_ := Aside0.mk (blk_below (g := gb263) (o := .cells #[.int .i64 0, .int .i64 0, .slice none 0 0, .slice none 0 0, .int .i64 0, .bool false] 28 (0, 0)) (Fix.uK BK263.out) hb)
                      have n6_ := Aside0.mk (blk_below (g := gb274) (o := .cells #[.int .i64 x275000_1, .int .i64 x275001_1, .slice Ao22 x275002_1.length co22, .slice Ao23 x275003_1.length co23, .int .i64 x275004_1, .bool x275005_1] 28 (0, 0)) (Fix.uK BK274.out) hb)
                      have n7_ := Aside0.mk (blk_below (g := gb287) (o := .cells #[.int .i64 0, .int .i64 0, .slice none 0 0, .slice none 0 0, .int .i64 0, .bool false] 28 (0, 0)) (Fix.uK BK287.out) hb)
                      have n8_ := Aside0.mk (below_step Fix.uB hb)
                      clear HO_275002
                      clear HO_275003
                      clear BK262
                      clear BK263
                      clear BK274
                      clear BK287
                      clear HB
                      have HO_275002 := n0_
                      have HO_275003 := n1_
                      have HO280 := n2_
                      have HO283 := n3_
                      have BK262 := n4_
                      have BK263 := n5_
                      have BK274 := n6_
                      have BK287 := n7_
                      have HB := n8_
                      clear n0_ n1_ n2_ n3_ n4_ n5_ n6_ n7_ n8_
                      (try clear hb)
                      (try clear hb2)
                      (try clear hk)
                      (try clear hi)
                      (try clear ho0)
                      (try clear ho1)
                      refine hK.out _ _ ⟨(blk_cell BK274.out 0).trans rfl, (blk_cell BK274.out 1).trans rfl, (blk_cell BK274.out 2).trans rfl, (blk_cell BK274.out 3).trans rfl, (blk_cell BK274.out 4).trans rfl, (blk_cell BK274.out 5).trans rfl, ((HB.out.cell (World.block_lt_of_cell? w _ hw275_0)).trans hw275_0)⟩ (fun hHeld => ?_)
                      clear hK K
                      refine norm_ (a' := ?_) ?_ ?_
                      rotate_left
                      · show Act.put _ (some 29) _ = _
                        simp only [Act.put, List.setIfInBounds_toArray, List.set_cons_zero, List.set_cons_succ, i64_w, i32_w]
                        rfl
                      refine pure_ (i := 6) (N := some 23) (v := ?_) (a' := ?_) #[true, true, true, true, true, true, true, false, false, true, false, false] rfl rfl (any_of HT_.out (by kernel_rfl)) (fun _ _ _ h => h) (Or.inl ⟨by rfl, ?_⟩) ?_ ?_
                      rotate_left
                      · intro w'
                        go_simp
                        with_reducible rfl
                      rotate_left
                      · simp only [Act.put, List.setIfInBounds_toArray, List.set_cons_zero, List.set_cons_succ, i64_w, i32_w]
                        rfl
                      refine pure_ (i := 7) (N := some 30) (v := ?_) (a' := ?_) #[true, true, true, true, true, true, true, true, false, true, false, false] rfl rfl (any_of HT_.out (by kernel_rfl)) (fun _ _ _ h => h) (Or.inl ⟨by rfl, ?_⟩) ?_ ?_
                      rotate_left
                      · intro w'
                        go_simp
                        with_reducible rfl
                      rotate_left
                      · simp only [Act.put, List.setIfInBounds_toArray, List.set_cons_zero, List.set_cons_succ, i64_w, i32_w]
                        rfl
                      refine pure_ (i := 8) (N := some 31) (v := ?_) (a' := ?_) #[true, true, true, true, true, true, true, true, true, true, false, false] rfl rfl (any_of HT_.out (by kernel_rfl)) (fun _ _ _ h => h) (Or.inl ⟨by rfl, ?_⟩) ?_ ?_
                      rotate_left
                      · intro w'
                        go_simp
                        with_reducible rfl
                      rotate_left
                      · simp only [Act.put, List.setIfInBounds_toArray, List.set_cons_zero, List.set_cons_succ, i64_w, i32_w]
                        rfl
                      exact norm_ (by simp only [putAll, Act.put, List.setIfInBounds_toArray, List.set_cons_zero, List.set_cons_succ]) (hCont (v279, v282, gb287) _ ⟨hHeld, (by (with_reducible repeat (first | apply Kd.Q_alloc | apply Kd.Q_drewN | apply Kd.Q_drew)); exact Kd.Q_mono HO280.out (fun _ hk => ⟨hk.1.1, ⟨hk.1.2, hk.2⟩⟩)), (by (with_reducible repeat (first | apply Kd.R_alloc | apply Kd.R_drewN | apply Kd.R_drew)); exact Kd.R_mono HO283.out (fun _ hk => ⟨hk.1.1, ⟨hk.1.2, hk.2⟩⟩)), (by (with_reducible repeat (first | apply Kd.Q_alloc | apply Kd.Q_drewN | apply Kd.Q_drew)); exact Kd.Q_mono HO_275002.out (fun _ hk => ⟨hk.1.2, ⟨hk.2, hk.1.1⟩⟩)), (by (with_reducible repeat (first | apply Kd.R_alloc | apply Kd.R_drewN | apply Kd.R_drew)); exact Kd.R_mono HO_275003.out (fun _ hk => ⟨hk.1.2, ⟨hk.2, hk.1.1⟩⟩)), (Fix.uK BK262.out), (Fix.uK BK263.out), (Fix.uK BK274.out), (Fix.uK BK287.out), GW287.out, GE287.out, NB262_287.out, NB287_262.out, NB263_287.out, NB287_263.out, NB274_287.out, NB287_274.out, Fix.uB⟩)
                  rintro ⟨v279, v282, gb287⟩ w27 ⟨hS_, h0_, h1_, h2_, h3_, h4_, h5_, h6_, h7_, h8_, h9_, h10_, h11_, h12_, h13_, h14_, h15_, h16_⟩
                  have n0_ : Aside0 (Kd.Q (Kd.int .i64) 3 w27 w.heap.size (fun k_ => some k_ ≠ (v282 : Value).ownBlock ∧ some k_ ≠ (.slice Ao22 x275002_1.length co22 : Value).ownBlock ∧ some k_ ≠ (.slice Ao23 x275003_1.length co23 : Value).ownBlock) v279 t278) := ⟨h0_⟩
                  have n1_ : Aside0 (Kd.R (Kd.int .i64) 3 w27 w.heap.size (fun k_ => some k_ ≠ (v279 : Value).ownBlock ∧ some k_ ≠ (.slice Ao22 x275002_1.length co22 : Value).ownBlock ∧ some k_ ≠ (.slice Ao23 x275003_1.length co23 : Value).ownBlock) v282 t281) := ⟨h1_⟩
                  have n2_ : Aside0 (Kd.Q (Kd.int .i64) 3 w27 w.heap.size (fun k_ => some k_ ≠ (v279 : Value).ownBlock ∧ some k_ ≠ (v282 : Value).ownBlock ∧ some k_ ≠ (.slice Ao23 x275003_1.length co23 : Value).ownBlock) (.slice Ao22 x275002_1.length co22) x275002_1) := ⟨h2_⟩
                  have n3_ : Aside0 (Kd.R (Kd.int .i64) 3 w27 w.heap.size (fun k_ => some k_ ≠ (v279 : Value).ownBlock ∧ some k_ ≠ (v282 : Value).ownBlock ∧ some k_ ≠ (.slice Ao22 x275002_1.length co22 : Value).ownBlock) (.slice Ao23 x275003_1.length co23) x275003_1) := ⟨h3_⟩
                  have n4_ : Aside0 (w27.heap[gb262]? = some (.cells #[.int .i64 a0_0, .int .i64 a0_1, .slice A0_2 l0_2.length c0_2, .slice A0_3 l0_3.length c0_3, .int .i64 a0_4, .bool a0_5] 28 (0, 0))) := ⟨h4_⟩
                  have n5_ : Aside0 (w27.heap[gb263]? = some (.cells #[.int .i64 0, .int .i64 0, .slice none 0 0, .slice none 0 0, .int .i64 0, .bool false] 28 (0, 0))) := ⟨h5_⟩
                  have n6_ : Aside0 (w27.heap[gb274]? = some (.cells #[.int .i64 x275000_1, .int .i64 x275001_1, .slice Ao22 x275002_1.length co22, .slice Ao23 x275003_1.length co23, .int .i64 x275004_1, .bool x275005_1] 28 (0, 0))) := ⟨h6_⟩
                  have n7_ : Aside0 (w27.heap[gb287]? = some (.cells #[.int .i64 0, .int .i64 0, .slice none 0 0, .slice none 0 0, .int .i64 0, .bool false] 28 (0, 0))) := ⟨h7_⟩
                  have n8_ : Aside0 (w.heap.size ≤ gb287) := ⟨h8_⟩
                  have n9_ : Aside0 (w.heap.size ≤ gb287) := ⟨h9_⟩
                  have n10_ : Aside0 (gb262 ≠ gb287) := ⟨h10_⟩
                  have n11_ : Aside0 (gb287 ≠ gb262) := ⟨h11_⟩
                  have n12_ : Aside0 (gb263 ≠ gb287) := ⟨h12_⟩
                  have n13_ : Aside0 (gb287 ≠ gb263) := ⟨h13_⟩
                  have n14_ : Aside0 (gb274 ≠ gb287) := ⟨h14_⟩
                  have n15_ : Aside0 (gb287 ≠ gb274) := ⟨h15_⟩
                  have n16_ : Aside0 (Below w.heap.size w w27) := ⟨h16_⟩
                  clear HO_275002
                  clear HO_275003
                  clear BK262
                  clear BK263
                  clear BK274
                  clear HB
                  clear h0_ h1_ h2_ h3_ h4_ h5_ h6_ h7_ h8_ h9_ h10_ h11_ h12_ h13_ h14_ h15_ h16_
                  have HO280 := n0_
                  have HO283 := n1_
                  have HO_275002 := n2_
                  have HO_275003 := n3_
                  have BK262 := n4_
                  have BK263 := n5_
                  have BK274 := n6_
                  have BK287 := n7_
                  have GW287 := n8_
                  have GE287 := n9_
                  have NB262_287 := n10_
                  have NB287_262 := n11_
                  have NB263_287 := n12_
                  have NB287_263 := n13_
                  have NB274_287 := n14_
                  have NB287_274 := n15_
                  have HB := n16_
                  clear n0_ n1_ n2_ n3_ n4_ n5_ n6_ n7_ n8_ n9_ n10_ n11_ n12_ n13_ n14_ n15_ n16_
                  have hHeld : w27.cell? ⟨gb274, 0, none⟩ = some (.int .i64 x275000_1) ∧ w27.cell? ⟨gb274, 1, none⟩ = some (.int .i64 x275001_1) ∧ w27.cell? ⟨gb274, 2, none⟩ = some (.slice Ao22 x275002_1.length co22) ∧ w27.cell? ⟨gb274, 3, none⟩ = some (.slice Ao23 x275003_1.length co23) ∧ w27.cell? ⟨gb274, 4, none⟩ = some (.int .i64 x275004_1) ∧ w27.cell? ⟨gb274, 5, none⟩ = some (.bool x275005_1) ∧ w27.cell? (ad275.add (x8_1).toNat) = some (.int .i64 (rd l1 x8_1)) := hS_
                  obtain ⟨Ao30, co30, eo30, _⟩ := Kd.Q_slice HO280.out
                  (first | subst eo30 | (injection eo30 with f1_ f2_ f3_; have f4_ := f1_.symm; have f5_ := f3_.symm; clear f1_ f2_ f3_; subst f4_; subst f5_))
                  obtain ⟨Ao32, co32, eo32⟩ := Kd.R_slice HO283.out
                  (first | subst eo32 | (injection eo32 with f1_ f2_ f3_; have f4_ := f1_.symm; have f5_ := f3_.symm; clear f1_ f2_ f3_; subst f4_; subst f5_))
                  refine norm_ (a' := ?_) ?_ ?_
                  rotate_left
                  · simp only [putAll, Act.put, List.setIfInBounds_toArray, List.set_cons_zero, List.set_cons_succ]
                    rfl
                  refine one_ (i := 10) (N := none) #[true, true, true, true, true, true, true, true, true, true, true, false] rfl rfl (one_of HT_.out (by kernel_rfl)) (by decide) (fun K hK => ?_)
                  have hs28 : w27.cell? ⟨gb287, 0, none⟩ = some (.int .i64 0) := (blk_cell BK287.out 0).trans rfl
                  have hfs28 := blk_frozen BK287.out 0
                  have hns28_0 := NB262_287.out
                  have hns28_1 := NB263_287.out
                  have hns28_2 := NB274_287.out
                  have hms28_0 := NB287_262.out
                  have hms28_1 := NB287_263.out
                  have hms28_2 := NB287_274.out
                  have hs29 : w27.cell? ⟨gb287, 1, none⟩ = some (.int .i64 0) := (blk_cell BK287.out 1).trans rfl
                  have hfs29 := blk_frozen BK287.out 1
                  have hns29_0 := NB262_287.out
                  have hns29_1 := NB263_287.out
                  have hns29_2 := NB274_287.out
                  have hms29_0 := NB287_262.out
                  have hms29_1 := NB287_263.out
                  have hms29_2 := NB287_274.out
                  have hs31 : w27.cell? ⟨gb287, 2, none⟩ = some (.slice none 0 0) := (blk_cell BK287.out 2).trans rfl
                  have hfs31 := blk_frozen BK287.out 2
                  have hns31_0 := NB262_287.out
                  have hns31_1 := NB263_287.out
                  have hns31_2 := NB274_287.out
                  have hms31_0 := NB287_262.out
                  have hms31_1 := NB287_263.out
                  have hms31_2 := NB287_274.out
                  have hs33 : w27.cell? ⟨gb287, 3, none⟩ = some (.slice none 0 0) := (blk_cell BK287.out 3).trans rfl
                  have hfs33 := blk_frozen BK287.out 3
                  have hns33_0 := NB262_287.out
                  have hns33_1 := NB263_287.out
                  have hns33_2 := NB274_287.out
                  have hms33_0 := NB287_262.out
                  have hms33_1 := NB287_263.out
                  have hms33_2 := NB287_274.out
                  have hs34 : w27.cell? ⟨gb287, 4, none⟩ = some (.int .i64 0) := (blk_cell BK287.out 4).trans rfl
                  have hfs34 := blk_frozen BK287.out 4
                  have hns34_0 := NB262_287.out
                  have hns34_1 := NB263_287.out
                  have hns34_2 := NB274_287.out
                  have hms34_0 := NB287_262.out
                  have hms34_1 := NB287_263.out
                  have hms34_2 := NB287_274.out
                  have hs35 : w27.cell? ⟨gb287, 5, none⟩ = some (.bool false) := (blk_cell BK287.out 5).trans rfl
                  have hfs35 := blk_frozen BK287.out 5
                  have hns35_0 := NB262_287.out
                  have hns35_1 := NB263_287.out
                  have hns35_2 := NB274_287.out
                  have hms35_0 := NB287_262.out
                  have hms35_1 := NB287_263.out
                  have hms35_2 := NB287_274.out
                  refine skip_ (w1 := ?_) (by rfl) rfl ?_ ?_
                  rotate_left
                  · go_simp
                    rfl
                  refine hK.out _ _ ⟨(Fix.cf6 NB274_287.out (hHeld.1)), (Fix.cf6 NB274_287.out (hHeld.2.1)), (Fix.cf6 NB274_287.out (hHeld.2.2.1)), (Fix.cf6 NB274_287.out (hHeld.2.2.2.1)), (Fix.cf6 NB274_287.out (hHeld.2.2.2.2.1)), (Fix.cf6 NB274_287.out (hHeld.2.2.2.2.2.1)), ((cell_far (p := ⟨gb287, _, none⟩) (by first | exact Nat.ne_of_lt (Nat.lt_of_lt_of_le (by have := World.block_lt_of_cell? _ _ hw275_0; first | rwa [add_block] at this | exact this) GW287.out) | (rw [add_block]; exact Nat.ne_of_lt (Nat.lt_of_lt_of_le (by have := World.block_lt_of_cell? _ _ hw275_0; first | rwa [add_block] at this | exact this) GW287.out)) | (show (Addr.add _ _).block ≠ _; rw [add_block]; exact Nat.ne_of_lt (Nat.lt_of_lt_of_le (by have := World.block_lt_of_cell? _ _ hw275_0; first | rwa [add_block] at this | exact this) GW287.out)) | (dsimp only; exact Nat.ne_of_lt (Nat.lt_of_lt_of_le (by have := World.block_lt_of_cell? _ _ hw275_0; first | rwa [add_block] at this | exact this) GW287.out))) _).trans (((cell_far (p := ⟨gb287, _, none⟩) (by first | exact Nat.ne_of_lt (Nat.lt_of_lt_of_le (by have := World.block_lt_of_cell? _ _ hw275_0; first | rwa [add_block] at this | exact this) GW287.out) | (rw [add_block]; exact Nat.ne_of_lt (Nat.lt_of_lt_of_le (by have := World.block_lt_of_cell? _ _ hw275_0; first | rwa [add_block] at this | exact this) GW287.out)) | (show (Addr.add _ _).block ≠ _; rw [add_block]; exact Nat.ne_of_lt (Nat.lt_of_lt_of_le (by have := World.block_lt_of_cell? _ _ hw275_0; first | rwa [add_block] at this | exact this) GW287.out)) | (dsimp only; exact Nat.ne_of_lt (Nat.lt_of_lt_of_le (by have := World.block_lt_of_cell? _ _ hw275_0; first | rwa [add_block] at this | exact this) GW287.out))) _).trans (((cell_far (p := ⟨gb287, _, none⟩) (by first | exact Nat.ne_of_lt (Nat.lt_of_lt_of_le (by have := World.block_lt_of_cell? _ _ hw275_0; first | rwa [add_block] at this | exact this) GW287.out) | (rw [add_block]; exact Nat.ne_of_lt (Nat.lt_of_lt_of_le (by have := World.block_lt_of_cell? _ _ hw275_0; first | rwa [add_block] at this | exact this) GW287.out)) | (show (Addr.add _ _).block ≠ _; rw [add_block]; exact Nat.ne_of_lt (Nat.lt_of_lt_of_le (by have := World.block_lt_of_cell? _ _ hw275_0; first | rwa [add_block] at this | exact this) GW287.out)) | (dsimp only; exact Nat.ne_of_lt (Nat.lt_of_lt_of_le (by have := World.block_lt_of_cell? _ _ hw275_0; first | rwa [add_block] at this | exact this) GW287.out))) _).trans (((cell_far (p := ⟨gb287, _, none⟩) (by first | exact Nat.ne_of_lt (Nat.lt_of_lt_of_le (by have := World.block_lt_of_cell? _ _ hw275_0; first | rwa [add_block] at this | exact this) GW287.out) | (rw [add_block]; exact Nat.ne_of_lt (Nat.lt_of_lt_of_le (by have := World.block_lt_of_cell? _ _ hw275_0; first | rwa [add_block] at this | exact this) GW287.out)) | (show (Addr.add _ _).block ≠ _; rw [add_block]; exact Nat.ne_of_lt (Nat.lt_of_lt_of_le (by have := World.block_lt_of_cell? _ _ hw275_0; first | rwa [add_block] at this | exact this) GW287.out)) | (dsimp only; exact Nat.ne_of_lt (Nat.lt_of_lt_of_le (by have := World.block_lt_of_cell? _ _ hw275_0; first | rwa [add_block] at this | exact this) GW287.out))) _).trans (((cell_far (p := ⟨gb287, _, none⟩) (by first | exact Nat.ne_of_lt (Nat.lt_of_lt_of_le (by have := World.block_lt_of_cell? _ _ hw275_0; first | rwa [add_block] at this | exact this) GW287.out) | (rw [add_block]; exact Nat.ne_of_lt (Nat.lt_of_lt_of_le (by have := World.block_lt_of_cell? _ _ hw275_0; first | rwa [add_block] at this | exact this) GW287.out)) | (show (Addr.add _ _).block ≠ _; rw [add_block]; exact Nat.ne_of_lt (Nat.lt_of_lt_of_le (by have := World.block_lt_of_cell? _ _ hw275_0; first | rwa [add_block] at this | exact this) GW287.out)) | (dsimp only; exact Nat.ne_of_lt (Nat.lt_of_lt_of_le (by have := World.block_lt_of_cell? _ _ hw275_0; first | rwa [add_block] at this | exact this) GW287.out))) _).trans (((cell_far (p := ⟨gb287, _, none⟩) (by first | exact Nat.ne_of_lt (Nat.lt_of_lt_of_le (by have := World.block_lt_of_cell? _ _ hw275_0; first | rwa [add_block] at this | exact this) GW287.out) | (rw [add_block]; exact Nat.ne_of_lt (Nat.lt_of_lt_of_le (by have := World.block_lt_of_cell? _ _ hw275_0; first | rwa [add_block] at this | exact this) GW287.out)) | (show (Addr.add _ _).block ≠ _; rw [add_block]; exact Nat.ne_of_lt (Nat.lt_of_lt_of_le (by have := World.block_lt_of_cell? _ _ hw275_0; first | rwa [add_block] at this | exact this) GW287.out)) | (dsimp only; exact Nat.ne_of_lt (Nat.lt_of_lt_of_le (by have := World.block_lt_of_cell? _ _ hw275_0; first | rwa [add_block] at this | exact this) GW287.out))) _).trans (hHeld.2.2.2.2.2.2))))))))))))⟩ (fun hHeld => ?_)
                  clear hK K
                  refine pure_ (i := 11) (N := some 10) (v := ?_) (a' := ?_) #[true, true, true, true, true, true, true, true, true, true, true, true] rfl rfl (any_of HT_.out (by kernel_rfl)) (fun _ _ _ h => h) (Or.inl ⟨by rfl, ?_⟩) ?_ ?_
                  rotate_left
                  · intro w'
                    go_simp
                    with_reducible rfl
                  rotate_left
                  · simp only [Act.put, List.setIfInBounds_toArray, List.set_cons_zero, List.set_cons_succ, i64_w, i32_w]
                    rfl
                  refine done_ (done_of HT_.out (by kernel_rfl)) ?_
                  have hnb36 := NB287_262.out
                  have hnc36 := NB262_287.out
                  have hnb37 := NB287_263.out
                  have hnc37 := NB263_287.out
                  have hnb38 := NB287_274.out
                  have hnc38 := NB274_287.out
                  obtain ⟨hcz39_0, hcz39_1, hcz39_2, hcz39_3, hcz39_4, hcz39_5, hfz39_0, hfz39_1, hfz39_2, hfz39_3, hfz39_4, hfz39_5⟩ := Fix.d6 BK287.out
                  have hnb40 := NB274_262.out
                  have hnc40 := NB262_274.out
                  have hnb41 := NB274_263.out
                  have hnc41 := NB263_274.out
                  obtain ⟨hcz42_0, hcz42_1, hcz42_2, hcz42_3, hcz42_4, hcz42_5, hfz42_0, hfz42_1, hfz42_2, hfz42_3, hfz42_4, hfz42_5⟩ := Fix.d6 BK274.out
                  try go_wp2
                  go_roundg kj14
                  case measure => have := HK1.out; have := HJ14.out; omega
                  case rel => exact ⟨(wrap64 (x6_1 + 1)), (wrap64 (x8_1 + 1)), (t276), (t277), (t278), (t281), (t284), (t285), (.slice Ao30 t278.length co30), (.slice Ao32 t281.length co32), (by first | rfl | (simp; done) | (simp [*]; done)), (by first | rfl | (simp; done) | (simp [*]; done)), H', ⟨by have := HK1.out; have := HJ14.out; omega⟩, ⟨by (with_reducible repeat (first | apply Kd.Q_alloc | apply Kd.Q_drewN | apply Kd.Q_drew)); exact Kd.Q_mono (Fix.Q_far6 (g := gb274) (Kd.Q_far (p := ⟨gb287, 5, none⟩) (Kd.Q_far (p := ⟨gb287, 4, none⟩) (Kd.Q_far (p := ⟨gb287, 3, none⟩) (Kd.Q_far (p := ⟨gb287, 2, none⟩) (Kd.Q_far (p := ⟨gb287, 1, none⟩) (Kd.Q_far (p := ⟨gb287, 0, none⟩) (Kd.Q_types (Kd.Q_types HO280.out BK287.out (by decide)) BK274.out (by decide)) (fun _ hk => hk.1.2) (.int .i64 t276)) (fun _ hk => hk.1.2) (.int .i64 t277)) (fun _ hk => hk.1.2) (.slice Ao30 t278.length co30)) (fun _ hk => hk.1.2) (.slice Ao32 t281.length co32)) (fun _ hk => hk.1.2) (.int .i64 t284)) (fun _ hk => hk.1.2) (.bool t285)) (fun _ hk => hk.2) _ _ _ _ _ _) (fun _ hk => hk.1.1.1)⟩, ⟨by (with_reducible repeat (first | apply Kd.R_alloc | apply Kd.R_drewN | apply Kd.R_drew)); exact Kd.R_mono (Fix.R_far6 (g := gb274) (Kd.R_far (p := ⟨gb287, 5, none⟩) (Kd.R_far (p := ⟨gb287, 4, none⟩) (Kd.R_far (p := ⟨gb287, 3, none⟩) (Kd.R_far (p := ⟨gb287, 2, none⟩) (Kd.R_far (p := ⟨gb287, 1, none⟩) (Kd.R_far (p := ⟨gb287, 0, none⟩) (Kd.R_types (Kd.R_types HO283.out BK287.out (by decide)) BK274.out (by decide)) (fun _ hk => hk.1.2) (.int .i64 t276)) (fun _ hk => hk.1.2) (.int .i64 t277)) (fun _ hk => hk.1.2) (.slice Ao30 t278.length co30)) (fun _ hk => hk.1.2) (.slice Ao32 t281.length co32)) (fun _ hk => hk.1.2) (.int .i64 t284)) (fun _ hk => hk.1.2) (.bool t285)) (fun _ hk => hk.2) _ _ _ _ _ _) (fun _ hk => hk.1.1.1)⟩, ⟨by (with_reducible repeat (first | refine Fix.kN ?_ _ | refine Fix.kD ?_ | refine Fix.kA ?_ _)); refine Fix.far6 ?_ NB262_274.out _ _ _ _ _ _; (with_reducible repeat (first | refine Fix.kN ?_ _ | refine Fix.kD ?_ | refine Fix.kA ?_ _)); refine Fix.far6 ?_ NB262_287.out _ _ _ _ _ _; (with_reducible repeat (first | refine Fix.kN ?_ _ | refine Fix.kD ?_ | refine Fix.kA ?_ _)); exact BK262.out⟩, ⟨by (with_reducible repeat (first | refine Fix.kN ?_ _ | refine Fix.kD ?_ | refine Fix.kA ?_ _)); refine Fix.far6 ?_ NB263_274.out _ _ _ _ _ _; (with_reducible repeat (first | refine Fix.kN ?_ _ | refine Fix.kD ?_ | refine Fix.kA ?_ _)); refine Fix.far6 ?_ NB263_287.out _ _ _ _ _ _; (with_reducible repeat (first | refine Fix.kN ?_ _ | refine Fix.kD ?_ | refine Fix.kA ?_ _)); exact BK263.out⟩, ⟨by (with_reducible repeat (first | refine Fix.kN ?_ _ | refine Fix.kD ?_ | refine Fix.kA ?_ _)); apply Fix.put6; (with_reducible repeat (first | refine Fix.kN ?_ _ | refine Fix.kD ?_ | refine Fix.kA ?_ _)); refine Fix.far6 ?_ NB274_287.out _ _ _ _ _ _; (with_reducible repeat (first | refine Fix.kN ?_ _ | refine Fix.kD ?_ | refine Fix.kA ?_ _)); exact BK274.out⟩, ⟨Fix.uB⟩⟩
                · replace c21 := Bool.eq_false_iff.mpr c21
                  subst c21
                  have H1 : (spec_RunLine.l0 kj14 l1 x6_1 (wrap64 (x8_1 + 1)) t276 t277 t278 t281 t284 t285) = some (r1, r2, r3, r4, r5, r6, r7) := by rw [if_neg (show ¬ (false = true) by decide)] at H; exact H
                  clear H
                  have H := H1
                  clear H1
                  have H' := Aside0.mk H
                  clear H
                  obtain ⟨Ao43, co43, eo43, _⟩ := Kd.Q_slice HO_275002.out
                  subst eo43
                  obtain ⟨Ao44, co44, eo44⟩ := Kd.R_slice HO_275003.out
                  subst eo44
                  try go_wp2
                  have n0_ := Aside0.mk (Kd.Q_drew HO_275002.out)
                  have n1_ := Aside0.mk (Kd.R_drew HO_275003.out)
                  have n2_ := Aside0.mk (blk_drew BK262.out)
                  have n3_ := Aside0.mk (blk_drew BK263.out)
                  have n4_ := Aside0.mk (blk_drew BK274.out)
                  have n5_ := Aside0.mk (below_drew1 HB.out)
                  clear HO_275002
                  clear HO_275003
                  clear BK262
                  clear BK263
                  clear BK274
                  clear HB
                  have HO_275002 := n0_
                  have HO_275003 := n1_
                  have BK262 := n2_
                  have BK263 := n3_
                  have BK274 := n4_
                  have HB := n5_
                  clear n0_ n1_ n2_ n3_ n4_ n5_
                  have p275 : 0 ≤ (x8_1 : Int) := of_decide_eq_true (by first | (with_reducible assumption) | assumption)
                  have q275 : x8_1 < (l1.length : Int) := of_decide_eq_true (by first | (with_reducible assumption) | assumption)
                  obtain ⟨ad275, e275, hx275_0⟩ := Kd.at_int HR1.out x8_1 p275 q275
                  have hw275_0 := hx275_0
                  cases e275
                  replace hx275_0 := (HB.out.cell (World.block_lt_of_cell? w _ hx275_0)).trans hx275_0
                  replace p275 := eq_true p275
                  replace q275 := eq_true q275
                  refine start_ (n := 12) (S := fun w' => w'.cell? ⟨gb274, 0, none⟩ = some (.int .i64 x275000_1) ∧ w'.cell? ⟨gb274, 1, none⟩ = some (.int .i64 x275001_1) ∧ w'.cell? ⟨gb274, 2, none⟩ = some (.slice Ao43 x275002_1.length co43) ∧ w'.cell? ⟨gb274, 3, none⟩ = some (.slice Ao44 x275003_1.length co44) ∧ w'.cell? ⟨gb274, 4, none⟩ = some (.int .i64 x275004_1) ∧ w'.cell? ⟨gb274, 5, none⟩ = some (.bool x275005_1) ∧ w'.cell? (ad275.add (x8_1).toNat) = some (.int .i64 (rd l1 x8_1))) (ds := []) #[false, false, false, false, false, false, false, false, false, false, false, false] (by kernel_rfl) rfl rfl ⟨(blk_cell BK274.out 0).trans rfl, (blk_cell BK274.out 1).trans rfl, (blk_cell BK274.out 2).trans rfl, (blk_cell BK274.out 3).trans rfl, (blk_cell BK274.out 4).trans rfl, (blk_cell BK274.out 5).trans rfl, ((HB.out.cell (World.block_lt_of_cell? w _ hw275_0)).trans hw275_0)⟩ (fun hHeld => ?_); refine with_tabW spec_RunLine.tab6 spec_RunLine.bits6 (fun HT_ HW_ => ?_)
                  generalize wc.drew = w45 at HO_275002 HO_275003 BK262 BK263 BK274 HB hx275_0 hHeld ⊢
                  refine pure_ (i := 1) (N := some 25) (v := ?_) (a' := ?_) #[false, true, false, false, false, false, false, false, false, false, false, false] rfl rfl (any_of HT_.out (by kernel_rfl)) (fun _ _ _ h => h) (Or.inl ⟨by rfl, ?_⟩) ?_ ?_
                  rotate_left
                  · intro w'
                    go_simp
                    with_reducible rfl
                  rotate_left
                  · simp only [Act.put, List.setIfInBounds_toArray, List.set_cons_zero, List.set_cons_succ, i64_w, i32_w]
                    rfl
                  refine pure_ (i := 2) (N := some 26) (v := ?_) (a' := ?_) #[false, true, true, false, false, false, false, false, false, false, false, false] rfl rfl (any_of HT_.out (by kernel_rfl)) (fun _ _ _ h => h) (Or.inl ⟨by rfl, ?_⟩) ?_ ?_
                  rotate_left
                  · intro w'
                    go_simp
                    with_reducible rfl
                  rotate_left
                  · simp only [Act.put, List.setIfInBounds_toArray, List.set_cons_zero, List.set_cons_succ, i64_w, i32_w]
                    rfl
                  refine pure_ (i := 3) (N := some 27) (v := ?_) (a' := ?_) #[false, true, true, true, false, false, false, false, false, false, false, false] rfl rfl (any_of HT_.out (by kernel_rfl)) (fun _ _ _ h => h) (Or.inl ⟨by rfl, ?_⟩) ?_ ?_
                  rotate_left
                  · intro w'
                    go_simp
                    with_reducible rfl
                  rotate_left
                  · simp only [Act.put, List.setIfInBounds_toArray, List.set_cons_zero, List.set_cons_succ, i64_w, i32_w]
                    rfl
                  refine take_ (i := 0) (N := some 24) (v := ?_) (a' := ?_) #[true, true, true, true, false, false, false, false, false, false, false, false] rfl rfl (take_ofW HT_.out HW_.out (by kernel_rfl)) (fun _ _ _ h => h) (Or.inl ⟨by rfl, ?_⟩) hHeld ?_ ?_
                  rotate_left
                  · rintro w' ⟨s0, s1, s2, s3, s4, s5, s6⟩
                    go_simp
                    with_reducible rfl
                  rotate_left
                  · simp only [Act.put, List.setIfInBounds_toArray, List.set_cons_zero, List.set_cons_succ, i64_w, i32_w]
                    rfl
                  refine take_ (i := 4) (N := some 28) (v := ?_) (a' := ?_) #[true, true, true, true, true, false, false, false, false, false, false, false] rfl rfl (take_ofW HT_.out HW_.out (by kernel_rfl)) (fun _ _ _ h => h) (Or.inl ⟨by rfl, ?_⟩) hHeld ?_ ?_
                  rotate_left
                  · rintro w' ⟨s0, s1, s2, s3, s4, s5, s6⟩
                    go_simp
                    with_reducible rfl
                  rotate_left
                  · simp only [Act.put, List.setIfInBounds_toArray, List.set_cons_zero, List.set_cons_succ, i64_w, i32_w]
                    rfl
                  refine join_ (σ := Value × Value × Nat) 2 #[true, true, true, true, true, true, true, true, true, true, false, false] (fun s_ => [(29, .tuple #[.agg #[.int .i64 t276, .int .i64 t277, s_.1, s_.2.1, .int .i64 t284, .bool t285], .bool false]), (9, .pointer (some ⟨s_.2.2, 0, none⟩)), (23, .tuple #[.agg #[.int .i64 t276, .int .i64 t277, s_.1, s_.2.1, .int .i64 t284, .bool t285], .bool false]), (30, .agg #[.int .i64 t276, .int .i64 t277, s_.1, s_.2.1, .int .i64 t284, .bool t285]), (31, .bool false)]) (fun s_ w' => (w'.cell? ⟨gb274, 0, none⟩ = some (.int .i64 x275000_1) ∧ w'.cell? ⟨gb274, 1, none⟩ = some (.int .i64 x275001_1) ∧ w'.cell? ⟨gb274, 2, none⟩ = some (.slice Ao43 x275002_1.length co43) ∧ w'.cell? ⟨gb274, 3, none⟩ = some (.slice Ao44 x275003_1.length co44) ∧ w'.cell? ⟨gb274, 4, none⟩ = some (.int .i64 x275004_1) ∧ w'.cell? ⟨gb274, 5, none⟩ = some (.bool x275005_1) ∧ w'.cell? (ad275.add (x8_1).toNat) = some (.int .i64 (rd l1 x8_1))) ∧ (Kd.Q (Kd.int .i64) 3 w' w.heap.size (fun k_ => some k_ ≠ (s_.2.1 : Value).ownBlock ∧ some k_ ≠ (.slice Ao43 x275002_1.length co43 : Value).ownBlock ∧ some k_ ≠ (.slice Ao44 x275003_1.length co44 : Value).ownBlock) s_.1 t278) ∧ (Kd.R (Kd.int .i64) 3 w' w.heap.size (fun k_ => some k_ ≠ (s_.1 : Value).ownBlock ∧ some k_ ≠ (.slice Ao43 x275002_1.length co43 : Value).ownBlock ∧ some k_ ≠ (.slice Ao44 x275003_1.length co44 : Value).ownBlock) s_.2.1 t281) ∧ (Kd.Q (Kd.int .i64) 3 w' w.heap.size (fun k_ => some k_ ≠ (s_.1 : Value).ownBlock ∧ some k_ ≠ (s_.2.1 : Value).ownBlock ∧ some k_ ≠ (.slice Ao44 x275003_1.length co44 : Value).ownBlock) (.slice Ao43 x275002_1.length co43) x275002_1) ∧ (Kd.R (Kd.int .i64) 3 w' w.heap.size (fun k_ => some k_ ≠ (s_.1 : Value).ownBlock ∧ some k_ ≠ (s_.2.1 : Value).ownBlock ∧ some k_ ≠ (.slice Ao43 x275002_1.length co43 : Value).ownBlock) (.slice Ao44 x275003_1.length co44) x275003_1) ∧ (w'.heap[gb262]? = some (.cells #[.int .i64 a0_0, .int .i64 a0_1, .slice A0_2 l0_2.length c0_2, .slice A0_3 l0_3.length c0_3, .int .i64 a0_4, .bool a0_5] 28 (0, 0))) ∧ (w'.heap[gb263]? = some (.cells #[.int .i64 0, .int .i64 0, .slice none 0 0, .slice none 0 0, .int .i64 0, .bool false] 28 (0, 0))) ∧ (w'.heap[gb274]? = some (.cells #[.int .i64 x275000_1, .int .i64 x275001_1, .slice Ao43 x275002_1.length co43, .slice Ao44 x275003_1.length co44, .int .i64 x275004_1, .bool x275005_1] 28 (0, 0))) ∧ (w'.heap[s_.2.2]? = some (.cells #[.int .i64 0, .int .i64 0, .slice none 0 0, .slice none 0 0, .int .i64 0, .bool false] 28 (0, 0))) ∧ (w.heap.size ≤ s_.2.2) ∧ (w.heap.size ≤ s_.2.2) ∧ (gb262 ≠ s_.2.2) ∧ (s_.2.2 ≠ gb262) ∧ (gb263 ≠ s_.2.2) ∧ (s_.2.2 ≠ gb263) ∧ (gb274 ≠ s_.2.2) ∧ (s_.2.2 ≠ gb274) ∧ (Below w.heap.size w w')) ?_ ?_
                  rotate_left
                  · intro hCont
                    refine two_ (i := 5) (j := 9) (Ni := some 29) (Nj := some 9) #[true, true, true, true, true, true, false, false, false, false, false, false] #[true, true, true, true, true, false, false, false, false, true, false, false] rfl rfl rfl rfl (two_of HT_.out (by kernel_rfl)) (by decide) (by decide) (fun K hK => ?_) (fun K hK => ?_)
                    · skip
                      refine goes_ Try.func28 (by kernel_rfl) rfl #[.agg #[.int .i64 x275000_1, .int .i64 x275001_1, .slice Ao43 x275002_1.length co43, .slice Ao44 x275003_1.length co44, .int .i64 x275004_1, .bool x275005_1], .int .i64 (rd l1 x8_1)] (by rfl) rfl rfl Fix.uA ?_
                      with_reducible refine (spec_LineStep.calls kj14 x275000_1 x275001_1 _ _ x275002_1 _ _ x275003_1 x275004_1 x275005_1 (rd l1 x8_1) t276 t277 t278 t281 t284 t285 false _ ?side1 ?side2 ?side3 ?side4 A20.out).mono ?_
                      (case side1 => exact Fix.uC (Kd.Q_reads' HO_275002.out).2.2)
                      (case side2 => exact (Kd.Q_reads' HO_275002.out).2.1)
                      (case side3 => exact Fix.uC (Kd.R_reads' HO_275003.out).2.2)
                      (case side4 => exact (Kd.R_reads' HO_275003.out).2.1)
                      rintro e w46 ⟨v279, v282, rfl, ho0, ho1, hb⟩
                      refine ⟨_, rfl, ?_⟩
                      have n0_ := Aside0.mk (Kd.Q_mono (Kd.Q_told (Kd.Q_told (Kd.Q_old (Fix.uQ HO_275002.out) hb) (Kd.Q_base ho0)) (Kd.R_base ho1)) (fun _ h_ => h_.1))
                      have n1_ := Aside0.mk (Kd.R_mono (Kd.R_told (Kd.R_told (Kd.R_old (Fix.uR HO_275003.out) hb) (Kd.Q_base ho0)) (Kd.R_base ho1)) (fun _ h_ => h_.1))
                      have n2_ := Aside0.mk (Kd.Q_lower (Kd.Q_new' (Kd.Q_new' ho0 (Kd.Q_lt (Fix.uQ HO_275002.out))) (Kd.R_lt (Fix.uR HO_275003.out))) (below_size Fix.uB))
                      have n3_ := Aside0.mk (Kd.R_lower (Kd.R_new' (Kd.R_new' ho1 (Kd.Q_lt (Fix.uQ HO_275002.out))) (Kd.R_lt (Fix.uR HO_275003.out))) (below_size Fix.uB))
                      have n4_ := Aside0.mk (blk_below (g := gb262) (o := .cells #[.int .i64 a0_0, .int .i64 a0_1, .slice A0_2 l0_2.length c0_2, .slice A0_3 l0_3.length c0_3, .int .i64 a0_4, .bool a0_5] 28 (0, 0)) (Fix.uK BK262.out) hb)
                      have n5_ := Aside0.mk (blk_below (g := gb263) (o := .cells #[.int .i64 0, .int .i64 0, .slice none 0 0, .slice none 0 0, .int .i64 0, .bool false] 28 (0, 0)) (Fix.uK BK263.out) hb)
                      have n6_ := Aside0.mk (blk_below (g := gb274) (o := .cells #[.int .i64 x275000_1, .int .i64 x275001_1, .slice Ao43 x275002_1.length co43, .slice Ao44 x275003_1.length co44, .int .i64 x275004_1, .bool x275005_1] 28 (0, 0)) (Fix.uK BK274.out) hb)
                      have n7_ := Aside0.mk (below_step Fix.uB hb)
                      clear HO_275002
                      clear HO_275003
                      clear BK262
                      clear BK263
                      clear BK274
                      clear HB
                      have HO_275002 := n0_
                      have HO_275003 := n1_
                      have HO280 := n2_
                      have HO283 := n3_
                      have BK262 := n4_
                      have BK263 := n5_
                      have BK274 := n6_
                      have HB := n7_
                      clear n0_ n1_ n2_ n3_ n4_ n5_ n6_ n7_
                      (try clear hb)
                      (try clear hb2)
                      (try clear hk)
                      (try clear hi)
                      (try clear ho0)
                      (try clear ho1)
                      refine hK.out _ _ ⟨(blk_cell BK274.out 0).trans rfl, (blk_cell BK274.out 1).trans rfl, (blk_cell BK274.out 2).trans rfl, (blk_cell BK274.out 3).trans rfl, (blk_cell BK274.out 4).trans rfl, (blk_cell BK274.out 5).trans rfl, ((HB.out.cell (World.block_lt_of_cell? w _ hw275_0)).trans hw275_0)⟩ (fun hHeld => ?_)
                      clear hK K
                      refine norm_ (a' := ?_) ?_ ?_
                      rotate_left
                      · show Act.put _ (some 29) _ = _
                        simp only [Act.put, List.setIfInBounds_toArray, List.set_cons_zero, List.set_cons_succ, i64_w, i32_w]
                        rfl
                      refine pure_ (i := 6) (N := some 23) (v := ?_) (a' := ?_) #[true, true, true, true, true, true, true, false, false, false, false, false] rfl rfl (any_of HT_.out (by kernel_rfl)) (fun _ _ _ h => h) (Or.inl ⟨by rfl, ?_⟩) ?_ ?_
                      rotate_left
                      · intro w'
                        go_simp
                        with_reducible rfl
                      rotate_left
                      · simp only [Act.put, List.setIfInBounds_toArray, List.set_cons_zero, List.set_cons_succ, i64_w, i32_w]
                        rfl
                      refine pure_ (i := 7) (N := some 30) (v := ?_) (a' := ?_) #[true, true, true, true, true, true, true, true, false, false, false, false] rfl rfl (any_of HT_.out (by kernel_rfl)) (fun _ _ _ h => h) (Or.inl ⟨by rfl, ?_⟩) ?_ ?_
                      rotate_left
                      · intro w'
                        go_simp
                        with_reducible rfl
                      rotate_left
                      · simp only [Act.put, List.setIfInBounds_toArray, List.set_cons_zero, List.set_cons_succ, i64_w, i32_w]
                        rfl
                      refine pure_ (i := 8) (N := some 31) (v := ?_) (a' := ?_) #[true, true, true, true, true, true, true, true, true, false, false, false] rfl rfl (any_of HT_.out (by kernel_rfl)) (fun _ _ _ h => h) (Or.inl ⟨by rfl, ?_⟩) ?_ ?_
                      rotate_left
                      · intro w'
                        go_simp
                        with_reducible rfl
                      rotate_left
                      · simp only [Act.put, List.setIfInBounds_toArray, List.set_cons_zero, List.set_cons_succ, i64_w, i32_w]
                        rfl
                      refine one_ (i := 9) (N := some 9) #[true, true, true, true, true, true, true, true, true, true, false, false] rfl rfl (one_of HT_.out (by kernel_rfl)) (by decide) (fun K hK => ?_)
                      refine box_step ?hg (N := 9) ?hd (cs := #[.int .i64 0, .int .i64 0, .slice none 0 0, .slice none 0 0, .int .i64 0, .bool false]) (t := 28) ?hr ?_; (case hd => rfl); (case hg => rfl); (case hr => first | (go_simp; done) | (go_simp; rfl))
                      intro gb287 hg w47 hbox hb
                      have n0_ := Aside0.mk (Kd.Q_below (Fix.uQ HO_275002.out) hb)
                      have n1_ := Aside0.mk (Kd.R_below (Fix.uR HO_275003.out) hb)
                      have n2_ := Aside0.mk (Kd.Q_below (Fix.uQ HO280.out) hb)
                      have n3_ := Aside0.mk (Kd.R_below (Fix.uR HO283.out) hb)
                      have n4_ := Aside0.mk (blk_below (g := gb262) (o := .cells #[.int .i64 a0_0, .int .i64 a0_1, .slice A0_2 l0_2.length c0_2, .slice A0_3 l0_3.length c0_3, .int .i64 a0_4, .bool a0_5] 28 (0, 0)) (Fix.uK BK262.out) hb)
                      have n5_ := Aside0.mk (blk_below (g := gb263) (o := .cells #[.int .i64 0, .int .i64 0, .slice none 0 0, .slice none 0 0, .int .i64 0, .bool false] 28 (0, 0)) (Fix.uK BK263.out) hb)
                      have n6_ := Aside0.mk (blk_below (g := gb274) (o := .cells #[.int .i64 x275000_1, .int .i64 x275001_1, .slice Ao43 x275002_1.length co43, .slice Ao44 x275003_1.length co44, .int .i64 x275004_1, .bool x275005_1] 28 (0, 0)) (Fix.uK BK274.out) hb)
                      have n7_ := Aside0.mk (below_step Fix.uB hb)
                      have n8_ := Aside0.mk (hbox)
                      have n9_ := Aside0.mk ((by rw [hg]; exact (below_size Fix.uB) : w.heap.size ≤ gb287))
                      have n10_ := Aside0.mk ((by rw [hg]; exact (below_size Fix.uB) : w.heap.size ≤ gb287))
                      have n11_ := Aside0.mk ((by rw [hg]; exact Nat.ne_of_lt (blk_lt (g := gb262) (o := .cells #[.int .i64 a0_0, .int .i64 a0_1, .slice A0_2 l0_2.length c0_2, .slice A0_3 l0_3.length c0_3, .int .i64 a0_4, .bool a0_5] 28 (0, 0)) (Fix.uK BK262.out)) : gb262 ≠ gb287))
                      have n12_ := Aside0.mk ((by rw [hg]; exact Nat.ne_of_gt (blk_lt (g := gb262) (o := .cells #[.int .i64 a0_0, .int .i64 a0_1, .slice A0_2 l0_2.length c0_2, .slice A0_3 l0_3.length c0_3, .int .i64 a0_4, .bool a0_5] 28 (0, 0)) (Fix.uK BK262.out)) : gb287 ≠ gb262))
                      have n13_ := Aside0.mk ((by rw [hg]; exact Nat.ne_of_lt (blk_lt (g := gb263) (o := .cells #[.int .i64 0, .int .i64 0, .slice none 0 0, .slice none 0 0, .int .i64 0, .bool false] 28 (0, 0)) (Fix.uK BK263.out)) : gb263 ≠ gb287))
                      have n14_ := Aside0.mk ((by rw [hg]; exact Nat.ne_of_gt (blk_lt (g := gb263) (o := .cells #[.int .i64 0, .int .i64 0, .slice none 0 0, .slice none 0 0, .int .i64 0, .bool false] 28 (0, 0)) (Fix.uK BK263.out)) : gb287 ≠ gb263))
                      have n15_ := Aside0.mk ((by rw [hg]; exact Nat.ne_of_lt (blk_lt (g := gb274) (o := .cells #[.int .i64 x275000_1, .int .i64 x275001_1, .slice Ao43 x275002_1.length co43, .slice Ao44 x275003_1.length co44, .int .i64 x275004_1, .bool x275005_1] 28 (0, 0)) (Fix.uK BK274.out)) : gb274 ≠ gb287))
                      have n16_ := Aside0.mk ((by rw [hg]; exact Nat.ne_of_gt (blk_lt (g := gb274) (o := .cells #[.int .i64 x275000_1, .int .i64 x275001_1, .slice Ao43 x275002_1.length co43, .slice Ao44 x275003_1.length co44, .int .i64 x275004_1, .bool x275005_1] 28 (0, 0)) (Fix.uK BK274.out)) : gb287 ≠ gb274))
                      clear HO_275002
                      clear HO_275003
                      clear HO280
                      clear HO283
                      clear BK262
                      clear BK263
                      clear BK274
                      clear HB
                      have HO_275002 := n0_
                      have HO_275003 := n1_
                      have HO280 := n2_
                      have HO283 := n3_
                      have BK262 := n4_
                      have BK263 := n5_
                      have BK274 := n6_
                      have HB := n7_
                      have BK287 := n8_
                      have GW287 := n9_
                      have GE287 := n10_
                      have NB262_287 := n11_
                      have NB287_262 := n12_
                      have NB263_287 := n13_
                      have NB287_263 := n14_
                      have NB274_287 := n15_
                      have NB287_274 := n16_
                      clear n0_ n1_ n2_ n3_ n4_ n5_ n6_ n7_ n8_ n9_ n10_ n11_ n12_ n13_ n14_ n15_ n16_
                      clear hb hbox hg
                      refine hK.out _ _ ⟨(blk_cell BK274.out 0).trans rfl, (blk_cell BK274.out 1).trans rfl, (blk_cell BK274.out 2).trans rfl, (blk_cell BK274.out 3).trans rfl, (blk_cell BK274.out 4).trans rfl, (blk_cell BK274.out 5).trans rfl, ((HB.out.cell (World.block_lt_of_cell? w _ hw275_0)).trans hw275_0)⟩ (fun hHeld => ?_)
                      clear hK K
                      refine norm_ (a' := ?_) ?_ ?_
                      rotate_left
                      · show Act.put _ (some 9) _ = _
                        simp only [Act.put, List.setIfInBounds_toArray, List.set_cons_zero, List.set_cons_succ, i64_w, i32_w]
                        rfl
                      exact norm_ (by simp only [putAll, Act.put, List.setIfInBounds_toArray, List.set_cons_zero, List.set_cons_succ]) (hCont (v279, v282, gb287) _ ⟨hHeld, (by (with_reducible repeat (first | apply Kd.Q_alloc | apply Kd.Q_drewN | apply Kd.Q_drew)); exact Kd.Q_mono HO280.out (fun _ hk => ⟨hk.1.1, ⟨hk.1.2, hk.2⟩⟩)), (by (with_reducible repeat (first | apply Kd.R_alloc | apply Kd.R_drewN | apply Kd.R_drew)); exact Kd.R_mono HO283.out (fun _ hk => ⟨hk.1.1, ⟨hk.1.2, hk.2⟩⟩)), (by (with_reducible repeat (first | apply Kd.Q_alloc | apply Kd.Q_drewN | apply Kd.Q_drew)); exact Kd.Q_mono HO_275002.out (fun _ hk => ⟨hk.1.2, ⟨hk.2, hk.1.1⟩⟩)), (by (with_reducible repeat (first | apply Kd.R_alloc | apply Kd.R_drewN | apply Kd.R_drew)); exact Kd.R_mono HO_275003.out (fun _ hk => ⟨hk.1.2, ⟨hk.2, hk.1.1⟩⟩)), (Fix.uK BK262.out), (Fix.uK BK263.out), (Fix.uK BK274.out), (Fix.uK BK287.out), GW287.out, GE287.out, NB262_287.out, NB287_262.out, NB263_287.out, NB287_263.out, NB274_287.out, NB287_274.out, Fix.uB⟩)
                    · skip
                      refine box_step ?hg (N := 9) ?hd (cs := #[.int .i64 0, .int .i64 0, .slice none 0 0, .slice none 0 0, .int .i64 0, .bool false]) (t := 28) ?hr ?_; (case hd => rfl); (case hg => rfl); (case hr => first | (go_simp; done) | (go_simp; rfl))
                      intro gb287 hg w46 hbox hb
                      have n0_ := Aside0.mk (Kd.Q_below (Fix.uQ HO_275002.out) hb)
                      have n1_ := Aside0.mk (Kd.R_below (Fix.uR HO_275003.out) hb)
                      have n2_ := Aside0.mk (blk_below (g := gb262) (o := .cells #[.int .i64 a0_0, .int .i64 a0_1, .slice A0_2 l0_2.length c0_2, .slice A0_3 l0_3.length c0_3, .int .i64 a0_4, .bool a0_5] 28 (0, 0)) (Fix.uK BK262.out) hb)
                      have n3_ := Aside0.mk (blk_below (g := gb263) (o := .cells #[.int .i64 0, .int .i64 0, .slice none 0 0, .slice none 0 0, .int .i64 0, .bool false] 28 (0, 0)) (Fix.uK BK263.out) hb)
                      have n4_ := Aside0.mk (blk_below (g := gb274) (o := .cells #[.int .i64 x275000_1, .int .i64 x275001_1, .slice Ao43 x275002_1.length co43, .slice Ao44 x275003_1.length co44, .int .i64 x275004_1, .bool x275005_1] 28 (0, 0)) (Fix.uK BK274.out) hb)
                      have n5_ := Aside0.mk (below_step Fix.uB hb)
                      have n6_ := Aside0.mk (hbox)
                      have n7_ := Aside0.mk ((by rw [hg]; exact (below_size Fix.uB) : w.heap.size ≤ gb287))
                      have n8_ := Aside0.mk ((by rw [hg]; exact (below_size Fix.uB) : w.heap.size ≤ gb287))
                      have n9_ := Aside0.mk ((by rw [hg]; exact Nat.ne_of_lt (blk_lt (g := gb262) (o := .cells #[.int .i64 a0_0, .int .i64 a0_1, .slice A0_2 l0_2.length c0_2, .slice A0_3 l0_3.length c0_3, .int .i64 a0_4, .bool a0_5] 28 (0, 0)) (Fix.uK BK262.out)) : gb262 ≠ gb287))
                      have n10_ := Aside0.mk ((by rw [hg]; exact Nat.ne_of_gt (blk_lt (g := gb262) (o := .cells #[.int .i64 a0_0, .int .i64 a0_1, .slice A0_2 l0_2.length c0_2, .slice A0_3 l0_3.length c0_3, .int .i64 a0_4, .bool a0_5] 28 (0, 0)) (Fix.uK BK262.out)) : gb287 ≠ gb262))
                      have n11_ := Aside0.mk ((by rw [hg]; exact Nat.ne_of_lt (blk_lt (g := gb263) (o := .cells #[.int .i64 0, .int .i64 0, .slice none 0 0, .slice none 0 0, .int .i64 0, .bool false] 28 (0, 0)) (Fix.uK BK263.out)) : gb263 ≠ gb287))
                      have n12_ := Aside0.mk ((by rw [hg]; exact Nat.ne_of_gt (blk_lt (g := gb263) (o := .cells #[.int .i64 0, .int .i64 0, .slice none 0 0, .slice none 0 0, .int .i64 0, .bool false] 28 (0, 0)) (Fix.uK BK263.out)) : gb287 ≠ gb263))
                      have n13_ := Aside0.mk ((by rw [hg]; exact Nat.ne_of_lt (blk_lt (g := gb274) (o := .cells #[.int .i64 x275000_1, .int .i64 x275001_1, .slice Ao43 x275002_1.length co43, .slice Ao44 x275003_1.length co44, .int .i64 x275004_1, .bool x275005_1] 28 (0, 0)) (Fix.uK BK274.out)) : gb274 ≠ gb287))
                      have n14_ := Aside0.mk ((by rw [hg]; exact Nat.ne_of_gt (blk_lt (g := gb274) (o := .cells #[.int .i64 x275000_1, .int .i64 x275001_1, .slice Ao43 x275002_1.length co43, .slice Ao44 x275003_1.length co44, .int .i64 x275004_1, .bool x275005_1] 28 (0, 0)) (Fix.uK BK274.out)) : gb287 ≠ gb274))
                      clear HO_275002
                      clear HO_275003
                      clear BK262
                      clear BK263
                      clear BK274
                      clear HB
                      have HO_275002 := n0_
                      have HO_275003 := n1_
                      have BK262 := n2_
                      have BK263 := n3_
                      have BK274 := n4_
                      have HB := n5_
                      have BK287 := n6_
                      have GW287 := n7_
                      have GE287 := n8_
                      have NB262_287 := n9_
                      have NB287_262 := n10_
                      have NB263_287 := n11_
                      have NB287_263 := n12_
                      have NB274_287 := n13_
                      have NB287_274 := n14_
                      clear n0_ n1_ n2_ n3_ n4_ n5_ n6_ n7_ n8_ n9_ n10_ n11_ n12_ n13_ n14_
                      clear hb hbox hg
                      refine hK.out _ _ ⟨(blk_cell BK274.out 0).trans rfl, (blk_cell BK274.out 1).trans rfl, (blk_cell BK274.out 2).trans rfl, (blk_cell BK274.out 3).trans rfl, (blk_cell BK274.out 4).trans rfl, (blk_cell BK274.out 5).trans rfl, ((HB.out.cell (World.block_lt_of_cell? w _ hw275_0)).trans hw275_0)⟩ (fun hHeld => ?_)
                      clear hK K
                      refine norm_ (a' := ?_) ?_ ?_
                      rotate_left
                      · show Act.put _ (some 9) _ = _
                        simp only [Act.put, List.setIfInBounds_toArray, List.set_cons_zero, List.set_cons_succ, i64_w, i32_w]
                        rfl
                      refine one_ (i := 5) (N := some 29) #[true, true, true, true, true, true, false, false, false, true, false, false] rfl rfl (one_of HT_.out (by kernel_rfl)) (by decide) (fun K hK => ?_)
                      refine goes_ Try.func28 (by kernel_rfl) rfl #[.agg #[.int .i64 x275000_1, .int .i64 x275001_1, .slice Ao43 x275002_1.length co43, .slice Ao44 x275003_1.length co44, .int .i64 x275004_1, .bool x275005_1], .int .i64 (rd l1 x8_1)] (by rfl) rfl rfl Fix.uA ?_
                      with_reducible refine (spec_LineStep.calls kj14 x275000_1 x275001_1 _ _ x275002_1 _ _ x275003_1 x275004_1 x275005_1 (rd l1 x8_1) t276 t277 t278 t281 t284 t285 false _ ?side1 ?side2 ?side3 ?side4 A20.out).mono ?_
                      (case side1 => exact Fix.uC (Kd.Q_reads' HO_275002.out).2.2)
                      (case side2 => exact (Kd.Q_reads' HO_275002.out).2.1)
                      (case side3 => exact Fix.uC (Kd.R_reads' HO_275003.out).2.2)
                      (case side4 => exact (Kd.R_reads' HO_275003.out).2.1)
                      rintro e w47 ⟨v279, v282, rfl, ho0, ho1, hb⟩
                      refine ⟨_, rfl, ?_⟩
                      have n0_ := Aside0.mk (Kd.Q_mono (Kd.Q_told (Kd.Q_told (Kd.Q_old (Fix.uQ HO_275002.out) hb) (Kd.Q_base ho0)) (Kd.R_base ho1)) (fun _ h_ => h_.1))
                      have n1_ := Aside0.mk (Kd.R_mono (Kd.R_told (Kd.R_told (Kd.R_old (Fix.uR HO_275003.out) hb) (Kd.Q_base ho0)) (Kd.R_base ho1)) (fun _ h_ => h_.1))
                      have n2_ := Aside0.mk (Kd.Q_lower (Kd.Q_new' (Kd.Q_new' ho0 (Kd.Q_lt (Fix.uQ HO_275002.out))) (Kd.R_lt (Fix.uR HO_275003.out))) (below_size Fix.uB))
                      have n3_ := Aside0.mk (Kd.R_lower (Kd.R_new' (Kd.R_new' ho1 (Kd.Q_lt (Fix.uQ HO_275002.out))) (Kd.R_lt (Fix.uR HO_275003.out))) (below_size Fix.uB))
                      have n4_ := Aside0.mk (blk_below (g := gb262) (o := .cells #[.int .i64 a0_0, .int .i64 a0_1, .slice A0_2 l0_2.length c0_2, .slice A0_3 l0_3.length c0_3, .int .i64 a0_4, .bool a0_5] 28 (0, 0)) (Fix.uK BK262.out) hb)
                      have n5_ := Aside0.mk (blk_below (g := gb263) (o := .cells #[.int .i64 0, .int .i64 0, .slice none 0 0, .slice none 0 0, .int .i64 0, .bool false] 28 (0, 0)) (Fix.uK BK263.out) hb)
                      have n6_ := Aside0.mk (blk_below (g := gb274) (o := .cells #[.int .i64 x275000_1, .int .i64 x275001_1, .slice Ao43 x275002_1.length co43, .slice Ao44 x275003_1.length co44, .int .i64 x275004_1, .bool x275005_1] 28 (0, 0)) (Fix.uK BK274.out) hb)
                      have n7_ := Aside0.mk (blk_below (g := gb287) (o := .cells #[.int .i64 0, .int .i64 0, .slice none 0 0, .slice none 0 0, .int .i64 0, .bool false] 28 (0, 0)) (Fix.uK BK287.out) hb)
                      have n8_ := Aside0.mk (below_step Fix.uB hb)
                      clear HO_275002
                      clear HO_275003
                      clear BK262
                      clear BK263
                      clear BK274
                      clear BK287
                      clear HB
                      have HO_275002 := n0_
                      have HO_275003 := n1_
                      have HO280 := n2_
                      have HO283 := n3_
                      have BK262 := n4_
                      have BK263 := n5_
                      have BK274 := n6_
                      have BK287 := n7_
                      have HB := n8_
                      clear n0_ n1_ n2_ n3_ n4_ n5_ n6_ n7_ n8_
                      (try clear hb)
                      (try clear hb2)
                      (try clear hk)
                      (try clear hi)
                      (try clear ho0)
                      (try clear ho1)
                      refine hK.out _ _ ⟨(blk_cell BK274.out 0).trans rfl, (blk_cell BK274.out 1).trans rfl, (blk_cell BK274.out 2).trans rfl, (blk_cell BK274.out 3).trans rfl, (blk_cell BK274.out 4).trans rfl, (blk_cell BK274.out 5).trans rfl, ((HB.out.cell (World.block_lt_of_cell? w _ hw275_0)).trans hw275_0)⟩ (fun hHeld => ?_)
                      clear hK K
                      refine norm_ (a' := ?_) ?_ ?_
                      rotate_left
                      · show Act.put _ (some 29) _ = _
                        simp only [Act.put, List.setIfInBounds_toArray, List.set_cons_zero, List.set_cons_succ, i64_w, i32_w]
                        rfl
                      refine pure_ (i := 6) (N := some 23) (v := ?_) (a' := ?_) #[true, true, true, true, true, true, true, false, false, true, false, false] rfl rfl (any_of HT_.out (by kernel_rfl)) (fun _ _ _ h => h) (Or.inl ⟨by rfl, ?_⟩) ?_ ?_
                      rotate_left
                      · intro w'
                        go_simp
                        with_reducible rfl
                      rotate_left
                      · simp only [Act.put, List.setIfInBounds_toArray, List.set_cons_zero, List.set_cons_succ, i64_w, i32_w]
                        rfl
                      refine pure_ (i := 7) (N := some 30) (v := ?_) (a' := ?_) #[true, true, true, true, true, true, true, true, false, true, false, false] rfl rfl (any_of HT_.out (by kernel_rfl)) (fun _ _ _ h => h) (Or.inl ⟨by rfl, ?_⟩) ?_ ?_
                      rotate_left
                      · intro w'
                        go_simp
                        with_reducible rfl
                      rotate_left
                      · simp only [Act.put, List.setIfInBounds_toArray, List.set_cons_zero, List.set_cons_succ, i64_w, i32_w]
                        rfl
                      refine pure_ (i := 8) (N := some 31) (v := ?_) (a' := ?_) #[true, true, true, true, true, true, true, true, true, true, false, false] rfl rfl (any_of HT_.out (by kernel_rfl)) (fun _ _ _ h => h) (Or.inl ⟨by rfl, ?_⟩) ?_ ?_
                      rotate_left
                      · intro w'
                        go_simp
                        with_reducible rfl
                      rotate_left
                      · simp only [Act.put, List.setIfInBounds_toArray, List.set_cons_zero, List.set_cons_succ, i64_w, i32_w]
                        rfl
                      exact norm_ (by simp only [putAll, Act.put, List.setIfInBounds_toArray, List.set_cons_zero, List.set_cons_succ]) (hCont (v279, v282, gb287) _ ⟨hHeld, (by (with_reducible repeat (first | apply Kd.Q_alloc | apply Kd.Q_drewN | apply Kd.Q_drew)); exact Kd.Q_mono HO280.out (fun _ hk => ⟨hk.1.1, ⟨hk.1.2, hk.2⟩⟩)), (by (with_reducible repeat (first | apply Kd.R_alloc | apply Kd.R_drewN | apply Kd.R_drew)); exact Kd.R_mono HO283.out (fun _ hk => ⟨hk.1.1, ⟨hk.1.2, hk.2⟩⟩)), (by (with_reducible repeat (first | apply Kd.Q_alloc | apply Kd.Q_drewN | apply Kd.Q_drew)); exact Kd.Q_mono HO_275002.out (fun _ hk => ⟨hk.1.2, ⟨hk.2, hk.1.1⟩⟩)), (by (with_reducible repeat (first | apply Kd.R_alloc | apply Kd.R_drewN | apply Kd.R_drew)); exact Kd.R_mono HO_275003.out (fun _ hk => ⟨hk.1.2, ⟨hk.2, hk.1.1⟩⟩)), (Fix.uK BK262.out), (Fix.uK BK263.out), (Fix.uK BK274.out), (Fix.uK BK287.out), GW287.out, GE287.out, NB262_287.out, NB287_262.out, NB263_287.out, NB287_263.out, NB274_287.out, NB287_274.out, Fix.uB⟩)
                  rintro ⟨v279, v282, gb287⟩ w48 ⟨hS_, h0_, h1_, h2_, h3_, h4_, h5_, h6_, h7_, h8_, h9_, h10_, h11_, h12_, h13_, h14_, h15_, h16_⟩
                  have n0_ : Aside0 (Kd.Q (Kd.int .i64) 3 w48 w.heap.size (fun k_ => some k_ ≠ (v282 : Value).ownBlock ∧ some k_ ≠ (.slice Ao43 x275002_1.length co43 : Value).ownBlock ∧ some k_ ≠ (.slice Ao44 x275003_1.length co44 : Value).ownBlock) v279 t278) := ⟨h0_⟩
                  have n1_ : Aside0 (Kd.R (Kd.int .i64) 3 w48 w.heap.size (fun k_ => some k_ ≠ (v279 : Value).ownBlock ∧ some k_ ≠ (.slice Ao43 x275002_1.length co43 : Value).ownBlock ∧ some k_ ≠ (.slice Ao44 x275003_1.length co44 : Value).ownBlock) v282 t281) := ⟨h1_⟩
                  have n2_ : Aside0 (Kd.Q (Kd.int .i64) 3 w48 w.heap.size (fun k_ => some k_ ≠ (v279 : Value).ownBlock ∧ some k_ ≠ (v282 : Value).ownBlock ∧ some k_ ≠ (.slice Ao44 x275003_1.length co44 : Value).ownBlock) (.slice Ao43 x275002_1.length co43) x275002_1) := ⟨h2_⟩
                  have n3_ : Aside0 (Kd.R (Kd.int .i64) 3 w48 w.heap.size (fun k_ => some k_ ≠ (v279 : Value).ownBlock ∧ some k_ ≠ (v282 : Value).ownBlock ∧ some k_ ≠ (.slice Ao43 x275002_1.length co43 : Value).ownBlock) (.slice Ao44 x275003_1.length co44) x275003_1) := ⟨h3_⟩
                  have n4_ : Aside0 (w48.heap[gb262]? = some (.cells #[.int .i64 a0_0, .int .i64 a0_1, .slice A0_2 l0_2.length c0_2, .slice A0_3 l0_3.length c0_3, .int .i64 a0_4, .bool a0_5] 28 (0, 0))) := ⟨h4_⟩
                  have n5_ : Aside0 (w48.heap[gb263]? = some (.cells #[.int .i64 0, .int .i64 0, .slice none 0 0, .slice none 0 0, .int .i64 0, .bool false] 28 (0, 0))) := ⟨h5_⟩
                  have n6_ : Aside0 (w48.heap[gb274]? = some (.cells #[.int .i64 x275000_1, .int .i64 x275001_1, .slice Ao43 x275002_1.length co43, .slice Ao44 x275003_1.length co44, .int .i64 x275004_1, .bool x275005_1] 28 (0, 0))) := ⟨h6_⟩
                  have n7_ : Aside0 (w48.heap[gb287]? = some (.cells #[.int .i64 0, .int .i64 0, .slice none 0 0, .slice none 0 0, .int .i64 0, .bool false] 28 (0, 0))) := ⟨h7_⟩
                  have n8_ : Aside0 (w.heap.size ≤ gb287) := ⟨h8_⟩
                  have n9_ : Aside0 (w.heap.size ≤ gb287) := ⟨h9_⟩
                  have n10_ : Aside0 (gb262 ≠ gb287) := ⟨h10_⟩
                  have n11_ : Aside0 (gb287 ≠ gb262) := ⟨h11_⟩
                  have n12_ : Aside0 (gb263 ≠ gb287) := ⟨h12_⟩
                  have n13_ : Aside0 (gb287 ≠ gb263) := ⟨h13_⟩
                  have n14_ : Aside0 (gb274 ≠ gb287) := ⟨h14_⟩
                  have n15_ : Aside0 (gb287 ≠ gb274) := ⟨h15_⟩
                  have n16_ : Aside0 (Below w.heap.size w w48) := ⟨h16_⟩
                  clear HO_275002
                  clear HO_275003
                  clear BK262
                  clear BK263
                  clear BK274
                  clear HB
                  clear h0_ h1_ h2_ h3_ h4_ h5_ h6_ h7_ h8_ h9_ h10_ h11_ h12_ h13_ h14_ h15_ h16_
                  have HO280 := n0_
                  have HO283 := n1_
                  have HO_275002 := n2_
                  have HO_275003 := n3_
                  have BK262 := n4_
                  have BK263 := n5_
                  have BK274 := n6_
                  have BK287 := n7_
                  have GW287 := n8_
                  have GE287 := n9_
                  have NB262_287 := n10_
                  have NB287_262 := n11_
                  have NB263_287 := n12_
                  have NB287_263 := n13_
                  have NB274_287 := n14_
                  have NB287_274 := n15_
                  have HB := n16_
                  clear n0_ n1_ n2_ n3_ n4_ n5_ n6_ n7_ n8_ n9_ n10_ n11_ n12_ n13_ n14_ n15_ n16_
                  have hHeld : w48.cell? ⟨gb274, 0, none⟩ = some (.int .i64 x275000_1) ∧ w48.cell? ⟨gb274, 1, none⟩ = some (.int .i64 x275001_1) ∧ w48.cell? ⟨gb274, 2, none⟩ = some (.slice Ao43 x275002_1.length co43) ∧ w48.cell? ⟨gb274, 3, none⟩ = some (.slice Ao44 x275003_1.length co44) ∧ w48.cell? ⟨gb274, 4, none⟩ = some (.int .i64 x275004_1) ∧ w48.cell? ⟨gb274, 5, none⟩ = some (.bool x275005_1) ∧ w48.cell? (ad275.add (x8_1).toNat) = some (.int .i64 (rd l1 x8_1)) := hS_
                  obtain ⟨Ao51, co51, eo51, _⟩ := Kd.Q_slice HO280.out
                  (first | subst eo51 | (injection eo51 with f1_ f2_ f3_; have f4_ := f1_.symm; have f5_ := f3_.symm; clear f1_ f2_ f3_; subst f4_; subst f5_))
                  obtain ⟨Ao53, co53, eo53⟩ := Kd.R_slice HO283.out
                  (first | subst eo53 | (injection eo53 with f1_ f2_ f3_; have f4_ := f1_.symm; have f5_ := f3_.symm; clear f1_ f2_ f3_; subst f4_; subst f5_))
                  refine norm_ (a' := ?_) ?_ ?_
                  rotate_left
                  · simp only [putAll, Act.put, List.setIfInBounds_toArray, List.set_cons_zero, List.set_cons_succ]
                    rfl
                  refine one_ (i := 10) (N := none) #[true, true, true, true, true, true, true, true, true, true, true, false] rfl rfl (one_of HT_.out (by kernel_rfl)) (by decide) (fun K hK => ?_)
                  have hs49 : w48.cell? ⟨gb287, 0, none⟩ = some (.int .i64 0) := (blk_cell BK287.out 0).trans rfl
                  have hfs49 := blk_frozen BK287.out 0
                  have hns49_0 := NB262_287.out
                  have hns49_1 := NB263_287.out
                  have hns49_2 := NB274_287.out
                  have hms49_0 := NB287_262.out
                  have hms49_1 := NB287_263.out
                  have hms49_2 := NB287_274.out
                  have hs50 : w48.cell? ⟨gb287, 1, none⟩ = some (.int .i64 0) := (blk_cell BK287.out 1).trans rfl
                  have hfs50 := blk_frozen BK287.out 1
                  have hns50_0 := NB262_287.out
                  have hns50_1 := NB263_287.out
                  have hns50_2 := NB274_287.out
                  have hms50_0 := NB287_262.out
                  have hms50_1 := NB287_263.out
                  have hms50_2 := NB287_274.out
                  have hs52 : w48.cell? ⟨gb287, 2, none⟩ = some (.slice none 0 0) := (blk_cell BK287.out 2).trans rfl
                  have hfs52 := blk_frozen BK287.out 2
                  have hns52_0 := NB262_287.out
                  have hns52_1 := NB263_287.out
                  have hns52_2 := NB274_287.out
                  have hms52_0 := NB287_262.out
                  have hms52_1 := NB287_263.out
                  have hms52_2 := NB287_274.out
                  have hs54 : w48.cell? ⟨gb287, 3, none⟩ = some (.slice none 0 0) := (blk_cell BK287.out 3).trans rfl
                  have hfs54 := blk_frozen BK287.out 3
                  have hns54_0 := NB262_287.out
                  have hns54_1 := NB263_287.out
                  have hns54_2 := NB274_287.out
                  have hms54_0 := NB287_262.out
                  have hms54_1 := NB287_263.out
                  have hms54_2 := NB287_274.out
                  have hs55 : w48.cell? ⟨gb287, 4, none⟩ = some (.int .i64 0) := (blk_cell BK287.out 4).trans rfl
                  have hfs55 := blk_frozen BK287.out 4
                  have hns55_0 := NB262_287.out
                  have hns55_1 := NB263_287.out
                  have hns55_2 := NB274_287.out
                  have hms55_0 := NB287_262.out
                  have hms55_1 := NB287_263.out
                  have hms55_2 := NB287_274.out
                  have hs56 : w48.cell? ⟨gb287, 5, none⟩ = some (.bool false) := (blk_cell BK287.out 5).trans rfl
                  have hfs56 := blk_frozen BK287.out 5
                  have hns56_0 := NB262_287.out
                  have hns56_1 := NB263_287.out
                  have hns56_2 := NB274_287.out
                  have hms56_0 := NB287_262.out
                  have hms56_1 := NB287_263.out
                  have hms56_2 := NB287_274.out
                  refine skip_ (w1 := ?_) (by rfl) rfl ?_ ?_
                  rotate_left
                  · go_simp
                    rfl
                  refine hK.out _ _ ⟨(Fix.cf6 NB274_287.out (hHeld.1)), (Fix.cf6 NB274_287.out (hHeld.2.1)), (Fix.cf6 NB274_287.out (hHeld.2.2.1)), (Fix.cf6 NB274_287.out (hHeld.2.2.2.1)), (Fix.cf6 NB274_287.out (hHeld.2.2.2.2.1)), (Fix.cf6 NB274_287.out (hHeld.2.2.2.2.2.1)), ((cell_far (p := ⟨gb287, _, none⟩) (by first | exact Nat.ne_of_lt (Nat.lt_of_lt_of_le (by have := World.block_lt_of_cell? _ _ hw275_0; first | rwa [add_block] at this | exact this) GW287.out) | (rw [add_block]; exact Nat.ne_of_lt (Nat.lt_of_lt_of_le (by have := World.block_lt_of_cell? _ _ hw275_0; first | rwa [add_block] at this | exact this) GW287.out)) | (show (Addr.add _ _).block ≠ _; rw [add_block]; exact Nat.ne_of_lt (Nat.lt_of_lt_of_le (by have := World.block_lt_of_cell? _ _ hw275_0; first | rwa [add_block] at this | exact this) GW287.out)) | (dsimp only; exact Nat.ne_of_lt (Nat.lt_of_lt_of_le (by have := World.block_lt_of_cell? _ _ hw275_0; first | rwa [add_block] at this | exact this) GW287.out))) _).trans (((cell_far (p := ⟨gb287, _, none⟩) (by first | exact Nat.ne_of_lt (Nat.lt_of_lt_of_le (by have := World.block_lt_of_cell? _ _ hw275_0; first | rwa [add_block] at this | exact this) GW287.out) | (rw [add_block]; exact Nat.ne_of_lt (Nat.lt_of_lt_of_le (by have := World.block_lt_of_cell? _ _ hw275_0; first | rwa [add_block] at this | exact this) GW287.out)) | (show (Addr.add _ _).block ≠ _; rw [add_block]; exact Nat.ne_of_lt (Nat.lt_of_lt_of_le (by have := World.block_lt_of_cell? _ _ hw275_0; first | rwa [add_block] at this | exact this) GW287.out)) | (dsimp only; exact Nat.ne_of_lt (Nat.lt_of_lt_of_le (by have := World.block_lt_of_cell? _ _ hw275_0; first | rwa [add_block] at this | exact this) GW287.out))) _).trans (((cell_far (p := ⟨gb287, _, none⟩) (by first | exact Nat.ne_of_lt (Nat.lt_of_lt_of_le (by have := World.block_lt_of_cell? _ _ hw275_0; first | rwa [add_block] at this | exact this) GW287.out) | (rw [add_block]; exact Nat.ne_of_lt (Nat.lt_of_lt_of_le (by have := World.block_lt_of_cell? _ _ hw275_0; first | rwa [add_block] at this | exact this) GW287.out)) | (show (Addr.add _ _).block ≠ _; rw [add_block]; exact Nat.ne_of_lt (Nat.lt_of_lt_of_le (by have := World.block_lt_of_cell? _ _ hw275_0; first | rwa [add_block] at this | exact this) GW287.out)) | (dsimp only; exact Nat.ne_of_lt (Nat.lt_of_lt_of_le (by have := World.block_lt_of_cell? _ _ hw275_0; first | rwa [add_block] at this | exact this) GW287.out))) _).trans (((cell_far (p := ⟨gb287, _, none⟩) (by first | exact Nat.ne_of_lt (Nat.lt_of_lt_of_le (by have := World.block_lt_of_cell? _ _ hw275_0; first | rwa [add_block] at this | exact this) GW287.out) | (rw [add_block]; exact Nat.ne_of_lt (Nat.lt_of_lt_of_le (by have := World.block_lt_of_cell? _ _ hw275_0; first | rwa [add_block] at this | exact this) GW287.out)) | (show (Addr.add _ _).block ≠ _; rw [add_block]; exact Nat.ne_of_lt (Nat.lt_of_lt_of_le (by have := World.block_lt_of_cell? _ _ hw275_0; first | rwa [add_block] at this | exact this) GW287.out)) | (dsimp only; exact Nat.ne_of_lt (Nat.lt_of_lt_of_le (by have := World.block_lt_of_cell? _ _ hw275_0; first | rwa [add_block] at this | exact this) GW287.out))) _).trans (((cell_far (p := ⟨gb287, _, none⟩) (by first | exact Nat.ne_of_lt (Nat.lt_of_lt_of_le (by have := World.block_lt_of_cell? _ _ hw275_0; first | rwa [add_block] at this | exact this) GW287.out) | (rw [add_block]; exact Nat.ne_of_lt (Nat.lt_of_lt_of_le (by have := World.block_lt_of_cell? _ _ hw275_0; first | rwa [add_block] at this | exact this) GW287.out)) | (show (Addr.add _ _).block ≠ _; rw [add_block]; exact Nat.ne_of_lt (Nat.lt_of_lt_of_le (by have := World.block_lt_of_cell? _ _ hw275_0; first | rwa [add_block] at this | exact this) GW287.out)) | (dsimp only; exact Nat.ne_of_lt (Nat.lt_of_lt_of_le (by have := World.block_lt_of_cell? _ _ hw275_0; first | rwa [add_block] at this | exact this) GW287.out))) _).trans (((cell_far (p := ⟨gb287, _, none⟩) (by first | exact Nat.ne_of_lt (Nat.lt_of_lt_of_le (by have := World.block_lt_of_cell? _ _ hw275_0; first | rwa [add_block] at this | exact this) GW287.out) | (rw [add_block]; exact Nat.ne_of_lt (Nat.lt_of_lt_of_le (by have := World.block_lt_of_cell? _ _ hw275_0; first | rwa [add_block] at this | exact this) GW287.out)) | (show (Addr.add _ _).block ≠ _; rw [add_block]; exact Nat.ne_of_lt (Nat.lt_of_lt_of_le (by have := World.block_lt_of_cell? _ _ hw275_0; first | rwa [add_block] at this | exact this) GW287.out)) | (dsimp only; exact Nat.ne_of_lt (Nat.lt_of_lt_of_le (by have := World.block_lt_of_cell? _ _ hw275_0; first | rwa [add_block] at this | exact this) GW287.out))) _).trans (hHeld.2.2.2.2.2.2))))))))))))⟩ (fun hHeld => ?_)
                  clear hK K
                  refine pure_ (i := 11) (N := some 10) (v := ?_) (a' := ?_) #[true, true, true, true, true, true, true, true, true, true, true, true] rfl rfl (any_of HT_.out (by kernel_rfl)) (fun _ _ _ h => h) (Or.inl ⟨by rfl, ?_⟩) ?_ ?_
                  rotate_left
                  · intro w'
                    go_simp
                    with_reducible rfl
                  rotate_left
                  · simp only [Act.put, List.setIfInBounds_toArray, List.set_cons_zero, List.set_cons_succ, i64_w, i32_w]
                    rfl
                  refine done_ (done_of HT_.out (by kernel_rfl)) ?_
                  have hnb57 := NB287_262.out
                  have hnc57 := NB262_287.out
                  have hnb58 := NB287_263.out
                  have hnc58 := NB263_287.out
                  have hnb59 := NB287_274.out
                  have hnc59 := NB274_287.out
                  obtain ⟨hcz60_0, hcz60_1, hcz60_2, hcz60_3, hcz60_4, hcz60_5, hfz60_0, hfz60_1, hfz60_2, hfz60_3, hfz60_4, hfz60_5⟩ := Fix.d6 BK287.out
                  have hnb61 := NB274_262.out
                  have hnc61 := NB262_274.out
                  have hnb62 := NB274_263.out
                  have hnc62 := NB263_274.out
                  obtain ⟨hcz63_0, hcz63_1, hcz63_2, hcz63_3, hcz63_4, hcz63_5, hfz63_0, hfz63_1, hfz63_2, hfz63_3, hfz63_4, hfz63_5⟩ := Fix.d6 BK274.out
                  try go_wp2
                  go_roundg kj14
                  case measure => have := HK1.out; have := HJ14.out; omega
                  case rel => exact ⟨(x6_1), (wrap64 (x8_1 + 1)), (t276), (t277), (t278), (t281), (t284), (t285), (.slice Ao51 t278.length co51), (.slice Ao53 t281.length co53), (by first | rfl | (simp; done) | (simp [*]; done)), (by first | rfl | (simp; done) | (simp [*]; done)), H', ⟨by have := HK1.out; have := HJ14.out; omega⟩, ⟨by (with_reducible repeat (first | apply Kd.Q_alloc | apply Kd.Q_drewN | apply Kd.Q_drew)); exact Kd.Q_mono (Fix.Q_far6 (g := gb274) (Kd.Q_far (p := ⟨gb287, 5, none⟩) (Kd.Q_far (p := ⟨gb287, 4, none⟩) (Kd.Q_far (p := ⟨gb287, 3, none⟩) (Kd.Q_far (p := ⟨gb287, 2, none⟩) (Kd.Q_far (p := ⟨gb287, 1, none⟩) (Kd.Q_far (p := ⟨gb287, 0, none⟩) (Kd.Q_types (Kd.Q_types HO280.out BK287.out (by decide)) BK274.out (by decide)) (fun _ hk => hk.1.2) (.int .i64 t276)) (fun _ hk => hk.1.2) (.int .i64 t277)) (fun _ hk => hk.1.2) (.slice Ao51 t278.length co51)) (fun _ hk => hk.1.2) (.slice Ao53 t281.length co53)) (fun _ hk => hk.1.2) (.int .i64 t284)) (fun _ hk => hk.1.2) (.bool t285)) (fun _ hk => hk.2) _ _ _ _ _ _) (fun _ hk => hk.1.1.1)⟩, ⟨by (with_reducible repeat (first | apply Kd.R_alloc | apply Kd.R_drewN | apply Kd.R_drew)); exact Kd.R_mono (Fix.R_far6 (g := gb274) (Kd.R_far (p := ⟨gb287, 5, none⟩) (Kd.R_far (p := ⟨gb287, 4, none⟩) (Kd.R_far (p := ⟨gb287, 3, none⟩) (Kd.R_far (p := ⟨gb287, 2, none⟩) (Kd.R_far (p := ⟨gb287, 1, none⟩) (Kd.R_far (p := ⟨gb287, 0, none⟩) (Kd.R_types (Kd.R_types HO283.out BK287.out (by decide)) BK274.out (by decide)) (fun _ hk => hk.1.2) (.int .i64 t276)) (fun _ hk => hk.1.2) (.int .i64 t277)) (fun _ hk => hk.1.2) (.slice Ao51 t278.length co51)) (fun _ hk => hk.1.2) (.slice Ao53 t281.length co53)) (fun _ hk => hk.1.2) (.int .i64 t284)) (fun _ hk => hk.1.2) (.bool t285)) (fun _ hk => hk.2) _ _ _ _ _ _) (fun _ hk => hk.1.1.1)⟩, ⟨by (with_reducible repeat (first | refine Fix.kN ?_ _ | refine Fix.kD ?_ | refine Fix.kA ?_ _)); refine Fix.far6 ?_ NB262_274.out _ _ _ _ _ _; (with_reducible repeat (first | refine Fix.kN ?_ _ | refine Fix.kD ?_ | refine Fix.kA ?_ _)); refine Fix.far6 ?_ NB262_287.out _ _ _ _ _ _; (with_reducible repeat (first | refine Fix.kN ?_ _ | refine Fix.kD ?_ | refine Fix.kA ?_ _)); exact BK262.out⟩, ⟨by (with_reducible repeat (first | refine Fix.kN ?_ _ | refine Fix.kD ?_ | refine Fix.kA ?_ _)); refine Fix.far6 ?_ NB263_274.out _ _ _ _ _ _; (with_reducible repeat (first | refine Fix.kN ?_ _ | refine Fix.kD ?_ | refine Fix.kA ?_ _)); refine Fix.far6 ?_ NB263_287.out _ _ _ _ _ _; (with_reducible repeat (first | refine Fix.kN ?_ _ | refine Fix.kD ?_ | refine Fix.kA ?_ _)); exact BK263.out⟩, ⟨by (with_reducible repeat (first | refine Fix.kN ?_ _ | refine Fix.kD ?_ | refine Fix.kA ?_ _)); apply Fix.put6; (with_reducible repeat (first | refine Fix.kN ?_ _ | refine Fix.kD ?_ | refine Fix.kA ?_ _)); refine Fix.far6 ?_ NB274_287.out _ _ _ _ _ _; (with_reducible repeat (first | refine Fix.kN ?_ _ | refine Fix.kD ?_ | refine Fix.kA ?_ _)); exact BK274.out⟩, ⟨Fix.uB⟩⟩
              · rw [if_neg c19] at H
                exact absurd H (by simp)
            · rw [if_neg c18] at H
              exact absurd H (by simp)
          · replace c17 := Bool.eq_false_iff.mpr c17
            subst c17
            have H1 : (some (x275000_1, x275001_1, x275002_1, x275003_1, x275004_1, x275005_1, x6_1)) = some (r1, r2, r3, r4, r5, r6, r7) := by rw [if_neg (show ¬ (false = true) by decide)] at H; exact H
            clear H
            have H := H1
            clear H1
            simp only [Option.some.injEq, Prod.mk.injEq] at H
            obtain ⟨rfl, rfl, rfl, rfl, rfl, rfl, rfl⟩ := H
            have hnb64 := NB274_262.out
            have hnc64 := NB262_274.out
            have hnb65 := NB274_263.out
            have hnc65 := NB263_274.out
            obtain ⟨hcz66_0, hcz66_1, hcz66_2, hcz66_3, hcz66_4, hcz66_5, hfz66_0, hfz66_1, hfz66_2, hfz66_3, hfz66_4, hfz66_5⟩ := Fix.d6 BK274.out
            have hnb67 := NB263_262.out
            have hnc67 := NB262_263.out
            obtain ⟨hcz68_0, hcz68_1, hcz68_2, hcz68_3, hcz68_4, hcz68_5, hfz68_0, hfz68_1, hfz68_2, hfz68_3, hfz68_4, hfz68_5⟩ := Fix.d6 BK263.out
            obtain ⟨Ao69, co69, eo69, _⟩ := Kd.Q_slice HO_275002.out
            subst eo69
            obtain ⟨Ao70, co70, eo70⟩ := Kd.R_slice HO_275003.out
            subst eo70
            go_wp2
            refine bodyPost_ret (results_ct rfl _ _ gb263 28 #[.int .i64 x275000_1, .int .i64 x275001_1, .slice Ao69 x275002_1.length co69, .slice Ao70 x275003_1.length co70, .int .i64 x275004_1, .bool x275005_1] (0, 0) _ rfl (by (with_reducible repeat (first | refine Fix.kN ?_ _ | refine Fix.kD ?_ | refine Fix.kA ?_ _)); apply Fix.put6; (with_reducible repeat (first | refine Fix.kN ?_ _ | refine Fix.kD ?_ | refine Fix.kA ?_ _)); exact BK263.out) Try.underlying28 rfl (by kernel_rfl)) rfl ?_
            exact ⟨_, _, by first | rfl | (simp [errW_none, errW_some] <;> rfl) | (simp [*, errW_none, errW_some] <;> rfl), by (with_reducible repeat (first | apply Kd.Q_alloc | apply Kd.Q_drewN | apply Kd.Q_drew)); exact Kd.Q_mono (Fix.Q_far6 (g := gb263) (Kd.Q_types HO_275002.out BK263.out (by decide)) (fun _ hk => hk.2) _ _ _ _ _ _) (fun _ hk => hk.1), by (with_reducible repeat (first | apply Kd.R_alloc | apply Kd.R_drewN | apply Kd.R_drew)); exact Kd.R_mono (Fix.R_far6 (g := gb263) (Kd.R_types HO_275003.out BK263.out (by decide)) (fun _ hk => hk.2) _ _ _ _ _ _) (fun _ hk => hk.1), Fix.uB⟩

end Go.Proofs.Ytomhhbnnmjgcgaa.PFnExactRunLine
