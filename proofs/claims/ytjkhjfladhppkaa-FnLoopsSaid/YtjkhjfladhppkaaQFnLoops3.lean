/- FnLoops: the functions that the law reaches, each as a plain Lean function, and that a call does what it says. Made by a program of this work (wip/mp.py) out of the kit's print. No condition. -/
import Derived.Test.YtjkhjfladhppkaaQFnLoops0
import Derived.Test.YtjkhjfladhppkaaQFnLoops2
namespace Go.Proofs.Ytjkhjfladhppkaa.PFnLoops
open Go.RowKit Go.Proofs.YtjkhjfladhppkaaW.PrintWords Go.Proofs.YtjkhjfladhppkaaW.PrintLast Go.Proofs.YtjkhjfladhppkaaW.PrintMore
attribute [local go_sem] max2_int min2_int max_two min_two max_three min_three max_four min_four
attribute [local go_sem] Fix.isSome_setCell
set_option linter.unusedVariables false
set_option linter.unusedSimpArgs false

/-! ### impl_IsLoopOrder: function 41 -/
def impl_IsLoopOrder.l0 : Nat → Int → List Int → Int → List S34 → Int → Option Bool
  | 0, _, _, _, _, _ => none
  | k + 1, x1, F, x6, l, x12 => if x12 < (l.length : Int) then (if 0 ≤ x12 then (if (Lit.int .i64 (rd_T34 l x12).f0).wf = true then (if F.length < 1000000 then (if (rd_T34 l x12).f1 = true then (if (rd_T34 l x12).f0 = x6 then (if F.contains (rd_T34 l x12).f0 = true then (if wrap64 ((F.length : Int) - wrap64 (x6 + 1)) > x1 then (some false) else (impl_IsLoopOrder.l0 k x1 F (wrap64 (x6 + 1)) l (wrap64 (x12 + 1)))) else (some false)) else (some false)) else (if F.contains (rd_T34 l x12).f0 = true then (some false) else (if wrap64 ((F.length : Int) + 1 - x6) > x1 then (some false) else (impl_IsLoopOrder.l0 k x1 ((rd_T34 l x12).f0 :: F) x6 l (wrap64 (x12 + 1)))))) else none) else none) else none) else (some ((F.length : Int) == x6))
def impl_IsLoopOrder.f (k : Nat) (l0 : List (S34)) (a1 : Int) : Option (Bool) := impl_IsLoopOrder.l0 k a1 [] 0 l0 0
theorem impl_IsLoopOrder.mono_l : ∀ k, (∀ y0 y1 y2 y3 y4, LeO (impl_IsLoopOrder.l0 k y0 y1 y2 y3 y4) (impl_IsLoopOrder.l0 (k + 1) y0 y1 y2 y3 y4))
  | 0 => fun _ _ _ _ _ r h => by simp [impl_IsLoopOrder.l0] at h
  | k + 1 => by
    have ih0 := impl_IsLoopOrder.mono_l k
    intro y0 y1 y2 y3 y4
    unfold impl_IsLoopOrder.l0
    repeat' first
      | (with_reducible exact ih0 _ _ _ _ _)
      | (with_reducible exact LeO.refl _)
      | (with_reducible exact LeO.none _)
      | (with_reducible refine LeO.ite ?_ ?_)
      | exact ih0 _ _ _ _ _
theorem impl_IsLoopOrder.mono : ∀ a0 a1 k, LeO (impl_IsLoopOrder.f k a0 a1) (impl_IsLoopOrder.f (k + 1) a0 a1) := fun a0 a1 k => impl_IsLoopOrder.mono_l k a1 [] 0 a0 0
theorem zero4 (w : World) : (zeroValue 4).run Try.prog w = .ok (.bool false) w := by kernel_rfl
set_option maxHeartbeats 8000000 in
set_option maxRecDepth 100000 in
theorem impl_IsLoopOrder.calls (k : Nat) (A0 : Option Addr) (c0 : Nat) (l0 : List (S34)) (a1 : Int) (r : Bool) (w : World) (hr0 : Kd.C k34 w A0 l0.length l0) (hc0 : l0.length ≤ c0) (h : impl_IsLoopOrder.f k l0 a1 = some r) :
    Calls Try.prog 41 #[.slice A0 l0.length c0, .int .i64 a1] w fun e w' => e = .returned (.bool r) ∧ Below w.heap.size w w' := by
  have hu34 := Try.underlying34
  have HR0 := Aside0.mk hr0
  have HC0 := Aside0.mk hc0
  (try clear hr0); (try clear hc0)
  have HB := Aside0.mk (Below.refl w.heap.size w)
  have H' : Aside0 (impl_IsLoopOrder.l0 k a1 [] 0 l0 0 = some r) := ⟨h⟩
  clear h
  have hmm := @run_makeMap Try.prog
  go_enter Try.func41, Try.ntmps41
  go_wp2
  go_loopg [6, 12] k (fun kq v6 v12 w' => ∃ (F : List Int) (x6_1 : Int) (x12_1 : Int), v6 = .int .i64 x6_1 ∧ v12 = .int .i64 x12_1 ∧ Aside0 (impl_IsLoopOrder.l0 kq a1 F x6_1 l0 x12_1 = some r) ∧ Aside0 (kq ≤ k) ∧ Aside0 (MapSet.IsSet Try.prog w' w.heap.size F) ∧ Aside0 (Below w.heap.size w w'))
  case atStart => exact ⟨[], (0), (0), (by first | rfl | (simp; done) | (simp [*]; done)), (by first | rfl | (simp; done) | (simp [*]; done)), H', ⟨Nat.le_refl _⟩, ⟨MapSet.IsSet.made _ _⟩, ⟨Fix.uB⟩⟩
  case round =>
    clear H'
    obtain ⟨F, x6_1, x12_1, rfl, rfl, HA, HK1, HS, HB⟩ := hrel
    cases gk with
    | zero => exact absurd HA.out (by simp [impl_IsLoopOrder.l0])
    | succ k1 =>
      have H := HA.out
      clear HA
      simp only [impl_IsLoopOrder.l0] at H
      by_cases c3 : x12_1 < (l0.length : Int)
      · rw [if_pos c3] at H
        have c3b0 : decide (x12_1 < (l0.length : Int)) = true := decide_eq_true c3
        clear c3
        by_cases c4 : 0 ≤ x12_1
        · rw [if_pos c4] at H
          have c4b0 : decide (0 ≤ x12_1) = true := decide_eq_true c4
          clear c4
          obtain ⟨s0, hs0⟩ : ∃ s, s = (rd_T34 l0 x12_1).f0 := ⟨_, rfl⟩
          obtain ⟨b0, hb0⟩ : ∃ s, s = (rd_T34 l0 x12_1).f1 := ⟨_, rfl⟩
          rw [← hs0, ← hb0] at H
          by_cases c5 : (Lit.int .i64 s0).wf = true
          · rw [if_pos c5] at H
            have HW := Aside0.mk c5
            clear c5
            by_cases c6 : F.length < 1000000
            · rw [if_pos c6] at H
              have HL := Aside0.mk c6
              clear c6
              cases b0 with
              | true =>
                rw [if_pos rfl] at H
                by_cases c7 : s0 = x6_1
                · rw [if_pos c7] at H
                  have c7b0 : (s0 == x6_1) = true := beq_iff_eq.mpr c7
                  have c7b1 : (s0 != x6_1) = false := bne_eq_false_iff_eq.mpr c7
                  clear c7
                  by_cases c8 : F.contains s0 = true
                  · rw [if_pos c8] at H
                    have HF := Aside0.mk c8
                    clear c8
                    by_cases c9 : wrap64 ((F.length : Int) - wrap64 (x6_1 + 1)) > a1
                    · rw [if_pos c9] at H
                      have c9b0 : decide (wrap64 ((F.length : Int) - wrap64 (x6_1 + 1)) > a1) = true := decide_eq_true c9
                      clear c9
                      obtain rfl := Option.some.inj H
                      obtain ⟨ad, ead, hx0, hx1⟩ := at_T34 HR0.out x12_1 (of_decide_eq_true c4b0) (of_decide_eq_true c3b0)
                      rw [← hs0] at hx0
                      rw [← hb0] at hx1
                      cases ead
                      replace hx0 := (HB.out.cell (World.block_lt_of_cell? w _ hx0)).trans hx0
                      replace hx1 := (HB.out.cell (World.block_lt_of_cell? w _ hx1)).trans hx1
                      have p1 : 0 ≤ x12_1 := of_decide_eq_true c4b0
                      have q1 : x12_1 < (l0.length : Int) := of_decide_eq_true c3b0
                      replace p1 := eq_true p1
                      replace q1 := eq_true q1
                      (try clear hs0); (try clear hb0)
                      go_wp2_with (first | ((with_reducible refine gate_dst (N := 8) rfl ?_); refine box_event ?hg (N := 8) ?hd (cs := #[.int .i64 0, .bool false]) (t := 34) ?hr ?_; (case hd => rfl); (case hg => rfl); (case hr => first | (go_simp; done) | (go_simp; rfl)); intro gb hg w9 hbox hb; have n0_ := Aside0.mk (below_step Fix.uB hb); have n1_ := Aside0.mk (hbox); have n2_ := Aside0.mk ((by rw [hg]; exact (below_size Fix.uB) : w.heap.size ≤ gb)); have n3_ := Aside0.mk ((by rw [hg]; exact Nat.ne_of_lt HS.out.lt : w.heap.size ≠ gb)); have n4_ := Aside0.mk (HS.out.below hb); clear HB HS; have HB := n0_; have BK := n1_; have GE := n2_; have NE := n3_; have HS := n4_; clear n0_ n1_ n2_ n3_ n4_; clear hb hbox hg; have hcz0 : w9.cell? ⟨gb, 0, none⟩ = some (.int .i64 0) := (blk_cell BK.out 0).trans rfl; have hcz1 : w9.cell? ⟨gb, 1, none⟩ = some (.bool false) := (blk_cell BK.out 1).trans rfl; have hfz0 := blk_frozen BK.out 0; have hfz1 := blk_frozen BK.out 1) | (at_lookup; (try (refine gate_guard (by rfl) ?_; dsimp only)); refine MapSet.look rfl rfl Try.underlying73 Try.underlying3 Try.underlying4 (zero4 _) (b := w.heap.size) (F := F) rfl (by repeat (first | exact HS.out | refine MapSet.IsSet.setCell ?_ NE.out _)) _ rfl HW.out _ HF.out ?_) | (at_mapUpdate; refine MapSet.put rfl rfl Try.underlying73 Try.underlying3 Try.underlying4 (b := w.heap.size) (F := F) rfl (by repeat (first | exact HS.out | refine MapSet.IsSet.setCell ?_ NE.out _)) HL.out _ rfl rfl HW.out HF.out ?_; intro w7 hs7 hg7; have n0_ := Aside0.mk hs7; have n1_ := Aside0.mk (pw_below_grown (by repeat (first | (with_reducible first | exact HB.out | apply Fix.bA | apply Fix.bN | apply Fix.b1 | refine below_set ?_ GE.out) | exact HB.out)) (some w.heap.size) (below_size (by repeat (first | (with_reducible first | exact HB.out | apply Fix.bA | apply Fix.bN | apply Fix.b1 | refine below_set ?_ GE.out) | exact HB.out))) hg7 (fun k_ hk_ => by cases hk_; exact Nat.le_refl _)); clear HS HB; have HS := n0_; have HB := n1_; clear n0_ n1_ hs7 hg7) | (at_len; refine MapSet.len_ rfl rfl Try.underlying73 (b := w.heap.size) (F := F) rfl (by repeat (first | exact HS.out | refine MapSet.IsSet.setCell ?_ NE.out _)) ?_))
                      go_ret
                      exact ⟨by first | rfl | (simp [errW_none, errW_some] <;> rfl) | (simp [*, errW_none, errW_some] <;> rfl), by repeat (first | (with_reducible first | exact HB.out | apply Fix.bA | apply Fix.bN | apply Fix.b1 | refine below_set ?_ GE.out) | exact HB.out)⟩
                    · rw [if_neg c9] at H
                      have c9b0 : decide (wrap64 ((F.length : Int) - wrap64 (x6_1 + 1)) > a1) = false := decide_eq_false c9
                      clear c9
                      have H' := Aside0.mk H
                      clear H
                      obtain ⟨ad, ead, hx0, hx1⟩ := at_T34 HR0.out x12_1 (of_decide_eq_true c4b0) (of_decide_eq_true c3b0)
                      rw [← hs0] at hx0
                      rw [← hb0] at hx1
                      cases ead
                      replace hx0 := (HB.out.cell (World.block_lt_of_cell? w _ hx0)).trans hx0
                      replace hx1 := (HB.out.cell (World.block_lt_of_cell? w _ hx1)).trans hx1
                      have p1 : 0 ≤ x12_1 := of_decide_eq_true c4b0
                      have q1 : x12_1 < (l0.length : Int) := of_decide_eq_true c3b0
                      replace p1 := eq_true p1
                      replace q1 := eq_true q1
                      (try clear hs0); (try clear hb0)
                      go_wp2_with (first | ((with_reducible refine gate_dst (N := 8) rfl ?_); refine box_event ?hg (N := 8) ?hd (cs := #[.int .i64 0, .bool false]) (t := 34) ?hr ?_; (case hd => rfl); (case hg => rfl); (case hr => first | (go_simp; done) | (go_simp; rfl)); intro gb hg w9 hbox hb; have n0_ := Aside0.mk (below_step Fix.uB hb); have n1_ := Aside0.mk (hbox); have n2_ := Aside0.mk ((by rw [hg]; exact (below_size Fix.uB) : w.heap.size ≤ gb)); have n3_ := Aside0.mk ((by rw [hg]; exact Nat.ne_of_lt HS.out.lt : w.heap.size ≠ gb)); have n4_ := Aside0.mk (HS.out.below hb); clear HB HS; have HB := n0_; have BK := n1_; have GE := n2_; have NE := n3_; have HS := n4_; clear n0_ n1_ n2_ n3_ n4_; clear hb hbox hg; have hcz0 : w9.cell? ⟨gb, 0, none⟩ = some (.int .i64 0) := (blk_cell BK.out 0).trans rfl; have hcz1 : w9.cell? ⟨gb, 1, none⟩ = some (.bool false) := (blk_cell BK.out 1).trans rfl; have hfz0 := blk_frozen BK.out 0; have hfz1 := blk_frozen BK.out 1) | (at_lookup; (try (refine gate_guard (by rfl) ?_; dsimp only)); refine MapSet.look rfl rfl Try.underlying73 Try.underlying3 Try.underlying4 (zero4 _) (b := w.heap.size) (F := F) rfl (by repeat (first | exact HS.out | refine MapSet.IsSet.setCell ?_ NE.out _)) _ rfl HW.out _ HF.out ?_) | (at_mapUpdate; refine MapSet.put rfl rfl Try.underlying73 Try.underlying3 Try.underlying4 (b := w.heap.size) (F := F) rfl (by repeat (first | exact HS.out | refine MapSet.IsSet.setCell ?_ NE.out _)) HL.out _ rfl rfl HW.out HF.out ?_; intro w7 hs7 hg7; have n0_ := Aside0.mk hs7; have n1_ := Aside0.mk (pw_below_grown (by repeat (first | (with_reducible first | exact HB.out | apply Fix.bA | apply Fix.bN | apply Fix.b1 | refine below_set ?_ GE.out) | exact HB.out)) (some w.heap.size) (below_size (by repeat (first | (with_reducible first | exact HB.out | apply Fix.bA | apply Fix.bN | apply Fix.b1 | refine below_set ?_ GE.out) | exact HB.out))) hg7 (fun k_ hk_ => by cases hk_; exact Nat.le_refl _)); clear HS HB; have HS := n0_; have HB := n1_; clear n0_ n1_ hs7 hg7) | (at_len; refine MapSet.len_ rfl rfl Try.underlying73 (b := w.heap.size) (F := F) rfl (by repeat (first | exact HS.out | refine MapSet.IsSet.setCell ?_ NE.out _)) ?_))
                      go_roundg k1
                      case measure => have := HK1.out; omega
                      case rel => exact ⟨F, (wrap64 (x6_1 + 1)), (wrap64 (x12_1 + 1)), (by first | rfl | (simp; done) | (simp [*]; done)), (by first | rfl | (simp; done) | (simp [*]; done)), H', ⟨by have := HK1.out; omega⟩, ⟨(by repeat (first | exact HS.out | refine MapSet.IsSet.setCell ?_ NE.out _))⟩, ⟨by repeat (first | (with_reducible first | exact HB.out | apply Fix.bA | apply Fix.bN | apply Fix.b1 | refine below_set ?_ GE.out) | exact HB.out)⟩⟩
                  · rw [if_neg c8] at H
                    have HF := Aside0.mk (Bool.eq_false_iff.mpr c8)
                    clear c8
                    obtain rfl := Option.some.inj H
                    obtain ⟨ad, ead, hx0, hx1⟩ := at_T34 HR0.out x12_1 (of_decide_eq_true c4b0) (of_decide_eq_true c3b0)
                    rw [← hs0] at hx0
                    rw [← hb0] at hx1
                    cases ead
                    replace hx0 := (HB.out.cell (World.block_lt_of_cell? w _ hx0)).trans hx0
                    replace hx1 := (HB.out.cell (World.block_lt_of_cell? w _ hx1)).trans hx1
                    have p1 : 0 ≤ x12_1 := of_decide_eq_true c4b0
                    have q1 : x12_1 < (l0.length : Int) := of_decide_eq_true c3b0
                    replace p1 := eq_true p1
                    replace q1 := eq_true q1
                    (try clear hs0); (try clear hb0)
                    go_wp2_with (first | ((with_reducible refine gate_dst (N := 8) rfl ?_); refine box_event ?hg (N := 8) ?hd (cs := #[.int .i64 0, .bool false]) (t := 34) ?hr ?_; (case hd => rfl); (case hg => rfl); (case hr => first | (go_simp; done) | (go_simp; rfl)); intro gb hg w9 hbox hb; have n0_ := Aside0.mk (below_step Fix.uB hb); have n1_ := Aside0.mk (hbox); have n2_ := Aside0.mk ((by rw [hg]; exact (below_size Fix.uB) : w.heap.size ≤ gb)); have n3_ := Aside0.mk ((by rw [hg]; exact Nat.ne_of_lt HS.out.lt : w.heap.size ≠ gb)); have n4_ := Aside0.mk (HS.out.below hb); clear HB HS; have HB := n0_; have BK := n1_; have GE := n2_; have NE := n3_; have HS := n4_; clear n0_ n1_ n2_ n3_ n4_; clear hb hbox hg; have hcz0 : w9.cell? ⟨gb, 0, none⟩ = some (.int .i64 0) := (blk_cell BK.out 0).trans rfl; have hcz1 : w9.cell? ⟨gb, 1, none⟩ = some (.bool false) := (blk_cell BK.out 1).trans rfl; have hfz0 := blk_frozen BK.out 0; have hfz1 := blk_frozen BK.out 1) | (at_lookup; (try (refine gate_guard (by rfl) ?_; dsimp only)); refine MapSet.look rfl rfl Try.underlying73 Try.underlying3 Try.underlying4 (zero4 _) (b := w.heap.size) (F := F) rfl (by repeat (first | exact HS.out | refine MapSet.IsSet.setCell ?_ NE.out _)) _ rfl HW.out _ HF.out ?_) | (at_mapUpdate; refine MapSet.put rfl rfl Try.underlying73 Try.underlying3 Try.underlying4 (b := w.heap.size) (F := F) rfl (by repeat (first | exact HS.out | refine MapSet.IsSet.setCell ?_ NE.out _)) HL.out _ rfl rfl HW.out HF.out ?_; intro w7 hs7 hg7; have n0_ := Aside0.mk hs7; have n1_ := Aside0.mk (pw_below_grown (by repeat (first | (with_reducible first | exact HB.out | apply Fix.bA | apply Fix.bN | apply Fix.b1 | refine below_set ?_ GE.out) | exact HB.out)) (some w.heap.size) (below_size (by repeat (first | (with_reducible first | exact HB.out | apply Fix.bA | apply Fix.bN | apply Fix.b1 | refine below_set ?_ GE.out) | exact HB.out))) hg7 (fun k_ hk_ => by cases hk_; exact Nat.le_refl _)); clear HS HB; have HS := n0_; have HB := n1_; clear n0_ n1_ hs7 hg7) | (at_len; refine MapSet.len_ rfl rfl Try.underlying73 (b := w.heap.size) (F := F) rfl (by repeat (first | exact HS.out | refine MapSet.IsSet.setCell ?_ NE.out _)) ?_))
                    go_ret
                    exact ⟨by first | rfl | (simp [errW_none, errW_some] <;> rfl) | (simp [*, errW_none, errW_some] <;> rfl), by repeat (first | (with_reducible first | exact HB.out | apply Fix.bA | apply Fix.bN | apply Fix.b1 | refine below_set ?_ GE.out) | exact HB.out)⟩
                · rw [if_neg c7] at H
                  have c7b0 : (s0 == x6_1) = false := beq_eq_false_iff_ne.mpr c7
                  have c7b1 : (s0 != x6_1) = true := bne_iff_ne.mpr c7
                  clear c7
                  obtain rfl := Option.some.inj H
                  obtain ⟨ad, ead, hx0, hx1⟩ := at_T34 HR0.out x12_1 (of_decide_eq_true c4b0) (of_decide_eq_true c3b0)
                  rw [← hs0] at hx0
                  rw [← hb0] at hx1
                  cases ead
                  replace hx0 := (HB.out.cell (World.block_lt_of_cell? w _ hx0)).trans hx0
                  replace hx1 := (HB.out.cell (World.block_lt_of_cell? w _ hx1)).trans hx1
                  have p1 : 0 ≤ x12_1 := of_decide_eq_true c4b0
                  have q1 : x12_1 < (l0.length : Int) := of_decide_eq_true c3b0
                  replace p1 := eq_true p1
                  replace q1 := eq_true q1
                  (try clear hs0); (try clear hb0)
                  go_wp2_with (first | ((with_reducible refine gate_dst (N := 8) rfl ?_); refine box_event ?hg (N := 8) ?hd (cs := #[.int .i64 0, .bool false]) (t := 34) ?hr ?_; (case hd => rfl); (case hg => rfl); (case hr => first | (go_simp; done) | (go_simp; rfl)); intro gb hg w9 hbox hb; have n0_ := Aside0.mk (below_step Fix.uB hb); have n1_ := Aside0.mk (hbox); have n2_ := Aside0.mk ((by rw [hg]; exact (below_size Fix.uB) : w.heap.size ≤ gb)); have n3_ := Aside0.mk ((by rw [hg]; exact Nat.ne_of_lt HS.out.lt : w.heap.size ≠ gb)); have n4_ := Aside0.mk (HS.out.below hb); clear HB HS; have HB := n0_; have BK := n1_; have GE := n2_; have NE := n3_; have HS := n4_; clear n0_ n1_ n2_ n3_ n4_; clear hb hbox hg; have hcz0 : w9.cell? ⟨gb, 0, none⟩ = some (.int .i64 0) := (blk_cell BK.out 0).trans rfl; have hcz1 : w9.cell? ⟨gb, 1, none⟩ = some (.bool false) := (blk_cell BK.out 1).trans rfl; have hfz0 := blk_frozen BK.out 0; have hfz1 := blk_frozen BK.out 1) | (at_lookup; (try (refine gate_guard (by rfl) ?_; dsimp only)); refine MapSet.look rfl rfl Try.underlying73 Try.underlying3 Try.underlying4 (zero4 _) (b := w.heap.size) (F := F) rfl (by repeat (first | exact HS.out | refine MapSet.IsSet.setCell ?_ NE.out _)) _ rfl HW.out _ HF.out ?_) | (at_mapUpdate; refine MapSet.put rfl rfl Try.underlying73 Try.underlying3 Try.underlying4 (b := w.heap.size) (F := F) rfl (by repeat (first | exact HS.out | refine MapSet.IsSet.setCell ?_ NE.out _)) HL.out _ rfl rfl HW.out HF.out ?_; intro w7 hs7 hg7; have n0_ := Aside0.mk hs7; have n1_ := Aside0.mk (pw_below_grown (by repeat (first | (with_reducible first | exact HB.out | apply Fix.bA | apply Fix.bN | apply Fix.b1 | refine below_set ?_ GE.out) | exact HB.out)) (some w.heap.size) (below_size (by repeat (first | (with_reducible first | exact HB.out | apply Fix.bA | apply Fix.bN | apply Fix.b1 | refine below_set ?_ GE.out) | exact HB.out))) hg7 (fun k_ hk_ => by cases hk_; exact Nat.le_refl _)); clear HS HB; have HS := n0_; have HB := n1_; clear n0_ n1_ hs7 hg7) | (at_len; refine MapSet.len_ rfl rfl Try.underlying73 (b := w.heap.size) (F := F) rfl (by repeat (first | exact HS.out | refine MapSet.IsSet.setCell ?_ NE.out _)) ?_))
                  go_ret
                  exact ⟨by first | rfl | (simp [errW_none, errW_some] <;> rfl) | (simp [*, errW_none, errW_some] <;> rfl), by repeat (first | (with_reducible first | exact HB.out | apply Fix.bA | apply Fix.bN | apply Fix.b1 | refine below_set ?_ GE.out) | exact HB.out)⟩
              | false =>
                rw [if_neg (show ¬ (false = true) by decide)] at H
                by_cases c8 : F.contains s0 = true
                · rw [if_pos c8] at H
                  have HF := Aside0.mk c8
                  clear c8
                  obtain rfl := Option.some.inj H
                  obtain ⟨ad, ead, hx0, hx1⟩ := at_T34 HR0.out x12_1 (of_decide_eq_true c4b0) (of_decide_eq_true c3b0)
                  rw [← hs0] at hx0
                  rw [← hb0] at hx1
                  cases ead
                  replace hx0 := (HB.out.cell (World.block_lt_of_cell? w _ hx0)).trans hx0
                  replace hx1 := (HB.out.cell (World.block_lt_of_cell? w _ hx1)).trans hx1
                  have p1 : 0 ≤ x12_1 := of_decide_eq_true c4b0
                  have q1 : x12_1 < (l0.length : Int) := of_decide_eq_true c3b0
                  replace p1 := eq_true p1
                  replace q1 := eq_true q1
                  (try clear hs0); (try clear hb0)
                  go_wp2_with (first | ((with_reducible refine gate_dst (N := 8) rfl ?_); refine box_event ?hg (N := 8) ?hd (cs := #[.int .i64 0, .bool false]) (t := 34) ?hr ?_; (case hd => rfl); (case hg => rfl); (case hr => first | (go_simp; done) | (go_simp; rfl)); intro gb hg w9 hbox hb; have n0_ := Aside0.mk (below_step Fix.uB hb); have n1_ := Aside0.mk (hbox); have n2_ := Aside0.mk ((by rw [hg]; exact (below_size Fix.uB) : w.heap.size ≤ gb)); have n3_ := Aside0.mk ((by rw [hg]; exact Nat.ne_of_lt HS.out.lt : w.heap.size ≠ gb)); have n4_ := Aside0.mk (HS.out.below hb); clear HB HS; have HB := n0_; have BK := n1_; have GE := n2_; have NE := n3_; have HS := n4_; clear n0_ n1_ n2_ n3_ n4_; clear hb hbox hg; have hcz0 : w9.cell? ⟨gb, 0, none⟩ = some (.int .i64 0) := (blk_cell BK.out 0).trans rfl; have hcz1 : w9.cell? ⟨gb, 1, none⟩ = some (.bool false) := (blk_cell BK.out 1).trans rfl; have hfz0 := blk_frozen BK.out 0; have hfz1 := blk_frozen BK.out 1) | (at_lookup; (try (refine gate_guard (by rfl) ?_; dsimp only)); refine MapSet.look rfl rfl Try.underlying73 Try.underlying3 Try.underlying4 (zero4 _) (b := w.heap.size) (F := F) rfl (by repeat (first | exact HS.out | refine MapSet.IsSet.setCell ?_ NE.out _)) _ rfl HW.out _ HF.out ?_) | (at_mapUpdate; refine MapSet.put rfl rfl Try.underlying73 Try.underlying3 Try.underlying4 (b := w.heap.size) (F := F) rfl (by repeat (first | exact HS.out | refine MapSet.IsSet.setCell ?_ NE.out _)) HL.out _ rfl rfl HW.out HF.out ?_; intro w7 hs7 hg7; have n0_ := Aside0.mk hs7; have n1_ := Aside0.mk (pw_below_grown (by repeat (first | (with_reducible first | exact HB.out | apply Fix.bA | apply Fix.bN | apply Fix.b1 | refine below_set ?_ GE.out) | exact HB.out)) (some w.heap.size) (below_size (by repeat (first | (with_reducible first | exact HB.out | apply Fix.bA | apply Fix.bN | apply Fix.b1 | refine below_set ?_ GE.out) | exact HB.out))) hg7 (fun k_ hk_ => by cases hk_; exact Nat.le_refl _)); clear HS HB; have HS := n0_; have HB := n1_; clear n0_ n1_ hs7 hg7) | (at_len; refine MapSet.len_ rfl rfl Try.underlying73 (b := w.heap.size) (F := F) rfl (by repeat (first | exact HS.out | refine MapSet.IsSet.setCell ?_ NE.out _)) ?_))
                  go_ret
                  exact ⟨by first | rfl | (simp [errW_none, errW_some] <;> rfl) | (simp [*, errW_none, errW_some] <;> rfl), by repeat (first | (with_reducible first | exact HB.out | apply Fix.bA | apply Fix.bN | apply Fix.b1 | refine below_set ?_ GE.out) | exact HB.out)⟩
                · rw [if_neg c8] at H
                  have HF := Aside0.mk (Bool.eq_false_iff.mpr c8)
                  clear c8
                  by_cases c9 : wrap64 ((F.length : Int) + 1 - x6_1) > a1
                  · rw [if_pos c9] at H
                    have c9b0 : decide (wrap64 ((F.length : Int) + 1 - x6_1) > a1) = true := decide_eq_true c9
                    clear c9
                    obtain rfl := Option.some.inj H
                    obtain ⟨ad, ead, hx0, hx1⟩ := at_T34 HR0.out x12_1 (of_decide_eq_true c4b0) (of_decide_eq_true c3b0)
                    rw [← hs0] at hx0
                    rw [← hb0] at hx1
                    cases ead
                    replace hx0 := (HB.out.cell (World.block_lt_of_cell? w _ hx0)).trans hx0
                    replace hx1 := (HB.out.cell (World.block_lt_of_cell? w _ hx1)).trans hx1
                    have p1 : 0 ≤ x12_1 := of_decide_eq_true c4b0
                    have q1 : x12_1 < (l0.length : Int) := of_decide_eq_true c3b0
                    replace p1 := eq_true p1
                    replace q1 := eq_true q1
                    (try clear hs0); (try clear hb0)
                    go_wp2_with (first | ((with_reducible refine gate_dst (N := 8) rfl ?_); refine box_event ?hg (N := 8) ?hd (cs := #[.int .i64 0, .bool false]) (t := 34) ?hr ?_; (case hd => rfl); (case hg => rfl); (case hr => first | (go_simp; done) | (go_simp; rfl)); intro gb hg w9 hbox hb; have n0_ := Aside0.mk (below_step Fix.uB hb); have n1_ := Aside0.mk (hbox); have n2_ := Aside0.mk ((by rw [hg]; exact (below_size Fix.uB) : w.heap.size ≤ gb)); have n3_ := Aside0.mk ((by rw [hg]; exact Nat.ne_of_lt HS.out.lt : w.heap.size ≠ gb)); have n4_ := Aside0.mk (HS.out.below hb); clear HB HS; have HB := n0_; have BK := n1_; have GE := n2_; have NE := n3_; have HS := n4_; clear n0_ n1_ n2_ n3_ n4_; clear hb hbox hg; have hcz0 : w9.cell? ⟨gb, 0, none⟩ = some (.int .i64 0) := (blk_cell BK.out 0).trans rfl; have hcz1 : w9.cell? ⟨gb, 1, none⟩ = some (.bool false) := (blk_cell BK.out 1).trans rfl; have hfz0 := blk_frozen BK.out 0; have hfz1 := blk_frozen BK.out 1) | (at_lookup; (try (refine gate_guard (by rfl) ?_; dsimp only)); refine MapSet.look rfl rfl Try.underlying73 Try.underlying3 Try.underlying4 (zero4 _) (b := w.heap.size) (F := F) rfl (by repeat (first | exact HS.out | refine MapSet.IsSet.setCell ?_ NE.out _)) _ rfl HW.out _ HF.out ?_) | (at_mapUpdate; refine MapSet.put rfl rfl Try.underlying73 Try.underlying3 Try.underlying4 (b := w.heap.size) (F := F) rfl (by repeat (first | exact HS.out | refine MapSet.IsSet.setCell ?_ NE.out _)) HL.out _ rfl rfl HW.out HF.out ?_; intro w7 hs7 hg7; have n0_ := Aside0.mk hs7; have n1_ := Aside0.mk (pw_below_grown (by repeat (first | (with_reducible first | exact HB.out | apply Fix.bA | apply Fix.bN | apply Fix.b1 | refine below_set ?_ GE.out) | exact HB.out)) (some w.heap.size) (below_size (by repeat (first | (with_reducible first | exact HB.out | apply Fix.bA | apply Fix.bN | apply Fix.b1 | refine below_set ?_ GE.out) | exact HB.out))) hg7 (fun k_ hk_ => by cases hk_; exact Nat.le_refl _)); clear HS HB; have HS := n0_; have HB := n1_; clear n0_ n1_ hs7 hg7) | (at_len; refine MapSet.len_ rfl rfl Try.underlying73 (b := w.heap.size) (F := (s0 :: F)) rfl (by repeat (first | exact HS.out | refine MapSet.IsSet.setCell ?_ NE.out _)) ?_))
                    go_ret
                    exact ⟨by first | rfl | (simp [errW_none, errW_some] <;> rfl) | (simp [*, errW_none, errW_some] <;> rfl), by repeat (first | (with_reducible first | exact HB.out | apply Fix.bA | apply Fix.bN | apply Fix.b1 | refine below_set ?_ GE.out) | exact HB.out)⟩
                  · rw [if_neg c9] at H
                    have c9b0 : decide (wrap64 ((F.length : Int) + 1 - x6_1) > a1) = false := decide_eq_false c9
                    clear c9
                    have H' := Aside0.mk H
                    clear H
                    obtain ⟨ad, ead, hx0, hx1⟩ := at_T34 HR0.out x12_1 (of_decide_eq_true c4b0) (of_decide_eq_true c3b0)
                    rw [← hs0] at hx0
                    rw [← hb0] at hx1
                    cases ead
                    replace hx0 := (HB.out.cell (World.block_lt_of_cell? w _ hx0)).trans hx0
                    replace hx1 := (HB.out.cell (World.block_lt_of_cell? w _ hx1)).trans hx1
                    have p1 : 0 ≤ x12_1 := of_decide_eq_true c4b0
                    have q1 : x12_1 < (l0.length : Int) := of_decide_eq_true c3b0
                    replace p1 := eq_true p1
                    replace q1 := eq_true q1
                    (try clear hs0); (try clear hb0)
                    go_wp2_with (first | ((with_reducible refine gate_dst (N := 8) rfl ?_); refine box_event ?hg (N := 8) ?hd (cs := #[.int .i64 0, .bool false]) (t := 34) ?hr ?_; (case hd => rfl); (case hg => rfl); (case hr => first | (go_simp; done) | (go_simp; rfl)); intro gb hg w9 hbox hb; have n0_ := Aside0.mk (below_step Fix.uB hb); have n1_ := Aside0.mk (hbox); have n2_ := Aside0.mk ((by rw [hg]; exact (below_size Fix.uB) : w.heap.size ≤ gb)); have n3_ := Aside0.mk ((by rw [hg]; exact Nat.ne_of_lt HS.out.lt : w.heap.size ≠ gb)); have n4_ := Aside0.mk (HS.out.below hb); clear HB HS; have HB := n0_; have BK := n1_; have GE := n2_; have NE := n3_; have HS := n4_; clear n0_ n1_ n2_ n3_ n4_; clear hb hbox hg; have hcz0 : w9.cell? ⟨gb, 0, none⟩ = some (.int .i64 0) := (blk_cell BK.out 0).trans rfl; have hcz1 : w9.cell? ⟨gb, 1, none⟩ = some (.bool false) := (blk_cell BK.out 1).trans rfl; have hfz0 := blk_frozen BK.out 0; have hfz1 := blk_frozen BK.out 1) | (at_lookup; (try (refine gate_guard (by rfl) ?_; dsimp only)); refine MapSet.look rfl rfl Try.underlying73 Try.underlying3 Try.underlying4 (zero4 _) (b := w.heap.size) (F := F) rfl (by repeat (first | exact HS.out | refine MapSet.IsSet.setCell ?_ NE.out _)) _ rfl HW.out _ HF.out ?_) | (at_mapUpdate; refine MapSet.put rfl rfl Try.underlying73 Try.underlying3 Try.underlying4 (b := w.heap.size) (F := F) rfl (by repeat (first | exact HS.out | refine MapSet.IsSet.setCell ?_ NE.out _)) HL.out _ rfl rfl HW.out HF.out ?_; intro w7 hs7 hg7; have n0_ := Aside0.mk hs7; have n1_ := Aside0.mk (pw_below_grown (by repeat (first | (with_reducible first | exact HB.out | apply Fix.bA | apply Fix.bN | apply Fix.b1 | refine below_set ?_ GE.out) | exact HB.out)) (some w.heap.size) (below_size (by repeat (first | (with_reducible first | exact HB.out | apply Fix.bA | apply Fix.bN | apply Fix.b1 | refine below_set ?_ GE.out) | exact HB.out))) hg7 (fun k_ hk_ => by cases hk_; exact Nat.le_refl _)); clear HS HB; have HS := n0_; have HB := n1_; clear n0_ n1_ hs7 hg7) | (at_len; refine MapSet.len_ rfl rfl Try.underlying73 (b := w.heap.size) (F := (s0 :: F)) rfl (by repeat (first | exact HS.out | refine MapSet.IsSet.setCell ?_ NE.out _)) ?_))
                    go_roundg k1
                    case measure => have := HK1.out; omega
                    case rel => exact ⟨(s0 :: F), x6_1, (wrap64 (x12_1 + 1)), (by first | rfl | (simp; done) | (simp [*]; done)), (by first | rfl | (simp; done) | (simp [*]; done)), H', ⟨by have := HK1.out; omega⟩, ⟨(by repeat (first | exact HS.out | refine MapSet.IsSet.setCell ?_ NE.out _))⟩, ⟨by repeat (first | (with_reducible first | exact HB.out | apply Fix.bA | apply Fix.bN | apply Fix.b1 | refine below_set ?_ GE.out) | exact HB.out)⟩⟩
            · rw [if_neg c6] at H
              exact absurd H (by simp)
          · rw [if_neg c5] at H
            exact absurd H (by simp)
        · rw [if_neg c4] at H
          exact absurd H (by simp)
      · rw [if_neg c3] at H
        have c3b0 : decide (x12_1 < (l0.length : Int)) = false := decide_eq_false c3
        clear c3
        obtain rfl := Option.some.inj H
        go_wp2_with (first | (at_len; refine MapSet.len_ rfl rfl Try.underlying73 (b := w.heap.size) (F := F) rfl HS.out ?_))
        go_ret
        exact ⟨by first | rfl | (simp [errW_none, errW_some] <;> rfl) | (simp [*, errW_none, errW_some] <;> rfl), Fix.uB⟩

/-! ### laws_FnLoops: function 12 -/
def laws_FnLoops.l0 : Nat → Int → Int → List (S34) → Int → Option (Bool)
  | 0, _, _, _, _ => none
  | k + 1, x4, x5, x6, x7 => if x7 < x4 then ((impl_SidePlace.f k x6 x7 false).bind fun t164 => ((impl_SidePlace.f k x6 x7 true).bind fun t165 => (if t164 < 0 then (some false) else (if t165 ≤ t164 then (some false) else (if (wrap64 (t165 - t164)) > (wrap64 (2 * x5)) then (some false) else (laws_FnLoops.l0 k x4 x5 x6 (wrap64 (x7 + 1)))))))) else (if (x6.length : Int) = (wrap64 (2 * x4)) then ((impl_IsLoopOrder.f k x6 x5).bind fun t161 => (if t161 = true then ((impl_LongestLoop.f k x6).bind fun t162 => (if t162 = (mn x4 x5) then ((impl_IsLoopOrder.f k x6 (wrap64 ((mn x4 x5) - 1))).bind fun t163 => (some (!t163))) else (some false))) else (some false))) else (some false))
def laws_FnLoops.f (k : Nat) (l0 : List Int) : Option (Bool) := (laws_big.f l0).bind fun t152 => (if t152 = true then (some true) else ((spec_DrawPlaces.f k l0).bind fun t153 => (if 0 < (t153.length : Int) then (if 1 < (t153.length : Int) then ((impl_LoopOrder.f k (wrap64 (1 + (Int.tmod (rd t153 0) 40))) (wrap64 (1 + (Int.tmod (rd t153 1) 6)))).bind fun t158 => (laws_FnLoops.l0 k (wrap64 (1 + (Int.tmod (rd t153 0) 40))) (wrap64 (1 + (Int.tmod (rd t153 1) 6))) t158 0)) else (none)) else (none))))
theorem laws_FnLoops.mono_l : ∀ k, (∀ y0 y1 y2 y3, LeO (laws_FnLoops.l0 k y0 y1 y2 y3) (laws_FnLoops.l0 (k + 1) y0 y1 y2 y3))
  | 0 => fun _ _ _ _ r h => by simp [laws_FnLoops.l0] at h
  | k + 1 => by
    have ih0 := laws_FnLoops.mono_l k
    · intro y0 y1 y2 y3
      unfold laws_FnLoops.l0
      repeat' first
      | (with_reducible exact ih0 _ _ _ _)
      | (with_reducible exact impl_IsLoopOrder.mono _ _ _)
      | (with_reducible exact impl_LongestLoop.mono _ _)
      | (with_reducible exact impl_LoopOrder.mono _ _ _)
      | (with_reducible exact impl_SidePlace.mono _ _ _ _)
      | (with_reducible exact spec_DrawPlaces.mono _ _)
      | (with_reducible exact LeO.refl _)
      | (with_reducible exact LeO.none _)
      | (with_reducible refine LeO.ite ?_ ?_)
      | (with_reducible refine LeO.bind ?_ (fun _ => ?_))
      | exact ih0 _ _ _ _
      | exact impl_IsLoopOrder.mono _ _ _
      | exact impl_LongestLoop.mono _ _
      | exact impl_LoopOrder.mono _ _ _
      | exact impl_SidePlace.mono _ _ _ _
      | exact spec_DrawPlaces.mono _ _
      | exact LeO.none _
      | refine LeO.ite ?_ ?_
      | refine LeO.bind ?_ (fun _ => ?_)
theorem laws_FnLoops.mono : ∀ a0 k, LeO (laws_FnLoops.f k a0) (laws_FnLoops.f (k + 1) a0) := by
  intro a0 k
  have ih0 := laws_FnLoops.mono_l k
  unfold laws_FnLoops.f
  repeat' first
      | (with_reducible exact ih0 _ _ _ _)
      | (with_reducible exact impl_IsLoopOrder.mono _ _ _)
      | (with_reducible exact impl_LongestLoop.mono _ _)
      | (with_reducible exact impl_LoopOrder.mono _ _ _)
      | (with_reducible exact impl_SidePlace.mono _ _ _ _)
      | (with_reducible exact spec_DrawPlaces.mono _ _)
      | (with_reducible exact LeO.refl _)
      | (with_reducible exact LeO.none _)
      | (with_reducible refine LeO.ite ?_ ?_)
      | (with_reducible refine LeO.bind ?_ (fun _ => ?_))
      | exact ih0 _ _ _ _
      | exact impl_IsLoopOrder.mono _ _ _
      | exact impl_LongestLoop.mono _ _
      | exact impl_LoopOrder.mono _ _ _
      | exact impl_SidePlace.mono _ _ _ _
      | exact spec_DrawPlaces.mono _ _
      | exact LeO.none _
      | refine LeO.ite ?_ ?_
      | refine LeO.bind ?_ (fun _ => ?_)
set_option maxHeartbeats 8000000 in
set_option maxRecDepth 100000 in
theorem laws_FnLoops.calls (k : Nat) (A0 : Option Addr) (c0 : Nat) (l0 : List Int) (r : Bool) (w : World) (hr0 : Kd.C (Kd.int .u8) w A0 l0.length l0) (hc0 : l0.length ≤ c0) (hT : r = true) (h : laws_FnLoops.f k l0 = some r) :
    Calls Try.prog 12 #[.slice A0 l0.length c0] w fun e w' => e = .returned (.bool r) ∧ Below w.heap.size w w' := by
  have hu34 := Try.underlying34
  have HR0 := Aside0.mk hr0
  have HC0 := Aside0.mk hc0
  (try clear hr0); (try clear hc0)
  replace hT := Aside0.mk hT
  have HB := Aside0.mk (Below.refl w.heap.size w)
  have H : ((laws_big.f l0).bind fun t152 => (if t152 = true then (some true) else ((spec_DrawPlaces.f k l0).bind fun t153 => (if 0 < (t153.length : Int) then (if 1 < (t153.length : Int) then ((impl_LoopOrder.f k (wrap64 (1 + (Int.tmod (rd t153 0) 40))) (wrap64 (1 + (Int.tmod (rd t153 1) 6)))).bind fun t158 => (laws_FnLoops.l0 k (wrap64 (1 + (Int.tmod (rd t153 0) 40))) (wrap64 (1 + (Int.tmod (rd t153 1) 6))) t158 0)) else (none)) else (none))))) = some r := h
  clear h
  replace H := Option.bind_eq_some_iff.mp H
  obtain ⟨t152, A20, H⟩ := H
  replace H : (if t152 = true then (some true) else ((spec_DrawPlaces.f k l0).bind fun t153 => (if 0 < (t153.length : Int) then (if 1 < (t153.length : Int) then ((impl_LoopOrder.f k (wrap64 (1 + (Int.tmod (rd t153 0) 40))) (wrap64 (1 + (Int.tmod (rd t153 1) 6)))).bind fun t158 => (laws_FnLoops.l0 k (wrap64 (1 + (Int.tmod (rd t153 0) 40))) (wrap64 (1 + (Int.tmod (rd t153 1) 6))) t158 0)) else (none)) else (none)))) = some r := H
  have A2 := Aside0.mk A20
  clear A20
  by_cases c3 : t152 = true
  · subst c3
    have H1 : (some true) = some r := by rw [if_pos rfl] at H; exact H
    clear H
    have H := H1
    clear H1
    obtain rfl := Option.some.inj H
    go_enter Try.func12, Try.ntmps12
    go_wp2_with (first | ((with_reducible refine gate_callee (f := 35) rfl ?_); refine goesL_ (some 11) rfl rfl Try.func35 (by kernel_rfl) rfl #[.slice A0 l0.length c0] rfl Fix.uA ?_; (with_reducible refine (laws_big.calls _ _ l0 true _ ?side1 ?side2 A2.out).mono ?_); (case side1 => exact Fix.uC HR0.out); (case side2 => exact HC0.out); rintro e w' ⟨rfl, ⟨nd, rfl⟩⟩; refine ⟨_, rfl, ?_⟩))
    go_ret
    exact ⟨by first | rfl | (simp [errW_none, errW_some] <;> rfl) | (simp [*, errW_none, errW_some] <;> rfl), Fix.uB⟩
  · replace c3 := Bool.eq_false_iff.mpr c3
    subst c3
    have H1 : ((spec_DrawPlaces.f k l0).bind fun t153 => (if 0 < (t153.length : Int) then (if 1 < (t153.length : Int) then ((impl_LoopOrder.f k (wrap64 (1 + (Int.tmod (rd t153 0) 40))) (wrap64 (1 + (Int.tmod (rd t153 1) 6)))).bind fun t158 => (laws_FnLoops.l0 k (wrap64 (1 + (Int.tmod (rd t153 0) 40))) (wrap64 (1 + (Int.tmod (rd t153 1) 6))) t158 0)) else (none)) else (none))) = some r := by rw [if_neg (show ¬ (false = true) by decide)] at H; exact H
    clear H
    have H := H1
    clear H1
    replace H := Option.bind_eq_some_iff.mp H
    obtain ⟨t153, A40, H⟩ := H
    replace H : (if 0 < (t153.length : Int) then (if 1 < (t153.length : Int) then ((impl_LoopOrder.f k (wrap64 (1 + (Int.tmod (rd t153 0) 40))) (wrap64 (1 + (Int.tmod (rd t153 1) 6)))).bind fun t158 => (laws_FnLoops.l0 k (wrap64 (1 + (Int.tmod (rd t153 0) 40))) (wrap64 (1 + (Int.tmod (rd t153 1) 6))) t158 0)) else (none)) else (none)) = some r := H
    have A4 := Aside0.mk A40
    clear A40
    by_cases c5 : 0 < (t153.length : Int)
    · rw [if_pos c5] at H
      have c5b0 : decide (0 < (t153.length : Int)) = true := decide_eq_true c5
      have c5b1 : decide (0 < t153.length) = true := decide_eq_true (by omega)
      clear c5
      by_cases c6 : 1 < (t153.length : Int)
      · rw [if_pos c6] at H
        have c6b0 : decide (1 < (t153.length : Int)) = true := decide_eq_true c6
        have c6b1 : decide (1 < t153.length) = true := decide_eq_true (by omega)
        clear c6
        replace H := Option.bind_eq_some_iff.mp H
        obtain ⟨t158, A70, H⟩ := H
        replace H : (laws_FnLoops.l0 k (wrap64 (1 + (Int.tmod (rd t153 0) 40))) (wrap64 (1 + (Int.tmod (rd t153 1) 6))) t158 0) = some r := H
        have A7 := Aside0.mk A70
        clear A70
        have H' := Aside0.mk H
        clear H
        go_enter Try.func12, Try.ntmps12
        go_wp2_with (first | ((with_reducible refine gate_callee (f := 35) rfl ?_); refine goesL_ (some 11) rfl rfl Try.func35 (by kernel_rfl) rfl #[.slice A0 l0.length c0] rfl Fix.uA ?_; (with_reducible refine (laws_big.calls _ _ l0 false _ ?side1 ?side2 A2.out).mono ?_); (case side1 => exact Fix.uC HR0.out); (case side2 => exact HC0.out); rintro e w' ⟨rfl, ⟨nd, rfl⟩⟩; refine ⟨_, rfl, ?_⟩) | ((with_reducible refine gate_callee (f := 36) rfl ?_); refine goesL_ (some 13) rfl rfl Try.func36 (by kernel_rfl) rfl #[.slice A0 l0.length c0] rfl Fix.uA ?_; (with_reducible refine (spec_DrawPlaces.calls k _ _ l0 t153 _ ?side1 ?side2 A4.out).mono ?_); (case side1 => exact Fix.uC HR0.out); (case side2 => exact HC0.out); rintro e w8 ⟨v154, rfl, ho0, hb⟩; refine ⟨_, rfl, ?_⟩; have n0_ := Aside0.mk (Kd.R_lower ho0 (below_size Fix.uB)); have n1_ := Aside0.mk (below_step Fix.uB hb); clear HB; have HO155 := n0_; have HB := n1_; clear n0_ n1_; (try clear hb); (try clear hb2); (try clear hk); (try clear hi); (try clear ho0); obtain ⟨Ao9, co9, eo9⟩ := Kd.R_slice HO155.out; subst eo9; have p156 : 0 ≤ (0 : Int) := (by omega); have q156 : 0 < (t153.length : Int) := of_decide_eq_true (by first | (with_reducible assumption) | assumption); obtain ⟨ad156, e156, hx156_0⟩ := Kd.at_int (Kd.R_reads' HO155.out).2.2 0 p156 q156; cases e156; have qi156 : (0 < t153.length) = True := eq_true (by omega); (try rw [show ((0 : Int)).toNat = 0 from rfl] at hx156_0); (try rw [Addr.add_zero'] at hx156_0); replace p156 := eq_true p156; replace q156 := eq_true q156; have p157 : 0 ≤ (1 : Int) := (by omega); have q157 : 1 < (t153.length : Int) := of_decide_eq_true (by first | (with_reducible assumption) | assumption); obtain ⟨ad157, e157, hx157_0⟩ := Kd.at_int (Kd.R_reads' HO155.out).2.2 1 p157 q157; obtain rfl : ad156 = ad157 := (by injection e157); (try simp only [show (1 : Int).toNat = 1 from rfl, Nat.reduceMul, Nat.reduceEqDiff, Go.Addr.add, ↓reduceIte] at hx157_0); have qi157 : (1 < t153.length) = True := eq_true (by omega); (try rw [show ((1 : Int)).toNat = 1 from rfl] at hx157_0); replace p157 := eq_true p157; replace q157 := eq_true q157) | ((with_reducible refine gate_callee (f := 38) rfl ?_); refine goesL_ (some 26) rfl rfl Try.func38 (by kernel_rfl) rfl #[.int .i64 (wrap64 (1 + (Int.tmod (rd t153 0) 40))), .int .i64 (wrap64 (1 + (Int.tmod (rd t153 1) 6)))] rfl Fix.uA ?_; (with_reducible refine (impl_LoopOrder.calls k (wrap64 (1 + (Int.tmod (rd t153 0) 40))) (wrap64 (1 + (Int.tmod (rd t153 1) 6))) t158 _ A7.out).mono ?_); rintro e w10 ⟨v159, rfl, ho0, hb⟩; refine ⟨_, rfl, ?_⟩; have n0_ := Aside0.mk (Kd.R_below (Fix.uR HO155.out) hb); have n1_ := Aside0.mk (Kd.R_lower ho0 (below_size Fix.uB)); have n2_ := Aside0.mk (below_step Fix.uB hb); clear HO155; clear HB; have HO155 := n0_; have HO160 := n1_; have HB := n2_; clear n0_ n1_ n2_; (try clear hb); (try clear hb2); (try clear hk); (try clear hi); (try clear ho0)))
        go_loopg [7] k (fun kq v7 w' => ∃ (x7_1 : Int), v7 = .int .i64 x7_1 ∧ Aside0 (laws_FnLoops.l0 kq (wrap64 (1 + (Int.tmod (rd t153 0) 40))) (wrap64 (1 + (Int.tmod (rd t153 1) 6))) t158 x7_1 = some r) ∧ Aside0 (kq ≤ k) ∧ Aside0 (Kd.R k34 34 w' w.heap.size (fun _ => True) v159 t158) ∧ Aside0 (Below w.heap.size w w'))
        case atStart => exact ⟨(0), (by first | rfl | (simp; done) | (simp [*]; done)), H', ⟨Nat.le_refl _⟩, ⟨by (with_reducible repeat (first | apply Kd.R_alloc | apply Kd.R_drewN | apply Kd.R_drew)); exact HO160.out⟩, ⟨Fix.uB⟩⟩
        case round =>
          clear H'
          try clear c1
          try clear p1
          try clear q1
          try clear hx1
          try clear qi1
          try clear p2
          try clear c3
          try clear c5
          try clear c5b0
          try clear c5b1
          try clear c6
          try clear c6b0
          try clear c6b1
          try clear p6
          try clear hx156_0
          try clear hx157_0
          try clear p156
          try clear p157
          try clear q156
          try clear q157
          obtain ⟨x7_1, rfl, HA, HK1, HO_6, HB⟩ := hrel
          cases gk with
          | zero => exact absurd HA.out (by simp [laws_FnLoops.l0])
          | succ k1 =>
            have H := HA.out
            clear HA
            simp only [laws_FnLoops.l0] at H
            by_cases c11 : x7_1 < (wrap64 (1 + (Int.tmod (rd t153 0) 40)))
            · rw [if_pos c11] at H
              have c11b0 : decide (x7_1 < (wrap64 (1 + (Int.tmod (rd t153 0) 40)))) = true := decide_eq_true c11
              clear c11
              replace H := Option.bind_eq_some_iff.mp H
              obtain ⟨t164, A120, H⟩ := H
              replace H : ((impl_SidePlace.f k1 t158 x7_1 true).bind fun t165 => (if t164 < 0 then (some false) else (if t165 ≤ t164 then (some false) else (if (wrap64 (t165 - t164)) > (wrap64 (2 * (wrap64 (1 + (Int.tmod (rd t153 1) 6))))) then (some false) else (laws_FnLoops.l0 k1 (wrap64 (1 + (Int.tmod (rd t153 0) 40))) (wrap64 (1 + (Int.tmod (rd t153 1) 6))) t158 (wrap64 (x7_1 + 1))))))) = some r := H
              have A12 := Aside0.mk A120
              clear A120
              replace H := Option.bind_eq_some_iff.mp H
              obtain ⟨t165, A130, H⟩ := H
              replace H : (if t164 < 0 then (some false) else (if t165 ≤ t164 then (some false) else (if (wrap64 (t165 - t164)) > (wrap64 (2 * (wrap64 (1 + (Int.tmod (rd t153 1) 6))))) then (some false) else (laws_FnLoops.l0 k1 (wrap64 (1 + (Int.tmod (rd t153 0) 40))) (wrap64 (1 + (Int.tmod (rd t153 1) 6))) t158 (wrap64 (x7_1 + 1)))))) = some r := H
              have A13 := Aside0.mk A130
              clear A130
              by_cases c14 : t164 < 0
              · rw [if_pos c14] at H
                have c14b0 : decide (t164 < 0) = true := decide_eq_true c14
                clear c14
                exact absurd (hT.out ▸ H) (by simp)
              · rw [if_neg c14] at H
                have c14b0 : decide (t164 < 0) = false := decide_eq_false c14
                clear c14
                by_cases c15 : t165 ≤ t164
                · rw [if_pos c15] at H
                  have c15b0 : decide (t165 ≤ t164) = true := decide_eq_true c15
                  clear c15
                  exact absurd (hT.out ▸ H) (by simp)
                · rw [if_neg c15] at H
                  have c15b0 : decide (t165 ≤ t164) = false := decide_eq_false c15
                  clear c15
                  by_cases c16 : (wrap64 (t165 - t164)) > (wrap64 (2 * (wrap64 (1 + (Int.tmod (rd t153 1) 6)))))
                  · rw [if_pos c16] at H
                    have c16b0 : decide ((wrap64 (2 * (wrap64 (1 + (Int.tmod (rd t153 1) 6))))) < (wrap64 (t165 - t164))) = true := decide_eq_true c16
                    clear c16
                    exact absurd (hT.out ▸ H) (by simp)
                  · rw [if_neg c16] at H
                    have c16b0 : decide ((wrap64 (2 * (wrap64 (1 + (Int.tmod (rd t153 1) 6))))) < (wrap64 (t165 - t164))) = false := decide_eq_false c16
                    clear c16
                    have H' := Aside0.mk H
                    clear H
                    obtain ⟨Ao17, co17, eo17⟩ := Kd.R_slice HO_6.out
                    subst eo17
                    go_wp2_with (first | ((with_reducible refine gate_callee (f := 25) rfl ?_); refine goesL_ (some 35) rfl rfl Try.func25 (by kernel_rfl) rfl #[.slice Ao17 t158.length co17, .agg #[.int .i64 x7_1, .bool false]] rfl Fix.uA ?_; (with_reducible refine (impl_SidePlace.calls k1 _ _ t158 x7_1 false t164 _ ?side1 ?side2 A12.out).mono ?_); (case side1 => exact Fix.uC (Kd.R_reads' HO_6.out).2.2); (case side2 => exact (Kd.R_reads' HO_6.out).2.1); rintro e w18 ⟨rfl, hb⟩; refine ⟨_, rfl, ?_⟩; have n0_ := Aside0.mk (Kd.R_below (Fix.uR HO_6.out) hb); have n1_ := Aside0.mk (below_step Fix.uB hb); clear HO_6; clear HB; have HO_6 := n0_; have HB := n1_; clear n0_ n1_; (try clear hb); (try clear hb2); (try clear hk); (try clear hi)) | ((with_reducible refine gate_callee (f := 25) rfl ?_); refine goesL_ (some 39) rfl rfl Try.func25 (by kernel_rfl) rfl #[.slice Ao17 t158.length co17, .agg #[.int .i64 x7_1, .bool true]] rfl Fix.uA ?_; (with_reducible refine (impl_SidePlace.calls k1 _ _ t158 x7_1 true t165 _ ?side1 ?side2 A13.out).mono ?_); (case side1 => exact Fix.uC (Kd.R_reads' HO_6.out).2.2); (case side2 => exact (Kd.R_reads' HO_6.out).2.1); rintro e w19 ⟨rfl, hb⟩; refine ⟨_, rfl, ?_⟩; have n0_ := Aside0.mk (Kd.R_below (Fix.uR HO_6.out) hb); have n1_ := Aside0.mk (below_step Fix.uB hb); clear HO_6; clear HB; have HO_6 := n0_; have HB := n1_; clear n0_ n1_; (try clear hb); (try clear hb2); (try clear hk); (try clear hi)))
                    go_roundg k1
                    case measure => have := HK1.out; omega
                    case rel => exact ⟨(wrap64 (x7_1 + 1)), (by first | rfl | (simp; done) | (simp [*]; done)), H', ⟨by have := HK1.out; omega⟩, ⟨by (with_reducible repeat (first | apply Kd.R_alloc | apply Kd.R_drewN | apply Kd.R_drew)); exact HO_6.out⟩, ⟨Fix.uB⟩⟩
            · rw [if_neg c11] at H
              have c11b0 : decide (x7_1 < (wrap64 (1 + (Int.tmod (rd t153 0) 40)))) = false := decide_eq_false c11
              clear c11
              by_cases c20 : (t158.length : Int) = (wrap64 (2 * (wrap64 (1 + (Int.tmod (rd t153 0) 40)))))
              · rw [if_pos c20] at H
                have c20b0 : ((t158.length : Int) == (wrap64 (2 * (wrap64 (1 + (Int.tmod (rd t153 0) 40)))))) = true := beq_iff_eq.mpr c20
                have c20b1 : ((t158.length : Int) != (wrap64 (2 * (wrap64 (1 + (Int.tmod (rd t153 0) 40)))))) = false := bne_eq_false_iff_eq.mpr c20
                clear c20
                replace H := Option.bind_eq_some_iff.mp H
                obtain ⟨t161, A210, H⟩ := H
                replace H : (if t161 = true then ((impl_LongestLoop.f k1 t158).bind fun t162 => (if t162 = (mn (wrap64 (1 + (Int.tmod (rd t153 0) 40))) (wrap64 (1 + (Int.tmod (rd t153 1) 6)))) then ((impl_IsLoopOrder.f k1 t158 (wrap64 ((mn (wrap64 (1 + (Int.tmod (rd t153 0) 40))) (wrap64 (1 + (Int.tmod (rd t153 1) 6)))) - 1))).bind fun t163 => (some (!t163))) else (some false))) else (some false)) = some r := H
                have A21 := Aside0.mk A210
                clear A210
                by_cases c22 : t161 = true
                · subst c22
                  have H1 : ((impl_LongestLoop.f k1 t158).bind fun t162 => (if t162 = (mn (wrap64 (1 + (Int.tmod (rd t153 0) 40))) (wrap64 (1 + (Int.tmod (rd t153 1) 6)))) then ((impl_IsLoopOrder.f k1 t158 (wrap64 ((mn (wrap64 (1 + (Int.tmod (rd t153 0) 40))) (wrap64 (1 + (Int.tmod (rd t153 1) 6)))) - 1))).bind fun t163 => (some (!t163))) else (some false))) = some r := by rw [if_pos rfl] at H; exact H
                  clear H
                  have H := H1
                  clear H1
                  replace H := Option.bind_eq_some_iff.mp H
                  obtain ⟨t162, A230, H⟩ := H
                  replace H : (if t162 = (mn (wrap64 (1 + (Int.tmod (rd t153 0) 40))) (wrap64 (1 + (Int.tmod (rd t153 1) 6)))) then ((impl_IsLoopOrder.f k1 t158 (wrap64 ((mn (wrap64 (1 + (Int.tmod (rd t153 0) 40))) (wrap64 (1 + (Int.tmod (rd t153 1) 6)))) - 1))).bind fun t163 => (some (!t163))) else (some false)) = some r := H
                  have A23 := Aside0.mk A230
                  clear A230
                  obtain ⟨ji24, hji24⟩ : ∃ j_ : Int, (mn (wrap64 (1 + (Int.tmod (rd t153 0) 40))) (wrap64 (1 + (Int.tmod (rd t153 1) 6)))) = j_ := ⟨_, rfl⟩
                  replace H : (if t162 = (ji24) then ((impl_IsLoopOrder.f k1 t158 (wrap64 ((ji24) - 1))).bind fun t163 => (some (!t163))) else (some false)) = some r := by first | (rw [hji24] at H; exact H) | (simp only [hji24] at H ⊢; exact H)
                  (try rw [hji24] at A21)
                  (try rw [hji24] at A23)
                  have hji24_ : (if (wrap64 (1 + (Int.tmod (rd t153 1) 6))) < (wrap64 (1 + (Int.tmod (rd t153 0) 40))) then (wrap64 (1 + (Int.tmod (rd t153 1) 6))) else (wrap64 (1 + (Int.tmod (rd t153 0) 40)))) = ji24 := hji24
                  by_cases c25 : t162 = (ji24)
                  · rw [if_pos c25] at H
                    have c25b0 : (t162 == (ji24)) = true := beq_iff_eq.mpr c25
                    have c25b1 : (t162 != (ji24)) = false := bne_eq_false_iff_eq.mpr c25
                    clear c25
                    replace H := Option.bind_eq_some_iff.mp H
                    obtain ⟨t163, A270, H⟩ := H
                    replace H : (some (!t163)) = some r := H
                    have A27 := Aside0.mk A270
                    clear A270
                    obtain rfl := Option.some.inj H
                    obtain ⟨Ao28, co28, eo28⟩ := Kd.R_slice HO_6.out
                    subst eo28
                    go_wp2_with (first | (go_at_call 41; (with_reducible refine (impl_IsLoopOrder.calls k1 _ _ t158 (wrap64 (1 + (Int.tmod (rd t153 1) 6))) true _ ?side1 ?side2 A21.out).mono ?_); (case side1 => exact Fix.uC (Kd.R_reads' HO_6.out).2.2); (case side2 => exact (Kd.R_reads' HO_6.out).2.1); rintro e w29 ⟨rfl, hb⟩; have n0_ := Aside0.mk (Kd.R_below (Fix.uR HO_6.out) hb); have n1_ := Aside0.mk (below_step Fix.uB hb); clear HO_6; clear HB; have HO_6 := n0_; have HB := n1_; clear n0_ n1_; (try clear hb); (try clear hb2); (try clear hk); (try clear hi)) | (go_at_call 34; (with_reducible refine (impl_LongestLoop.calls k1 _ _ t158 t162 _ ?side1 ?side2 A23.out).mono ?_); (case side1 => exact Fix.uC (Kd.R_reads' HO_6.out).2.2); (case side2 => exact (Kd.R_reads' HO_6.out).2.1); rintro e w30 ⟨rfl, hb⟩; have n0_ := Aside0.mk (Kd.R_below (Fix.uR HO_6.out) hb); have n1_ := Aside0.mk (below_step Fix.uB hb); clear HO_6; clear HB; have HO_6 := n0_; have HB := n1_; clear n0_ n1_; (try clear hb); (try clear hb2); (try clear hk); (try clear hi)) | (go_at_call 41; (with_reducible refine (impl_IsLoopOrder.calls k1 _ _ t158 (wrap64 ((ji24) - 1)) t163 _ ?side1 ?side2 A27.out).mono ?_); (case side1 => exact Fix.uC (Kd.R_reads' HO_6.out).2.2); (case side2 => exact (Kd.R_reads' HO_6.out).2.1); rintro e w31 ⟨rfl, hb⟩; have n0_ := Aside0.mk (Kd.R_below (Fix.uR HO_6.out) hb); have n1_ := Aside0.mk (below_step Fix.uB hb); clear HO_6; clear HB; have HO_6 := n0_; have HB := n1_; clear n0_ n1_; (try clear hb); (try clear hb2); (try clear hk); (try clear hi)))
                    go_ret
                    exact ⟨by first | rfl | (simp [errW_none, errW_some] <;> rfl) | (simp only [← hji24]; first | rfl | (simp [errW_none, errW_some] <;> rfl)) | (simp [*, errW_none, errW_some] <;> rfl), Fix.uB⟩
                  · rw [if_neg c25] at H
                    have c25b0 : (t162 == (ji24)) = false := beq_eq_false_iff_ne.mpr c25
                    have c25b1 : (t162 != (ji24)) = true := bne_iff_ne.mpr c25
                    exact absurd (hT.out ▸ H) (by simp)
                · replace c22 := Bool.eq_false_iff.mpr c22
                  subst c22
                  have H1 : (some false) = some r := by rw [if_neg (show ¬ (false = true) by decide)] at H; exact H
                  clear H
                  have H := H1
                  clear H1
                  exact absurd (hT.out ▸ H) (by simp)
              · rw [if_neg c20] at H
                have c20b0 : ((t158.length : Int) == (wrap64 (2 * (wrap64 (1 + (Int.tmod (rd t153 0) 40)))))) = false := beq_eq_false_iff_ne.mpr c20
                have c20b1 : ((t158.length : Int) != (wrap64 (2 * (wrap64 (1 + (Int.tmod (rd t153 0) 40)))))) = true := bne_iff_ne.mpr c20
                exact absurd (hT.out ▸ H) (by simp)
      · rw [if_neg c6] at H
        exact absurd H (by simp)
    · rw [if_neg c5] at H
      exact absurd H (by simp)

end Go.Proofs.Ytjkhjfladhppkaa.PFnLoops
